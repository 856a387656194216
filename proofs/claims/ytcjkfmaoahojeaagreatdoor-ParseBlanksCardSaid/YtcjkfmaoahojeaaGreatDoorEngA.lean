/- Part of a proof; nothing is assumed. -/
import Derived.Calls
import Derived.Defers
import Derived.Orders
import Derived.KernelRfl
import Derived.Laws.Entries
set_option linter.unusedVariables false
set_option linter.unusedSimpArgs false
noncomputable section
namespace Go.Eng
inductive P2 where
 |h|z (p:P2)|o (p:P2)
deriving DecidableEq
inductive T(α:Type)where
 |e|n (v:Option α) (l r:T α)
def T.val{α:Type}(t:T α):Option α:=T.rec none (λv _ _ _ _=>v) t
def T.left{α:Type}(t:T α):T α:=T.rec .e (λ_ l _ _ _=>l) t
def T.right{α:Type}(t:T α):T α:=T.rec .e (λ_ _ r _ _=>r) t
def T.Ed{α:Type}(p:P2):T α->Option α:=
 P2.rec (motive:=λ_=>T α->Option α) T.val (λ_ g t=>g t.left) (λ_ g t=>g t.right) p
def T.aW{α:Type}(x:α)(p:P2):T α->T α:=
 P2.rec (motive:=λ_=>T α->T α) (λt=>.n (some x) t.left t.right)
  (λ_ g t=>.n t.val (g t.left) t.right) (λ_ g t=>.n t.val t.left (g t.right)) p
def ANx(f:Nat):Nat->P2:=
 Nat.rec (motive:=λ_=>Nat->P2) (λ_=>.h)
  (λ_ g k=>Nat.rec (motive:=λ_=>P2) .h
   (λm _=>Bool.rec (P2.o (g (Nat.div m 2))) (P2.z (g (Nat.div m 2))) (Nat.beq (Nat.mod m 2) 0)) k) f
def P9(k:Nat):P2:=ANx (Nat.succ k) k
def T.get{α:Type}(t:T α)(k:Nat):Option α:=T.Ed (P9 k) t
def T.set{α:Type}(t:T α)(k:Nat)(x:α):T α:=T.aW x (P9 k) t
inductive V where
 |undef
 |int (k:IntKind) (n:Int) (s:Nat)
 |bool (b:Bool)
 |str (len code:Nat)
 |AH1|ptr (id off:Nat)|Xa (b off:Nat)
 |Ae|sl (id off len cap esz:Nat)|O5 (id off len esz:Nat)|rsl (b off len cap esz:Nat)
 |ANE|map (id:Nat)
 |ANo|fn (f:Nat) (first caps:List V)
 |agg (cs:List V)
 |J4 (vs:List V)
 |AHW|iface (t:Nat) (v:V)
inductive Rl where
 |arr (esz cnt:Nat) (c:T (List V))
 |map (es:List (V×V×Nat)) (clock:Nat)
 |dead
 |VT (t e l c j:Nat)
 |own (b:Nat)
abbrev Heap:=T Rl
abbrev KG:=T V
abbrev AV:=Nat->Nat->Nat->Option (List V)
inductive X where
 |r (p:P2)|c (v:V)|s (i:Nat)
def OD(o:Option V):V:=Option.rec V.undef (λv=>v) o
def AOo(l:List V):Nat->V:=
 List.rec (motive:=λ_=>Nat->V) (λ_=>.undef) (λx _ g i=>Nat.rec (motive:=λ_=>V) x (λi _=>g i) i) l
inductive RS where
 |mk (L:List V) (R:KG)
def RS.st(E:RS):List V:=RS.rec (λL _=>L) E
def RS.rg(E:RS):KG:=RS.rec (λ_ R=>R) E
def X.ev(x:X):RS->V:=X.rec (motive:=λ_=>RS->V) (λp E=>OD (T.Ed p E.rg)) (λv _=>v) (λi E=>AOo E.st i) x
def V.IL(v:V):(IntKind->Int->Nat->Option V)->Option V:=
 V.rec (motive_1:=λ_=>(IntKind->Int->Nat->Option V)->Option V) (motive_2:=λ_=>PUnit)
  (λ_=>none)
  (λa b c f=>f a b c)
  (λ_ _=>none)
  (λ_ _ _=>none)
  (λ_=>none)
  (λ_ _ _=>none)
  (λ_ _ _=>none)
  (λ_=>none)
  (λ_ _ _ _ _ _=>none)
  (λ_ _ _ _ _=>none)
  (λ_ _ _ _ _ _=>none)
  (λ_=>none)
  (λ_ _=>none)
  (λ_=>none)
  (λ_ _ _ _ _ _=>none)
  (λ_ _ _=>none)
  (λ_ _ _=>none)
  (λ_=>none)
  (λ_ _ _ _=>none)
  ⟨⟩ (λ_ _ _ _=>⟨⟩) v
def V.pY(v:V):(Bool->Option V)->Option V:=
 V.rec (motive_1:=λ_=>(Bool->Option V)->Option V) (motive_2:=λ_=>PUnit)
  (λ_=>none)
  (λ_ _ _ _=>none)
  (λa f=>f a)
  (λ_ _ _=>none)
  (λ_=>none)
  (λ_ _ _=>none)
  (λ_ _ _=>none)
  (λ_=>none)
  (λ_ _ _ _ _ _=>none)
  (λ_ _ _ _ _=>none)
  (λ_ _ _ _ _ _=>none)
  (λ_=>none)
  (λ_ _=>none)
  (λ_=>none)
  (λ_ _ _ _ _ _=>none)
  (λ_ _ _=>none)
  (λ_ _ _=>none)
  (λ_=>none)
  (λ_ _ _ _=>none)
  ⟨⟩ (λ_ _ _ _=>⟨⟩) v
def V.AGH(v:V):(Bool->Prop)->Prop:=
 V.rec (motive_1:=λ_=>(Bool->Prop)->Prop) (motive_2:=λ_=>PUnit)
  (λ_=>False)
  (λ_ _ _ _=>False)
  (λa f=>f a)
  (λ_ _ _=>False)
  (λ_=>False)
  (λ_ _ _=>False)
  (λ_ _ _=>False)
  (λ_=>False)
  (λ_ _ _ _ _ _=>False)
  (λ_ _ _ _ _=>False)
  (λ_ _ _ _ _ _=>False)
  (λ_=>False)
  (λ_ _=>False)
  (λ_=>False)
  (λ_ _ _ _ _ _=>False)
  (λ_ _ _=>False)
  (λ_ _ _=>False)
  (λ_=>False)
  (λ_ _ _ _=>False)
  ⟨⟩ (λ_ _ _ _=>⟨⟩) v
def V.Tc(v:V):(Nat->Nat->Option V)->Option V:=
 V.rec (motive_1:=λ_=>(Nat->Nat->Option V)->Option V) (motive_2:=λ_=>PUnit)
  (λ_=>none)
  (λ_ _ _ _=>none)
  (λ_ _=>none)
  (λa b f=>f a b)
  (λ_=>none)
  (λ_ _ _=>none)
  (λ_ _ _=>none)
  (λ_=>none)
  (λ_ _ _ _ _ _=>none)
  (λ_ _ _ _ _=>none)
  (λ_ _ _ _ _ _=>none)
  (λ_=>none)
  (λ_ _=>none)
  (λ_=>none)
  (λ_ _ _ _ _ _=>none)
  (λ_ _ _=>none)
  (λ_ _ _=>none)
  (λ_=>none)
  (λ_ _ _ _=>none)
  ⟨⟩ (λ_ _ _ _=>⟨⟩) v
def V.tC(v:V):(List V->Option V)->Option V:=
 V.rec (motive_1:=λ_=>(List V->Option V)->Option V) (motive_2:=λ_=>PUnit)
  (λ_=>none)
  (λ_ _ _ _=>none)
  (λ_ _=>none)
  (λ_ _ _=>none)
  (λ_=>none)
  (λ_ _ _=>none)
  (λ_ _ _=>none)
  (λ_=>none)
  (λ_ _ _ _ _ _=>none)
  (λ_ _ _ _ _=>none)
  (λ_ _ _ _ _ _=>none)
  (λ_=>none)
  (λ_ _=>none)
  (λ_=>none)
  (λ_ _ _ _ _ _=>none)
  (λa _ f=>f a)
  (λ_ _ _=>none)
  (λ_=>none)
  (λ_ _ _ _=>none)
  ⟨⟩ (λ_ _ _ _=>⟨⟩) v
def V.AIY(v:V):(List V->Option V)->Option V:=
 V.rec (motive_1:=λ_=>(List V->Option V)->Option V) (motive_2:=λ_=>PUnit)
  (λ_=>none)
  (λ_ _ _ _=>none)
  (λ_ _=>none)
  (λ_ _ _=>none)
  (λ_=>none)
  (λ_ _ _=>none)
  (λ_ _ _=>none)
  (λ_=>none)
  (λ_ _ _ _ _ _=>none)
  (λ_ _ _ _ _=>none)
  (λ_ _ _ _ _ _=>none)
  (λ_=>none)
  (λ_ _=>none)
  (λ_=>none)
  (λ_ _ _ _ _ _=>none)
  (λ_ _ _=>none)
  (λa _ f=>f a)
  (λ_=>none)
  (λ_ _ _ _=>none)
  ⟨⟩ (λ_ _ _ _=>⟨⟩) v
def V.AFx(v:V):(Nat->Nat->Option V)->(Nat->Nat->Option V)->Option V:=
 V.rec (motive_1:=λ_=>(Nat->Nat->Option V)->(Nat->Nat->Option V)->Option V) (motive_2:=λ_=>PUnit)
  (λ_ _=>none)
  (λ_ _ _ _ _=>none)
  (λ_ _ _=>none)
  (λ_ _ _ _=>none)
  (λ_ _=>none)
  (λa b f _=>f a b)
  (λa b _ g=>g a b)
  (λ_ _=>none)
  (λ_ _ _ _ _ _ _=>none)
  (λ_ _ _ _ _ _=>none)
  (λ_ _ _ _ _ _ _=>none)
  (λ_ _=>none)
  (λ_ _ _=>none)
  (λ_ _=>none)
  (λ_ _ _ _ _ _ _=>none)
  (λ_ _ _ _=>none)
  (λ_ _ _ _=>none)
  (λ_ _=>none)
  (λ_ _ _ _ _=>none)
  ⟨⟩ (λ_ _ _ _=>⟨⟩) v
def V.AK6(v:V):(Option V)->(Nat->Option V)->Option V:=
 V.rec (motive_1:=λ_=>(Option V)->(Nat->Option V)->Option V) (motive_2:=λ_=>PUnit)
  (λ_ _=>none)
  (λ_ _ _ _ _=>none)
  (λ_ _ _=>none)
  (λ_ _ _ _=>none)
  (λ_ _=>none)
  (λ_ _ _ _=>none)
  (λ_ _ _ _=>none)
  (λ_ _=>none)
  (λ_ _ _ _ _ _ _=>none)
  (λ_ _ _ _ _ _=>none)
  (λ_ _ _ _ _ _ _=>none)
  (λz _=>z)
  (λa _ f=>f a)
  (λ_ _=>none)
  (λ_ _ _ _ _ _ _=>none)
  (λ_ _ _ _=>none)
  (λ_ _ _ _=>none)
  (λ_ _=>none)
  (λ_ _ _ _ _=>none)
  ⟨⟩ (λ_ _ _ _=>⟨⟩) v
def V.ATC(v:V):(Option V)->(Nat->Nat->Nat->Nat->Nat->Option V)->(Nat->Nat->Nat->Nat->Option V)->(Nat->Nat->Nat->Nat->Nat->Option V)->Option V:=
 V.rec (motive_1:=λ_=>(Option V)->(Nat->Nat->Nat->Nat->Nat->Option V)->(Nat->Nat->Nat->Nat->Option V)->(Nat->Nat->Nat->Nat->Nat->Option V)->Option V) (motive_2:=λ_=>PUnit)
  (λ_ _ _ _=>none)
  (λ_ _ _ _ _ _ _=>none)
  (λ_ _ _ _ _=>none)
  (λ_ _ _ _ _ _=>none)
  (λ_ _ _ _=>none)
  (λ_ _ _ _ _ _=>none)
  (λ_ _ _ _ _ _=>none)
  (λz _ _ _=>z)
  (λa b c d e _ f _ _=>f a b c d e)
  (λa b c d _ _ g _=>g a b c d)
  (λa b c d e _ _ _ h=>h a b c d e)
  (λ_ _ _ _=>none)
  (λ_ _ _ _ _=>none)
  (λ_ _ _ _=>none)
  (λ_ _ _ _ _ _ _ _ _=>none)
  (λ_ _ _ _ _ _=>none)
  (λ_ _ _ _ _ _=>none)
  (λ_ _ _ _=>none)
  (λ_ _ _ _ _ _ _=>none)
  ⟨⟩ (λ_ _ _ _=>⟨⟩) v
def CZ(v:V):List V:=
 V.rec (motive_1:=λ_=>List V) (motive_2:=λ_=>PUnit)
  ([v])
  (λ_ _ _=>[v])
  (λ_=>[v])
  (λ_ _=>[v])
  ([v])
  (λ_ _=>[v])
  (λ_ _=>[v])
  ([v])
  (λ_ _ _ _ _=>[v])
  (λ_ _ _ _=>[v])
  (λ_ _ _ _ _=>[v])
  ([v])
  (λ_=>[v])
  ([v])
  (λ_ _ _ _ _=>[v])
  (λa _=>a)
  (λ_ _=>[v])
  ([v])
  (λ_ _ _=>[v])
  ⟨⟩ (λ_ _ _ _=>⟨⟩) v
def isStr(v:V):Bool:=
 V.rec (motive_1:=λ_=>Bool) (motive_2:=λ_=>PUnit)
  (false)
  (λ_ _ _=>false)
  (λ_=>false)
  (λ_ _=>true)
  (false)
  (λ_ _=>false)
  (λ_ _=>false)
  (false)
  (λ_ _ _ _ _=>false)
  (λ_ _ _ _=>false)
  (λ_ _ _ _ _=>false)
  (false)
  (λ_=>false)
  (false)
  (λ_ _ _ _ _=>false)
  (λ_ _=>false)
  (λ_ _=>false)
  (false)
  (λ_ _ _=>false)
  ⟨⟩ (λ_ _ _ _=>⟨⟩) v
def lenV(v:V):Option V:=
 V.rec (motive_1:=λ_=>Option V) (motive_2:=λ_=>PUnit)
  (none)
  (λ_ _ _=>none)
  (λ_=>none)
  (λ_ _=>none)
  (none)
  (λ_ _=>none)
  (λ_ _=>none)
  (some (.int .i64 (.ofNat 0) 0))
  (λ_ _ c _ _=>some (.int .i64 (.ofNat c) 0))
  (λ_ _ c _=>some (.int .i64 (.ofNat c) 0))
  (λ_ _ c _ _=>some (.int .i64 (.ofNat c) 0))
  (none)
  (λ_=>none)
  (none)
  (λ_ _ _ _ _=>none)
  (λ_ _=>none)
  (λ_ _=>none)
  (none)
  (λ_ _ _=>none)
  ⟨⟩ (λ_ _ _ _=>⟨⟩) v
def Bj(v:V):Option V:=
 V.rec (motive_1:=λ_=>Option V) (motive_2:=λ_=>PUnit)
  (none)
  (λ_ _ _=>none)
  (λ_=>none)
  (λ_ _=>none)
  (none)
  (λa b=>some (.ptr a b))
  (λa b=>some (.Xa a b))
  (none)
  (λ_ _ _ _ _=>none)
  (λ_ _ _ _=>none)
  (λ_ _ _ _ _=>none)
  (none)
  (λ_=>none)
  (none)
  (λa b c _ _=>some (.fn a b c))
  (λ_ _=>none)
  (λ_ _=>none)
  (none)
  (λ_ _ _=>none)
  ⟨⟩ (λ_ _ _ _=>⟨⟩) v
def P5(n:Int):(Int->Option V)->Option V:=λf=>f n
def Dz(n:Nat):(Nat->Option V)->Option V:=
 Nat.rec (motive:=λ_=>(Nat->Option V)->Option V) (λf=>f 0) (λk _ f=>f (Nat.succ k)) n
def Ea(n:Nat):(Nat->Prop)->Prop:=
 Nat.rec (motive:=λ_=>(Nat->Prop)->Prop) (λf=>f 0) (λk _ f=>f (Nat.succ k)) n
def AZd(k:IntKind):Nat->Bool:=
 IntKind.rec (motive:=λ_=>Nat->Bool) (λm=>Nat.blt m 128) (λm=>Nat.blt m 32768) (λm=>Nat.blt m 2147483648) (λm=>Nat.blt m 9223372036854775808)
  (λm=>Nat.blt m 256) (λm=>Nat.blt m 65536) (λm=>Nat.blt m 4294967296) (λm=>Nat.blt m 18446744073709551616) k
def AZR(k:IntKind):Nat->Bool:=
 IntKind.rec (motive:=λ_=>Nat->Bool) (λm=>Nat.blt m 128) (λm=>Nat.blt m 32768) (λm=>Nat.blt m 2147483648) (λm=>Nat.blt m 9223372036854775808)
  (λ_=>false) (λ_=>false) (λ_=>false) (λ_=>false) k
def inr(k:IntKind)(n:Int):Bool:=Int.rec (motive:=λ_=>IntKind->Bool) (λm k=>AZd k m) (λm k=>AZR k m) n k
def Vz(k:IntKind)(n:Int):Int:=Bool.rec (k.wrap n) n (inr k n)
def AWb(k:IntKind)(n:Int):Option V:=P5 (Vz k n) λm=>some (.int k m 0)
def mkI(k:IntKind)(n:Int)(s:Nat):Option V:=
 Nat.rec (motive:=λ_=>IntKind->Int->Option V) AWb (λ_ _ k n=>some (.int k (k.wrap n) 1)) s k n
def mkN(k:IntKind)(n:Int)(s:Nat):Option V:=
 Nat.rec (motive:=λ_=>IntKind->Int->Option V) (λk n=>P5 n λm=>some (.int k m 0)) (λ_ _ k n=>some (.int k n 1)) s k n
def AVA(a:Nat)(b:Int):Int:=Int.rec (motive:=λ_=>Nat->Int) (λn m=>.ofNat (Nat.add m n)) (λn m=>Int.subNatNat m (Nat.succ n)) b a
def AUi(a:Nat)(b:Int):Int:=Int.rec (motive:=λ_=>Nat->Int) (λn m=>Int.subNatNat n (Nat.succ m)) (λn m=>.negSucc (Nat.succ (Nat.add m n))) b a
def AGo(a b:Int):Int:=Int.rec (motive:=λ_=>Int->Int) AVA AUi a b
def ile(a b:Int):Bool:=Int.rec (motive:=λ_=>Int->Bool) (λm b=>Int.rec (motive:=λ_=>Nat->Bool) (λn m=>Nat.ble m n) (λ_ _=>false) b m)
 (λm b=>Int.rec (motive:=λ_=>Nat->Bool) (λ_ _=>true) (λn m=>Nat.ble n m) b m) a b
def ilt(a b:Int):Bool:=Int.rec (motive:=λ_=>Int->Bool) (λm b=>Int.rec (motive:=λ_=>Nat->Bool) (λn m=>Nat.blt m n) (λ_ _=>false) b m)
 (λm b=>Int.rec (motive:=λ_=>Nat->Bool) (λ_ _=>true) (λn m=>Nat.blt n m) b m) a b
def ieq(a b:Int):Bool:=Int.rec (motive:=λ_=>Int->Bool) (λm b=>Int.rec (motive:=λ_=>Nat->Bool) (λn m=>Nat.beq m n) (λ_ _=>false) b m)
 (λm b=>Int.rec (motive:=λ_=>Nat->Bool) (λ_ _=>false) (λn m=>Nat.beq n m) b m) a b
def kno(a:IntKind):Nat:=IntKind.rec 0 1 2 3 4 5 6 7 a
def keq(a b:IntKind):Bool:=Nat.beq (kno a) (kno b)
def Yi(b:Bool):Bool:=Bool.rec true false b
def band(a b:Bool):Bool:=Bool.rec (motive:=λ_=>Bool->Bool) (λ_=>false) (λb=>b) a b
def APb(a b:Bool):Bool:=Bool.rec (motive:=λ_=>Bool->Bool) Yi (λb=>b) a b
def mkB(b:Bool):Option V:=Bool.rec (some (.bool false)) (some (.bool true)) b
def BP(b:Bool):Option V->Option V:=Bool.rec (motive:=λ_=>Option V->Option V) (λ_=>none) (λo=>o) b
def ABS(b:Bool)(x y:Option V):Option V:=Bool.rec (motive:=λ_=>Option V->Option V->Option V) (λ_ y=>y) (λx _=>x) b x y
def AN3(code i:Nat):Nat:=Nat.mod (Nat.div code (Nat.pow 256 i)) 256
def AQ3(code l h:Nat):Nat:=Nat.mod (Nat.div code (Nat.pow 256 l)) (Nat.pow 256 (Nat.sub h l))
def AXE(l1 c1 c2:Nat):Nat:=Nat.add c1 (Nat.mul (Nat.pow 256 l1) c2)
def AXM(f:Nat):Nat->Nat->Nat->Nat->Bool:=
 Nat.rec (motive:=λ_=>Nat->Nat->Nat->Nat->Bool) (λ_ _ _ _=>false)
  (λ_ g l1 c1 l2 c2=>Nat.rec (motive:=λ_=>Bool) false (λl2' _=>Nat.rec (motive:=λ_=>Bool) true (λl1' _=>
   Bool.rec (Nat.blt (Nat.mod c1 256) (Nat.mod c2 256)) (g l1' (Nat.div c1 256) l2' (Nat.div c2 256)) (Nat.beq (Nat.mod c1 256) (Nat.mod c2 256))) l1) l2) f
def slt(l1 c1 l2 c2:Nat):Bool:=AXM (Nat.succ l2) l1 c1 l2 c2
def nth{α:Type}(l:List α):Nat->Option α:=
 List.rec (motive:=λ_=>Nat->Option α) (λ_=>none) (λx _ g i=>Nat.rec (motive:=λ_=>Option α) (some x) (λi _=>g i) i) l
def AD5{α:Type}(x:α)(l:List α):Nat->List α:=
 List.rec (motive:=λ_=>Nat->List α) (λ_=>[]) (λy ys g i=>Nat.rec (motive:=λ_=>List α) (x::ys) (λi _=>y::g i) i) l
def len{α:Type}(l:List α):Nat:=List.rec (motive:=λ_=>Nat) 0 (λ_ _ n=>Nat.succ n) l
def cat{α:Type}(a b:List α):List α:=List.rec (motive:=λ_=>List α->List α) (λb=>b) (λx _ g b=>x::g b) a b
def ZK{α:Type}(n:Nat):List α->List α:=
 Nat.rec (motive:=λ_=>List α->List α) (λ_=>[]) (λ_ g l=>List.rec (motive:=λ_=>List α) [] (λx xs _=>x::g xs) l) n
def mg{α:Type}(n:Nat):List α->List α:=
 Nat.rec (motive:=λ_=>List α->List α) (λl=>l) (λ_ g l=>List.rec (motive:=λ_=>List α) [] (λ_ xs _=>g xs) l) n
def iW(l:List X):RS->List V:=List.rec (motive:=λ_=>RS->List V) (λ_=>[]) (λx _ g R=>x.ev R::g R) l
def AJ6(new:List V)(i:Nat)(l:List V):List V:=cat (ZK i l) (cat new (mg (Nat.add i (len new)) l))
abbrev LV:=List V
def QT(o:Option LV)(f:LV->Option V):Option V:=Option.rec (motive:=λ_=>(LV->Option V)->Option V) (λ_=>none) (λv f=>f v) o f
def IV{α:Type}(o:Option α)(f:α->Prop):Prop:=Option.rec (motive:=λ_=>(α->Prop)->Prop) (λ_=>False) (λv f=>f v) o f
def AP(o:Option V)(f:V->Prop):Prop:=Option.rec (motive:=λ_=>(V->Prop)->Prop) (λ_=>False) (λv f=>f v) o f
def DR{α β:Type}(o:Option α)(f:α->Option β):Option β:=Option.rec (motive:=λ_=>(α->Option β)->Option β) (λ_=>none) (λv f=>f v) o f
def ldC(esz off n:Nat)(L:LV):Option LV:=
 Bool.rec (motive:=λ_=>Option LV)
  (Bool.rec none (some (ZK n (mg (Nat.mod off esz) L))) (Nat.ble (Nat.add (Nat.mod off esz) n) esz))
  (some L) (band (Nat.beq n esz) (Nat.beq (Nat.mod off esz) 0))
def ldB(esz cnt:Nat)(c:T LV)(off n:Nat):Option LV:=
 DR (Bool.rec none (T.get c (Nat.div off esz)) (Nat.blt (Nat.div off esz) cnt)) (ldC esz off n)
def Rl.ld(b:Rl):Nat->Nat->Option LV:=
 Rl.rec (motive:=λ_=>Nat->Nat->Option LV) ldB (λ_ _ _ _=>none) (λ_ _=>none) (λ_ _ _ _ _ _ _=>none) (λ_ _ _=>none) b
def mW(H:Heap)(id off n:Nat):Option LV:=Option.rec (motive:=λ_=>Nat->Nat->Option LV) (λ_ _=>none) Rl.ld (T.get H id) off n
def ldP(v:V):(AV)->(Heap)->(Nat)->Option LV:=
 V.rec (motive_1:=λ_=>(AV)->(Heap)->(Nat)->Option LV) (motive_2:=λ_=>PUnit)
  (λ_ _ _=>none)
  (λ_ _ _ _ _ _=>none)
  (λ_ _ _ _=>none)
  (λ_ _ _ _ _=>none)
  (λ_ _ _=>none)
  (λa b _ H n=>mW H a b n)
  (λa b G _ n=>G a b n)
  (λ_ _ _=>none)
  (λ_ _ _ _ _ _ _ _=>none)
  (λ_ _ _ _ _ _ _=>none)
  (λ_ _ _ _ _ _ _ _=>none)
  (λ_ _ _=>none)
  (λ_ _ _ _=>none)
  (λ_ _ _=>none)
  (λ_ _ _ _ _ _ _ _=>none)
  (λ_ _ _ _ _=>none)
  (λ_ _ _ _ _=>none)
  (λ_ _ _=>none)
  (λ_ _ _ _ _ _=>none)
  ⟨⟩ (λ_ _ _ _=>⟨⟩) v
def gI(new:LV)(esz cnt:Nat)(c:T LV)(off n:Nat)(L:LV):Option Rl:=
 Bool.rec (motive:=λ_=>Option Rl)
  (Bool.rec none (some (.arr esz cnt (T.set c (Nat.div off esz) (AJ6 new (Nat.mod off esz) L)))) (Nat.ble (Nat.add (Nat.mod off esz) n) esz))
  (some (.arr esz cnt (T.set c (Nat.div off esz) new))) (band (Nat.beq n esz) (Nat.beq (Nat.mod off esz) 0))
def stB(esz cnt:Nat)(c:T LV)(off n:Nat)(new:LV):Option Rl:=
 DR (Bool.rec none (T.get c (Nat.div off esz)) (Nat.blt (Nat.div off esz) cnt)) (gI new esz cnt c off n)
def Rl.st(b:Rl):Nat->Nat->LV->Option Rl:=
 Rl.rec (motive:=λ_=>Nat->Nat->LV->Option Rl) stB (λ_ _ _ _ _=>none) (λ_ _ _=>none) (λ_ _ _ _ _ _ _ _=>none) (λ_ _ _ _=>none) b
def stH(H:Heap)(id off n:Nat)(new:LV):Option Heap:=
 DR (Option.rec (motive:=λ_=>Nat->Nat->LV->Option Rl) (λ_ _ _=>none) Rl.st (T.get H id) off n new) λb=>some (T.set H id b)
def stP(v:V):(Heap)->(Nat)->(LV)->Option Heap:=
 V.rec (motive_1:=λ_=>(Heap)->(Nat)->(LV)->Option Heap) (motive_2:=λ_=>PUnit)
  (λ_ _ _=>none)
  (λ_ _ _ _ _ _=>none)
  (λ_ _ _ _=>none)
  (λ_ _ _ _ _=>none)
  (λ_ _ _=>none)
  (λa b H n new=>stH H a b n new)
  (λ_ _ _ _ _=>none)
  (λ_ _ _=>none)
  (λ_ _ _ _ _ _ _ _=>none)
  (λ_ _ _ _ _ _ _=>none)
  (λ_ _ _ _ _ _ _ _=>none)
  (λ_ _ _=>none)
  (λ_ _ _ _=>none)
  (λ_ _ _=>none)
  (λ_ _ _ _ _ _ _ _=>none)
  (λ_ _ _ _ _=>none)
  (λ_ _ _ _ _=>none)
  (λ_ _ _=>none)
  (λ_ _ _ _ _ _=>none)
  ⟨⟩ (λ_ _ _ _=>⟨⟩) v
def APf(v:V):(IntKind)->(Int)->(Nat)->Option Bool:=
 V.rec (motive_1:=λ_=>(IntKind)->(Int)->(Nat)->Option Bool) (motive_2:=λ_=>PUnit)
  (λ_ _ _=>none)
  (λa b c k n s=>Bool.rec (motive:=λ_=>Option Bool) none (some (ieq n b)) (band (keq k a) (Nat.beq (Nat.add s c) 0)))
  (λ_ _ _ _=>none)
  (λ_ _ _ _ _=>none)
  (λ_ _ _=>none)
  (λ_ _ _ _ _=>none)
  (λ_ _ _ _ _=>none)
  (λ_ _ _=>none)
  (λ_ _ _ _ _ _ _ _=>none)
  (λ_ _ _ _ _ _ _=>none)
  (λ_ _ _ _ _ _ _ _=>none)
  (λ_ _ _=>none)
  (λ_ _ _ _=>none)
  (λ_ _ _=>none)
  (λ_ _ _ _ _ _ _ _=>none)
  (λ_ _ _ _ _=>none)
  (λ_ _ _ _ _=>none)
  (λ_ _ _=>none)
  (λ_ _ _ _ _ _=>none)
  ⟨⟩ (λ_ _ _ _=>⟨⟩) v
def ALK(v:V):(Bool)->Option Bool:=
 V.rec (motive_1:=λ_=>(Bool)->Option Bool) (motive_2:=λ_=>PUnit)
  (λ_=>none)
  (λ_ _ _ _=>none)
  (λa x=>some (APb x a))
  (λ_ _ _=>none)
  (λ_=>none)
  (λ_ _ _=>none)
  (λ_ _ _=>none)
  (λ_=>none)
  (λ_ _ _ _ _ _=>none)
  (λ_ _ _ _ _=>none)
  (λ_ _ _ _ _ _=>none)
  (λ_=>none)
  (λ_ _=>none)
  (λ_=>none)
  (λ_ _ _ _ _ _=>none)
  (λ_ _ _=>none)
  (λ_ _ _=>none)
  (λ_=>none)
  (λ_ _ _ _=>none)
  ⟨⟩ (λ_ _ _ _=>⟨⟩) v
def eqStr(v:V):(Nat)->(Nat)->Option Bool:=
 V.rec (motive_1:=λ_=>(Nat)->(Nat)->Option Bool) (motive_2:=λ_=>PUnit)
  (λ_ _=>none)
  (λ_ _ _ _ _=>none)
  (λ_ _ _=>none)
  (λa b l d=>some (band (Nat.beq l a) (Nat.beq d b)))
  (λ_ _=>none)
  (λ_ _ _ _=>none)
  (λ_ _ _ _=>none)
  (λ_ _=>none)
  (λ_ _ _ _ _ _ _=>none)
  (λ_ _ _ _ _ _=>none)
  (λ_ _ _ _ _ _ _=>none)
  (λ_ _=>none)
  (λ_ _ _=>none)
  (λ_ _=>none)
  (λ_ _ _ _ _ _ _=>none)
  (λ_ _ _ _=>none)
  (λ_ _ _ _=>none)
  (λ_ _=>none)
  (λ_ _ _ _ _=>none)
  ⟨⟩ (λ_ _ _ _=>⟨⟩) v
def APi(v:V):Option Bool:=
 V.rec (motive_1:=λ_=>Option Bool) (motive_2:=λ_=>PUnit)
  (none)
  (λ_ _ _=>none)
  (λ_=>none)
  (λ_ _=>none)
  (some true)
  (λ_ _=>some false)
  (λ_ _=>some false)
  (none)
  (λ_ _ _ _ _=>none)
  (λ_ _ _ _=>none)
  (λ_ _ _ _ _=>none)
  (none)
  (λ_=>none)
  (none)
  (λ_ _ _ _ _=>none)
  (λ_ _=>none)
  (λ_ _=>none)
  (none)
  (λ_ _ _=>none)
  ⟨⟩ (λ_ _ _ _=>⟨⟩) v
def AU4(v:V):(Nat)->(Nat)->Option Bool:=
 V.rec (motive_1:=λ_=>(Nat)->(Nat)->Option Bool) (motive_2:=λ_=>PUnit)
  (λ_ _=>none)
  (λ_ _ _ _ _=>none)
  (λ_ _ _=>none)
  (λ_ _ _ _=>none)
  (λ_ _=>some false)
  (λa b i o=>Bool.rec none (some (Nat.beq o b)) (Nat.beq i a))
  (λ_ _ _ _=>none)
  (λ_ _=>none)
  (λ_ _ _ _ _ _ _=>none)
  (λ_ _ _ _ _ _=>none)
  (λ_ _ _ _ _ _ _=>none)
  (λ_ _=>none)
  (λ_ _ _=>none)
  (λ_ _=>none)
  (λ_ _ _ _ _ _ _=>none)
  (λ_ _ _ _=>none)
  (λ_ _ _ _=>none)
  (λ_ _=>none)
  (λ_ _ _ _ _=>none)
  ⟨⟩ (λ_ _ _ _=>⟨⟩) v
def ARW(v:V):Option Bool:=
 V.rec (motive_1:=λ_=>Option Bool) (motive_2:=λ_=>PUnit)
  (none)
  (λ_ _ _=>none)
  (λ_=>none)
  (λ_ _=>none)
  (some false)
  (λ_ _=>none)
  (λ_ _=>none)
  (none)
  (λ_ _ _ _ _=>none)
  (λ_ _ _ _=>none)
  (λ_ _ _ _ _=>none)
  (none)
  (λ_=>none)
  (none)
  (λ_ _ _ _ _=>none)
  (λ_ _=>none)
  (λ_ _=>none)
  (none)
  (λ_ _ _=>none)
  ⟨⟩ (λ_ _ _ _=>⟨⟩) v
def AK8(v:V):(V)->Option Bool:=
 V.rec (motive_1:=λ_=>(V)->Option Bool) (motive_2:=λ_=>PUnit)
  (λ_=>none)
  (λa b c y=>APf y a b c)
  (λ_ _=>none)
  (λ_ _ _=>none)
  (λ_=>none)
  (λ_ _ _=>none)
  (λ_ _ _=>none)
  (λ_=>none)
  (λ_ _ _ _ _ _=>none)
  (λ_ _ _ _ _=>none)
  (λ_ _ _ _ _ _=>none)
  (λ_=>none)
  (λ_ _=>none)
  (λ_=>none)
  (λ_ _ _ _ _ _=>none)
  (λ_ _ _=>none)
  (λ_ _ _=>none)
  (λ_=>none)
  (λ_ _ _ _=>none)
  ⟨⟩ (λ_ _ _ _=>⟨⟩) v
def ALb(v:V):(V)->Option Bool:=
 V.rec (motive_1:=λ_=>(V)->Option Bool) (motive_2:=λ_=>PUnit)
  (λ_=>none)
  (λ_ _ _ _=>none)
  (λ_ _=>none)
  (λa b y=>eqStr y a b)
  (λ_=>none)
  (λ_ _ _=>none)
  (λ_ _ _=>none)
  (λ_=>none)
  (λ_ _ _ _ _ _=>none)
  (λ_ _ _ _ _=>none)
  (λ_ _ _ _ _ _=>none)
  (λ_=>none)
  (λ_ _=>none)
  (λ_=>none)
  (λ_ _ _ _ _ _=>none)
  (λ_ _ _=>none)
  (λ_ _ _=>none)
  (λ_=>none)
  (λ_ _ _ _=>none)
  ⟨⟩ (λ_ _ _ _=>⟨⟩) v
def ADn(v:V):(V)->Option Bool:=
 V.rec (motive_1:=λ_=>(V)->Option Bool) (motive_2:=λ_=>PUnit)
  (λ_=>none)
  (λ_ _ _ _=>none)
  (λa y=>ALK y a)
  (λ_ _ _=>none)
  (λ_=>none)
  (λ_ _ _=>none)
  (λ_ _ _=>none)
  (λ_=>none)
  (λ_ _ _ _ _ _=>none)
  (λ_ _ _ _ _=>none)
  (λ_ _ _ _ _ _=>none)
  (λ_=>none)
  (λ_ _=>none)
  (λ_=>none)
  (λ_ _ _ _ _ _=>none)
  (λ_ _ _=>none)
  (λ_ _ _=>none)
  (λ_=>none)
  (λ_ _ _ _=>none)
  ⟨⟩ (λ_ _ _ _=>⟨⟩) v
def AQx(v:V):(V)->Option Bool:=
 V.rec (motive_1:=λ_=>(V)->Option Bool) (motive_2:=λ_=>PUnit)
  (λ_=>none)
  (λ_ _ _ _=>none)
  (λ_ _=>none)
  (λ_ _ _=>none)
  (λy=>APi y)
  (λa b y=>AU4 y a b)
  (λ_ _ y=>ARW y)
  (λ_=>none)
  (λ_ _ _ _ _ _=>none)
  (λ_ _ _ _ _=>none)
  (λ_ _ _ _ _ _=>none)
  (λ_=>none)
  (λ_ _=>none)
  (λ_=>none)
  (λ_ _ _ _ _ _=>none)
  (λ_ _ _=>none)
  (λ_ _ _=>none)
  (λ_=>none)
  (λ_ _ _ _=>none)
  ⟨⟩ (λ_ _ _ _=>⟨⟩) v
def AOT(v:V):Option Bool:=
 V.rec (motive_1:=λ_=>Option Bool) (motive_2:=λ_=>PUnit)
  (none)
  (λ_ _ _=>none)
  (λ_=>none)
  (λ_ _=>none)
  (none)
  (λ_ _=>none)
  (λ_ _=>none)
  (some true)
  (λ_ _ _ _ _=>some false)
  (λ_ _ _ _=>some false)
  (λ_ _ _ _ _=>some false)
  (none)
  (λ_=>none)
  (none)
  (λ_ _ _ _ _=>none)
  (λ_ _=>none)
  (λ_ _=>none)
  (none)
  (λ_ _ _=>none)
  ⟨⟩ (λ_ _ _ _=>⟨⟩) v
def jh(v:V):Option Bool:=
 V.rec (motive_1:=λ_=>Option Bool) (motive_2:=λ_=>PUnit)
  (none)
  (λ_ _ _=>none)
  (λ_=>none)
  (λ_ _=>none)
  (none)
  (λ_ _=>none)
  (λ_ _=>none)
  (some false)
  (λ_ _ _ _ _=>none)
  (λ_ _ _ _=>none)
  (λ_ _ _ _ _=>none)
  (none)
  (λ_=>none)
  (none)
  (λ_ _ _ _ _=>none)
  (λ_ _=>none)
  (λ_ _=>none)
  (none)
  (λ_ _ _=>none)
  ⟨⟩ (λ_ _ _ _=>⟨⟩) v
def APs(v:V):Option Bool:=
 V.rec (motive_1:=λ_=>Option Bool) (motive_2:=λ_=>PUnit)
  (none)
  (λ_ _ _=>none)
  (λ_=>none)
  (λ_ _=>none)
  (none)
  (λ_ _=>none)
  (λ_ _=>none)
  (none)
  (λ_ _ _ _ _=>none)
  (λ_ _ _ _=>none)
  (λ_ _ _ _ _=>none)
  (none)
  (λ_=>none)
  (some true)
  (λ_ _ _ _ _=>some false)
  (λ_ _=>none)
  (λ_ _=>none)
  (none)
  (λ_ _ _=>none)
  ⟨⟩ (λ_ _ _ _=>⟨⟩) v
def AL9(v:V):Option Bool:=
 V.rec (motive_1:=λ_=>Option Bool) (motive_2:=λ_=>PUnit)
  (none)
  (λ_ _ _=>none)
  (λ_=>none)
  (λ_ _=>none)
  (none)
  (λ_ _=>none)
  (λ_ _=>none)
  (none)
  (λ_ _ _ _ _=>none)
  (λ_ _ _ _=>none)
  (λ_ _ _ _ _=>none)
  (none)
  (λ_=>none)
  (some false)
  (λ_ _ _ _ _=>none)
  (λ_ _=>none)
  (λ_ _=>none)
  (none)
  (λ_ _ _=>none)
  ⟨⟩ (λ_ _ _ _=>⟨⟩) v
def AQr(v:V):Option Bool:=
 V.rec (motive_1:=λ_=>Option Bool) (motive_2:=λ_=>PUnit)
  (none)
  (λ_ _ _=>none)
  (λ_=>none)
  (λ_ _=>none)
  (none)
  (λ_ _=>none)
  (λ_ _=>none)
  (none)
  (λ_ _ _ _ _=>none)
  (λ_ _ _ _=>none)
  (λ_ _ _ _ _=>none)
  (some true)
  (λ_=>some false)
  (none)
  (λ_ _ _ _ _=>none)
  (λ_ _=>none)
  (λ_ _=>none)
  (none)
  (λ_ _ _=>none)
  ⟨⟩ (λ_ _ _ _=>⟨⟩) v
def AL8(v:V):Option Bool:=
 V.rec (motive_1:=λ_=>Option Bool) (motive_2:=λ_=>PUnit)
  (none)
  (λ_ _ _=>none)
  (λ_=>none)
  (λ_ _=>none)
  (none)
  (λ_ _=>none)
  (λ_ _=>none)
  (none)
  (λ_ _ _ _ _=>none)
  (λ_ _ _ _=>none)
  (λ_ _ _ _ _=>none)
  (some false)
  (λ_=>none)
  (none)
  (λ_ _ _ _ _=>none)
  (λ_ _=>none)
  (λ_ _=>none)
  (none)
  (λ_ _ _=>none)
  ⟨⟩ (λ_ _ _ _=>⟨⟩) v
def kSl(v:V):(V)->Option Bool:=
 V.rec (motive_1:=λ_=>(V)->Option Bool) (motive_2:=λ_=>PUnit)
  (λ_=>none)
  (λ_ _ _ _=>none)
  (λ_ _=>none)
  (λ_ _ _=>none)
  (λ_=>none)
  (λ_ _ _=>none)
  (λ_ _ _=>none)
  (λy=>AOT y)
  (λ_ _ _ _ _ y=>jh y)
  (λ_ _ _ _ y=>jh y)
  (λ_ _ _ _ _ y=>jh y)
  (λ_=>none)
  (λ_ _=>none)
  (λ_=>none)
  (λ_ _ _ _ _ _=>none)
  (λ_ _ _=>none)
  (λ_ _ _=>none)
  (λ_=>none)
  (λ_ _ _ _=>none)
  ⟨⟩ (λ_ _ _ _=>⟨⟩) v
def kFn(v:V):(V)->Option Bool:=
 V.rec (motive_1:=λ_=>(V)->Option Bool) (motive_2:=λ_=>PUnit)
  (λ_=>none)
  (λ_ _ _ _=>none)
  (λ_ _=>none)
  (λ_ _ _=>none)
  (λ_=>none)
  (λ_ _ _=>none)
  (λ_ _ _=>none)
  (λ_=>none)
  (λ_ _ _ _ _ _=>none)
  (λ_ _ _ _ _=>none)
  (λ_ _ _ _ _ _=>none)
  (λ_=>none)
  (λ_ _=>none)
  (λy=>APs y)
  (λ_ _ _ _ _ y=>AL9 y)
  (λ_ _ _=>none)
  (λ_ _ _=>none)
  (λ_=>none)
  (λ_ _ _ _=>none)
  ⟨⟩ (λ_ _ _ _=>⟨⟩) v
def AWc(v:V):(V)->Option Bool:=
 V.rec (motive_1:=λ_=>(V)->Option Bool) (motive_2:=λ_=>PUnit)
  (λ_=>none)
  (λ_ _ _ _=>none)
  (λ_ _=>none)
  (λ_ _ _=>none)
  (λ_=>none)
  (λ_ _ _=>none)
  (λ_ _ _=>none)
  (λ_=>none)
  (λ_ _ _ _ _ _=>none)
  (λ_ _ _ _ _=>none)
  (λ_ _ _ _ _ _=>none)
  (λy=>AQr y)
  (λ_ y=>AL8 y)
  (λ_=>none)
  (λ_ _ _ _ _ _=>none)
  (λ_ _ _=>none)
  (λ_ _ _=>none)
  (λ_=>none)
  (λ_ _ _ _=>none)
  ⟨⟩ (λ_ _ _ _=>⟨⟩) v
def iY(o:Option Bool)(f:Bool->Option Bool):Option Bool:=Option.rec (motive:=λ_=>(Bool->Option Bool)->Option Bool) (λ_=>none) (λv f=>f v) o f
inductive CK where
 |int|str|bool|ptr
def CK.eq(k:CK):V->V->Option Bool:=CK.rec (motive:=λ_=>V->V->Option Bool) AK8 ALb ADn AQx k
def ACx(ks:List CK):List V->List V->Option Bool:=
 List.rec (motive:=λ_=>List V->List V->Option Bool) (λa b=>List.rec (motive:=λ_=>Option Bool) (List.rec (motive:=λ_=>Option Bool) (some true) (λ_ _ _=>none) b) (λ_ _ _=>none) a)
  (λk _ g a b=>List.rec (motive:=λ_=>Option Bool) none (λx xs _=>List.rec (motive:=λ_=>Option Bool) none (λy ys _=>iY (k.eq x y) λr=>iY (g xs ys) λr'=>some (band r r')) b) a) ks
def AUl(v:V):(List CK)->(LV)->Option Bool:=
 V.rec (motive_1:=λ_=>(List CK)->(LV)->Option Bool) (motive_2:=λ_=>PUnit)
  (λ_ _=>none)
  (λ_ _ _ _ _=>none)
  (λ_ _ _=>none)
  (λ_ _ _ _=>none)
  (λ_ _=>none)
  (λ_ _ _ _=>none)
  (λ_ _ _ _=>none)
  (λ_ _=>none)
  (λ_ _ _ _ _ _ _=>none)
  (λ_ _ _ _ _ _=>none)
  (λ_ _ _ _ _ _ _=>none)
  (λ_ _=>none)
  (λ_ _ _=>none)
  (λ_ _=>none)
  (λ_ _ _ _ _ _ _=>none)
  (λa _ ks l=>ACx ks l a)
  (λ_ _ _ _=>none)
  (λ_ _=>none)
  (λ_ _ _ _ _=>none)
  ⟨⟩ (λ_ _ _ _=>⟨⟩) v
def AWD(v:V):(List CK)->(V)->Option Bool:=
 V.rec (motive_1:=λ_=>(List CK)->(V)->Option Bool) (motive_2:=λ_=>PUnit)
  (λ_ _=>none)
  (λ_ _ _ _ _=>none)
  (λ_ _ _=>none)
  (λ_ _ _ _=>none)
  (λ_ _=>none)
  (λ_ _ _ _=>none)
  (λ_ _ _ _=>none)
  (λ_ _=>none)
  (λ_ _ _ _ _ _ _=>none)
  (λ_ _ _ _ _ _=>none)
  (λ_ _ _ _ _ _ _=>none)
  (λ_ _=>none)
  (λ_ _ _=>none)
  (λ_ _=>none)
  (λ_ _ _ _ _ _ _=>none)
  (λa _ ks y=>AUl y ks a)
  (λ_ _ _ _=>none)
  (λ_ _=>none)
  (λ_ _ _ _ _=>none)
  ⟨⟩ (λ_ _ _ _=>⟨⟩) v
inductive EK where
 |one (k:CK)|agg (ks:List CK)|sl|fn|map
def EK.eq(k:EK):V->V->Option Bool:=EK.rec (motive:=λ_=>V->V->Option Bool) (λk=>k.eq) (λks x y=>AWD x ks y) kSl kFn AWc k
inductive B2 where
 |add|sub|mul|quo|rem|and|or|xor|andNot|shl|shr|lss|leq|gtr|geq
def ANL(f:Int->Int->Bool)(x y:V):Option V:=x.IL λk a s=>y.IL λk' b t=>BP (band (keq k k') (Nat.beq (Nat.add s t) 0)) (mkB (f a b))
def AId(f:Nat->Nat->Nat->Nat->Bool)(x y:V):Option V:=x.Tc λl c=>y.Tc λm d=>mkB (f l c m d)
def ari(f:Int->Int->Int)(x y:V):Option V:=x.IL λk a s=>y.IL λk' b t=>BP (keq k k') (mkI k (f a b) (Nat.add s t))
def dvs(f:Int->Int->Int)(x y:V):Option V:=
 x.IL λk a s=>y.IL λk' b t=>BP (band (keq k k') (band (Nat.beq t 0) (Yi (ieq b 0)))) (mkI k (f a b) s)
def AXm(x y:V):Option V:=
 x.IL λk a s=>y.IL λk' b t=>BP (band (keq k k') (band (Nat.beq t 0) (Yi (ieq b 0)))) (mkN k (Int.tmod a b) s)
def AYg(x y:V):Option V:=x.Tc λl c=>y.Tc λm d=>BP (Nat.blt (Nat.add l m) 9223372036854775808) (Dz (Nat.add l m) λn=>Dz (AXE l c d) λe=>some (.str n e))
def AX3(x y:V):Option V:=ABS (isStr x) (AYg x y) (ari AGo x y)
def AZf(x y:V):Option V:=ari (λa b=>AGo a (Int.neg b)) x y
def AYt(x y:V):Option V:=ari Int.mul x y
def ASr(k:IntKind)(a b:Int):Int:=Int.rec (motive:=λ_=>Int->IntKind->Int)
 (λm b k=>Int.rec (motive:=λ_=>Nat->IntKind->Int) (λn m k=>Vz k (.ofNat (Nat.land m n))) (λn m k=>bits .and k (.ofNat m) (.negSucc n)) b m k)
 (λm b k=>bits .and k (.negSucc m) b) a b k
def AXc(x y:V):Option V:=x.IL λk a s=>y.IL λk' b t=>BP (band (keq k k') (Nat.beq (Nat.add s t) 0)) (P5 (ASr k a b) λm=>some (.int k m 0))
def APp(o:BinOp)(x y:V):Option V:=x.IL λk a s=>y.IL λk' b t=>BP (band (keq k k') (Nat.beq (Nat.add s t) 0)) (P5 (bits o k a b) λm=>some (.int k m 0))
def AWj(a:Int)(n:Nat):Int:=Int.fdiv a (Int.ofNat (Nat.pow 2 n))
def ACj(k:IntKind):Nat:=IntKind.rec 8 16 32 64 8 16 32 64 k
def AXt(x y:V):Option V:=x.IL λk a s=>y.IL λ_ b t=>BP (band (Yi (ilt b 0)) (Nat.beq (Nat.add s t) 0)) (P5 (AWj a (Nat.min (Int.toNat b) (ACj k))) λm=>some (.int k m 0))
def AXf(x y:V):Option V:=x.IL λk a s=>y.IL λ_ b t=>BP (band (Yi (ilt b 0)) (Nat.beq (Nat.add s t) 0)) (mkI k (Int.mul a (Int.ofNat (Nat.pow 2 (Nat.min (Int.toNat b) (ACj k))))) 0)
def ofB(o:Option Bool):Option V:=Option.rec none mkB o
def EZ(k:EK)(neg:Bool)(x y:V):Option V:=ofB (iY (k.eq x y) λb=>some (Bool.rec (motive:=λ_=>Bool->Bool) (λb=>b) Yi neg b))
def AXJ(x y:V):Option V:=ABS (isStr x) (AId slt x y) (ANL ilt x y)
def AVR(x y:V):Option V:=ABS (isStr x) (AId (λl c m d=>Yi (slt m d l c)) x y) (ANL ile x y)
def AWs(x y:V):Option V:=ABS (isStr x) (AId (λl c m d=>slt m d l c) x y) (ANL (λa b=>ilt b a) x y)
def AVt(x y:V):Option V:=ABS (isStr x) (AId (λl c m d=>Yi (slt l c m d)) x y) (ANL (λa b=>ile b a) x y)
def B2.ev(o:B2):V->V->Option V:=B2.rec (motive:=λ_=>V->V->Option V)
 AX3 AZf AYt (dvs Int.tdiv) AXm AXc (APp .or) (APp .xor) (APp .andNot) AXf AXt AXJ AVR AWs AVt o
end Go.Eng
namespace Go.PQ
open Go.Eng
def q0:P2:=.h
def q1:P2:=.z q0
def q2:P2:=.o q0
def q3:P2:=.z q1
def q4:P2:=.o q1
def q5:P2:=.z q2
def q6:P2:=.o q2
def q7:P2:=.z q3
def q8:P2:=.o q3
def q9:P2:=.z q4
def q10:P2:=.o q4
def q11:P2:=.z q5
def q12:P2:=.o q5
def q13:P2:=.z q6
def q14:P2:=.o q6
def q15:P2:=.z q7
def q16:P2:=.o q7
def q17:P2:=.z q8
def q18:P2:=.o q8
def q19:P2:=.z q9
def q20:P2:=.o q9
def q21:P2:=.z q10
def q22:P2:=.o q10
def q23:P2:=.z q11
def q24:P2:=.o q11
def q26:P2:=.o q12
def q27:P2:=.z q13
def q28:P2:=.o q13
def q29:P2:=.z q14
def q30:P2:=.o q14
def q31:P2:=.z q15
def q34:P2:=.o q16
def q35:P2:=.z q17
def q37:P2:=.z q18
def q39:P2:=.z q19
def q40:P2:=.o q19
def q41:P2:=.z q20
def q42:P2:=.o q20
def q46:P2:=.o q22
def q50:P2:=.o q24
def q55:P2:=.z q27
def q56:P2:=.o q27
def q57:P2:=.z q28
def q58:P2:=.o q28
def q60:P2:=.o q29
def q63:P2:=.z q31
def q71:P2:=.z q35
def q94:P2:=.o q46
def Aap:P2:=.z q50
def Aa1:P2:=.z q55
def AaV:P2:=.z q60
def Aal:P2:=.z q71
abbrev iq:Nat:=4
abbrev jA:Nat:=5
abbrev YA:Nat:=6
abbrev dJ:Nat:=7
abbrev Xg:Nat:=8
abbrev dX:Nat:=9
abbrev iQ:Nat:=10
abbrev ABu:Nat:=11
abbrev lY:Nat:=12
abbrev MN:Nat:=13
abbrev FQ:Nat:=14
abbrev Il:Nat:=15
abbrev EW:Nat:=16
abbrev QC:Nat:=17
abbrev Jz:Nat:=18
abbrev CQ:Nat:=19
abbrev QO:Nat:=20
abbrev dG:Nat:=21
abbrev YN:Nat:=22
abbrev Nl:Nat:=23
abbrev Xw:Nat:=24
abbrev EY:Nat:=25
abbrev JG:Nat:=26
abbrev ET:Nat:=27
abbrev J5:Nat:=28
abbrev jD:Nat:=29
abbrev gW:Nat:=30
abbrev Ye:Nat:=31
abbrev EM:Nat:=32
abbrev MI:Nat:=33
abbrev Vx:Nat:=34
abbrev aO:Nat:=36
abbrev mY:Nat:=37
abbrev Xe:Nat:=38
abbrev BN:Nat:=39
abbrev D7:Nat:=40
abbrev Ak:Nat:=41
abbrev LC:Nat:=42
abbrev KP:Nat:=43
abbrev Dw:Nat:=44
abbrev WV:Nat:=45
abbrev DU:Nat:=46
abbrev CX:Nat:=47
abbrev MH:Nat:=48
abbrev Kv:Nat:=49
abbrev Oe:Nat:=50
abbrev UE:Nat:=51
abbrev rE:Nat:=52
abbrev Ui:Nat:=53
abbrev oZ:Nat:=54
abbrev qB:Nat:=55
abbrev ACI:Nat:=56
abbrev bH:Nat:=57
abbrev AAG:Nat:=58
abbrev BI:Nat:=59
abbrev mV:Nat:=60
abbrev G5:Nat:=63
abbrev Df:Nat:=66
abbrev Tj:Nat:=67
abbrev Ji:Nat:=68
abbrev Dy:Nat:=69
abbrev MG:Nat:=70
abbrev WC:Nat:=71
abbrev WE:Nat:=72
abbrev Ut:Nat:=74
abbrev AFa:Nat:=77
abbrev ADc:Nat:=78
abbrev KI:Nat:=79
abbrev GR:Nat:=80
abbrev ZI:Nat:=83
abbrev Dl:Nat:=84
abbrev wM:Nat:=85
abbrev l9:Nat:=86
abbrev CS:Nat:=87
abbrev Ci:Nat:=88
abbrev Gh:Nat:=89
abbrev X5:Nat:=90
abbrev QI:Nat:=91
abbrev QY:Nat:=92
abbrev Qg:Nat:=93
abbrev Om:Nat:=94
abbrev Uc:Nat:=95
abbrev QG:Nat:=96
abbrev OB:Nat:=97
abbrev YW:Nat:=98
abbrev Iz:Nat:=99
abbrev SA:Nat:=100
abbrev KY:Nat:=101
abbrev Dj:Nat:=102
abbrev QJ:Nat:=103
abbrev dK:Nat:=104
abbrev QB:Nat:=105
abbrev YC:Nat:=108
abbrev Y0:Nat:=111
abbrev Wn:Nat:=112
abbrev Tq:Nat:=113
abbrev iV:Nat:=114
abbrev Xh:Nat:=2
end Go.PQ
namespace Go.Eng
inductive AN where
 |mv (x:X)
 |pick (c a b:X)
 |ld1 (x:X)
 |ldn (n:Nat) (x:X)
 |ARS (x:X)
 |bin (o:B2) (x y:X)
 |eq (k:EK) (neg:Bool) (x y:X)
 |not (x:X)
 |neg (x:X)
 |cvi (k:IntKind) (x:X)
 |Aag (f:Nat) (first caps:List X)
 |AYe (off:Nat) (x:X)
 |field1 (off:Nat) (x:X)
 |AXA (off n:Nat) (x:X)
 |AY5 (esz:Nat) (x i:X)
 |AW5 (n esz:Nat) (x i:X)
 |AbO (x i:X)
 |Aar (n:Nat) (x i:X)
 |ext (x:X) (i:Nat)
 |AaQ (x:X)
 |Aab (x:X)
 |AY0 (x:X)
 |Aam (n:Nat)
 |look (c:CK) (ok:Bool) (zero:V) (m k:X)
 |build (zero:List V) (parts:List (Nat×Nat×X))
 |AYU (x:X) (lo hi:Option X)
 |slc (esz:Nat) (x:X) (lo hi mx:Option X)
 |Aa6 (n esz:Nat) (x:X) (lo hi:Option X)
 |Aaf (x y:X)
 |AbD (x y:X)
 |cvS (x:X)
 |AT2 (s c:X)
 |AId (x y:X)
inductive AA where
 |alloc (esz:Nat) (es:List (List V))
 |box (x:X)
 |AGr (esz cnt:Nat) (zero:List V) (parts:List (Nat×X))
 |ADF (esz bytes:Nat) (zero:List V) (l c:X)
 |APK
 |VT (t e:Nat)
inductive AE where
 |asg (x:X)
 |st (n:Nat) (x v:X)
 |app (esz bytes:Nat) (x y:X)
 |copy (esz:Nat) (x y:X)
 |AKW (c:CK) (m k v:X)
 |del (c:CK) (m k:X)
 |AZe (m:X)
 |call (f:Nat) (args:List X)
 |AMc (x:X) (args:List X)
 |defer (dp:P2) (x:X) (args:List X)
 |cvB (x:X)
inductive AO where
 |n (o:AN)|a (o:AA)|e (o:AE)
inductive tX where
 |no|to (p:P2)|ps
inductive Gd where
 |no|on (x:X) (b:Bool)
inductive y7 where
 |mk (d:tX) (g:Gd) (o:AO)
def AQh(n:Int):(Nat->Option V)->Option V:=Int.rec (motive:=λ_=>(Nat->Option V)->Option V) (λm f=>f m) (λ_ _=>none) n
def WW(v:V)(f:Nat->Option V):Option V:=v.IL λ_ n s=>BP (Nat.beq s 0) (AQh n f)
def Zp(x:Option X):RS->Nat->(Nat->Option V)->Option V:=
 Option.rec (motive:=λ_=>RS->Nat->(Nat->Option V)->Option V) (λ_ d f=>f d) (λx R _ f=>WW (x.ev R) f) x
def f3(a b c:Nat)(f:Nat->Nat->Nat->V):Option V:=Dz a λa=>Dz b λb=>Dz c λc=>some (f a b c)
def AEJ(R:RS)(lo hi mx:Option X):Option V:=Zp mx R 0 λm=>Zp hi R 0 λh=>Zp lo R 0 λl=>BP (band (Nat.ble l h) (band (Nat.ble h m) (Nat.beq m 0))) (some .Ae)
def AH0(z:Nat)(R:RS)(lo hi mx:Option X)(id off ln cap esz:Nat):Option V:=BP (Nat.beq z esz) (Zp mx R cap λm=>Zp hi R ln λh=>Zp lo R 0 λl=>
 BP (band (Nat.ble l h) (band (Nat.ble h m) (Nat.ble m cap))) (f3 (Nat.add off l) (Nat.sub h l) (Nat.sub m l) λo d c=>.sl id o d c esz))
def ADO(R:RS)(lo hi:Option X)(id off ln esz:Nat):Option V:=Zp hi R ln λh=>Zp lo R 0 λl=>
 BP (band (Nat.ble l h) (Nat.ble h ln)) (f3 (Nat.add off l) (Nat.sub h l) 0 λo d _=>.O5 id o d esz)
def ADG(R:RS)(lo hi:Option X)(mx:X)(id off ln esz:Nat):Option V:=WW (mx.ev R) λm=>Zp hi R 0 λh=>Zp lo R 0 λl=>
 BP (band (Nat.ble l h) (band (Nat.ble h m) (Nat.ble m ln))) (f3 (Nat.add off l) (Nat.sub h l) (Nat.sub m l) λo d c=>.sl id o d c esz)
def ABT(z:Nat)(R:RS)(lo hi mx:Option X)(id off ln esz:Nat):Option V:=
 BP (Nat.beq z esz) (Option.rec (motive:=λ_=>Option V) (ADO R lo hi id off ln esz) (λmx=>ADG R lo hi mx id off ln esz) mx)
def AEc(z:Nat)(R:RS)(lo hi mx:Option X)(b off ln cap esz:Nat):Option V:=Zp hi R ln λh=>Zp lo R 0 λl=>
 Option.rec (motive:=λ_=>Option V) (BP (band (Nat.ble l h) (Nat.ble h cap)) (f3 (Nat.add off (Nat.mul l z)) (Nat.sub h l) (Nat.sub cap l) λo d c=>.rsl b o d c esz)) (λ_=>none) mx
def AI5(z:Nat)(x:V)(R:RS)(lo hi mx:Option X):Option V:=x.ATC (AEJ R lo hi mx) (AH0 z R lo hi mx) (ABT z R lo hi mx) (AEc z R lo hi mx)
def Zr(x:V)(R:RS)(lo hi:Option X):Option V:=
 x.Tc λln c=>Zp hi R ln λh=>Zp lo R 0 λl=>BP (band (Nat.ble l h) (Nat.ble h ln)) (f3 (Nat.sub h l) (AQ3 c l h) 0 λd c _=>.str d c)
def BO(esz:Nat)(x i:V):Option V:=WW i λi=>x.ATC none
 (λid off ln _ e=>BP (band (Nat.beq e esz) (Nat.blt i ln)) (Dz (Nat.mul (Nat.add off i) esz) λo=>some (.ptr id o)))
 (λid off ln e=>BP (band (Nat.beq e esz) (Nat.blt i ln)) (Dz (Nat.mul (Nat.add off i) esz) λo=>some (.ptr id o)))
 (λb off ln _ _=>BP (Nat.blt i ln) (Dz (Nat.add off (Nat.mul i esz)) λo=>some (.Xa b o)))
def AU(off:Nat)(x:V):Option V:=x.AFx (λid o=>Dz (Nat.add o off) λo=>some (.ptr id o)) (λb o=>Dz (Nat.add o off) λo=>some (.Xa b o))
abbrev ME:=List (V×V×Nat)
def ACb(c:CK)(k:V)(es:ME):Nat->Option (Option (Nat×V)):=
 List.rec (motive:=λ_=>Nat->Option (Option (Nat×V))) (λ_=>some none)
  (λe _ g i=>DR (c.eq e.1 k) λr=>Bool.rec (g (Nat.succ i)) (some (some (i,e.2.1))) r) es
def Aaa(b:Rl):(ME->Nat->Option V)->Option V:=Rl.rec (motive:=λ_=>(ME->Nat->Option V)->Option V) (λ_ _ _ _=>none) (λes c f=>f es c) (λ_=>none) (λ_ _ _ _ _ _=>none) (λ_ _=>none) b
def V3(H:Heap)(m:V)(f:ME->Nat->Option V):Option V:=m.AK6 (f [] 0) λid=>Option.rec (motive:=λ_=>(ME->Nat->Option V)->Option V) (λ_=>none) Aaa (T.get H id) f
def ACT(parts:List (Nat×Nat×X)):RS->List V->List V:=
 List.rec (motive:=λ_=>RS->List V->List V) (λ_ l=>l) (λp _ g R l=>g R (AJ6 (CZ (p.2.2.ev R)) p.1 l)) parts
def kD(v:V):Bool:=
 V.rec (motive_1:=λ_=>Bool) (motive_2:=λ_=>PUnit)
  (false)
  (λ_ _ _=>true)
  (λ_=>true)
  (λ_ _=>true)
  (true)
  (λ_ _=>true)
  (λ_ _=>true)
  (true)
  (λ_ _ _ _ _=>true)
  (λ_ _ _ _=>true)
  (λ_ _ _ _ _=>true)
  (true)
  (λ_=>true)
  (true)
  (λ_ _ _ _ _=>true)
  (λ_ _=>true)
  (λ_ _=>false)
  (true)
  (λ_ _ _=>true)
  ⟨⟩ (λ_ _ _ _=>⟨⟩) v
def kX(parts:List (Nat×Nat×X)):RS->Bool:=
 List.rec (motive:=λ_=>RS->Bool) (λ_=>true) (λp _ g R=>band (band (kD (p.2.2.ev R)) (Nat.beq (len (CZ (p.2.2.ev R))) p.2.1)) (g R)) parts
abbrev D5:=List LV
def DK(H:Heap)(id esz:Nat)(n:Nat):Nat->Option D5:=
 Nat.rec (motive:=λ_=>Nat->Option D5) (λ_=>some [])
  (λ_ g o=>DR (mW H id (Nat.mul o esz) esz) λL=>DR (g (Nat.succ o)) λLS=>some (L::LS)) n
def qE(G:AV)(b esz:Nat)(n:Nat):Nat->Option D5:=
 Nat.rec (motive:=λ_=>Nat->Option D5) (λ_=>some [])
  (λ_ g o=>DR (G b o esz) λL=>DR (g (Nat.add o esz)) λLS=>some (L::LS)) n
def VB(n:Nat):Nat->D5:=
 Nat.rec (motive:=λ_=>Nat->D5) (λ_=>[]) (λ_ g c=>[.int .u8 (.ofNat (Nat.mod c 256)) 0]::g (Nat.div c 256)) n
def elems(v:V):(AV)->(Heap)->(Nat)->Option D5:=
 V.rec (motive_1:=λ_=>(AV)->(Heap)->(Nat)->Option D5) (motive_2:=λ_=>PUnit)
  (λ_ _ _=>none)
  (λ_ _ _ _ _ _=>none)
  (λ_ _ _ _=>none)
  (λa b _ _ z=>Bool.rec (motive:=λ_=>Option D5) none (some (VB a b)) (Nat.beq 1 z))
  (λ_ _ _=>none)
  (λ_ _ _ _ _=>none)
  (λ_ _ _ _ _=>none)
  (λ_ _ _=>some [])
  (λa b c _ e _ H z=>Bool.rec (motive:=λ_=>Option D5) none (DK H a z c b) (Nat.beq e z))
  (λa b c d _ H z=>Bool.rec (motive:=λ_=>Option D5) none (DK H a z c b) (Nat.beq d z))
  (λa b c _ _ G _ z=>qE G a z c b)
  (λ_ _ _=>none)
  (λ_ _ _ _=>none)
  (λ_ _ _=>none)
  (λ_ _ _ _ _ _ _ _=>none)
  (λ_ _ _ _ _=>none)
  (λ_ _ _ _ _=>none)
  (λ_ _ _=>none)
  (λ_ _ _ _ _ _=>none)
  ⟨⟩ (λ_ _ _ _=>⟨⟩) v
def byteOf(v:V):Option Nat:=
 V.rec (motive_1:=λ_=>Option Nat) (motive_2:=λ_=>PUnit)
  (none)
  (λa b c=>Int.rec (motive:=λ_=>Nat->Option Nat) (λm t=>Bool.rec none (some m) (band (Nat.beq (kno a) 4) (band (Nat.blt m 256) (Nat.beq t 0)))) (λ_ _=>none) b c)
  (λ_=>none)
  (λ_ _=>none)
  (none)
  (λ_ _=>none)
  (λ_ _=>none)
  (none)
  (λ_ _ _ _ _=>none)
  (λ_ _ _ _=>none)
  (λ_ _ _ _ _=>none)
  (none)
  (λ_=>none)
  (none)
  (λ_ _ _ _ _=>none)
  (λ_ _=>none)
  (λ_ _=>none)
  (none)
  (λ_ _ _=>none)
  ⟨⟩ (λ_ _ _ _=>⟨⟩) v
def AAq(l:D5):Option Nat:=
 List.rec (motive:=λ_=>Option Nat) (some 0) (λx _ g=>DR (nth x 0) λv=>DR (byteOf v) λm=>DR g λc=>some (Nat.add m (Nat.mul 256 c))) l
def fK(b:Nat)(f:Nat):Nat->Nat->Int:=
 Nat.rec (motive:=λ_=>Nat->Nat->Int) (λ_ _=>.negSucc 0)
  (λ_ g c i=>Bool.rec (g (Nat.div c 256) (Nat.succ i)) (.ofNat i) (Nat.beq (Nat.mod c 256) b)) f
abbrev rH:=AV->RS->Heap->Option V
def eMv(x:X):rH:=λ_ R _=>some (x.ev R)
def ALw(c a b:X):rH:=λ_ R _=>(c.ev R).pY λt=>ABS t (some (a.ev R)) (some (b.ev R))
def ATj(x:X):rH:=λG R H=>QT (ldP (x.ev R) G H 1) λL=>nth L 0
def ATT(n:Nat)(x:X):rH:=λG R H=>QT (ldP (x.ev R) G H n) λL=>some (.agg L)
def AHJ(x:X):rH:=λ_ R _=>Bj (x.ev R)
def ASs(o:B2)(x y:X):rH:=λ_ R _=>o.ev (x.ev R) (y.ev R)
def eEq(k:EK)(neg:Bool)(x y:X):rH:=λ_ R _=>EZ k neg (x.ev R) (y.ev R)
def ASJ(x:X):rH:=λ_ R _=>(x.ev R).pY λb=>mkB (Yi b)
def ATU(x:X):rH:=λ_ R _=>(x.ev R).IL λk n s=>mkI k (Int.neg n) s
def ATg(k:IntKind)(x:X):rH:=λ_ R _=>(x.ev R).IL λ_ n s=>mkI k n s
def ALe(f:Nat)(a c:List X):rH:=λ_ R _=>some (.fn f (iW a R) (iW c R))
def AGs(off:Nat)(x:X):rH:=λ_ R _=>AU off (x.ev R)
def ADC(off:Nat)(x:X):rH:=λ_ R _=>(x.ev R).tC λl=>nth l off
def ACz(off n:Nat)(x:X):rH:=λ_ R _=>(x.ev R).tC λl=>some (.agg (ZK n (mg off l)))
def AHo(esz:Nat)(x i:X):rH:=λ_ R _=>BO esz (x.ev R) (i.ev R)
def ADR(n esz:Nat)(x i:X):rH:=λ_ R _=>WW (i.ev R) λi=>BP (Nat.blt i n) (AU (Nat.mul i esz) (x.ev R))
def AMx(x i:X):rH:=λ_ R _=>(x.ev R).Tc λln c=>WW (i.ev R) λi=>BP (Nat.blt i ln) (Dz (AN3 c i) λb=>some (.int .u8 (.ofNat b) 0))
def AMR(n:Nat)(x i:X):rH:=λ_ R _=>(x.ev R).tC λl=>WW (i.ev R) λi=>BP (Nat.blt i n) (nth l i)
def AT0(x:X)(i:Nat):rH:=λ_ R _=>(x.ev R).AIY λl=>nth l i
def AL3(x:X):rH:=λ_ R _=>(x.ev R).Tc λn _=>some (.int .i64 (.ofNat n) 0)
def AMM(x:X):rH:=λ_ R _=>lenV (x.ev R)
def AMZ(x:X):rH:=λ_ R H=>V3 H (x.ev R) λes _=>Dz (len es) λn=>some (.int .i64 (.ofNat n) 0)
def AYW(n:Nat):rH:=λ_ _ _=>some (.int .i64 (.ofNat n) 0)
def AQs(ok:Bool)(z:V)(r:Option (Nat×V)):Option V:=
 Option.rec (motive:=λ_=>Option V) (ABS ok (some (.J4 [z,.bool false])) (some z)) (λp=>ABS ok (some (.J4 [p.2,.bool true])) (some p.2)) r
def AL5(c:CK)(ok:Bool)(z:V)(m k:X):rH:=λ_ R H=>V3 H (m.ev R) λes _=>DR (ACb c (k.ev R) es 0) (AQs ok z)
def AG7(z:LV)(ps:List (Nat×Nat×X)):rH:=λ_ R _=>BP (kX ps R) (some (.agg (ACT ps R z)))
def ADb(x:X)(lo hi:Option X):rH:=λ_ R _=>Zr (x.ev R) R lo hi
def AT9(z:Nat)(x:X)(lo hi mx:Option X):rH:=λ_ R _=>AI5 z (x.ev R) R lo hi mx
def AMO(n esz:Nat)(x:X)(lo hi:Option X):rH:=λ_ R _=>(x.ev R).AFx (λid o=>Zp hi R n λh=>Zp lo R 0 λl=>
 BP (band (Nat.beq (Nat.mod o esz) 0) (band (Nat.ble l h) (Nat.ble h n))) (f3 (Nat.add (Nat.div o esz) l) (Nat.sub h l) (Nat.sub n l) λa b c=>.sl id a b c esz)) (λ_ _=>none)
def ARq(x y:X):rH:=λ_ R _=>(x.ev R).IL λk a s=>(y.ev R).IL λk' b t=>BP (band (keq k k') (Nat.beq (Nat.add s t) 0)) (some (.int k (Bool.rec a b (ilt a b)) 0))
def ASa(x y:X):rH:=λ_ R _=>(x.ev R).IL λk a s=>(y.ev R).IL λk' b t=>BP (band (keq k k') (Nat.beq (Nat.add s t) 0)) (some (.int k (Bool.rec a b (ilt b a)) 0))
def AUO(x:X):rH:=λG R H=>BP (Yi (isStr (x.ev R))) (DR (elems (x.ev R) G H 1) λl=>DR (AAq l) λc=>f3 (len l) c 0 λn c _=>.str n c)
def AGK(s c:X):rH:=λ_ R _=>(s.ev R).Tc λn cd=>(c.ev R).IL λk b _=>BP (Nat.beq (kno k) 4) (AQh b λb=>BP (Nat.blt b 256) (P5 (fK b n cd 0) λi=>some (.int .i64 i 0)))
def AQQ(x y:V):Option V:=x.Tc λl c=>y.Tc λm d=>some (.int .i64 (Bool.rec (Bool.rec (.ofNat 0) (.ofNat 1) (slt m d l c)) (.negSucc 0) (slt l c m d)) 0)
def AMF(x y:X):rH:=λ_ R _=>AQQ (x.ev R) (y.ev R)
def AN.ev(o:AN):rH:=AN.rec (motive:=λ_=>rH)
 eMv ALw ATj ATT AHJ ASs eEq ASJ ATU ATg ALe AGs ADC ACz AHo ADR AMx AMR AT0 AL3 AMM AMZ AYW AL5 AG7 ADb AT9 AMO ARq ASa AUO AGK AMF o
def AKu(L:LV)(n:Nat):T LV->T LV:=
 Nat.rec (motive:=λ_=>T LV->T LV) (λt=>t) (λi g t=>g (T.set t i L)) n
def GH(LS:D5):Nat->T LV->T LV:=
 List.rec (motive:=λ_=>Nat->T LV->T LV) (λ_ t=>t) (λL _ g i t=>g (Nat.succ i) (T.set t i L)) LS
def lD(parts:List (Nat×X)):RS->T LV->T LV:=
 List.rec (motive:=λ_=>RS->T LV->T LV) (λ_ t=>t) (λp _ g R t=>g R (T.set t p.1 (CZ (p.2.ev R)))) parts
def Zf(parts:List (Nat×X)):RS->Nat->Nat->Bool:=
 List.rec (motive:=λ_=>RS->Nat->Nat->Bool) (λ_ _ _=>true) (λp _ g R esz cnt=>band (band (kD (p.2.ev R)) (band (Nat.blt p.1 cnt) (Nat.beq (len (CZ (p.2.ev R))) esz))) (g R esz cnt)) parts
def V.APU(v:V):(Nat->Prop)->Prop:=
 V.rec (motive_1:=λ_=>(Nat->Prop)->Prop) (motive_2:=λ_=>PUnit)
  (λ_=>False)
  (λ_ _ _ _=>False)
  (λ_ _=>False)
  (λ_ _ _=>False)
  (λ_=>False)
  (λa _ f=>f a)
  (λ_ _ _=>False)
  (λ_=>False)
  (λ_ _ _ _ _ _=>False)
  (λ_ _ _ _ _=>False)
  (λ_ _ _ _ _ _=>False)
  (λ_=>False)
  (λ_ _=>False)
  (λ_=>False)
  (λ_ _ _ _ _ _=>False)
  (λ_ _ _=>False)
  (λ_ _ _=>False)
  (λ_=>False)
  (λ_ _ _ _=>False)
  ⟨⟩ (λ_ _ _ _=>⟨⟩) v
def V.zM(v:V):(Nat->Nat->Prop)->Prop:=
 V.rec (motive_1:=λ_=>(Nat->Nat->Prop)->Prop) (motive_2:=λ_=>PUnit)
  (λ_=>False)
  (λ_ _ _ _=>False)
  (λ_ _=>False)
  (λ_ _ _=>False)
  (λ_=>False)
  (λa b f=>f a b)
  (λ_ _ _=>False)
  (λ_=>False)
  (λ_ _ _ _ _ _=>False)
  (λ_ _ _ _ _=>False)
  (λ_ _ _ _ _ _=>False)
  (λ_=>False)
  (λ_ _=>False)
  (λ_=>False)
  (λ_ _ _ _ _ _=>False)
  (λ_ _ _=>False)
  (λ_ _ _=>False)
  (λ_=>False)
  (λ_ _ _ _=>False)
  ⟨⟩ (λ_ _ _ _=>⟨⟩) v
abbrev KA:=Rl->(Nat->V)->Prop
abbrev AlT:=RS->KA->Prop
def En(b:Bool)(p:Prop):Prop:=Bool.rec (motive:=λ_=>Prop->Prop) (λ_=>False) (λp=>p) b p
def AGi(v:V)(f:Nat->Prop):Prop:=IV (WW v λn=>some (.ptr n 0)) λv=>V.APU v f
def BD(esz:Nat)(es:D5):AlT:=λ_ k=>Ea (len es) λn=>k (.arr esz n (GH es 0 .e)) λid=>.ptr id 0
def AE9(x:X):AlT:=λR k=>En (kD (x.ev R)) (Ea (len (CZ (x.ev R))) λe=>k (.arr e 1 (T.set .e 0 (CZ (x.ev R)))) λid=>.ptr id 0)
def Aj(esz cnt:Nat)(z:LV)(ps:List (Nat×X)):AlT:=λR k=>En (Zf ps R esz cnt) (k (.arr esz cnt (lD ps R (AKu z cnt .e))) λid=>.sl id 0 cnt cnt esz)
def UU(esz bs:Nat)(z:LV)(l c:X):AlT:=λR k=>AGi (l.ev R) λl=>AGi (c.ev R) λc=>
 En (band (Nat.ble l c) (Nat.ble (Nat.mul bs c) 281474976710656)) (k (.arr esz c (AKu z c .e)) λid=>.sl id 0 l c esz)
def AV0:AlT:=λ_ k=>k (.map [] 0) λid=>.map id
def AQO(t e:Nat):AlT:=λ_ k=>k (.VT t e 0 0 0) λid=>.ptr id 0
def AA.al(o:AA):AlT:=AA.rec (motive:=λ_=>AlT) BD AE9 Aj UU AV0 AQO o
abbrev K:=KG->Heap->Nat->Prop
abbrev KV:=V->Heap->Nat->Prop
abbrev BQ:=Nat->List V->Heap->Nat->KV->Prop
def Qk(need bytes:Nat):Bool:=Nat.ble (Nat.mul need bytes) 140737488355328
abbrev AKm:=AV->Nat->Nat->D5->Heap->Nat->KV->Prop
def PK(esz bs:Nat)(OS LS:D5)(H:Heap)(n:Nat)(k:KV):Prop:=
 Ea (Nat.add (len OS) (len LS)) λneed=>En (Qk need bs) (Ea n λn=>k (.O5 n 0 need esz) (T.set H n (.arr esz need (GH LS (len OS) (GH OS 0 .e)))) (Nat.succ n))
def AXo:AKm:=λ_ esz bs LS H n k=>List.rec (motive:=λ_=>Prop) (k .Ae H n) (λ_ _ _=>PK esz bs [] LS H n k) LS
def ADw(id off ln cap esz need:Nat)(LS:D5)(H:Heap)(n:Nat)(k:KV)(b:Rl):Prop:=
 Rl.rec (motive:=λ_=>Prop) (λesz' cnt c=>En (band (Nat.beq esz esz') (Nat.ble (Nat.add off need) cnt)) (k (.sl id off need cap esz) (T.set H id (.arr esz cnt (GH LS (Nat.add off ln) c))) n)) (λ_ _=>False) False (λ_ _ _ _ _=>False) (λ_=>False) b
def AUq(id off ln cap e:Nat):AKm:=λ_ esz bs LS H n k=>En (Nat.beq e esz) (Ea (Nat.add ln (len LS)) λneed=>
 Bool.rec (motive:=λ_=>Prop) (IV (DK H id esz ln off) λOS=>PK esz bs OS LS H n k) (IV (T.get H id) λb=>ADw id off ln cap esz need LS H n k b) (Nat.ble need cap))
def bG(id off ln esz bs:Nat)(LS:D5)(H:Heap)(n:Nat)(k:KV)(b:Rl):Prop:=
 Rl.rec (motive:=λ_=>Prop) (λesz' cnt c=>Ea (Nat.add ln (len LS)) λneed=>En (band (Qk need bs) (band (Nat.beq esz esz') (Nat.ble (Nat.add off ln) cnt)))
  (Ea n λn=>Nat.rec (motive:=λ_=>Prop)
   (k (.O5 n 0 need esz) (T.set (T.set H id .dead) n (.arr esz need (GH LS ln c))) (Nat.succ n))
   (λ_ _=>IV (DK H id esz ln off) λOS=>k (.O5 n 0 need esz) (T.set (T.set H id .dead) n (.arr esz need (GH LS ln (GH OS 0 .e)))) (Nat.succ n)) off))
  (λ_ _=>False) False (λ_ _ _ _ _=>False) (λ_=>False) b
def AQJ(id off ln e:Nat):AKm:=λ_ esz bs LS H n k=>En (Nat.beq e esz) (List.rec (motive:=λ_=>Prop) (k (.O5 id off ln esz) H n)
 (λ_ _ _=>IV (T.get H id) λb=>bG id off ln esz bs LS H n k b) LS)
def APF(b off ln cap e:Nat):AKm:=λG esz bs LS H n k=>En (Nat.blt cap (Nat.add ln (len LS))) (IV (qE G b esz ln off) λOS=>PK esz bs OS LS H n k)
def aH:AKm:=λ_ _ _ _ _ _ _=>False
def AJf(v:V):AKm:=
 V.rec (motive_1:=λ_=>AKm) (motive_2:=λ_=>PUnit)
  (aH)
  (λ_ _ _=>aH)
  (λ_=>aH)
  (λ_ _=>aH)
  (aH)
  (λ_ _=>aH)
  (λ_ _=>aH)
  (AXo)
  (λa b c d e=>AUq a b c d e)
  (λa b c d=>AQJ a b c d)
  (λa b c d e=>APF a b c d e)
  (aH)
  (λ_=>aH)
  (aH)
  (λ_ _ _ _ _=>aH)
  (λ_ _=>aH)
  (λ_ _=>aH)
  (aH)
  (λ_ _ _=>aH)
  ⟨⟩ (λ_ _ _ _=>⟨⟩) v
def AXR(id off esz:Nat)(LS:D5)(H:Heap)(n:Nat)(k:KV)(b:Rl):Prop:=
 Rl.rec (motive:=λ_=>Prop) (λesz' cnt c=>En (band (Nat.beq esz esz') (Nat.ble (Nat.add off (len LS)) cnt)) (Ea (len LS) λm=>k (.int .i64 (.ofNat m) 0) (T.set H id (.arr esz cnt (GH LS off c))) n)) (λ_ _=>False) False (λ_ _ _ _ _=>False) (λ_=>False) b
abbrev CpT:=Nat->D5->Heap->Nat->KV->Prop
def AD2(id off ln:Nat):CpT:=λesz LS H n k=>IV (T.get H id) λb=>AXR id off esz (ZK ln LS) H n k b
def AJq(v:V):(Nat)->(D5)->(Heap)->(Nat)->(KV)->Prop:=
 V.rec (motive_1:=λ_=>(Nat)->(D5)->(Heap)->(Nat)->(KV)->Prop) (motive_2:=λ_=>PUnit)
  (λ_ _ _ _ _=>False)
  (λ_ _ _ _ _ _ _ _=>False)
  (λ_ _ _ _ _ _=>False)
  (λ_ _ _ _ _ _ _=>False)
  (λ_ _ _ _ _=>False)
  (λ_ _ _ _ _ _ _=>False)
  (λ_ _ _ _ _ _ _=>False)
  (λ_ _ H n k=>k (.int .i64 (.ofNat 0) 0) H n)
  (λa b c _ e z L H n k=>En (Nat.beq e z) (AD2 a b c z L H n k))
  (λa b c d z L H n k=>En (Nat.beq d z) (AD2 a b c z L H n k))
  (λ_ _ _ _ _ _ _ _ _ _=>False)
  (λ_ _ _ _ _=>False)
  (λ_ _ _ _ _ _=>False)
  (λ_ _ _ _ _=>False)
  (λ_ _ _ _ _ _ _ _ _ _=>False)
  (λ_ _ _ _ _ _ _=>False)
  (λ_ _ _ _ _ _ _=>False)
  (λ_ _ _ _ _=>False)
  (λ_ _ _ _ _ _ _ _=>False)
  ⟨⟩ (λ_ _ _ _=>⟨⟩) v
def AEu{α:Type}(l:List α):Nat->List α:=
 List.rec (motive:=λ_=>Nat->List α) (λ_=>[]) (λy ys g i=>Nat.rec (motive:=λ_=>List α) ys (λi _=>y::g i) i) l
def AYw(b:Rl):(ME->Nat->Option Rl)->Option Rl:=Rl.rec (motive:=λ_=>(ME->Nat->Option Rl)->Option Rl) (λ_ _ _ _=>none) (λes c f=>f es c) (λ_=>none) (λ_ _ _ _ _ _=>none) (λ_ _=>none) b
def AZA(H:Heap)(id:Nat)(f:ME->Nat->Option Rl)(g:Heap->Prop):Prop:=IV (T.get H id) λb=>IV (AYw b f) λb=>g (T.set H id b)
def AGb(v:V):(Heap)->(ME->Nat->Option Rl)->(Heap->Prop)->Prop:=
 V.rec (motive_1:=λ_=>(Heap)->(ME->Nat->Option Rl)->(Heap->Prop)->Prop) (motive_2:=λ_=>PUnit)
  (λ_ _ _=>False)
  (λ_ _ _ _ _ _=>False)
  (λ_ _ _ _=>False)
  (λ_ _ _ _ _=>False)
  (λ_ _ _=>False)
  (λ_ _ _ _ _=>False)
  (λ_ _ _ _ _=>False)
  (λ_ _ _=>False)
  (λ_ _ _ _ _ _ _ _=>False)
  (λ_ _ _ _ _ _ _=>False)
  (λ_ _ _ _ _ _ _ _=>False)
  (λ_ _ _=>False)
  (λa H f g=>AZA H a f g)
  (λ_ _ _=>False)
  (λ_ _ _ _ _ _ _ _=>False)
  (λ_ _ _ _ _=>False)
  (λ_ _ _ _ _=>False)
  (λ_ _ _=>False)
  (λ_ _ _ _ _ _=>False)
  ⟨⟩ (λ_ _ _ _=>⟨⟩) v
def V.WX(v:V):(Nat->LV->LV->Prop)->Prop:=
 V.rec (motive_1:=λ_=>(Nat->LV->LV->Prop)->Prop) (motive_2:=λ_=>PUnit)
  (λ_=>False)
  (λ_ _ _ _=>False)
  (λ_ _=>False)
  (λ_ _ _=>False)
  (λ_=>False)
  (λ_ _ _=>False)
  (λ_ _ _=>False)
  (λ_=>False)
  (λ_ _ _ _ _ _=>False)
  (λ_ _ _ _ _=>False)
  (λ_ _ _ _ _ _=>False)
  (λ_=>False)
  (λ_ _=>False)
  (λ_=>False)
  (λa b c _ _ f=>f a b c)
  (λ_ _ _=>False)
  (λ_ _ _=>False)
  (λ_=>False)
  (λ_ _ _ _=>False)
  ⟨⟩ (λ_ _ _ _=>⟨⟩) v
def uY(v:V):LV:=
 V.rec (motive_1:=λ_=>LV) (motive_2:=λ_=>PUnit)
  ([])
  (λ_ _ _=>[])
  (λ_=>[])
  (λ_ _=>[])
  ([])
  (λ_ _=>[])
  (λ_ _=>[])
  ([])
  (λ_ _ _ _ _=>[])
  (λ_ _ _ _=>[])
  (λ_ _ _ _ _=>[])
  ([])
  (λ_=>[])
  ([])
  (λ_ _ _ _ _=>[])
  (λ_ _=>[])
  (λa _=>a)
  ([])
  (λ_ _ _=>[])
  ⟨⟩ (λ_ _ _ _=>⟨⟩) v
abbrev ExT:=AV->BQ->RS->Heap->Nat->KV->Prop
def Aa7(x:X):ExT:=λ_ _ R H n k=>k (x.ev R) H n
def xSt(sz:Nat)(x v:X):ExT:=λ_ _ R H n k=>En (band (kD (v.ev R)) (Nat.beq (len (CZ (v.ev R))) sz)) (IV (stP (x.ev R) H sz (CZ (v.ev R))) λH=>k .undef H n)
def AbH(esz bs:Nat)(x y:X):ExT:=λG _ R H n k=>IV (elems (y.ev R) G H esz) λLS=>AJf (x.ev R) G esz bs LS H n k
def AZS(esz:Nat)(x y:X):ExT:=λG _ R H n k=>IV (elems (y.ev R) G H esz) λLS=>AJq (x.ev R) esz LS H n k
def AXw(ck:CK)(key v:V)(es:ME)(c:Nat):Option Rl:=DR (ACb ck key es 0) λr=>
 Option.rec (motive:=λ_=>Option Rl) (some (.map (cat es [(key,v,c)]) (Nat.succ c))) (λp=>DR (nth es p.1) λe=>some (.map (AD5 (e.1,v,e.2.2) es p.1) c)) r
def AWp(ck:CK)(key:V)(es:ME)(c:Nat):Option Rl:=DR (ACb ck key es 0) λr=>
 Option.rec (motive:=λ_=>Option Rl) (some (.map es c)) (λp=>some (.map (AEu es p.1) c)) r
def AbJ(c:CK)(m key v:X):ExT:=λ_ _ R H n k=>AGb (m.ev R) H (AXw c (key.ev R) (v.ev R)) λH=>k .undef H n
def Aat(c:CK)(m key:X):ExT:=λ_ _ R H n k=>AGb (m.ev R) H (AWp c (key.ev R)) λH=>k (.J4 []) H n
def Aae(m:X):ExT:=λ_ _ R H n k=>AGb (m.ev R) H (λ_ c=>some (.map [] c)) λH=>k (.J4 []) H n
def AYX(f:Nat)(args:List X):ExT:=λ_ call R H n k=>call f (iW args R) H n k
def AVP(x:X)(args:List X):ExT:=λ_ call R H n k=>V.WX (x.ev R) λf a c=>call f (cat a (cat (iW args R) c)) H n k
def AXh(dp:P2)(x:X)(args:List X):ExT:=λ_ _ R H n k=>V.WX (x.ev R) λf a c=>k (.J4 (.fn f (cat a (iW args R)) c::uY (OD (T.Ed dp R.rg)))) H n
def AbF(x:X):ExT:=λ_ _ R H n k=>IV ((x.ev R).Tc λl c=>some (.ptr l c)) λv=>V.zM v λl c=>
 Ea n λn=>k (.O5 n 0 l 1) (T.set H n (.arr 1 l (GH (VB l c) 0 .e))) (Nat.succ n)
def AE.ex(o:AE):ExT:=AE.rec (motive:=λ_=>ExT) Aa7 xSt AbH AZS AbJ Aat Aae AYX AVP AXh AbF o
def AbQ(p:P2)(v:V)(E:RS):RS:=RS.rec (motive:=λ_=>P2->V->RS) (λL R p v=>.mk L (T.aW v p R)) E p v
def AYj(v:V)(E:RS):RS:=RS.rec (motive:=λ_=>V->RS) (λL R v=>.mk (v::L) R) E v
def Gz(d:tX)(v:V):RS->RS:=tX.rec (motive:=λ_=>V->RS->RS) (λ_ R=>R) AbQ AYj d v
abbrev KE:=RS->Heap->Nat->Prop
abbrev XoT:=AV->BQ->tX->RS->Heap->Nat->KE->Prop
def oN(o:AN):XoT:=λG _ d R H n k=>AP (o.ev G R H) λv=>k (Gz d v R) H n
def oA(o:AA):XoT:=λ_ _ d R H n k=>o.al R λb f=>Ea n λn=>k (Gz d (f n) R) (T.set H n b) (Nat.succ n)
def oE(o:AE):XoT:=λG call d R H n k=>o.ex G call R H n λv H n=>k (Gz d v R) H n
def AO.ex(o:AO):XoT:=AO.rec (motive:=λ_=>XoT) oN oA oE o
def Ac(v:V)(b:Bool)(yes no:Prop):Prop:=v.AGH λt=>Bool.rec (motive:=λ_=>Prop->Prop->Prop) (λ_ n=>n) (λy _=>y) (APb t b) yes no
def oI(v:V):(Bool)->(Prop)->(Prop)->Prop:=
 V.rec (motive_1:=λ_=>(Bool)->(Prop)->(Prop)->Prop) (motive_2:=λ_=>PUnit)
  (λ_ _ _=>False)
  (λ_ _ _ _ _ _=>False)
  (λa b' yes no=>Bool.rec (motive:=λ_=>Prop->Prop->Prop) (λ_ n=>n) (λy _=>y) (APb a b') yes no)
  (λ_ _ _ _ _=>False)
  (λ_ _ _=>False)
  (λ_ _ _ _ _=>False)
  (λ_ _ _ _ _=>False)
  (λ_ _ _=>False)
  (λ_ _ _ _ _ _ _ _=>False)
  (λ_ _ _ _ _ _ _=>False)
  (λ_ _ _ _ _ _ _ _=>False)
  (λ_ _ _=>False)
  (λ_ _ _ _=>False)
  (λ_ _ _=>False)
  (λ_ _ _ _ _ _ _ _=>False)
  (λ_ _ _ _ _=>False)
  (λa _ _ _ no=>List.rec (motive:=λ_=>Prop) no (λ_ _ _=>False) a)
  (λ_ _ _=>False)
  (λ_ _ _ _ _ _=>False)
  ⟨⟩ (λ_ _ _ _=>⟨⟩) v
abbrev XpT:=AV->BQ->RS->Heap->Nat->KE->Prop
def gNo(d:tX)(o:AO):XpT:=λG call R H n k=>o.ex G call d R H n k
def gOn(x:X)(b:Bool)(d:tX)(o:AO):XpT:=λG call R H n k=>oI (x.ev R) b (o.ex G call d R H n k) (k (Gz d (.J4 []) R) H n)
def y7.ex(o:y7):XpT:=y7.rec (motive:=λ_=>XpT) (λd g o=>Gd.rec (motive:=λ_=>tX->AO->XpT) gNo gOn g d o) o
def ALr(v:V):(IntKind)->(Int)->(Nat)->Bool:=
 V.rec (motive_1:=λ_=>(IntKind)->(Int)->(Nat)->Bool) (motive_2:=λ_=>PUnit)
  (λ_ _ _=>false)
  (λa b c k n s=>band (keq k a) (band (ieq n b) (band (Nat.beq s 0) (Nat.beq c 0))))
  (λ_ _ _ _=>false)
  (λ_ _ _ _ _=>false)
  (λ_ _ _=>false)
  (λ_ _ _ _ _=>false)
  (λ_ _ _ _ _=>false)
  (λ_ _ _=>false)
  (λ_ _ _ _ _ _ _ _=>false)
  (λ_ _ _ _ _ _ _=>false)
  (λ_ _ _ _ _ _ _ _=>false)
  (λ_ _ _=>false)
  (λ_ _ _ _=>false)
  (λ_ _ _=>false)
  (λ_ _ _ _ _ _ _ _=>false)
  (λ_ _ _ _ _=>false)
  (λ_ _ _ _ _=>false)
  (λ_ _ _=>false)
  (λ_ _ _ _ _ _=>false)
  ⟨⟩ (λ_ _ _ _=>⟨⟩) v
def AJ3(v:V):(Bool)->Bool:=
 V.rec (motive_1:=λ_=>(Bool)->Bool) (motive_2:=λ_=>PUnit)
  (λ_=>false)
  (λ_ _ _ _=>false)
  (λa x=>APb x a)
  (λ_ _ _=>false)
  (λ_=>false)
  (λ_ _ _=>false)
  (λ_ _ _=>false)
  (λ_=>false)
  (λ_ _ _ _ _ _=>false)
  (λ_ _ _ _ _=>false)
  (λ_ _ _ _ _ _=>false)
  (λ_=>false)
  (λ_ _=>false)
  (λ_=>false)
  (λ_ _ _ _ _ _=>false)
  (λ_ _ _=>false)
  (λ_ _ _=>false)
  (λ_=>false)
  (λ_ _ _ _=>false)
  ⟨⟩ (λ_ _ _ _=>⟨⟩) v
def AMN(v:V):(Nat)->(Nat)->Bool:=
 V.rec (motive_1:=λ_=>(Nat)->(Nat)->Bool) (motive_2:=λ_=>PUnit)
  (λ_ _=>false)
  (λ_ _ _ _ _=>false)
  (λ_ _ _=>false)
  (λa b l m=>band (Nat.beq l a) (Nat.beq m b))
  (λ_ _=>false)
  (λ_ _ _ _=>false)
  (λ_ _ _ _=>false)
  (λ_ _=>false)
  (λ_ _ _ _ _ _ _=>false)
  (λ_ _ _ _ _ _=>false)
  (λ_ _ _ _ _ _ _=>false)
  (λ_ _=>false)
  (λ_ _ _=>false)
  (λ_ _=>false)
  (λ_ _ _ _ _ _ _=>false)
  (λ_ _ _ _=>false)
  (λ_ _ _ _=>false)
  (λ_ _=>false)
  (λ_ _ _ _ _=>false)
  ⟨⟩ (λ_ _ _ _=>⟨⟩) v
def AGM(v:V):Bool:=
 V.rec (motive_1:=λ_=>Bool) (motive_2:=λ_=>PUnit)
  (false)
  (λ_ _ _=>false)
  (λ_=>false)
  (λ_ _=>false)
  (true)
  (λ_ _=>false)
  (λ_ _=>false)
  (false)
  (λ_ _ _ _ _=>false)
  (λ_ _ _ _=>false)
  (λ_ _ _ _ _=>false)
  (false)
  (λ_=>false)
  (false)
  (λ_ _ _ _ _=>false)
  (λ_ _=>false)
  (λ_ _=>false)
  (false)
  (λ_ _ _=>false)
  ⟨⟩ (λ_ _ _ _=>⟨⟩) v
def AGt(v:V):Bool:=
 V.rec (motive_1:=λ_=>Bool) (motive_2:=λ_=>PUnit)
  (false)
  (λ_ _ _=>false)
  (λ_=>false)
  (λ_ _=>false)
  (false)
  (λ_ _=>false)
  (λ_ _=>false)
  (true)
  (λ_ _ _ _ _=>false)
  (λ_ _ _ _=>false)
  (λ_ _ _ _ _=>false)
  (false)
  (λ_=>false)
  (false)
  (λ_ _ _ _ _=>false)
  (λ_ _=>false)
  (λ_ _=>false)
  (false)
  (λ_ _ _=>false)
  ⟨⟩ (λ_ _ _ _=>⟨⟩) v
def AGX(v:V):Bool:=
 V.rec (motive_1:=λ_=>Bool) (motive_2:=λ_=>PUnit)
  (false)
  (λ_ _ _=>false)
  (λ_=>false)
  (λ_ _=>false)
  (false)
  (λ_ _=>false)
  (λ_ _=>false)
  (false)
  (λ_ _ _ _ _=>false)
  (λ_ _ _ _=>false)
  (λ_ _ _ _ _=>false)
  (true)
  (λ_=>false)
  (false)
  (λ_ _ _ _ _=>false)
  (λ_ _=>false)
  (λ_ _=>false)
  (false)
  (λ_ _ _=>false)
  ⟨⟩ (λ_ _ _ _=>⟨⟩) v
def AGQ(v:V):Bool:=
 V.rec (motive_1:=λ_=>Bool) (motive_2:=λ_=>PUnit)
  (false)
  (λ_ _ _=>false)
  (λ_=>false)
  (λ_ _=>false)
  (false)
  (λ_ _=>false)
  (λ_ _=>false)
  (false)
  (λ_ _ _ _ _=>false)
  (λ_ _ _ _=>false)
  (λ_ _ _ _ _=>false)
  (false)
  (λ_=>false)
  (true)
  (λ_ _ _ _ _=>false)
  (λ_ _=>false)
  (λ_ _=>false)
  (false)
  (λ_ _ _=>false)
  ⟨⟩ (λ_ _ _ _=>⟨⟩) v
def APJ(v:V):(Nat)->(Nat)->Bool:=
 V.rec (motive_1:=λ_=>(Nat)->(Nat)->Bool) (motive_2:=λ_=>PUnit)
  (λ_ _=>false)
  (λ_ _ _ _ _=>false)
  (λ_ _ _=>false)
  (λ_ _ _ _=>false)
  (λ_ _=>false)
  (λa b l m=>band (Nat.beq l a) (Nat.beq m b))
  (λ_ _ _ _=>false)
  (λ_ _=>false)
  (λ_ _ _ _ _ _ _=>false)
  (λ_ _ _ _ _ _=>false)
  (λ_ _ _ _ _ _ _=>false)
  (λ_ _=>false)
  (λ_ _ _=>false)
  (λ_ _=>false)
  (λ_ _ _ _ _ _ _=>false)
  (λ_ _ _ _=>false)
  (λ_ _ _ _=>false)
  (λ_ _=>false)
  (λ_ _ _ _ _=>false)
  ⟨⟩ (λ_ _ _ _=>⟨⟩) v
def AKV(v:V):(Nat)->(Nat)->Bool:=
 V.rec (motive_1:=λ_=>(Nat)->(Nat)->Bool) (motive_2:=λ_=>PUnit)
  (λ_ _=>false)
  (λ_ _ _ _ _=>false)
  (λ_ _ _=>false)
  (λ_ _ _ _=>false)
  (λ_ _=>false)
  (λ_ _ _ _=>false)
  (λa b l m=>band (Nat.beq l a) (Nat.beq m b))
  (λ_ _=>false)
  (λ_ _ _ _ _ _ _=>false)
  (λ_ _ _ _ _ _=>false)
  (λ_ _ _ _ _ _ _=>false)
  (λ_ _=>false)
  (λ_ _ _=>false)
  (λ_ _=>false)
  (λ_ _ _ _ _ _ _=>false)
  (λ_ _ _ _=>false)
  (λ_ _ _ _=>false)
  (λ_ _=>false)
  (λ_ _ _ _ _=>false)
  ⟨⟩ (λ_ _ _ _=>⟨⟩) v
def APN(v:V):(Nat)->Bool:=
 V.rec (motive_1:=λ_=>(Nat)->Bool) (motive_2:=λ_=>PUnit)
  (λ_=>false)
  (λ_ _ _ _=>false)
  (λ_ _=>false)
  (λ_ _ _=>false)
  (λ_=>false)
  (λ_ _ _=>false)
  (λ_ _ _=>false)
  (λ_=>false)
  (λ_ _ _ _ _ _=>false)
  (λ_ _ _ _ _=>false)
  (λ_ _ _ _ _ _=>false)
  (λ_=>false)
  (λa l=>Nat.beq l a)
  (λ_=>false)
  (λ_ _ _ _ _ _=>false)
  (λ_ _ _=>false)
  (λ_ _ _=>false)
  (λ_=>false)
  (λ_ _ _ _=>false)
  ⟨⟩ (λ_ _ _ _=>⟨⟩) v
def ATR(v:V):(Nat)->(Nat)->(Nat)->(Nat)->(Nat)->Bool:=
 V.rec (motive_1:=λ_=>(Nat)->(Nat)->(Nat)->(Nat)->(Nat)->Bool) (motive_2:=λ_=>PUnit)
  (λ_ _ _ _ _=>false)
  (λ_ _ _ _ _ _ _ _=>false)
  (λ_ _ _ _ _ _=>false)
  (λ_ _ _ _ _ _ _=>false)
  (λ_ _ _ _ _=>false)
  (λ_ _ _ _ _ _ _=>false)
  (λ_ _ _ _ _ _ _=>false)
  (λ_ _ _ _ _=>false)
  (λa b c d e i j k l m=>band (Nat.beq i a) (band (Nat.beq j b) (band (Nat.beq k c) (band (Nat.beq l d) (Nat.beq m e)))))
  (λ_ _ _ _ _ _ _ _ _=>false)
  (λ_ _ _ _ _ _ _ _ _ _=>false)
  (λ_ _ _ _ _=>false)
  (λ_ _ _ _ _ _=>false)
  (λ_ _ _ _ _=>false)
  (λ_ _ _ _ _ _ _ _ _ _=>false)
  (λ_ _ _ _ _ _ _=>false)
  (λ_ _ _ _ _ _ _=>false)
  (λ_ _ _ _ _=>false)
  (λ_ _ _ _ _ _ _ _=>false)
  ⟨⟩ (λ_ _ _ _=>⟨⟩) v
def AMH(v:V):(Nat)->(Nat)->(Nat)->(Nat)->Bool:=
 V.rec (motive_1:=λ_=>(Nat)->(Nat)->(Nat)->(Nat)->Bool) (motive_2:=λ_=>PUnit)
  (λ_ _ _ _=>false)
  (λ_ _ _ _ _ _ _=>false)
  (λ_ _ _ _ _=>false)
  (λ_ _ _ _ _ _=>false)
  (λ_ _ _ _=>false)
  (λ_ _ _ _ _ _=>false)
  (λ_ _ _ _ _ _=>false)
  (λ_ _ _ _=>false)
  (λ_ _ _ _ _ _ _ _ _=>false)
  (λa b c d i j k l=>band (Nat.beq i a) (band (Nat.beq j b) (band (Nat.beq k c) (Nat.beq l d))))
  (λ_ _ _ _ _ _ _ _ _=>false)
  (λ_ _ _ _=>false)
  (λ_ _ _ _ _=>false)
  (λ_ _ _ _=>false)
  (λ_ _ _ _ _ _ _ _ _=>false)
  (λ_ _ _ _ _ _=>false)
  (λ_ _ _ _ _ _=>false)
  (λ_ _ _ _=>false)
  (λ_ _ _ _ _ _ _=>false)
  ⟨⟩ (λ_ _ _ _=>⟨⟩) v
def AM1(v:V):(Nat)->(Nat)->(Nat)->(Nat)->(Nat)->Bool:=
 V.rec (motive_1:=λ_=>(Nat)->(Nat)->(Nat)->(Nat)->(Nat)->Bool) (motive_2:=λ_=>PUnit)
  (λ_ _ _ _ _=>false)
  (λ_ _ _ _ _ _ _ _=>false)
  (λ_ _ _ _ _ _=>false)
  (λ_ _ _ _ _ _ _=>false)
  (λ_ _ _ _ _=>false)
  (λ_ _ _ _ _ _ _=>false)
  (λ_ _ _ _ _ _ _=>false)
  (λ_ _ _ _ _=>false)
  (λ_ _ _ _ _ _ _ _ _ _=>false)
  (λ_ _ _ _ _ _ _ _ _=>false)
  (λa b c d e i j k l m=>band (Nat.beq i a) (band (Nat.beq j b) (band (Nat.beq k c) (band (Nat.beq l d) (Nat.beq m e)))))
  (λ_ _ _ _ _=>false)
  (λ_ _ _ _ _ _=>false)
  (λ_ _ _ _ _=>false)
  (λ_ _ _ _ _ _ _ _ _ _=>false)
  (λ_ _ _ _ _ _ _=>false)
  (λ_ _ _ _ _ _ _=>false)
  (λ_ _ _ _ _=>false)
  (λ_ _ _ _ _ _ _ _=>false)
  ⟨⟩ (λ_ _ _ _=>⟨⟩) v
def PL(v:V):(V)->Bool:=
 V.rec (motive_1:=λ_=>(V)->Bool) (motive_2:=λ_=>PUnit)
  (λ_=>false)
  (λa b c y=>ALr y a b c)
  (λa y=>AJ3 y a)
  (λa b y=>AMN y a b)
  (λy=>AGM y)
  (λa b y=>APJ y a b)
  (λa b y=>AKV y a b)
  (λy=>AGt y)
  (λa b c d e y=>ATR y a b c d e)
  (λa b c d y=>AMH y a b c d)
  (λa b c d e y=>AM1 y a b c d e)
  (λy=>AGX y)
  (λa y=>APN y a)
  (λy=>AGQ y)
  (λ_ _ _ _ _ _=>false)
  (λ_ _ _=>false)
  (λ_ _ _=>false)
  (λ_=>false)
  (λ_ _ _ _=>false)
  ⟨⟩ (λ_ _ _ _=>⟨⟩) v
def ABl(a:List V):List V->Bool:=
 List.rec (motive:=λ_=>List V->Bool) (λb=>List.rec (motive:=λ_=>Bool) true (λ_ _ _=>false) b)
  (λx _ g b=>List.rec (motive:=λ_=>Bool) false (λy ys _=>band (PL x y) (g ys)) b) a
def AU5(v:V):(LV)->Bool:=
 V.rec (motive_1:=λ_=>(LV)->Bool) (motive_2:=λ_=>PUnit)
  (λ_=>false)
  (λ_ _ _ _=>false)
  (λ_ _=>false)
  (λ_ _ _=>false)
  (λ_=>false)
  (λ_ _ _=>false)
  (λ_ _ _=>false)
  (λ_=>false)
  (λ_ _ _ _ _ _=>false)
  (λ_ _ _ _ _=>false)
  (λ_ _ _ _ _ _=>false)
  (λ_=>false)
  (λ_ _=>false)
  (λ_=>false)
  (λ_ _ _ _ _ _=>false)
  (λa _ l=>ABl l a)
  (λ_ _ _=>false)
  (λ_=>false)
  (λ_ _ _ _=>false)
  ⟨⟩ (λ_ _ _ _=>⟨⟩) v
def AUh(v:V):(LV)->Bool:=
 V.rec (motive_1:=λ_=>(LV)->Bool) (motive_2:=λ_=>PUnit)
  (λ_=>false)
  (λ_ _ _ _=>false)
  (λ_ _=>false)
  (λ_ _ _=>false)
  (λ_=>false)
  (λ_ _ _=>false)
  (λ_ _ _=>false)
  (λ_=>false)
  (λ_ _ _ _ _ _=>false)
  (λ_ _ _ _ _=>false)
  (λ_ _ _ _ _ _=>false)
  (λ_=>false)
  (λ_ _=>false)
  (λ_=>false)
  (λ_ _ _ _ _ _=>false)
  (λ_ _ _=>false)
  (λa _ l=>ABl l a)
  (λ_=>false)
  (λ_ _ _ _=>false)
  ⟨⟩ (λ_ _ _ _=>⟨⟩) v
def AHw(v:V):Bool:=
 V.rec (motive_1:=λ_=>Bool) (motive_2:=λ_=>PUnit)
  (true)
  (λ_ _ _=>false)
  (λ_=>false)
  (λ_ _=>false)
  (false)
  (λ_ _=>false)
  (λ_ _=>false)
  (false)
  (λ_ _ _ _ _=>false)
  (λ_ _ _ _=>false)
  (λ_ _ _ _ _=>false)
  (false)
  (λ_=>false)
  (false)
  (λ_ _ _ _ _=>false)
  (λ_ _=>false)
  (λ_ _=>false)
  (false)
  (λ_ _ _=>false)
  ⟨⟩ (λ_ _ _ _=>⟨⟩) v
def BU(v:V):(V)->Bool:=
 V.rec (motive_1:=λ_=>(V)->Bool) (motive_2:=λ_=>PUnit)
  (λy=>AHw y)
  (λa b c y=>ALr y a b c)
  (λa y=>AJ3 y a)
  (λa b y=>AMN y a b)
  (λy=>AGM y)
  (λa b y=>APJ y a b)
  (λa b y=>AKV y a b)
  (λy=>AGt y)
  (λa b c d e y=>ATR y a b c d e)
  (λa b c d y=>AMH y a b c d)
  (λa b c d e y=>AM1 y a b c d e)
  (λy=>AGX y)
  (λa y=>APN y a)
  (λy=>AGQ y)
  (λ_ _ _ _ _ _=>false)
  (λa _ y=>AU5 y a)
  (λa _ y=>AUh y a)
  (λ_=>false)
  (λ_ _ _ _=>false)
  ⟨⟩ (λ_ _ _ _=>⟨⟩) v
inductive AI where
 |op (o:y7)
 |re (d:P2) (g:Gd) (o:AN)
inductive AC where
 |skip
 |ops (l:List y7)
 |reg (l:List AI)
 |seq (a b:AC)
 |cond (x:X) (a b:AC)
 |block (id:Nat) (c:AC)
 |loop (c:AC)
 |exit (id:Nat)
 |ret
def Rf(l:List y7):XpT:=
 List.rec (motive:=λ_=>XpT) (λ_ _ R H n k=>k R H n) (λo _ g G call R H n k=>o.ex G call R H n λR H n=>g G call R H n k) l
abbrev ReT:=AV->RS->Heap->P2->AN->Prop->Prop
def AYN:ReT:=λG R H d o k=>AP (o.ev G R H) λv=>En (BU v (OD (T.Ed d R.rg))) k
def Aaq(x:X)(b:Bool):ReT:=λG R H d o k=>oI (x.ev R) b (AP (o.ev G R H) λv=>En (BU v (OD (T.Ed d R.rg))) k) k
def AXg(g:Gd):ReT:=Gd.rec (motive:=λ_=>ReT) AYN Aaq g
def AI.ex(i:AI):XpT:=AI.rec (motive:=λ_=>XpT) (λo=>o.ex) (λd g o G _ R H n k=>AXg g G R H d o (k R H n)) i
def DV(l:List AI):XpT:=
 List.rec (motive:=λ_=>XpT) (λ_ _ R H n k=>k R H n) (λi _ g G call R H n k=>i.ex G call R H n λR H n=>g G call R H n k) l
abbrev KX:=Nat->K
abbrev M:=AV->BQ->Nat->KG->Heap->Nat->K->KX->K->Prop
def Dc:M:=λ_ _ _ R H n k _ _=>k R H n
def ARz(l:List y7):M:=λG call _ R H n k _ _=>Rf l G call (.mk [] R) H n λE H n=>k E.rg H n
def AS0(l:List AI):M:=λG call _ R H n k _ _=>DV l G call (.mk [] R) H n λE H n=>k E.rg H n
def AP7(_ _:AC)(a b:M):M:=λG call lf R H n k x r=>a G call lf R H n (λR H n=>b G call lf R H n k x r) x r
def AIJ(c:X)(_ _:AC)(a b:M):M:=λG call lf R H n k x r=>Ac (c.ev (.mk [] R)) true (a G call lf R H n k x r) (b G call lf R H n k x r)
def Iy(id:Nat)(k:K)(x:KX):KX:=λi R H n=>Bool.rec (motive:=λ_=>Prop->Prop->Prop) (λa _=>a) (λ_ b=>b) (Nat.beq i id) (x i R H n) (k R H n)
def AEP(id:Nat)(_:AC)(a:M):M:=λG call lf R H n k x r=>a G call lf R H n k (Iy id k x) r
def YE(a:M)(G:AV)(call:BQ)(lf0 lf:Nat):KG->Heap->Nat->KX->K->Prop:=
 Nat.rec (motive:=λ_=>KG->Heap->Nat->KX->K->Prop) (λ_ _ _ _ _=>False) (λ_ g R H n x r=>a G call lf0 R H n (λR H n=>g R H n x r) x r) lf
def AZF(_:AC)(a:M):M:=λG call lf R H n _ x r=>YE a G call lf lf R H n x r
def AOi(id:Nat):M:=λ_ _ _ R H n _ x _=>x id R H n
def AWK:M:=λ_ _ _ R H n _ _ r=>r R H n
def AC.ex(c:AC):M:=AC.rec (motive:=λ_=>M) Dc ARz AS0 AP7 AIJ AEP AZF AOi AWK c
inductive AR where
 |tmp (p:P2)|cell1 (p:P2)|celln (p:P2) (n:Nat)
inductive Nk where
 |join|rep|ANQ (t e:Nat)|ALH (t e:Nat)
inductive AF where
 |mk (np:Nat) (code:AC) (res:List AR) (dp:tX) (dg:Nat)
 |nat (k:Nk)
def AR.get(r:AR):AV->KG->Heap->Option V:=
 AR.rec (motive:=λ_=>AV->KG->Heap->Option V) (λp _ R _=>some (OD (T.Ed p R))) (λp G R H=>QT (ldP (OD (T.Ed p R)) G H 1) λL=>nth L 0)
  (λp n G R H=>QT (ldP (OD (T.Ed p R)) G H n) λL=>some (.agg L)) r
def ACo(l:List AR):AV->KG->Heap->Option LV:=
 List.rec (motive:=λ_=>AV->KG->Heap->Option LV) (λ_ _ _=>some []) (λr _ g G R H=>DR (r.get G R H) λv=>DR (g G R H) λvs=>some (v::vs)) l
def GN(l:List V):V:=List.rec (motive:=λ_=>V) (V.J4 []) (λv vs _=>List.rec (motive:=λ_=>V) v (λw ws _=>V.J4 (v::w::ws)) vs) l
def iF(args:List V):Nat->KG->KG:=
 List.rec (motive:=λ_=>Nat->KG->KG) (λ_ R=>R) (λv _ g i R=>g (Nat.succ i) (T.set R i v)) args
def O7(dg:Nat)(l:List V):BQ->Heap->Nat->(Heap->Nat->Prop)->Prop:=
 List.rec (motive:=λ_=>BQ->Heap->Nat->(Heap->Nat->Prop)->Prop) (λ_ H n k=>k H n)
  (λv _ g call H n k=>V.WX v λf a c=>En (Nat.beq f dg) (call f (cat a c) H n λ_ H n=>g call H n k)) l
def AE5(res:List AR)(G:AV)(k:KV):K:=λR H n=>IV (ACo res G R H) λl=>k (GN l) H n
def KL(res:List AR)(dg:Nat)(d:tX):AV->BQ->KV->K:=
 tX.rec (motive:=λ_=>AV->BQ->KV->K) (λG _ k=>AE5 res G k) (λp G call k R H n=>O7 dg (uY (OD (T.Ed p R))) call H n λH n=>AE5 res G k R H n) (λG _ k=>AE5 res G k) d
def zH(p q:Nat×Nat):Nat×Nat:=(p.1+q.1,p.2+256^p.1*q.2)
def ACB:D5->Option (List (Nat×Nat))
 |[]=>some []
 |[.str l c]::r=>match ACB r with|some x=>some ((l,c)::x)|none=>none
 |_::_=>none
def dQ(s:Nat×Nat):List (Nat×Nat)->Nat×Nat
 |[]=>(0,0)
 |a::r=>r.foldl (λp q=>zH (zH p s) q) a
def ALa(s:Nat×Nat):Nat->Nat×Nat
 |0=>(0,0)
 |n+1=>zH s (ALa s n)
def Z5:Nat:=140737488355328
def AAv(x y:V)(G:AV)(H:Heap)(n:Nat)(k:KV):Prop:=
 match y with
 |.str sl sc=>En (Yi (isStr x)) <| IV (elems x G H 1) λLS=>IV (ACB LS) λss=>En (decide (ss.length<=Z5/\(dQ (sl,sc) ss).1<=Z5)) (k (.str (dQ (sl,sc) ss).1 (dQ (sl,sc) ss).2) H n)
 |_=>False
def AG1(x y:V)(H:Heap)(n:Nat)(k:KV):Prop:=
 match x,y with
 |.str l c,.int .i64 (.ofNat m) _=>En (decide (m<=9223372036854775807/\l*m<=Z5)) (k (.str (ALa (l,c) m).1 (ALa (l,c) m).2) H n)
 |_,_=>False
def ADJ(t e:Nat)(x y:V)(H:Heap)(n:Nat)(k:KV):Prop:=
 match x,y with
 |.ptr id 0,.str m d=>(match T.get H id with
  |some (.VT t' e' l c j)=>En (decide (t'=t/\e'=e/\l+m<=Z5)) (k (.J4 [.int .i64 (.ofNat m) 0,.AHW]) (T.set (T.set (bif decide (l=0)then H else T.set H j .dead) n (.own id)) id (.VT t e (zH (l,c) (m,d)).1 (zH (l,c) (m,d)).2 n)) (n+1))
  |_=>False)
 |_,_=>False
def ADM(t e:Nat)(x:V)(H:Heap)(n:Nat)(k:KV):Prop:=
 match x with
 |.ptr id 0=>(match T.get H id with
  |some (.VT t' e' l c _)=>En (decide (t'=t/\e'=e)) (k (.str l c) (T.set H id .dead) n)
  |_=>False)
 |_=>False
def tY(f:Nk)(G:AV)(args:List V)(H:Heap)(n:Nat)(k:KV):Prop:=
 match f,args with
 |.join,[x,y]=>AAv x y G H n k
 |.rep,[x,y]=>AG1 x y H n k
 |.ANQ t e,[x,y]=>ADJ t e x y H n k
 |.ALH t e,[x]=>ADM t e x H n k
 |_,_=>False
def noX:KX:=λ_ _ _ _=>False
def mX(f:AF):AV->BQ->Nat->List V->Heap->Nat->KV->Prop:=
 AF.rec (motive:=λ_=>AV->BQ->Nat->List V->Heap->Nat->KV->Prop) (λnp code res d dg G call lf args H n k=>En (Nat.beq (len args) np) (code.ex G call lf (iF args 0 .e) H n (KL res dg d G call k) noX (KL res dg d G call k))) (λf G _ _ args H n k=>tY f G args H n k) f
def run(F:T AF)(G:AV)(lf:Nat)(fuel:Nat):BQ:=
 Nat.rec (motive:=λ_=>BQ) (λ_ _ _ _ _=>False) (λ_ call f args H n k=>IV (T.get F f) λaf=>mX af G call lf args H n k) fuel
end Go.Eng
