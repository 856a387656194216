/- Part of a proof; nothing is assumed. -/
import Derived.Calls
import Derived.Defers
import Derived.Orders
import Derived.KernelRfl
import Derived.Laws.Entries
set_option linter.unusedVariables false
set_option linter.unusedSimpArgs false
noncomputable section
namespace Go.DK
inductive P2 where
 |h|z (p:P2)|o (p:P2)
deriving DecidableEq
inductive T(α:Type)where
 |e|n (v:Option α) (l r:T α)
def T.val{α:Type}(t:T α):Option α:=T.rec none (λv _ _ _ _=>v) t
def T.left{α:Type}(t:T α):T α:=T.rec .e (λ_ l _ _ _=>l) t
def T.right{α:Type}(t:T α):T α:=T.rec .e (λ_ _ r _ _=>r) t
def T.E5{α:Type}(p:P2):T α->Option α:=
 P2.rec (motive:=λ_=>T α->Option α) T.val (λ_ g t=>g t.left) (λ_ g t=>g t.right) p
def T.dW{α:Type}(x:α)(p:P2):T α->T α:=
 P2.rec (motive:=λ_=>T α->T α) (λt=>.n (some x) t.left t.right)
  (λ_ g t=>.n t.val (g t.left) t.right) (λ_ g t=>.n t.val t.left (g t.right)) p
def APN(f:Nat):Nat->P2:=
 Nat.rec (motive:=λ_=>Nat->P2) (λ_=>.h)
  (λ_ g k=>Nat.rec (motive:=λ_=>P2) .h
   (λm _=>Bool.rec (P2.o (g (Nat.div m 2))) (P2.z (g (Nat.div m 2))) (Nat.beq (Nat.mod m 2) 0)) k) f
def QO(k:Nat):P2:=APN (Nat.succ k) k
def T.get{α:Type}(t:T α)(k:Nat):Option α:=T.E5 (QO k) t
def T.set{α:Type}(t:T α)(k:Nat)(x:α):T α:=T.dW x (QO k) t
inductive V where
 |undef
 |int (k:IntKind) (n:Int) (s:Nat)
 |bool (b:Bool)
 |str (len code:Nat)
 |AHN|ptr (id off:Nat)|gptr (b off:Nat)
 |Ag|sl (id off len cap esz:Nat)|OT (id off len esz:Nat)|rsl (b off len cap esz:Nat)
 |AK4|map (id:Nat)
 |AUf|fn (f:Nat) (first caps:List V)
 |agg (cs:List V)
 |G5 (vs:List V)
 |AQW|iface (t:Nat) (v:V)
inductive Ro where
 |arr (esz cnt:Nat) (c:T (List V))
 |map (es:List (V×V×Nat)) (clock:Nat)
 |dead
 |nS (t e l c j:Nat)
 |own (b:Nat)
abbrev Heap:=T Ro
abbrev LZ:=T V
abbrev AX:=Nat->Nat->Nat->Option (List V)
inductive X where
 |r (p:P2)|c (v:V)|s (i:Nat)
def Om(o:Option V):V:=Option.rec V.undef (λv=>v) o
def AQj(l:List V):Nat->V:=
 List.rec (motive:=λ_=>Nat->V) (λ_=>.undef) (λx _ g i=>Nat.rec (motive:=λ_=>V) x (λi _=>g i) i) l
inductive RS where
 |mk (L:List V) (R:LZ)
def RS.st(E:RS):List V:=RS.rec (λL _=>L) E
def RS.rg(E:RS):LZ:=RS.rec (λ_ R=>R) E
def X.ev(x:X):RS->V:=X.rec (motive:=λ_=>RS->V) (λp E=>Om (T.E5 p E.rg)) (λv _=>v) (λi E=>AQj E.st i) x
def V.LP(v:V):(IntKind->Int->Nat->Option V)->Option V:=
 V.rec (motive_1:=λ_=>(IntKind->Int->Nat->Option V)->Option V) (motive_2:=λ_=>PUnit)
  (λ_=>none)
  (λa b c f=>f a b c)
  (λ_ _=>none)
  (λ_ _ _=>none)
  (λ_=>none)
  (λ_ _ _=>none)
  (λ_ _ _=>none)
  (λ_=>none)
  (λ_ _ _ _ _ _=>none)
  (λ_ _ _ _ _=>none)
  (λ_ _ _ _ _ _=>none)
  (λ_=>none)
  (λ_ _=>none)
  (λ_=>none)
  (λ_ _ _ _ _ _=>none)
  (λ_ _ _=>none)
  (λ_ _ _=>none)
  (λ_=>none)
  (λ_ _ _ _=>none)
  ⟨⟩ (λ_ _ _ _=>⟨⟩) v
def V.uY(v:V):(Bool->Option V)->Option V:=
 V.rec (motive_1:=λ_=>(Bool->Option V)->Option V) (motive_2:=λ_=>PUnit)
  (λ_=>none)
  (λ_ _ _ _=>none)
  (λa f=>f a)
  (λ_ _ _=>none)
  (λ_=>none)
  (λ_ _ _=>none)
  (λ_ _ _=>none)
  (λ_=>none)
  (λ_ _ _ _ _ _=>none)
  (λ_ _ _ _ _=>none)
  (λ_ _ _ _ _ _=>none)
  (λ_=>none)
  (λ_ _=>none)
  (λ_=>none)
  (λ_ _ _ _ _ _=>none)
  (λ_ _ _=>none)
  (λ_ _ _=>none)
  (λ_=>none)
  (λ_ _ _ _=>none)
  ⟨⟩ (λ_ _ _ _=>⟨⟩) v
def V.AI4(v:V):(Bool->Prop)->Prop:=
 V.rec (motive_1:=λ_=>(Bool->Prop)->Prop) (motive_2:=λ_=>PUnit)
  (λ_=>False)
  (λ_ _ _ _=>False)
  (λa f=>f a)
  (λ_ _ _=>False)
  (λ_=>False)
  (λ_ _ _=>False)
  (λ_ _ _=>False)
  (λ_=>False)
  (λ_ _ _ _ _ _=>False)
  (λ_ _ _ _ _=>False)
  (λ_ _ _ _ _ _=>False)
  (λ_=>False)
  (λ_ _=>False)
  (λ_=>False)
  (λ_ _ _ _ _ _=>False)
  (λ_ _ _=>False)
  (λ_ _ _=>False)
  (λ_=>False)
  (λ_ _ _ _=>False)
  ⟨⟩ (λ_ _ _ _=>⟨⟩) v
def V.VG(v:V):(Nat->Nat->Option V)->Option V:=
 V.rec (motive_1:=λ_=>(Nat->Nat->Option V)->Option V) (motive_2:=λ_=>PUnit)
  (λ_=>none)
  (λ_ _ _ _=>none)
  (λ_ _=>none)
  (λa b f=>f a b)
  (λ_=>none)
  (λ_ _ _=>none)
  (λ_ _ _=>none)
  (λ_=>none)
  (λ_ _ _ _ _ _=>none)
  (λ_ _ _ _ _=>none)
  (λ_ _ _ _ _ _=>none)
  (λ_=>none)
  (λ_ _=>none)
  (λ_=>none)
  (λ_ _ _ _ _ _=>none)
  (λ_ _ _=>none)
  (λ_ _ _=>none)
  (λ_=>none)
  (λ_ _ _ _=>none)
  ⟨⟩ (λ_ _ _ _=>⟨⟩) v
def V.AEb(v:V):(List V->Option V)->Option V:=
 V.rec (motive_1:=λ_=>(List V->Option V)->Option V) (motive_2:=λ_=>PUnit)
  (λ_=>none)
  (λ_ _ _ _=>none)
  (λ_ _=>none)
  (λ_ _ _=>none)
  (λ_=>none)
  (λ_ _ _=>none)
  (λ_ _ _=>none)
  (λ_=>none)
  (λ_ _ _ _ _ _=>none)
  (λ_ _ _ _ _=>none)
  (λ_ _ _ _ _ _=>none)
  (λ_=>none)
  (λ_ _=>none)
  (λ_=>none)
  (λ_ _ _ _ _ _=>none)
  (λa _ f=>f a)
  (λ_ _ _=>none)
  (λ_=>none)
  (λ_ _ _ _=>none)
  ⟨⟩ (λ_ _ _ _=>⟨⟩) v
def V.AKg(v:V):(List V->Option V)->Option V:=
 V.rec (motive_1:=λ_=>(List V->Option V)->Option V) (motive_2:=λ_=>PUnit)
  (λ_=>none)
  (λ_ _ _ _=>none)
  (λ_ _=>none)
  (λ_ _ _=>none)
  (λ_=>none)
  (λ_ _ _=>none)
  (λ_ _ _=>none)
  (λ_=>none)
  (λ_ _ _ _ _ _=>none)
  (λ_ _ _ _ _=>none)
  (λ_ _ _ _ _ _=>none)
  (λ_=>none)
  (λ_ _=>none)
  (λ_=>none)
  (λ_ _ _ _ _ _=>none)
  (λ_ _ _=>none)
  (λa _ f=>f a)
  (λ_=>none)
  (λ_ _ _ _=>none)
  ⟨⟩ (λ_ _ _ _=>⟨⟩) v
def V.AKr(v:V):(Nat->Nat->Option V)->(Nat->Nat->Option V)->Option V:=
 V.rec (motive_1:=λ_=>(Nat->Nat->Option V)->(Nat->Nat->Option V)->Option V) (motive_2:=λ_=>PUnit)
  (λ_ _=>none)
  (λ_ _ _ _ _=>none)
  (λ_ _ _=>none)
  (λ_ _ _ _=>none)
  (λ_ _=>none)
  (λa b f _=>f a b)
  (λa b _ g=>g a b)
  (λ_ _=>none)
  (λ_ _ _ _ _ _ _=>none)
  (λ_ _ _ _ _ _=>none)
  (λ_ _ _ _ _ _ _=>none)
  (λ_ _=>none)
  (λ_ _ _=>none)
  (λ_ _=>none)
  (λ_ _ _ _ _ _ _=>none)
  (λ_ _ _ _=>none)
  (λ_ _ _ _=>none)
  (λ_ _=>none)
  (λ_ _ _ _ _=>none)
  ⟨⟩ (λ_ _ _ _=>⟨⟩) v
def V.ANR(v:V):(Option V)->(Nat->Option V)->Option V:=
 V.rec (motive_1:=λ_=>(Option V)->(Nat->Option V)->Option V) (motive_2:=λ_=>PUnit)
  (λ_ _=>none)
  (λ_ _ _ _ _=>none)
  (λ_ _ _=>none)
  (λ_ _ _ _=>none)
  (λ_ _=>none)
  (λ_ _ _ _=>none)
  (λ_ _ _ _=>none)
  (λ_ _=>none)
  (λ_ _ _ _ _ _ _=>none)
  (λ_ _ _ _ _ _=>none)
  (λ_ _ _ _ _ _ _=>none)
  (λz _=>z)
  (λa _ f=>f a)
  (λ_ _=>none)
  (λ_ _ _ _ _ _ _=>none)
  (λ_ _ _ _=>none)
  (λ_ _ _ _=>none)
  (λ_ _=>none)
  (λ_ _ _ _ _=>none)
  ⟨⟩ (λ_ _ _ _=>⟨⟩) v
def V.AS5(v:V):(Option V)->(Nat->Nat->Nat->Nat->Nat->Option V)->(Nat->Nat->Nat->Nat->Option V)->(Nat->Nat->Nat->Nat->Nat->Option V)->Option V:=
 V.rec (motive_1:=λ_=>(Option V)->(Nat->Nat->Nat->Nat->Nat->Option V)->(Nat->Nat->Nat->Nat->Option V)->(Nat->Nat->Nat->Nat->Nat->Option V)->Option V) (motive_2:=λ_=>PUnit)
  (λ_ _ _ _=>none)
  (λ_ _ _ _ _ _ _=>none)
  (λ_ _ _ _ _=>none)
  (λ_ _ _ _ _ _=>none)
  (λ_ _ _ _=>none)
  (λ_ _ _ _ _ _=>none)
  (λ_ _ _ _ _ _=>none)
  (λz _ _ _=>z)
  (λa b c d e _ f _ _=>f a b c d e)
  (λa b c d _ _ g _=>g a b c d)
  (λa b c d e _ _ _ h=>h a b c d e)
  (λ_ _ _ _=>none)
  (λ_ _ _ _ _=>none)
  (λ_ _ _ _=>none)
  (λ_ _ _ _ _ _ _ _ _=>none)
  (λ_ _ _ _ _ _=>none)
  (λ_ _ _ _ _ _=>none)
  (λ_ _ _ _=>none)
  (λ_ _ _ _ _ _ _=>none)
  ⟨⟩ (λ_ _ _ _=>⟨⟩) v
def Bl(v:V):List V:=
 V.rec (motive_1:=λ_=>List V) (motive_2:=λ_=>PUnit)
  ([v])
  (λ_ _ _=>[v])
  (λ_=>[v])
  (λ_ _=>[v])
  ([v])
  (λ_ _=>[v])
  (λ_ _=>[v])
  ([v])
  (λ_ _ _ _ _=>[v])
  (λ_ _ _ _=>[v])
  (λ_ _ _ _ _=>[v])
  ([v])
  (λ_=>[v])
  ([v])
  (λ_ _ _ _ _=>[v])
  (λa _=>a)
  (λ_ _=>[v])
  ([v])
  (λ_ _ _=>[v])
  ⟨⟩ (λ_ _ _ _=>⟨⟩) v
def isStr(v:V):Bool:=
 V.rec (motive_1:=λ_=>Bool) (motive_2:=λ_=>PUnit)
  (false)
  (λ_ _ _=>false)
  (λ_=>false)
  (λ_ _=>true)
  (false)
  (λ_ _=>false)
  (λ_ _=>false)
  (false)
  (λ_ _ _ _ _=>false)
  (λ_ _ _ _=>false)
  (λ_ _ _ _ _=>false)
  (false)
  (λ_=>false)
  (false)
  (λ_ _ _ _ _=>false)
  (λ_ _=>false)
  (λ_ _=>false)
  (false)
  (λ_ _ _=>false)
  ⟨⟩ (λ_ _ _ _=>⟨⟩) v
def lenV(v:V):Option V:=
 V.rec (motive_1:=λ_=>Option V) (motive_2:=λ_=>PUnit)
  (none)
  (λ_ _ _=>none)
  (λ_=>none)
  (λ_ _=>none)
  (none)
  (λ_ _=>none)
  (λ_ _=>none)
  (some (.int .i64 (.ofNat 0) 0))
  (λ_ _ c _ _=>some (.int .i64 (.ofNat c) 0))
  (λ_ _ c _=>some (.int .i64 (.ofNat c) 0))
  (λ_ _ c _ _=>some (.int .i64 (.ofNat c) 0))
  (none)
  (λ_=>none)
  (none)
  (λ_ _ _ _ _=>none)
  (λ_ _=>none)
  (λ_ _=>none)
  (none)
  (λ_ _ _=>none)
  ⟨⟩ (λ_ _ _ _=>⟨⟩) v
def Am(v:V):Option V:=
 V.rec (motive_1:=λ_=>Option V) (motive_2:=λ_=>PUnit)
  (none)
  (λ_ _ _=>none)
  (λ_=>none)
  (λ_ _=>none)
  (none)
  (λa b=>some (.ptr a b))
  (λa b=>some (.gptr a b))
  (none)
  (λ_ _ _ _ _=>none)
  (λ_ _ _ _=>none)
  (λ_ _ _ _ _=>none)
  (none)
  (λ_=>none)
  (none)
  (λa b c _ _=>some (.fn a b c))
  (λ_ _=>none)
  (λ_ _=>none)
  (none)
  (λ_ _ _=>none)
  ⟨⟩ (λ_ _ _ _=>⟨⟩) v
def X8(n:Int):(Int->Option V)->Option V:=λf=>f n
def En(n:Nat):(Nat->Option V)->Option V:=
 Nat.rec (motive:=λ_=>(Nat->Option V)->Option V) (λf=>f 0) (λk _ f=>f (Nat.succ k)) n
def FN(n:Nat):(Nat->Prop)->Prop:=
 Nat.rec (motive:=λ_=>(Nat->Prop)->Prop) (λf=>f 0) (λk _ f=>f (Nat.succ k)) n
def AY7(k:IntKind):Nat->Bool:=
 IntKind.rec (motive:=λ_=>Nat->Bool) (λm=>Nat.blt m 128) (λm=>Nat.blt m 32768) (λm=>Nat.blt m 2147483648) (λm=>Nat.blt m 9223372036854775808)
  (λm=>Nat.blt m 256) (λm=>Nat.blt m 65536) (λm=>Nat.blt m 4294967296) (λm=>Nat.blt m 18446744073709551616) k
def AYN(k:IntKind):Nat->Bool:=
 IntKind.rec (motive:=λ_=>Nat->Bool) (λm=>Nat.blt m 128) (λm=>Nat.blt m 32768) (λm=>Nat.blt m 2147483648) (λm=>Nat.blt m 9223372036854775808)
  (λ_=>false) (λ_=>false) (λ_=>false) (λ_=>false) k
def inr(k:IntKind)(n:Int):Bool:=Int.rec (motive:=λ_=>IntKind->Bool) (λm k=>AY7 k m) (λm k=>AYN k m) n k
def qh(k:IntKind)(n:Int):Int:=Bool.rec (k.wrap n) n (inr k n)
def AWn(k:IntKind)(n:Int):Option V:=X8 (qh k n) λm=>some (.int k m 0)
def mkI(k:IntKind)(n:Int)(s:Nat):Option V:=
 Nat.rec (motive:=λ_=>IntKind->Int->Option V) AWn (λ_ _ k n=>some (.int k (k.wrap n) 1)) s k n
def mkN(k:IntKind)(n:Int)(s:Nat):Option V:=
 Nat.rec (motive:=λ_=>IntKind->Int->Option V) (λk n=>X8 n λm=>some (.int k m 0)) (λ_ _ k n=>some (.int k n 1)) s k n
def AUz(a:Nat)(b:Int):Int:=Int.rec (motive:=λ_=>Nat->Int) (λn m=>.ofNat (Nat.add m n)) (λn m=>Int.subNatNat m (Nat.succ n)) b a
def AVu(a:Nat)(b:Int):Int:=Int.rec (motive:=λ_=>Nat->Int) (λn m=>Int.subNatNat n (Nat.succ m)) (λn m=>.negSucc (Nat.succ (Nat.add m n))) b a
def AHJ(a b:Int):Int:=Int.rec (motive:=λ_=>Int->Int) AUz AVu a b
def ile(a b:Int):Bool:=Int.rec (motive:=λ_=>Int->Bool) (λm b=>Int.rec (motive:=λ_=>Nat->Bool) (λn m=>Nat.ble m n) (λ_ _=>false) b m)
 (λm b=>Int.rec (motive:=λ_=>Nat->Bool) (λ_ _=>true) (λn m=>Nat.ble n m) b m) a b
def ilt(a b:Int):Bool:=Int.rec (motive:=λ_=>Int->Bool) (λm b=>Int.rec (motive:=λ_=>Nat->Bool) (λn m=>Nat.blt m n) (λ_ _=>false) b m)
 (λm b=>Int.rec (motive:=λ_=>Nat->Bool) (λ_ _=>true) (λn m=>Nat.blt n m) b m) a b
def ieq(a b:Int):Bool:=Int.rec (motive:=λ_=>Int->Bool) (λm b=>Int.rec (motive:=λ_=>Nat->Bool) (λn m=>Nat.beq m n) (λ_ _=>false) b m)
 (λm b=>Int.rec (motive:=λ_=>Nat->Bool) (λ_ _=>false) (λn m=>Nat.beq n m) b m) a b
def kno(a:IntKind):Nat:=IntKind.rec 0 1 2 3 4 5 6 7 a
def keq(a b:IntKind):Bool:=Nat.beq (kno a) (kno b)
def Rt(b:Bool):Bool:=Bool.rec true false b
def band(a b:Bool):Bool:=Bool.rec (motive:=λ_=>Bool->Bool) (λ_=>false) (λb=>b) a b
def ASL(a b:Bool):Bool:=Bool.rec (motive:=λ_=>Bool->Bool) Rt (λb=>b) a b
def rQ(b:Bool):Option V:=Bool.rec (some (.bool false)) (some (.bool true)) b
def CO(b:Bool):Option V->Option V:=Bool.rec (motive:=λ_=>Option V->Option V) (λ_=>none) (λo=>o) b
def AD6(b:Bool)(x y:Option V):Option V:=Bool.rec (motive:=λ_=>Option V->Option V->Option V) (λ_ y=>y) (λx _=>x) b x y
def ASJ(code i:Nat):Nat:=Nat.mod (Nat.div code (Nat.pow 256 i)) 256
def AZr(code l h:Nat):Nat:=Nat.mod (Nat.div code (Nat.pow 256 l)) (Nat.pow 256 (Nat.sub h l))
def AY1(l1 c1 c2:Nat):Nat:=Nat.add c1 (Nat.mul (Nat.pow 256 l1) c2)
def AWv(f:Nat):Nat->Nat->Nat->Nat->Bool:=
 Nat.rec (motive:=λ_=>Nat->Nat->Nat->Nat->Bool) (λ_ _ _ _=>false)
  (λ_ g l1 c1 l2 c2=>Nat.rec (motive:=λ_=>Bool) false (λl2' _=>Nat.rec (motive:=λ_=>Bool) true (λl1' _=>
   Bool.rec (Nat.blt (Nat.mod c1 256) (Nat.mod c2 256)) (g l1' (Nat.div c1 256) l2' (Nat.div c2 256)) (Nat.beq (Nat.mod c1 256) (Nat.mod c2 256))) l1) l2) f
def slt(l1 c1 l2 c2:Nat):Bool:=AWv (Nat.succ l2) l1 c1 l2 c2
def nth{α:Type}(l:List α):Nat->Option α:=
 List.rec (motive:=λ_=>Nat->Option α) (λ_=>none) (λx _ g i=>Nat.rec (motive:=λ_=>Option α) (some x) (λi _=>g i) i) l
def oP{α:Type}(x:α)(l:List α):Nat->List α:=
 List.rec (motive:=λ_=>Nat->List α) (λ_=>[]) (λy ys g i=>Nat.rec (motive:=λ_=>List α) (x::ys) (λi _=>y::g i) i) l
def len{α:Type}(l:List α):Nat:=List.rec (motive:=λ_=>Nat) 0 (λ_ _ n=>Nat.succ n) l
def cat{α:Type}(a b:List α):List α:=List.rec (motive:=λ_=>List α->List α) (λb=>b) (λx _ g b=>x::g b) a b
def aZ{α:Type}(n:Nat):List α->List α:=
 Nat.rec (motive:=λ_=>List α->List α) (λ_=>[]) (λ_ g l=>List.rec (motive:=λ_=>List α) [] (λx xs _=>x::g xs) l) n
def wZ{α:Type}(n:Nat):List α->List α:=
 Nat.rec (motive:=λ_=>List α->List α) (λl=>l) (λ_ g l=>List.rec (motive:=λ_=>List α) [] (λ_ xs _=>g xs) l) n
def jd(l:List X):RS->List V:=List.rec (motive:=λ_=>RS->List V) (λ_=>[]) (λx _ g R=>x.ev R::g R) l
def AMI(new:List V)(i:Nat)(l:List V):List V:=cat (aZ i l) (cat new (wZ (Nat.add i (len new)) l))
abbrev LV:=List V
def WZ(o:Option LV)(f:LV->Option V):Option V:=Option.rec (motive:=λ_=>(LV->Option V)->Option V) (λ_=>none) (λv f=>f v) o f
def Dz{α:Type}(o:Option α)(f:α->Prop):Prop:=Option.rec (motive:=λ_=>(α->Prop)->Prop) (λ_=>False) (λv f=>f v) o f
def AL(o:Option V)(f:V->Prop):Prop:=Option.rec (motive:=λ_=>(V->Prop)->Prop) (λ_=>False) (λv f=>f v) o f
def DF{α β:Type}(o:Option α)(f:α->Option β):Option β:=Option.rec (motive:=λ_=>(α->Option β)->Option β) (λ_=>none) (λv f=>f v) o f
def ldC(esz off n:Nat)(L:LV):Option LV:=
 Bool.rec (motive:=λ_=>Option LV)
  (Bool.rec none (some (aZ n (wZ (Nat.mod off esz) L))) (Nat.ble (Nat.add (Nat.mod off esz) n) esz))
  (some L) (band (Nat.beq n esz) (Nat.beq (Nat.mod off esz) 0))
def ldB(esz cnt:Nat)(c:T LV)(off n:Nat):Option LV:=
 DF (Bool.rec none (T.get c (Nat.div off esz)) (Nat.blt (Nat.div off esz) cnt)) (ldC esz off n)
def Ro.ld(b:Ro):Nat->Nat->Option LV:=
 Ro.rec (motive:=λ_=>Nat->Nat->Option LV) ldB (λ_ _ _ _=>none) (λ_ _=>none) (λ_ _ _ _ _ _ _=>none) (λ_ _ _=>none) b
def zf(H:Heap)(id off n:Nat):Option LV:=Option.rec (motive:=λ_=>Nat->Nat->Option LV) (λ_ _=>none) Ro.ld (T.get H id) off n
def ldP(v:V):(AX)->(Heap)->(Nat)->Option LV:=
 V.rec (motive_1:=λ_=>(AX)->(Heap)->(Nat)->Option LV) (motive_2:=λ_=>PUnit)
  (λ_ _ _=>none)
  (λ_ _ _ _ _ _=>none)
  (λ_ _ _ _=>none)
  (λ_ _ _ _ _=>none)
  (λ_ _ _=>none)
  (λa b _ H n=>zf H a b n)
  (λa b G _ n=>G a b n)
  (λ_ _ _=>none)
  (λ_ _ _ _ _ _ _ _=>none)
  (λ_ _ _ _ _ _ _=>none)
  (λ_ _ _ _ _ _ _ _=>none)
  (λ_ _ _=>none)
  (λ_ _ _ _=>none)
  (λ_ _ _=>none)
  (λ_ _ _ _ _ _ _ _=>none)
  (λ_ _ _ _ _=>none)
  (λ_ _ _ _ _=>none)
  (λ_ _ _=>none)
  (λ_ _ _ _ _ _=>none)
  ⟨⟩ (λ_ _ _ _=>⟨⟩) v
def stC(new:LV)(esz cnt:Nat)(c:T LV)(off n:Nat)(L:LV):Option Ro:=
 Bool.rec (motive:=λ_=>Option Ro)
  (Bool.rec none (some (.arr esz cnt (T.set c (Nat.div off esz) (AMI new (Nat.mod off esz) L)))) (Nat.ble (Nat.add (Nat.mod off esz) n) esz))
  (some (.arr esz cnt (T.set c (Nat.div off esz) new))) (band (Nat.beq n esz) (Nat.beq (Nat.mod off esz) 0))
def stB(esz cnt:Nat)(c:T LV)(off n:Nat)(new:LV):Option Ro:=
 DF (Bool.rec none (T.get c (Nat.div off esz)) (Nat.blt (Nat.div off esz) cnt)) (stC new esz cnt c off n)
def Ro.st(b:Ro):Nat->Nat->LV->Option Ro:=
 Ro.rec (motive:=λ_=>Nat->Nat->LV->Option Ro) stB (λ_ _ _ _ _=>none) (λ_ _ _=>none) (λ_ _ _ _ _ _ _ _=>none) (λ_ _ _ _=>none) b
def stH(H:Heap)(id off n:Nat)(new:LV):Option Heap:=
 DF (Option.rec (motive:=λ_=>Nat->Nat->LV->Option Ro) (λ_ _ _=>none) Ro.st (T.get H id) off n new) λb=>some (T.set H id b)
def stP(v:V):(Heap)->(Nat)->(LV)->Option Heap:=
 V.rec (motive_1:=λ_=>(Heap)->(Nat)->(LV)->Option Heap) (motive_2:=λ_=>PUnit)
  (λ_ _ _=>none)
  (λ_ _ _ _ _ _=>none)
  (λ_ _ _ _=>none)
  (λ_ _ _ _ _=>none)
  (λ_ _ _=>none)
  (λa b H n new=>stH H a b n new)
  (λ_ _ _ _ _=>none)
  (λ_ _ _=>none)
  (λ_ _ _ _ _ _ _ _=>none)
  (λ_ _ _ _ _ _ _=>none)
  (λ_ _ _ _ _ _ _ _=>none)
  (λ_ _ _=>none)
  (λ_ _ _ _=>none)
  (λ_ _ _=>none)
  (λ_ _ _ _ _ _ _ _=>none)
  (λ_ _ _ _ _=>none)
  (λ_ _ _ _ _=>none)
  (λ_ _ _=>none)
  (λ_ _ _ _ _ _=>none)
  ⟨⟩ (λ_ _ _ _=>⟨⟩) v
def AQd(v:V):(IntKind)->(Int)->(Nat)->Option Bool:=
 V.rec (motive_1:=λ_=>(IntKind)->(Int)->(Nat)->Option Bool) (motive_2:=λ_=>PUnit)
  (λ_ _ _=>none)
  (λa b c k n s=>Bool.rec (motive:=λ_=>Option Bool) none (some (ieq n b)) (band (keq k a) (Nat.beq (Nat.add s c) 0)))
  (λ_ _ _ _=>none)
  (λ_ _ _ _ _=>none)
  (λ_ _ _=>none)
  (λ_ _ _ _ _=>none)
  (λ_ _ _ _ _=>none)
  (λ_ _ _=>none)
  (λ_ _ _ _ _ _ _ _=>none)
  (λ_ _ _ _ _ _ _=>none)
  (λ_ _ _ _ _ _ _ _=>none)
  (λ_ _ _=>none)
  (λ_ _ _ _=>none)
  (λ_ _ _=>none)
  (λ_ _ _ _ _ _ _ _=>none)
  (λ_ _ _ _ _=>none)
  (λ_ _ _ _ _=>none)
  (λ_ _ _=>none)
  (λ_ _ _ _ _ _=>none)
  ⟨⟩ (λ_ _ _ _=>⟨⟩) v
def AL7(v:V):(Bool)->Option Bool:=
 V.rec (motive_1:=λ_=>(Bool)->Option Bool) (motive_2:=λ_=>PUnit)
  (λ_=>none)
  (λ_ _ _ _=>none)
  (λa x=>some (ASL x a))
  (λ_ _ _=>none)
  (λ_=>none)
  (λ_ _ _=>none)
  (λ_ _ _=>none)
  (λ_=>none)
  (λ_ _ _ _ _ _=>none)
  (λ_ _ _ _ _=>none)
  (λ_ _ _ _ _ _=>none)
  (λ_=>none)
  (λ_ _=>none)
  (λ_=>none)
  (λ_ _ _ _ _ _=>none)
  (λ_ _ _=>none)
  (λ_ _ _=>none)
  (λ_=>none)
  (λ_ _ _ _=>none)
  ⟨⟩ (λ_ _ _ _=>⟨⟩) v
def eqStr(v:V):(Nat)->(Nat)->Option Bool:=
 V.rec (motive_1:=λ_=>(Nat)->(Nat)->Option Bool) (motive_2:=λ_=>PUnit)
  (λ_ _=>none)
  (λ_ _ _ _ _=>none)
  (λ_ _ _=>none)
  (λa b l d=>some (band (Nat.beq l a) (Nat.beq d b)))
  (λ_ _=>none)
  (λ_ _ _ _=>none)
  (λ_ _ _ _=>none)
  (λ_ _=>none)
  (λ_ _ _ _ _ _ _=>none)
  (λ_ _ _ _ _ _=>none)
  (λ_ _ _ _ _ _ _=>none)
  (λ_ _=>none)
  (λ_ _ _=>none)
  (λ_ _=>none)
  (λ_ _ _ _ _ _ _=>none)
  (λ_ _ _ _=>none)
  (λ_ _ _ _=>none)
  (λ_ _=>none)
  (λ_ _ _ _ _=>none)
  ⟨⟩ (λ_ _ _ _=>⟨⟩) v
def AQb(v:V):Option Bool:=
 V.rec (motive_1:=λ_=>Option Bool) (motive_2:=λ_=>PUnit)
  (none)
  (λ_ _ _=>none)
  (λ_=>none)
  (λ_ _=>none)
  (some true)
  (λ_ _=>some false)
  (λ_ _=>some false)
  (none)
  (λ_ _ _ _ _=>none)
  (λ_ _ _ _=>none)
  (λ_ _ _ _ _=>none)
  (none)
  (λ_=>none)
  (none)
  (λ_ _ _ _ _=>none)
  (λ_ _=>none)
  (λ_ _=>none)
  (none)
  (λ_ _ _=>none)
  ⟨⟩ (λ_ _ _ _=>⟨⟩) v
def AVh(v:V):(Nat)->(Nat)->Option Bool:=
 V.rec (motive_1:=λ_=>(Nat)->(Nat)->Option Bool) (motive_2:=λ_=>PUnit)
  (λ_ _=>none)
  (λ_ _ _ _ _=>none)
  (λ_ _ _=>none)
  (λ_ _ _ _=>none)
  (λ_ _=>some false)
  (λa b i o=>Bool.rec none (some (Nat.beq o b)) (Nat.beq i a))
  (λ_ _ _ _=>none)
  (λ_ _=>none)
  (λ_ _ _ _ _ _ _=>none)
  (λ_ _ _ _ _ _=>none)
  (λ_ _ _ _ _ _ _=>none)
  (λ_ _=>none)
  (λ_ _ _=>none)
  (λ_ _=>none)
  (λ_ _ _ _ _ _ _=>none)
  (λ_ _ _ _=>none)
  (λ_ _ _ _=>none)
  (λ_ _=>none)
  (λ_ _ _ _ _=>none)
  ⟨⟩ (λ_ _ _ _=>⟨⟩) v
def ASf(v:V):Option Bool:=
 V.rec (motive_1:=λ_=>Option Bool) (motive_2:=λ_=>PUnit)
  (none)
  (λ_ _ _=>none)
  (λ_=>none)
  (λ_ _=>none)
  (some false)
  (λ_ _=>none)
  (λ_ _=>none)
  (none)
  (λ_ _ _ _ _=>none)
  (λ_ _ _ _=>none)
  (λ_ _ _ _ _=>none)
  (none)
  (λ_=>none)
  (none)
  (λ_ _ _ _ _=>none)
  (λ_ _=>none)
  (λ_ _=>none)
  (none)
  (λ_ _ _=>none)
  ⟨⟩ (λ_ _ _ _=>⟨⟩) v
def AKh(v:V):(V)->Option Bool:=
 V.rec (motive_1:=λ_=>(V)->Option Bool) (motive_2:=λ_=>PUnit)
  (λ_=>none)
  (λa b c y=>AQd y a b c)
  (λ_ _=>none)
  (λ_ _ _=>none)
  (λ_=>none)
  (λ_ _ _=>none)
  (λ_ _ _=>none)
  (λ_=>none)
  (λ_ _ _ _ _ _=>none)
  (λ_ _ _ _ _=>none)
  (λ_ _ _ _ _ _=>none)
  (λ_=>none)
  (λ_ _=>none)
  (λ_=>none)
  (λ_ _ _ _ _ _=>none)
  (λ_ _ _=>none)
  (λ_ _ _=>none)
  (λ_=>none)
  (λ_ _ _ _=>none)
  ⟨⟩ (λ_ _ _ _=>⟨⟩) v
def ALK(v:V):(V)->Option Bool:=
 V.rec (motive_1:=λ_=>(V)->Option Bool) (motive_2:=λ_=>PUnit)
  (λ_=>none)
  (λ_ _ _ _=>none)
  (λ_ _=>none)
  (λa b y=>eqStr y a b)
  (λ_=>none)
  (λ_ _ _=>none)
  (λ_ _ _=>none)
  (λ_=>none)
  (λ_ _ _ _ _ _=>none)
  (λ_ _ _ _ _=>none)
  (λ_ _ _ _ _ _=>none)
  (λ_=>none)
  (λ_ _=>none)
  (λ_=>none)
  (λ_ _ _ _ _ _=>none)
  (λ_ _ _=>none)
  (λ_ _ _=>none)
  (λ_=>none)
  (λ_ _ _ _=>none)
  ⟨⟩ (λ_ _ _ _=>⟨⟩) v
def AEP(v:V):(V)->Option Bool:=
 V.rec (motive_1:=λ_=>(V)->Option Bool) (motive_2:=λ_=>PUnit)
  (λ_=>none)
  (λ_ _ _ _=>none)
  (λa y=>AL7 y a)
  (λ_ _ _=>none)
  (λ_=>none)
  (λ_ _ _=>none)
  (λ_ _ _=>none)
  (λ_=>none)
  (λ_ _ _ _ _ _=>none)
  (λ_ _ _ _ _=>none)
  (λ_ _ _ _ _ _=>none)
  (λ_=>none)
  (λ_ _=>none)
  (λ_=>none)
  (λ_ _ _ _ _ _=>none)
  (λ_ _ _=>none)
  (λ_ _ _=>none)
  (λ_=>none)
  (λ_ _ _ _=>none)
  ⟨⟩ (λ_ _ _ _=>⟨⟩) v
def AIg(v:V):(V)->Option Bool:=
 V.rec (motive_1:=λ_=>(V)->Option Bool) (motive_2:=λ_=>PUnit)
  (λ_=>none)
  (λ_ _ _ _=>none)
  (λ_ _=>none)
  (λ_ _ _=>none)
  (λy=>AQb y)
  (λa b y=>AVh y a b)
  (λ_ _ y=>ASf y)
  (λ_=>none)
  (λ_ _ _ _ _ _=>none)
  (λ_ _ _ _ _=>none)
  (λ_ _ _ _ _ _=>none)
  (λ_=>none)
  (λ_ _=>none)
  (λ_=>none)
  (λ_ _ _ _ _ _=>none)
  (λ_ _ _=>none)
  (λ_ _ _=>none)
  (λ_=>none)
  (λ_ _ _ _=>none)
  ⟨⟩ (λ_ _ _ _=>⟨⟩) v
def AQQ(v:V):Option Bool:=
 V.rec (motive_1:=λ_=>Option Bool) (motive_2:=λ_=>PUnit)
  (none)
  (λ_ _ _=>none)
  (λ_=>none)
  (λ_ _=>none)
  (none)
  (λ_ _=>none)
  (λ_ _=>none)
  (some true)
  (λ_ _ _ _ _=>some false)
  (λ_ _ _ _=>some false)
  (λ_ _ _ _ _=>some false)
  (none)
  (λ_=>none)
  (none)
  (λ_ _ _ _ _=>none)
  (λ_ _=>none)
  (λ_ _=>none)
  (none)
  (λ_ _ _=>none)
  ⟨⟩ (λ_ _ _ _=>⟨⟩) v
def oQ(v:V):Option Bool:=
 V.rec (motive_1:=λ_=>Option Bool) (motive_2:=λ_=>PUnit)
  (none)
  (λ_ _ _=>none)
  (λ_=>none)
  (λ_ _=>none)
  (none)
  (λ_ _=>none)
  (λ_ _=>none)
  (some false)
  (λ_ _ _ _ _=>none)
  (λ_ _ _ _=>none)
  (λ_ _ _ _ _=>none)
  (none)
  (λ_=>none)
  (none)
  (λ_ _ _ _ _=>none)
  (λ_ _=>none)
  (λ_ _=>none)
  (none)
  (λ_ _ _=>none)
  ⟨⟩ (λ_ _ _ _=>⟨⟩) v
def ARQ(v:V):Option Bool:=
 V.rec (motive_1:=λ_=>Option Bool) (motive_2:=λ_=>PUnit)
  (none)
  (λ_ _ _=>none)
  (λ_=>none)
  (λ_ _=>none)
  (none)
  (λ_ _=>none)
  (λ_ _=>none)
  (none)
  (λ_ _ _ _ _=>none)
  (λ_ _ _ _=>none)
  (λ_ _ _ _ _=>none)
  (none)
  (λ_=>none)
  (some true)
  (λ_ _ _ _ _=>some false)
  (λ_ _=>none)
  (λ_ _=>none)
  (none)
  (λ_ _ _=>none)
  ⟨⟩ (λ_ _ _ _=>⟨⟩) v
def ANq(v:V):Option Bool:=
 V.rec (motive_1:=λ_=>Option Bool) (motive_2:=λ_=>PUnit)
  (none)
  (λ_ _ _=>none)
  (λ_=>none)
  (λ_ _=>none)
  (none)
  (λ_ _=>none)
  (λ_ _=>none)
  (none)
  (λ_ _ _ _ _=>none)
  (λ_ _ _ _=>none)
  (λ_ _ _ _ _=>none)
  (none)
  (λ_=>none)
  (some false)
  (λ_ _ _ _ _=>none)
  (λ_ _=>none)
  (λ_ _=>none)
  (none)
  (λ_ _ _=>none)
  ⟨⟩ (λ_ _ _ _=>⟨⟩) v
def ARA(v:V):Option Bool:=
 V.rec (motive_1:=λ_=>Option Bool) (motive_2:=λ_=>PUnit)
  (none)
  (λ_ _ _=>none)
  (λ_=>none)
  (λ_ _=>none)
  (none)
  (λ_ _=>none)
  (λ_ _=>none)
  (none)
  (λ_ _ _ _ _=>none)
  (λ_ _ _ _=>none)
  (λ_ _ _ _ _=>none)
  (some true)
  (λ_=>some false)
  (none)
  (λ_ _ _ _ _=>none)
  (λ_ _=>none)
  (λ_ _=>none)
  (none)
  (λ_ _ _=>none)
  ⟨⟩ (λ_ _ _ _=>⟨⟩) v
def AOd(v:V):Option Bool:=
 V.rec (motive_1:=λ_=>Option Bool) (motive_2:=λ_=>PUnit)
  (none)
  (λ_ _ _=>none)
  (λ_=>none)
  (λ_ _=>none)
  (none)
  (λ_ _=>none)
  (λ_ _=>none)
  (none)
  (λ_ _ _ _ _=>none)
  (λ_ _ _ _=>none)
  (λ_ _ _ _ _=>none)
  (some false)
  (λ_=>none)
  (none)
  (λ_ _ _ _ _=>none)
  (λ_ _=>none)
  (λ_ _=>none)
  (none)
  (λ_ _ _=>none)
  ⟨⟩ (λ_ _ _ _=>⟨⟩) v
def kSl(v:V):(V)->Option Bool:=
 V.rec (motive_1:=λ_=>(V)->Option Bool) (motive_2:=λ_=>PUnit)
  (λ_=>none)
  (λ_ _ _ _=>none)
  (λ_ _=>none)
  (λ_ _ _=>none)
  (λ_=>none)
  (λ_ _ _=>none)
  (λ_ _ _=>none)
  (λy=>AQQ y)
  (λ_ _ _ _ _ y=>oQ y)
  (λ_ _ _ _ y=>oQ y)
  (λ_ _ _ _ _ y=>oQ y)
  (λ_=>none)
  (λ_ _=>none)
  (λ_=>none)
  (λ_ _ _ _ _ _=>none)
  (λ_ _ _=>none)
  (λ_ _ _=>none)
  (λ_=>none)
  (λ_ _ _ _=>none)
  ⟨⟩ (λ_ _ _ _=>⟨⟩) v
def kFn(v:V):(V)->Option Bool:=
 V.rec (motive_1:=λ_=>(V)->Option Bool) (motive_2:=λ_=>PUnit)
  (λ_=>none)
  (λ_ _ _ _=>none)
  (λ_ _=>none)
  (λ_ _ _=>none)
  (λ_=>none)
  (λ_ _ _=>none)
  (λ_ _ _=>none)
  (λ_=>none)
  (λ_ _ _ _ _ _=>none)
  (λ_ _ _ _ _=>none)
  (λ_ _ _ _ _ _=>none)
  (λ_=>none)
  (λ_ _=>none)
  (λy=>ARQ y)
  (λ_ _ _ _ _ y=>ANq y)
  (λ_ _ _=>none)
  (λ_ _ _=>none)
  (λ_=>none)
  (λ_ _ _ _=>none)
  ⟨⟩ (λ_ _ _ _=>⟨⟩) v
def AWO(v:V):(V)->Option Bool:=
 V.rec (motive_1:=λ_=>(V)->Option Bool) (motive_2:=λ_=>PUnit)
  (λ_=>none)
  (λ_ _ _ _=>none)
  (λ_ _=>none)
  (λ_ _ _=>none)
  (λ_=>none)
  (λ_ _ _=>none)
  (λ_ _ _=>none)
  (λ_=>none)
  (λ_ _ _ _ _ _=>none)
  (λ_ _ _ _ _=>none)
  (λ_ _ _ _ _ _=>none)
  (λy=>ARA y)
  (λ_ y=>AOd y)
  (λ_=>none)
  (λ_ _ _ _ _ _=>none)
  (λ_ _ _=>none)
  (λ_ _ _=>none)
  (λ_=>none)
  (λ_ _ _ _=>none)
  ⟨⟩ (λ_ _ _ _=>⟨⟩) v
def UK(o:Option Bool)(f:Bool->Option Bool):Option Bool:=Option.rec (motive:=λ_=>(Bool->Option Bool)->Option Bool) (λ_=>none) (λv f=>f v) o f
inductive CK where
 |int|str|bool|ptr
def CK.eq(k:CK):V->V->Option Bool:=CK.rec (motive:=λ_=>V->V->Option Bool) AKh ALK AEP AIg k
def AMW(ks:List CK):List V->List V->Option Bool:=
 List.rec (motive:=λ_=>List V->List V->Option Bool) (λa b=>List.rec (motive:=λ_=>Option Bool) (List.rec (motive:=λ_=>Option Bool) (some true) (λ_ _ _=>none) b) (λ_ _ _=>none) a)
  (λk _ g a b=>List.rec (motive:=λ_=>Option Bool) none (λx xs _=>List.rec (motive:=λ_=>Option Bool) none (λy ys _=>UK (k.eq x y) λr=>UK (g xs ys) λr'=>some (band r r')) b) a) ks
def AVQ(v:V):(List CK)->(LV)->Option Bool:=
 V.rec (motive_1:=λ_=>(List CK)->(LV)->Option Bool) (motive_2:=λ_=>PUnit)
  (λ_ _=>none)
  (λ_ _ _ _ _=>none)
  (λ_ _ _=>none)
  (λ_ _ _ _=>none)
  (λ_ _=>none)
  (λ_ _ _ _=>none)
  (λ_ _ _ _=>none)
  (λ_ _=>none)
  (λ_ _ _ _ _ _ _=>none)
  (λ_ _ _ _ _ _=>none)
  (λ_ _ _ _ _ _ _=>none)
  (λ_ _=>none)
  (λ_ _ _=>none)
  (λ_ _=>none)
  (λ_ _ _ _ _ _ _=>none)
  (λa _ ks l=>AMW ks l a)
  (λ_ _ _ _=>none)
  (λ_ _=>none)
  (λ_ _ _ _ _=>none)
  ⟨⟩ (λ_ _ _ _=>⟨⟩) v
def AWq(v:V):(List CK)->(V)->Option Bool:=
 V.rec (motive_1:=λ_=>(List CK)->(V)->Option Bool) (motive_2:=λ_=>PUnit)
  (λ_ _=>none)
  (λ_ _ _ _ _=>none)
  (λ_ _ _=>none)
  (λ_ _ _ _=>none)
  (λ_ _=>none)
  (λ_ _ _ _=>none)
  (λ_ _ _ _=>none)
  (λ_ _=>none)
  (λ_ _ _ _ _ _ _=>none)
  (λ_ _ _ _ _ _=>none)
  (λ_ _ _ _ _ _ _=>none)
  (λ_ _=>none)
  (λ_ _ _=>none)
  (λ_ _=>none)
  (λ_ _ _ _ _ _ _=>none)
  (λa _ ks y=>AVQ y ks a)
  (λ_ _ _ _=>none)
  (λ_ _=>none)
  (λ_ _ _ _ _=>none)
  ⟨⟩ (λ_ _ _ _=>⟨⟩) v
inductive EK where
 |one (k:CK)|agg (ks:List CK)|sl|fn|map
def EK.eq(k:EK):V->V->Option Bool:=EK.rec (motive:=λ_=>V->V->Option Bool) (λk=>k.eq) (λks x y=>AWq x ks y) kSl kFn AWO k
def V.AOK(v:V):Option Nat:=
 V.rec (motive_1:=λ_=>Option Nat) (motive_2:=λ_=>PUnit)
  (none)
  (λ_ _ _=>none)
  (λ_=>none)
  (λ_ _=>none)
  (none)
  (λa _=>some a)
  (λ_ _=>none)
  (none)
  (λ_ _ _ _ _=>none)
  (λ_ _ _ _=>none)
  (λ_ _ _ _ _=>none)
  (none)
  (λ_=>none)
  (none)
  (λ_ _ _ _ _=>none)
  (λ_ _=>none)
  (λ_ _=>none)
  (none)
  (λ_ _ _=>none)
  ⟨⟩ (λ_ _ _ _=>⟨⟩) v
def V.AT4(v:V):Option (List V):=
 V.rec (motive_1:=λ_=>Option (List V)) (motive_2:=λ_=>PUnit)
  (none)
  (λ_ _ _=>none)
  (λ_=>none)
  (λ_ _=>none)
  (none)
  (λ_ _=>none)
  (λ_ _=>none)
  (none)
  (λ_ _ _ _ _=>none)
  (λ_ _ _ _=>none)
  (λ_ _ _ _ _=>none)
  (none)
  (λ_=>none)
  (none)
  (λ_ _ _ _ _=>none)
  (λl _=>some l)
  (λ_ _=>none)
  (none)
  (λ_ _ _=>none)
  ⟨⟩ (λ_ _ _ _=>⟨⟩) v
def aQ(H:Heap)(id:Nat):Bool:=Option.rec (motive:=λ_=>Bool) false
 (λb=>Ro.rec (motive:=λ_=>Bool) (λesz _ _=>Rt (Nat.beq esz 1)) (λ_ _=>false) false (λ_ _ _ _ _=>false) (λ_=>false) b) (T.get H id)
def AO1(ok:Nat->Bool)(x y:V):Option Bool:=
 Option.rec (motive:=λ_=>Option Bool) none (λi=>Option.rec (motive:=λ_=>Option Bool) none (λj=>Bool.rec (motive:=λ_=>Option Bool) none (some false) (band (Rt (Nat.beq i j)) (band (ok i) (ok j)))) y.AOK) x.AOK
def AFz(ok:Nat->Bool)(x y:V):Option Bool:=Option.rec (motive:=λ_=>Option Bool) (AO1 ok x y) (λb=>some b) (AIg x y)
def CK.eqH(ok:Nat->Bool)(k:CK):V->V->Option Bool:=CK.rec (motive:=λ_=>V->V->Option Bool) AKh ALK AEP (AFz ok) k
def AAF(q:CK->V->V->Option Bool)(ks:List CK):List V->List V->Option Bool:=
 List.rec (motive:=λ_=>List V->List V->Option Bool) (λa b=>List.rec (motive:=λ_=>Option Bool) (List.rec (motive:=λ_=>Option Bool) (some true) (λ_ _ _=>none) b) (λ_ _ _=>none) a)
  (λk _ g a b=>List.rec (motive:=λ_=>Option Bool) none (λx xs _=>List.rec (motive:=λ_=>Option Bool) none (λy ys _=>UK (q k x y) λr=>UK (g xs ys) λr'=>some (band r r')) b) a) ks
def AB4(ok:Nat->Bool)(ks:List CK)(x y:V):Option Bool:=
 Option.rec (motive:=λ_=>Option Bool) none (λl=>Option.rec (motive:=λ_=>Option Bool) none (λm=>AAF (CK.eqH ok) ks l m) y.AT4) x.AT4
inductive B2 where
 |add|sub|mul|quo|rem|and|or|xor|andNot|shl|shr|lss|leq|gtr|geq
def AC4(f:Int->Int->Bool)(x y:V):Option V:=x.LP λk a s=>y.LP λk' b t=>CO (band (keq k k') (Nat.beq (Nat.add s t) 0)) (rQ (f a b))
def AKC(f:Nat->Nat->Nat->Nat->Bool)(x y:V):Option V:=x.VG λl c=>y.VG λm d=>rQ (f l c m d)
def ari(f:Int->Int->Int)(x y:V):Option V:=x.LP λk a s=>y.LP λk' b t=>CO (keq k k') (mkI k (f a b) (Nat.add s t))
def dvs(f:Int->Int->Int)(x y:V):Option V:=
 x.LP λk a s=>y.LP λk' b t=>CO (band (keq k k') (band (Nat.beq t 0) (Rt (ieq b 0)))) (mkI k (f a b) s)
def AWA(x y:V):Option V:=
 x.LP λk a s=>y.LP λk' b t=>CO (band (keq k k') (band (Nat.beq t 0) (Rt (ieq b 0)))) (mkN k (Int.tmod a b) s)
def AYU(x y:V):Option V:=x.VG λl c=>y.VG λm d=>CO (Nat.blt (Nat.add l m) 9223372036854775808) (En (Nat.add l m) λn=>En (AY1 l c d) λe=>some (.str n e))
def AXE(x y:V):Option V:=AD6 (isStr x) (AYU x y) (ari AHJ x y)
def AZk(x y:V):Option V:=ari (λa b=>AHJ a (Int.neg b)) x y
def AZD(x y:V):Option V:=ari Int.mul x y
def AY8(k:IntKind)(a b:Int):Int:=Int.rec (motive:=λ_=>Int->IntKind->Int)
 (λm b k=>Int.rec (motive:=λ_=>Nat->IntKind->Int) (λn m k=>qh k (.ofNat (Nat.land m n))) (λn m k=>bits .and k (.ofNat m) (.negSucc n)) b m k)
 (λm b k=>bits .and k (.negSucc m) b) a b k
def AXC(x y:V):Option V:=x.LP λk a s=>y.LP λk' b t=>CO (band (keq k k') (Nat.beq (Nat.add s t) 0)) (X8 (AY8 k a b) λm=>some (.int k m 0))
def ARu(o:BinOp)(x y:V):Option V:=x.LP λk a s=>y.LP λk' b t=>CO (band (keq k k') (Nat.beq (Nat.add s t) 0)) (X8 (bits o k a b) λm=>some (.int k m 0))
def AZa(a:Int)(n:Nat):Int:=Int.fdiv a (Int.ofNat (Nat.pow 2 n))
def ALV(k:IntKind):Nat:=IntKind.rec 8 16 32 64 8 16 32 64 k
def AWz(x y:V):Option V:=x.LP λk a s=>y.LP λ_ b t=>CO (band (Rt (ilt b 0)) (Nat.beq (Nat.add s t) 0)) (X8 (AZa a (Nat.min (Int.toNat b) (ALV k))) λm=>some (.int k m 0))
def AXo(x y:V):Option V:=x.LP λk a s=>y.LP λ_ b t=>CO (band (Rt (ilt b 0)) (Nat.beq (Nat.add s t) 0)) (mkI k (Int.mul a (Int.ofNat (Nat.pow 2 (Nat.min (Int.toNat b) (ALV k))))) 0)
def ofB(o:Option Bool):Option V:=Option.rec none rQ o
def Dc(k:EK)(neg:Bool)(x y:V):Option V:=ofB (UK (k.eq x y) λb=>some (Bool.rec (motive:=λ_=>Bool->Bool) (λb=>b) Rt neg b))
def AWx(ks:List CK)(neg:Bool)(x y:V)(H:Heap):Option V:=ofB (UK (AB4 (aQ H) ks x y) λb=>some (Bool.rec (motive:=λ_=>Bool->Bool) (λb=>b) Rt neg b))
def AXt(x y:V):Option V:=AD6 (isStr x) (AKC slt x y) (AC4 ilt x y)
def AXa(x y:V):Option V:=AD6 (isStr x) (AKC (λl c m d=>Rt (slt m d l c)) x y) (AC4 ile x y)
def AWG(x y:V):Option V:=AD6 (isStr x) (AKC (λl c m d=>slt m d l c) x y) (AC4 (λa b=>ilt b a) x y)
def AWY(x y:V):Option V:=AD6 (isStr x) (AKC (λl c m d=>Rt (slt l c m d)) x y) (AC4 (λa b=>ile b a) x y)
def B2.ev(o:B2):V->V->Option V:=B2.rec (motive:=λ_=>V->V->Option V)
 AXE AZk AZD (dvs Int.tdiv) AWA AXC (ARu .or) (ARu .xor) (ARu .andNot) AXo AWz AXt AXa AWG AWY o
end Go.DK
namespace Go.RL
open Go.DK
def q0:P2:=.h
def q1:P2:=.z q0
def q2:P2:=.o q0
def q3:P2:=.z q1
def q4:P2:=.o q1
def q5:P2:=.z q2
def q6:P2:=.o q2
def q7:P2:=.z q3
def q8:P2:=.o q3
def q9:P2:=.z q4
def q10:P2:=.o q4
def q11:P2:=.z q5
def q12:P2:=.o q5
def q13:P2:=.z q6
def q14:P2:=.o q6
def q15:P2:=.z q7
def q16:P2:=.o q7
def q17:P2:=.z q8
def q18:P2:=.o q8
def q19:P2:=.z q9
def q20:P2:=.o q9
def q21:P2:=.z q10
def q22:P2:=.o q10
def q23:P2:=.z q11
def q24:P2:=.o q11
def q25:P2:=.z q12
def q26:P2:=.o q12
def q27:P2:=.z q13
def q28:P2:=.o q13
def q29:P2:=.z q14
def q30:P2:=.o q14
def q32:P2:=.o q15
def q33:P2:=.z q16
def q34:P2:=.o q16
def q39:P2:=.z q19
def q40:P2:=.o q19
def q41:P2:=.z q20
def q42:P2:=.o q20
def q43:P2:=.z q21
def q44:P2:=.o q21
def q45:P2:=.z q22
def q46:P2:=.o q22
def q47:P2:=.z q23
def q48:P2:=.o q23
def q49:P2:=.z q24
def q51:P2:=.z q25
def q52:P2:=.o q25
def q53:P2:=.z q26
def q54:P2:=.o q26
def q55:P2:=.z q27
def q60:P2:=.o q29
def q65:P2:=.z q32
def q66:P2:=.o q32
def q67:P2:=.z q33
def q68:P2:=.o q33
def q69:P2:=.z q34
def q79:P2:=.z q39
def q80:P2:=.o q39
def q81:P2:=.z q40
def q86:P2:=.o q42
def q87:P2:=.z q43
def q88:P2:=.o q43
def q92:P2:=.o q45
def q93:P2:=.z q46
def q94:P2:=.o q46
def q95:P2:=.z q47
def Aa4:P2:=.o q49
def Abf:P2:=.o q51
def Abb:P2:=.z q52
def Aap:P2:=.o q52
def AcJ:P2:=.o q55
def AcB:P2:=.z q60
def Abl:P2:=.o q60
def Abx:P2:=.z q67
def Aa2:P2:=.z q95
def AbU:P2:=.z Aa4
def AcA:P2:=.o AcB
def Ab8:P2:=.z Abl
def AcS:P2:=.z Abx
abbrev pK:Nat:=4
abbrev X6:Nat:=13
abbrev ZR:Nat:=14
abbrev fZ:Nat:=15
abbrev WU:Nat:=16
abbrev kK:Nat:=17
abbrev Ih:Nat:=18
abbrev AAA:Nat:=20
abbrev BN:Nat:=30
abbrev AFk:Nat:=36
abbrev aT:Nat:=37
abbrev Ec:Nat:=40
abbrev FI:Nat:=41
abbrev EM:Nat:=42
abbrev DR:Nat:=43
abbrev AZ:Nat:=44
abbrev ADt:Nat:=45
abbrev FM:Nat:=46
abbrev Eh:Nat:=47
abbrev OC:Nat:=48
abbrev OW:Nat:=49
abbrev G7:Nat:=51
abbrev kL:Nat:=52
abbrev Lc:Nat:=53
abbrev V4:Nat:=54
abbrev G6:Nat:=59
abbrev ND:Nat:=67
abbrev Md:Nat:=68
abbrev W9:Nat:=71
abbrev Gi:Nat:=77
abbrev ACk:Nat:=78
abbrev CQ:Nat:=79
abbrev LX:Nat:=80
abbrev D5:Nat:=82
abbrev Aj:Nat:=83
abbrev O3:Nat:=84
abbrev AGD:Nat:=85
abbrev ADz:Nat:=86
abbrev DI:Nat:=87
abbrev Qe:Nat:=88
abbrev P5:Nat:=89
abbrev F5:Nat:=91
abbrev UJ:Nat:=92
abbrev Na:Nat:=93
abbrev Zt:Nat:=100
abbrev iE:Nat:=108
abbrev Vw:Nat:=110
abbrev FC:Nat:=114
abbrev AEM:Nat:=115
abbrev QV:Nat:=122
abbrev Nz:Nat:=123
abbrev XC:Nat:=124
abbrev VK:Nat:=125
abbrev Ez:Nat:=126
abbrev JG:Nat:=127
abbrev Ak:Nat:=128
abbrev Bc:Nat:=129
abbrev Qg:Nat:=130
abbrev OV:Nat:=131
abbrev Ju:Nat:=132
abbrev Dp:Nat:=133
abbrev JQ:Nat:=134
abbrev Dq:Nat:=135
abbrev D6:Nat:=136
abbrev QX:Nat:=137
abbrev Bj:Nat:=138
abbrev CU:Nat:=139
abbrev LU:Nat:=140
abbrev OY:Nat:=141
abbrev Yz:Nat:=142
abbrev Kw:Nat:=143
abbrev Us:Nat:=144
abbrev U7:Nat:=145
abbrev Aw:Nat:=146
abbrev YG:Nat:=147
abbrev BR:Nat:=174
abbrev Xm:Nat:=175
abbrev FB:Nat:=176
abbrev C9:Nat:=177
abbrev Xr:Nat:=178
abbrev XV:Nat:=179
abbrev JD:Nat:=180
abbrev xK:Nat:=181
abbrev Ei:Nat:=182
abbrev Sv:Nat:=183
abbrev EU:Nat:=184
abbrev Gu:Nat:=214
abbrev N7:Nat:=215
abbrev Gq:Nat:=216
abbrev Nh:Nat:=217
abbrev bF:Nat:=218
abbrev YT:Nat:=219
abbrev V3:Nat:=220
abbrev IZ:Nat:=221
abbrev YN:Nat:=248
end Go.RL
namespace Go.DK
inductive AN where
 |mv (x:X)
 |pick (c a b:X)
 |ld1 (x:X)
 |ldn (n:Nat) (x:X)
 |ARY (x:X)
 |bin (o:B2) (x y:X)
 |eq (k:EK) (neg:Bool) (x y:X)
 |not (x:X)
 |neg (x:X)
 |cvi (k:IntKind) (x:X)
 |Ab0 (f:Nat) (first caps:List X)
 |AYS (off:Nat) (x:X)
 |field1 (off:Nat) (x:X)
 |AXW (off n:Nat) (x:X)
 |AY6 (esz:Nat) (x i:X)
 |AXX (n esz:Nat) (x i:X)
 |AcQ (x i:X)
 |Aa5 (n:Nat) (x i:X)
 |ext (x:X) (i:Nat)
 |AaD (x:X)
 |Aa1 (x:X)
 |AaF (x:X)
 |AcG (n:Nat)
 |look (c:CK) (ok:Bool) (zero:V) (m k:X)
 |build (zero:List V) (parts:List (Nat×Nat×X))
 |AZH (x:X) (lo hi:Option X)
 |slc (esz:Nat) (x:X) (lo hi mx:Option X)
 |Ab1 (n esz:Nat) (x:X) (lo hi:Option X)
 |Aas (x y:X)
 |AcP (x y:X)
 |cvS (x:X)
 |AUi (s c:X)
 |AKC (x y:X)
 |eqp (k:List CK) (neg:Bool) (x y:X)
inductive AA where
 |alloc (esz:Nat) (es:List (List V))
 |box (x:X)
 |AIh (esz cnt:Nat) (zero:List V) (parts:List (Nat×X))
 |AFM (esz bytes:Nat) (zero:List V) (l c:X)
 |ARa
 |nS (t e:Nat)
inductive AE where
 |asg (x:X)
 |st (n:Nat) (x v:X)
 |app (esz bytes:Nat) (x y:X)
 |copy (esz:Nat) (x y:X)
 |AMe (c:CK) (m k v:X)
 |del (c:CK) (m k:X)
 |AZB (m:X)
 |call (f:Nat) (args:List X)
 |AN6 (x:X) (args:List X)
 |defer (dp:P2) (x:X) (args:List X)
 |cvB (x:X)
inductive AO where
 |n (o:AN)|a (o:AA)|e (o:AE)
inductive wX where
 |no|to (p:P2)|ps
inductive Gd where
 |no|on (x:X) (b:Bool)
inductive AOp where
 |mk (d:wX) (g:Gd) (o:AO)
def ATY(n:Int):(Nat->Option V)->Option V:=Int.rec (motive:=λ_=>(Nat->Option V)->Option V) (λm f=>f m) (λ_ _=>none) n
def ZA(v:V)(f:Nat->Option V):Option V:=v.LP λ_ n s=>CO (Nat.beq s 0) (ATY n f)
def jL(x:Option X):RS->Nat->(Nat->Option V)->Option V:=
 Option.rec (motive:=λ_=>RS->Nat->(Nat->Option V)->Option V) (λ_ d f=>f d) (λx R _ f=>ZA (x.ev R) f) x
def f3(a b c:Nat)(f:Nat->Nat->Nat->V):Option V:=En a λa=>En b λb=>En c λc=>some (f a b c)
def AFS(R:RS)(lo hi mx:Option X):Option V:=jL mx R 0 λm=>jL hi R 0 λh=>jL lo R 0 λl=>CO (band (Nat.ble l h) (band (Nat.ble h m) (Nat.beq m 0))) (some .Ag)
def ALh(z:Nat)(R:RS)(lo hi mx:Option X)(id off ln cap esz:Nat):Option V:=CO (Nat.beq z esz) (jL mx R cap λm=>jL hi R ln λh=>jL lo R 0 λl=>
 CO (band (Nat.ble l h) (band (Nat.ble h m) (Nat.ble m cap))) (f3 (Nat.add off l) (Nat.sub h l) (Nat.sub m l) λo d c=>.sl id o d c esz))
def AEp(R:RS)(lo hi:Option X)(id off ln esz:Nat):Option V:=jL hi R ln λh=>jL lo R 0 λl=>
 CO (band (Nat.ble l h) (Nat.ble h ln)) (f3 (Nat.add off l) (Nat.sub h l) 0 λo d _=>.OT id o d esz)
def AFN(R:RS)(lo hi:Option X)(mx:X)(id off ln esz:Nat):Option V:=ZA (mx.ev R) λm=>jL hi R 0 λh=>jL lo R 0 λl=>
 CO (band (Nat.ble l h) (band (Nat.ble h m) (Nat.ble m ln))) (f3 (Nat.add off l) (Nat.sub h l) (Nat.sub m l) λo d c=>.sl id o d c esz)
def AC8(z:Nat)(R:RS)(lo hi mx:Option X)(id off ln esz:Nat):Option V:=
 CO (Nat.beq z esz) (Option.rec (motive:=λ_=>Option V) (AEp R lo hi id off ln esz) (λmx=>AFN R lo hi mx id off ln esz) mx)
def AGF(z:Nat)(R:RS)(lo hi mx:Option X)(b off ln cap esz:Nat):Option V:=jL hi R ln λh=>jL lo R 0 λl=>
 Option.rec (motive:=λ_=>Option V) (CO (band (Nat.ble l h) (Nat.ble h cap)) (f3 (Nat.add off (Nat.mul l z)) (Nat.sub h l) (Nat.sub cap l) λo d c=>.rsl b o d c esz)) (λ_=>none) mx
def AC0(z:Nat)(x:V)(R:RS)(lo hi mx:Option X):Option V:=x.AS5 (AFS R lo hi mx) (ALh z R lo hi mx) (AC8 z R lo hi mx) (AGF z R lo hi mx)
def AN5(x:V)(R:RS)(lo hi:Option X):Option V:=
 x.VG λln c=>jL hi R ln λh=>jL lo R 0 λl=>CO (band (Nat.ble l h) (Nat.ble h ln)) (f3 (Nat.sub h l) (AZr c l h) 0 λd c _=>.str d c)
def Az(esz:Nat)(x i:V):Option V:=ZA i λi=>x.AS5 none
 (λid off ln _ e=>CO (band (Nat.beq e esz) (Nat.blt i ln)) (En (Nat.mul (Nat.add off i) esz) λo=>some (.ptr id o)))
 (λid off ln e=>CO (band (Nat.beq e esz) (Nat.blt i ln)) (En (Nat.mul (Nat.add off i) esz) λo=>some (.ptr id o)))
 (λb off ln _ _=>CO (Nat.blt i ln) (En (Nat.add off (Nat.mul i esz)) λo=>some (.gptr b o)))
def AU(off:Nat)(x:V):Option V:=x.AKr (λid o=>En (Nat.add o off) λo=>some (.ptr id o)) (λb o=>En (Nat.add o off) λo=>some (.gptr b o))
abbrev ME:=List (V×V×Nat)
def wS(c:CK)(k:V)(es:ME):Nat->Option (Option (Nat×V)):=
 List.rec (motive:=λ_=>Nat->Option (Option (Nat×V))) (λ_=>some none)
  (λe _ g i=>DF (c.eq e.1 k) λr=>Bool.rec (g (Nat.succ i)) (some (some (i,e.2.1))) r) es
def AZz(b:Ro):(ME->Nat->Option V)->Option V:=Ro.rec (motive:=λ_=>(ME->Nat->Option V)->Option V) (λ_ _ _ _=>none) (λes c f=>f es c) (λ_=>none) (λ_ _ _ _ _ _=>none) (λ_ _=>none) b
def TS(H:Heap)(m:V)(f:ME->Nat->Option V):Option V:=m.ANR (f [] 0) λid=>Option.rec (motive:=λ_=>(ME->Nat->Option V)->Option V) (λ_=>none) AZz (T.get H id) f
def AEC(parts:List (Nat×Nat×X)):RS->List V->List V:=
 List.rec (motive:=λ_=>RS->List V->List V) (λ_ l=>l) (λp _ g R l=>g R (AMI (Bl (p.2.2.ev R)) p.1 l)) parts
def jc(v:V):Bool:=
 V.rec (motive_1:=λ_=>Bool) (motive_2:=λ_=>PUnit)
  (false)
  (λ_ _ _=>true)
  (λ_=>true)
  (λ_ _=>true)
  (true)
  (λ_ _=>true)
  (λ_ _=>true)
  (true)
  (λ_ _ _ _ _=>true)
  (λ_ _ _ _=>true)
  (λ_ _ _ _ _=>true)
  (true)
  (λ_=>true)
  (true)
  (λ_ _ _ _ _=>true)
  (λ_ _=>true)
  (λ_ _=>false)
  (true)
  (λ_ _ _=>true)
  ⟨⟩ (λ_ _ _ _=>⟨⟩) v
def nU(parts:List (Nat×Nat×X)):RS->Bool:=
 List.rec (motive:=λ_=>RS->Bool) (λ_=>true) (λp _ g R=>band (band (jc (p.2.2.ev R)) (Nat.beq (len (Bl (p.2.2.ev R))) p.2.1)) (g R)) parts
abbrev Dy:=List LV
def DV(H:Heap)(id esz:Nat)(n:Nat):Nat->Option Dy:=
 Nat.rec (motive:=λ_=>Nat->Option Dy) (λ_=>some [])
  (λ_ g o=>DF (zf H id (Nat.mul o esz) esz) λL=>DF (g (Nat.succ o)) λLS=>some (L::LS)) n
def jJ(G:AX)(b esz:Nat)(n:Nat):Nat->Option Dy:=
 Nat.rec (motive:=λ_=>Nat->Option Dy) (λ_=>some [])
  (λ_ g o=>DF (G b o esz) λL=>DF (g (Nat.add o esz)) λLS=>some (L::LS)) n
def aU(n:Nat):Nat->Dy:=
 Nat.rec (motive:=λ_=>Nat->Dy) (λ_=>[]) (λ_ g c=>[.int .u8 (.ofNat (Nat.mod c 256)) 0]::g (Nat.div c 256)) n
def elems(v:V):(AX)->(Heap)->(Nat)->Option Dy:=
 V.rec (motive_1:=λ_=>(AX)->(Heap)->(Nat)->Option Dy) (motive_2:=λ_=>PUnit)
  (λ_ _ _=>none)
  (λ_ _ _ _ _ _=>none)
  (λ_ _ _ _=>none)
  (λa b _ _ z=>Bool.rec (motive:=λ_=>Option Dy) none (some (aU a b)) (Nat.beq 1 z))
  (λ_ _ _=>none)
  (λ_ _ _ _ _=>none)
  (λ_ _ _ _ _=>none)
  (λ_ _ _=>some [])
  (λa b c _ e _ H z=>Bool.rec (motive:=λ_=>Option Dy) none (DV H a z c b) (Nat.beq e z))
  (λa b c d _ H z=>Bool.rec (motive:=λ_=>Option Dy) none (DV H a z c b) (Nat.beq d z))
  (λa b c _ _ G _ z=>jJ G a z c b)
  (λ_ _ _=>none)
  (λ_ _ _ _=>none)
  (λ_ _ _=>none)
  (λ_ _ _ _ _ _ _ _=>none)
  (λ_ _ _ _ _=>none)
  (λ_ _ _ _ _=>none)
  (λ_ _ _=>none)
  (λ_ _ _ _ _ _=>none)
  ⟨⟩ (λ_ _ _ _=>⟨⟩) v
def byteOf(v:V):Option Nat:=
 V.rec (motive_1:=λ_=>Option Nat) (motive_2:=λ_=>PUnit)
  (none)
  (λa b c=>Int.rec (motive:=λ_=>Nat->Option Nat) (λm t=>Bool.rec none (some m) (band (Nat.beq (kno a) 4) (band (Nat.blt m 256) (Nat.beq t 0)))) (λ_ _=>none) b c)
  (λ_=>none)
  (λ_ _=>none)
  (none)
  (λ_ _=>none)
  (λ_ _=>none)
  (none)
  (λ_ _ _ _ _=>none)
  (λ_ _ _ _=>none)
  (λ_ _ _ _ _=>none)
  (none)
  (λ_=>none)
  (none)
  (λ_ _ _ _ _=>none)
  (λ_ _=>none)
  (λ_ _=>none)
  (none)
  (λ_ _ _=>none)
  ⟨⟩ (λ_ _ _ _=>⟨⟩) v
def zo(l:Dy):Option Nat:=
 List.rec (motive:=λ_=>Option Nat) (some 0) (λx _ g=>DF (nth x 0) λv=>DF (byteOf v) λm=>DF g λc=>some (Nat.add m (Nat.mul 256 c))) l
def AFe(b:Nat)(f:Nat):Nat->Nat->Int:=
 Nat.rec (motive:=λ_=>Nat->Nat->Int) (λ_ _=>.negSucc 0)
  (λ_ g c i=>Bool.rec (g (Nat.div c 256) (Nat.succ i)) (.ofNat i) (Nat.beq (Nat.mod c 256) b)) f
abbrev uQ:=AX->RS->Heap->Option V
def eMv(x:X):uQ:=λ_ R _=>some (x.ev R)
def AON(c a b:X):uQ:=λ_ R _=>(c.ev R).uY λt=>AD6 t (some (a.ev R)) (some (b.ev R))
def AUh(x:X):uQ:=λG R H=>WZ (ldP (x.ev R) G H 1) λL=>nth L 0
def AUA(n:Nat)(x:X):uQ:=λG R H=>WZ (ldP (x.ev R) G H n) λL=>some (.agg L)
def AI1(x:X):uQ:=λ_ R _=>Am (x.ev R)
def ATo(o:B2)(x y:X):uQ:=λ_ R _=>o.ev (x.ev R) (y.ev R)
def eEq(k:EK)(neg:Bool)(x y:X):uQ:=λ_ R _=>Dc k neg (x.ev R) (y.ev R)
def AUs(x:X):uQ:=λ_ R _=>(x.ev R).uY λb=>rQ (Rt b)
def AUd(x:X):uQ:=λ_ R _=>(x.ev R).LP λk n s=>mkI k (Int.neg n) s
def AT1(k:IntKind)(x:X):uQ:=λ_ R _=>(x.ev R).LP λ_ n s=>mkI k n s
def AOB(f:Nat)(a c:List X):uQ:=λ_ R _=>some (.fn f (jd a R) (jd c R))
def AJg(off:Nat)(x:X):uQ:=λ_ R _=>AU off (x.ev R)
def AFB(off:Nat)(x:X):uQ:=λ_ R _=>(x.ev R).AEb λl=>nth l off
def AFC(off n:Nat)(x:X):uQ:=λ_ R _=>(x.ev R).AEb λl=>some (.agg (aZ n (wZ off l)))
def AIb(esz:Nat)(x i:X):uQ:=λ_ R _=>Az esz (x.ev R) (i.ev R)
def AE2(n esz:Nat)(x i:X):uQ:=λ_ R _=>ZA (i.ev R) λi=>CO (Nat.blt i n) (AU (Nat.mul i esz) (x.ev R))
def AN7(x i:X):uQ:=λ_ R _=>(x.ev R).VG λln c=>ZA (i.ev R) λi=>CO (Nat.blt i ln) (En (ASJ c i) λb=>some (.int .u8 (.ofNat b) 0))
def ANw(n:Nat)(x i:X):uQ:=λ_ R _=>(x.ev R).AEb λl=>ZA (i.ev R) λi=>CO (Nat.blt i n) (nth l i)
def AS3(x:X)(i:Nat):uQ:=λ_ R _=>(x.ev R).AKg λl=>nth l i
def AOL(x:X):uQ:=λ_ R _=>(x.ev R).VG λn _=>some (.int .i64 (.ofNat n) 0)
def AOE(x:X):uQ:=λ_ R _=>lenV (x.ev R)
def AOS(x:X):uQ:=λ_ R H=>TS H (x.ev R) λes _=>En (len es) λn=>some (.int .i64 (.ofNat n) 0)
def AZj(n:Nat):uQ:=λ_ _ _=>some (.int .i64 (.ofNat n) 0)
def AOW(ok:Bool)(z:V)(r:Option (Nat×V)):Option V:=
 Option.rec (motive:=λ_=>Option V) (AD6 ok (some (.G5 [z,.bool false])) (some z)) (λp=>AD6 ok (some (.G5 [p.2,.bool true])) (some p.2)) r
def AOn(c:CK)(ok:Bool)(z:V)(m k:X):uQ:=λ_ R H=>TS H (m.ev R) λes _=>DF (wS c (k.ev R) es 0) (AOW ok z)
def AI7(z:LV)(ps:List (Nat×Nat×X)):uQ:=λ_ R _=>CO (nU ps R) (some (.agg (AEC ps R z)))
def AGv(x:X)(lo hi:Option X):uQ:=λ_ R _=>AN5 (x.ev R) R lo hi
def AUN(z:Nat)(x:X)(lo hi mx:Option X):uQ:=λ_ R _=>AC0 z (x.ev R) R lo hi mx
def AOj(n esz:Nat)(x:X)(lo hi:Option X):uQ:=λ_ R _=>(x.ev R).AKr (λid o=>jL hi R n λh=>jL lo R 0 λl=>
 CO (band (Nat.beq (Nat.mod o esz) 0) (band (Nat.ble l h) (Nat.ble h n))) (f3 (Nat.add (Nat.div o esz) l) (Nat.sub h l) (Nat.sub n l) λa b c=>.sl id a b c esz)) (λ_ _=>none)
def AUb(x y:X):uQ:=λ_ R _=>(x.ev R).LP λk a s=>(y.ev R).LP λk' b t=>CO (band (keq k k') (Nat.beq (Nat.add s t) 0)) (some (.int k (Bool.rec a b (ilt a b)) 0))
def AUu(x y:X):uQ:=λ_ R _=>(x.ev R).LP λk a s=>(y.ev R).LP λk' b t=>CO (band (keq k k') (Nat.beq (Nat.add s t) 0)) (some (.int k (Bool.rec a b (ilt b a)) 0))
def ATU(x:X):uQ:=λG R H=>CO (Rt (isStr (x.ev R))) (DF (elems (x.ev R) G H 1) λl=>DF (zo l) λc=>f3 (len l) c 0 λn c _=>.str n c)
def AJB(s c:X):uQ:=λ_ R _=>(s.ev R).VG λn cd=>(c.ev R).LP λk b _=>CO (Nat.beq (kno k) 4) (ATY b λb=>CO (Nat.blt b 256) (X8 (AFe b n cd 0) λi=>some (.int .i64 i 0)))
def AKo(x y:V):Option V:=x.VG λl c=>y.VG λm d=>some (.int .i64 (Bool.rec (Bool.rec (.ofNat 0) (.ofNat 1) (slt m d l c)) (.negSucc 0) (slt l c m d)) 0)
def ATP(k:List CK)(neg:Bool)(x y:X):uQ:=λ_ R H=>AWx k neg (x.ev R) (y.ev R) H
def AOr(x y:X):uQ:=λ_ R _=>AKo (x.ev R) (y.ev R)
def AN.ev(o:AN):uQ:=AN.rec (motive:=λ_=>uQ)
 eMv AON AUh AUA AI1 ATo eEq AUs AUd AT1 AOB AJg AFB AFC AIb AE2 AN7 ANw AS3 AOL AOE AOS AZj AOn AI7 AGv AUN AOj AUb AUu ATU AJB AOr ATP o
def ANJ(L:LV)(n:Nat):T LV->T LV:=
 Nat.rec (motive:=λ_=>T LV->T LV) (λt=>t) (λi g t=>g (T.set t i L)) n
def IX(LS:Dy):Nat->T LV->T LV:=
 List.rec (motive:=λ_=>Nat->T LV->T LV) (λ_ t=>t) (λL _ g i t=>g (Nat.succ i) (T.set t i L)) LS
def qP(parts:List (Nat×X)):RS->T LV->T LV:=
 List.rec (motive:=λ_=>RS->T LV->T LV) (λ_ t=>t) (λp _ g R t=>g R (T.set t p.1 (Bl (p.2.ev R)))) parts
def Zh(parts:List (Nat×X)):RS->Nat->Nat->Bool:=
 List.rec (motive:=λ_=>RS->Nat->Nat->Bool) (λ_ _ _=>true) (λp _ g R esz cnt=>band (band (jc (p.2.ev R)) (band (Nat.blt p.1 cnt) (Nat.beq (len (Bl (p.2.ev R))) esz))) (g R esz cnt)) parts
def V.ASU(v:V):(Nat->Prop)->Prop:=
 V.rec (motive_1:=λ_=>(Nat->Prop)->Prop) (motive_2:=λ_=>PUnit)
  (λ_=>False)
  (λ_ _ _ _=>False)
  (λ_ _=>False)
  (λ_ _ _=>False)
  (λ_=>False)
  (λa _ f=>f a)
  (λ_ _ _=>False)
  (λ_=>False)
  (λ_ _ _ _ _ _=>False)
  (λ_ _ _ _ _=>False)
  (λ_ _ _ _ _ _=>False)
  (λ_=>False)
  (λ_ _=>False)
  (λ_=>False)
  (λ_ _ _ _ _ _=>False)
  (λ_ _ _=>False)
  (λ_ _ _=>False)
  (λ_=>False)
  (λ_ _ _ _=>False)
  ⟨⟩ (λ_ _ _ _=>⟨⟩) v
def V.AFG(v:V):(Nat->Nat->Prop)->Prop:=
 V.rec (motive_1:=λ_=>(Nat->Nat->Prop)->Prop) (motive_2:=λ_=>PUnit)
  (λ_=>False)
  (λ_ _ _ _=>False)
  (λ_ _=>False)
  (λ_ _ _=>False)
  (λ_=>False)
  (λa b f=>f a b)
  (λ_ _ _=>False)
  (λ_=>False)
  (λ_ _ _ _ _ _=>False)
  (λ_ _ _ _ _=>False)
  (λ_ _ _ _ _ _=>False)
  (λ_=>False)
  (λ_ _=>False)
  (λ_=>False)
  (λ_ _ _ _ _ _=>False)
  (λ_ _ _=>False)
  (λ_ _ _=>False)
  (λ_=>False)
  (λ_ _ _ _=>False)
  ⟨⟩ (λ_ _ _ _=>⟨⟩) v
abbrev KA:=Ro->(Nat->V)->Prop
abbrev AlT:=RS->KA->Prop
def Dj(b:Bool)(p:Prop):Prop:=Bool.rec (motive:=λ_=>Prop->Prop) (λ_=>False) (λp=>p) b p
def AJA(v:V)(f:Nat->Prop):Prop:=Dz (ZA v λn=>some (.ptr n 0)) λv=>V.ASU v f
def Aq(esz:Nat)(es:Dy):AlT:=λ_ k=>FN (len es) λn=>k (.arr esz n (IX es 0 .e)) λid=>.ptr id 0
def AHF(x:X):AlT:=λR k=>Dj (jc (x.ev R)) (FN (len (Bl (x.ev R))) λe=>k (.arr e 1 (T.set .e 0 (Bl (x.ev R)))) λid=>.ptr id 0)
def Ah(esz cnt:Nat)(z:LV)(ps:List (Nat×X)):AlT:=λR k=>Dj (Zh ps R esz cnt) (k (.arr esz cnt (qP ps R (ANJ z cnt .e))) λid=>.sl id 0 cnt cnt esz)
def UM(esz bs:Nat)(z:LV)(l c:X):AlT:=λR k=>AJA (l.ev R) λl=>AJA (c.ev R) λc=>
 Dj (band (Nat.ble l c) (Nat.ble (Nat.mul bs c) 281474976710656)) (k (.arr esz c (ANJ z c .e)) λid=>.sl id 0 l c esz)
def AIc:AlT:=λ_ k=>k (.map [] 0) λid=>.map id
def Abk(t e:Nat):AlT:=λ_ k=>k (.nS t e 0 0 0) λid=>.ptr id 0
def AA.al(o:AA):AlT:=AA.rec (motive:=λ_=>AlT) Aq AHF Ah UM AIc Abk o
abbrev K:=LZ->Heap->Nat->Prop
abbrev KV:=V->Heap->Nat->Prop
abbrev BG:=Nat->List V->Heap->Nat->KV->Prop
def Sz(need bytes:Nat):Bool:=Nat.ble (Nat.mul need bytes) 140737488355328
abbrev AMh:=AX->Nat->Nat->Dy->Heap->Nat->KV->Prop
def Nu(esz bs:Nat)(OS LS:Dy)(H:Heap)(n:Nat)(k:KV):Prop:=
 FN (Nat.add (len OS) (len LS)) λneed=>Dj (Sz need bs) (FN n λn=>k (.OT n 0 need esz) (T.set H n (.arr esz need (IX LS (len OS) (IX OS 0 .e)))) (Nat.succ n))
def AXg:AMh:=λ_ esz bs LS H n k=>List.rec (motive:=λ_=>Prop) (k .Ag H n) (λ_ _ _=>Nu esz bs [] LS H n k) LS
def zk(id off ln cap esz need:Nat)(LS:Dy)(H:Heap)(n:Nat)(k:KV)(b:Ro):Prop:=
 Ro.rec (motive:=λ_=>Prop) (λesz' cnt c=>Dj (band (Nat.beq esz esz') (Nat.ble (Nat.add off need) cnt)) (k (.sl id off need cap esz) (T.set H id (.arr esz cnt (IX LS (Nat.add off ln) c))) n)) (λ_ _=>False) False (λ_ _ _ _ _=>False) (λ_=>False) b
def AVw(id off ln cap e:Nat):AMh:=λ_ esz bs LS H n k=>Dj (Nat.beq e esz) (FN (Nat.add ln (len LS)) λneed=>
 Bool.rec (motive:=λ_=>Prop) (Dz (DV H id esz ln off) λOS=>Nu esz bs OS LS H n k) (Dz (T.get H id) λb=>zk id off ln cap esz need LS H n k b) (Nat.ble need cap))
def gW(id off ln esz bs:Nat)(LS:Dy)(H:Heap)(n:Nat)(k:KV)(b:Ro):Prop:=
 Ro.rec (motive:=λ_=>Prop) (λesz' cnt c=>FN (Nat.add ln (len LS)) λneed=>Dj (band (Sz need bs) (band (Nat.beq esz esz') (Nat.ble (Nat.add off ln) cnt)))
  (FN n λn=>Nat.rec (motive:=λ_=>Prop)
   (k (.OT n 0 need esz) (T.set (T.set H id .dead) n (.arr esz need (IX LS ln c))) (Nat.succ n))
   (λ_ _=>Dz (DV H id esz ln off) λOS=>k (.OT n 0 need esz) (T.set (T.set H id .dead) n (.arr esz need (IX LS ln (IX OS 0 .e)))) (Nat.succ n)) off))
  (λ_ _=>False) False (λ_ _ _ _ _=>False) (λ_=>False) b
def ASa(id off ln e:Nat):AMh:=λ_ esz bs LS H n k=>Dj (Nat.beq e esz) (List.rec (motive:=λ_=>Prop) (k (.OT id off ln esz) H n)
 (λ_ _ _=>Dz (T.get H id) λb=>gW id off ln esz bs LS H n k b) LS)
def ARO(b off ln cap e:Nat):AMh:=λG esz bs LS H n k=>Dj (Nat.blt cap (Nat.add ln (len LS))) (Dz (jJ G b esz ln off) λOS=>Nu esz bs OS LS H n k)
def aF:AMh:=λ_ _ _ _ _ _ _=>False
def AJj(v:V):AMh:=
 V.rec (motive_1:=λ_=>AMh) (motive_2:=λ_=>PUnit)
  (aF)
  (λ_ _ _=>aF)
  (λ_=>aF)
  (λ_ _=>aF)
  (aF)
  (λ_ _=>aF)
  (λ_ _=>aF)
  (AXg)
  (λa b c d e=>AVw a b c d e)
  (λa b c d=>ASa a b c d)
  (λa b c d e=>ARO a b c d e)
  (aF)
  (λ_=>aF)
  (aF)
  (λ_ _ _ _ _=>aF)
  (λ_ _=>aF)
  (λ_ _=>aF)
  (aF)
  (λ_ _ _=>aF)
  ⟨⟩ (λ_ _ _ _=>⟨⟩) v
def AWb(id off esz:Nat)(LS:Dy)(H:Heap)(n:Nat)(k:KV)(b:Ro):Prop:=
 Ro.rec (motive:=λ_=>Prop) (λesz' cnt c=>Dj (band (Nat.beq esz esz') (Nat.ble (Nat.add off (len LS)) cnt)) (FN (len LS) λm=>k (.int .i64 (.ofNat m) 0) (T.set H id (.arr esz cnt (IX LS off c))) n)) (λ_ _=>False) False (λ_ _ _ _ _=>False) (λ_=>False) b
abbrev CpT:=Nat->Dy->Heap->Nat->KV->Prop
def AFv(id off ln:Nat):CpT:=λesz LS H n k=>Dz (T.get H id) λb=>AWb id off esz (aZ ln LS) H n k b
def AKR(v:V):(Nat)->(Dy)->(Heap)->(Nat)->(KV)->Prop:=
 V.rec (motive_1:=λ_=>(Nat)->(Dy)->(Heap)->(Nat)->(KV)->Prop) (motive_2:=λ_=>PUnit)
  (λ_ _ _ _ _=>False)
  (λ_ _ _ _ _ _ _ _=>False)
  (λ_ _ _ _ _ _=>False)
  (λ_ _ _ _ _ _ _=>False)
  (λ_ _ _ _ _=>False)
  (λ_ _ _ _ _ _ _=>False)
  (λ_ _ _ _ _ _ _=>False)
  (λ_ _ H n k=>k (.int .i64 (.ofNat 0) 0) H n)
  (λa b c _ e z L H n k=>Dj (Nat.beq e z) (AFv a b c z L H n k))
  (λa b c d z L H n k=>Dj (Nat.beq d z) (AFv a b c z L H n k))
  (λ_ _ _ _ _ _ _ _ _ _=>False)
  (λ_ _ _ _ _=>False)
  (λ_ _ _ _ _ _=>False)
  (λ_ _ _ _ _=>False)
  (λ_ _ _ _ _ _ _ _ _ _=>False)
  (λ_ _ _ _ _ _ _=>False)
  (λ_ _ _ _ _ _ _=>False)
  (λ_ _ _ _ _=>False)
  (λ_ _ _ _ _ _ _ _=>False)
  ⟨⟩ (λ_ _ _ _=>⟨⟩) v
def AGY{α:Type}(l:List α):Nat->List α:=
 List.rec (motive:=λ_=>Nat->List α) (λ_=>[]) (λy ys g i=>Nat.rec (motive:=λ_=>List α) ys (λi _=>y::g i) i) l
def AVm(b:Ro):(ME->Nat->Option Ro)->Option Ro:=Ro.rec (motive:=λ_=>(ME->Nat->Option Ro)->Option Ro) (λ_ _ _ _=>none) (λes c f=>f es c) (λ_=>none) (λ_ _ _ _ _ _=>none) (λ_ _=>none) b
def AYv(H:Heap)(id:Nat)(f:ME->Nat->Option Ro)(g:Heap->Prop):Prop:=Dz (T.get H id) λb=>Dz (AVm b f) λb=>g (T.set H id b)
def AHO(v:V):(Heap)->(ME->Nat->Option Ro)->(Heap->Prop)->Prop:=
 V.rec (motive_1:=λ_=>(Heap)->(ME->Nat->Option Ro)->(Heap->Prop)->Prop) (motive_2:=λ_=>PUnit)
  (λ_ _ _=>False)
  (λ_ _ _ _ _ _=>False)
  (λ_ _ _ _=>False)
  (λ_ _ _ _ _=>False)
  (λ_ _ _=>False)
  (λ_ _ _ _ _=>False)
  (λ_ _ _ _ _=>False)
  (λ_ _ _=>False)
  (λ_ _ _ _ _ _ _ _=>False)
  (λ_ _ _ _ _ _ _=>False)
  (λ_ _ _ _ _ _ _ _=>False)
  (λ_ _ _=>False)
  (λa H f g=>AYv H a f g)
  (λ_ _ _=>False)
  (λ_ _ _ _ _ _ _ _=>False)
  (λ_ _ _ _ _=>False)
  (λ_ _ _ _ _=>False)
  (λ_ _ _=>False)
  (λ_ _ _ _ _ _=>False)
  ⟨⟩ (λ_ _ _ _=>⟨⟩) v
def V.Yj(v:V):(Nat->LV->LV->Prop)->Prop:=
 V.rec (motive_1:=λ_=>(Nat->LV->LV->Prop)->Prop) (motive_2:=λ_=>PUnit)
  (λ_=>False)
  (λ_ _ _ _=>False)
  (λ_ _=>False)
  (λ_ _ _=>False)
  (λ_=>False)
  (λ_ _ _=>False)
  (λ_ _ _=>False)
  (λ_=>False)
  (λ_ _ _ _ _ _=>False)
  (λ_ _ _ _ _=>False)
  (λ_ _ _ _ _ _=>False)
  (λ_=>False)
  (λ_ _=>False)
  (λ_=>False)
  (λa b c _ _ f=>f a b c)
  (λ_ _ _=>False)
  (λ_ _ _=>False)
  (λ_=>False)
  (λ_ _ _ _=>False)
  ⟨⟩ (λ_ _ _ _=>⟨⟩) v
def ALB(v:V):LV:=
 V.rec (motive_1:=λ_=>LV) (motive_2:=λ_=>PUnit)
  ([])
  (λ_ _ _=>[])
  (λ_=>[])
  (λ_ _=>[])
  ([])
  (λ_ _=>[])
  (λ_ _=>[])
  ([])
  (λ_ _ _ _ _=>[])
  (λ_ _ _ _=>[])
  (λ_ _ _ _ _=>[])
  ([])
  (λ_=>[])
  ([])
  (λ_ _ _ _ _=>[])
  (λ_ _=>[])
  (λa _=>a)
  ([])
  (λ_ _ _=>[])
  ⟨⟩ (λ_ _ _ _=>⟨⟩) v
abbrev ExT:=AX->BG->RS->Heap->Nat->KV->Prop
def AbD(x:X):ExT:=λ_ _ R H n k=>k (x.ev R) H n
def xSt(sz:Nat)(x v:X):ExT:=λ_ _ R H n k=>Dj (band (jc (v.ev R)) (Nat.beq (len (Bl (v.ev R))) sz)) (Dz (stP (x.ev R) H sz (Bl (v.ev R))) λH=>k .undef H n)
def Abt(esz bs:Nat)(x y:X):ExT:=λG _ R H n k=>Dz (elems (y.ev R) G H esz) λLS=>AJj (x.ev R) G esz bs LS H n k
def AZK(esz:Nat)(x y:X):ExT:=λG _ R H n k=>Dz (elems (y.ev R) G H esz) λLS=>AKR (x.ev R) esz LS H n k
def AMx(ck:CK)(key v:V)(es:ME)(c:Nat):Option Ro:=DF (wS ck key es 0) λr=>
 Option.rec (motive:=λ_=>Option Ro) (some (.map (cat es [(key,v,c)]) (Nat.succ c))) (λp=>DF (nth es p.1) λe=>some (.map (oP (e.1,v,e.2.2) es p.1) c)) r
def AWy(ck:CK)(key:V)(es:ME)(c:Nat):Option Ro:=DF (wS ck key es 0) λr=>
 Option.rec (motive:=λ_=>Option Ro) (some (.map es c)) (λp=>some (.map (AGY es p.1) c)) r
def AbJ(c:CK)(m key v:X):ExT:=λ_ _ R H n k=>AHO (m.ev R) H (AMx c (key.ev R) (v.ev R)) λH=>k .undef H n
def AcE(c:CK)(m key:X):ExT:=λ_ _ R H n k=>AHO (m.ev R) H (AWy c (key.ev R)) λH=>k (.G5 []) H n
def AbG(m:X):ExT:=λ_ _ R H n k=>AHO (m.ev R) H (λ_ c=>some (.map [] c)) λH=>k (.G5 []) H n
def AaG(f:Nat)(args:List X):ExT:=λ_ call R H n k=>call f (jd args R) H n k
def AXd(x:X)(args:List X):ExT:=λ_ call R H n k=>V.Yj (x.ev R) λf a c=>call f (cat a (cat (jd args R) c)) H n k
def AWR(dp:P2)(x:X)(args:List X):ExT:=λ_ _ R H n k=>V.Yj (x.ev R) λf a c=>k (.G5 (.fn f (cat a (jd args R)) c::ALB (Om (T.E5 dp R.rg)))) H n
def AcI(x:X):ExT:=λ_ _ R H n k=>Dz ((x.ev R).VG λl c=>some (.ptr l c)) λv=>V.AFG v λl c=>
 FN n λn=>k (.OT n 0 l 1) (T.set H n (.arr 1 l (IX (aU l c) 0 .e))) (Nat.succ n)
def AE.ex(o:AE):ExT:=AE.rec (motive:=λ_=>ExT) AbD xSt Abt AZK AbJ AcE AbG AaG AXd AWR AcI o
def Abi(p:P2)(v:V)(E:RS):RS:=RS.rec (motive:=λ_=>P2->V->RS) (λL R p v=>.mk L (T.dW v p R)) E p v
def AY0(v:V)(E:RS):RS:=RS.rec (motive:=λ_=>V->RS) (λL R v=>.mk (v::L) R) E v
def IC(d:wX)(v:V):RS->RS:=wX.rec (motive:=λ_=>V->RS->RS) (λ_ R=>R) Abi AY0 d v
abbrev KE:=RS->Heap->Nat->Prop
abbrev XoT:=AX->BG->wX->RS->Heap->Nat->KE->Prop
def oN(o:AN):XoT:=λG _ d R H n k=>AL (o.ev G R H) λv=>k (IC d v R) H n
def oA(o:AA):XoT:=λ_ _ d R H n k=>o.al R λb f=>FN n λn=>k (IC d (f n) R) (T.set H n b) (Nat.succ n)
def oE(o:AE):XoT:=λG call d R H n k=>o.ex G call R H n λv H n=>k (IC d v R) H n
def AO.ex(o:AO):XoT:=AO.rec (motive:=λ_=>XoT) oN oA oE o
def Aa(v:V)(b:Bool)(yes no:Prop):Prop:=v.AI4 λt=>Bool.rec (motive:=λ_=>Prop->Prop->Prop) (λ_ n=>n) (λy _=>y) (ASL t b) yes no
def sQ(v:V):(Bool)->(Prop)->(Prop)->Prop:=
 V.rec (motive_1:=λ_=>(Bool)->(Prop)->(Prop)->Prop) (motive_2:=λ_=>PUnit)
  (λ_ _ _=>False)
  (λ_ _ _ _ _ _=>False)
  (λa b' yes no=>Bool.rec (motive:=λ_=>Prop->Prop->Prop) (λ_ n=>n) (λy _=>y) (ASL a b') yes no)
  (λ_ _ _ _ _=>False)
  (λ_ _ _=>False)
  (λ_ _ _ _ _=>False)
  (λ_ _ _ _ _=>False)
  (λ_ _ _=>False)
  (λ_ _ _ _ _ _ _ _=>False)
  (λ_ _ _ _ _ _ _=>False)
  (λ_ _ _ _ _ _ _ _=>False)
  (λ_ _ _=>False)
  (λ_ _ _ _=>False)
  (λ_ _ _=>False)
  (λ_ _ _ _ _ _ _ _=>False)
  (λ_ _ _ _ _=>False)
  (λa _ _ _ no=>List.rec (motive:=λ_=>Prop) no (λ_ _ _=>False) a)
  (λ_ _ _=>False)
  (λ_ _ _ _ _ _=>False)
  ⟨⟩ (λ_ _ _ _=>⟨⟩) v
abbrev XpT:=AX->BG->RS->Heap->Nat->KE->Prop
def gNo(d:wX)(o:AO):XpT:=λG call R H n k=>o.ex G call d R H n k
def gOn(x:X)(b:Bool)(d:wX)(o:AO):XpT:=λG call R H n k=>sQ (x.ev R) b (o.ex G call d R H n k) (k (IC d (.G5 []) R) H n)
def AOp.ex(o:AOp):XpT:=AOp.rec (motive:=λ_=>XpT) (λd g o=>Gd.rec (motive:=λ_=>wX->AO->XpT) gNo gOn g d o) o
def AOI(v:V):(IntKind)->(Int)->(Nat)->Bool:=
 V.rec (motive_1:=λ_=>(IntKind)->(Int)->(Nat)->Bool) (motive_2:=λ_=>PUnit)
  (λ_ _ _=>false)
  (λa b c k n s=>band (keq k a) (band (ieq n b) (band (Nat.beq s 0) (Nat.beq c 0))))
  (λ_ _ _ _=>false)
  (λ_ _ _ _ _=>false)
  (λ_ _ _=>false)
  (λ_ _ _ _ _=>false)
  (λ_ _ _ _ _=>false)
  (λ_ _ _=>false)
  (λ_ _ _ _ _ _ _ _=>false)
  (λ_ _ _ _ _ _ _=>false)
  (λ_ _ _ _ _ _ _ _=>false)
  (λ_ _ _=>false)
  (λ_ _ _ _=>false)
  (λ_ _ _=>false)
  (λ_ _ _ _ _ _ _ _=>false)
  (λ_ _ _ _ _=>false)
  (λ_ _ _ _ _=>false)
  (λ_ _ _=>false)
  (λ_ _ _ _ _ _=>false)
  ⟨⟩ (λ_ _ _ _=>⟨⟩) v
def AGX(v:V):(Bool)->Bool:=
 V.rec (motive_1:=λ_=>(Bool)->Bool) (motive_2:=λ_=>PUnit)
  (λ_=>false)
  (λ_ _ _ _=>false)
  (λa x=>ASL x a)
  (λ_ _ _=>false)
  (λ_=>false)
  (λ_ _ _=>false)
  (λ_ _ _=>false)
  (λ_=>false)
  (λ_ _ _ _ _ _=>false)
  (λ_ _ _ _ _=>false)
  (λ_ _ _ _ _ _=>false)
  (λ_=>false)
  (λ_ _=>false)
  (λ_=>false)
  (λ_ _ _ _ _ _=>false)
  (λ_ _ _=>false)
  (λ_ _ _=>false)
  (λ_=>false)
  (λ_ _ _ _=>false)
  ⟨⟩ (λ_ _ _ _=>⟨⟩) v
def ANs(v:V):(Nat)->(Nat)->Bool:=
 V.rec (motive_1:=λ_=>(Nat)->(Nat)->Bool) (motive_2:=λ_=>PUnit)
  (λ_ _=>false)
  (λ_ _ _ _ _=>false)
  (λ_ _ _=>false)
  (λa b l m=>band (Nat.beq l a) (Nat.beq m b))
  (λ_ _=>false)
  (λ_ _ _ _=>false)
  (λ_ _ _ _=>false)
  (λ_ _=>false)
  (λ_ _ _ _ _ _ _=>false)
  (λ_ _ _ _ _ _=>false)
  (λ_ _ _ _ _ _ _=>false)
  (λ_ _=>false)
  (λ_ _ _=>false)
  (λ_ _=>false)
  (λ_ _ _ _ _ _ _=>false)
  (λ_ _ _ _=>false)
  (λ_ _ _ _=>false)
  (λ_ _=>false)
  (λ_ _ _ _ _=>false)
  ⟨⟩ (λ_ _ _ _=>⟨⟩) v
def AI2(v:V):Bool:=
 V.rec (motive_1:=λ_=>Bool) (motive_2:=λ_=>PUnit)
  (false)
  (λ_ _ _=>false)
  (λ_=>false)
  (λ_ _=>false)
  (true)
  (λ_ _=>false)
  (λ_ _=>false)
  (false)
  (λ_ _ _ _ _=>false)
  (λ_ _ _ _=>false)
  (λ_ _ _ _ _=>false)
  (false)
  (λ_=>false)
  (false)
  (λ_ _ _ _ _=>false)
  (λ_ _=>false)
  (λ_ _=>false)
  (false)
  (λ_ _ _=>false)
  ⟨⟩ (λ_ _ _ _=>⟨⟩) v
def AJc(v:V):Bool:=
 V.rec (motive_1:=λ_=>Bool) (motive_2:=λ_=>PUnit)
  (false)
  (λ_ _ _=>false)
  (λ_=>false)
  (λ_ _=>false)
  (false)
  (λ_ _=>false)
  (λ_ _=>false)
  (true)
  (λ_ _ _ _ _=>false)
  (λ_ _ _ _=>false)
  (λ_ _ _ _ _=>false)
  (false)
  (λ_=>false)
  (false)
  (λ_ _ _ _ _=>false)
  (λ_ _=>false)
  (λ_ _=>false)
  (false)
  (λ_ _ _=>false)
  ⟨⟩ (λ_ _ _ _=>⟨⟩) v
def AJe(v:V):Bool:=
 V.rec (motive_1:=λ_=>Bool) (motive_2:=λ_=>PUnit)
  (false)
  (λ_ _ _=>false)
  (λ_=>false)
  (λ_ _=>false)
  (false)
  (λ_ _=>false)
  (λ_ _=>false)
  (false)
  (λ_ _ _ _ _=>false)
  (λ_ _ _ _=>false)
  (λ_ _ _ _ _=>false)
  (true)
  (λ_=>false)
  (false)
  (λ_ _ _ _ _=>false)
  (λ_ _=>false)
  (λ_ _=>false)
  (false)
  (λ_ _ _=>false)
  ⟨⟩ (λ_ _ _ _=>⟨⟩) v
def AIk(v:V):Bool:=
 V.rec (motive_1:=λ_=>Bool) (motive_2:=λ_=>PUnit)
  (false)
  (λ_ _ _=>false)
  (λ_=>false)
  (λ_ _=>false)
  (false)
  (λ_ _=>false)
  (λ_ _=>false)
  (false)
  (λ_ _ _ _ _=>false)
  (λ_ _ _ _=>false)
  (λ_ _ _ _ _=>false)
  (false)
  (λ_=>false)
  (true)
  (λ_ _ _ _ _=>false)
  (λ_ _=>false)
  (λ_ _=>false)
  (false)
  (λ_ _ _=>false)
  ⟨⟩ (λ_ _ _ _=>⟨⟩) v
def ASH(v:V):(Nat)->(Nat)->Bool:=
 V.rec (motive_1:=λ_=>(Nat)->(Nat)->Bool) (motive_2:=λ_=>PUnit)
  (λ_ _=>false)
  (λ_ _ _ _ _=>false)
  (λ_ _ _=>false)
  (λ_ _ _ _=>false)
  (λ_ _=>false)
  (λa b l m=>band (Nat.beq l a) (Nat.beq m b))
  (λ_ _ _ _=>false)
  (λ_ _=>false)
  (λ_ _ _ _ _ _ _=>false)
  (λ_ _ _ _ _ _=>false)
  (λ_ _ _ _ _ _ _=>false)
  (λ_ _=>false)
  (λ_ _ _=>false)
  (λ_ _=>false)
  (λ_ _ _ _ _ _ _=>false)
  (λ_ _ _ _=>false)
  (λ_ _ _ _=>false)
  (λ_ _=>false)
  (λ_ _ _ _ _=>false)
  ⟨⟩ (λ_ _ _ _=>⟨⟩) v
def AMJ(v:V):(Nat)->(Nat)->Bool:=
 V.rec (motive_1:=λ_=>(Nat)->(Nat)->Bool) (motive_2:=λ_=>PUnit)
  (λ_ _=>false)
  (λ_ _ _ _ _=>false)
  (λ_ _ _=>false)
  (λ_ _ _ _=>false)
  (λ_ _=>false)
  (λ_ _ _ _=>false)
  (λa b l m=>band (Nat.beq l a) (Nat.beq m b))
  (λ_ _=>false)
  (λ_ _ _ _ _ _ _=>false)
  (λ_ _ _ _ _ _=>false)
  (λ_ _ _ _ _ _ _=>false)
  (λ_ _=>false)
  (λ_ _ _=>false)
  (λ_ _=>false)
  (λ_ _ _ _ _ _ _=>false)
  (λ_ _ _ _=>false)
  (λ_ _ _ _=>false)
  (λ_ _=>false)
  (λ_ _ _ _ _=>false)
  ⟨⟩ (λ_ _ _ _=>⟨⟩) v
def AQq(v:V):(Nat)->Bool:=
 V.rec (motive_1:=λ_=>(Nat)->Bool) (motive_2:=λ_=>PUnit)
  (λ_=>false)
  (λ_ _ _ _=>false)
  (λ_ _=>false)
  (λ_ _ _=>false)
  (λ_=>false)
  (λ_ _ _=>false)
  (λ_ _ _=>false)
  (λ_=>false)
  (λ_ _ _ _ _ _=>false)
  (λ_ _ _ _ _=>false)
  (λ_ _ _ _ _ _=>false)
  (λ_=>false)
  (λa l=>Nat.beq l a)
  (λ_=>false)
  (λ_ _ _ _ _ _=>false)
  (λ_ _ _=>false)
  (λ_ _ _=>false)
  (λ_=>false)
  (λ_ _ _ _=>false)
  ⟨⟩ (λ_ _ _ _=>⟨⟩) v
def AQg(v:V):(Nat)->(Nat)->(Nat)->(Nat)->(Nat)->Bool:=
 V.rec (motive_1:=λ_=>(Nat)->(Nat)->(Nat)->(Nat)->(Nat)->Bool) (motive_2:=λ_=>PUnit)
  (λ_ _ _ _ _=>false)
  (λ_ _ _ _ _ _ _ _=>false)
  (λ_ _ _ _ _ _=>false)
  (λ_ _ _ _ _ _ _=>false)
  (λ_ _ _ _ _=>false)
  (λ_ _ _ _ _ _ _=>false)
  (λ_ _ _ _ _ _ _=>false)
  (λ_ _ _ _ _=>false)
  (λa b c d e i j k l m=>band (Nat.beq i a) (band (Nat.beq j b) (band (Nat.beq k c) (band (Nat.beq l d) (Nat.beq m e)))))
  (λ_ _ _ _ _ _ _ _ _=>false)
  (λ_ _ _ _ _ _ _ _ _ _=>false)
  (λ_ _ _ _ _=>false)
  (λ_ _ _ _ _ _=>false)
  (λ_ _ _ _ _=>false)
  (λ_ _ _ _ _ _ _ _ _ _=>false)
  (λ_ _ _ _ _ _ _=>false)
  (λ_ _ _ _ _ _ _=>false)
  (λ_ _ _ _ _=>false)
  (λ_ _ _ _ _ _ _ _=>false)
  ⟨⟩ (λ_ _ _ _=>⟨⟩) v
def ALF(v:V):(Nat)->(Nat)->(Nat)->(Nat)->Bool:=
 V.rec (motive_1:=λ_=>(Nat)->(Nat)->(Nat)->(Nat)->Bool) (motive_2:=λ_=>PUnit)
  (λ_ _ _ _=>false)
  (λ_ _ _ _ _ _ _=>false)
  (λ_ _ _ _ _=>false)
  (λ_ _ _ _ _ _=>false)
  (λ_ _ _ _=>false)
  (λ_ _ _ _ _ _=>false)
  (λ_ _ _ _ _ _=>false)
  (λ_ _ _ _=>false)
  (λ_ _ _ _ _ _ _ _ _=>false)
  (λa b c d i j k l=>band (Nat.beq i a) (band (Nat.beq j b) (band (Nat.beq k c) (Nat.beq l d))))
  (λ_ _ _ _ _ _ _ _ _=>false)
  (λ_ _ _ _=>false)
  (λ_ _ _ _ _=>false)
  (λ_ _ _ _=>false)
  (λ_ _ _ _ _ _ _ _ _=>false)
  (λ_ _ _ _ _ _=>false)
  (λ_ _ _ _ _ _=>false)
  (λ_ _ _ _=>false)
  (λ_ _ _ _ _ _ _=>false)
  ⟨⟩ (λ_ _ _ _=>⟨⟩) v
def AOO(v:V):(Nat)->(Nat)->(Nat)->(Nat)->(Nat)->Bool:=
 V.rec (motive_1:=λ_=>(Nat)->(Nat)->(Nat)->(Nat)->(Nat)->Bool) (motive_2:=λ_=>PUnit)
  (λ_ _ _ _ _=>false)
  (λ_ _ _ _ _ _ _ _=>false)
  (λ_ _ _ _ _ _=>false)
  (λ_ _ _ _ _ _ _=>false)
  (λ_ _ _ _ _=>false)
  (λ_ _ _ _ _ _ _=>false)
  (λ_ _ _ _ _ _ _=>false)
  (λ_ _ _ _ _=>false)
  (λ_ _ _ _ _ _ _ _ _ _=>false)
  (λ_ _ _ _ _ _ _ _ _=>false)
  (λa b c d e i j k l m=>band (Nat.beq i a) (band (Nat.beq j b) (band (Nat.beq k c) (band (Nat.beq l d) (Nat.beq m e)))))
  (λ_ _ _ _ _=>false)
  (λ_ _ _ _ _ _=>false)
  (λ_ _ _ _ _=>false)
  (λ_ _ _ _ _ _ _ _ _ _=>false)
  (λ_ _ _ _ _ _ _=>false)
  (λ_ _ _ _ _ _ _=>false)
  (λ_ _ _ _ _=>false)
  (λ_ _ _ _ _ _ _ _=>false)
  ⟨⟩ (λ_ _ _ _=>⟨⟩) v
def NQ(v:V):(V)->Bool:=
 V.rec (motive_1:=λ_=>(V)->Bool) (motive_2:=λ_=>PUnit)
  (λ_=>false)
  (λa b c y=>AOI y a b c)
  (λa y=>AGX y a)
  (λa b y=>ANs y a b)
  (λy=>AI2 y)
  (λa b y=>ASH y a b)
  (λa b y=>AMJ y a b)
  (λy=>AJc y)
  (λa b c d e y=>AQg y a b c d e)
  (λa b c d y=>ALF y a b c d)
  (λa b c d e y=>AOO y a b c d e)
  (λy=>AJe y)
  (λa y=>AQq y a)
  (λy=>AIk y)
  (λ_ _ _ _ _ _=>false)
  (λ_ _ _=>false)
  (λ_ _ _=>false)
  (λ_=>false)
  (λ_ _ _ _=>false)
  ⟨⟩ (λ_ _ _ _=>⟨⟩) v
def ADp(a:List V):List V->Bool:=
 List.rec (motive:=λ_=>List V->Bool) (λb=>List.rec (motive:=λ_=>Bool) true (λ_ _ _=>false) b)
  (λx _ g b=>List.rec (motive:=λ_=>Bool) false (λy ys _=>band (NQ x y) (g ys)) b) a
def AVf(v:V):(LV)->Bool:=
 V.rec (motive_1:=λ_=>(LV)->Bool) (motive_2:=λ_=>PUnit)
  (λ_=>false)
  (λ_ _ _ _=>false)
  (λ_ _=>false)
  (λ_ _ _=>false)
  (λ_=>false)
  (λ_ _ _=>false)
  (λ_ _ _=>false)
  (λ_=>false)
  (λ_ _ _ _ _ _=>false)
  (λ_ _ _ _ _=>false)
  (λ_ _ _ _ _ _=>false)
  (λ_=>false)
  (λ_ _=>false)
  (λ_=>false)
  (λ_ _ _ _ _ _=>false)
  (λa _ l=>ADp l a)
  (λ_ _ _=>false)
  (λ_=>false)
  (λ_ _ _ _=>false)
  ⟨⟩ (λ_ _ _ _=>⟨⟩) v
def AVe(v:V):(LV)->Bool:=
 V.rec (motive_1:=λ_=>(LV)->Bool) (motive_2:=λ_=>PUnit)
  (λ_=>false)
  (λ_ _ _ _=>false)
  (λ_ _=>false)
  (λ_ _ _=>false)
  (λ_=>false)
  (λ_ _ _=>false)
  (λ_ _ _=>false)
  (λ_=>false)
  (λ_ _ _ _ _ _=>false)
  (λ_ _ _ _ _=>false)
  (λ_ _ _ _ _ _=>false)
  (λ_=>false)
  (λ_ _=>false)
  (λ_=>false)
  (λ_ _ _ _ _ _=>false)
  (λ_ _ _=>false)
  (λa _ l=>ADp l a)
  (λ_=>false)
  (λ_ _ _ _=>false)
  ⟨⟩ (λ_ _ _ _=>⟨⟩) v
def AKe(v:V):Bool:=
 V.rec (motive_1:=λ_=>Bool) (motive_2:=λ_=>PUnit)
  (true)
  (λ_ _ _=>false)
  (λ_=>false)
  (λ_ _=>false)
  (false)
  (λ_ _=>false)
  (λ_ _=>false)
  (false)
  (λ_ _ _ _ _=>false)
  (λ_ _ _ _=>false)
  (λ_ _ _ _ _=>false)
  (false)
  (λ_=>false)
  (false)
  (λ_ _ _ _ _=>false)
  (λ_ _=>false)
  (λ_ _=>false)
  (false)
  (λ_ _ _=>false)
  ⟨⟩ (λ_ _ _ _=>⟨⟩) v
def Ar(v:V):(V)->Bool:=
 V.rec (motive_1:=λ_=>(V)->Bool) (motive_2:=λ_=>PUnit)
  (λy=>AKe y)
  (λa b c y=>AOI y a b c)
  (λa y=>AGX y a)
  (λa b y=>ANs y a b)
  (λy=>AI2 y)
  (λa b y=>ASH y a b)
  (λa b y=>AMJ y a b)
  (λy=>AJc y)
  (λa b c d e y=>AQg y a b c d e)
  (λa b c d y=>ALF y a b c d)
  (λa b c d e y=>AOO y a b c d e)
  (λy=>AJe y)
  (λa y=>AQq y a)
  (λy=>AIk y)
  (λ_ _ _ _ _ _=>false)
  (λa _ y=>AVf y a)
  (λa _ y=>AVe y a)
  (λ_=>false)
  (λ_ _ _ _=>false)
  ⟨⟩ (λ_ _ _ _=>⟨⟩) v
inductive AI where
 |op (o:AOp)
 |re (d:P2) (g:Gd) (o:AN)
inductive AC where
 |skip
 |ops (l:List AOp)
 |reg (l:List AI)
 |seq (a b:AC)
 |cond (x:X) (a b:AC)
 |block (id:Nat) (c:AC)
 |loop (c:AC)
 |exit (id:Nat)
 |ret
def SA(l:List AOp):XpT:=
 List.rec (motive:=λ_=>XpT) (λ_ _ R H n k=>k R H n) (λo _ g G call R H n k=>o.ex G call R H n λR H n=>g G call R H n k) l
abbrev ReT:=AX->RS->Heap->P2->AN->Prop->Prop
def AZ4:ReT:=λG R H d o k=>AL (o.ev G R H) λv=>Dj (Ar v (Om (T.E5 d R.rg))) k
def AbQ(x:X)(b:Bool):ReT:=λG R H d o k=>sQ (x.ev R) b (AL (o.ev G R H) λv=>Dj (Ar v (Om (T.E5 d R.rg))) k) k
def AXU(g:Gd):ReT:=Gd.rec (motive:=λ_=>ReT) AZ4 AbQ g
def AI.ex(i:AI):XpT:=AI.rec (motive:=λ_=>XpT) (λo=>o.ex) (λd g o G _ R H n k=>AXU g G R H d o (k R H n)) i
def Df(l:List AI):XpT:=
 List.rec (motive:=λ_=>XpT) (λ_ _ R H n k=>k R H n) (λi _ g G call R H n k=>i.ex G call R H n λR H n=>g G call R H n k) l
abbrev KX:=Nat->K
abbrev M:=AX->BG->Nat->LZ->Heap->Nat->K->KX->K->Prop
def ARR:M:=λ_ _ _ R H n k _ _=>k R H n
def AS1(l:List AOp):M:=λG call _ R H n k _ _=>SA l G call (.mk [] R) H n λE H n=>k E.rg H n
def AS9(l:List AI):M:=λG call _ R H n k _ _=>Df l G call (.mk [] R) H n λE H n=>k E.rg H n
def AQy(_ _:AC)(a b:M):M:=λG call lf R H n k x r=>a G call lf R H n (λR H n=>b G call lf R H n k x r) x r
def AKi(c:X)(_ _:AC)(a b:M):M:=λG call lf R H n k x r=>Aa (c.ev (.mk [] R)) true (a G call lf R H n k x r) (b G call lf R H n k x r)
def JU(id:Nat)(k:K)(x:KX):KX:=λi R H n=>Bool.rec (motive:=λ_=>Prop->Prop->Prop) (λa _=>a) (λ_ b=>b) (Nat.beq i id) (x i R H n) (k R H n)
def AGT(id:Nat)(_:AC)(a:M):M:=λG call lf R H n k x r=>a G call lf R H n k (JU id k x) r
def Ye(a:M)(G:AX)(call:BG)(lf0 lf:Nat):LZ->Heap->Nat->KX->K->Prop:=
 Nat.rec (motive:=λ_=>LZ->Heap->Nat->KX->K->Prop) (λ_ _ _ _ _=>False) (λ_ g R H n x r=>a G call lf0 R H n (λR H n=>g R H n x r) x r) lf
def AZv(_:AC)(a:M):M:=λG call lf R H n _ x r=>Ye a G call lf lf R H n x r
def AQD(id:Nat):M:=λ_ _ _ R H n _ x _=>x id R H n
def AWj:M:=λ_ _ _ R H n _ _ r=>r R H n
def AC.ex(c:AC):M:=AC.rec (motive:=λ_=>M) ARR AS1 AS9 AQy AKi AGT AZv AQD AWj c
inductive AR where
 |tmp (p:P2)|cell1 (p:P2)|celln (p:P2) (n:Nat)
inductive Nk where
 |join|rep|wstr (t e:Nat)|bstr (t e:Nat)
inductive AF where
 |mk (np:Nat) (code:AC) (res:List AR) (dp:wX) (dg:Nat)
 |nat (k:Nk)
def AR.get(r:AR):AX->LZ->Heap->Option V:=
 AR.rec (motive:=λ_=>AX->LZ->Heap->Option V) (λp _ R _=>some (Om (T.E5 p R))) (λp G R H=>WZ (ldP (Om (T.E5 p R)) G H 1) λL=>nth L 0)
  (λp n G R H=>WZ (ldP (Om (T.E5 p R)) G H n) λL=>some (.agg L)) r
def AET(l:List AR):AX->LZ->Heap->Option LV:=
 List.rec (motive:=λ_=>AX->LZ->Heap->Option LV) (λ_ _ _=>some []) (λr _ g G R H=>DF (r.get G R H) λv=>DF (g G R H) λvs=>some (v::vs)) l
def CG(l:List V):V:=List.rec (motive:=λ_=>V) (V.G5 []) (λv vs _=>List.rec (motive:=λ_=>V) v (λw ws _=>V.G5 (v::w::ws)) vs) l
def jh(args:List V):Nat->LZ->LZ:=
 List.rec (motive:=λ_=>Nat->LZ->LZ) (λ_ R=>R) (λv _ g i R=>g (Nat.succ i) (T.set R i v)) args
def VE(dg:Nat)(l:List V):BG->Heap->Nat->(Heap->Nat->Prop)->Prop:=
 List.rec (motive:=λ_=>BG->Heap->Nat->(Heap->Nat->Prop)->Prop) (λ_ H n k=>k H n)
  (λv _ g call H n k=>V.Yj v λf a c=>Dj (Nat.beq f dg) (call f (cat a c) H n λ_ H n=>g call H n k)) l
def AHH(res:List AR)(G:AX)(k:KV):K:=λR H n=>Dz (AET res G R H) λl=>k (CG l) H n
def Lr(res:List AR)(dg:Nat)(d:wX):AX->BG->KV->K:=
 wX.rec (motive:=λ_=>AX->BG->KV->K) (λG _ k=>AHH res G k) (λp G call k R H n=>VE dg (ALB (Om (T.E5 p R))) call H n λH n=>AHH res G k R H n) (λG _ k=>AHH res G k) d
def AQv(p q:Nat×Nat):Nat×Nat:=(p.1+q.1,p.2+256^p.1*q.2)
def AVD:Dy->Option (List (Nat×Nat))
 |[]=>some []
 |[.str l c]::r=>match AVD r with|some x=>some ((l,c)::x)|none=>none
 |_::_=>none
def ASI(s:Nat×Nat):List (Nat×Nat)->Nat×Nat
 |[]=>(0,0)
 |a::r=>r.foldl (λp q=>AQv (AQv p s) q) a
def AXZ(s:Nat×Nat):Nat->Nat×Nat
 |0=>(0,0)
 |n+1=>AQv s (AXZ s n)
def AT3:Nat:=140737488355328
def AOk(x y:V)(G:AX)(H:Heap)(n:Nat)(k:KV):Prop:=
 match y with
 |.str sl sc=>Dj (Rt (isStr x)) <| Dz (elems x G H 1) λLS=>Dz (AVD LS) λss=>Dj (decide (ss.length<=AT3/\(ASI (sl,sc) ss).1<=AT3)) (k (.str (ASI (sl,sc) ss).1 (ASI (sl,sc) ss).2) H n)
 |_=>False
def ARi(x y:V)(H:Heap)(n:Nat)(k:KV):Prop:=
 match x,y with
 |.str l c,.int .i64 (.ofNat m) _=>Dj (decide (m<=9223372036854775807/\l*m<=AT3)) (k (.str (AXZ (l,c) m).1 (AXZ (l,c) m).2) H n)
 |_,_=>False
def AOR(t e:Nat)(x y:V)(H:Heap)(n:Nat)(k:KV):Prop:=
 match x,y with
 |.ptr id 0,.str m d=>(match T.get H id with
  |some (.nS t' e' l c j)=>Dj (decide (t'=t/\e'=e/\l+m<=AT3)) (k (.G5 [.int .i64 (.ofNat m) 0,.AQW]) (T.set (T.set (bif decide (l=0)then H else T.set H j .dead) n (.own id)) id (.nS t e (AQv (l,c) (m,d)).1 (AQv (l,c) (m,d)).2 n)) (n+1))
  |_=>False)
 |_,_=>False
def ANz(t e:Nat)(x:V)(H:Heap)(n:Nat)(k:KV):Prop:=
 match x with
 |.ptr id 0=>(match T.get H id with
  |some (.nS t' e' l c _)=>Dj (decide (t'=t/\e'=e)) (k (.str l c) (T.set H id .dead) n)
  |_=>False)
 |_=>False
def AAv(f:Nk)(G:AX)(args:List V)(H:Heap)(n:Nat)(k:KV):Prop:=
 match f,args with
 |.join,[x,y]=>AOk x y G H n k
 |.rep,[x,y]=>ARi x y H n k
 |.wstr t e,[x,y]=>AOR t e x y H n k
 |.bstr t e,[x]=>ANz t e x H n k
 |_,_=>False
def noX:KX:=λ_ _ _ _=>False
def qc(f:AF):AX->BG->Nat->List V->Heap->Nat->KV->Prop:=
 AF.rec (motive:=λ_=>AX->BG->Nat->List V->Heap->Nat->KV->Prop) (λnp code res d dg G call lf args H n k=>Dj (Nat.beq (len args) np) (code.ex G call lf (jh args 0 .e) H n (Lr res dg d G call k) noX (Lr res dg d G call k))) (λf G _ _ args H n k=>AAv f G args H n k) f
def run(F:T AF)(G:AX)(lf:Nat)(fuel:Nat):BG:=
 Nat.rec (motive:=λ_=>BG) (λ_ _ _ _ _=>False) (λ_ call f args H n k=>Dz (T.get F f) λaf=>qc af G call lf args H n k) fuel
end Go.DK
