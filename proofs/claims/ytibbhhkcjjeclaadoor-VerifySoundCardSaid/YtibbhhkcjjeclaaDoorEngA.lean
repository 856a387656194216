/- Part of a proof; nothing is assumed. -/
import Derived.Calls
import Derived.Defers
import Derived.Orders
import Derived.KernelRfl
import Derived.Laws.Entries
set_option linter.unusedVariables false
set_option linter.unusedSimpArgs false
noncomputable section
namespace Go.Bv
inductive P2 where
 |h|z (p:P2)|o (p:P2)
deriving DecidableEq
inductive T(α:Type)where
 |e|n (v:Option α) (l r:T α)
def T.val{α:Type}(t:T α):Option α:=T.rec none (λv _ _ _ _=>v) t
def T.left{α:Type}(t:T α):T α:=T.rec .e (λ_ l _ _ _=>l) t
def T.right{α:Type}(t:T α):T α:=T.rec .e (λ_ _ r _ _=>r) t
def T.D6{α:Type}(p:P2):T α->Option α:=
 P2.rec (motive:=λ_=>T α->Option α) T.val (λ_ g t=>g t.left) (λ_ g t=>g t.right) p
def T.aB{α:Type}(x:α)(p:P2):T α->T α:=
 P2.rec (motive:=λ_=>T α->T α) (λt=>.n (some x) t.left t.right)
  (λ_ g t=>.n t.val (g t.left) t.right) (λ_ g t=>.n t.val t.left (g t.right)) p
def AKJ(f:Nat):Nat->P2:=
 Nat.rec (motive:=λ_=>Nat->P2) (λ_=>.h)
  (λ_ g k=>Nat.rec (motive:=λ_=>P2) .h
   (λm _=>Bool.rec (P2.o (g (Nat.div m 2))) (P2.z (g (Nat.div m 2))) (Nat.beq (Nat.mod m 2) 0)) k) f
def PX(k:Nat):P2:=AKJ (Nat.succ k) k
def T.get{α:Type}(t:T α)(k:Nat):Option α:=T.D6 (PX k) t
def T.set{α:Type}(t:T α)(k:Nat)(x:α):T α:=T.aB x (PX k) t
inductive V where
 |undef
 |int (k:IntKind) (n:Int) (s:Nat)
 |bool (b:Bool)
 |str (len code:Nat)
 |OH|ptr (id off:Nat)|gptr (b off:Nat)
 |AZ|sl (id off len cap esz:Nat)|Rh (id off len esz:Nat)|rsl (b off len cap esz:Nat)
 |ADG|map (id:Nat)
 |APz|fn (f:Nat) (first caps:List V)
 |agg (cs:List V)
 |Df (vs:List V)
 |APM|iface (t:Nat) (v:V)
inductive P7 where
 |arr (esz cnt:Nat) (c:T (List V))
 |map (es:List (V×V×Nat)) (clock:Nat)
 |dead
abbrev Heap:=T P7
abbrev Jb:=T V
abbrev AX:=Nat->Nat->Nat->Option (List V)
inductive X where
 |r (p:P2)|c (v:V)|s (i:Nat)
def NT(o:Option V):V:=Option.rec V.undef (λv=>v) o
def ANV(l:List V):Nat->V:=
 List.rec (motive:=λ_=>Nat->V) (λ_=>.undef) (λx _ g i=>Nat.rec (motive:=λ_=>V) x (λi _=>g i) i) l
inductive RS where
 |mk (L:List V) (R:Jb)
def RS.st(E:RS):List V:=RS.rec (λL _=>L) E
def RS.rg(E:RS):Jb:=RS.rec (λ_ R=>R) E
def X.ev(x:X):RS->V:=X.rec (motive:=λ_=>RS->V) (λp E=>NT (T.D6 p E.rg)) (λv _=>v) (λi E=>ANV E.st i) x
def V.Ir(v:V):(IntKind->Int->Nat->Option V)->Option V:=
 V.rec (motive_1:=λ_=>(IntKind->Int->Nat->Option V)->Option V) (motive_2:=λ_=>PUnit)
  (λ_=>none)
  (λa b c f=>f a b c)
  (λ_ _=>none)
  (λ_ _ _=>none)
  (λ_=>none)
  (λ_ _ _=>none)
  (λ_ _ _=>none)
  (λ_=>none)
  (λ_ _ _ _ _ _=>none)
  (λ_ _ _ _ _=>none)
  (λ_ _ _ _ _ _=>none)
  (λ_=>none)
  (λ_ _=>none)
  (λ_=>none)
  (λ_ _ _ _ _ _=>none)
  (λ_ _ _=>none)
  (λ_ _ _=>none)
  (λ_=>none)
  (λ_ _ _ _=>none)
  ⟨⟩ (λ_ _ _ _=>⟨⟩) v
def V.nH(v:V):(Bool->Option V)->Option V:=
 V.rec (motive_1:=λ_=>(Bool->Option V)->Option V) (motive_2:=λ_=>PUnit)
  (λ_=>none)
  (λ_ _ _ _=>none)
  (λa f=>f a)
  (λ_ _ _=>none)
  (λ_=>none)
  (λ_ _ _=>none)
  (λ_ _ _=>none)
  (λ_=>none)
  (λ_ _ _ _ _ _=>none)
  (λ_ _ _ _ _=>none)
  (λ_ _ _ _ _ _=>none)
  (λ_=>none)
  (λ_ _=>none)
  (λ_=>none)
  (λ_ _ _ _ _ _=>none)
  (λ_ _ _=>none)
  (λ_ _ _=>none)
  (λ_=>none)
  (λ_ _ _ _=>none)
  ⟨⟩ (λ_ _ _ _=>⟨⟩) v
def V.AE4(v:V):(Bool->Prop)->Prop:=
 V.rec (motive_1:=λ_=>(Bool->Prop)->Prop) (motive_2:=λ_=>PUnit)
  (λ_=>False)
  (λ_ _ _ _=>False)
  (λa f=>f a)
  (λ_ _ _=>False)
  (λ_=>False)
  (λ_ _ _=>False)
  (λ_ _ _=>False)
  (λ_=>False)
  (λ_ _ _ _ _ _=>False)
  (λ_ _ _ _ _=>False)
  (λ_ _ _ _ _ _=>False)
  (λ_=>False)
  (λ_ _=>False)
  (λ_=>False)
  (λ_ _ _ _ _ _=>False)
  (λ_ _ _=>False)
  (λ_ _ _=>False)
  (λ_=>False)
  (λ_ _ _ _=>False)
  ⟨⟩ (λ_ _ _ _=>⟨⟩) v
def V.U2(v:V):(Nat->Nat->Option V)->Option V:=
 V.rec (motive_1:=λ_=>(Nat->Nat->Option V)->Option V) (motive_2:=λ_=>PUnit)
  (λ_=>none)
  (λ_ _ _ _=>none)
  (λ_ _=>none)
  (λa b f=>f a b)
  (λ_=>none)
  (λ_ _ _=>none)
  (λ_ _ _=>none)
  (λ_=>none)
  (λ_ _ _ _ _ _=>none)
  (λ_ _ _ _ _=>none)
  (λ_ _ _ _ _ _=>none)
  (λ_=>none)
  (λ_ _=>none)
  (λ_=>none)
  (λ_ _ _ _ _ _=>none)
  (λ_ _ _=>none)
  (λ_ _ _=>none)
  (λ_=>none)
  (λ_ _ _ _=>none)
  ⟨⟩ (λ_ _ _ _=>⟨⟩) v
def V.wV(v:V):(List V->Option V)->Option V:=
 V.rec (motive_1:=λ_=>(List V->Option V)->Option V) (motive_2:=λ_=>PUnit)
  (λ_=>none)
  (λ_ _ _ _=>none)
  (λ_ _=>none)
  (λ_ _ _=>none)
  (λ_=>none)
  (λ_ _ _=>none)
  (λ_ _ _=>none)
  (λ_=>none)
  (λ_ _ _ _ _ _=>none)
  (λ_ _ _ _ _=>none)
  (λ_ _ _ _ _ _=>none)
  (λ_=>none)
  (λ_ _=>none)
  (λ_=>none)
  (λ_ _ _ _ _ _=>none)
  (λa _ f=>f a)
  (λ_ _ _=>none)
  (λ_=>none)
  (λ_ _ _ _=>none)
  ⟨⟩ (λ_ _ _ _=>⟨⟩) v
def V.AGQ(v:V):(List V->Option V)->Option V:=
 V.rec (motive_1:=λ_=>(List V->Option V)->Option V) (motive_2:=λ_=>PUnit)
  (λ_=>none)
  (λ_ _ _ _=>none)
  (λ_ _=>none)
  (λ_ _ _=>none)
  (λ_=>none)
  (λ_ _ _=>none)
  (λ_ _ _=>none)
  (λ_=>none)
  (λ_ _ _ _ _ _=>none)
  (λ_ _ _ _ _=>none)
  (λ_ _ _ _ _ _=>none)
  (λ_=>none)
  (λ_ _=>none)
  (λ_=>none)
  (λ_ _ _ _ _ _=>none)
  (λ_ _ _=>none)
  (λa _ f=>f a)
  (λ_=>none)
  (λ_ _ _ _=>none)
  ⟨⟩ (λ_ _ _ _=>⟨⟩) v
def V.AFx(v:V):(Nat->Nat->Option V)->(Nat->Nat->Option V)->Option V:=
 V.rec (motive_1:=λ_=>(Nat->Nat->Option V)->(Nat->Nat->Option V)->Option V) (motive_2:=λ_=>PUnit)
  (λ_ _=>none)
  (λ_ _ _ _ _=>none)
  (λ_ _ _=>none)
  (λ_ _ _ _=>none)
  (λ_ _=>none)
  (λa b f _=>f a b)
  (λa b _ g=>g a b)
  (λ_ _=>none)
  (λ_ _ _ _ _ _ _=>none)
  (λ_ _ _ _ _ _=>none)
  (λ_ _ _ _ _ _ _=>none)
  (λ_ _=>none)
  (λ_ _ _=>none)
  (λ_ _=>none)
  (λ_ _ _ _ _ _ _=>none)
  (λ_ _ _ _=>none)
  (λ_ _ _ _=>none)
  (λ_ _=>none)
  (λ_ _ _ _ _=>none)
  ⟨⟩ (λ_ _ _ _=>⟨⟩) v
def V.AHv(v:V):(Option V)->(Nat->Option V)->Option V:=
 V.rec (motive_1:=λ_=>(Option V)->(Nat->Option V)->Option V) (motive_2:=λ_=>PUnit)
  (λ_ _=>none)
  (λ_ _ _ _ _=>none)
  (λ_ _ _=>none)
  (λ_ _ _ _=>none)
  (λ_ _=>none)
  (λ_ _ _ _=>none)
  (λ_ _ _ _=>none)
  (λ_ _=>none)
  (λ_ _ _ _ _ _ _=>none)
  (λ_ _ _ _ _ _=>none)
  (λ_ _ _ _ _ _ _=>none)
  (λz _=>z)
  (λa _ f=>f a)
  (λ_ _=>none)
  (λ_ _ _ _ _ _ _=>none)
  (λ_ _ _ _=>none)
  (λ_ _ _ _=>none)
  (λ_ _=>none)
  (λ_ _ _ _ _=>none)
  ⟨⟩ (λ_ _ _ _=>⟨⟩) v
def V.AO8(v:V):(Option V)->(Nat->Nat->Nat->Nat->Nat->Option V)->(Nat->Nat->Nat->Nat->Option V)->(Nat->Nat->Nat->Nat->Nat->Option V)->Option V:=
 V.rec (motive_1:=λ_=>(Option V)->(Nat->Nat->Nat->Nat->Nat->Option V)->(Nat->Nat->Nat->Nat->Option V)->(Nat->Nat->Nat->Nat->Nat->Option V)->Option V) (motive_2:=λ_=>PUnit)
  (λ_ _ _ _=>none)
  (λ_ _ _ _ _ _ _=>none)
  (λ_ _ _ _ _=>none)
  (λ_ _ _ _ _ _=>none)
  (λ_ _ _ _=>none)
  (λ_ _ _ _ _ _=>none)
  (λ_ _ _ _ _ _=>none)
  (λz _ _ _=>z)
  (λa b c d e _ f _ _=>f a b c d e)
  (λa b c d _ _ g _=>g a b c d)
  (λa b c d e _ _ _ h=>h a b c d e)
  (λ_ _ _ _=>none)
  (λ_ _ _ _ _=>none)
  (λ_ _ _ _=>none)
  (λ_ _ _ _ _ _ _ _ _=>none)
  (λ_ _ _ _ _ _=>none)
  (λ_ _ _ _ _ _=>none)
  (λ_ _ _ _=>none)
  (λ_ _ _ _ _ _ _=>none)
  ⟨⟩ (λ_ _ _ _=>⟨⟩) v
def Aq(v:V):List V:=
 V.rec (motive_1:=λ_=>List V) (motive_2:=λ_=>PUnit)
  ([v])
  (λ_ _ _=>[v])
  (λ_=>[v])
  (λ_ _=>[v])
  ([v])
  (λ_ _=>[v])
  (λ_ _=>[v])
  ([v])
  (λ_ _ _ _ _=>[v])
  (λ_ _ _ _=>[v])
  (λ_ _ _ _ _=>[v])
  ([v])
  (λ_=>[v])
  ([v])
  (λ_ _ _ _ _=>[v])
  (λa _=>a)
  (λ_ _=>[v])
  ([v])
  (λ_ _ _=>[v])
  ⟨⟩ (λ_ _ _ _=>⟨⟩) v
def isStr(v:V):Bool:=
 V.rec (motive_1:=λ_=>Bool) (motive_2:=λ_=>PUnit)
  (false)
  (λ_ _ _=>false)
  (λ_=>false)
  (λ_ _=>true)
  (false)
  (λ_ _=>false)
  (λ_ _=>false)
  (false)
  (λ_ _ _ _ _=>false)
  (λ_ _ _ _=>false)
  (λ_ _ _ _ _=>false)
  (false)
  (λ_=>false)
  (false)
  (λ_ _ _ _ _=>false)
  (λ_ _=>false)
  (λ_ _=>false)
  (false)
  (λ_ _ _=>false)
  ⟨⟩ (λ_ _ _ _=>⟨⟩) v
def lenV(v:V):Option V:=
 V.rec (motive_1:=λ_=>Option V) (motive_2:=λ_=>PUnit)
  (none)
  (λ_ _ _=>none)
  (λ_=>none)
  (λ_ _=>none)
  (none)
  (λ_ _=>none)
  (λ_ _=>none)
  (some (.int .i64 (.ofNat 0) 0))
  (λ_ _ c _ _=>some (.int .i64 (.ofNat c) 0))
  (λ_ _ c _=>some (.int .i64 (.ofNat c) 0))
  (λ_ _ c _ _=>some (.int .i64 (.ofNat c) 0))
  (none)
  (λ_=>none)
  (none)
  (λ_ _ _ _ _=>none)
  (λ_ _=>none)
  (λ_ _=>none)
  (none)
  (λ_ _ _=>none)
  ⟨⟩ (λ_ _ _ _=>⟨⟩) v
def Ag(v:V):Option V:=
 V.rec (motive_1:=λ_=>Option V) (motive_2:=λ_=>PUnit)
  (none)
  (λ_ _ _=>none)
  (λ_=>none)
  (λ_ _=>none)
  (none)
  (λa b=>some (.ptr a b))
  (λa b=>some (.gptr a b))
  (none)
  (λ_ _ _ _ _=>none)
  (λ_ _ _ _=>none)
  (λ_ _ _ _ _=>none)
  (none)
  (λ_=>none)
  (none)
  (λa b c _ _=>some (.fn a b c))
  (λ_ _=>none)
  (λ_ _=>none)
  (none)
  (λ_ _ _=>none)
  ⟨⟩ (λ_ _ _ _=>⟨⟩) v
def Wq(n:Int):(Int->Option V)->Option V:=λf=>f n
def GX(n:Nat):(Nat->Option V)->Option V:=
 Nat.rec (motive:=λ_=>(Nat->Option V)->Option V) (λf=>f 0) (λk _ f=>f (Nat.succ k)) n
def DU(n:Nat):(Nat->Prop)->Prop:=
 Nat.rec (motive:=λ_=>(Nat->Prop)->Prop) (λf=>f 0) (λk _ f=>f (Nat.succ k)) n
def AUG(k:IntKind):Nat->Bool:=
 IntKind.rec (motive:=λ_=>Nat->Bool) (λm=>Nat.blt m 128) (λm=>Nat.blt m 32768) (λm=>Nat.blt m 2147483648) (λm=>Nat.blt m 9223372036854775808)
  (λm=>Nat.blt m 256) (λm=>Nat.blt m 65536) (λm=>Nat.blt m 4294967296) (λm=>Nat.blt m 18446744073709551616) k
def AUg(k:IntKind):Nat->Bool:=
 IntKind.rec (motive:=λ_=>Nat->Bool) (λm=>Nat.blt m 128) (λm=>Nat.blt m 32768) (λm=>Nat.blt m 2147483648) (λm=>Nat.blt m 9223372036854775808)
  (λ_=>false) (λ_=>false) (λ_=>false) (λ_=>false) k
def inr(k:IntKind)(n:Int):Bool:=Int.rec (motive:=λ_=>IntKind->Bool) (λm k=>AUG k m) (λm k=>AUg k m) n k
def iH(k:IntKind)(n:Int):Int:=Bool.rec (k.wrap n) n (inr k n)
def ASj(k:IntKind)(n:Int):Option V:=Wq (iH k n) λm=>some (.int k m 0)
def mkI(k:IntKind)(n:Int)(s:Nat):Option V:=
 Nat.rec (motive:=λ_=>IntKind->Int->Option V) ASj (λ_ _ k n=>some (.int k (k.wrap n) 1)) s k n
def mkN(k:IntKind)(n:Int)(s:Nat):Option V:=
 Nat.rec (motive:=λ_=>IntKind->Int->Option V) (λk n=>Wq n λm=>some (.int k m 0)) (λ_ _ k n=>some (.int k n 1)) s k n
def AQC(a:Nat)(b:Int):Int:=Int.rec (motive:=λ_=>Nat->Int) (λn m=>.ofNat (Nat.add m n)) (λn m=>Int.subNatNat m (Nat.succ n)) b a
def AQS(a:Nat)(b:Int):Int:=Int.rec (motive:=λ_=>Nat->Int) (λn m=>Int.subNatNat n (Nat.succ m)) (λn m=>.negSucc (Nat.succ (Nat.add m n))) b a
def ABa(a b:Int):Int:=Int.rec (motive:=λ_=>Int->Int) AQC AQS a b
def ile(a b:Int):Bool:=Int.rec (motive:=λ_=>Int->Bool) (λm b=>Int.rec (motive:=λ_=>Nat->Bool) (λn m=>Nat.ble m n) (λ_ _=>false) b m)
 (λm b=>Int.rec (motive:=λ_=>Nat->Bool) (λ_ _=>true) (λn m=>Nat.ble n m) b m) a b
def ilt(a b:Int):Bool:=Int.rec (motive:=λ_=>Int->Bool) (λm b=>Int.rec (motive:=λ_=>Nat->Bool) (λn m=>Nat.blt m n) (λ_ _=>false) b m)
 (λm b=>Int.rec (motive:=λ_=>Nat->Bool) (λ_ _=>true) (λn m=>Nat.blt n m) b m) a b
def ieq(a b:Int):Bool:=Int.rec (motive:=λ_=>Int->Bool) (λm b=>Int.rec (motive:=λ_=>Nat->Bool) (λn m=>Nat.beq m n) (λ_ _=>false) b m)
 (λm b=>Int.rec (motive:=λ_=>Nat->Bool) (λ_ _=>false) (λn m=>Nat.beq n m) b m) a b
def kno(a:IntKind):Nat:=IntKind.rec 0 1 2 3 4 5 6 7 a
def keq(a b:IntKind):Bool:=Nat.beq (kno a) (kno b)
def aC(b:Bool):Bool:=Bool.rec true false b
def band(a b:Bool):Bool:=Bool.rec (motive:=λ_=>Bool->Bool) (λ_=>false) (λb=>b) a b
def ALS(a b:Bool):Bool:=Bool.rec (motive:=λ_=>Bool->Bool) aC (λb=>b) a b
def mkB(b:Bool):Option V:=Bool.rec (some (.bool false)) (some (.bool true)) b
def BQ(b:Bool):Option V->Option V:=Bool.rec (motive:=λ_=>Option V->Option V) (λ_=>none) (λo=>o) b
def xM(b:Bool)(x y:Option V):Option V:=Bool.rec (motive:=λ_=>Option V->Option V->Option V) (λ_ y=>y) (λx _=>x) b x y
def ANl(code i:Nat):Nat:=Nat.mod (Nat.div code (Nat.pow 256 i)) 256
def AT6(code l h:Nat):Nat:=Nat.mod (Nat.div code (Nat.pow 256 l)) (Nat.pow 256 (Nat.sub h l))
def AT8(l1 c1 c2:Nat):Nat:=Nat.add c1 (Nat.mul (Nat.pow 256 l1) c2)
def AAT(f:Nat):Nat->Nat->Nat->Nat->Bool:=
 Nat.rec (motive:=λ_=>Nat->Nat->Nat->Nat->Bool) (λ_ _ _ _=>false)
  (λ_ g l1 c1 l2 c2=>Nat.rec (motive:=λ_=>Bool) false (λl2' _=>Nat.rec (motive:=λ_=>Bool) true (λl1' _=>
   Bool.rec (Nat.blt (Nat.mod c1 256) (Nat.mod c2 256)) (g l1' (Nat.div c1 256) l2' (Nat.div c2 256)) (Nat.beq (Nat.mod c1 256) (Nat.mod c2 256))) l1) l2) f
def slt(l1 c1 l2 c2:Nat):Bool:=AAT (Nat.succ l2) l1 c1 l2 c2
def nth{α:Type}(l:List α):Nat->Option α:=
 List.rec (motive:=λ_=>Nat->Option α) (λ_=>none) (λx _ g i=>Nat.rec (motive:=λ_=>Option α) (some x) (λi _=>g i) i) l
def iw{α:Type}(x:α)(l:List α):Nat->List α:=
 List.rec (motive:=λ_=>Nat->List α) (λ_=>[]) (λy ys g i=>Nat.rec (motive:=λ_=>List α) (x::ys) (λi _=>y::g i) i) l
def len{α:Type}(l:List α):Nat:=List.rec (motive:=λ_=>Nat) 0 (λ_ _ n=>Nat.succ n) l
def cat{α:Type}(a b:List α):List α:=List.rec (motive:=λ_=>List α->List α) (λb=>b) (λx _ g b=>x::g b) a b
def YF{α:Type}(n:Nat):List α->List α:=
 Nat.rec (motive:=λ_=>List α->List α) (λ_=>[]) (λ_ g l=>List.rec (motive:=λ_=>List α) [] (λx xs _=>x::g xs) l) n
def lK{α:Type}(n:Nat):List α->List α:=
 Nat.rec (motive:=λ_=>List α->List α) (λl=>l) (λ_ g l=>List.rec (motive:=λ_=>List α) [] (λ_ xs _=>g xs) l) n
def eH(l:List X):RS->List V:=List.rec (motive:=λ_=>RS->List V) (λ_=>[]) (λx _ g R=>x.ev R::g R) l
def AHn(new:List V)(i:Nat)(l:List V):List V:=cat (YF i l) (cat new (lK (Nat.add i (len new)) l))
abbrev LV:=List V
def VI(o:Option LV)(f:LV->Option V):Option V:=Option.rec (motive:=λ_=>(LV->Option V)->Option V) (λ_=>none) (λv f=>f v) o f
def Gz{α:Type}(o:Option α)(f:α->Prop):Prop:=Option.rec (motive:=λ_=>(α->Prop)->Prop) (λ_=>False) (λv f=>f v) o f
def AL(o:Option V)(f:V->Prop):Prop:=Option.rec (motive:=λ_=>(V->Prop)->Prop) (λ_=>False) (λv f=>f v) o f
def BR{α β:Type}(o:Option α)(f:α->Option β):Option β:=Option.rec (motive:=λ_=>(α->Option β)->Option β) (λ_=>none) (λv f=>f v) o f
def ldC(esz off n:Nat)(L:LV):Option LV:=
 Bool.rec (motive:=λ_=>Option LV)
  (Bool.rec none (some (YF n (lK (Nat.mod off esz) L))) (Nat.ble (Nat.add (Nat.mod off esz) n) esz))
  (some L) (band (Nat.beq n esz) (Nat.beq (Nat.mod off esz) 0))
def ldB(esz cnt:Nat)(c:T LV)(off n:Nat):Option LV:=
 BR (Bool.rec none (T.get c (Nat.div off esz)) (Nat.blt (Nat.div off esz) cnt)) (ldC esz off n)
def P7.ld(b:P7):Nat->Nat->Option LV:=
 P7.rec (motive:=λ_=>Nat->Nat->Option LV) ldB (λ_ _ _ _=>none) (λ_ _=>none) b
def dV(H:Heap)(id off n:Nat):Option LV:=Option.rec (motive:=λ_=>Nat->Nat->Option LV) (λ_ _=>none) P7.ld (T.get H id) off n
def lC(v:V):(AX)->(Heap)->(Nat)->Option LV:=
 V.rec (motive_1:=λ_=>(AX)->(Heap)->(Nat)->Option LV) (motive_2:=λ_=>PUnit)
  (λ_ _ _=>none)
  (λ_ _ _ _ _ _=>none)
  (λ_ _ _ _=>none)
  (λ_ _ _ _ _=>none)
  (λ_ _ _=>none)
  (λa b _ H n=>dV H a b n)
  (λa b G _ n=>G a b n)
  (λ_ _ _=>none)
  (λ_ _ _ _ _ _ _ _=>none)
  (λ_ _ _ _ _ _ _=>none)
  (λ_ _ _ _ _ _ _ _=>none)
  (λ_ _ _=>none)
  (λ_ _ _ _=>none)
  (λ_ _ _=>none)
  (λ_ _ _ _ _ _ _ _=>none)
  (λ_ _ _ _ _=>none)
  (λ_ _ _ _ _=>none)
  (λ_ _ _=>none)
  (λ_ _ _ _ _ _=>none)
  ⟨⟩ (λ_ _ _ _=>⟨⟩) v
def stC(new:LV)(esz cnt:Nat)(c:T LV)(off n:Nat)(L:LV):Option P7:=
 Bool.rec (motive:=λ_=>Option P7)
  (Bool.rec none (some (.arr esz cnt (T.set c (Nat.div off esz) (AHn new (Nat.mod off esz) L)))) (Nat.ble (Nat.add (Nat.mod off esz) n) esz))
  (some (.arr esz cnt (T.set c (Nat.div off esz) new))) (band (Nat.beq n esz) (Nat.beq (Nat.mod off esz) 0))
def stB(esz cnt:Nat)(c:T LV)(off n:Nat)(new:LV):Option P7:=
 BR (Bool.rec none (T.get c (Nat.div off esz)) (Nat.blt (Nat.div off esz) cnt)) (stC new esz cnt c off n)
def P7.st(b:P7):Nat->Nat->LV->Option P7:=
 P7.rec (motive:=λ_=>Nat->Nat->LV->Option P7) stB (λ_ _ _ _ _=>none) (λ_ _ _=>none) b
def stH(H:Heap)(id off n:Nat)(new:LV):Option Heap:=
 BR (Option.rec (motive:=λ_=>Nat->Nat->LV->Option P7) (λ_ _ _=>none) P7.st (T.get H id) off n new) λb=>some (T.set H id b)
def stP(v:V):(Heap)->(Nat)->(LV)->Option Heap:=
 V.rec (motive_1:=λ_=>(Heap)->(Nat)->(LV)->Option Heap) (motive_2:=λ_=>PUnit)
  (λ_ _ _=>none)
  (λ_ _ _ _ _ _=>none)
  (λ_ _ _ _=>none)
  (λ_ _ _ _ _=>none)
  (λ_ _ _=>none)
  (λa b H n new=>stH H a b n new)
  (λ_ _ _ _ _=>none)
  (λ_ _ _=>none)
  (λ_ _ _ _ _ _ _ _=>none)
  (λ_ _ _ _ _ _ _=>none)
  (λ_ _ _ _ _ _ _ _=>none)
  (λ_ _ _=>none)
  (λ_ _ _ _=>none)
  (λ_ _ _=>none)
  (λ_ _ _ _ _ _ _ _=>none)
  (λ_ _ _ _ _=>none)
  (λ_ _ _ _ _=>none)
  (λ_ _ _=>none)
  (λ_ _ _ _ _ _=>none)
  ⟨⟩ (λ_ _ _ _=>⟨⟩) v
def AMW(v:V):(IntKind)->(Int)->(Nat)->Option Bool:=
 V.rec (motive_1:=λ_=>(IntKind)->(Int)->(Nat)->Option Bool) (motive_2:=λ_=>PUnit)
  (λ_ _ _=>none)
  (λa b c k n s=>Bool.rec (motive:=λ_=>Option Bool) none (some (ieq n b)) (band (keq k a) (Nat.beq (Nat.add s c) 0)))
  (λ_ _ _ _=>none)
  (λ_ _ _ _ _=>none)
  (λ_ _ _=>none)
  (λ_ _ _ _ _=>none)
  (λ_ _ _ _ _=>none)
  (λ_ _ _=>none)
  (λ_ _ _ _ _ _ _ _=>none)
  (λ_ _ _ _ _ _ _=>none)
  (λ_ _ _ _ _ _ _ _=>none)
  (λ_ _ _=>none)
  (λ_ _ _ _=>none)
  (λ_ _ _=>none)
  (λ_ _ _ _ _ _ _ _=>none)
  (λ_ _ _ _ _=>none)
  (λ_ _ _ _ _=>none)
  (λ_ _ _=>none)
  (λ_ _ _ _ _ _=>none)
  ⟨⟩ (λ_ _ _ _=>⟨⟩) v
def AH9(v:V):(Bool)->Option Bool:=
 V.rec (motive_1:=λ_=>(Bool)->Option Bool) (motive_2:=λ_=>PUnit)
  (λ_=>none)
  (λ_ _ _ _=>none)
  (λa x=>some (ALS x a))
  (λ_ _ _=>none)
  (λ_=>none)
  (λ_ _ _=>none)
  (λ_ _ _=>none)
  (λ_=>none)
  (λ_ _ _ _ _ _=>none)
  (λ_ _ _ _ _=>none)
  (λ_ _ _ _ _ _=>none)
  (λ_=>none)
  (λ_ _=>none)
  (λ_=>none)
  (λ_ _ _ _ _ _=>none)
  (λ_ _ _=>none)
  (λ_ _ _=>none)
  (λ_=>none)
  (λ_ _ _ _=>none)
  ⟨⟩ (λ_ _ _ _=>⟨⟩) v
def eqStr(v:V):(Nat)->(Nat)->Option Bool:=
 V.rec (motive_1:=λ_=>(Nat)->(Nat)->Option Bool) (motive_2:=λ_=>PUnit)
  (λ_ _=>none)
  (λ_ _ _ _ _=>none)
  (λ_ _ _=>none)
  (λa b l d=>some (band (Nat.beq l a) (Nat.beq d b)))
  (λ_ _=>none)
  (λ_ _ _ _=>none)
  (λ_ _ _ _=>none)
  (λ_ _=>none)
  (λ_ _ _ _ _ _ _=>none)
  (λ_ _ _ _ _ _=>none)
  (λ_ _ _ _ _ _ _=>none)
  (λ_ _=>none)
  (λ_ _ _=>none)
  (λ_ _=>none)
  (λ_ _ _ _ _ _ _=>none)
  (λ_ _ _ _=>none)
  (λ_ _ _ _=>none)
  (λ_ _=>none)
  (λ_ _ _ _ _=>none)
  ⟨⟩ (λ_ _ _ _=>⟨⟩) v
def AMc(v:V):Option Bool:=
 V.rec (motive_1:=λ_=>Option Bool) (motive_2:=λ_=>PUnit)
  (none)
  (λ_ _ _=>none)
  (λ_=>none)
  (λ_ _=>none)
  (some true)
  (λ_ _=>some false)
  (λ_ _=>some false)
  (none)
  (λ_ _ _ _ _=>none)
  (λ_ _ _ _=>none)
  (λ_ _ _ _ _=>none)
  (none)
  (λ_=>none)
  (none)
  (λ_ _ _ _ _=>none)
  (λ_ _=>none)
  (λ_ _=>none)
  (none)
  (λ_ _ _=>none)
  ⟨⟩ (λ_ _ _ _=>⟨⟩) v
def AQT(v:V):(Nat)->(Nat)->Option Bool:=
 V.rec (motive_1:=λ_=>(Nat)->(Nat)->Option Bool) (motive_2:=λ_=>PUnit)
  (λ_ _=>none)
  (λ_ _ _ _ _=>none)
  (λ_ _ _=>none)
  (λ_ _ _ _=>none)
  (λ_ _=>some false)
  (λa b i o=>Bool.rec none (some (Nat.beq o b)) (Nat.beq i a))
  (λ_ _ _ _=>none)
  (λ_ _=>none)
  (λ_ _ _ _ _ _ _=>none)
  (λ_ _ _ _ _ _=>none)
  (λ_ _ _ _ _ _ _=>none)
  (λ_ _=>none)
  (λ_ _ _=>none)
  (λ_ _=>none)
  (λ_ _ _ _ _ _ _=>none)
  (λ_ _ _ _=>none)
  (λ_ _ _ _=>none)
  (λ_ _=>none)
  (λ_ _ _ _ _=>none)
  ⟨⟩ (λ_ _ _ _=>⟨⟩) v
def ALa(v:V):Option Bool:=
 V.rec (motive_1:=λ_=>Option Bool) (motive_2:=λ_=>PUnit)
  (none)
  (λ_ _ _=>none)
  (λ_=>none)
  (λ_ _=>none)
  (some false)
  (λ_ _=>none)
  (λ_ _=>none)
  (none)
  (λ_ _ _ _ _=>none)
  (λ_ _ _ _=>none)
  (λ_ _ _ _ _=>none)
  (none)
  (λ_=>none)
  (none)
  (λ_ _ _ _ _=>none)
  (λ_ _=>none)
  (λ_ _=>none)
  (none)
  (λ_ _ _=>none)
  ⟨⟩ (λ_ _ _ _=>⟨⟩) v
def ADF(v:V):(V)->Option Bool:=
 V.rec (motive_1:=λ_=>(V)->Option Bool) (motive_2:=λ_=>PUnit)
  (λ_=>none)
  (λa b c y=>AMW y a b c)
  (λ_ _=>none)
  (λ_ _ _=>none)
  (λ_=>none)
  (λ_ _ _=>none)
  (λ_ _ _=>none)
  (λ_=>none)
  (λ_ _ _ _ _ _=>none)
  (λ_ _ _ _ _=>none)
  (λ_ _ _ _ _ _=>none)
  (λ_=>none)
  (λ_ _=>none)
  (λ_=>none)
  (λ_ _ _ _ _ _=>none)
  (λ_ _ _=>none)
  (λ_ _ _=>none)
  (λ_=>none)
  (λ_ _ _ _=>none)
  ⟨⟩ (λ_ _ _ _=>⟨⟩) v
def AIb(v:V):(V)->Option Bool:=
 V.rec (motive_1:=λ_=>(V)->Option Bool) (motive_2:=λ_=>PUnit)
  (λ_=>none)
  (λ_ _ _ _=>none)
  (λ_ _=>none)
  (λa b y=>eqStr y a b)
  (λ_=>none)
  (λ_ _ _=>none)
  (λ_ _ _=>none)
  (λ_=>none)
  (λ_ _ _ _ _ _=>none)
  (λ_ _ _ _ _=>none)
  (λ_ _ _ _ _ _=>none)
  (λ_=>none)
  (λ_ _=>none)
  (λ_=>none)
  (λ_ _ _ _ _ _=>none)
  (λ_ _ _=>none)
  (λ_ _ _=>none)
  (λ_=>none)
  (λ_ _ _ _=>none)
  ⟨⟩ (λ_ _ _ _=>⟨⟩) v
def AB7(v:V):(V)->Option Bool:=
 V.rec (motive_1:=λ_=>(V)->Option Bool) (motive_2:=λ_=>PUnit)
  (λ_=>none)
  (λ_ _ _ _=>none)
  (λa y=>AH9 y a)
  (λ_ _ _=>none)
  (λ_=>none)
  (λ_ _ _=>none)
  (λ_ _ _=>none)
  (λ_=>none)
  (λ_ _ _ _ _ _=>none)
  (λ_ _ _ _ _=>none)
  (λ_ _ _ _ _ _=>none)
  (λ_=>none)
  (λ_ _=>none)
  (λ_=>none)
  (λ_ _ _ _ _ _=>none)
  (λ_ _ _=>none)
  (λ_ _ _=>none)
  (λ_=>none)
  (λ_ _ _ _=>none)
  ⟨⟩ (λ_ _ _ _=>⟨⟩) v
def ANH(v:V):(V)->Option Bool:=
 V.rec (motive_1:=λ_=>(V)->Option Bool) (motive_2:=λ_=>PUnit)
  (λ_=>none)
  (λ_ _ _ _=>none)
  (λ_ _=>none)
  (λ_ _ _=>none)
  (λy=>AMc y)
  (λa b y=>AQT y a b)
  (λ_ _ y=>ALa y)
  (λ_=>none)
  (λ_ _ _ _ _ _=>none)
  (λ_ _ _ _ _=>none)
  (λ_ _ _ _ _ _=>none)
  (λ_=>none)
  (λ_ _=>none)
  (λ_=>none)
  (λ_ _ _ _ _ _=>none)
  (λ_ _ _=>none)
  (λ_ _ _=>none)
  (λ_=>none)
  (λ_ _ _ _=>none)
  ⟨⟩ (λ_ _ _ _=>⟨⟩) v
def AL9(v:V):Option Bool:=
 V.rec (motive_1:=λ_=>Option Bool) (motive_2:=λ_=>PUnit)
  (none)
  (λ_ _ _=>none)
  (λ_=>none)
  (λ_ _=>none)
  (none)
  (λ_ _=>none)
  (λ_ _=>none)
  (some true)
  (λ_ _ _ _ _=>some false)
  (λ_ _ _ _=>some false)
  (λ_ _ _ _ _=>some false)
  (none)
  (λ_=>none)
  (none)
  (λ_ _ _ _ _=>none)
  (λ_ _=>none)
  (λ_ _=>none)
  (none)
  (λ_ _ _=>none)
  ⟨⟩ (λ_ _ _ _=>⟨⟩) v
def iK(v:V):Option Bool:=
 V.rec (motive_1:=λ_=>Option Bool) (motive_2:=λ_=>PUnit)
  (none)
  (λ_ _ _=>none)
  (λ_=>none)
  (λ_ _=>none)
  (none)
  (λ_ _=>none)
  (λ_ _=>none)
  (some false)
  (λ_ _ _ _ _=>none)
  (λ_ _ _ _=>none)
  (λ_ _ _ _ _=>none)
  (none)
  (λ_=>none)
  (none)
  (λ_ _ _ _ _=>none)
  (λ_ _=>none)
  (λ_ _=>none)
  (none)
  (λ_ _ _=>none)
  ⟨⟩ (λ_ _ _ _=>⟨⟩) v
def AMl(v:V):Option Bool:=
 V.rec (motive_1:=λ_=>Option Bool) (motive_2:=λ_=>PUnit)
  (none)
  (λ_ _ _=>none)
  (λ_=>none)
  (λ_ _=>none)
  (none)
  (λ_ _=>none)
  (λ_ _=>none)
  (none)
  (λ_ _ _ _ _=>none)
  (λ_ _ _ _=>none)
  (λ_ _ _ _ _=>none)
  (none)
  (λ_=>none)
  (some true)
  (λ_ _ _ _ _=>some false)
  (λ_ _=>none)
  (λ_ _=>none)
  (none)
  (λ_ _ _=>none)
  ⟨⟩ (λ_ _ _ _=>⟨⟩) v
def AJb(v:V):Option Bool:=
 V.rec (motive_1:=λ_=>Option Bool) (motive_2:=λ_=>PUnit)
  (none)
  (λ_ _ _=>none)
  (λ_=>none)
  (λ_ _=>none)
  (none)
  (λ_ _=>none)
  (λ_ _=>none)
  (none)
  (λ_ _ _ _ _=>none)
  (λ_ _ _ _=>none)
  (λ_ _ _ _ _=>none)
  (none)
  (λ_=>none)
  (some false)
  (λ_ _ _ _ _=>none)
  (λ_ _=>none)
  (λ_ _=>none)
  (none)
  (λ_ _ _=>none)
  ⟨⟩ (λ_ _ _ _=>⟨⟩) v
def AMy(v:V):Option Bool:=
 V.rec (motive_1:=λ_=>Option Bool) (motive_2:=λ_=>PUnit)
  (none)
  (λ_ _ _=>none)
  (λ_=>none)
  (λ_ _=>none)
  (none)
  (λ_ _=>none)
  (λ_ _=>none)
  (none)
  (λ_ _ _ _ _=>none)
  (λ_ _ _ _=>none)
  (λ_ _ _ _ _=>none)
  (some true)
  (λ_=>some false)
  (none)
  (λ_ _ _ _ _=>none)
  (λ_ _=>none)
  (λ_ _=>none)
  (none)
  (λ_ _ _=>none)
  ⟨⟩ (λ_ _ _ _=>⟨⟩) v
def AJs(v:V):Option Bool:=
 V.rec (motive_1:=λ_=>Option Bool) (motive_2:=λ_=>PUnit)
  (none)
  (λ_ _ _=>none)
  (λ_=>none)
  (λ_ _=>none)
  (none)
  (λ_ _=>none)
  (λ_ _=>none)
  (none)
  (λ_ _ _ _ _=>none)
  (λ_ _ _ _=>none)
  (λ_ _ _ _ _=>none)
  (some false)
  (λ_=>none)
  (none)
  (λ_ _ _ _ _=>none)
  (λ_ _=>none)
  (λ_ _=>none)
  (none)
  (λ_ _ _=>none)
  ⟨⟩ (λ_ _ _ _=>⟨⟩) v
def kSl(v:V):(V)->Option Bool:=
 V.rec (motive_1:=λ_=>(V)->Option Bool) (motive_2:=λ_=>PUnit)
  (λ_=>none)
  (λ_ _ _ _=>none)
  (λ_ _=>none)
  (λ_ _ _=>none)
  (λ_=>none)
  (λ_ _ _=>none)
  (λ_ _ _=>none)
  (λy=>AL9 y)
  (λ_ _ _ _ _ y=>iK y)
  (λ_ _ _ _ y=>iK y)
  (λ_ _ _ _ _ y=>iK y)
  (λ_=>none)
  (λ_ _=>none)
  (λ_=>none)
  (λ_ _ _ _ _ _=>none)
  (λ_ _ _=>none)
  (λ_ _ _=>none)
  (λ_=>none)
  (λ_ _ _ _=>none)
  ⟨⟩ (λ_ _ _ _=>⟨⟩) v
def kFn(v:V):(V)->Option Bool:=
 V.rec (motive_1:=λ_=>(V)->Option Bool) (motive_2:=λ_=>PUnit)
  (λ_=>none)
  (λ_ _ _ _=>none)
  (λ_ _=>none)
  (λ_ _ _=>none)
  (λ_=>none)
  (λ_ _ _=>none)
  (λ_ _ _=>none)
  (λ_=>none)
  (λ_ _ _ _ _ _=>none)
  (λ_ _ _ _ _=>none)
  (λ_ _ _ _ _ _=>none)
  (λ_=>none)
  (λ_ _=>none)
  (λy=>AMl y)
  (λ_ _ _ _ _ y=>AJb y)
  (λ_ _ _=>none)
  (λ_ _ _=>none)
  (λ_=>none)
  (λ_ _ _ _=>none)
  ⟨⟩ (λ_ _ _ _=>⟨⟩) v
def ASJ(v:V):(V)->Option Bool:=
 V.rec (motive_1:=λ_=>(V)->Option Bool) (motive_2:=λ_=>PUnit)
  (λ_=>none)
  (λ_ _ _ _=>none)
  (λ_ _=>none)
  (λ_ _ _=>none)
  (λ_=>none)
  (λ_ _ _=>none)
  (λ_ _ _=>none)
  (λ_=>none)
  (λ_ _ _ _ _ _=>none)
  (λ_ _ _ _ _=>none)
  (λ_ _ _ _ _ _=>none)
  (λy=>AMy y)
  (λ_ y=>AJs y)
  (λ_=>none)
  (λ_ _ _ _ _ _=>none)
  (λ_ _ _=>none)
  (λ_ _ _=>none)
  (λ_=>none)
  (λ_ _ _ _=>none)
  ⟨⟩ (λ_ _ _ _=>⟨⟩) v
def RX(o:Option Bool)(f:Bool->Option Bool):Option Bool:=Option.rec (motive:=λ_=>(Bool->Option Bool)->Option Bool) (λ_=>none) (λv f=>f v) o f
inductive CK where
 |int|str|bool|ptr
def CK.eq(k:CK):V->V->Option Bool:=CK.rec (motive:=λ_=>V->V->Option Bool) ADF AIb AB7 ANH k
def ACE(ks:List CK):List V->List V->Option Bool:=
 List.rec (motive:=λ_=>List V->List V->Option Bool) (λa b=>List.rec (motive:=λ_=>Option Bool) (List.rec (motive:=λ_=>Option Bool) (some true) (λ_ _ _=>none) b) (λ_ _ _=>none) a)
  (λk _ g a b=>List.rec (motive:=λ_=>Option Bool) none (λx xs _=>List.rec (motive:=λ_=>Option Bool) none (λy ys _=>RX (k.eq x y) λr=>RX (g xs ys) λr'=>some (band r r')) b) a) ks
def AQB(v:V):(List CK)->(LV)->Option Bool:=
 V.rec (motive_1:=λ_=>(List CK)->(LV)->Option Bool) (motive_2:=λ_=>PUnit)
  (λ_ _=>none)
  (λ_ _ _ _ _=>none)
  (λ_ _ _=>none)
  (λ_ _ _ _=>none)
  (λ_ _=>none)
  (λ_ _ _ _=>none)
  (λ_ _ _ _=>none)
  (λ_ _=>none)
  (λ_ _ _ _ _ _ _=>none)
  (λ_ _ _ _ _ _=>none)
  (λ_ _ _ _ _ _ _=>none)
  (λ_ _=>none)
  (λ_ _ _=>none)
  (λ_ _=>none)
  (λ_ _ _ _ _ _ _=>none)
  (λa _ ks l=>ACE ks l a)
  (λ_ _ _ _=>none)
  (λ_ _=>none)
  (λ_ _ _ _ _=>none)
  ⟨⟩ (λ_ _ _ _=>⟨⟩) v
def AQ5(v:V):(List CK)->(V)->Option Bool:=
 V.rec (motive_1:=λ_=>(List CK)->(V)->Option Bool) (motive_2:=λ_=>PUnit)
  (λ_ _=>none)
  (λ_ _ _ _ _=>none)
  (λ_ _ _=>none)
  (λ_ _ _ _=>none)
  (λ_ _=>none)
  (λ_ _ _ _=>none)
  (λ_ _ _ _=>none)
  (λ_ _=>none)
  (λ_ _ _ _ _ _ _=>none)
  (λ_ _ _ _ _ _=>none)
  (λ_ _ _ _ _ _ _=>none)
  (λ_ _=>none)
  (λ_ _ _=>none)
  (λ_ _=>none)
  (λ_ _ _ _ _ _ _=>none)
  (λa _ ks y=>AQB y ks a)
  (λ_ _ _ _=>none)
  (λ_ _=>none)
  (λ_ _ _ _ _=>none)
  ⟨⟩ (λ_ _ _ _=>⟨⟩) v
inductive EK where
 |one (k:CK)|agg (ks:List CK)|sl|fn|map
def EK.eq(k:EK):V->V->Option Bool:=EK.rec (motive:=λ_=>V->V->Option Bool) (λk=>k.eq) (λks x y=>AQ5 x ks y) kSl kFn ASJ k
inductive B2 where
 |add|sub|mul|quo|rem|and|or|xor|andNot|shl|shr|lss|leq|gtr|geq
def AKz(f:Int->Int->Bool)(x y:V):Option V:=x.Ir λk a s=>y.Ir λk' b t=>BQ (band (keq k k') (Nat.beq (Nat.add s t) 0)) (mkB (f a b))
def AFw(f:Nat->Nat->Nat->Nat->Bool)(x y:V):Option V:=x.U2 λl c=>y.U2 λm d=>mkB (f l c m d)
def ari(f:Int->Int->Int)(x y:V):Option V:=x.Ir λk a s=>y.Ir λk' b t=>BQ (keq k k') (mkI k (f a b) (Nat.add s t))
def dvs(f:Int->Int->Int)(x y:V):Option V:=
 x.Ir λk a s=>y.Ir λk' b t=>BQ (band (keq k k') (band (Nat.beq t 0) (aC (ieq b 0)))) (mkI k (f a b) s)
def AQm(x y:V):Option V:=
 x.Ir λk a s=>y.Ir λk' b t=>BQ (band (keq k k') (band (Nat.beq t 0) (aC (ieq b 0)))) (mkN k (Int.tmod a b) s)
def ATp(x y:V):Option V:=x.U2 λl c=>y.U2 λm d=>BQ (Nat.blt (Nat.add l m) 9223372036854775808) (GX (Nat.add l m) λn=>GX (AT8 l c d) λe=>some (.str n e))
def ASx(x y:V):Option V:=xM (isStr x) (ATp x y) (ari ABa x y)
def AUF(x y:V):Option V:=ari (λa b=>ABa a (Int.neg b)) x y
def AUz(x y:V):Option V:=ari Int.mul x y
def AN3(k:IntKind)(a b:Int):Int:=Int.rec (motive:=λ_=>Int->IntKind->Int)
 (λm b k=>Int.rec (motive:=λ_=>Nat->IntKind->Int) (λn m k=>iH k (.ofNat (Nat.land m n))) (λn m k=>bits .and k (.ofNat m) (.negSucc n)) b m k)
 (λm b k=>bits .and k (.negSucc m) b) a b k
def AR9(x y:V):Option V:=x.Ir λk a s=>y.Ir λk' b t=>BQ (band (keq k k') (Nat.beq (Nat.add s t) 0)) (Wq (AN3 k a b) λm=>some (.int k m 0))
def ANO(o:BinOp)(x y:V):Option V:=x.Ir λk a s=>y.Ir λk' b t=>BQ (band (keq k k') (Nat.beq (Nat.add s t) 0)) (Wq (bits o k a b) λm=>some (.int k m 0))
def ATc(a:Int)(n:Nat):Int:=Int.fdiv a (Int.ofNat (Nat.pow 2 n))
def AF1(k:IntKind):Nat:=IntKind.rec 8 16 32 64 8 16 32 64 k
def AR6(x y:V):Option V:=x.Ir λk a s=>y.Ir λ_ b t=>BQ (band (aC (ilt b 0)) (Nat.beq (Nat.add s t) 0)) (Wq (ATc a (Nat.min (Int.toNat b) (AF1 k))) λm=>some (.int k m 0))
def AR3(x y:V):Option V:=x.Ir λk a s=>y.Ir λ_ b t=>BQ (band (aC (ilt b 0)) (Nat.beq (Nat.add s t) 0)) (mkI k (Int.mul a (Int.ofNat (Nat.pow 2 (Nat.min (Int.toNat b) (AF1 k))))) 0)
def ofB(o:Option Bool):Option V:=Option.rec none mkB o
def Cc(k:EK)(neg:Bool)(x y:V):Option V:=ofB (RX (k.eq x y) λb=>some (Bool.rec (motive:=λ_=>Bool->Bool) (λb=>b) aC neg b))
def ARp(x y:V):Option V:=xM (isStr x) (AFw slt x y) (AKz ilt x y)
def AQv(x y:V):Option V:=xM (isStr x) (AFw (λl c m d=>aC (slt m d l c)) x y) (AKz ile x y)
def ASa(x y:V):Option V:=xM (isStr x) (AFw (λl c m d=>slt m d l c) x y) (AKz (λa b=>ilt b a) x y)
def AQ9(x y:V):Option V:=xM (isStr x) (AFw (λl c m d=>aC (slt l c m d)) x y) (AKz (λa b=>ile b a) x y)
def B2.ev(o:B2):V->V->Option V:=B2.rec (motive:=λ_=>V->V->Option V)
 ASx AUF AUz (dvs Int.tdiv) AQm AR9 (ANO .or) (ANO .xor) (ANO .andNot) AR3 AR6 ARp AQv ASa AQ9 o
inductive AN where
 |mv (x:X)
 |pick (c a b:X)
 |ld1 (x:X)
 |ldn (n:Nat) (x:X)
 |ANA (x:X)
 |bin (o:B2) (x y:X)
 |eq (k:EK) (neg:Bool) (x y:X)
 |not (x:X)
 |neg (x:X)
 |cvi (k:IntKind) (x:X)
 |AVc (f:Nat) (first caps:List X)
 |AUl (off:Nat) (x:X)
 |field1 (off:Nat) (x:X)
 |ASl (off n:Nat) (x:X)
 |ATn (esz:Nat) (x i:X)
 |ASB (n esz:Nat) (x i:X)
 |AWG (x i:X)
 |AV7 (n:Nat) (x i:X)
 |ext (x:X) (i:Nat)
 |Z8 (x:X)
 |AWO (x:X)
 |ATj (x:X)
 |AV3 (n:Nat)
 |look (c:CK) (ok:Bool) (zero:V) (m k:X)
 |build (zero:List V) (parts:List (Nat×Nat×X))
 |ATr (x:X) (lo hi:Option X)
 |slc (esz:Nat) (x:X) (lo hi mx:Option X)
 |AWZ (n esz:Nat) (x:X) (lo hi:Option X)
 |AVs (x y:X)
 |AWe (x y:X)
 |cvS (x:X)
 |APu (s c:X)
 |AFw (x y:X)
inductive AA where
 |alloc (esz:Nat) (es:List (List V))
 |box (x:X)
 |AEw (esz cnt:Nat) (zero:List V) (parts:List (Nat×X))
 |AAj (esz bytes:Nat) (zero:List V) (l c:X)
 |ALX
inductive AE where
 |asg (x:X)
 |st (n:Nat) (x v:X)
 |app (esz bytes:Nat) (x y:X)
 |copy (esz:Nat) (x y:X)
 |AHk (c:CK) (m k v:X)
 |del (c:CK) (m k:X)
 |AUC (m:X)
 |call (f:Nat) (args:List X)
 |AJv (x:X) (args:List X)
 |defer (dp:P2) (x:X) (args:List X)
 |cvB (x:X)
inductive AO where
 |n (o:AN)|a (o:AA)|e (o:AE)
inductive lS where
 |no|to (p:P2)|ps
inductive Gd where
 |no|on (x:X) (b:Bool)
inductive uh where
 |mk (d:lS) (g:Gd) (o:AO)
def AOv(n:Int):(Nat->Option V)->Option V:=Int.rec (motive:=λ_=>(Nat->Option V)->Option V) (λm f=>f m) (λ_ _=>none) n
def Xf(v:V)(f:Nat->Option V):Option V:=v.Ir λ_ n s=>BQ (Nat.beq s 0) (AOv n f)
def dZ(x:Option X):RS->Nat->(Nat->Option V)->Option V:=
 Option.rec (motive:=λ_=>RS->Nat->(Nat->Option V)->Option V) (λ_ d f=>f d) (λx R _ f=>Xf (x.ev R) f) x
def f3(a b c:Nat)(f:Nat->Nat->Nat->V):Option V:=GX a λa=>GX b λb=>GX c λc=>some (f a b c)
def AB3(R:RS)(lo hi mx:Option X):Option V:=dZ mx R 0 λm=>dZ hi R 0 λh=>dZ lo R 0 λl=>BQ (band (Nat.ble l h) (band (Nat.ble h m) (Nat.beq m 0))) (some .AZ)
def AGS(z:Nat)(R:RS)(lo hi mx:Option X)(id off ln cap esz:Nat):Option V:=BQ (Nat.beq z esz) (dZ mx R cap λm=>dZ hi R ln λh=>dZ lo R 0 λl=>
 BQ (band (Nat.ble l h) (band (Nat.ble h m) (Nat.ble m cap))) (f3 (Nat.add off l) (Nat.sub h l) (Nat.sub m l) λo d c=>.sl id o d c esz))
def AAv(R:RS)(lo hi:Option X)(id off ln esz:Nat):Option V:=dZ hi R ln λh=>dZ lo R 0 λl=>
 BQ (band (Nat.ble l h) (Nat.ble h ln)) (f3 (Nat.add off l) (Nat.sub h l) 0 λo d _=>.Rh id o d esz)
def AAo(R:RS)(lo hi:Option X)(mx:X)(id off ln esz:Nat):Option V:=Xf (mx.ev R) λm=>dZ hi R 0 λh=>dZ lo R 0 λl=>
 BQ (band (Nat.ble l h) (band (Nat.ble h m) (Nat.ble m ln))) (f3 (Nat.add off l) (Nat.sub h l) (Nat.sub m l) λo d c=>.sl id o d c esz)
def yw(z:Nat)(R:RS)(lo hi mx:Option X)(id off ln esz:Nat):Option V:=
 BQ (Nat.beq z esz) (Option.rec (motive:=λ_=>Option V) (AAv R lo hi id off ln esz) (λmx=>AAo R lo hi mx id off ln esz) mx)
def ABq(z:Nat)(R:RS)(lo hi mx:Option X)(b off ln cap esz:Nat):Option V:=dZ hi R ln λh=>dZ lo R 0 λl=>
 Option.rec (motive:=λ_=>Option V) (BQ (band (Nat.ble l h) (Nat.ble h cap)) (f3 (Nat.add off (Nat.mul l z)) (Nat.sub h l) (Nat.sub cap l) λo d c=>.rsl b o d c esz)) (λ_=>none) mx
def xK(z:Nat)(x:V)(R:RS)(lo hi mx:Option X):Option V:=x.AO8 (AB3 R lo hi mx) (AGS z R lo hi mx) (yw z R lo hi mx) (ABq z R lo hi mx)
def AJ3(x:V)(R:RS)(lo hi:Option X):Option V:=
 x.U2 λln c=>dZ hi R ln λh=>dZ lo R 0 λl=>BQ (band (Nat.ble l h) (Nat.ble h ln)) (f3 (Nat.sub h l) (AT6 c l h) 0 λd c _=>.str d c)
def Ad(esz:Nat)(x i:V):Option V:=Xf i λi=>x.AO8 none
 (λid off ln _ e=>BQ (band (Nat.beq e esz) (Nat.blt i ln)) (GX (Nat.mul (Nat.add off i) esz) λo=>some (.ptr id o)))
 (λid off ln e=>BQ (band (Nat.beq e esz) (Nat.blt i ln)) (GX (Nat.mul (Nat.add off i) esz) λo=>some (.ptr id o)))
 (λb off ln _ _=>BQ (Nat.blt i ln) (GX (Nat.add off (Nat.mul i esz)) λo=>some (.gptr b o)))
def AQ(off:Nat)(x:V):Option V:=x.AFx (λid o=>GX (Nat.add o off) λo=>some (.ptr id o)) (λb o=>GX (Nat.add o off) λo=>some (.gptr b o))
abbrev ME:=List (V×V×Nat)
def nP(c:CK)(k:V)(es:ME):Nat->Option (Option (Nat×V)):=
 List.rec (motive:=λ_=>Nat->Option (Option (Nat×V))) (λ_=>some none)
  (λe _ g i=>BR (c.eq e.1 k) λr=>Bool.rec (g (Nat.succ i)) (some (some (i,e.2.1))) r) es
def ATV(b:P7):(ME->Nat->Option V)->Option V:=P7.rec (motive:=λ_=>(ME->Nat->Option V)->Option V) (λ_ _ _ _=>none) (λes c f=>f es c) (λ_=>none) b
def Ro(H:Heap)(m:V)(f:ME->Nat->Option V):Option V:=m.AHv (f [] 0) λid=>Option.rec (motive:=λ_=>(ME->Nat->Option V)->Option V) (λ_=>none) ATV (T.get H id) f
def AAH(parts:List (Nat×Nat×X)):RS->List V->List V:=
 List.rec (motive:=λ_=>RS->List V->List V) (λ_ l=>l) (λp _ g R l=>g R (AHn (Aq (p.2.2.ev R)) p.1 l)) parts
def YR(v:V):Bool:=
 V.rec (motive_1:=λ_=>Bool) (motive_2:=λ_=>PUnit)
  (false)
  (λ_ _ _=>true)
  (λ_=>true)
  (λ_ _=>true)
  (true)
  (λ_ _=>true)
  (λ_ _=>true)
  (true)
  (λ_ _ _ _ _=>true)
  (λ_ _ _ _=>true)
  (λ_ _ _ _ _=>true)
  (true)
  (λ_=>true)
  (true)
  (λ_ _ _ _ _=>true)
  (λ_ _=>true)
  (λ_ _=>false)
  (true)
  (λ_ _ _=>true)
  ⟨⟩ (λ_ _ _ _=>⟨⟩) v
def jG(parts:List (Nat×Nat×X)):RS->Bool:=
 List.rec (motive:=λ_=>RS->Bool) (λ_=>true) (λp _ g R=>band (band (YR (p.2.2.ev R)) (Nat.beq (len (Aq (p.2.2.ev R))) p.2.1)) (g R)) parts
abbrev ET:=List LV
def CU(H:Heap)(id esz:Nat)(n:Nat):Nat->Option ET:=
 Nat.rec (motive:=λ_=>Nat->Option ET) (λ_=>some [])
  (λ_ g o=>BR (dV H id (Nat.mul o esz) esz) λL=>BR (g (Nat.succ o)) λLS=>some (L::LS)) n
def nT(G:AX)(b esz:Nat)(n:Nat):Nat->Option ET:=
 Nat.rec (motive:=λ_=>Nat->Option ET) (λ_=>some [])
  (λ_ g o=>BR (G b o esz) λL=>BR (g (Nat.add o esz)) λLS=>some (L::LS)) n
def Zm(n:Nat):Nat->ET:=
 Nat.rec (motive:=λ_=>Nat->ET) (λ_=>[]) (λ_ g c=>[.int .u8 (.ofNat (Nat.mod c 256)) 0]::g (Nat.div c 256)) n
def elems(v:V):(AX)->(Heap)->(Nat)->Option ET:=
 V.rec (motive_1:=λ_=>(AX)->(Heap)->(Nat)->Option ET) (motive_2:=λ_=>PUnit)
  (λ_ _ _=>none)
  (λ_ _ _ _ _ _=>none)
  (λ_ _ _ _=>none)
  (λa b _ _ z=>Bool.rec (motive:=λ_=>Option ET) none (some (Zm a b)) (Nat.beq 1 z))
  (λ_ _ _=>none)
  (λ_ _ _ _ _=>none)
  (λ_ _ _ _ _=>none)
  (λ_ _ _=>some [])
  (λa b c _ e _ H z=>Bool.rec (motive:=λ_=>Option ET) none (CU H a z c b) (Nat.beq e z))
  (λa b c d _ H z=>Bool.rec (motive:=λ_=>Option ET) none (CU H a z c b) (Nat.beq d z))
  (λa b c _ _ G _ z=>nT G a z c b)
  (λ_ _ _=>none)
  (λ_ _ _ _=>none)
  (λ_ _ _=>none)
  (λ_ _ _ _ _ _ _ _=>none)
  (λ_ _ _ _ _=>none)
  (λ_ _ _ _ _=>none)
  (λ_ _ _=>none)
  (λ_ _ _ _ _ _=>none)
  ⟨⟩ (λ_ _ _ _=>⟨⟩) v
def byteOf(v:V):Option Nat:=
 V.rec (motive_1:=λ_=>Option Nat) (motive_2:=λ_=>PUnit)
  (none)
  (λa b c=>Int.rec (motive:=λ_=>Nat->Option Nat) (λm t=>Bool.rec none (some m) (band (Nat.beq (kno a) 4) (band (Nat.blt m 256) (Nat.beq t 0)))) (λ_ _=>none) b c)
  (λ_=>none)
  (λ_ _=>none)
  (none)
  (λ_ _=>none)
  (λ_ _=>none)
  (none)
  (λ_ _ _ _ _=>none)
  (λ_ _ _ _=>none)
  (λ_ _ _ _ _=>none)
  (none)
  (λ_=>none)
  (none)
  (λ_ _ _ _ _=>none)
  (λ_ _=>none)
  (λ_ _=>none)
  (none)
  (λ_ _ _=>none)
  ⟨⟩ (λ_ _ _ _=>⟨⟩) v
def AEM(l:ET):Option Nat:=
 List.rec (motive:=λ_=>Option Nat) (some 0) (λx _ g=>BR (nth x 0) λv=>BR (byteOf v) λm=>BR g λc=>some (Nat.add m (Nat.mul 256 c))) l
def ABz(b:Nat)(f:Nat):Nat->Nat->Int:=
 Nat.rec (motive:=λ_=>Nat->Nat->Int) (λ_ _=>.negSucc 0)
  (λ_ g c i=>Bool.rec (g (Nat.div c 256) (Nat.succ i)) (.ofNat i) (Nat.beq (Nat.mod c 256) b)) f
abbrev oC:=AX->RS->Heap->Option V
def eMv(x:X):oC:=λ_ R _=>some (x.ev R)
def AJq(c a b:X):oC:=λ_ R _=>(c.ev R).nH λt=>xM t (some (a.ev R)) (some (b.ev R))
def AOu(x:X):oC:=λG R H=>VI (lC (x.ev R) G H 1) λL=>nth L 0
def APc(n:Nat)(x:X):oC:=λG R H=>VI (lC (x.ev R) G H n) λL=>some (.agg L)
def AET(x:X):oC:=λ_ R _=>Ag (x.ev R)
def APs(o:B2)(x y:X):oC:=λ_ R _=>o.ev (x.ev R) (y.ev R)
def eEq(k:EK)(neg:Bool)(x y:X):oC:=λ_ R _=>Cc k neg (x.ev R) (y.ev R)
def AN8(x:X):oC:=λ_ R _=>(x.ev R).nH λb=>mkB (aC b)
def AOY(x:X):oC:=λ_ R _=>(x.ev R).Ir λk n s=>mkI k (Int.neg n) s
def AN4(k:IntKind)(x:X):oC:=λ_ R _=>(x.ev R).Ir λ_ n s=>mkI k n s
def AJZ(f:Nat)(a c:List X):oC:=λ_ R _=>some (.fn f (eH a R) (eH c R))
def AFT(off:Nat)(x:X):oC:=λ_ R _=>AQ off (x.ev R)
def AAu(off:Nat)(x:X):oC:=λ_ R _=>(x.ev R).wV λl=>nth l off
def AAl(off n:Nat)(x:X):oC:=λ_ R _=>(x.ev R).wV λl=>some (.agg (YF n (lK off l)))
def AFj(esz:Nat)(x i:X):oC:=λ_ R _=>Ad esz (x.ev R) (i.ev R)
def AAy(n esz:Nat)(x i:X):oC:=λ_ R _=>Xf (i.ev R) λi=>BQ (Nat.blt i n) (AQ (Nat.mul i esz) (x.ev R))
def AJF(x i:X):oC:=λ_ R _=>(x.ev R).U2 λln c=>Xf (i.ev R) λi=>BQ (Nat.blt i ln) (GX (ANl c i) λb=>some (.int .u8 (.ofNat b) 0))
def AJ5(n:Nat)(x i:X):oC:=λ_ R _=>(x.ev R).wV λl=>Xf (i.ev R) λi=>BQ (Nat.blt i n) (nth l i)
def AOW(x:X)(i:Nat):oC:=λ_ R _=>(x.ev R).AGQ λl=>nth l i
def AJ0(x:X):oC:=λ_ R _=>(x.ev R).U2 λn _=>some (.int .i64 (.ofNat n) 0)
def AJH(x:X):oC:=λ_ R _=>lenV (x.ev R)
def AJM(x:X):oC:=λ_ R H=>Ro H (x.ev R) λes _=>GX (len es) λn=>some (.int .i64 (.ofNat n) 0)
def AUI(n:Nat):oC:=λ_ _ _=>some (.int .i64 (.ofNat n) 0)
def AJy(ok:Bool)(z:V)(r:Option (Nat×V)):Option V:=
 Option.rec (motive:=λ_=>Option V) (xM ok (some (.Df [z,.bool false])) (some z)) (λp=>xM ok (some (.Df [p.2,.bool true])) (some p.2)) r
def AJI(c:CK)(ok:Bool)(z:V)(m k:X):oC:=λ_ R H=>Ro H (m.ev R) λes _=>BR (nP c (k.ev R) es 0) (AJy ok z)
def AEW(z:LV)(ps:List (Nat×Nat×X)):oC:=λ_ R _=>BQ (jG ps R) (some (.agg (AAH ps R z)))
def ABE(x:X)(lo hi:Option X):oC:=λ_ R _=>AJ3 (x.ev R) R lo hi
def AO2(z:Nat)(x:X)(lo hi mx:Option X):oC:=λ_ R _=>xK z (x.ev R) R lo hi mx
def AJ4(n esz:Nat)(x:X)(lo hi:Option X):oC:=λ_ R _=>(x.ev R).AFx (λid o=>dZ hi R n λh=>dZ lo R 0 λl=>
 BQ (band (Nat.beq (Nat.mod o esz) 0) (band (Nat.ble l h) (Nat.ble h n))) (f3 (Nat.add (Nat.div o esz) l) (Nat.sub h l) (Nat.sub n l) λa b c=>.sl id a b c esz)) (λ_ _=>none)
def APp(x y:X):oC:=λ_ R _=>(x.ev R).Ir λk a s=>(y.ev R).Ir λk' b t=>BQ (band (keq k k') (Nat.beq (Nat.add s t) 0)) (some (.int k (Bool.rec a b (ilt a b)) 0))
def AOq(x y:X):oC:=λ_ R _=>(x.ev R).Ir λk a s=>(y.ev R).Ir λk' b t=>BQ (band (keq k k') (Nat.beq (Nat.add s t) 0)) (some (.int k (Bool.rec a b (ilt b a)) 0))
def APv(x:X):oC:=λG R H=>BQ (aC (isStr (x.ev R))) (BR (elems (x.ev R) G H 1) λl=>BR (AEM l) λc=>f3 (len l) c 0 λn c _=>.str n c)
def AEd(s c:X):oC:=λ_ R _=>(s.ev R).U2 λn cd=>(c.ev R).Ir λk b _=>BQ (Nat.beq (kno k) 4) (AOv b λb=>BQ (Nat.blt b 256) (Wq (ABz b n cd 0) λi=>some (.int .i64 i 0)))
def AM0(x y:V):Option V:=x.U2 λl c=>y.U2 λm d=>some (.int .i64 (Bool.rec (Bool.rec (.ofNat 0) (.ofNat 1) (slt m d l c)) (.negSucc 0) (slt l c m d)) 0)
def AJi(x y:X):oC:=λ_ R _=>AM0 (x.ev R) (y.ev R)
def AN.ev(o:AN):oC:=AN.rec (motive:=λ_=>oC)
 eMv AJq AOu APc AET APs eEq AN8 AOY AN4 AJZ AFT AAu AAl AFj AAy AJF AJ5 AOW AJ0 AJH AJM AUI AJI AEW ABE AO2 AJ4 APp AOq APv AEd AJi o
def wz(L:LV)(n:Nat):T LV->T LV:=
 Nat.rec (motive:=λ_=>T LV->T LV) (λt=>t) (λi g t=>g (T.set t i L)) n
def Fv(LS:ET):Nat->T LV->T LV:=
 List.rec (motive:=λ_=>Nat->T LV->T LV) (λ_ t=>t) (λL _ g i t=>g (Nat.succ i) (T.set t i L)) LS
def jF(parts:List (Nat×X)):RS->T LV->T LV:=
 List.rec (motive:=λ_=>RS->T LV->T LV) (λ_ t=>t) (λp _ g R t=>g R (T.set t p.1 (Aq (p.2.ev R)))) parts
def Ye(parts:List (Nat×X)):RS->Nat->Nat->Bool:=
 List.rec (motive:=λ_=>RS->Nat->Nat->Bool) (λ_ _ _=>true) (λp _ g R esz cnt=>band (band (YR (p.2.ev R)) (band (Nat.blt p.1 cnt) (Nat.beq (len (Aq (p.2.ev R))) esz))) (g R esz cnt)) parts
def V.AL2(v:V):(Nat->Prop)->Prop:=
 V.rec (motive_1:=λ_=>(Nat->Prop)->Prop) (motive_2:=λ_=>PUnit)
  (λ_=>False)
  (λ_ _ _ _=>False)
  (λ_ _=>False)
  (λ_ _ _=>False)
  (λ_=>False)
  (λa _ f=>f a)
  (λ_ _ _=>False)
  (λ_=>False)
  (λ_ _ _ _ _ _=>False)
  (λ_ _ _ _ _=>False)
  (λ_ _ _ _ _ _=>False)
  (λ_=>False)
  (λ_ _=>False)
  (λ_=>False)
  (λ_ _ _ _ _ _=>False)
  (λ_ _ _=>False)
  (λ_ _ _=>False)
  (λ_=>False)
  (λ_ _ _ _=>False)
  ⟨⟩ (λ_ _ _ _=>⟨⟩) v
def V.AAw(v:V):(Nat->Nat->Prop)->Prop:=
 V.rec (motive_1:=λ_=>(Nat->Nat->Prop)->Prop) (motive_2:=λ_=>PUnit)
  (λ_=>False)
  (λ_ _ _ _=>False)
  (λ_ _=>False)
  (λ_ _ _=>False)
  (λ_=>False)
  (λa b f=>f a b)
  (λ_ _ _=>False)
  (λ_=>False)
  (λ_ _ _ _ _ _=>False)
  (λ_ _ _ _ _=>False)
  (λ_ _ _ _ _ _=>False)
  (λ_=>False)
  (λ_ _=>False)
  (λ_=>False)
  (λ_ _ _ _ _ _=>False)
  (λ_ _ _=>False)
  (λ_ _ _=>False)
  (λ_=>False)
  (λ_ _ _ _=>False)
  ⟨⟩ (λ_ _ _ _=>⟨⟩) v
abbrev KA:=P7->(Nat->V)->Prop
abbrev AlT:=RS->KA->Prop
def NI(b:Bool)(p:Prop):Prop:=Bool.rec (motive:=λ_=>Prop->Prop) (λ_=>False) (λp=>p) b p
def AFH(v:V)(f:Nat->Prop):Prop:=Gz (Xf v λn=>some (.ptr n 0)) λv=>V.AL2 v f
def Af(esz:Nat)(es:ET):AlT:=λ_ k=>DU (len es) λn=>k (.arr esz n (Fv es 0 .e)) λid=>.ptr id 0
def ADE(x:X):AlT:=λR k=>NI (YR (x.ev R)) (DU (len (Aq (x.ev R))) λe=>k (.arr e 1 (T.set .e 0 (Aq (x.ev R)))) λid=>.ptr id 0)
def Az(esz cnt:Nat)(z:LV)(ps:List (Nat×X)):AlT:=λR k=>NI (Ye ps R esz cnt) (k (.arr esz cnt (jF ps R (wz z cnt .e))) λid=>.sl id 0 cnt cnt esz)
def Jz(esz bs:Nat)(z:LV)(l c:X):AlT:=λR k=>AFH (l.ev R) λl=>AFH (c.ev R) λc=>
 NI (band (Nat.ble l c) (Nat.ble (Nat.mul bs c) 281474976710656)) (k (.arr esz c (wz z c .e)) λid=>.sl id 0 l c esz)
def ACn:AlT:=λ_ k=>k (.map [] 0) λid=>.map id
def AA.al(o:AA):AlT:=AA.rec (motive:=λ_=>AlT) Af ADE Az Jz ACn o
abbrev K:=Jb->Heap->Nat->Prop
abbrev KV:=V->Heap->Nat->Prop
abbrev Ap:=Nat->List V->Heap->Nat->KV->Prop
def RP(need bytes:Nat):Bool:=Nat.ble (Nat.mul need bytes) 140737488355328
abbrev AIi:=AX->Nat->Nat->ET->Heap->Nat->KV->Prop
def LZ(esz bs:Nat)(OS LS:ET)(H:Heap)(n:Nat)(k:KV):Prop:=
 DU (Nat.add (len OS) (len LS)) λneed=>NI (RP need bs) (DU n λn=>k (.Rh n 0 need esz) (T.set H n (.arr esz need (Fv LS (len OS) (Fv OS 0 .e)))) (Nat.succ n))
def ART:AIi:=λ_ esz bs LS H n k=>List.rec (motive:=λ_=>Prop) (k .AZ H n) (λ_ _ _=>LZ esz bs [] LS H n k) LS
def qj(id off ln cap esz need:Nat)(LS:ET)(H:Heap)(n:Nat)(k:KV)(b:P7):Prop:=
 P7.rec (motive:=λ_=>Prop) (λesz' cnt c=>NI (band (Nat.beq esz esz') (Nat.ble (Nat.add off need) cnt)) (k (.sl id off need cap esz) (T.set H id (.arr esz cnt (Fv LS (Nat.add off ln) c))) n)) (λ_ _=>False) False b
def AQE(id off ln cap e:Nat):AIi:=λ_ esz bs LS H n k=>NI (Nat.beq e esz) (DU (Nat.add ln (len LS)) λneed=>
 Bool.rec (motive:=λ_=>Prop) (Gz (CU H id esz ln off) λOS=>LZ esz bs OS LS H n k) (Gz (T.get H id) λb=>qj id off ln cap esz need LS H n k b) (Nat.ble need cap))
def aS(id off ln esz bs:Nat)(LS:ET)(H:Heap)(n:Nat)(k:KV)(b:P7):Prop:=
 P7.rec (motive:=λ_=>Prop) (λesz' cnt c=>DU (Nat.add ln (len LS)) λneed=>NI (band (RP need bs) (band (Nat.beq esz esz') (Nat.ble (Nat.add off ln) cnt)))
  (DU n λn=>Nat.rec (motive:=λ_=>Prop)
   (k (.Rh n 0 need esz) (T.set (T.set H id .dead) n (.arr esz need (Fv LS ln c))) (Nat.succ n))
   (λ_ _=>Gz (CU H id esz ln off) λOS=>k (.Rh n 0 need esz) (T.set (T.set H id .dead) n (.arr esz need (Fv LS ln (Fv OS 0 .e)))) (Nat.succ n)) off))
  (λ_ _=>False) False b
def AMV(id off ln e:Nat):AIi:=λ_ esz bs LS H n k=>NI (Nat.beq e esz) (List.rec (motive:=λ_=>Prop) (k (.Rh id off ln esz) H n)
 (λ_ _ _=>Gz (T.get H id) λb=>aS id off ln esz bs LS H n k b) LS)
def AMG(b off ln cap e:Nat):AIi:=λG esz bs LS H n k=>NI (Nat.blt cap (Nat.add ln (len LS))) (Gz (nT G b esz ln off) λOS=>LZ esz bs OS LS H n k)
def Zy:AIi:=λ_ _ _ _ _ _ _=>False
def AEz(v:V):AIi:=
 V.rec (motive_1:=λ_=>AIi) (motive_2:=λ_=>PUnit)
  (Zy)
  (λ_ _ _=>Zy)
  (λ_=>Zy)
  (λ_ _=>Zy)
  (Zy)
  (λ_ _=>Zy)
  (λ_ _=>Zy)
  (ART)
  (λa b c d e=>AQE a b c d e)
  (λa b c d=>AMV a b c d)
  (λa b c d e=>AMG a b c d e)
  (Zy)
  (λ_=>Zy)
  (Zy)
  (λ_ _ _ _ _=>Zy)
  (λ_ _=>Zy)
  (λ_ _=>Zy)
  (Zy)
  (λ_ _ _=>Zy)
  ⟨⟩ (λ_ _ _ _=>⟨⟩) v
def AMi(id off esz:Nat)(LS:ET)(H:Heap)(n:Nat)(k:KV)(b:P7):Prop:=
 P7.rec (motive:=λ_=>Prop) (λesz' cnt c=>NI (band (Nat.beq esz esz') (Nat.ble (Nat.add off (len LS)) cnt)) (DU (len LS) λm=>k (.int .i64 (.ofNat m) 0) (T.set H id (.arr esz cnt (Fv LS off c))) n)) (λ_ _=>False) False b
abbrev CpT:=Nat->ET->Heap->Nat->KV->Prop
def ABM(id off ln:Nat):CpT:=λesz LS H n k=>Gz (T.get H id) λb=>AMi id off esz (YF ln LS) H n k b
def ADR(v:V):(Nat)->(ET)->(Heap)->(Nat)->(KV)->Prop:=
 V.rec (motive_1:=λ_=>(Nat)->(ET)->(Heap)->(Nat)->(KV)->Prop) (motive_2:=λ_=>PUnit)
  (λ_ _ _ _ _=>False)
  (λ_ _ _ _ _ _ _ _=>False)
  (λ_ _ _ _ _ _=>False)
  (λ_ _ _ _ _ _ _=>False)
  (λ_ _ _ _ _=>False)
  (λ_ _ _ _ _ _ _=>False)
  (λ_ _ _ _ _ _ _=>False)
  (λ_ _ H n k=>k (.int .i64 (.ofNat 0) 0) H n)
  (λa b c _ e z L H n k=>NI (Nat.beq e z) (ABM a b c z L H n k))
  (λa b c d z L H n k=>NI (Nat.beq d z) (ABM a b c z L H n k))
  (λ_ _ _ _ _ _ _ _ _ _=>False)
  (λ_ _ _ _ _=>False)
  (λ_ _ _ _ _ _=>False)
  (λ_ _ _ _ _=>False)
  (λ_ _ _ _ _ _ _ _ _ _=>False)
  (λ_ _ _ _ _ _ _=>False)
  (λ_ _ _ _ _ _ _=>False)
  (λ_ _ _ _ _=>False)
  (λ_ _ _ _ _ _ _ _=>False)
  ⟨⟩ (λ_ _ _ _=>⟨⟩) v
def ABy{α:Type}(l:List α):Nat->List α:=
 List.rec (motive:=λ_=>Nat->List α) (λ_=>[]) (λy ys g i=>Nat.rec (motive:=λ_=>List α) ys (λi _=>y::g i) i) l
def AQD(b:P7):(ME->Nat->Option P7)->Option P7:=P7.rec (motive:=λ_=>(ME->Nat->Option P7)->Option P7) (λ_ _ _ _=>none) (λes c f=>f es c) (λ_=>none) b
def AUA(H:Heap)(id:Nat)(f:ME->Nat->Option P7)(g:Heap->Prop):Prop:=Gz (T.get H id) λb=>Gz (AQD b f) λb=>g (T.set H id b)
def ADI(v:V):(Heap)->(ME->Nat->Option P7)->(Heap->Prop)->Prop:=
 V.rec (motive_1:=λ_=>(Heap)->(ME->Nat->Option P7)->(Heap->Prop)->Prop) (motive_2:=λ_=>PUnit)
  (λ_ _ _=>False)
  (λ_ _ _ _ _ _=>False)
  (λ_ _ _ _=>False)
  (λ_ _ _ _ _=>False)
  (λ_ _ _=>False)
  (λ_ _ _ _ _=>False)
  (λ_ _ _ _ _=>False)
  (λ_ _ _=>False)
  (λ_ _ _ _ _ _ _ _=>False)
  (λ_ _ _ _ _ _ _=>False)
  (λ_ _ _ _ _ _ _ _=>False)
  (λ_ _ _=>False)
  (λa H f g=>AUA H a f g)
  (λ_ _ _=>False)
  (λ_ _ _ _ _ _ _ _=>False)
  (λ_ _ _ _ _=>False)
  (λ_ _ _ _ _=>False)
  (λ_ _ _=>False)
  (λ_ _ _ _ _ _=>False)
  ⟨⟩ (λ_ _ _ _=>⟨⟩) v
def V.Xk(v:V):(Nat->LV->LV->Prop)->Prop:=
 V.rec (motive_1:=λ_=>(Nat->LV->LV->Prop)->Prop) (motive_2:=λ_=>PUnit)
  (λ_=>False)
  (λ_ _ _ _=>False)
  (λ_ _=>False)
  (λ_ _ _=>False)
  (λ_=>False)
  (λ_ _ _=>False)
  (λ_ _ _=>False)
  (λ_=>False)
  (λ_ _ _ _ _ _=>False)
  (λ_ _ _ _ _=>False)
  (λ_ _ _ _ _ _=>False)
  (λ_=>False)
  (λ_ _=>False)
  (λ_=>False)
  (λa b c _ _ f=>f a b c)
  (λ_ _ _=>False)
  (λ_ _ _=>False)
  (λ_=>False)
  (λ_ _ _ _=>False)
  ⟨⟩ (λ_ _ _ _=>⟨⟩) v
def AGW(v:V):LV:=
 V.rec (motive_1:=λ_=>LV) (motive_2:=λ_=>PUnit)
  ([])
  (λ_ _ _=>[])
  (λ_=>[])
  (λ_ _=>[])
  ([])
  (λ_ _=>[])
  (λ_ _=>[])
  ([])
  (λ_ _ _ _ _=>[])
  (λ_ _ _ _=>[])
  (λ_ _ _ _ _=>[])
  ([])
  (λ_=>[])
  ([])
  (λ_ _ _ _ _=>[])
  (λ_ _=>[])
  (λa _=>a)
  ([])
  (λ_ _ _=>[])
  ⟨⟩ (λ_ _ _ _=>⟨⟩) v
abbrev ExT:=AX->Ap->RS->Heap->Nat->KV->Prop
def AVh(x:X):ExT:=λ_ _ R H n k=>k (x.ev R) H n
def xSt(sz:Nat)(x v:X):ExT:=λ_ _ R H n k=>NI (band (YR (v.ev R)) (Nat.beq (len (Aq (v.ev R))) sz)) (Gz (stP (x.ev R) H sz (Aq (v.ev R))) λH=>k .undef H n)
def AVv(esz bs:Nat)(x y:X):ExT:=λG _ R H n k=>Gz (elems (y.ev R) G H esz) λLS=>AEz (x.ev R) G esz bs LS H n k
def AT2(esz:Nat)(x y:X):ExT:=λG _ R H n k=>Gz (elems (y.ev R) G H esz) λLS=>ADR (x.ev R) esz LS H n k
def AHs(ck:CK)(key v:V)(es:ME)(c:Nat):Option P7:=BR (nP ck key es 0) λr=>
 Option.rec (motive:=λ_=>Option P7) (some (.map (cat es [(key,v,c)]) (Nat.succ c))) (λp=>BR (nth es p.1) λe=>some (.map (iw (e.1,v,e.2.2) es p.1) c)) r
def ARI(ck:CK)(key:V)(es:ME)(c:Nat):Option P7:=BR (nP ck key es 0) λr=>
 Option.rec (motive:=λ_=>Option P7) (some (.map es c)) (λp=>some (.map (ABy es p.1) c)) r
def AWf(c:CK)(m key v:X):ExT:=λ_ _ R H n k=>ADI (m.ev R) H (AHs c (key.ev R) (v.ev R)) λH=>k .undef H n
def AWa(c:CK)(m key:X):ExT:=λ_ _ R H n k=>ADI (m.ev R) H (ARI c (key.ev R)) λH=>k (.Df []) H n
def AWd(m:X):ExT:=λ_ _ R H n k=>ADI (m.ev R) H (λ_ c=>some (.map [] c)) λH=>k (.Df []) H n
def ATg(f:Nat)(args:List X):ExT:=λ_ call R H n k=>call f (eH args R) H n k
def ARf(x:X)(args:List X):ExT:=λ_ call R H n k=>V.Xk (x.ev R) λf a c=>call f (cat a (cat (eH args R) c)) H n k
def ASw(dp:P2)(x:X)(args:List X):ExT:=λ_ _ R H n k=>V.Xk (x.ev R) λf a c=>k (.Df (.fn f (cat a (eH args R)) c::AGW (NT (T.D6 dp R.rg)))) H n
def AWM(x:X):ExT:=λ_ _ R H n k=>Gz ((x.ev R).U2 λl c=>some (.ptr l c)) λv=>V.AAw v λl c=>
 DU n λn=>k (.Rh n 0 l 1) (T.set H n (.arr 1 l (Fv (Zm l c) 0 .e))) (Nat.succ n)
def AE.ex(o:AE):ExT:=AE.rec (motive:=λ_=>ExT) AVh xSt AVv AT2 AWf AWa AWd ATg ARf ASw AWM o
def AWP(p:P2)(v:V)(E:RS):RS:=RS.rec (motive:=λ_=>P2->V->RS) (λL R p v=>.mk L (T.aB v p R)) E p v
def AUp(v:V)(E:RS):RS:=RS.rec (motive:=λ_=>V->RS) (λL R v=>.mk (v::L) R) E v
def GR(d:lS)(v:V):RS->RS:=lS.rec (motive:=λ_=>V->RS->RS) (λ_ R=>R) AWP AUp d v
abbrev KE:=RS->Heap->Nat->Prop
abbrev XoT:=AX->Ap->lS->RS->Heap->Nat->KE->Prop
def oN(o:AN):XoT:=λG _ d R H n k=>AL (o.ev G R H) λv=>k (GR d v R) H n
def oA(o:AA):XoT:=λ_ _ d R H n k=>o.al R λb f=>DU n λn=>k (GR d (f n) R) (T.set H n b) (Nat.succ n)
def oE(o:AE):XoT:=λG call d R H n k=>o.ex G call R H n λv H n=>k (GR d v R) H n
def AO.ex(o:AO):XoT:=AO.rec (motive:=λ_=>XoT) oN oA oE o
def AY(v:V)(b:Bool)(yes no:Prop):Prop:=v.AE4 λt=>Bool.rec (motive:=λ_=>Prop->Prop->Prop) (λ_ n=>n) (λy _=>y) (ALS t b) yes no
def kH(v:V):(Bool)->(Prop)->(Prop)->Prop:=
 V.rec (motive_1:=λ_=>(Bool)->(Prop)->(Prop)->Prop) (motive_2:=λ_=>PUnit)
  (λ_ _ _=>False)
  (λ_ _ _ _ _ _=>False)
  (λa b' yes no=>Bool.rec (motive:=λ_=>Prop->Prop->Prop) (λ_ n=>n) (λy _=>y) (ALS a b') yes no)
  (λ_ _ _ _ _=>False)
  (λ_ _ _=>False)
  (λ_ _ _ _ _=>False)
  (λ_ _ _ _ _=>False)
  (λ_ _ _=>False)
  (λ_ _ _ _ _ _ _ _=>False)
  (λ_ _ _ _ _ _ _=>False)
  (λ_ _ _ _ _ _ _ _=>False)
  (λ_ _ _=>False)
  (λ_ _ _ _=>False)
  (λ_ _ _=>False)
  (λ_ _ _ _ _ _ _ _=>False)
  (λ_ _ _ _ _=>False)
  (λa _ _ _ no=>List.rec (motive:=λ_=>Prop) no (λ_ _ _=>False) a)
  (λ_ _ _=>False)
  (λ_ _ _ _ _ _=>False)
  ⟨⟩ (λ_ _ _ _=>⟨⟩) v
abbrev zS:=AX->Ap->RS->Heap->Nat->KE->Prop
def gNo(d:lS)(o:AO):zS:=λG call R H n k=>o.ex G call d R H n k
def gOn(x:X)(b:Bool)(d:lS)(o:AO):zS:=λG call R H n k=>kH (x.ev R) b (o.ex G call d R H n k) (k (GR d (.Df []) R) H n)
def uh.ex(o:uh):zS:=uh.rec (motive:=λ_=>zS) (λd g o=>Gd.rec (motive:=λ_=>lS->AO->zS) gNo gOn g d o) o
def AEB(v:V):(IntKind)->(Int)->(Nat)->Bool:=
 V.rec (motive_1:=λ_=>(IntKind)->(Int)->(Nat)->Bool) (motive_2:=λ_=>PUnit)
  (λ_ _ _=>false)
  (λa b c k n s=>band (keq k a) (band (ieq n b) (band (Nat.beq s 0) (Nat.beq c 0))))
  (λ_ _ _ _=>false)
  (λ_ _ _ _ _=>false)
  (λ_ _ _=>false)
  (λ_ _ _ _ _=>false)
  (λ_ _ _ _ _=>false)
  (λ_ _ _=>false)
  (λ_ _ _ _ _ _ _ _=>false)
  (λ_ _ _ _ _ _ _=>false)
  (λ_ _ _ _ _ _ _ _=>false)
  (λ_ _ _=>false)
  (λ_ _ _ _=>false)
  (λ_ _ _=>false)
  (λ_ _ _ _ _ _ _ _=>false)
  (λ_ _ _ _ _=>false)
  (λ_ _ _ _ _=>false)
  (λ_ _ _=>false)
  (λ_ _ _ _ _ _=>false)
  ⟨⟩ (λ_ _ _ _=>⟨⟩) v
def ACQ(v:V):(Bool)->Bool:=
 V.rec (motive_1:=λ_=>(Bool)->Bool) (motive_2:=λ_=>PUnit)
  (λ_=>false)
  (λ_ _ _ _=>false)
  (λa x=>ALS x a)
  (λ_ _ _=>false)
  (λ_=>false)
  (λ_ _ _=>false)
  (λ_ _ _=>false)
  (λ_=>false)
  (λ_ _ _ _ _ _=>false)
  (λ_ _ _ _ _=>false)
  (λ_ _ _ _ _ _=>false)
  (λ_=>false)
  (λ_ _=>false)
  (λ_=>false)
  (λ_ _ _ _ _ _=>false)
  (λ_ _ _=>false)
  (λ_ _ _=>false)
  (λ_=>false)
  (λ_ _ _ _=>false)
  ⟨⟩ (λ_ _ _ _=>⟨⟩) v
def ANm(v:V):(Nat)->(Nat)->Bool:=
 V.rec (motive_1:=λ_=>(Nat)->(Nat)->Bool) (motive_2:=λ_=>PUnit)
  (λ_ _=>false)
  (λ_ _ _ _ _=>false)
  (λ_ _ _=>false)
  (λa b l m=>band (Nat.beq l a) (Nat.beq m b))
  (λ_ _=>false)
  (λ_ _ _ _=>false)
  (λ_ _ _ _=>false)
  (λ_ _=>false)
  (λ_ _ _ _ _ _ _=>false)
  (λ_ _ _ _ _ _=>false)
  (λ_ _ _ _ _ _ _=>false)
  (λ_ _=>false)
  (λ_ _ _=>false)
  (λ_ _=>false)
  (λ_ _ _ _ _ _ _=>false)
  (λ_ _ _ _=>false)
  (λ_ _ _ _=>false)
  (λ_ _=>false)
  (λ_ _ _ _ _=>false)
  ⟨⟩ (λ_ _ _ _=>⟨⟩) v
def AEt(v:V):Bool:=
 V.rec (motive_1:=λ_=>Bool) (motive_2:=λ_=>PUnit)
  (false)
  (λ_ _ _=>false)
  (λ_=>false)
  (λ_ _=>false)
  (true)
  (λ_ _=>false)
  (λ_ _=>false)
  (false)
  (λ_ _ _ _ _=>false)
  (λ_ _ _ _=>false)
  (λ_ _ _ _ _=>false)
  (false)
  (λ_=>false)
  (false)
  (λ_ _ _ _ _=>false)
  (λ_ _=>false)
  (λ_ _=>false)
  (false)
  (λ_ _ _=>false)
  ⟨⟩ (λ_ _ _ _=>⟨⟩) v
def AEv(v:V):Bool:=
 V.rec (motive_1:=λ_=>Bool) (motive_2:=λ_=>PUnit)
  (false)
  (λ_ _ _=>false)
  (λ_=>false)
  (λ_ _=>false)
  (false)
  (λ_ _=>false)
  (λ_ _=>false)
  (true)
  (λ_ _ _ _ _=>false)
  (λ_ _ _ _=>false)
  (λ_ _ _ _ _=>false)
  (false)
  (λ_=>false)
  (false)
  (λ_ _ _ _ _=>false)
  (λ_ _=>false)
  (λ_ _=>false)
  (false)
  (λ_ _ _=>false)
  ⟨⟩ (λ_ _ _ _=>⟨⟩) v
def AFO(v:V):Bool:=
 V.rec (motive_1:=λ_=>Bool) (motive_2:=λ_=>PUnit)
  (false)
  (λ_ _ _=>false)
  (λ_=>false)
  (λ_ _=>false)
  (false)
  (λ_ _=>false)
  (λ_ _=>false)
  (false)
  (λ_ _ _ _ _=>false)
  (λ_ _ _ _=>false)
  (λ_ _ _ _ _=>false)
  (true)
  (λ_=>false)
  (false)
  (λ_ _ _ _ _=>false)
  (λ_ _=>false)
  (λ_ _=>false)
  (false)
  (λ_ _ _=>false)
  ⟨⟩ (λ_ _ _ _=>⟨⟩) v
def AEi(v:V):Bool:=
 V.rec (motive_1:=λ_=>Bool) (motive_2:=λ_=>PUnit)
  (false)
  (λ_ _ _=>false)
  (λ_=>false)
  (λ_ _=>false)
  (false)
  (λ_ _=>false)
  (λ_ _=>false)
  (false)
  (λ_ _ _ _ _=>false)
  (λ_ _ _ _=>false)
  (λ_ _ _ _ _=>false)
  (false)
  (λ_=>false)
  (true)
  (λ_ _ _ _ _=>false)
  (λ_ _=>false)
  (λ_ _=>false)
  (false)
  (λ_ _ _=>false)
  ⟨⟩ (λ_ _ _ _=>⟨⟩) v
def AMO(v:V):(Nat)->(Nat)->Bool:=
 V.rec (motive_1:=λ_=>(Nat)->(Nat)->Bool) (motive_2:=λ_=>PUnit)
  (λ_ _=>false)
  (λ_ _ _ _ _=>false)
  (λ_ _ _=>false)
  (λ_ _ _ _=>false)
  (λ_ _=>false)
  (λa b l m=>band (Nat.beq l a) (Nat.beq m b))
  (λ_ _ _ _=>false)
  (λ_ _=>false)
  (λ_ _ _ _ _ _ _=>false)
  (λ_ _ _ _ _ _=>false)
  (λ_ _ _ _ _ _ _=>false)
  (λ_ _=>false)
  (λ_ _ _=>false)
  (λ_ _=>false)
  (λ_ _ _ _ _ _ _=>false)
  (λ_ _ _ _=>false)
  (λ_ _ _ _=>false)
  (λ_ _=>false)
  (λ_ _ _ _ _=>false)
  ⟨⟩ (λ_ _ _ _=>⟨⟩) v
def AHg(v:V):(Nat)->(Nat)->Bool:=
 V.rec (motive_1:=λ_=>(Nat)->(Nat)->Bool) (motive_2:=λ_=>PUnit)
  (λ_ _=>false)
  (λ_ _ _ _ _=>false)
  (λ_ _ _=>false)
  (λ_ _ _ _=>false)
  (λ_ _=>false)
  (λ_ _ _ _=>false)
  (λa b l m=>band (Nat.beq l a) (Nat.beq m b))
  (λ_ _=>false)
  (λ_ _ _ _ _ _ _=>false)
  (λ_ _ _ _ _ _=>false)
  (λ_ _ _ _ _ _ _=>false)
  (λ_ _=>false)
  (λ_ _ _=>false)
  (λ_ _=>false)
  (λ_ _ _ _ _ _ _=>false)
  (λ_ _ _ _=>false)
  (λ_ _ _ _=>false)
  (λ_ _=>false)
  (λ_ _ _ _ _=>false)
  ⟨⟩ (λ_ _ _ _=>⟨⟩) v
def ANp(v:V):(Nat)->Bool:=
 V.rec (motive_1:=λ_=>(Nat)->Bool) (motive_2:=λ_=>PUnit)
  (λ_=>false)
  (λ_ _ _ _=>false)
  (λ_ _=>false)
  (λ_ _ _=>false)
  (λ_=>false)
  (λ_ _ _=>false)
  (λ_ _ _=>false)
  (λ_=>false)
  (λ_ _ _ _ _ _=>false)
  (λ_ _ _ _ _=>false)
  (λ_ _ _ _ _ _=>false)
  (λ_=>false)
  (λa l=>Nat.beq l a)
  (λ_=>false)
  (λ_ _ _ _ _ _=>false)
  (λ_ _ _=>false)
  (λ_ _ _=>false)
  (λ_=>false)
  (λ_ _ _ _=>false)
  ⟨⟩ (λ_ _ _ _=>⟨⟩) v
def ALZ(v:V):(Nat)->(Nat)->(Nat)->(Nat)->(Nat)->Bool:=
 V.rec (motive_1:=λ_=>(Nat)->(Nat)->(Nat)->(Nat)->(Nat)->Bool) (motive_2:=λ_=>PUnit)
  (λ_ _ _ _ _=>false)
  (λ_ _ _ _ _ _ _ _=>false)
  (λ_ _ _ _ _ _=>false)
  (λ_ _ _ _ _ _ _=>false)
  (λ_ _ _ _ _=>false)
  (λ_ _ _ _ _ _ _=>false)
  (λ_ _ _ _ _ _ _=>false)
  (λ_ _ _ _ _=>false)
  (λa b c d e i j k l m=>band (Nat.beq i a) (band (Nat.beq j b) (band (Nat.beq k c) (band (Nat.beq l d) (Nat.beq m e)))))
  (λ_ _ _ _ _ _ _ _ _=>false)
  (λ_ _ _ _ _ _ _ _ _ _=>false)
  (λ_ _ _ _ _=>false)
  (λ_ _ _ _ _ _=>false)
  (λ_ _ _ _ _=>false)
  (λ_ _ _ _ _ _ _ _ _ _=>false)
  (λ_ _ _ _ _ _ _=>false)
  (λ_ _ _ _ _ _ _=>false)
  (λ_ _ _ _ _=>false)
  (λ_ _ _ _ _ _ _ _=>false)
  ⟨⟩ (λ_ _ _ _=>⟨⟩) v
def AHY(v:V):(Nat)->(Nat)->(Nat)->(Nat)->Bool:=
 V.rec (motive_1:=λ_=>(Nat)->(Nat)->(Nat)->(Nat)->Bool) (motive_2:=λ_=>PUnit)
  (λ_ _ _ _=>false)
  (λ_ _ _ _ _ _ _=>false)
  (λ_ _ _ _ _=>false)
  (λ_ _ _ _ _ _=>false)
  (λ_ _ _ _=>false)
  (λ_ _ _ _ _ _=>false)
  (λ_ _ _ _ _ _=>false)
  (λ_ _ _ _=>false)
  (λ_ _ _ _ _ _ _ _ _=>false)
  (λa b c d i j k l=>band (Nat.beq i a) (band (Nat.beq j b) (band (Nat.beq k c) (Nat.beq l d))))
  (λ_ _ _ _ _ _ _ _ _=>false)
  (λ_ _ _ _=>false)
  (λ_ _ _ _ _=>false)
  (λ_ _ _ _=>false)
  (λ_ _ _ _ _ _ _ _ _=>false)
  (λ_ _ _ _ _ _=>false)
  (λ_ _ _ _ _ _=>false)
  (λ_ _ _ _=>false)
  (λ_ _ _ _ _ _ _=>false)
  ⟨⟩ (λ_ _ _ _=>⟨⟩) v
def AF7(v:V):(Nat)->(Nat)->(Nat)->(Nat)->(Nat)->Bool:=
 V.rec (motive_1:=λ_=>(Nat)->(Nat)->(Nat)->(Nat)->(Nat)->Bool) (motive_2:=λ_=>PUnit)
  (λ_ _ _ _ _=>false)
  (λ_ _ _ _ _ _ _ _=>false)
  (λ_ _ _ _ _ _=>false)
  (λ_ _ _ _ _ _ _=>false)
  (λ_ _ _ _ _=>false)
  (λ_ _ _ _ _ _ _=>false)
  (λ_ _ _ _ _ _ _=>false)
  (λ_ _ _ _ _=>false)
  (λ_ _ _ _ _ _ _ _ _ _=>false)
  (λ_ _ _ _ _ _ _ _ _=>false)
  (λa b c d e i j k l m=>band (Nat.beq i a) (band (Nat.beq j b) (band (Nat.beq k c) (band (Nat.beq l d) (Nat.beq m e)))))
  (λ_ _ _ _ _=>false)
  (λ_ _ _ _ _ _=>false)
  (λ_ _ _ _ _=>false)
  (λ_ _ _ _ _ _ _ _ _ _=>false)
  (λ_ _ _ _ _ _ _=>false)
  (λ_ _ _ _ _ _ _=>false)
  (λ_ _ _ _ _=>false)
  (λ_ _ _ _ _ _ _ _=>false)
  ⟨⟩ (λ_ _ _ _=>⟨⟩) v
def J4(v:V):(V)->Bool:=
 V.rec (motive_1:=λ_=>(V)->Bool) (motive_2:=λ_=>PUnit)
  (λ_=>false)
  (λa b c y=>AEB y a b c)
  (λa y=>ACQ y a)
  (λa b y=>ANm y a b)
  (λy=>AEt y)
  (λa b y=>AMO y a b)
  (λa b y=>AHg y a b)
  (λy=>AEv y)
  (λa b c d e y=>ALZ y a b c d e)
  (λa b c d y=>AHY y a b c d)
  (λa b c d e y=>AF7 y a b c d e)
  (λy=>AFO y)
  (λa y=>ANp y a)
  (λy=>AEi y)
  (λ_ _ _ _ _ _=>false)
  (λ_ _ _=>false)
  (λ_ _ _=>false)
  (λ_=>false)
  (λ_ _ _ _=>false)
  ⟨⟩ (λ_ _ _ _=>⟨⟩) v
def ACV(a:List V):List V->Bool:=
 List.rec (motive:=λ_=>List V->Bool) (λb=>List.rec (motive:=λ_=>Bool) true (λ_ _ _=>false) b)
  (λx _ g b=>List.rec (motive:=λ_=>Bool) false (λy ys _=>band (J4 x y) (g ys)) b) a
def AQa(v:V):(LV)->Bool:=
 V.rec (motive_1:=λ_=>(LV)->Bool) (motive_2:=λ_=>PUnit)
  (λ_=>false)
  (λ_ _ _ _=>false)
  (λ_ _=>false)
  (λ_ _ _=>false)
  (λ_=>false)
  (λ_ _ _=>false)
  (λ_ _ _=>false)
  (λ_=>false)
  (λ_ _ _ _ _ _=>false)
  (λ_ _ _ _ _=>false)
  (λ_ _ _ _ _ _=>false)
  (λ_=>false)
  (λ_ _=>false)
  (λ_=>false)
  (λ_ _ _ _ _ _=>false)
  (λa _ l=>ACV l a)
  (λ_ _ _=>false)
  (λ_=>false)
  (λ_ _ _ _=>false)
  ⟨⟩ (λ_ _ _ _=>⟨⟩) v
def AQc(v:V):(LV)->Bool:=
 V.rec (motive_1:=λ_=>(LV)->Bool) (motive_2:=λ_=>PUnit)
  (λ_=>false)
  (λ_ _ _ _=>false)
  (λ_ _=>false)
  (λ_ _ _=>false)
  (λ_=>false)
  (λ_ _ _=>false)
  (λ_ _ _=>false)
  (λ_=>false)
  (λ_ _ _ _ _ _=>false)
  (λ_ _ _ _ _=>false)
  (λ_ _ _ _ _ _=>false)
  (λ_=>false)
  (λ_ _=>false)
  (λ_=>false)
  (λ_ _ _ _ _ _=>false)
  (λ_ _ _=>false)
  (λa _ l=>ACV l a)
  (λ_=>false)
  (λ_ _ _ _=>false)
  ⟨⟩ (λ_ _ _ _=>⟨⟩) v
def AGG(v:V):Bool:=
 V.rec (motive_1:=λ_=>Bool) (motive_2:=λ_=>PUnit)
  (true)
  (λ_ _ _=>false)
  (λ_=>false)
  (λ_ _=>false)
  (false)
  (λ_ _=>false)
  (λ_ _=>false)
  (false)
  (λ_ _ _ _ _=>false)
  (λ_ _ _ _=>false)
  (λ_ _ _ _ _=>false)
  (false)
  (λ_=>false)
  (false)
  (λ_ _ _ _ _=>false)
  (λ_ _=>false)
  (λ_ _=>false)
  (false)
  (λ_ _ _=>false)
  ⟨⟩ (λ_ _ _ _=>⟨⟩) v
def GK(v:V):(V)->Bool:=
 V.rec (motive_1:=λ_=>(V)->Bool) (motive_2:=λ_=>PUnit)
  (λy=>AGG y)
  (λa b c y=>AEB y a b c)
  (λa y=>ACQ y a)
  (λa b y=>ANm y a b)
  (λy=>AEt y)
  (λa b y=>AMO y a b)
  (λa b y=>AHg y a b)
  (λy=>AEv y)
  (λa b c d e y=>ALZ y a b c d e)
  (λa b c d y=>AHY y a b c d)
  (λa b c d e y=>AF7 y a b c d e)
  (λy=>AFO y)
  (λa y=>ANp y a)
  (λy=>AEi y)
  (λ_ _ _ _ _ _=>false)
  (λa _ y=>AQa y a)
  (λa _ y=>AQc y a)
  (λ_=>false)
  (λ_ _ _ _=>false)
  ⟨⟩ (λ_ _ _ _=>⟨⟩) v
inductive AI where
 |op (o:uh)
 |re (d:P2) (g:Gd) (o:AN)
inductive AC where
 |skip
 |ops (l:List uh)
 |reg (l:List AI)
 |seq (a b:AC)
 |cond (x:X) (a b:AC)
 |block (id:Nat) (c:AC)
 |loop (c:AC)
 |exit (id:Nat)
 |ret
def Qe(l:List uh):zS:=
 List.rec (motive:=λ_=>zS) (λ_ _ R H n k=>k R H n) (λo _ g G call R H n k=>o.ex G call R H n λR H n=>g G call R H n k) l
abbrev ReT:=AX->RS->Heap->P2->AN->Prop->Prop
def ATy:ReT:=λG R H d o k=>AL (o.ev G R H) λv=>NI (GK v (NT (T.D6 d R.rg))) k
def AVm(x:X)(b:Bool):ReT:=λG R H d o k=>kH (x.ev R) b (AL (o.ev G R H) λv=>NI (GK v (NT (T.D6 d R.rg))) k) k
def ARF(g:Gd):ReT:=Gd.rec (motive:=λ_=>ReT) ATy AVm g
def AI.ex(i:AI):zS:=AI.rec (motive:=λ_=>zS) (λo=>o.ex) (λd g o G _ R H n k=>ARF g G R H d o (k R H n)) i
def CG(l:List AI):zS:=
 List.rec (motive:=λ_=>zS) (λ_ _ R H n k=>k R H n) (λi _ g G call R H n k=>i.ex G call R H n λR H n=>g G call R H n k) l
abbrev KX:=Nat->K
abbrev M:=AX->Ap->Nat->Jb->Heap->Nat->K->KX->K->Prop
def ANN:M:=λ_ _ _ R H n k _ _=>k R H n
def APK(l:List uh):M:=λG call _ R H n k _ _=>Qe l G call (.mk [] R) H n λE H n=>k E.rg H n
def AOV(l:List AI):M:=λG call _ R H n k _ _=>CG l G call (.mk [] R) H n λE H n=>k E.rg H n
def AMd(_ _:AC)(a b:M):M:=λG call lf R H n k x r=>a G call lf R H n (λR H n=>b G call lf R H n k x r) x r
def AFv(c:X)(_ _:AC)(a b:M):M:=λG call lf R H n k x r=>AY (c.ev (.mk [] R)) true (a G call lf R H n k x r) (b G call lf R H n k x r)
def IL(id:Nat)(k:K)(x:KX):KX:=λi R H n=>Bool.rec (motive:=λ_=>Prop->Prop->Prop) (λa _=>a) (λ_ b=>b) (Nat.beq i id) (x i R H n) (k R H n)
def ABe(id:Nat)(_:AC)(a:M):M:=λG call lf R H n k x r=>a G call lf R H n k (IL id k x) r
def Xd(a:M)(G:AX)(call:Ap)(lf0 lf:Nat):Jb->Heap->Nat->KX->K->Prop:=
 Nat.rec (motive:=λ_=>Jb->Heap->Nat->KX->K->Prop) (λ_ _ _ _ _=>False) (λ_ g R H n x r=>a G call lf0 R H n (λR H n=>g R H n x r) x r) lf
def AU0(_:AC)(a:M):M:=λG call lf R H n _ x r=>Xd a G call lf lf R H n x r
def AL7(id:Nat):M:=λ_ _ _ R H n _ x _=>x id R H n
def ARY:M:=λ_ _ _ R H n _ _ r=>r R H n
def AC.ex(c:AC):M:=AC.rec (motive:=λ_=>M) ANN APK AOV AMd AFv ABe AU0 AL7 ARY c
inductive AR where
 |tmp (p:P2)|cell1 (p:P2)|celln (p:P2) (n:Nat)
inductive AF where
 |mk (np:Nat) (code:AC) (res:List AR) (dp:lS) (dg:Nat)
def AR.get(r:AR):AX->Jb->Heap->Option V:=
 AR.rec (motive:=λ_=>AX->Jb->Heap->Option V) (λp _ R _=>some (NT (T.D6 p R))) (λp G R H=>VI (lC (NT (T.D6 p R)) G H 1) λL=>nth L 0)
  (λp n G R H=>VI (lC (NT (T.D6 p R)) G H n) λL=>some (.agg L)) r
def AAI(l:List AR):AX->Jb->Heap->Option LV:=
 List.rec (motive:=λ_=>AX->Jb->Heap->Option LV) (λ_ _ _=>some []) (λr _ g G R H=>BR (r.get G R H) λv=>BR (g G R H) λvs=>some (v::vs)) l
def IC(l:List V):V:=List.rec (motive:=λ_=>V) (V.Df []) (λv vs _=>List.rec (motive:=λ_=>V) v (λw ws _=>V.Df (v::w::ws)) vs) l
def fP(args:List V):Nat->Jb->Jb:=
 List.rec (motive:=λ_=>Nat->Jb->Jb) (λ_ R=>R) (λv _ g i R=>g (Nat.succ i) (T.set R i v)) args
def U0(dg:Nat)(l:List V):Ap->Heap->Nat->(Heap->Nat->Prop)->Prop:=
 List.rec (motive:=λ_=>Ap->Heap->Nat->(Heap->Nat->Prop)->Prop) (λ_ H n k=>k H n)
  (λv _ g call H n k=>V.Xk v λf a c=>NI (Nat.beq f dg) (call f (cat a c) H n λ_ H n=>g call H n k)) l
def AC3(res:List AR)(G:AX)(k:KV):K:=λR H n=>Gz (AAI res G R H) λl=>k (IC l) H n
def Jr(res:List AR)(dg:Nat)(d:lS):AX->Ap->KV->K:=
 lS.rec (motive:=λ_=>AX->Ap->KV->K) (λG _ k=>AC3 res G k) (λp G call k R H n=>U0 dg (AGW (NT (T.D6 p R))) call H n λH n=>AC3 res G k R H n) (λG _ k=>AC3 res G k) d
def noX:KX:=λ_ _ _ _=>False
def qx(f:AF):AX->Ap->Nat->List V->Heap->Nat->KV->Prop:=
 AF.rec (motive:=λ_=>AX->Ap->Nat->List V->Heap->Nat->KV->Prop) (λnp code res d dg G call lf args H n k=>NI (Nat.beq (len args) np) (code.ex G call lf (fP args 0 .e) H n (Jr res dg d G call k) noX (Jr res dg d G call k))) f
def run(F:T AF)(G:AX)(lf:Nat)(fuel:Nat):Ap:=
 Nat.rec (motive:=λ_=>Ap) (λ_ _ _ _ _=>False) (λ_ call f args H n k=>Gz (T.get F f) λaf=>qx af G call lf args H n k) fuel
end Go.Bv
