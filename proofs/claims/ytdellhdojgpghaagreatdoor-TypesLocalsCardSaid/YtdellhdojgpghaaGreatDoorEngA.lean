/- Part of a proof; nothing is assumed. -/
import Derived.Calls
import Derived.Defers
import Derived.Orders
import Derived.KernelRfl
import Derived.Laws.Entries
set_option linter.unusedVariables false
set_option linter.unusedSimpArgs false
noncomputable section
namespace Go.Bj
inductive P2 where
 |h|z (p:P2)|o (p:P2)
deriving DecidableEq
inductive T(α:Type)where
 |e|n (v:Option α) (l r:T α)
def T.val{α:Type}(t:T α):Option α:=T.rec none (λv _ _ _ _=>v) t
def T.left{α:Type}(t:T α):T α:=T.rec .e (λ_ l _ _ _=>l) t
def T.right{α:Type}(t:T α):T α:=T.rec .e (λ_ _ r _ _=>r) t
def T.ED{α:Type}(p:P2):T α->Option α:=
 P2.rec (motive:=λ_=>T α->Option α) T.val (λ_ g t=>g t.left) (λ_ g t=>g t.right) p
def T.aG{α:Type}(x:α)(p:P2):T α->T α:=
 P2.rec (motive:=λ_=>T α->T α) (λt=>.n (some x) t.left t.right)
  (λ_ g t=>.n t.val (g t.left) t.right) (λ_ g t=>.n t.val t.left (g t.right)) p
def AP6(f:Nat):Nat->P2:=
 Nat.rec (motive:=λ_=>Nat->P2) (λ_=>.h)
  (λ_ g k=>Nat.rec (motive:=λ_=>P2) .h
   (λm _=>Bool.rec (P2.o (g (Nat.div m 2))) (P2.z (g (Nat.div m 2))) (Nat.beq (Nat.mod m 2) 0)) k) f
def PN(k:Nat):P2:=AP6 (Nat.succ k) k
def T.get{α:Type}(t:T α)(k:Nat):Option α:=T.ED (PN k) t
def T.set{α:Type}(t:T α)(k:Nat)(x:α):T α:=T.aG x (PN k) t
inductive V where
 |undef
 |int (k:IntKind) (n:Int) (s:Nat)
 |bool (b:Bool)
 |str (len code:Nat)
 |AJm|ptr (id off:Nat)|gptr (b off:Nat)
 |Af|sl (id off len cap esz:Nat)|G6 (id off len esz:Nat)|rsl (b off len cap esz:Nat)
 |ALE|map (id:Nat)
 |AVw|fn (f:Nat) (first caps:List V)
 |agg (cs:List V)
 |EI (vs:List V)
 |ARH|iface (t:Nat) (v:V)
inductive Qc where
 |arr (esz cnt:Nat) (c:T (List V))
 |map (es:List (V×V×Nat)) (clock:Nat)
 |dead
 |iZ (t e l c j:Nat)
 |own (b:Nat)
abbrev Heap:=T Qc
abbrev Je:=T V
abbrev AV:=Nat->Nat->Nat->Option (List V)
inductive X where
 |r (p:P2)|c (v:V)|s (i:Nat)
def Nh(o:Option V):V:=Option.rec V.undef (λv=>v) o
def ARV(l:List V):Nat->V:=
 List.rec (motive:=λ_=>Nat->V) (λ_=>.undef) (λx _ g i=>Nat.rec (motive:=λ_=>V) x (λi _=>g i) i) l
inductive RS where
 |mk (L:List V) (R:Je)
def RS.st(E:RS):List V:=RS.rec (λL _=>L) E
def RS.rg(E:RS):Je:=RS.rec (λ_ R=>R) E
def X.ev(x:X):RS->V:=X.rec (motive:=λ_=>RS->V) (λp E=>Nh (T.ED p E.rg)) (λv _=>v) (λi E=>ARV E.st i) x
def V.JK(v:V):(IntKind->Int->Nat->Option V)->Option V:=
 V.rec (motive_1:=λ_=>(IntKind->Int->Nat->Option V)->Option V) (motive_2:=λ_=>PUnit)
  (λ_=>none)
  (λa b c f=>f a b c)
  (λ_ _=>none)
  (λ_ _ _=>none)
  (λ_=>none)
  (λ_ _ _=>none)
  (λ_ _ _=>none)
  (λ_=>none)
  (λ_ _ _ _ _ _=>none)
  (λ_ _ _ _ _=>none)
  (λ_ _ _ _ _ _=>none)
  (λ_=>none)
  (λ_ _=>none)
  (λ_=>none)
  (λ_ _ _ _ _ _=>none)
  (λ_ _ _=>none)
  (λ_ _ _=>none)
  (λ_=>none)
  (λ_ _ _ _=>none)
  ⟨⟩ (λ_ _ _ _=>⟨⟩) v
def V.pO(v:V):(Bool->Option V)->Option V:=
 V.rec (motive_1:=λ_=>(Bool->Option V)->Option V) (motive_2:=λ_=>PUnit)
  (λ_=>none)
  (λ_ _ _ _=>none)
  (λa f=>f a)
  (λ_ _ _=>none)
  (λ_=>none)
  (λ_ _ _=>none)
  (λ_ _ _=>none)
  (λ_=>none)
  (λ_ _ _ _ _ _=>none)
  (λ_ _ _ _ _=>none)
  (λ_ _ _ _ _ _=>none)
  (λ_=>none)
  (λ_ _=>none)
  (λ_=>none)
  (λ_ _ _ _ _ _=>none)
  (λ_ _ _=>none)
  (λ_ _ _=>none)
  (λ_=>none)
  (λ_ _ _ _=>none)
  ⟨⟩ (λ_ _ _ _=>⟨⟩) v
def V.AIt(v:V):(Bool->Prop)->Prop:=
 V.rec (motive_1:=λ_=>(Bool->Prop)->Prop) (motive_2:=λ_=>PUnit)
  (λ_=>False)
  (λ_ _ _ _=>False)
  (λa f=>f a)
  (λ_ _ _=>False)
  (λ_=>False)
  (λ_ _ _=>False)
  (λ_ _ _=>False)
  (λ_=>False)
  (λ_ _ _ _ _ _=>False)
  (λ_ _ _ _ _=>False)
  (λ_ _ _ _ _ _=>False)
  (λ_=>False)
  (λ_ _=>False)
  (λ_=>False)
  (λ_ _ _ _ _ _=>False)
  (λ_ _ _=>False)
  (λ_ _ _=>False)
  (λ_=>False)
  (λ_ _ _ _=>False)
  ⟨⟩ (λ_ _ _ _=>⟨⟩) v
def V.RV(v:V):(Nat->Nat->Option V)->Option V:=
 V.rec (motive_1:=λ_=>(Nat->Nat->Option V)->Option V) (motive_2:=λ_=>PUnit)
  (λ_=>none)
  (λ_ _ _ _=>none)
  (λ_ _=>none)
  (λa b f=>f a b)
  (λ_=>none)
  (λ_ _ _=>none)
  (λ_ _ _=>none)
  (λ_=>none)
  (λ_ _ _ _ _ _=>none)
  (λ_ _ _ _ _=>none)
  (λ_ _ _ _ _ _=>none)
  (λ_=>none)
  (λ_ _=>none)
  (λ_=>none)
  (λ_ _ _ _ _ _=>none)
  (λ_ _ _=>none)
  (λ_ _ _=>none)
  (λ_=>none)
  (λ_ _ _ _=>none)
  ⟨⟩ (λ_ _ _ _=>⟨⟩) v
def V.uP(v:V):(List V->Option V)->Option V:=
 V.rec (motive_1:=λ_=>(List V->Option V)->Option V) (motive_2:=λ_=>PUnit)
  (λ_=>none)
  (λ_ _ _ _=>none)
  (λ_ _=>none)
  (λ_ _ _=>none)
  (λ_=>none)
  (λ_ _ _=>none)
  (λ_ _ _=>none)
  (λ_=>none)
  (λ_ _ _ _ _ _=>none)
  (λ_ _ _ _ _=>none)
  (λ_ _ _ _ _ _=>none)
  (λ_=>none)
  (λ_ _=>none)
  (λ_=>none)
  (λ_ _ _ _ _ _=>none)
  (λa _ f=>f a)
  (λ_ _ _=>none)
  (λ_=>none)
  (λ_ _ _ _=>none)
  ⟨⟩ (λ_ _ _ _=>⟨⟩) v
def V.AKk(v:V):(List V->Option V)->Option V:=
 V.rec (motive_1:=λ_=>(List V->Option V)->Option V) (motive_2:=λ_=>PUnit)
  (λ_=>none)
  (λ_ _ _ _=>none)
  (λ_ _=>none)
  (λ_ _ _=>none)
  (λ_=>none)
  (λ_ _ _=>none)
  (λ_ _ _=>none)
  (λ_=>none)
  (λ_ _ _ _ _ _=>none)
  (λ_ _ _ _ _=>none)
  (λ_ _ _ _ _ _=>none)
  (λ_=>none)
  (λ_ _=>none)
  (λ_=>none)
  (λ_ _ _ _ _ _=>none)
  (λ_ _ _=>none)
  (λa _ f=>f a)
  (λ_=>none)
  (λ_ _ _ _=>none)
  ⟨⟩ (λ_ _ _ _=>⟨⟩) v
def V.AK2(v:V):(Nat->Nat->Option V)->(Nat->Nat->Option V)->Option V:=
 V.rec (motive_1:=λ_=>(Nat->Nat->Option V)->(Nat->Nat->Option V)->Option V) (motive_2:=λ_=>PUnit)
  (λ_ _=>none)
  (λ_ _ _ _ _=>none)
  (λ_ _ _=>none)
  (λ_ _ _ _=>none)
  (λ_ _=>none)
  (λa b f _=>f a b)
  (λa b _ g=>g a b)
  (λ_ _=>none)
  (λ_ _ _ _ _ _ _=>none)
  (λ_ _ _ _ _ _=>none)
  (λ_ _ _ _ _ _ _=>none)
  (λ_ _=>none)
  (λ_ _ _=>none)
  (λ_ _=>none)
  (λ_ _ _ _ _ _ _=>none)
  (λ_ _ _ _=>none)
  (λ_ _ _ _=>none)
  (λ_ _=>none)
  (λ_ _ _ _ _=>none)
  ⟨⟩ (λ_ _ _ _=>⟨⟩) v
def V.AN3(v:V):(Option V)->(Nat->Option V)->Option V:=
 V.rec (motive_1:=λ_=>(Option V)->(Nat->Option V)->Option V) (motive_2:=λ_=>PUnit)
  (λ_ _=>none)
  (λ_ _ _ _ _=>none)
  (λ_ _ _=>none)
  (λ_ _ _ _=>none)
  (λ_ _=>none)
  (λ_ _ _ _=>none)
  (λ_ _ _ _=>none)
  (λ_ _=>none)
  (λ_ _ _ _ _ _ _=>none)
  (λ_ _ _ _ _ _=>none)
  (λ_ _ _ _ _ _ _=>none)
  (λz _=>z)
  (λa _ f=>f a)
  (λ_ _=>none)
  (λ_ _ _ _ _ _ _=>none)
  (λ_ _ _ _=>none)
  (λ_ _ _ _=>none)
  (λ_ _=>none)
  (λ_ _ _ _ _=>none)
  ⟨⟩ (λ_ _ _ _=>⟨⟩) v
def V.AUD(v:V):(Option V)->(Nat->Nat->Nat->Nat->Nat->Option V)->(Nat->Nat->Nat->Nat->Option V)->(Nat->Nat->Nat->Nat->Nat->Option V)->Option V:=
 V.rec (motive_1:=λ_=>(Option V)->(Nat->Nat->Nat->Nat->Nat->Option V)->(Nat->Nat->Nat->Nat->Option V)->(Nat->Nat->Nat->Nat->Nat->Option V)->Option V) (motive_2:=λ_=>PUnit)
  (λ_ _ _ _=>none)
  (λ_ _ _ _ _ _ _=>none)
  (λ_ _ _ _ _=>none)
  (λ_ _ _ _ _ _=>none)
  (λ_ _ _ _=>none)
  (λ_ _ _ _ _ _=>none)
  (λ_ _ _ _ _ _=>none)
  (λz _ _ _=>z)
  (λa b c d e _ f _ _=>f a b c d e)
  (λa b c d _ _ g _=>g a b c d)
  (λa b c d e _ _ _ h=>h a b c d e)
  (λ_ _ _ _=>none)
  (λ_ _ _ _ _=>none)
  (λ_ _ _ _=>none)
  (λ_ _ _ _ _ _ _ _ _=>none)
  (λ_ _ _ _ _ _=>none)
  (λ_ _ _ _ _ _=>none)
  (λ_ _ _ _=>none)
  (λ_ _ _ _ _ _ _=>none)
  ⟨⟩ (λ_ _ _ _=>⟨⟩) v
def BA(v:V):List V:=
 V.rec (motive_1:=λ_=>List V) (motive_2:=λ_=>PUnit)
  ([v])
  (λ_ _ _=>[v])
  (λ_=>[v])
  (λ_ _=>[v])
  ([v])
  (λ_ _=>[v])
  (λ_ _=>[v])
  ([v])
  (λ_ _ _ _ _=>[v])
  (λ_ _ _ _=>[v])
  (λ_ _ _ _ _=>[v])
  ([v])
  (λ_=>[v])
  ([v])
  (λ_ _ _ _ _=>[v])
  (λa _=>a)
  (λ_ _=>[v])
  ([v])
  (λ_ _ _=>[v])
  ⟨⟩ (λ_ _ _ _=>⟨⟩) v
def isStr(v:V):Bool:=
 V.rec (motive_1:=λ_=>Bool) (motive_2:=λ_=>PUnit)
  (false)
  (λ_ _ _=>false)
  (λ_=>false)
  (λ_ _=>true)
  (false)
  (λ_ _=>false)
  (λ_ _=>false)
  (false)
  (λ_ _ _ _ _=>false)
  (λ_ _ _ _=>false)
  (λ_ _ _ _ _=>false)
  (false)
  (λ_=>false)
  (false)
  (λ_ _ _ _ _=>false)
  (λ_ _=>false)
  (λ_ _=>false)
  (false)
  (λ_ _ _=>false)
  ⟨⟩ (λ_ _ _ _=>⟨⟩) v
def lenV(v:V):Option V:=
 V.rec (motive_1:=λ_=>Option V) (motive_2:=λ_=>PUnit)
  (none)
  (λ_ _ _=>none)
  (λ_=>none)
  (λ_ _=>none)
  (none)
  (λ_ _=>none)
  (λ_ _=>none)
  (some (.int .i64 (.ofNat 0) 0))
  (λ_ _ c _ _=>some (.int .i64 (.ofNat c) 0))
  (λ_ _ c _=>some (.int .i64 (.ofNat c) 0))
  (λ_ _ c _ _=>some (.int .i64 (.ofNat c) 0))
  (none)
  (λ_=>none)
  (none)
  (λ_ _ _ _ _=>none)
  (λ_ _=>none)
  (λ_ _=>none)
  (none)
  (λ_ _ _=>none)
  ⟨⟩ (λ_ _ _ _=>⟨⟩) v
def Ae(v:V):Option V:=
 V.rec (motive_1:=λ_=>Option V) (motive_2:=λ_=>PUnit)
  (none)
  (λ_ _ _=>none)
  (λ_=>none)
  (λ_ _=>none)
  (none)
  (λa b=>some (.ptr a b))
  (λa b=>some (.gptr a b))
  (none)
  (λ_ _ _ _ _=>none)
  (λ_ _ _ _=>none)
  (λ_ _ _ _ _=>none)
  (none)
  (λ_=>none)
  (none)
  (λa b c _ _=>some (.fn a b c))
  (λ_ _=>none)
  (λ_ _=>none)
  (none)
  (λ_ _ _=>none)
  ⟨⟩ (λ_ _ _ _=>⟨⟩) v
def Oo(n:Int):(Int->Option V)->Option V:=λf=>f n
def CW(n:Nat):(Nat->Option V)->Option V:=
 Nat.rec (motive:=λ_=>(Nat->Option V)->Option V) (λf=>f 0) (λk _ f=>f (Nat.succ k)) n
def DU(n:Nat):(Nat->Prop)->Prop:=
 Nat.rec (motive:=λ_=>(Nat->Prop)->Prop) (λf=>f 0) (λk _ f=>f (Nat.succ k)) n
def AaZ(k:IntKind):Nat->Bool:=
 IntKind.rec (motive:=λ_=>Nat->Bool) (λm=>Nat.blt m 128) (λm=>Nat.blt m 32768) (λm=>Nat.blt m 2147483648) (λm=>Nat.blt m 9223372036854775808)
  (λm=>Nat.blt m 256) (λm=>Nat.blt m 65536) (λm=>Nat.blt m 4294967296) (λm=>Nat.blt m 18446744073709551616) k
def AZq(k:IntKind):Nat->Bool:=
 IntKind.rec (motive:=λ_=>Nat->Bool) (λm=>Nat.blt m 128) (λm=>Nat.blt m 32768) (λm=>Nat.blt m 2147483648) (λm=>Nat.blt m 9223372036854775808)
  (λ_=>false) (λ_=>false) (λ_=>false) (λ_=>false) k
def inr(k:IntKind)(n:Int):Bool:=Int.rec (motive:=λ_=>IntKind->Bool) (λm k=>AaZ k m) (λm k=>AZq k m) n k
def YP(k:IntKind)(n:Int):Int:=Bool.rec (k.wrap n) n (inr k n)
def AYI(k:IntKind)(n:Int):Option V:=Oo (YP k n) λm=>some (.int k m 0)
def mkI(k:IntKind)(n:Int)(s:Nat):Option V:=
 Nat.rec (motive:=λ_=>IntKind->Int->Option V) AYI (λ_ _ k n=>some (.int k (k.wrap n) 1)) s k n
def mkN(k:IntKind)(n:Int)(s:Nat):Option V:=
 Nat.rec (motive:=λ_=>IntKind->Int->Option V) (λk n=>Oo n λm=>some (.int k m 0)) (λ_ _ k n=>some (.int k n 1)) s k n
def AWE(a:Nat)(b:Int):Int:=Int.rec (motive:=λ_=>Nat->Int) (λn m=>.ofNat (Nat.add m n)) (λn m=>Int.subNatNat m (Nat.succ n)) b a
def AXD(a:Nat)(b:Int):Int:=Int.rec (motive:=λ_=>Nat->Int) (λn m=>Int.subNatNat n (Nat.succ m)) (λn m=>.negSucc (Nat.succ (Nat.add m n))) b a
def AFv(a b:Int):Int:=Int.rec (motive:=λ_=>Int->Int) AWE AXD a b
def ile(a b:Int):Bool:=Int.rec (motive:=λ_=>Int->Bool) (λm b=>Int.rec (motive:=λ_=>Nat->Bool) (λn m=>Nat.ble m n) (λ_ _=>false) b m)
 (λm b=>Int.rec (motive:=λ_=>Nat->Bool) (λ_ _=>true) (λn m=>Nat.ble n m) b m) a b
def ilt(a b:Int):Bool:=Int.rec (motive:=λ_=>Int->Bool) (λm b=>Int.rec (motive:=λ_=>Nat->Bool) (λn m=>Nat.blt m n) (λ_ _=>false) b m)
 (λm b=>Int.rec (motive:=λ_=>Nat->Bool) (λ_ _=>true) (λn m=>Nat.blt n m) b m) a b
def ieq(a b:Int):Bool:=Int.rec (motive:=λ_=>Int->Bool) (λm b=>Int.rec (motive:=λ_=>Nat->Bool) (λn m=>Nat.beq m n) (λ_ _=>false) b m)
 (λm b=>Int.rec (motive:=λ_=>Nat->Bool) (λ_ _=>false) (λn m=>Nat.beq n m) b m) a b
def kno(a:IntKind):Nat:=IntKind.rec 0 1 2 3 4 5 6 7 a
def keq(a b:IntKind):Bool:=Nat.beq (kno a) (kno b)
def QD(b:Bool):Bool:=Bool.rec true false b
def band(a b:Bool):Bool:=Bool.rec (motive:=λ_=>Bool->Bool) (λ_=>false) (λb=>b) a b
def ATP(a b:Bool):Bool:=Bool.rec (motive:=λ_=>Bool->Bool) QD (λb=>b) a b
def mkB(b:Bool):Option V:=Bool.rec (some (.bool false)) (some (.bool true)) b
def BF(b:Bool):Option V->Option V:=Bool.rec (motive:=λ_=>Option V->Option V) (λ_=>none) (λo=>o) b
def AC1(b:Bool)(x y:Option V):Option V:=Bool.rec (motive:=λ_=>Option V->Option V->Option V) (λ_ y=>y) (λx _=>x) b x y
def AQS(code i:Nat):Nat:=Nat.mod (Nat.div code (Nat.pow 256 i)) 256
def ATA(code l h:Nat):Nat:=Nat.mod (Nat.div code (Nat.pow 256 l)) (Nat.pow 256 (Nat.sub h l))
def AX5(l1 c1 c2:Nat):Nat:=Nat.add c1 (Nat.mul (Nat.pow 256 l1) c2)
def AYQ(f:Nat):Nat->Nat->Nat->Nat->Bool:=
 Nat.rec (motive:=λ_=>Nat->Nat->Nat->Nat->Bool) (λ_ _ _ _=>false)
  (λ_ g l1 c1 l2 c2=>Nat.rec (motive:=λ_=>Bool) false (λl2' _=>Nat.rec (motive:=λ_=>Bool) true (λl1' _=>
   Bool.rec (Nat.blt (Nat.mod c1 256) (Nat.mod c2 256)) (g l1' (Nat.div c1 256) l2' (Nat.div c2 256)) (Nat.beq (Nat.mod c1 256) (Nat.mod c2 256))) l1) l2) f
def slt(l1 c1 l2 c2:Nat):Bool:=AYQ (Nat.succ l2) l1 c1 l2 c2
def nth{α:Type}(l:List α):Nat->Option α:=
 List.rec (motive:=λ_=>Nat->Option α) (λ_=>none) (λx _ g i=>Nat.rec (motive:=λ_=>Option α) (some x) (λi _=>g i) i) l
def jQ{α:Type}(x:α)(l:List α):Nat->List α:=
 List.rec (motive:=λ_=>Nat->List α) (λ_=>[]) (λy ys g i=>Nat.rec (motive:=λ_=>List α) (x::ys) (λi _=>y::g i) i) l
def len{α:Type}(l:List α):Nat:=List.rec (motive:=λ_=>Nat) 0 (λ_ _ n=>Nat.succ n) l
def cat{α:Type}(a b:List α):List α:=List.rec (motive:=λ_=>List α->List α) (λb=>b) (λx _ g b=>x::g b) a b
def Yc{α:Type}(n:Nat):List α->List α:=
 Nat.rec (motive:=λ_=>List α->List α) (λ_=>[]) (λ_ g l=>List.rec (motive:=λ_=>List α) [] (λx xs _=>x::g xs) l) n
def lX{α:Type}(n:Nat):List α->List α:=
 Nat.rec (motive:=λ_=>List α->List α) (λl=>l) (λ_ g l=>List.rec (motive:=λ_=>List α) [] (λ_ xs _=>g xs) l) n
def eP(l:List X):RS->List V:=List.rec (motive:=λ_=>RS->List V) (λ_=>[]) (λx _ g R=>x.ev R::g R) l
def AMi(new:List V)(i:Nat)(l:List V):List V:=cat (Yc i l) (cat new (lX (Nat.add i (len new)) l))
abbrev LV:=List V
def PY(o:Option LV)(f:LV->Option V):Option V:=Option.rec (motive:=λ_=>(LV->Option V)->Option V) (λ_=>none) (λv f=>f v) o f
def EN{α:Type}(o:Option α)(f:α->Prop):Prop:=Option.rec (motive:=λ_=>(α->Prop)->Prop) (λ_=>False) (λv f=>f v) o f
def AP(o:Option V)(f:V->Prop):Prop:=Option.rec (motive:=λ_=>(V->Prop)->Prop) (λ_=>False) (λv f=>f v) o f
def Bl{α β:Type}(o:Option α)(f:α->Option β):Option β:=Option.rec (motive:=λ_=>(α->Option β)->Option β) (λ_=>none) (λv f=>f v) o f
def ldC(esz off n:Nat)(L:LV):Option LV:=
 Bool.rec (motive:=λ_=>Option LV)
  (Bool.rec none (some (Yc n (lX (Nat.mod off esz) L))) (Nat.ble (Nat.add (Nat.mod off esz) n) esz))
  (some L) (band (Nat.beq n esz) (Nat.beq (Nat.mod off esz) 0))
def ldB(esz cnt:Nat)(c:T LV)(off n:Nat):Option LV:=
 Bl (Bool.rec none (T.get c (Nat.div off esz)) (Nat.blt (Nat.div off esz) cnt)) (ldC esz off n)
def Qc.ld(b:Qc):Nat->Nat->Option LV:=
 Qc.rec (motive:=λ_=>Nat->Nat->Option LV) ldB (λ_ _ _ _=>none) (λ_ _=>none) (λ_ _ _ _ _ _ _=>none) (λ_ _ _=>none) b
def aB(H:Heap)(id off n:Nat):Option LV:=Option.rec (motive:=λ_=>Nat->Nat->Option LV) (λ_ _=>none) Qc.ld (T.get H id) off n
def ldP(v:V):(AV)->(Heap)->(Nat)->Option LV:=
 V.rec (motive_1:=λ_=>(AV)->(Heap)->(Nat)->Option LV) (motive_2:=λ_=>PUnit)
  (λ_ _ _=>none)
  (λ_ _ _ _ _ _=>none)
  (λ_ _ _ _=>none)
  (λ_ _ _ _ _=>none)
  (λ_ _ _=>none)
  (λa b _ H n=>aB H a b n)
  (λa b G _ n=>G a b n)
  (λ_ _ _=>none)
  (λ_ _ _ _ _ _ _ _=>none)
  (λ_ _ _ _ _ _ _=>none)
  (λ_ _ _ _ _ _ _ _=>none)
  (λ_ _ _=>none)
  (λ_ _ _ _=>none)
  (λ_ _ _=>none)
  (λ_ _ _ _ _ _ _ _=>none)
  (λ_ _ _ _ _=>none)
  (λ_ _ _ _ _=>none)
  (λ_ _ _=>none)
  (λ_ _ _ _ _ _=>none)
  ⟨⟩ (λ_ _ _ _=>⟨⟩) v
def stC(new:LV)(esz cnt:Nat)(c:T LV)(off n:Nat)(L:LV):Option Qc:=
 Bool.rec (motive:=λ_=>Option Qc)
  (Bool.rec none (some (.arr esz cnt (T.set c (Nat.div off esz) (AMi new (Nat.mod off esz) L)))) (Nat.ble (Nat.add (Nat.mod off esz) n) esz))
  (some (.arr esz cnt (T.set c (Nat.div off esz) new))) (band (Nat.beq n esz) (Nat.beq (Nat.mod off esz) 0))
def stB(esz cnt:Nat)(c:T LV)(off n:Nat)(new:LV):Option Qc:=
 Bl (Bool.rec none (T.get c (Nat.div off esz)) (Nat.blt (Nat.div off esz) cnt)) (stC new esz cnt c off n)
def Qc.st(b:Qc):Nat->Nat->LV->Option Qc:=
 Qc.rec (motive:=λ_=>Nat->Nat->LV->Option Qc) stB (λ_ _ _ _ _=>none) (λ_ _ _=>none) (λ_ _ _ _ _ _ _ _=>none) (λ_ _ _ _=>none) b
def stH(H:Heap)(id off n:Nat)(new:LV):Option Heap:=
 Bl (Option.rec (motive:=λ_=>Nat->Nat->LV->Option Qc) (λ_ _ _=>none) Qc.st (T.get H id) off n new) λb=>some (T.set H id b)
def stP(v:V):(Heap)->(Nat)->(LV)->Option Heap:=
 V.rec (motive_1:=λ_=>(Heap)->(Nat)->(LV)->Option Heap) (motive_2:=λ_=>PUnit)
  (λ_ _ _=>none)
  (λ_ _ _ _ _ _=>none)
  (λ_ _ _ _=>none)
  (λ_ _ _ _ _=>none)
  (λ_ _ _=>none)
  (λa b H n new=>stH H a b n new)
  (λ_ _ _ _ _=>none)
  (λ_ _ _=>none)
  (λ_ _ _ _ _ _ _ _=>none)
  (λ_ _ _ _ _ _ _=>none)
  (λ_ _ _ _ _ _ _ _=>none)
  (λ_ _ _=>none)
  (λ_ _ _ _=>none)
  (λ_ _ _=>none)
  (λ_ _ _ _ _ _ _ _=>none)
  (λ_ _ _ _ _=>none)
  (λ_ _ _ _ _=>none)
  (λ_ _ _=>none)
  (λ_ _ _ _ _ _=>none)
  ⟨⟩ (λ_ _ _ _=>⟨⟩) v
def ARO(v:V):(IntKind)->(Int)->(Nat)->Option Bool:=
 V.rec (motive_1:=λ_=>(IntKind)->(Int)->(Nat)->Option Bool) (motive_2:=λ_=>PUnit)
  (λ_ _ _=>none)
  (λa b c k n s=>Bool.rec (motive:=λ_=>Option Bool) none (some (ieq n b)) (band (keq k a) (Nat.beq (Nat.add s c) 0)))
  (λ_ _ _ _=>none)
  (λ_ _ _ _ _=>none)
  (λ_ _ _=>none)
  (λ_ _ _ _ _=>none)
  (λ_ _ _ _ _=>none)
  (λ_ _ _=>none)
  (λ_ _ _ _ _ _ _ _=>none)
  (λ_ _ _ _ _ _ _=>none)
  (λ_ _ _ _ _ _ _ _=>none)
  (λ_ _ _=>none)
  (λ_ _ _ _=>none)
  (λ_ _ _=>none)
  (λ_ _ _ _ _ _ _ _=>none)
  (λ_ _ _ _ _=>none)
  (λ_ _ _ _ _=>none)
  (λ_ _ _=>none)
  (λ_ _ _ _ _ _=>none)
  ⟨⟩ (λ_ _ _ _=>⟨⟩) v
def AMW(v:V):(Bool)->Option Bool:=
 V.rec (motive_1:=λ_=>(Bool)->Option Bool) (motive_2:=λ_=>PUnit)
  (λ_=>none)
  (λ_ _ _ _=>none)
  (λa x=>some (ATP x a))
  (λ_ _ _=>none)
  (λ_=>none)
  (λ_ _ _=>none)
  (λ_ _ _=>none)
  (λ_=>none)
  (λ_ _ _ _ _ _=>none)
  (λ_ _ _ _ _=>none)
  (λ_ _ _ _ _ _=>none)
  (λ_=>none)
  (λ_ _=>none)
  (λ_=>none)
  (λ_ _ _ _ _ _=>none)
  (λ_ _ _=>none)
  (λ_ _ _=>none)
  (λ_=>none)
  (λ_ _ _ _=>none)
  ⟨⟩ (λ_ _ _ _=>⟨⟩) v
def eqStr(v:V):(Nat)->(Nat)->Option Bool:=
 V.rec (motive_1:=λ_=>(Nat)->(Nat)->Option Bool) (motive_2:=λ_=>PUnit)
  (λ_ _=>none)
  (λ_ _ _ _ _=>none)
  (λ_ _ _=>none)
  (λa b l d=>some (band (Nat.beq l a) (Nat.beq d b)))
  (λ_ _=>none)
  (λ_ _ _ _=>none)
  (λ_ _ _ _=>none)
  (λ_ _=>none)
  (λ_ _ _ _ _ _ _=>none)
  (λ_ _ _ _ _ _=>none)
  (λ_ _ _ _ _ _ _=>none)
  (λ_ _=>none)
  (λ_ _ _=>none)
  (λ_ _=>none)
  (λ_ _ _ _ _ _ _=>none)
  (λ_ _ _ _=>none)
  (λ_ _ _ _=>none)
  (λ_ _=>none)
  (λ_ _ _ _ _=>none)
  ⟨⟩ (λ_ _ _ _=>⟨⟩) v
def ARK(v:V):Option Bool:=
 V.rec (motive_1:=λ_=>Option Bool) (motive_2:=λ_=>PUnit)
  (none)
  (λ_ _ _=>none)
  (λ_=>none)
  (λ_ _=>none)
  (some true)
  (λ_ _=>some false)
  (λ_ _=>some false)
  (none)
  (λ_ _ _ _ _=>none)
  (λ_ _ _ _=>none)
  (λ_ _ _ _ _=>none)
  (none)
  (λ_=>none)
  (none)
  (λ_ _ _ _ _=>none)
  (λ_ _=>none)
  (λ_ _=>none)
  (none)
  (λ_ _ _=>none)
  ⟨⟩ (λ_ _ _ _=>⟨⟩) v
def AWp(v:V):(Nat)->(Nat)->Option Bool:=
 V.rec (motive_1:=λ_=>(Nat)->(Nat)->Option Bool) (motive_2:=λ_=>PUnit)
  (λ_ _=>none)
  (λ_ _ _ _ _=>none)
  (λ_ _ _=>none)
  (λ_ _ _ _=>none)
  (λ_ _=>some false)
  (λa b i o=>Bool.rec none (some (Nat.beq o b)) (Nat.beq i a))
  (λ_ _ _ _=>none)
  (λ_ _=>none)
  (λ_ _ _ _ _ _ _=>none)
  (λ_ _ _ _ _ _=>none)
  (λ_ _ _ _ _ _ _=>none)
  (λ_ _=>none)
  (λ_ _ _=>none)
  (λ_ _=>none)
  (λ_ _ _ _ _ _ _=>none)
  (λ_ _ _ _=>none)
  (λ_ _ _ _=>none)
  (λ_ _=>none)
  (λ_ _ _ _ _=>none)
  ⟨⟩ (λ_ _ _ _=>⟨⟩) v
def ATf(v:V):Option Bool:=
 V.rec (motive_1:=λ_=>Option Bool) (motive_2:=λ_=>PUnit)
  (none)
  (λ_ _ _=>none)
  (λ_=>none)
  (λ_ _=>none)
  (some false)
  (λ_ _=>none)
  (λ_ _=>none)
  (none)
  (λ_ _ _ _ _=>none)
  (λ_ _ _ _=>none)
  (λ_ _ _ _ _=>none)
  (none)
  (λ_=>none)
  (none)
  (λ_ _ _ _ _=>none)
  (λ_ _=>none)
  (λ_ _=>none)
  (none)
  (λ_ _ _=>none)
  ⟨⟩ (λ_ _ _ _=>⟨⟩) v
def AKl(v:V):(V)->Option Bool:=
 V.rec (motive_1:=λ_=>(V)->Option Bool) (motive_2:=λ_=>PUnit)
  (λ_=>none)
  (λa b c y=>ARO y a b c)
  (λ_ _=>none)
  (λ_ _ _=>none)
  (λ_=>none)
  (λ_ _ _=>none)
  (λ_ _ _=>none)
  (λ_=>none)
  (λ_ _ _ _ _ _=>none)
  (λ_ _ _ _ _=>none)
  (λ_ _ _ _ _ _=>none)
  (λ_=>none)
  (λ_ _=>none)
  (λ_=>none)
  (λ_ _ _ _ _ _=>none)
  (λ_ _ _=>none)
  (λ_ _ _=>none)
  (λ_=>none)
  (λ_ _ _ _=>none)
  ⟨⟩ (λ_ _ _ _=>⟨⟩) v
def ALZ(v:V):(V)->Option Bool:=
 V.rec (motive_1:=λ_=>(V)->Option Bool) (motive_2:=λ_=>PUnit)
  (λ_=>none)
  (λ_ _ _ _=>none)
  (λ_ _=>none)
  (λa b y=>eqStr y a b)
  (λ_=>none)
  (λ_ _ _=>none)
  (λ_ _ _=>none)
  (λ_=>none)
  (λ_ _ _ _ _ _=>none)
  (λ_ _ _ _ _=>none)
  (λ_ _ _ _ _ _=>none)
  (λ_=>none)
  (λ_ _=>none)
  (λ_=>none)
  (λ_ _ _ _ _ _=>none)
  (λ_ _ _=>none)
  (λ_ _ _=>none)
  (λ_=>none)
  (λ_ _ _ _=>none)
  ⟨⟩ (λ_ _ _ _=>⟨⟩) v
def ADU(v:V):(V)->Option Bool:=
 V.rec (motive_1:=λ_=>(V)->Option Bool) (motive_2:=λ_=>PUnit)
  (λ_=>none)
  (λ_ _ _ _=>none)
  (λa y=>AMW y a)
  (λ_ _ _=>none)
  (λ_=>none)
  (λ_ _ _=>none)
  (λ_ _ _=>none)
  (λ_=>none)
  (λ_ _ _ _ _ _=>none)
  (λ_ _ _ _ _=>none)
  (λ_ _ _ _ _ _=>none)
  (λ_=>none)
  (λ_ _=>none)
  (λ_=>none)
  (λ_ _ _ _ _ _=>none)
  (λ_ _ _=>none)
  (λ_ _ _=>none)
  (λ_=>none)
  (λ_ _ _ _=>none)
  ⟨⟩ (λ_ _ _ _=>⟨⟩) v
def AIQ(v:V):(V)->Option Bool:=
 V.rec (motive_1:=λ_=>(V)->Option Bool) (motive_2:=λ_=>PUnit)
  (λ_=>none)
  (λ_ _ _ _=>none)
  (λ_ _=>none)
  (λ_ _ _=>none)
  (λy=>ARK y)
  (λa b y=>AWp y a b)
  (λ_ _ y=>ATf y)
  (λ_=>none)
  (λ_ _ _ _ _ _=>none)
  (λ_ _ _ _ _=>none)
  (λ_ _ _ _ _ _=>none)
  (λ_=>none)
  (λ_ _=>none)
  (λ_=>none)
  (λ_ _ _ _ _ _=>none)
  (λ_ _ _=>none)
  (λ_ _ _=>none)
  (λ_=>none)
  (λ_ _ _ _=>none)
  ⟨⟩ (λ_ _ _ _=>⟨⟩) v
def AQ7(v:V):Option Bool:=
 V.rec (motive_1:=λ_=>Option Bool) (motive_2:=λ_=>PUnit)
  (none)
  (λ_ _ _=>none)
  (λ_=>none)
  (λ_ _=>none)
  (none)
  (λ_ _=>none)
  (λ_ _=>none)
  (some true)
  (λ_ _ _ _ _=>some false)
  (λ_ _ _ _=>some false)
  (λ_ _ _ _ _=>some false)
  (none)
  (λ_=>none)
  (none)
  (λ_ _ _ _ _=>none)
  (λ_ _=>none)
  (λ_ _=>none)
  (none)
  (λ_ _ _=>none)
  ⟨⟩ (λ_ _ _ _=>⟨⟩) v
def jS(v:V):Option Bool:=
 V.rec (motive_1:=λ_=>Option Bool) (motive_2:=λ_=>PUnit)
  (none)
  (λ_ _ _=>none)
  (λ_=>none)
  (λ_ _=>none)
  (none)
  (λ_ _=>none)
  (λ_ _=>none)
  (some false)
  (λ_ _ _ _ _=>none)
  (λ_ _ _ _=>none)
  (λ_ _ _ _ _=>none)
  (none)
  (λ_=>none)
  (none)
  (λ_ _ _ _ _=>none)
  (λ_ _=>none)
  (λ_ _=>none)
  (none)
  (λ_ _ _=>none)
  ⟨⟩ (λ_ _ _ _=>⟨⟩) v
def ASL(v:V):Option Bool:=
 V.rec (motive_1:=λ_=>Option Bool) (motive_2:=λ_=>PUnit)
  (none)
  (λ_ _ _=>none)
  (λ_=>none)
  (λ_ _=>none)
  (none)
  (λ_ _=>none)
  (λ_ _=>none)
  (none)
  (λ_ _ _ _ _=>none)
  (λ_ _ _ _=>none)
  (λ_ _ _ _ _=>none)
  (none)
  (λ_=>none)
  (some true)
  (λ_ _ _ _ _=>some false)
  (λ_ _=>none)
  (λ_ _=>none)
  (none)
  (λ_ _ _=>none)
  ⟨⟩ (λ_ _ _ _=>⟨⟩) v
def AOV(v:V):Option Bool:=
 V.rec (motive_1:=λ_=>Option Bool) (motive_2:=λ_=>PUnit)
  (none)
  (λ_ _ _=>none)
  (λ_=>none)
  (λ_ _=>none)
  (none)
  (λ_ _=>none)
  (λ_ _=>none)
  (none)
  (λ_ _ _ _ _=>none)
  (λ_ _ _ _=>none)
  (λ_ _ _ _ _=>none)
  (none)
  (λ_=>none)
  (some false)
  (λ_ _ _ _ _=>none)
  (λ_ _=>none)
  (λ_ _=>none)
  (none)
  (λ_ _ _=>none)
  ⟨⟩ (λ_ _ _ _=>⟨⟩) v
def AR7(v:V):Option Bool:=
 V.rec (motive_1:=λ_=>Option Bool) (motive_2:=λ_=>PUnit)
  (none)
  (λ_ _ _=>none)
  (λ_=>none)
  (λ_ _=>none)
  (none)
  (λ_ _=>none)
  (λ_ _=>none)
  (none)
  (λ_ _ _ _ _=>none)
  (λ_ _ _ _=>none)
  (λ_ _ _ _ _=>none)
  (some true)
  (λ_=>some false)
  (none)
  (λ_ _ _ _ _=>none)
  (λ_ _=>none)
  (λ_ _=>none)
  (none)
  (λ_ _ _=>none)
  ⟨⟩ (λ_ _ _ _=>⟨⟩) v
def APH(v:V):Option Bool:=
 V.rec (motive_1:=λ_=>Option Bool) (motive_2:=λ_=>PUnit)
  (none)
  (λ_ _ _=>none)
  (λ_=>none)
  (λ_ _=>none)
  (none)
  (λ_ _=>none)
  (λ_ _=>none)
  (none)
  (λ_ _ _ _ _=>none)
  (λ_ _ _ _=>none)
  (λ_ _ _ _ _=>none)
  (some false)
  (λ_=>none)
  (none)
  (λ_ _ _ _ _=>none)
  (λ_ _=>none)
  (λ_ _=>none)
  (none)
  (λ_ _ _=>none)
  ⟨⟩ (λ_ _ _ _=>⟨⟩) v
def kSl(v:V):(V)->Option Bool:=
 V.rec (motive_1:=λ_=>(V)->Option Bool) (motive_2:=λ_=>PUnit)
  (λ_=>none)
  (λ_ _ _ _=>none)
  (λ_ _=>none)
  (λ_ _ _=>none)
  (λ_=>none)
  (λ_ _ _=>none)
  (λ_ _ _=>none)
  (λy=>AQ7 y)
  (λ_ _ _ _ _ y=>jS y)
  (λ_ _ _ _ y=>jS y)
  (λ_ _ _ _ _ y=>jS y)
  (λ_=>none)
  (λ_ _=>none)
  (λ_=>none)
  (λ_ _ _ _ _ _=>none)
  (λ_ _ _=>none)
  (λ_ _ _=>none)
  (λ_=>none)
  (λ_ _ _ _=>none)
  ⟨⟩ (λ_ _ _ _=>⟨⟩) v
def kFn(v:V):(V)->Option Bool:=
 V.rec (motive_1:=λ_=>(V)->Option Bool) (motive_2:=λ_=>PUnit)
  (λ_=>none)
  (λ_ _ _ _=>none)
  (λ_ _=>none)
  (λ_ _ _=>none)
  (λ_=>none)
  (λ_ _ _=>none)
  (λ_ _ _=>none)
  (λ_=>none)
  (λ_ _ _ _ _ _=>none)
  (λ_ _ _ _ _=>none)
  (λ_ _ _ _ _ _=>none)
  (λ_=>none)
  (λ_ _=>none)
  (λy=>ASL y)
  (λ_ _ _ _ _ y=>AOV y)
  (λ_ _ _=>none)
  (λ_ _ _=>none)
  (λ_=>none)
  (λ_ _ _ _=>none)
  ⟨⟩ (λ_ _ _ _=>⟨⟩) v
def AXn(v:V):(V)->Option Bool:=
 V.rec (motive_1:=λ_=>(V)->Option Bool) (motive_2:=λ_=>PUnit)
  (λ_=>none)
  (λ_ _ _ _=>none)
  (λ_ _=>none)
  (λ_ _ _=>none)
  (λ_=>none)
  (λ_ _ _=>none)
  (λ_ _ _=>none)
  (λ_=>none)
  (λ_ _ _ _ _ _=>none)
  (λ_ _ _ _ _=>none)
  (λ_ _ _ _ _ _=>none)
  (λy=>AR7 y)
  (λ_ y=>APH y)
  (λ_=>none)
  (λ_ _ _ _ _ _=>none)
  (λ_ _ _=>none)
  (λ_ _ _=>none)
  (λ_=>none)
  (λ_ _ _ _=>none)
  ⟨⟩ (λ_ _ _ _=>⟨⟩) v
def Qg(o:Option Bool)(f:Bool->Option Bool):Option Bool:=Option.rec (motive:=λ_=>(Bool->Option Bool)->Option Bool) (λ_=>none) (λv f=>f v) o f
inductive CK where
 |int|str|bool|ptr
def CK.eq(k:CK):V->V->Option Bool:=CK.rec (motive:=λ_=>V->V->Option Bool) AKl ALZ ADU AIQ k
def ARx(ks:List CK):List V->List V->Option Bool:=
 List.rec (motive:=λ_=>List V->List V->Option Bool) (λa b=>List.rec (motive:=λ_=>Option Bool) (List.rec (motive:=λ_=>Option Bool) (some true) (λ_ _ _=>none) b) (λ_ _ _=>none) a)
  (λk _ g a b=>List.rec (motive:=λ_=>Option Bool) none (λx xs _=>List.rec (motive:=λ_=>Option Bool) none (λy ys _=>Qg (k.eq x y) λr=>Qg (g xs ys) λr'=>some (band r r')) b) a) ks
def AWc(v:V):(List CK)->(LV)->Option Bool:=
 V.rec (motive_1:=λ_=>(List CK)->(LV)->Option Bool) (motive_2:=λ_=>PUnit)
  (λ_ _=>none)
  (λ_ _ _ _ _=>none)
  (λ_ _ _=>none)
  (λ_ _ _ _=>none)
  (λ_ _=>none)
  (λ_ _ _ _=>none)
  (λ_ _ _ _=>none)
  (λ_ _=>none)
  (λ_ _ _ _ _ _ _=>none)
  (λ_ _ _ _ _ _=>none)
  (λ_ _ _ _ _ _ _=>none)
  (λ_ _=>none)
  (λ_ _ _=>none)
  (λ_ _=>none)
  (λ_ _ _ _ _ _ _=>none)
  (λa _ ks l=>ARx ks l a)
  (λ_ _ _ _=>none)
  (λ_ _=>none)
  (λ_ _ _ _ _=>none)
  ⟨⟩ (λ_ _ _ _=>⟨⟩) v
def AYL(v:V):(List CK)->(V)->Option Bool:=
 V.rec (motive_1:=λ_=>(List CK)->(V)->Option Bool) (motive_2:=λ_=>PUnit)
  (λ_ _=>none)
  (λ_ _ _ _ _=>none)
  (λ_ _ _=>none)
  (λ_ _ _ _=>none)
  (λ_ _=>none)
  (λ_ _ _ _=>none)
  (λ_ _ _ _=>none)
  (λ_ _=>none)
  (λ_ _ _ _ _ _ _=>none)
  (λ_ _ _ _ _ _=>none)
  (λ_ _ _ _ _ _ _=>none)
  (λ_ _=>none)
  (λ_ _ _=>none)
  (λ_ _=>none)
  (λ_ _ _ _ _ _ _=>none)
  (λa _ ks y=>AWc y ks a)
  (λ_ _ _ _=>none)
  (λ_ _=>none)
  (λ_ _ _ _ _=>none)
  ⟨⟩ (λ_ _ _ _=>⟨⟩) v
inductive EK where
 |one (k:CK)|agg (ks:List CK)|sl|fn|map
def EK.eq(k:EK):V->V->Option Bool:=EK.rec (motive:=λ_=>V->V->Option Bool) (λk=>k.eq) (λks x y=>AYL x ks y) kSl kFn AXn k
def V.AO0(v:V):Option Nat:=
 V.rec (motive_1:=λ_=>Option Nat) (motive_2:=λ_=>PUnit)
  (none)
  (λ_ _ _=>none)
  (λ_=>none)
  (λ_ _=>none)
  (none)
  (λa _=>some a)
  (λ_ _=>none)
  (none)
  (λ_ _ _ _ _=>none)
  (λ_ _ _ _=>none)
  (λ_ _ _ _ _=>none)
  (none)
  (λ_=>none)
  (none)
  (λ_ _ _ _ _=>none)
  (λ_ _=>none)
  (λ_ _=>none)
  (none)
  (λ_ _ _=>none)
  ⟨⟩ (λ_ _ _ _=>⟨⟩) v
def V.AVH(v:V):Option (List V):=
 V.rec (motive_1:=λ_=>Option (List V)) (motive_2:=λ_=>PUnit)
  (none)
  (λ_ _ _=>none)
  (λ_=>none)
  (λ_ _=>none)
  (none)
  (λ_ _=>none)
  (λ_ _=>none)
  (none)
  (λ_ _ _ _ _=>none)
  (λ_ _ _ _=>none)
  (λ_ _ _ _ _=>none)
  (none)
  (λ_=>none)
  (none)
  (λ_ _ _ _ _=>none)
  (λl _=>some l)
  (λ_ _=>none)
  (none)
  (λ_ _ _=>none)
  ⟨⟩ (λ_ _ _ _=>⟨⟩) v
def ZU(H:Heap)(id:Nat):Bool:=Option.rec (motive:=λ_=>Bool) false
 (λb=>Qc.rec (motive:=λ_=>Bool) (λesz _ _=>QD (Nat.beq esz 1)) (λ_ _=>false) false (λ_ _ _ _ _=>false) (λ_=>false) b) (T.get H id)
def APk(ok:Nat->Bool)(x y:V):Option Bool:=
 Option.rec (motive:=λ_=>Option Bool) none (λi=>Option.rec (motive:=λ_=>Option Bool) none (λj=>Bool.rec (motive:=λ_=>Option Bool) none (some false) (band (QD (Nat.beq i j)) (band (ok i) (ok j)))) y.AO0) x.AO0
def AFP(ok:Nat->Bool)(x y:V):Option Bool:=Option.rec (motive:=λ_=>Option Bool) (APk ok x y) (λb=>some b) (AIQ x y)
def CK.eqH(ok:Nat->Bool)(k:CK):V->V->Option Bool:=CK.rec (motive:=λ_=>V->V->Option Bool) AKl ALZ ADU (AFP ok) k
def yX(q:CK->V->V->Option Bool)(ks:List CK):List V->List V->Option Bool:=
 List.rec (motive:=λ_=>List V->List V->Option Bool) (λa b=>List.rec (motive:=λ_=>Option Bool) (List.rec (motive:=λ_=>Option Bool) (some true) (λ_ _ _=>none) b) (λ_ _ _=>none) a)
  (λk _ g a b=>List.rec (motive:=λ_=>Option Bool) none (λx xs _=>List.rec (motive:=λ_=>Option Bool) none (λy ys _=>Qg (q k x y) λr=>Qg (g xs ys) λr'=>some (band r r')) b) a) ks
def ABA(ok:Nat->Bool)(ks:List CK)(x y:V):Option Bool:=
 Option.rec (motive:=λ_=>Option Bool) none (λl=>Option.rec (motive:=λ_=>Option Bool) none (λm=>yX (CK.eqH ok) ks l m) y.AVH) x.AVH
inductive B2 where
 |add|sub|mul|quo|rem|and|or|xor|andNot|shl|shr|lss|leq|gtr|geq
def ACE(f:Int->Int->Bool)(x y:V):Option V:=x.JK λk a s=>y.JK λk' b t=>BF (band (keq k k') (Nat.beq (Nat.add s t) 0)) (mkB (f a b))
def AKE(f:Nat->Nat->Nat->Nat->Bool)(x y:V):Option V:=x.RV λl c=>y.RV λm d=>mkB (f l c m d)
def ari(f:Int->Int->Int)(x y:V):Option V:=x.JK λk a s=>y.JK λk' b t=>BF (keq k k') (mkI k (f a b) (Nat.add s t))
def dvs(f:Int->Int->Int)(x y:V):Option V:=
 x.JK λk a s=>y.JK λk' b t=>BF (band (keq k k') (band (Nat.beq t 0) (QD (ieq b 0)))) (mkI k (f a b) s)
def AXS(x y:V):Option V:=
 x.JK λk a s=>y.JK λk' b t=>BF (band (keq k k') (band (Nat.beq t 0) (QD (ieq b 0)))) (mkN k (Int.tmod a b) s)
def AZw(x y:V):Option V:=x.RV λl c=>y.RV λm d=>BF (Nat.blt (Nat.add l m) 9223372036854775808) (CW (Nat.add l m) λn=>CW (AX5 l c d) λe=>some (.str n e))
def AYf(x y:V):Option V:=AC1 (isStr x) (AZw x y) (ari AFv x y)
def AbG(x y:V):Option V:=ari (λa b=>AFv a (Int.neg b)) x y
def Aaf(x y:V):Option V:=ari Int.mul x y
def AR4(k:IntKind)(a b:Int):Int:=Int.rec (motive:=λ_=>Int->IntKind->Int)
 (λm b k=>Int.rec (motive:=λ_=>Nat->IntKind->Int) (λn m k=>YP k (.ofNat (Nat.land m n))) (λn m k=>bits .and k (.ofNat m) (.negSucc n)) b m k)
 (λm b k=>bits .and k (.negSucc m) b) a b k
def AYc(x y:V):Option V:=x.JK λk a s=>y.JK λk' b t=>BF (band (keq k k') (Nat.beq (Nat.add s t) 0)) (Oo (AR4 k a b) λm=>some (.int k m 0))
def ASy(o:BinOp)(x y:V):Option V:=x.JK λk a s=>y.JK λk' b t=>BF (band (keq k k') (Nat.beq (Nat.add s t) 0)) (Oo (bits o k a b) λm=>some (.int k m 0))
def Aa4(a:Int)(n:Nat):Int:=Int.fdiv a (Int.ofNat (Nat.pow 2 n))
def ALk(k:IntKind):Nat:=IntKind.rec 8 16 32 64 8 16 32 64 k
def AYT(x y:V):Option V:=x.JK λk a s=>y.JK λ_ b t=>BF (band (QD (ilt b 0)) (Nat.beq (Nat.add s t) 0)) (Oo (Aa4 a (Nat.min (Int.toNat b) (ALk k))) λm=>some (.int k m 0))
def AZN(x y:V):Option V:=x.JK λk a s=>y.JK λ_ b t=>BF (band (QD (ilt b 0)) (Nat.beq (Nat.add s t) 0)) (mkI k (Int.mul a (Int.ofNat (Nat.pow 2 (Nat.min (Int.toNat b) (ALk k))))) 0)
def ofB(o:Option Bool):Option V:=Option.rec none mkB o
def Dw(k:EK)(neg:Bool)(x y:V):Option V:=ofB (Qg (k.eq x y) λb=>some (Bool.rec (motive:=λ_=>Bool->Bool) (λb=>b) QD neg b))
def AYR(ks:List CK)(neg:Bool)(x y:V)(H:Heap):Option V:=ofB (Qg (ABA (ZU H) ks x y) λb=>some (Bool.rec (motive:=λ_=>Bool->Bool) (λb=>b) QD neg b))
def AZR(x y:V):Option V:=AC1 (isStr x) (AKE slt x y) (ACE ilt x y)
def AY9(x y:V):Option V:=AC1 (isStr x) (AKE (λl c m d=>QD (slt m d l c)) x y) (ACE ile x y)
def AXY(x y:V):Option V:=AC1 (isStr x) (AKE (λl c m d=>slt m d l c) x y) (ACE (λa b=>ilt b a) x y)
def AXx(x y:V):Option V:=AC1 (isStr x) (AKE (λl c m d=>QD (slt l c m d)) x y) (ACE (λa b=>ile b a) x y)
def B2.ev(o:B2):V->V->Option V:=B2.rec (motive:=λ_=>V->V->Option V)
 AYf AbG Aaf (dvs Int.tdiv) AXS AYc (ASy .or) (ASy .xor) (ASy .andNot) AZN AYT AZR AY9 AXY AXx o
end Go.Bj
namespace Go.RL
open Go.Bj
def q0:P2:=.h
def q1:P2:=.z q0
def q2:P2:=.o q0
def q3:P2:=.z q1
def q4:P2:=.o q1
def q5:P2:=.z q2
def q6:P2:=.o q2
def q7:P2:=.z q3
def q8:P2:=.o q3
def q9:P2:=.z q4
def q10:P2:=.o q4
def q11:P2:=.z q5
def q12:P2:=.o q5
def q13:P2:=.z q6
def q14:P2:=.o q6
def q15:P2:=.z q7
def q16:P2:=.o q7
def q17:P2:=.z q8
def q18:P2:=.o q8
def q19:P2:=.z q9
def q20:P2:=.o q9
def q21:P2:=.z q10
def q22:P2:=.o q10
def q23:P2:=.z q11
def q24:P2:=.o q11
def q25:P2:=.z q12
def q26:P2:=.o q12
def q27:P2:=.z q13
def q31:P2:=.z q15
def q32:P2:=.o q15
def q33:P2:=.z q16
def q34:P2:=.o q16
def q35:P2:=.z q17
def q37:P2:=.z q18
def q39:P2:=.z q19
def q40:P2:=.o q19
def q41:P2:=.z q20
def q45:P2:=.z q22
def q46:P2:=.o q22
def q52:P2:=.o q25
def q53:P2:=.z q26
def q54:P2:=.o q26
def q55:P2:=.z q27
def q63:P2:=.z q31
def q65:P2:=.z q32
def q66:P2:=.o q32
def q67:P2:=.z q33
def q68:P2:=.o q33
def q69:P2:=.z q34
def q92:P2:=.o q45
def q93:P2:=.z q46
def q94:P2:=.o q46
def AdV:P2:=.o q55
abbrev fE:Nat:=3
abbrev Wh:Nat:=4
abbrev uw:Nat:=5
abbrev Sv:Nat:=6
abbrev au:Nat:=7
abbrev Lp:Nat:=8
abbrev yQ:Nat:=9
abbrev FY:Nat:=10
abbrev fP:Nat:=11
abbrev ACt:Nat:=12
abbrev Zb:Nat:=13
abbrev Ji:Nat:=14
abbrev Jw:Nat:=15
abbrev AE3:Nat:=16
abbrev AHX:Nat:=17
abbrev Xi:Nat:=18
abbrev D6:Nat:=19
abbrev OZ:Nat:=20
abbrev EW:Nat:=21
abbrev Jd:Nat:=22
abbrev OC:Nat:=23
abbrev AFd:Nat:=24
abbrev ACy:Nat:=25
abbrev KW:Nat:=26
abbrev Ey:Nat:=27
abbrev ABx:Nat:=28
abbrev DF:Nat:=29
abbrev TI:Nat:=30
abbrev Nv:Nat:=31
abbrev Nu:Nat:=32
abbrev C9:Nat:=33
abbrev eX:Nat:=34
abbrev fF:Nat:=35
abbrev BK:Nat:=36
abbrev DI:Nat:=37
abbrev Am:Nat:=38
abbrev KQ:Nat:=39
abbrev Jg:Nat:=40
abbrev Cm:Nat:=41
abbrev Vo:Nat:=42
abbrev CS:Nat:=43
abbrev MC:Nat:=44
abbrev Iw:Nat:=45
abbrev CY:Nat:=46
abbrev VO:Nat:=47
abbrev IK:Nat:=48
abbrev CZ:Nat:=49
abbrev PU:Nat:=50
abbrev ADP:Nat:=51
abbrev XV:Nat:=52
abbrev EF:Nat:=53
abbrev bI:Nat:=54
abbrev Y6:Nat:=55
abbrev Tf:Nat:=56
abbrev Ai:Nat:=57
abbrev JD:Nat:=58
abbrev KN:Nat:=59
abbrev Ny:Nat:=60
abbrev SA:Nat:=61
abbrev qX:Nat:=62
abbrev TB:Nat:=63
abbrev uo:Nat:=64
abbrev qV:Nat:=65
abbrev ADN:Nat:=66
abbrev aj:Nat:=67
abbrev ABO:Nat:=68
abbrev Cc:Nat:=69
abbrev Rn:Nat:=70
abbrev JE:Nat:=71
abbrev WM:Nat:=72
abbrev Us:Nat:=73
abbrev Vl:Nat:=74
abbrev Xn:Nat:=75
abbrev D5:Nat:=76
abbrev Qu:Nat:=77
abbrev Jb:Nat:=78
abbrev Dj:Nat:=79
abbrev KO:Nat:=80
abbrev U8:Nat:=81
abbrev Uo:Nat:=82
abbrev Jo:Nat:=83
abbrev FW:Nat:=84
abbrev FQ:Nat:=85
abbrev MF:Nat:=86
abbrev FI:Nat:=88
abbrev LY:Nat:=89
abbrev XO:Nat:=90
abbrev SK:Nat:=91
abbrev Uw:Nat:=92
abbrev lZ:Nat:=93
abbrev Gl:Nat:=94
abbrev QH:Nat:=95
abbrev Zo:Nat:=96
abbrev Bo:Nat:=98
abbrev CO:Nat:=99
abbrev Fb:Nat:=100
abbrev Xe:Nat:=101
abbrev XE:Nat:=104
abbrev P5:Nat:=105
abbrev Pz:Nat:=106
abbrev OD:Nat:=107
abbrev Ia:Nat:=110
abbrev Ql:Nat:=111
abbrev Jz:Nat:=112
abbrev Ci:Nat:=113
abbrev Xc:Nat:=114
abbrev YQ:Nat:=115
abbrev V8:Nat:=116
abbrev Rx:Nat:=117
end Go.RL
namespace Go.Bj
inductive AN where
 |mv (x:X)
 |pick (c a b:X)
 |ld1 (x:X)
 |ldn (n:Nat) (x:X)
 |ASb (x:X)
 |bin (o:B2) (x y:X)
 |eq (k:EK) (neg:Bool) (x y:X)
 |not (x:X)
 |neg (x:X)
 |cvi (k:IntKind) (x:X)
 |AdH (f:Nat) (first caps:List X)
 |AZt (off:Nat) (x:X)
 |field1 (off:Nat) (x:X)
 |AY3 (off n:Nat) (x:X)
 |AaX (esz:Nat) (x i:X)
 |AY4 (n esz:Nat) (x i:X)
 |Adb (x i:X)
 |AcO (n:Nat) (x i:X)
 |ext (x:X) (i:Nat)
 |Abi (x:X)
 |AcN (x:X)
 |Abk (x:X)
 |AdT (n:Nat)
 |look (c:CK) (ok:Bool) (zero:V) (m k:X)
 |build (zero:List V) (parts:List (Nat×Nat×X))
 |Aah (x:X) (lo hi:Option X)
 |slc (esz:Nat) (x:X) (lo hi mx:Option X)
 |AdI (n esz:Nat) (x:X) (lo hi:Option X)
 |AcJ (x y:X)
 |Ada (x y:X)
 |cvS (x:X)
 |AVz (s c:X)
 |AKE (x y:X)
 |eqp (k:List CK) (neg:Bool) (x y:X)
inductive AA where
 |alloc (esz:Nat) (es:List (List V))
 |box (x:X)
 |AIS (esz cnt:Nat) (zero:List V) (parts:List (Nat×X))
 |AEV (esz bytes:Nat) (zero:List V) (l c:X)
 |ASc
 |iZ (t e:Nat)
inductive AE where
 |asg (x:X)
 |st (n:Nat) (x v:X)
 |app (esz bytes:Nat) (x y:X)
 |copy (esz:Nat) (x y:X)
 |AM7 (c:CK) (m k v:X)
 |del (c:CK) (m k:X)
 |Aac (m:X)
 |call (f:Nat) (args:List X)
 |AOl (x:X) (args:List X)
 |defer (dp:P2) (x:X) (args:List X)
 |cvB (x:X)
inductive AO where
 |n (o:AN)|a (o:AA)|e (o:AE)
inductive sW where
 |no|to (p:P2)|ps
inductive Gd where
 |no|on (x:X) (b:Bool)
inductive AOp where
 |mk (d:sW) (g:Gd) (o:AO)
def ARk(n:Int):(Nat->Option V)->Option V:=Int.rec (motive:=λ_=>(Nat->Option V)->Option V) (λm f=>f m) (λ_ _=>none) n
def XK(v:V)(f:Nat->Option V):Option V:=v.JK λ_ n s=>BF (Nat.beq s 0) (ARk n f)
def dO(x:Option X):RS->Nat->(Nat->Option V)->Option V:=
 Option.rec (motive:=λ_=>RS->Nat->(Nat->Option V)->Option V) (λ_ d f=>f d) (λx R _ f=>XK (x.ev R) f) x
def f3(a b c:Nat)(f:Nat->Nat->Nat->V):Option V:=CW a λa=>CW b λb=>CW c λc=>some (f a b c)
def AEf(R:RS)(lo hi mx:Option X):Option V:=dO mx R 0 λm=>dO hi R 0 λh=>dO lo R 0 λl=>BF (band (Nat.ble l h) (band (Nat.ble h m) (Nat.beq m 0))) (some .Af)
def ALy(z:Nat)(R:RS)(lo hi mx:Option X)(id off ln cap esz:Nat):Option V:=BF (Nat.beq z esz) (dO mx R cap λm=>dO hi R ln λh=>dO lo R 0 λl=>
 BF (band (Nat.ble l h) (band (Nat.ble h m) (Nat.ble m cap))) (f3 (Nat.add off l) (Nat.sub h l) (Nat.sub m l) λo d c=>.sl id o d c esz))
def AEC(R:RS)(lo hi:Option X)(id off ln esz:Nat):Option V:=dO hi R ln λh=>dO lo R 0 λl=>
 BF (band (Nat.ble l h) (Nat.ble h ln)) (f3 (Nat.add off l) (Nat.sub h l) 0 λo d _=>.G6 id o d esz)
def AEW(R:RS)(lo hi:Option X)(mx:X)(id off ln esz:Nat):Option V:=XK (mx.ev R) λm=>dO hi R 0 λh=>dO lo R 0 λl=>
 BF (band (Nat.ble l h) (band (Nat.ble h m) (Nat.ble m ln))) (f3 (Nat.add off l) (Nat.sub h l) (Nat.sub m l) λo d c=>.sl id o d c esz)
def ACJ(z:Nat)(R:RS)(lo hi mx:Option X)(id off ln esz:Nat):Option V:=
 BF (Nat.beq z esz) (Option.rec (motive:=λ_=>Option V) (AEC R lo hi id off ln esz) (λmx=>AEW R lo hi mx id off ln esz) mx)
def AFg(z:Nat)(R:RS)(lo hi mx:Option X)(b off ln cap esz:Nat):Option V:=dO hi R ln λh=>dO lo R 0 λl=>
 Option.rec (motive:=λ_=>Option V) (BF (band (Nat.ble l h) (Nat.ble h cap)) (f3 (Nat.add off (Nat.mul l z)) (Nat.sub h l) (Nat.sub cap l) λo d c=>.rsl b o d c esz)) (λ_=>none) mx
def ADx(z:Nat)(x:V)(R:RS)(lo hi mx:Option X):Option V:=x.AUD (AEf R lo hi mx) (ALy z R lo hi mx) (ACJ z R lo hi mx) (AFg z R lo hi mx)
def gV(x:V)(R:RS)(lo hi:Option X):Option V:=
 x.RV λln c=>dO hi R ln λh=>dO lo R 0 λl=>BF (band (Nat.ble l h) (Nat.ble h ln)) (f3 (Nat.sub h l) (ATA c l h) 0 λd c _=>.str d c)
def BJ(esz:Nat)(x i:V):Option V:=XK i λi=>x.AUD none
 (λid off ln _ e=>BF (band (Nat.beq e esz) (Nat.blt i ln)) (CW (Nat.mul (Nat.add off i) esz) λo=>some (.ptr id o)))
 (λid off ln e=>BF (band (Nat.beq e esz) (Nat.blt i ln)) (CW (Nat.mul (Nat.add off i) esz) λo=>some (.ptr id o)))
 (λb off ln _ _=>BF (Nat.blt i ln) (CW (Nat.add off (Nat.mul i esz)) λo=>some (.gptr b o)))
def AQ(off:Nat)(x:V):Option V:=x.AK2 (λid o=>CW (Nat.add o off) λo=>some (.ptr id o)) (λb o=>CW (Nat.add o off) λo=>some (.gptr b o))
abbrev ME:=List (V×V×Nat)
def sO(c:CK)(k:V)(es:ME):Nat->Option (Option (Nat×V)):=
 List.rec (motive:=λ_=>Nat->Option (Option (Nat×V))) (λ_=>some none)
  (λe _ g i=>Bl (c.eq e.1 k) λr=>Bool.rec (g (Nat.succ i)) (some (some (i,e.2.1))) r) es
def AbT(b:Qc):(ME->Nat->Option V)->Option V:=Qc.rec (motive:=λ_=>(ME->Nat->Option V)->Option V) (λ_ _ _ _=>none) (λes c f=>f es c) (λ_=>none) (λ_ _ _ _ _ _=>none) (λ_ _=>none) b
def RF(H:Heap)(m:V)(f:ME->Nat->Option V):Option V:=m.AN3 (f [] 0) λid=>Option.rec (motive:=λ_=>(ME->Nat->Option V)->Option V) (λ_=>none) AbT (T.get H id) f
def ADA(parts:List (Nat×Nat×X)):RS->List V->List V:=
 List.rec (motive:=λ_=>RS->List V->List V) (λ_ l=>l) (λp _ g R l=>g R (AMi (BA (p.2.2.ev R)) p.1 l)) parts
def Wi(v:V):Bool:=
 V.rec (motive_1:=λ_=>Bool) (motive_2:=λ_=>PUnit)
  (false)
  (λ_ _ _=>true)
  (λ_=>true)
  (λ_ _=>true)
  (true)
  (λ_ _=>true)
  (λ_ _=>true)
  (true)
  (λ_ _ _ _ _=>true)
  (λ_ _ _ _=>true)
  (λ_ _ _ _ _=>true)
  (true)
  (λ_=>true)
  (true)
  (λ_ _ _ _ _=>true)
  (λ_ _=>true)
  (λ_ _=>false)
  (true)
  (λ_ _ _=>true)
  ⟨⟩ (λ_ _ _ _=>⟨⟩) v
def iq(parts:List (Nat×Nat×X)):RS->Bool:=
 List.rec (motive:=λ_=>RS->Bool) (λ_=>true) (λp _ g R=>band (band (Wi (p.2.2.ev R)) (Nat.beq (len (BA (p.2.2.ev R))) p.2.1)) (g R)) parts
abbrev CJ:=List LV
def BZ(H:Heap)(id esz:Nat)(n:Nat):Nat->Option CJ:=
 Nat.rec (motive:=λ_=>Nat->Option CJ) (λ_=>some [])
  (λ_ g o=>Bl (aB H id (Nat.mul o esz) esz) λL=>Bl (g (Nat.succ o)) λLS=>some (L::LS)) n
def dM(G:AV)(b esz:Nat)(n:Nat):Nat->Option CJ:=
 Nat.rec (motive:=λ_=>Nat->Option CJ) (λ_=>some [])
  (λ_ g o=>Bl (G b o esz) λL=>Bl (g (Nat.add o esz)) λLS=>some (L::LS)) n
def TV(n:Nat):Nat->CJ:=
 Nat.rec (motive:=λ_=>Nat->CJ) (λ_=>[]) (λ_ g c=>[.int .u8 (.ofNat (Nat.mod c 256)) 0]::g (Nat.div c 256)) n
def elems(v:V):(AV)->(Heap)->(Nat)->Option CJ:=
 V.rec (motive_1:=λ_=>(AV)->(Heap)->(Nat)->Option CJ) (motive_2:=λ_=>PUnit)
  (λ_ _ _=>none)
  (λ_ _ _ _ _ _=>none)
  (λ_ _ _ _=>none)
  (λa b _ _ z=>Bool.rec (motive:=λ_=>Option CJ) none (some (TV a b)) (Nat.beq 1 z))
  (λ_ _ _=>none)
  (λ_ _ _ _ _=>none)
  (λ_ _ _ _ _=>none)
  (λ_ _ _=>some [])
  (λa b c _ e _ H z=>Bool.rec (motive:=λ_=>Option CJ) none (BZ H a z c b) (Nat.beq e z))
  (λa b c d _ H z=>Bool.rec (motive:=λ_=>Option CJ) none (BZ H a z c b) (Nat.beq d z))
  (λa b c _ _ G _ z=>dM G a z c b)
  (λ_ _ _=>none)
  (λ_ _ _ _=>none)
  (λ_ _ _=>none)
  (λ_ _ _ _ _ _ _ _=>none)
  (λ_ _ _ _ _=>none)
  (λ_ _ _ _ _=>none)
  (λ_ _ _=>none)
  (λ_ _ _ _ _ _=>none)
  ⟨⟩ (λ_ _ _ _=>⟨⟩) v
def byteOf(v:V):Option Nat:=
 V.rec (motive_1:=λ_=>Option Nat) (motive_2:=λ_=>PUnit)
  (none)
  (λa b c=>Int.rec (motive:=λ_=>Nat->Option Nat) (λm t=>Bool.rec none (some m) (band (Nat.beq (kno a) 4) (band (Nat.blt m 256) (Nat.beq t 0)))) (λ_ _=>none) b c)
  (λ_=>none)
  (λ_ _=>none)
  (none)
  (λ_ _=>none)
  (λ_ _=>none)
  (none)
  (λ_ _ _ _ _=>none)
  (λ_ _ _ _=>none)
  (λ_ _ _ _ _=>none)
  (none)
  (λ_=>none)
  (none)
  (λ_ _ _ _ _=>none)
  (λ_ _=>none)
  (λ_ _=>none)
  (none)
  (λ_ _ _=>none)
  ⟨⟩ (λ_ _ _ _=>⟨⟩) v
def yM(l:CJ):Option Nat:=
 List.rec (motive:=λ_=>Option Nat) (some 0) (λx _ g=>Bl (nth x 0) λv=>Bl (byteOf v) λm=>Bl g λc=>some (Nat.add m (Nat.mul 256 c))) l
def cu(b:Nat)(f:Nat):Nat->Nat->Int:=
 Nat.rec (motive:=λ_=>Nat->Nat->Int) (λ_ _=>.negSucc 0)
  (λ_ g c i=>Bool.rec (g (Nat.div c 256) (Nat.succ i)) (.ofNat i) (Nat.beq (Nat.mod c 256) b)) f
abbrev pF:=AV->RS->Heap->Option V
def eMv(x:X):pF:=λ_ R _=>some (x.ev R)
def AO3(c a b:X):pF:=λ_ R _=>(c.ev R).pO λt=>AC1 t (some (a.ev R)) (some (b.ev R))
def AVy(x:X):pF:=λG R H=>PY (ldP (x.ev R) G H 1) λL=>nth L 0
def AVR(n:Nat)(x:X):pF:=λG R H=>PY (ldP (x.ev R) G H n) λL=>some (.agg L)
def AIq(x:X):pF:=λ_ R _=>Ae (x.ev R)
def AUx(o:B2)(x y:X):pF:=λ_ R _=>o.ev (x.ev R) (y.ev R)
def eEq(k:EK)(neg:Bool)(x y:X):pF:=λ_ R _=>Dw k neg (x.ev R) (y.ev R)
def AV8(x:X):pF:=λ_ R _=>(x.ev R).pO λb=>mkB (QD b)
def AVu(x:X):pF:=λ_ R _=>(x.ev R).JK λk n s=>mkI k (Int.neg n) s
def AVE(k:IntKind)(x:X):pF:=λ_ R _=>(x.ev R).JK λ_ n s=>mkI k n s
def AOr(f:Nat)(a c:List X):pF:=λ_ R _=>some (.fn f (eP a R) (eP c R))
def AJd(off:Nat)(x:X):pF:=λ_ R _=>AQ off (x.ev R)
def AEO(off:Nat)(x:X):pF:=λ_ R _=>(x.ev R).uP λl=>nth l off
def AEP(off n:Nat)(x:X):pF:=λ_ R _=>(x.ev R).uP λl=>some (.agg (Yc n (lX off l)))
def AIH(esz:Nat)(x i:X):pF:=λ_ R _=>BJ esz (x.ev R) (i.ev R)
def AEI(n esz:Nat)(x i:X):pF:=λ_ R _=>XK (i.ev R) λi=>BF (Nat.blt i n) (AQ (Nat.mul i esz) (x.ev R))
def AOm(x i:X):pF:=λ_ R _=>(x.ev R).RV λln c=>XK (i.ev R) λi=>BF (Nat.blt i ln) (CW (AQS c i) λb=>some (.int .u8 (.ofNat b) 0))
def AOd(n:Nat)(x i:X):pF:=λ_ R _=>(x.ev R).uP λl=>XK (i.ev R) λi=>BF (Nat.blt i n) (nth l i)
def AUA(x:X)(i:Nat):pF:=λ_ R _=>(x.ev R).AKk λl=>nth l i
def AO1(x:X):pF:=λ_ R _=>(x.ev R).RV λn _=>some (.int .i64 (.ofNat n) 0)
def AOt(x:X):pF:=λ_ R _=>lenV (x.ev R)
def AO9(x:X):pF:=λ_ R H=>RF H (x.ev R) λes _=>CW (len es) λn=>some (.int .i64 (.ofNat n) 0)
def AbC(n:Nat):pF:=λ_ _ _=>some (.int .i64 (.ofNat n) 0)
def APA(ok:Bool)(z:V)(r:Option (Nat×V)):Option V:=
 Option.rec (motive:=λ_=>Option V) (AC1 ok (some (.EI [z,.bool false])) (some z)) (λp=>AC1 ok (some (.EI [p.2,.bool true])) (some p.2)) r
def APS(c:CK)(ok:Bool)(z:V)(m k:X):pF:=λ_ R H=>RF H (m.ev R) λes _=>Bl (sO c (k.ev R) es 0) (APA ok z)
def AIy(z:LV)(ps:List (Nat×Nat×X)):pF:=λ_ R _=>BF (iq ps R) (some (.agg (ADA ps R z)))
def AGT(x:X)(lo hi:Option X):pF:=λ_ R _=>gV (x.ev R) R lo hi
def AVa(z:Nat)(x:X)(lo hi mx:Option X):pF:=λ_ R _=>ADx z (x.ev R) R lo hi mx
def APM(n esz:Nat)(x:X)(lo hi:Option X):pF:=λ_ R _=>(x.ev R).AK2 (λid o=>dO hi R n λh=>dO lo R 0 λl=>
 BF (band (Nat.beq (Nat.mod o esz) 0) (band (Nat.ble l h) (Nat.ble h n))) (f3 (Nat.add (Nat.div o esz) l) (Nat.sub h l) (Nat.sub n l) λa b c=>.sl id a b c esz)) (λ_ _=>none)
def AVo(x y:X):pF:=λ_ R _=>(x.ev R).JK λk a s=>(y.ev R).JK λk' b t=>BF (band (keq k k') (Nat.beq (Nat.add s t) 0)) (some (.int k (Bool.rec a b (ilt a b)) 0))
def AWA(x y:X):pF:=λ_ R _=>(x.ev R).JK λk a s=>(y.ev R).JK λk' b t=>BF (band (keq k k') (Nat.beq (Nat.add s t) 0)) (some (.int k (Bool.rec a b (ilt b a)) 0))
def AUe(x:X):pF:=λG R H=>BF (QD (isStr (x.ev R))) (Bl (elems (x.ev R) G H 1) λl=>Bl (yM l) λc=>f3 (len l) c 0 λn c _=>.str n c)
def AI2(s c:X):pF:=λ_ R _=>(s.ev R).RV λn cd=>(c.ev R).JK λk b _=>BF (Nat.beq (kno k) 4) (ARk b λb=>BF (Nat.blt b 256) (Oo (cu b n cd 0) λi=>some (.int .i64 i 0)))
def AKz(x y:V):Option V:=x.RV λl c=>y.RV λm d=>some (.int .i64 (Bool.rec (Bool.rec (.ofNat 0) (.ofNat 1) (slt m d l c)) (.negSucc 0) (slt l c m d)) 0)
def AUW(k:List CK)(neg:Bool)(x y:X):pF:=λ_ R H=>AYR k neg (x.ev R) (y.ev R) H
def APV(x y:X):pF:=λ_ R _=>AKz (x.ev R) (y.ev R)
def AN.ev(o:AN):pF:=AN.rec (motive:=λ_=>pF)
 eMv AO3 AVy AVR AIq AUx eEq AV8 AVu AVE AOr AJd AEO AEP AIH AEI AOm AOd AUA AO1 AOt AO9 AbC APS AIy AGT AVa APM AVo AWA AUe AI2 APV AUW o
def AL1(L:LV)(n:Nat):T LV->T LV:=
 Nat.rec (motive:=λ_=>T LV->T LV) (λt=>t) (λi g t=>g (T.set t i L)) n
def Ew(LS:CJ):Nat->T LV->T LV:=
 List.rec (motive:=λ_=>Nat->T LV->T LV) (λ_ t=>t) (λL _ g i t=>g (Nat.succ i) (T.set t i L)) LS
def X8(parts:List (Nat×X)):RS->T LV->T LV:=
 List.rec (motive:=λ_=>RS->T LV->T LV) (λ_ t=>t) (λp _ g R t=>g R (T.set t p.1 (BA (p.2.ev R)))) parts
def TF(parts:List (Nat×X)):RS->Nat->Nat->Bool:=
 List.rec (motive:=λ_=>RS->Nat->Nat->Bool) (λ_ _ _=>true) (λp _ g R esz cnt=>band (band (Wi (p.2.ev R)) (band (Nat.blt p.1 cnt) (Nat.beq (len (BA (p.2.ev R))) esz))) (g R esz cnt)) parts
def V.ATU(v:V):(Nat->Prop)->Prop:=
 V.rec (motive_1:=λ_=>(Nat->Prop)->Prop) (motive_2:=λ_=>PUnit)
  (λ_=>False)
  (λ_ _ _ _=>False)
  (λ_ _=>False)
  (λ_ _ _=>False)
  (λ_=>False)
  (λa _ f=>f a)
  (λ_ _ _=>False)
  (λ_=>False)
  (λ_ _ _ _ _ _=>False)
  (λ_ _ _ _ _=>False)
  (λ_ _ _ _ _ _=>False)
  (λ_=>False)
  (λ_ _=>False)
  (λ_=>False)
  (λ_ _ _ _ _ _=>False)
  (λ_ _ _=>False)
  (λ_ _ _=>False)
  (λ_=>False)
  (λ_ _ _ _=>False)
  ⟨⟩ (λ_ _ _ _=>⟨⟩) v
def V.ABm(v:V):(Nat->Nat->Prop)->Prop:=
 V.rec (motive_1:=λ_=>(Nat->Nat->Prop)->Prop) (motive_2:=λ_=>PUnit)
  (λ_=>False)
  (λ_ _ _ _=>False)
  (λ_ _=>False)
  (λ_ _ _=>False)
  (λ_=>False)
  (λa b f=>f a b)
  (λ_ _ _=>False)
  (λ_=>False)
  (λ_ _ _ _ _ _=>False)
  (λ_ _ _ _ _=>False)
  (λ_ _ _ _ _ _=>False)
  (λ_=>False)
  (λ_ _=>False)
  (λ_=>False)
  (λ_ _ _ _ _ _=>False)
  (λ_ _ _=>False)
  (λ_ _ _=>False)
  (λ_=>False)
  (λ_ _ _ _=>False)
  ⟨⟩ (λ_ _ _ _=>⟨⟩) v
abbrev KA:=Qc->(Nat->V)->Prop
abbrev AlT:=RS->KA->Prop
def EJ(b:Bool)(p:Prop):Prop:=Bool.rec (motive:=λ_=>Prop->Prop) (λ_=>False) (λp=>p) b p
def AI1(v:V)(f:Nat->Prop):Prop:=EN (XK v λn=>some (.ptr n 0)) λv=>V.ATU v f
def Ap(esz:Nat)(es:CJ):AlT:=λ_ k=>DU (len es) λn=>k (.arr esz n (Ew es 0 .e)) λid=>.ptr id 0
def AGn(x:X):AlT:=λR k=>EJ (Wi (x.ev R)) (DU (len (BA (x.ev R))) λe=>k (.arr e 1 (T.set .e 0 (BA (x.ev R)))) λid=>.ptr id 0)
def Aj(esz cnt:Nat)(z:LV)(ps:List (Nat×X)):AlT:=λR k=>EJ (TF ps R esz cnt) (k (.arr esz cnt (X8 ps R (AL1 z cnt .e))) λid=>.sl id 0 cnt cnt esz)
def SE(esz bs:Nat)(z:LV)(l c:X):AlT:=λR k=>AI1 (l.ev R) λl=>AI1 (c.ev R) λc=>
 EJ (band (Nat.ble l c) (Nat.ble (Nat.mul bs c) 281474976710656)) (k (.arr esz c (AL1 z c .e)) λid=>.sl id 0 l c esz)
def AIK:AlT:=λ_ k=>k (.map [] 0) λid=>.map id
def Ac7(t e:Nat):AlT:=λ_ k=>k (.iZ t e 0 0 0) λid=>.ptr id 0
def AA.al(o:AA):AlT:=AA.rec (motive:=λ_=>AlT) Ap AGn Aj SE AIK Ac7 o
abbrev K:=Je->Heap->Nat->Prop
abbrev KV:=V->Heap->Nat->Prop
abbrev BD:=Nat->List V->Heap->Nat->KV->Prop
def Lm(need bytes:Nat):Bool:=Nat.ble (Nat.mul need bytes) 140737488355328
abbrev ANE:=AV->Nat->Nat->CJ->Heap->Nat->KV->Prop
def Gv(esz bs:Nat)(OS LS:CJ)(H:Heap)(n:Nat)(k:KV):Prop:=
 DU (Nat.add (len OS) (len LS)) λneed=>EJ (Lm need bs) (DU n λn=>k (.G6 n 0 need esz) (T.set H n (.arr esz need (Ew LS (len OS) (Ew OS 0 .e)))) (Nat.succ n))
def AZE:ANE:=λ_ esz bs LS H n k=>List.rec (motive:=λ_=>Prop) (k .Af H n) (λ_ _ _=>Gv esz bs [] LS H n k) LS
def YS(id off ln cap esz need:Nat)(LS:CJ)(H:Heap)(n:Nat)(k:KV)(b:Qc):Prop:=
 Qc.rec (motive:=λ_=>Prop) (λesz' cnt c=>EJ (band (Nat.beq esz esz') (Nat.ble (Nat.add off need) cnt)) (k (.sl id off need cap esz) (T.set H id (.arr esz cnt (Ew LS (Nat.add off ln) c))) n)) (λ_ _=>False) False (λ_ _ _ _ _=>False) (λ_=>False) b
def AXE(id off ln cap e:Nat):ANE:=λ_ esz bs LS H n k=>EJ (Nat.beq e esz) (DU (Nat.add ln (len LS)) λneed=>
 Bool.rec (motive:=λ_=>Prop) (EN (BZ H id esz ln off) λOS=>Gv esz bs OS LS H n k) (EN (T.get H id) λb=>YS id off ln cap esz need LS H n k b) (Nat.ble need cap))
def Yx(id off ln esz bs:Nat)(LS:CJ)(H:Heap)(n:Nat)(k:KV)(b:Qc):Prop:=
 Qc.rec (motive:=λ_=>Prop) (λesz' cnt c=>DU (Nat.add ln (len LS)) λneed=>EJ (band (Lm need bs) (band (Nat.beq esz esz') (Nat.ble (Nat.add off ln) cnt)))
  (DU n λn=>Nat.rec (motive:=λ_=>Prop)
   (k (.G6 n 0 need esz) (T.set (T.set H id .dead) n (.arr esz need (Ew LS ln c))) (Nat.succ n))
   (λ_ _=>EN (BZ H id esz ln off) λOS=>k (.G6 n 0 need esz) (T.set (T.set H id .dead) n (.arr esz need (Ew LS ln (Ew OS 0 .e)))) (Nat.succ n)) off))
  (λ_ _=>False) False (λ_ _ _ _ _=>False) (λ_=>False) b
def ATc(id off ln e:Nat):ANE:=λ_ esz bs LS H n k=>EJ (Nat.beq e esz) (List.rec (motive:=λ_=>Prop) (k (.G6 id off ln esz) H n)
 (λ_ _ _=>EN (T.get H id) λb=>Yx id off ln esz bs LS H n k b) LS)
def ASI(b off ln cap e:Nat):ANE:=λG esz bs LS H n k=>EJ (Nat.blt cap (Nat.add ln (len LS))) (EN (dM G b esz ln off) λOS=>Gv esz bs OS LS H n k)
def ZM:ANE:=λ_ _ _ _ _ _ _=>False
def AGA(v:V):ANE:=
 V.rec (motive_1:=λ_=>ANE) (motive_2:=λ_=>PUnit)
  (ZM)
  (λ_ _ _=>ZM)
  (λ_=>ZM)
  (λ_ _=>ZM)
  (ZM)
  (λ_ _=>ZM)
  (λ_ _=>ZM)
  (AZE)
  (λa b c d e=>AXE a b c d e)
  (λa b c d=>ATc a b c d)
  (λa b c d e=>ASI a b c d e)
  (ZM)
  (λ_=>ZM)
  (ZM)
  (λ_ _ _ _ _=>ZM)
  (λ_ _=>ZM)
  (λ_ _=>ZM)
  (ZM)
  (λ_ _ _=>ZM)
  ⟨⟩ (λ_ _ _ _=>⟨⟩) v
def AX4(id off esz:Nat)(LS:CJ)(H:Heap)(n:Nat)(k:KV)(b:Qc):Prop:=
 Qc.rec (motive:=λ_=>Prop) (λesz' cnt c=>EJ (band (Nat.beq esz esz') (Nat.ble (Nat.add off (len LS)) cnt)) (DU (len LS) λm=>k (.int .i64 (.ofNat m) 0) (T.set H id (.arr esz cnt (Ew LS off c))) n)) (λ_ _=>False) False (λ_ _ _ _ _=>False) (λ_=>False) b
abbrev CpT:=Nat->CJ->Heap->Nat->KV->Prop
def AFI(id off ln:Nat):CpT:=λesz LS H n k=>EN (T.get H id) λb=>AX4 id off esz (Yc ln LS) H n k b
def AKY(v:V):(Nat)->(CJ)->(Heap)->(Nat)->(KV)->Prop:=
 V.rec (motive_1:=λ_=>(Nat)->(CJ)->(Heap)->(Nat)->(KV)->Prop) (motive_2:=λ_=>PUnit)
  (λ_ _ _ _ _=>False)
  (λ_ _ _ _ _ _ _ _=>False)
  (λ_ _ _ _ _ _=>False)
  (λ_ _ _ _ _ _ _=>False)
  (λ_ _ _ _ _=>False)
  (λ_ _ _ _ _ _ _=>False)
  (λ_ _ _ _ _ _ _=>False)
  (λ_ _ H n k=>k (.int .i64 (.ofNat 0) 0) H n)
  (λa b c _ e z L H n k=>EJ (Nat.beq e z) (AFI a b c z L H n k))
  (λa b c d z L H n k=>EJ (Nat.beq d z) (AFI a b c z L H n k))
  (λ_ _ _ _ _ _ _ _ _ _=>False)
  (λ_ _ _ _ _=>False)
  (λ_ _ _ _ _ _=>False)
  (λ_ _ _ _ _=>False)
  (λ_ _ _ _ _ _ _ _ _ _=>False)
  (λ_ _ _ _ _ _ _=>False)
  (λ_ _ _ _ _ _ _=>False)
  (λ_ _ _ _ _=>False)
  (λ_ _ _ _ _ _ _ _=>False)
  ⟨⟩ (λ_ _ _ _=>⟨⟩) v
def AF3{α:Type}(l:List α):Nat->List α:=
 List.rec (motive:=λ_=>Nat->List α) (λ_=>[]) (λy ys g i=>Nat.rec (motive:=λ_=>List α) ys (λi _=>y::g i) i) l
def AWy(b:Qc):(ME->Nat->Option Qc)->Option Qc:=Qc.rec (motive:=λ_=>(ME->Nat->Option Qc)->Option Qc) (λ_ _ _ _=>none) (λes c f=>f es c) (λ_=>none) (λ_ _ _ _ _ _=>none) (λ_ _=>none) b
def AaN(H:Heap)(id:Nat)(f:ME->Nat->Option Qc)(g:Heap->Prop):Prop:=EN (T.get H id) λb=>EN (AWy b f) λb=>g (T.set H id b)
def AGx(v:V):(Heap)->(ME->Nat->Option Qc)->(Heap->Prop)->Prop:=
 V.rec (motive_1:=λ_=>(Heap)->(ME->Nat->Option Qc)->(Heap->Prop)->Prop) (motive_2:=λ_=>PUnit)
  (λ_ _ _=>False)
  (λ_ _ _ _ _ _=>False)
  (λ_ _ _ _=>False)
  (λ_ _ _ _ _=>False)
  (λ_ _ _=>False)
  (λ_ _ _ _ _=>False)
  (λ_ _ _ _ _=>False)
  (λ_ _ _=>False)
  (λ_ _ _ _ _ _ _ _=>False)
  (λ_ _ _ _ _ _ _=>False)
  (λ_ _ _ _ _ _ _ _=>False)
  (λ_ _ _=>False)
  (λa H f g=>AaN H a f g)
  (λ_ _ _=>False)
  (λ_ _ _ _ _ _ _ _=>False)
  (λ_ _ _ _ _=>False)
  (λ_ _ _ _ _=>False)
  (λ_ _ _=>False)
  (λ_ _ _ _ _ _=>False)
  ⟨⟩ (λ_ _ _ _=>⟨⟩) v
def V.WB(v:V):(Nat->LV->LV->Prop)->Prop:=
 V.rec (motive_1:=λ_=>(Nat->LV->LV->Prop)->Prop) (motive_2:=λ_=>PUnit)
  (λ_=>False)
  (λ_ _ _ _=>False)
  (λ_ _=>False)
  (λ_ _ _=>False)
  (λ_=>False)
  (λ_ _ _=>False)
  (λ_ _ _=>False)
  (λ_=>False)
  (λ_ _ _ _ _ _=>False)
  (λ_ _ _ _ _=>False)
  (λ_ _ _ _ _ _=>False)
  (λ_=>False)
  (λ_ _=>False)
  (λ_=>False)
  (λa b c _ _ f=>f a b c)
  (λ_ _ _=>False)
  (λ_ _ _=>False)
  (λ_=>False)
  (λ_ _ _ _=>False)
  ⟨⟩ (λ_ _ _ _=>⟨⟩) v
def xC(v:V):LV:=
 V.rec (motive_1:=λ_=>LV) (motive_2:=λ_=>PUnit)
  ([])
  (λ_ _ _=>[])
  (λ_=>[])
  (λ_ _=>[])
  ([])
  (λ_ _=>[])
  (λ_ _=>[])
  ([])
  (λ_ _ _ _ _=>[])
  (λ_ _ _ _=>[])
  (λ_ _ _ _ _=>[])
  ([])
  (λ_=>[])
  ([])
  (λ_ _ _ _ _=>[])
  (λ_ _=>[])
  (λa _=>a)
  ([])
  (λ_ _ _=>[])
  ⟨⟩ (λ_ _ _ _=>⟨⟩) v
abbrev ExT:=AV->BD->RS->Heap->Nat->KV->Prop
def AcT(x:X):ExT:=λ_ _ R H n k=>k (x.ev R) H n
def xSt(sz:Nat)(x v:X):ExT:=λ_ _ R H n k=>EJ (band (Wi (v.ev R)) (Nat.beq (len (BA (v.ev R))) sz)) (EN (stP (x.ev R) H sz (BA (v.ev R))) λH=>k .undef H n)
def AdD(esz bs:Nat)(x y:X):ExT:=λG _ R H n k=>EN (elems (y.ev R) G H esz) λLS=>AGA (x.ev R) G esz bs LS H n k
def Aai(esz:Nat)(x y:X):ExT:=λG _ R H n k=>EN (elems (y.ev R) G H esz) λLS=>AKY (x.ev R) esz LS H n k
def ANV(ck:CK)(key v:V)(es:ME)(c:Nat):Option Qc:=Bl (sO ck key es 0) λr=>
 Option.rec (motive:=λ_=>Option Qc) (some (.map (cat es [(key,v,c)]) (Nat.succ c))) (λp=>Bl (nth es p.1) λe=>some (.map (jQ (e.1,v,e.2.2) es p.1) c)) r
def AYS(ck:CK)(key:V)(es:ME)(c:Nat):Option Qc:=Bl (sO ck key es 0) λr=>
 Option.rec (motive:=λ_=>Option Qc) (some (.map es c)) (λp=>some (.map (AF3 es p.1) c)) r
def Acd(c:CK)(m key v:X):ExT:=λ_ _ R H n k=>AGx (m.ev R) H (ANV c (key.ev R) (v.ev R)) λH=>k .undef H n
def AdQ(c:CK)(m key:X):ExT:=λ_ _ R H n k=>AGx (m.ev R) H (AYS c (key.ev R)) λH=>k (.EI []) H n
def AcW(m:X):ExT:=λ_ _ R H n k=>AGx (m.ev R) H (λ_ c=>some (.map [] c)) λH=>k (.EI []) H n
def Abl(f:Nat)(args:List X):ExT:=λ_ call R H n k=>call f (eP args R) H n k
def AZC(x:X)(args:List X):ExT:=λ_ call R H n k=>V.WB (x.ev R) λf a c=>call f (cat a (cat (eP args R) c)) H n k
def AXp(dp:P2)(x:X)(args:List X):ExT:=λ_ _ R H n k=>V.WB (x.ev R) λf a c=>k (.EI (.fn f (cat a (eP args R)) c::xC (Nh (T.ED dp R.rg)))) H n
def AdU(x:X):ExT:=λ_ _ R H n k=>EN ((x.ev R).RV λl c=>some (.ptr l c)) λv=>V.ABm v λl c=>
 DU n λn=>k (.G6 n 0 l 1) (T.set H n (.arr 1 l (Ew (TV l c) 0 .e))) (Nat.succ n)
def AE.ex(o:AE):ExT:=AE.rec (motive:=λ_=>ExT) AcT xSt AdD Aai Acd AdQ AcW Abl AZC AXp AdU o
def Ac4(p:P2)(v:V)(E:RS):RS:=RS.rec (motive:=λ_=>P2->V->RS) (λL R p v=>.mk L (T.aG v p R)) E p v
def AaR(v:V)(E:RS):RS:=RS.rec (motive:=λ_=>V->RS) (λL R v=>.mk (v::L) R) E v
def GR(d:sW)(v:V):RS->RS:=sW.rec (motive:=λ_=>V->RS->RS) (λ_ R=>R) Ac4 AaR d v
abbrev KE:=RS->Heap->Nat->Prop
abbrev XoT:=AV->BD->sW->RS->Heap->Nat->KE->Prop
def oN(o:AN):XoT:=λG _ d R H n k=>AP (o.ev G R H) λv=>k (GR d v R) H n
def oA(o:AA):XoT:=λ_ _ d R H n k=>o.al R λb f=>DU n λn=>k (GR d (f n) R) (T.set H n b) (Nat.succ n)
def oE(o:AE):XoT:=λG call d R H n k=>o.ex G call R H n λv H n=>k (GR d v R) H n
def AO.ex(o:AO):XoT:=AO.rec (motive:=λ_=>XoT) oN oA oE o
def Ac(v:V)(b:Bool)(yes no:Prop):Prop:=v.AIt λt=>Bool.rec (motive:=λ_=>Prop->Prop->Prop) (λ_ n=>n) (λy _=>y) (ATP t b) yes no
def nM(v:V):(Bool)->(Prop)->(Prop)->Prop:=
 V.rec (motive_1:=λ_=>(Bool)->(Prop)->(Prop)->Prop) (motive_2:=λ_=>PUnit)
  (λ_ _ _=>False)
  (λ_ _ _ _ _ _=>False)
  (λa b' yes no=>Bool.rec (motive:=λ_=>Prop->Prop->Prop) (λ_ n=>n) (λy _=>y) (ATP a b') yes no)
  (λ_ _ _ _ _=>False)
  (λ_ _ _=>False)
  (λ_ _ _ _ _=>False)
  (λ_ _ _ _ _=>False)
  (λ_ _ _=>False)
  (λ_ _ _ _ _ _ _ _=>False)
  (λ_ _ _ _ _ _ _=>False)
  (λ_ _ _ _ _ _ _ _=>False)
  (λ_ _ _=>False)
  (λ_ _ _ _=>False)
  (λ_ _ _=>False)
  (λ_ _ _ _ _ _ _ _=>False)
  (λ_ _ _ _ _=>False)
  (λa _ _ _ no=>List.rec (motive:=λ_=>Prop) no (λ_ _ _=>False) a)
  (λ_ _ _=>False)
  (λ_ _ _ _ _ _=>False)
  ⟨⟩ (λ_ _ _ _=>⟨⟩) v
abbrev XpT:=AV->BD->RS->Heap->Nat->KE->Prop
def gNo(d:sW)(o:AO):XpT:=λG call R H n k=>o.ex G call d R H n k
def gOn(x:X)(b:Bool)(d:sW)(o:AO):XpT:=λG call R H n k=>nM (x.ev R) b (o.ex G call d R H n k) (k (GR d (.EI []) R) H n)
def AOp.ex(o:AOp):XpT:=AOp.rec (motive:=λ_=>XpT) (λd g o=>Gd.rec (motive:=λ_=>sW->AO->XpT) gNo gOn g d o) o
def ALV(v:V):(IntKind)->(Int)->(Nat)->Bool:=
 V.rec (motive_1:=λ_=>(IntKind)->(Int)->(Nat)->Bool) (motive_2:=λ_=>PUnit)
  (λ_ _ _=>false)
  (λa b c k n s=>band (keq k a) (band (ieq n b) (band (Nat.beq s 0) (Nat.beq c 0))))
  (λ_ _ _ _=>false)
  (λ_ _ _ _ _=>false)
  (λ_ _ _=>false)
  (λ_ _ _ _ _=>false)
  (λ_ _ _ _ _=>false)
  (λ_ _ _=>false)
  (λ_ _ _ _ _ _ _ _=>false)
  (λ_ _ _ _ _ _ _=>false)
  (λ_ _ _ _ _ _ _ _=>false)
  (λ_ _ _=>false)
  (λ_ _ _ _=>false)
  (λ_ _ _=>false)
  (λ_ _ _ _ _ _ _ _=>false)
  (λ_ _ _ _ _=>false)
  (λ_ _ _ _ _=>false)
  (λ_ _ _=>false)
  (λ_ _ _ _ _ _=>false)
  ⟨⟩ (λ_ _ _ _=>⟨⟩) v
def AF1(v:V):(Bool)->Bool:=
 V.rec (motive_1:=λ_=>(Bool)->Bool) (motive_2:=λ_=>PUnit)
  (λ_=>false)
  (λ_ _ _ _=>false)
  (λa x=>ATP x a)
  (λ_ _ _=>false)
  (λ_=>false)
  (λ_ _ _=>false)
  (λ_ _ _=>false)
  (λ_=>false)
  (λ_ _ _ _ _ _=>false)
  (λ_ _ _ _ _=>false)
  (λ_ _ _ _ _ _=>false)
  (λ_=>false)
  (λ_ _=>false)
  (λ_=>false)
  (λ_ _ _ _ _ _=>false)
  (λ_ _ _=>false)
  (λ_ _ _=>false)
  (λ_=>false)
  (λ_ _ _ _=>false)
  ⟨⟩ (λ_ _ _ _=>⟨⟩) v
def AKu(v:V):(Nat)->(Nat)->Bool:=
 V.rec (motive_1:=λ_=>(Nat)->(Nat)->Bool) (motive_2:=λ_=>PUnit)
  (λ_ _=>false)
  (λ_ _ _ _ _=>false)
  (λ_ _ _=>false)
  (λa b l m=>band (Nat.beq l a) (Nat.beq m b))
  (λ_ _=>false)
  (λ_ _ _ _=>false)
  (λ_ _ _ _=>false)
  (λ_ _=>false)
  (λ_ _ _ _ _ _ _=>false)
  (λ_ _ _ _ _ _=>false)
  (λ_ _ _ _ _ _ _=>false)
  (λ_ _=>false)
  (λ_ _ _=>false)
  (λ_ _=>false)
  (λ_ _ _ _ _ _ _=>false)
  (λ_ _ _ _=>false)
  (λ_ _ _ _=>false)
  (λ_ _=>false)
  (λ_ _ _ _ _=>false)
  ⟨⟩ (λ_ _ _ _=>⟨⟩) v
def AIr(v:V):Bool:=
 V.rec (motive_1:=λ_=>Bool) (motive_2:=λ_=>PUnit)
  (false)
  (λ_ _ _=>false)
  (λ_=>false)
  (λ_ _=>false)
  (true)
  (λ_ _=>false)
  (λ_ _=>false)
  (false)
  (λ_ _ _ _ _=>false)
  (λ_ _ _ _=>false)
  (λ_ _ _ _ _=>false)
  (false)
  (λ_=>false)
  (false)
  (λ_ _ _ _ _=>false)
  (λ_ _=>false)
  (λ_ _=>false)
  (false)
  (λ_ _ _=>false)
  ⟨⟩ (λ_ _ _ _=>⟨⟩) v
def AJU(v:V):Bool:=
 V.rec (motive_1:=λ_=>Bool) (motive_2:=λ_=>PUnit)
  (false)
  (λ_ _ _=>false)
  (λ_=>false)
  (λ_ _=>false)
  (false)
  (λ_ _=>false)
  (λ_ _=>false)
  (true)
  (λ_ _ _ _ _=>false)
  (λ_ _ _ _=>false)
  (λ_ _ _ _ _=>false)
  (false)
  (λ_=>false)
  (false)
  (λ_ _ _ _ _=>false)
  (λ_ _=>false)
  (λ_ _=>false)
  (false)
  (λ_ _ _=>false)
  ⟨⟩ (λ_ _ _ _=>⟨⟩) v
def AJW(v:V):Bool:=
 V.rec (motive_1:=λ_=>Bool) (motive_2:=λ_=>PUnit)
  (false)
  (λ_ _ _=>false)
  (λ_=>false)
  (λ_ _=>false)
  (false)
  (λ_ _=>false)
  (λ_ _=>false)
  (false)
  (λ_ _ _ _ _=>false)
  (λ_ _ _ _=>false)
  (λ_ _ _ _ _=>false)
  (true)
  (λ_=>false)
  (false)
  (λ_ _ _ _ _=>false)
  (λ_ _=>false)
  (λ_ _=>false)
  (false)
  (λ_ _ _=>false)
  ⟨⟩ (λ_ _ _ _=>⟨⟩) v
def AIZ(v:V):Bool:=
 V.rec (motive_1:=λ_=>Bool) (motive_2:=λ_=>PUnit)
  (false)
  (λ_ _ _=>false)
  (λ_=>false)
  (λ_ _=>false)
  (false)
  (λ_ _=>false)
  (λ_ _=>false)
  (false)
  (λ_ _ _ _ _=>false)
  (λ_ _ _ _=>false)
  (λ_ _ _ _ _=>false)
  (false)
  (λ_=>false)
  (true)
  (λ_ _ _ _ _=>false)
  (λ_ _=>false)
  (λ_ _=>false)
  (false)
  (λ_ _ _=>false)
  ⟨⟩ (λ_ _ _ _=>⟨⟩) v
def ATN(v:V):(Nat)->(Nat)->Bool:=
 V.rec (motive_1:=λ_=>(Nat)->(Nat)->Bool) (motive_2:=λ_=>PUnit)
  (λ_ _=>false)
  (λ_ _ _ _ _=>false)
  (λ_ _ _=>false)
  (λ_ _ _ _=>false)
  (λ_ _=>false)
  (λa b l m=>band (Nat.beq l a) (Nat.beq m b))
  (λ_ _ _ _=>false)
  (λ_ _=>false)
  (λ_ _ _ _ _ _ _=>false)
  (λ_ _ _ _ _ _=>false)
  (λ_ _ _ _ _ _ _=>false)
  (λ_ _=>false)
  (λ_ _ _=>false)
  (λ_ _=>false)
  (λ_ _ _ _ _ _ _=>false)
  (λ_ _ _ _=>false)
  (λ_ _ _ _=>false)
  (λ_ _=>false)
  (λ_ _ _ _ _=>false)
  ⟨⟩ (λ_ _ _ _=>⟨⟩) v
def AMj(v:V):(Nat)->(Nat)->Bool:=
 V.rec (motive_1:=λ_=>(Nat)->(Nat)->Bool) (motive_2:=λ_=>PUnit)
  (λ_ _=>false)
  (λ_ _ _ _ _=>false)
  (λ_ _ _=>false)
  (λ_ _ _ _=>false)
  (λ_ _=>false)
  (λ_ _ _ _=>false)
  (λa b l m=>band (Nat.beq l a) (Nat.beq m b))
  (λ_ _=>false)
  (λ_ _ _ _ _ _ _=>false)
  (λ_ _ _ _ _ _=>false)
  (λ_ _ _ _ _ _ _=>false)
  (λ_ _=>false)
  (λ_ _ _=>false)
  (λ_ _=>false)
  (λ_ _ _ _ _ _ _=>false)
  (λ_ _ _ _=>false)
  (λ_ _ _ _=>false)
  (λ_ _=>false)
  (λ_ _ _ _ _=>false)
  ⟨⟩ (λ_ _ _ _=>⟨⟩) v
def ARc(v:V):(Nat)->Bool:=
 V.rec (motive_1:=λ_=>(Nat)->Bool) (motive_2:=λ_=>PUnit)
  (λ_=>false)
  (λ_ _ _ _=>false)
  (λ_ _=>false)
  (λ_ _ _=>false)
  (λ_=>false)
  (λ_ _ _=>false)
  (λ_ _ _=>false)
  (λ_=>false)
  (λ_ _ _ _ _ _=>false)
  (λ_ _ _ _ _=>false)
  (λ_ _ _ _ _ _=>false)
  (λ_=>false)
  (λa l=>Nat.beq l a)
  (λ_=>false)
  (λ_ _ _ _ _ _=>false)
  (λ_ _ _=>false)
  (λ_ _ _=>false)
  (λ_=>false)
  (λ_ _ _ _=>false)
  ⟨⟩ (λ_ _ _ _=>⟨⟩) v
def APl(v:V):(Nat)->(Nat)->(Nat)->(Nat)->(Nat)->Bool:=
 V.rec (motive_1:=λ_=>(Nat)->(Nat)->(Nat)->(Nat)->(Nat)->Bool) (motive_2:=λ_=>PUnit)
  (λ_ _ _ _ _=>false)
  (λ_ _ _ _ _ _ _ _=>false)
  (λ_ _ _ _ _ _=>false)
  (λ_ _ _ _ _ _ _=>false)
  (λ_ _ _ _ _=>false)
  (λ_ _ _ _ _ _ _=>false)
  (λ_ _ _ _ _ _ _=>false)
  (λ_ _ _ _ _=>false)
  (λa b c d e i j k l m=>band (Nat.beq i a) (band (Nat.beq j b) (band (Nat.beq k c) (band (Nat.beq l d) (Nat.beq m e)))))
  (λ_ _ _ _ _ _ _ _ _=>false)
  (λ_ _ _ _ _ _ _ _ _ _=>false)
  (λ_ _ _ _ _=>false)
  (λ_ _ _ _ _ _=>false)
  (λ_ _ _ _ _=>false)
  (λ_ _ _ _ _ _ _ _ _ _=>false)
  (λ_ _ _ _ _ _ _=>false)
  (λ_ _ _ _ _ _ _=>false)
  (λ_ _ _ _ _=>false)
  (λ_ _ _ _ _ _ _ _=>false)
  ⟨⟩ (λ_ _ _ _=>⟨⟩) v
def AFr(v:V):(Nat)->(Nat)->(Nat)->(Nat)->Bool:=
 V.rec (motive_1:=λ_=>(Nat)->(Nat)->(Nat)->(Nat)->Bool) (motive_2:=λ_=>PUnit)
  (λ_ _ _ _=>false)
  (λ_ _ _ _ _ _ _=>false)
  (λ_ _ _ _ _=>false)
  (λ_ _ _ _ _ _=>false)
  (λ_ _ _ _=>false)
  (λ_ _ _ _ _ _=>false)
  (λ_ _ _ _ _ _=>false)
  (λ_ _ _ _=>false)
  (λ_ _ _ _ _ _ _ _ _=>false)
  (λa b c d i j k l=>band (Nat.beq i a) (band (Nat.beq j b) (band (Nat.beq k c) (Nat.beq l d))))
  (λ_ _ _ _ _ _ _ _ _=>false)
  (λ_ _ _ _=>false)
  (λ_ _ _ _ _=>false)
  (λ_ _ _ _=>false)
  (λ_ _ _ _ _ _ _ _ _=>false)
  (λ_ _ _ _ _ _=>false)
  (λ_ _ _ _ _ _=>false)
  (λ_ _ _ _=>false)
  (λ_ _ _ _ _ _ _=>false)
  ⟨⟩ (λ_ _ _ _=>⟨⟩) v
def AO5(v:V):(Nat)->(Nat)->(Nat)->(Nat)->(Nat)->Bool:=
 V.rec (motive_1:=λ_=>(Nat)->(Nat)->(Nat)->(Nat)->(Nat)->Bool) (motive_2:=λ_=>PUnit)
  (λ_ _ _ _ _=>false)
  (λ_ _ _ _ _ _ _ _=>false)
  (λ_ _ _ _ _ _=>false)
  (λ_ _ _ _ _ _ _=>false)
  (λ_ _ _ _ _=>false)
  (λ_ _ _ _ _ _ _=>false)
  (λ_ _ _ _ _ _ _=>false)
  (λ_ _ _ _ _=>false)
  (λ_ _ _ _ _ _ _ _ _ _=>false)
  (λ_ _ _ _ _ _ _ _ _=>false)
  (λa b c d e i j k l m=>band (Nat.beq i a) (band (Nat.beq j b) (band (Nat.beq k c) (band (Nat.beq l d) (Nat.beq m e)))))
  (λ_ _ _ _ _=>false)
  (λ_ _ _ _ _ _=>false)
  (λ_ _ _ _ _=>false)
  (λ_ _ _ _ _ _ _ _ _ _=>false)
  (λ_ _ _ _ _ _ _=>false)
  (λ_ _ _ _ _ _ _=>false)
  (λ_ _ _ _ _=>false)
  (λ_ _ _ _ _ _ _ _=>false)
  ⟨⟩ (λ_ _ _ _=>⟨⟩) v
def EU(v:V):(V)->Bool:=
 V.rec (motive_1:=λ_=>(V)->Bool) (motive_2:=λ_=>PUnit)
  (λ_=>false)
  (λa b c y=>ALV y a b c)
  (λa y=>AF1 y a)
  (λa b y=>AKu y a b)
  (λy=>AIr y)
  (λa b y=>ATN y a b)
  (λa b y=>AMj y a b)
  (λy=>AJU y)
  (λa b c d e y=>APl y a b c d e)
  (λa b c d y=>AFr y a b c d)
  (λa b c d e y=>AO5 y a b c d e)
  (λy=>AJW y)
  (λa y=>ARc y a)
  (λy=>AIZ y)
  (λ_ _ _ _ _ _=>false)
  (λ_ _ _=>false)
  (λ_ _ _=>false)
  (λ_=>false)
  (λ_ _ _ _=>false)
  ⟨⟩ (λ_ _ _ _=>⟨⟩) v
def uD(a:List V):List V->Bool:=
 List.rec (motive:=λ_=>List V->Bool) (λb=>List.rec (motive:=λ_=>Bool) true (λ_ _ _=>false) b)
  (λx _ g b=>List.rec (motive:=λ_=>Bool) false (λy ys _=>band (EU x y) (g ys)) b) a
def AWo(v:V):(LV)->Bool:=
 V.rec (motive_1:=λ_=>(LV)->Bool) (motive_2:=λ_=>PUnit)
  (λ_=>false)
  (λ_ _ _ _=>false)
  (λ_ _=>false)
  (λ_ _ _=>false)
  (λ_=>false)
  (λ_ _ _=>false)
  (λ_ _ _=>false)
  (λ_=>false)
  (λ_ _ _ _ _ _=>false)
  (λ_ _ _ _ _=>false)
  (λ_ _ _ _ _ _=>false)
  (λ_=>false)
  (λ_ _=>false)
  (λ_=>false)
  (λ_ _ _ _ _ _=>false)
  (λa _ l=>uD l a)
  (λ_ _ _=>false)
  (λ_=>false)
  (λ_ _ _ _=>false)
  ⟨⟩ (λ_ _ _ _=>⟨⟩) v
def AWn(v:V):(LV)->Bool:=
 V.rec (motive_1:=λ_=>(LV)->Bool) (motive_2:=λ_=>PUnit)
  (λ_=>false)
  (λ_ _ _ _=>false)
  (λ_ _=>false)
  (λ_ _ _=>false)
  (λ_=>false)
  (λ_ _ _=>false)
  (λ_ _ _=>false)
  (λ_=>false)
  (λ_ _ _ _ _ _=>false)
  (λ_ _ _ _ _=>false)
  (λ_ _ _ _ _ _=>false)
  (λ_=>false)
  (λ_ _=>false)
  (λ_=>false)
  (λ_ _ _ _ _ _=>false)
  (λ_ _ _=>false)
  (λa _ l=>uD l a)
  (λ_=>false)
  (λ_ _ _ _=>false)
  ⟨⟩ (λ_ _ _ _=>⟨⟩) v
def AKi(v:V):Bool:=
 V.rec (motive_1:=λ_=>Bool) (motive_2:=λ_=>PUnit)
  (true)
  (λ_ _ _=>false)
  (λ_=>false)
  (λ_ _=>false)
  (false)
  (λ_ _=>false)
  (λ_ _=>false)
  (false)
  (λ_ _ _ _ _=>false)
  (λ_ _ _ _=>false)
  (λ_ _ _ _ _=>false)
  (false)
  (λ_=>false)
  (false)
  (λ_ _ _ _ _=>false)
  (λ_ _=>false)
  (λ_ _=>false)
  (false)
  (λ_ _ _=>false)
  ⟨⟩ (λ_ _ _ _=>⟨⟩) v
def BH(v:V):(V)->Bool:=
 V.rec (motive_1:=λ_=>(V)->Bool) (motive_2:=λ_=>PUnit)
  (λy=>AKi y)
  (λa b c y=>ALV y a b c)
  (λa y=>AF1 y a)
  (λa b y=>AKu y a b)
  (λy=>AIr y)
  (λa b y=>ATN y a b)
  (λa b y=>AMj y a b)
  (λy=>AJU y)
  (λa b c d e y=>APl y a b c d e)
  (λa b c d y=>AFr y a b c d)
  (λa b c d e y=>AO5 y a b c d e)
  (λy=>AJW y)
  (λa y=>ARc y a)
  (λy=>AIZ y)
  (λ_ _ _ _ _ _=>false)
  (λa _ y=>AWo y a)
  (λa _ y=>AWn y a)
  (λ_=>false)
  (λ_ _ _ _=>false)
  ⟨⟩ (λ_ _ _ _=>⟨⟩) v
inductive AI where
 |op (o:AOp)
 |re (d:P2) (g:Gd) (o:AN)
inductive AC where
 |skip
 |ops (l:List AOp)
 |reg (l:List AI)
 |seq (a b:AC)
 |cond (x:X) (a b:AC)
 |block (id:Nat) (c:AC)
 |loop (c:AC)
 |exit (id:Nat)
 |ret
def Qi(l:List AOp):XpT:=
 List.rec (motive:=λ_=>XpT) (λ_ _ R H n k=>k R H n) (λo _ g G call R H n k=>o.ex G call R H n λR H n=>g G call R H n k) l
abbrev ReT:=AV->RS->Heap->P2->AN->Prop->Prop
def Aba:ReT:=λG R H d o k=>AP (o.ev G R H) λv=>EJ (BH v (Nh (T.ED d R.rg))) k
def Ack(x:X)(b:Bool):ReT:=λG R H d o k=>nM (x.ev R) b (AP (o.ev G R H) λv=>EJ (BH v (Nh (T.ED d R.rg))) k) k
def AY1(g:Gd):ReT:=Gd.rec (motive:=λ_=>ReT) Aba Ack g
def AI.ex(i:AI):XpT:=AI.rec (motive:=λ_=>XpT) (λo=>o.ex) (λd g o G _ R H n k=>AY1 g G R H d o (k R H n)) i
def CU(l:List AI):XpT:=
 List.rec (motive:=λ_=>XpT) (λ_ _ R H n k=>k R H n) (λi _ g G call R H n k=>i.ex G call R H n λR H n=>g G call R H n k) l
abbrev KX:=Nat->K
abbrev M:=AV->BD->Nat->Je->Heap->Nat->K->KX->K->Prop
def DJ:M:=λ_ _ _ R H n k _ _=>k R H n
def AT7(l:List AOp):M:=λG call _ R H n k _ _=>Qi l G call (.mk [] R) H n λE H n=>k E.rg H n
def AUG(l:List AI):M:=λG call _ R H n k _ _=>CU l G call (.mk [] R) H n λE H n=>k E.rg H n
def ARm(_ _:AC)(a b:M):M:=λG call lf R H n k x r=>a G call lf R H n (λR H n=>b G call lf R H n k x r) x r
def AKo(c:X)(_ _:AC)(a b:M):M:=λG call lf R H n k x r=>Ac (c.ev (.mk [] R)) true (a G call lf R H n k x r) (b G call lf R H n k x r)
def IQ(id:Nat)(k:K)(x:KX):KX:=λi R H n=>Bool.rec (motive:=λ_=>Prop->Prop->Prop) (λa _=>a) (λ_ b=>b) (Nat.beq i id) (x i R H n) (k R H n)
def AFw(id:Nat)(_:AC)(a:M):M:=λG call lf R H n k x r=>a G call lf R H n k (IQ id k x) r
def Xa(a:M)(G:AV)(call:BD)(lf0 lf:Nat):Je->Heap->Nat->KX->K->Prop:=
 Nat.rec (motive:=λ_=>Je->Heap->Nat->KX->K->Prop) (λ_ _ _ _ _=>False) (λ_ g R H n x r=>a G call lf0 R H n (λR H n=>g R H n x r) x r) lf
def AbO(_:AC)(a:M):M:=λG call lf R H n _ x r=>Xa a G call lf lf R H n x r
def AQx(id:Nat):M:=λ_ _ _ R H n _ x _=>x id R H n
def AYC:M:=λ_ _ _ R H n _ _ r=>r R H n
def AC.ex(c:AC):M:=AC.rec (motive:=λ_=>M) DJ AT7 AUG ARm AKo AFw AbO AQx AYC c
inductive AR where
 |tmp (p:P2)|cell1 (p:P2)|celln (p:P2) (n:Nat)
inductive Nk where
 |join|rep|wstr (t e:Nat)|bstr (t e:Nat)
inductive AF where
 |mk (np:Nat) (code:AC) (res:List AR) (dp:sW) (dg:Nat)
 |nat (k:Nk)
def AR.get(r:AR):AV->Je->Heap->Option V:=
 AR.rec (motive:=λ_=>AV->Je->Heap->Option V) (λp _ R _=>some (Nh (T.ED p R))) (λp G R H=>PY (ldP (Nh (T.ED p R)) G H 1) λL=>nth L 0)
  (λp n G R H=>PY (ldP (Nh (T.ED p R)) G H n) λL=>some (.agg L)) r
def ADa(l:List AR):AV->Je->Heap->Option LV:=
 List.rec (motive:=λ_=>AV->Je->Heap->Option LV) (λ_ _ _=>some []) (λr _ g G R H=>Bl (r.get G R H) λv=>Bl (g G R H) λvs=>some (v::vs)) l
def EG(l:List V):V:=List.rec (motive:=λ_=>V) (V.EI []) (λv vs _=>List.rec (motive:=λ_=>V) v (λw ws _=>V.EI (v::w::ws)) vs) l
def eU(args:List V):Nat->Je->Je:=
 List.rec (motive:=λ_=>Nat->Je->Je) (λ_ R=>R) (λv _ g i R=>g (Nat.succ i) (T.set R i v)) args
def Oe(dg:Nat)(l:List V):BD->Heap->Nat->(Heap->Nat->Prop)->Prop:=
 List.rec (motive:=λ_=>BD->Heap->Nat->(Heap->Nat->Prop)->Prop) (λ_ H n k=>k H n)
  (λv _ g call H n k=>V.WB v λf a c=>EJ (Nat.beq f dg) (call f (cat a c) H n λ_ H n=>g call H n k)) l
def AGr(res:List AR)(G:AV)(k:KV):K:=λR H n=>EN (ADa res G R H) λl=>k (EG l) H n
def Jq(res:List AR)(dg:Nat)(d:sW):AV->BD->KV->K:=
 sW.rec (motive:=λ_=>AV->BD->KV->K) (λG _ k=>AGr res G k) (λp G call k R H n=>Oe dg (xC (Nh (T.ED p R))) call H n λH n=>AGr res G k R H n) (λG _ k=>AGr res G k) d
def ARi(p q:Nat×Nat):Nat×Nat:=(p.1+q.1,p.2+256^p.1*q.2)
def AWR:CJ->Option (List (Nat×Nat))
 |[]=>some []
 |[.str l c]::r=>match AWR r with|some x=>some ((l,c)::x)|none=>none
 |_::_=>none
def ATO(s:Nat×Nat):List (Nat×Nat)->Nat×Nat
 |[]=>(0,0)
 |a::r=>r.foldl (λp q=>ARi (ARi p s) q) a
def AY8(s:Nat×Nat):Nat->Nat×Nat
 |0=>(0,0)
 |n+1=>ARi s (AY8 s n)
def AVG:Nat:=140737488355328
def APO(x y:V)(G:AV)(H:Heap)(n:Nat)(k:KV):Prop:=
 match y with
 |.str sl sc=>EJ (QD (isStr x)) <| EN (elems x G H 1) λLS=>EN (AWR LS) λss=>EJ (decide (ss.length<=AVG/\(ATO (sl,sc) ss).1<=AVG)) (k (.str (ATO (sl,sc) ss).1 (ATO (sl,sc) ss).2) H n)
 |_=>False
def ASj(x y:V)(H:Heap)(n:Nat)(k:KV):Prop:=
 match x,y with
 |.str l c,.int .i64 (.ofNat m) _=>EJ (decide (m<=9223372036854775807/\l*m<=AVG)) (k (.str (AY8 (l,c) m).1 (AY8 (l,c) m).2) H n)
 |_,_=>False
def AO7(t e:Nat)(x y:V)(H:Heap)(n:Nat)(k:KV):Prop:=
 match x,y with
 |.ptr id 0,.str m d=>(match T.get H id with
  |some (.iZ t' e' l c j)=>EJ (decide (t'=t/\e'=e/\l+m<=AVG)) (k (.EI [.int .i64 (.ofNat m) 0,.ARH]) (T.set (T.set (bif decide (l=0)then H else T.set H j .dead) n (.own id)) id (.iZ t e (ARi (l,c) (m,d)).1 (ARi (l,c) (m,d)).2 n)) (n+1))
  |_=>False)
 |_,_=>False
def AOe(t e:Nat)(x:V)(H:Heap)(n:Nat)(k:KV):Prop:=
 match x with
 |.ptr id 0=>(match T.get H id with
  |some (.iZ t' e' l c _)=>EJ (decide (t'=t/\e'=e)) (k (.str l c) (T.set H id .dead) n)
  |_=>False)
 |_=>False
def AAF(f:Nk)(G:AV)(args:List V)(H:Heap)(n:Nat)(k:KV):Prop:=
 match f,args with
 |.join,[x,y]=>APO x y G H n k
 |.rep,[x,y]=>ASj x y H n k
 |.wstr t e,[x,y]=>AO7 t e x y H n k
 |.bstr t e,[x]=>AOe t e x H n k
 |_,_=>False
def noX:KX:=λ_ _ _ _=>False
def lQ(f:AF):AV->BD->Nat->List V->Heap->Nat->KV->Prop:=
 AF.rec (motive:=λ_=>AV->BD->Nat->List V->Heap->Nat->KV->Prop) (λnp code res d dg G call lf args H n k=>EJ (Nat.beq (len args) np) (code.ex G call lf (eU args 0 .e) H n (Jq res dg d G call k) noX (Jq res dg d G call k))) (λf G _ _ args H n k=>AAF f G args H n k) f
def run(F:T AF)(G:AV)(lf:Nat)(fuel:Nat):BD:=
 Nat.rec (motive:=λ_=>BD) (λ_ _ _ _ _=>False) (λ_ call f args H n k=>EN (T.get F f) λaf=>lQ af G call lf args H n k) fuel
end Go.Bj
