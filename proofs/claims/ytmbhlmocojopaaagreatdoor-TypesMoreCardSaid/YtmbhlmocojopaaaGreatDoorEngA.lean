/- Part of a proof; nothing is assumed. -/
import Derived.Calls
import Derived.Defers
import Derived.Orders
import Derived.KernelRfl
import Derived.Laws.Entries
set_option linter.unusedVariables false
set_option linter.unusedSimpArgs false
noncomputable section
namespace Go.DW
inductive P2 where
 |h|z (p:P2)|o (p:P2)
deriving DecidableEq
inductive T(α:Type)where
 |e|n (v:Option α) (l r:T α)
def T.val{α:Type}(t:T α):Option α:=T.rec none (λv _ _ _ _=>v) t
def T.left{α:Type}(t:T α):T α:=T.rec .e (λ_ l _ _ _=>l) t
def T.right{α:Type}(t:T α):T α:=T.rec .e (λ_ _ r _ _=>r) t
def T.FN{α:Type}(p:P2):T α->Option α:=
 P2.rec (motive:=λ_=>T α->Option α) T.val (λ_ g t=>g t.left) (λ_ g t=>g t.right) p
def T.fB{α:Type}(x:α)(p:P2):T α->T α:=
 P2.rec (motive:=λ_=>T α->T α) (λt=>.n (some x) t.left t.right)
  (λ_ g t=>.n t.val (g t.left) t.right) (λ_ g t=>.n t.val t.left (g t.right)) p
def AN6(f:Nat):Nat->P2:=
 Nat.rec (motive:=λ_=>Nat->P2) (λ_=>.h)
  (λ_ g k=>Nat.rec (motive:=λ_=>P2) .h
   (λm _=>Bool.rec (P2.o (g (Nat.div m 2))) (P2.z (g (Nat.div m 2))) (Nat.beq (Nat.mod m 2) 0)) k) f
def Qx(k:Nat):P2:=AN6 (Nat.succ k) k
def T.get{α:Type}(t:T α)(k:Nat):Option α:=T.FN (Qx k) t
def T.set{α:Type}(t:T α)(k:Nat)(x:α):T α:=T.fB x (Qx k) t
inductive V where
 |undef
 |int (k:IntKind) (n:Int) (s:Nat)
 |bool (b:Bool)
 |str (len code:Nat)
 |AIO|ptr (id off:Nat)|gptr (b off:Nat)
 |Ad|sl (id off len cap esz:Nat)|PU (id off len esz:Nat)|rsl (b off len cap esz:Nat)
 |AJN|map (id:Nat)
 |ASD|fn (f:Nat) (first caps:List V)
 |agg (cs:List V)
 |Io (vs:List V)
 |AQ0|iface (t:Nat) (v:V)
inductive Sm where
 |arr (esz cnt:Nat) (c:T (List V))
 |map (es:List (V×V×Nat)) (clock:Nat)
 |dead
 |mO (t e l c j:Nat)
 |own (b:Nat)
abbrev Heap:=T Sm
abbrev LW:=T V
abbrev AX:=Nat->Nat->Nat->Option (List V)
inductive X where
 |r (p:P2)|c (v:V)|s (i:Nat)
def PD(o:Option V):V:=Option.rec V.undef (λv=>v) o
def AQJ(l:List V):Nat->V:=
 List.rec (motive:=λ_=>Nat->V) (λ_=>.undef) (λx _ g i=>Nat.rec (motive:=λ_=>V) x (λi _=>g i) i) l
inductive RS where
 |mk (L:List V) (R:LW)
def RS.st(E:RS):List V:=RS.rec (λL _=>L) E
def RS.rg(E:RS):LW:=RS.rec (λ_ R=>R) E
def X.ev(x:X):RS->V:=X.rec (motive:=λ_=>RS->V) (λp E=>PD (T.FN p E.rg)) (λv _=>v) (λi E=>AQJ E.st i) x
def V.Kv(v:V):(IntKind->Int->Nat->Option V)->Option V:=
 V.rec (motive_1:=λ_=>(IntKind->Int->Nat->Option V)->Option V) (motive_2:=λ_=>PUnit)
  (λ_=>none)
  (λa b c f=>f a b c)
  (λ_ _=>none)
  (λ_ _ _=>none)
  (λ_=>none)
  (λ_ _ _=>none)
  (λ_ _ _=>none)
  (λ_=>none)
  (λ_ _ _ _ _ _=>none)
  (λ_ _ _ _ _=>none)
  (λ_ _ _ _ _ _=>none)
  (λ_=>none)
  (λ_ _=>none)
  (λ_=>none)
  (λ_ _ _ _ _ _=>none)
  (λ_ _ _=>none)
  (λ_ _ _=>none)
  (λ_=>none)
  (λ_ _ _ _=>none)
  ⟨⟩ (λ_ _ _ _=>⟨⟩) v
def V.wG(v:V):(Bool->Option V)->Option V:=
 V.rec (motive_1:=λ_=>(Bool->Option V)->Option V) (motive_2:=λ_=>PUnit)
  (λ_=>none)
  (λ_ _ _ _=>none)
  (λa f=>f a)
  (λ_ _ _=>none)
  (λ_=>none)
  (λ_ _ _=>none)
  (λ_ _ _=>none)
  (λ_=>none)
  (λ_ _ _ _ _ _=>none)
  (λ_ _ _ _ _=>none)
  (λ_ _ _ _ _ _=>none)
  (λ_=>none)
  (λ_ _=>none)
  (λ_=>none)
  (λ_ _ _ _ _ _=>none)
  (λ_ _ _=>none)
  (λ_ _ _=>none)
  (λ_=>none)
  (λ_ _ _ _=>none)
  ⟨⟩ (λ_ _ _ _=>⟨⟩) v
def V.AMF(v:V):(Bool->Prop)->Prop:=
 V.rec (motive_1:=λ_=>(Bool->Prop)->Prop) (motive_2:=λ_=>PUnit)
  (λ_=>False)
  (λ_ _ _ _=>False)
  (λa f=>f a)
  (λ_ _ _=>False)
  (λ_=>False)
  (λ_ _ _=>False)
  (λ_ _ _=>False)
  (λ_=>False)
  (λ_ _ _ _ _ _=>False)
  (λ_ _ _ _ _=>False)
  (λ_ _ _ _ _ _=>False)
  (λ_=>False)
  (λ_ _=>False)
  (λ_=>False)
  (λ_ _ _ _ _ _=>False)
  (λ_ _ _=>False)
  (λ_ _ _=>False)
  (λ_=>False)
  (λ_ _ _ _=>False)
  ⟨⟩ (λ_ _ _ _=>⟨⟩) v
def V.WZ(v:V):(Nat->Nat->Option V)->Option V:=
 V.rec (motive_1:=λ_=>(Nat->Nat->Option V)->Option V) (motive_2:=λ_=>PUnit)
  (λ_=>none)
  (λ_ _ _ _=>none)
  (λ_ _=>none)
  (λa b f=>f a b)
  (λ_=>none)
  (λ_ _ _=>none)
  (λ_ _ _=>none)
  (λ_=>none)
  (λ_ _ _ _ _ _=>none)
  (λ_ _ _ _ _=>none)
  (λ_ _ _ _ _ _=>none)
  (λ_=>none)
  (λ_ _=>none)
  (λ_=>none)
  (λ_ _ _ _ _ _=>none)
  (λ_ _ _=>none)
  (λ_ _ _=>none)
  (λ_=>none)
  (λ_ _ _ _=>none)
  ⟨⟩ (λ_ _ _ _=>⟨⟩) v
def V.ADH(v:V):(List V->Option V)->Option V:=
 V.rec (motive_1:=λ_=>(List V->Option V)->Option V) (motive_2:=λ_=>PUnit)
  (λ_=>none)
  (λ_ _ _ _=>none)
  (λ_ _=>none)
  (λ_ _ _=>none)
  (λ_=>none)
  (λ_ _ _=>none)
  (λ_ _ _=>none)
  (λ_=>none)
  (λ_ _ _ _ _ _=>none)
  (λ_ _ _ _ _=>none)
  (λ_ _ _ _ _ _=>none)
  (λ_=>none)
  (λ_ _=>none)
  (λ_=>none)
  (λ_ _ _ _ _ _=>none)
  (λa _ f=>f a)
  (λ_ _ _=>none)
  (λ_=>none)
  (λ_ _ _ _=>none)
  ⟨⟩ (λ_ _ _ _=>⟨⟩) v
def V.AJx(v:V):(List V->Option V)->Option V:=
 V.rec (motive_1:=λ_=>(List V->Option V)->Option V) (motive_2:=λ_=>PUnit)
  (λ_=>none)
  (λ_ _ _ _=>none)
  (λ_ _=>none)
  (λ_ _ _=>none)
  (λ_=>none)
  (λ_ _ _=>none)
  (λ_ _ _=>none)
  (λ_=>none)
  (λ_ _ _ _ _ _=>none)
  (λ_ _ _ _ _=>none)
  (λ_ _ _ _ _ _=>none)
  (λ_=>none)
  (λ_ _=>none)
  (λ_=>none)
  (λ_ _ _ _ _ _=>none)
  (λ_ _ _=>none)
  (λa _ f=>f a)
  (λ_=>none)
  (λ_ _ _ _=>none)
  ⟨⟩ (λ_ _ _ _=>⟨⟩) v
def V.AJv(v:V):(Nat->Nat->Option V)->(Nat->Nat->Option V)->Option V:=
 V.rec (motive_1:=λ_=>(Nat->Nat->Option V)->(Nat->Nat->Option V)->Option V) (motive_2:=λ_=>PUnit)
  (λ_ _=>none)
  (λ_ _ _ _ _=>none)
  (λ_ _ _=>none)
  (λ_ _ _ _=>none)
  (λ_ _=>none)
  (λa b f _=>f a b)
  (λa b _ g=>g a b)
  (λ_ _=>none)
  (λ_ _ _ _ _ _ _=>none)
  (λ_ _ _ _ _ _=>none)
  (λ_ _ _ _ _ _ _=>none)
  (λ_ _=>none)
  (λ_ _ _=>none)
  (λ_ _=>none)
  (λ_ _ _ _ _ _ _=>none)
  (λ_ _ _ _=>none)
  (λ_ _ _ _=>none)
  (λ_ _=>none)
  (λ_ _ _ _ _=>none)
  ⟨⟩ (λ_ _ _ _=>⟨⟩) v
def V.AK4(v:V):(Option V)->(Nat->Option V)->Option V:=
 V.rec (motive_1:=λ_=>(Option V)->(Nat->Option V)->Option V) (motive_2:=λ_=>PUnit)
  (λ_ _=>none)
  (λ_ _ _ _ _=>none)
  (λ_ _ _=>none)
  (λ_ _ _ _=>none)
  (λ_ _=>none)
  (λ_ _ _ _=>none)
  (λ_ _ _ _=>none)
  (λ_ _=>none)
  (λ_ _ _ _ _ _ _=>none)
  (λ_ _ _ _ _ _=>none)
  (λ_ _ _ _ _ _ _=>none)
  (λz _=>z)
  (λa _ f=>f a)
  (λ_ _=>none)
  (λ_ _ _ _ _ _ _=>none)
  (λ_ _ _ _=>none)
  (λ_ _ _ _=>none)
  (λ_ _=>none)
  (λ_ _ _ _ _=>none)
  ⟨⟩ (λ_ _ _ _=>⟨⟩) v
def V.ASt(v:V):(Option V)->(Nat->Nat->Nat->Nat->Nat->Option V)->(Nat->Nat->Nat->Nat->Option V)->(Nat->Nat->Nat->Nat->Nat->Option V)->Option V:=
 V.rec (motive_1:=λ_=>(Option V)->(Nat->Nat->Nat->Nat->Nat->Option V)->(Nat->Nat->Nat->Nat->Option V)->(Nat->Nat->Nat->Nat->Nat->Option V)->Option V) (motive_2:=λ_=>PUnit)
  (λ_ _ _ _=>none)
  (λ_ _ _ _ _ _ _=>none)
  (λ_ _ _ _ _=>none)
  (λ_ _ _ _ _ _=>none)
  (λ_ _ _ _=>none)
  (λ_ _ _ _ _ _=>none)
  (λ_ _ _ _ _ _=>none)
  (λz _ _ _=>z)
  (λa b c d e _ f _ _=>f a b c d e)
  (λa b c d _ _ g _=>g a b c d)
  (λa b c d e _ _ _ h=>h a b c d e)
  (λ_ _ _ _=>none)
  (λ_ _ _ _ _=>none)
  (λ_ _ _ _=>none)
  (λ_ _ _ _ _ _ _ _ _=>none)
  (λ_ _ _ _ _ _=>none)
  (λ_ _ _ _ _ _=>none)
  (λ_ _ _ _=>none)
  (λ_ _ _ _ _ _ _=>none)
  ⟨⟩ (λ_ _ _ _=>⟨⟩) v
def Ba(v:V):List V:=
 V.rec (motive_1:=λ_=>List V) (motive_2:=λ_=>PUnit)
  ([v])
  (λ_ _ _=>[v])
  (λ_=>[v])
  (λ_ _=>[v])
  ([v])
  (λ_ _=>[v])
  (λ_ _=>[v])
  ([v])
  (λ_ _ _ _ _=>[v])
  (λ_ _ _ _=>[v])
  (λ_ _ _ _ _=>[v])
  ([v])
  (λ_=>[v])
  ([v])
  (λ_ _ _ _ _=>[v])
  (λa _=>a)
  (λ_ _=>[v])
  ([v])
  (λ_ _ _=>[v])
  ⟨⟩ (λ_ _ _ _=>⟨⟩) v
def isStr(v:V):Bool:=
 V.rec (motive_1:=λ_=>Bool) (motive_2:=λ_=>PUnit)
  (false)
  (λ_ _ _=>false)
  (λ_=>false)
  (λ_ _=>true)
  (false)
  (λ_ _=>false)
  (λ_ _=>false)
  (false)
  (λ_ _ _ _ _=>false)
  (λ_ _ _ _=>false)
  (λ_ _ _ _ _=>false)
  (false)
  (λ_=>false)
  (false)
  (λ_ _ _ _ _=>false)
  (λ_ _=>false)
  (λ_ _=>false)
  (false)
  (λ_ _ _=>false)
  ⟨⟩ (λ_ _ _ _=>⟨⟩) v
def lenV(v:V):Option V:=
 V.rec (motive_1:=λ_=>Option V) (motive_2:=λ_=>PUnit)
  (none)
  (λ_ _ _=>none)
  (λ_=>none)
  (λ_ _=>none)
  (none)
  (λ_ _=>none)
  (λ_ _=>none)
  (some (.int .i64 (.ofNat 0) 0))
  (λ_ _ c _ _=>some (.int .i64 (.ofNat c) 0))
  (λ_ _ c _=>some (.int .i64 (.ofNat c) 0))
  (λ_ _ c _ _=>some (.int .i64 (.ofNat c) 0))
  (none)
  (λ_=>none)
  (none)
  (λ_ _ _ _ _=>none)
  (λ_ _=>none)
  (λ_ _=>none)
  (none)
  (λ_ _ _=>none)
  ⟨⟩ (λ_ _ _ _=>⟨⟩) v
def Ap(v:V):Option V:=
 V.rec (motive_1:=λ_=>Option V) (motive_2:=λ_=>PUnit)
  (none)
  (λ_ _ _=>none)
  (λ_=>none)
  (λ_ _=>none)
  (none)
  (λa b=>some (.ptr a b))
  (λa b=>some (.gptr a b))
  (none)
  (λ_ _ _ _ _=>none)
  (λ_ _ _ _=>none)
  (λ_ _ _ _ _=>none)
  (none)
  (λ_=>none)
  (none)
  (λa b c _ _=>some (.fn a b c))
  (λ_ _=>none)
  (λ_ _=>none)
  (none)
  (λ_ _ _=>none)
  ⟨⟩ (λ_ _ _ _=>⟨⟩) v
def Yz(n:Int):(Int->Option V)->Option V:=λf=>f n
def Et(n:Nat):(Nat->Option V)->Option V:=
 Nat.rec (motive:=λ_=>(Nat->Option V)->Option V) (λf=>f 0) (λk _ f=>f (Nat.succ k)) n
def FT(n:Nat):(Nat->Prop)->Prop:=
 Nat.rec (motive:=λ_=>(Nat->Prop)->Prop) (λf=>f 0) (λk _ f=>f (Nat.succ k)) n
def AXk(k:IntKind):Nat->Bool:=
 IntKind.rec (motive:=λ_=>Nat->Bool) (λm=>Nat.blt m 128) (λm=>Nat.blt m 32768) (λm=>Nat.blt m 2147483648) (λm=>Nat.blt m 9223372036854775808)
  (λm=>Nat.blt m 256) (λm=>Nat.blt m 65536) (λm=>Nat.blt m 4294967296) (λm=>Nat.blt m 18446744073709551616) k
def AWh(k:IntKind):Nat->Bool:=
 IntKind.rec (motive:=λ_=>Nat->Bool) (λm=>Nat.blt m 128) (λm=>Nat.blt m 32768) (λm=>Nat.blt m 2147483648) (λm=>Nat.blt m 9223372036854775808)
  (λ_=>false) (λ_=>false) (λ_=>false) (λ_=>false) k
def inr(k:IntKind)(n:Int):Bool:=Int.rec (motive:=λ_=>IntKind->Bool) (λm k=>AXk k m) (λm k=>AWh k m) n k
def qF(k:IntKind)(n:Int):Int:=Bool.rec (k.wrap n) n (inr k n)
def AWA(k:IntKind)(n:Int):Option V:=Yz (qF k n) λm=>some (.int k m 0)
def mkI(k:IntKind)(n:Int)(s:Nat):Option V:=
 Nat.rec (motive:=λ_=>IntKind->Int->Option V) AWA (λ_ _ k n=>some (.int k (k.wrap n) 1)) s k n
def mkN(k:IntKind)(n:Int)(s:Nat):Option V:=
 Nat.rec (motive:=λ_=>IntKind->Int->Option V) (λk n=>Yz n λm=>some (.int k m 0)) (λ_ _ k n=>some (.int k n 1)) s k n
def AUQ(a:Nat)(b:Int):Int:=Int.rec (motive:=λ_=>Nat->Int) (λn m=>.ofNat (Nat.add m n)) (λn m=>Int.subNatNat m (Nat.succ n)) b a
def AUK(a:Nat)(b:Int):Int:=Int.rec (motive:=λ_=>Nat->Int) (λn m=>Int.subNatNat n (Nat.succ m)) (λn m=>.negSucc (Nat.succ (Nat.add m n))) b a
def AF7(a b:Int):Int:=Int.rec (motive:=λ_=>Int->Int) AUQ AUK a b
def ile(a b:Int):Bool:=Int.rec (motive:=λ_=>Int->Bool) (λm b=>Int.rec (motive:=λ_=>Nat->Bool) (λn m=>Nat.ble m n) (λ_ _=>false) b m)
 (λm b=>Int.rec (motive:=λ_=>Nat->Bool) (λ_ _=>true) (λn m=>Nat.ble n m) b m) a b
def ilt(a b:Int):Bool:=Int.rec (motive:=λ_=>Int->Bool) (λm b=>Int.rec (motive:=λ_=>Nat->Bool) (λn m=>Nat.blt m n) (λ_ _=>false) b m)
 (λm b=>Int.rec (motive:=λ_=>Nat->Bool) (λ_ _=>true) (λn m=>Nat.blt n m) b m) a b
def ieq(a b:Int):Bool:=Int.rec (motive:=λ_=>Int->Bool) (λm b=>Int.rec (motive:=λ_=>Nat->Bool) (λn m=>Nat.beq m n) (λ_ _=>false) b m)
 (λm b=>Int.rec (motive:=λ_=>Nat->Bool) (λ_ _=>false) (λn m=>Nat.beq n m) b m) a b
def kno(a:IntKind):Nat:=IntKind.rec 0 1 2 3 4 5 6 7 a
def keq(a b:IntKind):Bool:=Nat.beq (kno a) (kno b)
def TK(b:Bool):Bool:=Bool.rec true false b
def band(a b:Bool):Bool:=Bool.rec (motive:=λ_=>Bool->Bool) (λ_=>false) (λb=>b) a b
def AO1(a b:Bool):Bool:=Bool.rec (motive:=λ_=>Bool->Bool) TK (λb=>b) a b
def mkB(b:Bool):Option V:=Bool.rec (some (.bool false)) (some (.bool true)) b
def CG(b:Bool):Option V->Option V:=Bool.rec (motive:=λ_=>Option V->Option V) (λ_=>none) (λo=>o) b
def ACn(b:Bool)(x y:Option V):Option V:=Bool.rec (motive:=λ_=>Option V->Option V->Option V) (λ_ y=>y) (λx _=>x) b x y
def AQD(code i:Nat):Nat:=Nat.mod (Nat.div code (Nat.pow 256 i)) 256
def AWo(code l h:Nat):Nat:=Nat.mod (Nat.div code (Nat.pow 256 l)) (Nat.pow 256 (Nat.sub h l))
def AXT(l1 c1 c2:Nat):Nat:=Nat.add c1 (Nat.mul (Nat.pow 256 l1) c2)
def AV1(f:Nat):Nat->Nat->Nat->Nat->Bool:=
 Nat.rec (motive:=λ_=>Nat->Nat->Nat->Nat->Bool) (λ_ _ _ _=>false)
  (λ_ g l1 c1 l2 c2=>Nat.rec (motive:=λ_=>Bool) false (λl2' _=>Nat.rec (motive:=λ_=>Bool) true (λl1' _=>
   Bool.rec (Nat.blt (Nat.mod c1 256) (Nat.mod c2 256)) (g l1' (Nat.div c1 256) l2' (Nat.div c2 256)) (Nat.beq (Nat.mod c1 256) (Nat.mod c2 256))) l1) l2) f
def slt(l1 c1 l2 c2:Nat):Bool:=AV1 (Nat.succ l2) l1 c1 l2 c2
def nth{α:Type}(l:List α):Nat->Option α:=
 List.rec (motive:=λ_=>Nat->Option α) (λ_=>none) (λx _ g i=>Nat.rec (motive:=λ_=>Option α) (some x) (λi _=>g i) i) l
def mQ{α:Type}(x:α)(l:List α):Nat->List α:=
 List.rec (motive:=λ_=>Nat->List α) (λ_=>[]) (λy ys g i=>Nat.rec (motive:=λ_=>List α) (x::ys) (λi _=>y::g i) i) l
def len{α:Type}(l:List α):Nat:=List.rec (motive:=λ_=>Nat) 0 (λ_ _ n=>Nat.succ n) l
def cat{α:Type}(a b:List α):List α:=List.rec (motive:=λ_=>List α->List α) (λb=>b) (λx _ g b=>x::g b) a b
def dU{α:Type}(n:Nat):List α->List α:=
 Nat.rec (motive:=λ_=>List α->List α) (λ_=>[]) (λ_ g l=>List.rec (motive:=λ_=>List α) [] (λx xs _=>x::g xs) l) n
def uO{α:Type}(n:Nat):List α->List α:=
 Nat.rec (motive:=λ_=>List α->List α) (λl=>l) (λ_ g l=>List.rec (motive:=λ_=>List α) [] (λ_ xs _=>g xs) l) n
def lK(l:List X):RS->List V:=List.rec (motive:=λ_=>RS->List V) (λ_=>[]) (λx _ g R=>x.ev R::g R) l
def ALk(new:List V)(i:Nat)(l:List V):List V:=cat (dU i l) (cat new (uO (Nat.add i (len new)) l))
abbrev LV:=List V
def XT(o:Option LV)(f:LV->Option V):Option V:=Option.rec (motive:=λ_=>(LV->Option V)->Option V) (λ_=>none) (λv f=>f v) o f
def Ei{α:Type}(o:Option α)(f:α->Prop):Prop:=Option.rec (motive:=λ_=>(α->Prop)->Prop) (λ_=>False) (λv f=>f v) o f
def AP(o:Option V)(f:V->Prop):Prop:=Option.rec (motive:=λ_=>(V->Prop)->Prop) (λ_=>False) (λv f=>f v) o f
def Cb{α β:Type}(o:Option α)(f:α->Option β):Option β:=Option.rec (motive:=λ_=>(α->Option β)->Option β) (λ_=>none) (λv f=>f v) o f
def ldC(esz off n:Nat)(L:LV):Option LV:=
 Bool.rec (motive:=λ_=>Option LV)
  (Bool.rec none (some (dU n (uO (Nat.mod off esz) L))) (Nat.ble (Nat.add (Nat.mod off esz) n) esz))
  (some L) (band (Nat.beq n esz) (Nat.beq (Nat.mod off esz) 0))
def ldB(esz cnt:Nat)(c:T LV)(off n:Nat):Option LV:=
 Cb (Bool.rec none (T.get c (Nat.div off esz)) (Nat.blt (Nat.div off esz) cnt)) (ldC esz off n)
def Sm.ld(b:Sm):Nat->Nat->Option LV:=
 Sm.rec (motive:=λ_=>Nat->Nat->Option LV) ldB (λ_ _ _ _=>none) (λ_ _=>none) (λ_ _ _ _ _ _ _=>none) (λ_ _ _=>none) b
def yj(H:Heap)(id off n:Nat):Option LV:=Option.rec (motive:=λ_=>Nat->Nat->Option LV) (λ_ _=>none) Sm.ld (T.get H id) off n
def ldP(v:V):(AX)->(Heap)->(Nat)->Option LV:=
 V.rec (motive_1:=λ_=>(AX)->(Heap)->(Nat)->Option LV) (motive_2:=λ_=>PUnit)
  (λ_ _ _=>none)
  (λ_ _ _ _ _ _=>none)
  (λ_ _ _ _=>none)
  (λ_ _ _ _ _=>none)
  (λ_ _ _=>none)
  (λa b _ H n=>yj H a b n)
  (λa b G _ n=>G a b n)
  (λ_ _ _=>none)
  (λ_ _ _ _ _ _ _ _=>none)
  (λ_ _ _ _ _ _ _=>none)
  (λ_ _ _ _ _ _ _ _=>none)
  (λ_ _ _=>none)
  (λ_ _ _ _=>none)
  (λ_ _ _=>none)
  (λ_ _ _ _ _ _ _ _=>none)
  (λ_ _ _ _ _=>none)
  (λ_ _ _ _ _=>none)
  (λ_ _ _=>none)
  (λ_ _ _ _ _ _=>none)
  ⟨⟩ (λ_ _ _ _=>⟨⟩) v
def stC(new:LV)(esz cnt:Nat)(c:T LV)(off n:Nat)(L:LV):Option Sm:=
 Bool.rec (motive:=λ_=>Option Sm)
  (Bool.rec none (some (.arr esz cnt (T.set c (Nat.div off esz) (ALk new (Nat.mod off esz) L)))) (Nat.ble (Nat.add (Nat.mod off esz) n) esz))
  (some (.arr esz cnt (T.set c (Nat.div off esz) new))) (band (Nat.beq n esz) (Nat.beq (Nat.mod off esz) 0))
def stB(esz cnt:Nat)(c:T LV)(off n:Nat)(new:LV):Option Sm:=
 Cb (Bool.rec none (T.get c (Nat.div off esz)) (Nat.blt (Nat.div off esz) cnt)) (stC new esz cnt c off n)
def Sm.st(b:Sm):Nat->Nat->LV->Option Sm:=
 Sm.rec (motive:=λ_=>Nat->Nat->LV->Option Sm) stB (λ_ _ _ _ _=>none) (λ_ _ _=>none) (λ_ _ _ _ _ _ _ _=>none) (λ_ _ _ _=>none) b
def stH(H:Heap)(id off n:Nat)(new:LV):Option Heap:=
 Cb (Option.rec (motive:=λ_=>Nat->Nat->LV->Option Sm) (λ_ _ _=>none) Sm.st (T.get H id) off n new) λb=>some (T.set H id b)
def stP(v:V):(Heap)->(Nat)->(LV)->Option Heap:=
 V.rec (motive_1:=λ_=>(Heap)->(Nat)->(LV)->Option Heap) (motive_2:=λ_=>PUnit)
  (λ_ _ _=>none)
  (λ_ _ _ _ _ _=>none)
  (λ_ _ _ _=>none)
  (λ_ _ _ _ _=>none)
  (λ_ _ _=>none)
  (λa b H n new=>stH H a b n new)
  (λ_ _ _ _ _=>none)
  (λ_ _ _=>none)
  (λ_ _ _ _ _ _ _ _=>none)
  (λ_ _ _ _ _ _ _=>none)
  (λ_ _ _ _ _ _ _ _=>none)
  (λ_ _ _=>none)
  (λ_ _ _ _=>none)
  (λ_ _ _=>none)
  (λ_ _ _ _ _ _ _ _=>none)
  (λ_ _ _ _ _=>none)
  (λ_ _ _ _ _=>none)
  (λ_ _ _=>none)
  (λ_ _ _ _ _ _=>none)
  ⟨⟩ (λ_ _ _ _=>⟨⟩) v
def APf(v:V):(IntKind)->(Int)->(Nat)->Option Bool:=
 V.rec (motive_1:=λ_=>(IntKind)->(Int)->(Nat)->Option Bool) (motive_2:=λ_=>PUnit)
  (λ_ _ _=>none)
  (λa b c k n s=>Bool.rec (motive:=λ_=>Option Bool) none (some (ieq n b)) (band (keq k a) (Nat.beq (Nat.add s c) 0)))
  (λ_ _ _ _=>none)
  (λ_ _ _ _ _=>none)
  (λ_ _ _=>none)
  (λ_ _ _ _ _=>none)
  (λ_ _ _ _ _=>none)
  (λ_ _ _=>none)
  (λ_ _ _ _ _ _ _ _=>none)
  (λ_ _ _ _ _ _ _=>none)
  (λ_ _ _ _ _ _ _ _=>none)
  (λ_ _ _=>none)
  (λ_ _ _ _=>none)
  (λ_ _ _=>none)
  (λ_ _ _ _ _ _ _ _=>none)
  (λ_ _ _ _ _=>none)
  (λ_ _ _ _ _=>none)
  (λ_ _ _=>none)
  (λ_ _ _ _ _ _=>none)
  ⟨⟩ (λ_ _ _ _=>⟨⟩) v
def AKT(v:V):(Bool)->Option Bool:=
 V.rec (motive_1:=λ_=>(Bool)->Option Bool) (motive_2:=λ_=>PUnit)
  (λ_=>none)
  (λ_ _ _ _=>none)
  (λa x=>some (AO1 x a))
  (λ_ _ _=>none)
  (λ_=>none)
  (λ_ _ _=>none)
  (λ_ _ _=>none)
  (λ_=>none)
  (λ_ _ _ _ _ _=>none)
  (λ_ _ _ _ _=>none)
  (λ_ _ _ _ _ _=>none)
  (λ_=>none)
  (λ_ _=>none)
  (λ_=>none)
  (λ_ _ _ _ _ _=>none)
  (λ_ _ _=>none)
  (λ_ _ _=>none)
  (λ_=>none)
  (λ_ _ _ _=>none)
  ⟨⟩ (λ_ _ _ _=>⟨⟩) v
def eqStr(v:V):(Nat)->(Nat)->Option Bool:=
 V.rec (motive_1:=λ_=>(Nat)->(Nat)->Option Bool) (motive_2:=λ_=>PUnit)
  (λ_ _=>none)
  (λ_ _ _ _ _=>none)
  (λ_ _ _=>none)
  (λa b l d=>some (band (Nat.beq l a) (Nat.beq d b)))
  (λ_ _=>none)
  (λ_ _ _ _=>none)
  (λ_ _ _ _=>none)
  (λ_ _=>none)
  (λ_ _ _ _ _ _ _=>none)
  (λ_ _ _ _ _ _=>none)
  (λ_ _ _ _ _ _ _=>none)
  (λ_ _=>none)
  (λ_ _ _=>none)
  (λ_ _=>none)
  (λ_ _ _ _ _ _ _=>none)
  (λ_ _ _ _=>none)
  (λ_ _ _ _=>none)
  (λ_ _=>none)
  (λ_ _ _ _ _=>none)
  ⟨⟩ (λ_ _ _ _=>⟨⟩) v
def AQ8(v:V):Option Bool:=
 V.rec (motive_1:=λ_=>Option Bool) (motive_2:=λ_=>PUnit)
  (none)
  (λ_ _ _=>none)
  (λ_=>none)
  (λ_ _=>none)
  (some true)
  (λ_ _=>some false)
  (λ_ _=>some false)
  (none)
  (λ_ _ _ _ _=>none)
  (λ_ _ _ _=>none)
  (λ_ _ _ _ _=>none)
  (none)
  (λ_=>none)
  (none)
  (λ_ _ _ _ _=>none)
  (λ_ _=>none)
  (λ_ _=>none)
  (none)
  (λ_ _ _=>none)
  ⟨⟩ (λ_ _ _ _=>⟨⟩) v
def AUO(v:V):(Nat)->(Nat)->Option Bool:=
 V.rec (motive_1:=λ_=>(Nat)->(Nat)->Option Bool) (motive_2:=λ_=>PUnit)
  (λ_ _=>none)
  (λ_ _ _ _ _=>none)
  (λ_ _ _=>none)
  (λ_ _ _ _=>none)
  (λ_ _=>some false)
  (λa b i o=>Bool.rec none (some (Nat.beq o b)) (Nat.beq i a))
  (λ_ _ _ _=>none)
  (λ_ _=>none)
  (λ_ _ _ _ _ _ _=>none)
  (λ_ _ _ _ _ _=>none)
  (λ_ _ _ _ _ _ _=>none)
  (λ_ _=>none)
  (λ_ _ _=>none)
  (λ_ _=>none)
  (λ_ _ _ _ _ _ _=>none)
  (λ_ _ _ _=>none)
  (λ_ _ _ _=>none)
  (λ_ _=>none)
  (λ_ _ _ _ _=>none)
  ⟨⟩ (λ_ _ _ _=>⟨⟩) v
def AOa(v:V):Option Bool:=
 V.rec (motive_1:=λ_=>Option Bool) (motive_2:=λ_=>PUnit)
  (none)
  (λ_ _ _=>none)
  (λ_=>none)
  (λ_ _=>none)
  (some false)
  (λ_ _=>none)
  (λ_ _=>none)
  (none)
  (λ_ _ _ _ _=>none)
  (λ_ _ _ _=>none)
  (λ_ _ _ _ _=>none)
  (none)
  (λ_=>none)
  (none)
  (λ_ _ _ _ _=>none)
  (λ_ _=>none)
  (λ_ _=>none)
  (none)
  (λ_ _ _=>none)
  ⟨⟩ (λ_ _ _ _=>⟨⟩) v
def AJS(v:V):(V)->Option Bool:=
 V.rec (motive_1:=λ_=>(V)->Option Bool) (motive_2:=λ_=>PUnit)
  (λ_=>none)
  (λa b c y=>APf y a b c)
  (λ_ _=>none)
  (λ_ _ _=>none)
  (λ_=>none)
  (λ_ _ _=>none)
  (λ_ _ _=>none)
  (λ_=>none)
  (λ_ _ _ _ _ _=>none)
  (λ_ _ _ _ _=>none)
  (λ_ _ _ _ _ _=>none)
  (λ_=>none)
  (λ_ _=>none)
  (λ_=>none)
  (λ_ _ _ _ _ _=>none)
  (λ_ _ _=>none)
  (λ_ _ _=>none)
  (λ_=>none)
  (λ_ _ _ _=>none)
  ⟨⟩ (λ_ _ _ _=>⟨⟩) v
def AIr(v:V):(V)->Option Bool:=
 V.rec (motive_1:=λ_=>(V)->Option Bool) (motive_2:=λ_=>PUnit)
  (λ_=>none)
  (λ_ _ _ _=>none)
  (λ_ _=>none)
  (λa b y=>eqStr y a b)
  (λ_=>none)
  (λ_ _ _=>none)
  (λ_ _ _=>none)
  (λ_=>none)
  (λ_ _ _ _ _ _=>none)
  (λ_ _ _ _ _=>none)
  (λ_ _ _ _ _ _=>none)
  (λ_=>none)
  (λ_ _=>none)
  (λ_=>none)
  (λ_ _ _ _ _ _=>none)
  (λ_ _ _=>none)
  (λ_ _ _=>none)
  (λ_=>none)
  (λ_ _ _ _=>none)
  ⟨⟩ (λ_ _ _ _=>⟨⟩) v
def AC0(v:V):(V)->Option Bool:=
 V.rec (motive_1:=λ_=>(V)->Option Bool) (motive_2:=λ_=>PUnit)
  (λ_=>none)
  (λ_ _ _ _=>none)
  (λa y=>AKT y a)
  (λ_ _ _=>none)
  (λ_=>none)
  (λ_ _ _=>none)
  (λ_ _ _=>none)
  (λ_=>none)
  (λ_ _ _ _ _ _=>none)
  (λ_ _ _ _ _=>none)
  (λ_ _ _ _ _ _=>none)
  (λ_=>none)
  (λ_ _=>none)
  (λ_=>none)
  (λ_ _ _ _ _ _=>none)
  (λ_ _ _=>none)
  (λ_ _ _=>none)
  (λ_=>none)
  (λ_ _ _ _=>none)
  ⟨⟩ (λ_ _ _ _=>⟨⟩) v
def AHm(v:V):(V)->Option Bool:=
 V.rec (motive_1:=λ_=>(V)->Option Bool) (motive_2:=λ_=>PUnit)
  (λ_=>none)
  (λ_ _ _ _=>none)
  (λ_ _=>none)
  (λ_ _ _=>none)
  (λy=>AQ8 y)
  (λa b y=>AUO y a b)
  (λ_ _ y=>AOa y)
  (λ_=>none)
  (λ_ _ _ _ _ _=>none)
  (λ_ _ _ _ _=>none)
  (λ_ _ _ _ _ _=>none)
  (λ_=>none)
  (λ_ _=>none)
  (λ_=>none)
  (λ_ _ _ _ _ _=>none)
  (λ_ _ _=>none)
  (λ_ _ _=>none)
  (λ_=>none)
  (λ_ _ _ _=>none)
  ⟨⟩ (λ_ _ _ _=>⟨⟩) v
def APE(v:V):Option Bool:=
 V.rec (motive_1:=λ_=>Option Bool) (motive_2:=λ_=>PUnit)
  (none)
  (λ_ _ _=>none)
  (λ_=>none)
  (λ_ _=>none)
  (none)
  (λ_ _=>none)
  (λ_ _=>none)
  (some true)
  (λ_ _ _ _ _=>some false)
  (λ_ _ _ _=>some false)
  (λ_ _ _ _ _=>some false)
  (none)
  (λ_=>none)
  (none)
  (λ_ _ _ _ _=>none)
  (λ_ _=>none)
  (λ_ _=>none)
  (none)
  (λ_ _ _=>none)
  ⟨⟩ (λ_ _ _ _=>⟨⟩) v
def oH(v:V):Option Bool:=
 V.rec (motive_1:=λ_=>Option Bool) (motive_2:=λ_=>PUnit)
  (none)
  (λ_ _ _=>none)
  (λ_=>none)
  (λ_ _=>none)
  (none)
  (λ_ _=>none)
  (λ_ _=>none)
  (some false)
  (λ_ _ _ _ _=>none)
  (λ_ _ _ _=>none)
  (λ_ _ _ _ _=>none)
  (none)
  (λ_=>none)
  (none)
  (λ_ _ _ _ _=>none)
  (λ_ _=>none)
  (λ_ _=>none)
  (none)
  (λ_ _ _=>none)
  ⟨⟩ (λ_ _ _ _=>⟨⟩) v
def APU(v:V):Option Bool:=
 V.rec (motive_1:=λ_=>Option Bool) (motive_2:=λ_=>PUnit)
  (none)
  (λ_ _ _=>none)
  (λ_=>none)
  (λ_ _=>none)
  (none)
  (λ_ _=>none)
  (λ_ _=>none)
  (none)
  (λ_ _ _ _ _=>none)
  (λ_ _ _ _=>none)
  (λ_ _ _ _ _=>none)
  (none)
  (λ_=>none)
  (some true)
  (λ_ _ _ _ _=>some false)
  (λ_ _=>none)
  (λ_ _=>none)
  (none)
  (λ_ _ _=>none)
  ⟨⟩ (λ_ _ _ _=>⟨⟩) v
def AMW(v:V):Option Bool:=
 V.rec (motive_1:=λ_=>Option Bool) (motive_2:=λ_=>PUnit)
  (none)
  (λ_ _ _=>none)
  (λ_=>none)
  (λ_ _=>none)
  (none)
  (λ_ _=>none)
  (λ_ _=>none)
  (none)
  (λ_ _ _ _ _=>none)
  (λ_ _ _ _=>none)
  (λ_ _ _ _ _=>none)
  (none)
  (λ_=>none)
  (some false)
  (λ_ _ _ _ _=>none)
  (λ_ _=>none)
  (λ_ _=>none)
  (none)
  (λ_ _ _=>none)
  ⟨⟩ (λ_ _ _ _=>⟨⟩) v
def APu(v:V):Option Bool:=
 V.rec (motive_1:=λ_=>Option Bool) (motive_2:=λ_=>PUnit)
  (none)
  (λ_ _ _=>none)
  (λ_=>none)
  (λ_ _=>none)
  (none)
  (λ_ _=>none)
  (λ_ _=>none)
  (none)
  (λ_ _ _ _ _=>none)
  (λ_ _ _ _=>none)
  (λ_ _ _ _ _=>none)
  (some true)
  (λ_=>some false)
  (none)
  (λ_ _ _ _ _=>none)
  (λ_ _=>none)
  (λ_ _=>none)
  (none)
  (λ_ _ _=>none)
  ⟨⟩ (λ_ _ _ _=>⟨⟩) v
def AMo(v:V):Option Bool:=
 V.rec (motive_1:=λ_=>Option Bool) (motive_2:=λ_=>PUnit)
  (none)
  (λ_ _ _=>none)
  (λ_=>none)
  (λ_ _=>none)
  (none)
  (λ_ _=>none)
  (λ_ _=>none)
  (none)
  (λ_ _ _ _ _=>none)
  (λ_ _ _ _=>none)
  (λ_ _ _ _ _=>none)
  (some false)
  (λ_=>none)
  (none)
  (λ_ _ _ _ _=>none)
  (λ_ _=>none)
  (λ_ _=>none)
  (none)
  (λ_ _ _=>none)
  ⟨⟩ (λ_ _ _ _=>⟨⟩) v
def kSl(v:V):(V)->Option Bool:=
 V.rec (motive_1:=λ_=>(V)->Option Bool) (motive_2:=λ_=>PUnit)
  (λ_=>none)
  (λ_ _ _ _=>none)
  (λ_ _=>none)
  (λ_ _ _=>none)
  (λ_=>none)
  (λ_ _ _=>none)
  (λ_ _ _=>none)
  (λy=>APE y)
  (λ_ _ _ _ _ y=>oH y)
  (λ_ _ _ _ y=>oH y)
  (λ_ _ _ _ _ y=>oH y)
  (λ_=>none)
  (λ_ _=>none)
  (λ_=>none)
  (λ_ _ _ _ _ _=>none)
  (λ_ _ _=>none)
  (λ_ _ _=>none)
  (λ_=>none)
  (λ_ _ _ _=>none)
  ⟨⟩ (λ_ _ _ _=>⟨⟩) v
def kFn(v:V):(V)->Option Bool:=
 V.rec (motive_1:=λ_=>(V)->Option Bool) (motive_2:=λ_=>PUnit)
  (λ_=>none)
  (λ_ _ _ _=>none)
  (λ_ _=>none)
  (λ_ _ _=>none)
  (λ_=>none)
  (λ_ _ _=>none)
  (λ_ _ _=>none)
  (λ_=>none)
  (λ_ _ _ _ _ _=>none)
  (λ_ _ _ _ _=>none)
  (λ_ _ _ _ _ _=>none)
  (λ_=>none)
  (λ_ _=>none)
  (λy=>APU y)
  (λ_ _ _ _ _ y=>AMW y)
  (λ_ _ _=>none)
  (λ_ _ _=>none)
  (λ_=>none)
  (λ_ _ _ _=>none)
  ⟨⟩ (λ_ _ _ _=>⟨⟩) v
def AUt(v:V):(V)->Option Bool:=
 V.rec (motive_1:=λ_=>(V)->Option Bool) (motive_2:=λ_=>PUnit)
  (λ_=>none)
  (λ_ _ _ _=>none)
  (λ_ _=>none)
  (λ_ _ _=>none)
  (λ_=>none)
  (λ_ _ _=>none)
  (λ_ _ _=>none)
  (λ_=>none)
  (λ_ _ _ _ _ _=>none)
  (λ_ _ _ _ _=>none)
  (λ_ _ _ _ _ _=>none)
  (λy=>APu y)
  (λ_ y=>AMo y)
  (λ_=>none)
  (λ_ _ _ _ _ _=>none)
  (λ_ _ _=>none)
  (λ_ _ _=>none)
  (λ_=>none)
  (λ_ _ _ _=>none)
  ⟨⟩ (λ_ _ _ _=>⟨⟩) v
def VL(o:Option Bool)(f:Bool->Option Bool):Option Bool:=Option.rec (motive:=λ_=>(Bool->Option Bool)->Option Bool) (λ_=>none) (λv f=>f v) o f
inductive CK where
 |int|str|bool|ptr
def CK.eq(k:CK):V->V->Option Bool:=CK.rec (motive:=λ_=>V->V->Option Bool) AJS AIr AC0 AHm k
def AK0(ks:List CK):List V->List V->Option Bool:=
 List.rec (motive:=λ_=>List V->List V->Option Bool) (λa b=>List.rec (motive:=λ_=>Option Bool) (List.rec (motive:=λ_=>Option Bool) (some true) (λ_ _ _=>none) b) (λ_ _ _=>none) a)
  (λk _ g a b=>List.rec (motive:=λ_=>Option Bool) none (λx xs _=>List.rec (motive:=λ_=>Option Bool) none (λy ys _=>VL (k.eq x y) λr=>VL (g xs ys) λr'=>some (band r r')) b) a) ks
def ATS(v:V):(List CK)->(LV)->Option Bool:=
 V.rec (motive_1:=λ_=>(List CK)->(LV)->Option Bool) (motive_2:=λ_=>PUnit)
  (λ_ _=>none)
  (λ_ _ _ _ _=>none)
  (λ_ _ _=>none)
  (λ_ _ _ _=>none)
  (λ_ _=>none)
  (λ_ _ _ _=>none)
  (λ_ _ _ _=>none)
  (λ_ _=>none)
  (λ_ _ _ _ _ _ _=>none)
  (λ_ _ _ _ _ _=>none)
  (λ_ _ _ _ _ _ _=>none)
  (λ_ _=>none)
  (λ_ _ _=>none)
  (λ_ _=>none)
  (λ_ _ _ _ _ _ _=>none)
  (λa _ ks l=>AK0 ks l a)
  (λ_ _ _ _=>none)
  (λ_ _=>none)
  (λ_ _ _ _ _=>none)
  ⟨⟩ (λ_ _ _ _=>⟨⟩) v
def AUo(v:V):(List CK)->(V)->Option Bool:=
 V.rec (motive_1:=λ_=>(List CK)->(V)->Option Bool) (motive_2:=λ_=>PUnit)
  (λ_ _=>none)
  (λ_ _ _ _ _=>none)
  (λ_ _ _=>none)
  (λ_ _ _ _=>none)
  (λ_ _=>none)
  (λ_ _ _ _=>none)
  (λ_ _ _ _=>none)
  (λ_ _=>none)
  (λ_ _ _ _ _ _ _=>none)
  (λ_ _ _ _ _ _=>none)
  (λ_ _ _ _ _ _ _=>none)
  (λ_ _=>none)
  (λ_ _ _=>none)
  (λ_ _=>none)
  (λ_ _ _ _ _ _ _=>none)
  (λa _ ks y=>ATS y ks a)
  (λ_ _ _ _=>none)
  (λ_ _=>none)
  (λ_ _ _ _ _=>none)
  ⟨⟩ (λ_ _ _ _=>⟨⟩) v
inductive EK where
 |one (k:CK)|agg (ks:List CK)|sl|fn|map
def EK.eq(k:EK):V->V->Option Bool:=EK.rec (motive:=λ_=>V->V->Option Bool) (λk=>k.eq) (λks x y=>AUo x ks y) kSl kFn AUt k
def V.AMS(v:V):Option Nat:=
 V.rec (motive_1:=λ_=>Option Nat) (motive_2:=λ_=>PUnit)
  (none)
  (λ_ _ _=>none)
  (λ_=>none)
  (λ_ _=>none)
  (none)
  (λa _=>some a)
  (λ_ _=>none)
  (none)
  (λ_ _ _ _ _=>none)
  (λ_ _ _ _=>none)
  (λ_ _ _ _ _=>none)
  (none)
  (λ_=>none)
  (none)
  (λ_ _ _ _ _=>none)
  (λ_ _=>none)
  (λ_ _=>none)
  (none)
  (λ_ _ _=>none)
  ⟨⟩ (λ_ _ _ _=>⟨⟩) v
def V.AR8(v:V):Option (List V):=
 V.rec (motive_1:=λ_=>Option (List V)) (motive_2:=λ_=>PUnit)
  (none)
  (λ_ _ _=>none)
  (λ_=>none)
  (λ_ _=>none)
  (none)
  (λ_ _=>none)
  (λ_ _=>none)
  (none)
  (λ_ _ _ _ _=>none)
  (λ_ _ _ _=>none)
  (λ_ _ _ _ _=>none)
  (none)
  (λ_=>none)
  (none)
  (λ_ _ _ _ _=>none)
  (λl _=>some l)
  (λ_ _=>none)
  (none)
  (λ_ _ _=>none)
  ⟨⟩ (λ_ _ _ _=>⟨⟩) v
def bG(H:Heap)(id:Nat):Bool:=Option.rec (motive:=λ_=>Bool) false
 (λb=>Sm.rec (motive:=λ_=>Bool) (λesz _ _=>TK (Nat.beq esz 1)) (λ_ _=>false) false (λ_ _ _ _ _=>false) (λ_=>false) b) (T.get H id)
def ANV(ok:Nat->Bool)(x y:V):Option Bool:=
 Option.rec (motive:=λ_=>Option Bool) none (λi=>Option.rec (motive:=λ_=>Option Bool) none (λj=>Bool.rec (motive:=λ_=>Option Bool) none (some false) (band (TK (Nat.beq i j)) (band (ok i) (ok j)))) y.AMS) x.AMS
def AFX(ok:Nat->Bool)(x y:V):Option Bool:=Option.rec (motive:=λ_=>Option Bool) (ANV ok x y) (λb=>some b) (AHm x y)
def CK.eqH(ok:Nat->Bool)(k:CK):V->V->Option Bool:=CK.rec (motive:=λ_=>V->V->Option Bool) AJS AIr AC0 (AFX ok) k
def zW(q:CK->V->V->Option Bool)(ks:List CK):List V->List V->Option Bool:=
 List.rec (motive:=λ_=>List V->List V->Option Bool) (λa b=>List.rec (motive:=λ_=>Option Bool) (List.rec (motive:=λ_=>Option Bool) (some true) (λ_ _ _=>none) b) (λ_ _ _=>none) a)
  (λk _ g a b=>List.rec (motive:=λ_=>Option Bool) none (λx xs _=>List.rec (motive:=λ_=>Option Bool) none (λy ys _=>VL (q k x y) λr=>VL (g xs ys) λr'=>some (band r r')) b) a) ks
def ABY(ok:Nat->Bool)(ks:List CK)(x y:V):Option Bool:=
 Option.rec (motive:=λ_=>Option Bool) none (λl=>Option.rec (motive:=λ_=>Option Bool) none (λm=>zW (CK.eqH ok) ks l m) y.AR8) x.AR8
inductive B2 where
 |add|sub|mul|quo|rem|and|or|xor|andNot|shl|shr|lss|leq|gtr|geq
def ACN(f:Int->Int->Bool)(x y:V):Option V:=x.Kv λk a s=>y.Kv λk' b t=>CG (band (keq k k') (Nat.beq (Nat.add s t) 0)) (mkB (f a b))
def AJC(f:Nat->Nat->Nat->Nat->Bool)(x y:V):Option V:=x.WZ λl c=>y.WZ λm d=>mkB (f l c m d)
def ari(f:Int->Int->Int)(x y:V):Option V:=x.Kv λk a s=>y.Kv λk' b t=>CG (keq k k') (mkI k (f a b) (Nat.add s t))
def dvs(f:Int->Int->Int)(x y:V):Option V:=
 x.Kv λk a s=>y.Kv λk' b t=>CG (band (keq k k') (band (Nat.beq t 0) (TK (ieq b 0)))) (mkI k (f a b) s)
def AUc(x y:V):Option V:=
 x.Kv λk a s=>y.Kv λk' b t=>CG (band (keq k k') (band (Nat.beq t 0) (TK (ieq b 0)))) (mkN k (Int.tmod a b) s)
def AXh(x y:V):Option V:=x.WZ λl c=>y.WZ λm d=>CG (Nat.blt (Nat.add l m) 9223372036854775808) (Et (Nat.add l m) λn=>Et (AXT l c d) λe=>some (.str n e))
def AVU(x y:V):Option V:=ACn (isStr x) (AXh x y) (ari AF7 x y)
def AXn(x y:V):Option V:=ari (λa b=>AF7 a (Int.neg b)) x y
def AX6(x y:V):Option V:=ari Int.mul x y
def AXj(k:IntKind)(a b:Int):Int:=Int.rec (motive:=λ_=>Int->IntKind->Int)
 (λm b k=>Int.rec (motive:=λ_=>Nat->IntKind->Int) (λn m k=>qF k (.ofNat (Nat.land m n))) (λn m k=>bits .and k (.ofNat m) (.negSucc n)) b m k)
 (λm b k=>bits .and k (.negSucc m) b) a b k
def AV4(x y:V):Option V:=x.Kv λk a s=>y.Kv λk' b t=>CG (band (keq k k') (Nat.beq (Nat.add s t) 0)) (Yz (AXj k a b) λm=>some (.int k m 0))
def AQm(o:BinOp)(x y:V):Option V:=x.Kv λk a s=>y.Kv λk' b t=>CG (band (keq k k') (Nat.beq (Nat.add s t) 0)) (Yz (bits o k a b) λm=>some (.int k m 0))
def AWy(a:Int)(n:Nat):Int:=Int.fdiv a (Int.ofNat (Nat.pow 2 n))
def AIw(k:IntKind):Nat:=IntKind.rec 8 16 32 64 8 16 32 64 k
def AUp(x y:V):Option V:=x.Kv λk a s=>y.Kv λ_ b t=>CG (band (TK (ilt b 0)) (Nat.beq (Nat.add s t) 0)) (Yz (AWy a (Nat.min (Int.toNat b) (AIw k))) λm=>some (.int k m 0))
def AU7(x y:V):Option V:=x.Kv λk a s=>y.Kv λ_ b t=>CG (band (TK (ilt b 0)) (Nat.beq (Nat.add s t) 0)) (mkI k (Int.mul a (Int.ofNat (Nat.pow 2 (Nat.min (Int.toNat b) (AIw k))))) 0)
def ofB(o:Option Bool):Option V:=Option.rec none mkB o
def EL(k:EK)(neg:Bool)(x y:V):Option V:=ofB (VL (k.eq x y) λb=>some (Bool.rec (motive:=λ_=>Bool->Bool) (λb=>b) TK neg b))
def AVp(ks:List CK)(neg:Bool)(x y:V)(H:Heap):Option V:=ofB (VL (ABY (bG H) ks x y) λb=>some (Bool.rec (motive:=λ_=>Bool->Bool) (λb=>b) TK neg b))
def AVR(x y:V):Option V:=ACn (isStr x) (AJC slt x y) (ACN ilt x y)
def AV9(x y:V):Option V:=ACn (isStr x) (AJC (λl c m d=>TK (slt m d l c)) x y) (ACN ile x y)
def AV3(x y:V):Option V:=ACn (isStr x) (AJC (λl c m d=>slt m d l c) x y) (ACN (λa b=>ilt b a) x y)
def AV5(x y:V):Option V:=ACn (isStr x) (AJC (λl c m d=>TK (slt l c m d)) x y) (ACN (λa b=>ile b a) x y)
def B2.ev(o:B2):V->V->Option V:=B2.rec (motive:=λ_=>V->V->Option V)
 AVU AXn AX6 (dvs Int.tdiv) AUc AV4 (AQm .or) (AQm .xor) (AQm .andNot) AU7 AUp AVR AV9 AV3 AV5 o
end Go.DW
namespace Go.RL
open Go.DW
def q0:P2:=.h
def q1:P2:=.z q0
def q2:P2:=.o q0
def q3:P2:=.z q1
def q4:P2:=.o q1
def q5:P2:=.z q2
def q6:P2:=.o q2
def q7:P2:=.z q3
def q8:P2:=.o q3
def q9:P2:=.z q4
def q10:P2:=.o q4
def q11:P2:=.z q5
def q12:P2:=.o q5
def q13:P2:=.z q6
def q14:P2:=.o q6
def q15:P2:=.z q7
def q16:P2:=.o q7
def q17:P2:=.z q8
def q18:P2:=.o q8
def q19:P2:=.z q9
def q20:P2:=.o q9
def q21:P2:=.z q10
def q22:P2:=.o q10
def q23:P2:=.z q11
def q24:P2:=.o q11
def q25:P2:=.z q12
def q26:P2:=.o q12
def q27:P2:=.z q13
def q28:P2:=.o q13
def q29:P2:=.z q14
def q30:P2:=.o q14
def q31:P2:=.z q15
def q32:P2:=.o q15
def q33:P2:=.z q16
def q34:P2:=.o q16
def q39:P2:=.z q19
def q40:P2:=.o q19
def q41:P2:=.z q20
def q43:P2:=.z q21
def q44:P2:=.o q21
def q45:P2:=.z q22
def q46:P2:=.o q22
def q52:P2:=.o q25
def q53:P2:=.z q26
def q54:P2:=.o q26
def q55:P2:=.z q27
def q56:P2:=.o q27
def q57:P2:=.z q28
def q58:P2:=.o q28
def q65:P2:=.z q32
def q66:P2:=.o q32
def q67:P2:=.z q33
def q68:P2:=.o q33
def q69:P2:=.z q34
def q92:P2:=.o q45
def q93:P2:=.z q46
def q94:P2:=.o q46
def AZe:P2:=.o q55
abbrev sO:Nat:=5
abbrev Ul:Nat:=13
abbrev Z4:Nat:=14
abbrev XU:Nat:=16
abbrev kS:Nat:=17
abbrev ZN:Nat:=19
abbrev jV:Nat:=20
abbrev BZ:Nat:=30
abbrev AEL:Nat:=36
abbrev dD:Nat:=37
abbrev Ez:Nat:=40
abbrev FI:Nat:=41
abbrev EI:Nat:=42
abbrev ES:Nat:=43
abbrev AZ:Nat:=44
abbrev ABr:Nat:=45
abbrev FP:Nat:=46
abbrev Eh:Nat:=47
abbrev Kr:Nat:=48
abbrev Oc:Nat:=50
abbrev Ho:Nat:=51
abbrev lI:Nat:=52
abbrev Ll:Nat:=53
abbrev Xf:Nat:=54
abbrev PX:Nat:=59
abbrev NC:Nat:=67
abbrev Vx:Nat:=68
abbrev Xe:Nat:=71
abbrev Gj:Nat:=77
abbrev AAr:Nat:=78
abbrev D7:Nat:=79
abbrev JX:Nat:=80
abbrev D5:Nat:=82
abbrev Ah:Nat:=83
abbrev Pq:Nat:=84
abbrev AFP:Nat:=85
abbrev ACK:Nat:=86
abbrev Cm:Nat:=87
abbrev OE:Nat:=88
abbrev Zj:Nat:=90
abbrev FY:Nat:=91
abbrev U6:Nat:=92
abbrev NY:Nat:=93
abbrev bI:Nat:=100
abbrev gy:Nat:=108
abbrev Xk:Nat:=110
abbrev Gw:Nat:=114
abbrev ADR:Nat:=115
abbrev RF:Nat:=122
abbrev OX:Nat:=123
abbrev Xm:Nat:=124
abbrev WR:Nat:=125
abbrev E5:Nat:=126
abbrev JD:Nat:=127
abbrev Ai:Nat:=128
abbrev BQ:Nat:=129
abbrev Q9:Nat:=130
abbrev Ou:Nat:=131
abbrev Jw:Nat:=132
abbrev CU:Nat:=133
abbrev JV:Nat:=134
abbrev CV:Nat:=135
abbrev D6:Nat:=136
abbrev OG:Nat:=137
abbrev VU:Nat:=141
abbrev qQ:Nat:=142
abbrev Sv:Nat:=143
abbrev Vw:Nat:=145
abbrev Aq:Nat:=146
abbrev ZG:Nat:=147
abbrev BN:Nat:=174
abbrev YT:Nat:=175
abbrev FK:Nat:=176
abbrev Cc:Nat:=177
abbrev Yd:Nat:=178
abbrev YH:Nat:=179
abbrev LC:Nat:=180
abbrev uF:Nat:=181
abbrev Ef:Nat:=182
abbrev TW:Nat:=183
abbrev ET:Nat:=184
abbrev Gz:Nat:=214
abbrev OZ:Nat:=215
abbrev Gt:Nat:=216
abbrev Ns:Nat:=217
abbrev dV:Nat:=218
abbrev ZB:Nat:=219
abbrev XI:Nat:=220
abbrev Ij:Nat:=221
abbrev ZK:Nat:=248
end Go.RL
namespace Go.DW
inductive AN where
 |mv (x:X)
 |pick (c a b:X)
 |ld1 (x:X)
 |ldn (n:Nat) (x:X)
 |APN (x:X)
 |bin (o:B2) (x y:X)
 |eq (k:EK) (neg:Bool) (x y:X)
 |not (x:X)
 |neg (x:X)
 |cvi (k:IntKind) (x:X)
 |AZr (f:Nat) (first caps:List X)
 |AXJ (off:Nat) (x:X)
 |field1 (off:Nat) (x:X)
 |AVB (off n:Nat) (x:X)
 |AX3 (esz:Nat) (x i:X)
 |AUn (n esz:Nat) (x i:X)
 |AZM (x i:X)
 |AZu (n:Nat) (x i:X)
 |ext (x:X) (i:Nat)
 |AXl (x:X)
 |AZj (x:X)
 |AXw (x:X)
 |AaJ (n:Nat)
 |look (c:CK) (ok:Bool) (zero:V) (m k:X)
 |build (zero:List V) (parts:List (Nat×Nat×X))
 |AYD (x:X) (lo hi:Option X)
 |slc (esz:Nat) (x:X) (lo hi mx:Option X)
 |AaD (n esz:Nat) (x:X) (lo hi:Option X)
 |AZh (x y:X)
 |AZp (x y:X)
 |cvS (x:X)
 |ARp (s c:X)
 |AJC (x y:X)
 |eqp (k:List CK) (neg:Bool) (x y:X)
inductive AA where
 |alloc (esz:Nat) (es:List (List V))
 |box (x:X)
 |AHW (esz cnt:Nat) (zero:List V) (parts:List (Nat×X))
 |ADm (esz bytes:Nat) (zero:List V) (l c:X)
 |APR
 |mO (t e:Nat)
inductive AE where
 |asg (x:X)
 |st (n:Nat) (x v:X)
 |app (esz bytes:Nat) (x y:X)
 |copy (esz:Nat) (x y:X)
 |AK9 (c:CK) (m k v:X)
 |del (c:CK) (m k:X)
 |AWr (m:X)
 |call (f:Nat) (args:List X)
 |AMm (x:X) (args:List X)
 |defer (dp:P2) (x:X) (args:List X)
 |cvB (x:X)
inductive AO where
 |n (o:AN)|a (o:AA)|e (o:AE)
inductive ug where
 |no|to (p:P2)|ps
inductive Gd where
 |no|on (x:X) (b:Bool)
inductive AOp where
 |mk (d:ug) (g:Gd) (o:AO)
def ATC(n:Int):(Nat->Option V)->Option V:=Int.rec (motive:=λ_=>(Nat->Option V)->Option V) (λm f=>f m) (λ_ _=>none) n
def Z5(v:V)(f:Nat->Option V):Option V:=v.Kv λ_ n s=>CG (Nat.beq s 0) (ATC n f)
def iO(x:Option X):RS->Nat->(Nat->Option V)->Option V:=
 Option.rec (motive:=λ_=>RS->Nat->(Nat->Option V)->Option V) (λ_ d f=>f d) (λx R _ f=>Z5 (x.ev R) f) x
def f3(a b c:Nat)(f:Nat->Nat->Nat->V):Option V:=Et a λa=>Et b λb=>Et c λc=>some (f a b c)
def AFH(R:RS)(lo hi mx:Option X):Option V:=iO mx R 0 λm=>iO hi R 0 λh=>iO lo R 0 λl=>CG (band (Nat.ble l h) (band (Nat.ble h m) (Nat.beq m 0))) (some .Ad)
def AKC(z:Nat)(R:RS)(lo hi mx:Option X)(id off ln cap esz:Nat):Option V:=CG (Nat.beq z esz) (iO mx R cap λm=>iO hi R ln λh=>iO lo R 0 λl=>
 CG (band (Nat.ble l h) (band (Nat.ble h m) (Nat.ble m cap))) (f3 (Nat.add off l) (Nat.sub h l) (Nat.sub m l) λo d c=>.sl id o d c esz))
def ADi(R:RS)(lo hi:Option X)(id off ln esz:Nat):Option V:=iO hi R ln λh=>iO lo R 0 λl=>
 CG (band (Nat.ble l h) (Nat.ble h ln)) (f3 (Nat.add off l) (Nat.sub h l) 0 λo d _=>.PU id o d esz)
def ADk(R:RS)(lo hi:Option X)(mx:X)(id off ln esz:Nat):Option V:=Z5 (mx.ev R) λm=>iO hi R 0 λh=>iO lo R 0 λl=>
 CG (band (Nat.ble l h) (band (Nat.ble h m) (Nat.ble m ln))) (f3 (Nat.add off l) (Nat.sub h l) (Nat.sub m l) λo d c=>.sl id o d c esz)
def ACW(z:Nat)(R:RS)(lo hi mx:Option X)(id off ln esz:Nat):Option V:=
 CG (Nat.beq z esz) (Option.rec (motive:=λ_=>Option V) (ADi R lo hi id off ln esz) (λmx=>ADk R lo hi mx id off ln esz) mx)
def AEN(z:Nat)(R:RS)(lo hi mx:Option X)(b off ln cap esz:Nat):Option V:=iO hi R ln λh=>iO lo R 0 λl=>
 Option.rec (motive:=λ_=>Option V) (CG (band (Nat.ble l h) (Nat.ble h cap)) (f3 (Nat.add off (Nat.mul l z)) (Nat.sub h l) (Nat.sub cap l) λo d c=>.rsl b o d c esz)) (λ_=>none) mx
def AEI(z:Nat)(x:V)(R:RS)(lo hi mx:Option X):Option V:=x.ASt (AFH R lo hi mx) (AKC z R lo hi mx) (ACW z R lo hi mx) (AEN z R lo hi mx)
def AM4(x:V)(R:RS)(lo hi:Option X):Option V:=
 x.WZ λln c=>iO hi R ln λh=>iO lo R 0 λl=>CG (band (Nat.ble l h) (Nat.ble h ln)) (f3 (Nat.sub h l) (AWo c l h) 0 λd c _=>.str d c)
def BD(esz:Nat)(x i:V):Option V:=Z5 i λi=>x.ASt none
 (λid off ln _ e=>CG (band (Nat.beq e esz) (Nat.blt i ln)) (Et (Nat.mul (Nat.add off i) esz) λo=>some (.ptr id o)))
 (λid off ln e=>CG (band (Nat.beq e esz) (Nat.blt i ln)) (Et (Nat.mul (Nat.add off i) esz) λo=>some (.ptr id o)))
 (λb off ln _ _=>CG (Nat.blt i ln) (Et (Nat.add off (Nat.mul i esz)) λo=>some (.gptr b o)))
def AU(off:Nat)(x:V):Option V:=x.AJv (λid o=>Et (Nat.add o off) λo=>some (.ptr id o)) (λb o=>Et (Nat.add o off) λo=>some (.gptr b o))
abbrev ME:=List (V×V×Nat)
def tJ(c:CK)(k:V)(es:ME):Nat->Option (Option (Nat×V)):=
 List.rec (motive:=λ_=>Nat->Option (Option (Nat×V))) (λ_=>some none)
  (λe _ g i=>Cb (c.eq e.1 k) λr=>Bool.rec (g (Nat.succ i)) (some (some (i,e.2.1))) r) es
def AWv(b:Sm):(ME->Nat->Option V)->Option V:=Sm.rec (motive:=λ_=>(ME->Nat->Option V)->Option V) (λ_ _ _ _=>none) (λes c f=>f es c) (λ_=>none) (λ_ _ _ _ _ _=>none) (λ_ _=>none) b
def Ug(H:Heap)(m:V)(f:ME->Nat->Option V):Option V:=m.AK4 (f [] 0) λid=>Option.rec (motive:=λ_=>(ME->Nat->Option V)->Option V) (λ_=>none) AWv (T.get H id) f
def ADC(parts:List (Nat×Nat×X)):RS->List V->List V:=
 List.rec (motive:=λ_=>RS->List V->List V) (λ_ l=>l) (λp _ g R l=>g R (ALk (Ba (p.2.2.ev R)) p.1 l)) parts
def jZ(v:V):Bool:=
 V.rec (motive_1:=λ_=>Bool) (motive_2:=λ_=>PUnit)
  (false)
  (λ_ _ _=>true)
  (λ_=>true)
  (λ_ _=>true)
  (true)
  (λ_ _=>true)
  (λ_ _=>true)
  (true)
  (λ_ _ _ _ _=>true)
  (λ_ _ _ _=>true)
  (λ_ _ _ _ _=>true)
  (true)
  (λ_=>true)
  (true)
  (λ_ _ _ _ _=>true)
  (λ_ _=>true)
  (λ_ _=>false)
  (true)
  (λ_ _ _=>true)
  ⟨⟩ (λ_ _ _ _=>⟨⟩) v
def nR(parts:List (Nat×Nat×X)):RS->Bool:=
 List.rec (motive:=λ_=>RS->Bool) (λ_=>true) (λp _ g R=>band (band (jZ (p.2.2.ev R)) (Nat.beq (len (Ba (p.2.2.ev R))) p.2.1)) (g R)) parts
abbrev DZ:=List LV
def DN(H:Heap)(id esz:Nat)(n:Nat):Nat->Option DZ:=
 Nat.rec (motive:=λ_=>Nat->Option DZ) (λ_=>some [])
  (λ_ g o=>Cb (yj H id (Nat.mul o esz) esz) λL=>Cb (g (Nat.succ o)) λLS=>some (L::LS)) n
def jT(G:AX)(b esz:Nat)(n:Nat):Nat->Option DZ:=
 Nat.rec (motive:=λ_=>Nat->Option DZ) (λ_=>some [])
  (λ_ g o=>Cb (G b o esz) λL=>Cb (g (Nat.add o esz)) λLS=>some (L::LS)) n
def dS(n:Nat):Nat->DZ:=
 Nat.rec (motive:=λ_=>Nat->DZ) (λ_=>[]) (λ_ g c=>[.int .u8 (.ofNat (Nat.mod c 256)) 0]::g (Nat.div c 256)) n
def elems(v:V):(AX)->(Heap)->(Nat)->Option DZ:=
 V.rec (motive_1:=λ_=>(AX)->(Heap)->(Nat)->Option DZ) (motive_2:=λ_=>PUnit)
  (λ_ _ _=>none)
  (λ_ _ _ _ _ _=>none)
  (λ_ _ _ _=>none)
  (λa b _ _ z=>Bool.rec (motive:=λ_=>Option DZ) none (some (dS a b)) (Nat.beq 1 z))
  (λ_ _ _=>none)
  (λ_ _ _ _ _=>none)
  (λ_ _ _ _ _=>none)
  (λ_ _ _=>some [])
  (λa b c _ e _ H z=>Bool.rec (motive:=λ_=>Option DZ) none (DN H a z c b) (Nat.beq e z))
  (λa b c d _ H z=>Bool.rec (motive:=λ_=>Option DZ) none (DN H a z c b) (Nat.beq d z))
  (λa b c _ _ G _ z=>jT G a z c b)
  (λ_ _ _=>none)
  (λ_ _ _ _=>none)
  (λ_ _ _=>none)
  (λ_ _ _ _ _ _ _ _=>none)
  (λ_ _ _ _ _=>none)
  (λ_ _ _ _ _=>none)
  (λ_ _ _=>none)
  (λ_ _ _ _ _ _=>none)
  ⟨⟩ (λ_ _ _ _=>⟨⟩) v
def byteOf(v:V):Option Nat:=
 V.rec (motive_1:=λ_=>Option Nat) (motive_2:=λ_=>PUnit)
  (none)
  (λa b c=>Int.rec (motive:=λ_=>Nat->Option Nat) (λm t=>Bool.rec none (some m) (band (Nat.beq (kno a) 4) (band (Nat.blt m 256) (Nat.beq t 0)))) (λ_ _=>none) b c)
  (λ_=>none)
  (λ_ _=>none)
  (none)
  (λ_ _=>none)
  (λ_ _=>none)
  (none)
  (λ_ _ _ _ _=>none)
  (λ_ _ _ _=>none)
  (λ_ _ _ _ _=>none)
  (none)
  (λ_=>none)
  (none)
  (λ_ _ _ _ _=>none)
  (λ_ _=>none)
  (λ_ _=>none)
  (none)
  (λ_ _ _=>none)
  ⟨⟩ (λ_ _ _ _=>⟨⟩) v
def yg(l:DZ):Option Nat:=
 List.rec (motive:=λ_=>Option Nat) (some 0) (λx _ g=>Cb (nth x 0) λv=>Cb (byteOf v) λm=>Cb g λc=>some (Nat.add m (Nat.mul 256 c))) l
def AEA(b:Nat)(f:Nat):Nat->Nat->Int:=
 Nat.rec (motive:=λ_=>Nat->Nat->Int) (λ_ _=>.negSucc 0)
  (λ_ g c i=>Bool.rec (g (Nat.div c 256) (Nat.succ i)) (.ofNat i) (Nat.beq (Nat.mod c 256) b)) f
abbrev sS:=AX->RS->Heap->Option V
def eMv(x:X):sS:=λ_ R _=>some (x.ev R)
def AL7(c a b:X):sS:=λ_ R _=>(c.ev R).wG λt=>ACn t (some (a.ev R)) (some (b.ev R))
def ASx(x:X):sS:=λG R H=>XT (ldP (x.ev R) G H 1) λL=>nth L 0
def ASU(n:Nat)(x:X):sS:=λG R H=>XT (ldP (x.ev R) G H n) λL=>some (.agg L)
def AHL(x:X):sS:=λ_ R _=>Ap (x.ev R)
def ARN(o:B2)(x y:X):sS:=λ_ R _=>o.ev (x.ev R) (y.ev R)
def eEq(k:EK)(neg:Bool)(x y:X):sS:=λ_ R _=>EL k neg (x.ev R) (y.ev R)
def ASl(x:X):sS:=λ_ R _=>(x.ev R).wG λb=>mkB (TK b)
def ARw(x:X):sS:=λ_ R _=>(x.ev R).Kv λk n s=>mkI k (Int.neg n) s
def ASX(k:IntKind)(x:X):sS:=λ_ R _=>(x.ev R).Kv λ_ n s=>mkI k n s
def AMf(f:Nat)(a c:List X):sS:=λ_ R _=>some (.fn f (lK a R) (lK c R))
def AHu(off:Nat)(x:X):sS:=λ_ R _=>AU off (x.ev R)
def ADu(off:Nat)(x:X):sS:=λ_ R _=>(x.ev R).ADH λl=>nth l off
def ADw(off n:Nat)(x:X):sS:=λ_ R _=>(x.ev R).ADH λl=>some (.agg (dU n (uO off l)))
def AH2(esz:Nat)(x i:X):sS:=λ_ R _=>BD esz (x.ev R) (i.ev R)
def AD7(n esz:Nat)(x i:X):sS:=λ_ R _=>Z5 (i.ev R) λi=>CG (Nat.blt i n) (AU (Nat.mul i esz) (x.ev R))
def AMB(x i:X):sS:=λ_ R _=>(x.ev R).WZ λln c=>Z5 (i.ev R) λi=>CG (Nat.blt i ln) (Et (AQD c i) λb=>some (.int .u8 (.ofNat b) 0))
def AMJ(n:Nat)(x i:X):sS:=λ_ R _=>(x.ev R).ADH λl=>Z5 (i.ev R) λi=>CG (Nat.blt i n) (nth l i)
def ATB(x:X)(i:Nat):sS:=λ_ R _=>(x.ev R).AJx λl=>nth l i
def AL3(x:X):sS:=λ_ R _=>(x.ev R).WZ λn _=>some (.int .i64 (.ofNat n) 0)
def AMX(x:X):sS:=λ_ R _=>lenV (x.ev R)
def AMc(x:X):sS:=λ_ R H=>Ug H (x.ev R) λes _=>Et (len es) λn=>some (.int .i64 (.ofNat n) 0)
def AXa(n:Nat):sS:=λ_ _ _=>some (.int .i64 (.ofNat n) 0)
def AMt(ok:Bool)(z:V)(r:Option (Nat×V)):Option V:=
 Option.rec (motive:=λ_=>Option V) (ACn ok (some (.Io [z,.bool false])) (some z)) (λp=>ACn ok (some (.Io [p.2,.bool true])) (some p.2)) r
def AMd(c:CK)(ok:Bool)(z:V)(m k:X):sS:=λ_ R H=>Ug H (m.ev R) λes _=>Cb (tJ c (k.ev R) es 0) (AMt ok z)
def AID(z:LV)(ps:List (Nat×Nat×X)):sS:=λ_ R _=>CG (nR ps R) (some (.agg (ADC ps R z)))
def AFE(x:X)(lo hi:Option X):sS:=λ_ R _=>AM4 (x.ev R) R lo hi
def ASd(z:Nat)(x:X)(lo hi mx:Option X):sS:=λ_ R _=>AEI z (x.ev R) R lo hi mx
def AMQ(n esz:Nat)(x:X)(lo hi:Option X):sS:=λ_ R _=>(x.ev R).AJv (λid o=>iO hi R n λh=>iO lo R 0 λl=>
 CG (band (Nat.beq (Nat.mod o esz) 0) (band (Nat.ble l h) (Nat.ble h n))) (f3 (Nat.add (Nat.div o esz) l) (Nat.sub h l) (Nat.sub n l) λa b c=>.sl id a b c esz)) (λ_ _=>none)
def ATA(x y:X):sS:=λ_ R _=>(x.ev R).Kv λk a s=>(y.ev R).Kv λk' b t=>CG (band (keq k k') (Nat.beq (Nat.add s t) 0)) (some (.int k (Bool.rec a b (ilt a b)) 0))
def ARU(x y:X):sS:=λ_ R _=>(x.ev R).Kv λk a s=>(y.ev R).Kv λk' b t=>CG (band (keq k k') (Nat.beq (Nat.add s t) 0)) (some (.int k (Bool.rec a b (ilt b a)) 0))
def ATH(x:X):sS:=λG R H=>CG (TK (isStr (x.ev R))) (Cb (elems (x.ev R) G H 1) λl=>Cb (yg l) λc=>f3 (len l) c 0 λn c _=>.str n c)
def AH4(s c:X):sS:=λ_ R _=>(s.ev R).WZ λn cd=>(c.ev R).Kv λk b _=>CG (Nat.beq (kno k) 4) (ATC b λb=>CG (Nat.blt b 256) (Yz (AEA b n cd 0) λi=>some (.int .i64 i 0)))
def AJo(x y:V):Option V:=x.WZ λl c=>y.WZ λm d=>some (.int .i64 (Bool.rec (Bool.rec (.ofNat 0) (.ofNat 1) (slt m d l c)) (.negSucc 0) (slt l c m d)) 0)
def ASN(k:List CK)(neg:Bool)(x y:X):sS:=λ_ R H=>AVp k neg (x.ev R) (y.ev R) H
def ALx(x y:X):sS:=λ_ R _=>AJo (x.ev R) (y.ev R)
def AN.ev(o:AN):sS:=AN.rec (motive:=λ_=>sS)
 eMv AL7 ASx ASU AHL ARN eEq ASl ARw ASX AMf AHu ADu ADw AH2 AD7 AMB AMJ ATB AL3 AMX AMc AXa AMd AID AFE ASd AMQ ATA ARU ATH AH4 ALx ASN o
def ALh(L:LV)(n:Nat):T LV->T LV:=
 Nat.rec (motive:=λ_=>T LV->T LV) (λt=>t) (λi g t=>g (T.set t i L)) n
def Ic(LS:DZ):Nat->T LV->T LV:=
 List.rec (motive:=λ_=>Nat->T LV->T LV) (λ_ t=>t) (λL _ g i t=>g (Nat.succ i) (T.set t i L)) LS
def pq(parts:List (Nat×X)):RS->T LV->T LV:=
 List.rec (motive:=λ_=>RS->T LV->T LV) (λ_ t=>t) (λp _ g R t=>g R (T.set t p.1 (Ba (p.2.ev R)))) parts
def aS(parts:List (Nat×X)):RS->Nat->Nat->Bool:=
 List.rec (motive:=λ_=>RS->Nat->Nat->Bool) (λ_ _ _=>true) (λp _ g R esz cnt=>band (band (jZ (p.2.ev R)) (band (Nat.blt p.1 cnt) (Nat.beq (len (Ba (p.2.ev R))) esz))) (g R esz cnt)) parts
def V.AOo(v:V):(Nat->Prop)->Prop:=
 V.rec (motive_1:=λ_=>(Nat->Prop)->Prop) (motive_2:=λ_=>PUnit)
  (λ_=>False)
  (λ_ _ _ _=>False)
  (λ_ _=>False)
  (λ_ _ _=>False)
  (λ_=>False)
  (λa _ f=>f a)
  (λ_ _ _=>False)
  (λ_=>False)
  (λ_ _ _ _ _ _=>False)
  (λ_ _ _ _ _=>False)
  (λ_ _ _ _ _ _=>False)
  (λ_=>False)
  (λ_ _=>False)
  (λ_=>False)
  (λ_ _ _ _ _ _=>False)
  (λ_ _ _=>False)
  (λ_ _ _=>False)
  (λ_=>False)
  (λ_ _ _ _=>False)
  ⟨⟩ (λ_ _ _ _=>⟨⟩) v
def V.AD1(v:V):(Nat->Nat->Prop)->Prop:=
 V.rec (motive_1:=λ_=>(Nat->Nat->Prop)->Prop) (motive_2:=λ_=>PUnit)
  (λ_=>False)
  (λ_ _ _ _=>False)
  (λ_ _=>False)
  (λ_ _ _=>False)
  (λ_=>False)
  (λa b f=>f a b)
  (λ_ _ _=>False)
  (λ_=>False)
  (λ_ _ _ _ _ _=>False)
  (λ_ _ _ _ _=>False)
  (λ_ _ _ _ _ _=>False)
  (λ_=>False)
  (λ_ _=>False)
  (λ_=>False)
  (λ_ _ _ _ _ _=>False)
  (λ_ _ _=>False)
  (λ_ _ _=>False)
  (λ_=>False)
  (λ_ _ _ _=>False)
  ⟨⟩ (λ_ _ _ _=>⟨⟩) v
abbrev KA:=Sm->(Nat->V)->Prop
abbrev AlT:=RS->KA->Prop
def ER(b:Bool)(p:Prop):Prop:=Bool.rec (motive:=λ_=>Prop->Prop) (λ_=>False) (λp=>p) b p
def AHg(v:V)(f:Nat->Prop):Prop:=Ei (Z5 v λn=>some (.ptr n 0)) λv=>V.AOo v f
def Au(esz:Nat)(es:DZ):AlT:=λ_ k=>FT (len es) λn=>k (.arr esz n (Ic es 0 .e)) λid=>.ptr id 0
def AF3(x:X):AlT:=λR k=>ER (jZ (x.ev R)) (FT (len (Ba (x.ev R))) λe=>k (.arr e 1 (T.set .e 0 (Ba (x.ev R)))) λid=>.ptr id 0)
def Af(esz cnt:Nat)(z:LV)(ps:List (Nat×X)):AlT:=λR k=>ER (aS ps R esz cnt) (k (.arr esz cnt (pq ps R (ALh z cnt .e))) λid=>.sl id 0 cnt cnt esz)
def Vg(esz bs:Nat)(z:LV)(l c:X):AlT:=λR k=>AHg (l.ev R) λl=>AHg (c.ev R) λc=>
 ER (band (Nat.ble l c) (Nat.ble (Nat.mul bs c) 281474976710656)) (k (.arr esz c (ALh z c .e)) λid=>.sl id 0 l c esz)
def AHv:AlT:=λ_ k=>k (.map [] 0) λid=>.map id
def AaH(t e:Nat):AlT:=λ_ k=>k (.mO t e 0 0 0) λid=>.ptr id 0
def AA.al(o:AA):AlT:=AA.rec (motive:=λ_=>AlT) Au AF3 Af Vg AHv AaH o
abbrev K:=LW->Heap->Nat->Prop
abbrev KV:=V->Heap->Nat->Prop
abbrev BG:=Nat->List V->Heap->Nat->KV->Prop
def UU(need bytes:Nat):Bool:=Nat.ble (Nat.mul need bytes) 140737488355328
abbrev ALw:=AX->Nat->Nat->DZ->Heap->Nat->KV->Prop
def N7(esz bs:Nat)(OS LS:DZ)(H:Heap)(n:Nat)(k:KV):Prop:=
 FT (Nat.add (len OS) (len LS)) λneed=>ER (UU need bs) (FT n λn=>k (.PU n 0 need esz) (T.set H n (.arr esz need (Ic LS (len OS) (Ic OS 0 .e)))) (Nat.succ n))
def AUd:ALw:=λ_ esz bs LS H n k=>List.rec (motive:=λ_=>Prop) (k .Ad H n) (λ_ _ _=>N7 esz bs [] LS H n k) LS
def yc(id off ln cap esz need:Nat)(LS:DZ)(H:Heap)(n:Nat)(k:KV)(b:Sm):Prop:=
 Sm.rec (motive:=λ_=>Prop) (λesz' cnt c=>ER (band (Nat.beq esz esz') (Nat.ble (Nat.add off need) cnt)) (k (.sl id off need cap esz) (T.set H id (.arr esz cnt (Ic LS (Nat.add off ln) c))) n)) (λ_ _=>False) False (λ_ _ _ _ _=>False) (λ_=>False) b
def ATw(id off ln cap e:Nat):ALw:=λ_ esz bs LS H n k=>ER (Nat.beq e esz) (FT (Nat.add ln (len LS)) λneed=>
 Bool.rec (motive:=λ_=>Prop) (Ei (DN H id esz ln off) λOS=>N7 esz bs OS LS H n k) (Ei (T.get H id) λb=>yc id off ln cap esz need LS H n k b) (Nat.ble need cap))
def gI(id off ln esz bs:Nat)(LS:DZ)(H:Heap)(n:Nat)(k:KV)(b:Sm):Prop:=
 Sm.rec (motive:=λ_=>Prop) (λesz' cnt c=>FT (Nat.add ln (len LS)) λneed=>ER (band (UU need bs) (band (Nat.beq esz esz') (Nat.ble (Nat.add off ln) cnt)))
  (FT n λn=>Nat.rec (motive:=λ_=>Prop)
   (k (.PU n 0 need esz) (T.set (T.set H id .dead) n (.arr esz need (Ic LS ln c))) (Nat.succ n))
   (λ_ _=>Ei (DN H id esz ln off) λOS=>k (.PU n 0 need esz) (T.set (T.set H id .dead) n (.arr esz need (Ic LS ln (Ic OS 0 .e)))) (Nat.succ n)) off))
  (λ_ _=>False) False (λ_ _ _ _ _=>False) (λ_=>False) b
def APc(id off ln e:Nat):ALw:=λ_ esz bs LS H n k=>ER (Nat.beq e esz) (List.rec (motive:=λ_=>Prop) (k (.PU id off ln esz) H n)
 (λ_ _ _=>Ei (T.get H id) λb=>gI id off ln esz bs LS H n k b) LS)
def AOi(b off ln cap e:Nat):ALw:=λG esz bs LS H n k=>ER (Nat.blt cap (Nat.add ln (len LS))) (Ei (jT G b esz ln off) λOS=>N7 esz bs OS LS H n k)
def bW:ALw:=λ_ _ _ _ _ _ _=>False
def AHK(v:V):ALw:=
 V.rec (motive_1:=λ_=>ALw) (motive_2:=λ_=>PUnit)
  (bW)
  (λ_ _ _=>bW)
  (λ_=>bW)
  (λ_ _=>bW)
  (bW)
  (λ_ _=>bW)
  (λ_ _=>bW)
  (AUd)
  (λa b c d e=>ATw a b c d e)
  (λa b c d=>APc a b c d)
  (λa b c d e=>AOi a b c d e)
  (bW)
  (λ_=>bW)
  (bW)
  (λ_ _ _ _ _=>bW)
  (λ_ _=>bW)
  (λ_ _=>bW)
  (bW)
  (λ_ _ _=>bW)
  ⟨⟩ (λ_ _ _ _=>⟨⟩) v
def AVn(id off esz:Nat)(LS:DZ)(H:Heap)(n:Nat)(k:KV)(b:Sm):Prop:=
 Sm.rec (motive:=λ_=>Prop) (λesz' cnt c=>ER (band (Nat.beq esz esz') (Nat.ble (Nat.add off (len LS)) cnt)) (FT (len LS) λm=>k (.int .i64 (.ofNat m) 0) (T.set H id (.arr esz cnt (Ic LS off c))) n)) (λ_ _=>False) False (λ_ _ _ _ _=>False) (λ_=>False) b
abbrev CpT:=Nat->DZ->Heap->Nat->KV->Prop
def AEh(id off ln:Nat):CpT:=λesz LS H n k=>Ei (T.get H id) λb=>AVn id off esz (dU ln LS) H n k b
def AJr(v:V):(Nat)->(DZ)->(Heap)->(Nat)->(KV)->Prop:=
 V.rec (motive_1:=λ_=>(Nat)->(DZ)->(Heap)->(Nat)->(KV)->Prop) (motive_2:=λ_=>PUnit)
  (λ_ _ _ _ _=>False)
  (λ_ _ _ _ _ _ _ _=>False)
  (λ_ _ _ _ _ _=>False)
  (λ_ _ _ _ _ _ _=>False)
  (λ_ _ _ _ _=>False)
  (λ_ _ _ _ _ _ _=>False)
  (λ_ _ _ _ _ _ _=>False)
  (λ_ _ H n k=>k (.int .i64 (.ofNat 0) 0) H n)
  (λa b c _ e z L H n k=>ER (Nat.beq e z) (AEh a b c z L H n k))
  (λa b c d z L H n k=>ER (Nat.beq d z) (AEh a b c z L H n k))
  (λ_ _ _ _ _ _ _ _ _ _=>False)
  (λ_ _ _ _ _=>False)
  (λ_ _ _ _ _ _=>False)
  (λ_ _ _ _ _=>False)
  (λ_ _ _ _ _ _ _ _ _ _=>False)
  (λ_ _ _ _ _ _ _=>False)
  (λ_ _ _ _ _ _ _=>False)
  (λ_ _ _ _ _=>False)
  (λ_ _ _ _ _ _ _ _=>False)
  ⟨⟩ (λ_ _ _ _=>⟨⟩) v
def AFc{α:Type}(l:List α):Nat->List α:=
 List.rec (motive:=λ_=>Nat->List α) (λ_=>[]) (λy ys g i=>Nat.rec (motive:=λ_=>List α) ys (λi _=>y::g i) i) l
def ATv(b:Sm):(ME->Nat->Option Sm)->Option Sm:=Sm.rec (motive:=λ_=>(ME->Nat->Option Sm)->Option Sm) (λ_ _ _ _=>none) (λes c f=>f es c) (λ_=>none) (λ_ _ _ _ _ _=>none) (λ_ _=>none) b
def AYW(H:Heap)(id:Nat)(f:ME->Nat->Option Sm)(g:Heap->Prop):Prop:=Ei (T.get H id) λb=>Ei (ATv b f) λb=>g (T.set H id b)
def AFp(v:V):(Heap)->(ME->Nat->Option Sm)->(Heap->Prop)->Prop:=
 V.rec (motive_1:=λ_=>(Heap)->(ME->Nat->Option Sm)->(Heap->Prop)->Prop) (motive_2:=λ_=>PUnit)
  (λ_ _ _=>False)
  (λ_ _ _ _ _ _=>False)
  (λ_ _ _ _=>False)
  (λ_ _ _ _ _=>False)
  (λ_ _ _=>False)
  (λ_ _ _ _ _=>False)
  (λ_ _ _ _ _=>False)
  (λ_ _ _=>False)
  (λ_ _ _ _ _ _ _ _=>False)
  (λ_ _ _ _ _ _ _=>False)
  (λ_ _ _ _ _ _ _ _=>False)
  (λ_ _ _=>False)
  (λa H f g=>AYW H a f g)
  (λ_ _ _=>False)
  (λ_ _ _ _ _ _ _ _=>False)
  (λ_ _ _ _ _=>False)
  (λ_ _ _ _ _=>False)
  (λ_ _ _=>False)
  (λ_ _ _ _ _ _=>False)
  ⟨⟩ (λ_ _ _ _=>⟨⟩) v
def V.ZO(v:V):(Nat->LV->LV->Prop)->Prop:=
 V.rec (motive_1:=λ_=>(Nat->LV->LV->Prop)->Prop) (motive_2:=λ_=>PUnit)
  (λ_=>False)
  (λ_ _ _ _=>False)
  (λ_ _=>False)
  (λ_ _ _=>False)
  (λ_=>False)
  (λ_ _ _=>False)
  (λ_ _ _=>False)
  (λ_=>False)
  (λ_ _ _ _ _ _=>False)
  (λ_ _ _ _ _=>False)
  (λ_ _ _ _ _ _=>False)
  (λ_=>False)
  (λ_ _=>False)
  (λ_=>False)
  (λa b c _ _ f=>f a b c)
  (λ_ _ _=>False)
  (λ_ _ _=>False)
  (λ_=>False)
  (λ_ _ _ _=>False)
  ⟨⟩ (λ_ _ _ _=>⟨⟩) v
def AJu(v:V):LV:=
 V.rec (motive_1:=λ_=>LV) (motive_2:=λ_=>PUnit)
  ([])
  (λ_ _ _=>[])
  (λ_=>[])
  (λ_ _=>[])
  ([])
  (λ_ _=>[])
  (λ_ _=>[])
  ([])
  (λ_ _ _ _ _=>[])
  (λ_ _ _ _=>[])
  (λ_ _ _ _ _=>[])
  ([])
  (λ_=>[])
  ([])
  (λ_ _ _ _ _=>[])
  (λ_ _=>[])
  (λa _=>a)
  ([])
  (λ_ _ _=>[])
  ⟨⟩ (λ_ _ _ _=>⟨⟩) v
abbrev ExT:=AX->BG->RS->Heap->Nat->KV->Prop
def AY4(x:X):ExT:=λ_ _ R H n k=>k (x.ev R) H n
def xSt(sz:Nat)(x v:X):ExT:=λ_ _ R H n k=>ER (band (jZ (v.ev R)) (Nat.beq (len (Ba (v.ev R))) sz)) (Ei (stP (x.ev R) H sz (Ba (v.ev R))) λH=>k .undef H n)
def AZ8(esz bs:Nat)(x y:X):ExT:=λG _ R H n k=>Ei (elems (y.ev R) G H esz) λLS=>AHK (x.ev R) G esz bs LS H n k
def AXy(esz:Nat)(x y:X):ExT:=λG _ R H n k=>Ei (elems (y.ev R) G H esz) λLS=>AJr (x.ev R) esz LS H n k
def AKZ(ck:CK)(key v:V)(es:ME)(c:Nat):Option Sm:=Cb (tJ ck key es 0) λr=>
 Option.rec (motive:=λ_=>Option Sm) (some (.map (cat es [(key,v,c)]) (Nat.succ c))) (λp=>Cb (nth es p.1) λe=>some (.map (mQ (e.1,v,e.2.2) es p.1) c)) r
def AVa(ck:CK)(key:V)(es:ME)(c:Nat):Option Sm:=Cb (tJ ck key es 0) λr=>
 Option.rec (motive:=λ_=>Option Sm) (some (.map es c)) (λp=>some (.map (AFc es p.1) c)) r
def AZ3(c:CK)(m key v:X):ExT:=λ_ _ R H n k=>AFp (m.ev R) H (AKZ c (key.ev R) (v.ev R)) λH=>k .undef H n
def AZ4(c:CK)(m key:X):ExT:=λ_ _ R H n k=>AFp (m.ev R) H (AVa c (key.ev R)) λH=>k (.Io []) H n
def AZH(m:X):ExT:=λ_ _ R H n k=>AFp (m.ev R) H (λ_ c=>some (.map [] c)) λH=>k (.Io []) H n
def AXz(f:Nat)(args:List X):ExT:=λ_ call R H n k=>call f (lK args R) H n k
def AUf(x:X)(args:List X):ExT:=λ_ call R H n k=>V.ZO (x.ev R) λf a c=>call f (cat a (cat (lK args R) c)) H n k
def AU6(dp:P2)(x:X)(args:List X):ExT:=λ_ _ R H n k=>V.ZO (x.ev R) λf a c=>k (.Io (.fn f (cat a (lK args R)) c::AJu (PD (T.FN dp R.rg)))) H n
def AaI(x:X):ExT:=λ_ _ R H n k=>Ei ((x.ev R).WZ λl c=>some (.ptr l c)) λv=>V.AD1 v λl c=>
 FT n λn=>k (.PU n 0 l 1) (T.set H n (.arr 1 l (Ic (dS l c) 0 .e))) (Nat.succ n)
def AE.ex(o:AE):ExT:=AE.rec (motive:=λ_=>ExT) AY4 xSt AZ8 AXy AZ3 AZ4 AZH AXz AUf AU6 AaI o
def AaB(p:P2)(v:V)(E:RS):RS:=RS.rec (motive:=λ_=>P2->V->RS) (λL R p v=>.mk L (T.fB v p R)) E p v
def AYd(v:V)(E:RS):RS:=RS.rec (motive:=λ_=>V->RS) (λL R v=>.mk (v::L) R) E v
def IQ(d:ug)(v:V):RS->RS:=ug.rec (motive:=λ_=>V->RS->RS) (λ_ R=>R) AaB AYd d v
abbrev KE:=RS->Heap->Nat->Prop
abbrev XoT:=AX->BG->ug->RS->Heap->Nat->KE->Prop
def oN(o:AN):XoT:=λG _ d R H n k=>AP (o.ev G R H) λv=>k (IQ d v R) H n
def oA(o:AA):XoT:=λ_ _ d R H n k=>o.al R λb f=>FT n λn=>k (IQ d (f n) R) (T.set H n b) (Nat.succ n)
def oE(o:AE):XoT:=λG call d R H n k=>o.ex G call R H n λv H n=>k (IQ d v R) H n
def AO.ex(o:AO):XoT:=AO.rec (motive:=λ_=>XoT) oN oA oE o
def Ae(v:V)(b:Bool)(yes no:Prop):Prop:=v.AMF λt=>Bool.rec (motive:=λ_=>Prop->Prop->Prop) (λ_ n=>n) (λy _=>y) (AO1 t b) yes no
def qy(v:V):(Bool)->(Prop)->(Prop)->Prop:=
 V.rec (motive_1:=λ_=>(Bool)->(Prop)->(Prop)->Prop) (motive_2:=λ_=>PUnit)
  (λ_ _ _=>False)
  (λ_ _ _ _ _ _=>False)
  (λa b' yes no=>Bool.rec (motive:=λ_=>Prop->Prop->Prop) (λ_ n=>n) (λy _=>y) (AO1 a b') yes no)
  (λ_ _ _ _ _=>False)
  (λ_ _ _=>False)
  (λ_ _ _ _ _=>False)
  (λ_ _ _ _ _=>False)
  (λ_ _ _=>False)
  (λ_ _ _ _ _ _ _ _=>False)
  (λ_ _ _ _ _ _ _=>False)
  (λ_ _ _ _ _ _ _ _=>False)
  (λ_ _ _=>False)
  (λ_ _ _ _=>False)
  (λ_ _ _=>False)
  (λ_ _ _ _ _ _ _ _=>False)
  (λ_ _ _ _ _=>False)
  (λa _ _ _ no=>List.rec (motive:=λ_=>Prop) no (λ_ _ _=>False) a)
  (λ_ _ _=>False)
  (λ_ _ _ _ _ _=>False)
  ⟨⟩ (λ_ _ _ _=>⟨⟩) v
abbrev XpT:=AX->BG->RS->Heap->Nat->KE->Prop
def gNo(d:ug)(o:AO):XpT:=λG call R H n k=>o.ex G call d R H n k
def gOn(x:X)(b:Bool)(d:ug)(o:AO):XpT:=λG call R H n k=>qy (x.ev R) b (o.ex G call d R H n k) (k (IQ d (.Io []) R) H n)
def AOp.ex(o:AOp):XpT:=AOp.rec (motive:=λ_=>XpT) (λd g o=>Gd.rec (motive:=λ_=>ug->AO->XpT) gNo gOn g d o) o
def AM8(v:V):(IntKind)->(Int)->(Nat)->Bool:=
 V.rec (motive_1:=λ_=>(IntKind)->(Int)->(Nat)->Bool) (motive_2:=λ_=>PUnit)
  (λ_ _ _=>false)
  (λa b c k n s=>band (keq k a) (band (ieq n b) (band (Nat.beq s 0) (Nat.beq c 0))))
  (λ_ _ _ _=>false)
  (λ_ _ _ _ _=>false)
  (λ_ _ _=>false)
  (λ_ _ _ _ _=>false)
  (λ_ _ _ _ _=>false)
  (λ_ _ _=>false)
  (λ_ _ _ _ _ _ _ _=>false)
  (λ_ _ _ _ _ _ _=>false)
  (λ_ _ _ _ _ _ _ _=>false)
  (λ_ _ _=>false)
  (λ_ _ _ _=>false)
  (λ_ _ _=>false)
  (λ_ _ _ _ _ _ _ _=>false)
  (λ_ _ _ _ _=>false)
  (λ_ _ _ _ _=>false)
  (λ_ _ _=>false)
  (λ_ _ _ _ _ _=>false)
  ⟨⟩ (λ_ _ _ _=>⟨⟩) v
def AEP(v:V):(Bool)->Bool:=
 V.rec (motive_1:=λ_=>(Bool)->Bool) (motive_2:=λ_=>PUnit)
  (λ_=>false)
  (λ_ _ _ _=>false)
  (λa x=>AO1 x a)
  (λ_ _ _=>false)
  (λ_=>false)
  (λ_ _ _=>false)
  (λ_ _ _=>false)
  (λ_=>false)
  (λ_ _ _ _ _ _=>false)
  (λ_ _ _ _ _=>false)
  (λ_ _ _ _ _ _=>false)
  (λ_=>false)
  (λ_ _=>false)
  (λ_=>false)
  (λ_ _ _ _ _ _=>false)
  (λ_ _ _=>false)
  (λ_ _ _=>false)
  (λ_=>false)
  (λ_ _ _ _=>false)
  ⟨⟩ (λ_ _ _ _=>⟨⟩) v
def AMP(v:V):(Nat)->(Nat)->Bool:=
 V.rec (motive_1:=λ_=>(Nat)->(Nat)->Bool) (motive_2:=λ_=>PUnit)
  (λ_ _=>false)
  (λ_ _ _ _ _=>false)
  (λ_ _ _=>false)
  (λa b l m=>band (Nat.beq l a) (Nat.beq m b))
  (λ_ _=>false)
  (λ_ _ _ _=>false)
  (λ_ _ _ _=>false)
  (λ_ _=>false)
  (λ_ _ _ _ _ _ _=>false)
  (λ_ _ _ _ _ _=>false)
  (λ_ _ _ _ _ _ _=>false)
  (λ_ _=>false)
  (λ_ _ _=>false)
  (λ_ _=>false)
  (λ_ _ _ _ _ _ _=>false)
  (λ_ _ _ _=>false)
  (λ_ _ _ _=>false)
  (λ_ _=>false)
  (λ_ _ _ _ _=>false)
  ⟨⟩ (λ_ _ _ _=>⟨⟩) v
def AHA(v:V):Bool:=
 V.rec (motive_1:=λ_=>Bool) (motive_2:=λ_=>PUnit)
  (false)
  (λ_ _ _=>false)
  (λ_=>false)
  (λ_ _=>false)
  (true)
  (λ_ _=>false)
  (λ_ _=>false)
  (false)
  (λ_ _ _ _ _=>false)
  (λ_ _ _ _=>false)
  (λ_ _ _ _ _=>false)
  (false)
  (λ_=>false)
  (false)
  (λ_ _ _ _ _=>false)
  (λ_ _=>false)
  (λ_ _=>false)
  (false)
  (λ_ _ _=>false)
  ⟨⟩ (λ_ _ _ _=>⟨⟩) v
def AIU(v:V):Bool:=
 V.rec (motive_1:=λ_=>Bool) (motive_2:=λ_=>PUnit)
  (false)
  (λ_ _ _=>false)
  (λ_=>false)
  (λ_ _=>false)
  (false)
  (λ_ _=>false)
  (λ_ _=>false)
  (true)
  (λ_ _ _ _ _=>false)
  (λ_ _ _ _=>false)
  (λ_ _ _ _ _=>false)
  (false)
  (λ_=>false)
  (false)
  (λ_ _ _ _ _=>false)
  (λ_ _=>false)
  (λ_ _=>false)
  (false)
  (λ_ _ _=>false)
  ⟨⟩ (λ_ _ _ _=>⟨⟩) v
def AIA(v:V):Bool:=
 V.rec (motive_1:=λ_=>Bool) (motive_2:=λ_=>PUnit)
  (false)
  (λ_ _ _=>false)
  (λ_=>false)
  (λ_ _=>false)
  (false)
  (λ_ _=>false)
  (λ_ _=>false)
  (false)
  (λ_ _ _ _ _=>false)
  (λ_ _ _ _=>false)
  (λ_ _ _ _ _=>false)
  (true)
  (λ_=>false)
  (false)
  (λ_ _ _ _ _=>false)
  (λ_ _=>false)
  (λ_ _=>false)
  (false)
  (λ_ _ _=>false)
  ⟨⟩ (λ_ _ _ _=>⟨⟩) v
def AHr(v:V):Bool:=
 V.rec (motive_1:=λ_=>Bool) (motive_2:=λ_=>PUnit)
  (false)
  (λ_ _ _=>false)
  (λ_=>false)
  (λ_ _=>false)
  (false)
  (λ_ _=>false)
  (λ_ _=>false)
  (false)
  (λ_ _ _ _ _=>false)
  (λ_ _ _ _=>false)
  (λ_ _ _ _ _=>false)
  (false)
  (λ_=>false)
  (true)
  (λ_ _ _ _ _=>false)
  (λ_ _=>false)
  (λ_ _=>false)
  (false)
  (λ_ _ _=>false)
  ⟨⟩ (λ_ _ _ _=>⟨⟩) v
def AOc(v:V):(Nat)->(Nat)->Bool:=
 V.rec (motive_1:=λ_=>(Nat)->(Nat)->Bool) (motive_2:=λ_=>PUnit)
  (λ_ _=>false)
  (λ_ _ _ _ _=>false)
  (λ_ _ _=>false)
  (λ_ _ _ _=>false)
  (λ_ _=>false)
  (λa b l m=>band (Nat.beq l a) (Nat.beq m b))
  (λ_ _ _ _=>false)
  (λ_ _=>false)
  (λ_ _ _ _ _ _ _=>false)
  (λ_ _ _ _ _ _=>false)
  (λ_ _ _ _ _ _ _=>false)
  (λ_ _=>false)
  (λ_ _ _=>false)
  (λ_ _=>false)
  (λ_ _ _ _ _ _ _=>false)
  (λ_ _ _ _=>false)
  (λ_ _ _ _=>false)
  (λ_ _=>false)
  (λ_ _ _ _ _=>false)
  ⟨⟩ (λ_ _ _ _=>⟨⟩) v
def AK6(v:V):(Nat)->(Nat)->Bool:=
 V.rec (motive_1:=λ_=>(Nat)->(Nat)->Bool) (motive_2:=λ_=>PUnit)
  (λ_ _=>false)
  (λ_ _ _ _ _=>false)
  (λ_ _ _=>false)
  (λ_ _ _ _=>false)
  (λ_ _=>false)
  (λ_ _ _ _=>false)
  (λa b l m=>band (Nat.beq l a) (Nat.beq m b))
  (λ_ _=>false)
  (λ_ _ _ _ _ _ _=>false)
  (λ_ _ _ _ _ _=>false)
  (λ_ _ _ _ _ _ _=>false)
  (λ_ _=>false)
  (λ_ _ _=>false)
  (λ_ _=>false)
  (λ_ _ _ _ _ _ _=>false)
  (λ_ _ _ _=>false)
  (λ_ _ _ _=>false)
  (λ_ _=>false)
  (λ_ _ _ _ _=>false)
  ⟨⟩ (λ_ _ _ _=>⟨⟩) v
def APB(v:V):(Nat)->Bool:=
 V.rec (motive_1:=λ_=>(Nat)->Bool) (motive_2:=λ_=>PUnit)
  (λ_=>false)
  (λ_ _ _ _=>false)
  (λ_ _=>false)
  (λ_ _ _=>false)
  (λ_=>false)
  (λ_ _ _=>false)
  (λ_ _ _=>false)
  (λ_=>false)
  (λ_ _ _ _ _ _=>false)
  (λ_ _ _ _ _=>false)
  (λ_ _ _ _ _ _=>false)
  (λ_=>false)
  (λa l=>Nat.beq l a)
  (λ_=>false)
  (λ_ _ _ _ _ _=>false)
  (λ_ _ _=>false)
  (λ_ _ _=>false)
  (λ_=>false)
  (λ_ _ _ _=>false)
  ⟨⟩ (λ_ _ _ _=>⟨⟩) v
def APA(v:V):(Nat)->(Nat)->(Nat)->(Nat)->(Nat)->Bool:=
 V.rec (motive_1:=λ_=>(Nat)->(Nat)->(Nat)->(Nat)->(Nat)->Bool) (motive_2:=λ_=>PUnit)
  (λ_ _ _ _ _=>false)
  (λ_ _ _ _ _ _ _ _=>false)
  (λ_ _ _ _ _ _=>false)
  (λ_ _ _ _ _ _ _=>false)
  (λ_ _ _ _ _=>false)
  (λ_ _ _ _ _ _ _=>false)
  (λ_ _ _ _ _ _ _=>false)
  (λ_ _ _ _ _=>false)
  (λa b c d e i j k l m=>band (Nat.beq i a) (band (Nat.beq j b) (band (Nat.beq k c) (band (Nat.beq l d) (Nat.beq m e)))))
  (λ_ _ _ _ _ _ _ _ _=>false)
  (λ_ _ _ _ _ _ _ _ _ _=>false)
  (λ_ _ _ _ _=>false)
  (λ_ _ _ _ _ _=>false)
  (λ_ _ _ _ _=>false)
  (λ_ _ _ _ _ _ _ _ _ _=>false)
  (λ_ _ _ _ _ _ _=>false)
  (λ_ _ _ _ _ _ _=>false)
  (λ_ _ _ _ _=>false)
  (λ_ _ _ _ _ _ _ _=>false)
  ⟨⟩ (λ_ _ _ _=>⟨⟩) v
def AKF(v:V):(Nat)->(Nat)->(Nat)->(Nat)->Bool:=
 V.rec (motive_1:=λ_=>(Nat)->(Nat)->(Nat)->(Nat)->Bool) (motive_2:=λ_=>PUnit)
  (λ_ _ _ _=>false)
  (λ_ _ _ _ _ _ _=>false)
  (λ_ _ _ _ _=>false)
  (λ_ _ _ _ _ _=>false)
  (λ_ _ _ _=>false)
  (λ_ _ _ _ _ _=>false)
  (λ_ _ _ _ _ _=>false)
  (λ_ _ _ _=>false)
  (λ_ _ _ _ _ _ _ _ _=>false)
  (λa b c d i j k l=>band (Nat.beq i a) (band (Nat.beq j b) (band (Nat.beq k c) (Nat.beq l d))))
  (λ_ _ _ _ _ _ _ _ _=>false)
  (λ_ _ _ _=>false)
  (λ_ _ _ _ _=>false)
  (λ_ _ _ _=>false)
  (λ_ _ _ _ _ _ _ _ _=>false)
  (λ_ _ _ _ _ _=>false)
  (λ_ _ _ _ _ _=>false)
  (λ_ _ _ _=>false)
  (λ_ _ _ _ _ _ _=>false)
  ⟨⟩ (λ_ _ _ _=>⟨⟩) v
def AIj(v:V):(Nat)->(Nat)->(Nat)->(Nat)->(Nat)->Bool:=
 V.rec (motive_1:=λ_=>(Nat)->(Nat)->(Nat)->(Nat)->(Nat)->Bool) (motive_2:=λ_=>PUnit)
  (λ_ _ _ _ _=>false)
  (λ_ _ _ _ _ _ _ _=>false)
  (λ_ _ _ _ _ _=>false)
  (λ_ _ _ _ _ _ _=>false)
  (λ_ _ _ _ _=>false)
  (λ_ _ _ _ _ _ _=>false)
  (λ_ _ _ _ _ _ _=>false)
  (λ_ _ _ _ _=>false)
  (λ_ _ _ _ _ _ _ _ _ _=>false)
  (λ_ _ _ _ _ _ _ _ _=>false)
  (λa b c d e i j k l m=>band (Nat.beq i a) (band (Nat.beq j b) (band (Nat.beq k c) (band (Nat.beq l d) (Nat.beq m e)))))
  (λ_ _ _ _ _=>false)
  (λ_ _ _ _ _ _=>false)
  (λ_ _ _ _ _=>false)
  (λ_ _ _ _ _ _ _ _ _ _=>false)
  (λ_ _ _ _ _ _ _=>false)
  (λ_ _ _ _ _ _ _=>false)
  (λ_ _ _ _ _=>false)
  (λ_ _ _ _ _ _ _ _=>false)
  ⟨⟩ (λ_ _ _ _=>⟨⟩) v
def NK(v:V):(V)->Bool:=
 V.rec (motive_1:=λ_=>(V)->Bool) (motive_2:=λ_=>PUnit)
  (λ_=>false)
  (λa b c y=>AM8 y a b c)
  (λa y=>AEP y a)
  (λa b y=>AMP y a b)
  (λy=>AHA y)
  (λa b y=>AOc y a b)
  (λa b y=>AK6 y a b)
  (λy=>AIU y)
  (λa b c d e y=>APA y a b c d e)
  (λa b c d y=>AKF y a b c d)
  (λa b c d e y=>AIj y a b c d e)
  (λy=>AIA y)
  (λa y=>APB y a)
  (λy=>AHr y)
  (λ_ _ _ _ _ _=>false)
  (λ_ _ _=>false)
  (λ_ _ _=>false)
  (λ_=>false)
  (λ_ _ _ _=>false)
  ⟨⟩ (λ_ _ _ _=>⟨⟩) v
def ACU(a:List V):List V->Bool:=
 List.rec (motive:=λ_=>List V->Bool) (λb=>List.rec (motive:=λ_=>Bool) true (λ_ _ _=>false) b)
  (λx _ g b=>List.rec (motive:=λ_=>Bool) false (λy ys _=>band (NK x y) (g ys)) b) a
def ATQ(v:V):(LV)->Bool:=
 V.rec (motive_1:=λ_=>(LV)->Bool) (motive_2:=λ_=>PUnit)
  (λ_=>false)
  (λ_ _ _ _=>false)
  (λ_ _=>false)
  (λ_ _ _=>false)
  (λ_=>false)
  (λ_ _ _=>false)
  (λ_ _ _=>false)
  (λ_=>false)
  (λ_ _ _ _ _ _=>false)
  (λ_ _ _ _ _=>false)
  (λ_ _ _ _ _ _=>false)
  (λ_=>false)
  (λ_ _=>false)
  (λ_=>false)
  (λ_ _ _ _ _ _=>false)
  (λa _ l=>ACU l a)
  (λ_ _ _=>false)
  (λ_=>false)
  (λ_ _ _ _=>false)
  ⟨⟩ (λ_ _ _ _=>⟨⟩) v
def AT5(v:V):(LV)->Bool:=
 V.rec (motive_1:=λ_=>(LV)->Bool) (motive_2:=λ_=>PUnit)
  (λ_=>false)
  (λ_ _ _ _=>false)
  (λ_ _=>false)
  (λ_ _ _=>false)
  (λ_=>false)
  (λ_ _ _=>false)
  (λ_ _ _=>false)
  (λ_=>false)
  (λ_ _ _ _ _ _=>false)
  (λ_ _ _ _ _=>false)
  (λ_ _ _ _ _ _=>false)
  (λ_=>false)
  (λ_ _=>false)
  (λ_=>false)
  (λ_ _ _ _ _ _=>false)
  (λ_ _ _=>false)
  (λa _ l=>ACU l a)
  (λ_=>false)
  (λ_ _ _ _=>false)
  ⟨⟩ (λ_ _ _ _=>⟨⟩) v
def AI5(v:V):Bool:=
 V.rec (motive_1:=λ_=>Bool) (motive_2:=λ_=>PUnit)
  (true)
  (λ_ _ _=>false)
  (λ_=>false)
  (λ_ _=>false)
  (false)
  (λ_ _=>false)
  (λ_ _=>false)
  (false)
  (λ_ _ _ _ _=>false)
  (λ_ _ _ _=>false)
  (λ_ _ _ _ _=>false)
  (false)
  (λ_=>false)
  (false)
  (λ_ _ _ _ _=>false)
  (λ_ _=>false)
  (λ_ _=>false)
  (false)
  (λ_ _ _=>false)
  ⟨⟩ (λ_ _ _ _=>⟨⟩) v
def Aw(v:V):(V)->Bool:=
 V.rec (motive_1:=λ_=>(V)->Bool) (motive_2:=λ_=>PUnit)
  (λy=>AI5 y)
  (λa b c y=>AM8 y a b c)
  (λa y=>AEP y a)
  (λa b y=>AMP y a b)
  (λy=>AHA y)
  (λa b y=>AOc y a b)
  (λa b y=>AK6 y a b)
  (λy=>AIU y)
  (λa b c d e y=>APA y a b c d e)
  (λa b c d y=>AKF y a b c d)
  (λa b c d e y=>AIj y a b c d e)
  (λy=>AIA y)
  (λa y=>APB y a)
  (λy=>AHr y)
  (λ_ _ _ _ _ _=>false)
  (λa _ y=>ATQ y a)
  (λa _ y=>AT5 y a)
  (λ_=>false)
  (λ_ _ _ _=>false)
  ⟨⟩ (λ_ _ _ _=>⟨⟩) v
inductive AI where
 |op (o:AOp)
 |re (d:P2) (g:Gd) (o:AN)
inductive AC where
 |skip
 |ops (l:List AOp)
 |reg (l:List AI)
 |seq (a b:AC)
 |cond (x:X) (a b:AC)
 |block (id:Nat) (c:AC)
 |loop (c:AC)
 |exit (id:Nat)
 |ret
def TS(l:List AOp):XpT:=
 List.rec (motive:=λ_=>XpT) (λ_ _ R H n k=>k R H n) (λo _ g G call R H n k=>o.ex G call R H n λR H n=>g G call R H n k) l
abbrev ReT:=AX->RS->Heap->P2->AN->Prop->Prop
def AXG:ReT:=λG R H d o k=>AP (o.ev G R H) λv=>ER (Aw v (PD (T.FN d R.rg))) k
def AaC(x:X)(b:Bool):ReT:=λG R H d o k=>qy (x.ev R) b (AP (o.ev G R H) λv=>ER (Aw v (PD (T.FN d R.rg))) k) k
def AWE(g:Gd):ReT:=Gd.rec (motive:=λ_=>ReT) AXG AaC g
def AI.ex(i:AI):XpT:=AI.rec (motive:=λ_=>XpT) (λo=>o.ex) (λd g o G _ R H n k=>AWE g G R H d o (k R H n)) i
def DY(l:List AI):XpT:=
 List.rec (motive:=λ_=>XpT) (λ_ _ R H n k=>k R H n) (λi _ g G call R H n k=>i.ex G call R H n λR H n=>g G call R H n k) l
abbrev KX:=Nat->K
abbrev M:=AX->BG->Nat->LW->Heap->Nat->K->KX->K->Prop
def APz:M:=λ_ _ _ R H n k _ _=>k R H n
def ASf(l:List AOp):M:=λG call _ R H n k _ _=>TS l G call (.mk [] R) H n λE H n=>k E.rg H n
def ASH(l:List AI):M:=λG call _ R H n k _ _=>DY l G call (.mk [] R) H n λE H n=>k E.rg H n
def AQB(_ _:AC)(a b:M):M:=λG call lf R H n k x r=>a G call lf R H n (λR H n=>b G call lf R H n k x r) x r
def AJX(c:X)(_ _:AC)(a b:M):M:=λG call lf R H n k x r=>Ae (c.ev (.mk [] R)) true (a G call lf R H n k x r) (b G call lf R H n k x r)
def Ja(id:Nat)(k:K)(x:KX):KX:=λi R H n=>Bool.rec (motive:=λ_=>Prop->Prop->Prop) (λa _=>a) (λ_ b=>b) (Nat.beq i id) (x i R H n) (k R H n)
def AFg(id:Nat)(_:AC)(a:M):M:=λG call lf R H n k x r=>a G call lf R H n k (Ja id k x) r
def ZM(a:M)(G:AX)(call:BG)(lf0 lf:Nat):LW->Heap->Nat->KX->K->Prop:=
 Nat.rec (motive:=λ_=>LW->Heap->Nat->KX->K->Prop) (λ_ _ _ _ _=>False) (λ_ g R H n x r=>a G call lf0 R H n (λR H n=>g R H n x r) x r) lf
def AYJ(_:AC)(a:M):M:=λG call lf R H n _ x r=>ZM a G call lf lf R H n x r
def APP(id:Nat):M:=λ_ _ _ R H n _ x _=>x id R H n
def AU3:M:=λ_ _ _ R H n _ _ r=>r R H n
def AC.ex(c:AC):M:=AC.rec (motive:=λ_=>M) APz ASf ASH AQB AJX AFg AYJ APP AU3 c
inductive AR where
 |tmp (p:P2)|cell1 (p:P2)|celln (p:P2) (n:Nat)
inductive Nk where
 |join|rep|wstr (t e:Nat)|bstr (t e:Nat)
inductive AF where
 |mk (np:Nat) (code:AC) (res:List AR) (dp:ug) (dg:Nat)
 |nat (k:Nk)
def AR.get(r:AR):AX->LW->Heap->Option V:=
 AR.rec (motive:=λ_=>AX->LW->Heap->Option V) (λp _ R _=>some (PD (T.FN p R))) (λp G R H=>XT (ldP (PD (T.FN p R)) G H 1) λL=>nth L 0)
  (λp n G R H=>XT (ldP (PD (T.FN p R)) G H n) λL=>some (.agg L)) r
def ADJ(l:List AR):AX->LW->Heap->Option LV:=
 List.rec (motive:=λ_=>AX->LW->Heap->Option LV) (λ_ _ _=>some []) (λr _ g G R H=>Cb (r.get G R H) λv=>Cb (g G R H) λvs=>some (v::vs)) l
def DX(l:List V):V:=List.rec (motive:=λ_=>V) (V.Io []) (λv vs _=>List.rec (motive:=λ_=>V) v (λw ws _=>V.Io (v::w::ws)) vs) l
def lN(args:List V):Nat->LW->LW:=
 List.rec (motive:=λ_=>Nat->LW->LW) (λ_ R=>R) (λv _ g i R=>g (Nat.succ i) (T.set R i v)) args
def WM(dg:Nat)(l:List V):BG->Heap->Nat->(Heap->Nat->Prop)->Prop:=
 List.rec (motive:=λ_=>BG->Heap->Nat->(Heap->Nat->Prop)->Prop) (λ_ H n k=>k H n)
  (λv _ g call H n k=>V.ZO v λf a c=>ER (Nat.beq f dg) (call f (cat a c) H n λ_ H n=>g call H n k)) l
def AFl(res:List AR)(G:AX)(k:KV):K:=λR H n=>Ei (ADJ res G R H) λl=>k (DX l) H n
def LZ(res:List AR)(dg:Nat)(d:ug):AX->BG->KV->K:=
 ug.rec (motive:=λ_=>AX->BG->KV->K) (λG _ k=>AFl res G k) (λp G call k R H n=>WM dg (AJu (PD (T.FN p R))) call H n λH n=>AFl res G k R H n) (λG _ k=>AFl res G k) d
def AO0(p q:Nat×Nat):Nat×Nat:=(p.1+q.1,p.2+256^p.1*q.2)
def ATh:DZ->Option (List (Nat×Nat))
 |[]=>some []
 |[.str l c]::r=>match ATh r with|some x=>some ((l,c)::x)|none=>none
 |_::_=>none
def APd(s:Nat×Nat):List (Nat×Nat)->Nat×Nat
 |[]=>(0,0)
 |a::r=>r.foldl (λp q=>AO0 (AO0 p s) q) a
def AV7(s:Nat×Nat):Nat->Nat×Nat
 |0=>(0,0)
 |n+1=>AO0 s (AV7 s n)
def ARO:Nat:=140737488355328
def AMs(x y:V)(G:AX)(H:Heap)(n:Nat)(k:KV):Prop:=
 match y with
 |.str sl sc=>ER (TK (isStr x)) <| Ei (elems x G H 1) λLS=>Ei (ATh LS) λss=>ER (decide (ss.length<=ARO/\(APd (sl,sc) ss).1<=ARO)) (k (.str (APd (sl,sc) ss).1 (APd (sl,sc) ss).2) H n)
 |_=>False
def APQ(x y:V)(H:Heap)(n:Nat)(k:KV):Prop:=
 match x,y with
 |.str l c,.int .i64 (.ofNat m) _=>ER (decide (m<=9223372036854775807/\l*m<=ARO)) (k (.str (AV7 (l,c) m).1 (AV7 (l,c) m).2) H n)
 |_,_=>False
def AMI(t e:Nat)(x y:V)(H:Heap)(n:Nat)(k:KV):Prop:=
 match x,y with
 |.ptr id 0,.str m d=>(match T.get H id with
  |some (.mO t' e' l c j)=>ER (decide (t'=t/\e'=e/\l+m<=ARO)) (k (.Io [.int .i64 (.ofNat m) 0,.AQ0]) (T.set (T.set (bif decide (l=0)then H else T.set H j .dead) n (.own id)) id (.mO t e (AO0 (l,c) (m,d)).1 (AO0 (l,c) (m,d)).2 n)) (n+1))
  |_=>False)
 |_,_=>False
def AMh(t e:Nat)(x:V)(H:Heap)(n:Nat)(k:KV):Prop:=
 match x with
 |.ptr id 0=>(match T.get H id with
  |some (.mO t' e' l c _)=>ER (decide (t'=t/\e'=e)) (k (.str l c) (T.set H id .dead) n)
  |_=>False)
 |_=>False
def AAA(f:Nk)(G:AX)(args:List V)(H:Heap)(n:Nat)(k:KV):Prop:=
 match f,args with
 |.join,[x,y]=>AMs x y G H n k
 |.rep,[x,y]=>APQ x y H n k
 |.wstr t e,[x,y]=>AMI t e x y H n k
 |.bstr t e,[x]=>AMh t e x H n k
 |_,_=>False
def noX:KX:=λ_ _ _ _=>False
def qL(f:AF):AX->BG->Nat->List V->Heap->Nat->KV->Prop:=
 AF.rec (motive:=λ_=>AX->BG->Nat->List V->Heap->Nat->KV->Prop) (λnp code res d dg G call lf args H n k=>ER (Nat.beq (len args) np) (code.ex G call lf (lN args 0 .e) H n (LZ res dg d G call k) noX (LZ res dg d G call k))) (λf G _ _ args H n k=>AAA f G args H n k) f
def run(F:T AF)(G:AX)(lf:Nat)(fuel:Nat):BG:=
 Nat.rec (motive:=λ_=>BG) (λ_ _ _ _ _=>False) (λ_ call f args H n k=>Ei (T.get F f) λaf=>qL af G call lf args H n k) fuel
end Go.DW
