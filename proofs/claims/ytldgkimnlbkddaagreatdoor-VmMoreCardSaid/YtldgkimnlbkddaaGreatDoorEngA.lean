/- Part of a proof; nothing is assumed. -/
import Derived.Calls
import Derived.Defers
import Derived.Orders
import Derived.KernelRfl
import Derived.Laws.Entries
set_option linter.unusedVariables false
set_option linter.unusedSimpArgs false
noncomputable section
namespace Go.Bf
inductive P2 where
 |h|z (p:P2)|o (p:P2)
deriving DecidableEq
inductive T(α:Type)where
 |e|n (v:Option α) (l r:T α)
def T.val{α:Type}(t:T α):Option α:=T.rec none (λv _ _ _ _=>v) t
def T.left{α:Type}(t:T α):T α:=T.rec .e (λ_ l _ _ _=>l) t
def T.right{α:Type}(t:T α):T α:=T.rec .e (λ_ _ r _ _=>r) t
def T.Du{α:Type}(p:P2):T α->Option α:=
 P2.rec (motive:=λ_=>T α->Option α) T.val (λ_ g t=>g t.left) (λ_ g t=>g t.right) p
def T.iP{α:Type}(x:α)(p:P2):T α->T α:=
 P2.rec (motive:=λ_=>T α->T α) (λt=>.n (some x) t.left t.right)
  (λ_ g t=>.n t.val (g t.left) t.right) (λ_ g t=>.n t.val t.left (g t.right)) p
def AVX(f:Nat):Nat->P2:=
 Nat.rec (motive:=λ_=>Nat->P2) (λ_=>.h)
  (λ_ g k=>Nat.rec (motive:=λ_=>P2) .h
   (λm _=>Bool.rec (P2.o (g (Nat.div m 2))) (P2.z (g (Nat.div m 2))) (Nat.beq (Nat.mod m 2) 0)) k) f
def PK(k:Nat):P2:=AVX (Nat.succ k) k
def T.get{α:Type}(t:T α)(k:Nat):Option α:=T.Du (PK k) t
def T.set{α:Type}(t:T α)(k:Nat)(x:α):T α:=T.iP x (PK k) t
inductive V where
 |undef
 |int (k:IntKind) (n:Int) (s:Nat)
 |bool (b:Bool)
 |str (len code:Nat)
 |Bo|ptr (id off:Nat)|gptr (b off:Nat)
 |Ad|sl (id off len cap esz:Nat)|F9 (id off len esz:Nat)|rsl (b off len cap esz:Nat)
 |AL6|map (id:Nat)
 |Aav|fn (f:Nat) (first caps:List V)
 |agg (cs:List V)
 |Dl (vs:List V)
 |AWW|iface (t:Nat) (v:V)
inductive Nu where
 |arr (esz cnt:Nat) (c:T (List V))
 |map (es:List (V×V×Nat)) (clock:Nat)
 |dead
 |qU (t e l c j:Nat)
 |own (b:Nat)
abbrev Heap:=T Nu
abbrev Ih:=T V
abbrev AY:=Nat->Nat->Nat->Option (List V)
inductive X where
 |r (p:P2)|c (v:V)|s (i:Nat)
def Ls(o:Option V):V:=Option.rec V.undef (λv=>v) o
def AWj(l:List V):Nat->V:=
 List.rec (motive:=λ_=>Nat->V) (λ_=>.undef) (λx _ g i=>Nat.rec (motive:=λ_=>V) x (λi _=>g i) i) l
inductive RS where
 |mk (L:List V) (R:Ih)
def RS.st(E:RS):List V:=RS.rec (λL _=>L) E
def RS.rg(E:RS):Ih:=RS.rec (λ_ R=>R) E
def X.ev(x:X):RS->V:=X.rec (motive:=λ_=>RS->V) (λp E=>Ls (T.Du p E.rg)) (λv _=>v) (λi E=>AWj E.st i) x
def V.Iq(v:V):(IntKind->Int->Nat->Option V)->Option V:=
 V.rec (motive_1:=λ_=>(IntKind->Int->Nat->Option V)->Option V) (motive_2:=λ_=>PUnit)
  (λ_=>none)
  (λa b c f=>f a b c)
  (λ_ _=>none)
  (λ_ _ _=>none)
  (λ_=>none)
  (λ_ _ _=>none)
  (λ_ _ _=>none)
  (λ_=>none)
  (λ_ _ _ _ _ _=>none)
  (λ_ _ _ _ _=>none)
  (λ_ _ _ _ _ _=>none)
  (λ_=>none)
  (λ_ _=>none)
  (λ_=>none)
  (λ_ _ _ _ _ _=>none)
  (λ_ _ _=>none)
  (λ_ _ _=>none)
  (λ_=>none)
  (λ_ _ _ _=>none)
  ⟨⟩ (λ_ _ _ _=>⟨⟩) v
def V.yG(v:V):(Bool->Option V)->Option V:=
 V.rec (motive_1:=λ_=>(Bool->Option V)->Option V) (motive_2:=λ_=>PUnit)
  (λ_=>none)
  (λ_ _ _ _=>none)
  (λa f=>f a)
  (λ_ _ _=>none)
  (λ_=>none)
  (λ_ _ _=>none)
  (λ_ _ _=>none)
  (λ_=>none)
  (λ_ _ _ _ _ _=>none)
  (λ_ _ _ _ _=>none)
  (λ_ _ _ _ _ _=>none)
  (λ_=>none)
  (λ_ _=>none)
  (λ_=>none)
  (λ_ _ _ _ _ _=>none)
  (λ_ _ _=>none)
  (λ_ _ _=>none)
  (λ_=>none)
  (λ_ _ _ _=>none)
  ⟨⟩ (λ_ _ _ _=>⟨⟩) v
def V.ATt(v:V):(Bool->Prop)->Prop:=
 V.rec (motive_1:=λ_=>(Bool->Prop)->Prop) (motive_2:=λ_=>PUnit)
  (λ_=>False)
  (λ_ _ _ _=>False)
  (λa f=>f a)
  (λ_ _ _=>False)
  (λ_=>False)
  (λ_ _ _=>False)
  (λ_ _ _=>False)
  (λ_=>False)
  (λ_ _ _ _ _ _=>False)
  (λ_ _ _ _ _=>False)
  (λ_ _ _ _ _ _=>False)
  (λ_=>False)
  (λ_ _=>False)
  (λ_=>False)
  (λ_ _ _ _ _ _=>False)
  (λ_ _ _=>False)
  (λ_ _ _=>False)
  (λ_=>False)
  (λ_ _ _ _=>False)
  ⟨⟩ (λ_ _ _ _=>⟨⟩) v
def V.VK(v:V):(Nat->Nat->Option V)->Option V:=
 V.rec (motive_1:=λ_=>(Nat->Nat->Option V)->Option V) (motive_2:=λ_=>PUnit)
  (λ_=>none)
  (λ_ _ _ _=>none)
  (λ_ _=>none)
  (λa b f=>f a b)
  (λ_=>none)
  (λ_ _ _=>none)
  (λ_ _ _=>none)
  (λ_=>none)
  (λ_ _ _ _ _ _=>none)
  (λ_ _ _ _ _=>none)
  (λ_ _ _ _ _ _=>none)
  (λ_=>none)
  (λ_ _=>none)
  (λ_=>none)
  (λ_ _ _ _ _ _=>none)
  (λ_ _ _=>none)
  (λ_ _ _=>none)
  (λ_=>none)
  (λ_ _ _ _=>none)
  ⟨⟩ (λ_ _ _ _=>⟨⟩) v
def V.AGP(v:V):(List V->Option V)->Option V:=
 V.rec (motive_1:=λ_=>(List V->Option V)->Option V) (motive_2:=λ_=>PUnit)
  (λ_=>none)
  (λ_ _ _ _=>none)
  (λ_ _=>none)
  (λ_ _ _=>none)
  (λ_=>none)
  (λ_ _ _=>none)
  (λ_ _ _=>none)
  (λ_=>none)
  (λ_ _ _ _ _ _=>none)
  (λ_ _ _ _ _=>none)
  (λ_ _ _ _ _ _=>none)
  (λ_=>none)
  (λ_ _=>none)
  (λ_=>none)
  (λ_ _ _ _ _ _=>none)
  (λa _ f=>f a)
  (λ_ _ _=>none)
  (λ_=>none)
  (λ_ _ _ _=>none)
  ⟨⟩ (λ_ _ _ _=>⟨⟩) v
def V.AQC(v:V):(List V->Option V)->Option V:=
 V.rec (motive_1:=λ_=>(List V->Option V)->Option V) (motive_2:=λ_=>PUnit)
  (λ_=>none)
  (λ_ _ _ _=>none)
  (λ_ _=>none)
  (λ_ _ _=>none)
  (λ_=>none)
  (λ_ _ _=>none)
  (λ_ _ _=>none)
  (λ_=>none)
  (λ_ _ _ _ _ _=>none)
  (λ_ _ _ _ _=>none)
  (λ_ _ _ _ _ _=>none)
  (λ_=>none)
  (λ_ _=>none)
  (λ_=>none)
  (λ_ _ _ _ _ _=>none)
  (λ_ _ _=>none)
  (λa _ f=>f a)
  (λ_=>none)
  (λ_ _ _ _=>none)
  ⟨⟩ (λ_ _ _ _=>⟨⟩) v
def V.AQb(v:V):(Nat->Nat->Option V)->(Nat->Nat->Option V)->Option V:=
 V.rec (motive_1:=λ_=>(Nat->Nat->Option V)->(Nat->Nat->Option V)->Option V) (motive_2:=λ_=>PUnit)
  (λ_ _=>none)
  (λ_ _ _ _ _=>none)
  (λ_ _ _=>none)
  (λ_ _ _ _=>none)
  (λ_ _=>none)
  (λa b f _=>f a b)
  (λa b _ g=>g a b)
  (λ_ _=>none)
  (λ_ _ _ _ _ _ _=>none)
  (λ_ _ _ _ _ _=>none)
  (λ_ _ _ _ _ _ _=>none)
  (λ_ _=>none)
  (λ_ _ _=>none)
  (λ_ _=>none)
  (λ_ _ _ _ _ _ _=>none)
  (λ_ _ _ _=>none)
  (λ_ _ _ _=>none)
  (λ_ _=>none)
  (λ_ _ _ _ _=>none)
  ⟨⟩ (λ_ _ _ _=>⟨⟩) v
def V.ATT(v:V):(Option V)->(Nat->Option V)->Option V:=
 V.rec (motive_1:=λ_=>(Option V)->(Nat->Option V)->Option V) (motive_2:=λ_=>PUnit)
  (λ_ _=>none)
  (λ_ _ _ _ _=>none)
  (λ_ _ _=>none)
  (λ_ _ _ _=>none)
  (λ_ _=>none)
  (λ_ _ _ _=>none)
  (λ_ _ _ _=>none)
  (λ_ _=>none)
  (λ_ _ _ _ _ _ _=>none)
  (λ_ _ _ _ _ _=>none)
  (λ_ _ _ _ _ _ _=>none)
  (λz _=>z)
  (λa _ f=>f a)
  (λ_ _=>none)
  (λ_ _ _ _ _ _ _=>none)
  (λ_ _ _ _=>none)
  (λ_ _ _ _=>none)
  (λ_ _=>none)
  (λ_ _ _ _ _=>none)
  ⟨⟩ (λ_ _ _ _=>⟨⟩) v
def V.AZN(v:V):(Option V)->(Nat->Nat->Nat->Nat->Nat->Option V)->(Nat->Nat->Nat->Nat->Option V)->(Nat->Nat->Nat->Nat->Nat->Option V)->Option V:=
 V.rec (motive_1:=λ_=>(Option V)->(Nat->Nat->Nat->Nat->Nat->Option V)->(Nat->Nat->Nat->Nat->Option V)->(Nat->Nat->Nat->Nat->Nat->Option V)->Option V) (motive_2:=λ_=>PUnit)
  (λ_ _ _ _=>none)
  (λ_ _ _ _ _ _ _=>none)
  (λ_ _ _ _ _=>none)
  (λ_ _ _ _ _ _=>none)
  (λ_ _ _ _=>none)
  (λ_ _ _ _ _ _=>none)
  (λ_ _ _ _ _ _=>none)
  (λz _ _ _=>z)
  (λa b c d e _ f _ _=>f a b c d e)
  (λa b c d _ _ g _=>g a b c d)
  (λa b c d e _ _ _ h=>h a b c d e)
  (λ_ _ _ _=>none)
  (λ_ _ _ _ _=>none)
  (λ_ _ _ _=>none)
  (λ_ _ _ _ _ _ _ _ _=>none)
  (λ_ _ _ _ _ _=>none)
  (λ_ _ _ _ _ _=>none)
  (λ_ _ _ _=>none)
  (λ_ _ _ _ _ _ _=>none)
  ⟨⟩ (λ_ _ _ _=>⟨⟩) v
def A8(v:V):List V:=
 V.rec (motive_1:=λ_=>List V) (motive_2:=λ_=>PUnit)
  ([v])
  (λ_ _ _=>[v])
  (λ_=>[v])
  (λ_ _=>[v])
  ([v])
  (λ_ _=>[v])
  (λ_ _=>[v])
  ([v])
  (λ_ _ _ _ _=>[v])
  (λ_ _ _ _=>[v])
  (λ_ _ _ _ _=>[v])
  ([v])
  (λ_=>[v])
  ([v])
  (λ_ _ _ _ _=>[v])
  (λa _=>a)
  (λ_ _=>[v])
  ([v])
  (λ_ _ _=>[v])
  ⟨⟩ (λ_ _ _ _=>⟨⟩) v
def isStr(v:V):Bool:=
 V.rec (motive_1:=λ_=>Bool) (motive_2:=λ_=>PUnit)
  (false)
  (λ_ _ _=>false)
  (λ_=>false)
  (λ_ _=>true)
  (false)
  (λ_ _=>false)
  (λ_ _=>false)
  (false)
  (λ_ _ _ _ _=>false)
  (λ_ _ _ _=>false)
  (λ_ _ _ _ _=>false)
  (false)
  (λ_=>false)
  (false)
  (λ_ _ _ _ _=>false)
  (λ_ _=>false)
  (λ_ _=>false)
  (false)
  (λ_ _ _=>false)
  ⟨⟩ (λ_ _ _ _=>⟨⟩) v
def lenV(v:V):Option V:=
 V.rec (motive_1:=λ_=>Option V) (motive_2:=λ_=>PUnit)
  (none)
  (λ_ _ _=>none)
  (λ_=>none)
  (λ_ _=>none)
  (none)
  (λ_ _=>none)
  (λ_ _=>none)
  (some (.int .i64 (.ofNat 0) 0))
  (λ_ _ c _ _=>some (.int .i64 (.ofNat c) 0))
  (λ_ _ c _=>some (.int .i64 (.ofNat c) 0))
  (λ_ _ c _ _=>some (.int .i64 (.ofNat c) 0))
  (none)
  (λ_=>none)
  (none)
  (λ_ _ _ _ _=>none)
  (λ_ _=>none)
  (λ_ _=>none)
  (none)
  (λ_ _ _=>none)
  ⟨⟩ (λ_ _ _ _=>⟨⟩) v
def Af(v:V):Option V:=
 V.rec (motive_1:=λ_=>Option V) (motive_2:=λ_=>PUnit)
  (none)
  (λ_ _ _=>none)
  (λ_=>none)
  (λ_ _=>none)
  (none)
  (λa b=>some (.ptr a b))
  (λa b=>some (.gptr a b))
  (none)
  (λ_ _ _ _ _=>none)
  (λ_ _ _ _=>none)
  (λ_ _ _ _ _=>none)
  (none)
  (λ_=>none)
  (none)
  (λa b c _ _=>some (.fn a b c))
  (λ_ _=>none)
  (λ_ _=>none)
  (none)
  (λ_ _ _=>none)
  ⟨⟩ (λ_ _ _ _=>⟨⟩) v
def YQ(n:Int):(Int->Option V)->Option V:=λf=>f n
def Dx(n:Nat):(Nat->Option V)->Option V:=
 Nat.rec (motive:=λ_=>(Nat->Option V)->Option V) (λf=>f 0) (λk _ f=>f (Nat.succ k)) n
def DT(n:Nat):(Nat->Prop)->Prop:=
 Nat.rec (motive:=λ_=>(Nat->Prop)->Prop) (λf=>f 0) (λk _ f=>f (Nat.succ k)) n
def AfD(k:IntKind):Nat->Bool:=
 IntKind.rec (motive:=λ_=>Nat->Bool) (λm=>Nat.blt m 128) (λm=>Nat.blt m 32768) (λm=>Nat.blt m 2147483648) (λm=>Nat.blt m 9223372036854775808)
  (λm=>Nat.blt m 256) (λm=>Nat.blt m 65536) (λm=>Nat.blt m 4294967296) (λm=>Nat.blt m 18446744073709551616) k
def AeT(k:IntKind):Nat->Bool:=
 IntKind.rec (motive:=λ_=>Nat->Bool) (λm=>Nat.blt m 128) (λm=>Nat.blt m 32768) (λm=>Nat.blt m 2147483648) (λm=>Nat.blt m 9223372036854775808)
  (λ_=>false) (λ_=>false) (λ_=>false) (λ_=>false) k
def inr(k:IntKind)(n:Int):Bool:=Int.rec (motive:=λ_=>IntKind->Bool) (λm k=>AfD k m) (λm k=>AeT k m) n k
def Z7(k:IntKind)(n:Int):Int:=Bool.rec (k.wrap n) n (inr k n)
def Acv(k:IntKind)(n:Int):Option V:=YQ (Z7 k n) λm=>some (.int k m 0)
def mkI(k:IntKind)(n:Int)(s:Nat):Option V:=
 Nat.rec (motive:=λ_=>IntKind->Int->Option V) Acv (λ_ _ k n=>some (.int k (k.wrap n) 1)) s k n
def mkN(k:IntKind)(n:Int)(s:Nat):Option V:=
 Nat.rec (motive:=λ_=>IntKind->Int->Option V) (λk n=>YQ n λm=>some (.int k m 0)) (λ_ _ k n=>some (.int k n 1)) s k n
def AbF(a:Nat)(b:Int):Int:=Int.rec (motive:=λ_=>Nat->Int) (λn m=>.ofNat (Nat.add m n)) (λn m=>Int.subNatNat m (Nat.succ n)) b a
def Abq(a:Nat)(b:Int):Int:=Int.rec (motive:=λ_=>Nat->Int) (λn m=>Int.subNatNat n (Nat.succ m)) (λn m=>.negSucc (Nat.succ (Nat.add m n))) b a
def AHI(a b:Int):Int:=Int.rec (motive:=λ_=>Int->Int) AbF Abq a b
def ile(a b:Int):Bool:=Int.rec (motive:=λ_=>Int->Bool) (λm b=>Int.rec (motive:=λ_=>Nat->Bool) (λn m=>Nat.ble m n) (λ_ _=>false) b m)
 (λm b=>Int.rec (motive:=λ_=>Nat->Bool) (λ_ _=>true) (λn m=>Nat.ble n m) b m) a b
def ilt(a b:Int):Bool:=Int.rec (motive:=λ_=>Int->Bool) (λm b=>Int.rec (motive:=λ_=>Nat->Bool) (λn m=>Nat.blt m n) (λ_ _=>false) b m)
 (λm b=>Int.rec (motive:=λ_=>Nat->Bool) (λ_ _=>true) (λn m=>Nat.blt n m) b m) a b
def ieq(a b:Int):Bool:=Int.rec (motive:=λ_=>Int->Bool) (λm b=>Int.rec (motive:=λ_=>Nat->Bool) (λn m=>Nat.beq m n) (λ_ _=>false) b m)
 (λm b=>Int.rec (motive:=λ_=>Nat->Bool) (λ_ _=>false) (λn m=>Nat.beq n m) b m) a b
def kno(a:IntKind):Nat:=IntKind.rec 0 1 2 3 4 5 6 7 a
def keq(a b:IntKind):Bool:=Nat.beq (kno a) (kno b)
def Qq(b:Bool):Bool:=Bool.rec true false b
def band(a b:Bool):Bool:=Bool.rec (motive:=λ_=>Bool->Bool) (λ_=>false) (λb=>b) a b
def AYg(a b:Bool):Bool:=Bool.rec (motive:=λ_=>Bool->Bool) Qq (λb=>b) a b
def mkB(b:Bool):Option V:=Bool.rec (some (.bool false)) (some (.bool true)) b
def BI(b:Bool):Option V->Option V:=Bool.rec (motive:=λ_=>Option V->Option V) (λ_=>none) (λo=>o) b
def AHm(b:Bool)(x y:Option V):Option V:=Bool.rec (motive:=λ_=>Option V->Option V->Option V) (λ_ y=>y) (λx _=>x) b x y
def AYf(code i:Nat):Nat:=Nat.mod (Nat.div code (Nat.pow 256 i)) 256
def Afo(code l h:Nat):Nat:=Nat.mod (Nat.div code (Nat.pow 256 l)) (Nat.pow 256 (Nat.sub h l))
def Ae5(l1 c1 c2:Nat):Nat:=Nat.add c1 (Nat.mul (Nat.pow 256 l1) c2)
def AI3(f:Nat):Nat->Nat->Nat->Nat->Bool:=
 Nat.rec (motive:=λ_=>Nat->Nat->Nat->Nat->Bool) (λ_ _ _ _=>false)
  (λ_ g l1 c1 l2 c2=>Nat.rec (motive:=λ_=>Bool) false (λl2' _=>Nat.rec (motive:=λ_=>Bool) true (λl1' _=>
   Bool.rec (Nat.blt (Nat.mod c1 256) (Nat.mod c2 256)) (g l1' (Nat.div c1 256) l2' (Nat.div c2 256)) (Nat.beq (Nat.mod c1 256) (Nat.mod c2 256))) l1) l2) f
def slt(l1 c1 l2 c2:Nat):Bool:=AI3 (Nat.succ l2) l1 c1 l2 c2
def nth{α:Type}(l:List α):Nat->Option α:=
 List.rec (motive:=λ_=>Nat->Option α) (λ_=>none) (λx _ g i=>Nat.rec (motive:=λ_=>Option α) (some x) (λi _=>g i) i) l
def rE{α:Type}(x:α)(l:List α):Nat->List α:=
 List.rec (motive:=λ_=>Nat->List α) (λ_=>[]) (λy ys g i=>Nat.rec (motive:=λ_=>List α) (x::ys) (λi _=>y::g i) i) l
def len{α:Type}(l:List α):Nat:=List.rec (motive:=λ_=>Nat) 0 (λ_ _ n=>Nat.succ n) l
def cat{α:Type}(a b:List α):List α:=List.rec (motive:=λ_=>List α->List α) (λb=>b) (λx _ g b=>x::g b) a b
def aK{α:Type}(n:Nat):List α->List α:=
 Nat.rec (motive:=λ_=>List α->List α) (λ_=>[]) (λ_ g l=>List.rec (motive:=λ_=>List α) [] (λx xs _=>x::g xs) l) n
def AAS{α:Type}(n:Nat):List α->List α:=
 Nat.rec (motive:=λ_=>List α->List α) (λl=>l) (λ_ g l=>List.rec (motive:=λ_=>List α) [] (λ_ xs _=>g xs) l) n
def nH(l:List X):RS->List V:=List.rec (motive:=λ_=>RS->List V) (λ_=>[]) (λx _ g R=>x.ev R::g R) l
def AP4(new:List V)(i:Nat)(l:List V):List V:=cat (aK i l) (cat new (AAS (Nat.add i (len new)) l))
abbrev LV:=List V
def Va(o:Option LV)(f:LV->Option V):Option V:=Option.rec (motive:=λ_=>(LV->Option V)->Option V) (λ_=>none) (λv f=>f v) o f
def Gu{α:Type}(o:Option α)(f:α->Prop):Prop:=Option.rec (motive:=λ_=>(α->Prop)->Prop) (λ_=>False) (λv f=>f v) o f
def AL(o:Option V)(f:V->Prop):Prop:=Option.rec (motive:=λ_=>(V->Prop)->Prop) (λ_=>False) (λv f=>f v) o f
def BO{α β:Type}(o:Option α)(f:α->Option β):Option β:=Option.rec (motive:=λ_=>(α->Option β)->Option β) (λ_=>none) (λv f=>f v) o f
def ldC(esz off n:Nat)(L:LV):Option LV:=
 Bool.rec (motive:=λ_=>Option LV)
  (Bool.rec none (some (aK n (AAS (Nat.mod off esz) L))) (Nat.ble (Nat.add (Nat.mod off esz) n) esz))
  (some L) (band (Nat.beq n esz) (Nat.beq (Nat.mod off esz) 0))
def ldB(esz cnt:Nat)(c:T LV)(off n:Nat):Option LV:=
 BO (Bool.rec none (T.get c (Nat.div off esz)) (Nat.blt (Nat.div off esz) cnt)) (ldC esz off n)
def Nu.ld(b:Nu):Nat->Nat->Option LV:=
 Nu.rec (motive:=λ_=>Nat->Nat->Option LV) ldB (λ_ _ _ _=>none) (λ_ _=>none) (λ_ _ _ _ _ _ _=>none) (λ_ _ _=>none) b
def mY(H:Heap)(id off n:Nat):Option LV:=Option.rec (motive:=λ_=>Nat->Nat->Option LV) (λ_ _=>none) Nu.ld (T.get H id) off n
def ldP(v:V):(AY)->(Heap)->(Nat)->Option LV:=
 V.rec (motive_1:=λ_=>(AY)->(Heap)->(Nat)->Option LV) (motive_2:=λ_=>PUnit)
  (λ_ _ _=>none)
  (λ_ _ _ _ _ _=>none)
  (λ_ _ _ _=>none)
  (λ_ _ _ _ _=>none)
  (λ_ _ _=>none)
  (λa b _ H n=>mY H a b n)
  (λa b G _ n=>G a b n)
  (λ_ _ _=>none)
  (λ_ _ _ _ _ _ _ _=>none)
  (λ_ _ _ _ _ _ _=>none)
  (λ_ _ _ _ _ _ _ _=>none)
  (λ_ _ _=>none)
  (λ_ _ _ _=>none)
  (λ_ _ _=>none)
  (λ_ _ _ _ _ _ _ _=>none)
  (λ_ _ _ _ _=>none)
  (λ_ _ _ _ _=>none)
  (λ_ _ _=>none)
  (λ_ _ _ _ _ _=>none)
  ⟨⟩ (λ_ _ _ _=>⟨⟩) v
def stC(new:LV)(esz cnt:Nat)(c:T LV)(off n:Nat)(L:LV):Option Nu:=
 Bool.rec (motive:=λ_=>Option Nu)
  (Bool.rec none (some (.arr esz cnt (T.set c (Nat.div off esz) (AP4 new (Nat.mod off esz) L)))) (Nat.ble (Nat.add (Nat.mod off esz) n) esz))
  (some (.arr esz cnt (T.set c (Nat.div off esz) new))) (band (Nat.beq n esz) (Nat.beq (Nat.mod off esz) 0))
def stB(esz cnt:Nat)(c:T LV)(off n:Nat)(new:LV):Option Nu:=
 BO (Bool.rec none (T.get c (Nat.div off esz)) (Nat.blt (Nat.div off esz) cnt)) (stC new esz cnt c off n)
def Nu.st(b:Nu):Nat->Nat->LV->Option Nu:=
 Nu.rec (motive:=λ_=>Nat->Nat->LV->Option Nu) stB (λ_ _ _ _ _=>none) (λ_ _ _=>none) (λ_ _ _ _ _ _ _ _=>none) (λ_ _ _ _=>none) b
def stH(H:Heap)(id off n:Nat)(new:LV):Option Heap:=
 BO (Option.rec (motive:=λ_=>Nat->Nat->LV->Option Nu) (λ_ _ _=>none) Nu.st (T.get H id) off n new) λb=>some (T.set H id b)
def stP(v:V):(Heap)->(Nat)->(LV)->Option Heap:=
 V.rec (motive_1:=λ_=>(Heap)->(Nat)->(LV)->Option Heap) (motive_2:=λ_=>PUnit)
  (λ_ _ _=>none)
  (λ_ _ _ _ _ _=>none)
  (λ_ _ _ _=>none)
  (λ_ _ _ _ _=>none)
  (λ_ _ _=>none)
  (λa b H n new=>stH H a b n new)
  (λ_ _ _ _ _=>none)
  (λ_ _ _=>none)
  (λ_ _ _ _ _ _ _ _=>none)
  (λ_ _ _ _ _ _ _=>none)
  (λ_ _ _ _ _ _ _ _=>none)
  (λ_ _ _=>none)
  (λ_ _ _ _=>none)
  (λ_ _ _=>none)
  (λ_ _ _ _ _ _ _ _=>none)
  (λ_ _ _ _ _=>none)
  (λ_ _ _ _ _=>none)
  (λ_ _ _=>none)
  (λ_ _ _ _ _ _=>none)
  ⟨⟩ (λ_ _ _ _=>⟨⟩) v
def AWa(v:V):(IntKind)->(Int)->(Nat)->Option Bool:=
 V.rec (motive_1:=λ_=>(IntKind)->(Int)->(Nat)->Option Bool) (motive_2:=λ_=>PUnit)
  (λ_ _ _=>none)
  (λa b c k n s=>Bool.rec (motive:=λ_=>Option Bool) none (some (ieq n b)) (band (keq k a) (Nat.beq (Nat.add s c) 0)))
  (λ_ _ _ _=>none)
  (λ_ _ _ _ _=>none)
  (λ_ _ _=>none)
  (λ_ _ _ _ _=>none)
  (λ_ _ _ _ _=>none)
  (λ_ _ _=>none)
  (λ_ _ _ _ _ _ _ _=>none)
  (λ_ _ _ _ _ _ _=>none)
  (λ_ _ _ _ _ _ _ _=>none)
  (λ_ _ _=>none)
  (λ_ _ _ _=>none)
  (λ_ _ _=>none)
  (λ_ _ _ _ _ _ _ _=>none)
  (λ_ _ _ _ _=>none)
  (λ_ _ _ _ _=>none)
  (λ_ _ _=>none)
  (λ_ _ _ _ _ _=>none)
  ⟨⟩ (λ_ _ _ _=>⟨⟩) v
def ARw(v:V):(Bool)->Option Bool:=
 V.rec (motive_1:=λ_=>(Bool)->Option Bool) (motive_2:=λ_=>PUnit)
  (λ_=>none)
  (λ_ _ _ _=>none)
  (λa x=>some (AYg x a))
  (λ_ _ _=>none)
  (λ_=>none)
  (λ_ _ _=>none)
  (λ_ _ _=>none)
  (λ_=>none)
  (λ_ _ _ _ _ _=>none)
  (λ_ _ _ _ _=>none)
  (λ_ _ _ _ _ _=>none)
  (λ_=>none)
  (λ_ _=>none)
  (λ_=>none)
  (λ_ _ _ _ _ _=>none)
  (λ_ _ _=>none)
  (λ_ _ _=>none)
  (λ_=>none)
  (λ_ _ _ _=>none)
  ⟨⟩ (λ_ _ _ _=>⟨⟩) v
def eqStr(v:V):(Nat)->(Nat)->Option Bool:=
 V.rec (motive_1:=λ_=>(Nat)->(Nat)->Option Bool) (motive_2:=λ_=>PUnit)
  (λ_ _=>none)
  (λ_ _ _ _ _=>none)
  (λ_ _ _=>none)
  (λa b l d=>some (band (Nat.beq l a) (Nat.beq d b)))
  (λ_ _=>none)
  (λ_ _ _ _=>none)
  (λ_ _ _ _=>none)
  (λ_ _=>none)
  (λ_ _ _ _ _ _ _=>none)
  (λ_ _ _ _ _ _=>none)
  (λ_ _ _ _ _ _ _=>none)
  (λ_ _=>none)
  (λ_ _ _=>none)
  (λ_ _=>none)
  (λ_ _ _ _ _ _ _=>none)
  (λ_ _ _ _=>none)
  (λ_ _ _ _=>none)
  (λ_ _=>none)
  (λ_ _ _ _ _=>none)
  ⟨⟩ (λ_ _ _ _=>⟨⟩) v
def AWZ(v:V):Option Bool:=
 V.rec (motive_1:=λ_=>Option Bool) (motive_2:=λ_=>PUnit)
  (none)
  (λ_ _ _=>none)
  (λ_=>none)
  (λ_ _=>none)
  (some true)
  (λ_ _=>some false)
  (λ_ _=>some false)
  (none)
  (λ_ _ _ _ _=>none)
  (λ_ _ _ _=>none)
  (λ_ _ _ _ _=>none)
  (none)
  (λ_=>none)
  (none)
  (λ_ _ _ _ _=>none)
  (λ_ _=>none)
  (λ_ _=>none)
  (none)
  (λ_ _ _=>none)
  ⟨⟩ (λ_ _ _ _=>⟨⟩) v
def Abf(v:V):(Nat)->(Nat)->Option Bool:=
 V.rec (motive_1:=λ_=>(Nat)->(Nat)->Option Bool) (motive_2:=λ_=>PUnit)
  (λ_ _=>none)
  (λ_ _ _ _ _=>none)
  (λ_ _ _=>none)
  (λ_ _ _ _=>none)
  (λ_ _=>some false)
  (λa b i o=>Bool.rec none (some (Nat.beq o b)) (Nat.beq i a))
  (λ_ _ _ _=>none)
  (λ_ _=>none)
  (λ_ _ _ _ _ _ _=>none)
  (λ_ _ _ _ _ _=>none)
  (λ_ _ _ _ _ _ _=>none)
  (λ_ _=>none)
  (λ_ _ _=>none)
  (λ_ _=>none)
  (λ_ _ _ _ _ _ _=>none)
  (λ_ _ _ _=>none)
  (λ_ _ _ _=>none)
  (λ_ _=>none)
  (λ_ _ _ _ _=>none)
  ⟨⟩ (λ_ _ _ _=>⟨⟩) v
def AYu(v:V):Option Bool:=
 V.rec (motive_1:=λ_=>Option Bool) (motive_2:=λ_=>PUnit)
  (none)
  (λ_ _ _=>none)
  (λ_=>none)
  (λ_ _=>none)
  (some false)
  (λ_ _=>none)
  (λ_ _=>none)
  (none)
  (λ_ _ _ _ _=>none)
  (λ_ _ _ _=>none)
  (λ_ _ _ _ _=>none)
  (none)
  (λ_=>none)
  (none)
  (λ_ _ _ _ _=>none)
  (λ_ _=>none)
  (λ_ _=>none)
  (none)
  (λ_ _ _=>none)
  ⟨⟩ (λ_ _ _ _=>⟨⟩) v
def AQG(v:V):(V)->Option Bool:=
 V.rec (motive_1:=λ_=>(V)->Option Bool) (motive_2:=λ_=>PUnit)
  (λ_=>none)
  (λa b c y=>AWa y a b c)
  (λ_ _=>none)
  (λ_ _ _=>none)
  (λ_=>none)
  (λ_ _ _=>none)
  (λ_ _ _=>none)
  (λ_=>none)
  (λ_ _ _ _ _ _=>none)
  (λ_ _ _ _ _=>none)
  (λ_ _ _ _ _ _=>none)
  (λ_=>none)
  (λ_ _=>none)
  (λ_=>none)
  (λ_ _ _ _ _ _=>none)
  (λ_ _ _=>none)
  (λ_ _ _=>none)
  (λ_=>none)
  (λ_ _ _ _=>none)
  ⟨⟩ (λ_ _ _ _=>⟨⟩) v
def AQ5(v:V):(V)->Option Bool:=
 V.rec (motive_1:=λ_=>(V)->Option Bool) (motive_2:=λ_=>PUnit)
  (λ_=>none)
  (λ_ _ _ _=>none)
  (λ_ _=>none)
  (λa b y=>eqStr y a b)
  (λ_=>none)
  (λ_ _ _=>none)
  (λ_ _ _=>none)
  (λ_=>none)
  (λ_ _ _ _ _ _=>none)
  (λ_ _ _ _ _=>none)
  (λ_ _ _ _ _ _=>none)
  (λ_=>none)
  (λ_ _=>none)
  (λ_=>none)
  (λ_ _ _ _ _ _=>none)
  (λ_ _ _=>none)
  (λ_ _ _=>none)
  (λ_=>none)
  (λ_ _ _ _=>none)
  ⟨⟩ (λ_ _ _ _=>⟨⟩) v
def AIL(v:V):(V)->Option Bool:=
 V.rec (motive_1:=λ_=>(V)->Option Bool) (motive_2:=λ_=>PUnit)
  (λ_=>none)
  (λ_ _ _ _=>none)
  (λa y=>ARw y a)
  (λ_ _ _=>none)
  (λ_=>none)
  (λ_ _ _=>none)
  (λ_ _ _=>none)
  (λ_=>none)
  (λ_ _ _ _ _ _=>none)
  (λ_ _ _ _ _=>none)
  (λ_ _ _ _ _ _=>none)
  (λ_=>none)
  (λ_ _=>none)
  (λ_=>none)
  (λ_ _ _ _ _ _=>none)
  (λ_ _ _=>none)
  (λ_ _ _=>none)
  (λ_=>none)
  (λ_ _ _ _=>none)
  ⟨⟩ (λ_ _ _ _=>⟨⟩) v
def ANu(v:V):(V)->Option Bool:=
 V.rec (motive_1:=λ_=>(V)->Option Bool) (motive_2:=λ_=>PUnit)
  (λ_=>none)
  (λ_ _ _ _=>none)
  (λ_ _=>none)
  (λ_ _ _=>none)
  (λy=>AWZ y)
  (λa b y=>Abf y a b)
  (λ_ _ y=>AYu y)
  (λ_=>none)
  (λ_ _ _ _ _ _=>none)
  (λ_ _ _ _ _=>none)
  (λ_ _ _ _ _ _=>none)
  (λ_=>none)
  (λ_ _=>none)
  (λ_=>none)
  (λ_ _ _ _ _ _=>none)
  (λ_ _ _=>none)
  (λ_ _ _=>none)
  (λ_=>none)
  (λ_ _ _ _=>none)
  ⟨⟩ (λ_ _ _ _=>⟨⟩) v
def AWP(v:V):Option Bool:=
 V.rec (motive_1:=λ_=>Option Bool) (motive_2:=λ_=>PUnit)
  (none)
  (λ_ _ _=>none)
  (λ_=>none)
  (λ_ _=>none)
  (none)
  (λ_ _=>none)
  (λ_ _=>none)
  (some true)
  (λ_ _ _ _ _=>some false)
  (λ_ _ _ _=>some false)
  (λ_ _ _ _ _=>some false)
  (none)
  (λ_=>none)
  (none)
  (λ_ _ _ _ _=>none)
  (λ_ _=>none)
  (λ_ _=>none)
  (none)
  (λ_ _ _=>none)
  ⟨⟩ (λ_ _ _ _=>⟨⟩) v
def rF(v:V):Option Bool:=
 V.rec (motive_1:=λ_=>Option Bool) (motive_2:=λ_=>PUnit)
  (none)
  (λ_ _ _=>none)
  (λ_=>none)
  (λ_ _=>none)
  (none)
  (λ_ _=>none)
  (λ_ _=>none)
  (some false)
  (λ_ _ _ _ _=>none)
  (λ_ _ _ _=>none)
  (λ_ _ _ _ _=>none)
  (none)
  (λ_=>none)
  (none)
  (λ_ _ _ _ _=>none)
  (λ_ _=>none)
  (λ_ _=>none)
  (none)
  (λ_ _ _=>none)
  ⟨⟩ (λ_ _ _ _=>⟨⟩) v
def AXd(v:V):Option Bool:=
 V.rec (motive_1:=λ_=>Option Bool) (motive_2:=λ_=>PUnit)
  (none)
  (λ_ _ _=>none)
  (λ_=>none)
  (λ_ _=>none)
  (none)
  (λ_ _=>none)
  (λ_ _=>none)
  (none)
  (λ_ _ _ _ _=>none)
  (λ_ _ _ _=>none)
  (λ_ _ _ _ _=>none)
  (none)
  (λ_=>none)
  (some true)
  (λ_ _ _ _ _=>some false)
  (λ_ _=>none)
  (λ_ _=>none)
  (none)
  (λ_ _ _=>none)
  ⟨⟩ (λ_ _ _ _=>⟨⟩) v
def ATp(v:V):Option Bool:=
 V.rec (motive_1:=λ_=>Option Bool) (motive_2:=λ_=>PUnit)
  (none)
  (λ_ _ _=>none)
  (λ_=>none)
  (λ_ _=>none)
  (none)
  (λ_ _=>none)
  (λ_ _=>none)
  (none)
  (λ_ _ _ _ _=>none)
  (λ_ _ _ _=>none)
  (λ_ _ _ _ _=>none)
  (none)
  (λ_=>none)
  (some false)
  (λ_ _ _ _ _=>none)
  (λ_ _=>none)
  (λ_ _=>none)
  (none)
  (λ_ _ _=>none)
  ⟨⟩ (λ_ _ _ _=>⟨⟩) v
def AXR(v:V):Option Bool:=
 V.rec (motive_1:=λ_=>Option Bool) (motive_2:=λ_=>PUnit)
  (none)
  (λ_ _ _=>none)
  (λ_=>none)
  (λ_ _=>none)
  (none)
  (λ_ _=>none)
  (λ_ _=>none)
  (none)
  (λ_ _ _ _ _=>none)
  (λ_ _ _ _=>none)
  (λ_ _ _ _ _=>none)
  (some true)
  (λ_=>some false)
  (none)
  (λ_ _ _ _ _=>none)
  (λ_ _=>none)
  (λ_ _=>none)
  (none)
  (λ_ _ _=>none)
  ⟨⟩ (λ_ _ _ _=>⟨⟩) v
def AUh(v:V):Option Bool:=
 V.rec (motive_1:=λ_=>Option Bool) (motive_2:=λ_=>PUnit)
  (none)
  (λ_ _ _=>none)
  (λ_=>none)
  (λ_ _=>none)
  (none)
  (λ_ _=>none)
  (λ_ _=>none)
  (none)
  (λ_ _ _ _ _=>none)
  (λ_ _ _ _=>none)
  (λ_ _ _ _ _=>none)
  (some false)
  (λ_=>none)
  (none)
  (λ_ _ _ _ _=>none)
  (λ_ _=>none)
  (λ_ _=>none)
  (none)
  (λ_ _ _=>none)
  ⟨⟩ (λ_ _ _ _=>⟨⟩) v
def kSl(v:V):(V)->Option Bool:=
 V.rec (motive_1:=λ_=>(V)->Option Bool) (motive_2:=λ_=>PUnit)
  (λ_=>none)
  (λ_ _ _ _=>none)
  (λ_ _=>none)
  (λ_ _ _=>none)
  (λ_=>none)
  (λ_ _ _=>none)
  (λ_ _ _=>none)
  (λy=>AWP y)
  (λ_ _ _ _ _ y=>rF y)
  (λ_ _ _ _ y=>rF y)
  (λ_ _ _ _ _ y=>rF y)
  (λ_=>none)
  (λ_ _=>none)
  (λ_=>none)
  (λ_ _ _ _ _ _=>none)
  (λ_ _ _=>none)
  (λ_ _ _=>none)
  (λ_=>none)
  (λ_ _ _ _=>none)
  ⟨⟩ (λ_ _ _ _=>⟨⟩) v
def kFn(v:V):(V)->Option Bool:=
 V.rec (motive_1:=λ_=>(V)->Option Bool) (motive_2:=λ_=>PUnit)
  (λ_=>none)
  (λ_ _ _ _=>none)
  (λ_ _=>none)
  (λ_ _ _=>none)
  (λ_=>none)
  (λ_ _ _=>none)
  (λ_ _ _=>none)
  (λ_=>none)
  (λ_ _ _ _ _ _=>none)
  (λ_ _ _ _ _=>none)
  (λ_ _ _ _ _ _=>none)
  (λ_=>none)
  (λ_ _=>none)
  (λy=>AXd y)
  (λ_ _ _ _ _ y=>ATp y)
  (λ_ _ _=>none)
  (λ_ _ _=>none)
  (λ_=>none)
  (λ_ _ _ _=>none)
  ⟨⟩ (λ_ _ _ _=>⟨⟩) v
def AcQ(v:V):(V)->Option Bool:=
 V.rec (motive_1:=λ_=>(V)->Option Bool) (motive_2:=λ_=>PUnit)
  (λ_=>none)
  (λ_ _ _ _=>none)
  (λ_ _=>none)
  (λ_ _ _=>none)
  (λ_=>none)
  (λ_ _ _=>none)
  (λ_ _ _=>none)
  (λ_=>none)
  (λ_ _ _ _ _ _=>none)
  (λ_ _ _ _ _=>none)
  (λ_ _ _ _ _ _=>none)
  (λy=>AXR y)
  (λ_ y=>AUh y)
  (λ_=>none)
  (λ_ _ _ _ _ _=>none)
  (λ_ _ _=>none)
  (λ_ _ _=>none)
  (λ_=>none)
  (λ_ _ _ _=>none)
  ⟨⟩ (λ_ _ _ _=>⟨⟩) v
def Ld(o:Option Bool)(f:Bool->Option Bool):Option Bool:=Option.rec (motive:=λ_=>(Bool->Option Bool)->Option Bool) (λ_=>none) (λv f=>f v) o f
inductive CK where
 |int|str|bool|ptr
def CK.eq(k:CK):V->V->Option Bool:=CK.rec (motive:=λ_=>V->V->Option Bool) AQG AQ5 AIL ANu k
def Ag5(ks:List CK):List V->List V->Option Bool:=
 List.rec (motive:=λ_=>List V->List V->Option Bool) (λa b=>List.rec (motive:=λ_=>Option Bool) (List.rec (motive:=λ_=>Option Bool) (some true) (λ_ _ _=>none) b) (λ_ _ _=>none) a)
  (λk _ g a b=>List.rec (motive:=λ_=>Option Bool) none (λx xs _=>List.rec (motive:=λ_=>Option Bool) none (λy ys _=>Ld (k.eq x y) λr=>Ld (g xs ys) λr'=>some (band r r')) b) a) ks
def AbV(v:V):(List CK)->(LV)->Option Bool:=
 V.rec (motive_1:=λ_=>(List CK)->(LV)->Option Bool) (motive_2:=λ_=>PUnit)
  (λ_ _=>none)
  (λ_ _ _ _ _=>none)
  (λ_ _ _=>none)
  (λ_ _ _ _=>none)
  (λ_ _=>none)
  (λ_ _ _ _=>none)
  (λ_ _ _ _=>none)
  (λ_ _=>none)
  (λ_ _ _ _ _ _ _=>none)
  (λ_ _ _ _ _ _=>none)
  (λ_ _ _ _ _ _ _=>none)
  (λ_ _=>none)
  (λ_ _ _=>none)
  (λ_ _=>none)
  (λ_ _ _ _ _ _ _=>none)
  (λa _ ks l=>Ag5 ks l a)
  (λ_ _ _ _=>none)
  (λ_ _=>none)
  (λ_ _ _ _ _=>none)
  ⟨⟩ (λ_ _ _ _=>⟨⟩) v
def Acx(v:V):(List CK)->(V)->Option Bool:=
 V.rec (motive_1:=λ_=>(List CK)->(V)->Option Bool) (motive_2:=λ_=>PUnit)
  (λ_ _=>none)
  (λ_ _ _ _ _=>none)
  (λ_ _ _=>none)
  (λ_ _ _ _=>none)
  (λ_ _=>none)
  (λ_ _ _ _=>none)
  (λ_ _ _ _=>none)
  (λ_ _=>none)
  (λ_ _ _ _ _ _ _=>none)
  (λ_ _ _ _ _ _=>none)
  (λ_ _ _ _ _ _ _=>none)
  (λ_ _=>none)
  (λ_ _ _=>none)
  (λ_ _=>none)
  (λ_ _ _ _ _ _ _=>none)
  (λa _ ks y=>AbV y ks a)
  (λ_ _ _ _=>none)
  (λ_ _=>none)
  (λ_ _ _ _ _=>none)
  ⟨⟩ (λ_ _ _ _=>⟨⟩) v
inductive EK where
 |one (k:CK)|agg (ks:List CK)|sl|fn|map
def EK.eq(k:EK):V->V->Option Bool:=EK.rec (motive:=λ_=>V->V->Option Bool) (λk=>k.eq) (λks x y=>Acx x ks y) kSl kFn AcQ k
def V.AUK(v:V):Option Nat:=
 V.rec (motive_1:=λ_=>Option Nat) (motive_2:=λ_=>PUnit)
  (none)
  (λ_ _ _=>none)
  (λ_=>none)
  (λ_ _=>none)
  (none)
  (λa _=>some a)
  (λ_ _=>none)
  (none)
  (λ_ _ _ _ _=>none)
  (λ_ _ _ _=>none)
  (λ_ _ _ _ _=>none)
  (none)
  (λ_=>none)
  (none)
  (λ_ _ _ _ _=>none)
  (λ_ _=>none)
  (λ_ _=>none)
  (none)
  (λ_ _ _=>none)
  ⟨⟩ (λ_ _ _ _=>⟨⟩) v
def V.AaK(v:V):Option (List V):=
 V.rec (motive_1:=λ_=>Option (List V)) (motive_2:=λ_=>PUnit)
  (none)
  (λ_ _ _=>none)
  (λ_=>none)
  (λ_ _=>none)
  (none)
  (λ_ _=>none)
  (λ_ _=>none)
  (none)
  (λ_ _ _ _ _=>none)
  (λ_ _ _ _=>none)
  (λ_ _ _ _ _=>none)
  (none)
  (λ_=>none)
  (none)
  (λ_ _ _ _ _=>none)
  (λl _=>some l)
  (λ_ _=>none)
  (none)
  (λ_ _ _=>none)
  ⟨⟩ (λ_ _ _ _=>⟨⟩) v
def TD(H:Heap)(id:Nat):Bool:=Option.rec (motive:=λ_=>Bool) false
 (λb=>Nu.rec (motive:=λ_=>Bool) (λesz _ _=>Qq (Nat.beq esz 1)) (λ_ _=>false) false (λ_ _ _ _ _=>false) (λ_=>false) b) (T.get H id)
def ARx(ok:Nat->Bool)(x y:V):Option Bool:=
 Option.rec (motive:=λ_=>Option Bool) none (λi=>Option.rec (motive:=λ_=>Option Bool) none (λj=>Bool.rec (motive:=λ_=>Option Bool) none (some false) (band (Qq (Nat.beq i j)) (band (ok i) (ok j)))) y.AUK) x.AUK
def AFl(ok:Nat->Bool)(x y:V):Option Bool:=Option.rec (motive:=λ_=>Option Bool) (ARx ok x y) (λb=>some b) (ANu x y)
def CK.eqH(ok:Nat->Bool)(k:CK):V->V->Option Bool:=CK.rec (motive:=λ_=>V->V->Option Bool) AQG AQ5 AIL (AFl ok) k
def AC8(q:CK->V->V->Option Bool)(ks:List CK):List V->List V->Option Bool:=
 List.rec (motive:=λ_=>List V->List V->Option Bool) (λa b=>List.rec (motive:=λ_=>Option Bool) (List.rec (motive:=λ_=>Option Bool) (some true) (λ_ _ _=>none) b) (λ_ _ _=>none) a)
  (λk _ g a b=>List.rec (motive:=λ_=>Option Bool) none (λx xs _=>List.rec (motive:=λ_=>Option Bool) none (λy ys _=>Ld (q k x y) λr=>Ld (g xs ys) λr'=>some (band r r')) b) a) ks
def AFi(ok:Nat->Bool)(ks:List CK)(x y:V):Option Bool:=
 Option.rec (motive:=λ_=>Option Bool) none (λl=>Option.rec (motive:=λ_=>Option Bool) none (λm=>AC8 (CK.eqH ok) ks l m) y.AaK) x.AaK
inductive B2 where
 |add|sub|mul|quo|rem|and|or|xor|andNot|shl|shr|lss|leq|gtr|geq
def AVG(f:Int->Int->Bool)(x y:V):Option V:=x.Iq λk a s=>y.Iq λk' b t=>BI (band (keq k k') (Nat.beq (Nat.add s t) 0)) (mkB (f a b))
def APb(f:Nat->Nat->Nat->Nat->Bool)(x y:V):Option V:=x.VK λl c=>y.VK λm d=>mkB (f l c m d)
def ari(f:Int->Int->Int)(x y:V):Option V:=x.Iq λk a s=>y.Iq λk' b t=>BI (keq k k') (mkI k (f a b) (Nat.add s t))
def dvs(f:Int->Int->Int)(x y:V):Option V:=
 x.Iq λk a s=>y.Iq λk' b t=>BI (band (keq k k') (band (Nat.beq t 0) (Qq (ieq b 0)))) (mkI k (f a b) s)
def Ab3(x y:V):Option V:=
 x.Iq λk a s=>y.Iq λk' b t=>BI (band (keq k k') (band (Nat.beq t 0) (Qq (ieq b 0)))) (mkN k (Int.tmod a b) s)
def Aea(x y:V):Option V:=x.VK λl c=>y.VK λm d=>BI (Nat.blt (Nat.add l m) 9223372036854775808) (Dx (Nat.add l m) λn=>Dx (Ae5 l c d) λe=>some (.str n e))
def AdE(x y:V):Option V:=AHm (isStr x) (Aea x y) (ari AHI x y)
def Afn(x y:V):Option V:=ari (λa b=>AHI a (Int.neg b)) x y
def AfM(x y:V):Option V:=ari Int.mul x y
def AZ4(k:IntKind)(a b:Int):Int:=Int.rec (motive:=λ_=>Int->IntKind->Int)
 (λm b k=>Int.rec (motive:=λ_=>Nat->IntKind->Int) (λn m k=>Z7 k (.ofNat (Nat.land m n))) (λn m k=>bits .and k (.ofNat m) (.negSucc n)) b m k)
 (λm b k=>bits .and k (.negSucc m) b) a b k
def AdC(x y:V):Option V:=x.Iq λk a s=>y.Iq λk' b t=>BI (band (keq k k') (Nat.beq (Nat.add s t) 0)) (YQ (AZ4 k a b) λm=>some (.int k m 0))
def AYC(o:BinOp)(x y:V):Option V:=x.Iq λk a s=>y.Iq λk' b t=>BI (band (keq k k') (Nat.beq (Nat.add s t) 0)) (YQ (bits o k a b) λm=>some (.int k m 0))
def Afe(a:Int)(n:Nat):Int:=Int.fdiv a (Int.ofNat (Nat.pow 2 n))
def ARF(k:IntKind):Nat:=IntKind.rec 8 16 32 64 8 16 32 64 k
def Ac6(x y:V):Option V:=x.Iq λk a s=>y.Iq λ_ b t=>BI (band (Qq (ilt b 0)) (Nat.beq (Nat.add s t) 0)) (YQ (Afe a (Nat.min (Int.toNat b) (ARF k))) λm=>some (.int k m 0))
def Ad0(x y:V):Option V:=x.Iq λk a s=>y.Iq λ_ b t=>BI (band (Qq (ilt b 0)) (Nat.beq (Nat.add s t) 0)) (mkI k (Int.mul a (Int.ofNat (Nat.pow 2 (Nat.min (Int.toNat b) (ARF k))))) 0)
def ofB(o:Option Bool):Option V:=Option.rec none mkB o
def CU(k:EK)(neg:Bool)(x y:V):Option V:=ofB (Ld (k.eq x y) λb=>some (Bool.rec (motive:=λ_=>Bool->Bool) (λb=>b) Qq neg b))
def AXm(ks:List CK)(neg:Bool)(x y:V)(H:Heap):Option V:=ofB (Ld (AFi (TD H) ks x y) λb=>some (Bool.rec (motive:=λ_=>Bool->Bool) (λb=>b) Qq neg b))
def Ad7(x y:V):Option V:=AHm (isStr x) (APb slt x y) (AVG ilt x y)
def Adb(x y:V):Option V:=AHm (isStr x) (APb (λl c m d=>Qq (slt m d l c)) x y) (AVG ile x y)
def AcA(x y:V):Option V:=AHm (isStr x) (APb (λl c m d=>slt m d l c) x y) (AVG (λa b=>ilt b a) x y)
def Acd(x y:V):Option V:=AHm (isStr x) (APb (λl c m d=>Qq (slt l c m d)) x y) (AVG (λa b=>ile b a) x y)
def B2.ev(o:B2):V->V->Option V:=B2.rec (motive:=λ_=>V->V->Option V)
 AdE Afn AfM (dvs Int.tdiv) Ab3 AdC (AYC .or) (AYC .xor) (AYC .andNot) Ad0 Ac6 Ad7 Adb AcA Acd o
end Go.Bf
namespace Go.RL
open Go.Bf
def q0:P2:=.h
def q1:P2:=.z q0
def q2:P2:=.o q0
def q3:P2:=.z q1
def q4:P2:=.o q1
def q5:P2:=.z q2
def q6:P2:=.o q2
def q7:P2:=.z q3
def q8:P2:=.o q3
def q9:P2:=.z q4
def q10:P2:=.o q4
def q11:P2:=.z q5
def q12:P2:=.o q5
def q13:P2:=.z q6
def q14:P2:=.o q6
def q15:P2:=.z q7
def q16:P2:=.o q7
def q17:P2:=.z q8
def q18:P2:=.o q8
def q19:P2:=.z q9
def q20:P2:=.o q9
def q21:P2:=.z q10
def q22:P2:=.o q10
def q23:P2:=.z q11
def q24:P2:=.o q11
def q25:P2:=.z q12
def q26:P2:=.o q12
def q27:P2:=.z q13
def q28:P2:=.o q13
def q29:P2:=.z q14
def q30:P2:=.o q14
def q31:P2:=.z q15
def q32:P2:=.o q15
def q33:P2:=.z q16
def q34:P2:=.o q16
def q35:P2:=.z q17
def q36:P2:=.o q17
def q37:P2:=.z q18
def q38:P2:=.o q18
def q39:P2:=.z q19
def q40:P2:=.o q19
def q41:P2:=.z q20
def q42:P2:=.o q20
def q43:P2:=.z q21
def q44:P2:=.o q21
def q45:P2:=.z q22
def q46:P2:=.o q22
def q48:P2:=.o q23
def q49:P2:=.z q24
def q50:P2:=.o q24
def q51:P2:=.z q25
def q52:P2:=.o q25
def q53:P2:=.z q26
def q54:P2:=.o q26
def q55:P2:=.z q27
def q56:P2:=.o q27
def q58:P2:=.o q28
def q59:P2:=.z q29
def q60:P2:=.o q29
def q61:P2:=.z q30
def q62:P2:=.o q30
def q63:P2:=.z q31
def q64:P2:=.o q31
def q65:P2:=.z q32
def q66:P2:=.o q32
def q67:P2:=.z q33
def q68:P2:=.o q33
def q69:P2:=.z q34
def q70:P2:=.o q34
def q71:P2:=.z q35
def q72:P2:=.o q35
def q73:P2:=.z q36
def q74:P2:=.o q36
def q75:P2:=.z q37
def q76:P2:=.o q37
def q77:P2:=.z q38
def q78:P2:=.o q38
def q80:P2:=.o q39
def q83:P2:=.z q41
def q84:P2:=.o q41
def q85:P2:=.z q42
def q86:P2:=.o q42
def q87:P2:=.z q43
def q90:P2:=.o q44
def q91:P2:=.z q45
def q92:P2:=.o q45
def q93:P2:=.z q46
def q94:P2:=.o q46
def q98:P2:=.o q48
def AeR:P2:=.z q54
def AfT:P2:=.o q54
def Aez:P2:=.z q55
def AhM:P2:=.z q56
def AhS:P2:=.z q64
def AgZ:P2:=.o q64
def AhI:P2:=.z q65
def Agt:P2:=.z q69
def AhR:P2:=.o q71
def AhZ:P2:=.o q74
def Agh:P2:=.z q75
def Ahi:P2:=.o q76
abbrev ADM:Nat:=3
abbrev SG:Nat:=4
abbrev uq:Nat:=5
abbrev AIh:Nat:=6
abbrev dG:Nat:=7
abbrev fM:Nat:=8
abbrev PX:Nat:=9
abbrev ALc:Nat:=10
abbrev jd:Nat:=11
abbrev eH:Nat:=12
abbrev uw:Nat:=15
abbrev eP:Nat:=16
abbrev AJ7:Nat:=17
abbrev fD:Nat:=18
abbrev kV:Nat:=19
abbrev gV:Nat:=20
abbrev Qj:Nat:=21
abbrev RZ:Nat:=22
abbrev Td:Nat:=23
abbrev CB:Nat:=24
abbrev AJ6:Nat:=25
abbrev Uo:Nat:=26
abbrev oU:Nat:=27
abbrev Ri:Nat:=28
abbrev Zh:Nat:=33
abbrev Wq:Nat:=34
abbrev cZ:Nat:=35
abbrev o9:Nat:=36
abbrev jV:Nat:=37
abbrev Dw:Nat:=38
abbrev Eb:Nat:=39
abbrev EY:Nat:=40
abbrev AGV:Nat:=41
abbrev Jj:Nat:=42
abbrev OE:Nat:=43
abbrev ZT:Nat:=44
abbrev Kr:Nat:=45
abbrev WS:Nat:=46
abbrev EH:Nat:=47
abbrev RP:Nat:=48
abbrev Xl:Nat:=49
abbrev Ei:Nat:=50
abbrev XF:Nat:=51
abbrev Ug:Nat:=52
abbrev Ez:Nat:=53
abbrev kP:Nat:=54
abbrev DF:Nat:=55
abbrev YK:Nat:=56
abbrev jq:Nat:=57
abbrev CW:Nat:=58
abbrev Aq:Nat:=59
abbrev CX:Nat:=68
abbrev RG:Nat:=69
abbrev TJ:Nat:=70
abbrev YW:Nat:=71
abbrev AIB:Nat:=72
abbrev ZM:Nat:=73
abbrev AAo:Nat:=74
abbrev TN:Nat:=75
abbrev PS:Nat:=76
abbrev kN:Nat:=77
abbrev KQ:Nat:=78
abbrev lF:Nat:=79
abbrev Gh:Nat:=80
abbrev AC9:Nat:=81
abbrev Az:Nat:=82
abbrev IX:Nat:=83
abbrev EF:Nat:=84
abbrev BA:Nat:=85
abbrev FD:Nat:=86
abbrev VZ:Nat:=87
abbrev VP:Nat:=88
abbrev oZ:Nat:=89
abbrev aX:Nat:=90
abbrev Nq:Nat:=91
abbrev Zq:Nat:=113
abbrev kH:Nat:=114
abbrev WW:Nat:=115
abbrev VB:Nat:=116
abbrev WA:Nat:=117
abbrev O3:Nat:=118
abbrev jL:Nat:=119
abbrev Zg:Nat:=145
abbrev jQ:Nat:=146
end Go.RL
namespace Go.Bf
inductive AN where
 |mv (x:X)
 |pick (c a b:X)
 |ld1 (x:X)
 |ldn (n:Nat) (x:X)
 |AXo (x:X)
 |bin (o:B2) (x y:X)
 |eq (k:EK) (neg:Bool) (x y:X)
 |not (x:X)
 |neg (x:X)
 |cvi (k:IntKind) (x:X)
 |Ahc (f:Nat) (first caps:List X)
 |AeW (off:Nat) (x:X)
 |field1 (off:Nat) (x:X)
 |AdU (off n:Nat) (x:X)
 |Ae9 (esz:Nat) (x i:X)
 |AdW (n esz:Nat) (x i:X)
 |Ahw (x i:X)
 |Agj (n:Nat) (x i:X)
 |ext (x:X) (i:Nat)
 |iT (x:X)
 |Agg (x:X)
 |Af6 (x:X)
 |Ahn (n:Nat)
 |look (c:CK) (ok:Bool) (zero:V) (m k:X)
 |build (zero:List V) (parts:List (Nat×Nat×X))
 |AfO (x:X) (lo hi:Option X)
 |slc (esz:Nat) (x:X) (lo hi mx:Option X)
 |Ahd (n esz:Nat) (x:X) (lo hi:Option X)
 |Agb (x y:X)
 |Ahv (x y:X)
 |cvS (x:X)
 |Aax (s c:X)
 |APb (x y:X)
 |eqp (k:List CK) (neg:Bool) (x y:X)
inductive AA where
 |alloc (esz:Nat) (es:List (List V))
 |box (x:X)
 |ANv (esz cnt:Nat) (zero:List V) (parts:List (Nat×X))
 |AJa (esz bytes:Nat) (zero:List V) (l c:X)
 |AXp
 |qU (t e:Nat)
inductive AE where
 |asg (x:X)
 |st (n:Nat) (x v:X)
 |app (esz bytes:Nat) (x y:X)
 |copy (esz:Nat) (x y:X)
 |ASW (c:CK) (m k v:X)
 |del (c:CK) (m k:X)
 |AfG (m:X)
 |call (f:Nat) (args:List X)
 |AT1 (x:X) (args:List X)
 |defer (dp:P2) (x:X) (args:List X)
 |cvB (x:X)
inductive AO where
 |n (o:AN)|a (o:AA)|e (o:AE)
inductive Dst where
 |no|to (p:P2)|ps
inductive Gd where
 |no|on (x:X) (b:Bool)
inductive AOp where
 |mk (d:Dst) (g:Gd) (o:AO)
def AZo(n:Int):(Nat->Option V)->Option V:=Int.rec (motive:=λ_=>(Nat->Option V)->Option V) (λm f=>f m) (λ_ _=>none) n
def Ym(v:V)(f:Nat->Option V):Option V:=v.Iq λ_ n s=>BI (Nat.beq s 0) (AZo n f)
def lu(x:Option X):RS->Nat->(Nat->Option V)->Option V:=
 Option.rec (motive:=λ_=>RS->Nat->(Nat->Option V)->Option V) (λ_ d f=>f d) (λx R _ f=>Ym (x.ev R) f) x
def f3(a b c:Nat)(f:Nat->Nat->Nat->V):Option V:=Dx a λa=>Dx b λb=>Dx c λc=>some (f a b c)
def AJm(R:RS)(lo hi mx:Option X):Option V:=lu mx R 0 λm=>lu hi R 0 λh=>lu lo R 0 λl=>BI (band (Nat.ble l h) (band (Nat.ble h m) (Nat.beq m 0))) (some .Ad)
def ARY(z:Nat)(R:RS)(lo hi mx:Option X)(id off ln cap esz:Nat):Option V:=BI (Nat.beq z esz) (lu mx R cap λm=>lu hi R ln λh=>lu lo R 0 λl=>
 BI (band (Nat.ble l h) (band (Nat.ble h m) (Nat.ble m cap))) (f3 (Nat.add off l) (Nat.sub h l) (Nat.sub m l) λo d c=>.sl id o d c esz))
def AJE(R:RS)(lo hi:Option X)(id off ln esz:Nat):Option V:=lu hi R ln λh=>lu lo R 0 λl=>
 BI (band (Nat.ble l h) (Nat.ble h ln)) (f3 (Nat.add off l) (Nat.sub h l) 0 λo d _=>.F9 id o d esz)
def AJb(R:RS)(lo hi:Option X)(mx:X)(id off ln esz:Nat):Option V:=Ym (mx.ev R) λm=>lu hi R 0 λh=>lu lo R 0 λl=>
 BI (band (Nat.ble l h) (band (Nat.ble h m) (Nat.ble m ln))) (f3 (Nat.add off l) (Nat.sub h l) (Nat.sub m l) λo d c=>.sl id o d c esz)
def AGu(z:Nat)(R:RS)(lo hi mx:Option X)(id off ln esz:Nat):Option V:=
 BI (Nat.beq z esz) (Option.rec (motive:=λ_=>Option V) (AJE R lo hi id off ln esz) (λmx=>AJb R lo hi mx id off ln esz) mx)
def AKi(z:Nat)(R:RS)(lo hi mx:Option X)(b off ln cap esz:Nat):Option V:=lu hi R ln λh=>lu lo R 0 λl=>
 Option.rec (motive:=λ_=>Option V) (BI (band (Nat.ble l h) (Nat.ble h cap)) (f3 (Nat.add off (Nat.mul l z)) (Nat.sub h l) (Nat.sub cap l) λo d c=>.rsl b o d c esz)) (λ_=>none) mx
def wB(z:Nat)(x:V)(R:RS)(lo hi mx:Option X):Option V:=x.AZN (AJm R lo hi mx) (ARY z R lo hi mx) (AGu z R lo hi mx) (AKi z R lo hi mx)
def AT0(x:V)(R:RS)(lo hi:Option X):Option V:=
 x.VK λln c=>lu hi R ln λh=>lu lo R 0 λl=>BI (band (Nat.ble l h) (Nat.ble h ln)) (f3 (Nat.sub h l) (Afo c l h) 0 λd c _=>.str d c)
def Ai(esz:Nat)(x i:V):Option V:=Ym i λi=>x.AZN none
 (λid off ln _ e=>BI (band (Nat.beq e esz) (Nat.blt i ln)) (Dx (Nat.mul (Nat.add off i) esz) λo=>some (.ptr id o)))
 (λid off ln e=>BI (band (Nat.beq e esz) (Nat.blt i ln)) (Dx (Nat.mul (Nat.add off i) esz) λo=>some (.ptr id o)))
 (λb off ln _ _=>BI (Nat.blt i ln) (Dx (Nat.add off (Nat.mul i esz)) λo=>some (.gptr b o)))
def AQ(off:Nat)(x:V):Option V:=x.AQb (λid o=>Dx (Nat.add o off) λo=>some (.ptr id o)) (λb o=>Dx (Nat.add o off) λo=>some (.gptr b o))
abbrev ME:=List (V×V×Nat)
def vJ(c:CK)(k:V)(es:ME):Nat->Option (Option (Nat×V)):=
 List.rec (motive:=λ_=>Nat->Option (Option (Nat×V))) (λ_=>some none)
  (λe _ g i=>BO (c.eq e.1 k) λr=>Bool.rec (g (Nat.succ i)) (some (some (i,e.2.1))) r) es
def Adi(b:Nu):(ME->Nat->Option V)->Option V:=Nu.rec (motive:=λ_=>(ME->Nat->Option V)->Option V) (λ_ _ _ _=>none) (λes c f=>f es c) (λ_=>none) (λ_ _ _ _ _ _=>none) (λ_ _=>none) b
def Qc(H:Heap)(m:V)(f:ME->Nat->Option V):Option V:=m.ATT (f [] 0) λid=>Option.rec (motive:=λ_=>(ME->Nat->Option V)->Option V) (λ_=>none) Adi (T.get H id) f
def AH1(parts:List (Nat×Nat×X)):RS->List V->List V:=
 List.rec (motive:=λ_=>RS->List V->List V) (λ_ l=>l) (λp _ g R l=>g R (AP4 (A8 (p.2.2.ev R)) p.1 l)) parts
def Zp(v:V):Bool:=
 V.rec (motive_1:=λ_=>Bool) (motive_2:=λ_=>PUnit)
  (false)
  (λ_ _ _=>true)
  (λ_=>true)
  (λ_ _=>true)
  (true)
  (λ_ _=>true)
  (λ_ _=>true)
  (true)
  (λ_ _ _ _ _=>true)
  (λ_ _ _ _=>true)
  (λ_ _ _ _ _=>true)
  (true)
  (λ_=>true)
  (true)
  (λ_ _ _ _ _=>true)
  (λ_ _=>true)
  (λ_ _=>false)
  (true)
  (λ_ _ _=>true)
  ⟨⟩ (λ_ _ _ _=>⟨⟩) v
def qW(parts:List (Nat×Nat×X)):RS->Bool:=
 List.rec (motive:=λ_=>RS->Bool) (λ_=>true) (λp _ g R=>band (band (Zp (p.2.2.ev R)) (Nat.beq (len (A8 (p.2.2.ev R))) p.2.1)) (g R)) parts
abbrev EL:=List LV
def CQ(H:Heap)(id esz:Nat)(n:Nat):Nat->Option EL:=
 Nat.rec (motive:=λ_=>Nat->Option EL) (λ_=>some [])
  (λ_ g o=>BO (mY H id (Nat.mul o esz) esz) λL=>BO (g (Nat.succ o)) λLS=>some (L::LS)) n
def AAJ(G:AY)(b esz:Nat)(n:Nat):Nat->Option EL:=
 Nat.rec (motive:=λ_=>Nat->Option EL) (λ_=>some [])
  (λ_ g o=>BO (G b o esz) λL=>BO (g (Nat.add o esz)) λLS=>some (L::LS)) n
def fE(n:Nat):Nat->EL:=
 Nat.rec (motive:=λ_=>Nat->EL) (λ_=>[]) (λ_ g c=>[.int .u8 (.ofNat (Nat.mod c 256)) 0]::g (Nat.div c 256)) n
def elems(v:V):(AY)->(Heap)->(Nat)->Option EL:=
 V.rec (motive_1:=λ_=>(AY)->(Heap)->(Nat)->Option EL) (motive_2:=λ_=>PUnit)
  (λ_ _ _=>none)
  (λ_ _ _ _ _ _=>none)
  (λ_ _ _ _=>none)
  (λa b _ _ z=>Bool.rec (motive:=λ_=>Option EL) none (some (fE a b)) (Nat.beq 1 z))
  (λ_ _ _=>none)
  (λ_ _ _ _ _=>none)
  (λ_ _ _ _ _=>none)
  (λ_ _ _=>some [])
  (λa b c _ e _ H z=>Bool.rec (motive:=λ_=>Option EL) none (CQ H a z c b) (Nat.beq e z))
  (λa b c d _ H z=>Bool.rec (motive:=λ_=>Option EL) none (CQ H a z c b) (Nat.beq d z))
  (λa b c _ _ G _ z=>AAJ G a z c b)
  (λ_ _ _=>none)
  (λ_ _ _ _=>none)
  (λ_ _ _=>none)
  (λ_ _ _ _ _ _ _ _=>none)
  (λ_ _ _ _ _=>none)
  (λ_ _ _ _ _=>none)
  (λ_ _ _=>none)
  (λ_ _ _ _ _ _=>none)
  ⟨⟩ (λ_ _ _ _=>⟨⟩) v
def byteOf(v:V):Option Nat:=
 V.rec (motive_1:=λ_=>Option Nat) (motive_2:=λ_=>PUnit)
  (none)
  (λa b c=>Int.rec (motive:=λ_=>Nat->Option Nat) (λm t=>Bool.rec none (some m) (band (Nat.beq (kno a) 4) (band (Nat.blt m 256) (Nat.beq t 0)))) (λ_ _=>none) b c)
  (λ_=>none)
  (λ_ _=>none)
  (none)
  (λ_ _=>none)
  (λ_ _=>none)
  (none)
  (λ_ _ _ _ _=>none)
  (λ_ _ _ _=>none)
  (λ_ _ _ _ _=>none)
  (none)
  (λ_=>none)
  (none)
  (λ_ _ _ _ _=>none)
  (λ_ _=>none)
  (λ_ _=>none)
  (none)
  (λ_ _ _=>none)
  ⟨⟩ (λ_ _ _ _=>⟨⟩) v
def ANB(l:EL):Option Nat:=
 List.rec (motive:=λ_=>Option Nat) (some 0) (λx _ g=>BO (nth x 0) λv=>BO (byteOf v) λm=>BO g λc=>some (Nat.add m (Nat.mul 256 c))) l
def AJ1(b:Nat)(f:Nat):Nat->Nat->Int:=
 Nat.rec (motive:=λ_=>Nat->Nat->Int) (λ_ _=>.negSucc 0)
  (λ_ g c i=>Bool.rec (g (Nat.div c 256) (Nat.succ i)) (.ofNat i) (Nat.beq (Nat.mod c 256) b)) f
abbrev yA:=AY->RS->Heap->Option V
def eMv(x:X):yA:=λ_ R _=>some (x.ev R)
def AUN(c a b:X):yA:=λ_ R _=>(c.ev R).yG λt=>AHm t (some (a.ev R)) (some (b.ev R))
def Aaw(x:X):yA:=λG R H=>Va (ldP (x.ev R) G H 1) λL=>nth L 0
def AaR(n:Nat)(x:X):yA:=λG R H=>Va (ldP (x.ev R) G H n) λL=>some (.agg L)
def AOL(x:X):yA:=λ_ R _=>Af (x.ev R)
def AZ6(o:B2)(x y:X):yA:=λ_ R _=>o.ev (x.ev R) (y.ev R)
def eEq(k:EK)(neg:Bool)(x y:X):yA:=λ_ R _=>CU k neg (x.ev R) (y.ev R)
def Aa6(x:X):yA:=λ_ R _=>(x.ev R).yG λb=>mkB (Qq b)
def Aat(x:X):yA:=λ_ R _=>(x.ev R).Iq λk n s=>mkI k (Int.neg n) s
def AaE(k:IntKind)(x:X):yA:=λ_ R _=>(x.ev R).Iq λ_ n s=>mkI k n s
def AT6(f:Nat)(a c:List X):yA:=λ_ R _=>some (.fn f (nH a R) (nH c R))
def AO9(off:Nat)(x:X):yA:=λ_ R _=>AQ off (x.ev R)
def AJU(off:Nat)(x:X):yA:=λ_ R _=>(x.ev R).AGP λl=>nth l off
def AJW(off n:Nat)(x:X):yA:=λ_ R _=>(x.ev R).AGP λl=>some (.agg (aK n (AAS off l)))
def ANo(esz:Nat)(x i:X):yA:=λ_ R _=>Ai esz (x.ev R) (i.ev R)
def AJM(n esz:Nat)(x i:X):yA:=λ_ R _=>Ym (i.ev R) λi=>BI (Nat.blt i n) (AQ (Nat.mul i esz) (x.ev R))
def AT2(x i:X):yA:=λ_ R _=>(x.ev R).VK λln c=>Ym (i.ev R) λi=>BI (Nat.blt i ln) (Dx (AYf c i) λb=>some (.int .u8 (.ofNat b) 0))
def ATv(n:Nat)(x i:X):yA:=λ_ R _=>(x.ev R).AGP λl=>Ym (i.ev R) λi=>BI (Nat.blt i n) (nth l i)
def AZL(x:X)(i:Nat):yA:=λ_ R _=>(x.ev R).AQC λl=>nth l i
def AUL(x:X):yA:=λ_ R _=>(x.ev R).VK λn _=>some (.int .i64 (.ofNat n) 0)
def AUA(x:X):yA:=λ_ R _=>lenV (x.ev R)
def AUU(x:X):yA:=λ_ R H=>Qc H (x.ev R) λes _=>Dx (len es) λn=>some (.int .i64 (.ofNat n) 0)
def Afm(n:Nat):yA:=λ_ _ _=>some (.int .i64 (.ofNat n) 0)
def ARJ(ok:Bool)(z:V)(r:Option (Nat×V)):Option V:=
 Option.rec (motive:=λ_=>Option V) (AHm ok (some (.Dl [z,.bool false])) (some z)) (λp=>AHm ok (some (.Dl [p.2,.bool true])) (some p.2)) r
def AUr(c:CK)(ok:Bool)(z:V)(m k:X):yA:=λ_ R H=>Qc H (m.ev R) λes _=>BO (vJ c (k.ev R) es 0) (ARJ ok z)
def AOP(z:LV)(ps:List (Nat×Nat×X)):yA:=λ_ R _=>BI (qW ps R) (some (.agg (AH1 ps R z)))
def ALl(x:X)(lo hi:Option X):yA:=λ_ R _=>AT0 (x.ev R) R lo hi
def Aab(z:Nat)(x:X)(lo hi mx:Option X):yA:=λ_ R _=>wB z (x.ev R) R lo hi mx
def AUm(n esz:Nat)(x:X)(lo hi:Option X):yA:=λ_ R _=>(x.ev R).AQb (λid o=>lu hi R n λh=>lu lo R 0 λl=>
 BI (band (Nat.beq (Nat.mod o esz) 0) (band (Nat.ble l h) (Nat.ble h n))) (f3 (Nat.add (Nat.div o esz) l) (Nat.sub h l) (Nat.sub n l) λa b c=>.sl id a b c esz)) (λ_ _=>none)
def Aam(x y:X):yA:=λ_ R _=>(x.ev R).Iq λk a s=>(y.ev R).Iq λk' b t=>BI (band (keq k k') (Nat.beq (Nat.add s t) 0)) (some (.int k (Bool.rec a b (ilt a b)) 0))
def Aa9(x y:X):yA:=λ_ R _=>(x.ev R).Iq λk a s=>(y.ev R).Iq λk' b t=>BI (band (keq k k') (Nat.beq (Nat.add s t) 0)) (some (.int k (Bool.rec a b (ilt b a)) 0))
def AZm(x:X):yA:=λG R H=>BI (Qq (isStr (x.ev R))) (BO (elems (x.ev R) G H 1) λl=>BO (ANB l) λc=>f3 (len l) c 0 λn c _=>.str n c)
def AOW(s c:X):yA:=λ_ R _=>(s.ev R).VK λn cd=>(c.ev R).Iq λk b _=>BI (Nat.beq (kno k) 4) (AZo b λb=>BI (Nat.blt b 256) (YQ (AJ1 b n cd 0) λi=>some (.int .i64 i 0)))
def AXL(x y:V):Option V:=x.VK λl c=>y.VK λm d=>some (.int .i64 (Bool.rec (Bool.rec (.ofNat 0) (.ofNat 1) (slt m d l c)) (.negSucc 0) (slt l c m d)) 0)
def AZh(k:List CK)(neg:Bool)(x y:X):yA:=λ_ R H=>AXm k neg (x.ev R) (y.ev R) H
def AUs(x y:X):yA:=λ_ R _=>AXL (x.ev R) (y.ev R)
def AN.ev(o:AN):yA:=AN.rec (motive:=λ_=>yA)
 eMv AUN Aaw AaR AOL AZ6 eEq Aa6 Aat AaE AT6 AO9 AJU AJW ANo AJM AT2 ATv AZL AUL AUA AUU Afm AUr AOP ALl Aab AUm Aam Aa9 AZm AOW AUs AZh o
def AGU(L:LV)(n:Nat):T LV->T LV:=
 Nat.rec (motive:=λ_=>T LV->T LV) (λt=>t) (λi g t=>g (T.set t i L)) n
def Et(LS:EL):Nat->T LV->T LV:=
 List.rec (motive:=λ_=>Nat->T LV->T LV) (λ_ t=>t) (λL _ g i t=>g (Nat.succ i) (T.set t i L)) LS
def uU(parts:List (Nat×X)):RS->T LV->T LV:=
 List.rec (motive:=λ_=>RS->T LV->T LV) (λ_ t=>t) (λp _ g R t=>g R (T.set t p.1 (A8 (p.2.ev R)))) parts
def bJ(parts:List (Nat×X)):RS->Nat->Nat->Bool:=
 List.rec (motive:=λ_=>RS->Nat->Nat->Bool) (λ_ _ _=>true) (λp _ g R esz cnt=>band (band (Zp (p.2.ev R)) (band (Nat.blt p.1 cnt) (Nat.beq (len (A8 (p.2.ev R))) esz))) (g R esz cnt)) parts
def V.AYk(v:V):(Nat->Prop)->Prop:=
 V.rec (motive_1:=λ_=>(Nat->Prop)->Prop) (motive_2:=λ_=>PUnit)
  (λ_=>False)
  (λ_ _ _ _=>False)
  (λ_ _=>False)
  (λ_ _ _=>False)
  (λ_=>False)
  (λa _ f=>f a)
  (λ_ _ _=>False)
  (λ_=>False)
  (λ_ _ _ _ _ _=>False)
  (λ_ _ _ _ _=>False)
  (λ_ _ _ _ _ _=>False)
  (λ_=>False)
  (λ_ _=>False)
  (λ_=>False)
  (λ_ _ _ _ _ _=>False)
  (λ_ _ _=>False)
  (λ_ _ _=>False)
  (λ_=>False)
  (λ_ _ _ _=>False)
  ⟨⟩ (λ_ _ _ _=>⟨⟩) v
def V.AJY(v:V):(Nat->Nat->Prop)->Prop:=
 V.rec (motive_1:=λ_=>(Nat->Nat->Prop)->Prop) (motive_2:=λ_=>PUnit)
  (λ_=>False)
  (λ_ _ _ _=>False)
  (λ_ _=>False)
  (λ_ _ _=>False)
  (λ_=>False)
  (λa b f=>f a b)
  (λ_ _ _=>False)
  (λ_=>False)
  (λ_ _ _ _ _ _=>False)
  (λ_ _ _ _ _=>False)
  (λ_ _ _ _ _ _=>False)
  (λ_=>False)
  (λ_ _=>False)
  (λ_=>False)
  (λ_ _ _ _ _ _=>False)
  (λ_ _ _=>False)
  (λ_ _ _=>False)
  (λ_=>False)
  (λ_ _ _ _=>False)
  ⟨⟩ (λ_ _ _ _=>⟨⟩) v
abbrev KA:=Nu->(Nat->V)->Prop
abbrev AlT:=RS->KA->Prop
def Ji(b:Bool)(p:Prop):Prop:=Bool.rec (motive:=λ_=>Prop->Prop) (λ_=>False) (λp=>p) b p
def AOV(v:V)(f:Nat->Prop):Prop:=Gu (Ym v λn=>some (.ptr n 0)) λv=>V.AYk v f
def Am(esz:Nat)(es:EL):AlT:=λ_ k=>DT (len es) λn=>k (.arr esz n (Et es 0 .e)) λid=>.ptr id 0
def AL7(x:X):AlT:=λR k=>Ji (Zp (x.ev R)) (DT (len (A8 (x.ev R))) λe=>k (.arr e 1 (T.set .e 0 (A8 (x.ev R)))) λid=>.ptr id 0)
def Ar(esz cnt:Nat)(z:LV)(ps:List (Nat×X)):AlT:=λR k=>Ji (bJ ps R esz cnt) (k (.arr esz cnt (uU ps R (AGU z cnt .e))) λid=>.sl id 0 cnt cnt esz)
def I5(esz bs:Nat)(z:LV)(l c:X):AlT:=λR k=>AOV (l.ev R) λl=>AOV (c.ev R) λc=>
 Ji (band (Nat.ble l c) (Nat.ble (Nat.mul bs c) 281474976710656)) (k (.arr esz c (AGU z c .e)) λid=>.sl id 0 l c esz)
def AGh:AlT:=λ_ k=>k (.map [] 0) λid=>.map id
def AhN(t e:Nat):AlT:=λ_ k=>k (.qU t e 0 0 0) λid=>.ptr id 0
def AA.al(o:AA):AlT:=AA.rec (motive:=λ_=>AlT) Am AL7 Ar I5 AGh AhN o
abbrev K:=Ih->Heap->Nat->Prop
abbrev KV:=V->Heap->Nat->Prop
abbrev Au:=Nat->List V->Heap->Nat->KV->Prop
def Rk(need bytes:Nat):Bool:=Nat.ble (Nat.mul need bytes) 140737488355328
abbrev ASc:=AY->Nat->Nat->EL->Heap->Nat->KV->Prop
def KH(esz bs:Nat)(OS LS:EL)(H:Heap)(n:Nat)(k:KV):Prop:=
 DT (Nat.add (len OS) (len LS)) λneed=>Ji (Rk need bs) (DT n λn=>k (.F9 n 0 need esz) (T.set H n (.arr esz need (Et LS (len OS) (Et OS 0 .e)))) (Nat.succ n))
def Adr:ASc:=λ_ esz bs LS H n k=>List.rec (motive:=λ_=>Prop) (k .Ad H n) (λ_ _ _=>KH esz bs [] LS H n k) LS
def ACp(id off ln cap esz need:Nat)(LS:EL)(H:Heap)(n:Nat)(k:KV)(b:Nu):Prop:=
 Nu.rec (motive:=λ_=>Prop) (λesz' cnt c=>Ji (band (Nat.beq esz esz') (Nat.ble (Nat.add off need) cnt)) (k (.sl id off need cap esz) (T.set H id (.arr esz cnt (Et LS (Nat.add off ln) c))) n)) (λ_ _=>False) False (λ_ _ _ _ _=>False) (λ_=>False) b
def Abs(id off ln cap e:Nat):ASc:=λ_ esz bs LS H n k=>Ji (Nat.beq e esz) (DT (Nat.add ln (len LS)) λneed=>
 Bool.rec (motive:=λ_=>Prop) (Gu (CQ H id esz ln off) λOS=>KH esz bs OS LS H n k) (Gu (T.get H id) λb=>ACp id off ln cap esz need LS H n k b) (Nat.ble need cap))
def jw(id off ln esz bs:Nat)(LS:EL)(H:Heap)(n:Nat)(k:KV)(b:Nu):Prop:=
 Nu.rec (motive:=λ_=>Prop) (λesz' cnt c=>DT (Nat.add ln (len LS)) λneed=>Ji (band (Rk need bs) (band (Nat.beq esz esz') (Nat.ble (Nat.add off ln) cnt)))
  (DT n λn=>Nat.rec (motive:=λ_=>Prop)
   (k (.F9 n 0 need esz) (T.set (T.set H id .dead) n (.arr esz need (Et LS ln c))) (Nat.succ n))
   (λ_ _=>Gu (CQ H id esz ln off) λOS=>k (.F9 n 0 need esz) (T.set (T.set H id .dead) n (.arr esz need (Et LS ln (Et OS 0 .e)))) (Nat.succ n)) off))
  (λ_ _=>False) False (λ_ _ _ _ _=>False) (λ_=>False) b
def AYp(id off ln e:Nat):ASc:=λ_ esz bs LS H n k=>Ji (Nat.beq e esz) (List.rec (motive:=λ_=>Prop) (k (.F9 id off ln esz) H n)
 (λ_ _ _=>Gu (T.get H id) λb=>jw id off ln esz bs LS H n k b) LS)
def AXb(b off ln cap e:Nat):ASc:=λG esz bs LS H n k=>Ji (Nat.blt cap (Nat.add ln (len LS))) (Gu (AAJ G b esz ln off) λOS=>KH esz bs OS LS H n k)
def dX:ASc:=λ_ _ _ _ _ _ _=>False
def APB(v:V):ASc:=
 V.rec (motive_1:=λ_=>ASc) (motive_2:=λ_=>PUnit)
  (dX)
  (λ_ _ _=>dX)
  (λ_=>dX)
  (λ_ _=>dX)
  (dX)
  (λ_ _=>dX)
  (λ_ _=>dX)
  (Adr)
  (λa b c d e=>Abs a b c d e)
  (λa b c d=>AYp a b c d)
  (λa b c d e=>AXb a b c d e)
  (dX)
  (λ_=>dX)
  (dX)
  (λ_ _ _ _ _=>dX)
  (λ_ _=>dX)
  (λ_ _=>dX)
  (dX)
  (λ_ _ _=>dX)
  ⟨⟩ (λ_ _ _ _=>⟨⟩) v
def AXJ(id off esz:Nat)(LS:EL)(H:Heap)(n:Nat)(k:KV)(b:Nu):Prop:=
 Nu.rec (motive:=λ_=>Prop) (λesz' cnt c=>Ji (band (Nat.beq esz esz') (Nat.ble (Nat.add off (len LS)) cnt)) (DT (len LS) λm=>k (.int .i64 (.ofNat m) 0) (T.set H id (.arr esz cnt (Et LS off c))) n)) (λ_ _=>False) False (λ_ _ _ _ _=>False) (λ_=>False) b
abbrev CpT:=Nat->EL->Heap->Nat->KV->Prop
def AKO(id off ln:Nat):CpT:=λesz LS H n k=>Gu (T.get H id) λb=>AXJ id off esz (aK ln LS) H n k b
def AMg(v:V):(Nat)->(EL)->(Heap)->(Nat)->(KV)->Prop:=
 V.rec (motive_1:=λ_=>(Nat)->(EL)->(Heap)->(Nat)->(KV)->Prop) (motive_2:=λ_=>PUnit)
  (λ_ _ _ _ _=>False)
  (λ_ _ _ _ _ _ _ _=>False)
  (λ_ _ _ _ _ _=>False)
  (λ_ _ _ _ _ _ _=>False)
  (λ_ _ _ _ _=>False)
  (λ_ _ _ _ _ _ _=>False)
  (λ_ _ _ _ _ _ _=>False)
  (λ_ _ H n k=>k (.int .i64 (.ofNat 0) 0) H n)
  (λa b c _ e z L H n k=>Ji (Nat.beq e z) (AKO a b c z L H n k))
  (λa b c d z L H n k=>Ji (Nat.beq d z) (AKO a b c z L H n k))
  (λ_ _ _ _ _ _ _ _ _ _=>False)
  (λ_ _ _ _ _=>False)
  (λ_ _ _ _ _ _=>False)
  (λ_ _ _ _ _=>False)
  (λ_ _ _ _ _ _ _ _ _ _=>False)
  (λ_ _ _ _ _ _ _=>False)
  (λ_ _ _ _ _ _ _=>False)
  (λ_ _ _ _ _=>False)
  (λ_ _ _ _ _ _ _ _=>False)
  ⟨⟩ (λ_ _ _ _=>⟨⟩) v
def AK7{α:Type}(l:List α):Nat->List α:=
 List.rec (motive:=λ_=>Nat->List α) (λ_=>[]) (λy ys g i=>Nat.rec (motive:=λ_=>List α) ys (λi _=>y::g i) i) l
def AYH(b:Nu):(ME->Nat->Option Nu)->Option Nu:=Nu.rec (motive:=λ_=>(ME->Nat->Option Nu)->Option Nu) (λ_ _ _ _=>none) (λes c f=>f es c) (λ_=>none) (λ_ _ _ _ _ _=>none) (λ_ _=>none) b
def Aes(H:Heap)(id:Nat)(f:ME->Nat->Option Nu)(g:Heap->Prop):Prop:=Gu (T.get H id) λb=>Gu (AYH b f) λb=>g (T.set H id b)
def AMG(v:V):(Heap)->(ME->Nat->Option Nu)->(Heap->Prop)->Prop:=
 V.rec (motive_1:=λ_=>(Heap)->(ME->Nat->Option Nu)->(Heap->Prop)->Prop) (motive_2:=λ_=>PUnit)
  (λ_ _ _=>False)
  (λ_ _ _ _ _ _=>False)
  (λ_ _ _ _=>False)
  (λ_ _ _ _ _=>False)
  (λ_ _ _=>False)
  (λ_ _ _ _ _=>False)
  (λ_ _ _ _ _=>False)
  (λ_ _ _=>False)
  (λ_ _ _ _ _ _ _ _=>False)
  (λ_ _ _ _ _ _ _=>False)
  (λ_ _ _ _ _ _ _ _=>False)
  (λ_ _ _=>False)
  (λa H f g=>Aes H a f g)
  (λ_ _ _=>False)
  (λ_ _ _ _ _ _ _ _=>False)
  (λ_ _ _ _ _=>False)
  (λ_ _ _ _ _=>False)
  (λ_ _ _=>False)
  (λ_ _ _ _ _ _=>False)
  ⟨⟩ (λ_ _ _ _=>⟨⟩) v
def V.Y8(v:V):(Nat->LV->LV->Prop)->Prop:=
 V.rec (motive_1:=λ_=>(Nat->LV->LV->Prop)->Prop) (motive_2:=λ_=>PUnit)
  (λ_=>False)
  (λ_ _ _ _=>False)
  (λ_ _=>False)
  (λ_ _ _=>False)
  (λ_=>False)
  (λ_ _ _=>False)
  (λ_ _ _=>False)
  (λ_=>False)
  (λ_ _ _ _ _ _=>False)
  (λ_ _ _ _ _=>False)
  (λ_ _ _ _ _ _=>False)
  (λ_=>False)
  (λ_ _=>False)
  (λ_=>False)
  (λa b c _ _ f=>f a b c)
  (λ_ _ _=>False)
  (λ_ _ _=>False)
  (λ_=>False)
  (λ_ _ _ _=>False)
  ⟨⟩ (λ_ _ _ _=>⟨⟩) v
def AQu(v:V):LV:=
 V.rec (motive_1:=λ_=>LV) (motive_2:=λ_=>PUnit)
  ([])
  (λ_ _ _=>[])
  (λ_=>[])
  (λ_ _=>[])
  ([])
  (λ_ _=>[])
  (λ_ _=>[])
  ([])
  (λ_ _ _ _ _=>[])
  (λ_ _ _ _=>[])
  (λ_ _ _ _ _=>[])
  ([])
  (λ_=>[])
  ([])
  (λ_ _ _ _ _=>[])
  (λ_ _=>[])
  (λa _=>a)
  ([])
  (λ_ _ _=>[])
  ⟨⟩ (λ_ _ _ _=>⟨⟩) v
abbrev ExT:=AY->Au->RS->Heap->Nat->KV->Prop
def Agx(x:X):ExT:=λ_ _ R H n k=>k (x.ev R) H n
def xSt(sz:Nat)(x v:X):ExT:=λ_ _ R H n k=>Ji (band (Zp (v.ev R)) (Nat.beq (len (A8 (v.ev R))) sz)) (Gu (stP (x.ev R) H sz (A8 (v.ev R))) λH=>k .undef H n)
def AhX(esz bs:Nat)(x y:X):ExT:=λG _ R H n k=>Gu (elems (y.ev R) G H esz) λLS=>APB (x.ev R) G esz bs LS H n k
def AfR(esz:Nat)(x y:X):ExT:=λG _ R H n k=>Gu (elems (y.ev R) G H esz) λLS=>AMg (x.ev R) esz LS H n k
def AL9(ck:CK)(key v:V)(es:ME)(c:Nat):Option Nu:=BO (vJ ck key es 0) λr=>
 Option.rec (motive:=λ_=>Option Nu) (some (.map (cat es [(key,v,c)]) (Nat.succ c))) (λp=>BO (nth es p.1) λe=>some (.map (rE (e.1,v,e.2.2) es p.1) c)) r
def Ac5(ck:CK)(key:V)(es:ME)(c:Nat):Option Nu:=BO (vJ ck key es 0) λr=>
 Option.rec (motive:=λ_=>Option Nu) (some (.map es c)) (λp=>some (.map (AK7 es p.1) c)) r
def Ag6(c:CK)(m key v:X):ExT:=λ_ _ R H n k=>AMG (m.ev R) H (AL9 c (key.ev R) (v.ev R)) λH=>k .undef H n
def Ahj(c:CK)(m key:X):ExT:=λ_ _ R H n k=>AMG (m.ev R) H (Ac5 c (key.ev R)) λH=>k (.Dl []) H n
def Ag0(m:X):ExT:=λ_ _ R H n k=>AMG (m.ev R) H (λ_ c=>some (.map [] c)) λH=>k (.Dl []) H n
def Af7(f:Nat)(args:List X):ExT:=λ_ call R H n k=>call f (nH args R) H n k
def Adm(x:X)(args:List X):ExT:=λ_ call R H n k=>V.Y8 (x.ev R) λf a c=>call f (cat a (cat (nH args R) c)) H n k
def AcT(dp:P2)(x:X)(args:List X):ExT:=λ_ _ R H n k=>V.Y8 (x.ev R) λf a c=>k (.Dl (.fn f (cat a (nH args R)) c::AQu (Ls (T.Du dp R.rg)))) H n
def Ahq(x:X):ExT:=λ_ _ R H n k=>Gu ((x.ev R).VK λl c=>some (.ptr l c)) λv=>V.AJY v λl c=>
 DT n λn=>k (.F9 n 0 l 1) (T.set H n (.arr 1 l (Et (fE l c) 0 .e))) (Nat.succ n)
def AE.ex(o:AE):ExT:=AE.rec (motive:=λ_=>ExT) Agx xSt AhX AfR Ag6 Ahj Ag0 Af7 Adm AcT Ahq o
def AhK(p:P2)(v:V)(E:RS):RS:=RS.rec (motive:=λ_=>P2->V->RS) (λL R p v=>.mk L (T.iP v p R)) E p v
def Aey(v:V)(E:RS):RS:=RS.rec (motive:=λ_=>V->RS) (λL R v=>.mk (v::L) R) E v
def FW(d:Dst)(v:V):RS->RS:=Dst.rec (motive:=λ_=>V->RS->RS) (λ_ R=>R) AhK Aey d v
abbrev KE:=RS->Heap->Nat->Prop
abbrev XoT:=AY->Au->Dst->RS->Heap->Nat->KE->Prop
def oN(o:AN):XoT:=λG _ d R H n k=>AL (o.ev G R H) λv=>k (FW d v R) H n
def oA(o:AA):XoT:=λ_ _ d R H n k=>o.al R λb f=>DT n λn=>k (FW d (f n) R) (T.set H n b) (Nat.succ n)
def oE(o:AE):XoT:=λG call d R H n k=>o.ex G call R H n λv H n=>k (FW d v R) H n
def AO.ex(o:AO):XoT:=AO.rec (motive:=λ_=>XoT) oN oA oE o
def AZ(v:V)(b:Bool)(yes no:Prop):Prop:=v.ATt λt=>Bool.rec (motive:=λ_=>Prop->Prop->Prop) (λ_ n=>n) (λy _=>y) (AYg t b) yes no
def wP(v:V):(Bool)->(Prop)->(Prop)->Prop:=
 V.rec (motive_1:=λ_=>(Bool)->(Prop)->(Prop)->Prop) (motive_2:=λ_=>PUnit)
  (λ_ _ _=>False)
  (λ_ _ _ _ _ _=>False)
  (λa b' yes no=>Bool.rec (motive:=λ_=>Prop->Prop->Prop) (λ_ n=>n) (λy _=>y) (AYg a b') yes no)
  (λ_ _ _ _ _=>False)
  (λ_ _ _=>False)
  (λ_ _ _ _ _=>False)
  (λ_ _ _ _ _=>False)
  (λ_ _ _=>False)
  (λ_ _ _ _ _ _ _ _=>False)
  (λ_ _ _ _ _ _ _=>False)
  (λ_ _ _ _ _ _ _ _=>False)
  (λ_ _ _=>False)
  (λ_ _ _ _=>False)
  (λ_ _ _=>False)
  (λ_ _ _ _ _ _ _ _=>False)
  (λ_ _ _ _ _=>False)
  (λa _ _ _ no=>List.rec (motive:=λ_=>Prop) no (λ_ _ _=>False) a)
  (λ_ _ _=>False)
  (λ_ _ _ _ _ _=>False)
  ⟨⟩ (λ_ _ _ _=>⟨⟩) v
abbrev XpT:=AY->Au->RS->Heap->Nat->KE->Prop
def gNo(d:Dst)(o:AO):XpT:=λG call R H n k=>o.ex G call d R H n k
def gOn(x:X)(b:Bool)(d:Dst)(o:AO):XpT:=λG call R H n k=>wP (x.ev R) b (o.ex G call d R H n k) (k (FW d (.Dl []) R) H n)
def AOp.ex(o:AOp):XpT:=AOp.rec (motive:=λ_=>XpT) (λd g o=>Gd.rec (motive:=λ_=>Dst->AO->XpT) gNo gOn g d o) o
def AQ3(v:V):(IntKind)->(Int)->(Nat)->Bool:=
 V.rec (motive_1:=λ_=>(IntKind)->(Int)->(Nat)->Bool) (motive_2:=λ_=>PUnit)
  (λ_ _ _=>false)
  (λa b c k n s=>band (keq k a) (band (ieq n b) (band (Nat.beq s 0) (Nat.beq c 0))))
  (λ_ _ _ _=>false)
  (λ_ _ _ _ _=>false)
  (λ_ _ _=>false)
  (λ_ _ _ _ _=>false)
  (λ_ _ _ _ _=>false)
  (λ_ _ _=>false)
  (λ_ _ _ _ _ _ _ _=>false)
  (λ_ _ _ _ _ _ _=>false)
  (λ_ _ _ _ _ _ _ _=>false)
  (λ_ _ _=>false)
  (λ_ _ _ _=>false)
  (λ_ _ _=>false)
  (λ_ _ _ _ _ _ _ _=>false)
  (λ_ _ _ _ _=>false)
  (λ_ _ _ _ _=>false)
  (λ_ _ _=>false)
  (λ_ _ _ _ _ _=>false)
  ⟨⟩ (λ_ _ _ _=>⟨⟩) v
def AK5(v:V):(Bool)->Bool:=
 V.rec (motive_1:=λ_=>(Bool)->Bool) (motive_2:=λ_=>PUnit)
  (λ_=>false)
  (λ_ _ _ _=>false)
  (λa x=>AYg x a)
  (λ_ _ _=>false)
  (λ_=>false)
  (λ_ _ _=>false)
  (λ_ _ _=>false)
  (λ_=>false)
  (λ_ _ _ _ _ _=>false)
  (λ_ _ _ _ _=>false)
  (λ_ _ _ _ _ _=>false)
  (λ_=>false)
  (λ_ _=>false)
  (λ_=>false)
  (λ_ _ _ _ _ _=>false)
  (λ_ _ _=>false)
  (λ_ _ _=>false)
  (λ_=>false)
  (λ_ _ _ _=>false)
  ⟨⟩ (λ_ _ _ _=>⟨⟩) v
def AXC(v:V):(Nat)->(Nat)->Bool:=
 V.rec (motive_1:=λ_=>(Nat)->(Nat)->Bool) (motive_2:=λ_=>PUnit)
  (λ_ _=>false)
  (λ_ _ _ _ _=>false)
  (λ_ _ _=>false)
  (λa b l m=>band (Nat.beq l a) (Nat.beq m b))
  (λ_ _=>false)
  (λ_ _ _ _=>false)
  (λ_ _ _ _=>false)
  (λ_ _=>false)
  (λ_ _ _ _ _ _ _=>false)
  (λ_ _ _ _ _ _=>false)
  (λ_ _ _ _ _ _ _=>false)
  (λ_ _=>false)
  (λ_ _ _=>false)
  (λ_ _=>false)
  (λ_ _ _ _ _ _ _=>false)
  (λ_ _ _ _=>false)
  (λ_ _ _ _=>false)
  (λ_ _=>false)
  (λ_ _ _ _ _=>false)
  ⟨⟩ (λ_ _ _ _=>⟨⟩) v
def AOM(v:V):Bool:=
 V.rec (motive_1:=λ_=>Bool) (motive_2:=λ_=>PUnit)
  (false)
  (λ_ _ _=>false)
  (λ_=>false)
  (λ_ _=>false)
  (true)
  (λ_ _=>false)
  (λ_ _=>false)
  (false)
  (λ_ _ _ _ _=>false)
  (λ_ _ _ _=>false)
  (λ_ _ _ _ _=>false)
  (false)
  (λ_=>false)
  (false)
  (λ_ _ _ _ _=>false)
  (λ_ _=>false)
  (λ_ _=>false)
  (false)
  (λ_ _ _=>false)
  ⟨⟩ (λ_ _ _ _=>⟨⟩) v
def AO0(v:V):Bool:=
 V.rec (motive_1:=λ_=>Bool) (motive_2:=λ_=>PUnit)
  (false)
  (λ_ _ _=>false)
  (λ_=>false)
  (λ_ _=>false)
  (false)
  (λ_ _=>false)
  (λ_ _=>false)
  (true)
  (λ_ _ _ _ _=>false)
  (λ_ _ _ _=>false)
  (λ_ _ _ _ _=>false)
  (false)
  (λ_=>false)
  (false)
  (λ_ _ _ _ _=>false)
  (λ_ _=>false)
  (λ_ _=>false)
  (false)
  (λ_ _ _=>false)
  ⟨⟩ (λ_ _ _ _=>⟨⟩) v
def AO2(v:V):Bool:=
 V.rec (motive_1:=λ_=>Bool) (motive_2:=λ_=>PUnit)
  (false)
  (λ_ _ _=>false)
  (λ_=>false)
  (λ_ _=>false)
  (false)
  (λ_ _=>false)
  (λ_ _=>false)
  (false)
  (λ_ _ _ _ _=>false)
  (λ_ _ _ _=>false)
  (λ_ _ _ _ _=>false)
  (true)
  (λ_=>false)
  (false)
  (λ_ _ _ _ _=>false)
  (λ_ _=>false)
  (λ_ _=>false)
  (false)
  (λ_ _ _=>false)
  ⟨⟩ (λ_ _ _ _=>⟨⟩) v
def ANy(v:V):Bool:=
 V.rec (motive_1:=λ_=>Bool) (motive_2:=λ_=>PUnit)
  (false)
  (λ_ _ _=>false)
  (λ_=>false)
  (λ_ _=>false)
  (false)
  (λ_ _=>false)
  (λ_ _=>false)
  (false)
  (λ_ _ _ _ _=>false)
  (λ_ _ _ _=>false)
  (λ_ _ _ _ _=>false)
  (false)
  (λ_=>false)
  (true)
  (λ_ _ _ _ _=>false)
  (λ_ _=>false)
  (λ_ _=>false)
  (false)
  (λ_ _ _=>false)
  ⟨⟩ (λ_ _ _ _=>⟨⟩) v
def AYc(v:V):(Nat)->(Nat)->Bool:=
 V.rec (motive_1:=λ_=>(Nat)->(Nat)->Bool) (motive_2:=λ_=>PUnit)
  (λ_ _=>false)
  (λ_ _ _ _ _=>false)
  (λ_ _ _=>false)
  (λ_ _ _ _=>false)
  (λ_ _=>false)
  (λa b l m=>band (Nat.beq l a) (Nat.beq m b))
  (λ_ _ _ _=>false)
  (λ_ _=>false)
  (λ_ _ _ _ _ _ _=>false)
  (λ_ _ _ _ _ _=>false)
  (λ_ _ _ _ _ _ _=>false)
  (λ_ _=>false)
  (λ_ _ _=>false)
  (λ_ _=>false)
  (λ_ _ _ _ _ _ _=>false)
  (λ_ _ _ _=>false)
  (λ_ _ _ _=>false)
  (λ_ _=>false)
  (λ_ _ _ _ _=>false)
  ⟨⟩ (λ_ _ _ _=>⟨⟩) v
def AR4(v:V):(Nat)->(Nat)->Bool:=
 V.rec (motive_1:=λ_=>(Nat)->(Nat)->Bool) (motive_2:=λ_=>PUnit)
  (λ_ _=>false)
  (λ_ _ _ _ _=>false)
  (λ_ _ _=>false)
  (λ_ _ _ _=>false)
  (λ_ _=>false)
  (λ_ _ _ _=>false)
  (λa b l m=>band (Nat.beq l a) (Nat.beq m b))
  (λ_ _=>false)
  (λ_ _ _ _ _ _ _=>false)
  (λ_ _ _ _ _ _=>false)
  (λ_ _ _ _ _ _ _=>false)
  (λ_ _=>false)
  (λ_ _ _=>false)
  (λ_ _=>false)
  (λ_ _ _ _ _ _ _=>false)
  (λ_ _ _ _=>false)
  (λ_ _ _ _=>false)
  (λ_ _=>false)
  (λ_ _ _ _ _=>false)
  ⟨⟩ (λ_ _ _ _=>⟨⟩) v
def AWo(v:V):(Nat)->Bool:=
 V.rec (motive_1:=λ_=>(Nat)->Bool) (motive_2:=λ_=>PUnit)
  (λ_=>false)
  (λ_ _ _ _=>false)
  (λ_ _=>false)
  (λ_ _ _=>false)
  (λ_=>false)
  (λ_ _ _=>false)
  (λ_ _ _=>false)
  (λ_=>false)
  (λ_ _ _ _ _ _=>false)
  (λ_ _ _ _ _=>false)
  (λ_ _ _ _ _ _=>false)
  (λ_=>false)
  (λa l=>Nat.beq l a)
  (λ_=>false)
  (λ_ _ _ _ _ _=>false)
  (λ_ _ _=>false)
  (λ_ _ _=>false)
  (λ_=>false)
  (λ_ _ _ _=>false)
  ⟨⟩ (λ_ _ _ _=>⟨⟩) v
def AZa(v:V):(Nat)->(Nat)->(Nat)->(Nat)->(Nat)->Bool:=
 V.rec (motive_1:=λ_=>(Nat)->(Nat)->(Nat)->(Nat)->(Nat)->Bool) (motive_2:=λ_=>PUnit)
  (λ_ _ _ _ _=>false)
  (λ_ _ _ _ _ _ _ _=>false)
  (λ_ _ _ _ _ _=>false)
  (λ_ _ _ _ _ _ _=>false)
  (λ_ _ _ _ _=>false)
  (λ_ _ _ _ _ _ _=>false)
  (λ_ _ _ _ _ _ _=>false)
  (λ_ _ _ _ _=>false)
  (λa b c d e i j k l m=>band (Nat.beq i a) (band (Nat.beq j b) (band (Nat.beq k c) (band (Nat.beq l d) (Nat.beq m e)))))
  (λ_ _ _ _ _ _ _ _ _=>false)
  (λ_ _ _ _ _ _ _ _ _ _=>false)
  (λ_ _ _ _ _=>false)
  (λ_ _ _ _ _ _=>false)
  (λ_ _ _ _ _=>false)
  (λ_ _ _ _ _ _ _ _ _ _=>false)
  (λ_ _ _ _ _ _ _=>false)
  (λ_ _ _ _ _ _ _=>false)
  (λ_ _ _ _ _=>false)
  (λ_ _ _ _ _ _ _ _=>false)
  ⟨⟩ (λ_ _ _ _=>⟨⟩) v
def AUB(v:V):(Nat)->(Nat)->(Nat)->(Nat)->Bool:=
 V.rec (motive_1:=λ_=>(Nat)->(Nat)->(Nat)->(Nat)->Bool) (motive_2:=λ_=>PUnit)
  (λ_ _ _ _=>false)
  (λ_ _ _ _ _ _ _=>false)
  (λ_ _ _ _ _=>false)
  (λ_ _ _ _ _ _=>false)
  (λ_ _ _ _=>false)
  (λ_ _ _ _ _ _=>false)
  (λ_ _ _ _ _ _=>false)
  (λ_ _ _ _=>false)
  (λ_ _ _ _ _ _ _ _ _=>false)
  (λa b c d i j k l=>band (Nat.beq i a) (band (Nat.beq j b) (band (Nat.beq k c) (Nat.beq l d))))
  (λ_ _ _ _ _ _ _ _ _=>false)
  (λ_ _ _ _=>false)
  (λ_ _ _ _ _=>false)
  (λ_ _ _ _=>false)
  (λ_ _ _ _ _ _ _ _ _=>false)
  (λ_ _ _ _ _ _=>false)
  (λ_ _ _ _ _ _=>false)
  (λ_ _ _ _=>false)
  (λ_ _ _ _ _ _ _=>false)
  ⟨⟩ (λ_ _ _ _=>⟨⟩) v
def AYF(v:V):(Nat)->(Nat)->(Nat)->(Nat)->(Nat)->Bool:=
 V.rec (motive_1:=λ_=>(Nat)->(Nat)->(Nat)->(Nat)->(Nat)->Bool) (motive_2:=λ_=>PUnit)
  (λ_ _ _ _ _=>false)
  (λ_ _ _ _ _ _ _ _=>false)
  (λ_ _ _ _ _ _=>false)
  (λ_ _ _ _ _ _ _=>false)
  (λ_ _ _ _ _=>false)
  (λ_ _ _ _ _ _ _=>false)
  (λ_ _ _ _ _ _ _=>false)
  (λ_ _ _ _ _=>false)
  (λ_ _ _ _ _ _ _ _ _ _=>false)
  (λ_ _ _ _ _ _ _ _ _=>false)
  (λa b c d e i j k l m=>band (Nat.beq i a) (band (Nat.beq j b) (band (Nat.beq k c) (band (Nat.beq l d) (Nat.beq m e)))))
  (λ_ _ _ _ _=>false)
  (λ_ _ _ _ _ _=>false)
  (λ_ _ _ _ _=>false)
  (λ_ _ _ _ _ _ _ _ _ _=>false)
  (λ_ _ _ _ _ _ _=>false)
  (λ_ _ _ _ _ _ _=>false)
  (λ_ _ _ _ _=>false)
  (λ_ _ _ _ _ _ _ _=>false)
  ⟨⟩ (λ_ _ _ _=>⟨⟩) v
def Rj(v:V):(V)->Bool:=
 V.rec (motive_1:=λ_=>(V)->Bool) (motive_2:=λ_=>PUnit)
  (λ_=>false)
  (λa b c y=>AQ3 y a b c)
  (λa y=>AK5 y a)
  (λa b y=>AXC y a b)
  (λy=>AOM y)
  (λa b y=>AYc y a b)
  (λa b y=>AR4 y a b)
  (λy=>AO0 y)
  (λa b c d e y=>AZa y a b c d e)
  (λa b c d y=>AUB y a b c d)
  (λa b c d e y=>AYF y a b c d e)
  (λy=>AO2 y)
  (λa y=>AWo y a)
  (λy=>ANy y)
  (λ_ _ _ _ _ _=>false)
  (λ_ _ _=>false)
  (λ_ _ _=>false)
  (λ_=>false)
  (λ_ _ _ _=>false)
  ⟨⟩ (λ_ _ _ _=>⟨⟩) v
def ALE(a:List V):List V->Bool:=
 List.rec (motive:=λ_=>List V->Bool) (λb=>List.rec (motive:=λ_=>Bool) true (λ_ _ _=>false) b)
  (λx _ g b=>List.rec (motive:=λ_=>Bool) false (λy ys _=>band (Rj x y) (g ys)) b) a
def Abc(v:V):(LV)->Bool:=
 V.rec (motive_1:=λ_=>(LV)->Bool) (motive_2:=λ_=>PUnit)
  (λ_=>false)
  (λ_ _ _ _=>false)
  (λ_ _=>false)
  (λ_ _ _=>false)
  (λ_=>false)
  (λ_ _ _=>false)
  (λ_ _ _=>false)
  (λ_=>false)
  (λ_ _ _ _ _ _=>false)
  (λ_ _ _ _ _=>false)
  (λ_ _ _ _ _ _=>false)
  (λ_=>false)
  (λ_ _=>false)
  (λ_=>false)
  (λ_ _ _ _ _ _=>false)
  (λa _ l=>ALE l a)
  (λ_ _ _=>false)
  (λ_=>false)
  (λ_ _ _ _=>false)
  ⟨⟩ (λ_ _ _ _=>⟨⟩) v
def Abb(v:V):(LV)->Bool:=
 V.rec (motive_1:=λ_=>(LV)->Bool) (motive_2:=λ_=>PUnit)
  (λ_=>false)
  (λ_ _ _ _=>false)
  (λ_ _=>false)
  (λ_ _ _=>false)
  (λ_=>false)
  (λ_ _ _=>false)
  (λ_ _ _=>false)
  (λ_=>false)
  (λ_ _ _ _ _ _=>false)
  (λ_ _ _ _ _=>false)
  (λ_ _ _ _ _ _=>false)
  (λ_=>false)
  (λ_ _=>false)
  (λ_=>false)
  (λ_ _ _ _ _ _=>false)
  (λ_ _ _=>false)
  (λa _ l=>ALE l a)
  (λ_=>false)
  (λ_ _ _ _=>false)
  ⟨⟩ (λ_ _ _ _=>⟨⟩) v
def AQA(v:V):Bool:=
 V.rec (motive_1:=λ_=>Bool) (motive_2:=λ_=>PUnit)
  (true)
  (λ_ _ _=>false)
  (λ_=>false)
  (λ_ _=>false)
  (false)
  (λ_ _=>false)
  (λ_ _=>false)
  (false)
  (λ_ _ _ _ _=>false)
  (λ_ _ _ _=>false)
  (λ_ _ _ _ _=>false)
  (false)
  (λ_=>false)
  (false)
  (λ_ _ _ _ _=>false)
  (λ_ _=>false)
  (λ_ _=>false)
  (false)
  (λ_ _ _=>false)
  ⟨⟩ (λ_ _ _ _=>⟨⟩) v
def Es(v:V):(V)->Bool:=
 V.rec (motive_1:=λ_=>(V)->Bool) (motive_2:=λ_=>PUnit)
  (λy=>AQA y)
  (λa b c y=>AQ3 y a b c)
  (λa y=>AK5 y a)
  (λa b y=>AXC y a b)
  (λy=>AOM y)
  (λa b y=>AYc y a b)
  (λa b y=>AR4 y a b)
  (λy=>AO0 y)
  (λa b c d e y=>AZa y a b c d e)
  (λa b c d y=>AUB y a b c d)
  (λa b c d e y=>AYF y a b c d e)
  (λy=>AO2 y)
  (λa y=>AWo y a)
  (λy=>ANy y)
  (λ_ _ _ _ _ _=>false)
  (λa _ y=>Abc y a)
  (λa _ y=>Abb y a)
  (λ_=>false)
  (λ_ _ _ _=>false)
  ⟨⟩ (λ_ _ _ _=>⟨⟩) v
inductive AI where
 |op (o:AOp)
 |re (d:P2) (g:Gd) (o:AN)
inductive AC where
 |skip
 |ops (l:List AOp)
 |reg (l:List AI)
 |seq (a b:AC)
 |cond (x:X) (a b:AC)
 |block (id:Nat) (c:AC)
 |loop (c:AC)
 |exit (id:Nat)
 |ret
def Qa(l:List AOp):XpT:=
 List.rec (motive:=λ_=>XpT) (λ_ _ R H n k=>k R H n) (λo _ g G call R H n k=>o.ex G call R H n λR H n=>g G call R H n k) l
abbrev ReT:=AY->RS->Heap->P2->AN->Prop->Prop
def Af0:ReT:=λG R H d o k=>AL (o.ev G R H) λv=>Ji (Es v (Ls (T.Du d R.rg))) k
def AhA(x:X)(b:Bool):ReT:=λG R H d o k=>wP (x.ev R) b (AL (o.ev G R H) λv=>Ji (Es v (Ls (T.Du d R.rg))) k) k
def AdT(g:Gd):ReT:=Gd.rec (motive:=λ_=>ReT) Af0 AhA g
def AI.ex(i:AI):XpT:=AI.rec (motive:=λ_=>XpT) (λo=>o.ex) (λd g o G _ R H n k=>AdT g G R H d o (k R H n)) i
def Bl(l:List AI):XpT:=
 List.rec (motive:=λ_=>XpT) (λ_ _ R H n k=>k R H n) (λi _ g G call R H n k=>i.ex G call R H n λR H n=>g G call R H n k) l
abbrev KX:=Nat->K
abbrev M:=AY->Au->Nat->Ih->Heap->Nat->K->KX->K->Prop
def AXf:M:=λ_ _ _ R H n k _ _=>k R H n
def AZG(l:List AOp):M:=λG call _ R H n k _ _=>Qa l G call (.mk [] R) H n λE H n=>k E.rg H n
def AZS(l:List AI):M:=λG call _ R H n k _ _=>Bl l G call (.mk [] R) H n λE H n=>k E.rg H n
def AW8(_ _:AC)(a b:M):M:=λG call lf R H n k x r=>a G call lf R H n (λR H n=>b G call lf R H n k x r) x r
def AQJ(c:X)(_ _:AC)(a b:M):M:=λG call lf R H n k x r=>AZ (c.ev (.mk [] R)) true (a G call lf R H n k x r) (b G call lf R H n k x r)
def Gz(id:Nat)(k:K)(x:KX):KX:=λi R H n=>Bool.rec (motive:=λ_=>Prop->Prop->Prop) (λa _=>a) (λ_ b=>b) (Nat.beq i id) (x i R H n) (k R H n)
def AKy(id:Nat)(_:AC)(a:M):M:=λG call lf R H n k x r=>a G call lf R H n k (Gz id k x) r
def Y1(a:M)(G:AY)(call:Au)(lf0 lf:Nat):Ih->Heap->Nat->KX->K->Prop:=
 Nat.rec (motive:=λ_=>Ih->Heap->Nat->KX->K->Prop) (λ_ _ _ _ _=>False) (λ_ g R H n x r=>a G call lf0 R H n (λR H n=>g R H n x r) x r) lf
def Afr(_:AC)(a:M):M:=λG call lf R H n _ x r=>Y1 a G call lf lf R H n x r
def AWJ(id:Nat):M:=λ_ _ _ R H n _ x _=>x id R H n
def Acp:M:=λ_ _ _ R H n _ _ r=>r R H n
def AC.ex(c:AC):M:=AC.rec (motive:=λ_=>M) AXf AZG AZS AW8 AQJ AKy Afr AWJ Acp c
inductive AR where
 |tmp (p:P2)|cell1 (p:P2)|celln (p:P2) (n:Nat)
inductive Nk where
 |join|rep|wstr (t e:Nat)|bstr (t e:Nat)
inductive AF where
 |mk (np:Nat) (code:AC) (res:List AR) (dp:Dst) (dg:Nat)
 |nat (k:Nk)
def AR.get(r:AR):AY->Ih->Heap->Option V:=
 AR.rec (motive:=λ_=>AY->Ih->Heap->Option V) (λp _ R _=>some (Ls (T.Du p R))) (λp G R H=>Va (ldP (Ls (T.Du p R)) G H 1) λL=>nth L 0)
  (λp n G R H=>Va (ldP (Ls (T.Du p R)) G H n) λL=>some (.agg L)) r
def AIV(l:List AR):AY->Ih->Heap->Option LV:=
 List.rec (motive:=λ_=>AY->Ih->Heap->Option LV) (λ_ _ _=>some []) (λr _ g G R H=>BO (r.get G R H) λv=>BO (g G R H) λvs=>some (v::vs)) l
def JF(l:List V):V:=List.rec (motive:=λ_=>V) (V.Dl []) (λv vs _=>List.rec (motive:=λ_=>V) v (λw ws _=>V.Dl (v::w::ws)) vs) l
def nJ(args:List V):Nat->Ih->Ih:=
 List.rec (motive:=λ_=>Nat->Ih->Ih) (λ_ R=>R) (λv _ g i R=>g (Nat.succ i) (T.set R i v)) args
def VI(dg:Nat)(l:List V):Au->Heap->Nat->(Heap->Nat->Prop)->Prop:=
 List.rec (motive:=λ_=>Au->Heap->Nat->(Heap->Nat->Prop)->Prop) (λ_ H n k=>k H n)
  (λv _ g call H n k=>V.Y8 v λf a c=>Ji (Nat.beq f dg) (call f (cat a c) H n λ_ H n=>g call H n k)) l
def AL8(res:List AR)(G:AY)(k:KV):K:=λR H n=>Gu (AIV res G R H) λl=>k (JF l) H n
def JE(res:List AR)(dg:Nat)(d:Dst):AY->Au->KV->K:=
 Dst.rec (motive:=λ_=>AY->Au->KV->K) (λG _ k=>AL8 res G k) (λp G call k R H n=>VI dg (AQu (Ls (T.Du p R))) call H n λH n=>AL8 res G k R H n) (λG _ k=>AL8 res G k) d
def AWx(p q:Nat×Nat):Nat×Nat:=(p.1+q.1,p.2+256^p.1*q.2)
def AbN:EL->Option (List (Nat×Nat))
 |[]=>some []
 |[.str l c]::r=>match AbN r with|some x=>some ((l,c)::x)|none=>none
 |_::_=>none
def AYe(s:Nat×Nat):List (Nat×Nat)->Nat×Nat
 |[]=>(0,0)
 |a::r=>r.foldl (λp q=>AWx (AWx p s) q) a
def Ada(s:Nat×Nat):Nat->Nat×Nat
 |0=>(0,0)
 |n+1=>AWx s (Ada s n)
def AaJ:Nat:=140737488355328
def AUn(x y:V)(G:AY)(H:Heap)(n:Nat)(k:KV):Prop:=
 match y with
 |.str sl sc=>Ji (Qq (isStr x)) <| Gu (elems x G H 1) λLS=>Gu (AbN LS) λss=>Ji (decide (ss.length<=AaJ/\(AYe (sl,sc) ss).1<=AaJ)) (k (.str (AYe (sl,sc) ss).1 (AYe (sl,sc) ss).2) H n)
 |_=>False
def AXz(x y:V)(H:Heap)(n:Nat)(k:KV):Prop:=
 match x,y with
 |.str l c,.int .i64 (.ofNat m) _=>Ji (decide (m<=9223372036854775807/\l*m<=AaJ)) (k (.str (Ada (l,c) m).1 (Ada (l,c) m).2) H n)
 |_,_=>False
def AUS(t e:Nat)(x y:V)(H:Heap)(n:Nat)(k:KV):Prop:=
 match x,y with
 |.ptr id 0,.str m d=>(match T.get H id with
  |some (.qU t' e' l c j)=>Ji (decide (t'=t/\e'=e/\l+m<=AaJ)) (k (.Dl [.int .i64 (.ofNat m) 0,.AWW]) (T.set (T.set (bif decide (l=0)then H else T.set H j .dead) n (.own id)) id (.qU t e (AWx (l,c) (m,d)).1 (AWx (l,c) (m,d)).2 n)) (n+1))
  |_=>False)
 |_,_=>False
def ATx(t e:Nat)(x:V)(H:Heap)(n:Nat)(k:KV):Prop:=
 match x with
 |.ptr id 0=>(match T.get H id with
  |some (.qU t' e' l c _)=>Ji (decide (t'=t/\e'=e)) (k (.str l c) (T.set H id .dead) n)
  |_=>False)
 |_=>False
def AEH(f:Nk)(G:AY)(args:List V)(H:Heap)(n:Nat)(k:KV):Prop:=
 match f,args with
 |.join,[x,y]=>AUn x y G H n k
 |.rep,[x,y]=>AXz x y H n k
 |.wstr t e,[x,y]=>AUS t e x y H n k
 |.bstr t e,[x]=>ATx t e x H n k
 |_,_=>False
def noX:KX:=λ_ _ _ _=>False
def uz(f:AF):AY->Au->Nat->List V->Heap->Nat->KV->Prop:=
 AF.rec (motive:=λ_=>AY->Au->Nat->List V->Heap->Nat->KV->Prop) (λnp code res d dg G call lf args H n k=>Ji (Nat.beq (len args) np) (code.ex G call lf (nJ args 0 .e) H n (JE res dg d G call k) noX (JE res dg d G call k))) (λf G _ _ args H n k=>AEH f G args H n k) f
def run(F:T AF)(G:AY)(lf:Nat)(fuel:Nat):Au:=
 Nat.rec (motive:=λ_=>Au) (λ_ _ _ _ _=>False) (λ_ call f args H n k=>Gu (T.get F f) λaf=>uz af G call lf args H n k) fuel
end Go.Bf
