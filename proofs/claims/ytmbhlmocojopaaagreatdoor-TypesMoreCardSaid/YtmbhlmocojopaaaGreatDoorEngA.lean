/- Part of a proof; nothing is assumed. -/
import Derived.Calls
import Derived.Defers
import Derived.Orders
import Derived.KernelRfl
import Derived.Laws.Entries
set_option linter.unusedVariables false
set_option linter.unusedSimpArgs false
noncomputable section
namespace Go.DW
inductive P2 where
 |h|z (p:P2)|o (p:P2)
deriving DecidableEq
inductive T(α:Type)where
 |e|n (v:Option α) (l r:T α)
def T.val{α:Type}(t:T α):Option α:=T.rec none (λv _ _ _ _=>v) t
def T.left{α:Type}(t:T α):T α:=T.rec .e (λ_ l _ _ _=>l) t
def T.right{α:Type}(t:T α):T α:=T.rec .e (λ_ _ r _ _=>r) t
def T.FQ{α:Type}(p:P2):T α->Option α:=
 P2.rec (motive:=λ_=>T α->Option α) T.val (λ_ g t=>g t.left) (λ_ g t=>g t.right) p
def T.fJ{α:Type}(x:α)(p:P2):T α->T α:=
 P2.rec (motive:=λ_=>T α->T α) (λt=>.n (some x) t.left t.right)
  (λ_ g t=>.n t.val (g t.left) t.right) (λ_ g t=>.n t.val t.left (g t.right)) p
def ANT(f:Nat):Nat->P2:=
 Nat.rec (motive:=λ_=>Nat->P2) (λ_=>.h)
  (λ_ g k=>Nat.rec (motive:=λ_=>P2) .h
   (λm _=>Bool.rec (P2.o (g (Nat.div m 2))) (P2.z (g (Nat.div m 2))) (Nat.beq (Nat.mod m 2) 0)) k) f
def Qu(k:Nat):P2:=ANT (Nat.succ k) k
def T.get{α:Type}(t:T α)(k:Nat):Option α:=T.FQ (Qu k) t
def T.set{α:Type}(t:T α)(k:Nat)(x:α):T α:=T.fJ x (Qu k) t
inductive V where
 |undef
 |int (k:IntKind) (n:Int) (s:Nat)
 |bool (b:Bool)
 |str (len code:Nat)
 |AG9|ptr (id off:Nat)|gptr (b off:Nat)
 |Ad|sl (id off len cap esz:Nat)|PV (id off len esz:Nat)|rsl (b off len cap esz:Nat)
 |AJT|map (id:Nat)
 |ARf|fn (f:Nat) (first caps:List V)
 |agg (cs:List V)
 |Io (vs:List V)
 |AQA|iface (t:Nat) (v:V)
inductive SV where
 |arr (esz cnt:Nat) (c:T (List V))
 |map (es:List (V×V×Nat)) (clock:Nat)
 |dead
 |mP (t e l c j:Nat)
 |own (b:Nat)
abbrev Heap:=T SV
abbrev LW:=T V
abbrev AX:=Nat->Nat->Nat->Option (List V)
inductive X where
 |r (p:P2)|c (v:V)|s (i:Nat)
def PD(o:Option V):V:=Option.rec V.undef (λv=>v) o
def AOs(l:List V):Nat->V:=
 List.rec (motive:=λ_=>Nat->V) (λ_=>.undef) (λx _ g i=>Nat.rec (motive:=λ_=>V) x (λi _=>g i) i) l
inductive RS where
 |mk (L:List V) (R:LW)
def RS.st(E:RS):List V:=RS.rec (λL _=>L) E
def RS.rg(E:RS):LW:=RS.rec (λ_ R=>R) E
def X.ev(x:X):RS->V:=X.rec (motive:=λ_=>RS->V) (λp E=>PD (T.FQ p E.rg)) (λv _=>v) (λi E=>AOs E.st i) x
def V.LD(v:V):(IntKind->Int->Nat->Option V)->Option V:=
 V.rec (motive_1:=λ_=>(IntKind->Int->Nat->Option V)->Option V) (motive_2:=λ_=>PUnit)
  (λ_=>none)
  (λa b c f=>f a b c)
  (λ_ _=>none)
  (λ_ _ _=>none)
  (λ_=>none)
  (λ_ _ _=>none)
  (λ_ _ _=>none)
  (λ_=>none)
  (λ_ _ _ _ _ _=>none)
  (λ_ _ _ _ _=>none)
  (λ_ _ _ _ _ _=>none)
  (λ_=>none)
  (λ_ _=>none)
  (λ_=>none)
  (λ_ _ _ _ _ _=>none)
  (λ_ _ _=>none)
  (λ_ _ _=>none)
  (λ_=>none)
  (λ_ _ _ _=>none)
  ⟨⟩ (λ_ _ _ _=>⟨⟩) v
def V.vW(v:V):(Bool->Option V)->Option V:=
 V.rec (motive_1:=λ_=>(Bool->Option V)->Option V) (motive_2:=λ_=>PUnit)
  (λ_=>none)
  (λ_ _ _ _=>none)
  (λa f=>f a)
  (λ_ _ _=>none)
  (λ_=>none)
  (λ_ _ _=>none)
  (λ_ _ _=>none)
  (λ_=>none)
  (λ_ _ _ _ _ _=>none)
  (λ_ _ _ _ _=>none)
  (λ_ _ _ _ _ _=>none)
  (λ_=>none)
  (λ_ _=>none)
  (λ_=>none)
  (λ_ _ _ _ _ _=>none)
  (λ_ _ _=>none)
  (λ_ _ _=>none)
  (λ_=>none)
  (λ_ _ _ _=>none)
  ⟨⟩ (λ_ _ _ _=>⟨⟩) v
def V.AM3(v:V):(Bool->Prop)->Prop:=
 V.rec (motive_1:=λ_=>(Bool->Prop)->Prop) (motive_2:=λ_=>PUnit)
  (λ_=>False)
  (λ_ _ _ _=>False)
  (λa f=>f a)
  (λ_ _ _=>False)
  (λ_=>False)
  (λ_ _ _=>False)
  (λ_ _ _=>False)
  (λ_=>False)
  (λ_ _ _ _ _ _=>False)
  (λ_ _ _ _ _=>False)
  (λ_ _ _ _ _ _=>False)
  (λ_=>False)
  (λ_ _=>False)
  (λ_=>False)
  (λ_ _ _ _ _ _=>False)
  (λ_ _ _=>False)
  (λ_ _ _=>False)
  (λ_=>False)
  (λ_ _ _ _=>False)
  ⟨⟩ (λ_ _ _ _=>⟨⟩) v
def V.WY(v:V):(Nat->Nat->Option V)->Option V:=
 V.rec (motive_1:=λ_=>(Nat->Nat->Option V)->Option V) (motive_2:=λ_=>PUnit)
  (λ_=>none)
  (λ_ _ _ _=>none)
  (λ_ _=>none)
  (λa b f=>f a b)
  (λ_=>none)
  (λ_ _ _=>none)
  (λ_ _ _=>none)
  (λ_=>none)
  (λ_ _ _ _ _ _=>none)
  (λ_ _ _ _ _=>none)
  (λ_ _ _ _ _ _=>none)
  (λ_=>none)
  (λ_ _=>none)
  (λ_=>none)
  (λ_ _ _ _ _ _=>none)
  (λ_ _ _=>none)
  (λ_ _ _=>none)
  (λ_=>none)
  (λ_ _ _ _=>none)
  ⟨⟩ (λ_ _ _ _=>⟨⟩) v
def V.ACt(v:V):(List V->Option V)->Option V:=
 V.rec (motive_1:=λ_=>(List V->Option V)->Option V) (motive_2:=λ_=>PUnit)
  (λ_=>none)
  (λ_ _ _ _=>none)
  (λ_ _=>none)
  (λ_ _ _=>none)
  (λ_=>none)
  (λ_ _ _=>none)
  (λ_ _ _=>none)
  (λ_=>none)
  (λ_ _ _ _ _ _=>none)
  (λ_ _ _ _ _=>none)
  (λ_ _ _ _ _ _=>none)
  (λ_=>none)
  (λ_ _=>none)
  (λ_=>none)
  (λ_ _ _ _ _ _=>none)
  (λa _ f=>f a)
  (λ_ _ _=>none)
  (λ_=>none)
  (λ_ _ _ _=>none)
  ⟨⟩ (λ_ _ _ _=>⟨⟩) v
def V.AJb(v:V):(List V->Option V)->Option V:=
 V.rec (motive_1:=λ_=>(List V->Option V)->Option V) (motive_2:=λ_=>PUnit)
  (λ_=>none)
  (λ_ _ _ _=>none)
  (λ_ _=>none)
  (λ_ _ _=>none)
  (λ_=>none)
  (λ_ _ _=>none)
  (λ_ _ _=>none)
  (λ_=>none)
  (λ_ _ _ _ _ _=>none)
  (λ_ _ _ _ _=>none)
  (λ_ _ _ _ _ _=>none)
  (λ_=>none)
  (λ_ _=>none)
  (λ_=>none)
  (λ_ _ _ _ _ _=>none)
  (λ_ _ _=>none)
  (λa _ f=>f a)
  (λ_=>none)
  (λ_ _ _ _=>none)
  ⟨⟩ (λ_ _ _ _=>⟨⟩) v
def V.AIc(v:V):(Nat->Nat->Option V)->(Nat->Nat->Option V)->Option V:=
 V.rec (motive_1:=λ_=>(Nat->Nat->Option V)->(Nat->Nat->Option V)->Option V) (motive_2:=λ_=>PUnit)
  (λ_ _=>none)
  (λ_ _ _ _ _=>none)
  (λ_ _ _=>none)
  (λ_ _ _ _=>none)
  (λ_ _=>none)
  (λa b f _=>f a b)
  (λa b _ g=>g a b)
  (λ_ _=>none)
  (λ_ _ _ _ _ _ _=>none)
  (λ_ _ _ _ _ _=>none)
  (λ_ _ _ _ _ _ _=>none)
  (λ_ _=>none)
  (λ_ _ _=>none)
  (λ_ _=>none)
  (λ_ _ _ _ _ _ _=>none)
  (λ_ _ _ _=>none)
  (λ_ _ _ _=>none)
  (λ_ _=>none)
  (λ_ _ _ _ _=>none)
  ⟨⟩ (λ_ _ _ _=>⟨⟩) v
def V.ALt(v:V):(Option V)->(Nat->Option V)->Option V:=
 V.rec (motive_1:=λ_=>(Option V)->(Nat->Option V)->Option V) (motive_2:=λ_=>PUnit)
  (λ_ _=>none)
  (λ_ _ _ _ _=>none)
  (λ_ _ _=>none)
  (λ_ _ _ _=>none)
  (λ_ _=>none)
  (λ_ _ _ _=>none)
  (λ_ _ _ _=>none)
  (λ_ _=>none)
  (λ_ _ _ _ _ _ _=>none)
  (λ_ _ _ _ _ _=>none)
  (λ_ _ _ _ _ _ _=>none)
  (λz _=>z)
  (λa _ f=>f a)
  (λ_ _=>none)
  (λ_ _ _ _ _ _ _=>none)
  (λ_ _ _ _=>none)
  (λ_ _ _ _=>none)
  (λ_ _=>none)
  (λ_ _ _ _ _=>none)
  ⟨⟩ (λ_ _ _ _=>⟨⟩) v
def V.ARU(v:V):(Option V)->(Nat->Nat->Nat->Nat->Nat->Option V)->(Nat->Nat->Nat->Nat->Option V)->(Nat->Nat->Nat->Nat->Nat->Option V)->Option V:=
 V.rec (motive_1:=λ_=>(Option V)->(Nat->Nat->Nat->Nat->Nat->Option V)->(Nat->Nat->Nat->Nat->Option V)->(Nat->Nat->Nat->Nat->Nat->Option V)->Option V) (motive_2:=λ_=>PUnit)
  (λ_ _ _ _=>none)
  (λ_ _ _ _ _ _ _=>none)
  (λ_ _ _ _ _=>none)
  (λ_ _ _ _ _ _=>none)
  (λ_ _ _ _=>none)
  (λ_ _ _ _ _ _=>none)
  (λ_ _ _ _ _ _=>none)
  (λz _ _ _=>z)
  (λa b c d e _ f _ _=>f a b c d e)
  (λa b c d _ _ g _=>g a b c d)
  (λa b c d e _ _ _ h=>h a b c d e)
  (λ_ _ _ _=>none)
  (λ_ _ _ _ _=>none)
  (λ_ _ _ _=>none)
  (λ_ _ _ _ _ _ _ _ _=>none)
  (λ_ _ _ _ _ _=>none)
  (λ_ _ _ _ _ _=>none)
  (λ_ _ _ _=>none)
  (λ_ _ _ _ _ _ _=>none)
  ⟨⟩ (λ_ _ _ _=>⟨⟩) v
def Ba(v:V):List V:=
 V.rec (motive_1:=λ_=>List V) (motive_2:=λ_=>PUnit)
  ([v])
  (λ_ _ _=>[v])
  (λ_=>[v])
  (λ_ _=>[v])
  ([v])
  (λ_ _=>[v])
  (λ_ _=>[v])
  ([v])
  (λ_ _ _ _ _=>[v])
  (λ_ _ _ _=>[v])
  (λ_ _ _ _ _=>[v])
  ([v])
  (λ_=>[v])
  ([v])
  (λ_ _ _ _ _=>[v])
  (λa _=>a)
  (λ_ _=>[v])
  ([v])
  (λ_ _ _=>[v])
  ⟨⟩ (λ_ _ _ _=>⟨⟩) v
def isStr(v:V):Bool:=
 V.rec (motive_1:=λ_=>Bool) (motive_2:=λ_=>PUnit)
  (false)
  (λ_ _ _=>false)
  (λ_=>false)
  (λ_ _=>true)
  (false)
  (λ_ _=>false)
  (λ_ _=>false)
  (false)
  (λ_ _ _ _ _=>false)
  (λ_ _ _ _=>false)
  (λ_ _ _ _ _=>false)
  (false)
  (λ_=>false)
  (false)
  (λ_ _ _ _ _=>false)
  (λ_ _=>false)
  (λ_ _=>false)
  (false)
  (λ_ _ _=>false)
  ⟨⟩ (λ_ _ _ _=>⟨⟩) v
def lenV(v:V):Option V:=
 V.rec (motive_1:=λ_=>Option V) (motive_2:=λ_=>PUnit)
  (none)
  (λ_ _ _=>none)
  (λ_=>none)
  (λ_ _=>none)
  (none)
  (λ_ _=>none)
  (λ_ _=>none)
  (some (.int .i64 (.ofNat 0) 0))
  (λ_ _ c _ _=>some (.int .i64 (.ofNat c) 0))
  (λ_ _ c _=>some (.int .i64 (.ofNat c) 0))
  (λ_ _ c _ _=>some (.int .i64 (.ofNat c) 0))
  (none)
  (λ_=>none)
  (none)
  (λ_ _ _ _ _=>none)
  (λ_ _=>none)
  (λ_ _=>none)
  (none)
  (λ_ _ _=>none)
  ⟨⟩ (λ_ _ _ _=>⟨⟩) v
def Ap(v:V):Option V:=
 V.rec (motive_1:=λ_=>Option V) (motive_2:=λ_=>PUnit)
  (none)
  (λ_ _ _=>none)
  (λ_=>none)
  (λ_ _=>none)
  (none)
  (λa b=>some (.ptr a b))
  (λa b=>some (.gptr a b))
  (none)
  (λ_ _ _ _ _=>none)
  (λ_ _ _ _=>none)
  (λ_ _ _ _ _=>none)
  (none)
  (λ_=>none)
  (none)
  (λa b c _ _=>some (.fn a b c))
  (λ_ _=>none)
  (λ_ _=>none)
  (none)
  (λ_ _ _=>none)
  ⟨⟩ (λ_ _ _ _=>⟨⟩) v
def Y0(n:Int):(Int->Option V)->Option V:=λf=>f n
def Es(n:Nat):(Nat->Option V)->Option V:=
 Nat.rec (motive:=λ_=>(Nat->Option V)->Option V) (λf=>f 0) (λk _ f=>f (Nat.succ k)) n
def FT(n:Nat):(Nat->Prop)->Prop:=
 Nat.rec (motive:=λ_=>(Nat->Prop)->Prop) (λf=>f 0) (λk _ f=>f (Nat.succ k)) n
def AWu(k:IntKind):Nat->Bool:=
 IntKind.rec (motive:=λ_=>Nat->Bool) (λm=>Nat.blt m 128) (λm=>Nat.blt m 32768) (λm=>Nat.blt m 2147483648) (λm=>Nat.blt m 9223372036854775808)
  (λm=>Nat.blt m 256) (λm=>Nat.blt m 65536) (λm=>Nat.blt m 4294967296) (λm=>Nat.blt m 18446744073709551616) k
def AWt(k:IntKind):Nat->Bool:=
 IntKind.rec (motive:=λ_=>Nat->Bool) (λm=>Nat.blt m 128) (λm=>Nat.blt m 32768) (λm=>Nat.blt m 2147483648) (λm=>Nat.blt m 9223372036854775808)
  (λ_=>false) (λ_=>false) (λ_=>false) (λ_=>false) k
def inr(k:IntKind)(n:Int):Bool:=Int.rec (motive:=λ_=>IntKind->Bool) (λm k=>AWu k m) (λm k=>AWt k m) n k
def qQ(k:IntKind)(n:Int):Int:=Bool.rec (k.wrap n) n (inr k n)
def AWA(k:IntKind)(n:Int):Option V:=Y0 (qQ k n) λm=>some (.int k m 0)
def mkI(k:IntKind)(n:Int)(s:Nat):Option V:=
 Nat.rec (motive:=λ_=>IntKind->Int->Option V) AWA (λ_ _ k n=>some (.int k (k.wrap n) 1)) s k n
def mkN(k:IntKind)(n:Int)(s:Nat):Option V:=
 Nat.rec (motive:=λ_=>IntKind->Int->Option V) (λk n=>Y0 n λm=>some (.int k m 0)) (λ_ _ k n=>some (.int k n 1)) s k n
def ATR(a:Nat)(b:Int):Int:=Int.rec (motive:=λ_=>Nat->Int) (λn m=>.ofNat (Nat.add m n)) (λn m=>Int.subNatNat m (Nat.succ n)) b a
def ATW(a:Nat)(b:Int):Int:=Int.rec (motive:=λ_=>Nat->Int) (λn m=>Int.subNatNat n (Nat.succ m)) (λn m=>.negSucc (Nat.succ (Nat.add m n))) b a
def AFk(a b:Int):Int:=Int.rec (motive:=λ_=>Int->Int) ATR ATW a b
def ile(a b:Int):Bool:=Int.rec (motive:=λ_=>Int->Bool) (λm b=>Int.rec (motive:=λ_=>Nat->Bool) (λn m=>Nat.ble m n) (λ_ _=>false) b m)
 (λm b=>Int.rec (motive:=λ_=>Nat->Bool) (λ_ _=>true) (λn m=>Nat.ble n m) b m) a b
def ilt(a b:Int):Bool:=Int.rec (motive:=λ_=>Int->Bool) (λm b=>Int.rec (motive:=λ_=>Nat->Bool) (λn m=>Nat.blt m n) (λ_ _=>false) b m)
 (λm b=>Int.rec (motive:=λ_=>Nat->Bool) (λ_ _=>true) (λn m=>Nat.blt n m) b m) a b
def ieq(a b:Int):Bool:=Int.rec (motive:=λ_=>Int->Bool) (λm b=>Int.rec (motive:=λ_=>Nat->Bool) (λn m=>Nat.beq m n) (λ_ _=>false) b m)
 (λm b=>Int.rec (motive:=λ_=>Nat->Bool) (λ_ _=>false) (λn m=>Nat.beq n m) b m) a b
def kno(a:IntKind):Nat:=IntKind.rec 0 1 2 3 4 5 6 7 a
def keq(a b:IntKind):Bool:=Nat.beq (kno a) (kno b)
def TL(b:Bool):Bool:=Bool.rec true false b
def band(a b:Bool):Bool:=Bool.rec (motive:=λ_=>Bool->Bool) (λ_=>false) (λb=>b) a b
def AQK(a b:Bool):Bool:=Bool.rec (motive:=λ_=>Bool->Bool) TL (λb=>b) a b
def mkB(b:Bool):Option V:=Bool.rec (some (.bool false)) (some (.bool true)) b
def CB(b:Bool):Option V->Option V:=Bool.rec (motive:=λ_=>Option V->Option V) (λ_=>none) (λo=>o) b
def ACh(b:Bool)(x y:Option V):Option V:=Bool.rec (motive:=λ_=>Option V->Option V->Option V) (λ_ y=>y) (λx _=>x) b x y
def APa(code i:Nat):Nat:=Nat.mod (Nat.div code (Nat.pow 256 i)) 256
def AXU(code l h:Nat):Nat:=Nat.mod (Nat.div code (Nat.pow 256 l)) (Nat.pow 256 (Nat.sub h l))
def AWj(l1 c1 c2:Nat):Nat:=Nat.add c1 (Nat.mul (Nat.pow 256 l1) c2)
def AUY(f:Nat):Nat->Nat->Nat->Nat->Bool:=
 Nat.rec (motive:=λ_=>Nat->Nat->Nat->Nat->Bool) (λ_ _ _ _=>false)
  (λ_ g l1 c1 l2 c2=>Nat.rec (motive:=λ_=>Bool) false (λl2' _=>Nat.rec (motive:=λ_=>Bool) true (λl1' _=>
   Bool.rec (Nat.blt (Nat.mod c1 256) (Nat.mod c2 256)) (g l1' (Nat.div c1 256) l2' (Nat.div c2 256)) (Nat.beq (Nat.mod c1 256) (Nat.mod c2 256))) l1) l2) f
def slt(l1 c1 l2 c2:Nat):Bool:=AUY (Nat.succ l2) l1 c1 l2 c2
def nth{α:Type}(l:List α):Nat->Option α:=
 List.rec (motive:=λ_=>Nat->Option α) (λ_=>none) (λx _ g i=>Nat.rec (motive:=λ_=>Option α) (some x) (λi _=>g i) i) l
def nU{α:Type}(x:α)(l:List α):Nat->List α:=
 List.rec (motive:=λ_=>Nat->List α) (λ_=>[]) (λy ys g i=>Nat.rec (motive:=λ_=>List α) (x::ys) (λi _=>y::g i) i) l
def len{α:Type}(l:List α):Nat:=List.rec (motive:=λ_=>Nat) 0 (λ_ _ n=>Nat.succ n) l
def cat{α:Type}(a b:List α):List α:=List.rec (motive:=λ_=>List α->List α) (λb=>b) (λx _ g b=>x::g b) a b
def dQ{α:Type}(n:Nat):List α->List α:=
 Nat.rec (motive:=λ_=>List α->List α) (λ_=>[]) (λ_ g l=>List.rec (motive:=λ_=>List α) [] (λx xs _=>x::g xs) l) n
def tu{α:Type}(n:Nat):List α->List α:=
 Nat.rec (motive:=λ_=>List α->List α) (λl=>l) (λ_ g l=>List.rec (motive:=λ_=>List α) [] (λ_ xs _=>g xs) l) n
def jo(l:List X):RS->List V:=List.rec (motive:=λ_=>RS->List V) (λ_=>[]) (λx _ g R=>x.ev R::g R) l
def ALX(new:List V)(i:Nat)(l:List V):List V:=cat (dQ i l) (cat new (tu (Nat.add i (len new)) l))
abbrev LV:=List V
def XF(o:Option LV)(f:LV->Option V):Option V:=Option.rec (motive:=λ_=>(LV->Option V)->Option V) (λ_=>none) (λv f=>f v) o f
def Ei{α:Type}(o:Option α)(f:α->Prop):Prop:=Option.rec (motive:=λ_=>(α->Prop)->Prop) (λ_=>False) (λv f=>f v) o f
def AP(o:Option V)(f:V->Prop):Prop:=Option.rec (motive:=λ_=>(V->Prop)->Prop) (λ_=>False) (λv f=>f v) o f
def Ce{α β:Type}(o:Option α)(f:α->Option β):Option β:=Option.rec (motive:=λ_=>(α->Option β)->Option β) (λ_=>none) (λv f=>f v) o f
def ldC(esz off n:Nat)(L:LV):Option LV:=
 Bool.rec (motive:=λ_=>Option LV)
  (Bool.rec none (some (dQ n (tu (Nat.mod off esz) L))) (Nat.ble (Nat.add (Nat.mod off esz) n) esz))
  (some L) (band (Nat.beq n esz) (Nat.beq (Nat.mod off esz) 0))
def ldB(esz cnt:Nat)(c:T LV)(off n:Nat):Option LV:=
 Ce (Bool.rec none (T.get c (Nat.div off esz)) (Nat.blt (Nat.div off esz) cnt)) (ldC esz off n)
def SV.ld(b:SV):Nat->Nat->Option LV:=
 SV.rec (motive:=λ_=>Nat->Nat->Option LV) ldB (λ_ _ _ _=>none) (λ_ _=>none) (λ_ _ _ _ _ _ _=>none) (λ_ _ _=>none) b
def yw(H:Heap)(id off n:Nat):Option LV:=Option.rec (motive:=λ_=>Nat->Nat->Option LV) (λ_ _=>none) SV.ld (T.get H id) off n
def ldP(v:V):(AX)->(Heap)->(Nat)->Option LV:=
 V.rec (motive_1:=λ_=>(AX)->(Heap)->(Nat)->Option LV) (motive_2:=λ_=>PUnit)
  (λ_ _ _=>none)
  (λ_ _ _ _ _ _=>none)
  (λ_ _ _ _=>none)
  (λ_ _ _ _ _=>none)
  (λ_ _ _=>none)
  (λa b _ H n=>yw H a b n)
  (λa b G _ n=>G a b n)
  (λ_ _ _=>none)
  (λ_ _ _ _ _ _ _ _=>none)
  (λ_ _ _ _ _ _ _=>none)
  (λ_ _ _ _ _ _ _ _=>none)
  (λ_ _ _=>none)
  (λ_ _ _ _=>none)
  (λ_ _ _=>none)
  (λ_ _ _ _ _ _ _ _=>none)
  (λ_ _ _ _ _=>none)
  (λ_ _ _ _ _=>none)
  (λ_ _ _=>none)
  (λ_ _ _ _ _ _=>none)
  ⟨⟩ (λ_ _ _ _=>⟨⟩) v
def stC(new:LV)(esz cnt:Nat)(c:T LV)(off n:Nat)(L:LV):Option SV:=
 Bool.rec (motive:=λ_=>Option SV)
  (Bool.rec none (some (.arr esz cnt (T.set c (Nat.div off esz) (ALX new (Nat.mod off esz) L)))) (Nat.ble (Nat.add (Nat.mod off esz) n) esz))
  (some (.arr esz cnt (T.set c (Nat.div off esz) new))) (band (Nat.beq n esz) (Nat.beq (Nat.mod off esz) 0))
def stB(esz cnt:Nat)(c:T LV)(off n:Nat)(new:LV):Option SV:=
 Ce (Bool.rec none (T.get c (Nat.div off esz)) (Nat.blt (Nat.div off esz) cnt)) (stC new esz cnt c off n)
def SV.st(b:SV):Nat->Nat->LV->Option SV:=
 SV.rec (motive:=λ_=>Nat->Nat->LV->Option SV) stB (λ_ _ _ _ _=>none) (λ_ _ _=>none) (λ_ _ _ _ _ _ _ _=>none) (λ_ _ _ _=>none) b
def stH(H:Heap)(id off n:Nat)(new:LV):Option Heap:=
 Ce (Option.rec (motive:=λ_=>Nat->Nat->LV->Option SV) (λ_ _ _=>none) SV.st (T.get H id) off n new) λb=>some (T.set H id b)
def stP(v:V):(Heap)->(Nat)->(LV)->Option Heap:=
 V.rec (motive_1:=λ_=>(Heap)->(Nat)->(LV)->Option Heap) (motive_2:=λ_=>PUnit)
  (λ_ _ _=>none)
  (λ_ _ _ _ _ _=>none)
  (λ_ _ _ _=>none)
  (λ_ _ _ _ _=>none)
  (λ_ _ _=>none)
  (λa b H n new=>stH H a b n new)
  (λ_ _ _ _ _=>none)
  (λ_ _ _=>none)
  (λ_ _ _ _ _ _ _ _=>none)
  (λ_ _ _ _ _ _ _=>none)
  (λ_ _ _ _ _ _ _ _=>none)
  (λ_ _ _=>none)
  (λ_ _ _ _=>none)
  (λ_ _ _=>none)
  (λ_ _ _ _ _ _ _ _=>none)
  (λ_ _ _ _ _=>none)
  (λ_ _ _ _ _=>none)
  (λ_ _ _=>none)
  (λ_ _ _ _ _ _=>none)
  ⟨⟩ (λ_ _ _ _=>⟨⟩) v
def AOv(v:V):(IntKind)->(Int)->(Nat)->Option Bool:=
 V.rec (motive_1:=λ_=>(IntKind)->(Int)->(Nat)->Option Bool) (motive_2:=λ_=>PUnit)
  (λ_ _ _=>none)
  (λa b c k n s=>Bool.rec (motive:=λ_=>Option Bool) none (some (ieq n b)) (band (keq k a) (Nat.beq (Nat.add s c) 0)))
  (λ_ _ _ _=>none)
  (λ_ _ _ _ _=>none)
  (λ_ _ _=>none)
  (λ_ _ _ _ _=>none)
  (λ_ _ _ _ _=>none)
  (λ_ _ _=>none)
  (λ_ _ _ _ _ _ _ _=>none)
  (λ_ _ _ _ _ _ _=>none)
  (λ_ _ _ _ _ _ _ _=>none)
  (λ_ _ _=>none)
  (λ_ _ _ _=>none)
  (λ_ _ _=>none)
  (λ_ _ _ _ _ _ _ _=>none)
  (λ_ _ _ _ _=>none)
  (λ_ _ _ _ _=>none)
  (λ_ _ _=>none)
  (λ_ _ _ _ _ _=>none)
  ⟨⟩ (λ_ _ _ _=>⟨⟩) v
def AKy(v:V):(Bool)->Option Bool:=
 V.rec (motive_1:=λ_=>(Bool)->Option Bool) (motive_2:=λ_=>PUnit)
  (λ_=>none)
  (λ_ _ _ _=>none)
  (λa x=>some (AQK x a))
  (λ_ _ _=>none)
  (λ_=>none)
  (λ_ _ _=>none)
  (λ_ _ _=>none)
  (λ_=>none)
  (λ_ _ _ _ _ _=>none)
  (λ_ _ _ _ _=>none)
  (λ_ _ _ _ _ _=>none)
  (λ_=>none)
  (λ_ _=>none)
  (λ_=>none)
  (λ_ _ _ _ _ _=>none)
  (λ_ _ _=>none)
  (λ_ _ _=>none)
  (λ_=>none)
  (λ_ _ _ _=>none)
  ⟨⟩ (λ_ _ _ _=>⟨⟩) v
def eqStr(v:V):(Nat)->(Nat)->Option Bool:=
 V.rec (motive_1:=λ_=>(Nat)->(Nat)->Option Bool) (motive_2:=λ_=>PUnit)
  (λ_ _=>none)
  (λ_ _ _ _ _=>none)
  (λ_ _ _=>none)
  (λa b l d=>some (band (Nat.beq l a) (Nat.beq d b)))
  (λ_ _=>none)
  (λ_ _ _ _=>none)
  (λ_ _ _ _=>none)
  (λ_ _=>none)
  (λ_ _ _ _ _ _ _=>none)
  (λ_ _ _ _ _ _=>none)
  (λ_ _ _ _ _ _ _=>none)
  (λ_ _=>none)
  (λ_ _ _=>none)
  (λ_ _=>none)
  (λ_ _ _ _ _ _ _=>none)
  (λ_ _ _ _=>none)
  (λ_ _ _ _=>none)
  (λ_ _=>none)
  (λ_ _ _ _ _=>none)
  ⟨⟩ (λ_ _ _ _=>⟨⟩) v
def APU(v:V):Option Bool:=
 V.rec (motive_1:=λ_=>Option Bool) (motive_2:=λ_=>PUnit)
  (none)
  (λ_ _ _=>none)
  (λ_=>none)
  (λ_ _=>none)
  (some true)
  (λ_ _=>some false)
  (λ_ _=>some false)
  (none)
  (λ_ _ _ _ _=>none)
  (λ_ _ _ _=>none)
  (λ_ _ _ _ _=>none)
  (none)
  (λ_=>none)
  (none)
  (λ_ _ _ _ _=>none)
  (λ_ _=>none)
  (λ_ _=>none)
  (none)
  (λ_ _ _=>none)
  ⟨⟩ (λ_ _ _ _=>⟨⟩) v
def AT5(v:V):(Nat)->(Nat)->Option Bool:=
 V.rec (motive_1:=λ_=>(Nat)->(Nat)->Option Bool) (motive_2:=λ_=>PUnit)
  (λ_ _=>none)
  (λ_ _ _ _ _=>none)
  (λ_ _ _=>none)
  (λ_ _ _ _=>none)
  (λ_ _=>some false)
  (λa b i o=>Bool.rec none (some (Nat.beq o b)) (Nat.beq i a))
  (λ_ _ _ _=>none)
  (λ_ _=>none)
  (λ_ _ _ _ _ _ _=>none)
  (λ_ _ _ _ _ _=>none)
  (λ_ _ _ _ _ _ _=>none)
  (λ_ _=>none)
  (λ_ _ _=>none)
  (λ_ _=>none)
  (λ_ _ _ _ _ _ _=>none)
  (λ_ _ _ _=>none)
  (λ_ _ _ _=>none)
  (λ_ _=>none)
  (λ_ _ _ _ _=>none)
  ⟨⟩ (λ_ _ _ _=>⟨⟩) v
def AQF(v:V):Option Bool:=
 V.rec (motive_1:=λ_=>Option Bool) (motive_2:=λ_=>PUnit)
  (none)
  (λ_ _ _=>none)
  (λ_=>none)
  (λ_ _=>none)
  (some false)
  (λ_ _=>none)
  (λ_ _=>none)
  (none)
  (λ_ _ _ _ _=>none)
  (λ_ _ _ _=>none)
  (λ_ _ _ _ _=>none)
  (none)
  (λ_=>none)
  (none)
  (λ_ _ _ _ _=>none)
  (λ_ _=>none)
  (λ_ _=>none)
  (none)
  (λ_ _ _=>none)
  ⟨⟩ (λ_ _ _ _=>⟨⟩) v
def AJq(v:V):(V)->Option Bool:=
 V.rec (motive_1:=λ_=>(V)->Option Bool) (motive_2:=λ_=>PUnit)
  (λ_=>none)
  (λa b c y=>AOv y a b c)
  (λ_ _=>none)
  (λ_ _ _=>none)
  (λ_=>none)
  (λ_ _ _=>none)
  (λ_ _ _=>none)
  (λ_=>none)
  (λ_ _ _ _ _ _=>none)
  (λ_ _ _ _ _=>none)
  (λ_ _ _ _ _ _=>none)
  (λ_=>none)
  (λ_ _=>none)
  (λ_=>none)
  (λ_ _ _ _ _ _=>none)
  (λ_ _ _=>none)
  (λ_ _ _=>none)
  (λ_=>none)
  (λ_ _ _ _=>none)
  ⟨⟩ (λ_ _ _ _=>⟨⟩) v
def AIi(v:V):(V)->Option Bool:=
 V.rec (motive_1:=λ_=>(V)->Option Bool) (motive_2:=λ_=>PUnit)
  (λ_=>none)
  (λ_ _ _ _=>none)
  (λ_ _=>none)
  (λa b y=>eqStr y a b)
  (λ_=>none)
  (λ_ _ _=>none)
  (λ_ _ _=>none)
  (λ_=>none)
  (λ_ _ _ _ _ _=>none)
  (λ_ _ _ _ _=>none)
  (λ_ _ _ _ _ _=>none)
  (λ_=>none)
  (λ_ _=>none)
  (λ_=>none)
  (λ_ _ _ _ _ _=>none)
  (λ_ _ _=>none)
  (λ_ _ _=>none)
  (λ_=>none)
  (λ_ _ _ _=>none)
  ⟨⟩ (λ_ _ _ _=>⟨⟩) v
def AC8(v:V):(V)->Option Bool:=
 V.rec (motive_1:=λ_=>(V)->Option Bool) (motive_2:=λ_=>PUnit)
  (λ_=>none)
  (λ_ _ _ _=>none)
  (λa y=>AKy y a)
  (λ_ _ _=>none)
  (λ_=>none)
  (λ_ _ _=>none)
  (λ_ _ _=>none)
  (λ_=>none)
  (λ_ _ _ _ _ _=>none)
  (λ_ _ _ _ _=>none)
  (λ_ _ _ _ _ _=>none)
  (λ_=>none)
  (λ_ _=>none)
  (λ_=>none)
  (λ_ _ _ _ _ _=>none)
  (λ_ _ _=>none)
  (λ_ _ _=>none)
  (λ_=>none)
  (λ_ _ _ _=>none)
  ⟨⟩ (λ_ _ _ _=>⟨⟩) v
def AHt(v:V):(V)->Option Bool:=
 V.rec (motive_1:=λ_=>(V)->Option Bool) (motive_2:=λ_=>PUnit)
  (λ_=>none)
  (λ_ _ _ _=>none)
  (λ_ _=>none)
  (λ_ _ _=>none)
  (λy=>APU y)
  (λa b y=>AT5 y a b)
  (λ_ _ y=>AQF y)
  (λ_=>none)
  (λ_ _ _ _ _ _=>none)
  (λ_ _ _ _ _=>none)
  (λ_ _ _ _ _ _=>none)
  (λ_=>none)
  (λ_ _=>none)
  (λ_=>none)
  (λ_ _ _ _ _ _=>none)
  (λ_ _ _=>none)
  (λ_ _ _=>none)
  (λ_=>none)
  (λ_ _ _ _=>none)
  ⟨⟩ (λ_ _ _ _=>⟨⟩) v
def AO2(v:V):Option Bool:=
 V.rec (motive_1:=λ_=>Option Bool) (motive_2:=λ_=>PUnit)
  (none)
  (λ_ _ _=>none)
  (λ_=>none)
  (λ_ _=>none)
  (none)
  (λ_ _=>none)
  (λ_ _=>none)
  (some true)
  (λ_ _ _ _ _=>some false)
  (λ_ _ _ _=>some false)
  (λ_ _ _ _ _=>some false)
  (none)
  (λ_=>none)
  (none)
  (λ_ _ _ _ _=>none)
  (λ_ _=>none)
  (λ_ _=>none)
  (none)
  (λ_ _ _=>none)
  ⟨⟩ (λ_ _ _ _=>⟨⟩) v
def oJ(v:V):Option Bool:=
 V.rec (motive_1:=λ_=>Option Bool) (motive_2:=λ_=>PUnit)
  (none)
  (λ_ _ _=>none)
  (λ_=>none)
  (λ_ _=>none)
  (none)
  (λ_ _=>none)
  (λ_ _=>none)
  (some false)
  (λ_ _ _ _ _=>none)
  (λ_ _ _ _=>none)
  (λ_ _ _ _ _=>none)
  (none)
  (λ_=>none)
  (none)
  (λ_ _ _ _ _=>none)
  (λ_ _=>none)
  (λ_ _=>none)
  (none)
  (λ_ _ _=>none)
  ⟨⟩ (λ_ _ _ _=>⟨⟩) v
def APx(v:V):Option Bool:=
 V.rec (motive_1:=λ_=>Option Bool) (motive_2:=λ_=>PUnit)
  (none)
  (λ_ _ _=>none)
  (λ_=>none)
  (λ_ _=>none)
  (none)
  (λ_ _=>none)
  (λ_ _=>none)
  (none)
  (λ_ _ _ _ _=>none)
  (λ_ _ _ _=>none)
  (λ_ _ _ _ _=>none)
  (none)
  (λ_=>none)
  (some true)
  (λ_ _ _ _ _=>some false)
  (λ_ _=>none)
  (λ_ _=>none)
  (none)
  (λ_ _ _=>none)
  ⟨⟩ (λ_ _ _ _=>⟨⟩) v
def AMH(v:V):Option Bool:=
 V.rec (motive_1:=λ_=>Option Bool) (motive_2:=λ_=>PUnit)
  (none)
  (λ_ _ _=>none)
  (λ_=>none)
  (λ_ _=>none)
  (none)
  (λ_ _=>none)
  (λ_ _=>none)
  (none)
  (λ_ _ _ _ _=>none)
  (λ_ _ _ _=>none)
  (λ_ _ _ _ _=>none)
  (none)
  (λ_=>none)
  (some false)
  (λ_ _ _ _ _=>none)
  (λ_ _=>none)
  (λ_ _=>none)
  (none)
  (λ_ _ _=>none)
  ⟨⟩ (λ_ _ _ _=>⟨⟩) v
def AOU(v:V):Option Bool:=
 V.rec (motive_1:=λ_=>Option Bool) (motive_2:=λ_=>PUnit)
  (none)
  (λ_ _ _=>none)
  (λ_=>none)
  (λ_ _=>none)
  (none)
  (λ_ _=>none)
  (λ_ _=>none)
  (none)
  (λ_ _ _ _ _=>none)
  (λ_ _ _ _=>none)
  (λ_ _ _ _ _=>none)
  (some true)
  (λ_=>some false)
  (none)
  (λ_ _ _ _ _=>none)
  (λ_ _=>none)
  (λ_ _=>none)
  (none)
  (λ_ _ _=>none)
  ⟨⟩ (λ_ _ _ _=>⟨⟩) v
def AM7(v:V):Option Bool:=
 V.rec (motive_1:=λ_=>Option Bool) (motive_2:=λ_=>PUnit)
  (none)
  (λ_ _ _=>none)
  (λ_=>none)
  (λ_ _=>none)
  (none)
  (λ_ _=>none)
  (λ_ _=>none)
  (none)
  (λ_ _ _ _ _=>none)
  (λ_ _ _ _=>none)
  (λ_ _ _ _ _=>none)
  (some false)
  (λ_=>none)
  (none)
  (λ_ _ _ _ _=>none)
  (λ_ _=>none)
  (λ_ _=>none)
  (none)
  (λ_ _ _=>none)
  ⟨⟩ (λ_ _ _ _=>⟨⟩) v
def kSl(v:V):(V)->Option Bool:=
 V.rec (motive_1:=λ_=>(V)->Option Bool) (motive_2:=λ_=>PUnit)
  (λ_=>none)
  (λ_ _ _ _=>none)
  (λ_ _=>none)
  (λ_ _ _=>none)
  (λ_=>none)
  (λ_ _ _=>none)
  (λ_ _ _=>none)
  (λy=>AO2 y)
  (λ_ _ _ _ _ y=>oJ y)
  (λ_ _ _ _ y=>oJ y)
  (λ_ _ _ _ _ y=>oJ y)
  (λ_=>none)
  (λ_ _=>none)
  (λ_=>none)
  (λ_ _ _ _ _ _=>none)
  (λ_ _ _=>none)
  (λ_ _ _=>none)
  (λ_=>none)
  (λ_ _ _ _=>none)
  ⟨⟩ (λ_ _ _ _=>⟨⟩) v
def kFn(v:V):(V)->Option Bool:=
 V.rec (motive_1:=λ_=>(V)->Option Bool) (motive_2:=λ_=>PUnit)
  (λ_=>none)
  (λ_ _ _ _=>none)
  (λ_ _=>none)
  (λ_ _ _=>none)
  (λ_=>none)
  (λ_ _ _=>none)
  (λ_ _ _=>none)
  (λ_=>none)
  (λ_ _ _ _ _ _=>none)
  (λ_ _ _ _ _=>none)
  (λ_ _ _ _ _ _=>none)
  (λ_=>none)
  (λ_ _=>none)
  (λy=>APx y)
  (λ_ _ _ _ _ y=>AMH y)
  (λ_ _ _=>none)
  (λ_ _ _=>none)
  (λ_=>none)
  (λ_ _ _ _=>none)
  ⟨⟩ (λ_ _ _ _=>⟨⟩) v
def AVw(v:V):(V)->Option Bool:=
 V.rec (motive_1:=λ_=>(V)->Option Bool) (motive_2:=λ_=>PUnit)
  (λ_=>none)
  (λ_ _ _ _=>none)
  (λ_ _=>none)
  (λ_ _ _=>none)
  (λ_=>none)
  (λ_ _ _=>none)
  (λ_ _ _=>none)
  (λ_=>none)
  (λ_ _ _ _ _ _=>none)
  (λ_ _ _ _ _=>none)
  (λ_ _ _ _ _ _=>none)
  (λy=>AOU y)
  (λ_ y=>AM7 y)
  (λ_=>none)
  (λ_ _ _ _ _ _=>none)
  (λ_ _ _=>none)
  (λ_ _ _=>none)
  (λ_=>none)
  (λ_ _ _ _=>none)
  ⟨⟩ (λ_ _ _ _=>⟨⟩) v
def Vg(o:Option Bool)(f:Bool->Option Bool):Option Bool:=Option.rec (motive:=λ_=>(Bool->Option Bool)->Option Bool) (λ_=>none) (λv f=>f v) o f
inductive CK where
 |int|str|bool|ptr
def CK.eq(k:CK):V->V->Option Bool:=CK.rec (motive:=λ_=>V->V->Option Bool) AJq AIi AC8 AHt k
def AKT(ks:List CK):List V->List V->Option Bool:=
 List.rec (motive:=λ_=>List V->List V->Option Bool) (λa b=>List.rec (motive:=λ_=>Option Bool) (List.rec (motive:=λ_=>Option Bool) (some true) (λ_ _ _=>none) b) (λ_ _ _=>none) a)
  (λk _ g a b=>List.rec (motive:=λ_=>Option Bool) none (λx xs _=>List.rec (motive:=λ_=>Option Bool) none (λy ys _=>Vg (k.eq x y) λr=>Vg (g xs ys) λr'=>some (band r r')) b) a) ks
def ATL(v:V):(List CK)->(LV)->Option Bool:=
 V.rec (motive_1:=λ_=>(List CK)->(LV)->Option Bool) (motive_2:=λ_=>PUnit)
  (λ_ _=>none)
  (λ_ _ _ _ _=>none)
  (λ_ _ _=>none)
  (λ_ _ _ _=>none)
  (λ_ _=>none)
  (λ_ _ _ _=>none)
  (λ_ _ _ _=>none)
  (λ_ _=>none)
  (λ_ _ _ _ _ _ _=>none)
  (λ_ _ _ _ _ _=>none)
  (λ_ _ _ _ _ _ _=>none)
  (λ_ _=>none)
  (λ_ _ _=>none)
  (λ_ _=>none)
  (λ_ _ _ _ _ _ _=>none)
  (λa _ ks l=>AKT ks l a)
  (λ_ _ _ _=>none)
  (λ_ _=>none)
  (λ_ _ _ _ _=>none)
  ⟨⟩ (λ_ _ _ _=>⟨⟩) v
def AV0(v:V):(List CK)->(V)->Option Bool:=
 V.rec (motive_1:=λ_=>(List CK)->(V)->Option Bool) (motive_2:=λ_=>PUnit)
  (λ_ _=>none)
  (λ_ _ _ _ _=>none)
  (λ_ _ _=>none)
  (λ_ _ _ _=>none)
  (λ_ _=>none)
  (λ_ _ _ _=>none)
  (λ_ _ _ _=>none)
  (λ_ _=>none)
  (λ_ _ _ _ _ _ _=>none)
  (λ_ _ _ _ _ _=>none)
  (λ_ _ _ _ _ _ _=>none)
  (λ_ _=>none)
  (λ_ _ _=>none)
  (λ_ _=>none)
  (λ_ _ _ _ _ _ _=>none)
  (λa _ ks y=>ATL y ks a)
  (λ_ _ _ _=>none)
  (λ_ _=>none)
  (λ_ _ _ _ _=>none)
  ⟨⟩ (λ_ _ _ _=>⟨⟩) v
inductive EK where
 |one (k:CK)|agg (ks:List CK)|sl|fn|map
def EK.eq(k:EK):V->V->Option Bool:=EK.rec (motive:=λ_=>V->V->Option Bool) (λk=>k.eq) (λks x y=>AV0 x ks y) kSl kFn AVw k
def V.ANI(v:V):Option Nat:=
 V.rec (motive_1:=λ_=>Option Nat) (motive_2:=λ_=>PUnit)
  (none)
  (λ_ _ _=>none)
  (λ_=>none)
  (λ_ _=>none)
  (none)
  (λa _=>some a)
  (λ_ _=>none)
  (none)
  (λ_ _ _ _ _=>none)
  (λ_ _ _ _=>none)
  (λ_ _ _ _ _=>none)
  (none)
  (λ_=>none)
  (none)
  (λ_ _ _ _ _=>none)
  (λ_ _=>none)
  (λ_ _=>none)
  (none)
  (λ_ _ _=>none)
  ⟨⟩ (λ_ _ _ _=>⟨⟩) v
def V.ASa(v:V):Option (List V):=
 V.rec (motive_1:=λ_=>Option (List V)) (motive_2:=λ_=>PUnit)
  (none)
  (λ_ _ _=>none)
  (λ_=>none)
  (λ_ _=>none)
  (none)
  (λ_ _=>none)
  (λ_ _=>none)
  (none)
  (λ_ _ _ _ _=>none)
  (λ_ _ _ _=>none)
  (λ_ _ _ _ _=>none)
  (none)
  (λ_=>none)
  (none)
  (λ_ _ _ _ _=>none)
  (λl _=>some l)
  (λ_ _=>none)
  (none)
  (λ_ _ _=>none)
  ⟨⟩ (λ_ _ _ _=>⟨⟩) v
def cZ(H:Heap)(id:Nat):Bool:=Option.rec (motive:=λ_=>Bool) false
 (λb=>SV.rec (motive:=λ_=>Bool) (λesz _ _=>TL (Nat.beq esz 1)) (λ_ _=>false) false (λ_ _ _ _ _=>false) (λ_=>false) b) (T.get H id)
def AOG(ok:Nat->Bool)(x y:V):Option Bool:=
 Option.rec (motive:=λ_=>Option Bool) none (λi=>Option.rec (motive:=λ_=>Option Bool) none (λj=>Bool.rec (motive:=λ_=>Option Bool) none (some false) (band (TL (Nat.beq i j)) (band (ok i) (ok j)))) y.ANI) x.ANI
def AEz(ok:Nat->Bool)(x y:V):Option Bool:=Option.rec (motive:=λ_=>Option Bool) (AOG ok x y) (λb=>some b) (AHt x y)
def CK.eqH(ok:Nat->Bool)(k:CK):V->V->Option Bool:=CK.rec (motive:=λ_=>V->V->Option Bool) AJq AIi AC8 (AEz ok) k
def zM(q:CK->V->V->Option Bool)(ks:List CK):List V->List V->Option Bool:=
 List.rec (motive:=λ_=>List V->List V->Option Bool) (λa b=>List.rec (motive:=λ_=>Option Bool) (List.rec (motive:=λ_=>Option Bool) (some true) (λ_ _ _=>none) b) (λ_ _ _=>none) a)
  (λk _ g a b=>List.rec (motive:=λ_=>Option Bool) none (λx xs _=>List.rec (motive:=λ_=>Option Bool) none (λy ys _=>Vg (q k x y) λr=>Vg (g xs ys) λr'=>some (band r r')) b) a) ks
def AAz(ok:Nat->Bool)(ks:List CK)(x y:V):Option Bool:=
 Option.rec (motive:=λ_=>Option Bool) none (λl=>Option.rec (motive:=λ_=>Option Bool) none (λm=>zM (CK.eqH ok) ks l m) y.ASa) x.ASa
inductive B2 where
 |add|sub|mul|quo|rem|and|or|xor|andNot|shl|shr|lss|leq|gtr|geq
def ABy(f:Int->Int->Bool)(x y:V):Option V:=x.LD λk a s=>y.LD λk' b t=>CB (band (keq k k') (Nat.beq (Nat.add s t) 0)) (mkB (f a b))
def AJ0(f:Nat->Nat->Nat->Nat->Bool)(x y:V):Option V:=x.WY λl c=>y.WY λm d=>mkB (f l c m d)
def ari(f:Int->Int->Int)(x y:V):Option V:=x.LD λk a s=>y.LD λk' b t=>CB (keq k k') (mkI k (f a b) (Nat.add s t))
def dvs(f:Int->Int->Int)(x y:V):Option V:=
 x.LD λk a s=>y.LD λk' b t=>CB (band (keq k k') (band (Nat.beq t 0) (TL (ieq b 0)))) (mkI k (f a b) s)
def AU2(x y:V):Option V:=
 x.LD λk a s=>y.LD λk' b t=>CB (band (keq k k') (band (Nat.beq t 0) (TL (ieq b 0)))) (mkN k (Int.tmod a b) s)
def AW7(x y:V):Option V:=x.WY λl c=>y.WY λm d=>CB (Nat.blt (Nat.add l m) 9223372036854775808) (Es (Nat.add l m) λn=>Es (AWj l c d) λe=>some (.str n e))
def AU6(x y:V):Option V:=ACh (isStr x) (AW7 x y) (ari AFk x y)
def AXt(x y:V):Option V:=ari (λa b=>AFk a (Int.neg b)) x y
def AWh(x y:V):Option V:=ari Int.mul x y
def AYH(k:IntKind)(a b:Int):Int:=Int.rec (motive:=λ_=>Int->IntKind->Int)
 (λm b k=>Int.rec (motive:=λ_=>Nat->IntKind->Int) (λn m k=>qQ k (.ofNat (Nat.land m n))) (λn m k=>bits .and k (.ofNat m) (.negSucc n)) b m k)
 (λm b k=>bits .and k (.negSucc m) b) a b k
def AUi(x y:V):Option V:=x.LD λk a s=>y.LD λk' b t=>CB (band (keq k k') (Nat.beq (Nat.add s t) 0)) (Y0 (AYH k a b) λm=>some (.int k m 0))
def APV(o:BinOp)(x y:V):Option V:=x.LD λk a s=>y.LD λk' b t=>CB (band (keq k k') (Nat.beq (Nat.add s t) 0)) (Y0 (bits o k a b) λm=>some (.int k m 0))
def AXi(a:Int)(n:Nat):Int:=Int.fdiv a (Int.ofNat (Nat.pow 2 n))
def AJv(k:IntKind):Nat:=IntKind.rec 8 16 32 64 8 16 32 64 k
def AUt(x y:V):Option V:=x.LD λk a s=>y.LD λ_ b t=>CB (band (TL (ilt b 0)) (Nat.beq (Nat.add s t) 0)) (Y0 (AXi a (Nat.min (Int.toNat b) (AJv k))) λm=>some (.int k m 0))
def AVE(x y:V):Option V:=x.LD λk a s=>y.LD λ_ b t=>CB (band (TL (ilt b 0)) (Nat.beq (Nat.add s t) 0)) (mkI k (Int.mul a (Int.ofNat (Nat.pow 2 (Nat.min (Int.toNat b) (AJv k))))) 0)
def ofB(o:Option Bool):Option V:=Option.rec none mkB o
def EL(k:EK)(neg:Bool)(x y:V):Option V:=ofB (Vg (k.eq x y) λb=>some (Bool.rec (motive:=λ_=>Bool->Bool) (λb=>b) TL neg b))
def AUS(ks:List CK)(neg:Bool)(x y:V)(H:Heap):Option V:=ofB (Vg (AAz (cZ H) ks x y) λb=>some (Bool.rec (motive:=λ_=>Bool->Bool) (λb=>b) TL neg b))
def AV6(x y:V):Option V:=ACh (isStr x) (AJ0 slt x y) (ABy ilt x y)
def AUZ(x y:V):Option V:=ACh (isStr x) (AJ0 (λl c m d=>TL (slt m d l c)) x y) (ABy ile x y)
def AU7(x y:V):Option V:=ACh (isStr x) (AJ0 (λl c m d=>slt m d l c) x y) (ABy (λa b=>ilt b a) x y)
def AU4(x y:V):Option V:=ACh (isStr x) (AJ0 (λl c m d=>TL (slt l c m d)) x y) (ABy (λa b=>ile b a) x y)
def B2.ev(o:B2):V->V->Option V:=B2.rec (motive:=λ_=>V->V->Option V)
 AU6 AXt AWh (dvs Int.tdiv) AU2 AUi (APV .or) (APV .xor) (APV .andNot) AVE AUt AV6 AUZ AU7 AU4 o
end Go.DW
namespace Go.RL
open Go.DW
def q0:P2:=.h
def q1:P2:=.z q0
def q2:P2:=.o q0
def q3:P2:=.z q1
def q4:P2:=.o q1
def q5:P2:=.z q2
def q6:P2:=.o q2
def q7:P2:=.z q3
def q8:P2:=.o q3
def q9:P2:=.z q4
def q10:P2:=.o q4
def q11:P2:=.z q5
def q12:P2:=.o q5
def q13:P2:=.z q6
def q14:P2:=.o q6
def q15:P2:=.z q7
def q16:P2:=.o q7
def q17:P2:=.z q8
def q18:P2:=.o q8
def q19:P2:=.z q9
def q20:P2:=.o q9
def q21:P2:=.z q10
def q22:P2:=.o q10
def q23:P2:=.z q11
def q24:P2:=.o q11
def q25:P2:=.z q12
def q26:P2:=.o q12
def q27:P2:=.z q13
def q28:P2:=.o q13
def q29:P2:=.z q14
def q30:P2:=.o q14
def q31:P2:=.z q15
def q32:P2:=.o q15
def q33:P2:=.z q16
def q34:P2:=.o q16
def q39:P2:=.z q19
def q40:P2:=.o q19
def q41:P2:=.z q20
def q43:P2:=.z q21
def q44:P2:=.o q21
def q45:P2:=.z q22
def q46:P2:=.o q22
def q52:P2:=.o q25
def q53:P2:=.z q26
def q54:P2:=.o q26
def q55:P2:=.z q27
def q56:P2:=.o q27
def q57:P2:=.z q28
def q58:P2:=.o q28
def q65:P2:=.z q32
def q66:P2:=.o q32
def q67:P2:=.z q33
def q68:P2:=.o q33
def q69:P2:=.z q34
def q92:P2:=.o q45
def q93:P2:=.z q46
def q94:P2:=.o q46
def AZy:P2:=.o q55
abbrev qc:Nat:=5
abbrev Ur:Nat:=13
abbrev Z7:Nat:=14
abbrev XT:Nat:=16
abbrev lS:Nat:=17
abbrev ZH:Nat:=19
abbrev jV:Nat:=20
abbrev BZ:Nat:=30
abbrev AE0:Nat:=36
abbrev dH:Nat:=37
abbrev Ey:Nat:=40
abbrev FN:Nat:=41
abbrev EH:Nat:=42
abbrev ER:Nat:=43
abbrev AZ:Nat:=44
abbrev ACE:Nat:=45
abbrev FK:Nat:=46
abbrev Ef:Nat:=47
abbrev Kr:Nat:=48
abbrev Oj:Nat:=50
abbrev Hr:Nat:=51
abbrev kS:Nat:=52
abbrev Lh:Nat:=53
abbrev Xx:Nat:=54
abbrev PI:Nat:=59
abbrev Md:Nat:=67
abbrev V5:Nat:=68
abbrev Xz:Nat:=71
abbrev Gn:Nat:=77
abbrev ABn:Nat:=78
abbrev D6:Nat:=79
abbrev JX:Nat:=80
abbrev D5:Nat:=82
abbrev Ah:Nat:=83
abbrev Pn:Nat:=84
abbrev AFK:Nat:=85
abbrev ACT:Nat:=86
abbrev Cj:Nat:=87
abbrev OG:Nat:=88
abbrev Zi:Nat:=90
abbrev FY:Nat:=91
abbrev U9:Nat:=92
abbrev NW:Nat:=93
abbrev dA:Nat:=100
abbrev fP:Nat:=108
abbrev X4:Nat:=110
abbrev Gz:Nat:=114
abbrev ADM:Nat:=115
abbrev Q9:Nat:=122
abbrev OL:Nat:=123
abbrev Xq:Nat:=124
abbrev WV:Nat:=125
abbrev E5:Nat:=126
abbrev JL:Nat:=127
abbrev Ai:Nat:=128
abbrev BQ:Nat:=129
abbrev RF:Nat:=130
abbrev O1:Nat:=131
abbrev Jw:Nat:=132
abbrev CU:Nat:=133
abbrev JV:Nat:=134
abbrev CV:Nat:=135
abbrev D7:Nat:=136
abbrev OE:Nat:=137
abbrev VU:Nat:=141
abbrev qH:Nat:=142
abbrev Sz:Nat:=143
abbrev V3:Nat:=145
abbrev Aq:Nat:=146
abbrev ZW:Nat:=147
abbrev BN:Nat:=174
abbrev Yc:Nat:=175
abbrev FH:Nat:=176
abbrev Cc:Nat:=177
abbrev Yg:Nat:=178
abbrev YB:Nat:=179
abbrev LC:Nat:=180
abbrev uO:Nat:=181
abbrev Em:Nat:=182
abbrev TR:Nat:=183
abbrev ET:Nat:=184
abbrev Gy:Nat:=214
abbrev Og:Nat:=215
abbrev Gp:Nat:=216
abbrev Ns:Nat:=217
abbrev bQ:Nat:=218
abbrev ZG:Nat:=219
abbrev XO:Nat:=220
abbrev Ij:Nat:=221
abbrev ZQ:Nat:=248
end Go.RL
namespace Go.DW
inductive AN where
 |mv (x:X)
 |pick (c a b:X)
 |ld1 (x:X)
 |ldn (n:Nat) (x:X)
 |AOg (x:X)
 |bin (o:B2) (x y:X)
 |eq (k:EK) (neg:Bool) (x y:X)
 |not (x:X)
 |neg (x:X)
 |cvi (k:IntKind) (x:X)
 |AZm (f:Nat) (first caps:List X)
 |AXj (off:Nat) (x:X)
 |field1 (off:Nat) (x:X)
 |AV3 (off n:Nat) (x:X)
 |AXT (esz:Nat) (x i:X)
 |AVJ (n esz:Nat) (x i:X)
 |AZK (x i:X)
 |AZn (n:Nat) (x i:X)
 |ext (x:X) (i:Nat)
 |AX5 (x:X)
 |AZR (x:X)
 |AXV (x:X)
 |AY4 (n:Nat)
 |look (c:CK) (ok:Bool) (zero:V) (m k:X)
 |build (zero:List V) (parts:List (Nat×Nat×X))
 |AXF (x:X) (lo hi:Option X)
 |slc (esz:Nat) (x:X) (lo hi mx:Option X)
 |AZe (n esz:Nat) (x:X) (lo hi:Option X)
 |AZH (x y:X)
 |AZA (x y:X)
 |cvS (x:X)
 |ASD (s c:X)
 |AJ0 (x y:X)
 |eqp (k:List CK) (neg:Bool) (x y:X)
inductive AA where
 |alloc (esz:Nat) (es:List (List V))
 |box (x:X)
 |AHP (esz cnt:Nat) (zero:List V) (parts:List (Nat×X))
 |ADl (esz bytes:Nat) (zero:List V) (l c:X)
 |AOa
 |mP (t e:Nat)
inductive AE where
 |asg (x:X)
 |st (n:Nat) (x v:X)
 |app (esz bytes:Nat) (x y:X)
 |copy (esz:Nat) (x y:X)
 |AKr (c:CK) (m k v:X)
 |del (c:CK) (m k:X)
 |AWf (m:X)
 |call (f:Nat) (args:List X)
 |ALx (x:X) (args:List X)
 |defer (dp:P2) (x:X) (args:List X)
 |cvB (x:X)
inductive AO where
 |n (o:AN)|a (o:AA)|e (o:AE)
inductive vS where
 |no|to (p:P2)|ps
inductive Gd where
 |no|on (x:X) (b:Bool)
inductive AOp where
 |mk (d:vS) (g:Gd) (o:AO)
def ASP(n:Int):(Nat->Option V)->Option V:=Int.rec (motive:=λ_=>(Nat->Option V)->Option V) (λm f=>f m) (λ_ _=>none) n
def Z5(v:V)(f:Nat->Option V):Option V:=v.LD λ_ n s=>CB (Nat.beq s 0) (ASP n f)
def iW(x:Option X):RS->Nat->(Nat->Option V)->Option V:=
 Option.rec (motive:=λ_=>RS->Nat->(Nat->Option V)->Option V) (λ_ d f=>f d) (λx R _ f=>Z5 (x.ev R) f) x
def f3(a b c:Nat)(f:Nat->Nat->Nat->V):Option V:=Es a λa=>Es b λb=>Es c λc=>some (f a b c)
def AEO(R:RS)(lo hi mx:Option X):Option V:=iW mx R 0 λm=>iW hi R 0 λh=>iW lo R 0 λl=>CB (band (Nat.ble l h) (band (Nat.ble h m) (Nat.beq m 0))) (some .Ad)
def AJA(z:Nat)(R:RS)(lo hi mx:Option X)(id off ln cap esz:Nat):Option V:=CB (Nat.beq z esz) (iW mx R cap λm=>iW hi R ln λh=>iW lo R 0 λl=>
 CB (band (Nat.ble l h) (band (Nat.ble h m) (Nat.ble m cap))) (f3 (Nat.add off l) (Nat.sub h l) (Nat.sub m l) λo d c=>.sl id o d c esz))
def ADk(R:RS)(lo hi:Option X)(id off ln esz:Nat):Option V:=iW hi R ln λh=>iW lo R 0 λl=>
 CB (band (Nat.ble l h) (Nat.ble h ln)) (f3 (Nat.add off l) (Nat.sub h l) 0 λo d _=>.PV id o d esz)
def ADr(R:RS)(lo hi:Option X)(mx:X)(id off ln esz:Nat):Option V:=Z5 (mx.ev R) λm=>iW hi R 0 λh=>iW lo R 0 λl=>
 CB (band (Nat.ble l h) (band (Nat.ble h m) (Nat.ble m ln))) (f3 (Nat.add off l) (Nat.sub h l) (Nat.sub m l) λo d c=>.sl id o d c esz)
def ACl(z:Nat)(R:RS)(lo hi mx:Option X)(id off ln esz:Nat):Option V:=
 CB (Nat.beq z esz) (Option.rec (motive:=λ_=>Option V) (ADk R lo hi id off ln esz) (λmx=>ADr R lo hi mx id off ln esz) mx)
def AFU(z:Nat)(R:RS)(lo hi mx:Option X)(b off ln cap esz:Nat):Option V:=iW hi R ln λh=>iW lo R 0 λl=>
 Option.rec (motive:=λ_=>Option V) (CB (band (Nat.ble l h) (Nat.ble h cap)) (f3 (Nat.add off (Nat.mul l z)) (Nat.sub h l) (Nat.sub cap l) λo d c=>.rsl b o d c esz)) (λ_=>none) mx
def AEV(z:Nat)(x:V)(R:RS)(lo hi mx:Option X):Option V:=x.ARU (AEO R lo hi mx) (AJA z R lo hi mx) (ACl z R lo hi mx) (AFU z R lo hi mx)
def AMy(x:V)(R:RS)(lo hi:Option X):Option V:=
 x.WY λln c=>iW hi R ln λh=>iW lo R 0 λl=>CB (band (Nat.ble l h) (Nat.ble h ln)) (f3 (Nat.sub h l) (AXU c l h) 0 λd c _=>.str d c)
def BD(esz:Nat)(x i:V):Option V:=Z5 i λi=>x.ARU none
 (λid off ln _ e=>CB (band (Nat.beq e esz) (Nat.blt i ln)) (Es (Nat.mul (Nat.add off i) esz) λo=>some (.ptr id o)))
 (λid off ln e=>CB (band (Nat.beq e esz) (Nat.blt i ln)) (Es (Nat.mul (Nat.add off i) esz) λo=>some (.ptr id o)))
 (λb off ln _ _=>CB (Nat.blt i ln) (Es (Nat.add off (Nat.mul i esz)) λo=>some (.gptr b o)))
def AU(off:Nat)(x:V):Option V:=x.AIc (λid o=>Es (Nat.add o off) λo=>some (.ptr id o)) (λb o=>Es (Nat.add o off) λo=>some (.gptr b o))
abbrev ME:=List (V×V×Nat)
def tK(c:CK)(k:V)(es:ME):Nat->Option (Option (Nat×V)):=
 List.rec (motive:=λ_=>Nat->Option (Option (Nat×V))) (λ_=>some none)
  (λe _ g i=>Ce (c.eq e.1 k) λr=>Bool.rec (g (Nat.succ i)) (some (some (i,e.2.1))) r) es
def AW5(b:SV):(ME->Nat->Option V)->Option V:=SV.rec (motive:=λ_=>(ME->Nat->Option V)->Option V) (λ_ _ _ _=>none) (λes c f=>f es c) (λ_=>none) (λ_ _ _ _ _ _=>none) (λ_ _=>none) b
def Ue(H:Heap)(m:V)(f:ME->Nat->Option V):Option V:=m.ALt (f [] 0) λid=>Option.rec (motive:=λ_=>(ME->Nat->Option V)->Option V) (λ_=>none) AW5 (T.get H id) f
def AC1(parts:List (Nat×Nat×X)):RS->List V->List V:=
 List.rec (motive:=λ_=>RS->List V->List V) (λ_ l=>l) (λp _ g R l=>g R (ALX (Ba (p.2.2.ev R)) p.1 l)) parts
def jZ(v:V):Bool:=
 V.rec (motive_1:=λ_=>Bool) (motive_2:=λ_=>PUnit)
  (false)
  (λ_ _ _=>true)
  (λ_=>true)
  (λ_ _=>true)
  (true)
  (λ_ _=>true)
  (λ_ _=>true)
  (true)
  (λ_ _ _ _ _=>true)
  (λ_ _ _ _=>true)
  (λ_ _ _ _ _=>true)
  (true)
  (λ_=>true)
  (true)
  (λ_ _ _ _ _=>true)
  (λ_ _=>true)
  (λ_ _=>false)
  (true)
  (λ_ _ _=>true)
  ⟨⟩ (λ_ _ _ _=>⟨⟩) v
def ny(parts:List (Nat×Nat×X)):RS->Bool:=
 List.rec (motive:=λ_=>RS->Bool) (λ_=>true) (λp _ g R=>band (band (jZ (p.2.2.ev R)) (Nat.beq (len (Ba (p.2.2.ev R))) p.2.1)) (g R)) parts
abbrev DZ:=List LV
def DN(H:Heap)(id esz:Nat)(n:Nat):Nat->Option DZ:=
 Nat.rec (motive:=λ_=>Nat->Option DZ) (λ_=>some [])
  (λ_ g o=>Ce (yw H id (Nat.mul o esz) esz) λL=>Ce (g (Nat.succ o)) λLS=>some (L::LS)) n
def jT(G:AX)(b esz:Nat)(n:Nat):Nat->Option DZ:=
 Nat.rec (motive:=λ_=>Nat->Option DZ) (λ_=>some [])
  (λ_ g o=>Ce (G b o esz) λL=>Ce (g (Nat.add o esz)) λLS=>some (L::LS)) n
def bJ(n:Nat):Nat->DZ:=
 Nat.rec (motive:=λ_=>Nat->DZ) (λ_=>[]) (λ_ g c=>[.int .u8 (.ofNat (Nat.mod c 256)) 0]::g (Nat.div c 256)) n
def elems(v:V):(AX)->(Heap)->(Nat)->Option DZ:=
 V.rec (motive_1:=λ_=>(AX)->(Heap)->(Nat)->Option DZ) (motive_2:=λ_=>PUnit)
  (λ_ _ _=>none)
  (λ_ _ _ _ _ _=>none)
  (λ_ _ _ _=>none)
  (λa b _ _ z=>Bool.rec (motive:=λ_=>Option DZ) none (some (bJ a b)) (Nat.beq 1 z))
  (λ_ _ _=>none)
  (λ_ _ _ _ _=>none)
  (λ_ _ _ _ _=>none)
  (λ_ _ _=>some [])
  (λa b c _ e _ H z=>Bool.rec (motive:=λ_=>Option DZ) none (DN H a z c b) (Nat.beq e z))
  (λa b c d _ H z=>Bool.rec (motive:=λ_=>Option DZ) none (DN H a z c b) (Nat.beq d z))
  (λa b c _ _ G _ z=>jT G a z c b)
  (λ_ _ _=>none)
  (λ_ _ _ _=>none)
  (λ_ _ _=>none)
  (λ_ _ _ _ _ _ _ _=>none)
  (λ_ _ _ _ _=>none)
  (λ_ _ _ _ _=>none)
  (λ_ _ _=>none)
  (λ_ _ _ _ _ _=>none)
  ⟨⟩ (λ_ _ _ _=>⟨⟩) v
def byteOf(v:V):Option Nat:=
 V.rec (motive_1:=λ_=>Option Nat) (motive_2:=λ_=>PUnit)
  (none)
  (λa b c=>Int.rec (motive:=λ_=>Nat->Option Nat) (λm t=>Bool.rec none (some m) (band (Nat.beq (kno a) 4) (band (Nat.blt m 256) (Nat.beq t 0)))) (λ_ _=>none) b c)
  (λ_=>none)
  (λ_ _=>none)
  (none)
  (λ_ _=>none)
  (λ_ _=>none)
  (none)
  (λ_ _ _ _ _=>none)
  (λ_ _ _ _=>none)
  (λ_ _ _ _ _=>none)
  (none)
  (λ_=>none)
  (none)
  (λ_ _ _ _ _=>none)
  (λ_ _=>none)
  (λ_ _=>none)
  (none)
  (λ_ _ _=>none)
  ⟨⟩ (λ_ _ _ _=>⟨⟩) v
def yh(l:DZ):Option Nat:=
 List.rec (motive:=λ_=>Option Nat) (some 0) (λx _ g=>Ce (nth x 0) λv=>Ce (byteOf v) λm=>Ce g λc=>some (Nat.add m (Nat.mul 256 c))) l
def AFi(b:Nat)(f:Nat):Nat->Nat->Int:=
 Nat.rec (motive:=λ_=>Nat->Nat->Int) (λ_ _=>.negSucc 0)
  (λ_ g c i=>Bool.rec (g (Nat.div c 256) (Nat.succ i)) (.ofNat i) (Nat.beq (Nat.mod c 256) b)) f
abbrev sU:=AX->RS->Heap->Option V
def eMv(x:X):sU:=λ_ R _=>some (x.ev R)
def AL6(c a b:X):sU:=λ_ R _=>(c.ev R).vW λt=>ACh t (some (a.ev R)) (some (b.ev R))
def ARO(x:X):sU:=λG R H=>XF (ldP (x.ev R) G H 1) λL=>nth L 0
def ASy(n:Nat)(x:X):sU:=λG R H=>XF (ldP (x.ev R) G H n) λL=>some (.agg L)
def AIS(x:X):sU:=λ_ R _=>Ap (x.ev R)
def ASS(o:B2)(x y:X):sU:=λ_ R _=>o.ev (x.ev R) (y.ev R)
def eEq(k:EK)(neg:Bool)(x y:X):sU:=λ_ R _=>EL k neg (x.ev R) (y.ev R)
def ASx(x:X):sU:=λ_ R _=>(x.ev R).vW λb=>mkB (TL b)
def ARb(x:X):sU:=λ_ R _=>(x.ev R).LD λk n s=>mkI k (Int.neg n) s
def AS7(k:IntKind)(x:X):sU:=λ_ R _=>(x.ev R).LD λ_ n s=>mkI k n s
def AL0(f:Nat)(a c:List X):sU:=λ_ R _=>some (.fn f (jo a R) (jo c R))
def AHT(off:Nat)(x:X):sU:=λ_ R _=>AU off (x.ev R)
def ADu(off:Nat)(x:X):sU:=λ_ R _=>(x.ev R).ACt λl=>nth l off
def ADh(off n:Nat)(x:X):sU:=λ_ R _=>(x.ev R).ACt λl=>some (.agg (dQ n (tu off l)))
def AIJ(esz:Nat)(x i:X):sU:=λ_ R _=>BD esz (x.ev R) (i.ev R)
def ADo(n esz:Nat)(x i:X):sU:=λ_ R _=>Z5 (i.ev R) λi=>CB (Nat.blt i n) (AU (Nat.mul i esz) (x.ev R))
def AL8(x i:X):sU:=λ_ R _=>(x.ev R).WY λln c=>Z5 (i.ev R) λi=>CB (Nat.blt i ln) (Es (APa c i) λb=>some (.int .u8 (.ofNat b) 0))
def AMV(n:Nat)(x i:X):sU:=λ_ R _=>(x.ev R).ACt λl=>Z5 (i.ev R) λi=>CB (Nat.blt i n) (nth l i)
def ARZ(x:X)(i:Nat):sU:=λ_ R _=>(x.ev R).AJb λl=>nth l i
def AMo(x:X):sU:=λ_ R _=>(x.ev R).WY λn _=>some (.int .i64 (.ofNat n) 0)
def AMs(x:X):sU:=λ_ R _=>lenV (x.ev R)
def AMM(x:X):sU:=λ_ R H=>Ue H (x.ev R) λes _=>Es (len es) λn=>some (.int .i64 (.ofNat n) 0)
def AX9(n:Nat):sU:=λ_ _ _=>some (.int .i64 (.ofNat n) 0)
def AM2(ok:Bool)(z:V)(r:Option (Nat×V)):Option V:=
 Option.rec (motive:=λ_=>Option V) (ACh ok (some (.Io [z,.bool false])) (some z)) (λp=>ACh ok (some (.Io [p.2,.bool true])) (some p.2)) r
def AMd(c:CK)(ok:Bool)(z:V)(m k:X):sU:=λ_ R H=>Ue H (m.ev R) λes _=>Ce (tK c (k.ev R) es 0) (AM2 ok z)
def AIQ(z:LV)(ps:List (Nat×Nat×X)):sU:=λ_ R _=>CB (ny ps R) (some (.agg (AC1 ps R z)))
def AEE(x:X)(lo hi:Option X):sU:=λ_ R _=>AMy (x.ev R) R lo hi
def AR9(z:Nat)(x:X)(lo hi mx:Option X):sU:=λ_ R _=>AEV z (x.ev R) R lo hi mx
def AL4(n esz:Nat)(x:X)(lo hi:Option X):sU:=λ_ R _=>(x.ev R).AIc (λid o=>iW hi R n λh=>iW lo R 0 λl=>
 CB (band (Nat.beq (Nat.mod o esz) 0) (band (Nat.ble l h) (Nat.ble h n))) (f3 (Nat.add (Nat.div o esz) l) (Nat.sub h l) (Nat.sub n l) λa b c=>.sl id a b c esz)) (λ_ _=>none)
def ASR(x y:X):sU:=λ_ R _=>(x.ev R).LD λk a s=>(y.ev R).LD λk' b t=>CB (band (keq k k') (Nat.beq (Nat.add s t) 0)) (some (.int k (Bool.rec a b (ilt a b)) 0))
def ATC(x y:X):sU:=λ_ R _=>(x.ev R).LD λk a s=>(y.ev R).LD λk' b t=>CB (band (keq k k') (Nat.beq (Nat.add s t) 0)) (some (.int k (Bool.rec a b (ilt b a)) 0))
def ASj(x:X):sU:=λG R H=>CB (TL (isStr (x.ev R))) (Ce (elems (x.ev R) G H 1) λl=>Ce (yh l) λc=>f3 (len l) c 0 λn c _=>.str n c)
def AHM(s c:X):sU:=λ_ R _=>(s.ev R).WY λn cd=>(c.ev R).LD λk b _=>CB (Nat.beq (kno k) 4) (ASP b λb=>CB (Nat.blt b 256) (Y0 (AFi b n cd 0) λi=>some (.int .i64 i 0)))
def AI4(x y:V):Option V:=x.WY λl c=>y.WY λm d=>some (.int .i64 (Bool.rec (Bool.rec (.ofNat 0) (.ofNat 1) (slt m d l c)) (.negSucc 0) (slt l c m d)) 0)
def ASh(k:List CK)(neg:Bool)(x y:X):sU:=λ_ R H=>AUS k neg (x.ev R) (y.ev R) H
def AMW(x y:X):sU:=λ_ R _=>AI4 (x.ev R) (y.ev R)
def AN.ev(o:AN):sU:=AN.rec (motive:=λ_=>sU)
 eMv AL6 ARO ASy AIS ASS eEq ASx ARb AS7 AL0 AHT ADu ADh AIJ ADo AL8 AMV ARZ AMo AMs AMM AX9 AMd AIQ AEE AR9 AL4 ASR ATC ASj AHM AMW ASh o
def ALE(L:LV)(n:Nat):T LV->T LV:=
 Nat.rec (motive:=λ_=>T LV->T LV) (λt=>t) (λi g t=>g (T.set t i L)) n
def Ih(LS:DZ):Nat->T LV->T LV:=
 List.rec (motive:=λ_=>Nat->T LV->T LV) (λ_ t=>t) (λL _ g i t=>g (Nat.succ i) (T.set t i L)) LS
def nH(parts:List (Nat×X)):RS->T LV->T LV:=
 List.rec (motive:=λ_=>RS->T LV->T LV) (λ_ t=>t) (λp _ g R t=>g R (T.set t p.1 (Ba (p.2.ev R)))) parts
def aU(parts:List (Nat×X)):RS->Nat->Nat->Bool:=
 List.rec (motive:=λ_=>RS->Nat->Nat->Bool) (λ_ _ _=>true) (λp _ g R esz cnt=>band (band (jZ (p.2.ev R)) (band (Nat.blt p.1 cnt) (Nat.beq (len (Ba (p.2.ev R))) esz))) (g R esz cnt)) parts
def V.AQV(v:V):(Nat->Prop)->Prop:=
 V.rec (motive_1:=λ_=>(Nat->Prop)->Prop) (motive_2:=λ_=>PUnit)
  (λ_=>False)
  (λ_ _ _ _=>False)
  (λ_ _=>False)
  (λ_ _ _=>False)
  (λ_=>False)
  (λa _ f=>f a)
  (λ_ _ _=>False)
  (λ_=>False)
  (λ_ _ _ _ _ _=>False)
  (λ_ _ _ _ _=>False)
  (λ_ _ _ _ _ _=>False)
  (λ_=>False)
  (λ_ _=>False)
  (λ_=>False)
  (λ_ _ _ _ _ _=>False)
  (λ_ _ _=>False)
  (λ_ _ _=>False)
  (λ_=>False)
  (λ_ _ _ _=>False)
  ⟨⟩ (λ_ _ _ _=>⟨⟩) v
def V.AD8(v:V):(Nat->Nat->Prop)->Prop:=
 V.rec (motive_1:=λ_=>(Nat->Nat->Prop)->Prop) (motive_2:=λ_=>PUnit)
  (λ_=>False)
  (λ_ _ _ _=>False)
  (λ_ _=>False)
  (λ_ _ _=>False)
  (λ_=>False)
  (λa b f=>f a b)
  (λ_ _ _=>False)
  (λ_=>False)
  (λ_ _ _ _ _ _=>False)
  (λ_ _ _ _ _=>False)
  (λ_ _ _ _ _ _=>False)
  (λ_=>False)
  (λ_ _=>False)
  (λ_=>False)
  (λ_ _ _ _ _ _=>False)
  (λ_ _ _=>False)
  (λ_ _ _=>False)
  (λ_=>False)
  (λ_ _ _ _=>False)
  ⟨⟩ (λ_ _ _ _=>⟨⟩) v
abbrev KA:=SV->(Nat->V)->Prop
abbrev AlT:=RS->KA->Prop
def EO(b:Bool)(p:Prop):Prop:=Bool.rec (motive:=λ_=>Prop->Prop) (λ_=>False) (λp=>p) b p
def AHe(v:V)(f:Nat->Prop):Prop:=Ei (Z5 v λn=>some (.ptr n 0)) λv=>V.AQV v f
def Au(esz:Nat)(es:DZ):AlT:=λ_ k=>FT (len es) λn=>k (.arr esz n (Ih es 0 .e)) λid=>.ptr id 0
def AFu(x:X):AlT:=λR k=>EO (jZ (x.ev R)) (FT (len (Ba (x.ev R))) λe=>k (.arr e 1 (T.set .e 0 (Ba (x.ev R)))) λid=>.ptr id 0)
def Af(esz cnt:Nat)(z:LV)(ps:List (Nat×X)):AlT:=λR k=>EO (aU ps R esz cnt) (k (.arr esz cnt (nH ps R (ALE z cnt .e))) λid=>.sl id 0 cnt cnt esz)
def Vf(esz bs:Nat)(z:LV)(l c:X):AlT:=λR k=>AHe (l.ev R) λl=>AHe (c.ev R) λc=>
 EO (band (Nat.ble l c) (Nat.ble (Nat.mul bs c) 281474976710656)) (k (.arr esz c (ALE z c .e)) λid=>.sl id 0 l c esz)
def AHU:AlT:=λ_ k=>k (.map [] 0) λid=>.map id
def AaA(t e:Nat):AlT:=λ_ k=>k (.mP t e 0 0 0) λid=>.ptr id 0
def AA.al(o:AA):AlT:=AA.rec (motive:=λ_=>AlT) Au AFu Af Vf AHU AaA o
abbrev K:=LW->Heap->Nat->Prop
abbrev KV:=V->Heap->Nat->Prop
abbrev BG:=Nat->List V->Heap->Nat->KV->Prop
def UF(need bytes:Nat):Bool:=Nat.ble (Nat.mul need bytes) 140737488355328
abbrev AKv:=AX->Nat->Nat->DZ->Heap->Nat->KV->Prop
def N7(esz bs:Nat)(OS LS:DZ)(H:Heap)(n:Nat)(k:KV):Prop:=
 FT (Nat.add (len OS) (len LS)) λneed=>EO (UF need bs) (FT n λn=>k (.PV n 0 need esz) (T.set H n (.arr esz need (Ih LS (len OS) (Ih OS 0 .e)))) (Nat.succ n))
def AV2:AKv:=λ_ esz bs LS H n k=>List.rec (motive:=λ_=>Prop) (k .Ad H n) (λ_ _ _=>N7 esz bs [] LS H n k) LS
def yc(id off ln cap esz need:Nat)(LS:DZ)(H:Heap)(n:Nat)(k:KV)(b:SV):Prop:=
 SV.rec (motive:=λ_=>Prop) (λesz' cnt c=>EO (band (Nat.beq esz esz') (Nat.ble (Nat.add off need) cnt)) (k (.sl id off need cap esz) (T.set H id (.arr esz cnt (Ih LS (Nat.add off ln) c))) n)) (λ_ _=>False) False (λ_ _ _ _ _=>False) (λ_=>False) b
def ATZ(id off ln cap e:Nat):AKv:=λ_ esz bs LS H n k=>EO (Nat.beq e esz) (FT (Nat.add ln (len LS)) λneed=>
 Bool.rec (motive:=λ_=>Prop) (Ei (DN H id esz ln off) λOS=>N7 esz bs OS LS H n k) (Ei (T.get H id) λb=>yc id off ln cap esz need LS H n k b) (Nat.ble need cap))
def gQ(id off ln esz bs:Nat)(LS:DZ)(H:Heap)(n:Nat)(k:KV)(b:SV):Prop:=
 SV.rec (motive:=λ_=>Prop) (λesz' cnt c=>FT (Nat.add ln (len LS)) λneed=>EO (band (UF need bs) (band (Nat.beq esz esz') (Nat.ble (Nat.add off ln) cnt)))
  (FT n λn=>Nat.rec (motive:=λ_=>Prop)
   (k (.PV n 0 need esz) (T.set (T.set H id .dead) n (.arr esz need (Ih LS ln c))) (Nat.succ n))
   (λ_ _=>Ei (DN H id esz ln off) λOS=>k (.PV n 0 need esz) (T.set (T.set H id .dead) n (.arr esz need (Ih LS ln (Ih OS 0 .e)))) (Nat.succ n)) off))
  (λ_ _=>False) False (λ_ _ _ _ _=>False) (λ_=>False) b
def APm(id off ln e:Nat):AKv:=λ_ esz bs LS H n k=>EO (Nat.beq e esz) (List.rec (motive:=λ_=>Prop) (k (.PV id off ln esz) H n)
 (λ_ _ _=>Ei (T.get H id) λb=>gQ id off ln esz bs LS H n k b) LS)
def APL(b off ln cap e:Nat):AKv:=λG esz bs LS H n k=>EO (Nat.blt cap (Nat.add ln (len LS))) (Ei (jT G b esz ln off) λOS=>N7 esz bs OS LS H n k)
def bD:AKv:=λ_ _ _ _ _ _ _=>False
def AH1(v:V):AKv:=
 V.rec (motive_1:=λ_=>AKv) (motive_2:=λ_=>PUnit)
  (bD)
  (λ_ _ _=>bD)
  (λ_=>bD)
  (λ_ _=>bD)
  (bD)
  (λ_ _=>bD)
  (λ_ _=>bD)
  (AV2)
  (λa b c d e=>ATZ a b c d e)
  (λa b c d=>APm a b c d)
  (λa b c d e=>APL a b c d e)
  (bD)
  (λ_=>bD)
  (bD)
  (λ_ _ _ _ _=>bD)
  (λ_ _=>bD)
  (λ_ _=>bD)
  (bD)
  (λ_ _ _=>bD)
  ⟨⟩ (λ_ _ _ _=>⟨⟩) v
def AUq(id off esz:Nat)(LS:DZ)(H:Heap)(n:Nat)(k:KV)(b:SV):Prop:=
 SV.rec (motive:=λ_=>Prop) (λesz' cnt c=>EO (band (Nat.beq esz esz') (Nat.ble (Nat.add off (len LS)) cnt)) (FT (len LS) λm=>k (.int .i64 (.ofNat m) 0) (T.set H id (.arr esz cnt (Ih LS off c))) n)) (λ_ _=>False) False (λ_ _ _ _ _=>False) (λ_=>False) b
abbrev CpT:=Nat->DZ->Heap->Nat->KV->Prop
def AEN(id off ln:Nat):CpT:=λesz LS H n k=>Ei (T.get H id) λb=>AUq id off esz (dQ ln LS) H n k b
def AJg(v:V):(Nat)->(DZ)->(Heap)->(Nat)->(KV)->Prop:=
 V.rec (motive_1:=λ_=>(Nat)->(DZ)->(Heap)->(Nat)->(KV)->Prop) (motive_2:=λ_=>PUnit)
  (λ_ _ _ _ _=>False)
  (λ_ _ _ _ _ _ _ _=>False)
  (λ_ _ _ _ _ _=>False)
  (λ_ _ _ _ _ _ _=>False)
  (λ_ _ _ _ _=>False)
  (λ_ _ _ _ _ _ _=>False)
  (λ_ _ _ _ _ _ _=>False)
  (λ_ _ H n k=>k (.int .i64 (.ofNat 0) 0) H n)
  (λa b c _ e z L H n k=>EO (Nat.beq e z) (AEN a b c z L H n k))
  (λa b c d z L H n k=>EO (Nat.beq d z) (AEN a b c z L H n k))
  (λ_ _ _ _ _ _ _ _ _ _=>False)
  (λ_ _ _ _ _=>False)
  (λ_ _ _ _ _ _=>False)
  (λ_ _ _ _ _=>False)
  (λ_ _ _ _ _ _ _ _ _ _=>False)
  (λ_ _ _ _ _ _ _=>False)
  (λ_ _ _ _ _ _ _=>False)
  (λ_ _ _ _ _=>False)
  (λ_ _ _ _ _ _ _ _=>False)
  ⟨⟩ (λ_ _ _ _=>⟨⟩) v
def AFg{α:Type}(l:List α):Nat->List α:=
 List.rec (motive:=λ_=>Nat->List α) (λ_=>[]) (λy ys g i=>Nat.rec (motive:=λ_=>List α) ys (λi _=>y::g i) i) l
def AT8(b:SV):(ME->Nat->Option SV)->Option SV:=SV.rec (motive:=λ_=>(ME->Nat->Option SV)->Option SV) (λ_ _ _ _=>none) (λes c f=>f es c) (λ_=>none) (λ_ _ _ _ _ _=>none) (λ_ _=>none) b
def AYZ(H:Heap)(id:Nat)(f:ME->Nat->Option SV)(g:Heap->Prop):Prop:=Ei (T.get H id) λb=>Ei (AT8 b f) λb=>g (T.set H id b)
def AFr(v:V):(Heap)->(ME->Nat->Option SV)->(Heap->Prop)->Prop:=
 V.rec (motive_1:=λ_=>(Heap)->(ME->Nat->Option SV)->(Heap->Prop)->Prop) (motive_2:=λ_=>PUnit)
  (λ_ _ _=>False)
  (λ_ _ _ _ _ _=>False)
  (λ_ _ _ _=>False)
  (λ_ _ _ _ _=>False)
  (λ_ _ _=>False)
  (λ_ _ _ _ _=>False)
  (λ_ _ _ _ _=>False)
  (λ_ _ _=>False)
  (λ_ _ _ _ _ _ _ _=>False)
  (λ_ _ _ _ _ _ _=>False)
  (λ_ _ _ _ _ _ _ _=>False)
  (λ_ _ _=>False)
  (λa H f g=>AYZ H a f g)
  (λ_ _ _=>False)
  (λ_ _ _ _ _ _ _ _=>False)
  (λ_ _ _ _ _=>False)
  (λ_ _ _ _ _=>False)
  (λ_ _ _=>False)
  (λ_ _ _ _ _ _=>False)
  ⟨⟩ (λ_ _ _ _=>⟨⟩) v
def V.Y5(v:V):(Nat->LV->LV->Prop)->Prop:=
 V.rec (motive_1:=λ_=>(Nat->LV->LV->Prop)->Prop) (motive_2:=λ_=>PUnit)
  (λ_=>False)
  (λ_ _ _ _=>False)
  (λ_ _=>False)
  (λ_ _ _=>False)
  (λ_=>False)
  (λ_ _ _=>False)
  (λ_ _ _=>False)
  (λ_=>False)
  (λ_ _ _ _ _ _=>False)
  (λ_ _ _ _ _=>False)
  (λ_ _ _ _ _ _=>False)
  (λ_=>False)
  (λ_ _=>False)
  (λ_=>False)
  (λa b c _ _ f=>f a b c)
  (λ_ _ _=>False)
  (λ_ _ _=>False)
  (λ_=>False)
  (λ_ _ _ _=>False)
  ⟨⟩ (λ_ _ _ _=>⟨⟩) v
def AJ4(v:V):LV:=
 V.rec (motive_1:=λ_=>LV) (motive_2:=λ_=>PUnit)
  ([])
  (λ_ _ _=>[])
  (λ_=>[])
  (λ_ _=>[])
  ([])
  (λ_ _=>[])
  (λ_ _=>[])
  ([])
  (λ_ _ _ _ _=>[])
  (λ_ _ _ _=>[])
  (λ_ _ _ _ _=>[])
  ([])
  (λ_=>[])
  ([])
  (λ_ _ _ _ _=>[])
  (λ_ _=>[])
  (λa _=>a)
  ([])
  (λ_ _ _=>[])
  ⟨⟩ (λ_ _ _ _=>⟨⟩) v
abbrev ExT:=AX->BG->RS->Heap->Nat->KV->Prop
def AZX(x:X):ExT:=λ_ _ R H n k=>k (x.ev R) H n
def xSt(sz:Nat)(x v:X):ExT:=λ_ _ R H n k=>EO (band (jZ (v.ev R)) (Nat.beq (len (Ba (v.ev R))) sz)) (Ei (stP (x.ev R) H sz (Ba (v.ev R))) λH=>k .undef H n)
def AaH(esz bs:Nat)(x y:X):ExT:=λG _ R H n k=>Ei (elems (y.ev R) G H esz) λLS=>AH1 (x.ev R) G esz bs LS H n k
def AWs(esz:Nat)(x y:X):ExT:=λG _ R H n k=>Ei (elems (y.ev R) G H esz) λLS=>AJg (x.ev R) esz LS H n k
def ALe(ck:CK)(key v:V)(es:ME)(c:Nat):Option SV:=Ce (tK ck key es 0) λr=>
 Option.rec (motive:=λ_=>Option SV) (some (.map (cat es [(key,v,c)]) (Nat.succ c))) (λp=>Ce (nth es p.1) λe=>some (.map (nU (e.1,v,e.2.2) es p.1) c)) r
def AUn(ck:CK)(key:V)(es:ME)(c:Nat):Option SV:=Ce (tK ck key es 0) λr=>
 Option.rec (motive:=λ_=>Option SV) (some (.map es c)) (λp=>some (.map (AFg es p.1) c)) r
def AY3(c:CK)(m key v:X):ExT:=λ_ _ R H n k=>AFr (m.ev R) H (ALe c (key.ev R) (v.ev R)) λH=>k .undef H n
def AZk(c:CK)(m key:X):ExT:=λ_ _ R H n k=>AFr (m.ev R) H (AUn c (key.ev R)) λH=>k (.Io []) H n
def AZf(m:X):ExT:=λ_ _ R H n k=>AFr (m.ev R) H (λ_ c=>some (.map [] c)) λH=>k (.Io []) H n
def AYE(f:Nat)(args:List X):ExT:=λ_ call R H n k=>call f (jo args R) H n k
def AUe(x:X)(args:List X):ExT:=λ_ call R H n k=>V.Y5 (x.ev R) λf a c=>call f (cat a (cat (jo args R) c)) H n k
def AUR(dp:P2)(x:X)(args:List X):ExT:=λ_ _ R H n k=>V.Y5 (x.ev R) λf a c=>k (.Io (.fn f (cat a (jo args R)) c::AJ4 (PD (T.FQ dp R.rg)))) H n
def AZ2(x:X):ExT:=λ_ _ R H n k=>Ei ((x.ev R).WY λl c=>some (.ptr l c)) λv=>V.AD8 v λl c=>
 FT n λn=>k (.PV n 0 l 1) (T.set H n (.arr 1 l (Ih (bJ l c) 0 .e))) (Nat.succ n)
def AE.ex(o:AE):ExT:=AE.rec (motive:=λ_=>ExT) AZX xSt AaH AWs AY3 AZk AZf AYE AUe AUR AZ2 o
def AY5(p:P2)(v:V)(E:RS):RS:=RS.rec (motive:=λ_=>P2->V->RS) (λL R p v=>.mk L (T.fJ v p R)) E p v
def AW6(v:V)(E:RS):RS:=RS.rec (motive:=λ_=>V->RS) (λL R v=>.mk (v::L) R) E v
def IQ(d:vS)(v:V):RS->RS:=vS.rec (motive:=λ_=>V->RS->RS) (λ_ R=>R) AY5 AW6 d v
abbrev KE:=RS->Heap->Nat->Prop
abbrev XoT:=AX->BG->vS->RS->Heap->Nat->KE->Prop
def oN(o:AN):XoT:=λG _ d R H n k=>AP (o.ev G R H) λv=>k (IQ d v R) H n
def oA(o:AA):XoT:=λ_ _ d R H n k=>o.al R λb f=>FT n λn=>k (IQ d (f n) R) (T.set H n b) (Nat.succ n)
def oE(o:AE):XoT:=λG call d R H n k=>o.ex G call R H n λv H n=>k (IQ d v R) H n
def AO.ex(o:AO):XoT:=AO.rec (motive:=λ_=>XoT) oN oA oE o
def Ae(v:V)(b:Bool)(yes no:Prop):Prop:=v.AM3 λt=>Bool.rec (motive:=λ_=>Prop->Prop->Prop) (λ_ n=>n) (λy _=>y) (AQK t b) yes no
def qV(v:V):(Bool)->(Prop)->(Prop)->Prop:=
 V.rec (motive_1:=λ_=>(Bool)->(Prop)->(Prop)->Prop) (motive_2:=λ_=>PUnit)
  (λ_ _ _=>False)
  (λ_ _ _ _ _ _=>False)
  (λa b' yes no=>Bool.rec (motive:=λ_=>Prop->Prop->Prop) (λ_ n=>n) (λy _=>y) (AQK a b') yes no)
  (λ_ _ _ _ _=>False)
  (λ_ _ _=>False)
  (λ_ _ _ _ _=>False)
  (λ_ _ _ _ _=>False)
  (λ_ _ _=>False)
  (λ_ _ _ _ _ _ _ _=>False)
  (λ_ _ _ _ _ _ _=>False)
  (λ_ _ _ _ _ _ _ _=>False)
  (λ_ _ _=>False)
  (λ_ _ _ _=>False)
  (λ_ _ _=>False)
  (λ_ _ _ _ _ _ _ _=>False)
  (λ_ _ _ _ _=>False)
  (λa _ _ _ no=>List.rec (motive:=λ_=>Prop) no (λ_ _ _=>False) a)
  (λ_ _ _=>False)
  (λ_ _ _ _ _ _=>False)
  ⟨⟩ (λ_ _ _ _=>⟨⟩) v
abbrev XpT:=AX->BG->RS->Heap->Nat->KE->Prop
def gNo(d:vS)(o:AO):XpT:=λG call R H n k=>o.ex G call d R H n k
def gOn(x:X)(b:Bool)(d:vS)(o:AO):XpT:=λG call R H n k=>qV (x.ev R) b (o.ex G call d R H n k) (k (IQ d (.Io []) R) H n)
def AOp.ex(o:AOp):XpT:=AOp.rec (motive:=λ_=>XpT) (λd g o=>Gd.rec (motive:=λ_=>vS->AO->XpT) gNo gOn g d o) o
def AMr(v:V):(IntKind)->(Int)->(Nat)->Bool:=
 V.rec (motive_1:=λ_=>(IntKind)->(Int)->(Nat)->Bool) (motive_2:=λ_=>PUnit)
  (λ_ _ _=>false)
  (λa b c k n s=>band (keq k a) (band (ieq n b) (band (Nat.beq s 0) (Nat.beq c 0))))
  (λ_ _ _ _=>false)
  (λ_ _ _ _ _=>false)
  (λ_ _ _=>false)
  (λ_ _ _ _ _=>false)
  (λ_ _ _ _ _=>false)
  (λ_ _ _=>false)
  (λ_ _ _ _ _ _ _ _=>false)
  (λ_ _ _ _ _ _ _=>false)
  (λ_ _ _ _ _ _ _ _=>false)
  (λ_ _ _=>false)
  (λ_ _ _ _=>false)
  (λ_ _ _=>false)
  (λ_ _ _ _ _ _ _ _=>false)
  (λ_ _ _ _ _=>false)
  (λ_ _ _ _ _=>false)
  (λ_ _ _=>false)
  (λ_ _ _ _ _ _=>false)
  ⟨⟩ (λ_ _ _ _=>⟨⟩) v
def AEP(v:V):(Bool)->Bool:=
 V.rec (motive_1:=λ_=>(Bool)->Bool) (motive_2:=λ_=>PUnit)
  (λ_=>false)
  (λ_ _ _ _=>false)
  (λa x=>AQK x a)
  (λ_ _ _=>false)
  (λ_=>false)
  (λ_ _ _=>false)
  (λ_ _ _=>false)
  (λ_=>false)
  (λ_ _ _ _ _ _=>false)
  (λ_ _ _ _ _=>false)
  (λ_ _ _ _ _ _=>false)
  (λ_=>false)
  (λ_ _=>false)
  (λ_=>false)
  (λ_ _ _ _ _ _=>false)
  (λ_ _ _=>false)
  (λ_ _ _=>false)
  (λ_=>false)
  (λ_ _ _ _=>false)
  ⟨⟩ (λ_ _ _ _=>⟨⟩) v
def AMa(v:V):(Nat)->(Nat)->Bool:=
 V.rec (motive_1:=λ_=>(Nat)->(Nat)->Bool) (motive_2:=λ_=>PUnit)
  (λ_ _=>false)
  (λ_ _ _ _ _=>false)
  (λ_ _ _=>false)
  (λa b l m=>band (Nat.beq l a) (Nat.beq m b))
  (λ_ _=>false)
  (λ_ _ _ _=>false)
  (λ_ _ _ _=>false)
  (λ_ _=>false)
  (λ_ _ _ _ _ _ _=>false)
  (λ_ _ _ _ _ _=>false)
  (λ_ _ _ _ _ _ _=>false)
  (λ_ _=>false)
  (λ_ _ _=>false)
  (λ_ _=>false)
  (λ_ _ _ _ _ _ _=>false)
  (λ_ _ _ _=>false)
  (λ_ _ _ _=>false)
  (λ_ _=>false)
  (λ_ _ _ _ _=>false)
  ⟨⟩ (λ_ _ _ _=>⟨⟩) v
def AHJ(v:V):Bool:=
 V.rec (motive_1:=λ_=>Bool) (motive_2:=λ_=>PUnit)
  (false)
  (λ_ _ _=>false)
  (λ_=>false)
  (λ_ _=>false)
  (true)
  (λ_ _=>false)
  (λ_ _=>false)
  (false)
  (λ_ _ _ _ _=>false)
  (λ_ _ _ _=>false)
  (λ_ _ _ _ _=>false)
  (false)
  (λ_=>false)
  (false)
  (λ_ _ _ _ _=>false)
  (λ_ _=>false)
  (λ_ _=>false)
  (false)
  (λ_ _ _=>false)
  ⟨⟩ (λ_ _ _ _=>⟨⟩) v
def AIL(v:V):Bool:=
 V.rec (motive_1:=λ_=>Bool) (motive_2:=λ_=>PUnit)
  (false)
  (λ_ _ _=>false)
  (λ_=>false)
  (λ_ _=>false)
  (false)
  (λ_ _=>false)
  (λ_ _=>false)
  (true)
  (λ_ _ _ _ _=>false)
  (λ_ _ _ _=>false)
  (λ_ _ _ _ _=>false)
  (false)
  (λ_=>false)
  (false)
  (λ_ _ _ _ _=>false)
  (λ_ _=>false)
  (λ_ _=>false)
  (false)
  (λ_ _ _=>false)
  ⟨⟩ (λ_ _ _ _=>⟨⟩) v
def AH6(v:V):Bool:=
 V.rec (motive_1:=λ_=>Bool) (motive_2:=λ_=>PUnit)
  (false)
  (λ_ _ _=>false)
  (λ_=>false)
  (λ_ _=>false)
  (false)
  (λ_ _=>false)
  (λ_ _=>false)
  (false)
  (λ_ _ _ _ _=>false)
  (λ_ _ _ _=>false)
  (λ_ _ _ _ _=>false)
  (true)
  (λ_=>false)
  (false)
  (λ_ _ _ _ _=>false)
  (λ_ _=>false)
  (λ_ _=>false)
  (false)
  (λ_ _ _=>false)
  ⟨⟩ (λ_ _ _ _=>⟨⟩) v
def AHN(v:V):Bool:=
 V.rec (motive_1:=λ_=>Bool) (motive_2:=λ_=>PUnit)
  (false)
  (λ_ _ _=>false)
  (λ_=>false)
  (λ_ _=>false)
  (false)
  (λ_ _=>false)
  (λ_ _=>false)
  (false)
  (λ_ _ _ _ _=>false)
  (λ_ _ _ _=>false)
  (λ_ _ _ _ _=>false)
  (false)
  (λ_=>false)
  (true)
  (λ_ _ _ _ _=>false)
  (λ_ _=>false)
  (λ_ _=>false)
  (false)
  (λ_ _ _=>false)
  ⟨⟩ (λ_ _ _ _=>⟨⟩) v
def APM(v:V):(Nat)->(Nat)->Bool:=
 V.rec (motive_1:=λ_=>(Nat)->(Nat)->Bool) (motive_2:=λ_=>PUnit)
  (λ_ _=>false)
  (λ_ _ _ _ _=>false)
  (λ_ _ _=>false)
  (λ_ _ _ _=>false)
  (λ_ _=>false)
  (λa b l m=>band (Nat.beq l a) (Nat.beq m b))
  (λ_ _ _ _=>false)
  (λ_ _=>false)
  (λ_ _ _ _ _ _ _=>false)
  (λ_ _ _ _ _ _=>false)
  (λ_ _ _ _ _ _ _=>false)
  (λ_ _=>false)
  (λ_ _ _=>false)
  (λ_ _=>false)
  (λ_ _ _ _ _ _ _=>false)
  (λ_ _ _ _=>false)
  (λ_ _ _ _=>false)
  (λ_ _=>false)
  (λ_ _ _ _ _=>false)
  ⟨⟩ (λ_ _ _ _=>⟨⟩) v
def AK8(v:V):(Nat)->(Nat)->Bool:=
 V.rec (motive_1:=λ_=>(Nat)->(Nat)->Bool) (motive_2:=λ_=>PUnit)
  (λ_ _=>false)
  (λ_ _ _ _ _=>false)
  (λ_ _ _=>false)
  (λ_ _ _ _=>false)
  (λ_ _=>false)
  (λ_ _ _ _=>false)
  (λa b l m=>band (Nat.beq l a) (Nat.beq m b))
  (λ_ _=>false)
  (λ_ _ _ _ _ _ _=>false)
  (λ_ _ _ _ _ _=>false)
  (λ_ _ _ _ _ _ _=>false)
  (λ_ _=>false)
  (λ_ _ _=>false)
  (λ_ _=>false)
  (λ_ _ _ _ _ _ _=>false)
  (λ_ _ _ _=>false)
  (λ_ _ _ _=>false)
  (λ_ _=>false)
  (λ_ _ _ _ _=>false)
  ⟨⟩ (λ_ _ _ _=>⟨⟩) v
def AQp(v:V):(Nat)->Bool:=
 V.rec (motive_1:=λ_=>(Nat)->Bool) (motive_2:=λ_=>PUnit)
  (λ_=>false)
  (λ_ _ _ _=>false)
  (λ_ _=>false)
  (λ_ _ _=>false)
  (λ_=>false)
  (λ_ _ _=>false)
  (λ_ _ _=>false)
  (λ_=>false)
  (λ_ _ _ _ _ _=>false)
  (λ_ _ _ _ _=>false)
  (λ_ _ _ _ _ _=>false)
  (λ_=>false)
  (λa l=>Nat.beq l a)
  (λ_=>false)
  (λ_ _ _ _ _ _=>false)
  (λ_ _ _=>false)
  (λ_ _ _=>false)
  (λ_=>false)
  (λ_ _ _ _=>false)
  ⟨⟩ (λ_ _ _ _=>⟨⟩) v
def APo(v:V):(Nat)->(Nat)->(Nat)->(Nat)->(Nat)->Bool:=
 V.rec (motive_1:=λ_=>(Nat)->(Nat)->(Nat)->(Nat)->(Nat)->Bool) (motive_2:=λ_=>PUnit)
  (λ_ _ _ _ _=>false)
  (λ_ _ _ _ _ _ _ _=>false)
  (λ_ _ _ _ _ _=>false)
  (λ_ _ _ _ _ _ _=>false)
  (λ_ _ _ _ _=>false)
  (λ_ _ _ _ _ _ _=>false)
  (λ_ _ _ _ _ _ _=>false)
  (λ_ _ _ _ _=>false)
  (λa b c d e i j k l m=>band (Nat.beq i a) (band (Nat.beq j b) (band (Nat.beq k c) (band (Nat.beq l d) (Nat.beq m e)))))
  (λ_ _ _ _ _ _ _ _ _=>false)
  (λ_ _ _ _ _ _ _ _ _ _=>false)
  (λ_ _ _ _ _=>false)
  (λ_ _ _ _ _ _=>false)
  (λ_ _ _ _ _=>false)
  (λ_ _ _ _ _ _ _ _ _ _=>false)
  (λ_ _ _ _ _ _ _=>false)
  (λ_ _ _ _ _ _ _=>false)
  (λ_ _ _ _ _=>false)
  (λ_ _ _ _ _ _ _ _=>false)
  ⟨⟩ (λ_ _ _ _=>⟨⟩) v
def AJN(v:V):(Nat)->(Nat)->(Nat)->(Nat)->Bool:=
 V.rec (motive_1:=λ_=>(Nat)->(Nat)->(Nat)->(Nat)->Bool) (motive_2:=λ_=>PUnit)
  (λ_ _ _ _=>false)
  (λ_ _ _ _ _ _ _=>false)
  (λ_ _ _ _ _=>false)
  (λ_ _ _ _ _ _=>false)
  (λ_ _ _ _=>false)
  (λ_ _ _ _ _ _=>false)
  (λ_ _ _ _ _ _=>false)
  (λ_ _ _ _=>false)
  (λ_ _ _ _ _ _ _ _ _=>false)
  (λa b c d i j k l=>band (Nat.beq i a) (band (Nat.beq j b) (band (Nat.beq k c) (Nat.beq l d))))
  (λ_ _ _ _ _ _ _ _ _=>false)
  (λ_ _ _ _=>false)
  (λ_ _ _ _ _=>false)
  (λ_ _ _ _=>false)
  (λ_ _ _ _ _ _ _ _ _=>false)
  (λ_ _ _ _ _ _=>false)
  (λ_ _ _ _ _ _=>false)
  (λ_ _ _ _=>false)
  (λ_ _ _ _ _ _ _=>false)
  ⟨⟩ (λ_ _ _ _=>⟨⟩) v
def AJZ(v:V):(Nat)->(Nat)->(Nat)->(Nat)->(Nat)->Bool:=
 V.rec (motive_1:=λ_=>(Nat)->(Nat)->(Nat)->(Nat)->(Nat)->Bool) (motive_2:=λ_=>PUnit)
  (λ_ _ _ _ _=>false)
  (λ_ _ _ _ _ _ _ _=>false)
  (λ_ _ _ _ _ _=>false)
  (λ_ _ _ _ _ _ _=>false)
  (λ_ _ _ _ _=>false)
  (λ_ _ _ _ _ _ _=>false)
  (λ_ _ _ _ _ _ _=>false)
  (λ_ _ _ _ _=>false)
  (λ_ _ _ _ _ _ _ _ _ _=>false)
  (λ_ _ _ _ _ _ _ _ _=>false)
  (λa b c d e i j k l m=>band (Nat.beq i a) (band (Nat.beq j b) (band (Nat.beq k c) (band (Nat.beq l d) (Nat.beq m e)))))
  (λ_ _ _ _ _=>false)
  (λ_ _ _ _ _ _=>false)
  (λ_ _ _ _ _=>false)
  (λ_ _ _ _ _ _ _ _ _ _=>false)
  (λ_ _ _ _ _ _ _=>false)
  (λ_ _ _ _ _ _ _=>false)
  (λ_ _ _ _ _=>false)
  (λ_ _ _ _ _ _ _ _=>false)
  ⟨⟩ (λ_ _ _ _=>⟨⟩) v
def NI(v:V):(V)->Bool:=
 V.rec (motive_1:=λ_=>(V)->Bool) (motive_2:=λ_=>PUnit)
  (λ_=>false)
  (λa b c y=>AMr y a b c)
  (λa y=>AEP y a)
  (λa b y=>AMa y a b)
  (λy=>AHJ y)
  (λa b y=>APM y a b)
  (λa b y=>AK8 y a b)
  (λy=>AIL y)
  (λa b c d e y=>APo y a b c d e)
  (λa b c d y=>AJN y a b c d)
  (λa b c d e y=>AJZ y a b c d e)
  (λy=>AH6 y)
  (λa y=>AQp y a)
  (λy=>AHN y)
  (λ_ _ _ _ _ _=>false)
  (λ_ _ _=>false)
  (λ_ _ _=>false)
  (λ_=>false)
  (λ_ _ _ _=>false)
  ⟨⟩ (λ_ _ _ _=>⟨⟩) v
def ACd(a:List V):List V->Bool:=
 List.rec (motive:=λ_=>List V->Bool) (λb=>List.rec (motive:=λ_=>Bool) true (λ_ _ _=>false) b)
  (λx _ g b=>List.rec (motive:=λ_=>Bool) false (λy ys _=>band (NI x y) (g ys)) b) a
def ATu(v:V):(LV)->Bool:=
 V.rec (motive_1:=λ_=>(LV)->Bool) (motive_2:=λ_=>PUnit)
  (λ_=>false)
  (λ_ _ _ _=>false)
  (λ_ _=>false)
  (λ_ _ _=>false)
  (λ_=>false)
  (λ_ _ _=>false)
  (λ_ _ _=>false)
  (λ_=>false)
  (λ_ _ _ _ _ _=>false)
  (λ_ _ _ _ _=>false)
  (λ_ _ _ _ _ _=>false)
  (λ_=>false)
  (λ_ _=>false)
  (λ_=>false)
  (λ_ _ _ _ _ _=>false)
  (λa _ l=>ACd l a)
  (λ_ _ _=>false)
  (λ_=>false)
  (λ_ _ _ _=>false)
  ⟨⟩ (λ_ _ _ _=>⟨⟩) v
def ATd(v:V):(LV)->Bool:=
 V.rec (motive_1:=λ_=>(LV)->Bool) (motive_2:=λ_=>PUnit)
  (λ_=>false)
  (λ_ _ _ _=>false)
  (λ_ _=>false)
  (λ_ _ _=>false)
  (λ_=>false)
  (λ_ _ _=>false)
  (λ_ _ _=>false)
  (λ_=>false)
  (λ_ _ _ _ _ _=>false)
  (λ_ _ _ _ _=>false)
  (λ_ _ _ _ _ _=>false)
  (λ_=>false)
  (λ_ _=>false)
  (λ_=>false)
  (λ_ _ _ _ _ _=>false)
  (λ_ _ _=>false)
  (λa _ l=>ACd l a)
  (λ_=>false)
  (λ_ _ _ _=>false)
  ⟨⟩ (λ_ _ _ _=>⟨⟩) v
def AJR(v:V):Bool:=
 V.rec (motive_1:=λ_=>Bool) (motive_2:=λ_=>PUnit)
  (true)
  (λ_ _ _=>false)
  (λ_=>false)
  (λ_ _=>false)
  (false)
  (λ_ _=>false)
  (λ_ _=>false)
  (false)
  (λ_ _ _ _ _=>false)
  (λ_ _ _ _=>false)
  (λ_ _ _ _ _=>false)
  (false)
  (λ_=>false)
  (false)
  (λ_ _ _ _ _=>false)
  (λ_ _=>false)
  (λ_ _=>false)
  (false)
  (λ_ _ _=>false)
  ⟨⟩ (λ_ _ _ _=>⟨⟩) v
def Aw(v:V):(V)->Bool:=
 V.rec (motive_1:=λ_=>(V)->Bool) (motive_2:=λ_=>PUnit)
  (λy=>AJR y)
  (λa b c y=>AMr y a b c)
  (λa y=>AEP y a)
  (λa b y=>AMa y a b)
  (λy=>AHJ y)
  (λa b y=>APM y a b)
  (λa b y=>AK8 y a b)
  (λy=>AIL y)
  (λa b c d e y=>APo y a b c d e)
  (λa b c d y=>AJN y a b c d)
  (λa b c d e y=>AJZ y a b c d e)
  (λy=>AH6 y)
  (λa y=>AQp y a)
  (λy=>AHN y)
  (λ_ _ _ _ _ _=>false)
  (λa _ y=>ATu y a)
  (λa _ y=>ATd y a)
  (λ_=>false)
  (λ_ _ _ _=>false)
  ⟨⟩ (λ_ _ _ _=>⟨⟩) v
inductive AI where
 |op (o:AOp)
 |re (d:P2) (g:Gd) (o:AN)
inductive AC where
 |skip
 |ops (l:List AOp)
 |reg (l:List AI)
 |seq (a b:AC)
 |cond (x:X) (a b:AC)
 |block (id:Nat) (c:AC)
 |loop (c:AC)
 |exit (id:Nat)
 |ret
def UG(l:List AOp):XpT:=
 List.rec (motive:=λ_=>XpT) (λ_ _ R H n k=>k R H n) (λo _ g G call R H n k=>o.ex G call R H n λR H n=>g G call R H n k) l
abbrev ReT:=AX->RS->Heap->P2->AN->Prop->Prop
def AWl:ReT:=λG R H d o k=>AP (o.ev G R H) λv=>EO (Aw v (PD (T.FQ d R.rg))) k
def AaC(x:X)(b:Bool):ReT:=λG R H d o k=>qV (x.ev R) b (AP (o.ev G R H) λv=>EO (Aw v (PD (T.FQ d R.rg))) k) k
def AVP(g:Gd):ReT:=Gd.rec (motive:=λ_=>ReT) AWl AaC g
def AI.ex(i:AI):XpT:=AI.rec (motive:=λ_=>XpT) (λo=>o.ex) (λd g o G _ R H n k=>AVP g G R H d o (k R H n)) i
def DY(l:List AI):XpT:=
 List.rec (motive:=λ_=>XpT) (λ_ _ R H n k=>k R H n) (λi _ g G call R H n k=>i.ex G call R H n λR H n=>g G call R H n k) l
abbrev KX:=Nat->K
abbrev M:=AX->BG->Nat->LW->Heap->Nat->K->KX->K->Prop
def AOY:M:=λ_ _ _ R H n k _ _=>k R H n
def ASU(l:List AOp):M:=λG call _ R H n k _ _=>UG l G call (.mk [] R) H n λE H n=>k E.rg H n
def AS2(l:List AI):M:=λG call _ R H n k _ _=>DY l G call (.mk [] R) H n λE H n=>k E.rg H n
def AQZ(_ _:AC)(a b:M):M:=λG call lf R H n k x r=>a G call lf R H n (λR H n=>b G call lf R H n k x r) x r
def AIm(c:X)(_ _:AC)(a b:M):M:=λG call lf R H n k x r=>Ae (c.ev (.mk [] R)) true (a G call lf R H n k x r) (b G call lf R H n k x r)
def Jc(id:Nat)(k:K)(x:KX):KX:=λi R H n=>Bool.rec (motive:=λ_=>Prop->Prop->Prop) (λa _=>a) (λ_ b=>b) (Nat.beq i id) (x i R H n) (k R H n)
def AEi(id:Nat)(_:AC)(a:M):M:=λG call lf R H n k x r=>a G call lf R H n k (Jc id k x) r
def ZK(a:M)(G:AX)(call:BG)(lf0 lf:Nat):LW->Heap->Nat->KX->K->Prop:=
 Nat.rec (motive:=λ_=>LW->Heap->Nat->KX->K->Prop) (λ_ _ _ _ _=>False) (λ_ g R H n x r=>a G call lf0 R H n (λR H n=>g R H n x r) x r) lf
def AWy(_:AC)(a:M):M:=λG call lf R H n _ x r=>ZK a G call lf lf R H n x r
def AQL(id:Nat):M:=λ_ _ _ R H n _ x _=>x id R H n
def AVV:M:=λ_ _ _ R H n _ _ r=>r R H n
def AC.ex(c:AC):M:=AC.rec (motive:=λ_=>M) AOY ASU AS2 AQZ AIm AEi AWy AQL AVV c
inductive AR where
 |tmp (p:P2)|cell1 (p:P2)|celln (p:P2) (n:Nat)
inductive Nk where
 |join|rep|wstr (t e:Nat)|bstr (t e:Nat)
inductive AF where
 |mk (np:Nat) (code:AC) (res:List AR) (dp:vS) (dg:Nat)
 |nat (k:Nk)
def AR.get(r:AR):AX->LW->Heap->Option V:=
 AR.rec (motive:=λ_=>AX->LW->Heap->Option V) (λp _ R _=>some (PD (T.FQ p R))) (λp G R H=>XF (ldP (PD (T.FQ p R)) G H 1) λL=>nth L 0)
  (λp n G R H=>XF (ldP (PD (T.FQ p R)) G H n) λL=>some (.agg L)) r
def ADE(l:List AR):AX->LW->Heap->Option LV:=
 List.rec (motive:=λ_=>AX->LW->Heap->Option LV) (λ_ _ _=>some []) (λr _ g G R H=>Ce (r.get G R H) λv=>Ce (g G R H) λvs=>some (v::vs)) l
def DX(l:List V):V:=List.rec (motive:=λ_=>V) (V.Io []) (λv vs _=>List.rec (motive:=λ_=>V) v (λw ws _=>V.Io (v::w::ws)) vs) l
def je(args:List V):Nat->LW->LW:=
 List.rec (motive:=λ_=>Nat->LW->LW) (λ_ R=>R) (λv _ g i R=>g (Nat.succ i) (T.set R i v)) args
def WO(dg:Nat)(l:List V):BG->Heap->Nat->(Heap->Nat->Prop)->Prop:=
 List.rec (motive:=λ_=>BG->Heap->Nat->(Heap->Nat->Prop)->Prop) (λ_ H n k=>k H n)
  (λv _ g call H n k=>V.Y5 v λf a c=>EO (Nat.beq f dg) (call f (cat a c) H n λ_ H n=>g call H n k)) l
def AFo(res:List AR)(G:AX)(k:KV):K:=λR H n=>Ei (ADE res G R H) λl=>k (DX l) H n
def Le(res:List AR)(dg:Nat)(d:vS):AX->BG->KV->K:=
 vS.rec (motive:=λ_=>AX->BG->KV->K) (λG _ k=>AFo res G k) (λp G call k R H n=>WO dg (AJ4 (PD (T.FQ p R))) call H n λH n=>AFo res G k R H n) (λG _ k=>AFo res G k) d
def AQm(p q:Nat×Nat):Nat×Nat:=(p.1+q.1,p.2+256^p.1*q.2)
def ATa:DZ->Option (List (Nat×Nat))
 |[]=>some []
 |[.str l c]::r=>match ATa r with|some x=>some ((l,c)::x)|none=>none
 |_::_=>none
def AQk(s:Nat×Nat):List (Nat×Nat)->Nat×Nat
 |[]=>(0,0)
 |a::r=>r.foldl (λp q=>AQm (AQm p s) q) a
def AUv(s:Nat×Nat):Nat->Nat×Nat
 |0=>(0,0)
 |n+1=>AQm s (AUv s n)
def ARk:Nat:=140737488355328
def AMn(x y:V)(G:AX)(H:Heap)(n:Nat)(k:KV):Prop:=
 match y with
 |.str sl sc=>EO (TL (isStr x)) <| Ei (elems x G H 1) λLS=>Ei (ATa LS) λss=>EO (decide (ss.length<=ARk/\(AQk (sl,sc) ss).1<=ARk)) (k (.str (AQk (sl,sc) ss).1 (AQk (sl,sc) ss).2) H n)
 |_=>False
def APq(x y:V)(H:Heap)(n:Nat)(k:KV):Prop:=
 match x,y with
 |.str l c,.int .i64 (.ofNat m) _=>EO (decide (m<=9223372036854775807/\l*m<=ARk)) (k (.str (AUv (l,c) m).1 (AUv (l,c) m).2) H n)
 |_,_=>False
def AMK(t e:Nat)(x y:V)(H:Heap)(n:Nat)(k:KV):Prop:=
 match x,y with
 |.ptr id 0,.str m d=>(match T.get H id with
  |some (.mP t' e' l c j)=>EO (decide (t'=t/\e'=e/\l+m<=ARk)) (k (.Io [.int .i64 (.ofNat m) 0,.AQA]) (T.set (T.set (bif decide (l=0)then H else T.set H j .dead) n (.own id)) id (.mP t e (AQm (l,c) (m,d)).1 (AQm (l,c) (m,d)).2 n)) (n+1))
  |_=>False)
 |_,_=>False
def AMN(t e:Nat)(x:V)(H:Heap)(n:Nat)(k:KV):Prop:=
 match x with
 |.ptr id 0=>(match T.get H id with
  |some (.mP t' e' l c _)=>EO (decide (t'=t/\e'=e)) (k (.str l c) (T.set H id .dead) n)
  |_=>False)
 |_=>False
def y5(f:Nk)(G:AX)(args:List V)(H:Heap)(n:Nat)(k:KV):Prop:=
 match f,args with
 |.join,[x,y]=>AMn x y G H n k
 |.rep,[x,y]=>APq x y H n k
 |.wstr t e,[x,y]=>AMK t e x y H n k
 |.bstr t e,[x]=>AMN t e x H n k
 |_,_=>False
def noX:KX:=λ_ _ _ _=>False
def qI(f:AF):AX->BG->Nat->List V->Heap->Nat->KV->Prop:=
 AF.rec (motive:=λ_=>AX->BG->Nat->List V->Heap->Nat->KV->Prop) (λnp code res d dg G call lf args H n k=>EO (Nat.beq (len args) np) (code.ex G call lf (je args 0 .e) H n (Le res dg d G call k) noX (Le res dg d G call k))) (λf G _ _ args H n k=>y5 f G args H n k) f
def run(F:T AF)(G:AX)(lf:Nat)(fuel:Nat):BG:=
 Nat.rec (motive:=λ_=>BG) (λ_ _ _ _ _=>False) (λ_ call f args H n k=>Ei (T.get F f) λaf=>qI af G call lf args H n k) fuel
end Go.DW
