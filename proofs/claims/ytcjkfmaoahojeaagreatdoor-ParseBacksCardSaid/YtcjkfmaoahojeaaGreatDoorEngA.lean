/- Part of a proof; nothing is assumed. -/
import Derived.Calls
import Derived.Defers
import Derived.Orders
import Derived.KernelRfl
import Derived.Laws.Entries
set_option linter.unusedVariables false
set_option linter.unusedSimpArgs false
noncomputable section
namespace Go.Eng
inductive P2 where
 |h|z (p:P2)|o (p:P2)
deriving DecidableEq
inductive T(α:Type)where
 |e|n (v:Option α) (l r:T α)
def T.val{α:Type}(t:T α):Option α:=T.rec none (λv _ _ _ _=>v) t
def T.left{α:Type}(t:T α):T α:=T.rec .e (λ_ l _ _ _=>l) t
def T.right{α:Type}(t:T α):T α:=T.rec .e (λ_ _ r _ _=>r) t
def T.Ea{α:Type}(p:P2):T α->Option α:=
 P2.rec (motive:=λ_=>T α->Option α) T.val (λ_ g t=>g t.left) (λ_ g t=>g t.right) p
def T.aG{α:Type}(x:α)(p:P2):T α->T α:=
 P2.rec (motive:=λ_=>T α->T α) (λt=>.n (some x) t.left t.right)
  (λ_ g t=>.n t.val (g t.left) t.right) (λ_ g t=>.n t.val t.left (g t.right)) p
def ANQ(f:Nat):Nat->P2:=
 Nat.rec (motive:=λ_=>Nat->P2) (λ_=>.h)
  (λ_ g k=>Nat.rec (motive:=λ_=>P2) .h
   (λm _=>Bool.rec (P2.o (g (Nat.div m 2))) (P2.z (g (Nat.div m 2))) (Nat.beq (Nat.mod m 2) 0)) k) f
def P7(k:Nat):P2:=ANQ (Nat.succ k) k
def T.get{α:Type}(t:T α)(k:Nat):Option α:=T.Ea (P7 k) t
def T.set{α:Type}(t:T α)(k:Nat)(x:α):T α:=T.aG x (P7 k) t
inductive V where
 |undef
 |int (k:IntKind) (n:Int) (s:Nat)
 |bool (b:Bool)
 |str (len code:Nat)
 |AH4|ptr (id off:Nat)|WY (b off:Nat)
 |Ad|sl (id off len cap esz:Nat)|QF (id off len esz:Nat)|rsl (b off len cap esz:Nat)
 |ANA|map (id:Nat)
 |AMo|fn (f:Nat) (first caps:List V)
 |agg (cs:List V)
 |Jt (vs:List V)
 |AGW|iface (t:Nat) (v:V)
inductive RV where
 |arr (esz cnt:Nat) (c:T (List V))
 |map (es:List (V×V×Nat)) (clock:Nat)
 |dead
 |U5 (t e l c j:Nat)
 |own (b:Nat)
abbrev Heap:=T RV
abbrev J6:=T V
abbrev AV:=Nat->Nat->Nat->Option (List V)
inductive X where
 |r (p:P2)|c (v:V)|s (i:Nat)
def Nu(o:Option V):V:=Option.rec V.undef (λv=>v) o
def ANk(l:List V):Nat->V:=
 List.rec (motive:=λ_=>Nat->V) (λ_=>.undef) (λx _ g i=>Nat.rec (motive:=λ_=>V) x (λi _=>g i) i) l
inductive RS where
 |mk (L:List V) (R:J6)
def RS.st(E:RS):List V:=RS.rec (λL _=>L) E
def RS.rg(E:RS):J6:=RS.rec (λ_ R=>R) E
def X.ev(x:X):RS->V:=X.rec (motive:=λ_=>RS->V) (λp E=>Nu (T.Ea p E.rg)) (λv _=>v) (λi E=>ANk E.st i) x
def V.Hu(v:V):(IntKind->Int->Nat->Option V)->Option V:=
 V.rec (motive_1:=λ_=>(IntKind->Int->Nat->Option V)->Option V) (motive_2:=λ_=>PUnit)
  (λ_=>none)
  (λa b c f=>f a b c)
  (λ_ _=>none)
  (λ_ _ _=>none)
  (λ_=>none)
  (λ_ _ _=>none)
  (λ_ _ _=>none)
  (λ_=>none)
  (λ_ _ _ _ _ _=>none)
  (λ_ _ _ _ _=>none)
  (λ_ _ _ _ _ _=>none)
  (λ_=>none)
  (λ_ _=>none)
  (λ_=>none)
  (λ_ _ _ _ _ _=>none)
  (λ_ _ _=>none)
  (λ_ _ _=>none)
  (λ_=>none)
  (λ_ _ _ _=>none)
  ⟨⟩ (λ_ _ _ _=>⟨⟩) v
def V.ng(v:V):(Bool->Option V)->Option V:=
 V.rec (motive_1:=λ_=>(Bool->Option V)->Option V) (motive_2:=λ_=>PUnit)
  (λ_=>none)
  (λ_ _ _ _=>none)
  (λa f=>f a)
  (λ_ _ _=>none)
  (λ_=>none)
  (λ_ _ _=>none)
  (λ_ _ _=>none)
  (λ_=>none)
  (λ_ _ _ _ _ _=>none)
  (λ_ _ _ _ _=>none)
  (λ_ _ _ _ _ _=>none)
  (λ_=>none)
  (λ_ _=>none)
  (λ_=>none)
  (λ_ _ _ _ _ _=>none)
  (λ_ _ _=>none)
  (λ_ _ _=>none)
  (λ_=>none)
  (λ_ _ _ _=>none)
  ⟨⟩ (λ_ _ _ _=>⟨⟩) v
def V.AGm(v:V):(Bool->Prop)->Prop:=
 V.rec (motive_1:=λ_=>(Bool->Prop)->Prop) (motive_2:=λ_=>PUnit)
  (λ_=>False)
  (λ_ _ _ _=>False)
  (λa f=>f a)
  (λ_ _ _=>False)
  (λ_=>False)
  (λ_ _ _=>False)
  (λ_ _ _=>False)
  (λ_=>False)
  (λ_ _ _ _ _ _=>False)
  (λ_ _ _ _ _=>False)
  (λ_ _ _ _ _ _=>False)
  (λ_=>False)
  (λ_ _=>False)
  (λ_=>False)
  (λ_ _ _ _ _ _=>False)
  (λ_ _ _=>False)
  (λ_ _ _=>False)
  (λ_=>False)
  (λ_ _ _ _=>False)
  ⟨⟩ (λ_ _ _ _=>⟨⟩) v
def V.Sv(v:V):(Nat->Nat->Option V)->Option V:=
 V.rec (motive_1:=λ_=>(Nat->Nat->Option V)->Option V) (motive_2:=λ_=>PUnit)
  (λ_=>none)
  (λ_ _ _ _=>none)
  (λ_ _=>none)
  (λa b f=>f a b)
  (λ_=>none)
  (λ_ _ _=>none)
  (λ_ _ _=>none)
  (λ_=>none)
  (λ_ _ _ _ _ _=>none)
  (λ_ _ _ _ _=>none)
  (λ_ _ _ _ _ _=>none)
  (λ_=>none)
  (λ_ _=>none)
  (λ_=>none)
  (λ_ _ _ _ _ _=>none)
  (λ_ _ _=>none)
  (λ_ _ _=>none)
  (λ_=>none)
  (λ_ _ _ _=>none)
  ⟨⟩ (λ_ _ _ _=>⟨⟩) v
def V.oP(v:V):(List V->Option V)->Option V:=
 V.rec (motive_1:=λ_=>(List V->Option V)->Option V) (motive_2:=λ_=>PUnit)
  (λ_=>none)
  (λ_ _ _ _=>none)
  (λ_ _=>none)
  (λ_ _ _=>none)
  (λ_=>none)
  (λ_ _ _=>none)
  (λ_ _ _=>none)
  (λ_=>none)
  (λ_ _ _ _ _ _=>none)
  (λ_ _ _ _ _=>none)
  (λ_ _ _ _ _ _=>none)
  (λ_=>none)
  (λ_ _=>none)
  (λ_=>none)
  (λ_ _ _ _ _ _=>none)
  (λa _ f=>f a)
  (λ_ _ _=>none)
  (λ_=>none)
  (λ_ _ _ _=>none)
  ⟨⟩ (λ_ _ _ _=>⟨⟩) v
def V.AH7(v:V):(List V->Option V)->Option V:=
 V.rec (motive_1:=λ_=>(List V->Option V)->Option V) (motive_2:=λ_=>PUnit)
  (λ_=>none)
  (λ_ _ _ _=>none)
  (λ_ _=>none)
  (λ_ _ _=>none)
  (λ_=>none)
  (λ_ _ _=>none)
  (λ_ _ _=>none)
  (λ_=>none)
  (λ_ _ _ _ _ _=>none)
  (λ_ _ _ _ _=>none)
  (λ_ _ _ _ _ _=>none)
  (λ_=>none)
  (λ_ _=>none)
  (λ_=>none)
  (λ_ _ _ _ _ _=>none)
  (λ_ _ _=>none)
  (λa _ f=>f a)
  (λ_=>none)
  (λ_ _ _ _=>none)
  ⟨⟩ (λ_ _ _ _=>⟨⟩) v
def V.AE0(v:V):(Nat->Nat->Option V)->(Nat->Nat->Option V)->Option V:=
 V.rec (motive_1:=λ_=>(Nat->Nat->Option V)->(Nat->Nat->Option V)->Option V) (motive_2:=λ_=>PUnit)
  (λ_ _=>none)
  (λ_ _ _ _ _=>none)
  (λ_ _ _=>none)
  (λ_ _ _ _=>none)
  (λ_ _=>none)
  (λa b f _=>f a b)
  (λa b _ g=>g a b)
  (λ_ _=>none)
  (λ_ _ _ _ _ _ _=>none)
  (λ_ _ _ _ _ _=>none)
  (λ_ _ _ _ _ _ _=>none)
  (λ_ _=>none)
  (λ_ _ _=>none)
  (λ_ _=>none)
  (λ_ _ _ _ _ _ _=>none)
  (λ_ _ _ _=>none)
  (λ_ _ _ _=>none)
  (λ_ _=>none)
  (λ_ _ _ _ _=>none)
  ⟨⟩ (λ_ _ _ _=>⟨⟩) v
def V.AJu(v:V):(Option V)->(Nat->Option V)->Option V:=
 V.rec (motive_1:=λ_=>(Option V)->(Nat->Option V)->Option V) (motive_2:=λ_=>PUnit)
  (λ_ _=>none)
  (λ_ _ _ _ _=>none)
  (λ_ _ _=>none)
  (λ_ _ _ _=>none)
  (λ_ _=>none)
  (λ_ _ _ _=>none)
  (λ_ _ _ _=>none)
  (λ_ _=>none)
  (λ_ _ _ _ _ _ _=>none)
  (λ_ _ _ _ _ _=>none)
  (λ_ _ _ _ _ _ _=>none)
  (λz _=>z)
  (λa _ f=>f a)
  (λ_ _=>none)
  (λ_ _ _ _ _ _ _=>none)
  (λ_ _ _ _=>none)
  (λ_ _ _ _=>none)
  (λ_ _=>none)
  (λ_ _ _ _ _=>none)
  ⟨⟩ (λ_ _ _ _=>⟨⟩) v
def V.ARg(v:V):(Option V)->(Nat->Nat->Nat->Nat->Nat->Option V)->(Nat->Nat->Nat->Nat->Option V)->(Nat->Nat->Nat->Nat->Nat->Option V)->Option V:=
 V.rec (motive_1:=λ_=>(Option V)->(Nat->Nat->Nat->Nat->Nat->Option V)->(Nat->Nat->Nat->Nat->Option V)->(Nat->Nat->Nat->Nat->Nat->Option V)->Option V) (motive_2:=λ_=>PUnit)
  (λ_ _ _ _=>none)
  (λ_ _ _ _ _ _ _=>none)
  (λ_ _ _ _ _=>none)
  (λ_ _ _ _ _ _=>none)
  (λ_ _ _ _=>none)
  (λ_ _ _ _ _ _=>none)
  (λ_ _ _ _ _ _=>none)
  (λz _ _ _=>z)
  (λa b c d e _ f _ _=>f a b c d e)
  (λa b c d _ _ g _=>g a b c d)
  (λa b c d e _ _ _ h=>h a b c d e)
  (λ_ _ _ _=>none)
  (λ_ _ _ _ _=>none)
  (λ_ _ _ _=>none)
  (λ_ _ _ _ _ _ _ _ _=>none)
  (λ_ _ _ _ _ _=>none)
  (λ_ _ _ _ _ _=>none)
  (λ_ _ _ _=>none)
  (λ_ _ _ _ _ _ _=>none)
  ⟨⟩ (λ_ _ _ _=>⟨⟩) v
def CX(v:V):List V:=
 V.rec (motive_1:=λ_=>List V) (motive_2:=λ_=>PUnit)
  ([v])
  (λ_ _ _=>[v])
  (λ_=>[v])
  (λ_ _=>[v])
  ([v])
  (λ_ _=>[v])
  (λ_ _=>[v])
  ([v])
  (λ_ _ _ _ _=>[v])
  (λ_ _ _ _=>[v])
  (λ_ _ _ _ _=>[v])
  ([v])
  (λ_=>[v])
  ([v])
  (λ_ _ _ _ _=>[v])
  (λa _=>a)
  (λ_ _=>[v])
  ([v])
  (λ_ _ _=>[v])
  ⟨⟩ (λ_ _ _ _=>⟨⟩) v
def isStr(v:V):Bool:=
 V.rec (motive_1:=λ_=>Bool) (motive_2:=λ_=>PUnit)
  (false)
  (λ_ _ _=>false)
  (λ_=>false)
  (λ_ _=>true)
  (false)
  (λ_ _=>false)
  (λ_ _=>false)
  (false)
  (λ_ _ _ _ _=>false)
  (λ_ _ _ _=>false)
  (λ_ _ _ _ _=>false)
  (false)
  (λ_=>false)
  (false)
  (λ_ _ _ _ _=>false)
  (λ_ _=>false)
  (λ_ _=>false)
  (false)
  (λ_ _ _=>false)
  ⟨⟩ (λ_ _ _ _=>⟨⟩) v
def lenV(v:V):Option V:=
 V.rec (motive_1:=λ_=>Option V) (motive_2:=λ_=>PUnit)
  (none)
  (λ_ _ _=>none)
  (λ_=>none)
  (λ_ _=>none)
  (none)
  (λ_ _=>none)
  (λ_ _=>none)
  (some (.int .i64 (.ofNat 0) 0))
  (λ_ _ c _ _=>some (.int .i64 (.ofNat c) 0))
  (λ_ _ c _=>some (.int .i64 (.ofNat c) 0))
  (λ_ _ c _ _=>some (.int .i64 (.ofNat c) 0))
  (none)
  (λ_=>none)
  (none)
  (λ_ _ _ _ _=>none)
  (λ_ _=>none)
  (λ_ _=>none)
  (none)
  (λ_ _ _=>none)
  ⟨⟩ (λ_ _ _ _=>⟨⟩) v
def Bh(v:V):Option V:=
 V.rec (motive_1:=λ_=>Option V) (motive_2:=λ_=>PUnit)
  (none)
  (λ_ _ _=>none)
  (λ_=>none)
  (λ_ _=>none)
  (none)
  (λa b=>some (.ptr a b))
  (λa b=>some (.WY a b))
  (none)
  (λ_ _ _ _ _=>none)
  (λ_ _ _ _=>none)
  (λ_ _ _ _ _=>none)
  (none)
  (λ_=>none)
  (none)
  (λa b c _ _=>some (.fn a b c))
  (λ_ _=>none)
  (λ_ _=>none)
  (none)
  (λ_ _ _=>none)
  ⟨⟩ (λ_ _ _ _=>⟨⟩) v
def PX(n:Int):(Int->Option V)->Option V:=λf=>f n
def Dv(n:Nat):(Nat->Option V)->Option V:=
 Nat.rec (motive:=λ_=>(Nat->Option V)->Option V) (λf=>f 0) (λk _ f=>f (Nat.succ k)) n
def ET(n:Nat):(Nat->Prop)->Prop:=
 Nat.rec (motive:=λ_=>(Nat->Prop)->Prop) (λf=>f 0) (λk _ f=>f (Nat.succ k)) n
def AXh(k:IntKind):Nat->Bool:=
 IntKind.rec (motive:=λ_=>Nat->Bool) (λm=>Nat.blt m 128) (λm=>Nat.blt m 32768) (λm=>Nat.blt m 2147483648) (λm=>Nat.blt m 9223372036854775808)
  (λm=>Nat.blt m 256) (λm=>Nat.blt m 65536) (λm=>Nat.blt m 4294967296) (λm=>Nat.blt m 18446744073709551616) k
def AX5(k:IntKind):Nat->Bool:=
 IntKind.rec (motive:=λ_=>Nat->Bool) (λm=>Nat.blt m 128) (λm=>Nat.blt m 32768) (λm=>Nat.blt m 2147483648) (λm=>Nat.blt m 9223372036854775808)
  (λ_=>false) (λ_=>false) (λ_=>false) (λ_=>false) k
def inr(k:IntKind)(n:Int):Bool:=Int.rec (motive:=λ_=>IntKind->Bool) (λm k=>AXh k m) (λm k=>AX5 k m) n k
def VR(k:IntKind)(n:Int):Int:=Bool.rec (k.wrap n) n (inr k n)
def AWJ(k:IntKind)(n:Int):Option V:=PX (VR k n) λm=>some (.int k m 0)
def mkI(k:IntKind)(n:Int)(s:Nat):Option V:=
 Nat.rec (motive:=λ_=>IntKind->Int->Option V) AWJ (λ_ _ k n=>some (.int k (k.wrap n) 1)) s k n
def mkN(k:IntKind)(n:Int)(s:Nat):Option V:=
 Nat.rec (motive:=λ_=>IntKind->Int->Option V) (λk n=>PX n λm=>some (.int k m 0)) (λ_ _ k n=>some (.int k n 1)) s k n
def AUD(a:Nat)(b:Int):Int:=Int.rec (motive:=λ_=>Nat->Int) (λn m=>.ofNat (Nat.add m n)) (λn m=>Int.subNatNat m (Nat.succ n)) b a
def ATx(a:Nat)(b:Int):Int:=Int.rec (motive:=λ_=>Nat->Int) (λn m=>Int.subNatNat n (Nat.succ m)) (λn m=>.negSucc (Nat.succ (Nat.add m n))) b a
def AGE(a b:Int):Int:=Int.rec (motive:=λ_=>Int->Int) AUD ATx a b
def ile(a b:Int):Bool:=Int.rec (motive:=λ_=>Int->Bool) (λm b=>Int.rec (motive:=λ_=>Nat->Bool) (λn m=>Nat.ble m n) (λ_ _=>false) b m)
 (λm b=>Int.rec (motive:=λ_=>Nat->Bool) (λ_ _=>true) (λn m=>Nat.ble n m) b m) a b
def ilt(a b:Int):Bool:=Int.rec (motive:=λ_=>Int->Bool) (λm b=>Int.rec (motive:=λ_=>Nat->Bool) (λn m=>Nat.blt m n) (λ_ _=>false) b m)
 (λm b=>Int.rec (motive:=λ_=>Nat->Bool) (λ_ _=>true) (λn m=>Nat.blt n m) b m) a b
def ieq(a b:Int):Bool:=Int.rec (motive:=λ_=>Int->Bool) (λm b=>Int.rec (motive:=λ_=>Nat->Bool) (λn m=>Nat.beq m n) (λ_ _=>false) b m)
 (λm b=>Int.rec (motive:=λ_=>Nat->Bool) (λ_ _=>false) (λn m=>Nat.beq n m) b m) a b
def kno(a:IntKind):Nat:=IntKind.rec 0 1 2 3 4 5 6 7 a
def keq(a b:IntKind):Bool:=Nat.beq (kno a) (kno b)
def YP(b:Bool):Bool:=Bool.rec true false b
def band(a b:Bool):Bool:=Bool.rec (motive:=λ_=>Bool->Bool) (λ_=>false) (λb=>b) a b
def AOg(a b:Bool):Bool:=Bool.rec (motive:=λ_=>Bool->Bool) YP (λb=>b) a b
def mkB(b:Bool):Option V:=Bool.rec (some (.bool false)) (some (.bool true)) b
def BN(b:Bool):Option V->Option V:=Bool.rec (motive:=λ_=>Option V->Option V) (λ_=>none) (λo=>o) b
def AA9(b:Bool)(x y:Option V):Option V:=Bool.rec (motive:=λ_=>Option V->Option V->Option V) (λ_ y=>y) (λx _=>x) b x y
def AMs(code i:Nat):Nat:=Nat.mod (Nat.div code (Nat.pow 256 i)) 256
def APS(code l h:Nat):Nat:=Nat.mod (Nat.div code (Nat.pow 256 l)) (Nat.pow 256 (Nat.sub h l))
def AXE(l1 c1 c2:Nat):Nat:=Nat.add c1 (Nat.mul (Nat.pow 256 l1) c2)
def AV7(f:Nat):Nat->Nat->Nat->Nat->Bool:=
 Nat.rec (motive:=λ_=>Nat->Nat->Nat->Nat->Bool) (λ_ _ _ _=>false)
  (λ_ g l1 c1 l2 c2=>Nat.rec (motive:=λ_=>Bool) false (λl2' _=>Nat.rec (motive:=λ_=>Bool) true (λl1' _=>
   Bool.rec (Nat.blt (Nat.mod c1 256) (Nat.mod c2 256)) (g l1' (Nat.div c1 256) l2' (Nat.div c2 256)) (Nat.beq (Nat.mod c1 256) (Nat.mod c2 256))) l1) l2) f
def slt(l1 c1 l2 c2:Nat):Bool:=AV7 (Nat.succ l2) l1 c1 l2 c2
def nth{α:Type}(l:List α):Nat->Option α:=
 List.rec (motive:=λ_=>Nat->Option α) (λ_=>none) (λx _ g i=>Nat.rec (motive:=λ_=>Option α) (some x) (λi _=>g i) i) l
def ADn{α:Type}(x:α)(l:List α):Nat->List α:=
 List.rec (motive:=λ_=>Nat->List α) (λ_=>[]) (λy ys g i=>Nat.rec (motive:=λ_=>List α) (x::ys) (λi _=>y::g i) i) l
def len{α:Type}(l:List α):Nat:=List.rec (motive:=λ_=>Nat) 0 (λ_ _ n=>Nat.succ n) l
def cat{α:Type}(a b:List α):List α:=List.rec (motive:=λ_=>List α->List α) (λb=>b) (λx _ g b=>x::g b) a b
def Yq{α:Type}(n:Nat):List α->List α:=
 Nat.rec (motive:=λ_=>List α->List α) (λ_=>[]) (λ_ g l=>List.rec (motive:=λ_=>List α) [] (λx xs _=>x::g xs) l) n
def lW{α:Type}(n:Nat):List α->List α:=
 Nat.rec (motive:=λ_=>List α->List α) (λl=>l) (λ_ g l=>List.rec (motive:=λ_=>List α) [] (λ_ xs _=>g xs) l) n
def fJ(l:List X):RS->List V:=List.rec (motive:=λ_=>RS->List V) (λ_=>[]) (λx _ g R=>x.ev R::g R) l
def AJV(new:List V)(i:Nat)(l:List V):List V:=cat (Yq i l) (cat new (lW (Nat.add i (len new)) l))
abbrev LV:=List V
def QC(o:Option LV)(f:LV->Option V):Option V:=Option.rec (motive:=λ_=>(LV->Option V)->Option V) (λ_=>none) (λv f=>f v) o f
def Hw{α:Type}(o:Option α)(f:α->Prop):Prop:=Option.rec (motive:=λ_=>(α->Prop)->Prop) (λ_=>False) (λv f=>f v) o f
def AP(o:Option V)(f:V->Prop):Prop:=Option.rec (motive:=λ_=>(V->Prop)->Prop) (λ_=>False) (λv f=>f v) o f
def DJ{α β:Type}(o:Option α)(f:α->Option β):Option β:=Option.rec (motive:=λ_=>(α->Option β)->Option β) (λ_=>none) (λv f=>f v) o f
def ldC(esz off n:Nat)(L:LV):Option LV:=
 Bool.rec (motive:=λ_=>Option LV)
  (Bool.rec none (some (Yq n (lW (Nat.mod off esz) L))) (Nat.ble (Nat.add (Nat.mod off esz) n) esz))
  (some L) (band (Nat.beq n esz) (Nat.beq (Nat.mod off esz) 0))
def ldB(esz cnt:Nat)(c:T LV)(off n:Nat):Option LV:=
 DJ (Bool.rec none (T.get c (Nat.div off esz)) (Nat.blt (Nat.div off esz) cnt)) (ldC esz off n)
def RV.ld(b:RV):Nat->Nat->Option LV:=
 RV.rec (motive:=λ_=>Nat->Nat->Option LV) ldB (λ_ _ _ _=>none) (λ_ _=>none) (λ_ _ _ _ _ _ _=>none) (λ_ _ _=>none) b
def lZ(H:Heap)(id off n:Nat):Option LV:=Option.rec (motive:=λ_=>Nat->Nat->Option LV) (λ_ _=>none) RV.ld (T.get H id) off n
def ldP(v:V):(AV)->(Heap)->(Nat)->Option LV:=
 V.rec (motive_1:=λ_=>(AV)->(Heap)->(Nat)->Option LV) (motive_2:=λ_=>PUnit)
  (λ_ _ _=>none)
  (λ_ _ _ _ _ _=>none)
  (λ_ _ _ _=>none)
  (λ_ _ _ _ _=>none)
  (λ_ _ _=>none)
  (λa b _ H n=>lZ H a b n)
  (λa b G _ n=>G a b n)
  (λ_ _ _=>none)
  (λ_ _ _ _ _ _ _ _=>none)
  (λ_ _ _ _ _ _ _=>none)
  (λ_ _ _ _ _ _ _ _=>none)
  (λ_ _ _=>none)
  (λ_ _ _ _=>none)
  (λ_ _ _=>none)
  (λ_ _ _ _ _ _ _ _=>none)
  (λ_ _ _ _ _=>none)
  (λ_ _ _ _ _=>none)
  (λ_ _ _=>none)
  (λ_ _ _ _ _ _=>none)
  ⟨⟩ (λ_ _ _ _=>⟨⟩) v
def eu(new:LV)(esz cnt:Nat)(c:T LV)(off n:Nat)(L:LV):Option RV:=
 Bool.rec (motive:=λ_=>Option RV)
  (Bool.rec none (some (.arr esz cnt (T.set c (Nat.div off esz) (AJV new (Nat.mod off esz) L)))) (Nat.ble (Nat.add (Nat.mod off esz) n) esz))
  (some (.arr esz cnt (T.set c (Nat.div off esz) new))) (band (Nat.beq n esz) (Nat.beq (Nat.mod off esz) 0))
def stB(esz cnt:Nat)(c:T LV)(off n:Nat)(new:LV):Option RV:=
 DJ (Bool.rec none (T.get c (Nat.div off esz)) (Nat.blt (Nat.div off esz) cnt)) (eu new esz cnt c off n)
def RV.st(b:RV):Nat->Nat->LV->Option RV:=
 RV.rec (motive:=λ_=>Nat->Nat->LV->Option RV) stB (λ_ _ _ _ _=>none) (λ_ _ _=>none) (λ_ _ _ _ _ _ _ _=>none) (λ_ _ _ _=>none) b
def stH(H:Heap)(id off n:Nat)(new:LV):Option Heap:=
 DJ (Option.rec (motive:=λ_=>Nat->Nat->LV->Option RV) (λ_ _ _=>none) RV.st (T.get H id) off n new) λb=>some (T.set H id b)
def stP(v:V):(Heap)->(Nat)->(LV)->Option Heap:=
 V.rec (motive_1:=λ_=>(Heap)->(Nat)->(LV)->Option Heap) (motive_2:=λ_=>PUnit)
  (λ_ _ _=>none)
  (λ_ _ _ _ _ _=>none)
  (λ_ _ _ _=>none)
  (λ_ _ _ _ _=>none)
  (λ_ _ _=>none)
  (λa b H n new=>stH H a b n new)
  (λ_ _ _ _ _=>none)
  (λ_ _ _=>none)
  (λ_ _ _ _ _ _ _ _=>none)
  (λ_ _ _ _ _ _ _=>none)
  (λ_ _ _ _ _ _ _ _=>none)
  (λ_ _ _=>none)
  (λ_ _ _ _=>none)
  (λ_ _ _=>none)
  (λ_ _ _ _ _ _ _ _=>none)
  (λ_ _ _ _ _=>none)
  (λ_ _ _ _ _=>none)
  (λ_ _ _=>none)
  (λ_ _ _ _ _ _=>none)
  ⟨⟩ (λ_ _ _ _=>⟨⟩) v
def AQl(v:V):(IntKind)->(Int)->(Nat)->Option Bool:=
 V.rec (motive_1:=λ_=>(IntKind)->(Int)->(Nat)->Option Bool) (motive_2:=λ_=>PUnit)
  (λ_ _ _=>none)
  (λa b c k n s=>Bool.rec (motive:=λ_=>Option Bool) none (some (ieq n b)) (band (keq k a) (Nat.beq (Nat.add s c) 0)))
  (λ_ _ _ _=>none)
  (λ_ _ _ _ _=>none)
  (λ_ _ _=>none)
  (λ_ _ _ _ _=>none)
  (λ_ _ _ _ _=>none)
  (λ_ _ _=>none)
  (λ_ _ _ _ _ _ _ _=>none)
  (λ_ _ _ _ _ _ _=>none)
  (λ_ _ _ _ _ _ _ _=>none)
  (λ_ _ _=>none)
  (λ_ _ _ _=>none)
  (λ_ _ _=>none)
  (λ_ _ _ _ _ _ _ _=>none)
  (λ_ _ _ _ _=>none)
  (λ_ _ _ _ _=>none)
  (λ_ _ _=>none)
  (λ_ _ _ _ _ _=>none)
  ⟨⟩ (λ_ _ _ _=>⟨⟩) v
def AJk(v:V):(Bool)->Option Bool:=
 V.rec (motive_1:=λ_=>(Bool)->Option Bool) (motive_2:=λ_=>PUnit)
  (λ_=>none)
  (λ_ _ _ _=>none)
  (λa x=>some (AOg x a))
  (λ_ _ _=>none)
  (λ_=>none)
  (λ_ _ _=>none)
  (λ_ _ _=>none)
  (λ_=>none)
  (λ_ _ _ _ _ _=>none)
  (λ_ _ _ _ _=>none)
  (λ_ _ _ _ _ _=>none)
  (λ_=>none)
  (λ_ _=>none)
  (λ_=>none)
  (λ_ _ _ _ _ _=>none)
  (λ_ _ _=>none)
  (λ_ _ _=>none)
  (λ_=>none)
  (λ_ _ _ _=>none)
  ⟨⟩ (λ_ _ _ _=>⟨⟩) v
def eqStr(v:V):(Nat)->(Nat)->Option Bool:=
 V.rec (motive_1:=λ_=>(Nat)->(Nat)->Option Bool) (motive_2:=λ_=>PUnit)
  (λ_ _=>none)
  (λ_ _ _ _ _=>none)
  (λ_ _ _=>none)
  (λa b l d=>some (band (Nat.beq l a) (Nat.beq d b)))
  (λ_ _=>none)
  (λ_ _ _ _=>none)
  (λ_ _ _ _=>none)
  (λ_ _=>none)
  (λ_ _ _ _ _ _ _=>none)
  (λ_ _ _ _ _ _=>none)
  (λ_ _ _ _ _ _ _=>none)
  (λ_ _=>none)
  (λ_ _ _=>none)
  (λ_ _=>none)
  (λ_ _ _ _ _ _ _=>none)
  (λ_ _ _ _=>none)
  (λ_ _ _ _=>none)
  (λ_ _=>none)
  (λ_ _ _ _ _=>none)
  ⟨⟩ (λ_ _ _ _=>⟨⟩) v
def APJ(v:V):Option Bool:=
 V.rec (motive_1:=λ_=>Option Bool) (motive_2:=λ_=>PUnit)
  (none)
  (λ_ _ _=>none)
  (λ_=>none)
  (λ_ _=>none)
  (some true)
  (λ_ _=>some false)
  (λ_ _=>some false)
  (none)
  (λ_ _ _ _ _=>none)
  (λ_ _ _ _=>none)
  (λ_ _ _ _ _=>none)
  (none)
  (λ_=>none)
  (none)
  (λ_ _ _ _ _=>none)
  (λ_ _=>none)
  (λ_ _=>none)
  (none)
  (λ_ _ _=>none)
  ⟨⟩ (λ_ _ _ _=>⟨⟩) v
def ATv(v:V):(Nat)->(Nat)->Option Bool:=
 V.rec (motive_1:=λ_=>(Nat)->(Nat)->Option Bool) (motive_2:=λ_=>PUnit)
  (λ_ _=>none)
  (λ_ _ _ _ _=>none)
  (λ_ _ _=>none)
  (λ_ _ _ _=>none)
  (λ_ _=>some false)
  (λa b i o=>Bool.rec none (some (Nat.beq o b)) (Nat.beq i a))
  (λ_ _ _ _=>none)
  (λ_ _=>none)
  (λ_ _ _ _ _ _ _=>none)
  (λ_ _ _ _ _ _=>none)
  (λ_ _ _ _ _ _ _=>none)
  (λ_ _=>none)
  (λ_ _ _=>none)
  (λ_ _=>none)
  (λ_ _ _ _ _ _ _=>none)
  (λ_ _ _ _=>none)
  (λ_ _ _ _=>none)
  (λ_ _=>none)
  (λ_ _ _ _ _=>none)
  ⟨⟩ (λ_ _ _ _=>⟨⟩) v
def AOX(v:V):Option Bool:=
 V.rec (motive_1:=λ_=>Option Bool) (motive_2:=λ_=>PUnit)
  (none)
  (λ_ _ _=>none)
  (λ_=>none)
  (λ_ _=>none)
  (some false)
  (λ_ _=>none)
  (λ_ _=>none)
  (none)
  (λ_ _ _ _ _=>none)
  (λ_ _ _ _=>none)
  (λ_ _ _ _ _=>none)
  (none)
  (λ_=>none)
  (none)
  (λ_ _ _ _ _=>none)
  (λ_ _=>none)
  (λ_ _=>none)
  (none)
  (λ_ _ _=>none)
  ⟨⟩ (λ_ _ _ _=>⟨⟩) v
def AKo(v:V):(V)->Option Bool:=
 V.rec (motive_1:=λ_=>(V)->Option Bool) (motive_2:=λ_=>PUnit)
  (λ_=>none)
  (λa b c y=>AQl y a b c)
  (λ_ _=>none)
  (λ_ _ _=>none)
  (λ_=>none)
  (λ_ _ _=>none)
  (λ_ _ _=>none)
  (λ_=>none)
  (λ_ _ _ _ _ _=>none)
  (λ_ _ _ _ _=>none)
  (λ_ _ _ _ _ _=>none)
  (λ_=>none)
  (λ_ _=>none)
  (λ_=>none)
  (λ_ _ _ _ _ _=>none)
  (λ_ _ _=>none)
  (λ_ _ _=>none)
  (λ_=>none)
  (λ_ _ _ _=>none)
  ⟨⟩ (λ_ _ _ _=>⟨⟩) v
def AKO(v:V):(V)->Option Bool:=
 V.rec (motive_1:=λ_=>(V)->Option Bool) (motive_2:=λ_=>PUnit)
  (λ_=>none)
  (λ_ _ _ _=>none)
  (λ_ _=>none)
  (λa b y=>eqStr y a b)
  (λ_=>none)
  (λ_ _ _=>none)
  (λ_ _ _=>none)
  (λ_=>none)
  (λ_ _ _ _ _ _=>none)
  (λ_ _ _ _ _=>none)
  (λ_ _ _ _ _ _=>none)
  (λ_=>none)
  (λ_ _=>none)
  (λ_=>none)
  (λ_ _ _ _ _ _=>none)
  (λ_ _ _=>none)
  (λ_ _ _=>none)
  (λ_=>none)
  (λ_ _ _ _=>none)
  ⟨⟩ (λ_ _ _ _=>⟨⟩) v
def ADp(v:V):(V)->Option Bool:=
 V.rec (motive_1:=λ_=>(V)->Option Bool) (motive_2:=λ_=>PUnit)
  (λ_=>none)
  (λ_ _ _ _=>none)
  (λa y=>AJk y a)
  (λ_ _ _=>none)
  (λ_=>none)
  (λ_ _ _=>none)
  (λ_ _ _=>none)
  (λ_=>none)
  (λ_ _ _ _ _ _=>none)
  (λ_ _ _ _ _=>none)
  (λ_ _ _ _ _ _=>none)
  (λ_=>none)
  (λ_ _=>none)
  (λ_=>none)
  (λ_ _ _ _ _ _=>none)
  (λ_ _ _=>none)
  (λ_ _ _=>none)
  (λ_=>none)
  (λ_ _ _ _=>none)
  ⟨⟩ (λ_ _ _ _=>⟨⟩) v
def AOE(v:V):(V)->Option Bool:=
 V.rec (motive_1:=λ_=>(V)->Option Bool) (motive_2:=λ_=>PUnit)
  (λ_=>none)
  (λ_ _ _ _=>none)
  (λ_ _=>none)
  (λ_ _ _=>none)
  (λy=>APJ y)
  (λa b y=>ATv y a b)
  (λ_ _ y=>AOX y)
  (λ_=>none)
  (λ_ _ _ _ _ _=>none)
  (λ_ _ _ _ _=>none)
  (λ_ _ _ _ _ _=>none)
  (λ_=>none)
  (λ_ _=>none)
  (λ_=>none)
  (λ_ _ _ _ _ _=>none)
  (λ_ _ _=>none)
  (λ_ _ _=>none)
  (λ_=>none)
  (λ_ _ _ _=>none)
  ⟨⟩ (λ_ _ _ _=>⟨⟩) v
def AP7(v:V):Option Bool:=
 V.rec (motive_1:=λ_=>Option Bool) (motive_2:=λ_=>PUnit)
  (none)
  (λ_ _ _=>none)
  (λ_=>none)
  (λ_ _=>none)
  (none)
  (λ_ _=>none)
  (λ_ _=>none)
  (some true)
  (λ_ _ _ _ _=>some false)
  (λ_ _ _ _=>some false)
  (λ_ _ _ _ _=>some false)
  (none)
  (λ_=>none)
  (none)
  (λ_ _ _ _ _=>none)
  (λ_ _=>none)
  (λ_ _=>none)
  (none)
  (λ_ _ _=>none)
  ⟨⟩ (λ_ _ _ _=>⟨⟩) v
def jA(v:V):Option Bool:=
 V.rec (motive_1:=λ_=>Option Bool) (motive_2:=λ_=>PUnit)
  (none)
  (λ_ _ _=>none)
  (λ_=>none)
  (λ_ _=>none)
  (none)
  (λ_ _=>none)
  (λ_ _=>none)
  (some false)
  (λ_ _ _ _ _=>none)
  (λ_ _ _ _=>none)
  (λ_ _ _ _ _=>none)
  (none)
  (λ_=>none)
  (none)
  (λ_ _ _ _ _=>none)
  (λ_ _=>none)
  (λ_ _=>none)
  (none)
  (λ_ _ _=>none)
  ⟨⟩ (λ_ _ _ _=>⟨⟩) v
def AOk(v:V):Option Bool:=
 V.rec (motive_1:=λ_=>Option Bool) (motive_2:=λ_=>PUnit)
  (none)
  (λ_ _ _=>none)
  (λ_=>none)
  (λ_ _=>none)
  (none)
  (λ_ _=>none)
  (λ_ _=>none)
  (none)
  (λ_ _ _ _ _=>none)
  (λ_ _ _ _=>none)
  (λ_ _ _ _ _=>none)
  (none)
  (λ_=>none)
  (some true)
  (λ_ _ _ _ _=>some false)
  (λ_ _=>none)
  (λ_ _=>none)
  (none)
  (λ_ _ _=>none)
  ⟨⟩ (λ_ _ _ _=>⟨⟩) v
def AL3(v:V):Option Bool:=
 V.rec (motive_1:=λ_=>Option Bool) (motive_2:=λ_=>PUnit)
  (none)
  (λ_ _ _=>none)
  (λ_=>none)
  (λ_ _=>none)
  (none)
  (λ_ _=>none)
  (λ_ _=>none)
  (none)
  (λ_ _ _ _ _=>none)
  (λ_ _ _ _=>none)
  (λ_ _ _ _ _=>none)
  (none)
  (λ_=>none)
  (some false)
  (λ_ _ _ _ _=>none)
  (λ_ _=>none)
  (λ_ _=>none)
  (none)
  (λ_ _ _=>none)
  ⟨⟩ (λ_ _ _ _=>⟨⟩) v
def AOF(v:V):Option Bool:=
 V.rec (motive_1:=λ_=>Option Bool) (motive_2:=λ_=>PUnit)
  (none)
  (λ_ _ _=>none)
  (λ_=>none)
  (λ_ _=>none)
  (none)
  (λ_ _=>none)
  (λ_ _=>none)
  (none)
  (λ_ _ _ _ _=>none)
  (λ_ _ _ _=>none)
  (λ_ _ _ _ _=>none)
  (some true)
  (λ_=>some false)
  (none)
  (λ_ _ _ _ _=>none)
  (λ_ _=>none)
  (λ_ _=>none)
  (none)
  (λ_ _ _=>none)
  ⟨⟩ (λ_ _ _ _=>⟨⟩) v
def ALh(v:V):Option Bool:=
 V.rec (motive_1:=λ_=>Option Bool) (motive_2:=λ_=>PUnit)
  (none)
  (λ_ _ _=>none)
  (λ_=>none)
  (λ_ _=>none)
  (none)
  (λ_ _=>none)
  (λ_ _=>none)
  (none)
  (λ_ _ _ _ _=>none)
  (λ_ _ _ _=>none)
  (λ_ _ _ _ _=>none)
  (some false)
  (λ_=>none)
  (none)
  (λ_ _ _ _ _=>none)
  (λ_ _=>none)
  (λ_ _=>none)
  (none)
  (λ_ _ _=>none)
  ⟨⟩ (λ_ _ _ _=>⟨⟩) v
def kSl(v:V):(V)->Option Bool:=
 V.rec (motive_1:=λ_=>(V)->Option Bool) (motive_2:=λ_=>PUnit)
  (λ_=>none)
  (λ_ _ _ _=>none)
  (λ_ _=>none)
  (λ_ _ _=>none)
  (λ_=>none)
  (λ_ _ _=>none)
  (λ_ _ _=>none)
  (λy=>AP7 y)
  (λ_ _ _ _ _ y=>jA y)
  (λ_ _ _ _ y=>jA y)
  (λ_ _ _ _ _ y=>jA y)
  (λ_=>none)
  (λ_ _=>none)
  (λ_=>none)
  (λ_ _ _ _ _ _=>none)
  (λ_ _ _=>none)
  (λ_ _ _=>none)
  (λ_=>none)
  (λ_ _ _ _=>none)
  ⟨⟩ (λ_ _ _ _=>⟨⟩) v
def kFn(v:V):(V)->Option Bool:=
 V.rec (motive_1:=λ_=>(V)->Option Bool) (motive_2:=λ_=>PUnit)
  (λ_=>none)
  (λ_ _ _ _=>none)
  (λ_ _=>none)
  (λ_ _ _=>none)
  (λ_=>none)
  (λ_ _ _=>none)
  (λ_ _ _=>none)
  (λ_=>none)
  (λ_ _ _ _ _ _=>none)
  (λ_ _ _ _ _=>none)
  (λ_ _ _ _ _ _=>none)
  (λ_=>none)
  (λ_ _=>none)
  (λy=>AOk y)
  (λ_ _ _ _ _ y=>AL3 y)
  (λ_ _ _=>none)
  (λ_ _ _=>none)
  (λ_=>none)
  (λ_ _ _ _=>none)
  ⟨⟩ (λ_ _ _ _=>⟨⟩) v
def AVW(v:V):(V)->Option Bool:=
 V.rec (motive_1:=λ_=>(V)->Option Bool) (motive_2:=λ_=>PUnit)
  (λ_=>none)
  (λ_ _ _ _=>none)
  (λ_ _=>none)
  (λ_ _ _=>none)
  (λ_=>none)
  (λ_ _ _=>none)
  (λ_ _ _=>none)
  (λ_=>none)
  (λ_ _ _ _ _ _=>none)
  (λ_ _ _ _ _=>none)
  (λ_ _ _ _ _ _=>none)
  (λy=>AOF y)
  (λ_ y=>ALh y)
  (λ_=>none)
  (λ_ _ _ _ _ _=>none)
  (λ_ _ _=>none)
  (λ_ _ _=>none)
  (λ_=>none)
  (λ_ _ _ _=>none)
  ⟨⟩ (λ_ _ _ _=>⟨⟩) v
def fV(o:Option Bool)(f:Bool->Option Bool):Option Bool:=Option.rec (motive:=λ_=>(Bool->Option Bool)->Option Bool) (λ_=>none) (λv f=>f v) o f
inductive CK where
 |int|str|bool|ptr
def CK.eq(k:CK):V->V->Option Bool:=CK.rec (motive:=λ_=>V->V->Option Bool) AKo AKO ADp AOE k
def ACU(ks:List CK):List V->List V->Option Bool:=
 List.rec (motive:=λ_=>List V->List V->Option Bool) (λa b=>List.rec (motive:=λ_=>Option Bool) (List.rec (motive:=λ_=>Option Bool) (some true) (λ_ _ _=>none) b) (λ_ _ _=>none) a)
  (λk _ g a b=>List.rec (motive:=λ_=>Option Bool) none (λx xs _=>List.rec (motive:=λ_=>Option Bool) none (λy ys _=>fV (k.eq x y) λr=>fV (g xs ys) λr'=>some (band r r')) b) a) ks
def AUJ(v:V):(List CK)->(LV)->Option Bool:=
 V.rec (motive_1:=λ_=>(List CK)->(LV)->Option Bool) (motive_2:=λ_=>PUnit)
  (λ_ _=>none)
  (λ_ _ _ _ _=>none)
  (λ_ _ _=>none)
  (λ_ _ _ _=>none)
  (λ_ _=>none)
  (λ_ _ _ _=>none)
  (λ_ _ _ _=>none)
  (λ_ _=>none)
  (λ_ _ _ _ _ _ _=>none)
  (λ_ _ _ _ _ _=>none)
  (λ_ _ _ _ _ _ _=>none)
  (λ_ _=>none)
  (λ_ _ _=>none)
  (λ_ _=>none)
  (λ_ _ _ _ _ _ _=>none)
  (λa _ ks l=>ACU ks l a)
  (λ_ _ _ _=>none)
  (λ_ _=>none)
  (λ_ _ _ _ _=>none)
  ⟨⟩ (λ_ _ _ _=>⟨⟩) v
def AWw(v:V):(List CK)->(V)->Option Bool:=
 V.rec (motive_1:=λ_=>(List CK)->(V)->Option Bool) (motive_2:=λ_=>PUnit)
  (λ_ _=>none)
  (λ_ _ _ _ _=>none)
  (λ_ _ _=>none)
  (λ_ _ _ _=>none)
  (λ_ _=>none)
  (λ_ _ _ _=>none)
  (λ_ _ _ _=>none)
  (λ_ _=>none)
  (λ_ _ _ _ _ _ _=>none)
  (λ_ _ _ _ _ _=>none)
  (λ_ _ _ _ _ _ _=>none)
  (λ_ _=>none)
  (λ_ _ _=>none)
  (λ_ _=>none)
  (λ_ _ _ _ _ _ _=>none)
  (λa _ ks y=>AUJ y ks a)
  (λ_ _ _ _=>none)
  (λ_ _=>none)
  (λ_ _ _ _ _=>none)
  ⟨⟩ (λ_ _ _ _=>⟨⟩) v
inductive EK where
 |one (k:CK)|agg (ks:List CK)|sl|fn|map
def EK.eq(k:EK):V->V->Option Bool:=EK.rec (motive:=λ_=>V->V->Option Bool) (λk=>k.eq) (λks x y=>AWw x ks y) kSl kFn AVW k
inductive B2 where
 |add|sub|mul|quo|rem|and|or|xor|andNot|shl|shr|lss|leq|gtr|geq
def AM4(f:Int->Int->Bool)(x y:V):Option V:=x.Hu λk a s=>y.Hu λk' b t=>BN (band (keq k k') (Nat.beq (Nat.add s t) 0)) (mkB (f a b))
def AHk(f:Nat->Nat->Nat->Nat->Bool)(x y:V):Option V:=x.Sv λl c=>y.Sv λm d=>mkB (f l c m d)
def ari(f:Int->Int->Int)(x y:V):Option V:=x.Hu λk a s=>y.Hu λk' b t=>BN (keq k k') (mkI k (f a b) (Nat.add s t))
def dvs(f:Int->Int->Int)(x y:V):Option V:=
 x.Hu λk a s=>y.Hu λk' b t=>BN (band (keq k k') (band (Nat.beq t 0) (YP (ieq b 0)))) (mkI k (f a b) s)
def AUb(x y:V):Option V:=
 x.Hu λk a s=>y.Hu λk' b t=>BN (band (keq k k') (band (Nat.beq t 0) (YP (ieq b 0)))) (mkN k (Int.tmod a b) s)
def AYb(x y:V):Option V:=x.Sv λl c=>y.Sv λm d=>BN (Nat.blt (Nat.add l m) 9223372036854775808) (Dv (Nat.add l m) λn=>Dv (AXE l c d) λe=>some (.str n e))
def AWI(x y:V):Option V:=AA9 (isStr x) (AYb x y) (ari AGE x y)
def AYc(x y:V):Option V:=ari (λa b=>AGE a (Int.neg b)) x y
def AXy(x y:V):Option V:=ari Int.mul x y
def ASl(k:IntKind)(a b:Int):Int:=Int.rec (motive:=λ_=>Int->IntKind->Int)
 (λm b k=>Int.rec (motive:=λ_=>Nat->IntKind->Int) (λn m k=>VR k (.ofNat (Nat.land m n))) (λn m k=>bits .and k (.ofNat m) (.negSucc n)) b m k)
 (λm b k=>bits .and k (.negSucc m) b) a b k
def AVv(x y:V):Option V:=x.Hu λk a s=>y.Hu λk' b t=>BN (band (keq k k') (Nat.beq (Nat.add s t) 0)) (PX (ASl k a b) λm=>some (.int k m 0))
def AOu(o:BinOp)(x y:V):Option V:=x.Hu λk a s=>y.Hu λk' b t=>BN (band (keq k k') (Nat.beq (Nat.add s t) 0)) (PX (bits o k a b) λm=>some (.int k m 0))
def AVo(a:Int)(n:Nat):Int:=Int.fdiv a (Int.ofNat (Nat.pow 2 n))
def ABw(k:IntKind):Nat:=IntKind.rec 8 16 32 64 8 16 32 64 k
def AUv(x y:V):Option V:=x.Hu λk a s=>y.Hu λ_ b t=>BN (band (YP (ilt b 0)) (Nat.beq (Nat.add s t) 0)) (PX (AVo a (Nat.min (Int.toNat b) (ABw k))) λm=>some (.int k m 0))
def AUh(x y:V):Option V:=x.Hu λk a s=>y.Hu λ_ b t=>BN (band (YP (ilt b 0)) (Nat.beq (Nat.add s t) 0)) (mkI k (Int.mul a (Int.ofNat (Nat.pow 2 (Nat.min (Int.toNat b) (ABw k))))) 0)
def ofB(o:Option Bool):Option V:=Option.rec none mkB o
def EX(k:EK)(neg:Bool)(x y:V):Option V:=ofB (fV (k.eq x y) λb=>some (Bool.rec (motive:=λ_=>Bool->Bool) (λb=>b) YP neg b))
def AWe(x y:V):Option V:=AA9 (isStr x) (AHk slt x y) (AM4 ilt x y)
def AW5(x y:V):Option V:=AA9 (isStr x) (AHk (λl c m d=>YP (slt m d l c)) x y) (AM4 ile x y)
def AVk(x y:V):Option V:=AA9 (isStr x) (AHk (λl c m d=>slt m d l c) x y) (AM4 (λa b=>ilt b a) x y)
def AWK(x y:V):Option V:=AA9 (isStr x) (AHk (λl c m d=>YP (slt l c m d)) x y) (AM4 (λa b=>ile b a) x y)
def B2.ev(o:B2):V->V->Option V:=B2.rec (motive:=λ_=>V->V->Option V)
 AWI AYc AXy (dvs Int.tdiv) AUb AVv (AOu .or) (AOu .xor) (AOu .andNot) AUh AUv AWe AW5 AVk AWK o
end Go.Eng
namespace Go.PQ
open Go.Eng
def q0:P2:=.h
def q1:P2:=.z q0
def q2:P2:=.o q0
def q3:P2:=.z q1
def q4:P2:=.o q1
def q5:P2:=.z q2
def q6:P2:=.o q2
def q7:P2:=.z q3
def q8:P2:=.o q3
def q9:P2:=.z q4
def q10:P2:=.o q4
def q11:P2:=.z q5
def q12:P2:=.o q5
def q13:P2:=.z q6
def q14:P2:=.o q6
def q15:P2:=.z q7
def q16:P2:=.o q7
def q17:P2:=.z q8
def q18:P2:=.o q8
def q19:P2:=.z q9
def q20:P2:=.o q9
def q21:P2:=.z q10
def q22:P2:=.o q10
def q23:P2:=.z q11
def q24:P2:=.o q11
def q26:P2:=.o q12
def q27:P2:=.z q13
def q28:P2:=.o q13
def q29:P2:=.z q14
def q30:P2:=.o q14
def q31:P2:=.z q15
def q34:P2:=.o q16
def q35:P2:=.z q17
def q37:P2:=.z q18
def q39:P2:=.z q19
def q40:P2:=.o q19
def q41:P2:=.z q20
def q46:P2:=.o q22
def q50:P2:=.o q24
def q55:P2:=.z q27
def q56:P2:=.o q27
def q57:P2:=.z q28
def q58:P2:=.o q28
def q60:P2:=.o q29
def q63:P2:=.z q31
def q71:P2:=.z q35
def q94:P2:=.o q46
def Aah:P2:=.z q50
def AaQ:P2:=.z q55
def Aal:P2:=.z q60
def AZ0:P2:=.z q71
abbrev kJ:Nat:=3
abbrev iD:Nat:=5
abbrev X3:Nat:=6
abbrev bf:Nat:=7
abbrev iK:Nat:=8
abbrev dh:Nat:=9
abbrev fO:Nat:=10
abbrev AFi:Nat:=11
abbrev lY:Nat:=12
abbrev NQ:Nat:=13
abbrev FD:Nat:=14
abbrev IX:Nat:=15
abbrev EM:Nat:=16
abbrev QA:Nat:=17
abbrev Jw:Nat:=18
abbrev CO:Nat:=19
abbrev QD:Nat:=20
abbrev bF:Nat:=21
abbrev Xd:Nat:=22
abbrev Na:Nat:=23
abbrev X5:Nat:=24
abbrev EL:Nat:=25
abbrev I5:Nat:=26
abbrev EP:Nat:=27
abbrev Jr:Nat:=28
abbrev iM:Nat:=29
abbrev gq:Nat:=30
abbrev YN:Nat:=31
abbrev EH:Nat:=32
abbrev Lu:Nat:=33
abbrev Vb:Nat:=34
abbrev Zl:Nat:=36
abbrev lI:Nat:=37
abbrev XO:Nat:=38
abbrev BL:Nat:=39
abbrev Dw:Nat:=40
abbrev Ak:Nat:=41
abbrev Ku:Nat:=42
abbrev J7:Nat:=43
abbrev Dl:Nat:=44
abbrev WQ:Nat:=45
abbrev DN:Nat:=46
abbrev Cb:Nat:=47
abbrev Lp:Nat:=48
abbrev KZ:Nat:=49
abbrev OM:Nat:=50
abbrev TM:Nat:=51
abbrev sK:Nat:=52
abbrev UM:Nat:=53
abbrev qE:Nat:=54
abbrev oG:Nat:=55
abbrev ACI:Nat:=56
abbrev bH:Nat:=57
abbrev zT:Nat:=58
abbrev BF:Nat:=59
abbrev lG:Nat:=60
abbrev Gs:Nat:=63
abbrev DY:Nat:=66
abbrev TS:Nat:=67
abbrev Jg:Nat:=68
abbrev Dp:Nat:=69
abbrev Lr:Nat:=70
abbrev VW:Nat:=71
abbrev VH:Nat:=72
abbrev UW:Nat:=74
abbrev AFk:Nat:=77
abbrev ADl:Nat:=78
abbrev J9:Nat:=79
abbrev Fq:Nat:=80
abbrev Ym:Nat:=83
abbrev Di:Nat:=84
abbrev vK:Nat:=85
abbrev lU:Nat:=86
abbrev CS:Nat:=87
abbrev Ce:Nat:=88
abbrev GN:Nat:=89
abbrev Xn:Nat:=90
abbrev P9:Nat:=91
abbrev QY:Nat:=92
abbrev QV:Nat:=93
abbrev OY:Nat:=94
abbrev TY:Nat:=95
abbrev Pv:Nat:=96
abbrev Nr:Nat:=97
abbrev Xh:Nat:=98
abbrev Ik:Nat:=99
abbrev Rk:Nat:=100
abbrev KW:Nat:=101
abbrev Df:Nat:=102
abbrev Pn:Nat:=103
abbrev aW:Nat:=104
abbrev Py:Nat:=105
abbrev Xi:Nat:=108
abbrev Yp:Nat:=111
abbrev WI:Nat:=112
abbrev TP:Nat:=113
abbrev gY:Nat:=114
abbrev XI:Nat:=2
end Go.PQ
namespace Go.Eng
inductive AN where
 |mv (x:X)
 |pick (c a b:X)
 |ld1 (x:X)
 |ldn (n:Nat) (x:X)
 |APa (x:X)
 |bin (o:B2) (x y:X)
 |eq (k:EK) (neg:Bool) (x y:X)
 |not (x:X)
 |neg (x:X)
 |cvi (k:IntKind) (x:X)
 |AaR (f:Nat) (first caps:List X)
 |AYk (off:Nat) (x:X)
 |field1 (off:Nat) (x:X)
 |AUw (off n:Nat) (x:X)
 |AYQ (esz:Nat) (x i:X)
 |AWb (n esz:Nat) (x i:X)
 |AaU (x i:X)
 |Aaa (n:Nat) (x i:X)
 |ext (x:X) (i:Nat)
 |AZl (x:X)
 |AZ6 (x:X)
 |AYS (x:X)
 |AZz (n:Nat)
 |look (c:CK) (ok:Bool) (zero:V) (m k:X)
 |build (zero:List V) (parts:List (Nat×Nat×X))
 |AX7 (x:X) (lo hi:Option X)
 |slc (esz:Nat) (x:X) (lo hi mx:Option X)
 |Aae (n esz:Nat) (x:X) (lo hi:Option X)
 |AZj (x y:X)
 |AaV (x y:X)
 |cvS (x:X)
 |ATI (s c:X)
 |AHk (x y:X)
inductive AA where
 |alloc (esz:Nat) (es:List (List V))
 |box (x:X)
 |AGf (esz cnt:Nat) (zero:List V) (parts:List (Nat×X))
 |ACb (esz bytes:Nat) (zero:List V) (l c:X)
 |APf
 |U5 (t e:Nat)
inductive AE where
 |asg (x:X)
 |st (n:Nat) (x v:X)
 |app (esz bytes:Nat) (x y:X)
 |copy (esz:Nat) (x y:X)
 |AJh (c:CK) (m k v:X)
 |del (c:CK) (m k:X)
 |AZC (m:X)
 |call (f:Nat) (args:List X)
 |ALb (x:X) (args:List X)
 |defer (dp:P2) (x:X) (args:List X)
 |cvB (x:X)
inductive AO where
 |n (o:AN)|a (o:AA)|e (o:AE)
inductive sQ where
 |no|to (p:P2)|ps
inductive Gd where
 |no|on (x:X) (b:Bool)
inductive yI where
 |mk (d:sQ) (g:Gd) (o:AO)
def APg(n:Int):(Nat->Option V)->Option V:=Int.rec (motive:=λ_=>(Nat->Option V)->Option V) (λm f=>f m) (λ_ _=>none) n
def V9(v:V)(f:Nat->Option V):Option V:=v.Hu λ_ n s=>BN (Nat.beq s 0) (APg n f)
def Zi(x:Option X):RS->Nat->(Nat->Option V)->Option V:=
 Option.rec (motive:=λ_=>RS->Nat->(Nat->Option V)->Option V) (λ_ d f=>f d) (λx R _ f=>V9 (x.ev R) f) x
def f3(a b c:Nat)(f:Nat->Nat->Nat->V):Option V:=Dv a λa=>Dv b λb=>Dv c λc=>some (f a b c)
def AEC(R:RS)(lo hi mx:Option X):Option V:=Zi mx R 0 λm=>Zi hi R 0 λh=>Zi lo R 0 λl=>BN (band (Nat.ble l h) (band (Nat.ble h m) (Nat.beq m 0))) (some .Ad)
def AIb(z:Nat)(R:RS)(lo hi mx:Option X)(id off ln cap esz:Nat):Option V:=BN (Nat.beq z esz) (Zi mx R cap λm=>Zi hi R ln λh=>Zi lo R 0 λl=>
 BN (band (Nat.ble l h) (band (Nat.ble h m) (Nat.ble m cap))) (f3 (Nat.add off l) (Nat.sub h l) (Nat.sub m l) λo d c=>.sl id o d c esz))
def AC4(R:RS)(lo hi:Option X)(id off ln esz:Nat):Option V:=Zi hi R ln λh=>Zi lo R 0 λl=>
 BN (band (Nat.ble l h) (Nat.ble h ln)) (f3 (Nat.add off l) (Nat.sub h l) 0 λo d _=>.QF id o d esz)
def AC2(R:RS)(lo hi:Option X)(mx:X)(id off ln esz:Nat):Option V:=V9 (mx.ev R) λm=>Zi hi R 0 λh=>Zi lo R 0 λl=>
 BN (band (Nat.ble l h) (band (Nat.ble h m) (Nat.ble m ln))) (f3 (Nat.add off l) (Nat.sub h l) (Nat.sub m l) λo d c=>.sl id o d c esz)
def AAq(z:Nat)(R:RS)(lo hi mx:Option X)(id off ln esz:Nat):Option V:=
 BN (Nat.beq z esz) (Option.rec (motive:=λ_=>Option V) (AC4 R lo hi id off ln esz) (λmx=>AC2 R lo hi mx id off ln esz) mx)
def ADG(z:Nat)(R:RS)(lo hi mx:Option X)(b off ln cap esz:Nat):Option V:=Zi hi R ln λh=>Zi lo R 0 λl=>
 Option.rec (motive:=λ_=>Option V) (BN (band (Nat.ble l h) (Nat.ble h cap)) (f3 (Nat.add off (Nat.mul l z)) (Nat.sub h l) (Nat.sub cap l) λo d c=>.rsl b o d c esz)) (λ_=>none) mx
def AIL(z:Nat)(x:V)(R:RS)(lo hi mx:Option X):Option V:=x.ARg (AEC R lo hi mx) (AIb z R lo hi mx) (AAq z R lo hi mx) (ADG z R lo hi mx)
def Zn(x:V)(R:RS)(lo hi:Option X):Option V:=
 x.Sv λln c=>Zi hi R ln λh=>Zi lo R 0 λl=>BN (band (Nat.ble l h) (Nat.ble h ln)) (f3 (Nat.sub h l) (APS c l h) 0 λd c _=>.str d c)
def BO(esz:Nat)(x i:V):Option V:=V9 i λi=>x.ARg none
 (λid off ln _ e=>BN (band (Nat.beq e esz) (Nat.blt i ln)) (Dv (Nat.mul (Nat.add off i) esz) λo=>some (.ptr id o)))
 (λid off ln e=>BN (band (Nat.beq e esz) (Nat.blt i ln)) (Dv (Nat.mul (Nat.add off i) esz) λo=>some (.ptr id o)))
 (λb off ln _ _=>BN (Nat.blt i ln) (Dv (Nat.add off (Nat.mul i esz)) λo=>some (.WY b o)))
def AU(off:Nat)(x:V):Option V:=x.AE0 (λid o=>Dv (Nat.add o off) λo=>some (.ptr id o)) (λb o=>Dv (Nat.add o off) λo=>some (.WY b o))
abbrev ME:=List (V×V×Nat)
def ABl(c:CK)(k:V)(es:ME):Nat->Option (Option (Nat×V)):=
 List.rec (motive:=λ_=>Nat->Option (Option (Nat×V))) (λ_=>some none)
  (λe _ g i=>DJ (c.eq e.1 k) λr=>Bool.rec (g (Nat.succ i)) (some (some (i,e.2.1))) r) es
def AZ5(b:RV):(ME->Nat->Option V)->Option V:=RV.rec (motive:=λ_=>(ME->Nat->Option V)->Option V) (λ_ _ _ _=>none) (λes c f=>f es c) (λ_=>none) (λ_ _ _ _ _ _=>none) (λ_ _=>none) b
def VF(H:Heap)(m:V)(f:ME->Nat->Option V):Option V:=m.AJu (f [] 0) λid=>Option.rec (motive:=λ_=>(ME->Nat->Option V)->Option V) (λ_=>none) AZ5 (T.get H id) f
def ACB(parts:List (Nat×Nat×X)):RS->List V->List V:=
 List.rec (motive:=λ_=>RS->List V->List V) (λ_ l=>l) (λp _ g R l=>g R (AJV (CX (p.2.2.ev R)) p.1 l)) parts
def jV(v:V):Bool:=
 V.rec (motive_1:=λ_=>Bool) (motive_2:=λ_=>PUnit)
  (false)
  (λ_ _ _=>true)
  (λ_=>true)
  (λ_ _=>true)
  (true)
  (λ_ _=>true)
  (λ_ _=>true)
  (true)
  (λ_ _ _ _ _=>true)
  (λ_ _ _ _=>true)
  (λ_ _ _ _ _=>true)
  (true)
  (λ_=>true)
  (true)
  (λ_ _ _ _ _=>true)
  (λ_ _=>true)
  (λ_ _=>false)
  (true)
  (λ_ _ _=>true)
  ⟨⟩ (λ_ _ _ _=>⟨⟩) v
def iq(parts:List (Nat×Nat×X)):RS->Bool:=
 List.rec (motive:=λ_=>RS->Bool) (λ_=>true) (λp _ g R=>band (band (jV (p.2.2.ev R)) (Nat.beq (len (CX (p.2.2.ev R))) p.2.1)) (g R)) parts
abbrev Du:=List LV
def DF(H:Heap)(id esz:Nat)(n:Nat):Nat->Option Du:=
 Nat.rec (motive:=λ_=>Nat->Option Du) (λ_=>some [])
  (λ_ g o=>DJ (lZ H id (Nat.mul o esz) esz) λL=>DJ (g (Nat.succ o)) λLS=>some (L::LS)) n
def rV(G:AV)(b esz:Nat)(n:Nat):Nat->Option Du:=
 Nat.rec (motive:=λ_=>Nat->Option Du) (λ_=>some [])
  (λ_ g o=>DJ (G b o esz) λL=>DJ (g (Nat.add o esz)) λLS=>some (L::LS)) n
def Ux(n:Nat):Nat->Du:=
 Nat.rec (motive:=λ_=>Nat->Du) (λ_=>[]) (λ_ g c=>[.int .u8 (.ofNat (Nat.mod c 256)) 0]::g (Nat.div c 256)) n
def elems(v:V):(AV)->(Heap)->(Nat)->Option Du:=
 V.rec (motive_1:=λ_=>(AV)->(Heap)->(Nat)->Option Du) (motive_2:=λ_=>PUnit)
  (λ_ _ _=>none)
  (λ_ _ _ _ _ _=>none)
  (λ_ _ _ _=>none)
  (λa b _ _ z=>Bool.rec (motive:=λ_=>Option Du) none (some (Ux a b)) (Nat.beq 1 z))
  (λ_ _ _=>none)
  (λ_ _ _ _ _=>none)
  (λ_ _ _ _ _=>none)
  (λ_ _ _=>some [])
  (λa b c _ e _ H z=>Bool.rec (motive:=λ_=>Option Du) none (DF H a z c b) (Nat.beq e z))
  (λa b c d _ H z=>Bool.rec (motive:=λ_=>Option Du) none (DF H a z c b) (Nat.beq d z))
  (λa b c _ _ G _ z=>rV G a z c b)
  (λ_ _ _=>none)
  (λ_ _ _ _=>none)
  (λ_ _ _=>none)
  (λ_ _ _ _ _ _ _ _=>none)
  (λ_ _ _ _ _=>none)
  (λ_ _ _ _ _=>none)
  (λ_ _ _=>none)
  (λ_ _ _ _ _ _=>none)
  ⟨⟩ (λ_ _ _ _=>⟨⟩) v
def byteOf(v:V):Option Nat:=
 V.rec (motive_1:=λ_=>Option Nat) (motive_2:=λ_=>PUnit)
  (none)
  (λa b c=>Int.rec (motive:=λ_=>Nat->Option Nat) (λm t=>Bool.rec none (some m) (band (Nat.beq (kno a) 4) (band (Nat.blt m 256) (Nat.beq t 0)))) (λ_ _=>none) b c)
  (λ_=>none)
  (λ_ _=>none)
  (none)
  (λ_ _=>none)
  (λ_ _=>none)
  (none)
  (λ_ _ _ _ _=>none)
  (λ_ _ _ _=>none)
  (λ_ _ _ _ _=>none)
  (none)
  (λ_=>none)
  (none)
  (λ_ _ _ _ _=>none)
  (λ_ _=>none)
  (λ_ _=>none)
  (none)
  (λ_ _ _=>none)
  ⟨⟩ (λ_ _ _ _=>⟨⟩) v
def zL(l:Du):Option Nat:=
 List.rec (motive:=λ_=>Option Nat) (some 0) (λx _ g=>DJ (nth x 0) λv=>DJ (byteOf v) λm=>DJ g λc=>some (Nat.add m (Nat.mul 256 c))) l
def dV(b:Nat)(f:Nat):Nat->Nat->Int:=
 Nat.rec (motive:=λ_=>Nat->Nat->Int) (λ_ _=>.negSucc 0)
  (λ_ g c i=>Bool.rec (g (Nat.div c 256) (Nat.succ i)) (.ofNat i) (Nat.beq (Nat.mod c 256) b)) f
abbrev pU:=AV->RS->Heap->Option V
def eMv(x:X):pU:=λ_ R _=>some (x.ev R)
def AML(c a b:X):pU:=λ_ R _=>(c.ev R).ng λt=>AA9 t (some (a.ev R)) (some (b.ev R))
def ASg(x:X):pU:=λG R H=>QC (ldP (x.ev R) G H 1) λL=>nth L 0
def ASn(n:Nat)(x:X):pU:=λG R H=>QC (ldP (x.ev R) G H n) λL=>some (.agg L)
def AGi(x:X):pU:=λ_ R _=>Bh (x.ev R)
def ASp(o:B2)(x y:X):pU:=λ_ R _=>o.ev (x.ev R) (y.ev R)
def eEq(k:EK)(neg:Bool)(x y:X):pU:=λ_ R _=>EX k neg (x.ev R) (y.ev R)
def ATP(x:X):pU:=λ_ R _=>(x.ev R).ng λb=>mkB (YP b)
def AR1(x:X):pU:=λ_ R _=>(x.ev R).Hu λk n s=>mkI k (Int.neg n) s
def ARR(k:IntKind)(x:X):pU:=λ_ R _=>(x.ev R).Hu λ_ n s=>mkI k n s
def AMN(f:Nat)(a c:List X):pU:=λ_ R _=>some (.fn f (fJ a R) (fJ c R))
def AGk(off:Nat)(x:X):pU:=λ_ R _=>AU off (x.ev R)
def ACr(off:Nat)(x:X):pU:=λ_ R _=>(x.ev R).oP λl=>nth l off
def AC5(off n:Nat)(x:X):pU:=λ_ R _=>(x.ev R).oP λl=>some (.agg (Yq n (lW off l)))
def AGF(esz:Nat)(x i:X):pU:=λ_ R _=>BO esz (x.ev R) (i.ev R)
def ACj(n esz:Nat)(x i:X):pU:=λ_ R _=>V9 (i.ev R) λi=>BN (Nat.blt i n) (AU (Nat.mul i esz) (x.ev R))
def ALZ(x i:X):pU:=λ_ R _=>(x.ev R).Sv λln c=>V9 (i.ev R) λi=>BN (Nat.blt i ln) (Dv (AMs c i) λb=>some (.int .u8 (.ofNat b) 0))
def ALr(n:Nat)(x i:X):pU:=λ_ R _=>(x.ev R).oP λl=>V9 (i.ev R) λi=>BN (Nat.blt i n) (nth l i)
def ASM(x:X)(i:Nat):pU:=λ_ R _=>(x.ev R).AH7 λl=>nth l i
def ALx(x:X):pU:=λ_ R _=>(x.ev R).Sv λn _=>some (.int .i64 (.ofNat n) 0)
def ALB(x:X):pU:=λ_ R _=>lenV (x.ev R)
def ALG(x:X):pU:=λ_ R H=>VF H (x.ev R) λes _=>Dv (len es) λn=>some (.int .i64 (.ofNat n) 0)
def AYT(n:Nat):pU:=λ_ _ _=>some (.int .i64 (.ofNat n) 0)
def AOw(ok:Bool)(z:V)(r:Option (Nat×V)):Option V:=
 Option.rec (motive:=λ_=>Option V) (AA9 ok (some (.Jt [z,.bool false])) (some z)) (λp=>AA9 ok (some (.Jt [p.2,.bool true])) (some p.2)) r
def ALM(c:CK)(ok:Bool)(z:V)(m k:X):pU:=λ_ R H=>VF H (m.ev R) λes _=>DJ (ABl c (k.ev R) es 0) (AOw ok z)
def AGe(z:LV)(ps:List (Nat×Nat×X)):pU:=λ_ R _=>BN (iq ps R) (some (.agg (ACB ps R z)))
def AED(x:X)(lo hi:Option X):pU:=λ_ R _=>Zn (x.ev R) R lo hi
def ASL(z:Nat)(x:X)(lo hi mx:Option X):pU:=λ_ R _=>AIL z (x.ev R) R lo hi mx
def ALg(n esz:Nat)(x:X)(lo hi:Option X):pU:=λ_ R _=>(x.ev R).AE0 (λid o=>Zi hi R n λh=>Zi lo R 0 λl=>
 BN (band (Nat.beq (Nat.mod o esz) 0) (band (Nat.ble l h) (Nat.ble h n))) (f3 (Nat.add (Nat.div o esz) l) (Nat.sub h l) (Nat.sub n l) λa b c=>.sl id a b c esz)) (λ_ _=>none)
def AR4(x y:X):pU:=λ_ R _=>(x.ev R).Hu λk a s=>(y.ev R).Hu λk' b t=>BN (band (keq k k') (Nat.beq (Nat.add s t) 0)) (some (.int k (Bool.rec a b (ilt a b)) 0))
def ARj(x y:X):pU:=λ_ R _=>(x.ev R).Hu λk a s=>(y.ev R).Hu λk' b t=>BN (band (keq k k') (Nat.beq (Nat.add s t) 0)) (some (.int k (Bool.rec a b (ilt b a)) 0))
def ATQ(x:X):pU:=λG R H=>BN (YP (isStr (x.ev R))) (DJ (elems (x.ev R) G H 1) λl=>DJ (zL l) λc=>f3 (len l) c 0 λn c _=>.str n c)
def AF2(s c:X):pU:=λ_ R _=>(s.ev R).Sv λn cd=>(c.ev R).Hu λk b _=>BN (Nat.beq (kno k) 4) (APg b λb=>BN (Nat.blt b 256) (PX (dV b n cd 0) λi=>some (.int .i64 i 0)))
def ANj(x y:V):Option V:=x.Sv λl c=>y.Sv λm d=>some (.int .i64 (Bool.rec (Bool.rec (.ofNat 0) (.ofNat 1) (slt m d l c)) (.negSucc 0) (slt l c m d)) 0)
def ALz(x y:X):pU:=λ_ R _=>ANj (x.ev R) (y.ev R)
def AN.ev(o:AN):pU:=AN.rec (motive:=λ_=>pU)
 eMv AML ASg ASn AGi ASp eEq ATP AR1 ARR AMN AGk ACr AC5 AGF ACj ALZ ALr ASM ALx ALB ALG AYT ALM AGe AED ASL ALg AR4 ARj ATQ AF2 ALz o
def AKZ(L:LV)(n:Nat):T LV->T LV:=
 Nat.rec (motive:=λ_=>T LV->T LV) (λt=>t) (λi g t=>g (T.set t i L)) n
def Fb(LS:Du):Nat->T LV->T LV:=
 List.rec (motive:=λ_=>Nat->T LV->T LV) (λ_ t=>t) (λL _ g i t=>g (Nat.succ i) (T.set t i L)) LS
def iZ(parts:List (Nat×X)):RS->T LV->T LV:=
 List.rec (motive:=λ_=>RS->T LV->T LV) (λ_ t=>t) (λp _ g R t=>g R (T.set t p.1 (CX (p.2.ev R)))) parts
def Y8(parts:List (Nat×X)):RS->Nat->Nat->Bool:=
 List.rec (motive:=λ_=>RS->Nat->Nat->Bool) (λ_ _ _=>true) (λp _ g R esz cnt=>band (band (jV (p.2.ev R)) (band (Nat.blt p.1 cnt) (Nat.beq (len (CX (p.2.ev R))) esz))) (g R esz cnt)) parts
def V.AON(v:V):(Nat->Prop)->Prop:=
 V.rec (motive_1:=λ_=>(Nat->Prop)->Prop) (motive_2:=λ_=>PUnit)
  (λ_=>False)
  (λ_ _ _ _=>False)
  (λ_ _=>False)
  (λ_ _ _=>False)
  (λ_=>False)
  (λa _ f=>f a)
  (λ_ _ _=>False)
  (λ_=>False)
  (λ_ _ _ _ _ _=>False)
  (λ_ _ _ _ _=>False)
  (λ_ _ _ _ _ _=>False)
  (λ_=>False)
  (λ_ _=>False)
  (λ_=>False)
  (λ_ _ _ _ _ _=>False)
  (λ_ _ _=>False)
  (λ_ _ _=>False)
  (λ_=>False)
  (λ_ _ _ _=>False)
  ⟨⟩ (λ_ _ _ _=>⟨⟩) v
def V.zF(v:V):(Nat->Nat->Prop)->Prop:=
 V.rec (motive_1:=λ_=>(Nat->Nat->Prop)->Prop) (motive_2:=λ_=>PUnit)
  (λ_=>False)
  (λ_ _ _ _=>False)
  (λ_ _=>False)
  (λ_ _ _=>False)
  (λ_=>False)
  (λa b f=>f a b)
  (λ_ _ _=>False)
  (λ_=>False)
  (λ_ _ _ _ _ _=>False)
  (λ_ _ _ _ _=>False)
  (λ_ _ _ _ _ _=>False)
  (λ_=>False)
  (λ_ _=>False)
  (λ_=>False)
  (λ_ _ _ _ _ _=>False)
  (λ_ _ _=>False)
  (λ_ _ _=>False)
  (λ_=>False)
  (λ_ _ _ _=>False)
  ⟨⟩ (λ_ _ _ _=>⟨⟩) v
abbrev KA:=RV->(Nat->V)->Prop
abbrev AlT:=RS->KA->Prop
def Ed(b:Bool)(p:Prop):Prop:=Bool.rec (motive:=λ_=>Prop->Prop) (λ_=>False) (λp=>p) b p
def AFx(v:V)(f:Nat->Prop):Prop:=Hw (V9 v λn=>some (.ptr n 0)) λv=>V.AON v f
def BA(esz:Nat)(es:Du):AlT:=λ_ k=>ET (len es) λn=>k (.arr esz n (Fb es 0 .e)) λid=>.ptr id 0
def AEo(x:X):AlT:=λR k=>Ed (jV (x.ev R)) (ET (len (CX (x.ev R))) λe=>k (.arr e 1 (T.set .e 0 (CX (x.ev R)))) λid=>.ptr id 0)
def Aj(esz cnt:Nat)(z:LV)(ps:List (Nat×X)):AlT:=λR k=>Ed (Y8 ps R esz cnt) (k (.arr esz cnt (iZ ps R (AKZ z cnt .e))) λid=>.sl id 0 cnt cnt esz)
def UF(esz bs:Nat)(z:LV)(l c:X):AlT:=λR k=>AFx (l.ev R) λl=>AFx (c.ev R) λc=>
 Ed (band (Nat.ble l c) (Nat.ble (Nat.mul bs c) 281474976710656)) (k (.arr esz c (AKZ z c .e)) λid=>.sl id 0 l c esz)
def AUR:AlT:=λ_ k=>k (.map [] 0) λid=>.map id
def AQf(t e:Nat):AlT:=λ_ k=>k (.U5 t e 0 0 0) λid=>.ptr id 0
def AA.al(o:AA):AlT:=AA.rec (motive:=λ_=>AlT) BA AEo Aj UF AUR AQf o
abbrev K:=J6->Heap->Nat->Prop
abbrev KV:=V->Heap->Nat->Prop
abbrev BP:=Nat->List V->Heap->Nat->KV->Prop
def QW(need bytes:Nat):Bool:=Nat.ble (Nat.mul need bytes) 140737488355328
abbrev AJT:=AV->Nat->Nat->Du->Heap->Nat->KV->Prop
def O8(esz bs:Nat)(OS LS:Du)(H:Heap)(n:Nat)(k:KV):Prop:=
 ET (Nat.add (len OS) (len LS)) λneed=>Ed (QW need bs) (ET n λn=>k (.QF n 0 need esz) (T.set H n (.arr esz need (Fb LS (len OS) (Fb OS 0 .e)))) (Nat.succ n))
def AUy:AJT:=λ_ esz bs LS H n k=>List.rec (motive:=λ_=>Prop) (k .Ad H n) (λ_ _ _=>O8 esz bs [] LS H n k) LS
def ADi(id off ln cap esz need:Nat)(LS:Du)(H:Heap)(n:Nat)(k:KV)(b:RV):Prop:=
 RV.rec (motive:=λ_=>Prop) (λesz' cnt c=>Ed (band (Nat.beq esz esz') (Nat.ble (Nat.add off need) cnt)) (k (.sl id off need cap esz) (T.set H id (.arr esz cnt (Fb LS (Nat.add off ln) c))) n)) (λ_ _=>False) False (λ_ _ _ _ _=>False) (λ_=>False) b
def ATj(id off ln cap e:Nat):AJT:=λ_ esz bs LS H n k=>Ed (Nat.beq e esz) (ET (Nat.add ln (len LS)) λneed=>
 Bool.rec (motive:=λ_=>Prop) (Hw (DF H id esz ln off) λOS=>O8 esz bs OS LS H n k) (Hw (T.get H id) λb=>ADi id off ln cap esz need LS H n k b) (Nat.ble need cap))
def au(id off ln esz bs:Nat)(LS:Du)(H:Heap)(n:Nat)(k:KV)(b:RV):Prop:=
 RV.rec (motive:=λ_=>Prop) (λesz' cnt c=>ET (Nat.add ln (len LS)) λneed=>Ed (band (QW need bs) (band (Nat.beq esz esz') (Nat.ble (Nat.add off ln) cnt)))
  (ET n λn=>Nat.rec (motive:=λ_=>Prop)
   (k (.QF n 0 need esz) (T.set (T.set H id .dead) n (.arr esz need (Fb LS ln c))) (Nat.succ n))
   (λ_ _=>Hw (DF H id esz ln off) λOS=>k (.QF n 0 need esz) (T.set (T.set H id .dead) n (.arr esz need (Fb LS ln (Fb OS 0 .e)))) (Nat.succ n)) off))
  (λ_ _=>False) False (λ_ _ _ _ _=>False) (λ_=>False) b
def AQS(id off ln e:Nat):AJT:=λ_ esz bs LS H n k=>Ed (Nat.beq e esz) (List.rec (motive:=λ_=>Prop) (k (.QF id off ln esz) H n)
 (λ_ _ _=>Hw (T.get H id) λb=>au id off ln esz bs LS H n k b) LS)
def AQK(b off ln cap e:Nat):AJT:=λG esz bs LS H n k=>Ed (Nat.blt cap (Nat.add ln (len LS))) (Hw (rV G b esz ln off) λOS=>O8 esz bs OS LS H n k)
def Zy:AJT:=λ_ _ _ _ _ _ _=>False
def AJN(v:V):AJT:=
 V.rec (motive_1:=λ_=>AJT) (motive_2:=λ_=>PUnit)
  (Zy)
  (λ_ _ _=>Zy)
  (λ_=>Zy)
  (λ_ _=>Zy)
  (Zy)
  (λ_ _=>Zy)
  (λ_ _=>Zy)
  (AUy)
  (λa b c d e=>ATj a b c d e)
  (λa b c d=>AQS a b c d)
  (λa b c d e=>AQK a b c d e)
  (Zy)
  (λ_=>Zy)
  (Zy)
  (λ_ _ _ _ _=>Zy)
  (λ_ _=>Zy)
  (λ_ _=>Zy)
  (Zy)
  (λ_ _ _=>Zy)
  ⟨⟩ (λ_ _ _ _=>⟨⟩) v
def AV0(id off esz:Nat)(LS:Du)(H:Heap)(n:Nat)(k:KV)(b:RV):Prop:=
 RV.rec (motive:=λ_=>Prop) (λesz' cnt c=>Ed (band (Nat.beq esz esz') (Nat.ble (Nat.add off (len LS)) cnt)) (ET (len LS) λm=>k (.int .i64 (.ofNat m) 0) (T.set H id (.arr esz cnt (Fb LS off c))) n)) (λ_ _=>False) False (λ_ _ _ _ _=>False) (λ_=>False) b
abbrev CpT:=Nat->Du->Heap->Nat->KV->Prop
def ADU(id off ln:Nat):CpT:=λesz LS H n k=>Hw (T.get H id) λb=>AV0 id off esz (Yq ln LS) H n k b
def AI2(v:V):(Nat)->(Du)->(Heap)->(Nat)->(KV)->Prop:=
 V.rec (motive_1:=λ_=>(Nat)->(Du)->(Heap)->(Nat)->(KV)->Prop) (motive_2:=λ_=>PUnit)
  (λ_ _ _ _ _=>False)
  (λ_ _ _ _ _ _ _ _=>False)
  (λ_ _ _ _ _ _=>False)
  (λ_ _ _ _ _ _ _=>False)
  (λ_ _ _ _ _=>False)
  (λ_ _ _ _ _ _ _=>False)
  (λ_ _ _ _ _ _ _=>False)
  (λ_ _ H n k=>k (.int .i64 (.ofNat 0) 0) H n)
  (λa b c _ e z L H n k=>Ed (Nat.beq e z) (ADU a b c z L H n k))
  (λa b c d z L H n k=>Ed (Nat.beq d z) (ADU a b c z L H n k))
  (λ_ _ _ _ _ _ _ _ _ _=>False)
  (λ_ _ _ _ _=>False)
  (λ_ _ _ _ _ _=>False)
  (λ_ _ _ _ _=>False)
  (λ_ _ _ _ _ _ _ _ _ _=>False)
  (λ_ _ _ _ _ _ _=>False)
  (λ_ _ _ _ _ _ _=>False)
  (λ_ _ _ _ _=>False)
  (λ_ _ _ _ _ _ _ _=>False)
  ⟨⟩ (λ_ _ _ _=>⟨⟩) v
def ADj{α:Type}(l:List α):Nat->List α:=
 List.rec (motive:=λ_=>Nat->List α) (λ_=>[]) (λy ys g i=>Nat.rec (motive:=λ_=>List α) ys (λi _=>y::g i) i) l
def AXk(b:RV):(ME->Nat->Option RV)->Option RV:=RV.rec (motive:=λ_=>(ME->Nat->Option RV)->Option RV) (λ_ _ _ _=>none) (λes c f=>f es c) (λ_=>none) (λ_ _ _ _ _ _=>none) (λ_ _=>none) b
def AXl(H:Heap)(id:Nat)(f:ME->Nat->Option RV)(g:Heap->Prop):Prop:=Hw (T.get H id) λb=>Hw (AXk b f) λb=>g (T.set H id b)
def AFy(v:V):(Heap)->(ME->Nat->Option RV)->(Heap->Prop)->Prop:=
 V.rec (motive_1:=λ_=>(Heap)->(ME->Nat->Option RV)->(Heap->Prop)->Prop) (motive_2:=λ_=>PUnit)
  (λ_ _ _=>False)
  (λ_ _ _ _ _ _=>False)
  (λ_ _ _ _=>False)
  (λ_ _ _ _ _=>False)
  (λ_ _ _=>False)
  (λ_ _ _ _ _=>False)
  (λ_ _ _ _ _=>False)
  (λ_ _ _=>False)
  (λ_ _ _ _ _ _ _ _=>False)
  (λ_ _ _ _ _ _ _=>False)
  (λ_ _ _ _ _ _ _ _=>False)
  (λ_ _ _=>False)
  (λa H f g=>AXl H a f g)
  (λ_ _ _=>False)
  (λ_ _ _ _ _ _ _ _=>False)
  (λ_ _ _ _ _=>False)
  (λ_ _ _ _ _=>False)
  (λ_ _ _=>False)
  (λ_ _ _ _ _ _=>False)
  ⟨⟩ (λ_ _ _ _=>⟨⟩) v
def V.V8(v:V):(Nat->LV->LV->Prop)->Prop:=
 V.rec (motive_1:=λ_=>(Nat->LV->LV->Prop)->Prop) (motive_2:=λ_=>PUnit)
  (λ_=>False)
  (λ_ _ _ _=>False)
  (λ_ _=>False)
  (λ_ _ _=>False)
  (λ_=>False)
  (λ_ _ _=>False)
  (λ_ _ _=>False)
  (λ_=>False)
  (λ_ _ _ _ _ _=>False)
  (λ_ _ _ _ _=>False)
  (λ_ _ _ _ _ _=>False)
  (λ_=>False)
  (λ_ _=>False)
  (λ_=>False)
  (λa b c _ _ f=>f a b c)
  (λ_ _ _=>False)
  (λ_ _ _=>False)
  (λ_=>False)
  (λ_ _ _ _=>False)
  ⟨⟩ (λ_ _ _ _=>⟨⟩) v
def uF(v:V):LV:=
 V.rec (motive_1:=λ_=>LV) (motive_2:=λ_=>PUnit)
  ([])
  (λ_ _ _=>[])
  (λ_=>[])
  (λ_ _=>[])
  ([])
  (λ_ _=>[])
  (λ_ _=>[])
  ([])
  (λ_ _ _ _ _=>[])
  (λ_ _ _ _=>[])
  (λ_ _ _ _ _=>[])
  ([])
  (λ_=>[])
  ([])
  (λ_ _ _ _ _=>[])
  (λ_ _=>[])
  (λa _=>a)
  ([])
  (λ_ _ _=>[])
  ⟨⟩ (λ_ _ _ _=>⟨⟩) v
abbrev ExT:=AV->BP->RS->Heap->Nat->KV->Prop
def AZ2(x:X):ExT:=λ_ _ R H n k=>k (x.ev R) H n
def xSt(sz:Nat)(x v:X):ExT:=λ_ _ R H n k=>Ed (band (jV (v.ev R)) (Nat.beq (len (CX (v.ev R))) sz)) (Hw (stP (x.ev R) H sz (CX (v.ev R))) λH=>k .undef H n)
def AaF(esz bs:Nat)(x y:X):ExT:=λG _ R H n k=>Hw (elems (y.ev R) G H esz) λLS=>AJN (x.ev R) G esz bs LS H n k
def AYu(esz:Nat)(x y:X):ExT:=λG _ R H n k=>Hw (elems (y.ev R) G H esz) λLS=>AI2 (x.ev R) esz LS H n k
def AWf(ck:CK)(key v:V)(es:ME)(c:Nat):Option RV:=DJ (ABl ck key es 0) λr=>
 Option.rec (motive:=λ_=>Option RV) (some (.map (cat es [(key,v,c)]) (Nat.succ c))) (λp=>DJ (nth es p.1) λe=>some (.map (ADn (e.1,v,e.2.2) es p.1) c)) r
def AUl(ck:CK)(key:V)(es:ME)(c:Nat):Option RV:=DJ (ABl ck key es 0) λr=>
 Option.rec (motive:=λ_=>Option RV) (some (.map es c)) (λp=>some (.map (ADj es p.1) c)) r
def AZm(c:CK)(m key v:X):ExT:=λ_ _ R H n k=>AFy (m.ev R) H (AWf c (key.ev R) (v.ev R)) λH=>k .undef H n
def AaL(c:CK)(m key:X):ExT:=λ_ _ R H n k=>AFy (m.ev R) H (AUl c (key.ev R)) λH=>k (.Jt []) H n
def AaE(m:X):ExT:=λ_ _ R H n k=>AFy (m.ev R) H (λ_ c=>some (.map [] c)) λH=>k (.Jt []) H n
def AYA(f:Nat)(args:List X):ExT:=λ_ call R H n k=>call f (fJ args R) H n k
def AWc(x:X)(args:List X):ExT:=λ_ call R H n k=>V.V8 (x.ev R) λf a c=>call f (cat a (cat (fJ args R) c)) H n k
def AVb(dp:P2)(x:X)(args:List X):ExT:=λ_ _ R H n k=>V.V8 (x.ev R) λf a c=>k (.Jt (.fn f (cat a (fJ args R)) c::uF (Nu (T.Ea dp R.rg)))) H n
def AaA(x:X):ExT:=λ_ _ R H n k=>Hw ((x.ev R).Sv λl c=>some (.ptr l c)) λv=>V.zF v λl c=>
 ET n λn=>k (.QF n 0 l 1) (T.set H n (.arr 1 l (Fb (Ux l c) 0 .e))) (Nat.succ n)
def AE.ex(o:AE):ExT:=AE.rec (motive:=λ_=>ExT) AZ2 xSt AaF AYu AZm AaL AaE AYA AWc AVb AaA o
def AZw(p:P2)(v:V)(E:RS):RS:=RS.rec (motive:=λ_=>P2->V->RS) (λL R p v=>.mk L (T.aG v p R)) E p v
def AY3(v:V)(E:RS):RS:=RS.rec (motive:=λ_=>V->RS) (λL R v=>.mk (v::L) R) E v
def Gn(d:sQ)(v:V):RS->RS:=sQ.rec (motive:=λ_=>V->RS->RS) (λ_ R=>R) AZw AY3 d v
abbrev KE:=RS->Heap->Nat->Prop
abbrev XoT:=AV->BP->sQ->RS->Heap->Nat->KE->Prop
def oN(o:AN):XoT:=λG _ d R H n k=>AP (o.ev G R H) λv=>k (Gn d v R) H n
def oA(o:AA):XoT:=λ_ _ d R H n k=>o.al R λb f=>ET n λn=>k (Gn d (f n) R) (T.set H n b) (Nat.succ n)
def oE(o:AE):XoT:=λG call d R H n k=>o.ex G call R H n λv H n=>k (Gn d v R) H n
def AO.ex(o:AO):XoT:=AO.rec (motive:=λ_=>XoT) oN oA oE o
def Ac(v:V)(b:Bool)(yes no:Prop):Prop:=v.AGm λt=>Bool.rec (motive:=λ_=>Prop->Prop->Prop) (λ_ n=>n) (λy _=>y) (AOg t b) yes no
def mg(v:V):(Bool)->(Prop)->(Prop)->Prop:=
 V.rec (motive_1:=λ_=>(Bool)->(Prop)->(Prop)->Prop) (motive_2:=λ_=>PUnit)
  (λ_ _ _=>False)
  (λ_ _ _ _ _ _=>False)
  (λa b' yes no=>Bool.rec (motive:=λ_=>Prop->Prop->Prop) (λ_ n=>n) (λy _=>y) (AOg a b') yes no)
  (λ_ _ _ _ _=>False)
  (λ_ _ _=>False)
  (λ_ _ _ _ _=>False)
  (λ_ _ _ _ _=>False)
  (λ_ _ _=>False)
  (λ_ _ _ _ _ _ _ _=>False)
  (λ_ _ _ _ _ _ _=>False)
  (λ_ _ _ _ _ _ _ _=>False)
  (λ_ _ _=>False)
  (λ_ _ _ _=>False)
  (λ_ _ _=>False)
  (λ_ _ _ _ _ _ _ _=>False)
  (λ_ _ _ _ _=>False)
  (λa _ _ _ no=>List.rec (motive:=λ_=>Prop) no (λ_ _ _=>False) a)
  (λ_ _ _=>False)
  (λ_ _ _ _ _ _=>False)
  ⟨⟩ (λ_ _ _ _=>⟨⟩) v
abbrev XpT:=AV->BP->RS->Heap->Nat->KE->Prop
def gNo(d:sQ)(o:AO):XpT:=λG call R H n k=>o.ex G call d R H n k
def gOn(x:X)(b:Bool)(d:sQ)(o:AO):XpT:=λG call R H n k=>mg (x.ev R) b (o.ex G call d R H n k) (k (Gn d (.Jt []) R) H n)
def yI.ex(o:yI):XpT:=yI.rec (motive:=λ_=>XpT) (λd g o=>Gd.rec (motive:=λ_=>sQ->AO->XpT) gNo gOn g d o) o
def ALy(v:V):(IntKind)->(Int)->(Nat)->Bool:=
 V.rec (motive_1:=λ_=>(IntKind)->(Int)->(Nat)->Bool) (motive_2:=λ_=>PUnit)
  (λ_ _ _=>false)
  (λa b c k n s=>band (keq k a) (band (ieq n b) (band (Nat.beq s 0) (Nat.beq c 0))))
  (λ_ _ _ _=>false)
  (λ_ _ _ _ _=>false)
  (λ_ _ _=>false)
  (λ_ _ _ _ _=>false)
  (λ_ _ _ _ _=>false)
  (λ_ _ _=>false)
  (λ_ _ _ _ _ _ _ _=>false)
  (λ_ _ _ _ _ _ _=>false)
  (λ_ _ _ _ _ _ _ _=>false)
  (λ_ _ _=>false)
  (λ_ _ _ _=>false)
  (λ_ _ _=>false)
  (λ_ _ _ _ _ _ _ _=>false)
  (λ_ _ _ _ _=>false)
  (λ_ _ _ _ _=>false)
  (λ_ _ _=>false)
  (λ_ _ _ _ _ _=>false)
  ⟨⟩ (λ_ _ _ _=>⟨⟩) v
def AKc(v:V):(Bool)->Bool:=
 V.rec (motive_1:=λ_=>(Bool)->Bool) (motive_2:=λ_=>PUnit)
  (λ_=>false)
  (λ_ _ _ _=>false)
  (λa x=>AOg x a)
  (λ_ _ _=>false)
  (λ_=>false)
  (λ_ _ _=>false)
  (λ_ _ _=>false)
  (λ_=>false)
  (λ_ _ _ _ _ _=>false)
  (λ_ _ _ _ _=>false)
  (λ_ _ _ _ _ _=>false)
  (λ_=>false)
  (λ_ _=>false)
  (λ_=>false)
  (λ_ _ _ _ _ _=>false)
  (λ_ _ _=>false)
  (λ_ _ _=>false)
  (λ_=>false)
  (λ_ _ _ _=>false)
  ⟨⟩ (λ_ _ _ _=>⟨⟩) v
def AK9(v:V):(Nat)->(Nat)->Bool:=
 V.rec (motive_1:=λ_=>(Nat)->(Nat)->Bool) (motive_2:=λ_=>PUnit)
  (λ_ _=>false)
  (λ_ _ _ _ _=>false)
  (λ_ _ _=>false)
  (λa b l m=>band (Nat.beq l a) (Nat.beq m b))
  (λ_ _=>false)
  (λ_ _ _ _=>false)
  (λ_ _ _ _=>false)
  (λ_ _=>false)
  (λ_ _ _ _ _ _ _=>false)
  (λ_ _ _ _ _ _=>false)
  (λ_ _ _ _ _ _ _=>false)
  (λ_ _=>false)
  (λ_ _ _=>false)
  (λ_ _=>false)
  (λ_ _ _ _ _ _ _=>false)
  (λ_ _ _ _=>false)
  (λ_ _ _ _=>false)
  (λ_ _=>false)
  (λ_ _ _ _ _=>false)
  ⟨⟩ (λ_ _ _ _=>⟨⟩) v
def AGb(v:V):Bool:=
 V.rec (motive_1:=λ_=>Bool) (motive_2:=λ_=>PUnit)
  (false)
  (λ_ _ _=>false)
  (λ_=>false)
  (λ_ _=>false)
  (true)
  (λ_ _=>false)
  (λ_ _=>false)
  (false)
  (λ_ _ _ _ _=>false)
  (λ_ _ _ _=>false)
  (λ_ _ _ _ _=>false)
  (false)
  (λ_=>false)
  (false)
  (λ_ _ _ _ _=>false)
  (λ_ _=>false)
  (λ_ _=>false)
  (false)
  (λ_ _ _=>false)
  ⟨⟩ (λ_ _ _ _=>⟨⟩) v
def AHG(v:V):Bool:=
 V.rec (motive_1:=λ_=>Bool) (motive_2:=λ_=>PUnit)
  (false)
  (λ_ _ _=>false)
  (λ_=>false)
  (λ_ _=>false)
  (false)
  (λ_ _=>false)
  (λ_ _=>false)
  (true)
  (λ_ _ _ _ _=>false)
  (λ_ _ _ _=>false)
  (λ_ _ _ _ _=>false)
  (false)
  (λ_=>false)
  (false)
  (λ_ _ _ _ _=>false)
  (λ_ _=>false)
  (λ_ _=>false)
  (false)
  (λ_ _ _=>false)
  ⟨⟩ (λ_ _ _ _=>⟨⟩) v
def AHP(v:V):Bool:=
 V.rec (motive_1:=λ_=>Bool) (motive_2:=λ_=>PUnit)
  (false)
  (λ_ _ _=>false)
  (λ_=>false)
  (λ_ _=>false)
  (false)
  (λ_ _=>false)
  (λ_ _=>false)
  (false)
  (λ_ _ _ _ _=>false)
  (λ_ _ _ _=>false)
  (λ_ _ _ _ _=>false)
  (true)
  (λ_=>false)
  (false)
  (λ_ _ _ _ _=>false)
  (λ_ _=>false)
  (λ_ _=>false)
  (false)
  (λ_ _ _=>false)
  ⟨⟩ (λ_ _ _ _=>⟨⟩) v
def AGP(v:V):Bool:=
 V.rec (motive_1:=λ_=>Bool) (motive_2:=λ_=>PUnit)
  (false)
  (λ_ _ _=>false)
  (λ_=>false)
  (λ_ _=>false)
  (false)
  (λ_ _=>false)
  (λ_ _=>false)
  (false)
  (λ_ _ _ _ _=>false)
  (λ_ _ _ _=>false)
  (λ_ _ _ _ _=>false)
  (false)
  (λ_=>false)
  (true)
  (λ_ _ _ _ _=>false)
  (λ_ _=>false)
  (λ_ _=>false)
  (false)
  (λ_ _ _=>false)
  ⟨⟩ (λ_ _ _ _=>⟨⟩) v
def AOo(v:V):(Nat)->(Nat)->Bool:=
 V.rec (motive_1:=λ_=>(Nat)->(Nat)->Bool) (motive_2:=λ_=>PUnit)
  (λ_ _=>false)
  (λ_ _ _ _ _=>false)
  (λ_ _ _=>false)
  (λ_ _ _ _=>false)
  (λ_ _=>false)
  (λa b l m=>band (Nat.beq l a) (Nat.beq m b))
  (λ_ _ _ _=>false)
  (λ_ _=>false)
  (λ_ _ _ _ _ _ _=>false)
  (λ_ _ _ _ _ _=>false)
  (λ_ _ _ _ _ _ _=>false)
  (λ_ _=>false)
  (λ_ _ _=>false)
  (λ_ _=>false)
  (λ_ _ _ _ _ _ _=>false)
  (λ_ _ _ _=>false)
  (λ_ _ _ _=>false)
  (λ_ _=>false)
  (λ_ _ _ _ _=>false)
  ⟨⟩ (λ_ _ _ _=>⟨⟩) v
def AJq(v:V):(Nat)->(Nat)->Bool:=
 V.rec (motive_1:=λ_=>(Nat)->(Nat)->Bool) (motive_2:=λ_=>PUnit)
  (λ_ _=>false)
  (λ_ _ _ _ _=>false)
  (λ_ _ _=>false)
  (λ_ _ _ _=>false)
  (λ_ _=>false)
  (λ_ _ _ _=>false)
  (λa b l m=>band (Nat.beq l a) (Nat.beq m b))
  (λ_ _=>false)
  (λ_ _ _ _ _ _ _=>false)
  (λ_ _ _ _ _ _=>false)
  (λ_ _ _ _ _ _ _=>false)
  (λ_ _=>false)
  (λ_ _ _=>false)
  (λ_ _=>false)
  (λ_ _ _ _ _ _ _=>false)
  (λ_ _ _ _=>false)
  (λ_ _ _ _=>false)
  (λ_ _=>false)
  (λ_ _ _ _ _=>false)
  ⟨⟩ (λ_ _ _ _=>⟨⟩) v
def APG(v:V):(Nat)->Bool:=
 V.rec (motive_1:=λ_=>(Nat)->Bool) (motive_2:=λ_=>PUnit)
  (λ_=>false)
  (λ_ _ _ _=>false)
  (λ_ _=>false)
  (λ_ _ _=>false)
  (λ_=>false)
  (λ_ _ _=>false)
  (λ_ _ _=>false)
  (λ_=>false)
  (λ_ _ _ _ _ _=>false)
  (λ_ _ _ _ _=>false)
  (λ_ _ _ _ _ _=>false)
  (λ_=>false)
  (λa l=>Nat.beq l a)
  (λ_=>false)
  (λ_ _ _ _ _ _=>false)
  (λ_ _ _=>false)
  (λ_ _ _=>false)
  (λ_=>false)
  (λ_ _ _ _=>false)
  ⟨⟩ (λ_ _ _ _=>⟨⟩) v
def ASy(v:V):(Nat)->(Nat)->(Nat)->(Nat)->(Nat)->Bool:=
 V.rec (motive_1:=λ_=>(Nat)->(Nat)->(Nat)->(Nat)->(Nat)->Bool) (motive_2:=λ_=>PUnit)
  (λ_ _ _ _ _=>false)
  (λ_ _ _ _ _ _ _ _=>false)
  (λ_ _ _ _ _ _=>false)
  (λ_ _ _ _ _ _ _=>false)
  (λ_ _ _ _ _=>false)
  (λ_ _ _ _ _ _ _=>false)
  (λ_ _ _ _ _ _ _=>false)
  (λ_ _ _ _ _=>false)
  (λa b c d e i j k l m=>band (Nat.beq i a) (band (Nat.beq j b) (band (Nat.beq k c) (band (Nat.beq l d) (Nat.beq m e)))))
  (λ_ _ _ _ _ _ _ _ _=>false)
  (λ_ _ _ _ _ _ _ _ _ _=>false)
  (λ_ _ _ _ _=>false)
  (λ_ _ _ _ _ _=>false)
  (λ_ _ _ _ _=>false)
  (λ_ _ _ _ _ _ _ _ _ _=>false)
  (λ_ _ _ _ _ _ _=>false)
  (λ_ _ _ _ _ _ _=>false)
  (λ_ _ _ _ _=>false)
  (λ_ _ _ _ _ _ _ _=>false)
  ⟨⟩ (λ_ _ _ _=>⟨⟩) v
def AMK(v:V):(Nat)->(Nat)->(Nat)->(Nat)->Bool:=
 V.rec (motive_1:=λ_=>(Nat)->(Nat)->(Nat)->(Nat)->Bool) (motive_2:=λ_=>PUnit)
  (λ_ _ _ _=>false)
  (λ_ _ _ _ _ _ _=>false)
  (λ_ _ _ _ _=>false)
  (λ_ _ _ _ _ _=>false)
  (λ_ _ _ _=>false)
  (λ_ _ _ _ _ _=>false)
  (λ_ _ _ _ _ _=>false)
  (λ_ _ _ _=>false)
  (λ_ _ _ _ _ _ _ _ _=>false)
  (λa b c d i j k l=>band (Nat.beq i a) (band (Nat.beq j b) (band (Nat.beq k c) (Nat.beq l d))))
  (λ_ _ _ _ _ _ _ _ _=>false)
  (λ_ _ _ _=>false)
  (λ_ _ _ _ _=>false)
  (λ_ _ _ _=>false)
  (λ_ _ _ _ _ _ _ _ _=>false)
  (λ_ _ _ _ _ _=>false)
  (λ_ _ _ _ _ _=>false)
  (λ_ _ _ _=>false)
  (λ_ _ _ _ _ _ _=>false)
  ⟨⟩ (λ_ _ _ _=>⟨⟩) v
def ALC(v:V):(Nat)->(Nat)->(Nat)->(Nat)->(Nat)->Bool:=
 V.rec (motive_1:=λ_=>(Nat)->(Nat)->(Nat)->(Nat)->(Nat)->Bool) (motive_2:=λ_=>PUnit)
  (λ_ _ _ _ _=>false)
  (λ_ _ _ _ _ _ _ _=>false)
  (λ_ _ _ _ _ _=>false)
  (λ_ _ _ _ _ _ _=>false)
  (λ_ _ _ _ _=>false)
  (λ_ _ _ _ _ _ _=>false)
  (λ_ _ _ _ _ _ _=>false)
  (λ_ _ _ _ _=>false)
  (λ_ _ _ _ _ _ _ _ _ _=>false)
  (λ_ _ _ _ _ _ _ _ _=>false)
  (λa b c d e i j k l m=>band (Nat.beq i a) (band (Nat.beq j b) (band (Nat.beq k c) (band (Nat.beq l d) (Nat.beq m e)))))
  (λ_ _ _ _ _=>false)
  (λ_ _ _ _ _ _=>false)
  (λ_ _ _ _ _=>false)
  (λ_ _ _ _ _ _ _ _ _ _=>false)
  (λ_ _ _ _ _ _ _=>false)
  (λ_ _ _ _ _ _ _=>false)
  (λ_ _ _ _ _=>false)
  (λ_ _ _ _ _ _ _ _=>false)
  ⟨⟩ (λ_ _ _ _=>⟨⟩) v
def PD(v:V):(V)->Bool:=
 V.rec (motive_1:=λ_=>(V)->Bool) (motive_2:=λ_=>PUnit)
  (λ_=>false)
  (λa b c y=>ALy y a b c)
  (λa y=>AKc y a)
  (λa b y=>AK9 y a b)
  (λy=>AGb y)
  (λa b y=>AOo y a b)
  (λa b y=>AJq y a b)
  (λy=>AHG y)
  (λa b c d e y=>ASy y a b c d e)
  (λa b c d y=>AMK y a b c d)
  (λa b c d e y=>ALC y a b c d e)
  (λy=>AHP y)
  (λa y=>APG y a)
  (λy=>AGP y)
  (λ_ _ _ _ _ _=>false)
  (λ_ _ _=>false)
  (λ_ _ _=>false)
  (λ_=>false)
  (λ_ _ _ _=>false)
  ⟨⟩ (λ_ _ _ _=>⟨⟩) v
def AAn(a:List V):List V->Bool:=
 List.rec (motive:=λ_=>List V->Bool) (λb=>List.rec (motive:=λ_=>Bool) true (λ_ _ _=>false) b)
  (λx _ g b=>List.rec (motive:=λ_=>Bool) false (λy ys _=>band (PD x y) (g ys)) b) a
def AUA(v:V):(LV)->Bool:=
 V.rec (motive_1:=λ_=>(LV)->Bool) (motive_2:=λ_=>PUnit)
  (λ_=>false)
  (λ_ _ _ _=>false)
  (λ_ _=>false)
  (λ_ _ _=>false)
  (λ_=>false)
  (λ_ _ _=>false)
  (λ_ _ _=>false)
  (λ_=>false)
  (λ_ _ _ _ _ _=>false)
  (λ_ _ _ _ _=>false)
  (λ_ _ _ _ _ _=>false)
  (λ_=>false)
  (λ_ _=>false)
  (λ_=>false)
  (λ_ _ _ _ _ _=>false)
  (λa _ l=>AAn l a)
  (λ_ _ _=>false)
  (λ_=>false)
  (λ_ _ _ _=>false)
  ⟨⟩ (λ_ _ _ _=>⟨⟩) v
def AT9(v:V):(LV)->Bool:=
 V.rec (motive_1:=λ_=>(LV)->Bool) (motive_2:=λ_=>PUnit)
  (λ_=>false)
  (λ_ _ _ _=>false)
  (λ_ _=>false)
  (λ_ _ _=>false)
  (λ_=>false)
  (λ_ _ _=>false)
  (λ_ _ _=>false)
  (λ_=>false)
  (λ_ _ _ _ _ _=>false)
  (λ_ _ _ _ _=>false)
  (λ_ _ _ _ _ _=>false)
  (λ_=>false)
  (λ_ _=>false)
  (λ_=>false)
  (λ_ _ _ _ _ _=>false)
  (λ_ _ _=>false)
  (λa _ l=>AAn l a)
  (λ_=>false)
  (λ_ _ _ _=>false)
  ⟨⟩ (λ_ _ _ _=>⟨⟩) v
def AIM(v:V):Bool:=
 V.rec (motive_1:=λ_=>Bool) (motive_2:=λ_=>PUnit)
  (true)
  (λ_ _ _=>false)
  (λ_=>false)
  (λ_ _=>false)
  (false)
  (λ_ _=>false)
  (λ_ _=>false)
  (false)
  (λ_ _ _ _ _=>false)
  (λ_ _ _ _=>false)
  (λ_ _ _ _ _=>false)
  (false)
  (λ_=>false)
  (false)
  (λ_ _ _ _ _=>false)
  (λ_ _=>false)
  (λ_ _=>false)
  (false)
  (λ_ _ _=>false)
  ⟨⟩ (λ_ _ _ _=>⟨⟩) v
def BR(v:V):(V)->Bool:=
 V.rec (motive_1:=λ_=>(V)->Bool) (motive_2:=λ_=>PUnit)
  (λy=>AIM y)
  (λa b c y=>ALy y a b c)
  (λa y=>AKc y a)
  (λa b y=>AK9 y a b)
  (λy=>AGb y)
  (λa b y=>AOo y a b)
  (λa b y=>AJq y a b)
  (λy=>AHG y)
  (λa b c d e y=>ASy y a b c d e)
  (λa b c d y=>AMK y a b c d)
  (λa b c d e y=>ALC y a b c d e)
  (λy=>AHP y)
  (λa y=>APG y a)
  (λy=>AGP y)
  (λ_ _ _ _ _ _=>false)
  (λa _ y=>AUA y a)
  (λa _ y=>AT9 y a)
  (λ_=>false)
  (λ_ _ _ _=>false)
  ⟨⟩ (λ_ _ _ _=>⟨⟩) v
inductive AI where
 |op (o:yI)
 |re (d:P2) (g:Gd) (o:AN)
inductive AC where
 |skip
 |ops (l:List yI)
 |reg (l:List AI)
 |seq (a b:AC)
 |cond (x:X) (a b:AC)
 |block (id:Nat) (c:AC)
 |loop (c:AC)
 |exit (id:Nat)
 |ret
def Qx(l:List yI):XpT:=
 List.rec (motive:=λ_=>XpT) (λ_ _ R H n k=>k R H n) (λo _ g G call R H n k=>o.ex G call R H n λR H n=>g G call R H n k) l
abbrev ReT:=AV->RS->Heap->P2->AN->Prop->Prop
def AY1:ReT:=λG R H d o k=>AP (o.ev G R H) λv=>Ed (BR v (Nu (T.Ea d R.rg))) k
def AZZ(x:X)(b:Bool):ReT:=λG R H d o k=>mg (x.ev R) b (AP (o.ev G R H) λv=>Ed (BR v (Nu (T.Ea d R.rg))) k) k
def AU9(g:Gd):ReT:=Gd.rec (motive:=λ_=>ReT) AY1 AZZ g
def AI.ex(i:AI):XpT:=AI.rec (motive:=λ_=>XpT) (λo=>o.ex) (λd g o G _ R H n k=>AU9 g G R H d o (k R H n)) i
def DR(l:List AI):XpT:=
 List.rec (motive:=λ_=>XpT) (λ_ _ R H n k=>k R H n) (λi _ g G call R H n k=>i.ex G call R H n λR H n=>g G call R H n k) l
abbrev KX:=Nat->K
abbrev M:=AV->BP->Nat->J6->Heap->Nat->K->KX->K->Prop
def Dx:M:=λ_ _ _ R H n k _ _=>k R H n
def AR9(l:List yI):M:=λG call _ R H n k _ _=>Qx l G call (.mk [] R) H n λE H n=>k E.rg H n
def AR0(l:List AI):M:=λG call _ R H n k _ _=>DR l G call (.mk [] R) H n λE H n=>k E.rg H n
def APW(_ _:AC)(a b:M):M:=λG call lf R H n k x r=>a G call lf R H n (λR H n=>b G call lf R H n k x r) x r
def AIe(c:X)(_ _:AC)(a b:M):M:=λG call lf R H n k x r=>Ac (c.ev (.mk [] R)) true (a G call lf R H n k x r) (b G call lf R H n k x r)
def Ib(id:Nat)(k:K)(x:KX):KX:=λi R H n=>Bool.rec (motive:=λ_=>Prop->Prop->Prop) (λa _=>a) (λ_ b=>b) (Nat.beq i id) (x i R H n) (k R H n)
def ADc(id:Nat)(_:AC)(a:M):M:=λG call lf R H n k x r=>a G call lf R H n k (Ib id k x) r
def Xt(a:M)(G:AV)(call:BP)(lf0 lf:Nat):J6->Heap->Nat->KX->K->Prop:=
 Nat.rec (motive:=λ_=>J6->Heap->Nat->KX->K->Prop) (λ_ _ _ _ _=>False) (λ_ g R H n x r=>a G call lf0 R H n (λR H n=>g R H n x r) x r) lf
def AX4(_:AC)(a:M):M:=λG call lf R H n _ x r=>Xt a G call lf lf R H n x r
def AOr(id:Nat):M:=λ_ _ _ R H n _ x _=>x id R H n
def AVR:M:=λ_ _ _ R H n _ _ r=>r R H n
def AC.ex(c:AC):M:=AC.rec (motive:=λ_=>M) Dx AR9 AR0 APW AIe ADc AX4 AOr AVR c
inductive AR where
 |tmp (p:P2)|cell1 (p:P2)|celln (p:P2) (n:Nat)
inductive Nk where
 |join|rep|AMg (t e:Nat)|AKr (t e:Nat)
inductive AF where
 |mk (np:Nat) (code:AC) (res:List AR) (dp:sQ) (dg:Nat)
 |nat (k:Nk)
def AR.get(r:AR):AV->J6->Heap->Option V:=
 AR.rec (motive:=λ_=>AV->J6->Heap->Option V) (λp _ R _=>some (Nu (T.Ea p R))) (λp G R H=>QC (ldP (Nu (T.Ea p R)) G H 1) λL=>nth L 0)
  (λp n G R H=>QC (ldP (Nu (T.Ea p R)) G H n) λL=>some (.agg L)) r
def ABo(l:List AR):AV->J6->Heap->Option LV:=
 List.rec (motive:=λ_=>AV->J6->Heap->Option LV) (λ_ _ _=>some []) (λr _ g G R H=>DJ (r.get G R H) λv=>DJ (g G R H) λvs=>some (v::vs)) l
def Fp(l:List V):V:=List.rec (motive:=λ_=>V) (V.Jt []) (λv vs _=>List.rec (motive:=λ_=>V) v (λw ws _=>V.Jt (v::w::ws)) vs) l
def fK(args:List V):Nat->J6->J6:=
 List.rec (motive:=λ_=>Nat->J6->J6) (λ_ R=>R) (λv _ g i R=>g (Nat.succ i) (T.set R i v)) args
def Oy(dg:Nat)(l:List V):BP->Heap->Nat->(Heap->Nat->Prop)->Prop:=
 List.rec (motive:=λ_=>BP->Heap->Nat->(Heap->Nat->Prop)->Prop) (λ_ H n k=>k H n)
  (λv _ g call H n k=>V.V8 v λf a c=>Ed (Nat.beq f dg) (call f (cat a c) H n λ_ H n=>g call H n k)) l
def AEp(res:List AR)(G:AV)(k:KV):K:=λR H n=>Hw (ABo res G R H) λl=>k (Fp l) H n
def J8(res:List AR)(dg:Nat)(d:sQ):AV->BP->KV->K:=
 sQ.rec (motive:=λ_=>AV->BP->KV->K) (λG _ k=>AEp res G k) (λp G call k R H n=>Oy dg (uF (Nu (T.Ea p R))) call H n λH n=>AEp res G k R H n) (λG _ k=>AEp res G k) d
def zo(p q:Nat×Nat):Nat×Nat:=(p.1+q.1,p.2+256^p.1*q.2)
def ACH:Du->Option (List (Nat×Nat))
 |[]=>some []
 |[.str l c]::r=>match ACH r with|some x=>some ((l,c)::x)|none=>none
 |_::_=>none
def bV(s:Nat×Nat):List (Nat×Nat)->Nat×Nat
 |[]=>(0,0)
 |a::r=>r.foldl (λp q=>zo (zo p s) q) a
def AKm(s:Nat×Nat):Nat->Nat×Nat
 |0=>(0,0)
 |n+1=>zo s (AKm s n)
def Z4:Nat:=140737488355328
def AAV(x y:V)(G:AV)(H:Heap)(n:Nat)(k:KV):Prop:=
 match y with
 |.str sl sc=>Ed (YP (isStr x)) <| Hw (elems x G H 1) λLS=>Hw (ACH LS) λss=>Ed (decide (ss.length<=Z4/\(bV (sl,sc) ss).1<=Z4)) (k (.str (bV (sl,sc) ss).1 (bV (sl,sc) ss).2) H n)
 |_=>False
def AFs(x y:V)(H:Heap)(n:Nat)(k:KV):Prop:=
 match x,y with
 |.str l c,.int .i64 (.ofNat m) _=>Ed (decide (m<=9223372036854775807/\l*m<=Z4)) (k (.str (AKm (l,c) m).1 (AKm (l,c) m).2) H n)
 |_,_=>False
def ACd(t e:Nat)(x y:V)(H:Heap)(n:Nat)(k:KV):Prop:=
 match x,y with
 |.ptr id 0,.str m d=>(match T.get H id with
  |some (.U5 t' e' l c j)=>Ed (decide (t'=t/\e'=e/\l+m<=Z4)) (k (.Jt [.int .i64 (.ofNat m) 0,.AGW]) (T.set (T.set (bif decide (l=0)then H else T.set H j .dead) n (.own id)) id (.U5 t e (zo (l,c) (m,d)).1 (zo (l,c) (m,d)).2 n)) (n+1))
  |_=>False)
 |_,_=>False
def ACo(t e:Nat)(x:V)(H:Heap)(n:Nat)(k:KV):Prop:=
 match x with
 |.ptr id 0=>(match T.get H id with
  |some (.U5 t' e' l c _)=>Ed (decide (t'=t/\e'=e)) (k (.str l c) (T.set H id .dead) n)
  |_=>False)
 |_=>False
def oU(f:Nk)(G:AV)(args:List V)(H:Heap)(n:Nat)(k:KV):Prop:=
 match f,args with
 |.join,[x,y]=>AAV x y G H n k
 |.rep,[x,y]=>AFs x y H n k
 |.AMg t e,[x,y]=>ACd t e x y H n k
 |.AKr t e,[x]=>ACo t e x H n k
 |_,_=>False
def noX:KX:=λ_ _ _ _=>False
def lT(f:AF):AV->BP->Nat->List V->Heap->Nat->KV->Prop:=
 AF.rec (motive:=λ_=>AV->BP->Nat->List V->Heap->Nat->KV->Prop) (λnp code res d dg G call lf args H n k=>Ed (Nat.beq (len args) np) (code.ex G call lf (fK args 0 .e) H n (J8 res dg d G call k) noX (J8 res dg d G call k))) (λf G _ _ args H n k=>oU f G args H n k) f
def run(F:T AF)(G:AV)(lf:Nat)(fuel:Nat):BP:=
 Nat.rec (motive:=λ_=>BP) (λ_ _ _ _ _=>False) (λ_ call f args H n k=>Hw (T.get F f) λaf=>lT af G call lf args H n k) fuel
end Go.Eng
