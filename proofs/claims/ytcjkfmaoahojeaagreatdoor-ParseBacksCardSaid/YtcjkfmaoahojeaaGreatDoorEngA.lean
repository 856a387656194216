/- Part of a proof; nothing is assumed. -/
import Derived.Calls
import Derived.Defers
import Derived.Orders
import Derived.KernelRfl
import Derived.Laws.Entries
set_option linter.unusedVariables false
set_option linter.unusedSimpArgs false
noncomputable section
namespace Go.Eng
inductive P2 where
 |h|z (p:P2)|o (p:P2)
deriving DecidableEq
inductive T(α:Type)where
 |e|n (v:Option α) (l r:T α)
def T.val{α:Type}(t:T α):Option α:=T.rec none (λv _ _ _ _=>v) t
def T.left{α:Type}(t:T α):T α:=T.rec .e (λ_ l _ _ _=>l) t
def T.right{α:Type}(t:T α):T α:=T.rec .e (λ_ _ r _ _=>r) t
def T.Ea{α:Type}(p:P2):T α->Option α:=
 P2.rec (motive:=λ_=>T α->Option α) T.val (λ_ g t=>g t.left) (λ_ g t=>g t.right) p
def T.aC{α:Type}(x:α)(p:P2):T α->T α:=
 P2.rec (motive:=λ_=>T α->T α) (λt=>.n (some x) t.left t.right)
  (λ_ g t=>.n t.val (g t.left) t.right) (λ_ g t=>.n t.val t.left (g t.right)) p
def AMX(f:Nat):Nat->P2:=
 Nat.rec (motive:=λ_=>Nat->P2) (λ_=>.h)
  (λ_ g k=>Nat.rec (motive:=λ_=>P2) .h
   (λm _=>Bool.rec (P2.o (g (Nat.div m 2))) (P2.z (g (Nat.div m 2))) (Nat.beq (Nat.mod m 2) 0)) k) f
def Pv(k:Nat):P2:=AMX (Nat.succ k) k
def T.get{α:Type}(t:T α)(k:Nat):Option α:=T.Ea (Pv k) t
def T.set{α:Type}(t:T α)(k:Nat)(x:α):T α:=T.aC x (Pv k) t
inductive V where
 |undef
 |int (k:IntKind) (n:Int) (s:Nat)
 |bool (b:Bool)
 |str (len code:Nat)
 |AJH|ptr (id off:Nat)|XJ (b off:Nat)
 |Ad|sl (id off len cap esz:Nat)|QF (id off len esz:Nat)|rsl (b off len cap esz:Nat)
 |AM5|map (id:Nat)
 |AM3|fn (f:Nat) (first caps:List V)
 |agg (cs:List V)
 |Jq (vs:List V)
 |AHN|iface (t:Nat) (v:V)
inductive RQ where
 |arr (esz cnt:Nat) (c:T (List V))
 |map (es:List (V×V×Nat)) (clock:Nat)
 |dead
 |VD (t e l c j:Nat)
 |own (b:Nat)
abbrev Heap:=T RQ
abbrev J6:=T V
abbrev AV:=Nat->Nat->Nat->Option (List V)
inductive X where
 |r (p:P2)|c (v:V)|s (i:Nat)
def Ns(o:Option V):V:=Option.rec V.undef (λv=>v) o
def APo(l:List V):Nat->V:=
 List.rec (motive:=λ_=>Nat->V) (λ_=>.undef) (λx _ g i=>Nat.rec (motive:=λ_=>V) x (λi _=>g i) i) l
inductive RS where
 |mk (L:List V) (R:J6)
def RS.st(E:RS):List V:=RS.rec (λL _=>L) E
def RS.rg(E:RS):J6:=RS.rec (λ_ R=>R) E
def X.ev(x:X):RS->V:=X.rec (motive:=λ_=>RS->V) (λp E=>Ns (T.Ea p E.rg)) (λv _=>v) (λi E=>APo E.st i) x
def V.Hw(v:V):(IntKind->Int->Nat->Option V)->Option V:=
 V.rec (motive_1:=λ_=>(IntKind->Int->Nat->Option V)->Option V) (motive_2:=λ_=>PUnit)
  (λ_=>none)
  (λa b c f=>f a b c)
  (λ_ _=>none)
  (λ_ _ _=>none)
  (λ_=>none)
  (λ_ _ _=>none)
  (λ_ _ _=>none)
  (λ_=>none)
  (λ_ _ _ _ _ _=>none)
  (λ_ _ _ _ _=>none)
  (λ_ _ _ _ _ _=>none)
  (λ_=>none)
  (λ_ _=>none)
  (λ_=>none)
  (λ_ _ _ _ _ _=>none)
  (λ_ _ _=>none)
  (λ_ _ _=>none)
  (λ_=>none)
  (λ_ _ _ _=>none)
  ⟨⟩ (λ_ _ _ _=>⟨⟩) v
def V.rM(v:V):(Bool->Option V)->Option V:=
 V.rec (motive_1:=λ_=>(Bool->Option V)->Option V) (motive_2:=λ_=>PUnit)
  (λ_=>none)
  (λ_ _ _ _=>none)
  (λa f=>f a)
  (λ_ _ _=>none)
  (λ_=>none)
  (λ_ _ _=>none)
  (λ_ _ _=>none)
  (λ_=>none)
  (λ_ _ _ _ _ _=>none)
  (λ_ _ _ _ _=>none)
  (λ_ _ _ _ _ _=>none)
  (λ_=>none)
  (λ_ _=>none)
  (λ_=>none)
  (λ_ _ _ _ _ _=>none)
  (λ_ _ _=>none)
  (λ_ _ _=>none)
  (λ_=>none)
  (λ_ _ _ _=>none)
  ⟨⟩ (λ_ _ _ _=>⟨⟩) v
def V.AGg(v:V):(Bool->Prop)->Prop:=
 V.rec (motive_1:=λ_=>(Bool->Prop)->Prop) (motive_2:=λ_=>PUnit)
  (λ_=>False)
  (λ_ _ _ _=>False)
  (λa f=>f a)
  (λ_ _ _=>False)
  (λ_=>False)
  (λ_ _ _=>False)
  (λ_ _ _=>False)
  (λ_=>False)
  (λ_ _ _ _ _ _=>False)
  (λ_ _ _ _ _=>False)
  (λ_ _ _ _ _ _=>False)
  (λ_=>False)
  (λ_ _=>False)
  (λ_=>False)
  (λ_ _ _ _ _ _=>False)
  (λ_ _ _=>False)
  (λ_ _ _=>False)
  (λ_=>False)
  (λ_ _ _ _=>False)
  ⟨⟩ (λ_ _ _ _=>⟨⟩) v
def V.TB(v:V):(Nat->Nat->Option V)->Option V:=
 V.rec (motive_1:=λ_=>(Nat->Nat->Option V)->Option V) (motive_2:=λ_=>PUnit)
  (λ_=>none)
  (λ_ _ _ _=>none)
  (λ_ _=>none)
  (λa b f=>f a b)
  (λ_=>none)
  (λ_ _ _=>none)
  (λ_ _ _=>none)
  (λ_=>none)
  (λ_ _ _ _ _ _=>none)
  (λ_ _ _ _ _=>none)
  (λ_ _ _ _ _ _=>none)
  (λ_=>none)
  (λ_ _=>none)
  (λ_=>none)
  (λ_ _ _ _ _ _=>none)
  (λ_ _ _=>none)
  (λ_ _ _=>none)
  (λ_=>none)
  (λ_ _ _ _=>none)
  ⟨⟩ (λ_ _ _ _=>⟨⟩) v
def V.oI(v:V):(List V->Option V)->Option V:=
 V.rec (motive_1:=λ_=>(List V->Option V)->Option V) (motive_2:=λ_=>PUnit)
  (λ_=>none)
  (λ_ _ _ _=>none)
  (λ_ _=>none)
  (λ_ _ _=>none)
  (λ_=>none)
  (λ_ _ _=>none)
  (λ_ _ _=>none)
  (λ_=>none)
  (λ_ _ _ _ _ _=>none)
  (λ_ _ _ _ _=>none)
  (λ_ _ _ _ _ _=>none)
  (λ_=>none)
  (λ_ _=>none)
  (λ_=>none)
  (λ_ _ _ _ _ _=>none)
  (λa _ f=>f a)
  (λ_ _ _=>none)
  (λ_=>none)
  (λ_ _ _ _=>none)
  ⟨⟩ (λ_ _ _ _=>⟨⟩) v
def V.AJR(v:V):(List V->Option V)->Option V:=
 V.rec (motive_1:=λ_=>(List V->Option V)->Option V) (motive_2:=λ_=>PUnit)
  (λ_=>none)
  (λ_ _ _ _=>none)
  (λ_ _=>none)
  (λ_ _ _=>none)
  (λ_=>none)
  (λ_ _ _=>none)
  (λ_ _ _=>none)
  (λ_=>none)
  (λ_ _ _ _ _ _=>none)
  (λ_ _ _ _ _=>none)
  (λ_ _ _ _ _ _=>none)
  (λ_=>none)
  (λ_ _=>none)
  (λ_=>none)
  (λ_ _ _ _ _ _=>none)
  (λ_ _ _=>none)
  (λa _ f=>f a)
  (λ_=>none)
  (λ_ _ _ _=>none)
  ⟨⟩ (λ_ _ _ _=>⟨⟩) v
def V.AFe(v:V):(Nat->Nat->Option V)->(Nat->Nat->Option V)->Option V:=
 V.rec (motive_1:=λ_=>(Nat->Nat->Option V)->(Nat->Nat->Option V)->Option V) (motive_2:=λ_=>PUnit)
  (λ_ _=>none)
  (λ_ _ _ _ _=>none)
  (λ_ _ _=>none)
  (λ_ _ _ _=>none)
  (λ_ _=>none)
  (λa b f _=>f a b)
  (λa b _ g=>g a b)
  (λ_ _=>none)
  (λ_ _ _ _ _ _ _=>none)
  (λ_ _ _ _ _ _=>none)
  (λ_ _ _ _ _ _ _=>none)
  (λ_ _=>none)
  (λ_ _ _=>none)
  (λ_ _=>none)
  (λ_ _ _ _ _ _ _=>none)
  (λ_ _ _ _=>none)
  (λ_ _ _ _=>none)
  (λ_ _=>none)
  (λ_ _ _ _ _=>none)
  ⟨⟩ (λ_ _ _ _=>⟨⟩) v
def V.AJc(v:V):(Option V)->(Nat->Option V)->Option V:=
 V.rec (motive_1:=λ_=>(Option V)->(Nat->Option V)->Option V) (motive_2:=λ_=>PUnit)
  (λ_ _=>none)
  (λ_ _ _ _ _=>none)
  (λ_ _ _=>none)
  (λ_ _ _ _=>none)
  (λ_ _=>none)
  (λ_ _ _ _=>none)
  (λ_ _ _ _=>none)
  (λ_ _=>none)
  (λ_ _ _ _ _ _ _=>none)
  (λ_ _ _ _ _ _=>none)
  (λ_ _ _ _ _ _ _=>none)
  (λz _=>z)
  (λa _ f=>f a)
  (λ_ _=>none)
  (λ_ _ _ _ _ _ _=>none)
  (λ_ _ _ _=>none)
  (λ_ _ _ _=>none)
  (λ_ _=>none)
  (λ_ _ _ _ _=>none)
  ⟨⟩ (λ_ _ _ _=>⟨⟩) v
def V.AR2(v:V):(Option V)->(Nat->Nat->Nat->Nat->Nat->Option V)->(Nat->Nat->Nat->Nat->Option V)->(Nat->Nat->Nat->Nat->Nat->Option V)->Option V:=
 V.rec (motive_1:=λ_=>(Option V)->(Nat->Nat->Nat->Nat->Nat->Option V)->(Nat->Nat->Nat->Nat->Option V)->(Nat->Nat->Nat->Nat->Nat->Option V)->Option V) (motive_2:=λ_=>PUnit)
  (λ_ _ _ _=>none)
  (λ_ _ _ _ _ _ _=>none)
  (λ_ _ _ _ _=>none)
  (λ_ _ _ _ _ _=>none)
  (λ_ _ _ _=>none)
  (λ_ _ _ _ _ _=>none)
  (λ_ _ _ _ _ _=>none)
  (λz _ _ _=>z)
  (λa b c d e _ f _ _=>f a b c d e)
  (λa b c d _ _ g _=>g a b c d)
  (λa b c d e _ _ _ h=>h a b c d e)
  (λ_ _ _ _=>none)
  (λ_ _ _ _ _=>none)
  (λ_ _ _ _=>none)
  (λ_ _ _ _ _ _ _ _ _=>none)
  (λ_ _ _ _ _ _=>none)
  (λ_ _ _ _ _ _=>none)
  (λ_ _ _ _=>none)
  (λ_ _ _ _ _ _ _=>none)
  ⟨⟩ (λ_ _ _ _=>⟨⟩) v
def Cb(v:V):List V:=
 V.rec (motive_1:=λ_=>List V) (motive_2:=λ_=>PUnit)
  ([v])
  (λ_ _ _=>[v])
  (λ_=>[v])
  (λ_ _=>[v])
  ([v])
  (λ_ _=>[v])
  (λ_ _=>[v])
  ([v])
  (λ_ _ _ _ _=>[v])
  (λ_ _ _ _=>[v])
  (λ_ _ _ _ _=>[v])
  ([v])
  (λ_=>[v])
  ([v])
  (λ_ _ _ _ _=>[v])
  (λa _=>a)
  (λ_ _=>[v])
  ([v])
  (λ_ _ _=>[v])
  ⟨⟩ (λ_ _ _ _=>⟨⟩) v
def isStr(v:V):Bool:=
 V.rec (motive_1:=λ_=>Bool) (motive_2:=λ_=>PUnit)
  (false)
  (λ_ _ _=>false)
  (λ_=>false)
  (λ_ _=>true)
  (false)
  (λ_ _=>false)
  (λ_ _=>false)
  (false)
  (λ_ _ _ _ _=>false)
  (λ_ _ _ _=>false)
  (λ_ _ _ _ _=>false)
  (false)
  (λ_=>false)
  (false)
  (λ_ _ _ _ _=>false)
  (λ_ _=>false)
  (λ_ _=>false)
  (false)
  (λ_ _ _=>false)
  ⟨⟩ (λ_ _ _ _=>⟨⟩) v
def lenV(v:V):Option V:=
 V.rec (motive_1:=λ_=>Option V) (motive_2:=λ_=>PUnit)
  (none)
  (λ_ _ _=>none)
  (λ_=>none)
  (λ_ _=>none)
  (none)
  (λ_ _=>none)
  (λ_ _=>none)
  (some (.int .i64 (.ofNat 0) 0))
  (λ_ _ c _ _=>some (.int .i64 (.ofNat c) 0))
  (λ_ _ c _=>some (.int .i64 (.ofNat c) 0))
  (λ_ _ c _ _=>some (.int .i64 (.ofNat c) 0))
  (none)
  (λ_=>none)
  (none)
  (λ_ _ _ _ _=>none)
  (λ_ _=>none)
  (λ_ _=>none)
  (none)
  (λ_ _ _=>none)
  ⟨⟩ (λ_ _ _ _=>⟨⟩) v
def Bj(v:V):Option V:=
 V.rec (motive_1:=λ_=>Option V) (motive_2:=λ_=>PUnit)
  (none)
  (λ_ _ _=>none)
  (λ_=>none)
  (λ_ _=>none)
  (none)
  (λa b=>some (.ptr a b))
  (λa b=>some (.XJ a b))
  (none)
  (λ_ _ _ _ _=>none)
  (λ_ _ _ _=>none)
  (λ_ _ _ _ _=>none)
  (none)
  (λ_=>none)
  (none)
  (λa b c _ _=>some (.fn a b c))
  (λ_ _=>none)
  (λ_ _=>none)
  (none)
  (λ_ _ _=>none)
  ⟨⟩ (λ_ _ _ _=>⟨⟩) v
def Pj(n:Int):(Int->Option V)->Option V:=λf=>f n
def Dy(n:Nat):(Nat->Option V)->Option V:=
 Nat.rec (motive:=λ_=>(Nat->Option V)->Option V) (λf=>f 0) (λk _ f=>f (Nat.succ k)) n
def ET(n:Nat):(Nat->Prop)->Prop:=
 Nat.rec (motive:=λ_=>(Nat->Prop)->Prop) (λf=>f 0) (λk _ f=>f (Nat.succ k)) n
def AYA(k:IntKind):Nat->Bool:=
 IntKind.rec (motive:=λ_=>Nat->Bool) (λm=>Nat.blt m 128) (λm=>Nat.blt m 32768) (λm=>Nat.blt m 2147483648) (λm=>Nat.blt m 9223372036854775808)
  (λm=>Nat.blt m 256) (λm=>Nat.blt m 65536) (λm=>Nat.blt m 4294967296) (λm=>Nat.blt m 18446744073709551616) k
def AYl(k:IntKind):Nat->Bool:=
 IntKind.rec (motive:=λ_=>Nat->Bool) (λm=>Nat.blt m 128) (λm=>Nat.blt m 32768) (λm=>Nat.blt m 2147483648) (λm=>Nat.blt m 9223372036854775808)
  (λ_=>false) (λ_=>false) (λ_=>false) (λ_=>false) k
def inr(k:IntKind)(n:Int):Bool:=Int.rec (motive:=λ_=>IntKind->Bool) (λm k=>AYA k m) (λm k=>AYl k m) n k
def Vd(k:IntKind)(n:Int):Int:=Bool.rec (k.wrap n) n (inr k n)
def AUa(k:IntKind)(n:Int):Option V:=Pj (Vd k n) λm=>some (.int k m 0)
def mkI(k:IntKind)(n:Int)(s:Nat):Option V:=
 Nat.rec (motive:=λ_=>IntKind->Int->Option V) AUa (λ_ _ k n=>some (.int k (k.wrap n) 1)) s k n
def mkN(k:IntKind)(n:Int)(s:Nat):Option V:=
 Nat.rec (motive:=λ_=>IntKind->Int->Option V) (λk n=>Pj n λm=>some (.int k m 0)) (λ_ _ k n=>some (.int k n 1)) s k n
def ATh(a:Nat)(b:Int):Int:=Int.rec (motive:=λ_=>Nat->Int) (λn m=>.ofNat (Nat.add m n)) (λn m=>Int.subNatNat m (Nat.succ n)) b a
def AUI(a:Nat)(b:Int):Int:=Int.rec (motive:=λ_=>Nat->Int) (λn m=>Int.subNatNat n (Nat.succ m)) (λn m=>.negSucc (Nat.succ (Nat.add m n))) b a
def AG6(a b:Int):Int:=Int.rec (motive:=λ_=>Int->Int) ATh AUI a b
def ile(a b:Int):Bool:=Int.rec (motive:=λ_=>Int->Bool) (λm b=>Int.rec (motive:=λ_=>Nat->Bool) (λn m=>Nat.ble m n) (λ_ _=>false) b m)
 (λm b=>Int.rec (motive:=λ_=>Nat->Bool) (λ_ _=>true) (λn m=>Nat.ble n m) b m) a b
def ilt(a b:Int):Bool:=Int.rec (motive:=λ_=>Int->Bool) (λm b=>Int.rec (motive:=λ_=>Nat->Bool) (λn m=>Nat.blt m n) (λ_ _=>false) b m)
 (λm b=>Int.rec (motive:=λ_=>Nat->Bool) (λ_ _=>true) (λn m=>Nat.blt n m) b m) a b
def ieq(a b:Int):Bool:=Int.rec (motive:=λ_=>Int->Bool) (λm b=>Int.rec (motive:=λ_=>Nat->Bool) (λn m=>Nat.beq m n) (λ_ _=>false) b m)
 (λm b=>Int.rec (motive:=λ_=>Nat->Bool) (λ_ _=>false) (λn m=>Nat.beq n m) b m) a b
def kno(a:IntKind):Nat:=IntKind.rec 0 1 2 3 4 5 6 7 a
def keq(a b:IntKind):Bool:=Nat.beq (kno a) (kno b)
def YN(b:Bool):Bool:=Bool.rec true false b
def band(a b:Bool):Bool:=Bool.rec (motive:=λ_=>Bool->Bool) (λ_=>false) (λb=>b) a b
def AQD(a b:Bool):Bool:=Bool.rec (motive:=λ_=>Bool->Bool) YN (λb=>b) a b
def mkB(b:Bool):Option V:=Bool.rec (some (.bool false)) (some (.bool true)) b
def BO(b:Bool):Option V->Option V:=Bool.rec (motive:=λ_=>Option V->Option V) (λ_=>none) (λo=>o) b
def AAn(b:Bool)(x y:Option V):Option V:=Bool.rec (motive:=λ_=>Option V->Option V->Option V) (λ_ y=>y) (λx _=>x) b x y
def ANU(code i:Nat):Nat:=Nat.mod (Nat.div code (Nat.pow 256 i)) 256
def AOn(code l h:Nat):Nat:=Nat.mod (Nat.div code (Nat.pow 256 l)) (Nat.pow 256 (Nat.sub h l))
def AWg(l1 c1 c2:Nat):Nat:=Nat.add c1 (Nat.mul (Nat.pow 256 l1) c2)
def AVK(f:Nat):Nat->Nat->Nat->Nat->Bool:=
 Nat.rec (motive:=λ_=>Nat->Nat->Nat->Nat->Bool) (λ_ _ _ _=>false)
  (λ_ g l1 c1 l2 c2=>Nat.rec (motive:=λ_=>Bool) false (λl2' _=>Nat.rec (motive:=λ_=>Bool) true (λl1' _=>
   Bool.rec (Nat.blt (Nat.mod c1 256) (Nat.mod c2 256)) (g l1' (Nat.div c1 256) l2' (Nat.div c2 256)) (Nat.beq (Nat.mod c1 256) (Nat.mod c2 256))) l1) l2) f
def slt(l1 c1 l2 c2:Nat):Bool:=AVK (Nat.succ l2) l1 c1 l2 c2
def nth{α:Type}(l:List α):Nat->Option α:=
 List.rec (motive:=λ_=>Nat->Option α) (λ_=>none) (λx _ g i=>Nat.rec (motive:=λ_=>Option α) (some x) (λi _=>g i) i) l
def ADc{α:Type}(x:α)(l:List α):Nat->List α:=
 List.rec (motive:=λ_=>Nat->List α) (λ_=>[]) (λy ys g i=>Nat.rec (motive:=λ_=>List α) (x::ys) (λi _=>y::g i) i) l
def len{α:Type}(l:List α):Nat:=List.rec (motive:=λ_=>Nat) 0 (λ_ _ n=>Nat.succ n) l
def cat{α:Type}(a b:List α):List α:=List.rec (motive:=λ_=>List α->List α) (λb=>b) (λx _ g b=>x::g b) a b
def Y0{α:Type}(n:Nat):List α->List α:=
 Nat.rec (motive:=λ_=>List α->List α) (λ_=>[]) (λ_ g l=>List.rec (motive:=λ_=>List α) [] (λx xs _=>x::g xs) l) n
def lM{α:Type}(n:Nat):List α->List α:=
 Nat.rec (motive:=λ_=>List α->List α) (λl=>l) (λ_ g l=>List.rec (motive:=λ_=>List α) [] (λ_ xs _=>g xs) l) n
def iH(l:List X):RS->List V:=List.rec (motive:=λ_=>RS->List V) (λ_=>[]) (λx _ g R=>x.ev R::g R) l
def AK4(new:List V)(i:Nat)(l:List V):List V:=cat (Y0 i l) (cat new (lM (Nat.add i (len new)) l))
abbrev LV:=List V
def Pz(o:Option LV)(f:LV->Option V):Option V:=Option.rec (motive:=λ_=>(LV->Option V)->Option V) (λ_=>none) (λv f=>f v) o f
def Hu{α:Type}(o:Option α)(f:α->Prop):Prop:=Option.rec (motive:=λ_=>(α->Prop)->Prop) (λ_=>False) (λv f=>f v) o f
def AP(o:Option V)(f:V->Prop):Prop:=Option.rec (motive:=λ_=>(V->Prop)->Prop) (λ_=>False) (λv f=>f v) o f
def DJ{α β:Type}(o:Option α)(f:α->Option β):Option β:=Option.rec (motive:=λ_=>(α->Option β)->Option β) (λ_=>none) (λv f=>f v) o f
def ldC(esz off n:Nat)(L:LV):Option LV:=
 Bool.rec (motive:=λ_=>Option LV)
  (Bool.rec none (some (Y0 n (lM (Nat.mod off esz) L))) (Nat.ble (Nat.add (Nat.mod off esz) n) esz))
  (some L) (band (Nat.beq n esz) (Nat.beq (Nat.mod off esz) 0))
def ldB(esz cnt:Nat)(c:T LV)(off n:Nat):Option LV:=
 DJ (Bool.rec none (T.get c (Nat.div off esz)) (Nat.blt (Nat.div off esz) cnt)) (ldC esz off n)
def RQ.ld(b:RQ):Nat->Nat->Option LV:=
 RQ.rec (motive:=λ_=>Nat->Nat->Option LV) ldB (λ_ _ _ _=>none) (λ_ _=>none) (λ_ _ _ _ _ _ _=>none) (λ_ _ _=>none) b
def lC(H:Heap)(id off n:Nat):Option LV:=Option.rec (motive:=λ_=>Nat->Nat->Option LV) (λ_ _=>none) RQ.ld (T.get H id) off n
def ldP(v:V):(AV)->(Heap)->(Nat)->Option LV:=
 V.rec (motive_1:=λ_=>(AV)->(Heap)->(Nat)->Option LV) (motive_2:=λ_=>PUnit)
  (λ_ _ _=>none)
  (λ_ _ _ _ _ _=>none)
  (λ_ _ _ _=>none)
  (λ_ _ _ _ _=>none)
  (λ_ _ _=>none)
  (λa b _ H n=>lC H a b n)
  (λa b G _ n=>G a b n)
  (λ_ _ _=>none)
  (λ_ _ _ _ _ _ _ _=>none)
  (λ_ _ _ _ _ _ _=>none)
  (λ_ _ _ _ _ _ _ _=>none)
  (λ_ _ _=>none)
  (λ_ _ _ _=>none)
  (λ_ _ _=>none)
  (λ_ _ _ _ _ _ _ _=>none)
  (λ_ _ _ _ _=>none)
  (λ_ _ _ _ _=>none)
  (λ_ _ _=>none)
  (λ_ _ _ _ _ _=>none)
  ⟨⟩ (λ_ _ _ _=>⟨⟩) v
def eu(new:LV)(esz cnt:Nat)(c:T LV)(off n:Nat)(L:LV):Option RQ:=
 Bool.rec (motive:=λ_=>Option RQ)
  (Bool.rec none (some (.arr esz cnt (T.set c (Nat.div off esz) (AK4 new (Nat.mod off esz) L)))) (Nat.ble (Nat.add (Nat.mod off esz) n) esz))
  (some (.arr esz cnt (T.set c (Nat.div off esz) new))) (band (Nat.beq n esz) (Nat.beq (Nat.mod off esz) 0))
def stB(esz cnt:Nat)(c:T LV)(off n:Nat)(new:LV):Option RQ:=
 DJ (Bool.rec none (T.get c (Nat.div off esz)) (Nat.blt (Nat.div off esz) cnt)) (eu new esz cnt c off n)
def RQ.st(b:RQ):Nat->Nat->LV->Option RQ:=
 RQ.rec (motive:=λ_=>Nat->Nat->LV->Option RQ) stB (λ_ _ _ _ _=>none) (λ_ _ _=>none) (λ_ _ _ _ _ _ _ _=>none) (λ_ _ _ _=>none) b
def stH(H:Heap)(id off n:Nat)(new:LV):Option Heap:=
 DJ (Option.rec (motive:=λ_=>Nat->Nat->LV->Option RQ) (λ_ _ _=>none) RQ.st (T.get H id) off n new) λb=>some (T.set H id b)
def stP(v:V):(Heap)->(Nat)->(LV)->Option Heap:=
 V.rec (motive_1:=λ_=>(Heap)->(Nat)->(LV)->Option Heap) (motive_2:=λ_=>PUnit)
  (λ_ _ _=>none)
  (λ_ _ _ _ _ _=>none)
  (λ_ _ _ _=>none)
  (λ_ _ _ _ _=>none)
  (λ_ _ _=>none)
  (λa b H n new=>stH H a b n new)
  (λ_ _ _ _ _=>none)
  (λ_ _ _=>none)
  (λ_ _ _ _ _ _ _ _=>none)
  (λ_ _ _ _ _ _ _=>none)
  (λ_ _ _ _ _ _ _ _=>none)
  (λ_ _ _=>none)
  (λ_ _ _ _=>none)
  (λ_ _ _=>none)
  (λ_ _ _ _ _ _ _ _=>none)
  (λ_ _ _ _ _=>none)
  (λ_ _ _ _ _=>none)
  (λ_ _ _=>none)
  (λ_ _ _ _ _ _=>none)
  ⟨⟩ (λ_ _ _ _=>⟨⟩) v
def AOo(v:V):(IntKind)->(Int)->(Nat)->Option Bool:=
 V.rec (motive_1:=λ_=>(IntKind)->(Int)->(Nat)->Option Bool) (motive_2:=λ_=>PUnit)
  (λ_ _ _=>none)
  (λa b c k n s=>Bool.rec (motive:=λ_=>Option Bool) none (some (ieq n b)) (band (keq k a) (Nat.beq (Nat.add s c) 0)))
  (λ_ _ _ _=>none)
  (λ_ _ _ _ _=>none)
  (λ_ _ _=>none)
  (λ_ _ _ _ _=>none)
  (λ_ _ _ _ _=>none)
  (λ_ _ _=>none)
  (λ_ _ _ _ _ _ _ _=>none)
  (λ_ _ _ _ _ _ _=>none)
  (λ_ _ _ _ _ _ _ _=>none)
  (λ_ _ _=>none)
  (λ_ _ _ _=>none)
  (λ_ _ _=>none)
  (λ_ _ _ _ _ _ _ _=>none)
  (λ_ _ _ _ _=>none)
  (λ_ _ _ _ _=>none)
  (λ_ _ _=>none)
  (λ_ _ _ _ _ _=>none)
  ⟨⟩ (λ_ _ _ _=>⟨⟩) v
def AKT(v:V):(Bool)->Option Bool:=
 V.rec (motive_1:=λ_=>(Bool)->Option Bool) (motive_2:=λ_=>PUnit)
  (λ_=>none)
  (λ_ _ _ _=>none)
  (λa x=>some (AQD x a))
  (λ_ _ _=>none)
  (λ_=>none)
  (λ_ _ _=>none)
  (λ_ _ _=>none)
  (λ_=>none)
  (λ_ _ _ _ _ _=>none)
  (λ_ _ _ _ _=>none)
  (λ_ _ _ _ _ _=>none)
  (λ_=>none)
  (λ_ _=>none)
  (λ_=>none)
  (λ_ _ _ _ _ _=>none)
  (λ_ _ _=>none)
  (λ_ _ _=>none)
  (λ_=>none)
  (λ_ _ _ _=>none)
  ⟨⟩ (λ_ _ _ _=>⟨⟩) v
def eqStr(v:V):(Nat)->(Nat)->Option Bool:=
 V.rec (motive_1:=λ_=>(Nat)->(Nat)->Option Bool) (motive_2:=λ_=>PUnit)
  (λ_ _=>none)
  (λ_ _ _ _ _=>none)
  (λ_ _ _=>none)
  (λa b l d=>some (band (Nat.beq l a) (Nat.beq d b)))
  (λ_ _=>none)
  (λ_ _ _ _=>none)
  (λ_ _ _ _=>none)
  (λ_ _=>none)
  (λ_ _ _ _ _ _ _=>none)
  (λ_ _ _ _ _ _=>none)
  (λ_ _ _ _ _ _ _=>none)
  (λ_ _=>none)
  (λ_ _ _=>none)
  (λ_ _=>none)
  (λ_ _ _ _ _ _ _=>none)
  (λ_ _ _ _=>none)
  (λ_ _ _ _=>none)
  (λ_ _=>none)
  (λ_ _ _ _ _=>none)
  ⟨⟩ (λ_ _ _ _=>⟨⟩) v
def AO2(v:V):Option Bool:=
 V.rec (motive_1:=λ_=>Option Bool) (motive_2:=λ_=>PUnit)
  (none)
  (λ_ _ _=>none)
  (λ_=>none)
  (λ_ _=>none)
  (some true)
  (λ_ _=>some false)
  (λ_ _=>some false)
  (none)
  (λ_ _ _ _ _=>none)
  (λ_ _ _ _=>none)
  (λ_ _ _ _ _=>none)
  (none)
  (λ_=>none)
  (none)
  (λ_ _ _ _ _=>none)
  (λ_ _=>none)
  (λ_ _=>none)
  (none)
  (λ_ _ _=>none)
  ⟨⟩ (λ_ _ _ _=>⟨⟩) v
def AUA(v:V):(Nat)->(Nat)->Option Bool:=
 V.rec (motive_1:=λ_=>(Nat)->(Nat)->Option Bool) (motive_2:=λ_=>PUnit)
  (λ_ _=>none)
  (λ_ _ _ _ _=>none)
  (λ_ _ _=>none)
  (λ_ _ _ _=>none)
  (λ_ _=>some false)
  (λa b i o=>Bool.rec none (some (Nat.beq o b)) (Nat.beq i a))
  (λ_ _ _ _=>none)
  (λ_ _=>none)
  (λ_ _ _ _ _ _ _=>none)
  (λ_ _ _ _ _ _=>none)
  (λ_ _ _ _ _ _ _=>none)
  (λ_ _=>none)
  (λ_ _ _=>none)
  (λ_ _=>none)
  (λ_ _ _ _ _ _ _=>none)
  (λ_ _ _ _=>none)
  (λ_ _ _ _=>none)
  (λ_ _=>none)
  (λ_ _ _ _ _=>none)
  ⟨⟩ (λ_ _ _ _=>⟨⟩) v
def AOg(v:V):Option Bool:=
 V.rec (motive_1:=λ_=>Option Bool) (motive_2:=λ_=>PUnit)
  (none)
  (λ_ _ _=>none)
  (λ_=>none)
  (λ_ _=>none)
  (some false)
  (λ_ _=>none)
  (λ_ _=>none)
  (none)
  (λ_ _ _ _ _=>none)
  (λ_ _ _ _=>none)
  (λ_ _ _ _ _=>none)
  (none)
  (λ_=>none)
  (none)
  (λ_ _ _ _ _=>none)
  (λ_ _=>none)
  (λ_ _=>none)
  (none)
  (λ_ _ _=>none)
  ⟨⟩ (λ_ _ _ _=>⟨⟩) v
def AKV(v:V):(V)->Option Bool:=
 V.rec (motive_1:=λ_=>(V)->Option Bool) (motive_2:=λ_=>PUnit)
  (λ_=>none)
  (λa b c y=>AOo y a b c)
  (λ_ _=>none)
  (λ_ _ _=>none)
  (λ_=>none)
  (λ_ _ _=>none)
  (λ_ _ _=>none)
  (λ_=>none)
  (λ_ _ _ _ _ _=>none)
  (λ_ _ _ _ _=>none)
  (λ_ _ _ _ _ _=>none)
  (λ_=>none)
  (λ_ _=>none)
  (λ_=>none)
  (λ_ _ _ _ _ _=>none)
  (λ_ _ _=>none)
  (λ_ _ _=>none)
  (λ_=>none)
  (λ_ _ _ _=>none)
  ⟨⟩ (λ_ _ _ _=>⟨⟩) v
def AJX(v:V):(V)->Option Bool:=
 V.rec (motive_1:=λ_=>(V)->Option Bool) (motive_2:=λ_=>PUnit)
  (λ_=>none)
  (λ_ _ _ _=>none)
  (λ_ _=>none)
  (λa b y=>eqStr y a b)
  (λ_=>none)
  (λ_ _ _=>none)
  (λ_ _ _=>none)
  (λ_=>none)
  (λ_ _ _ _ _ _=>none)
  (λ_ _ _ _ _=>none)
  (λ_ _ _ _ _ _=>none)
  (λ_=>none)
  (λ_ _=>none)
  (λ_=>none)
  (λ_ _ _ _ _ _=>none)
  (λ_ _ _=>none)
  (λ_ _ _=>none)
  (λ_=>none)
  (λ_ _ _ _=>none)
  ⟨⟩ (λ_ _ _ _=>⟨⟩) v
def AEC(v:V):(V)->Option Bool:=
 V.rec (motive_1:=λ_=>(V)->Option Bool) (motive_2:=λ_=>PUnit)
  (λ_=>none)
  (λ_ _ _ _=>none)
  (λa y=>AKT y a)
  (λ_ _ _=>none)
  (λ_=>none)
  (λ_ _ _=>none)
  (λ_ _ _=>none)
  (λ_=>none)
  (λ_ _ _ _ _ _=>none)
  (λ_ _ _ _ _=>none)
  (λ_ _ _ _ _ _=>none)
  (λ_=>none)
  (λ_ _=>none)
  (λ_=>none)
  (λ_ _ _ _ _ _=>none)
  (λ_ _ _=>none)
  (λ_ _ _=>none)
  (λ_=>none)
  (λ_ _ _ _=>none)
  ⟨⟩ (λ_ _ _ _=>⟨⟩) v
def APF(v:V):(V)->Option Bool:=
 V.rec (motive_1:=λ_=>(V)->Option Bool) (motive_2:=λ_=>PUnit)
  (λ_=>none)
  (λ_ _ _ _=>none)
  (λ_ _=>none)
  (λ_ _ _=>none)
  (λy=>AO2 y)
  (λa b y=>AUA y a b)
  (λ_ _ y=>AOg y)
  (λ_=>none)
  (λ_ _ _ _ _ _=>none)
  (λ_ _ _ _ _=>none)
  (λ_ _ _ _ _ _=>none)
  (λ_=>none)
  (λ_ _=>none)
  (λ_=>none)
  (λ_ _ _ _ _ _=>none)
  (λ_ _ _=>none)
  (λ_ _ _=>none)
  (λ_=>none)
  (λ_ _ _ _=>none)
  ⟨⟩ (λ_ _ _ _=>⟨⟩) v
def AQe(v:V):Option Bool:=
 V.rec (motive_1:=λ_=>Option Bool) (motive_2:=λ_=>PUnit)
  (none)
  (λ_ _ _=>none)
  (λ_=>none)
  (λ_ _=>none)
  (none)
  (λ_ _=>none)
  (λ_ _=>none)
  (some true)
  (λ_ _ _ _ _=>some false)
  (λ_ _ _ _=>some false)
  (λ_ _ _ _ _=>some false)
  (none)
  (λ_=>none)
  (none)
  (λ_ _ _ _ _=>none)
  (λ_ _=>none)
  (λ_ _=>none)
  (none)
  (λ_ _ _=>none)
  ⟨⟩ (λ_ _ _ _=>⟨⟩) v
def kX(v:V):Option Bool:=
 V.rec (motive_1:=λ_=>Option Bool) (motive_2:=λ_=>PUnit)
  (none)
  (λ_ _ _=>none)
  (λ_=>none)
  (λ_ _=>none)
  (none)
  (λ_ _=>none)
  (λ_ _=>none)
  (some false)
  (λ_ _ _ _ _=>none)
  (λ_ _ _ _=>none)
  (λ_ _ _ _ _=>none)
  (none)
  (λ_=>none)
  (none)
  (λ_ _ _ _ _=>none)
  (λ_ _=>none)
  (λ_ _=>none)
  (none)
  (λ_ _ _=>none)
  ⟨⟩ (λ_ _ _ _=>⟨⟩) v
def AOM(v:V):Option Bool:=
 V.rec (motive_1:=λ_=>Option Bool) (motive_2:=λ_=>PUnit)
  (none)
  (λ_ _ _=>none)
  (λ_=>none)
  (λ_ _=>none)
  (none)
  (λ_ _=>none)
  (λ_ _=>none)
  (none)
  (λ_ _ _ _ _=>none)
  (λ_ _ _ _=>none)
  (λ_ _ _ _ _=>none)
  (none)
  (λ_=>none)
  (some true)
  (λ_ _ _ _ _=>some false)
  (λ_ _=>none)
  (λ_ _=>none)
  (none)
  (λ_ _ _=>none)
  ⟨⟩ (λ_ _ _ _=>⟨⟩) v
def AMG(v:V):Option Bool:=
 V.rec (motive_1:=λ_=>Option Bool) (motive_2:=λ_=>PUnit)
  (none)
  (λ_ _ _=>none)
  (λ_=>none)
  (λ_ _=>none)
  (none)
  (λ_ _=>none)
  (λ_ _=>none)
  (none)
  (λ_ _ _ _ _=>none)
  (λ_ _ _ _=>none)
  (λ_ _ _ _ _=>none)
  (none)
  (λ_=>none)
  (some false)
  (λ_ _ _ _ _=>none)
  (λ_ _=>none)
  (λ_ _=>none)
  (none)
  (λ_ _ _=>none)
  ⟨⟩ (λ_ _ _ _=>⟨⟩) v
def AOB(v:V):Option Bool:=
 V.rec (motive_1:=λ_=>Option Bool) (motive_2:=λ_=>PUnit)
  (none)
  (λ_ _ _=>none)
  (λ_=>none)
  (λ_ _=>none)
  (none)
  (λ_ _=>none)
  (λ_ _=>none)
  (none)
  (λ_ _ _ _ _=>none)
  (λ_ _ _ _=>none)
  (λ_ _ _ _ _=>none)
  (some true)
  (λ_=>some false)
  (none)
  (λ_ _ _ _ _=>none)
  (λ_ _=>none)
  (λ_ _=>none)
  (none)
  (λ_ _ _=>none)
  ⟨⟩ (λ_ _ _ _=>⟨⟩) v
def ALd(v:V):Option Bool:=
 V.rec (motive_1:=λ_=>Option Bool) (motive_2:=λ_=>PUnit)
  (none)
  (λ_ _ _=>none)
  (λ_=>none)
  (λ_ _=>none)
  (none)
  (λ_ _=>none)
  (λ_ _=>none)
  (none)
  (λ_ _ _ _ _=>none)
  (λ_ _ _ _=>none)
  (λ_ _ _ _ _=>none)
  (some false)
  (λ_=>none)
  (none)
  (λ_ _ _ _ _=>none)
  (λ_ _=>none)
  (λ_ _=>none)
  (none)
  (λ_ _ _=>none)
  ⟨⟩ (λ_ _ _ _=>⟨⟩) v
def kSl(v:V):(V)->Option Bool:=
 V.rec (motive_1:=λ_=>(V)->Option Bool) (motive_2:=λ_=>PUnit)
  (λ_=>none)
  (λ_ _ _ _=>none)
  (λ_ _=>none)
  (λ_ _ _=>none)
  (λ_=>none)
  (λ_ _ _=>none)
  (λ_ _ _=>none)
  (λy=>AQe y)
  (λ_ _ _ _ _ y=>kX y)
  (λ_ _ _ _ y=>kX y)
  (λ_ _ _ _ _ y=>kX y)
  (λ_=>none)
  (λ_ _=>none)
  (λ_=>none)
  (λ_ _ _ _ _ _=>none)
  (λ_ _ _=>none)
  (λ_ _ _=>none)
  (λ_=>none)
  (λ_ _ _ _=>none)
  ⟨⟩ (λ_ _ _ _=>⟨⟩) v
def kFn(v:V):(V)->Option Bool:=
 V.rec (motive_1:=λ_=>(V)->Option Bool) (motive_2:=λ_=>PUnit)
  (λ_=>none)
  (λ_ _ _ _=>none)
  (λ_ _=>none)
  (λ_ _ _=>none)
  (λ_=>none)
  (λ_ _ _=>none)
  (λ_ _ _=>none)
  (λ_=>none)
  (λ_ _ _ _ _ _=>none)
  (λ_ _ _ _ _=>none)
  (λ_ _ _ _ _ _=>none)
  (λ_=>none)
  (λ_ _=>none)
  (λy=>AOM y)
  (λ_ _ _ _ _ y=>AMG y)
  (λ_ _ _=>none)
  (λ_ _ _=>none)
  (λ_=>none)
  (λ_ _ _ _=>none)
  ⟨⟩ (λ_ _ _ _=>⟨⟩) v
def AVD(v:V):(V)->Option Bool:=
 V.rec (motive_1:=λ_=>(V)->Option Bool) (motive_2:=λ_=>PUnit)
  (λ_=>none)
  (λ_ _ _ _=>none)
  (λ_ _=>none)
  (λ_ _ _=>none)
  (λ_=>none)
  (λ_ _ _=>none)
  (λ_ _ _=>none)
  (λ_=>none)
  (λ_ _ _ _ _ _=>none)
  (λ_ _ _ _ _=>none)
  (λ_ _ _ _ _ _=>none)
  (λy=>AOB y)
  (λ_ y=>ALd y)
  (λ_=>none)
  (λ_ _ _ _ _ _=>none)
  (λ_ _ _=>none)
  (λ_ _ _=>none)
  (λ_=>none)
  (λ_ _ _ _=>none)
  ⟨⟩ (λ_ _ _ _=>⟨⟩) v
def gB(o:Option Bool)(f:Bool->Option Bool):Option Bool:=Option.rec (motive:=λ_=>(Bool->Option Bool)->Option Bool) (λ_=>none) (λv f=>f v) o f
inductive CK where
 |int|str|bool|ptr
def CK.eq(k:CK):V->V->Option Bool:=CK.rec (motive:=λ_=>V->V->Option Bool) AKV AJX AEC APF k
def ACW(ks:List CK):List V->List V->Option Bool:=
 List.rec (motive:=λ_=>List V->List V->Option Bool) (λa b=>List.rec (motive:=λ_=>Option Bool) (List.rec (motive:=λ_=>Option Bool) (some true) (λ_ _ _=>none) b) (λ_ _ _=>none) a)
  (λk _ g a b=>List.rec (motive:=λ_=>Option Bool) none (λx xs _=>List.rec (motive:=λ_=>Option Bool) none (λy ys _=>gB (k.eq x y) λr=>gB (g xs ys) λr'=>some (band r r')) b) a) ks
def ATj(v:V):(List CK)->(LV)->Option Bool:=
 V.rec (motive_1:=λ_=>(List CK)->(LV)->Option Bool) (motive_2:=λ_=>PUnit)
  (λ_ _=>none)
  (λ_ _ _ _ _=>none)
  (λ_ _ _=>none)
  (λ_ _ _ _=>none)
  (λ_ _=>none)
  (λ_ _ _ _=>none)
  (λ_ _ _ _=>none)
  (λ_ _=>none)
  (λ_ _ _ _ _ _ _=>none)
  (λ_ _ _ _ _ _=>none)
  (λ_ _ _ _ _ _ _=>none)
  (λ_ _=>none)
  (λ_ _ _=>none)
  (λ_ _=>none)
  (λ_ _ _ _ _ _ _=>none)
  (λa _ ks l=>ACW ks l a)
  (λ_ _ _ _=>none)
  (λ_ _=>none)
  (λ_ _ _ _ _=>none)
  ⟨⟩ (λ_ _ _ _=>⟨⟩) v
def AU1(v:V):(List CK)->(V)->Option Bool:=
 V.rec (motive_1:=λ_=>(List CK)->(V)->Option Bool) (motive_2:=λ_=>PUnit)
  (λ_ _=>none)
  (λ_ _ _ _ _=>none)
  (λ_ _ _=>none)
  (λ_ _ _ _=>none)
  (λ_ _=>none)
  (λ_ _ _ _=>none)
  (λ_ _ _ _=>none)
  (λ_ _=>none)
  (λ_ _ _ _ _ _ _=>none)
  (λ_ _ _ _ _ _=>none)
  (λ_ _ _ _ _ _ _=>none)
  (λ_ _=>none)
  (λ_ _ _=>none)
  (λ_ _=>none)
  (λ_ _ _ _ _ _ _=>none)
  (λa _ ks y=>ATj y ks a)
  (λ_ _ _ _=>none)
  (λ_ _=>none)
  (λ_ _ _ _ _=>none)
  ⟨⟩ (λ_ _ _ _=>⟨⟩) v
inductive EK where
 |one (k:CK)|agg (ks:List CK)|sl|fn|map
def EK.eq(k:EK):V->V->Option Bool:=EK.rec (motive:=λ_=>V->V->Option Bool) (λk=>k.eq) (λks x y=>AU1 x ks y) kSl kFn AVD k
inductive B2 where
 |add|sub|mul|quo|rem|and|or|xor|andNot|shl|shr|lss|leq|gtr|geq
def AM8(f:Int->Int->Bool)(x y:V):Option V:=x.Hw λk a s=>y.Hw λk' b t=>BO (band (keq k k') (Nat.beq (Nat.add s t) 0)) (mkB (f a b))
def AIC(f:Nat->Nat->Nat->Nat->Bool)(x y:V):Option V:=x.TB λl c=>y.TB λm d=>mkB (f l c m d)
def ari(f:Int->Int->Int)(x y:V):Option V:=x.Hw λk a s=>y.Hw λk' b t=>BO (keq k k') (mkI k (f a b) (Nat.add s t))
def dvs(f:Int->Int->Int)(x y:V):Option V:=
 x.Hw λk a s=>y.Hw λk' b t=>BO (band (keq k k') (band (Nat.beq t 0) (YN (ieq b 0)))) (mkI k (f a b) s)
def AWG(x y:V):Option V:=
 x.Hw λk a s=>y.Hw λk' b t=>BO (band (keq k k') (band (Nat.beq t 0) (YN (ieq b 0)))) (mkN k (Int.tmod a b) s)
def AYs(x y:V):Option V:=x.TB λl c=>y.TB λm d=>BO (Nat.blt (Nat.add l m) 9223372036854775808) (Dy (Nat.add l m) λn=>Dy (AWg l c d) λe=>some (.str n e))
def AVu(x y:V):Option V:=AAn (isStr x) (AYs x y) (ari AG6 x y)
def AYq(x y:V):Option V:=ari (λa b=>AG6 a (Int.neg b)) x y
def AYG(x y:V):Option V:=ari Int.mul x y
def ARm(k:IntKind)(a b:Int):Int:=Int.rec (motive:=λ_=>Int->IntKind->Int)
 (λm b k=>Int.rec (motive:=λ_=>Nat->IntKind->Int) (λn m k=>Vd k (.ofNat (Nat.land m n))) (λn m k=>bits .and k (.ofNat m) (.negSucc n)) b m k)
 (λm b k=>bits .and k (.negSucc m) b) a b k
def AXB(x y:V):Option V:=x.Hw λk a s=>y.Hw λk' b t=>BO (band (keq k k') (Nat.beq (Nat.add s t) 0)) (Pj (ARm k a b) λm=>some (.int k m 0))
def AO6(o:BinOp)(x y:V):Option V:=x.Hw λk a s=>y.Hw λk' b t=>BO (band (keq k k') (Nat.beq (Nat.add s t) 0)) (Pj (bits o k a b) λm=>some (.int k m 0))
def AV5(a:Int)(n:Nat):Int:=Int.fdiv a (Int.ofNat (Nat.pow 2 n))
def AB6(k:IntKind):Nat:=IntKind.rec 8 16 32 64 8 16 32 64 k
def AUr(x y:V):Option V:=x.Hw λk a s=>y.Hw λ_ b t=>BO (band (YN (ilt b 0)) (Nat.beq (Nat.add s t) 0)) (Pj (AV5 a (Nat.min (Int.toNat b) (AB6 k))) λm=>some (.int k m 0))
def AUe(x y:V):Option V:=x.Hw λk a s=>y.Hw λ_ b t=>BO (band (YN (ilt b 0)) (Nat.beq (Nat.add s t) 0)) (mkI k (Int.mul a (Int.ofNat (Nat.pow 2 (Nat.min (Int.toNat b) (AB6 k))))) 0)
def ofB(o:Option Bool):Option V:=Option.rec none mkB o
def EU(k:EK)(neg:Bool)(x y:V):Option V:=ofB (gB (k.eq x y) λb=>some (Bool.rec (motive:=λ_=>Bool->Bool) (λb=>b) YN neg b))
def AVS(x y:V):Option V:=AAn (isStr x) (AIC slt x y) (AM8 ilt x y)
def AV3(x y:V):Option V:=AAn (isStr x) (AIC (λl c m d=>YN (slt m d l c)) x y) (AM8 ile x y)
def AWL(x y:V):Option V:=AAn (isStr x) (AIC (λl c m d=>slt m d l c) x y) (AM8 (λa b=>ilt b a) x y)
def AVs(x y:V):Option V:=AAn (isStr x) (AIC (λl c m d=>YN (slt l c m d)) x y) (AM8 (λa b=>ile b a) x y)
def B2.ev(o:B2):V->V->Option V:=B2.rec (motive:=λ_=>V->V->Option V)
 AVu AYq AYG (dvs Int.tdiv) AWG AXB (AO6 .or) (AO6 .xor) (AO6 .andNot) AUe AUr AVS AV3 AWL AVs o
end Go.Eng
namespace Go.PQ
open Go.Eng
def q0:P2:=.h
def q1:P2:=.z q0
def q2:P2:=.o q0
def q3:P2:=.z q1
def q4:P2:=.o q1
def q5:P2:=.z q2
def q6:P2:=.o q2
def q7:P2:=.z q3
def q8:P2:=.o q3
def q9:P2:=.z q4
def q10:P2:=.o q4
def q11:P2:=.z q5
def q12:P2:=.o q5
def q13:P2:=.z q6
def q14:P2:=.o q6
def q15:P2:=.z q7
def q16:P2:=.o q7
def q17:P2:=.z q8
def q18:P2:=.o q8
def q19:P2:=.z q9
def q20:P2:=.o q9
def q21:P2:=.z q10
def q22:P2:=.o q10
def q23:P2:=.z q11
def q24:P2:=.o q11
def q26:P2:=.o q12
def q27:P2:=.z q13
def q28:P2:=.o q13
def q29:P2:=.z q14
def q30:P2:=.o q14
def q31:P2:=.z q15
def q34:P2:=.o q16
def q35:P2:=.z q17
def q37:P2:=.z q18
def q39:P2:=.z q19
def q40:P2:=.o q19
def q41:P2:=.z q20
def q46:P2:=.o q22
def q50:P2:=.o q24
def q55:P2:=.z q27
def q56:P2:=.o q27
def q57:P2:=.z q28
def q58:P2:=.o q28
def q60:P2:=.o q29
def q63:P2:=.z q31
def q71:P2:=.z q35
def q94:P2:=.o q46
def AaY:P2:=.z q50
def AaT:P2:=.z q55
def Aaj:P2:=.z q60
def AZs:P2:=.z q71
abbrev iZ:Nat:=3
abbrev iG:Nat:=5
abbrev Xm:Nat:=6
abbrev bD:Nat:=7
abbrev gY:Nat:=8
abbrev dO:Nat:=9
abbrev fB:Nat:=10
abbrev AFd:Nat:=11
abbrev lN:Nat:=12
abbrev L8:Nat:=13
abbrev FD:Nat:=14
abbrev IY:Nat:=15
abbrev EO:Nat:=16
abbrev QA:Nat:=17
abbrev Jw:Nat:=18
abbrev CP:Nat:=19
abbrev Py:Nat:=20
abbrev bP:Nat:=21
abbrev Xd:Nat:=22
abbrev Nb:Nat:=23
abbrev Xz:Nat:=24
abbrev EL:Nat:=25
abbrev I5:Nat:=26
abbrev EP:Nat:=27
abbrev Jy:Nat:=28
abbrev fJ:Nat:=29
abbrev fE:Nat:=30
abbrev YZ:Nat:=31
abbrev EH:Nat:=32
abbrev MR:Nat:=33
abbrev VK:Nat:=34
abbrev Zn:Nat:=36
abbrev lQ:Nat:=37
abbrev XO:Nat:=38
abbrev BL:Nat:=39
abbrev Dw:Nat:=40
abbrev Ak:Nat:=41
abbrev Kt:Nat:=42
abbrev KH:Nat:=43
abbrev Dl:Nat:=44
abbrev WE:Nat:=45
abbrev DN:Nat:=46
abbrev CY:Nat:=47
abbrev Lp:Nat:=48
abbrev KZ:Nat:=49
abbrev OD:Nat:=50
abbrev TR:Nat:=51
abbrev pK:Nat:=52
abbrev UN:Nat:=53
abbrev qR:Nat:=54
abbrev oD:Nat:=55
abbrev ACH:Nat:=56
abbrev ak:Nat:=57
abbrev zD:Nat:=58
abbrev BF:Nat:=59
abbrev lI:Nat:=60
abbrev Gs:Nat:=63
abbrev DY:Nat:=66
abbrev TM:Nat:=67
abbrev JU:Nat:=68
abbrev Dp:Nat:=69
abbrev Lr:Nat:=70
abbrev VX:Nat:=71
abbrev VT:Nat:=72
abbrev UK:Nat:=74
abbrev AFc:Nat:=77
abbrev AEP:Nat:=78
abbrev KG:Nat:=79
abbrev Fq:Nat:=80
abbrev Yo:Nat:=83
abbrev Dh:Nat:=84
abbrev vS:Nat:=85
abbrev lK:Nat:=86
abbrev CS:Nat:=87
abbrev Ce:Nat:=88
abbrev GK:Nat:=89
abbrev Xf:Nat:=90
abbrev P7:Nat:=91
abbrev QX:Nat:=92
abbrev QM:Nat:=93
abbrev Oo:Nat:=94
abbrev Tq:Nat:=95
abbrev QB:Nat:=96
abbrev Nq:Nat:=97
abbrev X0:Nat:=98
abbrev Ig:Nat:=99
abbrev RU:Nat:=100
abbrev KQ:Nat:=101
abbrev Df:Nat:=102
abbrev P6:Nat:=103
abbrev aT:Nat:=104
abbrev Pn:Nat:=105
abbrev X4:Nat:=108
abbrev Yt:Nat:=111
abbrev WM:Nat:=112
abbrev TK:Nat:=113
abbrev gJ:Nat:=114
abbrev XK:Nat:=2
end Go.PQ
namespace Go.Eng
inductive AN where
 |mv (x:X)
 |pick (c a b:X)
 |ld1 (x:X)
 |ldn (n:Nat) (x:X)
 |AN8 (x:X)
 |bin (o:B2) (x y:X)
 |eq (k:EK) (neg:Bool) (x y:X)
 |not (x:X)
 |neg (x:X)
 |cvi (k:IntKind) (x:X)
 |AZy (f:Nat) (first caps:List X)
 |AYK (off:Nat) (x:X)
 |field1 (off:Nat) (x:X)
 |AVh (off n:Nat) (x:X)
 |AY0 (esz:Nat) (x i:X)
 |AXJ (n esz:Nat) (x i:X)
 |Aal (x i:X)
 |Aab (n:Nat) (x i:X)
 |ext (x:X) (i:Nat)
 |Aae (x:X)
 |AZg (x:X)
 |AYS (x:X)
 |AZj (n:Nat)
 |look (c:CK) (ok:Bool) (zero:V) (m k:X)
 |build (zero:List V) (parts:List (Nat×Nat×X))
 |AXo (x:X) (lo hi:Option X)
 |slc (esz:Nat) (x:X) (lo hi mx:Option X)
 |AZm (n esz:Nat) (x:X) (lo hi:Option X)
 |AaM (x y:X)
 |AaZ (x y:X)
 |cvS (x:X)
 |ATU (s c:X)
 |AIC (x y:X)
inductive AA where
 |alloc (esz:Nat) (es:List (List V))
 |box (x:X)
 |AGO (esz cnt:Nat) (zero:List V) (parts:List (Nat×X))
 |ACk (esz bytes:Nat) (zero:List V) (l c:X)
 |APS
 |VD (t e:Nat)
inductive AE where
 |asg (x:X)
 |st (n:Nat) (x v:X)
 |app (esz bytes:Nat) (x y:X)
 |copy (esz:Nat) (x y:X)
 |AJ5 (c:CK) (m k v:X)
 |del (c:CK) (m k:X)
 |AXe (m:X)
 |call (f:Nat) (args:List X)
 |ALC (x:X) (args:List X)
 |defer (dp:P2) (x:X) (args:List X)
 |cvB (x:X)
inductive AO where
 |n (o:AN)|a (o:AA)|e (o:AE)
inductive rP where
 |no|to (p:P2)|ps
inductive Gd where
 |no|on (x:X) (b:Bool)
inductive yJ where
 |mk (d:rP) (g:Gd) (o:AO)
def APJ(n:Int):(Nat->Option V)->Option V:=Int.rec (motive:=λ_=>(Nat->Option V)->Option V) (λm f=>f m) (λ_ _=>none) n
def WA(v:V)(f:Nat->Option V):Option V:=v.Hw λ_ n s=>BO (Nat.beq s 0) (APJ n f)
def Zk(x:Option X):RS->Nat->(Nat->Option V)->Option V:=
 Option.rec (motive:=λ_=>RS->Nat->(Nat->Option V)->Option V) (λ_ d f=>f d) (λx R _ f=>WA (x.ev R) f) x
def f3(a b c:Nat)(f:Nat->Nat->Nat->V):Option V:=Dy a λa=>Dy b λb=>Dy c λc=>some (f a b c)
def AEO(R:RS)(lo hi mx:Option X):Option V:=Zk mx R 0 λm=>Zk hi R 0 λh=>Zk lo R 0 λl=>BO (band (Nat.ble l h) (band (Nat.ble h m) (Nat.beq m 0))) (some .Ad)
def AIB(z:Nat)(R:RS)(lo hi mx:Option X)(id off ln cap esz:Nat):Option V:=BO (Nat.beq z esz) (Zk mx R cap λm=>Zk hi R ln λh=>Zk lo R 0 λl=>
 BO (band (Nat.ble l h) (band (Nat.ble h m) (Nat.ble m cap))) (f3 (Nat.add off l) (Nat.sub h l) (Nat.sub m l) λo d c=>.sl id o d c esz))
def ACs(R:RS)(lo hi:Option X)(id off ln esz:Nat):Option V:=Zk hi R ln λh=>Zk lo R 0 λl=>
 BO (band (Nat.ble l h) (Nat.ble h ln)) (f3 (Nat.add off l) (Nat.sub h l) 0 λo d _=>.QF id o d esz)
def AC3(R:RS)(lo hi:Option X)(mx:X)(id off ln esz:Nat):Option V:=WA (mx.ev R) λm=>Zk hi R 0 λh=>Zk lo R 0 λl=>
 BO (band (Nat.ble l h) (band (Nat.ble h m) (Nat.ble m ln))) (f3 (Nat.add off l) (Nat.sub h l) (Nat.sub m l) λo d c=>.sl id o d c esz)
def AAY(z:Nat)(R:RS)(lo hi mx:Option X)(id off ln esz:Nat):Option V:=
 BO (Nat.beq z esz) (Option.rec (motive:=λ_=>Option V) (ACs R lo hi id off ln esz) (λmx=>AC3 R lo hi mx id off ln esz) mx)
def AEV(z:Nat)(R:RS)(lo hi mx:Option X)(b off ln cap esz:Nat):Option V:=Zk hi R ln λh=>Zk lo R 0 λl=>
 Option.rec (motive:=λ_=>Option V) (BO (band (Nat.ble l h) (Nat.ble h cap)) (f3 (Nat.add off (Nat.mul l z)) (Nat.sub h l) (Nat.sub cap l) λo d c=>.rsl b o d c esz)) (λ_=>none) mx
def AIM(z:Nat)(x:V)(R:RS)(lo hi mx:Option X):Option V:=x.AR2 (AEO R lo hi mx) (AIB z R lo hi mx) (AAY z R lo hi mx) (AEV z R lo hi mx)
def Zy(x:V)(R:RS)(lo hi:Option X):Option V:=
 x.TB λln c=>Zk hi R ln λh=>Zk lo R 0 λl=>BO (band (Nat.ble l h) (Nat.ble h ln)) (f3 (Nat.sub h l) (AOn c l h) 0 λd c _=>.str d c)
def BN(esz:Nat)(x i:V):Option V:=WA i λi=>x.AR2 none
 (λid off ln _ e=>BO (band (Nat.beq e esz) (Nat.blt i ln)) (Dy (Nat.mul (Nat.add off i) esz) λo=>some (.ptr id o)))
 (λid off ln e=>BO (band (Nat.beq e esz) (Nat.blt i ln)) (Dy (Nat.mul (Nat.add off i) esz) λo=>some (.ptr id o)))
 (λb off ln _ _=>BO (Nat.blt i ln) (Dy (Nat.add off (Nat.mul i esz)) λo=>some (.XJ b o)))
def AU(off:Nat)(x:V):Option V:=x.AFe (λid o=>Dy (Nat.add o off) λo=>some (.ptr id o)) (λb o=>Dy (Nat.add o off) λo=>some (.XJ b o))
abbrev ME:=List (V×V×Nat)
def ABz(c:CK)(k:V)(es:ME):Nat->Option (Option (Nat×V)):=
 List.rec (motive:=λ_=>Nat->Option (Option (Nat×V))) (λ_=>some none)
  (λe _ g i=>DJ (c.eq e.1 k) λr=>Bool.rec (g (Nat.succ i)) (some (some (i,e.2.1))) r) es
def Aaa(b:RQ):(ME->Nat->Option V)->Option V:=RQ.rec (motive:=λ_=>(ME->Nat->Option V)->Option V) (λ_ _ _ _=>none) (λes c f=>f es c) (λ_=>none) (λ_ _ _ _ _ _=>none) (λ_ _=>none) b
def Vu(H:Heap)(m:V)(f:ME->Nat->Option V):Option V:=m.AJc (f [] 0) λid=>Option.rec (motive:=λ_=>(ME->Nat->Option V)->Option V) (λ_=>none) Aaa (T.get H id) f
def AB9(parts:List (Nat×Nat×X)):RS->List V->List V:=
 List.rec (motive:=λ_=>RS->List V->List V) (λ_ l=>l) (λp _ g R l=>g R (AK4 (Cb (p.2.2.ev R)) p.1 l)) parts
def jq(v:V):Bool:=
 V.rec (motive_1:=λ_=>Bool) (motive_2:=λ_=>PUnit)
  (false)
  (λ_ _ _=>true)
  (λ_=>true)
  (λ_ _=>true)
  (true)
  (λ_ _=>true)
  (λ_ _=>true)
  (true)
  (λ_ _ _ _ _=>true)
  (λ_ _ _ _=>true)
  (λ_ _ _ _ _=>true)
  (true)
  (λ_=>true)
  (true)
  (λ_ _ _ _ _=>true)
  (λ_ _=>true)
  (λ_ _=>false)
  (true)
  (λ_ _ _=>true)
  ⟨⟩ (λ_ _ _ _=>⟨⟩) v
def kD(parts:List (Nat×Nat×X)):RS->Bool:=
 List.rec (motive:=λ_=>RS->Bool) (λ_=>true) (λp _ g R=>band (band (jq (p.2.2.ev R)) (Nat.beq (len (Cb (p.2.2.ev R))) p.2.1)) (g R)) parts
abbrev Dv:=List LV
def DF(H:Heap)(id esz:Nat)(n:Nat):Nat->Option Dv:=
 Nat.rec (motive:=λ_=>Nat->Option Dv) (λ_=>some [])
  (λ_ g o=>DJ (lC H id (Nat.mul o esz) esz) λL=>DJ (g (Nat.succ o)) λLS=>some (L::LS)) n
def rY(G:AV)(b esz:Nat)(n:Nat):Nat->Option Dv:=
 Nat.rec (motive:=λ_=>Nat->Option Dv) (λ_=>some [])
  (λ_ g o=>DJ (G b o esz) λL=>DJ (g (Nat.add o esz)) λLS=>some (L::LS)) n
def Uj(n:Nat):Nat->Dv:=
 Nat.rec (motive:=λ_=>Nat->Dv) (λ_=>[]) (λ_ g c=>[.int .u8 (.ofNat (Nat.mod c 256)) 0]::g (Nat.div c 256)) n
def elems(v:V):(AV)->(Heap)->(Nat)->Option Dv:=
 V.rec (motive_1:=λ_=>(AV)->(Heap)->(Nat)->Option Dv) (motive_2:=λ_=>PUnit)
  (λ_ _ _=>none)
  (λ_ _ _ _ _ _=>none)
  (λ_ _ _ _=>none)
  (λa b _ _ z=>Bool.rec (motive:=λ_=>Option Dv) none (some (Uj a b)) (Nat.beq 1 z))
  (λ_ _ _=>none)
  (λ_ _ _ _ _=>none)
  (λ_ _ _ _ _=>none)
  (λ_ _ _=>some [])
  (λa b c _ e _ H z=>Bool.rec (motive:=λ_=>Option Dv) none (DF H a z c b) (Nat.beq e z))
  (λa b c d _ H z=>Bool.rec (motive:=λ_=>Option Dv) none (DF H a z c b) (Nat.beq d z))
  (λa b c _ _ G _ z=>rY G a z c b)
  (λ_ _ _=>none)
  (λ_ _ _ _=>none)
  (λ_ _ _=>none)
  (λ_ _ _ _ _ _ _ _=>none)
  (λ_ _ _ _ _=>none)
  (λ_ _ _ _ _=>none)
  (λ_ _ _=>none)
  (λ_ _ _ _ _ _=>none)
  ⟨⟩ (λ_ _ _ _=>⟨⟩) v
def byteOf(v:V):Option Nat:=
 V.rec (motive_1:=λ_=>Option Nat) (motive_2:=λ_=>PUnit)
  (none)
  (λa b c=>Int.rec (motive:=λ_=>Nat->Option Nat) (λm t=>Bool.rec none (some m) (band (Nat.beq (kno a) 4) (band (Nat.blt m 256) (Nat.beq t 0)))) (λ_ _=>none) b c)
  (λ_=>none)
  (λ_ _=>none)
  (none)
  (λ_ _=>none)
  (λ_ _=>none)
  (none)
  (λ_ _ _ _ _=>none)
  (λ_ _ _ _=>none)
  (λ_ _ _ _ _=>none)
  (none)
  (λ_=>none)
  (none)
  (λ_ _ _ _ _=>none)
  (λ_ _=>none)
  (λ_ _=>none)
  (none)
  (λ_ _ _=>none)
  ⟨⟩ (λ_ _ _ _=>⟨⟩) v
def AAF(l:Dv):Option Nat:=
 List.rec (motive:=λ_=>Option Nat) (some 0) (λx _ g=>DJ (nth x 0) λv=>DJ (byteOf v) λm=>DJ g λc=>some (Nat.add m (Nat.mul 256 c))) l
def dH(b:Nat)(f:Nat):Nat->Nat->Int:=
 Nat.rec (motive:=λ_=>Nat->Nat->Int) (λ_ _=>.negSucc 0)
  (λ_ g c i=>Bool.rec (g (Nat.div c 256) (Nat.succ i)) (.ofNat i) (Nat.beq (Nat.mod c 256) b)) f
abbrev qM:=AV->RS->Heap->Option V
def eMv(x:X):qM:=λ_ R _=>some (x.ev R)
def AMC(c a b:X):qM:=λ_ R _=>(c.ev R).rM λt=>AAn t (some (a.ev R)) (some (b.ev R))
def ARo(x:X):qM:=λG R H=>Pz (ldP (x.ev R) G H 1) λL=>nth L 0
def AS9(n:Nat)(x:X):qM:=λG R H=>Pz (ldP (x.ev R) G H n) λL=>some (.agg L)
def AHA(x:X):qM:=λ_ R _=>Bj (x.ev R)
def ARz(o:B2)(x y:X):qM:=λ_ R _=>o.ev (x.ev R) (y.ev R)
def eEq(k:EK)(neg:Bool)(x y:X):qM:=λ_ R _=>EU k neg (x.ev R) (y.ev R)
def ASn(x:X):qM:=λ_ R _=>(x.ev R).rM λb=>mkB (YN b)
def AR8(x:X):qM:=λ_ R _=>(x.ev R).Hw λk n s=>mkI k (Int.neg n) s
def AQ7(k:IntKind)(x:X):qM:=λ_ R _=>(x.ev R).Hw λ_ n s=>mkI k n s
def ALW(f:Nat)(a c:List X):qM:=λ_ R _=>some (.fn f (iH a R) (iH c R))
def AGu(off:Nat)(x:X):qM:=λ_ R _=>AU off (x.ev R)
def ACw(off:Nat)(x:X):qM:=λ_ R _=>(x.ev R).oI λl=>nth l off
def ACo(off n:Nat)(x:X):qM:=λ_ R _=>(x.ev R).oI λl=>some (.agg (Y0 n (lM off l)))
def AGA(esz:Nat)(x i:X):qM:=λ_ R _=>BN esz (x.ev R) (i.ev R)
def ACf(n esz:Nat)(x i:X):qM:=λ_ R _=>WA (i.ev R) λi=>BO (Nat.blt i n) (AU (Nat.mul i esz) (x.ev R))
def ALi(x i:X):qM:=λ_ R _=>(x.ev R).TB λln c=>WA (i.ev R) λi=>BO (Nat.blt i ln) (Dy (ANU c i) λb=>some (.int .u8 (.ofNat b) 0))
def AL2(n:Nat)(x i:X):qM:=λ_ R _=>(x.ev R).oI λl=>WA (i.ev R) λi=>BO (Nat.blt i n) (nth l i)
def AQ2(x:X)(i:Nat):qM:=λ_ R _=>(x.ev R).AJR λl=>nth l i
def ALR(x:X):qM:=λ_ R _=>(x.ev R).TB λn _=>some (.int .i64 (.ofNat n) 0)
def ALa(x:X):qM:=λ_ R _=>lenV (x.ev R)
def AMB(x:X):qM:=λ_ R H=>Vu H (x.ev R) λes _=>Dy (len es) λn=>some (.int .i64 (.ofNat n) 0)
def AYJ(n:Nat):qM:=λ_ _ _=>some (.int .i64 (.ofNat n) 0)
def AOC(ok:Bool)(z:V)(r:Option (Nat×V)):Option V:=
 Option.rec (motive:=λ_=>Option V) (AAn ok (some (.Jq [z,.bool false])) (some z)) (λp=>AAn ok (some (.Jq [p.2,.bool true])) (some p.2)) r
def AMJ(c:CK)(ok:Bool)(z:V)(m k:X):qM:=λ_ R H=>Vu H (m.ev R) λes _=>DJ (ABz c (k.ev R) es 0) (AOC ok z)
def AGw(z:LV)(ps:List (Nat×Nat×X)):qM:=λ_ R _=>BO (kD ps R) (some (.agg (AB9 ps R z)))
def AC9(x:X)(lo hi:Option X):qM:=λ_ R _=>Zy (x.ev R) R lo hi
def ARN(z:Nat)(x:X)(lo hi mx:Option X):qM:=λ_ R _=>AIM z (x.ev R) R lo hi mx
def ALI(n esz:Nat)(x:X)(lo hi:Option X):qM:=λ_ R _=>(x.ev R).AFe (λid o=>Zk hi R n λh=>Zk lo R 0 λl=>
 BO (band (Nat.beq (Nat.mod o esz) 0) (band (Nat.ble l h) (Nat.ble h n))) (f3 (Nat.add (Nat.div o esz) l) (Nat.sub h l) (Nat.sub n l) λa b c=>.sl id a b c esz)) (λ_ _=>none)
def ARg(x y:X):qM:=λ_ R _=>(x.ev R).Hw λk a s=>(y.ev R).Hw λk' b t=>BO (band (keq k k') (Nat.beq (Nat.add s t) 0)) (some (.int k (Bool.rec a b (ilt a b)) 0))
def ATW(x y:X):qM:=λ_ R _=>(x.ev R).Hw λk a s=>(y.ev R).Hw λk' b t=>BO (band (keq k k') (Nat.beq (Nat.add s t) 0)) (some (.int k (Bool.rec a b (ilt b a)) 0))
def ARj(x:X):qM:=λG R H=>BO (YN (isStr (x.ev R))) (DJ (elems (x.ev R) G H 1) λl=>DJ (AAF l) λc=>f3 (len l) c 0 λn c _=>.str n c)
def AG8(s c:X):qM:=λ_ R _=>(s.ev R).TB λn cd=>(c.ev R).Hw λk b _=>BO (Nat.beq (kno k) 4) (APJ b λb=>BO (Nat.blt b 256) (Pj (dH b n cd 0) λi=>some (.int .i64 i 0)))
def APW(x y:V):Option V:=x.TB λl c=>y.TB λm d=>some (.int .i64 (Bool.rec (Bool.rec (.ofNat 0) (.ofNat 1) (slt m d l c)) (.negSucc 0) (slt l c m d)) 0)
def AL6(x y:X):qM:=λ_ R _=>APW (x.ev R) (y.ev R)
def AN.ev(o:AN):qM:=AN.rec (motive:=λ_=>qM)
 eMv AMC ARo AS9 AHA ARz eEq ASn AR8 AQ7 ALW AGu ACw ACo AGA ACf ALi AL2 AQ2 ALR ALa AMB AYJ AMJ AGw AC9 ARN ALI ARg ATW ARj AG8 AL6 o
def AJ2(L:LV)(n:Nat):T LV->T LV:=
 Nat.rec (motive:=λ_=>T LV->T LV) (λt=>t) (λi g t=>g (T.set t i L)) n
def Fh(LS:Dv):Nat->T LV->T LV:=
 List.rec (motive:=λ_=>Nat->T LV->T LV) (λ_ t=>t) (λL _ g i t=>g (Nat.succ i) (T.set t i L)) LS
def kG(parts:List (Nat×X)):RS->T LV->T LV:=
 List.rec (motive:=λ_=>RS->T LV->T LV) (λ_ t=>t) (λp _ g R t=>g R (T.set t p.1 (Cb (p.2.ev R)))) parts
def Y9(parts:List (Nat×X)):RS->Nat->Nat->Bool:=
 List.rec (motive:=λ_=>RS->Nat->Nat->Bool) (λ_ _ _=>true) (λp _ g R esz cnt=>band (band (jq (p.2.ev R)) (band (Nat.blt p.1 cnt) (Nat.beq (len (Cb (p.2.ev R))) esz))) (g R esz cnt)) parts
def V.APP(v:V):(Nat->Prop)->Prop:=
 V.rec (motive_1:=λ_=>(Nat->Prop)->Prop) (motive_2:=λ_=>PUnit)
  (λ_=>False)
  (λ_ _ _ _=>False)
  (λ_ _=>False)
  (λ_ _ _=>False)
  (λ_=>False)
  (λa _ f=>f a)
  (λ_ _ _=>False)
  (λ_=>False)
  (λ_ _ _ _ _ _=>False)
  (λ_ _ _ _ _=>False)
  (λ_ _ _ _ _ _=>False)
  (λ_=>False)
  (λ_ _=>False)
  (λ_=>False)
  (λ_ _ _ _ _ _=>False)
  (λ_ _ _=>False)
  (λ_ _ _=>False)
  (λ_=>False)
  (λ_ _ _ _=>False)
  ⟨⟩ (λ_ _ _ _=>⟨⟩) v
def V.AAJ(v:V):(Nat->Nat->Prop)->Prop:=
 V.rec (motive_1:=λ_=>(Nat->Nat->Prop)->Prop) (motive_2:=λ_=>PUnit)
  (λ_=>False)
  (λ_ _ _ _=>False)
  (λ_ _=>False)
  (λ_ _ _=>False)
  (λ_=>False)
  (λa b f=>f a b)
  (λ_ _ _=>False)
  (λ_=>False)
  (λ_ _ _ _ _ _=>False)
  (λ_ _ _ _ _=>False)
  (λ_ _ _ _ _ _=>False)
  (λ_=>False)
  (λ_ _=>False)
  (λ_=>False)
  (λ_ _ _ _ _ _=>False)
  (λ_ _ _=>False)
  (λ_ _ _=>False)
  (λ_=>False)
  (λ_ _ _ _=>False)
  ⟨⟩ (λ_ _ _ _=>⟨⟩) v
abbrev KA:=RQ->(Nat->V)->Prop
abbrev AlT:=RS->KA->Prop
def Ed(b:Bool)(p:Prop):Prop:=Bool.rec (motive:=λ_=>Prop->Prop) (λ_=>False) (λp=>p) b p
def AGq(v:V)(f:Nat->Prop):Prop:=Hu (WA v λn=>some (.ptr n 0)) λv=>V.APP v f
def BA(esz:Nat)(es:Dv):AlT:=λ_ k=>ET (len es) λn=>k (.arr esz n (Fh es 0 .e)) λid=>.ptr id 0
def AEs(x:X):AlT:=λR k=>Ed (jq (x.ev R)) (ET (len (Cb (x.ev R))) λe=>k (.arr e 1 (T.set .e 0 (Cb (x.ev R)))) λid=>.ptr id 0)
def Aj(esz cnt:Nat)(z:LV)(ps:List (Nat×X)):AlT:=λR k=>Ed (Y9 ps R esz cnt) (k (.arr esz cnt (kG ps R (AJ2 z cnt .e))) λid=>.sl id 0 cnt cnt esz)
def Td(esz bs:Nat)(z:LV)(l c:X):AlT:=λR k=>AGq (l.ev R) λl=>AGq (c.ev R) λc=>
 Ed (band (Nat.ble l c) (Nat.ble (Nat.mul bs c) 281474976710656)) (k (.arr esz c (AJ2 z c .e)) λid=>.sl id 0 l c esz)
def AU0:AlT:=λ_ k=>k (.map [] 0) λid=>.map id
def APD(t e:Nat):AlT:=λ_ k=>k (.VD t e 0 0 0) λid=>.ptr id 0
def AA.al(o:AA):AlT:=AA.rec (motive:=λ_=>AlT) BA AEs Aj Td AU0 APD o
abbrev K:=J6->Heap->Nat->Prop
abbrev KV:=V->Heap->Nat->Prop
abbrev BP:=Nat->List V->Heap->Nat->KV->Prop
def QK(need bytes:Nat):Bool:=Nat.ble (Nat.mul need bytes) 140737488355328
abbrev AKl:=AV->Nat->Nat->Dv->Heap->Nat->KV->Prop
def O3(esz bs:Nat)(OS LS:Dv)(H:Heap)(n:Nat)(k:KV):Prop:=
 ET (Nat.add (len OS) (len LS)) λneed=>Ed (QK need bs) (ET n λn=>k (.QF n 0 need esz) (T.set H n (.arr esz need (Fh LS (len OS) (Fh OS 0 .e)))) (Nat.succ n))
def AUv:AKl:=λ_ esz bs LS H n k=>List.rec (motive:=λ_=>Prop) (k .Ad H n) (λ_ _ _=>O3 esz bs [] LS H n k) LS
def ADQ(id off ln cap esz need:Nat)(LS:Dv)(H:Heap)(n:Nat)(k:KV)(b:RQ):Prop:=
 RQ.rec (motive:=λ_=>Prop) (λesz' cnt c=>Ed (band (Nat.beq esz esz') (Nat.ble (Nat.add off need) cnt)) (k (.sl id off need cap esz) (T.set H id (.arr esz cnt (Fh LS (Nat.add off ln) c))) n)) (λ_ _=>False) False (λ_ _ _ _ _=>False) (λ_=>False) b
def AT1(id off ln cap e:Nat):AKl:=λ_ esz bs LS H n k=>Ed (Nat.beq e esz) (ET (Nat.add ln (len LS)) λneed=>
 Bool.rec (motive:=λ_=>Prop) (Hu (DF H id esz ln off) λOS=>O3 esz bs OS LS H n k) (Hu (T.get H id) λb=>ADQ id off ln cap esz need LS H n k b) (Nat.ble need cap))
def aJ(id off ln esz bs:Nat)(LS:Dv)(H:Heap)(n:Nat)(k:KV)(b:RQ):Prop:=
 RQ.rec (motive:=λ_=>Prop) (λesz' cnt c=>ET (Nat.add ln (len LS)) λneed=>Ed (band (QK need bs) (band (Nat.beq esz esz') (Nat.ble (Nat.add off ln) cnt)))
  (ET n λn=>Nat.rec (motive:=λ_=>Prop)
   (k (.QF n 0 need esz) (T.set (T.set H id .dead) n (.arr esz need (Fh LS ln c))) (Nat.succ n))
   (λ_ _=>Hu (DF H id esz ln off) λOS=>k (.QF n 0 need esz) (T.set (T.set H id .dead) n (.arr esz need (Fh LS ln (Fh OS 0 .e)))) (Nat.succ n)) off))
  (λ_ _=>False) False (λ_ _ _ _ _=>False) (λ_=>False) b
def AQc(id off ln e:Nat):AKl:=λ_ esz bs LS H n k=>Ed (Nat.beq e esz) (List.rec (motive:=λ_=>Prop) (k (.QF id off ln esz) H n)
 (λ_ _ _=>Hu (T.get H id) λb=>aJ id off ln esz bs LS H n k b) LS)
def APj(b off ln cap e:Nat):AKl:=λG esz bs LS H n k=>Ed (Nat.blt cap (Nat.add ln (len LS))) (Hu (rY G b esz ln off) λOS=>O3 esz bs OS LS H n k)
def Z7:AKl:=λ_ _ _ _ _ _ _=>False
def AI8(v:V):AKl:=
 V.rec (motive_1:=λ_=>AKl) (motive_2:=λ_=>PUnit)
  (Z7)
  (λ_ _ _=>Z7)
  (λ_=>Z7)
  (λ_ _=>Z7)
  (Z7)
  (λ_ _=>Z7)
  (λ_ _=>Z7)
  (AUv)
  (λa b c d e=>AT1 a b c d e)
  (λa b c d=>AQc a b c d)
  (λa b c d e=>APj a b c d e)
  (Z7)
  (λ_=>Z7)
  (Z7)
  (λ_ _ _ _ _=>Z7)
  (λ_ _=>Z7)
  (λ_ _=>Z7)
  (Z7)
  (λ_ _ _=>Z7)
  ⟨⟩ (λ_ _ _ _=>⟨⟩) v
def AW9(id off esz:Nat)(LS:Dv)(H:Heap)(n:Nat)(k:KV)(b:RQ):Prop:=
 RQ.rec (motive:=λ_=>Prop) (λesz' cnt c=>Ed (band (Nat.beq esz esz') (Nat.ble (Nat.add off (len LS)) cnt)) (ET (len LS) λm=>k (.int .i64 (.ofNat m) 0) (T.set H id (.arr esz cnt (Fh LS off c))) n)) (λ_ _=>False) False (λ_ _ _ _ _=>False) (λ_=>False) b
abbrev CpT:=Nat->Dv->Heap->Nat->KV->Prop
def ADP(id off ln:Nat):CpT:=λesz LS H n k=>Hu (T.get H id) λb=>AW9 id off esz (Y0 ln LS) H n k b
def AIR(v:V):(Nat)->(Dv)->(Heap)->(Nat)->(KV)->Prop:=
 V.rec (motive_1:=λ_=>(Nat)->(Dv)->(Heap)->(Nat)->(KV)->Prop) (motive_2:=λ_=>PUnit)
  (λ_ _ _ _ _=>False)
  (λ_ _ _ _ _ _ _ _=>False)
  (λ_ _ _ _ _ _=>False)
  (λ_ _ _ _ _ _ _=>False)
  (λ_ _ _ _ _=>False)
  (λ_ _ _ _ _ _ _=>False)
  (λ_ _ _ _ _ _ _=>False)
  (λ_ _ H n k=>k (.int .i64 (.ofNat 0) 0) H n)
  (λa b c _ e z L H n k=>Ed (Nat.beq e z) (ADP a b c z L H n k))
  (λa b c d z L H n k=>Ed (Nat.beq d z) (ADP a b c z L H n k))
  (λ_ _ _ _ _ _ _ _ _ _=>False)
  (λ_ _ _ _ _=>False)
  (λ_ _ _ _ _ _=>False)
  (λ_ _ _ _ _=>False)
  (λ_ _ _ _ _ _ _ _ _ _=>False)
  (λ_ _ _ _ _ _ _=>False)
  (λ_ _ _ _ _ _ _=>False)
  (λ_ _ _ _ _=>False)
  (λ_ _ _ _ _ _ _ _=>False)
  ⟨⟩ (λ_ _ _ _=>⟨⟩) v
def AEK{α:Type}(l:List α):Nat->List α:=
 List.rec (motive:=λ_=>Nat->List α) (λ_=>[]) (λy ys g i=>Nat.rec (motive:=λ_=>List α) ys (λi _=>y::g i) i) l
def AZD(b:RQ):(ME->Nat->Option RQ)->Option RQ:=RQ.rec (motive:=λ_=>(ME->Nat->Option RQ)->Option RQ) (λ_ _ _ _=>none) (λes c f=>f es c) (λ_=>none) (λ_ _ _ _ _ _=>none) (λ_ _=>none) b
def AXl(H:Heap)(id:Nat)(f:ME->Nat->Option RQ)(g:Heap->Prop):Prop:=Hu (T.get H id) λb=>Hu (AZD b f) λb=>g (T.set H id b)
def AGF(v:V):(Heap)->(ME->Nat->Option RQ)->(Heap->Prop)->Prop:=
 V.rec (motive_1:=λ_=>(Heap)->(ME->Nat->Option RQ)->(Heap->Prop)->Prop) (motive_2:=λ_=>PUnit)
  (λ_ _ _=>False)
  (λ_ _ _ _ _ _=>False)
  (λ_ _ _ _=>False)
  (λ_ _ _ _ _=>False)
  (λ_ _ _=>False)
  (λ_ _ _ _ _=>False)
  (λ_ _ _ _ _=>False)
  (λ_ _ _=>False)
  (λ_ _ _ _ _ _ _ _=>False)
  (λ_ _ _ _ _ _ _=>False)
  (λ_ _ _ _ _ _ _ _=>False)
  (λ_ _ _=>False)
  (λa H f g=>AXl H a f g)
  (λ_ _ _=>False)
  (λ_ _ _ _ _ _ _ _=>False)
  (λ_ _ _ _ _=>False)
  (λ_ _ _ _ _=>False)
  (λ_ _ _=>False)
  (λ_ _ _ _ _ _=>False)
  ⟨⟩ (λ_ _ _ _=>⟨⟩) v
def V.WR(v:V):(Nat->LV->LV->Prop)->Prop:=
 V.rec (motive_1:=λ_=>(Nat->LV->LV->Prop)->Prop) (motive_2:=λ_=>PUnit)
  (λ_=>False)
  (λ_ _ _ _=>False)
  (λ_ _=>False)
  (λ_ _ _=>False)
  (λ_=>False)
  (λ_ _ _=>False)
  (λ_ _ _=>False)
  (λ_=>False)
  (λ_ _ _ _ _ _=>False)
  (λ_ _ _ _ _=>False)
  (λ_ _ _ _ _ _=>False)
  (λ_=>False)
  (λ_ _=>False)
  (λ_=>False)
  (λa b c _ _ f=>f a b c)
  (λ_ _ _=>False)
  (λ_ _ _=>False)
  (λ_=>False)
  (λ_ _ _ _=>False)
  ⟨⟩ (λ_ _ _ _=>⟨⟩) v
def uG(v:V):LV:=
 V.rec (motive_1:=λ_=>LV) (motive_2:=λ_=>PUnit)
  ([])
  (λ_ _ _=>[])
  (λ_=>[])
  (λ_ _=>[])
  ([])
  (λ_ _=>[])
  (λ_ _=>[])
  ([])
  (λ_ _ _ _ _=>[])
  (λ_ _ _ _=>[])
  (λ_ _ _ _ _=>[])
  ([])
  (λ_=>[])
  ([])
  (λ_ _ _ _ _=>[])
  (λ_ _=>[])
  (λa _=>a)
  ([])
  (λ_ _ _=>[])
  ⟨⟩ (λ_ _ _ _=>⟨⟩) v
abbrev ExT:=AV->BP->RS->Heap->Nat->KV->Prop
def AaV(x:X):ExT:=λ_ _ R H n k=>k (x.ev R) H n
def xSt(sz:Nat)(x v:X):ExT:=λ_ _ R H n k=>Ed (band (jq (v.ev R)) (Nat.beq (len (Cb (v.ev R))) sz)) (Hu (stP (x.ev R) H sz (Cb (v.ev R))) λH=>k .undef H n)
def AZu(esz bs:Nat)(x y:X):ExT:=λG _ R H n k=>Hu (elems (y.ev R) G H esz) λLS=>AI8 (x.ev R) G esz bs LS H n k
def AYM(esz:Nat)(x y:X):ExT:=λG _ R H n k=>Hu (elems (y.ev R) G H esz) λLS=>AIR (x.ev R) esz LS H n k
def AUY(ck:CK)(key v:V)(es:ME)(c:Nat):Option RQ:=DJ (ABz ck key es 0) λr=>
 Option.rec (motive:=λ_=>Option RQ) (some (.map (cat es [(key,v,c)]) (Nat.succ c))) (λp=>DJ (nth es p.1) λe=>some (.map (ADc (e.1,v,e.2.2) es p.1) c)) r
def AW5(ck:CK)(key:V)(es:ME)(c:Nat):Option RQ:=DJ (ABz ck key es 0) λr=>
 Option.rec (motive:=λ_=>Option RQ) (some (.map es c)) (λp=>some (.map (AEK es p.1) c)) r
def AZa(c:CK)(m key v:X):ExT:=λ_ _ R H n k=>AGF (m.ev R) H (AUY c (key.ev R) (v.ev R)) λH=>k .undef H n
def AZ4(c:CK)(m key:X):ExT:=λ_ _ R H n k=>AGF (m.ev R) H (AW5 c (key.ev R)) λH=>k (.Jq []) H n
def AZr(m:X):ExT:=λ_ _ R H n k=>AGF (m.ev R) H (λ_ c=>some (.map [] c)) λH=>k (.Jq []) H n
def AY1(f:Nat)(args:List X):ExT:=λ_ call R H n k=>call f (iH args R) H n k
def AVC(x:X)(args:List X):ExT:=λ_ call R H n k=>V.WR (x.ev R) λf a c=>call f (cat a (cat (iH args R) c)) H n k
def AVL(dp:P2)(x:X)(args:List X):ExT:=λ_ _ R H n k=>V.WR (x.ev R) λf a c=>k (.Jq (.fn f (cat a (iH args R)) c::uG (Ns (T.Ea dp R.rg)))) H n
def AaG(x:X):ExT:=λ_ _ R H n k=>Hu ((x.ev R).TB λl c=>some (.ptr l c)) λv=>V.AAJ v λl c=>
 ET n λn=>k (.QF n 0 l 1) (T.set H n (.arr 1 l (Fh (Uj l c) 0 .e))) (Nat.succ n)
def AE.ex(o:AE):ExT:=AE.rec (motive:=λ_=>ExT) AaV xSt AZu AYM AZa AZ4 AZr AY1 AVC AVL AaG o
def AaK(p:P2)(v:V)(E:RS):RS:=RS.rec (motive:=λ_=>P2->V->RS) (λL R p v=>.mk L (T.aC v p R)) E p v
def AY3(v:V)(E:RS):RS:=RS.rec (motive:=λ_=>V->RS) (λL R v=>.mk (v::L) R) E v
def Gt(d:rP)(v:V):RS->RS:=rP.rec (motive:=λ_=>V->RS->RS) (λ_ R=>R) AaK AY3 d v
abbrev KE:=RS->Heap->Nat->Prop
abbrev XoT:=AV->BP->rP->RS->Heap->Nat->KE->Prop
def oN(o:AN):XoT:=λG _ d R H n k=>AP (o.ev G R H) λv=>k (Gt d v R) H n
def oA(o:AA):XoT:=λ_ _ d R H n k=>o.al R λb f=>ET n λn=>k (Gt d (f n) R) (T.set H n b) (Nat.succ n)
def oE(o:AE):XoT:=λG call d R H n k=>o.ex G call R H n λv H n=>k (Gt d v R) H n
def AO.ex(o:AO):XoT:=AO.rec (motive:=λ_=>XoT) oN oA oE o
def Ac(v:V)(b:Bool)(yes no:Prop):Prop:=v.AGg λt=>Bool.rec (motive:=λ_=>Prop->Prop->Prop) (λ_ n=>n) (λy _=>y) (AQD t b) yes no
def mZ(v:V):(Bool)->(Prop)->(Prop)->Prop:=
 V.rec (motive_1:=λ_=>(Bool)->(Prop)->(Prop)->Prop) (motive_2:=λ_=>PUnit)
  (λ_ _ _=>False)
  (λ_ _ _ _ _ _=>False)
  (λa b' yes no=>Bool.rec (motive:=λ_=>Prop->Prop->Prop) (λ_ n=>n) (λy _=>y) (AQD a b') yes no)
  (λ_ _ _ _ _=>False)
  (λ_ _ _=>False)
  (λ_ _ _ _ _=>False)
  (λ_ _ _ _ _=>False)
  (λ_ _ _=>False)
  (λ_ _ _ _ _ _ _ _=>False)
  (λ_ _ _ _ _ _ _=>False)
  (λ_ _ _ _ _ _ _ _=>False)
  (λ_ _ _=>False)
  (λ_ _ _ _=>False)
  (λ_ _ _=>False)
  (λ_ _ _ _ _ _ _ _=>False)
  (λ_ _ _ _ _=>False)
  (λa _ _ _ no=>List.rec (motive:=λ_=>Prop) no (λ_ _ _=>False) a)
  (λ_ _ _=>False)
  (λ_ _ _ _ _ _=>False)
  ⟨⟩ (λ_ _ _ _=>⟨⟩) v
abbrev XpT:=AV->BP->RS->Heap->Nat->KE->Prop
def gNo(d:rP)(o:AO):XpT:=λG call R H n k=>o.ex G call d R H n k
def gOn(x:X)(b:Bool)(d:rP)(o:AO):XpT:=λG call R H n k=>mZ (x.ev R) b (o.ex G call d R H n k) (k (Gt d (.Jq []) R) H n)
def yJ.ex(o:yJ):XpT:=yJ.rec (motive:=λ_=>XpT) (λd g o=>Gd.rec (motive:=λ_=>rP->AO->XpT) gNo gOn g d o) o
def AL4(v:V):(IntKind)->(Int)->(Nat)->Bool:=
 V.rec (motive_1:=λ_=>(IntKind)->(Int)->(Nat)->Bool) (motive_2:=λ_=>PUnit)
  (λ_ _ _=>false)
  (λa b c k n s=>band (keq k a) (band (ieq n b) (band (Nat.beq s 0) (Nat.beq c 0))))
  (λ_ _ _ _=>false)
  (λ_ _ _ _ _=>false)
  (λ_ _ _=>false)
  (λ_ _ _ _ _=>false)
  (λ_ _ _ _ _=>false)
  (λ_ _ _=>false)
  (λ_ _ _ _ _ _ _ _=>false)
  (λ_ _ _ _ _ _ _=>false)
  (λ_ _ _ _ _ _ _ _=>false)
  (λ_ _ _=>false)
  (λ_ _ _ _=>false)
  (λ_ _ _=>false)
  (λ_ _ _ _ _ _ _ _=>false)
  (λ_ _ _ _ _=>false)
  (λ_ _ _ _ _=>false)
  (λ_ _ _=>false)
  (λ_ _ _ _ _ _=>false)
  ⟨⟩ (λ_ _ _ _=>⟨⟩) v
def AKK(v:V):(Bool)->Bool:=
 V.rec (motive_1:=λ_=>(Bool)->Bool) (motive_2:=λ_=>PUnit)
  (λ_=>false)
  (λ_ _ _ _=>false)
  (λa x=>AQD x a)
  (λ_ _ _=>false)
  (λ_=>false)
  (λ_ _ _=>false)
  (λ_ _ _=>false)
  (λ_=>false)
  (λ_ _ _ _ _ _=>false)
  (λ_ _ _ _ _=>false)
  (λ_ _ _ _ _ _=>false)
  (λ_=>false)
  (λ_ _=>false)
  (λ_=>false)
  (λ_ _ _ _ _ _=>false)
  (λ_ _ _=>false)
  (λ_ _ _=>false)
  (λ_=>false)
  (λ_ _ _ _=>false)
  ⟨⟩ (λ_ _ _ _=>⟨⟩) v
def ALU(v:V):(Nat)->(Nat)->Bool:=
 V.rec (motive_1:=λ_=>(Nat)->(Nat)->Bool) (motive_2:=λ_=>PUnit)
  (λ_ _=>false)
  (λ_ _ _ _ _=>false)
  (λ_ _ _=>false)
  (λa b l m=>band (Nat.beq l a) (Nat.beq m b))
  (λ_ _=>false)
  (λ_ _ _ _=>false)
  (λ_ _ _ _=>false)
  (λ_ _=>false)
  (λ_ _ _ _ _ _ _=>false)
  (λ_ _ _ _ _ _=>false)
  (λ_ _ _ _ _ _ _=>false)
  (λ_ _=>false)
  (λ_ _ _=>false)
  (λ_ _=>false)
  (λ_ _ _ _ _ _ _=>false)
  (λ_ _ _ _=>false)
  (λ_ _ _ _=>false)
  (λ_ _=>false)
  (λ_ _ _ _ _=>false)
  ⟨⟩ (λ_ _ _ _=>⟨⟩) v
def AGM(v:V):Bool:=
 V.rec (motive_1:=λ_=>Bool) (motive_2:=λ_=>PUnit)
  (false)
  (λ_ _ _=>false)
  (λ_=>false)
  (λ_ _=>false)
  (true)
  (λ_ _=>false)
  (λ_ _=>false)
  (false)
  (λ_ _ _ _ _=>false)
  (λ_ _ _ _=>false)
  (λ_ _ _ _ _=>false)
  (false)
  (λ_=>false)
  (false)
  (λ_ _ _ _ _=>false)
  (λ_ _=>false)
  (λ_ _=>false)
  (false)
  (λ_ _ _=>false)
  ⟨⟩ (λ_ _ _ _=>⟨⟩) v
def AG4(v:V):Bool:=
 V.rec (motive_1:=λ_=>Bool) (motive_2:=λ_=>PUnit)
  (false)
  (λ_ _ _=>false)
  (λ_=>false)
  (λ_ _=>false)
  (false)
  (λ_ _=>false)
  (λ_ _=>false)
  (true)
  (λ_ _ _ _ _=>false)
  (λ_ _ _ _=>false)
  (λ_ _ _ _ _=>false)
  (false)
  (λ_=>false)
  (false)
  (λ_ _ _ _ _=>false)
  (λ_ _=>false)
  (λ_ _=>false)
  (false)
  (λ_ _ _=>false)
  ⟨⟩ (λ_ _ _ _=>⟨⟩) v
def AFq(v:V):Bool:=
 V.rec (motive_1:=λ_=>Bool) (motive_2:=λ_=>PUnit)
  (false)
  (λ_ _ _=>false)
  (λ_=>false)
  (λ_ _=>false)
  (false)
  (λ_ _=>false)
  (λ_ _=>false)
  (false)
  (λ_ _ _ _ _=>false)
  (λ_ _ _ _=>false)
  (λ_ _ _ _ _=>false)
  (true)
  (λ_=>false)
  (false)
  (λ_ _ _ _ _=>false)
  (λ_ _=>false)
  (λ_ _=>false)
  (false)
  (λ_ _ _=>false)
  ⟨⟩ (λ_ _ _ _=>⟨⟩) v
def AGt(v:V):Bool:=
 V.rec (motive_1:=λ_=>Bool) (motive_2:=λ_=>PUnit)
  (false)
  (λ_ _ _=>false)
  (λ_=>false)
  (λ_ _=>false)
  (false)
  (λ_ _=>false)
  (λ_ _=>false)
  (false)
  (λ_ _ _ _ _=>false)
  (λ_ _ _ _=>false)
  (λ_ _ _ _ _=>false)
  (false)
  (λ_=>false)
  (true)
  (λ_ _ _ _ _=>false)
  (λ_ _=>false)
  (λ_ _=>false)
  (false)
  (λ_ _ _=>false)
  ⟨⟩ (λ_ _ _ _=>⟨⟩) v
def AOh(v:V):(Nat)->(Nat)->Bool:=
 V.rec (motive_1:=λ_=>(Nat)->(Nat)->Bool) (motive_2:=λ_=>PUnit)
  (λ_ _=>false)
  (λ_ _ _ _ _=>false)
  (λ_ _ _=>false)
  (λ_ _ _ _=>false)
  (λ_ _=>false)
  (λa b l m=>band (Nat.beq l a) (Nat.beq m b))
  (λ_ _ _ _=>false)
  (λ_ _=>false)
  (λ_ _ _ _ _ _ _=>false)
  (λ_ _ _ _ _ _=>false)
  (λ_ _ _ _ _ _ _=>false)
  (λ_ _=>false)
  (λ_ _ _=>false)
  (λ_ _=>false)
  (λ_ _ _ _ _ _ _=>false)
  (λ_ _ _ _=>false)
  (λ_ _ _ _=>false)
  (λ_ _=>false)
  (λ_ _ _ _ _=>false)
  ⟨⟩ (λ_ _ _ _=>⟨⟩) v
def AJw(v:V):(Nat)->(Nat)->Bool:=
 V.rec (motive_1:=λ_=>(Nat)->(Nat)->Bool) (motive_2:=λ_=>PUnit)
  (λ_ _=>false)
  (λ_ _ _ _ _=>false)
  (λ_ _ _=>false)
  (λ_ _ _ _=>false)
  (λ_ _=>false)
  (λ_ _ _ _=>false)
  (λa b l m=>band (Nat.beq l a) (Nat.beq m b))
  (λ_ _=>false)
  (λ_ _ _ _ _ _ _=>false)
  (λ_ _ _ _ _ _=>false)
  (λ_ _ _ _ _ _ _=>false)
  (λ_ _=>false)
  (λ_ _ _=>false)
  (λ_ _=>false)
  (λ_ _ _ _ _ _ _=>false)
  (λ_ _ _ _=>false)
  (λ_ _ _ _=>false)
  (λ_ _=>false)
  (λ_ _ _ _ _=>false)
  ⟨⟩ (λ_ _ _ _=>⟨⟩) v
def AP1(v:V):(Nat)->Bool:=
 V.rec (motive_1:=λ_=>(Nat)->Bool) (motive_2:=λ_=>PUnit)
  (λ_=>false)
  (λ_ _ _ _=>false)
  (λ_ _=>false)
  (λ_ _ _=>false)
  (λ_=>false)
  (λ_ _ _=>false)
  (λ_ _ _=>false)
  (λ_=>false)
  (λ_ _ _ _ _ _=>false)
  (λ_ _ _ _ _=>false)
  (λ_ _ _ _ _ _=>false)
  (λ_=>false)
  (λa l=>Nat.beq l a)
  (λ_=>false)
  (λ_ _ _ _ _ _=>false)
  (λ_ _ _=>false)
  (λ_ _ _=>false)
  (λ_=>false)
  (λ_ _ _ _=>false)
  ⟨⟩ (λ_ _ _ _=>⟨⟩) v
def ASl(v:V):(Nat)->(Nat)->(Nat)->(Nat)->(Nat)->Bool:=
 V.rec (motive_1:=λ_=>(Nat)->(Nat)->(Nat)->(Nat)->(Nat)->Bool) (motive_2:=λ_=>PUnit)
  (λ_ _ _ _ _=>false)
  (λ_ _ _ _ _ _ _ _=>false)
  (λ_ _ _ _ _ _=>false)
  (λ_ _ _ _ _ _ _=>false)
  (λ_ _ _ _ _=>false)
  (λ_ _ _ _ _ _ _=>false)
  (λ_ _ _ _ _ _ _=>false)
  (λ_ _ _ _ _=>false)
  (λa b c d e i j k l m=>band (Nat.beq i a) (band (Nat.beq j b) (band (Nat.beq k c) (band (Nat.beq l d) (Nat.beq m e)))))
  (λ_ _ _ _ _ _ _ _ _=>false)
  (λ_ _ _ _ _ _ _ _ _ _=>false)
  (λ_ _ _ _ _=>false)
  (λ_ _ _ _ _ _=>false)
  (λ_ _ _ _ _=>false)
  (λ_ _ _ _ _ _ _ _ _ _=>false)
  (λ_ _ _ _ _ _ _=>false)
  (λ_ _ _ _ _ _ _=>false)
  (λ_ _ _ _ _=>false)
  (λ_ _ _ _ _ _ _ _=>false)
  ⟨⟩ (λ_ _ _ _=>⟨⟩) v
def ALx(v:V):(Nat)->(Nat)->(Nat)->(Nat)->Bool:=
 V.rec (motive_1:=λ_=>(Nat)->(Nat)->(Nat)->(Nat)->Bool) (motive_2:=λ_=>PUnit)
  (λ_ _ _ _=>false)
  (λ_ _ _ _ _ _ _=>false)
  (λ_ _ _ _ _=>false)
  (λ_ _ _ _ _ _=>false)
  (λ_ _ _ _=>false)
  (λ_ _ _ _ _ _=>false)
  (λ_ _ _ _ _ _=>false)
  (λ_ _ _ _=>false)
  (λ_ _ _ _ _ _ _ _ _=>false)
  (λa b c d i j k l=>band (Nat.beq i a) (band (Nat.beq j b) (band (Nat.beq k c) (Nat.beq l d))))
  (λ_ _ _ _ _ _ _ _ _=>false)
  (λ_ _ _ _=>false)
  (λ_ _ _ _ _=>false)
  (λ_ _ _ _=>false)
  (λ_ _ _ _ _ _ _ _ _=>false)
  (λ_ _ _ _ _ _=>false)
  (λ_ _ _ _ _ _=>false)
  (λ_ _ _ _=>false)
  (λ_ _ _ _ _ _ _=>false)
  ⟨⟩ (λ_ _ _ _=>⟨⟩) v
def AMM(v:V):(Nat)->(Nat)->(Nat)->(Nat)->(Nat)->Bool:=
 V.rec (motive_1:=λ_=>(Nat)->(Nat)->(Nat)->(Nat)->(Nat)->Bool) (motive_2:=λ_=>PUnit)
  (λ_ _ _ _ _=>false)
  (λ_ _ _ _ _ _ _ _=>false)
  (λ_ _ _ _ _ _=>false)
  (λ_ _ _ _ _ _ _=>false)
  (λ_ _ _ _ _=>false)
  (λ_ _ _ _ _ _ _=>false)
  (λ_ _ _ _ _ _ _=>false)
  (λ_ _ _ _ _=>false)
  (λ_ _ _ _ _ _ _ _ _ _=>false)
  (λ_ _ _ _ _ _ _ _ _=>false)
  (λa b c d e i j k l m=>band (Nat.beq i a) (band (Nat.beq j b) (band (Nat.beq k c) (band (Nat.beq l d) (Nat.beq m e)))))
  (λ_ _ _ _ _=>false)
  (λ_ _ _ _ _ _=>false)
  (λ_ _ _ _ _=>false)
  (λ_ _ _ _ _ _ _ _ _ _=>false)
  (λ_ _ _ _ _ _ _=>false)
  (λ_ _ _ _ _ _ _=>false)
  (λ_ _ _ _ _=>false)
  (λ_ _ _ _ _ _ _ _=>false)
  ⟨⟩ (λ_ _ _ _=>⟨⟩) v
def Oz(v:V):(V)->Bool:=
 V.rec (motive_1:=λ_=>(V)->Bool) (motive_2:=λ_=>PUnit)
  (λ_=>false)
  (λa b c y=>AL4 y a b c)
  (λa y=>AKK y a)
  (λa b y=>ALU y a b)
  (λy=>AGM y)
  (λa b y=>AOh y a b)
  (λa b y=>AJw y a b)
  (λy=>AG4 y)
  (λa b c d e y=>ASl y a b c d e)
  (λa b c d y=>ALx y a b c d)
  (λa b c d e y=>AMM y a b c d e)
  (λy=>AFq y)
  (λa y=>AP1 y a)
  (λy=>AGt y)
  (λ_ _ _ _ _ _=>false)
  (λ_ _ _=>false)
  (λ_ _ _=>false)
  (λ_=>false)
  (λ_ _ _ _=>false)
  ⟨⟩ (λ_ _ _ _=>⟨⟩) v
def AAz(a:List V):List V->Bool:=
 List.rec (motive:=λ_=>List V->Bool) (λb=>List.rec (motive:=λ_=>Bool) true (λ_ _ _=>false) b)
  (λx _ g b=>List.rec (motive:=λ_=>Bool) false (λy ys _=>band (Oz x y) (g ys)) b) a
def ATg(v:V):(LV)->Bool:=
 V.rec (motive_1:=λ_=>(LV)->Bool) (motive_2:=λ_=>PUnit)
  (λ_=>false)
  (λ_ _ _ _=>false)
  (λ_ _=>false)
  (λ_ _ _=>false)
  (λ_=>false)
  (λ_ _ _=>false)
  (λ_ _ _=>false)
  (λ_=>false)
  (λ_ _ _ _ _ _=>false)
  (λ_ _ _ _ _=>false)
  (λ_ _ _ _ _ _=>false)
  (λ_=>false)
  (λ_ _=>false)
  (λ_=>false)
  (λ_ _ _ _ _ _=>false)
  (λa _ l=>AAz l a)
  (λ_ _ _=>false)
  (λ_=>false)
  (λ_ _ _ _=>false)
  ⟨⟩ (λ_ _ _ _=>⟨⟩) v
def AT7(v:V):(LV)->Bool:=
 V.rec (motive_1:=λ_=>(LV)->Bool) (motive_2:=λ_=>PUnit)
  (λ_=>false)
  (λ_ _ _ _=>false)
  (λ_ _=>false)
  (λ_ _ _=>false)
  (λ_=>false)
  (λ_ _ _=>false)
  (λ_ _ _=>false)
  (λ_=>false)
  (λ_ _ _ _ _ _=>false)
  (λ_ _ _ _ _=>false)
  (λ_ _ _ _ _ _=>false)
  (λ_=>false)
  (λ_ _=>false)
  (λ_=>false)
  (λ_ _ _ _ _ _=>false)
  (λ_ _ _=>false)
  (λa _ l=>AAz l a)
  (λ_=>false)
  (λ_ _ _ _=>false)
  ⟨⟩ (λ_ _ _ _=>⟨⟩) v
def AIb(v:V):Bool:=
 V.rec (motive_1:=λ_=>Bool) (motive_2:=λ_=>PUnit)
  (true)
  (λ_ _ _=>false)
  (λ_=>false)
  (λ_ _=>false)
  (false)
  (λ_ _=>false)
  (λ_ _=>false)
  (false)
  (λ_ _ _ _ _=>false)
  (λ_ _ _ _=>false)
  (λ_ _ _ _ _=>false)
  (false)
  (λ_=>false)
  (false)
  (λ_ _ _ _ _=>false)
  (λ_ _=>false)
  (λ_ _=>false)
  (false)
  (λ_ _ _=>false)
  ⟨⟩ (λ_ _ _ _=>⟨⟩) v
def BR(v:V):(V)->Bool:=
 V.rec (motive_1:=λ_=>(V)->Bool) (motive_2:=λ_=>PUnit)
  (λy=>AIb y)
  (λa b c y=>AL4 y a b c)
  (λa y=>AKK y a)
  (λa b y=>ALU y a b)
  (λy=>AGM y)
  (λa b y=>AOh y a b)
  (λa b y=>AJw y a b)
  (λy=>AG4 y)
  (λa b c d e y=>ASl y a b c d e)
  (λa b c d y=>ALx y a b c d)
  (λa b c d e y=>AMM y a b c d e)
  (λy=>AFq y)
  (λa y=>AP1 y a)
  (λy=>AGt y)
  (λ_ _ _ _ _ _=>false)
  (λa _ y=>ATg y a)
  (λa _ y=>AT7 y a)
  (λ_=>false)
  (λ_ _ _ _=>false)
  ⟨⟩ (λ_ _ _ _=>⟨⟩) v
inductive AI where
 |op (o:yJ)
 |re (d:P2) (g:Gd) (o:AN)
inductive AC where
 |skip
 |ops (l:List yJ)
 |reg (l:List AI)
 |seq (a b:AC)
 |cond (x:X) (a b:AC)
 |block (id:Nat) (c:AC)
 |loop (c:AC)
 |exit (id:Nat)
 |ret
def Q7(l:List yJ):XpT:=
 List.rec (motive:=λ_=>XpT) (λ_ _ R H n k=>k R H n) (λo _ g G call R H n k=>o.ex G call R H n λR H n=>g G call R H n k) l
abbrev ReT:=AV->RS->Heap->P2->AN->Prop->Prop
def AXt:ReT:=λG R H d o k=>AP (o.ev G R H) λv=>Ed (BR v (Ns (T.Ea d R.rg))) k
def AZ9(x:X)(b:Bool):ReT:=λG R H d o k=>mZ (x.ev R) b (AP (o.ev G R H) λv=>Ed (BR v (Ns (T.Ea d R.rg))) k) k
def AWZ(g:Gd):ReT:=Gd.rec (motive:=λ_=>ReT) AXt AZ9 g
def AI.ex(i:AI):XpT:=AI.rec (motive:=λ_=>XpT) (λo=>o.ex) (λd g o G _ R H n k=>AWZ g G R H d o (k R H n)) i
def DR(l:List AI):XpT:=
 List.rec (motive:=λ_=>XpT) (λ_ _ R H n k=>k R H n) (λi _ g G call R H n k=>i.ex G call R H n λR H n=>g G call R H n k) l
abbrev KX:=Nat->K
abbrev M:=AV->BP->Nat->J6->Heap->Nat->K->KX->K->Prop
def Dx:M:=λ_ _ _ R H n k _ _=>k R H n
def ARK(l:List yJ):M:=λG call _ R H n k _ _=>Q7 l G call (.mk [] R) H n λE H n=>k E.rg H n
def ARO(l:List AI):M:=λG call _ R H n k _ _=>DR l G call (.mk [] R) H n λE H n=>k E.rg H n
def AOU(_ _:AC)(a b:M):M:=λG call lf R H n k x r=>a G call lf R H n (λR H n=>b G call lf R H n k x r) x r
def AHt(c:X)(_ _:AC)(a b:M):M:=λG call lf R H n k x r=>Ac (c.ev (.mk [] R)) true (a G call lf R H n k x r) (b G call lf R H n k x r)
def Ib(id:Nat)(k:K)(x:KX):KX:=λi R H n=>Bool.rec (motive:=λ_=>Prop->Prop->Prop) (λa _=>a) (λ_ b=>b) (Nat.beq i id) (x i R H n) (k R H n)
def ADA(id:Nat)(_:AC)(a:M):M:=λG call lf R H n k x r=>a G call lf R H n k (Ib id k x) r
def Xy(a:M)(G:AV)(call:BP)(lf0 lf:Nat):J6->Heap->Nat->KX->K->Prop:=
 Nat.rec (motive:=λ_=>J6->Heap->Nat->KX->K->Prop) (λ_ _ _ _ _=>False) (λ_ g R H n x r=>a G call lf0 R H n (λR H n=>g R H n x r) x r) lf
def AX7(_:AC)(a:M):M:=λG call lf R H n _ x r=>Xy a G call lf lf R H n x r
def APn(id:Nat):M:=λ_ _ _ R H n _ x _=>x id R H n
def AWo:M:=λ_ _ _ R H n _ _ r=>r R H n
def AC.ex(c:AC):M:=AC.rec (motive:=λ_=>M) Dx ARK ARO AOU AHt ADA AX7 APn AWo c
inductive AR where
 |tmp (p:P2)|cell1 (p:P2)|celln (p:P2) (n:Nat)
inductive Nk where
 |join|rep|AMd (t e:Nat)|AJk (t e:Nat)
inductive AF where
 |mk (np:Nat) (code:AC) (res:List AR) (dp:rP) (dg:Nat)
 |nat (k:Nk)
def AR.get(r:AR):AV->J6->Heap->Option V:=
 AR.rec (motive:=λ_=>AV->J6->Heap->Option V) (λp _ R _=>some (Ns (T.Ea p R))) (λp G R H=>Pz (ldP (Ns (T.Ea p R)) G H 1) λL=>nth L 0)
  (λp n G R H=>Pz (ldP (Ns (T.Ea p R)) G H n) λL=>some (.agg L)) r
def ABw(l:List AR):AV->J6->Heap->Option LV:=
 List.rec (motive:=λ_=>AV->J6->Heap->Option LV) (λ_ _ _=>some []) (λr _ g G R H=>DJ (r.get G R H) λv=>DJ (g G R H) λvs=>some (v::vs)) l
def Fj(l:List V):V:=List.rec (motive:=λ_=>V) (V.Jq []) (λv vs _=>List.rec (motive:=λ_=>V) v (λw ws _=>V.Jq (v::w::ws)) vs) l
def gW(args:List V):Nat->J6->J6:=
 List.rec (motive:=λ_=>Nat->J6->J6) (λ_ R=>R) (λv _ g i R=>g (Nat.succ i) (T.set R i v)) args
def Oy(dg:Nat)(l:List V):BP->Heap->Nat->(Heap->Nat->Prop)->Prop:=
 List.rec (motive:=λ_=>BP->Heap->Nat->(Heap->Nat->Prop)->Prop) (λ_ H n k=>k H n)
  (λv _ g call H n k=>V.WR v λf a c=>Ed (Nat.beq f dg) (call f (cat a c) H n λ_ H n=>g call H n k)) l
def AEl(res:List AR)(G:AV)(k:KV):K:=λR H n=>Hu (ABw res G R H) λl=>k (Fj l) H n
def KF(res:List AR)(dg:Nat)(d:rP):AV->BP->KV->K:=
 rP.rec (motive:=λ_=>AV->BP->KV->K) (λG _ k=>AEl res G k) (λp G call k R H n=>Oy dg (uG (Ns (T.Ea p R))) call H n λH n=>AEl res G k R H n) (λG _ k=>AEl res G k) d
def zl(p q:Nat×Nat):Nat×Nat:=(p.1+q.1,p.2+256^p.1*q.2)
def ABn:Dv->Option (List (Nat×Nat))
 |[]=>some []
 |[.str l c]::r=>match ABn r with|some x=>some ((l,c)::x)|none=>none
 |_::_=>none
def bU(s:Nat×Nat):List (Nat×Nat)->Nat×Nat
 |[]=>(0,0)
 |a::r=>r.foldl (λp q=>zl (zl p s) q) a
def AJ7(s:Nat×Nat):Nat->Nat×Nat
 |0=>(0,0)
 |n+1=>zl s (AJ7 s n)
def Zx:Nat:=140737488355328
def zW(x y:V)(G:AV)(H:Heap)(n:Nat)(k:KV):Prop:=
 match y with
 |.str sl sc=>Ed (YN (isStr x)) <| Hu (elems x G H 1) λLS=>Hu (ABn LS) λss=>Ed (decide (ss.length<=Zx/\(bU (sl,sc) ss).1<=Zx)) (k (.str (bU (sl,sc) ss).1 (bU (sl,sc) ss).2) H n)
 |_=>False
def AGc(x y:V)(H:Heap)(n:Nat)(k:KV):Prop:=
 match x,y with
 |.str l c,.int .i64 (.ofNat m) _=>Ed (decide (m<=9223372036854775807/\l*m<=Zx)) (k (.str (AJ7 (l,c) m).1 (AJ7 (l,c) m).2) H n)
 |_,_=>False
def AC6(t e:Nat)(x y:V)(H:Heap)(n:Nat)(k:KV):Prop:=
 match x,y with
 |.ptr id 0,.str m d=>(match T.get H id with
  |some (.VD t' e' l c j)=>Ed (decide (t'=t/\e'=e/\l+m<=Zx)) (k (.Jq [.int .i64 (.ofNat m) 0,.AHN]) (T.set (T.set (bif decide (l=0)then H else T.set H j .dead) n (.own id)) id (.VD t e (zl (l,c) (m,d)).1 (zl (l,c) (m,d)).2 n)) (n+1))
  |_=>False)
 |_,_=>False
def ACn(t e:Nat)(x:V)(H:Heap)(n:Nat)(k:KV):Prop:=
 match x with
 |.ptr id 0=>(match T.get H id with
  |some (.VD t' e' l c _)=>Ed (decide (t'=t/\e'=e)) (k (.str l c) (T.set H id .dead) n)
  |_=>False)
 |_=>False
def oU(f:Nk)(G:AV)(args:List V)(H:Heap)(n:Nat)(k:KV):Prop:=
 match f,args with
 |.join,[x,y]=>zW x y G H n k
 |.rep,[x,y]=>AGc x y H n k
 |.AMd t e,[x,y]=>AC6 t e x y H n k
 |.AJk t e,[x]=>ACn t e x H n k
 |_,_=>False
def noX:KX:=λ_ _ _ _=>False
def lJ(f:AF):AV->BP->Nat->List V->Heap->Nat->KV->Prop:=
 AF.rec (motive:=λ_=>AV->BP->Nat->List V->Heap->Nat->KV->Prop) (λnp code res d dg G call lf args H n k=>Ed (Nat.beq (len args) np) (code.ex G call lf (gW args 0 .e) H n (KF res dg d G call k) noX (KF res dg d G call k))) (λf G _ _ args H n k=>oU f G args H n k) f
def run(F:T AF)(G:AV)(lf:Nat)(fuel:Nat):BP:=
 Nat.rec (motive:=λ_=>BP) (λ_ _ _ _ _=>False) (λ_ call f args H n k=>Hu (T.get F f) λaf=>lJ af G call lf args H n k) fuel
end Go.Eng
