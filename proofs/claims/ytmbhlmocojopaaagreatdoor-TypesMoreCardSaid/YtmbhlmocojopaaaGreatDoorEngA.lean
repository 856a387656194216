/- Part of a proof; nothing is assumed. -/
import Derived.Calls
import Derived.Defers
import Derived.Orders
import Derived.KernelRfl
import Derived.Laws.Entries
set_option linter.unusedVariables false
set_option linter.unusedSimpArgs false
noncomputable section
namespace Go.DW
inductive P2 where
 |h|z (p:P2)|o (p:P2)
deriving DecidableEq
inductive T(α:Type)where
 |e|n (v:Option α) (l r:T α)
def T.val{α:Type}(t:T α):Option α:=T.rec none (λv _ _ _ _=>v) t
def T.left{α:Type}(t:T α):T α:=T.rec .e (λ_ l _ _ _=>l) t
def T.right{α:Type}(t:T α):T α:=T.rec .e (λ_ _ r _ _=>r) t
def T.FM{α:Type}(p:P2):T α->Option α:=
 P2.rec (motive:=λ_=>T α->Option α) T.val (λ_ g t=>g t.left) (λ_ g t=>g t.right) p
def T.eF{α:Type}(x:α)(p:P2):T α->T α:=
 P2.rec (motive:=λ_=>T α->T α) (λt=>.n (some x) t.left t.right)
  (λ_ g t=>.n t.val (g t.left) t.right) (λ_ g t=>.n t.val t.left (g t.right)) p
def AOH(f:Nat):Nat->P2:=
 Nat.rec (motive:=λ_=>Nat->P2) (λ_=>.h)
  (λ_ g k=>Nat.rec (motive:=λ_=>P2) .h
   (λm _=>Bool.rec (P2.o (g (Nat.div m 2))) (P2.z (g (Nat.div m 2))) (Nat.beq (Nat.mod m 2) 0)) k) f
def Q5(k:Nat):P2:=AOH (Nat.succ k) k
def T.get{α:Type}(t:T α)(k:Nat):Option α:=T.FM (Q5 k) t
def T.set{α:Type}(t:T α)(k:Nat)(x:α):T α:=T.eF x (Q5 k) t
inductive V where
 |undef
 |int (k:IntKind) (n:Int) (s:Nat)
 |bool (b:Bool)
 |str (len code:Nat)
 |AH5|ptr (id off:Nat)|gptr (b off:Nat)
 |Ad|sl (id off len cap esz:Nat)|PO (id off len esz:Nat)|rsl (b off len cap esz:Nat)
 |AJE|map (id:Nat)
 |AR3|fn (f:Nat) (first caps:List V)
 |agg (cs:List V)
 |Io (vs:List V)
 |APo|iface (t:Nat) (v:V)
inductive S9 where
 |arr (esz cnt:Nat) (c:T (List V))
 |map (es:List (V×V×Nat)) (clock:Nat)
 |dead
 |mM (t e l c j:Nat)
 |own (b:Nat)
abbrev Heap:=T S9
abbrev LW:=T V
abbrev AX:=Nat->Nat->Nat->Option (List V)
inductive X where
 |r (p:P2)|c (v:V)|s (i:Nat)
def PD(o:Option V):V:=Option.rec V.undef (λv=>v) o
def AQo(l:List V):Nat->V:=
 List.rec (motive:=λ_=>Nat->V) (λ_=>.undef) (λx _ g i=>Nat.rec (motive:=λ_=>V) x (λi _=>g i) i) l
inductive RS where
 |mk (L:List V) (R:LW)
def RS.st(E:RS):List V:=RS.rec (λL _=>L) E
def RS.rg(E:RS):LW:=RS.rec (λ_ R=>R) E
def X.ev(x:X):RS->V:=X.rec (motive:=λ_=>RS->V) (λp E=>PD (T.FM p E.rg)) (λv _=>v) (λi E=>AQo E.st i) x
def V.Kr(v:V):(IntKind->Int->Nat->Option V)->Option V:=
 V.rec (motive_1:=λ_=>(IntKind->Int->Nat->Option V)->Option V) (motive_2:=λ_=>PUnit)
  (λ_=>none)
  (λa b c f=>f a b c)
  (λ_ _=>none)
  (λ_ _ _=>none)
  (λ_=>none)
  (λ_ _ _=>none)
  (λ_ _ _=>none)
  (λ_=>none)
  (λ_ _ _ _ _ _=>none)
  (λ_ _ _ _ _=>none)
  (λ_ _ _ _ _ _=>none)
  (λ_=>none)
  (λ_ _=>none)
  (λ_=>none)
  (λ_ _ _ _ _ _=>none)
  (λ_ _ _=>none)
  (λ_ _ _=>none)
  (λ_=>none)
  (λ_ _ _ _=>none)
  ⟨⟩ (λ_ _ _ _=>⟨⟩) v
def V.vG(v:V):(Bool->Option V)->Option V:=
 V.rec (motive_1:=λ_=>(Bool->Option V)->Option V) (motive_2:=λ_=>PUnit)
  (λ_=>none)
  (λ_ _ _ _=>none)
  (λa f=>f a)
  (λ_ _ _=>none)
  (λ_=>none)
  (λ_ _ _=>none)
  (λ_ _ _=>none)
  (λ_=>none)
  (λ_ _ _ _ _ _=>none)
  (λ_ _ _ _ _=>none)
  (λ_ _ _ _ _ _=>none)
  (λ_=>none)
  (λ_ _=>none)
  (λ_=>none)
  (λ_ _ _ _ _ _=>none)
  (λ_ _ _=>none)
  (λ_ _ _=>none)
  (λ_=>none)
  (λ_ _ _ _=>none)
  ⟨⟩ (λ_ _ _ _=>⟨⟩) v
def V.ANH(v:V):(Bool->Prop)->Prop:=
 V.rec (motive_1:=λ_=>(Bool->Prop)->Prop) (motive_2:=λ_=>PUnit)
  (λ_=>False)
  (λ_ _ _ _=>False)
  (λa f=>f a)
  (λ_ _ _=>False)
  (λ_=>False)
  (λ_ _ _=>False)
  (λ_ _ _=>False)
  (λ_=>False)
  (λ_ _ _ _ _ _=>False)
  (λ_ _ _ _ _=>False)
  (λ_ _ _ _ _ _=>False)
  (λ_=>False)
  (λ_ _=>False)
  (λ_=>False)
  (λ_ _ _ _ _ _=>False)
  (λ_ _ _=>False)
  (λ_ _ _=>False)
  (λ_=>False)
  (λ_ _ _ _=>False)
  ⟨⟩ (λ_ _ _ _=>⟨⟩) v
def V.WM(v:V):(Nat->Nat->Option V)->Option V:=
 V.rec (motive_1:=λ_=>(Nat->Nat->Option V)->Option V) (motive_2:=λ_=>PUnit)
  (λ_=>none)
  (λ_ _ _ _=>none)
  (λ_ _=>none)
  (λa b f=>f a b)
  (λ_=>none)
  (λ_ _ _=>none)
  (λ_ _ _=>none)
  (λ_=>none)
  (λ_ _ _ _ _ _=>none)
  (λ_ _ _ _ _=>none)
  (λ_ _ _ _ _ _=>none)
  (λ_=>none)
  (λ_ _=>none)
  (λ_=>none)
  (λ_ _ _ _ _ _=>none)
  (λ_ _ _=>none)
  (λ_ _ _=>none)
  (λ_=>none)
  (λ_ _ _ _=>none)
  ⟨⟩ (λ_ _ _ _=>⟨⟩) v
def V.ADF(v:V):(List V->Option V)->Option V:=
 V.rec (motive_1:=λ_=>(List V->Option V)->Option V) (motive_2:=λ_=>PUnit)
  (λ_=>none)
  (λ_ _ _ _=>none)
  (λ_ _=>none)
  (λ_ _ _=>none)
  (λ_=>none)
  (λ_ _ _=>none)
  (λ_ _ _=>none)
  (λ_=>none)
  (λ_ _ _ _ _ _=>none)
  (λ_ _ _ _ _=>none)
  (λ_ _ _ _ _ _=>none)
  (λ_=>none)
  (λ_ _=>none)
  (λ_=>none)
  (λ_ _ _ _ _ _=>none)
  (λa _ f=>f a)
  (λ_ _ _=>none)
  (λ_=>none)
  (λ_ _ _ _=>none)
  ⟨⟩ (λ_ _ _ _=>⟨⟩) v
def V.AJO(v:V):(List V->Option V)->Option V:=
 V.rec (motive_1:=λ_=>(List V->Option V)->Option V) (motive_2:=λ_=>PUnit)
  (λ_=>none)
  (λ_ _ _ _=>none)
  (λ_ _=>none)
  (λ_ _ _=>none)
  (λ_=>none)
  (λ_ _ _=>none)
  (λ_ _ _=>none)
  (λ_=>none)
  (λ_ _ _ _ _ _=>none)
  (λ_ _ _ _ _=>none)
  (λ_ _ _ _ _ _=>none)
  (λ_=>none)
  (λ_ _=>none)
  (λ_=>none)
  (λ_ _ _ _ _ _=>none)
  (λ_ _ _=>none)
  (λa _ f=>f a)
  (λ_=>none)
  (λ_ _ _ _=>none)
  ⟨⟩ (λ_ _ _ _=>⟨⟩) v
def V.AJM(v:V):(Nat->Nat->Option V)->(Nat->Nat->Option V)->Option V:=
 V.rec (motive_1:=λ_=>(Nat->Nat->Option V)->(Nat->Nat->Option V)->Option V) (motive_2:=λ_=>PUnit)
  (λ_ _=>none)
  (λ_ _ _ _ _=>none)
  (λ_ _ _=>none)
  (λ_ _ _ _=>none)
  (λ_ _=>none)
  (λa b f _=>f a b)
  (λa b _ g=>g a b)
  (λ_ _=>none)
  (λ_ _ _ _ _ _ _=>none)
  (λ_ _ _ _ _ _=>none)
  (λ_ _ _ _ _ _ _=>none)
  (λ_ _=>none)
  (λ_ _ _=>none)
  (λ_ _=>none)
  (λ_ _ _ _ _ _ _=>none)
  (λ_ _ _ _=>none)
  (λ_ _ _ _=>none)
  (λ_ _=>none)
  (λ_ _ _ _ _=>none)
  ⟨⟩ (λ_ _ _ _=>⟨⟩) v
def V.AKs(v:V):(Option V)->(Nat->Option V)->Option V:=
 V.rec (motive_1:=λ_=>(Option V)->(Nat->Option V)->Option V) (motive_2:=λ_=>PUnit)
  (λ_ _=>none)
  (λ_ _ _ _ _=>none)
  (λ_ _ _=>none)
  (λ_ _ _ _=>none)
  (λ_ _=>none)
  (λ_ _ _ _=>none)
  (λ_ _ _ _=>none)
  (λ_ _=>none)
  (λ_ _ _ _ _ _ _=>none)
  (λ_ _ _ _ _ _=>none)
  (λ_ _ _ _ _ _ _=>none)
  (λz _=>z)
  (λa _ f=>f a)
  (λ_ _=>none)
  (λ_ _ _ _ _ _ _=>none)
  (λ_ _ _ _=>none)
  (λ_ _ _ _=>none)
  (λ_ _=>none)
  (λ_ _ _ _ _=>none)
  ⟨⟩ (λ_ _ _ _=>⟨⟩) v
def V.ASg(v:V):(Option V)->(Nat->Nat->Nat->Nat->Nat->Option V)->(Nat->Nat->Nat->Nat->Option V)->(Nat->Nat->Nat->Nat->Nat->Option V)->Option V:=
 V.rec (motive_1:=λ_=>(Option V)->(Nat->Nat->Nat->Nat->Nat->Option V)->(Nat->Nat->Nat->Nat->Option V)->(Nat->Nat->Nat->Nat->Nat->Option V)->Option V) (motive_2:=λ_=>PUnit)
  (λ_ _ _ _=>none)
  (λ_ _ _ _ _ _ _=>none)
  (λ_ _ _ _ _=>none)
  (λ_ _ _ _ _ _=>none)
  (λ_ _ _ _=>none)
  (λ_ _ _ _ _ _=>none)
  (λ_ _ _ _ _ _=>none)
  (λz _ _ _=>z)
  (λa b c d e _ f _ _=>f a b c d e)
  (λa b c d _ _ g _=>g a b c d)
  (λa b c d e _ _ _ h=>h a b c d e)
  (λ_ _ _ _=>none)
  (λ_ _ _ _ _=>none)
  (λ_ _ _ _=>none)
  (λ_ _ _ _ _ _ _ _ _=>none)
  (λ_ _ _ _ _ _=>none)
  (λ_ _ _ _ _ _=>none)
  (λ_ _ _ _=>none)
  (λ_ _ _ _ _ _ _=>none)
  ⟨⟩ (λ_ _ _ _=>⟨⟩) v
def Ba(v:V):List V:=
 V.rec (motive_1:=λ_=>List V) (motive_2:=λ_=>PUnit)
  ([v])
  (λ_ _ _=>[v])
  (λ_=>[v])
  (λ_ _=>[v])
  ([v])
  (λ_ _=>[v])
  (λ_ _=>[v])
  ([v])
  (λ_ _ _ _ _=>[v])
  (λ_ _ _ _=>[v])
  (λ_ _ _ _ _=>[v])
  ([v])
  (λ_=>[v])
  ([v])
  (λ_ _ _ _ _=>[v])
  (λa _=>a)
  (λ_ _=>[v])
  ([v])
  (λ_ _ _=>[v])
  ⟨⟩ (λ_ _ _ _=>⟨⟩) v
def isStr(v:V):Bool:=
 V.rec (motive_1:=λ_=>Bool) (motive_2:=λ_=>PUnit)
  (false)
  (λ_ _ _=>false)
  (λ_=>false)
  (λ_ _=>true)
  (false)
  (λ_ _=>false)
  (λ_ _=>false)
  (false)
  (λ_ _ _ _ _=>false)
  (λ_ _ _ _=>false)
  (λ_ _ _ _ _=>false)
  (false)
  (λ_=>false)
  (false)
  (λ_ _ _ _ _=>false)
  (λ_ _=>false)
  (λ_ _=>false)
  (false)
  (λ_ _ _=>false)
  ⟨⟩ (λ_ _ _ _=>⟨⟩) v
def lenV(v:V):Option V:=
 V.rec (motive_1:=λ_=>Option V) (motive_2:=λ_=>PUnit)
  (none)
  (λ_ _ _=>none)
  (λ_=>none)
  (λ_ _=>none)
  (none)
  (λ_ _=>none)
  (λ_ _=>none)
  (some (.int .i64 (.ofNat 0) 0))
  (λ_ _ c _ _=>some (.int .i64 (.ofNat c) 0))
  (λ_ _ c _=>some (.int .i64 (.ofNat c) 0))
  (λ_ _ c _ _=>some (.int .i64 (.ofNat c) 0))
  (none)
  (λ_=>none)
  (none)
  (λ_ _ _ _ _=>none)
  (λ_ _=>none)
  (λ_ _=>none)
  (none)
  (λ_ _ _=>none)
  ⟨⟩ (λ_ _ _ _=>⟨⟩) v
def Ap(v:V):Option V:=
 V.rec (motive_1:=λ_=>Option V) (motive_2:=λ_=>PUnit)
  (none)
  (λ_ _ _=>none)
  (λ_=>none)
  (λ_ _=>none)
  (none)
  (λa b=>some (.ptr a b))
  (λa b=>some (.gptr a b))
  (none)
  (λ_ _ _ _ _=>none)
  (λ_ _ _ _=>none)
  (λ_ _ _ _ _=>none)
  (none)
  (λ_=>none)
  (none)
  (λa b c _ _=>some (.fn a b c))
  (λ_ _=>none)
  (λ_ _=>none)
  (none)
  (λ_ _ _=>none)
  ⟨⟩ (λ_ _ _ _=>⟨⟩) v
def Yz(n:Int):(Int->Option V)->Option V:=λf=>f n
def Et(n:Nat):(Nat->Option V)->Option V:=
 Nat.rec (motive:=λ_=>(Nat->Option V)->Option V) (λf=>f 0) (λk _ f=>f (Nat.succ k)) n
def FT(n:Nat):(Nat->Prop)->Prop:=
 Nat.rec (motive:=λ_=>(Nat->Prop)->Prop) (λf=>f 0) (λk _ f=>f (Nat.succ k)) n
def AYG(k:IntKind):Nat->Bool:=
 IntKind.rec (motive:=λ_=>Nat->Bool) (λm=>Nat.blt m 128) (λm=>Nat.blt m 32768) (λm=>Nat.blt m 2147483648) (λm=>Nat.blt m 9223372036854775808)
  (λm=>Nat.blt m 256) (λm=>Nat.blt m 65536) (λm=>Nat.blt m 4294967296) (λm=>Nat.blt m 18446744073709551616) k
def AX8(k:IntKind):Nat->Bool:=
 IntKind.rec (motive:=λ_=>Nat->Bool) (λm=>Nat.blt m 128) (λm=>Nat.blt m 32768) (λm=>Nat.blt m 2147483648) (λm=>Nat.blt m 9223372036854775808)
  (λ_=>false) (λ_=>false) (λ_=>false) (λ_=>false) k
def inr(k:IntKind)(n:Int):Bool:=Int.rec (motive:=λ_=>IntKind->Bool) (λm k=>AYG k m) (λm k=>AX8 k m) n k
def qN(k:IntKind)(n:Int):Int:=Bool.rec (k.wrap n) n (inr k n)
def AVv(k:IntKind)(n:Int):Option V:=Yz (qN k n) λm=>some (.int k m 0)
def mkI(k:IntKind)(n:Int)(s:Nat):Option V:=
 Nat.rec (motive:=λ_=>IntKind->Int->Option V) AVv (λ_ _ k n=>some (.int k (k.wrap n) 1)) s k n
def mkN(k:IntKind)(n:Int)(s:Nat):Option V:=
 Nat.rec (motive:=λ_=>IntKind->Int->Option V) (λk n=>Yz n λm=>some (.int k m 0)) (λ_ _ k n=>some (.int k n 1)) s k n
def ATl(a:Nat)(b:Int):Int:=Int.rec (motive:=λ_=>Nat->Int) (λn m=>.ofNat (Nat.add m n)) (λn m=>Int.subNatNat m (Nat.succ n)) b a
def AUR(a:Nat)(b:Int):Int:=Int.rec (motive:=λ_=>Nat->Int) (λn m=>Int.subNatNat n (Nat.succ m)) (λn m=>.negSucc (Nat.succ (Nat.add m n))) b a
def AF9(a b:Int):Int:=Int.rec (motive:=λ_=>Int->Int) ATl AUR a b
def ile(a b:Int):Bool:=Int.rec (motive:=λ_=>Int->Bool) (λm b=>Int.rec (motive:=λ_=>Nat->Bool) (λn m=>Nat.ble m n) (λ_ _=>false) b m)
 (λm b=>Int.rec (motive:=λ_=>Nat->Bool) (λ_ _=>true) (λn m=>Nat.ble n m) b m) a b
def ilt(a b:Int):Bool:=Int.rec (motive:=λ_=>Int->Bool) (λm b=>Int.rec (motive:=λ_=>Nat->Bool) (λn m=>Nat.blt m n) (λ_ _=>false) b m)
 (λm b=>Int.rec (motive:=λ_=>Nat->Bool) (λ_ _=>true) (λn m=>Nat.blt n m) b m) a b
def ieq(a b:Int):Bool:=Int.rec (motive:=λ_=>Int->Bool) (λm b=>Int.rec (motive:=λ_=>Nat->Bool) (λn m=>Nat.beq m n) (λ_ _=>false) b m)
 (λm b=>Int.rec (motive:=λ_=>Nat->Bool) (λ_ _=>false) (λn m=>Nat.beq n m) b m) a b
def kno(a:IntKind):Nat:=IntKind.rec 0 1 2 3 4 5 6 7 a
def keq(a b:IntKind):Bool:=Nat.beq (kno a) (kno b)
def TM(b:Bool):Bool:=Bool.rec true false b
def band(a b:Bool):Bool:=Bool.rec (motive:=λ_=>Bool->Bool) (λ_=>false) (λb=>b) a b
def AQs(a b:Bool):Bool:=Bool.rec (motive:=λ_=>Bool->Bool) TM (λb=>b) a b
def mkB(b:Bool):Option V:=Bool.rec (some (.bool false)) (some (.bool true)) b
def CG(b:Bool):Option V->Option V:=Bool.rec (motive:=λ_=>Option V->Option V) (λ_=>none) (λo=>o) b
def ACs(b:Bool)(x y:Option V):Option V:=Bool.rec (motive:=λ_=>Option V->Option V->Option V) (λ_ y=>y) (λx _=>x) b x y
def AOv(code i:Nat):Nat:=Nat.mod (Nat.div code (Nat.pow 256 i)) 256
def AXB(code l h:Nat):Nat:=Nat.mod (Nat.div code (Nat.pow 256 l)) (Nat.pow 256 (Nat.sub h l))
def AYP(l1 c1 c2:Nat):Nat:=Nat.add c1 (Nat.mul (Nat.pow 256 l1) c2)
def AV6(f:Nat):Nat->Nat->Nat->Nat->Bool:=
 Nat.rec (motive:=λ_=>Nat->Nat->Nat->Nat->Bool) (λ_ _ _ _=>false)
  (λ_ g l1 c1 l2 c2=>Nat.rec (motive:=λ_=>Bool) false (λl2' _=>Nat.rec (motive:=λ_=>Bool) true (λl1' _=>
   Bool.rec (Nat.blt (Nat.mod c1 256) (Nat.mod c2 256)) (g l1' (Nat.div c1 256) l2' (Nat.div c2 256)) (Nat.beq (Nat.mod c1 256) (Nat.mod c2 256))) l1) l2) f
def slt(l1 c1 l2 c2:Nat):Bool:=AV6 (Nat.succ l2) l1 c1 l2 c2
def nth{α:Type}(l:List α):Nat->Option α:=
 List.rec (motive:=λ_=>Nat->Option α) (λ_=>none) (λx _ g i=>Nat.rec (motive:=λ_=>Option α) (some x) (λi _=>g i) i) l
def nR{α:Type}(x:α)(l:List α):Nat->List α:=
 List.rec (motive:=λ_=>Nat->List α) (λ_=>[]) (λy ys g i=>Nat.rec (motive:=λ_=>List α) (x::ys) (λi _=>y::g i) i) l
def len{α:Type}(l:List α):Nat:=List.rec (motive:=λ_=>Nat) 0 (λ_ _ n=>Nat.succ n) l
def cat{α:Type}(a b:List α):List α:=List.rec (motive:=λ_=>List α->List α) (λb=>b) (λx _ g b=>x::g b) a b
def bP{α:Type}(n:Nat):List α->List α:=
 Nat.rec (motive:=λ_=>List α->List α) (λ_=>[]) (λ_ g l=>List.rec (motive:=λ_=>List α) [] (λx xs _=>x::g xs) l) n
def vO{α:Type}(n:Nat):List α->List α:=
 Nat.rec (motive:=λ_=>List α->List α) (λl=>l) (λ_ g l=>List.rec (motive:=λ_=>List α) [] (λ_ xs _=>g xs) l) n
def kF(l:List X):RS->List V:=List.rec (motive:=λ_=>RS->List V) (λ_=>[]) (λx _ g R=>x.ev R::g R) l
def AK7(new:List V)(i:Nat)(l:List V):List V:=cat (bP i l) (cat new (vO (Nat.add i (len new)) l))
abbrev LV:=List V
def Xn(o:Option LV)(f:LV->Option V):Option V:=Option.rec (motive:=λ_=>(LV->Option V)->Option V) (λ_=>none) (λv f=>f v) o f
def Ej{α:Type}(o:Option α)(f:α->Prop):Prop:=Option.rec (motive:=λ_=>(α->Prop)->Prop) (λ_=>False) (λv f=>f v) o f
def AP(o:Option V)(f:V->Prop):Prop:=Option.rec (motive:=λ_=>(V->Prop)->Prop) (λ_=>False) (λv f=>f v) o f
def CZ{α β:Type}(o:Option α)(f:α->Option β):Option β:=Option.rec (motive:=λ_=>(α->Option β)->Option β) (λ_=>none) (λv f=>f v) o f
def ldC(esz off n:Nat)(L:LV):Option LV:=
 Bool.rec (motive:=λ_=>Option LV)
  (Bool.rec none (some (bP n (vO (Nat.mod off esz) L))) (Nat.ble (Nat.add (Nat.mod off esz) n) esz))
  (some L) (band (Nat.beq n esz) (Nat.beq (Nat.mod off esz) 0))
def ldB(esz cnt:Nat)(c:T LV)(off n:Nat):Option LV:=
 CZ (Bool.rec none (T.get c (Nat.div off esz)) (Nat.blt (Nat.div off esz) cnt)) (ldC esz off n)
def S9.ld(b:S9):Nat->Nat->Option LV:=
 S9.rec (motive:=λ_=>Nat->Nat->Option LV) ldB (λ_ _ _ _=>none) (λ_ _=>none) (λ_ _ _ _ _ _ _=>none) (λ_ _ _=>none) b
def yx(H:Heap)(id off n:Nat):Option LV:=Option.rec (motive:=λ_=>Nat->Nat->Option LV) (λ_ _=>none) S9.ld (T.get H id) off n
def ldP(v:V):(AX)->(Heap)->(Nat)->Option LV:=
 V.rec (motive_1:=λ_=>(AX)->(Heap)->(Nat)->Option LV) (motive_2:=λ_=>PUnit)
  (λ_ _ _=>none)
  (λ_ _ _ _ _ _=>none)
  (λ_ _ _ _=>none)
  (λ_ _ _ _ _=>none)
  (λ_ _ _=>none)
  (λa b _ H n=>yx H a b n)
  (λa b G _ n=>G a b n)
  (λ_ _ _=>none)
  (λ_ _ _ _ _ _ _ _=>none)
  (λ_ _ _ _ _ _ _=>none)
  (λ_ _ _ _ _ _ _ _=>none)
  (λ_ _ _=>none)
  (λ_ _ _ _=>none)
  (λ_ _ _=>none)
  (λ_ _ _ _ _ _ _ _=>none)
  (λ_ _ _ _ _=>none)
  (λ_ _ _ _ _=>none)
  (λ_ _ _=>none)
  (λ_ _ _ _ _ _=>none)
  ⟨⟩ (λ_ _ _ _=>⟨⟩) v
def stC(new:LV)(esz cnt:Nat)(c:T LV)(off n:Nat)(L:LV):Option S9:=
 Bool.rec (motive:=λ_=>Option S9)
  (Bool.rec none (some (.arr esz cnt (T.set c (Nat.div off esz) (AK7 new (Nat.mod off esz) L)))) (Nat.ble (Nat.add (Nat.mod off esz) n) esz))
  (some (.arr esz cnt (T.set c (Nat.div off esz) new))) (band (Nat.beq n esz) (Nat.beq (Nat.mod off esz) 0))
def stB(esz cnt:Nat)(c:T LV)(off n:Nat)(new:LV):Option S9:=
 CZ (Bool.rec none (T.get c (Nat.div off esz)) (Nat.blt (Nat.div off esz) cnt)) (stC new esz cnt c off n)
def S9.st(b:S9):Nat->Nat->LV->Option S9:=
 S9.rec (motive:=λ_=>Nat->Nat->LV->Option S9) stB (λ_ _ _ _ _=>none) (λ_ _ _=>none) (λ_ _ _ _ _ _ _ _=>none) (λ_ _ _ _=>none) b
def stH(H:Heap)(id off n:Nat)(new:LV):Option Heap:=
 CZ (Option.rec (motive:=λ_=>Nat->Nat->LV->Option S9) (λ_ _ _=>none) S9.st (T.get H id) off n new) λb=>some (T.set H id b)
def stP(v:V):(Heap)->(Nat)->(LV)->Option Heap:=
 V.rec (motive_1:=λ_=>(Heap)->(Nat)->(LV)->Option Heap) (motive_2:=λ_=>PUnit)
  (λ_ _ _=>none)
  (λ_ _ _ _ _ _=>none)
  (λ_ _ _ _=>none)
  (λ_ _ _ _ _=>none)
  (λ_ _ _=>none)
  (λa b H n new=>stH H a b n new)
  (λ_ _ _ _ _=>none)
  (λ_ _ _=>none)
  (λ_ _ _ _ _ _ _ _=>none)
  (λ_ _ _ _ _ _ _=>none)
  (λ_ _ _ _ _ _ _ _=>none)
  (λ_ _ _=>none)
  (λ_ _ _ _=>none)
  (λ_ _ _=>none)
  (λ_ _ _ _ _ _ _ _=>none)
  (λ_ _ _ _ _=>none)
  (λ_ _ _ _ _=>none)
  (λ_ _ _=>none)
  (λ_ _ _ _ _ _=>none)
  ⟨⟩ (λ_ _ _ _=>⟨⟩) v
def AQl(v:V):(IntKind)->(Int)->(Nat)->Option Bool:=
 V.rec (motive_1:=λ_=>(IntKind)->(Int)->(Nat)->Option Bool) (motive_2:=λ_=>PUnit)
  (λ_ _ _=>none)
  (λa b c k n s=>Bool.rec (motive:=λ_=>Option Bool) none (some (ieq n b)) (band (keq k a) (Nat.beq (Nat.add s c) 0)))
  (λ_ _ _ _=>none)
  (λ_ _ _ _ _=>none)
  (λ_ _ _=>none)
  (λ_ _ _ _ _=>none)
  (λ_ _ _ _ _=>none)
  (λ_ _ _=>none)
  (λ_ _ _ _ _ _ _ _=>none)
  (λ_ _ _ _ _ _ _=>none)
  (λ_ _ _ _ _ _ _ _=>none)
  (λ_ _ _=>none)
  (λ_ _ _ _=>none)
  (λ_ _ _=>none)
  (λ_ _ _ _ _ _ _ _=>none)
  (λ_ _ _ _ _=>none)
  (λ_ _ _ _ _=>none)
  (λ_ _ _=>none)
  (λ_ _ _ _ _ _=>none)
  ⟨⟩ (λ_ _ _ _=>⟨⟩) v
def ALC(v:V):(Bool)->Option Bool:=
 V.rec (motive_1:=λ_=>(Bool)->Option Bool) (motive_2:=λ_=>PUnit)
  (λ_=>none)
  (λ_ _ _ _=>none)
  (λa x=>some (AQs x a))
  (λ_ _ _=>none)
  (λ_=>none)
  (λ_ _ _=>none)
  (λ_ _ _=>none)
  (λ_=>none)
  (λ_ _ _ _ _ _=>none)
  (λ_ _ _ _ _=>none)
  (λ_ _ _ _ _ _=>none)
  (λ_=>none)
  (λ_ _=>none)
  (λ_=>none)
  (λ_ _ _ _ _ _=>none)
  (λ_ _ _=>none)
  (λ_ _ _=>none)
  (λ_=>none)
  (λ_ _ _ _=>none)
  ⟨⟩ (λ_ _ _ _=>⟨⟩) v
def eqStr(v:V):(Nat)->(Nat)->Option Bool:=
 V.rec (motive_1:=λ_=>(Nat)->(Nat)->Option Bool) (motive_2:=λ_=>PUnit)
  (λ_ _=>none)
  (λ_ _ _ _ _=>none)
  (λ_ _ _=>none)
  (λa b l d=>some (band (Nat.beq l a) (Nat.beq d b)))
  (λ_ _=>none)
  (λ_ _ _ _=>none)
  (λ_ _ _ _=>none)
  (λ_ _=>none)
  (λ_ _ _ _ _ _ _=>none)
  (λ_ _ _ _ _ _=>none)
  (λ_ _ _ _ _ _ _=>none)
  (λ_ _=>none)
  (λ_ _ _=>none)
  (λ_ _=>none)
  (λ_ _ _ _ _ _ _=>none)
  (λ_ _ _ _=>none)
  (λ_ _ _ _=>none)
  (λ_ _=>none)
  (λ_ _ _ _ _=>none)
  ⟨⟩ (λ_ _ _ _=>⟨⟩) v
def APg(v:V):Option Bool:=
 V.rec (motive_1:=λ_=>Option Bool) (motive_2:=λ_=>PUnit)
  (none)
  (λ_ _ _=>none)
  (λ_=>none)
  (λ_ _=>none)
  (some true)
  (λ_ _=>some false)
  (λ_ _=>some false)
  (none)
  (λ_ _ _ _ _=>none)
  (λ_ _ _ _=>none)
  (λ_ _ _ _ _=>none)
  (none)
  (λ_=>none)
  (none)
  (λ_ _ _ _ _=>none)
  (λ_ _=>none)
  (λ_ _=>none)
  (none)
  (λ_ _ _=>none)
  ⟨⟩ (λ_ _ _ _=>⟨⟩) v
def AUI(v:V):(Nat)->(Nat)->Option Bool:=
 V.rec (motive_1:=λ_=>(Nat)->(Nat)->Option Bool) (motive_2:=λ_=>PUnit)
  (λ_ _=>none)
  (λ_ _ _ _ _=>none)
  (λ_ _ _=>none)
  (λ_ _ _ _=>none)
  (λ_ _=>some false)
  (λa b i o=>Bool.rec none (some (Nat.beq o b)) (Nat.beq i a))
  (λ_ _ _ _=>none)
  (λ_ _=>none)
  (λ_ _ _ _ _ _ _=>none)
  (λ_ _ _ _ _ _=>none)
  (λ_ _ _ _ _ _ _=>none)
  (λ_ _=>none)
  (λ_ _ _=>none)
  (λ_ _=>none)
  (λ_ _ _ _ _ _ _=>none)
  (λ_ _ _ _=>none)
  (λ_ _ _ _=>none)
  (λ_ _=>none)
  (λ_ _ _ _ _=>none)
  ⟨⟩ (λ_ _ _ _=>⟨⟩) v
def AOo(v:V):Option Bool:=
 V.rec (motive_1:=λ_=>Option Bool) (motive_2:=λ_=>PUnit)
  (none)
  (λ_ _ _=>none)
  (λ_=>none)
  (λ_ _=>none)
  (some false)
  (λ_ _=>none)
  (λ_ _=>none)
  (none)
  (λ_ _ _ _ _=>none)
  (λ_ _ _ _=>none)
  (λ_ _ _ _ _=>none)
  (none)
  (λ_=>none)
  (none)
  (λ_ _ _ _ _=>none)
  (λ_ _=>none)
  (λ_ _=>none)
  (none)
  (λ_ _ _=>none)
  ⟨⟩ (λ_ _ _ _=>⟨⟩) v
def AIe(v:V):(V)->Option Bool:=
 V.rec (motive_1:=λ_=>(V)->Option Bool) (motive_2:=λ_=>PUnit)
  (λ_=>none)
  (λa b c y=>AQl y a b c)
  (λ_ _=>none)
  (λ_ _ _=>none)
  (λ_=>none)
  (λ_ _ _=>none)
  (λ_ _ _=>none)
  (λ_=>none)
  (λ_ _ _ _ _ _=>none)
  (λ_ _ _ _ _=>none)
  (λ_ _ _ _ _ _=>none)
  (λ_=>none)
  (λ_ _=>none)
  (λ_=>none)
  (λ_ _ _ _ _ _=>none)
  (λ_ _ _=>none)
  (λ_ _ _=>none)
  (λ_=>none)
  (λ_ _ _ _=>none)
  ⟨⟩ (λ_ _ _ _=>⟨⟩) v
def AJk(v:V):(V)->Option Bool:=
 V.rec (motive_1:=λ_=>(V)->Option Bool) (motive_2:=λ_=>PUnit)
  (λ_=>none)
  (λ_ _ _ _=>none)
  (λ_ _=>none)
  (λa b y=>eqStr y a b)
  (λ_=>none)
  (λ_ _ _=>none)
  (λ_ _ _=>none)
  (λ_=>none)
  (λ_ _ _ _ _ _=>none)
  (λ_ _ _ _ _=>none)
  (λ_ _ _ _ _ _=>none)
  (λ_=>none)
  (λ_ _=>none)
  (λ_=>none)
  (λ_ _ _ _ _ _=>none)
  (λ_ _ _=>none)
  (λ_ _ _=>none)
  (λ_=>none)
  (λ_ _ _ _=>none)
  ⟨⟩ (λ_ _ _ _=>⟨⟩) v
def AC6(v:V):(V)->Option Bool:=
 V.rec (motive_1:=λ_=>(V)->Option Bool) (motive_2:=λ_=>PUnit)
  (λ_=>none)
  (λ_ _ _ _=>none)
  (λa y=>ALC y a)
  (λ_ _ _=>none)
  (λ_=>none)
  (λ_ _ _=>none)
  (λ_ _ _=>none)
  (λ_=>none)
  (λ_ _ _ _ _ _=>none)
  (λ_ _ _ _ _=>none)
  (λ_ _ _ _ _ _=>none)
  (λ_=>none)
  (λ_ _=>none)
  (λ_=>none)
  (λ_ _ _ _ _ _=>none)
  (λ_ _ _=>none)
  (λ_ _ _=>none)
  (λ_=>none)
  (λ_ _ _ _=>none)
  ⟨⟩ (λ_ _ _ _=>⟨⟩) v
def AIH(v:V):(V)->Option Bool:=
 V.rec (motive_1:=λ_=>(V)->Option Bool) (motive_2:=λ_=>PUnit)
  (λ_=>none)
  (λ_ _ _ _=>none)
  (λ_ _=>none)
  (λ_ _ _=>none)
  (λy=>APg y)
  (λa b y=>AUI y a b)
  (λ_ _ y=>AOo y)
  (λ_=>none)
  (λ_ _ _ _ _ _=>none)
  (λ_ _ _ _ _=>none)
  (λ_ _ _ _ _ _=>none)
  (λ_=>none)
  (λ_ _=>none)
  (λ_=>none)
  (λ_ _ _ _ _ _=>none)
  (λ_ _ _=>none)
  (λ_ _ _=>none)
  (λ_=>none)
  (λ_ _ _ _=>none)
  ⟨⟩ (λ_ _ _ _=>⟨⟩) v
def APK(v:V):Option Bool:=
 V.rec (motive_1:=λ_=>Option Bool) (motive_2:=λ_=>PUnit)
  (none)
  (λ_ _ _=>none)
  (λ_=>none)
  (λ_ _=>none)
  (none)
  (λ_ _=>none)
  (λ_ _=>none)
  (some true)
  (λ_ _ _ _ _=>some false)
  (λ_ _ _ _=>some false)
  (λ_ _ _ _ _=>some false)
  (none)
  (λ_=>none)
  (none)
  (λ_ _ _ _ _=>none)
  (λ_ _=>none)
  (λ_ _=>none)
  (none)
  (λ_ _ _=>none)
  ⟨⟩ (λ_ _ _ _=>⟨⟩) v
def pI(v:V):Option Bool:=
 V.rec (motive_1:=λ_=>Option Bool) (motive_2:=λ_=>PUnit)
  (none)
  (λ_ _ _=>none)
  (λ_=>none)
  (λ_ _=>none)
  (none)
  (λ_ _=>none)
  (λ_ _=>none)
  (some false)
  (λ_ _ _ _ _=>none)
  (λ_ _ _ _=>none)
  (λ_ _ _ _ _=>none)
  (none)
  (λ_=>none)
  (none)
  (λ_ _ _ _ _=>none)
  (λ_ _=>none)
  (λ_ _=>none)
  (none)
  (λ_ _ _=>none)
  ⟨⟩ (λ_ _ _ _=>⟨⟩) v
def AOk(v:V):Option Bool:=
 V.rec (motive_1:=λ_=>Option Bool) (motive_2:=λ_=>PUnit)
  (none)
  (λ_ _ _=>none)
  (λ_=>none)
  (λ_ _=>none)
  (none)
  (λ_ _=>none)
  (λ_ _=>none)
  (none)
  (λ_ _ _ _ _=>none)
  (λ_ _ _ _=>none)
  (λ_ _ _ _ _=>none)
  (none)
  (λ_=>none)
  (some true)
  (λ_ _ _ _ _=>some false)
  (λ_ _=>none)
  (λ_ _=>none)
  (none)
  (λ_ _ _=>none)
  ⟨⟩ (λ_ _ _ _=>⟨⟩) v
def AL0(v:V):Option Bool:=
 V.rec (motive_1:=λ_=>Option Bool) (motive_2:=λ_=>PUnit)
  (none)
  (λ_ _ _=>none)
  (λ_=>none)
  (λ_ _=>none)
  (none)
  (λ_ _=>none)
  (λ_ _=>none)
  (none)
  (λ_ _ _ _ _=>none)
  (λ_ _ _ _=>none)
  (λ_ _ _ _ _=>none)
  (none)
  (λ_=>none)
  (some false)
  (λ_ _ _ _ _=>none)
  (λ_ _=>none)
  (λ_ _=>none)
  (none)
  (λ_ _ _=>none)
  ⟨⟩ (λ_ _ _ _=>⟨⟩) v
def AQW(v:V):Option Bool:=
 V.rec (motive_1:=λ_=>Option Bool) (motive_2:=λ_=>PUnit)
  (none)
  (λ_ _ _=>none)
  (λ_=>none)
  (λ_ _=>none)
  (none)
  (λ_ _=>none)
  (λ_ _=>none)
  (none)
  (λ_ _ _ _ _=>none)
  (λ_ _ _ _=>none)
  (λ_ _ _ _ _=>none)
  (some true)
  (λ_=>some false)
  (none)
  (λ_ _ _ _ _=>none)
  (λ_ _=>none)
  (λ_ _=>none)
  (none)
  (λ_ _ _=>none)
  ⟨⟩ (λ_ _ _ _=>⟨⟩) v
def AMH(v:V):Option Bool:=
 V.rec (motive_1:=λ_=>Option Bool) (motive_2:=λ_=>PUnit)
  (none)
  (λ_ _ _=>none)
  (λ_=>none)
  (λ_ _=>none)
  (none)
  (λ_ _=>none)
  (λ_ _=>none)
  (none)
  (λ_ _ _ _ _=>none)
  (λ_ _ _ _=>none)
  (λ_ _ _ _ _=>none)
  (some false)
  (λ_=>none)
  (none)
  (λ_ _ _ _ _=>none)
  (λ_ _=>none)
  (λ_ _=>none)
  (none)
  (λ_ _ _=>none)
  ⟨⟩ (λ_ _ _ _=>⟨⟩) v
def kSl(v:V):(V)->Option Bool:=
 V.rec (motive_1:=λ_=>(V)->Option Bool) (motive_2:=λ_=>PUnit)
  (λ_=>none)
  (λ_ _ _ _=>none)
  (λ_ _=>none)
  (λ_ _ _=>none)
  (λ_=>none)
  (λ_ _ _=>none)
  (λ_ _ _=>none)
  (λy=>APK y)
  (λ_ _ _ _ _ y=>pI y)
  (λ_ _ _ _ y=>pI y)
  (λ_ _ _ _ _ y=>pI y)
  (λ_=>none)
  (λ_ _=>none)
  (λ_=>none)
  (λ_ _ _ _ _ _=>none)
  (λ_ _ _=>none)
  (λ_ _ _=>none)
  (λ_=>none)
  (λ_ _ _ _=>none)
  ⟨⟩ (λ_ _ _ _=>⟨⟩) v
def kFn(v:V):(V)->Option Bool:=
 V.rec (motive_1:=λ_=>(V)->Option Bool) (motive_2:=λ_=>PUnit)
  (λ_=>none)
  (λ_ _ _ _=>none)
  (λ_ _=>none)
  (λ_ _ _=>none)
  (λ_=>none)
  (λ_ _ _=>none)
  (λ_ _ _=>none)
  (λ_=>none)
  (λ_ _ _ _ _ _=>none)
  (λ_ _ _ _ _=>none)
  (λ_ _ _ _ _ _=>none)
  (λ_=>none)
  (λ_ _=>none)
  (λy=>AOk y)
  (λ_ _ _ _ _ y=>AL0 y)
  (λ_ _ _=>none)
  (λ_ _ _=>none)
  (λ_=>none)
  (λ_ _ _ _=>none)
  ⟨⟩ (λ_ _ _ _=>⟨⟩) v
def AVp(v:V):(V)->Option Bool:=
 V.rec (motive_1:=λ_=>(V)->Option Bool) (motive_2:=λ_=>PUnit)
  (λ_=>none)
  (λ_ _ _ _=>none)
  (λ_ _=>none)
  (λ_ _ _=>none)
  (λ_=>none)
  (λ_ _ _=>none)
  (λ_ _ _=>none)
  (λ_=>none)
  (λ_ _ _ _ _ _=>none)
  (λ_ _ _ _ _=>none)
  (λ_ _ _ _ _ _=>none)
  (λy=>AQW y)
  (λ_ y=>AMH y)
  (λ_=>none)
  (λ_ _ _ _ _ _=>none)
  (λ_ _ _=>none)
  (λ_ _ _=>none)
  (λ_=>none)
  (λ_ _ _ _=>none)
  ⟨⟩ (λ_ _ _ _=>⟨⟩) v
def Va(o:Option Bool)(f:Bool->Option Bool):Option Bool:=Option.rec (motive:=λ_=>(Bool->Option Bool)->Option Bool) (λ_=>none) (λv f=>f v) o f
inductive CK where
 |int|str|bool|ptr
def CK.eq(k:CK):V->V->Option Bool:=CK.rec (motive:=λ_=>V->V->Option Bool) AIe AJk AC6 AIH k
def AKU(ks:List CK):List V->List V->Option Bool:=
 List.rec (motive:=λ_=>List V->List V->Option Bool) (λa b=>List.rec (motive:=λ_=>Option Bool) (List.rec (motive:=λ_=>Option Bool) (some true) (λ_ _ _=>none) b) (λ_ _ _=>none) a)
  (λk _ g a b=>List.rec (motive:=λ_=>Option Bool) none (λx xs _=>List.rec (motive:=λ_=>Option Bool) none (λy ys _=>Va (k.eq x y) λr=>Va (g xs ys) λr'=>some (band r r')) b) a) ks
def AUJ(v:V):(List CK)->(LV)->Option Bool:=
 V.rec (motive_1:=λ_=>(List CK)->(LV)->Option Bool) (motive_2:=λ_=>PUnit)
  (λ_ _=>none)
  (λ_ _ _ _ _=>none)
  (λ_ _ _=>none)
  (λ_ _ _ _=>none)
  (λ_ _=>none)
  (λ_ _ _ _=>none)
  (λ_ _ _ _=>none)
  (λ_ _=>none)
  (λ_ _ _ _ _ _ _=>none)
  (λ_ _ _ _ _ _=>none)
  (λ_ _ _ _ _ _ _=>none)
  (λ_ _=>none)
  (λ_ _ _=>none)
  (λ_ _=>none)
  (λ_ _ _ _ _ _ _=>none)
  (λa _ ks l=>AKU ks l a)
  (λ_ _ _ _=>none)
  (λ_ _=>none)
  (λ_ _ _ _ _=>none)
  ⟨⟩ (λ_ _ _ _=>⟨⟩) v
def AUk(v:V):(List CK)->(V)->Option Bool:=
 V.rec (motive_1:=λ_=>(List CK)->(V)->Option Bool) (motive_2:=λ_=>PUnit)
  (λ_ _=>none)
  (λ_ _ _ _ _=>none)
  (λ_ _ _=>none)
  (λ_ _ _ _=>none)
  (λ_ _=>none)
  (λ_ _ _ _=>none)
  (λ_ _ _ _=>none)
  (λ_ _=>none)
  (λ_ _ _ _ _ _ _=>none)
  (λ_ _ _ _ _ _=>none)
  (λ_ _ _ _ _ _ _=>none)
  (λ_ _=>none)
  (λ_ _ _=>none)
  (λ_ _=>none)
  (λ_ _ _ _ _ _ _=>none)
  (λa _ ks y=>AUJ y ks a)
  (λ_ _ _ _=>none)
  (λ_ _=>none)
  (λ_ _ _ _ _=>none)
  ⟨⟩ (λ_ _ _ _=>⟨⟩) v
inductive EK where
 |one (k:CK)|agg (ks:List CK)|sl|fn|map
def EK.eq(k:EK):V->V->Option Bool:=EK.rec (motive:=λ_=>V->V->Option Bool) (λk=>k.eq) (λks x y=>AUk x ks y) kSl kFn AVp k
def V.AMN(v:V):Option Nat:=
 V.rec (motive_1:=λ_=>Option Nat) (motive_2:=λ_=>PUnit)
  (none)
  (λ_ _ _=>none)
  (λ_=>none)
  (λ_ _=>none)
  (none)
  (λa _=>some a)
  (λ_ _=>none)
  (none)
  (λ_ _ _ _ _=>none)
  (λ_ _ _ _=>none)
  (λ_ _ _ _ _=>none)
  (none)
  (λ_=>none)
  (none)
  (λ_ _ _ _ _=>none)
  (λ_ _=>none)
  (λ_ _=>none)
  (none)
  (λ_ _ _=>none)
  ⟨⟩ (λ_ _ _ _=>⟨⟩) v
def V.ARq(v:V):Option (List V):=
 V.rec (motive_1:=λ_=>Option (List V)) (motive_2:=λ_=>PUnit)
  (none)
  (λ_ _ _=>none)
  (λ_=>none)
  (λ_ _=>none)
  (none)
  (λ_ _=>none)
  (λ_ _=>none)
  (none)
  (λ_ _ _ _ _=>none)
  (λ_ _ _ _=>none)
  (λ_ _ _ _ _=>none)
  (none)
  (λ_=>none)
  (none)
  (λ_ _ _ _ _=>none)
  (λl _=>some l)
  (λ_ _=>none)
  (none)
  (λ_ _ _=>none)
  ⟨⟩ (λ_ _ _ _=>⟨⟩) v
def bW(H:Heap)(id:Nat):Bool:=Option.rec (motive:=λ_=>Bool) false
 (λb=>S9.rec (motive:=λ_=>Bool) (λesz _ _=>TM (Nat.beq esz 1)) (λ_ _=>false) false (λ_ _ _ _ _=>false) (λ_=>false) b) (T.get H id)
def ANT(ok:Nat->Bool)(x y:V):Option Bool:=
 Option.rec (motive:=λ_=>Option Bool) none (λi=>Option.rec (motive:=λ_=>Option Bool) none (λj=>Bool.rec (motive:=λ_=>Option Bool) none (some false) (band (TM (Nat.beq i j)) (band (ok i) (ok j)))) y.AMN) x.AMN
def AFV(ok:Nat->Bool)(x y:V):Option Bool:=Option.rec (motive:=λ_=>Option Bool) (ANT ok x y) (λb=>some b) (AIH x y)
def CK.eqH(ok:Nat->Bool)(k:CK):V->V->Option Bool:=CK.rec (motive:=λ_=>V->V->Option Bool) AIe AJk AC6 (AFV ok) k
def AAW(q:CK->V->V->Option Bool)(ks:List CK):List V->List V->Option Bool:=
 List.rec (motive:=λ_=>List V->List V->Option Bool) (λa b=>List.rec (motive:=λ_=>Option Bool) (List.rec (motive:=λ_=>Option Bool) (some true) (λ_ _ _=>none) b) (λ_ _ _=>none) a)
  (λk _ g a b=>List.rec (motive:=λ_=>Option Bool) none (λx xs _=>List.rec (motive:=λ_=>Option Bool) none (λy ys _=>Va (q k x y) λr=>Va (g xs ys) λr'=>some (band r r')) b) a) ks
def AA0(ok:Nat->Bool)(ks:List CK)(x y:V):Option Bool:=
 Option.rec (motive:=λ_=>Option Bool) none (λl=>Option.rec (motive:=λ_=>Option Bool) none (λm=>AAW (CK.eqH ok) ks l m) y.ARq) x.ARq
inductive B2 where
 |add|sub|mul|quo|rem|and|or|xor|andNot|shl|shr|lss|leq|gtr|geq
def ACR(f:Int->Int->Bool)(x y:V):Option V:=x.Kr λk a s=>y.Kr λk' b t=>CG (band (keq k k') (Nat.beq (Nat.add s t) 0)) (mkB (f a b))
def AJV(f:Nat->Nat->Nat->Nat->Bool)(x y:V):Option V:=x.WM λl c=>y.WM λm d=>mkB (f l c m d)
def ari(f:Int->Int->Int)(x y:V):Option V:=x.Kr λk a s=>y.Kr λk' b t=>CG (keq k k') (mkI k (f a b) (Nat.add s t))
def dvs(f:Int->Int->Int)(x y:V):Option V:=
 x.Kr λk a s=>y.Kr λk' b t=>CG (band (keq k k') (band (Nat.beq t 0) (TM (ieq b 0)))) (mkI k (f a b) s)
def AUo(x y:V):Option V:=
 x.Kr λk a s=>y.Kr λk' b t=>CG (band (keq k k') (band (Nat.beq t 0) (TM (ieq b 0)))) (mkN k (Int.tmod a b) s)
def AYF(x y:V):Option V:=x.WM λl c=>y.WM λm d=>CG (Nat.blt (Nat.add l m) 9223372036854775808) (Et (Nat.add l m) λn=>Et (AYP l c d) λe=>some (.str n e))
def AVA(x y:V):Option V:=ACs (isStr x) (AYF x y) (ari AF9 x y)
def AWp(x y:V):Option V:=ari (λa b=>AF9 a (Int.neg b)) x y
def AXL(x y:V):Option V:=ari Int.mul x y
def AXA(k:IntKind)(a b:Int):Int:=Int.rec (motive:=λ_=>Int->IntKind->Int)
 (λm b k=>Int.rec (motive:=λ_=>Nat->IntKind->Int) (λn m k=>qN k (.ofNat (Nat.land m n))) (λn m k=>bits .and k (.ofNat m) (.negSucc n)) b m k)
 (λm b k=>bits .and k (.negSucc m) b) a b k
def AV5(x y:V):Option V:=x.Kr λk a s=>y.Kr λk' b t=>CG (band (keq k k') (Nat.beq (Nat.add s t) 0)) (Yz (AXA k a b) λm=>some (.int k m 0))
def APc(o:BinOp)(x y:V):Option V:=x.Kr λk a s=>y.Kr λk' b t=>CG (band (keq k k') (Nat.beq (Nat.add s t) 0)) (Yz (bits o k a b) λm=>some (.int k m 0))
def AWo(a:Int)(n:Nat):Int:=Int.fdiv a (Int.ofNat (Nat.pow 2 n))
def AJx(k:IntKind):Nat:=IntKind.rec 8 16 32 64 8 16 32 64 k
def AV7(x y:V):Option V:=x.Kr λk a s=>y.Kr λ_ b t=>CG (band (TM (ilt b 0)) (Nat.beq (Nat.add s t) 0)) (Yz (AWo a (Nat.min (Int.toNat b) (AJx k))) λm=>some (.int k m 0))
def AVl(x y:V):Option V:=x.Kr λk a s=>y.Kr λ_ b t=>CG (band (TM (ilt b 0)) (Nat.beq (Nat.add s t) 0)) (mkI k (Int.mul a (Int.ofNat (Nat.pow 2 (Nat.min (Int.toNat b) (AJx k))))) 0)
def ofB(o:Option Bool):Option V:=Option.rec none mkB o
def EN(k:EK)(neg:Bool)(x y:V):Option V:=ofB (Va (k.eq x y) λb=>some (Bool.rec (motive:=λ_=>Bool->Bool) (λb=>b) TM neg b))
def AVG(ks:List CK)(neg:Bool)(x y:V)(H:Heap):Option V:=ofB (Va (AA0 (bW H) ks x y) λb=>some (Bool.rec (motive:=λ_=>Bool->Bool) (λb=>b) TM neg b))
def AV3(x y:V):Option V:=ACs (isStr x) (AJV slt x y) (ACR ilt x y)
def AWA(x y:V):Option V:=ACs (isStr x) (AJV (λl c m d=>TM (slt m d l c)) x y) (ACR ile x y)
def AVT(x y:V):Option V:=ACs (isStr x) (AJV (λl c m d=>slt m d l c) x y) (ACR (λa b=>ilt b a) x y)
def AVY(x y:V):Option V:=ACs (isStr x) (AJV (λl c m d=>TM (slt l c m d)) x y) (ACR (λa b=>ile b a) x y)
def B2.ev(o:B2):V->V->Option V:=B2.rec (motive:=λ_=>V->V->Option V)
 AVA AWp AXL (dvs Int.tdiv) AUo AV5 (APc .or) (APc .xor) (APc .andNot) AVl AV7 AV3 AWA AVT AVY o
end Go.DW
namespace Go.RL
open Go.DW
def q0:P2:=.h
def q1:P2:=.z q0
def q2:P2:=.o q0
def q3:P2:=.z q1
def q4:P2:=.o q1
def q5:P2:=.z q2
def q6:P2:=.o q2
def q7:P2:=.z q3
def q8:P2:=.o q3
def q9:P2:=.z q4
def q10:P2:=.o q4
def q11:P2:=.z q5
def q12:P2:=.o q5
def q13:P2:=.z q6
def q14:P2:=.o q6
def q15:P2:=.z q7
def q16:P2:=.o q7
def q17:P2:=.z q8
def q18:P2:=.o q8
def q19:P2:=.z q9
def q20:P2:=.o q9
def q21:P2:=.z q10
def q22:P2:=.o q10
def q23:P2:=.z q11
def q24:P2:=.o q11
def q25:P2:=.z q12
def q26:P2:=.o q12
def q27:P2:=.z q13
def q28:P2:=.o q13
def q29:P2:=.z q14
def q30:P2:=.o q14
def q31:P2:=.z q15
def q32:P2:=.o q15
def q33:P2:=.z q16
def q34:P2:=.o q16
def q39:P2:=.z q19
def q40:P2:=.o q19
def q41:P2:=.z q20
def q43:P2:=.z q21
def q44:P2:=.o q21
def q45:P2:=.z q22
def q46:P2:=.o q22
def q52:P2:=.o q25
def q53:P2:=.z q26
def q54:P2:=.o q26
def q55:P2:=.z q27
def q56:P2:=.o q27
def q57:P2:=.z q28
def q58:P2:=.o q28
def q65:P2:=.z q32
def q66:P2:=.o q32
def q67:P2:=.z q33
def q68:P2:=.o q33
def q69:P2:=.z q34
def q92:P2:=.o q45
def q93:P2:=.z q46
def q94:P2:=.o q46
def AaF:P2:=.o q55
abbrev rP:Nat:=5
abbrev Ua:Nat:=13
abbrev Z7:Nat:=14
abbrev Xz:Nat:=16
abbrev jm:Nat:=17
abbrev ZX:Nat:=19
abbrev jM:Nat:=20
abbrev BZ:Nat:=30
abbrev AEt:Nat:=36
abbrev bI:Nat:=37
abbrev Ez:Nat:=40
abbrev FH:Nat:=41
abbrev EH:Nat:=42
abbrev ES:Nat:=43
abbrev AZ:Nat:=44
abbrev ACZ:Nat:=45
abbrev FP:Nat:=46
abbrev Eh:Nat:=47
abbrev Kv:Nat:=48
abbrev OL:Nat:=50
abbrev Ho:Nat:=51
abbrev kL:Nat:=52
abbrev LY:Nat:=53
abbrev XY:Nat:=54
abbrev PV:Nat:=59
abbrev NC:Nat:=67
abbrev V6:Nat:=68
abbrev Xg:Nat:=71
abbrev Gj:Nat:=77
abbrev ABM:Nat:=78
abbrev D6:Nat:=79
abbrev JR:Nat:=80
abbrev D5:Nat:=82
abbrev Ah:Nat:=83
abbrev P5:Nat:=84
abbrev AFG:Nat:=85
abbrev AB6:Nat:=86
abbrev Ci:Nat:=87
abbrev OE:Nat:=88
abbrev Zn:Nat:=90
abbrev FZ:Nat:=91
abbrev U3:Nat:=92
abbrev Nj:Nat:=93
abbrev dX:Nat:=100
abbrev gQ:Nat:=108
abbrev XU:Nat:=110
abbrev Gv:Nat:=114
abbrev AC0:Nat:=115
abbrev Qz:Nat:=122
abbrev OY:Nat:=123
abbrev XZ:Nat:=124
abbrev WS:Nat:=125
abbrev E5:Nat:=126
abbrev JD:Nat:=127
abbrev Ai:Nat:=128
abbrev BQ:Nat:=129
abbrev Qy:Nat:=130
abbrev Ot:Nat:=131
abbrev Jv:Nat:=132
abbrev CV:Nat:=133
abbrev JV:Nat:=134
abbrev CU:Nat:=135
abbrev D7:Nat:=136
abbrev OG:Nat:=137
abbrev VO:Nat:=141
abbrev qH:Nat:=142
abbrev Sz:Nat:=143
abbrev Vt:Nat:=145
abbrev Aq:Nat:=146
abbrev Zc:Nat:=147
abbrev BN:Nat:=174
abbrev YZ:Nat:=175
abbrev FK:Nat:=176
abbrev Cc:Nat:=177
abbrev Yt:Nat:=178
abbrev YE:Nat:=179
abbrev Ky:Nat:=180
abbrev uo:Nat:=181
abbrev Ed:Nat:=182
abbrev UD:Nat:=183
abbrev EU:Nat:=184
abbrev Gw:Nat:=214
abbrev Ob:Nat:=215
abbrev Gq:Nat:=216
abbrev Nq:Nat:=217
abbrev dI:Nat:=218
abbrev ZY:Nat:=219
abbrev Xq:Nat:=220
abbrev Ie:Nat:=221
abbrev Y7:Nat:=248
end Go.RL
namespace Go.DW
inductive AN where
 |mv (x:X)
 |pick (c a b:X)
 |ld1 (x:X)
 |ldn (n:Nat) (x:X)
 |AQY (x:X)
 |bin (o:B2) (x y:X)
 |eq (k:EK) (neg:Bool) (x y:X)
 |not (x:X)
 |neg (x:X)
 |cvi (k:IntKind) (x:X)
 |AaG (f:Nat) (first caps:List X)
 |AXb (off:Nat) (x:X)
 |field1 (off:Nat) (x:X)
 |AVf (off n:Nat) (x:X)
 |AYj (esz:Nat) (x i:X)
 |AUi (n esz:Nat) (x i:X)
 |AaP (x i:X)
 |AZH (n:Nat) (x i:X)
 |ext (x:X) (i:Nat)
 |AYW (x:X)
 |AZe (x:X)
 |AXU (x:X)
 |AZN (n:Nat)
 |look (c:CK) (ok:Bool) (zero:V) (m k:X)
 |build (zero:List V) (parts:List (Nat×Nat×X))
 |AX2 (x:X) (lo hi:Option X)
 |slc (esz:Nat) (x:X) (lo hi mx:Option X)
 |AaL (n esz:Nat) (x:X) (lo hi:Option X)
 |AZq (x y:X)
 |AZd (x y:X)
 |cvS (x:X)
 |ARb (s c:X)
 |AJV (x y:X)
 |eqp (k:List CK) (neg:Bool) (x y:X)
inductive AA where
 |alloc (esz:Nat) (es:List (List V))
 |box (x:X)
 |AHc (esz cnt:Nat) (zero:List V) (parts:List (Nat×X))
 |ADo (esz bytes:Nat) (zero:List V) (l c:X)
 |APU
 |mM (t e:Nat)
inductive AE where
 |asg (x:X)
 |st (n:Nat) (x v:X)
 |app (esz bytes:Nat) (x y:X)
 |copy (esz:Nat) (x y:X)
 |ALt (c:CK) (m k v:X)
 |del (c:CK) (m k:X)
 |AWu (m:X)
 |call (f:Nat) (args:List X)
 |AL3 (x:X) (args:List X)
 |defer (dp:P2) (x:X) (args:List X)
 |cvB (x:X)
inductive AO where
 |n (o:AN)|a (o:AA)|e (o:AE)
inductive uS where
 |no|to (p:P2)|ps
inductive Gd where
 |no|on (x:X) (b:Bool)
inductive AOp where
 |mk (d:uS) (g:Gd) (o:AO)
def ARh(n:Int):(Nat->Option V)->Option V:=Int.rec (motive:=λ_=>(Nat->Option V)->Option V) (λm f=>f m) (λ_ _=>none) n
def aA(v:V)(f:Nat->Option V):Option V:=v.Kr λ_ n s=>CG (Nat.beq s 0) (ARh n f)
def iT(x:Option X):RS->Nat->(Nat->Option V)->Option V:=
 Option.rec (motive:=λ_=>RS->Nat->(Nat->Option V)->Option V) (λ_ d f=>f d) (λx R _ f=>aA (x.ev R) f) x
def f3(a b c:Nat)(f:Nat->Nat->Nat->V):Option V:=Et a λa=>Et b λb=>Et c λc=>some (f a b c)
def AFi(R:RS)(lo hi mx:Option X):Option V:=iT mx R 0 λm=>iT hi R 0 λh=>iT lo R 0 λl=>CG (band (Nat.ble l h) (band (Nat.ble h m) (Nat.beq m 0))) (some .Ad)
def AKK(z:Nat)(R:RS)(lo hi mx:Option X)(id off ln cap esz:Nat):Option V:=CG (Nat.beq z esz) (iT mx R cap λm=>iT hi R ln λh=>iT lo R 0 λl=>
 CG (band (Nat.ble l h) (band (Nat.ble h m) (Nat.ble m cap))) (f3 (Nat.add off l) (Nat.sub h l) (Nat.sub m l) λo d c=>.sl id o d c esz))
def AD9(R:RS)(lo hi:Option X)(id off ln esz:Nat):Option V:=iT hi R ln λh=>iT lo R 0 λl=>
 CG (band (Nat.ble l h) (Nat.ble h ln)) (f3 (Nat.add off l) (Nat.sub h l) 0 λo d _=>.PO id o d esz)
def AEA(R:RS)(lo hi:Option X)(mx:X)(id off ln esz:Nat):Option V:=aA (mx.ev R) λm=>iT hi R 0 λh=>iT lo R 0 λl=>
 CG (band (Nat.ble l h) (band (Nat.ble h m) (Nat.ble m ln))) (f3 (Nat.add off l) (Nat.sub h l) (Nat.sub m l) λo d c=>.sl id o d c esz)
def ABy(z:Nat)(R:RS)(lo hi mx:Option X)(id off ln esz:Nat):Option V:=
 CG (Nat.beq z esz) (Option.rec (motive:=λ_=>Option V) (AD9 R lo hi id off ln esz) (λmx=>AEA R lo hi mx id off ln esz) mx)
def AFJ(z:Nat)(R:RS)(lo hi mx:Option X)(b off ln cap esz:Nat):Option V:=iT hi R ln λh=>iT lo R 0 λl=>
 Option.rec (motive:=λ_=>Option V) (CG (band (Nat.ble l h) (Nat.ble h cap)) (f3 (Nat.add off (Nat.mul l z)) (Nat.sub h l) (Nat.sub cap l) λo d c=>.rsl b o d c esz)) (λ_=>none) mx
def AFF(z:Nat)(x:V)(R:RS)(lo hi mx:Option X):Option V:=x.ASg (AFi R lo hi mx) (AKK z R lo hi mx) (ABy z R lo hi mx) (AFJ z R lo hi mx)
def AM6(x:V)(R:RS)(lo hi:Option X):Option V:=
 x.WM λln c=>iT hi R ln λh=>iT lo R 0 λl=>CG (band (Nat.ble l h) (Nat.ble h ln)) (f3 (Nat.sub h l) (AXB c l h) 0 λd c _=>.str d c)
def BD(esz:Nat)(x i:V):Option V:=aA i λi=>x.ASg none
 (λid off ln _ e=>CG (band (Nat.beq e esz) (Nat.blt i ln)) (Et (Nat.mul (Nat.add off i) esz) λo=>some (.ptr id o)))
 (λid off ln e=>CG (band (Nat.beq e esz) (Nat.blt i ln)) (Et (Nat.mul (Nat.add off i) esz) λo=>some (.ptr id o)))
 (λb off ln _ _=>CG (Nat.blt i ln) (Et (Nat.add off (Nat.mul i esz)) λo=>some (.gptr b o)))
def AU(off:Nat)(x:V):Option V:=x.AJM (λid o=>Et (Nat.add o off) λo=>some (.ptr id o)) (λb o=>Et (Nat.add o off) λo=>some (.gptr b o))
abbrev ME:=List (V×V×Nat)
def uQ(c:CK)(k:V)(es:ME):Nat->Option (Option (Nat×V)):=
 List.rec (motive:=λ_=>Nat->Option (Option (Nat×V))) (λ_=>some none)
  (λe _ g i=>CZ (c.eq e.1 k) λr=>Bool.rec (g (Nat.succ i)) (some (some (i,e.2.1))) r) es
def AXV(b:S9):(ME->Nat->Option V)->Option V:=S9.rec (motive:=λ_=>(ME->Nat->Option V)->Option V) (λ_ _ _ _=>none) (λes c f=>f es c) (λ_=>none) (λ_ _ _ _ _ _=>none) (λ_ _=>none) b
def Ug(H:Heap)(m:V)(f:ME->Nat->Option V):Option V:=m.AKs (f [] 0) λid=>Option.rec (motive:=λ_=>(ME->Nat->Option V)->Option V) (λ_=>none) AXV (T.get H id) f
def AC2(parts:List (Nat×Nat×X)):RS->List V->List V:=
 List.rec (motive:=λ_=>RS->List V->List V) (λ_ l=>l) (λp _ g R l=>g R (AK7 (Ba (p.2.2.ev R)) p.1 l)) parts
def jZ(v:V):Bool:=
 V.rec (motive_1:=λ_=>Bool) (motive_2:=λ_=>PUnit)
  (false)
  (λ_ _ _=>true)
  (λ_=>true)
  (λ_ _=>true)
  (true)
  (λ_ _=>true)
  (λ_ _=>true)
  (true)
  (λ_ _ _ _ _=>true)
  (λ_ _ _ _=>true)
  (λ_ _ _ _ _=>true)
  (true)
  (λ_=>true)
  (true)
  (λ_ _ _ _ _=>true)
  (λ_ _=>true)
  (λ_ _=>false)
  (true)
  (λ_ _ _=>true)
  ⟨⟩ (λ_ _ _ _=>⟨⟩) v
def pJ(parts:List (Nat×Nat×X)):RS->Bool:=
 List.rec (motive:=λ_=>RS->Bool) (λ_=>true) (λp _ g R=>band (band (jZ (p.2.2.ev R)) (Nat.beq (len (Ba (p.2.2.ev R))) p.2.1)) (g R)) parts
abbrev DZ:=List LV
def DN(H:Heap)(id esz:Nat)(n:Nat):Nat->Option DZ:=
 Nat.rec (motive:=λ_=>Nat->Option DZ) (λ_=>some [])
  (λ_ g o=>CZ (yx H id (Nat.mul o esz) esz) λL=>CZ (g (Nat.succ o)) λLS=>some (L::LS)) n
def jY(G:AX)(b esz:Nat)(n:Nat):Nat->Option DZ:=
 Nat.rec (motive:=λ_=>Nat->Option DZ) (λ_=>some [])
  (λ_ g o=>CZ (G b o esz) λL=>CZ (g (Nat.add o esz)) λLS=>some (L::LS)) n
def dP(n:Nat):Nat->DZ:=
 Nat.rec (motive:=λ_=>Nat->DZ) (λ_=>[]) (λ_ g c=>[.int .u8 (.ofNat (Nat.mod c 256)) 0]::g (Nat.div c 256)) n
def elems(v:V):(AX)->(Heap)->(Nat)->Option DZ:=
 V.rec (motive_1:=λ_=>(AX)->(Heap)->(Nat)->Option DZ) (motive_2:=λ_=>PUnit)
  (λ_ _ _=>none)
  (λ_ _ _ _ _ _=>none)
  (λ_ _ _ _=>none)
  (λa b _ _ z=>Bool.rec (motive:=λ_=>Option DZ) none (some (dP a b)) (Nat.beq 1 z))
  (λ_ _ _=>none)
  (λ_ _ _ _ _=>none)
  (λ_ _ _ _ _=>none)
  (λ_ _ _=>some [])
  (λa b c _ e _ H z=>Bool.rec (motive:=λ_=>Option DZ) none (DN H a z c b) (Nat.beq e z))
  (λa b c d _ H z=>Bool.rec (motive:=λ_=>Option DZ) none (DN H a z c b) (Nat.beq d z))
  (λa b c _ _ G _ z=>jY G a z c b)
  (λ_ _ _=>none)
  (λ_ _ _ _=>none)
  (λ_ _ _=>none)
  (λ_ _ _ _ _ _ _ _=>none)
  (λ_ _ _ _ _=>none)
  (λ_ _ _ _ _=>none)
  (λ_ _ _=>none)
  (λ_ _ _ _ _ _=>none)
  ⟨⟩ (λ_ _ _ _=>⟨⟩) v
def byteOf(v:V):Option Nat:=
 V.rec (motive_1:=λ_=>Option Nat) (motive_2:=λ_=>PUnit)
  (none)
  (λa b c=>Int.rec (motive:=λ_=>Nat->Option Nat) (λm t=>Bool.rec none (some m) (band (Nat.beq (kno a) 4) (band (Nat.blt m 256) (Nat.beq t 0)))) (λ_ _=>none) b c)
  (λ_=>none)
  (λ_ _=>none)
  (none)
  (λ_ _=>none)
  (λ_ _=>none)
  (none)
  (λ_ _ _ _ _=>none)
  (λ_ _ _ _=>none)
  (λ_ _ _ _ _=>none)
  (none)
  (λ_=>none)
  (none)
  (λ_ _ _ _ _=>none)
  (λ_ _=>none)
  (λ_ _=>none)
  (none)
  (λ_ _ _=>none)
  ⟨⟩ (λ_ _ _ _=>⟨⟩) v
def yu(l:DZ):Option Nat:=
 List.rec (motive:=λ_=>Option Nat) (some 0) (λx _ g=>CZ (nth x 0) λv=>CZ (byteOf v) λm=>CZ g λc=>some (Nat.add m (Nat.mul 256 c))) l
def AFE(b:Nat)(f:Nat):Nat->Nat->Int:=
 Nat.rec (motive:=λ_=>Nat->Nat->Int) (λ_ _=>.negSucc 0)
  (λ_ g c i=>Bool.rec (g (Nat.div c 256) (Nat.succ i)) (.ofNat i) (Nat.beq (Nat.mod c 256) b)) f
abbrev sU:=AX->RS->Heap->Option V
def eMv(x:X):sU:=λ_ R _=>some (x.ev R)
def AL2(c a b:X):sU:=λ_ R _=>(c.ev R).vG λt=>ACs t (some (a.ev R)) (some (b.ev R))
def ASC(x:X):sU:=λG R H=>Xn (ldP (x.ev R) G H 1) λL=>nth L 0
def AR8(n:Nat)(x:X):sU:=λG R H=>Xn (ldP (x.ev R) G H n) λL=>some (.agg L)
def AHI(x:X):sU:=λ_ R _=>Ap (x.ev R)
def ASA(o:B2)(x y:X):sU:=λ_ R _=>o.ev (x.ev R) (y.ev R)
def eEq(k:EK)(neg:Bool)(x y:X):sU:=λ_ R _=>EN k neg (x.ev R) (y.ev R)
def ASf(x:X):sU:=λ_ R _=>(x.ev R).vG λb=>mkB (TM b)
def AR0(x:X):sU:=λ_ R _=>(x.ev R).Kr λk n s=>mkI k (Int.neg n) s
def ASs(k:IntKind)(x:X):sU:=λ_ R _=>(x.ev R).Kr λ_ n s=>mkI k n s
def AM1(f:Nat)(a c:List X):sU:=λ_ R _=>some (.fn f (kF a R) (kF c R))
def AHo(off:Nat)(x:X):sU:=λ_ R _=>AU off (x.ev R)
def ADx(off:Nat)(x:X):sU:=λ_ R _=>(x.ev R).ADF λl=>nth l off
def AD7(off n:Nat)(x:X):sU:=λ_ R _=>(x.ev R).ADF λl=>some (.agg (bP n (vO off l)))
def AHd(esz:Nat)(x i:X):sU:=λ_ R _=>BD esz (x.ev R) (i.ev R)
def AD3(n esz:Nat)(x i:X):sU:=λ_ R _=>aA (i.ev R) λi=>CG (Nat.blt i n) (AU (Nat.mul i esz) (x.ev R))
def AMK(x i:X):sU:=λ_ R _=>(x.ev R).WM λln c=>aA (i.ev R) λi=>CG (Nat.blt i ln) (Et (AOv c i) λb=>some (.int .u8 (.ofNat b) 0))
def AMJ(n:Nat)(x i:X):sU:=λ_ R _=>(x.ev R).ADF λl=>aA (i.ev R) λi=>CG (Nat.blt i n) (nth l i)
def ASF(x:X)(i:Nat):sU:=λ_ R _=>(x.ev R).AJO λl=>nth l i
def AMI(x:X):sU:=λ_ R _=>(x.ev R).WM λn _=>some (.int .i64 (.ofNat n) 0)
def AMp(x:X):sU:=λ_ R _=>lenV (x.ev R)
def ANB(x:X):sU:=λ_ R H=>Ug H (x.ev R) λes _=>Et (len es) λn=>some (.int .i64 (.ofNat n) 0)
def AW4(n:Nat):sU:=λ_ _ _=>some (.int .i64 (.ofNat n) 0)
def AM9(ok:Bool)(z:V)(r:Option (Nat×V)):Option V:=
 Option.rec (motive:=λ_=>Option V) (ACs ok (some (.Io [z,.bool false])) (some z)) (λp=>ACs ok (some (.Io [p.2,.bool true])) (some p.2)) r
def ANA(c:CK)(ok:Bool)(z:V)(m k:X):sU:=λ_ R H=>Ug H (m.ev R) λes _=>CZ (uQ c (k.ev R) es 0) (AM9 ok z)
def AHT(z:LV)(ps:List (Nat×Nat×X)):sU:=λ_ R _=>CG (pJ ps R) (some (.agg (AC2 ps R z)))
def AEX(x:X)(lo hi:Option X):sU:=λ_ R _=>AM6 (x.ev R) R lo hi
def ARg(z:Nat)(x:X)(lo hi mx:Option X):sU:=λ_ R _=>AFF z (x.ev R) R lo hi mx
def AMP(n esz:Nat)(x:X)(lo hi:Option X):sU:=λ_ R _=>(x.ev R).AJM (λid o=>iT hi R n λh=>iT lo R 0 λl=>
 CG (band (Nat.beq (Nat.mod o esz) 0) (band (Nat.ble l h) (Nat.ble h n))) (f3 (Nat.add (Nat.div o esz) l) (Nat.sub h l) (Nat.sub n l) λa b c=>.sl id a b c esz)) (λ_ _=>none)
def ATG(x y:X):sU:=λ_ R _=>(x.ev R).Kr λk a s=>(y.ev R).Kr λk' b t=>CG (band (keq k k') (Nat.beq (Nat.add s t) 0)) (some (.int k (Bool.rec a b (ilt a b)) 0))
def AR5(x y:X):sU:=λ_ R _=>(x.ev R).Kr λk a s=>(y.ev R).Kr λk' b t=>CG (band (keq k k') (Nat.beq (Nat.add s t) 0)) (some (.int k (Bool.rec a b (ilt b a)) 0))
def ASi(x:X):sU:=λG R H=>CG (TM (isStr (x.ev R))) (CZ (elems (x.ev R) G H 1) λl=>CZ (yu l) λc=>f3 (len l) c 0 λn c _=>.str n c)
def AIR(s c:X):sU:=λ_ R _=>(s.ev R).WM λn cd=>(c.ev R).Kr λk b _=>CG (Nat.beq (kno k) 4) (ARh b λb=>CG (Nat.blt b 256) (Yz (AFE b n cd 0) λi=>some (.int .i64 i 0)))
def AIm(x y:V):Option V:=x.WM λl c=>y.WM λm d=>some (.int .i64 (Bool.rec (Bool.rec (.ofNat 0) (.ofNat 1) (slt m d l c)) (.negSucc 0) (slt l c m d)) 0)
def ASr(k:List CK)(neg:Bool)(x y:X):sU:=λ_ R H=>AVG k neg (x.ev R) (y.ev R) H
def AMR(x y:X):sU:=λ_ R _=>AIm (x.ev R) (y.ev R)
def AN.ev(o:AN):sU:=AN.rec (motive:=λ_=>sU)
 eMv AL2 ASC AR8 AHI ASA eEq ASf AR0 ASs AM1 AHo ADx AD7 AHd AD3 AMK AMJ ASF AMI AMp ANB AW4 ANA AHT AEX ARg AMP ATG AR5 ASi AIR AMR ASr o
def ALT(L:LV)(n:Nat):T LV->T LV:=
 Nat.rec (motive:=λ_=>T LV->T LV) (λt=>t) (λi g t=>g (T.set t i L)) n
def Ih(LS:DZ):Nat->T LV->T LV:=
 List.rec (motive:=λ_=>Nat->T LV->T LV) (λ_ t=>t) (λL _ g i t=>g (Nat.succ i) (T.set t i L)) LS
def oV(parts:List (Nat×X)):RS->T LV->T LV:=
 List.rec (motive:=λ_=>RS->T LV->T LV) (λ_ t=>t) (λp _ g R t=>g R (T.set t p.1 (Ba (p.2.ev R)))) parts
def aU(parts:List (Nat×X)):RS->Nat->Nat->Bool:=
 List.rec (motive:=λ_=>RS->Nat->Nat->Bool) (λ_ _ _=>true) (λp _ g R esz cnt=>band (band (jZ (p.2.ev R)) (band (Nat.blt p.1 cnt) (Nat.beq (len (Ba (p.2.ev R))) esz))) (g R esz cnt)) parts
def V.AOb(v:V):(Nat->Prop)->Prop:=
 V.rec (motive_1:=λ_=>(Nat->Prop)->Prop) (motive_2:=λ_=>PUnit)
  (λ_=>False)
  (λ_ _ _ _=>False)
  (λ_ _=>False)
  (λ_ _ _=>False)
  (λ_=>False)
  (λa _ f=>f a)
  (λ_ _ _=>False)
  (λ_=>False)
  (λ_ _ _ _ _ _=>False)
  (λ_ _ _ _ _=>False)
  (λ_ _ _ _ _ _=>False)
  (λ_=>False)
  (λ_ _=>False)
  (λ_=>False)
  (λ_ _ _ _ _ _=>False)
  (λ_ _ _=>False)
  (λ_ _ _=>False)
  (λ_=>False)
  (λ_ _ _ _=>False)
  ⟨⟩ (λ_ _ _ _=>⟨⟩) v
def V.AD5(v:V):(Nat->Nat->Prop)->Prop:=
 V.rec (motive_1:=λ_=>(Nat->Nat->Prop)->Prop) (motive_2:=λ_=>PUnit)
  (λ_=>False)
  (λ_ _ _ _=>False)
  (λ_ _=>False)
  (λ_ _ _=>False)
  (λ_=>False)
  (λa b f=>f a b)
  (λ_ _ _=>False)
  (λ_=>False)
  (λ_ _ _ _ _ _=>False)
  (λ_ _ _ _ _=>False)
  (λ_ _ _ _ _ _=>False)
  (λ_=>False)
  (λ_ _=>False)
  (λ_=>False)
  (λ_ _ _ _ _ _=>False)
  (λ_ _ _=>False)
  (λ_ _ _=>False)
  (λ_=>False)
  (λ_ _ _ _=>False)
  ⟨⟩ (λ_ _ _ _=>⟨⟩) v
abbrev KA:=S9->(Nat->V)->Prop
abbrev AlT:=RS->KA->Prop
def ER(b:Bool)(p:Prop):Prop:=Bool.rec (motive:=λ_=>Prop->Prop) (λ_=>False) (λp=>p) b p
def AHJ(v:V)(f:Nat->Prop):Prop:=Ej (aA v λn=>some (.ptr n 0)) λv=>V.AOb v f
def Au(esz:Nat)(es:DZ):AlT:=λ_ k=>FT (len es) λn=>k (.arr esz n (Ih es 0 .e)) λid=>.ptr id 0
def AFw(x:X):AlT:=λR k=>ER (jZ (x.ev R)) (FT (len (Ba (x.ev R))) λe=>k (.arr e 1 (T.set .e 0 (Ba (x.ev R)))) λid=>.ptr id 0)
def Af(esz cnt:Nat)(z:LV)(ps:List (Nat×X)):AlT:=λR k=>ER (aU ps R esz cnt) (k (.arr esz cnt (oV ps R (ALT z cnt .e))) λid=>.sl id 0 cnt cnt esz)
def VW(esz bs:Nat)(z:LV)(l c:X):AlT:=λR k=>AHJ (l.ev R) λl=>AHJ (c.ev R) λc=>
 ER (band (Nat.ble l c) (Nat.ble (Nat.mul bs c) 281474976710656)) (k (.arr esz c (ALT z c .e)) λid=>.sl id 0 l c esz)
def AHx:AlT:=λ_ k=>k (.map [] 0) λid=>.map id
def AZf(t e:Nat):AlT:=λ_ k=>k (.mM t e 0 0 0) λid=>.ptr id 0
def AA.al(o:AA):AlT:=AA.rec (motive:=λ_=>AlT) Au AFw Af VW AHx AZf o
abbrev K:=LW->Heap->Nat->Prop
abbrev KV:=V->Heap->Nat->Prop
abbrev BG:=Nat->List V->Heap->Nat->KV->Prop
def TP(need bytes:Nat):Bool:=Nat.ble (Nat.mul need bytes) 140737488355328
abbrev AK0:=AX->Nat->Nat->DZ->Heap->Nat->KV->Prop
def Ny(esz bs:Nat)(OS LS:DZ)(H:Heap)(n:Nat)(k:KV):Prop:=
 FT (Nat.add (len OS) (len LS)) λneed=>ER (TP need bs) (FT n λn=>k (.PO n 0 need esz) (T.set H n (.arr esz need (Ih LS (len OS) (Ih OS 0 .e)))) (Nat.succ n))
def AVb:AK0:=λ_ esz bs LS H n k=>List.rec (motive:=λ_=>Prop) (k .Ad H n) (λ_ _ _=>Ny esz bs [] LS H n k) LS
def yU(id off ln cap esz need:Nat)(LS:DZ)(H:Heap)(n:Nat)(k:KV)(b:S9):Prop:=
 S9.rec (motive:=λ_=>Prop) (λesz' cnt c=>ER (band (Nat.beq esz esz') (Nat.ble (Nat.add off need) cnt)) (k (.sl id off need cap esz) (T.set H id (.arr esz cnt (Ih LS (Nat.add off ln) c))) n)) (λ_ _=>False) False (λ_ _ _ _ _=>False) (λ_=>False) b
def ATk(id off ln cap e:Nat):AK0:=λ_ esz bs LS H n k=>ER (Nat.beq e esz) (FT (Nat.add ln (len LS)) λneed=>
 Bool.rec (motive:=λ_=>Prop) (Ej (DN H id esz ln off) λOS=>Ny esz bs OS LS H n k) (Ej (T.get H id) λb=>yU id off ln cap esz need LS H n k b) (Nat.ble need cap))
def fK(id off ln esz bs:Nat)(LS:DZ)(H:Heap)(n:Nat)(k:KV)(b:S9):Prop:=
 S9.rec (motive:=λ_=>Prop) (λesz' cnt c=>FT (Nat.add ln (len LS)) λneed=>ER (band (TP need bs) (band (Nat.beq esz esz') (Nat.ble (Nat.add off ln) cnt)))
  (FT n λn=>Nat.rec (motive:=λ_=>Prop)
   (k (.PO n 0 need esz) (T.set (T.set H id .dead) n (.arr esz need (Ih LS ln c))) (Nat.succ n))
   (λ_ _=>Ej (DN H id esz ln off) λOS=>k (.PO n 0 need esz) (T.set (T.set H id .dead) n (.arr esz need (Ih LS ln (Ih OS 0 .e)))) (Nat.succ n)) off))
  (λ_ _=>False) False (λ_ _ _ _ _=>False) (λ_=>False) b
def AOZ(id off ln e:Nat):AK0:=λ_ esz bs LS H n k=>ER (Nat.beq e esz) (List.rec (motive:=λ_=>Prop) (k (.PO id off ln esz) H n)
 (λ_ _ _=>Ej (T.get H id) λb=>fK id off ln esz bs LS H n k b) LS)
def AOe(b off ln cap e:Nat):AK0:=λG esz bs LS H n k=>ER (Nat.blt cap (Nat.add ln (len LS))) (Ej (jY G b esz ln off) λOS=>Ny esz bs OS LS H n k)
def bf:AK0:=λ_ _ _ _ _ _ _=>False
def AIT(v:V):AK0:=
 V.rec (motive_1:=λ_=>AK0) (motive_2:=λ_=>PUnit)
  (bf)
  (λ_ _ _=>bf)
  (λ_=>bf)
  (λ_ _=>bf)
  (bf)
  (λ_ _=>bf)
  (λ_ _=>bf)
  (AVb)
  (λa b c d e=>ATk a b c d e)
  (λa b c d=>AOZ a b c d)
  (λa b c d e=>AOe a b c d e)
  (bf)
  (λ_=>bf)
  (bf)
  (λ_ _ _ _ _=>bf)
  (λ_ _=>bf)
  (λ_ _=>bf)
  (bf)
  (λ_ _ _=>bf)
  ⟨⟩ (λ_ _ _ _=>⟨⟩) v
def AUy(id off esz:Nat)(LS:DZ)(H:Heap)(n:Nat)(k:KV)(b:S9):Prop:=
 S9.rec (motive:=λ_=>Prop) (λesz' cnt c=>ER (band (Nat.beq esz esz') (Nat.ble (Nat.add off (len LS)) cnt)) (FT (len LS) λm=>k (.int .i64 (.ofNat m) 0) (T.set H id (.arr esz cnt (Ih LS off c))) n)) (λ_ _=>False) False (λ_ _ _ _ _=>False) (λ_=>False) b
abbrev CpT:=Nat->DZ->Heap->Nat->KV->Prop
def AE3(id off ln:Nat):CpT:=λesz LS H n k=>Ej (T.get H id) λb=>AUy id off esz (bP ln LS) H n k b
def AJW(v:V):(Nat)->(DZ)->(Heap)->(Nat)->(KV)->Prop:=
 V.rec (motive_1:=λ_=>(Nat)->(DZ)->(Heap)->(Nat)->(KV)->Prop) (motive_2:=λ_=>PUnit)
  (λ_ _ _ _ _=>False)
  (λ_ _ _ _ _ _ _ _=>False)
  (λ_ _ _ _ _ _=>False)
  (λ_ _ _ _ _ _ _=>False)
  (λ_ _ _ _ _=>False)
  (λ_ _ _ _ _ _ _=>False)
  (λ_ _ _ _ _ _ _=>False)
  (λ_ _ H n k=>k (.int .i64 (.ofNat 0) 0) H n)
  (λa b c _ e z L H n k=>ER (Nat.beq e z) (AE3 a b c z L H n k))
  (λa b c d z L H n k=>ER (Nat.beq d z) (AE3 a b c z L H n k))
  (λ_ _ _ _ _ _ _ _ _ _=>False)
  (λ_ _ _ _ _=>False)
  (λ_ _ _ _ _ _=>False)
  (λ_ _ _ _ _=>False)
  (λ_ _ _ _ _ _ _ _ _ _=>False)
  (λ_ _ _ _ _ _ _=>False)
  (λ_ _ _ _ _ _ _=>False)
  (λ_ _ _ _ _=>False)
  (λ_ _ _ _ _ _ _ _=>False)
  ⟨⟩ (λ_ _ _ _=>⟨⟩) v
def AEP{α:Type}(l:List α):Nat->List α:=
 List.rec (motive:=λ_=>Nat->List α) (λ_=>[]) (λy ys g i=>Nat.rec (motive:=λ_=>List α) ys (λi _=>y::g i) i) l
def ATn(b:S9):(ME->Nat->Option S9)->Option S9:=S9.rec (motive:=λ_=>(ME->Nat->Option S9)->Option S9) (λ_ _ _ _=>none) (λes c f=>f es c) (λ_=>none) (λ_ _ _ _ _ _=>none) (λ_ _=>none) b
def AYe(H:Heap)(id:Nat)(f:ME->Nat->Option S9)(g:Heap->Prop):Prop:=Ej (T.get H id) λb=>Ej (ATn b f) λb=>g (T.set H id b)
def AF4(v:V):(Heap)->(ME->Nat->Option S9)->(Heap->Prop)->Prop:=
 V.rec (motive_1:=λ_=>(Heap)->(ME->Nat->Option S9)->(Heap->Prop)->Prop) (motive_2:=λ_=>PUnit)
  (λ_ _ _=>False)
  (λ_ _ _ _ _ _=>False)
  (λ_ _ _ _=>False)
  (λ_ _ _ _ _=>False)
  (λ_ _ _=>False)
  (λ_ _ _ _ _=>False)
  (λ_ _ _ _ _=>False)
  (λ_ _ _=>False)
  (λ_ _ _ _ _ _ _ _=>False)
  (λ_ _ _ _ _ _ _=>False)
  (λ_ _ _ _ _ _ _ _=>False)
  (λ_ _ _=>False)
  (λa H f g=>AYe H a f g)
  (λ_ _ _=>False)
  (λ_ _ _ _ _ _ _ _=>False)
  (λ_ _ _ _ _=>False)
  (λ_ _ _ _ _=>False)
  (λ_ _ _=>False)
  (λ_ _ _ _ _ _=>False)
  ⟨⟩ (λ_ _ _ _=>⟨⟩) v
def V.Zb(v:V):(Nat->LV->LV->Prop)->Prop:=
 V.rec (motive_1:=λ_=>(Nat->LV->LV->Prop)->Prop) (motive_2:=λ_=>PUnit)
  (λ_=>False)
  (λ_ _ _ _=>False)
  (λ_ _=>False)
  (λ_ _ _=>False)
  (λ_=>False)
  (λ_ _ _=>False)
  (λ_ _ _=>False)
  (λ_=>False)
  (λ_ _ _ _ _ _=>False)
  (λ_ _ _ _ _=>False)
  (λ_ _ _ _ _ _=>False)
  (λ_=>False)
  (λ_ _=>False)
  (λ_=>False)
  (λa b c _ _ f=>f a b c)
  (λ_ _ _=>False)
  (λ_ _ _=>False)
  (λ_=>False)
  (λ_ _ _ _=>False)
  ⟨⟩ (λ_ _ _ _=>⟨⟩) v
def AJr(v:V):LV:=
 V.rec (motive_1:=λ_=>LV) (motive_2:=λ_=>PUnit)
  ([])
  (λ_ _ _=>[])
  (λ_=>[])
  (λ_ _=>[])
  ([])
  (λ_ _=>[])
  (λ_ _=>[])
  ([])
  (λ_ _ _ _ _=>[])
  (λ_ _ _ _=>[])
  (λ_ _ _ _ _=>[])
  ([])
  (λ_=>[])
  ([])
  (λ_ _ _ _ _=>[])
  (λ_ _=>[])
  (λa _=>a)
  ([])
  (λ_ _ _=>[])
  ⟨⟩ (λ_ _ _ _=>⟨⟩) v
abbrev ExT:=AX->BG->RS->Heap->Nat->KV->Prop
def AZu(x:X):ExT:=λ_ _ R H n k=>k (x.ev R) H n
def xSt(sz:Nat)(x v:X):ExT:=λ_ _ R H n k=>ER (band (jZ (v.ev R)) (Nat.beq (len (Ba (v.ev R))) sz)) (Ej (stP (x.ev R) H sz (Ba (v.ev R))) λH=>k .undef H n)
def AaE(esz bs:Nat)(x y:X):ExT:=λG _ R H n k=>Ej (elems (y.ev R) G H esz) λLS=>AIT (x.ev R) G esz bs LS H n k
def AW5(esz:Nat)(x y:X):ExT:=λG _ R H n k=>Ej (elems (y.ev R) G H esz) λLS=>AJW (x.ev R) esz LS H n k
def AK1(ck:CK)(key v:V)(es:ME)(c:Nat):Option S9:=CZ (uQ ck key es 0) λr=>
 Option.rec (motive:=λ_=>Option S9) (some (.map (cat es [(key,v,c)]) (Nat.succ c))) (λp=>CZ (nth es p.1) λe=>some (.map (nR (e.1,v,e.2.2) es p.1) c)) r
def AUu(ck:CK)(key:V)(es:ME)(c:Nat):Option S9:=CZ (uQ ck key es 0) λr=>
 Option.rec (motive:=λ_=>Option S9) (some (.map es c)) (λp=>some (.map (AEP es p.1) c)) r
def AZE(c:CK)(m key v:X):ExT:=λ_ _ R H n k=>AF4 (m.ev R) H (AK1 c (key.ev R) (v.ev R)) λH=>k .undef H n
def AaQ(c:CK)(m key:X):ExT:=λ_ _ R H n k=>AF4 (m.ev R) H (AUu c (key.ev R)) λH=>k (.Io []) H n
def AZr(m:X):ExT:=λ_ _ R H n k=>AF4 (m.ev R) H (λ_ c=>some (.map [] c)) λH=>k (.Io []) H n
def AYJ(f:Nat)(args:List X):ExT:=λ_ call R H n k=>call f (kF args R) H n k
def AVQ(x:X)(args:List X):ExT:=λ_ call R H n k=>V.Zb (x.ev R) λf a c=>call f (cat a (cat (kF args R) c)) H n k
def AU3(dp:P2)(x:X)(args:List X):ExT:=λ_ _ R H n k=>V.Zb (x.ev R) λf a c=>k (.Io (.fn f (cat a (kF args R)) c::AJr (PD (T.FM dp R.rg)))) H n
def AZn(x:X):ExT:=λ_ _ R H n k=>Ej ((x.ev R).WM λl c=>some (.ptr l c)) λv=>V.AD5 v λl c=>
 FT n λn=>k (.PO n 0 l 1) (T.set H n (.arr 1 l (Ih (dP l c) 0 .e))) (Nat.succ n)
def AE.ex(o:AE):ExT:=AE.rec (motive:=λ_=>ExT) AZu xSt AaE AW5 AZE AaQ AZr AYJ AVQ AU3 AZn o
def AZM(p:P2)(v:V)(E:RS):RS:=RS.rec (motive:=λ_=>P2->V->RS) (λL R p v=>.mk L (T.eF v p R)) E p v
def AYk(v:V)(E:RS):RS:=RS.rec (motive:=λ_=>V->RS) (λL R v=>.mk (v::L) R) E v
def IL(d:uS)(v:V):RS->RS:=uS.rec (motive:=λ_=>V->RS->RS) (λ_ R=>R) AZM AYk d v
abbrev KE:=RS->Heap->Nat->Prop
abbrev XoT:=AX->BG->uS->RS->Heap->Nat->KE->Prop
def oN(o:AN):XoT:=λG _ d R H n k=>AP (o.ev G R H) λv=>k (IL d v R) H n
def oA(o:AA):XoT:=λ_ _ d R H n k=>o.al R λb f=>FT n λn=>k (IL d (f n) R) (T.set H n b) (Nat.succ n)
def oE(o:AE):XoT:=λG call d R H n k=>o.ex G call R H n λv H n=>k (IL d v R) H n
def AO.ex(o:AO):XoT:=AO.rec (motive:=λ_=>XoT) oN oA oE o
def Ae(v:V)(b:Bool)(yes no:Prop):Prop:=v.ANH λt=>Bool.rec (motive:=λ_=>Prop->Prop->Prop) (λ_ n=>n) (λy _=>y) (AQs t b) yes no
def rD(v:V):(Bool)->(Prop)->(Prop)->Prop:=
 V.rec (motive_1:=λ_=>(Bool)->(Prop)->(Prop)->Prop) (motive_2:=λ_=>PUnit)
  (λ_ _ _=>False)
  (λ_ _ _ _ _ _=>False)
  (λa b' yes no=>Bool.rec (motive:=λ_=>Prop->Prop->Prop) (λ_ n=>n) (λy _=>y) (AQs a b') yes no)
  (λ_ _ _ _ _=>False)
  (λ_ _ _=>False)
  (λ_ _ _ _ _=>False)
  (λ_ _ _ _ _=>False)
  (λ_ _ _=>False)
  (λ_ _ _ _ _ _ _ _=>False)
  (λ_ _ _ _ _ _ _=>False)
  (λ_ _ _ _ _ _ _ _=>False)
  (λ_ _ _=>False)
  (λ_ _ _ _=>False)
  (λ_ _ _=>False)
  (λ_ _ _ _ _ _ _ _=>False)
  (λ_ _ _ _ _=>False)
  (λa _ _ _ no=>List.rec (motive:=λ_=>Prop) no (λ_ _ _=>False) a)
  (λ_ _ _=>False)
  (λ_ _ _ _ _ _=>False)
  ⟨⟩ (λ_ _ _ _=>⟨⟩) v
abbrev XpT:=AX->BG->RS->Heap->Nat->KE->Prop
def gNo(d:uS)(o:AO):XpT:=λG call R H n k=>o.ex G call d R H n k
def gOn(x:X)(b:Bool)(d:uS)(o:AO):XpT:=λG call R H n k=>rD (x.ev R) b (o.ex G call d R H n k) (k (IL d (.Io []) R) H n)
def AOp.ex(o:AOp):XpT:=AOp.rec (motive:=λ_=>XpT) (λd g o=>Gd.rec (motive:=λ_=>uS->AO->XpT) gNo gOn g d o) o
def ANI(v:V):(IntKind)->(Int)->(Nat)->Bool:=
 V.rec (motive_1:=λ_=>(IntKind)->(Int)->(Nat)->Bool) (motive_2:=λ_=>PUnit)
  (λ_ _ _=>false)
  (λa b c k n s=>band (keq k a) (band (ieq n b) (band (Nat.beq s 0) (Nat.beq c 0))))
  (λ_ _ _ _=>false)
  (λ_ _ _ _ _=>false)
  (λ_ _ _=>false)
  (λ_ _ _ _ _=>false)
  (λ_ _ _ _ _=>false)
  (λ_ _ _=>false)
  (λ_ _ _ _ _ _ _ _=>false)
  (λ_ _ _ _ _ _ _=>false)
  (λ_ _ _ _ _ _ _ _=>false)
  (λ_ _ _=>false)
  (λ_ _ _ _=>false)
  (λ_ _ _=>false)
  (λ_ _ _ _ _ _ _ _=>false)
  (λ_ _ _ _ _=>false)
  (λ_ _ _ _ _=>false)
  (λ_ _ _=>false)
  (λ_ _ _ _ _ _=>false)
  ⟨⟩ (λ_ _ _ _=>⟨⟩) v
def AEe(v:V):(Bool)->Bool:=
 V.rec (motive_1:=λ_=>(Bool)->Bool) (motive_2:=λ_=>PUnit)
  (λ_=>false)
  (λ_ _ _ _=>false)
  (λa x=>AQs x a)
  (λ_ _ _=>false)
  (λ_=>false)
  (λ_ _ _=>false)
  (λ_ _ _=>false)
  (λ_=>false)
  (λ_ _ _ _ _ _=>false)
  (λ_ _ _ _ _=>false)
  (λ_ _ _ _ _ _=>false)
  (λ_=>false)
  (λ_ _=>false)
  (λ_=>false)
  (λ_ _ _ _ _ _=>false)
  (λ_ _ _=>false)
  (λ_ _ _=>false)
  (λ_=>false)
  (λ_ _ _ _=>false)
  ⟨⟩ (λ_ _ _ _=>⟨⟩) v
def AMQ(v:V):(Nat)->(Nat)->Bool:=
 V.rec (motive_1:=λ_=>(Nat)->(Nat)->Bool) (motive_2:=λ_=>PUnit)
  (λ_ _=>false)
  (λ_ _ _ _ _=>false)
  (λ_ _ _=>false)
  (λa b l m=>band (Nat.beq l a) (Nat.beq m b))
  (λ_ _=>false)
  (λ_ _ _ _=>false)
  (λ_ _ _ _=>false)
  (λ_ _=>false)
  (λ_ _ _ _ _ _ _=>false)
  (λ_ _ _ _ _ _=>false)
  (λ_ _ _ _ _ _ _=>false)
  (λ_ _=>false)
  (λ_ _ _=>false)
  (λ_ _=>false)
  (λ_ _ _ _ _ _ _=>false)
  (λ_ _ _ _=>false)
  (λ_ _ _ _=>false)
  (λ_ _=>false)
  (λ_ _ _ _ _=>false)
  ⟨⟩ (λ_ _ _ _=>⟨⟩) v
def AIM(v:V):Bool:=
 V.rec (motive_1:=λ_=>Bool) (motive_2:=λ_=>PUnit)
  (false)
  (λ_ _ _=>false)
  (λ_=>false)
  (λ_ _=>false)
  (true)
  (λ_ _=>false)
  (λ_ _=>false)
  (false)
  (λ_ _ _ _ _=>false)
  (λ_ _ _ _=>false)
  (λ_ _ _ _ _=>false)
  (false)
  (λ_=>false)
  (false)
  (λ_ _ _ _ _=>false)
  (λ_ _=>false)
  (λ_ _=>false)
  (false)
  (λ_ _ _=>false)
  ⟨⟩ (λ_ _ _ _=>⟨⟩) v
def AHk(v:V):Bool:=
 V.rec (motive_1:=λ_=>Bool) (motive_2:=λ_=>PUnit)
  (false)
  (λ_ _ _=>false)
  (λ_=>false)
  (λ_ _=>false)
  (false)
  (λ_ _=>false)
  (λ_ _=>false)
  (true)
  (λ_ _ _ _ _=>false)
  (λ_ _ _ _=>false)
  (λ_ _ _ _ _=>false)
  (false)
  (λ_=>false)
  (false)
  (λ_ _ _ _ _=>false)
  (λ_ _=>false)
  (λ_ _=>false)
  (false)
  (λ_ _ _=>false)
  ⟨⟩ (λ_ _ _ _=>⟨⟩) v
def AHM(v:V):Bool:=
 V.rec (motive_1:=λ_=>Bool) (motive_2:=λ_=>PUnit)
  (false)
  (λ_ _ _=>false)
  (λ_=>false)
  (λ_ _=>false)
  (false)
  (λ_ _=>false)
  (λ_ _=>false)
  (false)
  (λ_ _ _ _ _=>false)
  (λ_ _ _ _=>false)
  (λ_ _ _ _ _=>false)
  (true)
  (λ_=>false)
  (false)
  (λ_ _ _ _ _=>false)
  (λ_ _=>false)
  (λ_ _=>false)
  (false)
  (λ_ _ _=>false)
  ⟨⟩ (λ_ _ _ _=>⟨⟩) v
def AHF(v:V):Bool:=
 V.rec (motive_1:=λ_=>Bool) (motive_2:=λ_=>PUnit)
  (false)
  (λ_ _ _=>false)
  (λ_=>false)
  (λ_ _=>false)
  (false)
  (λ_ _=>false)
  (λ_ _=>false)
  (false)
  (λ_ _ _ _ _=>false)
  (λ_ _ _ _=>false)
  (λ_ _ _ _ _=>false)
  (false)
  (λ_=>false)
  (true)
  (λ_ _ _ _ _=>false)
  (λ_ _=>false)
  (λ_ _=>false)
  (false)
  (λ_ _ _=>false)
  ⟨⟩ (λ_ _ _ _=>⟨⟩) v
def AP8(v:V):(Nat)->(Nat)->Bool:=
 V.rec (motive_1:=λ_=>(Nat)->(Nat)->Bool) (motive_2:=λ_=>PUnit)
  (λ_ _=>false)
  (λ_ _ _ _ _=>false)
  (λ_ _ _=>false)
  (λ_ _ _ _=>false)
  (λ_ _=>false)
  (λa b l m=>band (Nat.beq l a) (Nat.beq m b))
  (λ_ _ _ _=>false)
  (λ_ _=>false)
  (λ_ _ _ _ _ _ _=>false)
  (λ_ _ _ _ _ _=>false)
  (λ_ _ _ _ _ _ _=>false)
  (λ_ _=>false)
  (λ_ _ _=>false)
  (λ_ _=>false)
  (λ_ _ _ _ _ _ _=>false)
  (λ_ _ _ _=>false)
  (λ_ _ _ _=>false)
  (λ_ _=>false)
  (λ_ _ _ _ _=>false)
  ⟨⟩ (λ_ _ _ _=>⟨⟩) v
def AKY(v:V):(Nat)->(Nat)->Bool:=
 V.rec (motive_1:=λ_=>(Nat)->(Nat)->Bool) (motive_2:=λ_=>PUnit)
  (λ_ _=>false)
  (λ_ _ _ _ _=>false)
  (λ_ _ _=>false)
  (λ_ _ _ _=>false)
  (λ_ _=>false)
  (λ_ _ _ _=>false)
  (λa b l m=>band (Nat.beq l a) (Nat.beq m b))
  (λ_ _=>false)
  (λ_ _ _ _ _ _ _=>false)
  (λ_ _ _ _ _ _=>false)
  (λ_ _ _ _ _ _ _=>false)
  (λ_ _=>false)
  (λ_ _ _=>false)
  (λ_ _=>false)
  (λ_ _ _ _ _ _ _=>false)
  (λ_ _ _ _=>false)
  (λ_ _ _ _=>false)
  (λ_ _=>false)
  (λ_ _ _ _ _=>false)
  ⟨⟩ (λ_ _ _ _=>⟨⟩) v
def AO5(v:V):(Nat)->Bool:=
 V.rec (motive_1:=λ_=>(Nat)->Bool) (motive_2:=λ_=>PUnit)
  (λ_=>false)
  (λ_ _ _ _=>false)
  (λ_ _=>false)
  (λ_ _ _=>false)
  (λ_=>false)
  (λ_ _ _=>false)
  (λ_ _ _=>false)
  (λ_=>false)
  (λ_ _ _ _ _ _=>false)
  (λ_ _ _ _ _=>false)
  (λ_ _ _ _ _ _=>false)
  (λ_=>false)
  (λa l=>Nat.beq l a)
  (λ_=>false)
  (λ_ _ _ _ _ _=>false)
  (λ_ _ _=>false)
  (λ_ _ _=>false)
  (λ_=>false)
  (λ_ _ _ _=>false)
  ⟨⟩ (λ_ _ _ _=>⟨⟩) v
def AQg(v:V):(Nat)->(Nat)->(Nat)->(Nat)->(Nat)->Bool:=
 V.rec (motive_1:=λ_=>(Nat)->(Nat)->(Nat)->(Nat)->(Nat)->Bool) (motive_2:=λ_=>PUnit)
  (λ_ _ _ _ _=>false)
  (λ_ _ _ _ _ _ _ _=>false)
  (λ_ _ _ _ _ _=>false)
  (λ_ _ _ _ _ _ _=>false)
  (λ_ _ _ _ _=>false)
  (λ_ _ _ _ _ _ _=>false)
  (λ_ _ _ _ _ _ _=>false)
  (λ_ _ _ _ _=>false)
  (λa b c d e i j k l m=>band (Nat.beq i a) (band (Nat.beq j b) (band (Nat.beq k c) (band (Nat.beq l d) (Nat.beq m e)))))
  (λ_ _ _ _ _ _ _ _ _=>false)
  (λ_ _ _ _ _ _ _ _ _ _=>false)
  (λ_ _ _ _ _=>false)
  (λ_ _ _ _ _ _=>false)
  (λ_ _ _ _ _=>false)
  (λ_ _ _ _ _ _ _ _ _ _=>false)
  (λ_ _ _ _ _ _ _=>false)
  (λ_ _ _ _ _ _ _=>false)
  (λ_ _ _ _ _=>false)
  (λ_ _ _ _ _ _ _ _=>false)
  ⟨⟩ (λ_ _ _ _=>⟨⟩) v
def AJj(v:V):(Nat)->(Nat)->(Nat)->(Nat)->Bool:=
 V.rec (motive_1:=λ_=>(Nat)->(Nat)->(Nat)->(Nat)->Bool) (motive_2:=λ_=>PUnit)
  (λ_ _ _ _=>false)
  (λ_ _ _ _ _ _ _=>false)
  (λ_ _ _ _ _=>false)
  (λ_ _ _ _ _ _=>false)
  (λ_ _ _ _=>false)
  (λ_ _ _ _ _ _=>false)
  (λ_ _ _ _ _ _=>false)
  (λ_ _ _ _=>false)
  (λ_ _ _ _ _ _ _ _ _=>false)
  (λa b c d i j k l=>band (Nat.beq i a) (band (Nat.beq j b) (band (Nat.beq k c) (Nat.beq l d))))
  (λ_ _ _ _ _ _ _ _ _=>false)
  (λ_ _ _ _=>false)
  (λ_ _ _ _ _=>false)
  (λ_ _ _ _=>false)
  (λ_ _ _ _ _ _ _ _ _=>false)
  (λ_ _ _ _ _ _=>false)
  (λ_ _ _ _ _ _=>false)
  (λ_ _ _ _=>false)
  (λ_ _ _ _ _ _ _=>false)
  ⟨⟩ (λ_ _ _ _=>⟨⟩) v
def AJ0(v:V):(Nat)->(Nat)->(Nat)->(Nat)->(Nat)->Bool:=
 V.rec (motive_1:=λ_=>(Nat)->(Nat)->(Nat)->(Nat)->(Nat)->Bool) (motive_2:=λ_=>PUnit)
  (λ_ _ _ _ _=>false)
  (λ_ _ _ _ _ _ _ _=>false)
  (λ_ _ _ _ _ _=>false)
  (λ_ _ _ _ _ _ _=>false)
  (λ_ _ _ _ _=>false)
  (λ_ _ _ _ _ _ _=>false)
  (λ_ _ _ _ _ _ _=>false)
  (λ_ _ _ _ _=>false)
  (λ_ _ _ _ _ _ _ _ _ _=>false)
  (λ_ _ _ _ _ _ _ _ _=>false)
  (λa b c d e i j k l m=>band (Nat.beq i a) (band (Nat.beq j b) (band (Nat.beq k c) (band (Nat.beq l d) (Nat.beq m e)))))
  (λ_ _ _ _ _=>false)
  (λ_ _ _ _ _ _=>false)
  (λ_ _ _ _ _=>false)
  (λ_ _ _ _ _ _ _ _ _ _=>false)
  (λ_ _ _ _ _ _ _=>false)
  (λ_ _ _ _ _ _ _=>false)
  (λ_ _ _ _ _=>false)
  (λ_ _ _ _ _ _ _ _=>false)
  ⟨⟩ (λ_ _ _ _=>⟨⟩) v
def Me(v:V):(V)->Bool:=
 V.rec (motive_1:=λ_=>(V)->Bool) (motive_2:=λ_=>PUnit)
  (λ_=>false)
  (λa b c y=>ANI y a b c)
  (λa y=>AEe y a)
  (λa b y=>AMQ y a b)
  (λy=>AIM y)
  (λa b y=>AP8 y a b)
  (λa b y=>AKY y a b)
  (λy=>AHk y)
  (λa b c d e y=>AQg y a b c d e)
  (λa b c d y=>AJj y a b c d)
  (λa b c d e y=>AJ0 y a b c d e)
  (λy=>AHM y)
  (λa y=>AO5 y a)
  (λy=>AHF y)
  (λ_ _ _ _ _ _=>false)
  (λ_ _ _=>false)
  (λ_ _ _=>false)
  (λ_=>false)
  (λ_ _ _ _=>false)
  ⟨⟩ (λ_ _ _ _=>⟨⟩) v
def AB9(a:List V):List V->Bool:=
 List.rec (motive:=λ_=>List V->Bool) (λb=>List.rec (motive:=λ_=>Bool) true (λ_ _ _=>false) b)
  (λx _ g b=>List.rec (motive:=λ_=>Bool) false (λy ys _=>band (Me x y) (g ys)) b) a
def AT2(v:V):(LV)->Bool:=
 V.rec (motive_1:=λ_=>(LV)->Bool) (motive_2:=λ_=>PUnit)
  (λ_=>false)
  (λ_ _ _ _=>false)
  (λ_ _=>false)
  (λ_ _ _=>false)
  (λ_=>false)
  (λ_ _ _=>false)
  (λ_ _ _=>false)
  (λ_=>false)
  (λ_ _ _ _ _ _=>false)
  (λ_ _ _ _ _=>false)
  (λ_ _ _ _ _ _=>false)
  (λ_=>false)
  (λ_ _=>false)
  (λ_=>false)
  (λ_ _ _ _ _ _=>false)
  (λa _ l=>AB9 l a)
  (λ_ _ _=>false)
  (λ_=>false)
  (λ_ _ _ _=>false)
  ⟨⟩ (λ_ _ _ _=>⟨⟩) v
def AT3(v:V):(LV)->Bool:=
 V.rec (motive_1:=λ_=>(LV)->Bool) (motive_2:=λ_=>PUnit)
  (λ_=>false)
  (λ_ _ _ _=>false)
  (λ_ _=>false)
  (λ_ _ _=>false)
  (λ_=>false)
  (λ_ _ _=>false)
  (λ_ _ _=>false)
  (λ_=>false)
  (λ_ _ _ _ _ _=>false)
  (λ_ _ _ _ _=>false)
  (λ_ _ _ _ _ _=>false)
  (λ_=>false)
  (λ_ _=>false)
  (λ_=>false)
  (λ_ _ _ _ _ _=>false)
  (λ_ _ _=>false)
  (λa _ l=>AB9 l a)
  (λ_=>false)
  (λ_ _ _ _=>false)
  ⟨⟩ (λ_ _ _ _=>⟨⟩) v
def AI7(v:V):Bool:=
 V.rec (motive_1:=λ_=>Bool) (motive_2:=λ_=>PUnit)
  (true)
  (λ_ _ _=>false)
  (λ_=>false)
  (λ_ _=>false)
  (false)
  (λ_ _=>false)
  (λ_ _=>false)
  (false)
  (λ_ _ _ _ _=>false)
  (λ_ _ _ _=>false)
  (λ_ _ _ _ _=>false)
  (false)
  (λ_=>false)
  (false)
  (λ_ _ _ _ _=>false)
  (λ_ _=>false)
  (λ_ _=>false)
  (false)
  (λ_ _ _=>false)
  ⟨⟩ (λ_ _ _ _=>⟨⟩) v
def Aw(v:V):(V)->Bool:=
 V.rec (motive_1:=λ_=>(V)->Bool) (motive_2:=λ_=>PUnit)
  (λy=>AI7 y)
  (λa b c y=>ANI y a b c)
  (λa y=>AEe y a)
  (λa b y=>AMQ y a b)
  (λy=>AIM y)
  (λa b y=>AP8 y a b)
  (λa b y=>AKY y a b)
  (λy=>AHk y)
  (λa b c d e y=>AQg y a b c d e)
  (λa b c d y=>AJj y a b c d)
  (λa b c d e y=>AJ0 y a b c d e)
  (λy=>AHM y)
  (λa y=>AO5 y a)
  (λy=>AHF y)
  (λ_ _ _ _ _ _=>false)
  (λa _ y=>AT2 y a)
  (λa _ y=>AT3 y a)
  (λ_=>false)
  (λ_ _ _ _=>false)
  ⟨⟩ (λ_ _ _ _=>⟨⟩) v
inductive AI where
 |op (o:AOp)
 |re (d:P2) (g:Gd) (o:AN)
inductive AC where
 |skip
 |ops (l:List AOp)
 |reg (l:List AI)
 |seq (a b:AC)
 |cond (x:X) (a b:AC)
 |block (id:Nat) (c:AC)
 |loop (c:AC)
 |exit (id:Nat)
 |ret
def Tq(l:List AOp):XpT:=
 List.rec (motive:=λ_=>XpT) (λ_ _ R H n k=>k R H n) (λo _ g G call R H n k=>o.ex G call R H n λR H n=>g G call R H n k) l
abbrev ReT:=AX->RS->Heap->P2->AN->Prop->Prop
def AYn:ReT:=λG R H d o k=>AP (o.ev G R H) λv=>ER (Aw v (PD (T.FM d R.rg))) k
def AZD(x:X)(b:Bool):ReT:=λG R H d o k=>rD (x.ev R) b (AP (o.ev G R H) λv=>ER (Aw v (PD (T.FM d R.rg))) k) k
def AUz(g:Gd):ReT:=Gd.rec (motive:=λ_=>ReT) AYn AZD g
def AI.ex(i:AI):XpT:=AI.rec (motive:=λ_=>XpT) (λo=>o.ex) (λd g o G _ R H n k=>AUz g G R H d o (k R H n)) i
def DY(l:List AI):XpT:=
 List.rec (motive:=λ_=>XpT) (λ_ _ R H n k=>k R H n) (λi _ g G call R H n k=>i.ex G call R H n λR H n=>g G call R H n k) l
abbrev KX:=Nat->K
abbrev M:=AX->BG->Nat->LW->Heap->Nat->K->KX->K->Prop
def APy:M:=λ_ _ _ R H n k _ _=>k R H n
def ATO(l:List AOp):M:=λG call _ R H n k _ _=>Tq l G call (.mk [] R) H n λE H n=>k E.rg H n
def AS9(l:List AI):M:=λG call _ R H n k _ _=>DY l G call (.mk [] R) H n λE H n=>k E.rg H n
def AO8(_ _:AC)(a b:M):M:=λG call lf R H n k x r=>a G call lf R H n (λR H n=>b G call lf R H n k x r) x r
def AIz(c:X)(_ _:AC)(a b:M):M:=λG call lf R H n k x r=>Ae (c.ev (.mk [] R)) true (a G call lf R H n k x r) (b G call lf R H n k x r)
def Jf(id:Nat)(k:K)(x:KX):KX:=λi R H n=>Bool.rec (motive:=λ_=>Prop->Prop->Prop) (λa _=>a) (λ_ b=>b) (Nat.beq i id) (x i R H n) (k R H n)
def AEp(id:Nat)(_:AC)(a:M):M:=λG call lf R H n k x r=>a G call lf R H n k (Jf id k x) r
def ZB(a:M)(G:AX)(call:BG)(lf0 lf:Nat):LW->Heap->Nat->KX->K->Prop:=
 Nat.rec (motive:=λ_=>LW->Heap->Nat->KX->K->Prop) (λ_ _ _ _ _=>False) (λ_ g R H n x r=>a G call lf0 R H n (λR H n=>g R H n x r) x r) lf
def AW8(_:AC)(a:M):M:=λG call lf R H n _ x r=>ZB a G call lf lf R H n x r
def AOj(id:Nat):M:=λ_ _ _ R H n _ x _=>x id R H n
def AUZ:M:=λ_ _ _ R H n _ _ r=>r R H n
def AC.ex(c:AC):M:=AC.rec (motive:=λ_=>M) APy ATO AS9 AO8 AIz AEp AW8 AOj AUZ c
inductive AR where
 |tmp (p:P2)|cell1 (p:P2)|celln (p:P2) (n:Nat)
inductive Nk where
 |join|rep|wstr (t e:Nat)|bstr (t e:Nat)
inductive AF where
 |mk (np:Nat) (code:AC) (res:List AR) (dp:uS) (dg:Nat)
 |nat (k:Nk)
def AR.get(r:AR):AX->LW->Heap->Option V:=
 AR.rec (motive:=λ_=>AX->LW->Heap->Option V) (λp _ R _=>some (PD (T.FM p R))) (λp G R H=>Xn (ldP (PD (T.FM p R)) G H 1) λL=>nth L 0)
  (λp n G R H=>Xn (ldP (PD (T.FM p R)) G H n) λL=>some (.agg L)) r
def ADG(l:List AR):AX->LW->Heap->Option LV:=
 List.rec (motive:=λ_=>AX->LW->Heap->Option LV) (λ_ _ _=>some []) (λr _ g G R H=>CZ (r.get G R H) λv=>CZ (g G R H) λvs=>some (v::vs)) l
def DX(l:List V):V:=List.rec (motive:=λ_=>V) (V.Io []) (λv vs _=>List.rec (motive:=λ_=>V) v (λw ws _=>V.Io (v::w::ws)) vs) l
def lJ(args:List V):Nat->LW->LW:=
 List.rec (motive:=λ_=>Nat->LW->LW) (λ_ R=>R) (λv _ g i R=>g (Nat.succ i) (T.set R i v)) args
def WT(dg:Nat)(l:List V):BG->Heap->Nat->(Heap->Nat->Prop)->Prop:=
 List.rec (motive:=λ_=>BG->Heap->Nat->(Heap->Nat->Prop)->Prop) (λ_ H n k=>k H n)
  (λv _ g call H n k=>V.Zb v λf a c=>ER (Nat.beq f dg) (call f (cat a c) H n λ_ H n=>g call H n k)) l
def AFn(res:List AR)(G:AX)(k:KV):K:=λR H n=>Ej (ADG res G R H) λl=>k (DX l) H n
def Lj(res:List AR)(dg:Nat)(d:uS):AX->BG->KV->K:=
 uS.rec (motive:=λ_=>AX->BG->KV->K) (λG _ k=>AFn res G k) (λp G call k R H n=>WT dg (AJr (PD (T.FM p R))) call H n λH n=>AFn res G k R H n) (λG _ k=>AFn res G k) d
def AQb(p q:Nat×Nat):Nat×Nat:=(p.1+q.1,p.2+256^p.1*q.2)
def AUE:DZ->Option (List (Nat×Nat))
 |[]=>some []
 |[.str l c]::r=>match AUE r with|some x=>some ((l,c)::x)|none=>none
 |_::_=>none
def AQF(s:Nat×Nat):List (Nat×Nat)->Nat×Nat
 |[]=>(0,0)
 |a::r=>r.foldl (λp q=>AQb (AQb p s) q) a
def AWD(s:Nat×Nat):Nat->Nat×Nat
 |0=>(0,0)
 |n+1=>AQb s (AWD s n)
def ASM:Nat:=140737488355328
def AMY(x y:V)(G:AX)(H:Heap)(n:Nat)(k:KV):Prop:=
 match y with
 |.str sl sc=>ER (TM (isStr x)) <| Ej (elems x G H 1) λLS=>Ej (AUE LS) λss=>ER (decide (ss.length<=ASM/\(AQF (sl,sc) ss).1<=ASM)) (k (.str (AQF (sl,sc) ss).1 (AQF (sl,sc) ss).2) H n)
 |_=>False
def AOz(x y:V)(H:Heap)(n:Nat)(k:KV):Prop:=
 match x,y with
 |.str l c,.int .i64 (.ofNat m) _=>ER (decide (m<=9223372036854775807/\l*m<=ASM)) (k (.str (AWD (l,c) m).1 (AWD (l,c) m).2) H n)
 |_,_=>False
def ANM(t e:Nat)(x y:V)(H:Heap)(n:Nat)(k:KV):Prop:=
 match x,y with
 |.ptr id 0,.str m d=>(match T.get H id with
  |some (.mM t' e' l c j)=>ER (decide (t'=t/\e'=e/\l+m<=ASM)) (k (.Io [.int .i64 (.ofNat m) 0,.APo]) (T.set (T.set (bif decide (l=0)then H else T.set H j .dead) n (.own id)) id (.mM t e (AQb (l,c) (m,d)).1 (AQb (l,c) (m,d)).2 n)) (n+1))
  |_=>False)
 |_,_=>False
def AMj(t e:Nat)(x:V)(H:Heap)(n:Nat)(k:KV):Prop:=
 match x with
 |.ptr id 0=>(match T.get H id with
  |some (.mM t' e' l c _)=>ER (decide (t'=t/\e'=e)) (k (.str l c) (T.set H id .dead) n)
  |_=>False)
 |_=>False
def y9(f:Nk)(G:AX)(args:List V)(H:Heap)(n:Nat)(k:KV):Prop:=
 match f,args with
 |.join,[x,y]=>AMY x y G H n k
 |.rep,[x,y]=>AOz x y H n k
 |.wstr t e,[x,y]=>ANM t e x y H n k
 |.bstr t e,[x]=>AMj t e x H n k
 |_,_=>False
def noX:KX:=λ_ _ _ _=>False
def qL(f:AF):AX->BG->Nat->List V->Heap->Nat->KV->Prop:=
 AF.rec (motive:=λ_=>AX->BG->Nat->List V->Heap->Nat->KV->Prop) (λnp code res d dg G call lf args H n k=>ER (Nat.beq (len args) np) (code.ex G call lf (lJ args 0 .e) H n (Lj res dg d G call k) noX (Lj res dg d G call k))) (λf G _ _ args H n k=>y9 f G args H n k) f
def run(F:T AF)(G:AX)(lf:Nat)(fuel:Nat):BG:=
 Nat.rec (motive:=λ_=>BG) (λ_ _ _ _ _=>False) (λ_ call f args H n k=>Ej (T.get F f) λaf=>qL af G call lf args H n k) fuel
end Go.DW
