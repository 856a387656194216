/- Part of a proof; nothing is assumed. -/
import Derived.Calls
import Derived.Defers
import Derived.Orders
import Derived.KernelRfl
import Derived.Laws.Entries
set_option linter.unusedVariables false
set_option linter.unusedSimpArgs false
noncomputable section
namespace Go.Eng
inductive P2 where
 |h|z (p:P2)|o (p:P2)
deriving DecidableEq
inductive T(α:Type)where
 |e|n (v:Option α) (l r:T α)
def T.val{α:Type}(t:T α):Option α:=T.rec none (λv _ _ _ _=>v) t
def T.left{α:Type}(t:T α):T α:=T.rec .e (λ_ l _ _ _=>l) t
def T.right{α:Type}(t:T α):T α:=T.rec .e (λ_ _ r _ _=>r) t
def T.EN{α:Type}(p:P2):T α->Option α:=
 P2.rec (motive:=λ_=>T α->Option α) T.val (λ_ g t=>g t.left) (λ_ g t=>g t.right) p
def T.Yd{α:Type}(x:α)(p:P2):T α->T α:=
 P2.rec (motive:=λ_=>T α->T α) (λt=>.n (some x) t.left t.right)
  (λ_ g t=>.n t.val (g t.left) t.right) (λ_ g t=>.n t.val t.left (g t.right)) p
def AKy(f:Nat):Nat->P2:=
 Nat.rec (motive:=λ_=>Nat->P2) (λ_=>.h)
  (λ_ g k=>Nat.rec (motive:=λ_=>P2) .h
   (λm _=>Bool.rec (P2.o (g (Nat.div m 2))) (P2.z (g (Nat.div m 2))) (Nat.beq (Nat.mod m 2) 0)) k) f
def OG(k:Nat):P2:=AKy (Nat.succ k) k
def T.get{α:Type}(t:T α)(k:Nat):Option α:=T.EN (OG k) t
def T.set{α:Type}(t:T α)(k:Nat)(x:α):T α:=T.Yd x (OG k) t
inductive V where
 |undef
 |int (k:IntKind) (n:Int) (s:Nat)
 |bool (b:Bool)
 |str (len code:Nat)
 |AFu|ptr (id off:Nat)|VG (b off:Nat)
 |Aj|sl (id off len cap esz:Nat)|Qg (id off len esz:Nat)|rsl (b off len cap esz:Nat)
 |AKG|map (id:Nat)
 |AKk|fn (f:Nat) (first caps:List V)
 |agg (cs:List V)
 |JL (vs:List V)
 |AEG|iface (t:Nat) (v:V)
inductive Pn where
 |arr (esz cnt:Nat) (c:T (List V))
 |map (es:List (V×V×Nat)) (clock:Nat)
 |dead
 |TG (t e l c j:Nat)
 |own (b:Nat)
abbrev Heap:=T Pn
abbrev JX:=T V
abbrev AY:=Nat->Nat->Nat->Option (List V)
inductive X where
 |r (p:P2)|c (v:V)|s (i:Nat)
def MH(o:Option V):V:=Option.rec V.undef (λv=>v) o
def ANa(l:List V):Nat->V:=
 List.rec (motive:=λ_=>Nat->V) (λ_=>.undef) (λx _ g i=>Nat.rec (motive:=λ_=>V) x (λi _=>g i) i) l
inductive RS where
 |mk (L:List V) (R:JX)
def RS.st(E:RS):List V:=RS.rec (λL _=>L) E
def RS.rg(E:RS):JX:=RS.rec (λ_ R=>R) E
def X.ev(x:X):RS->V:=X.rec (motive:=λ_=>RS->V) (λp E=>MH (T.EN p E.rg)) (λv _=>v) (λi E=>ANa E.st i) x
def V.Gs(v:V):(IntKind->Int->Nat->Option V)->Option V:=
 V.rec (motive_1:=λ_=>(IntKind->Int->Nat->Option V)->Option V) (motive_2:=λ_=>PUnit)
  (λ_=>none)
  (λa b c f=>f a b c)
  (λ_ _=>none)
  (λ_ _ _=>none)
  (λ_=>none)
  (λ_ _ _=>none)
  (λ_ _ _=>none)
  (λ_=>none)
  (λ_ _ _ _ _ _=>none)
  (λ_ _ _ _ _=>none)
  (λ_ _ _ _ _ _=>none)
  (λ_=>none)
  (λ_ _=>none)
  (λ_=>none)
  (λ_ _ _ _ _ _=>none)
  (λ_ _ _=>none)
  (λ_ _ _=>none)
  (λ_=>none)
  (λ_ _ _ _=>none)
  ⟨⟩ (λ_ _ _ _=>⟨⟩) v
def V.lq(v:V):(Bool->Option V)->Option V:=
 V.rec (motive_1:=λ_=>(Bool->Option V)->Option V) (motive_2:=λ_=>PUnit)
  (λ_=>none)
  (λ_ _ _ _=>none)
  (λa f=>f a)
  (λ_ _ _=>none)
  (λ_=>none)
  (λ_ _ _=>none)
  (λ_ _ _=>none)
  (λ_=>none)
  (λ_ _ _ _ _ _=>none)
  (λ_ _ _ _ _=>none)
  (λ_ _ _ _ _ _=>none)
  (λ_=>none)
  (λ_ _=>none)
  (λ_=>none)
  (λ_ _ _ _ _ _=>none)
  (λ_ _ _=>none)
  (λ_ _ _=>none)
  (λ_=>none)
  (λ_ _ _ _=>none)
  ⟨⟩ (λ_ _ _ _=>⟨⟩) v
def V.AD5(v:V):(Bool->Prop)->Prop:=
 V.rec (motive_1:=λ_=>(Bool->Prop)->Prop) (motive_2:=λ_=>PUnit)
  (λ_=>False)
  (λ_ _ _ _=>False)
  (λa f=>f a)
  (λ_ _ _=>False)
  (λ_=>False)
  (λ_ _ _=>False)
  (λ_ _ _=>False)
  (λ_=>False)
  (λ_ _ _ _ _ _=>False)
  (λ_ _ _ _ _=>False)
  (λ_ _ _ _ _ _=>False)
  (λ_=>False)
  (λ_ _=>False)
  (λ_=>False)
  (λ_ _ _ _ _ _=>False)
  (λ_ _ _=>False)
  (λ_ _ _=>False)
  (λ_=>False)
  (λ_ _ _ _=>False)
  ⟨⟩ (λ_ _ _ _=>⟨⟩) v
def V.Qb(v:V):(Nat->Nat->Option V)->Option V:=
 V.rec (motive_1:=λ_=>(Nat->Nat->Option V)->Option V) (motive_2:=λ_=>PUnit)
  (λ_=>none)
  (λ_ _ _ _=>none)
  (λ_ _=>none)
  (λa b f=>f a b)
  (λ_=>none)
  (λ_ _ _=>none)
  (λ_ _ _=>none)
  (λ_=>none)
  (λ_ _ _ _ _ _=>none)
  (λ_ _ _ _ _=>none)
  (λ_ _ _ _ _ _=>none)
  (λ_=>none)
  (λ_ _=>none)
  (λ_=>none)
  (λ_ _ _ _ _ _=>none)
  (λ_ _ _=>none)
  (λ_ _ _=>none)
  (λ_=>none)
  (λ_ _ _ _=>none)
  ⟨⟩ (λ_ _ _ _=>⟨⟩) v
def V.kC(v:V):(List V->Option V)->Option V:=
 V.rec (motive_1:=λ_=>(List V->Option V)->Option V) (motive_2:=λ_=>PUnit)
  (λ_=>none)
  (λ_ _ _ _=>none)
  (λ_ _=>none)
  (λ_ _ _=>none)
  (λ_=>none)
  (λ_ _ _=>none)
  (λ_ _ _=>none)
  (λ_=>none)
  (λ_ _ _ _ _ _=>none)
  (λ_ _ _ _ _=>none)
  (λ_ _ _ _ _ _=>none)
  (λ_=>none)
  (λ_ _=>none)
  (λ_=>none)
  (λ_ _ _ _ _ _=>none)
  (λa _ f=>f a)
  (λ_ _ _=>none)
  (λ_=>none)
  (λ_ _ _ _=>none)
  ⟨⟩ (λ_ _ _ _=>⟨⟩) v
def V.AGD(v:V):(List V->Option V)->Option V:=
 V.rec (motive_1:=λ_=>(List V->Option V)->Option V) (motive_2:=λ_=>PUnit)
  (λ_=>none)
  (λ_ _ _ _=>none)
  (λ_ _=>none)
  (λ_ _ _=>none)
  (λ_=>none)
  (λ_ _ _=>none)
  (λ_ _ _=>none)
  (λ_=>none)
  (λ_ _ _ _ _ _=>none)
  (λ_ _ _ _ _=>none)
  (λ_ _ _ _ _ _=>none)
  (λ_=>none)
  (λ_ _=>none)
  (λ_=>none)
  (λ_ _ _ _ _ _=>none)
  (λ_ _ _=>none)
  (λa _ f=>f a)
  (λ_=>none)
  (λ_ _ _ _=>none)
  ⟨⟩ (λ_ _ _ _=>⟨⟩) v
def V.ACG(v:V):(Nat->Nat->Option V)->(Nat->Nat->Option V)->Option V:=
 V.rec (motive_1:=λ_=>(Nat->Nat->Option V)->(Nat->Nat->Option V)->Option V) (motive_2:=λ_=>PUnit)
  (λ_ _=>none)
  (λ_ _ _ _ _=>none)
  (λ_ _ _=>none)
  (λ_ _ _ _=>none)
  (λ_ _=>none)
  (λa b f _=>f a b)
  (λa b _ g=>g a b)
  (λ_ _=>none)
  (λ_ _ _ _ _ _ _=>none)
  (λ_ _ _ _ _ _=>none)
  (λ_ _ _ _ _ _ _=>none)
  (λ_ _=>none)
  (λ_ _ _=>none)
  (λ_ _=>none)
  (λ_ _ _ _ _ _ _=>none)
  (λ_ _ _ _=>none)
  (λ_ _ _ _=>none)
  (λ_ _=>none)
  (λ_ _ _ _ _=>none)
  ⟨⟩ (λ_ _ _ _=>⟨⟩) v
def V.AH0(v:V):(Option V)->(Nat->Option V)->Option V:=
 V.rec (motive_1:=λ_=>(Option V)->(Nat->Option V)->Option V) (motive_2:=λ_=>PUnit)
  (λ_ _=>none)
  (λ_ _ _ _ _=>none)
  (λ_ _ _=>none)
  (λ_ _ _ _=>none)
  (λ_ _=>none)
  (λ_ _ _ _=>none)
  (λ_ _ _ _=>none)
  (λ_ _=>none)
  (λ_ _ _ _ _ _ _=>none)
  (λ_ _ _ _ _ _=>none)
  (λ_ _ _ _ _ _ _=>none)
  (λz _=>z)
  (λa _ f=>f a)
  (λ_ _=>none)
  (λ_ _ _ _ _ _ _=>none)
  (λ_ _ _ _=>none)
  (λ_ _ _ _=>none)
  (λ_ _=>none)
  (λ_ _ _ _ _=>none)
  ⟨⟩ (λ_ _ _ _=>⟨⟩) v
def V.AQ5(v:V):(Option V)->(Nat->Nat->Nat->Nat->Nat->Option V)->(Nat->Nat->Nat->Nat->Option V)->(Nat->Nat->Nat->Nat->Nat->Option V)->Option V:=
 V.rec (motive_1:=λ_=>(Option V)->(Nat->Nat->Nat->Nat->Nat->Option V)->(Nat->Nat->Nat->Nat->Option V)->(Nat->Nat->Nat->Nat->Nat->Option V)->Option V) (motive_2:=λ_=>PUnit)
  (λ_ _ _ _=>none)
  (λ_ _ _ _ _ _ _=>none)
  (λ_ _ _ _ _=>none)
  (λ_ _ _ _ _ _=>none)
  (λ_ _ _ _=>none)
  (λ_ _ _ _ _ _=>none)
  (λ_ _ _ _ _ _=>none)
  (λz _ _ _=>z)
  (λa b c d e _ f _ _=>f a b c d e)
  (λa b c d _ _ g _=>g a b c d)
  (λa b c d e _ _ _ h=>h a b c d e)
  (λ_ _ _ _=>none)
  (λ_ _ _ _ _=>none)
  (λ_ _ _ _=>none)
  (λ_ _ _ _ _ _ _ _ _=>none)
  (λ_ _ _ _ _ _=>none)
  (λ_ _ _ _ _ _=>none)
  (λ_ _ _ _=>none)
  (λ_ _ _ _ _ _ _=>none)
  ⟨⟩ (λ_ _ _ _=>⟨⟩) v
def Cc(v:V):List V:=
 V.rec (motive_1:=λ_=>List V) (motive_2:=λ_=>PUnit)
  ([v])
  (λ_ _ _=>[v])
  (λ_=>[v])
  (λ_ _=>[v])
  ([v])
  (λ_ _=>[v])
  (λ_ _=>[v])
  ([v])
  (λ_ _ _ _ _=>[v])
  (λ_ _ _ _=>[v])
  (λ_ _ _ _ _=>[v])
  ([v])
  (λ_=>[v])
  ([v])
  (λ_ _ _ _ _=>[v])
  (λa _=>a)
  (λ_ _=>[v])
  ([v])
  (λ_ _ _=>[v])
  ⟨⟩ (λ_ _ _ _=>⟨⟩) v
def isStr(v:V):Bool:=
 V.rec (motive_1:=λ_=>Bool) (motive_2:=λ_=>PUnit)
  (false)
  (λ_ _ _=>false)
  (λ_=>false)
  (λ_ _=>true)
  (false)
  (λ_ _=>false)
  (λ_ _=>false)
  (false)
  (λ_ _ _ _ _=>false)
  (λ_ _ _ _=>false)
  (λ_ _ _ _ _=>false)
  (false)
  (λ_=>false)
  (false)
  (λ_ _ _ _ _=>false)
  (λ_ _=>false)
  (λ_ _=>false)
  (false)
  (λ_ _ _=>false)
  ⟨⟩ (λ_ _ _ _=>⟨⟩) v
def lenV(v:V):Option V:=
 V.rec (motive_1:=λ_=>Option V) (motive_2:=λ_=>PUnit)
  (none)
  (λ_ _ _=>none)
  (λ_=>none)
  (λ_ _=>none)
  (none)
  (λ_ _=>none)
  (λ_ _=>none)
  (some (.int .i64 (.ofNat 0) 0))
  (λ_ _ c _ _=>some (.int .i64 (.ofNat c) 0))
  (λ_ _ c _=>some (.int .i64 (.ofNat c) 0))
  (λ_ _ c _ _=>some (.int .i64 (.ofNat c) 0))
  (none)
  (λ_=>none)
  (none)
  (λ_ _ _ _ _=>none)
  (λ_ _=>none)
  (λ_ _=>none)
  (none)
  (λ_ _ _=>none)
  ⟨⟩ (λ_ _ _ _=>⟨⟩) v
def BU(v:V):Option V:=
 V.rec (motive_1:=λ_=>Option V) (motive_2:=λ_=>PUnit)
  (none)
  (λ_ _ _=>none)
  (λ_=>none)
  (λ_ _=>none)
  (none)
  (λa b=>some (.ptr a b))
  (λa b=>some (.VG a b))
  (none)
  (λ_ _ _ _ _=>none)
  (λ_ _ _ _=>none)
  (λ_ _ _ _ _=>none)
  (none)
  (λ_=>none)
  (none)
  (λa b c _ _=>some (.fn a b c))
  (λ_ _=>none)
  (λ_ _=>none)
  (none)
  (λ_ _ _=>none)
  ⟨⟩ (λ_ _ _ _=>⟨⟩) v
def QF(n:Int):(Int->Option V)->Option V:=λf=>f n
def Dk(n:Nat):(Nat->Option V)->Option V:=
 Nat.rec (motive:=λ_=>(Nat->Option V)->Option V) (λf=>f 0) (λk _ f=>f (Nat.succ k)) n
def Ed(n:Nat):(Nat->Prop)->Prop:=
 Nat.rec (motive:=λ_=>(Nat->Prop)->Prop) (λf=>f 0) (λk _ f=>f (Nat.succ k)) n
def AVl(k:IntKind):Nat->Bool:=
 IntKind.rec (motive:=λ_=>Nat->Bool) (λm=>Nat.blt m 128) (λm=>Nat.blt m 32768) (λm=>Nat.blt m 2147483648) (λm=>Nat.blt m 9223372036854775808)
  (λm=>Nat.blt m 256) (λm=>Nat.blt m 65536) (λm=>Nat.blt m 4294967296) (λm=>Nat.blt m 18446744073709551616) k
def AV8(k:IntKind):Nat->Bool:=
 IntKind.rec (motive:=λ_=>Nat->Bool) (λm=>Nat.blt m 128) (λm=>Nat.blt m 32768) (λm=>Nat.blt m 2147483648) (λm=>Nat.blt m 9223372036854775808)
  (λ_=>false) (λ_=>false) (λ_=>false) (λ_=>false) k
def inr(k:IntKind)(n:Int):Bool:=Int.rec (motive:=λ_=>IntKind->Bool) (λm k=>AVl k m) (λm k=>AV8 k m) n k
def U1(k:IntKind)(n:Int):Int:=Bool.rec (k.wrap n) n (inr k n)
def AT0(k:IntKind)(n:Int):Option V:=QF (U1 k n) λm=>some (.int k m 0)
def mkI(k:IntKind)(n:Int)(s:Nat):Option V:=
 Nat.rec (motive:=λ_=>IntKind->Int->Option V) AT0 (λ_ _ k n=>some (.int k (k.wrap n) 1)) s k n
def mkN(k:IntKind)(n:Int)(s:Nat):Option V:=
 Nat.rec (motive:=λ_=>IntKind->Int->Option V) (λk n=>QF n λm=>some (.int k m 0)) (λ_ _ k n=>some (.int k n 1)) s k n
def ARs(a:Nat)(b:Int):Int:=Int.rec (motive:=λ_=>Nat->Int) (λn m=>.ofNat (Nat.add m n)) (λn m=>Int.subNatNat m (Nat.succ n)) b a
def ARl(a:Nat)(b:Int):Int:=Int.rec (motive:=λ_=>Nat->Int) (λn m=>Int.subNatNat n (Nat.succ m)) (λn m=>.negSucc (Nat.succ (Nat.add m n))) b a
def ADI(a b:Int):Int:=Int.rec (motive:=λ_=>Int->Int) ARs ARl a b
def ile(a b:Int):Bool:=Int.rec (motive:=λ_=>Int->Bool) (λm b=>Int.rec (motive:=λ_=>Nat->Bool) (λn m=>Nat.ble m n) (λ_ _=>false) b m)
 (λm b=>Int.rec (motive:=λ_=>Nat->Bool) (λ_ _=>true) (λn m=>Nat.ble n m) b m) a b
def ilt(a b:Int):Bool:=Int.rec (motive:=λ_=>Int->Bool) (λm b=>Int.rec (motive:=λ_=>Nat->Bool) (λn m=>Nat.blt m n) (λ_ _=>false) b m)
 (λm b=>Int.rec (motive:=λ_=>Nat->Bool) (λ_ _=>true) (λn m=>Nat.blt n m) b m) a b
def ieq(a b:Int):Bool:=Int.rec (motive:=λ_=>Int->Bool) (λm b=>Int.rec (motive:=λ_=>Nat->Bool) (λn m=>Nat.beq m n) (λ_ _=>false) b m)
 (λm b=>Int.rec (motive:=λ_=>Nat->Bool) (λ_ _=>false) (λn m=>Nat.beq n m) b m) a b
def kno(a:IntKind):Nat:=IntKind.rec 0 1 2 3 4 5 6 7 a
def keq(a b:IntKind):Bool:=Nat.beq (kno a) (kno b)
def Xj(b:Bool):Bool:=Bool.rec true false b
def band(a b:Bool):Bool:=Bool.rec (motive:=λ_=>Bool->Bool) (λ_=>false) (λb=>b) a b
def AN1(a b:Bool):Bool:=Bool.rec (motive:=λ_=>Bool->Bool) Xj (λb=>b) a b
def mkB(b:Bool):Option V:=Bool.rec (some (.bool false)) (some (.bool true)) b
def BJ(b:Bool):Option V->Option V:=Bool.rec (motive:=λ_=>Option V->Option V) (λ_=>none) (λo=>o) b
def wz(b:Bool)(x y:Option V):Option V:=Bool.rec (motive:=λ_=>Option V->Option V->Option V) (λ_ y=>y) (λx _=>x) b x y
def AJ7(code i:Nat):Nat:=Nat.mod (Nat.div code (Nat.pow 256 i)) 256
def ANe(code l h:Nat):Nat:=Nat.mod (Nat.div code (Nat.pow 256 l)) (Nat.pow 256 (Nat.sub h l))
def ATA(l1 c1 c2:Nat):Nat:=Nat.add c1 (Nat.mul (Nat.pow 256 l1) c2)
def AUJ(f:Nat):Nat->Nat->Nat->Nat->Bool:=
 Nat.rec (motive:=λ_=>Nat->Nat->Nat->Nat->Bool) (λ_ _ _ _=>false)
  (λ_ g l1 c1 l2 c2=>Nat.rec (motive:=λ_=>Bool) false (λl2' _=>Nat.rec (motive:=λ_=>Bool) true (λl1' _=>
   Bool.rec (Nat.blt (Nat.mod c1 256) (Nat.mod c2 256)) (g l1' (Nat.div c1 256) l2' (Nat.div c2 256)) (Nat.beq (Nat.mod c1 256) (Nat.mod c2 256))) l1) l2) f
def slt(l1 c1 l2 c2:Nat):Bool:=AUJ (Nat.succ l2) l1 c1 l2 c2
def nth{α:Type}(l:List α):Nat->Option α:=
 List.rec (motive:=λ_=>Nat->Option α) (λ_=>none) (λx _ g i=>Nat.rec (motive:=λ_=>Option α) (some x) (λi _=>g i) i) l
def ABo{α:Type}(x:α)(l:List α):Nat->List α:=
 List.rec (motive:=λ_=>Nat->List α) (λ_=>[]) (λy ys g i=>Nat.rec (motive:=λ_=>List α) (x::ys) (λi _=>y::g i) i) l
def len{α:Type}(l:List α):Nat:=List.rec (motive:=λ_=>Nat) 0 (λ_ _ n=>Nat.succ n) l
def cat{α:Type}(a b:List α):List α:=List.rec (motive:=λ_=>List α->List α) (λb=>b) (λx _ g b=>x::g b) a b
def XM{α:Type}(n:Nat):List α->List α:=
 Nat.rec (motive:=λ_=>List α->List α) (λ_=>[]) (λ_ g l=>List.rec (motive:=λ_=>List α) [] (λx xs _=>x::g xs) l) n
def fO{α:Type}(n:Nat):List α->List α:=
 Nat.rec (motive:=λ_=>List α->List α) (λl=>l) (λ_ g l=>List.rec (motive:=λ_=>List α) [] (λ_ xs _=>g xs) l) n
def aU(l:List X):RS->List V:=List.rec (motive:=λ_=>RS->List V) (λ_=>[]) (λx _ g R=>x.ev R::g R) l
def AIJ(new:List V)(i:Nat)(l:List V):List V:=cat (XM i l) (cat new (fO (Nat.add i (len new)) l))
abbrev LV:=List V
def OO(o:Option LV)(f:LV->Option V):Option V:=Option.rec (motive:=λ_=>(LV->Option V)->Option V) (λ_=>none) (λv f=>f v) o f
def Ip{α:Type}(o:Option α)(f:α->Prop):Prop:=Option.rec (motive:=λ_=>(α->Prop)->Prop) (λ_=>False) (λv f=>f v) o f
def AP(o:Option V)(f:V->Prop):Prop:=Option.rec (motive:=λ_=>(V->Prop)->Prop) (λ_=>False) (λv f=>f v) o f
def Ci{α β:Type}(o:Option α)(f:α->Option β):Option β:=Option.rec (motive:=λ_=>(α->Option β)->Option β) (λ_=>none) (λv f=>f v) o f
def ldC(esz off n:Nat)(L:LV):Option LV:=
 Bool.rec (motive:=λ_=>Option LV)
  (Bool.rec none (some (XM n (fO (Nat.mod off esz) L))) (Nat.ble (Nat.add (Nat.mod off esz) n) esz))
  (some L) (band (Nat.beq n esz) (Nat.beq (Nat.mod off esz) 0))
def ldB(esz cnt:Nat)(c:T LV)(off n:Nat):Option LV:=
 Ci (Bool.rec none (T.get c (Nat.div off esz)) (Nat.blt (Nat.div off esz) cnt)) (ldC esz off n)
def Pn.ld(b:Pn):Nat->Nat->Option LV:=
 Pn.rec (motive:=λ_=>Nat->Nat->Option LV) ldB (λ_ _ _ _=>none) (λ_ _=>none) (λ_ _ _ _ _ _ _=>none) (λ_ _ _=>none) b
def gX(H:Heap)(id off n:Nat):Option LV:=Option.rec (motive:=λ_=>Nat->Nat->Option LV) (λ_ _=>none) Pn.ld (T.get H id) off n
def vM(v:V):(AY)->(Heap)->(Nat)->Option LV:=
 V.rec (motive_1:=λ_=>(AY)->(Heap)->(Nat)->Option LV) (motive_2:=λ_=>PUnit)
  (λ_ _ _=>none)
  (λ_ _ _ _ _ _=>none)
  (λ_ _ _ _=>none)
  (λ_ _ _ _ _=>none)
  (λ_ _ _=>none)
  (λa b _ H n=>gX H a b n)
  (λa b G _ n=>G a b n)
  (λ_ _ _=>none)
  (λ_ _ _ _ _ _ _ _=>none)
  (λ_ _ _ _ _ _ _=>none)
  (λ_ _ _ _ _ _ _ _=>none)
  (λ_ _ _=>none)
  (λ_ _ _ _=>none)
  (λ_ _ _=>none)
  (λ_ _ _ _ _ _ _ _=>none)
  (λ_ _ _ _ _=>none)
  (λ_ _ _ _ _=>none)
  (λ_ _ _=>none)
  (λ_ _ _ _ _ _=>none)
  ⟨⟩ (λ_ _ _ _=>⟨⟩) v
def ny(new:LV)(esz cnt:Nat)(c:T LV)(off n:Nat)(L:LV):Option Pn:=
 Bool.rec (motive:=λ_=>Option Pn)
  (Bool.rec none (some (.arr esz cnt (T.set c (Nat.div off esz) (AIJ new (Nat.mod off esz) L)))) (Nat.ble (Nat.add (Nat.mod off esz) n) esz))
  (some (.arr esz cnt (T.set c (Nat.div off esz) new))) (band (Nat.beq n esz) (Nat.beq (Nat.mod off esz) 0))
def stB(esz cnt:Nat)(c:T LV)(off n:Nat)(new:LV):Option Pn:=
 Ci (Bool.rec none (T.get c (Nat.div off esz)) (Nat.blt (Nat.div off esz) cnt)) (ny new esz cnt c off n)
def Pn.st(b:Pn):Nat->Nat->LV->Option Pn:=
 Pn.rec (motive:=λ_=>Nat->Nat->LV->Option Pn) stB (λ_ _ _ _ _=>none) (λ_ _ _=>none) (λ_ _ _ _ _ _ _ _=>none) (λ_ _ _ _=>none) b
def stH(H:Heap)(id off n:Nat)(new:LV):Option Heap:=
 Ci (Option.rec (motive:=λ_=>Nat->Nat->LV->Option Pn) (λ_ _ _=>none) Pn.st (T.get H id) off n new) λb=>some (T.set H id b)
def stP(v:V):(Heap)->(Nat)->(LV)->Option Heap:=
 V.rec (motive_1:=λ_=>(Heap)->(Nat)->(LV)->Option Heap) (motive_2:=λ_=>PUnit)
  (λ_ _ _=>none)
  (λ_ _ _ _ _ _=>none)
  (λ_ _ _ _=>none)
  (λ_ _ _ _ _=>none)
  (λ_ _ _=>none)
  (λa b H n new=>stH H a b n new)
  (λ_ _ _ _ _=>none)
  (λ_ _ _=>none)
  (λ_ _ _ _ _ _ _ _=>none)
  (λ_ _ _ _ _ _ _=>none)
  (λ_ _ _ _ _ _ _ _=>none)
  (λ_ _ _=>none)
  (λ_ _ _ _=>none)
  (λ_ _ _=>none)
  (λ_ _ _ _ _ _ _ _=>none)
  (λ_ _ _ _ _=>none)
  (λ_ _ _ _ _=>none)
  (λ_ _ _=>none)
  (λ_ _ _ _ _ _=>none)
  ⟨⟩ (λ_ _ _ _=>⟨⟩) v
def ANm(v:V):(IntKind)->(Int)->(Nat)->Option Bool:=
 V.rec (motive_1:=λ_=>(IntKind)->(Int)->(Nat)->Option Bool) (motive_2:=λ_=>PUnit)
  (λ_ _ _=>none)
  (λa b c k n s=>Bool.rec (motive:=λ_=>Option Bool) none (some (ieq n b)) (band (keq k a) (Nat.beq (Nat.add s c) 0)))
  (λ_ _ _ _=>none)
  (λ_ _ _ _ _=>none)
  (λ_ _ _=>none)
  (λ_ _ _ _ _=>none)
  (λ_ _ _ _ _=>none)
  (λ_ _ _=>none)
  (λ_ _ _ _ _ _ _ _=>none)
  (λ_ _ _ _ _ _ _=>none)
  (λ_ _ _ _ _ _ _ _=>none)
  (λ_ _ _=>none)
  (λ_ _ _ _=>none)
  (λ_ _ _=>none)
  (λ_ _ _ _ _ _ _ _=>none)
  (λ_ _ _ _ _=>none)
  (λ_ _ _ _ _=>none)
  (λ_ _ _=>none)
  (λ_ _ _ _ _ _=>none)
  ⟨⟩ (λ_ _ _ _=>⟨⟩) v
def AIH(v:V):(Bool)->Option Bool:=
 V.rec (motive_1:=λ_=>(Bool)->Option Bool) (motive_2:=λ_=>PUnit)
  (λ_=>none)
  (λ_ _ _ _=>none)
  (λa x=>some (AN1 x a))
  (λ_ _ _=>none)
  (λ_=>none)
  (λ_ _ _=>none)
  (λ_ _ _=>none)
  (λ_=>none)
  (λ_ _ _ _ _ _=>none)
  (λ_ _ _ _ _=>none)
  (λ_ _ _ _ _ _=>none)
  (λ_=>none)
  (λ_ _=>none)
  (λ_=>none)
  (λ_ _ _ _ _ _=>none)
  (λ_ _ _=>none)
  (λ_ _ _=>none)
  (λ_=>none)
  (λ_ _ _ _=>none)
  ⟨⟩ (λ_ _ _ _=>⟨⟩) v
def eqStr(v:V):(Nat)->(Nat)->Option Bool:=
 V.rec (motive_1:=λ_=>(Nat)->(Nat)->Option Bool) (motive_2:=λ_=>PUnit)
  (λ_ _=>none)
  (λ_ _ _ _ _=>none)
  (λ_ _ _=>none)
  (λa b l d=>some (band (Nat.beq l a) (Nat.beq d b)))
  (λ_ _=>none)
  (λ_ _ _ _=>none)
  (λ_ _ _ _=>none)
  (λ_ _=>none)
  (λ_ _ _ _ _ _ _=>none)
  (λ_ _ _ _ _ _=>none)
  (λ_ _ _ _ _ _ _=>none)
  (λ_ _=>none)
  (λ_ _ _=>none)
  (λ_ _=>none)
  (λ_ _ _ _ _ _ _=>none)
  (λ_ _ _ _=>none)
  (λ_ _ _ _=>none)
  (λ_ _=>none)
  (λ_ _ _ _ _=>none)
  ⟨⟩ (λ_ _ _ _=>⟨⟩) v
def ALG(v:V):Option Bool:=
 V.rec (motive_1:=λ_=>Option Bool) (motive_2:=λ_=>PUnit)
  (none)
  (λ_ _ _=>none)
  (λ_=>none)
  (λ_ _=>none)
  (some true)
  (λ_ _=>some false)
  (λ_ _=>some false)
  (none)
  (λ_ _ _ _ _=>none)
  (λ_ _ _ _=>none)
  (λ_ _ _ _ _=>none)
  (none)
  (λ_=>none)
  (none)
  (λ_ _ _ _ _=>none)
  (λ_ _=>none)
  (λ_ _=>none)
  (none)
  (λ_ _ _=>none)
  ⟨⟩ (λ_ _ _ _=>⟨⟩) v
def ARF(v:V):(Nat)->(Nat)->Option Bool:=
 V.rec (motive_1:=λ_=>(Nat)->(Nat)->Option Bool) (motive_2:=λ_=>PUnit)
  (λ_ _=>none)
  (λ_ _ _ _ _=>none)
  (λ_ _ _=>none)
  (λ_ _ _ _=>none)
  (λ_ _=>some false)
  (λa b i o=>Bool.rec none (some (Nat.beq o b)) (Nat.beq i a))
  (λ_ _ _ _=>none)
  (λ_ _=>none)
  (λ_ _ _ _ _ _ _=>none)
  (λ_ _ _ _ _ _=>none)
  (λ_ _ _ _ _ _ _=>none)
  (λ_ _=>none)
  (λ_ _ _=>none)
  (λ_ _=>none)
  (λ_ _ _ _ _ _ _=>none)
  (λ_ _ _ _=>none)
  (λ_ _ _ _=>none)
  (λ_ _=>none)
  (λ_ _ _ _ _=>none)
  ⟨⟩ (λ_ _ _ _=>⟨⟩) v
def AMN(v:V):Option Bool:=
 V.rec (motive_1:=λ_=>Option Bool) (motive_2:=λ_=>PUnit)
  (none)
  (λ_ _ _=>none)
  (λ_=>none)
  (λ_ _=>none)
  (some false)
  (λ_ _=>none)
  (λ_ _=>none)
  (none)
  (λ_ _ _ _ _=>none)
  (λ_ _ _ _=>none)
  (λ_ _ _ _ _=>none)
  (none)
  (λ_=>none)
  (none)
  (λ_ _ _ _ _=>none)
  (λ_ _=>none)
  (λ_ _=>none)
  (none)
  (λ_ _ _=>none)
  ⟨⟩ (λ_ _ _ _=>⟨⟩) v
def AHB(v:V):(V)->Option Bool:=
 V.rec (motive_1:=λ_=>(V)->Option Bool) (motive_2:=λ_=>PUnit)
  (λ_=>none)
  (λa b c y=>ANm y a b c)
  (λ_ _=>none)
  (λ_ _ _=>none)
  (λ_=>none)
  (λ_ _ _=>none)
  (λ_ _ _=>none)
  (λ_=>none)
  (λ_ _ _ _ _ _=>none)
  (λ_ _ _ _ _=>none)
  (λ_ _ _ _ _ _=>none)
  (λ_=>none)
  (λ_ _=>none)
  (λ_=>none)
  (λ_ _ _ _ _ _=>none)
  (λ_ _ _=>none)
  (λ_ _ _=>none)
  (λ_=>none)
  (λ_ _ _ _=>none)
  ⟨⟩ (λ_ _ _ _=>⟨⟩) v
def AIW(v:V):(V)->Option Bool:=
 V.rec (motive_1:=λ_=>(V)->Option Bool) (motive_2:=λ_=>PUnit)
  (λ_=>none)
  (λ_ _ _ _=>none)
  (λ_ _=>none)
  (λa b y=>eqStr y a b)
  (λ_=>none)
  (λ_ _ _=>none)
  (λ_ _ _=>none)
  (λ_=>none)
  (λ_ _ _ _ _ _=>none)
  (λ_ _ _ _ _=>none)
  (λ_ _ _ _ _ _=>none)
  (λ_=>none)
  (λ_ _=>none)
  (λ_=>none)
  (λ_ _ _ _ _ _=>none)
  (λ_ _ _=>none)
  (λ_ _ _=>none)
  (λ_=>none)
  (λ_ _ _ _=>none)
  ⟨⟩ (λ_ _ _ _=>⟨⟩) v
def ABi(v:V):(V)->Option Bool:=
 V.rec (motive_1:=λ_=>(V)->Option Bool) (motive_2:=λ_=>PUnit)
  (λ_=>none)
  (λ_ _ _ _=>none)
  (λa y=>AIH y a)
  (λ_ _ _=>none)
  (λ_=>none)
  (λ_ _ _=>none)
  (λ_ _ _=>none)
  (λ_=>none)
  (λ_ _ _ _ _ _=>none)
  (λ_ _ _ _ _=>none)
  (λ_ _ _ _ _ _=>none)
  (λ_=>none)
  (λ_ _=>none)
  (λ_=>none)
  (λ_ _ _ _ _ _=>none)
  (λ_ _ _=>none)
  (λ_ _ _=>none)
  (λ_=>none)
  (λ_ _ _ _=>none)
  ⟨⟩ (λ_ _ _ _=>⟨⟩) v
def ALn(v:V):(V)->Option Bool:=
 V.rec (motive_1:=λ_=>(V)->Option Bool) (motive_2:=λ_=>PUnit)
  (λ_=>none)
  (λ_ _ _ _=>none)
  (λ_ _=>none)
  (λ_ _ _=>none)
  (λy=>ALG y)
  (λa b y=>ARF y a b)
  (λ_ _ y=>AMN y)
  (λ_=>none)
  (λ_ _ _ _ _ _=>none)
  (λ_ _ _ _ _=>none)
  (λ_ _ _ _ _ _=>none)
  (λ_=>none)
  (λ_ _=>none)
  (λ_=>none)
  (λ_ _ _ _ _ _=>none)
  (λ_ _ _=>none)
  (λ_ _ _=>none)
  (λ_=>none)
  (λ_ _ _ _=>none)
  ⟨⟩ (λ_ _ _ _=>⟨⟩) v
def ALf(v:V):Option Bool:=
 V.rec (motive_1:=λ_=>Option Bool) (motive_2:=λ_=>PUnit)
  (none)
  (λ_ _ _=>none)
  (λ_=>none)
  (λ_ _=>none)
  (none)
  (λ_ _=>none)
  (λ_ _=>none)
  (some true)
  (λ_ _ _ _ _=>some false)
  (λ_ _ _ _=>some false)
  (λ_ _ _ _ _=>some false)
  (none)
  (λ_=>none)
  (none)
  (λ_ _ _ _ _=>none)
  (λ_ _=>none)
  (λ_ _=>none)
  (none)
  (λ_ _ _=>none)
  ⟨⟩ (λ_ _ _ _=>⟨⟩) v
def bF(v:V):Option Bool:=
 V.rec (motive_1:=λ_=>Option Bool) (motive_2:=λ_=>PUnit)
  (none)
  (λ_ _ _=>none)
  (λ_=>none)
  (λ_ _=>none)
  (none)
  (λ_ _=>none)
  (λ_ _=>none)
  (some false)
  (λ_ _ _ _ _=>none)
  (λ_ _ _ _=>none)
  (λ_ _ _ _ _=>none)
  (none)
  (λ_=>none)
  (none)
  (λ_ _ _ _ _=>none)
  (λ_ _=>none)
  (λ_ _=>none)
  (none)
  (λ_ _ _=>none)
  ⟨⟩ (λ_ _ _ _=>⟨⟩) v
def AL5(v:V):Option Bool:=
 V.rec (motive_1:=λ_=>Option Bool) (motive_2:=λ_=>PUnit)
  (none)
  (λ_ _ _=>none)
  (λ_=>none)
  (λ_ _=>none)
  (none)
  (λ_ _=>none)
  (λ_ _=>none)
  (none)
  (λ_ _ _ _ _=>none)
  (λ_ _ _ _=>none)
  (λ_ _ _ _ _=>none)
  (none)
  (λ_=>none)
  (some true)
  (λ_ _ _ _ _=>some false)
  (λ_ _=>none)
  (λ_ _=>none)
  (none)
  (λ_ _ _=>none)
  ⟨⟩ (λ_ _ _ _=>⟨⟩) v
def AJU(v:V):Option Bool:=
 V.rec (motive_1:=λ_=>Option Bool) (motive_2:=λ_=>PUnit)
  (none)
  (λ_ _ _=>none)
  (λ_=>none)
  (λ_ _=>none)
  (none)
  (λ_ _=>none)
  (λ_ _=>none)
  (none)
  (λ_ _ _ _ _=>none)
  (λ_ _ _ _=>none)
  (λ_ _ _ _ _=>none)
  (none)
  (λ_=>none)
  (some false)
  (λ_ _ _ _ _=>none)
  (λ_ _=>none)
  (λ_ _=>none)
  (none)
  (λ_ _ _=>none)
  ⟨⟩ (λ_ _ _ _=>⟨⟩) v
def AK8(v:V):Option Bool:=
 V.rec (motive_1:=λ_=>Option Bool) (motive_2:=λ_=>PUnit)
  (none)
  (λ_ _ _=>none)
  (λ_=>none)
  (λ_ _=>none)
  (none)
  (λ_ _=>none)
  (λ_ _=>none)
  (none)
  (λ_ _ _ _ _=>none)
  (λ_ _ _ _=>none)
  (λ_ _ _ _ _=>none)
  (some true)
  (λ_=>some false)
  (none)
  (λ_ _ _ _ _=>none)
  (λ_ _=>none)
  (λ_ _=>none)
  (none)
  (λ_ _ _=>none)
  ⟨⟩ (λ_ _ _ _=>⟨⟩) v
def AI8(v:V):Option Bool:=
 V.rec (motive_1:=λ_=>Option Bool) (motive_2:=λ_=>PUnit)
  (none)
  (λ_ _ _=>none)
  (λ_=>none)
  (λ_ _=>none)
  (none)
  (λ_ _=>none)
  (λ_ _=>none)
  (none)
  (λ_ _ _ _ _=>none)
  (λ_ _ _ _=>none)
  (λ_ _ _ _ _=>none)
  (some false)
  (λ_=>none)
  (none)
  (λ_ _ _ _ _=>none)
  (λ_ _=>none)
  (λ_ _=>none)
  (none)
  (λ_ _ _=>none)
  ⟨⟩ (λ_ _ _ _=>⟨⟩) v
def kSl(v:V):(V)->Option Bool:=
 V.rec (motive_1:=λ_=>(V)->Option Bool) (motive_2:=λ_=>PUnit)
  (λ_=>none)
  (λ_ _ _ _=>none)
  (λ_ _=>none)
  (λ_ _ _=>none)
  (λ_=>none)
  (λ_ _ _=>none)
  (λ_ _ _=>none)
  (λy=>ALf y)
  (λ_ _ _ _ _ y=>bF y)
  (λ_ _ _ _ y=>bF y)
  (λ_ _ _ _ _ y=>bF y)
  (λ_=>none)
  (λ_ _=>none)
  (λ_=>none)
  (λ_ _ _ _ _ _=>none)
  (λ_ _ _=>none)
  (λ_ _ _=>none)
  (λ_=>none)
  (λ_ _ _ _=>none)
  ⟨⟩ (λ_ _ _ _=>⟨⟩) v
def kFn(v:V):(V)->Option Bool:=
 V.rec (motive_1:=λ_=>(V)->Option Bool) (motive_2:=λ_=>PUnit)
  (λ_=>none)
  (λ_ _ _ _=>none)
  (λ_ _=>none)
  (λ_ _ _=>none)
  (λ_=>none)
  (λ_ _ _=>none)
  (λ_ _ _=>none)
  (λ_=>none)
  (λ_ _ _ _ _ _=>none)
  (λ_ _ _ _ _=>none)
  (λ_ _ _ _ _ _=>none)
  (λ_=>none)
  (λ_ _=>none)
  (λy=>AL5 y)
  (λ_ _ _ _ _ y=>AJU y)
  (λ_ _ _=>none)
  (λ_ _ _=>none)
  (λ_=>none)
  (λ_ _ _ _=>none)
  ⟨⟩ (λ_ _ _ _=>⟨⟩) v
def ATW(v:V):(V)->Option Bool:=
 V.rec (motive_1:=λ_=>(V)->Option Bool) (motive_2:=λ_=>PUnit)
  (λ_=>none)
  (λ_ _ _ _=>none)
  (λ_ _=>none)
  (λ_ _ _=>none)
  (λ_=>none)
  (λ_ _ _=>none)
  (λ_ _ _=>none)
  (λ_=>none)
  (λ_ _ _ _ _ _=>none)
  (λ_ _ _ _ _=>none)
  (λ_ _ _ _ _ _=>none)
  (λy=>AK8 y)
  (λ_ y=>AI8 y)
  (λ_=>none)
  (λ_ _ _ _ _ _=>none)
  (λ_ _ _=>none)
  (λ_ _ _=>none)
  (λ_=>none)
  (λ_ _ _ _=>none)
  ⟨⟩ (λ_ _ _ _=>⟨⟩) v
def Zp(o:Option Bool)(f:Bool->Option Bool):Option Bool:=Option.rec (motive:=λ_=>(Bool->Option Bool)->Option Bool) (λ_=>none) (λv f=>f v) o f
inductive CK where
 |int|str|bool|ptr
def CK.eq(k:CK):V->V->Option Bool:=CK.rec (motive:=λ_=>V->V->Option Bool) AHB AIW ABi ALn k
def zJ(ks:List CK):List V->List V->Option Bool:=
 List.rec (motive:=λ_=>List V->List V->Option Bool) (λa b=>List.rec (motive:=λ_=>Option Bool) (List.rec (motive:=λ_=>Option Bool) (some true) (λ_ _ _=>none) b) (λ_ _ _=>none) a)
  (λk _ g a b=>List.rec (motive:=λ_=>Option Bool) none (λx xs _=>List.rec (motive:=λ_=>Option Bool) none (λy ys _=>Zp (k.eq x y) λr=>Zp (g xs ys) λr'=>some (band r r')) b) a) ks
def ARm(v:V):(List CK)->(LV)->Option Bool:=
 V.rec (motive_1:=λ_=>(List CK)->(LV)->Option Bool) (motive_2:=λ_=>PUnit)
  (λ_ _=>none)
  (λ_ _ _ _ _=>none)
  (λ_ _ _=>none)
  (λ_ _ _ _=>none)
  (λ_ _=>none)
  (λ_ _ _ _=>none)
  (λ_ _ _ _=>none)
  (λ_ _=>none)
  (λ_ _ _ _ _ _ _=>none)
  (λ_ _ _ _ _ _=>none)
  (λ_ _ _ _ _ _ _=>none)
  (λ_ _=>none)
  (λ_ _ _=>none)
  (λ_ _=>none)
  (λ_ _ _ _ _ _ _=>none)
  (λa _ ks l=>zJ ks l a)
  (λ_ _ _ _=>none)
  (λ_ _=>none)
  (λ_ _ _ _ _=>none)
  ⟨⟩ (λ_ _ _ _=>⟨⟩) v
def ATl(v:V):(List CK)->(V)->Option Bool:=
 V.rec (motive_1:=λ_=>(List CK)->(V)->Option Bool) (motive_2:=λ_=>PUnit)
  (λ_ _=>none)
  (λ_ _ _ _ _=>none)
  (λ_ _ _=>none)
  (λ_ _ _ _=>none)
  (λ_ _=>none)
  (λ_ _ _ _=>none)
  (λ_ _ _ _=>none)
  (λ_ _=>none)
  (λ_ _ _ _ _ _ _=>none)
  (λ_ _ _ _ _ _=>none)
  (λ_ _ _ _ _ _ _=>none)
  (λ_ _=>none)
  (λ_ _ _=>none)
  (λ_ _=>none)
  (λ_ _ _ _ _ _ _=>none)
  (λa _ ks y=>ARm y ks a)
  (λ_ _ _ _=>none)
  (λ_ _=>none)
  (λ_ _ _ _ _=>none)
  ⟨⟩ (λ_ _ _ _=>⟨⟩) v
inductive EK where
 |one (k:CK)|agg (ks:List CK)|sl|fn|map
def EK.eq(k:EK):V->V->Option Bool:=EK.rec (motive:=λ_=>V->V->Option Bool) (λk=>k.eq) (λks x y=>ATl x ks y) kSl kFn ATW k
inductive B2 where
 |add|sub|mul|quo|rem|and|or|xor|andNot|shl|shr|lss|leq|gtr|geq
def AJ9(f:Int->Int->Bool)(x y:V):Option V:=x.Gs λk a s=>y.Gs λk' b t=>BJ (band (keq k k') (Nat.beq (Nat.add s t) 0)) (mkB (f a b))
def AE2(f:Nat->Nat->Nat->Nat->Bool)(x y:V):Option V:=x.Qb λl c=>y.Qb λm d=>mkB (f l c m d)
def ari(f:Int->Int->Int)(x y:V):Option V:=x.Gs λk a s=>y.Gs λk' b t=>BJ (keq k k') (mkI k (f a b) (Nat.add s t))
def dvs(f:Int->Int->Int)(x y:V):Option V:=
 x.Gs λk a s=>y.Gs λk' b t=>BJ (band (keq k k') (band (Nat.beq t 0) (Xj (ieq b 0)))) (mkI k (f a b) s)
def AT3(x y:V):Option V:=
 x.Gs λk a s=>y.Gs λk' b t=>BJ (band (keq k k') (band (Nat.beq t 0) (Xj (ieq b 0)))) (mkN k (Int.tmod a b) s)
def AV7(x y:V):Option V:=x.Qb λl c=>y.Qb λm d=>BJ (Nat.blt (Nat.add l m) 9223372036854775808) (Dk (Nat.add l m) λn=>Dk (ATA l c d) λe=>some (.str n e))
def ATv(x y:V):Option V:=wz (isStr x) (AV7 x y) (ari ADI x y)
def AWM(x y:V):Option V:=ari (λa b=>ADI a (Int.neg b)) x y
def AVB(x y:V):Option V:=ari Int.mul x y
def AUx(k:IntKind)(a b:Int):Int:=Int.rec (motive:=λ_=>Int->IntKind->Int)
 (λm b k=>Int.rec (motive:=λ_=>Nat->IntKind->Int) (λn m k=>U1 k (.ofNat (Nat.land m n))) (λn m k=>bits .and k (.ofNat m) (.negSucc n)) b m k)
 (λm b k=>bits .and k (.negSucc m) b) a b k
def AUU(x y:V):Option V:=x.Gs λk a s=>y.Gs λk' b t=>BJ (band (keq k k') (Nat.beq (Nat.add s t) 0)) (QF (AUx k a b) λm=>some (.int k m 0))
def ALz(o:BinOp)(x y:V):Option V:=x.Gs λk a s=>y.Gs λk' b t=>BJ (band (keq k k') (Nat.beq (Nat.add s t) 0)) (QF (bits o k a b) λm=>some (.int k m 0))
def ATc(a:Int)(n:Nat):Int:=Int.fdiv a (Int.ofNat (Nat.pow 2 n))
def yO(k:IntKind):Nat:=IntKind.rec 8 16 32 64 8 16 32 64 k
def AR3(x y:V):Option V:=x.Gs λk a s=>y.Gs λ_ b t=>BJ (band (Xj (ilt b 0)) (Nat.beq (Nat.add s t) 0)) (QF (ATc a (Nat.min (Int.toNat b) (yO k))) λm=>some (.int k m 0))
def AUO(x y:V):Option V:=x.Gs λk a s=>y.Gs λ_ b t=>BJ (band (Xj (ilt b 0)) (Nat.beq (Nat.add s t) 0)) (mkI k (Int.mul a (Int.ofNat (Nat.pow 2 (Nat.min (Int.toNat b) (yO k))))) 0)
def ofB(o:Option Bool):Option V:=Option.rec none mkB o
def Ez(k:EK)(neg:Bool)(x y:V):Option V:=ofB (Zp (k.eq x y) λb=>some (Bool.rec (motive:=λ_=>Bool->Bool) (λb=>b) Xj neg b))
def ASH(x y:V):Option V:=wz (isStr x) (AE2 slt x y) (AJ9 ilt x y)
def ARx(x y:V):Option V:=wz (isStr x) (AE2 (λl c m d=>Xj (slt m d l c)) x y) (AJ9 ile x y)
def AUR(x y:V):Option V:=wz (isStr x) (AE2 (λl c m d=>slt m d l c) x y) (AJ9 (λa b=>ilt b a) x y)
def ATF(x y:V):Option V:=wz (isStr x) (AE2 (λl c m d=>Xj (slt l c m d)) x y) (AJ9 (λa b=>ile b a) x y)
def B2.ev(o:B2):V->V->Option V:=B2.rec (motive:=λ_=>V->V->Option V)
 ATv AWM AVB (dvs Int.tdiv) AT3 AUU (ALz .or) (ALz .xor) (ALz .andNot) AUO AR3 ASH ARx AUR ATF o
end Go.Eng
namespace Go.PQ
open Go.Eng
def q0:P2:=.h
def q1:P2:=.z q0
def q2:P2:=.o q0
def q3:P2:=.z q1
def q4:P2:=.o q1
def q5:P2:=.z q2
def q6:P2:=.o q2
def q7:P2:=.z q3
def q8:P2:=.o q3
def q9:P2:=.z q4
def q10:P2:=.o q4
def q11:P2:=.z q5
def q12:P2:=.o q5
def q13:P2:=.z q6
def q15:P2:=.z q7
def q16:P2:=.o q7
def q17:P2:=.z q8
def q18:P2:=.o q8
def q19:P2:=.z q9
def q20:P2:=.o q9
def q21:P2:=.z q10
def q22:P2:=.o q10
def q23:P2:=.z q11
def q31:P2:=.z q15
def q34:P2:=.o q16
def q35:P2:=.z q17
def q37:P2:=.z q18
def q39:P2:=.z q19
def q40:P2:=.o q19
def q41:P2:=.z q20
def q63:P2:=.z q31
abbrev dF:Nat:=8
abbrev aJ:Nat:=9
abbrev Ve:Nat:=10
abbrev OL:Nat:=15
abbrev gV:Nat:=19
abbrev XE:Nat:=20
abbrev KY:Nat:=21
abbrev aK:Nat:=22
abbrev Zq:Nat:=23
abbrev AC0:Nat:=24
abbrev V5:Nat:=25
abbrev EG:Nat:=26
abbrev OW:Nat:=29
abbrev Dh:Nat:=30
abbrev Bo:Nat:=31
abbrev Yh:Nat:=32
abbrev WH:Nat:=33
abbrev Ll:Nat:=34
abbrev IX:Nat:=35
abbrev EC:Nat:=36
abbrev JM:Nat:=37
abbrev aV:Nat:=38
abbrev Zg:Nat:=39
abbrev BF:Nat:=40
abbrev Dl:Nat:=41
abbrev Af:Nat:=42
abbrev Jw:Nat:=43
abbrev JZ:Nat:=44
abbrev DZ:Nat:=45
abbrev Uk:Nat:=46
abbrev Ce:Nat:=47
abbrev RX:Nat:=48
abbrev OE:Nat:=49
abbrev MC:Nat:=50
abbrev WR:Nat:=51
abbrev YL:Nat:=53
abbrev gU:Nat:=54
abbrev U5:Nat:=55
abbrev CG:Nat:=56
abbrev KW:Nat:=57
abbrev Jt:Nat:=58
abbrev Mc:Nat:=59
abbrev Qw:Nat:=60
abbrev lG:Nat:=61
abbrev Rt:Nat:=62
abbrev kS:Nat:=63
abbrev lZ:Nat:=64
abbrev yU:Nat:=65
abbrev Yl:Nat:=66
abbrev uf:Nat:=67
abbrev DK:Nat:=68
abbrev Qo:Nat:=69
abbrev I4:Nat:=70
abbrev OM:Nat:=71
abbrev ZB:Nat:=72
abbrev OU:Nat:=73
abbrev GL:Nat:=78
abbrev Ti:Nat:=81
abbrev Tf:Nat:=82
abbrev ACs:Nat:=83
abbrev AA9:Nat:=84
abbrev rG:Nat:=85
abbrev Jd:Nat:=86
abbrev FT:Nat:=87
abbrev Rj:Nat:=91
abbrev Bv:Nat:=95
abbrev CS:Nat:=96
abbrev Fj:Nat:=97
abbrev Vz:Nat:=98
abbrev DT:Nat:=100
abbrev pO:Nat:=101
abbrev fP:Nat:=102
abbrev OY:Nat:=103
abbrev Oj:Nat:=104
abbrev NT:Nat:=105
abbrev IG:Nat:=106
abbrev Ph:Nat:=107
abbrev Jp:Nat:=108
abbrev DU:Nat:=109
abbrev Vu:Nat:=110
abbrev XV:Nat:=111
abbrev Uo:Nat:=112
abbrev Qm:Nat:=113
abbrev Zj:Nat:=114
abbrev VL:Nat:=1
end Go.PQ
namespace Go.Eng
inductive AN where
 |mv (x:X)
 |pick (c a b:X)
 |ld1 (x:X)
 |ldn (n:Nat) (x:X)
 |ANX (x:X)
 |bin (o:B2) (x y:X)
 |eq (k:EK) (neg:Bool) (x y:X)
 |not (x:X)
 |neg (x:X)
 |cvi (k:IntKind) (x:X)
 |AXZ (f:Nat) (first caps:List X)
 |AVR (off:Nat) (x:X)
 |field1 (off:Nat) (x:X)
 |ATm (off n:Nat) (x:X)
 |AWP (esz:Nat) (x i:X)
 |ATi (n esz:Nat) (x i:X)
 |AXm (x i:X)
 |AXi (n:Nat) (x i:X)
 |ext (x:X) (i:Nat)
 |AXn (x:X)
 |AWp (x:X)
 |AWO (x:X)
 |AW4 (n:Nat)
 |look (c:CK) (ok:Bool) (zero:V) (m k:X)
 |build (zero:List V) (parts:List (Nat×Nat×X))
 |AU0 (x:X) (lo hi:Option X)
 |slc (esz:Nat) (x:X) (lo hi mx:Option X)
 |AWy (n esz:Nat) (x:X) (lo hi:Option X)
 |AXD (x y:X)
 |AXU (x y:X)
 |cvS (x:X)
 |AQR (s c:X)
 |AE2 (x y:X)
inductive AA where
 |alloc (esz:Nat) (es:List (List V))
 |box (x:X)
 |ADZ (esz cnt:Nat) (zero:List V) (parts:List (Nat×X))
 |zY (esz bytes:Nat) (zero:List V) (l c:X)
 |ALS
 |TG (t e:Nat)
inductive AE where
 |asg (x:X)
 |st (n:Nat) (x v:X)
 |app (esz bytes:Nat) (x y:X)
 |copy (esz:Nat) (x y:X)
 |AIO (c:CK) (m k v:X)
 |del (c:CK) (m k:X)
 |AWR (m:X)
 |call (f:Nat) (args:List X)
 |AJS (x:X) (args:List X)
 |defer (dp:P2) (x:X) (args:List X)
 |cvB (x:X)
inductive AO where
 |n (o:AN)|a (o:AA)|e (o:AE)
inductive kV where
 |no|to (p:P2)|ps
inductive Gd where
 |no|on (x:X) (b:Bool)
inductive rC where
 |mk (d:kV) (g:Gd) (o:AO)
def ANT(n:Int):(Nat->Option V)->Option V:=Int.rec (motive:=λ_=>(Nat->Option V)->Option V) (λm f=>f m) (λ_ _=>none) n
def Ul(v:V)(f:Nat->Option V):Option V:=v.Gs λ_ n s=>BJ (Nat.beq s 0) (ANT n f)
def YQ(x:Option X):RS->Nat->(Nat->Option V)->Option V:=
 Option.rec (motive:=λ_=>RS->Nat->(Nat->Option V)->Option V) (λ_ d f=>f d) (λx R _ f=>Ul (x.ev R) f) x
def f3(a b c:Nat)(f:Nat->Nat->Nat->V):Option V:=Dk a λa=>Dk b λb=>Dk c λc=>some (f a b c)
def AAp(R:RS)(lo hi mx:Option X):Option V:=YQ mx R 0 λm=>YQ hi R 0 λh=>YQ lo R 0 λl=>BJ (band (Nat.ble l h) (band (Nat.ble h m) (Nat.beq m 0))) (some .Aj)
def AGg(z:Nat)(R:RS)(lo hi mx:Option X)(id off ln cap esz:Nat):Option V:=BJ (Nat.beq z esz) (YQ mx R cap λm=>YQ hi R ln λh=>YQ lo R 0 λl=>
 BJ (band (Nat.ble l h) (band (Nat.ble h m) (Nat.ble m cap))) (f3 (Nat.add off l) (Nat.sub h l) (Nat.sub m l) λo d c=>.sl id o d c esz))
def AAO(R:RS)(lo hi:Option X)(id off ln esz:Nat):Option V:=YQ hi R ln λh=>YQ lo R 0 λl=>
 BJ (band (Nat.ble l h) (Nat.ble h ln)) (f3 (Nat.add off l) (Nat.sub h l) 0 λo d _=>.Qg id o d esz)
def AAI(R:RS)(lo hi:Option X)(mx:X)(id off ln esz:Nat):Option V:=Ul (mx.ev R) λm=>YQ hi R 0 λh=>YQ lo R 0 λl=>
 BJ (band (Nat.ble l h) (band (Nat.ble h m) (Nat.ble m ln))) (f3 (Nat.add off l) (Nat.sub h l) (Nat.sub m l) λo d c=>.sl id o d c esz)
def xu(z:Nat)(R:RS)(lo hi mx:Option X)(id off ln esz:Nat):Option V:=
 BJ (Nat.beq z esz) (Option.rec (motive:=λ_=>Option V) (AAO R lo hi id off ln esz) (λmx=>AAI R lo hi mx id off ln esz) mx)
def ABO(z:Nat)(R:RS)(lo hi mx:Option X)(b off ln cap esz:Nat):Option V:=YQ hi R ln λh=>YQ lo R 0 λl=>
 Option.rec (motive:=λ_=>Option V) (BJ (band (Nat.ble l h) (Nat.ble h cap)) (f3 (Nat.add off (Nat.mul l z)) (Nat.sub h l) (Nat.sub cap l) λo d c=>.rsl b o d c esz)) (λ_=>none) mx
def AE9(z:Nat)(x:V)(R:RS)(lo hi mx:Option X):Option V:=x.AQ5 (AAp R lo hi mx) (AGg z R lo hi mx) (xu z R lo hi mx) (ABO z R lo hi mx)
def X0(x:V)(R:RS)(lo hi:Option X):Option V:=
 x.Qb λln c=>YQ hi R ln λh=>YQ lo R 0 λl=>BJ (band (Nat.ble l h) (Nat.ble h ln)) (f3 (Nat.sub h l) (ANe c l h) 0 λd c _=>.str d c)
def Bj(esz:Nat)(x i:V):Option V:=Ul i λi=>x.AQ5 none
 (λid off ln _ e=>BJ (band (Nat.beq e esz) (Nat.blt i ln)) (Dk (Nat.mul (Nat.add off i) esz) λo=>some (.ptr id o)))
 (λid off ln e=>BJ (band (Nat.beq e esz) (Nat.blt i ln)) (Dk (Nat.mul (Nat.add off i) esz) λo=>some (.ptr id o)))
 (λb off ln _ _=>BJ (Nat.blt i ln) (Dk (Nat.add off (Nat.mul i esz)) λo=>some (.VG b o)))
def AU(off:Nat)(x:V):Option V:=x.ACG (λid o=>Dk (Nat.add o off) λo=>some (.ptr id o)) (λb o=>Dk (Nat.add o off) λo=>some (.VG b o))
abbrev ME:=List (V×V×Nat)
def yA(c:CK)(k:V)(es:ME):Nat->Option (Option (Nat×V)):=
 List.rec (motive:=λ_=>Nat->Option (Option (Nat×V))) (λ_=>some none)
  (λe _ g i=>Ci (c.eq e.1 k) λr=>Bool.rec (g (Nat.succ i)) (some (some (i,e.2.1))) r) es
def AXv(b:Pn):(ME->Nat->Option V)->Option V:=Pn.rec (motive:=λ_=>(ME->Nat->Option V)->Option V) (λ_ _ _ _=>none) (λes c f=>f es c) (λ_=>none) (λ_ _ _ _ _ _=>none) (λ_ _=>none) b
def UD(H:Heap)(m:V)(f:ME->Nat->Option V):Option V:=m.AH0 (f [] 0) λid=>Option.rec (motive:=λ_=>(ME->Nat->Option V)->Option V) (λ_=>none) AXv (T.get H id) f
def xw(parts:List (Nat×Nat×X)):RS->List V->List V:=
 List.rec (motive:=λ_=>RS->List V->List V) (λ_ l=>l) (λp _ g R l=>g R (AIJ (Cc (p.2.2.ev R)) p.1 l)) parts
def kX(v:V):Bool:=
 V.rec (motive_1:=λ_=>Bool) (motive_2:=λ_=>PUnit)
  (false)
  (λ_ _ _=>true)
  (λ_=>true)
  (λ_ _=>true)
  (true)
  (λ_ _=>true)
  (λ_ _=>true)
  (true)
  (λ_ _ _ _ _=>true)
  (λ_ _ _ _=>true)
  (λ_ _ _ _ _=>true)
  (true)
  (λ_=>true)
  (true)
  (λ_ _ _ _ _=>true)
  (λ_ _=>true)
  (λ_ _=>false)
  (true)
  (λ_ _ _=>true)
  ⟨⟩ (λ_ _ _ _=>⟨⟩) v
def dw(parts:List (Nat×Nat×X)):RS->Bool:=
 List.rec (motive:=λ_=>RS->Bool) (λ_=>true) (λp _ g R=>band (band (kX (p.2.2.ev R)) (Nat.beq (len (Cc (p.2.2.ev R))) p.2.1)) (g R)) parts
abbrev EY:=List LV
def DX(H:Heap)(id esz:Nat)(n:Nat):Nat->Option EY:=
 Nat.rec (motive:=λ_=>Nat->Option EY) (λ_=>some [])
  (λ_ g o=>Ci (gX H id (Nat.mul o esz) esz) λL=>Ci (g (Nat.succ o)) λLS=>some (L::LS)) n
def vN(G:AY)(b esz:Nat)(n:Nat):Nat->Option EY:=
 Nat.rec (motive:=λ_=>Nat->Option EY) (λ_=>some [])
  (λ_ g o=>Ci (G b o esz) λL=>Ci (g (Nat.add o esz)) λLS=>some (L::LS)) n
def SB(n:Nat):Nat->EY:=
 Nat.rec (motive:=λ_=>Nat->EY) (λ_=>[]) (λ_ g c=>[.int .u8 (.ofNat (Nat.mod c 256)) 0]::g (Nat.div c 256)) n
def elems(v:V):(AY)->(Heap)->(Nat)->Option EY:=
 V.rec (motive_1:=λ_=>(AY)->(Heap)->(Nat)->Option EY) (motive_2:=λ_=>PUnit)
  (λ_ _ _=>none)
  (λ_ _ _ _ _ _=>none)
  (λ_ _ _ _=>none)
  (λa b _ _ z=>Bool.rec (motive:=λ_=>Option EY) none (some (SB a b)) (Nat.beq 1 z))
  (λ_ _ _=>none)
  (λ_ _ _ _ _=>none)
  (λ_ _ _ _ _=>none)
  (λ_ _ _=>some [])
  (λa b c _ e _ H z=>Bool.rec (motive:=λ_=>Option EY) none (DX H a z c b) (Nat.beq e z))
  (λa b c d _ H z=>Bool.rec (motive:=λ_=>Option EY) none (DX H a z c b) (Nat.beq d z))
  (λa b c _ _ G _ z=>vN G a z c b)
  (λ_ _ _=>none)
  (λ_ _ _ _=>none)
  (λ_ _ _=>none)
  (λ_ _ _ _ _ _ _ _=>none)
  (λ_ _ _ _ _=>none)
  (λ_ _ _ _ _=>none)
  (λ_ _ _=>none)
  (λ_ _ _ _ _ _=>none)
  ⟨⟩ (λ_ _ _ _=>⟨⟩) v
def byteOf(v:V):Option Nat:=
 V.rec (motive_1:=λ_=>Option Nat) (motive_2:=λ_=>PUnit)
  (none)
  (λa b c=>Int.rec (motive:=λ_=>Nat->Option Nat) (λm t=>Bool.rec none (some m) (band (Nat.beq (kno a) 4) (band (Nat.blt m 256) (Nat.beq t 0)))) (λ_ _=>none) b c)
  (λ_=>none)
  (λ_ _=>none)
  (none)
  (λ_ _=>none)
  (λ_ _=>none)
  (none)
  (λ_ _ _ _ _=>none)
  (λ_ _ _ _=>none)
  (λ_ _ _ _ _=>none)
  (none)
  (λ_=>none)
  (none)
  (λ_ _ _ _ _=>none)
  (λ_ _=>none)
  (λ_ _=>none)
  (none)
  (λ_ _ _=>none)
  ⟨⟩ (λ_ _ _ _=>⟨⟩) v
def vI(l:EY):Option Nat:=
 List.rec (motive:=λ_=>Option Nat) (some 0) (λx _ g=>Ci (nth x 0) λv=>Ci (byteOf v) λm=>Ci g λc=>some (Nat.add m (Nat.mul 256 c))) l
def ZW(b:Nat)(f:Nat):Nat->Nat->Int:=
 Nat.rec (motive:=λ_=>Nat->Nat->Int) (λ_ _=>.negSucc 0)
  (λ_ g c i=>Bool.rec (g (Nat.div c 256) (Nat.succ i)) (.ofNat i) (Nat.beq (Nat.mod c 256) b)) f
abbrev kH:=AY->RS->Heap->Option V
def eMv(x:X):kH:=λ_ R _=>some (x.ev R)
def AJZ(c a b:X):kH:=λ_ R _=>(c.ev R).lq λt=>wz t (some (a.ev R)) (some (b.ev R))
def AQT(x:X):kH:=λG R H=>OO (vM (x.ev R) G H 1) λL=>nth L 0
def APk(n:Nat)(x:X):kH:=λG R H=>OO (vM (x.ev R) G H n) λL=>some (.agg L)
def AEM(x:X):kH:=λ_ R _=>BU (x.ev R)
def AOr(o:B2)(x y:X):kH:=λ_ R _=>o.ev (x.ev R) (y.ev R)
def eEq(k:EK)(neg:Bool)(x y:X):kH:=λ_ R _=>Ez k neg (x.ev R) (y.ev R)
def AP9(x:X):kH:=λ_ R _=>(x.ev R).lq λb=>mkB (Xj b)
def AO1(x:X):kH:=λ_ R _=>(x.ev R).Gs λk n s=>mkI k (Int.neg n) s
def AOv(k:IntKind)(x:X):kH:=λ_ R _=>(x.ev R).Gs λ_ n s=>mkI k n s
def AIt(f:Nat)(a c:List X):kH:=λ_ R _=>some (.fn f (aU a R) (aU c R))
def AEI(off:Nat)(x:X):kH:=λ_ R _=>AU off (x.ev R)
def zu(off:Nat)(x:X):kH:=λ_ R _=>(x.ev R).kC λl=>nth l off
def zl(off n:Nat)(x:X):kH:=λ_ R _=>(x.ev R).kC λl=>some (.agg (XM n (fO off l)))
def ADP(esz:Nat)(x i:X):kH:=λ_ R _=>Bj esz (x.ev R) (i.ev R)
def AAN(n esz:Nat)(x i:X):kH:=λ_ R _=>Ul (i.ev R) λi=>BJ (Nat.blt i n) (AU (Nat.mul i esz) (x.ev R))
def AIo(x i:X):kH:=λ_ R _=>(x.ev R).Qb λln c=>Ul (i.ev R) λi=>BJ (Nat.blt i ln) (Dk (AJ7 c i) λb=>some (.int .u8 (.ofNat b) 0))
def AJY(n:Nat)(x i:X):kH:=λ_ R _=>(x.ev R).kC λl=>Ul (i.ev R) λi=>BJ (Nat.blt i n) (nth l i)
def AQC(x:X)(i:Nat):kH:=λ_ R _=>(x.ev R).AGD λl=>nth l i
def AJi(x:X):kH:=λ_ R _=>(x.ev R).Qb λn _=>some (.int .i64 (.ofNat n) 0)
def AJC(x:X):kH:=λ_ R _=>lenV (x.ev R)
def AJQ(x:X):kH:=λ_ R H=>UD H (x.ev R) λes _=>Dk (len es) λn=>some (.int .i64 (.ofNat n) 0)
def AWS(n:Nat):kH:=λ_ _ _=>some (.int .i64 (.ofNat n) 0)
def AN8(ok:Bool)(z:V)(r:Option (Nat×V)):Option V:=
 Option.rec (motive:=λ_=>Option V) (wz ok (some (.JL [z,.bool false])) (some z)) (λp=>wz ok (some (.JL [p.2,.bool true])) (some p.2)) r
def AIh(c:CK)(ok:Bool)(z:V)(m k:X):kH:=λ_ R H=>UD H (m.ev R) λes _=>Ci (yA c (k.ev R) es 0) (AN8 ok z)
def AEH(z:LV)(ps:List (Nat×Nat×X)):kH:=λ_ R _=>BJ (dw ps R) (some (.agg (xw ps R z)))
def ABU(x:X)(lo hi:Option X):kH:=λ_ R _=>X0 (x.ev R) R lo hi
def APh(z:Nat)(x:X)(lo hi mx:Option X):kH:=λ_ R _=>AE9 z (x.ev R) R lo hi mx
def AIa(n esz:Nat)(x:X)(lo hi:Option X):kH:=λ_ R _=>(x.ev R).ACG (λid o=>YQ hi R n λh=>YQ lo R 0 λl=>
 BJ (band (Nat.beq (Nat.mod o esz) 0) (band (Nat.ble l h) (Nat.ble h n))) (f3 (Nat.add (Nat.div o esz) l) (Nat.sub h l) (Nat.sub n l) λa b c=>.sl id a b c esz)) (λ_ _=>none)
def APL(x y:X):kH:=λ_ R _=>(x.ev R).Gs λk a s=>(y.ev R).Gs λk' b t=>BJ (band (keq k k') (Nat.beq (Nat.add s t) 0)) (some (.int k (Bool.rec a b (ilt a b)) 0))
def AQm(x y:X):kH:=λ_ R _=>(x.ev R).Gs λk a s=>(y.ev R).Gs λk' b t=>BJ (band (keq k k') (Nat.beq (Nat.add s t) 0)) (some (.int k (Bool.rec a b (ilt b a)) 0))
def AQV(x:X):kH:=λG R H=>BJ (Xj (isStr (x.ev R))) (Ci (elems (x.ev R) G H 1) λl=>Ci (vI l) λc=>f3 (len l) c 0 λn c _=>.str n c)
def AEh(s c:X):kH:=λ_ R _=>(s.ev R).Qb λn cd=>(c.ev R).Gs λk b _=>BJ (Nat.beq (kno k) 4) (ANT b λb=>BJ (Nat.blt b 256) (QF (ZW b n cd 0) λi=>some (.int .i64 i 0)))
def AOK(x y:V):Option V:=x.Qb λl c=>y.Qb λm d=>some (.int .i64 (Bool.rec (Bool.rec (.ofNat 0) (.ofNat 1) (slt m d l c)) (.negSucc 0) (slt l c m d)) 0)
def AIi(x y:X):kH:=λ_ R _=>AOK (x.ev R) (y.ev R)
def AN.ev(o:AN):kH:=AN.rec (motive:=λ_=>kH)
 eMv AJZ AQT APk AEM AOr eEq AP9 AO1 AOv AIt AEI zu zl ADP AAN AIo AJY AQC AJi AJC AJQ AWS AIh AEH ABU APh AIa APL AQm AQV AEh AIi o
def AIN(L:LV)(n:Nat):T LV->T LV:=
 Nat.rec (motive:=λ_=>T LV->T LV) (λt=>t) (λi g t=>g (T.set t i L)) n
def F5(LS:EY):Nat->T LV->T LV:=
 List.rec (motive:=λ_=>Nat->T LV->T LV) (λ_ t=>t) (λL _ g i t=>g (Nat.succ i) (T.set t i L)) LS
def dD(parts:List (Nat×X)):RS->T LV->T LV:=
 List.rec (motive:=λ_=>RS->T LV->T LV) (λ_ t=>t) (λp _ g R t=>g R (T.set t p.1 (Cc (p.2.ev R)))) parts
def Xg(parts:List (Nat×X)):RS->Nat->Nat->Bool:=
 List.rec (motive:=λ_=>RS->Nat->Nat->Bool) (λ_ _ _=>true) (λp _ g R esz cnt=>band (band (kX (p.2.ev R)) (band (Nat.blt p.1 cnt) (Nat.beq (len (Cc (p.2.ev R))) esz))) (g R esz cnt)) parts
def V.AL4(v:V):(Nat->Prop)->Prop:=
 V.rec (motive_1:=λ_=>(Nat->Prop)->Prop) (motive_2:=λ_=>PUnit)
  (λ_=>False)
  (λ_ _ _ _=>False)
  (λ_ _=>False)
  (λ_ _ _=>False)
  (λ_=>False)
  (λa _ f=>f a)
  (λ_ _ _=>False)
  (λ_=>False)
  (λ_ _ _ _ _ _=>False)
  (λ_ _ _ _ _=>False)
  (λ_ _ _ _ _ _=>False)
  (λ_=>False)
  (λ_ _=>False)
  (λ_=>False)
  (λ_ _ _ _ _ _=>False)
  (λ_ _ _=>False)
  (λ_ _ _=>False)
  (λ_=>False)
  (λ_ _ _ _=>False)
  ⟨⟩ (λ_ _ _ _=>⟨⟩) v
def V.uM(v:V):(Nat->Nat->Prop)->Prop:=
 V.rec (motive_1:=λ_=>(Nat->Nat->Prop)->Prop) (motive_2:=λ_=>PUnit)
  (λ_=>False)
  (λ_ _ _ _=>False)
  (λ_ _=>False)
  (λ_ _ _=>False)
  (λ_=>False)
  (λa b f=>f a b)
  (λ_ _ _=>False)
  (λ_=>False)
  (λ_ _ _ _ _ _=>False)
  (λ_ _ _ _ _=>False)
  (λ_ _ _ _ _ _=>False)
  (λ_=>False)
  (λ_ _=>False)
  (λ_=>False)
  (λ_ _ _ _ _ _=>False)
  (λ_ _ _=>False)
  (λ_ _ _=>False)
  (λ_=>False)
  (λ_ _ _ _=>False)
  ⟨⟩ (λ_ _ _ _=>⟨⟩) v
abbrev KA:=Pn->(Nat->V)->Prop
abbrev AlT:=RS->KA->Prop
def FN(b:Bool)(p:Prop):Prop:=Bool.rec (motive:=λ_=>Prop->Prop) (λ_=>False) (λp=>p) b p
def ADl(v:V)(f:Nat->Prop):Prop:=Ip (Ul v λn=>some (.ptr n 0)) λv=>V.AL4 v f
def BH(esz:Nat)(es:EY):AlT:=λ_ k=>Ed (len es) λn=>k (.arr esz n (F5 es 0 .e)) λid=>.ptr id 0
def AB5(x:X):AlT:=λR k=>FN (kX (x.ev R)) (Ed (len (Cc (x.ev R))) λe=>k (.arr e 1 (T.set .e 0 (Cc (x.ev R)))) λid=>.ptr id 0)
def Ar(esz cnt:Nat)(z:LV)(ps:List (Nat×X)):AlT:=λR k=>FN (Xg ps R esz cnt) (k (.arr esz cnt (dD ps R (AIN z cnt .e))) λid=>.sl id 0 cnt cnt esz)
def RU(esz bs:Nat)(z:LV)(l c:X):AlT:=λR k=>ADl (l.ev R) λl=>ADl (c.ev R) λc=>
 FN (band (Nat.ble l c) (Nat.ble (Nat.mul bs c) 281474976710656)) (k (.arr esz c (AIN z c .e)) λid=>.sl id 0 l c esz)
def AR6:AlT:=λ_ k=>k (.map [] 0) λid=>.map id
def ANV(t e:Nat):AlT:=λ_ k=>k (.TG t e 0 0 0) λid=>.ptr id 0
def AA.al(o:AA):AlT:=AA.rec (motive:=λ_=>AlT) BH AB5 Ar RU AR6 ANV o
abbrev K:=JX->Heap->Nat->Prop
abbrev KV:=V->Heap->Nat->Prop
abbrev BN:=Nat->List V->Heap->Nat->KV->Prop
def Ql(need bytes:Nat):Bool:=Nat.ble (Nat.mul need bytes) 140737488355328
abbrev AHw:=AY->Nat->Nat->EY->Heap->Nat->KV->Prop
def Qz(esz bs:Nat)(OS LS:EY)(H:Heap)(n:Nat)(k:KV):Prop:=
 Ed (Nat.add (len OS) (len LS)) λneed=>FN (Ql need bs) (Ed n λn=>k (.Qg n 0 need esz) (T.set H n (.arr esz need (F5 LS (len OS) (F5 OS 0 .e)))) (Nat.succ n))
def ASW:AHw:=λ_ esz bs LS H n k=>List.rec (motive:=λ_=>Prop) (k .Aj H n) (λ_ _ _=>Qz esz bs [] LS H n k) LS
def AFc(id off ln cap esz need:Nat)(LS:EY)(H:Heap)(n:Nat)(k:KV)(b:Pn):Prop:=
 Pn.rec (motive:=λ_=>Prop) (λesz' cnt c=>FN (band (Nat.beq esz esz') (Nat.ble (Nat.add off need) cnt)) (k (.sl id off need cap esz) (T.set H id (.arr esz cnt (F5 LS (Nat.add off ln) c))) n)) (λ_ _=>False) False (λ_ _ _ _ _=>False) (λ_=>False) b
def ARB(id off ln cap e:Nat):AHw:=λ_ esz bs LS H n k=>FN (Nat.beq e esz) (Ed (Nat.add ln (len LS)) λneed=>
 Bool.rec (motive:=λ_=>Prop) (Ip (DX H id esz ln off) λOS=>Qz esz bs OS LS H n k) (Ip (T.get H id) λb=>AFc id off ln cap esz need LS H n k b) (Nat.ble need cap))
def Y3(id off ln esz bs:Nat)(LS:EY)(H:Heap)(n:Nat)(k:KV)(b:Pn):Prop:=
 Pn.rec (motive:=λ_=>Prop) (λesz' cnt c=>Ed (Nat.add ln (len LS)) λneed=>FN (band (Ql need bs) (band (Nat.beq esz esz') (Nat.ble (Nat.add off ln) cnt)))
  (Ed n λn=>Nat.rec (motive:=λ_=>Prop)
   (k (.Qg n 0 need esz) (T.set (T.set H id .dead) n (.arr esz need (F5 LS ln c))) (Nat.succ n))
   (λ_ _=>Ip (DX H id esz ln off) λOS=>k (.Qg n 0 need esz) (T.set (T.set H id .dead) n (.arr esz need (F5 LS ln (F5 OS 0 .e)))) (Nat.succ n)) off))
  (λ_ _=>False) False (λ_ _ _ _ _=>False) (λ_=>False) b
def ANb(id off ln e:Nat):AHw:=λ_ esz bs LS H n k=>FN (Nat.beq e esz) (List.rec (motive:=λ_=>Prop) (k (.Qg id off ln esz) H n)
 (λ_ _ _=>Ip (T.get H id) λb=>Y3 id off ln esz bs LS H n k b) LS)
def AMZ(b off ln cap e:Nat):AHw:=λG esz bs LS H n k=>FN (Nat.blt cap (Nat.add ln (len LS))) (Ip (vN G b esz ln off) λOS=>Qz esz bs OS LS H n k)
def YA:AHw:=λ_ _ _ _ _ _ _=>False
def AHj(v:V):AHw:=
 V.rec (motive_1:=λ_=>AHw) (motive_2:=λ_=>PUnit)
  (YA)
  (λ_ _ _=>YA)
  (λ_=>YA)
  (λ_ _=>YA)
  (YA)
  (λ_ _=>YA)
  (λ_ _=>YA)
  (ASW)
  (λa b c d e=>ARB a b c d e)
  (λa b c d=>ANb a b c d)
  (λa b c d e=>AMZ a b c d e)
  (YA)
  (λ_=>YA)
  (YA)
  (λ_ _ _ _ _=>YA)
  (λ_ _=>YA)
  (λ_ _=>YA)
  (YA)
  (λ_ _ _=>YA)
  ⟨⟩ (λ_ _ _ _=>⟨⟩) v
def AS4(id off esz:Nat)(LS:EY)(H:Heap)(n:Nat)(k:KV)(b:Pn):Prop:=
 Pn.rec (motive:=λ_=>Prop) (λesz' cnt c=>FN (band (Nat.beq esz esz') (Nat.ble (Nat.add off (len LS)) cnt)) (Ed (len LS) λm=>k (.int .i64 (.ofNat m) 0) (T.set H id (.arr esz cnt (F5 LS off c))) n)) (λ_ _=>False) False (λ_ _ _ _ _=>False) (λ_=>False) b
abbrev CpT:=Nat->EY->Heap->Nat->KV->Prop
def AAt(id off ln:Nat):CpT:=λesz LS H n k=>Ip (T.get H id) λb=>AS4 id off esz (XM ln LS) H n k b
def AGZ(v:V):(Nat)->(EY)->(Heap)->(Nat)->(KV)->Prop:=
 V.rec (motive_1:=λ_=>(Nat)->(EY)->(Heap)->(Nat)->(KV)->Prop) (motive_2:=λ_=>PUnit)
  (λ_ _ _ _ _=>False)
  (λ_ _ _ _ _ _ _ _=>False)
  (λ_ _ _ _ _ _=>False)
  (λ_ _ _ _ _ _ _=>False)
  (λ_ _ _ _ _=>False)
  (λ_ _ _ _ _ _ _=>False)
  (λ_ _ _ _ _ _ _=>False)
  (λ_ _ H n k=>k (.int .i64 (.ofNat 0) 0) H n)
  (λa b c _ e z L H n k=>FN (Nat.beq e z) (AAt a b c z L H n k))
  (λa b c d z L H n k=>FN (Nat.beq d z) (AAt a b c z L H n k))
  (λ_ _ _ _ _ _ _ _ _ _=>False)
  (λ_ _ _ _ _=>False)
  (λ_ _ _ _ _ _=>False)
  (λ_ _ _ _ _=>False)
  (λ_ _ _ _ _ _ _ _ _ _=>False)
  (λ_ _ _ _ _ _ _=>False)
  (λ_ _ _ _ _ _ _=>False)
  (λ_ _ _ _ _=>False)
  (λ_ _ _ _ _ _ _ _=>False)
  ⟨⟩ (λ_ _ _ _=>⟨⟩) v
def ABm{α:Type}(l:List α):Nat->List α:=
 List.rec (motive:=λ_=>Nat->List α) (λ_=>[]) (λy ys g i=>Nat.rec (motive:=λ_=>List α) ys (λi _=>y::g i) i) l
def AWK(b:Pn):(ME->Nat->Option Pn)->Option Pn:=Pn.rec (motive:=λ_=>(ME->Nat->Option Pn)->Option Pn) (λ_ _ _ _=>none) (λes c f=>f es c) (λ_=>none) (λ_ _ _ _ _ _=>none) (λ_ _=>none) b
def AVK(H:Heap)(id:Nat)(f:ME->Nat->Option Pn)(g:Heap->Prop):Prop:=Ip (T.get H id) λb=>Ip (AWK b f) λb=>g (T.set H id b)
def AEe(v:V):(Heap)->(ME->Nat->Option Pn)->(Heap->Prop)->Prop:=
 V.rec (motive_1:=λ_=>(Heap)->(ME->Nat->Option Pn)->(Heap->Prop)->Prop) (motive_2:=λ_=>PUnit)
  (λ_ _ _=>False)
  (λ_ _ _ _ _ _=>False)
  (λ_ _ _ _=>False)
  (λ_ _ _ _ _=>False)
  (λ_ _ _=>False)
  (λ_ _ _ _ _=>False)
  (λ_ _ _ _ _=>False)
  (λ_ _ _=>False)
  (λ_ _ _ _ _ _ _ _=>False)
  (λ_ _ _ _ _ _ _=>False)
  (λ_ _ _ _ _ _ _ _=>False)
  (λ_ _ _=>False)
  (λa H f g=>AVK H a f g)
  (λ_ _ _=>False)
  (λ_ _ _ _ _ _ _ _=>False)
  (λ_ _ _ _ _=>False)
  (λ_ _ _ _ _=>False)
  (λ_ _ _=>False)
  (λ_ _ _ _ _ _=>False)
  ⟨⟩ (λ_ _ _ _=>⟨⟩) v
def V.Uj(v:V):(Nat->LV->LV->Prop)->Prop:=
 V.rec (motive_1:=λ_=>(Nat->LV->LV->Prop)->Prop) (motive_2:=λ_=>PUnit)
  (λ_=>False)
  (λ_ _ _ _=>False)
  (λ_ _=>False)
  (λ_ _ _=>False)
  (λ_=>False)
  (λ_ _ _=>False)
  (λ_ _ _=>False)
  (λ_=>False)
  (λ_ _ _ _ _ _=>False)
  (λ_ _ _ _ _=>False)
  (λ_ _ _ _ _ _=>False)
  (λ_=>False)
  (λ_ _=>False)
  (λ_=>False)
  (λa b c _ _ f=>f a b c)
  (λ_ _ _=>False)
  (λ_ _ _=>False)
  (λ_=>False)
  (λ_ _ _ _=>False)
  ⟨⟩ (λ_ _ _ _=>⟨⟩) v
def nV(v:V):LV:=
 V.rec (motive_1:=λ_=>LV) (motive_2:=λ_=>PUnit)
  ([])
  (λ_ _ _=>[])
  (λ_=>[])
  (λ_ _=>[])
  ([])
  (λ_ _=>[])
  (λ_ _=>[])
  ([])
  (λ_ _ _ _ _=>[])
  (λ_ _ _ _=>[])
  (λ_ _ _ _ _=>[])
  ([])
  (λ_=>[])
  ([])
  (λ_ _ _ _ _=>[])
  (λ_ _=>[])
  (λa _=>a)
  ([])
  (λ_ _ _=>[])
  ⟨⟩ (λ_ _ _ _=>⟨⟩) v
abbrev ExT:=AY->BN->RS->Heap->Nat->KV->Prop
def AWo(x:X):ExT:=λ_ _ R H n k=>k (x.ev R) H n
def xSt(sz:Nat)(x v:X):ExT:=λ_ _ R H n k=>FN (band (kX (v.ev R)) (Nat.beq (len (Cc (v.ev R))) sz)) (Ip (stP (x.ev R) H sz (Cc (v.ev R))) λH=>k .undef H n)
def AXA(esz bs:Nat)(x y:X):ExT:=λG _ R H n k=>Ip (elems (y.ev R) G H esz) λLS=>AHj (x.ev R) G esz bs LS H n k
def AUu(esz:Nat)(x y:X):ExT:=λG _ R H n k=>Ip (elems (y.ev R) G H esz) λLS=>AGZ (x.ev R) esz LS H n k
def ASD(ck:CK)(key v:V)(es:ME)(c:Nat):Option Pn:=Ci (yA ck key es 0) λr=>
 Option.rec (motive:=λ_=>Option Pn) (some (.map (cat es [(key,v,c)]) (Nat.succ c))) (λp=>Ci (nth es p.1) λe=>some (.map (ABo (e.1,v,e.2.2) es p.1) c)) r
def ASs(ck:CK)(key:V)(es:ME)(c:Nat):Option Pn:=Ci (yA ck key es 0) λr=>
 Option.rec (motive:=λ_=>Option Pn) (some (.map es c)) (λp=>some (.map (ABm es p.1) c)) r
def AXg(c:CK)(m key v:X):ExT:=λ_ _ R H n k=>AEe (m.ev R) H (ASD c (key.ev R) (v.ev R)) λH=>k .undef H n
def AXq(c:CK)(m key:X):ExT:=λ_ _ R H n k=>AEe (m.ev R) H (ASs c (key.ev R)) λH=>k (.JL []) H n
def AXe(m:X):ExT:=λ_ _ R H n k=>AEe (m.ev R) H (λ_ c=>some (.map [] c)) λH=>k (.JL []) H n
def AVz(f:Nat)(args:List X):ExT:=λ_ call R H n k=>call f (aU args R) H n k
def ATH(x:X)(args:List X):ExT:=λ_ call R H n k=>V.Uj (x.ev R) λf a c=>call f (cat a (cat (aU args R) c)) H n k
def AS5(dp:P2)(x:X)(args:List X):ExT:=λ_ _ R H n k=>V.Uj (x.ev R) λf a c=>k (.JL (.fn f (cat a (aU args R)) c::nV (MH (T.EN dp R.rg)))) H n
def AXC(x:X):ExT:=λ_ _ R H n k=>Ip ((x.ev R).Qb λl c=>some (.ptr l c)) λv=>V.uM v λl c=>
 Ed n λn=>k (.Qg n 0 l 1) (T.set H n (.arr 1 l (F5 (SB l c) 0 .e))) (Nat.succ n)
def AE.ex(o:AE):ExT:=AE.rec (motive:=λ_=>ExT) AWo xSt AXA AUu AXg AXq AXe AVz ATH AS5 AXC o
def AXM(p:P2)(v:V)(E:RS):RS:=RS.rec (motive:=λ_=>P2->V->RS) (λL R p v=>.mk L (T.Yd v p R)) E p v
def AV9(v:V)(E:RS):RS:=RS.rec (motive:=λ_=>V->RS) (λL R v=>.mk (v::L) R) E v
def GR(d:kV)(v:V):RS->RS:=kV.rec (motive:=λ_=>V->RS->RS) (λ_ R=>R) AXM AV9 d v
abbrev KE:=RS->Heap->Nat->Prop
abbrev XoT:=AY->BN->kV->RS->Heap->Nat->KE->Prop
def oN(o:AN):XoT:=λG _ d R H n k=>AP (o.ev G R H) λv=>k (GR d v R) H n
def oA(o:AA):XoT:=λ_ _ d R H n k=>o.al R λb f=>Ed n λn=>k (GR d (f n) R) (T.set H n b) (Nat.succ n)
def oE(o:AE):XoT:=λG call d R H n k=>o.ex G call R H n λv H n=>k (GR d v R) H n
def AO.ex(o:AO):XoT:=AO.rec (motive:=λ_=>XoT) oN oA oE o
def Ae(v:V)(b:Bool)(yes no:Prop):Prop:=v.AD5 λt=>Bool.rec (motive:=λ_=>Prop->Prop->Prop) (λ_ n=>n) (λy _=>y) (AN1 t b) yes no
def iQ(v:V):(Bool)->(Prop)->(Prop)->Prop:=
 V.rec (motive_1:=λ_=>(Bool)->(Prop)->(Prop)->Prop) (motive_2:=λ_=>PUnit)
  (λ_ _ _=>False)
  (λ_ _ _ _ _ _=>False)
  (λa b' yes no=>Bool.rec (motive:=λ_=>Prop->Prop->Prop) (λ_ n=>n) (λy _=>y) (AN1 a b') yes no)
  (λ_ _ _ _ _=>False)
  (λ_ _ _=>False)
  (λ_ _ _ _ _=>False)
  (λ_ _ _ _ _=>False)
  (λ_ _ _=>False)
  (λ_ _ _ _ _ _ _ _=>False)
  (λ_ _ _ _ _ _ _=>False)
  (λ_ _ _ _ _ _ _ _=>False)
  (λ_ _ _=>False)
  (λ_ _ _ _=>False)
  (λ_ _ _=>False)
  (λ_ _ _ _ _ _ _ _=>False)
  (λ_ _ _ _ _=>False)
  (λa _ _ _ no=>List.rec (motive:=λ_=>Prop) no (λ_ _ _=>False) a)
  (λ_ _ _=>False)
  (λ_ _ _ _ _ _=>False)
  ⟨⟩ (λ_ _ _ _=>⟨⟩) v
abbrev yN:=AY->BN->RS->Heap->Nat->KE->Prop
def gNo(d:kV)(o:AO):yN:=λG call R H n k=>o.ex G call d R H n k
def gOn(x:X)(b:Bool)(d:kV)(o:AO):yN:=λG call R H n k=>iQ (x.ev R) b (o.ex G call d R H n k) (k (GR d (.JL []) R) H n)
def rC.ex(o:rC):yN:=rC.rec (motive:=λ_=>yN) (λd g o=>Gd.rec (motive:=λ_=>kV->AO->yN) gNo gOn g d o) o
def AIb(v:V):(IntKind)->(Int)->(Nat)->Bool:=
 V.rec (motive_1:=λ_=>(IntKind)->(Int)->(Nat)->Bool) (motive_2:=λ_=>PUnit)
  (λ_ _ _=>false)
  (λa b c k n s=>band (keq k a) (band (ieq n b) (band (Nat.beq s 0) (Nat.beq c 0))))
  (λ_ _ _ _=>false)
  (λ_ _ _ _ _=>false)
  (λ_ _ _=>false)
  (λ_ _ _ _ _=>false)
  (λ_ _ _ _ _=>false)
  (λ_ _ _=>false)
  (λ_ _ _ _ _ _ _ _=>false)
  (λ_ _ _ _ _ _ _=>false)
  (λ_ _ _ _ _ _ _ _=>false)
  (λ_ _ _=>false)
  (λ_ _ _ _=>false)
  (λ_ _ _=>false)
  (λ_ _ _ _ _ _ _ _=>false)
  (λ_ _ _ _ _=>false)
  (λ_ _ _ _ _=>false)
  (λ_ _ _=>false)
  (λ_ _ _ _ _ _=>false)
  ⟨⟩ (λ_ _ _ _=>⟨⟩) v
def AII(v:V):(Bool)->Bool:=
 V.rec (motive_1:=λ_=>(Bool)->Bool) (motive_2:=λ_=>PUnit)
  (λ_=>false)
  (λ_ _ _ _=>false)
  (λa x=>AN1 x a)
  (λ_ _ _=>false)
  (λ_=>false)
  (λ_ _ _=>false)
  (λ_ _ _=>false)
  (λ_=>false)
  (λ_ _ _ _ _ _=>false)
  (λ_ _ _ _ _=>false)
  (λ_ _ _ _ _ _=>false)
  (λ_=>false)
  (λ_ _=>false)
  (λ_=>false)
  (λ_ _ _ _ _ _=>false)
  (λ_ _ _=>false)
  (λ_ _ _=>false)
  (λ_=>false)
  (λ_ _ _ _=>false)
  ⟨⟩ (λ_ _ _ _=>⟨⟩) v
def AJB(v:V):(Nat)->(Nat)->Bool:=
 V.rec (motive_1:=λ_=>(Nat)->(Nat)->Bool) (motive_2:=λ_=>PUnit)
  (λ_ _=>false)
  (λ_ _ _ _ _=>false)
  (λ_ _ _=>false)
  (λa b l m=>band (Nat.beq l a) (Nat.beq m b))
  (λ_ _=>false)
  (λ_ _ _ _=>false)
  (λ_ _ _ _=>false)
  (λ_ _=>false)
  (λ_ _ _ _ _ _ _=>false)
  (λ_ _ _ _ _ _=>false)
  (λ_ _ _ _ _ _ _=>false)
  (λ_ _=>false)
  (λ_ _ _=>false)
  (λ_ _=>false)
  (λ_ _ _ _ _ _ _=>false)
  (λ_ _ _ _=>false)
  (λ_ _ _ _=>false)
  (λ_ _=>false)
  (λ_ _ _ _ _=>false)
  ⟨⟩ (λ_ _ _ _=>⟨⟩) v
def ADw(v:V):Bool:=
 V.rec (motive_1:=λ_=>Bool) (motive_2:=λ_=>PUnit)
  (false)
  (λ_ _ _=>false)
  (λ_=>false)
  (λ_ _=>false)
  (true)
  (λ_ _=>false)
  (λ_ _=>false)
  (false)
  (λ_ _ _ _ _=>false)
  (λ_ _ _ _=>false)
  (λ_ _ _ _ _=>false)
  (false)
  (λ_=>false)
  (false)
  (λ_ _ _ _ _=>false)
  (λ_ _=>false)
  (λ_ _=>false)
  (false)
  (λ_ _ _=>false)
  ⟨⟩ (λ_ _ _ _=>⟨⟩) v
def ADT(v:V):Bool:=
 V.rec (motive_1:=λ_=>Bool) (motive_2:=λ_=>PUnit)
  (false)
  (λ_ _ _=>false)
  (λ_=>false)
  (λ_ _=>false)
  (false)
  (λ_ _=>false)
  (λ_ _=>false)
  (true)
  (λ_ _ _ _ _=>false)
  (λ_ _ _ _=>false)
  (λ_ _ _ _ _=>false)
  (false)
  (λ_=>false)
  (false)
  (λ_ _ _ _ _=>false)
  (λ_ _=>false)
  (λ_ _=>false)
  (false)
  (λ_ _ _=>false)
  ⟨⟩ (λ_ _ _ _=>⟨⟩) v
def AEX(v:V):Bool:=
 V.rec (motive_1:=λ_=>Bool) (motive_2:=λ_=>PUnit)
  (false)
  (λ_ _ _=>false)
  (λ_=>false)
  (λ_ _=>false)
  (false)
  (λ_ _=>false)
  (λ_ _=>false)
  (false)
  (λ_ _ _ _ _=>false)
  (λ_ _ _ _=>false)
  (λ_ _ _ _ _=>false)
  (true)
  (λ_=>false)
  (false)
  (λ_ _ _ _ _=>false)
  (λ_ _=>false)
  (λ_ _=>false)
  (false)
  (λ_ _ _=>false)
  ⟨⟩ (λ_ _ _ _=>⟨⟩) v
def AD8(v:V):Bool:=
 V.rec (motive_1:=λ_=>Bool) (motive_2:=λ_=>PUnit)
  (false)
  (λ_ _ _=>false)
  (λ_=>false)
  (λ_ _=>false)
  (false)
  (λ_ _=>false)
  (λ_ _=>false)
  (false)
  (λ_ _ _ _ _=>false)
  (λ_ _ _ _=>false)
  (λ_ _ _ _ _=>false)
  (false)
  (λ_=>false)
  (true)
  (λ_ _ _ _ _=>false)
  (λ_ _=>false)
  (λ_ _=>false)
  (false)
  (λ_ _ _=>false)
  ⟨⟩ (λ_ _ _ _=>⟨⟩) v
def ANs(v:V):(Nat)->(Nat)->Bool:=
 V.rec (motive_1:=λ_=>(Nat)->(Nat)->Bool) (motive_2:=λ_=>PUnit)
  (λ_ _=>false)
  (λ_ _ _ _ _=>false)
  (λ_ _ _=>false)
  (λ_ _ _ _=>false)
  (λ_ _=>false)
  (λa b l m=>band (Nat.beq l a) (Nat.beq m b))
  (λ_ _ _ _=>false)
  (λ_ _=>false)
  (λ_ _ _ _ _ _ _=>false)
  (λ_ _ _ _ _ _=>false)
  (λ_ _ _ _ _ _ _=>false)
  (λ_ _=>false)
  (λ_ _ _=>false)
  (λ_ _=>false)
  (λ_ _ _ _ _ _ _=>false)
  (λ_ _ _ _=>false)
  (λ_ _ _ _=>false)
  (λ_ _=>false)
  (λ_ _ _ _ _=>false)
  ⟨⟩ (λ_ _ _ _=>⟨⟩) v
def AG0(v:V):(Nat)->(Nat)->Bool:=
 V.rec (motive_1:=λ_=>(Nat)->(Nat)->Bool) (motive_2:=λ_=>PUnit)
  (λ_ _=>false)
  (λ_ _ _ _ _=>false)
  (λ_ _ _=>false)
  (λ_ _ _ _=>false)
  (λ_ _=>false)
  (λ_ _ _ _=>false)
  (λa b l m=>band (Nat.beq l a) (Nat.beq m b))
  (λ_ _=>false)
  (λ_ _ _ _ _ _ _=>false)
  (λ_ _ _ _ _ _=>false)
  (λ_ _ _ _ _ _ _=>false)
  (λ_ _=>false)
  (λ_ _ _=>false)
  (λ_ _=>false)
  (λ_ _ _ _ _ _ _=>false)
  (λ_ _ _ _=>false)
  (λ_ _ _ _=>false)
  (λ_ _=>false)
  (λ_ _ _ _ _=>false)
  ⟨⟩ (λ_ _ _ _=>⟨⟩) v
def ANf(v:V):(Nat)->Bool:=
 V.rec (motive_1:=λ_=>(Nat)->Bool) (motive_2:=λ_=>PUnit)
  (λ_=>false)
  (λ_ _ _ _=>false)
  (λ_ _=>false)
  (λ_ _ _=>false)
  (λ_=>false)
  (λ_ _ _=>false)
  (λ_ _ _=>false)
  (λ_=>false)
  (λ_ _ _ _ _ _=>false)
  (λ_ _ _ _ _=>false)
  (λ_ _ _ _ _ _=>false)
  (λ_=>false)
  (λa l=>Nat.beq l a)
  (λ_=>false)
  (λ_ _ _ _ _ _=>false)
  (λ_ _ _=>false)
  (λ_ _ _=>false)
  (λ_=>false)
  (λ_ _ _ _=>false)
  ⟨⟩ (λ_ _ _ _=>⟨⟩) v
def AQF(v:V):(Nat)->(Nat)->(Nat)->(Nat)->(Nat)->Bool:=
 V.rec (motive_1:=λ_=>(Nat)->(Nat)->(Nat)->(Nat)->(Nat)->Bool) (motive_2:=λ_=>PUnit)
  (λ_ _ _ _ _=>false)
  (λ_ _ _ _ _ _ _ _=>false)
  (λ_ _ _ _ _ _=>false)
  (λ_ _ _ _ _ _ _=>false)
  (λ_ _ _ _ _=>false)
  (λ_ _ _ _ _ _ _=>false)
  (λ_ _ _ _ _ _ _=>false)
  (λ_ _ _ _ _=>false)
  (λa b c d e i j k l m=>band (Nat.beq i a) (band (Nat.beq j b) (band (Nat.beq k c) (band (Nat.beq l d) (Nat.beq m e)))))
  (λ_ _ _ _ _ _ _ _ _=>false)
  (λ_ _ _ _ _ _ _ _ _ _=>false)
  (λ_ _ _ _ _=>false)
  (λ_ _ _ _ _ _=>false)
  (λ_ _ _ _ _=>false)
  (λ_ _ _ _ _ _ _ _ _ _=>false)
  (λ_ _ _ _ _ _ _=>false)
  (λ_ _ _ _ _ _ _=>false)
  (λ_ _ _ _ _=>false)
  (λ_ _ _ _ _ _ _ _=>false)
  ⟨⟩ (λ_ _ _ _=>⟨⟩) v
def AIm(v:V):(Nat)->(Nat)->(Nat)->(Nat)->Bool:=
 V.rec (motive_1:=λ_=>(Nat)->(Nat)->(Nat)->(Nat)->Bool) (motive_2:=λ_=>PUnit)
  (λ_ _ _ _=>false)
  (λ_ _ _ _ _ _ _=>false)
  (λ_ _ _ _ _=>false)
  (λ_ _ _ _ _ _=>false)
  (λ_ _ _ _=>false)
  (λ_ _ _ _ _ _=>false)
  (λ_ _ _ _ _ _=>false)
  (λ_ _ _ _=>false)
  (λ_ _ _ _ _ _ _ _ _=>false)
  (λa b c d i j k l=>band (Nat.beq i a) (band (Nat.beq j b) (band (Nat.beq k c) (Nat.beq l d))))
  (λ_ _ _ _ _ _ _ _ _=>false)
  (λ_ _ _ _=>false)
  (λ_ _ _ _ _=>false)
  (λ_ _ _ _=>false)
  (λ_ _ _ _ _ _ _ _ _=>false)
  (λ_ _ _ _ _ _=>false)
  (λ_ _ _ _ _ _=>false)
  (λ_ _ _ _=>false)
  (λ_ _ _ _ _ _ _=>false)
  ⟨⟩ (λ_ _ _ _=>⟨⟩) v
def AMO(v:V):(Nat)->(Nat)->(Nat)->(Nat)->(Nat)->Bool:=
 V.rec (motive_1:=λ_=>(Nat)->(Nat)->(Nat)->(Nat)->(Nat)->Bool) (motive_2:=λ_=>PUnit)
  (λ_ _ _ _ _=>false)
  (λ_ _ _ _ _ _ _ _=>false)
  (λ_ _ _ _ _ _=>false)
  (λ_ _ _ _ _ _ _=>false)
  (λ_ _ _ _ _=>false)
  (λ_ _ _ _ _ _ _=>false)
  (λ_ _ _ _ _ _ _=>false)
  (λ_ _ _ _ _=>false)
  (λ_ _ _ _ _ _ _ _ _ _=>false)
  (λ_ _ _ _ _ _ _ _ _=>false)
  (λa b c d e i j k l m=>band (Nat.beq i a) (band (Nat.beq j b) (band (Nat.beq k c) (band (Nat.beq l d) (Nat.beq m e)))))
  (λ_ _ _ _ _=>false)
  (λ_ _ _ _ _ _=>false)
  (λ_ _ _ _ _=>false)
  (λ_ _ _ _ _ _ _ _ _ _=>false)
  (λ_ _ _ _ _ _ _=>false)
  (λ_ _ _ _ _ _ _=>false)
  (λ_ _ _ _ _=>false)
  (λ_ _ _ _ _ _ _ _=>false)
  ⟨⟩ (λ_ _ _ _=>⟨⟩) v
def PL(v:V):(V)->Bool:=
 V.rec (motive_1:=λ_=>(V)->Bool) (motive_2:=λ_=>PUnit)
  (λ_=>false)
  (λa b c y=>AIb y a b c)
  (λa y=>AII y a)
  (λa b y=>AJB y a b)
  (λy=>ADw y)
  (λa b y=>ANs y a b)
  (λa b y=>AG0 y a b)
  (λy=>ADT y)
  (λa b c d e y=>AQF y a b c d e)
  (λa b c d y=>AIm y a b c d)
  (λa b c d e y=>AMO y a b c d e)
  (λy=>AEX y)
  (λa y=>ANf y a)
  (λy=>AD8 y)
  (λ_ _ _ _ _ _=>false)
  (λ_ _ _=>false)
  (λ_ _ _=>false)
  (λ_=>false)
  (λ_ _ _ _=>false)
  ⟨⟩ (λ_ _ _ _=>⟨⟩) v
def wU(a:List V):List V->Bool:=
 List.rec (motive:=λ_=>List V->Bool) (λb=>List.rec (motive:=λ_=>Bool) true (λ_ _ _=>false) b)
  (λx _ g b=>List.rec (motive:=λ_=>Bool) false (λy ys _=>band (PL x y) (g ys)) b) a
def ARr(v:V):(LV)->Bool:=
 V.rec (motive_1:=λ_=>(LV)->Bool) (motive_2:=λ_=>PUnit)
  (λ_=>false)
  (λ_ _ _ _=>false)
  (λ_ _=>false)
  (λ_ _ _=>false)
  (λ_=>false)
  (λ_ _ _=>false)
  (λ_ _ _=>false)
  (λ_=>false)
  (λ_ _ _ _ _ _=>false)
  (λ_ _ _ _ _=>false)
  (λ_ _ _ _ _ _=>false)
  (λ_=>false)
  (λ_ _=>false)
  (λ_=>false)
  (λ_ _ _ _ _ _=>false)
  (λa _ l=>wU l a)
  (λ_ _ _=>false)
  (λ_=>false)
  (λ_ _ _ _=>false)
  ⟨⟩ (λ_ _ _ _=>⟨⟩) v
def ARd(v:V):(LV)->Bool:=
 V.rec (motive_1:=λ_=>(LV)->Bool) (motive_2:=λ_=>PUnit)
  (λ_=>false)
  (λ_ _ _ _=>false)
  (λ_ _=>false)
  (λ_ _ _=>false)
  (λ_=>false)
  (λ_ _ _=>false)
  (λ_ _ _=>false)
  (λ_=>false)
  (λ_ _ _ _ _ _=>false)
  (λ_ _ _ _ _=>false)
  (λ_ _ _ _ _ _=>false)
  (λ_=>false)
  (λ_ _=>false)
  (λ_=>false)
  (λ_ _ _ _ _ _=>false)
  (λ_ _ _=>false)
  (λa _ l=>wU l a)
  (λ_=>false)
  (λ_ _ _ _=>false)
  ⟨⟩ (λ_ _ _ _=>⟨⟩) v
def AFw(v:V):Bool:=
 V.rec (motive_1:=λ_=>Bool) (motive_2:=λ_=>PUnit)
  (true)
  (λ_ _ _=>false)
  (λ_=>false)
  (λ_ _=>false)
  (false)
  (λ_ _=>false)
  (λ_ _=>false)
  (false)
  (λ_ _ _ _ _=>false)
  (λ_ _ _ _=>false)
  (λ_ _ _ _ _=>false)
  (false)
  (λ_=>false)
  (false)
  (λ_ _ _ _ _=>false)
  (λ_ _=>false)
  (λ_ _=>false)
  (false)
  (λ_ _ _=>false)
  ⟨⟩ (λ_ _ _ _=>⟨⟩) v
def CX(v:V):(V)->Bool:=
 V.rec (motive_1:=λ_=>(V)->Bool) (motive_2:=λ_=>PUnit)
  (λy=>AFw y)
  (λa b c y=>AIb y a b c)
  (λa y=>AII y a)
  (λa b y=>AJB y a b)
  (λy=>ADw y)
  (λa b y=>ANs y a b)
  (λa b y=>AG0 y a b)
  (λy=>ADT y)
  (λa b c d e y=>AQF y a b c d e)
  (λa b c d y=>AIm y a b c d)
  (λa b c d e y=>AMO y a b c d e)
  (λy=>AEX y)
  (λa y=>ANf y a)
  (λy=>AD8 y)
  (λ_ _ _ _ _ _=>false)
  (λa _ y=>ARr y a)
  (λa _ y=>ARd y a)
  (λ_=>false)
  (λ_ _ _ _=>false)
  ⟨⟩ (λ_ _ _ _=>⟨⟩) v
inductive AI where
 |op (o:rC)
 |re (d:P2) (g:Gd) (o:AN)
inductive AC where
 |skip
 |ops (l:List rC)
 |reg (l:List AI)
 |seq (a b:AC)
 |cond (x:X) (a b:AC)
 |block (id:Nat) (c:AC)
 |loop (c:AC)
 |exit (id:Nat)
 |ret
def PO(l:List rC):yN:=
 List.rec (motive:=λ_=>yN) (λ_ _ R H n k=>k R H n) (λo _ g G call R H n k=>o.ex G call R H n λR H n=>g G call R H n k) l
abbrev ReT:=AY->RS->Heap->P2->AN->Prop->Prop
def AVV:ReT:=λG R H d o k=>AP (o.ev G R H) λv=>FN (CX v (MH (T.EN d R.rg))) k
def AXk(x:X)(b:Bool):ReT:=λG R H d o k=>iQ (x.ev R) b (AP (o.ev G R H) λv=>FN (CX v (MH (T.EN d R.rg))) k) k
def ASt(g:Gd):ReT:=Gd.rec (motive:=λ_=>ReT) AVV AXk g
def AI.ex(i:AI):yN:=AI.rec (motive:=λ_=>yN) (λo=>o.ex) (λd g o G _ R H n k=>ASt g G R H d o (k R H n)) i
def C9(l:List AI):yN:=
 List.rec (motive:=λ_=>yN) (λ_ _ R H n k=>k R H n) (λi _ g G call R H n k=>i.ex G call R H n λR H n=>g G call R H n k) l
abbrev KX:=Nat->K
abbrev M:=AY->BN->Nat->JX->Heap->Nat->K->KX->K->Prop
def DV:M:=λ_ _ _ R H n k _ _=>k R H n
def AQE(l:List rC):M:=λG call _ R H n k _ _=>PO l G call (.mk [] R) H n λE H n=>k E.rg H n
def AQN(l:List AI):M:=λG call _ R H n k _ _=>C9 l G call (.mk [] R) H n λE H n=>k E.rg H n
def AMd(_ _:AC)(a b:M):M:=λG call lf R H n k x r=>a G call lf R H n (λR H n=>b G call lf R H n k x r) x r
def AFV(c:X)(_ _:AC)(a b:M):M:=λG call lf R H n k x r=>Ae (c.ev (.mk [] R)) true (a G call lf R H n k x r) (b G call lf R H n k x r)
def Hw(id:Nat)(k:K)(x:KX):KX:=λi R H n=>Bool.rec (motive:=λ_=>Prop->Prop->Prop) (λa _=>a) (λ_ b=>b) (Nat.beq i id) (x i R H n) (k R H n)
def AAY(id:Nat)(_:AC)(a:M):M:=λG call lf R H n k x r=>a G call lf R H n k (Hw id k x) r
def WG(a:M)(G:AY)(call:BN)(lf0 lf:Nat):JX->Heap->Nat->KX->K->Prop:=
 Nat.rec (motive:=λ_=>JX->Heap->Nat->KX->K->Prop) (λ_ _ _ _ _=>False) (λ_ g R H n x r=>a G call lf0 R H n (λR H n=>g R H n x r) x r) lf
def AVo(_:AC)(a:M):M:=λG call lf R H n _ x r=>WG a G call lf lf R H n x r
def AOM(id:Nat):M:=λ_ _ _ R H n _ x _=>x id R H n
def AR4:M:=λ_ _ _ R H n _ _ r=>r R H n
def AC.ex(c:AC):M:=AC.rec (motive:=λ_=>M) DV AQE AQN AMd AFV AAY AVo AOM AR4 c
inductive AR where
 |tmp (p:P2)|cell1 (p:P2)|celln (p:P2) (n:Nat)
inductive Nk where
 |join|rep|AJt (t e:Nat)|AHC (t e:Nat)
inductive AF where
 |mk (np:Nat) (code:AC) (res:List AR) (dp:kV) (dg:Nat)
 |nat (k:Nk)
def AR.get(r:AR):AY->JX->Heap->Option V:=
 AR.rec (motive:=λ_=>AY->JX->Heap->Option V) (λp _ R _=>some (MH (T.EN p R))) (λp G R H=>OO (vM (MH (T.EN p R)) G H 1) λL=>nth L 0)
  (λp n G R H=>OO (vM (MH (T.EN p R)) G H n) λL=>some (.agg L)) r
def yD(l:List AR):AY->JX->Heap->Option LV:=
 List.rec (motive:=λ_=>AY->JX->Heap->Option LV) (λ_ _ _=>some []) (λr _ g G R H=>Ci (r.get G R H) λv=>Ci (g G R H) λvs=>some (v::vs)) l
def Hr(l:List V):V:=List.rec (motive:=λ_=>V) (V.JL []) (λv vs _=>List.rec (motive:=λ_=>V) v (λw ws _=>V.JL (v::w::ws)) vs) l
def aI(args:List V):Nat->JX->JX:=
 List.rec (motive:=λ_=>Nat->JX->JX) (λ_ R=>R) (λv _ g i R=>g (Nat.succ i) (T.set R i v)) args
def Np(dg:Nat)(l:List V):BN->Heap->Nat->(Heap->Nat->Prop)->Prop:=
 List.rec (motive:=λ_=>BN->Heap->Nat->(Heap->Nat->Prop)->Prop) (λ_ H n k=>k H n)
  (λv _ g call H n k=>V.Uj v λf a c=>FN (Nat.beq f dg) (call f (cat a c) H n λ_ H n=>g call H n k)) l
def ACF(res:List AR)(G:AY)(k:KV):K:=λR H n=>Ip (yD res G R H) λl=>k (Hr l) H n
def Je(res:List AR)(dg:Nat)(d:kV):AY->BN->KV->K:=
 kV.rec (motive:=λ_=>AY->BN->KV->K) (λG _ k=>ACF res G k) (λp G call k R H n=>Np dg (nV (MH (T.EN p R))) call H n λH n=>ACF res G k R H n) (λG _ k=>ACF res G k) d
def rJ(p q:Nat×Nat):Nat×Nat:=(p.1+q.1,p.2+256^p.1*q.2)
def yT:EY->Option (List (Nat×Nat))
 |[]=>some []
 |[.str l c]::r=>match yT r with|some x=>some ((l,c)::x)|none=>none
 |_::_=>none
def Yk(s:Nat×Nat):List (Nat×Nat)->Nat×Nat
 |[]=>(0,0)
 |a::r=>r.foldl (λp q=>rJ (rJ p s) q) a
def AHx(s:Nat×Nat):Nat->Nat×Nat
 |0=>(0,0)
 |n+1=>rJ s (AHx s n)
def YB:Nat:=140737488355328
def tN(x y:V)(G:AY)(H:Heap)(n:Nat)(k:KV):Prop:=
 match y with
 |.str sl sc=>FN (Xj (isStr x)) <| Ip (elems x G H 1) λLS=>Ip (yT LS) λss=>FN (decide (ss.length<=YB/\(Yk (sl,sc) ss).1<=YB)) (k (.str (Yk (sl,sc) ss).1 (Yk (sl,sc) ss).2) H n)
 |_=>False
def AD3(x y:V)(H:Heap)(n:Nat)(k:KV):Prop:=
 match x,y with
 |.str l c,.int .i64 (.ofNat m) _=>FN (decide (m<=9223372036854775807/\l*m<=YB)) (k (.str (AHx (l,c) m).1 (AHx (l,c) m).2) H n)
 |_,_=>False
def AAK(t e:Nat)(x y:V)(H:Heap)(n:Nat)(k:KV):Prop:=
 match x,y with
 |.ptr id 0,.str m d=>(match T.get H id with
  |some (.TG t' e' l c j)=>FN (decide (t'=t/\e'=e/\l+m<=YB)) (k (.JL [.int .i64 (.ofNat m) 0,.AEG]) (T.set (T.set (bif decide (l=0)then H else T.set H j .dead) n (.own id)) id (.TG t e (rJ (l,c) (m,d)).1 (rJ (l,c) (m,d)).2 n)) (n+1))
  |_=>False)
 |_,_=>False
def AAD(t e:Nat)(x:V)(H:Heap)(n:Nat)(k:KV):Prop:=
 match x with
 |.ptr id 0=>(match T.get H id with
  |some (.TG t' e' l c _)=>FN (decide (t'=t/\e'=e)) (k (.str l c) (T.set H id .dead) n)
  |_=>False)
 |_=>False
def jm(f:Nk)(G:AY)(args:List V)(H:Heap)(n:Nat)(k:KV):Prop:=
 match f,args with
 |.join,[x,y]=>tN x y G H n k
 |.rep,[x,y]=>AD3 x y H n k
 |.AJt t e,[x,y]=>AAK t e x y H n k
 |.AHC t e,[x]=>AAD t e x H n k
 |_,_=>False
def noX:KX:=λ_ _ _ _=>False
def fZ(f:AF):AY->BN->Nat->List V->Heap->Nat->KV->Prop:=
 AF.rec (motive:=λ_=>AY->BN->Nat->List V->Heap->Nat->KV->Prop) (λnp code res d dg G call lf args H n k=>FN (Nat.beq (len args) np) (code.ex G call lf (aI args 0 .e) H n (Je res dg d G call k) noX (Je res dg d G call k))) (λf G _ _ args H n k=>jm f G args H n k) f
def run(F:T AF)(G:AY)(lf:Nat)(fuel:Nat):BN:=
 Nat.rec (motive:=λ_=>BN) (λ_ _ _ _ _=>False) (λ_ call f args H n k=>Ip (T.get F f) λaf=>fZ af G call lf args H n k) fuel
end Go.Eng
