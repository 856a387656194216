/- Part of a proof; nothing is assumed. -/
import Derived.Calls
import Derived.Defers
import Derived.Orders
import Derived.KernelRfl
import Derived.Laws.Entries
set_option linter.unusedVariables false
set_option linter.unusedSimpArgs false
noncomputable section
namespace Go.Eng
inductive P2 where
 |h|z (p:P2)|o (p:P2)
deriving DecidableEq
inductive T(α:Type)where
 |e|n (v:Option α) (l r:T α)
def T.val{α:Type}(t:T α):Option α:=T.rec none (λv _ _ _ _=>v) t
def T.left{α:Type}(t:T α):T α:=T.rec .e (λ_ l _ _ _=>l) t
def T.right{α:Type}(t:T α):T α:=T.rec .e (λ_ _ r _ _=>r) t
def T.Bf{α:Type}(p:P2):T α->Option α:=
 P2.rec (motive:=λ_=>T α->Option α) T.val (λ_ g t=>g t.left) (λ_ g t=>g t.right) p
def T.Dx{α:Type}(x:α)(p:P2):T α->T α:=
 P2.rec (motive:=λ_=>T α->T α) (λt=>.n (some x) t.left t.right)
  (λ_ g t=>.n t.val (g t.left) t.right) (λ_ g t=>.n t.val t.left (g t.right)) p
def uo(f:Nat):Nat->P2:=
 Nat.rec (motive:=λ_=>Nat->P2) (λ_=>.h)
  (λ_ g k=>Nat.rec (motive:=λ_=>P2) .h
   (λm _=>Bool.rec (P2.o (g (Nat.div m 2))) (P2.z (g (Nat.div m 2))) (Nat.beq (Nat.mod m 2) 0)) k) f
def Dz(k:Nat):P2:=uo (Nat.succ k) k
def T.get{α:Type}(t:T α)(k:Nat):Option α:=T.Bf (Dz k) t
def T.set{α:Type}(t:T α)(k:Nat)(x:α):T α:=T.Dx x (Dz k) t
inductive V where
 |undef
 |int (k:IntKind) (n:Int) (s:Nat)
 |bool (b:Bool)
 |str (len code:Nat)
 |Bh|ptr (id off:Nat)|gptr (b off:Nat)
 |Ae|sl (id off len cap esz:Nat)|gsl (id off len esz:Nat)|rsl (b off len cap esz:Nat)
 |jr|map (id:Nat)
 |AOd|fn (f:Nat) (first caps:List V)
 |agg (cs:List V)
 |BP (vs:List V)
 |AAV|iface (t:Nat) (v:V)
inductive EZ where
 |arr (esz cnt:Nat) (c:T (List V))
 |map (es:List (V×V×Nat)) (clock:Nat)
 |dead
 |G9 (t e l c j:Nat)
 |own (b:Nat)
abbrev Heap:=T EZ
abbrev Cc:=T V
abbrev AQ:=Nat->Nat->Nat->Option (List V)
inductive X where
 |r (p:P2)|c (v:V)|s (i:Nat)
def Dq(o:Option V):V:=Option.rec V.undef (λv=>v) o
def AA0(l:List V):Nat->V:=
 List.rec (motive:=λ_=>Nat->V) (λ_=>.undef) (λx _ g i=>Nat.rec (motive:=λ_=>V) x (λi _=>g i) i) l
inductive RS where
 |mk (L:List V) (R:Cc)
def RS.st(E:RS):List V:=RS.rec (λL _=>L) E
def RS.rg(E:RS):Cc:=RS.rec (λ_ R=>R) E
def X.ev(x:X):RS->V:=X.rec (motive:=λ_=>RS->V) (λp E=>Dq (T.Bf p E.rg)) (λv _=>v) (λi E=>AA0 E.st i) x
def V.Cb(v:V):(IntKind->Int->Nat->Option V)->Option V:=
 V.rec (motive_1:=λ_=>(IntKind->Int->Nat->Option V)->Option V) (motive_2:=λ_=>PUnit)
  (λ_=>none)
  (λa b c f=>f a b c)
  (λ_ _=>none)
  (λ_ _ _=>none)
  (λ_=>none)
  (λ_ _ _=>none)
  (λ_ _ _=>none)
  (λ_=>none)
  (λ_ _ _ _ _ _=>none)
  (λ_ _ _ _ _=>none)
  (λ_ _ _ _ _ _=>none)
  (λ_=>none)
  (λ_ _=>none)
  (λ_=>none)
  (λ_ _ _ _ _ _=>none)
  (λ_ _ _=>none)
  (λ_ _ _=>none)
  (λ_=>none)
  (λ_ _ _ _=>none)
  ⟨⟩ (λ_ _ _ _=>⟨⟩) v
def V.IE(v:V):(Bool->Option V)->Option V:=
 V.rec (motive_1:=λ_=>(Bool->Option V)->Option V) (motive_2:=λ_=>PUnit)
  (λ_=>none)
  (λ_ _ _ _=>none)
  (λa f=>f a)
  (λ_ _ _=>none)
  (λ_=>none)
  (λ_ _ _=>none)
  (λ_ _ _=>none)
  (λ_=>none)
  (λ_ _ _ _ _ _=>none)
  (λ_ _ _ _ _=>none)
  (λ_ _ _ _ _ _=>none)
  (λ_=>none)
  (λ_ _=>none)
  (λ_=>none)
  (λ_ _ _ _ _ _=>none)
  (λ_ _ _=>none)
  (λ_ _ _=>none)
  (λ_=>none)
  (λ_ _ _ _=>none)
  ⟨⟩ (λ_ _ _ _=>⟨⟩) v
def V.ZO(v:V):(Bool->Prop)->Prop:=
 V.rec (motive_1:=λ_=>(Bool->Prop)->Prop) (motive_2:=λ_=>PUnit)
  (λ_=>False)
  (λ_ _ _ _=>False)
  (λa f=>f a)
  (λ_ _ _=>False)
  (λ_=>False)
  (λ_ _ _=>False)
  (λ_ _ _=>False)
  (λ_=>False)
  (λ_ _ _ _ _ _=>False)
  (λ_ _ _ _ _=>False)
  (λ_ _ _ _ _ _=>False)
  (λ_=>False)
  (λ_ _=>False)
  (λ_=>False)
  (λ_ _ _ _ _ _=>False)
  (λ_ _ _=>False)
  (λ_ _ _=>False)
  (λ_=>False)
  (λ_ _ _ _=>False)
  ⟨⟩ (λ_ _ _ _=>⟨⟩) v
def V.EM(v:V):(Nat->Nat->Option V)->Option V:=
 V.rec (motive_1:=λ_=>(Nat->Nat->Option V)->Option V) (motive_2:=λ_=>PUnit)
  (λ_=>none)
  (λ_ _ _ _=>none)
  (λ_ _=>none)
  (λa b f=>f a b)
  (λ_=>none)
  (λ_ _ _=>none)
  (λ_ _ _=>none)
  (λ_=>none)
  (λ_ _ _ _ _ _=>none)
  (λ_ _ _ _ _=>none)
  (λ_ _ _ _ _ _=>none)
  (λ_=>none)
  (λ_ _=>none)
  (λ_=>none)
  (λ_ _ _ _ _ _=>none)
  (λ_ _ _=>none)
  (λ_ _ _=>none)
  (λ_=>none)
  (λ_ _ _ _=>none)
  ⟨⟩ (λ_ _ _ _=>⟨⟩) v
def V.Ie(v:V):(List V->Option V)->Option V:=
 V.rec (motive_1:=λ_=>(List V->Option V)->Option V) (motive_2:=λ_=>PUnit)
  (λ_=>none)
  (λ_ _ _ _=>none)
  (λ_ _=>none)
  (λ_ _ _=>none)
  (λ_=>none)
  (λ_ _ _=>none)
  (λ_ _ _=>none)
  (λ_=>none)
  (λ_ _ _ _ _ _=>none)
  (λ_ _ _ _ _=>none)
  (λ_ _ _ _ _ _=>none)
  (λ_=>none)
  (λ_ _=>none)
  (λ_=>none)
  (λ_ _ _ _ _ _=>none)
  (λa _ f=>f a)
  (λ_ _ _=>none)
  (λ_=>none)
  (λ_ _ _ _=>none)
  ⟨⟩ (λ_ _ _ _=>⟨⟩) v
def V.eU(v:V):(List V->Option V)->Option V:=
 V.rec (motive_1:=λ_=>(List V->Option V)->Option V) (motive_2:=λ_=>PUnit)
  (λ_=>none)
  (λ_ _ _ _=>none)
  (λ_ _=>none)
  (λ_ _ _=>none)
  (λ_=>none)
  (λ_ _ _=>none)
  (λ_ _ _=>none)
  (λ_=>none)
  (λ_ _ _ _ _ _=>none)
  (λ_ _ _ _ _=>none)
  (λ_ _ _ _ _ _=>none)
  (λ_=>none)
  (λ_ _=>none)
  (λ_=>none)
  (λ_ _ _ _ _ _=>none)
  (λ_ _ _=>none)
  (λa _ f=>f a)
  (λ_=>none)
  (λ_ _ _ _=>none)
  ⟨⟩ (λ_ _ _ _=>⟨⟩) v
def V.XK(v:V):(Nat->Nat->Option V)->(Nat->Nat->Option V)->Option V:=
 V.rec (motive_1:=λ_=>(Nat->Nat->Option V)->(Nat->Nat->Option V)->Option V) (motive_2:=λ_=>PUnit)
  (λ_ _=>none)
  (λ_ _ _ _ _=>none)
  (λ_ _ _=>none)
  (λ_ _ _ _=>none)
  (λ_ _=>none)
  (λa b f _=>f a b)
  (λa b _ g=>g a b)
  (λ_ _=>none)
  (λ_ _ _ _ _ _ _=>none)
  (λ_ _ _ _ _ _=>none)
  (λ_ _ _ _ _ _ _=>none)
  (λ_ _=>none)
  (λ_ _ _=>none)
  (λ_ _=>none)
  (λ_ _ _ _ _ _ _=>none)
  (λ_ _ _ _=>none)
  (λ_ _ _ _=>none)
  (λ_ _=>none)
  (λ_ _ _ _ _=>none)
  ⟨⟩ (λ_ _ _ _=>⟨⟩) v
def V.lY(v:V):(Option V)->(Nat->Option V)->Option V:=
 V.rec (motive_1:=λ_=>(Option V)->(Nat->Option V)->Option V) (motive_2:=λ_=>PUnit)
  (λ_ _=>none)
  (λ_ _ _ _ _=>none)
  (λ_ _ _=>none)
  (λ_ _ _ _=>none)
  (λ_ _=>none)
  (λ_ _ _ _=>none)
  (λ_ _ _ _=>none)
  (λ_ _=>none)
  (λ_ _ _ _ _ _ _=>none)
  (λ_ _ _ _ _ _=>none)
  (λ_ _ _ _ _ _ _=>none)
  (λz _=>z)
  (λa _ f=>f a)
  (λ_ _=>none)
  (λ_ _ _ _ _ _ _=>none)
  (λ_ _ _ _=>none)
  (λ_ _ _ _=>none)
  (λ_ _=>none)
  (λ_ _ _ _ _=>none)
  ⟨⟩ (λ_ _ _ _=>⟨⟩) v
def V.AHm(v:V):(Option V)->(Nat->Nat->Nat->Nat->Nat->Option V)->(Nat->Nat->Nat->Nat->Option V)->(Nat->Nat->Nat->Nat->Nat->Option V)->Option V:=
 V.rec (motive_1:=λ_=>(Option V)->(Nat->Nat->Nat->Nat->Nat->Option V)->(Nat->Nat->Nat->Nat->Option V)->(Nat->Nat->Nat->Nat->Nat->Option V)->Option V) (motive_2:=λ_=>PUnit)
  (λ_ _ _ _=>none)
  (λ_ _ _ _ _ _ _=>none)
  (λ_ _ _ _ _=>none)
  (λ_ _ _ _ _ _=>none)
  (λ_ _ _ _=>none)
  (λ_ _ _ _ _ _=>none)
  (λ_ _ _ _ _ _=>none)
  (λz _ _ _=>z)
  (λa b c d e _ f _ _=>f a b c d e)
  (λa b c d _ _ g _=>g a b c d)
  (λa b c d e _ _ _ h=>h a b c d e)
  (λ_ _ _ _=>none)
  (λ_ _ _ _ _=>none)
  (λ_ _ _ _=>none)
  (λ_ _ _ _ _ _ _ _ _=>none)
  (λ_ _ _ _ _ _=>none)
  (λ_ _ _ _ _ _=>none)
  (λ_ _ _ _=>none)
  (λ_ _ _ _ _ _ _=>none)
  ⟨⟩ (λ_ _ _ _=>⟨⟩) v
def CZ(v:V):List V:=
 V.rec (motive_1:=λ_=>List V) (motive_2:=λ_=>PUnit)
  ([v])
  (λ_ _ _=>[v])
  (λ_=>[v])
  (λ_ _=>[v])
  ([v])
  (λ_ _=>[v])
  (λ_ _=>[v])
  ([v])
  (λ_ _ _ _ _=>[v])
  (λ_ _ _ _=>[v])
  (λ_ _ _ _ _=>[v])
  ([v])
  (λ_=>[v])
  ([v])
  (λ_ _ _ _ _=>[v])
  (λa _=>a)
  (λ_ _=>[v])
  ([v])
  (λ_ _ _=>[v])
  ⟨⟩ (λ_ _ _ _=>⟨⟩) v
def isStr(v:V):Bool:=
 V.rec (motive_1:=λ_=>Bool) (motive_2:=λ_=>PUnit)
  (false)
  (λ_ _ _=>false)
  (λ_=>false)
  (λ_ _=>true)
  (false)
  (λ_ _=>false)
  (λ_ _=>false)
  (false)
  (λ_ _ _ _ _=>false)
  (λ_ _ _ _=>false)
  (λ_ _ _ _ _=>false)
  (false)
  (λ_=>false)
  (false)
  (λ_ _ _ _ _=>false)
  (λ_ _=>false)
  (λ_ _=>false)
  (false)
  (λ_ _ _=>false)
  ⟨⟩ (λ_ _ _ _=>⟨⟩) v
def lenV(v:V):Option V:=
 V.rec (motive_1:=λ_=>Option V) (motive_2:=λ_=>PUnit)
  (none)
  (λ_ _ _=>none)
  (λ_=>none)
  (λ_ _=>none)
  (none)
  (λ_ _=>none)
  (λ_ _=>none)
  (some (.int .i64 (.ofNat 0) 0))
  (λ_ _ c _ _=>some (.int .i64 (.ofNat c) 0))
  (λ_ _ c _=>some (.int .i64 (.ofNat c) 0))
  (λ_ _ c _ _=>some (.int .i64 (.ofNat c) 0))
  (none)
  (λ_=>none)
  (none)
  (λ_ _ _ _ _=>none)
  (λ_ _=>none)
  (λ_ _=>none)
  (none)
  (λ_ _ _=>none)
  ⟨⟩ (λ_ _ _ _=>⟨⟩) v
def AX(v:V):Option V:=
 V.rec (motive_1:=λ_=>Option V) (motive_2:=λ_=>PUnit)
  (none)
  (λ_ _ _=>none)
  (λ_=>none)
  (λ_ _=>none)
  (none)
  (λa b=>some (.ptr a b))
  (λa b=>some (.gptr a b))
  (none)
  (λ_ _ _ _ _=>none)
  (λ_ _ _ _=>none)
  (λ_ _ _ _ _=>none)
  (none)
  (λ_=>none)
  (none)
  (λa b c _ _=>some (.fn a b c))
  (λ_ _=>none)
  (λ_ _=>none)
  (none)
  (λ_ _ _=>none)
  ⟨⟩ (λ_ _ _ _=>⟨⟩) v
def ES(n:Int):(Int->Option V)->Option V:=λf=>f n
def ED(n:Nat):(Nat->Option V)->Option V:=
 Nat.rec (motive:=λ_=>(Nat->Option V)->Option V) (λf=>f 0) (λk _ f=>f (Nat.succ k)) n
def DK(n:Nat):(Nat->Prop)->Prop:=
 Nat.rec (motive:=λ_=>(Nat->Prop)->Prop) (λf=>f 0) (λk _ f=>f (Nat.succ k)) n
def Ab9(k:IntKind):Nat->Bool:=
 IntKind.rec (motive:=λ_=>Nat->Bool) (λm=>Nat.blt m 128) (λm=>Nat.blt m 32768) (λm=>Nat.blt m 2147483648) (λm=>Nat.blt m 9223372036854775808)
  (λm=>Nat.blt m 256) (λm=>Nat.blt m 65536) (λm=>Nat.blt m 4294967296) (λm=>Nat.blt m 18446744073709551616) k
def Aak(k:IntKind):Nat->Bool:=
 IntKind.rec (motive:=λ_=>Nat->Bool) (λm=>Nat.blt m 128) (λm=>Nat.blt m 32768) (λm=>Nat.blt m 2147483648) (λm=>Nat.blt m 9223372036854775808)
  (λ_=>false) (λ_=>false) (λ_=>false) (λ_=>false) k
def inr(k:IntKind)(n:Int):Bool:=Int.rec (motive:=λ_=>IntKind->Bool) (λm k=>Ab9 k m) (λm k=>Aak k m) n k
def KN(k:IntKind)(n:Int):Int:=Bool.rec (k.wrap n) n (inr k n)
def AWk(k:IntKind)(n:Int):Option V:=ES (KN k n) λm=>some (.int k m 0)
def yu(k:IntKind)(n:Int)(s:Nat):Option V:=
 Nat.rec (motive:=λ_=>IntKind->Int->Option V) AWk (λ_ _ k n=>some (.int k (k.wrap n) 1)) s k n
def mkN(k:IntKind)(n:Int)(s:Nat):Option V:=
 Nat.rec (motive:=λ_=>IntKind->Int->Option V) (λk n=>ES n λm=>some (.int k m 0)) (λ_ _ k n=>some (.int k n 1)) s k n
def APk(a:Nat)(b:Int):Int:=Int.rec (motive:=λ_=>Nat->Int) (λn m=>.ofNat (Nat.add m n)) (λn m=>Int.subNatNat m (Nat.succ n)) b a
def ASl(a:Nat)(b:Int):Int:=Int.rec (motive:=λ_=>Nat->Int) (λn m=>Int.subNatNat n (Nat.succ m)) (λn m=>.negSucc (Nat.succ (Nat.add m n))) b a
def kP(a b:Int):Int:=Int.rec (motive:=λ_=>Int->Int) APk ASl a b
def ile(a b:Int):Bool:=Int.rec (motive:=λ_=>Int->Bool) (λm b=>Int.rec (motive:=λ_=>Nat->Bool) (λn m=>Nat.ble m n) (λ_ _=>false) b m)
 (λm b=>Int.rec (motive:=λ_=>Nat->Bool) (λ_ _=>true) (λn m=>Nat.ble n m) b m) a b
def nI(a b:Int):Bool:=Int.rec (motive:=λ_=>Int->Bool) (λm b=>Int.rec (motive:=λ_=>Nat->Bool) (λn m=>Nat.blt m n) (λ_ _=>false) b m)
 (λm b=>Int.rec (motive:=λ_=>Nat->Bool) (λ_ _=>true) (λn m=>Nat.blt n m) b m) a b
def ieq(a b:Int):Bool:=Int.rec (motive:=λ_=>Int->Bool) (λm b=>Int.rec (motive:=λ_=>Nat->Bool) (λn m=>Nat.beq m n) (λ_ _=>false) b m)
 (λm b=>Int.rec (motive:=λ_=>Nat->Bool) (λ_ _=>false) (λn m=>Nat.beq n m) b m) a b
def kno(a:IntKind):Nat:=IntKind.rec 0 1 2 3 4 5 6 7 a
def keq(a b:IntKind):Bool:=Nat.beq (kno a) (kno b)
def Ef(b:Bool):Bool:=Bool.rec true false b
def band(a b:Bool):Bool:=Bool.rec (motive:=λ_=>Bool->Bool) (λ_=>false) (λb=>b) a b
def AFh(a b:Bool):Bool:=Bool.rec (motive:=λ_=>Bool->Bool) Ef (λb=>b) a b
def mkB(b:Bool):Option V:=Bool.rec (some (.bool false)) (some (.bool true)) b
def BJ(b:Bool):Option V->Option V:=Bool.rec (motive:=λ_=>Option V->Option V) (λ_=>none) (λo=>o) b
def NJ(b:Bool)(x y:Option V):Option V:=Bool.rec (motive:=λ_=>Option V->Option V->Option V) (λ_ y=>y) (λx _=>x) b x y
def AOW(code i:Nat):Nat:=Nat.mod (Nat.div code (Nat.pow 256 i)) 256
def AdM(code l h:Nat):Nat:=Nat.mod (Nat.div code (Nat.pow 256 l)) (Nat.pow 256 (Nat.sub h l))
def Ab3(l1 c1 c2:Nat):Nat:=Nat.add c1 (Nat.mul (Nat.pow 256 l1) c2)
def AXF(f:Nat):Nat->Nat->Nat->Nat->Bool:=
 Nat.rec (motive:=λ_=>Nat->Nat->Nat->Nat->Bool) (λ_ _ _ _=>false)
  (λ_ g l1 c1 l2 c2=>Nat.rec (motive:=λ_=>Bool) false (λl2' _=>Nat.rec (motive:=λ_=>Bool) true (λl1' _=>
   Bool.rec (Nat.blt (Nat.mod c1 256) (Nat.mod c2 256)) (g l1' (Nat.div c1 256) l2' (Nat.div c2 256)) (Nat.beq (Nat.mod c1 256) (Nat.mod c2 256))) l1) l2) f
def slt(l1 c1 l2 c2:Nat):Bool:=AXF (Nat.succ l2) l1 c1 l2 c2
def nth{α:Type}(l:List α):Nat->Option α:=
 List.rec (motive:=λ_=>Nat->Option α) (λ_=>none) (λx _ g i=>Nat.rec (motive:=λ_=>Option α) (some x) (λi _=>g i) i) l
def TG{α:Type}(x:α)(l:List α):Nat->List α:=
 List.rec (motive:=λ_=>Nat->List α) (λ_=>[]) (λy ys g i=>Nat.rec (motive:=λ_=>List α) (x::ys) (λi _=>y::g i) i) l
def len{α:Type}(l:List α):Nat:=List.rec (motive:=λ_=>Nat) 0 (λ_ _ n=>Nat.succ n) l
def cat{α:Type}(a b:List α):List α:=List.rec (motive:=λ_=>List α->List α) (λb=>b) (λx _ g b=>x::g b) a b
def GH{α:Type}(n:Nat):List α->List α:=
 Nat.rec (motive:=λ_=>List α->List α) (λ_=>[]) (λ_ g l=>List.rec (motive:=λ_=>List α) [] (λx xs _=>x::g xs) l) n
def Ib{α:Type}(n:Nat):List α->List α:=
 Nat.rec (motive:=λ_=>List α->List α) (λl=>l) (λ_ g l=>List.rec (motive:=λ_=>List α) [] (λ_ xs _=>g xs) l) n
def Ep(l:List X):RS->List V:=List.rec (motive:=λ_=>RS->List V) (λ_=>[]) (λx _ g R=>x.ev R::g R) l
def jT(new:List V)(i:Nat)(l:List V):List V:=cat (GH i l) (cat new (Ib (Nat.add i (len new)) l))
abbrev LV:=List V
def APv(o:Option V)(f:V->Option V):Option V:=Option.rec (motive:=λ_=>(V->Option V)->Option V) (λ_=>none) (λv f=>f v) o f
def Fg(o:Option LV)(f:LV->Option V):Option V:=Option.rec (motive:=λ_=>(LV->Option V)->Option V) (λ_=>none) (λv f=>f v) o f
def CJ{α:Type}(o:Option α)(f:α->Prop):Prop:=Option.rec (motive:=λ_=>(α->Prop)->Prop) (λ_=>False) (λv f=>f v) o f
def AB(o:Option V)(f:V->Prop):Prop:=Option.rec (motive:=λ_=>(V->Prop)->Prop) (λ_=>False) (λv f=>f v) o f
def Bl{α β:Type}(o:Option α)(f:α->Option β):Option β:=Option.rec (motive:=λ_=>(α->Option β)->Option β) (λ_=>none) (λv f=>f v) o f
def ldC(esz off n:Nat)(L:LV):Option LV:=
 Bool.rec (motive:=λ_=>Option LV)
  (Bool.rec none (some (GH n (Ib (Nat.mod off esz) L))) (Nat.ble (Nat.add (Nat.mod off esz) n) esz))
  (some L) (band (Nat.beq n esz) (Nat.beq (Nat.mod off esz) 0))
def ldB(esz cnt:Nat)(c:T LV)(off n:Nat):Option LV:=
 Bl (Bool.rec none (T.get c (Nat.div off esz)) (Nat.blt (Nat.div off esz) cnt)) (ldC esz off n)
def EZ.ld(b:EZ):Nat->Nat->Option LV:=
 EZ.rec (motive:=λ_=>Nat->Nat->Option LV) ldB (λ_ _ _ _=>none) (λ_ _=>none) (λ_ _ _ _ _ _ _=>none) (λ_ _ _=>none) b
def ldH(H:Heap)(id off n:Nat):Option LV:=Option.rec (motive:=λ_=>Nat->Nat->Option LV) (λ_ _=>none) EZ.ld (T.get H id) off n
def Zb(v:V):(AQ)->(Heap)->(Nat)->Option LV:=
 V.rec (motive_1:=λ_=>(AQ)->(Heap)->(Nat)->Option LV) (motive_2:=λ_=>PUnit)
  (λ_ _ _=>none)
  (λ_ _ _ _ _ _=>none)
  (λ_ _ _ _=>none)
  (λ_ _ _ _ _=>none)
  (λ_ _ _=>none)
  (λa b _ H n=>ldH H a b n)
  (λa b G _ n=>G a b n)
  (λ_ _ _=>none)
  (λ_ _ _ _ _ _ _ _=>none)
  (λ_ _ _ _ _ _ _=>none)
  (λ_ _ _ _ _ _ _ _=>none)
  (λ_ _ _=>none)
  (λ_ _ _ _=>none)
  (λ_ _ _=>none)
  (λ_ _ _ _ _ _ _ _=>none)
  (λ_ _ _ _ _=>none)
  (λ_ _ _ _ _=>none)
  (λ_ _ _=>none)
  (λ_ _ _ _ _ _=>none)
  ⟨⟩ (λ_ _ _ _=>⟨⟩) v
def stC(new:LV)(esz cnt:Nat)(c:T LV)(off n:Nat)(L:LV):Option EZ:=
 Bool.rec (motive:=λ_=>Option EZ)
  (Bool.rec none (some (.arr esz cnt (T.set c (Nat.div off esz) (jT new (Nat.mod off esz) L)))) (Nat.ble (Nat.add (Nat.mod off esz) n) esz))
  (some (.arr esz cnt (T.set c (Nat.div off esz) new))) (band (Nat.beq n esz) (Nat.beq (Nat.mod off esz) 0))
def stB(esz cnt:Nat)(c:T LV)(off n:Nat)(new:LV):Option EZ:=
 Bl (Bool.rec none (T.get c (Nat.div off esz)) (Nat.blt (Nat.div off esz) cnt)) (stC new esz cnt c off n)
def EZ.st(b:EZ):Nat->Nat->LV->Option EZ:=
 EZ.rec (motive:=λ_=>Nat->Nat->LV->Option EZ) stB (λ_ _ _ _ _=>none) (λ_ _ _=>none) (λ_ _ _ _ _ _ _ _=>none) (λ_ _ _ _=>none) b
def stH(H:Heap)(id off n:Nat)(new:LV):Option Heap:=
 Bl (Option.rec (motive:=λ_=>Nat->Nat->LV->Option EZ) (λ_ _ _=>none) EZ.st (T.get H id) off n new) λb=>some (T.set H id b)
def stP(v:V):(Heap)->(Nat)->(LV)->Option Heap:=
 V.rec (motive_1:=λ_=>(Heap)->(Nat)->(LV)->Option Heap) (motive_2:=λ_=>PUnit)
  (λ_ _ _=>none)
  (λ_ _ _ _ _ _=>none)
  (λ_ _ _ _=>none)
  (λ_ _ _ _ _=>none)
  (λ_ _ _=>none)
  (λa b H n new=>stH H a b n new)
  (λ_ _ _ _ _=>none)
  (λ_ _ _=>none)
  (λ_ _ _ _ _ _ _ _=>none)
  (λ_ _ _ _ _ _ _=>none)
  (λ_ _ _ _ _ _ _ _=>none)
  (λ_ _ _=>none)
  (λ_ _ _ _=>none)
  (λ_ _ _=>none)
  (λ_ _ _ _ _ _ _ _=>none)
  (λ_ _ _ _ _=>none)
  (λ_ _ _ _ _=>none)
  (λ_ _ _=>none)
  (λ_ _ _ _ _ _=>none)
  ⟨⟩ (λ_ _ _ _=>⟨⟩) v
def AAp(v:V):(IntKind)->(Int)->(Nat)->Option Bool:=
 V.rec (motive_1:=λ_=>(IntKind)->(Int)->(Nat)->Option Bool) (motive_2:=λ_=>PUnit)
  (λ_ _ _=>none)
  (λa b c k n s=>Bool.rec (motive:=λ_=>Option Bool) none (some (ieq n b)) (band (keq k a) (Nat.beq (Nat.add s c) 0)))
  (λ_ _ _ _=>none)
  (λ_ _ _ _ _=>none)
  (λ_ _ _=>none)
  (λ_ _ _ _ _=>none)
  (λ_ _ _ _ _=>none)
  (λ_ _ _=>none)
  (λ_ _ _ _ _ _ _ _=>none)
  (λ_ _ _ _ _ _ _=>none)
  (λ_ _ _ _ _ _ _ _=>none)
  (λ_ _ _=>none)
  (λ_ _ _ _=>none)
  (λ_ _ _=>none)
  (λ_ _ _ _ _ _ _ _=>none)
  (λ_ _ _ _ _=>none)
  (λ_ _ _ _ _=>none)
  (λ_ _ _=>none)
  (λ_ _ _ _ _ _=>none)
  ⟨⟩ (λ_ _ _ _=>⟨⟩) v
def jO(v:V):(Bool)->Option Bool:=
 V.rec (motive_1:=λ_=>(Bool)->Option Bool) (motive_2:=λ_=>PUnit)
  (λ_=>none)
  (λ_ _ _ _=>none)
  (λa x=>some (AFh x a))
  (λ_ _ _=>none)
  (λ_=>none)
  (λ_ _ _=>none)
  (λ_ _ _=>none)
  (λ_=>none)
  (λ_ _ _ _ _ _=>none)
  (λ_ _ _ _ _=>none)
  (λ_ _ _ _ _ _=>none)
  (λ_=>none)
  (λ_ _=>none)
  (λ_=>none)
  (λ_ _ _ _ _ _=>none)
  (λ_ _ _=>none)
  (λ_ _ _=>none)
  (λ_=>none)
  (λ_ _ _ _=>none)
  ⟨⟩ (λ_ _ _ _=>⟨⟩) v
def eqStr(v:V):(Nat)->(Nat)->Option Bool:=
 V.rec (motive_1:=λ_=>(Nat)->(Nat)->Option Bool) (motive_2:=λ_=>PUnit)
  (λ_ _=>none)
  (λ_ _ _ _ _=>none)
  (λ_ _ _=>none)
  (λa b l d=>some (band (Nat.beq l a) (Nat.beq d b)))
  (λ_ _=>none)
  (λ_ _ _ _=>none)
  (λ_ _ _ _=>none)
  (λ_ _=>none)
  (λ_ _ _ _ _ _ _=>none)
  (λ_ _ _ _ _ _=>none)
  (λ_ _ _ _ _ _ _=>none)
  (λ_ _=>none)
  (λ_ _ _=>none)
  (λ_ _=>none)
  (λ_ _ _ _ _ _ _=>none)
  (λ_ _ _ _=>none)
  (λ_ _ _ _=>none)
  (λ_ _=>none)
  (λ_ _ _ _ _=>none)
  ⟨⟩ (λ_ _ _ _=>⟨⟩) v
def AAh(v:V):Option Bool:=
 V.rec (motive_1:=λ_=>Option Bool) (motive_2:=λ_=>PUnit)
  (none)
  (λ_ _ _=>none)
  (λ_=>none)
  (λ_ _=>none)
  (some true)
  (λ_ _=>some false)
  (λ_ _=>some false)
  (none)
  (λ_ _ _ _ _=>none)
  (λ_ _ _ _=>none)
  (λ_ _ _ _ _=>none)
  (none)
  (λ_=>none)
  (none)
  (λ_ _ _ _ _=>none)
  (λ_ _=>none)
  (λ_ _=>none)
  (none)
  (λ_ _ _=>none)
  ⟨⟩ (λ_ _ _ _=>⟨⟩) v
def ARf(v:V):(Nat)->(Nat)->Option Bool:=
 V.rec (motive_1:=λ_=>(Nat)->(Nat)->Option Bool) (motive_2:=λ_=>PUnit)
  (λ_ _=>none)
  (λ_ _ _ _ _=>none)
  (λ_ _ _=>none)
  (λ_ _ _ _=>none)
  (λ_ _=>some false)
  (λa b i o=>Bool.rec none (some (Nat.beq o b)) (Nat.beq i a))
  (λ_ _ _ _=>none)
  (λ_ _=>none)
  (λ_ _ _ _ _ _ _=>none)
  (λ_ _ _ _ _ _=>none)
  (λ_ _ _ _ _ _ _=>none)
  (λ_ _=>none)
  (λ_ _ _=>none)
  (λ_ _=>none)
  (λ_ _ _ _ _ _ _=>none)
  (λ_ _ _ _=>none)
  (λ_ _ _ _=>none)
  (λ_ _=>none)
  (λ_ _ _ _ _=>none)
  ⟨⟩ (λ_ _ _ _=>⟨⟩) v
def AGC(v:V):Option Bool:=
 V.rec (motive_1:=λ_=>Option Bool) (motive_2:=λ_=>PUnit)
  (none)
  (λ_ _ _=>none)
  (λ_=>none)
  (λ_ _=>none)
  (some false)
  (λ_ _=>none)
  (λ_ _=>none)
  (none)
  (λ_ _ _ _ _=>none)
  (λ_ _ _ _=>none)
  (λ_ _ _ _ _=>none)
  (none)
  (λ_=>none)
  (none)
  (λ_ _ _ _ _=>none)
  (λ_ _=>none)
  (λ_ _=>none)
  (none)
  (λ_ _ _=>none)
  ⟨⟩ (λ_ _ _ _=>⟨⟩) v
def eX(v:V):(V)->Option Bool:=
 V.rec (motive_1:=λ_=>(V)->Option Bool) (motive_2:=λ_=>PUnit)
  (λ_=>none)
  (λa b c y=>AAp y a b c)
  (λ_ _=>none)
  (λ_ _ _=>none)
  (λ_=>none)
  (λ_ _ _=>none)
  (λ_ _ _=>none)
  (λ_=>none)
  (λ_ _ _ _ _ _=>none)
  (λ_ _ _ _ _=>none)
  (λ_ _ _ _ _ _=>none)
  (λ_=>none)
  (λ_ _=>none)
  (λ_=>none)
  (λ_ _ _ _ _ _=>none)
  (λ_ _ _=>none)
  (λ_ _ _=>none)
  (λ_=>none)
  (λ_ _ _ _=>none)
  ⟨⟩ (λ_ _ _ _=>⟨⟩) v
def iG(v:V):(V)->Option Bool:=
 V.rec (motive_1:=λ_=>(V)->Option Bool) (motive_2:=λ_=>PUnit)
  (λ_=>none)
  (λ_ _ _ _=>none)
  (λ_ _=>none)
  (λa b y=>eqStr y a b)
  (λ_=>none)
  (λ_ _ _=>none)
  (λ_ _ _=>none)
  (λ_=>none)
  (λ_ _ _ _ _ _=>none)
  (λ_ _ _ _ _=>none)
  (λ_ _ _ _ _ _=>none)
  (λ_=>none)
  (λ_ _=>none)
  (λ_=>none)
  (λ_ _ _ _ _ _=>none)
  (λ_ _ _=>none)
  (λ_ _ _=>none)
  (λ_=>none)
  (λ_ _ _ _=>none)
  ⟨⟩ (λ_ _ _ _=>⟨⟩) v
def Nv(v:V):(V)->Option Bool:=
 V.rec (motive_1:=λ_=>(V)->Option Bool) (motive_2:=λ_=>PUnit)
  (λ_=>none)
  (λ_ _ _ _=>none)
  (λa y=>jO y a)
  (λ_ _ _=>none)
  (λ_=>none)
  (λ_ _ _=>none)
  (λ_ _ _=>none)
  (λ_=>none)
  (λ_ _ _ _ _ _=>none)
  (λ_ _ _ _ _=>none)
  (λ_ _ _ _ _ _=>none)
  (λ_=>none)
  (λ_ _=>none)
  (λ_=>none)
  (λ_ _ _ _ _ _=>none)
  (λ_ _ _=>none)
  (λ_ _ _=>none)
  (λ_=>none)
  (λ_ _ _ _=>none)
  ⟨⟩ (λ_ _ _ _=>⟨⟩) v
def Yo(v:V):(V)->Option Bool:=
 V.rec (motive_1:=λ_=>(V)->Option Bool) (motive_2:=λ_=>PUnit)
  (λ_=>none)
  (λ_ _ _ _=>none)
  (λ_ _=>none)
  (λ_ _ _=>none)
  (λy=>AAh y)
  (λa b y=>ARf y a b)
  (λ_ _ y=>AGC y)
  (λ_=>none)
  (λ_ _ _ _ _ _=>none)
  (λ_ _ _ _ _=>none)
  (λ_ _ _ _ _ _=>none)
  (λ_=>none)
  (λ_ _=>none)
  (λ_=>none)
  (λ_ _ _ _ _ _=>none)
  (λ_ _ _=>none)
  (λ_ _ _=>none)
  (λ_=>none)
  (λ_ _ _ _=>none)
  ⟨⟩ (λ_ _ _ _=>⟨⟩) v
def zu(v:V):Option Bool:=
 V.rec (motive_1:=λ_=>Option Bool) (motive_2:=λ_=>PUnit)
  (none)
  (λ_ _ _=>none)
  (λ_=>none)
  (λ_ _=>none)
  (none)
  (λ_ _=>none)
  (λ_ _=>none)
  (some true)
  (λ_ _ _ _ _=>some false)
  (λ_ _ _ _=>some false)
  (λ_ _ _ _ _=>some false)
  (none)
  (λ_=>none)
  (none)
  (λ_ _ _ _ _=>none)
  (λ_ _=>none)
  (λ_ _=>none)
  (none)
  (λ_ _ _=>none)
  ⟨⟩ (λ_ _ _ _=>⟨⟩) v
def Ho(v:V):Option Bool:=
 V.rec (motive_1:=λ_=>Option Bool) (motive_2:=λ_=>PUnit)
  (none)
  (λ_ _ _=>none)
  (λ_=>none)
  (λ_ _=>none)
  (none)
  (λ_ _=>none)
  (λ_ _=>none)
  (some false)
  (λ_ _ _ _ _=>none)
  (λ_ _ _ _=>none)
  (λ_ _ _ _ _=>none)
  (none)
  (λ_=>none)
  (none)
  (λ_ _ _ _ _=>none)
  (λ_ _=>none)
  (λ_ _=>none)
  (none)
  (λ_ _ _=>none)
  ⟨⟩ (λ_ _ _ _=>⟨⟩) v
def ADC(v:V):Option Bool:=
 V.rec (motive_1:=λ_=>Option Bool) (motive_2:=λ_=>PUnit)
  (none)
  (λ_ _ _=>none)
  (λ_=>none)
  (λ_ _=>none)
  (none)
  (λ_ _=>none)
  (λ_ _=>none)
  (none)
  (λ_ _ _ _ _=>none)
  (λ_ _ _ _=>none)
  (λ_ _ _ _ _=>none)
  (none)
  (λ_=>none)
  (some true)
  (λ_ _ _ _ _=>some false)
  (λ_ _=>none)
  (λ_ _=>none)
  (none)
  (λ_ _ _=>none)
  ⟨⟩ (λ_ _ _ _=>⟨⟩) v
def mJ(v:V):Option Bool:=
 V.rec (motive_1:=λ_=>Option Bool) (motive_2:=λ_=>PUnit)
  (none)
  (λ_ _ _=>none)
  (λ_=>none)
  (λ_ _=>none)
  (none)
  (λ_ _=>none)
  (λ_ _=>none)
  (none)
  (λ_ _ _ _ _=>none)
  (λ_ _ _ _=>none)
  (λ_ _ _ _ _=>none)
  (none)
  (λ_=>none)
  (some false)
  (λ_ _ _ _ _=>none)
  (λ_ _=>none)
  (λ_ _=>none)
  (none)
  (λ_ _ _=>none)
  ⟨⟩ (λ_ _ _ _=>⟨⟩) v
def ACo(v:V):Option Bool:=
 V.rec (motive_1:=λ_=>Option Bool) (motive_2:=λ_=>PUnit)
  (none)
  (λ_ _ _=>none)
  (λ_=>none)
  (λ_ _=>none)
  (none)
  (λ_ _=>none)
  (λ_ _=>none)
  (none)
  (λ_ _ _ _ _=>none)
  (λ_ _ _ _=>none)
  (λ_ _ _ _ _=>none)
  (some true)
  (λ_=>some false)
  (none)
  (λ_ _ _ _ _=>none)
  (λ_ _=>none)
  (λ_ _=>none)
  (none)
  (λ_ _ _=>none)
  ⟨⟩ (λ_ _ _ _=>⟨⟩) v
def oK(v:V):Option Bool:=
 V.rec (motive_1:=λ_=>Option Bool) (motive_2:=λ_=>PUnit)
  (none)
  (λ_ _ _=>none)
  (λ_=>none)
  (λ_ _=>none)
  (none)
  (λ_ _=>none)
  (λ_ _=>none)
  (none)
  (λ_ _ _ _ _=>none)
  (λ_ _ _ _=>none)
  (λ_ _ _ _ _=>none)
  (some false)
  (λ_=>none)
  (none)
  (λ_ _ _ _ _=>none)
  (λ_ _=>none)
  (λ_ _=>none)
  (none)
  (λ_ _ _=>none)
  ⟨⟩ (λ_ _ _ _=>⟨⟩) v
def kSl(v:V):(V)->Option Bool:=
 V.rec (motive_1:=λ_=>(V)->Option Bool) (motive_2:=λ_=>PUnit)
  (λ_=>none)
  (λ_ _ _ _=>none)
  (λ_ _=>none)
  (λ_ _ _=>none)
  (λ_=>none)
  (λ_ _ _=>none)
  (λ_ _ _=>none)
  (λy=>zu y)
  (λ_ _ _ _ _ y=>Ho y)
  (λ_ _ _ _ y=>Ho y)
  (λ_ _ _ _ _ y=>Ho y)
  (λ_=>none)
  (λ_ _=>none)
  (λ_=>none)
  (λ_ _ _ _ _ _=>none)
  (λ_ _ _=>none)
  (λ_ _ _=>none)
  (λ_=>none)
  (λ_ _ _ _=>none)
  ⟨⟩ (λ_ _ _ _=>⟨⟩) v
def kFn(v:V):(V)->Option Bool:=
 V.rec (motive_1:=λ_=>(V)->Option Bool) (motive_2:=λ_=>PUnit)
  (λ_=>none)
  (λ_ _ _ _=>none)
  (λ_ _=>none)
  (λ_ _ _=>none)
  (λ_=>none)
  (λ_ _ _=>none)
  (λ_ _ _=>none)
  (λ_=>none)
  (λ_ _ _ _ _ _=>none)
  (λ_ _ _ _ _=>none)
  (λ_ _ _ _ _ _=>none)
  (λ_=>none)
  (λ_ _=>none)
  (λy=>ADC y)
  (λ_ _ _ _ _ y=>mJ y)
  (λ_ _ _=>none)
  (λ_ _ _=>none)
  (λ_=>none)
  (λ_ _ _ _=>none)
  ⟨⟩ (λ_ _ _ _=>⟨⟩) v
def AU3(v:V):(V)->Option Bool:=
 V.rec (motive_1:=λ_=>(V)->Option Bool) (motive_2:=λ_=>PUnit)
  (λ_=>none)
  (λ_ _ _ _=>none)
  (λ_ _=>none)
  (λ_ _ _=>none)
  (λ_=>none)
  (λ_ _ _=>none)
  (λ_ _ _=>none)
  (λ_=>none)
  (λ_ _ _ _ _ _=>none)
  (λ_ _ _ _ _=>none)
  (λ_ _ _ _ _ _=>none)
  (λy=>ACo y)
  (λ_ y=>oK y)
  (λ_=>none)
  (λ_ _ _ _ _ _=>none)
  (λ_ _ _=>none)
  (λ_ _ _=>none)
  (λ_=>none)
  (λ_ _ _ _=>none)
  ⟨⟩ (λ_ _ _ _=>⟨⟩) v
def GV(o:Option Bool)(f:Bool->Option Bool):Option Bool:=Option.rec (motive:=λ_=>(Bool->Option Bool)->Option Bool) (λ_=>none) (λv f=>f v) o f
inductive CK where
 |int|str|bool|ptr
def CK.eq(k:CK):V->V->Option Bool:=CK.rec (motive:=λ_=>V->V->Option Bool) eX iG Nv Yo k
def AfT(ks:List CK):List V->List V->Option Bool:=
 List.rec (motive:=λ_=>List V->List V->Option Bool) (λa b=>List.rec (motive:=λ_=>Option Bool) (List.rec (motive:=λ_=>Option Bool) (some true) (λ_ _ _=>none) b) (λ_ _ _=>none) a)
  (λk _ g a b=>List.rec (motive:=λ_=>Option Bool) none (λx xs _=>List.rec (motive:=λ_=>Option Bool) none (λy ys _=>GV (k.eq x y) λr=>GV (g xs ys) λr'=>some (band r r')) b) a) ks
def AQ4(v:V):(List CK)->(LV)->Option Bool:=
 V.rec (motive_1:=λ_=>(List CK)->(LV)->Option Bool) (motive_2:=λ_=>PUnit)
  (λ_ _=>none)
  (λ_ _ _ _ _=>none)
  (λ_ _ _=>none)
  (λ_ _ _ _=>none)
  (λ_ _=>none)
  (λ_ _ _ _=>none)
  (λ_ _ _ _=>none)
  (λ_ _=>none)
  (λ_ _ _ _ _ _ _=>none)
  (λ_ _ _ _ _ _=>none)
  (λ_ _ _ _ _ _ _=>none)
  (λ_ _=>none)
  (λ_ _ _=>none)
  (λ_ _=>none)
  (λ_ _ _ _ _ _ _=>none)
  (λa _ ks l=>AfT ks l a)
  (λ_ _ _ _=>none)
  (λ_ _=>none)
  (λ_ _ _ _ _=>none)
  ⟨⟩ (λ_ _ _ _=>⟨⟩) v
def AWu(v:V):(List CK)->(V)->Option Bool:=
 V.rec (motive_1:=λ_=>(List CK)->(V)->Option Bool) (motive_2:=λ_=>PUnit)
  (λ_ _=>none)
  (λ_ _ _ _ _=>none)
  (λ_ _ _=>none)
  (λ_ _ _ _=>none)
  (λ_ _=>none)
  (λ_ _ _ _=>none)
  (λ_ _ _ _=>none)
  (λ_ _=>none)
  (λ_ _ _ _ _ _ _=>none)
  (λ_ _ _ _ _ _=>none)
  (λ_ _ _ _ _ _ _=>none)
  (λ_ _=>none)
  (λ_ _ _=>none)
  (λ_ _=>none)
  (λ_ _ _ _ _ _ _=>none)
  (λa _ ks y=>AQ4 y ks a)
  (λ_ _ _ _=>none)
  (λ_ _=>none)
  (λ_ _ _ _ _=>none)
  ⟨⟩ (λ_ _ _ _=>⟨⟩) v
inductive EK where
 |one (k:CK)|agg (ks:List CK)|sl|fn|map
def EK.eq(k:EK):V->V->Option Bool:=EK.rec (motive:=λ_=>V->V->Option Bool) (λk=>k.eq) (λks x y=>AWu x ks y) kSl kFn AU3 k
def V.nT(v:V):Option Nat:=
 V.rec (motive_1:=λ_=>Option Nat) (motive_2:=λ_=>PUnit)
  (none)
  (λ_ _ _=>none)
  (λ_=>none)
  (λ_ _=>none)
  (none)
  (λa _=>some a)
  (λ_ _=>none)
  (none)
  (λ_ _ _ _ _=>none)
  (λ_ _ _ _=>none)
  (λ_ _ _ _ _=>none)
  (none)
  (λ_=>none)
  (none)
  (λ_ _ _ _ _=>none)
  (λ_ _=>none)
  (λ_ _=>none)
  (none)
  (λ_ _ _=>none)
  ⟨⟩ (λ_ _ _ _=>⟨⟩) v
def V.AMD(v:V):Option (List V):=
 V.rec (motive_1:=λ_=>Option (List V)) (motive_2:=λ_=>PUnit)
  (none)
  (λ_ _ _=>none)
  (λ_=>none)
  (λ_ _=>none)
  (none)
  (λ_ _=>none)
  (λ_ _=>none)
  (none)
  (λ_ _ _ _ _=>none)
  (λ_ _ _ _=>none)
  (λ_ _ _ _ _=>none)
  (none)
  (λ_=>none)
  (none)
  (λ_ _ _ _ _=>none)
  (λl _=>some l)
  (λ_ _=>none)
  (none)
  (λ_ _ _=>none)
  ⟨⟩ (λ_ _ _ _=>⟨⟩) v
def F9(H:Heap)(id:Nat):Bool:=Option.rec (motive:=λ_=>Bool) false
 (λb=>EZ.rec (motive:=λ_=>Bool) (λesz _ _=>Ef (Nat.beq esz 1)) (λ_ _=>false) false (λ_ _ _ _ _=>false) (λ_=>false) b) (T.get H id)
def qI(ok:Nat->Bool)(x y:V):Option Bool:=
 Option.rec (motive:=λ_=>Option Bool) none (λi=>Option.rec (motive:=λ_=>Option Bool) none (λj=>Bool.rec (motive:=λ_=>Option Bool) none (some false) (band (Ef (Nat.beq i j)) (band (ok i) (ok j)))) y.nT) x.nT
def UH(ok:Nat->Bool)(x y:V):Option Bool:=Option.rec (motive:=λ_=>Option Bool) (qI ok x y) (λb=>some b) (Yo x y)
def CK.eqH(ok:Nat->Bool)(k:CK):V->V->Option Bool:=CK.rec (motive:=λ_=>V->V->Option Bool) eX iG Nv (UH ok) k
def J5(q:CK->V->V->Option Bool)(ks:List CK):List V->List V->Option Bool:=
 List.rec (motive:=λ_=>List V->List V->Option Bool) (λa b=>List.rec (motive:=λ_=>Option Bool) (List.rec (motive:=λ_=>Option Bool) (some true) (λ_ _ _=>none) b) (λ_ _ _=>none) a)
  (λk _ g a b=>List.rec (motive:=λ_=>Option Bool) none (λx xs _=>List.rec (motive:=λ_=>Option Bool) none (λy ys _=>GV (q k x y) λr=>GV (g xs ys) λr'=>some (band r r')) b) a) ks
def KL(ok:Nat->Bool)(ks:List CK)(x y:V):Option Bool:=
 Option.rec (motive:=λ_=>Option Bool) none (λl=>Option.rec (motive:=λ_=>Option Bool) none (λm=>J5 (CK.eqH ok) ks l m) y.AMD) x.AMD
inductive B2 where
 |add|sub|mul|quo|rem|and|or|xor|andNot|shl|shr|lss|leq|gtr|geq
def rD(f:Int->Int->Bool)(x y:V):Option V:=x.Cb λk a s=>y.Cb λk' b t=>BJ (band (keq k k') (Nat.beq (Nat.add s t) 0)) (mkB (f a b))
def YW(f:Nat->Nat->Nat->Nat->Bool)(x y:V):Option V:=x.EM λl c=>y.EM λm d=>mkB (f l c m d)
def ari(f:Int->Int->Int)(x y:V):Option V:=x.Cb λk a s=>y.Cb λk' b t=>BJ (keq k k') (yu k (f a b) (Nat.add s t))
def dvs(f:Int->Int->Int)(x y:V):Option V:=
 x.Cb λk a s=>y.Cb λk' b t=>BJ (band (keq k k') (band (Nat.beq t 0) (Ef (ieq b 0)))) (yu k (f a b) s)
def ATx(x y:V):Option V:=
 x.Cb λk a s=>y.Cb λk' b t=>BJ (band (keq k k') (band (Nat.beq t 0) (Ef (ieq b 0)))) (mkN k (Int.tmod a b) s)
def Aay(x y:V):Option V:=x.EM λl c=>y.EM λm d=>BJ (Nat.blt (Nat.add l m) 9223372036854775808) (ED (Nat.add l m) λn=>ED (Ab3 l c d) λe=>some (.str n e))
def AXm(x y:V):Option V:=NJ (isStr x) (Aay x y) (ari kP x y)
def AdI(x y:V):Option V:=ari (λa b=>kP a (Int.neg b)) x y
def AcJ(x y:V):Option V:=ari Int.mul x y
def AKa(k:IntKind)(a b:Int):Int:=Int.rec (motive:=λ_=>Int->IntKind->Int)
 (λm b k=>Int.rec (motive:=λ_=>Nat->IntKind->Int) (λn m k=>KN k (.ofNat (Nat.land m n))) (λn m k=>bits .and k (.ofNat m) (.negSucc n)) b m k)
 (λm b k=>bits .and k (.negSucc m) b) a b k
def AL3(x y:V):Option V:=x.Cb λk a s=>y.Cb λk' b t=>BJ (band (keq k k') (Nat.beq (Nat.add s t) 0)) (ES (AKa k a b) λm=>some (.int k m 0))
def AEc(o:BinOp)(x y:V):Option V:=x.Cb λk a s=>y.Cb λk' b t=>BJ (band (keq k k') (Nat.beq (Nat.add s t) 0)) (ES (bits o k a b) λm=>some (.int k m 0))
def Acz(a:Int)(n:Nat):Int:=Int.fdiv a (Int.ofNat (Nat.pow 2 n))
def iL(k:IntKind):Nat:=IntKind.rec 8 16 32 64 8 16 32 64 k
def AXM(x y:V):Option V:=x.Cb λk a s=>y.Cb λ_ b t=>BJ (band (Ef (nI b 0)) (Nat.beq (Nat.add s t) 0)) (ES (Acz a (Nat.min (Int.toNat b) (iL k))) λm=>some (.int k m 0))
def AZu(x y:V):Option V:=x.Cb λk a s=>y.Cb λ_ b t=>BJ (band (Ef (nI b 0)) (Nat.beq (Nat.add s t) 0)) (yu k (Int.mul a (Int.ofNat (Nat.pow 2 (Nat.min (Int.toNat b) (iL k))))) 0)
def ofB(o:Option Bool):Option V:=Option.rec none mkB o
def Az(k:EK)(neg:Bool)(x y:V):Option V:=ofB (GV (k.eq x y) λb=>some (Bool.rec (motive:=λ_=>Bool->Bool) (λb=>b) Ef neg b))
def ADY(ks:List CK)(neg:Bool)(x y:V)(H:Heap):Option V:=ofB (GV (KL (F9 H) ks x y) λb=>some (Bool.rec (motive:=λ_=>Bool->Bool) (λb=>b) Ef neg b))
def AaB(x y:V):Option V:=NJ (isStr x) (YW slt x y) (rD nI x y)
def AY7(x y:V):Option V:=NJ (isStr x) (YW (λl c m d=>Ef (slt m d l c)) x y) (rD ile x y)
def AUE(x y:V):Option V:=NJ (isStr x) (YW (λl c m d=>slt m d l c) x y) (rD (λa b=>nI b a) x y)
def AVh(x y:V):Option V:=NJ (isStr x) (YW (λl c m d=>Ef (slt l c m d)) x y) (rD (λa b=>ile b a) x y)
def B2.ev(o:B2):V->V->Option V:=B2.rec (motive:=λ_=>V->V->Option V)
 AXm AdI AcJ (dvs Int.tdiv) ATx AL3 (AEc .or) (AEc .xor) (AEc .andNot) AZu AXM AaB AY7 AUE AVh o
inductive AN where
 |mv (x:X)
 |pick (c a b:X)
 |ld1 (x:X)
 |ldn (n:Nat) (x:X)
 |ER (x:X)
 |bin (o:B2) (x y:X)
 |eq (k:EK) (neg:Bool) (x y:X)
 |not (x:X)
 |neg (x:X)
 |cvi (k:IntKind) (x:X)
 |AdE (f:Nat) (first caps:List X)
 |Dh (off:Nat) (x:X)
 |field1 (off:Nat) (x:X)
 |AE8 (off n:Nat) (x:X)
 |fO (esz:Nat) (x i:X)
 |AFC (n esz:Nat) (x i:X)
 |Adz (x i:X)
 |Aa5 (n:Nat) (x i:X)
 |ext (x:X) (i:Nat)
 |Adx (x:X)
 |jM (x:X)
 |AZv (x:X)
 |Ado (n:Nat)
 |look (c:CK) (ok:Bool) (zero:V) (m k:X)
 |build (zero:List V) (parts:List (Nat×Nat×X))
 |AWn (x:X) (lo hi:Option X)
 |slc (esz:Nat) (x:X) (lo hi mx:Option X)
 |AdG (n esz:Nat) (x:X) (lo hi:Option X)
 |Aam (x y:X)
 |Ady (x y:X)
 |cvS (x:X)
 |oI (s c:X)
 |YW (x y:X)
 |eqp (k:List CK) (neg:Bool) (x y:X)
inductive AA where
 |alloc (esz:Nat) (es:List (List V))
 |box (x:X)
 |Hg (esz cnt:Nat) (zero:List V) (parts:List (Nat×X))
 |Ku (esz bytes:Nat) (zero:List V) (l c:X)
 |nK
 |G9 (t e:Nat)
inductive AE where
 |asg (x:X)
 |st (n:Nat) (x v:X)
 |app (esz bytes:Nat) (x y:X)
 |copy (esz:Nat) (x y:X)
 |Zd (c:CK) (m k v:X)
 |del (c:CK) (m k:X)
 |AWS (m:X)
 |call (f:Nat) (args:List X)
 |gK (x:X) (args:List X)
 |defer (dp:P2) (x:X) (args:List X)
 |cvB (x:X)
inductive AO where
 |n (o:AN)|a (o:AA)|e (o:AE)
inductive IB where
 |no|to (p:P2)|ps
inductive Gd where
 |no|on (x:X) (b:Bool)
inductive I9 where
 |mk (d:IB) (g:Gd) (o:AO)
def ABp(n:Int):(Nat->Option V)->Option V:=Int.rec (motive:=λ_=>(Nat->Option V)->Option V) (λm f=>f m) (λ_ _=>none) n
def Es(v:V)(f:Nat->Option V):Option V:=v.Cb λ_ n s=>BJ (Nat.beq s 0) (ABp n f)
def FZ(x:Option X):RS->Nat->(Nat->Option V)->Option V:=
 Option.rec (motive:=λ_=>RS->Nat->(Nat->Option V)->Option V) (λ_ d f=>f d) (λx R _ f=>Es (x.ev R) f) x
def f3(a b c:Nat)(f:Nat->Nat->Nat->V):Option V:=ED a λa=>ED b λb=>ED c λc=>some (f a b c)
def LH(R:RS)(lo hi mx:Option X):Option V:=FZ mx R 0 λm=>FZ hi R 0 λh=>FZ lo R 0 λl=>BJ (band (Nat.ble l h) (band (Nat.ble h m) (Nat.beq m 0))) (some .Ae)
def YH(z:Nat)(R:RS)(lo hi mx:Option X)(id off ln cap esz:Nat):Option V:=BJ (Nat.beq z esz) (FZ mx R cap λm=>FZ hi R ln λh=>FZ lo R 0 λl=>
 BJ (band (Nat.ble l h) (band (Nat.ble h m) (Nat.ble m cap))) (f3 (Nat.add off l) (Nat.sub h l) (Nat.sub m l) λo d c=>.sl id o d c esz))
def J4(R:RS)(lo hi:Option X)(id off ln esz:Nat):Option V:=FZ hi R ln λh=>FZ lo R 0 λl=>
 BJ (band (Nat.ble l h) (Nat.ble h ln)) (f3 (Nat.add off l) (Nat.sub h l) 0 λo d _=>.gsl id o d esz)
def Kw(R:RS)(lo hi:Option X)(mx:X)(id off ln esz:Nat):Option V:=Es (mx.ev R) λm=>FZ hi R 0 λh=>FZ lo R 0 λl=>
 BJ (band (Nat.ble l h) (band (Nat.ble h m) (Nat.ble m ln))) (f3 (Nat.add off l) (Nat.sub h l) (Nat.sub m l) λo d c=>.sl id o d c esz)
def JR(z:Nat)(R:RS)(lo hi mx:Option X)(id off ln esz:Nat):Option V:=
 BJ (Nat.beq z esz) (Option.rec (motive:=λ_=>Option V) (J4 R lo hi id off ln esz) (λmx=>Kw R lo hi mx id off ln esz) mx)
def L6(z:Nat)(R:RS)(lo hi mx:Option X)(b off ln cap esz:Nat):Option V:=FZ hi R ln λh=>FZ lo R 0 λl=>
 Option.rec (motive:=λ_=>Option V) (BJ (band (Nat.ble l h) (Nat.ble h cap)) (f3 (Nat.add off (Nat.mul l z)) (Nat.sub h l) (Nat.sub cap l) λo d c=>.rsl b o d c esz)) (λ_=>none) mx
def Gl(z:Nat)(x:V)(R:RS)(lo hi mx:Option X):Option V:=x.AHm (LH R lo hi mx) (YH z R lo hi mx) (JR z R lo hi mx) (L6 z R lo hi mx)
def H8(x:V)(R:RS)(lo hi:Option X):Option V:=
 x.EM λln c=>FZ hi R ln λh=>FZ lo R 0 λl=>BJ (band (Nat.ble l h) (Nat.ble h ln)) (f3 (Nat.sub h l) (AdM c l h) 0 λd c _=>.str d c)
def Ad(esz:Nat)(x i:V):Option V:=Es i λi=>x.AHm none
 (λid off ln _ e=>BJ (band (Nat.beq e esz) (Nat.blt i ln)) (ED (Nat.mul (Nat.add off i) esz) λo=>some (.ptr id o)))
 (λid off ln e=>BJ (band (Nat.beq e esz) (Nat.blt i ln)) (ED (Nat.mul (Nat.add off i) esz) λo=>some (.ptr id o)))
 (λb off ln _ _=>BJ (Nat.blt i ln) (ED (Nat.add off (Nat.mul i esz)) λo=>some (.gptr b o)))
def AL(off:Nat)(x:V):Option V:=x.XK (λid o=>ED (Nat.add o off) λo=>some (.ptr id o)) (λb o=>ED (Nat.add o off) λo=>some (.gptr b o))
abbrev ME:=List (V×V×Nat)
def KY(c:CK)(k:V)(es:ME):Nat->Option (Option (Nat×V)):=
 List.rec (motive:=λ_=>Nat->Option (Option (Nat×V))) (λ_=>some none)
  (λe _ g i=>Bl (c.eq e.1 k) λr=>Bool.rec (g (Nat.succ i)) (some (some (i,e.2.1))) r) es
def AgG(b:EZ):(ME->Nat->Option V)->Option V:=EZ.rec (motive:=λ_=>(ME->Nat->Option V)->Option V) (λ_ _ _ _=>none) (λes c f=>f es c) (λ_=>none) (λ_ _ _ _ _ _=>none) (λ_ _=>none) b
def EL(H:Heap)(m:V)(f:ME->Nat->Option V):Option V:=m.lY (f [] 0) λid=>Option.rec (motive:=λ_=>(ME->Nat->Option V)->Option V) (λ_=>none) AgG (T.get H id) f
def IQ(parts:List (Nat×Nat×X)):RS->List V->List V:=
 List.rec (motive:=λ_=>RS->List V->List V) (λ_ l=>l) (λp _ g R l=>g R (jT (CZ (p.2.2.ev R)) p.1 l)) parts
def dI(v:V):Bool:=
 V.rec (motive_1:=λ_=>Bool) (motive_2:=λ_=>PUnit)
  (false)
  (λ_ _ _=>true)
  (λ_=>true)
  (λ_ _=>true)
  (true)
  (λ_ _=>true)
  (λ_ _=>true)
  (true)
  (λ_ _ _ _ _=>true)
  (λ_ _ _ _=>true)
  (λ_ _ _ _ _=>true)
  (true)
  (λ_=>true)
  (true)
  (λ_ _ _ _ _=>true)
  (λ_ _=>true)
  (λ_ _=>false)
  (true)
  (λ_ _ _=>true)
  ⟨⟩ (λ_ _ _ _=>⟨⟩) v
def Eh(parts:List (Nat×Nat×X)):RS->Bool:=
 List.rec (motive:=λ_=>RS->Bool) (λ_=>true) (λp _ g R=>band (band (dI (p.2.2.ev R)) (Nat.beq (len (CZ (p.2.2.ev R))) p.2.1)) (g R)) parts
abbrev Fh:=List LV
def Ej(H:Heap)(id esz:Nat)(n:Nat):Nat->Option Fh:=
 Nat.rec (motive:=λ_=>Nat->Option Fh) (λ_=>some [])
  (λ_ g o=>Bl (ldH H id (Nat.mul o esz) esz) λL=>Bl (g (Nat.succ o)) λLS=>some (L::LS)) n
def Zy(G:AQ)(b esz:Nat)(n:Nat):Nat->Option Fh:=
 Nat.rec (motive:=λ_=>Nat->Option Fh) (λ_=>some [])
  (λ_ g o=>Bl (G b o esz) λL=>Bl (g (Nat.add o esz)) λLS=>some (L::LS)) n
def FW(n:Nat):Nat->Fh:=
 Nat.rec (motive:=λ_=>Nat->Fh) (λ_=>[]) (λ_ g c=>[.int .u8 (.ofNat (Nat.mod c 256)) 0]::g (Nat.div c 256)) n
def elems(v:V):(AQ)->(Heap)->(Nat)->Option Fh:=
 V.rec (motive_1:=λ_=>(AQ)->(Heap)->(Nat)->Option Fh) (motive_2:=λ_=>PUnit)
  (λ_ _ _=>none)
  (λ_ _ _ _ _ _=>none)
  (λ_ _ _ _=>none)
  (λa b _ _ z=>Bool.rec (motive:=λ_=>Option Fh) none (some (FW a b)) (Nat.beq 1 z))
  (λ_ _ _=>none)
  (λ_ _ _ _ _=>none)
  (λ_ _ _ _ _=>none)
  (λ_ _ _=>some [])
  (λa b c _ e _ H z=>Bool.rec (motive:=λ_=>Option Fh) none (Ej H a z c b) (Nat.beq e z))
  (λa b c d _ H z=>Bool.rec (motive:=λ_=>Option Fh) none (Ej H a z c b) (Nat.beq d z))
  (λa b c _ _ G _ z=>Zy G a z c b)
  (λ_ _ _=>none)
  (λ_ _ _ _=>none)
  (λ_ _ _=>none)
  (λ_ _ _ _ _ _ _ _=>none)
  (λ_ _ _ _ _=>none)
  (λ_ _ _ _ _=>none)
  (λ_ _ _=>none)
  (λ_ _ _ _ _ _=>none)
  ⟨⟩ (λ_ _ _ _=>⟨⟩) v
def byteOf(v:V):Option Nat:=
 V.rec (motive_1:=λ_=>Option Nat) (motive_2:=λ_=>PUnit)
  (none)
  (λa b c=>Int.rec (motive:=λ_=>Nat->Option Nat) (λm t=>Bool.rec none (some m) (band (Nat.beq (kno a) 4) (band (Nat.blt m 256) (Nat.beq t 0)))) (λ_ _=>none) b c)
  (λ_=>none)
  (λ_ _=>none)
  (none)
  (λ_ _=>none)
  (λ_ _=>none)
  (none)
  (λ_ _ _ _ _=>none)
  (λ_ _ _ _=>none)
  (λ_ _ _ _ _=>none)
  (none)
  (λ_=>none)
  (none)
  (λ_ _ _ _ _=>none)
  (λ_ _=>none)
  (λ_ _=>none)
  (none)
  (λ_ _ _=>none)
  ⟨⟩ (λ_ _ _ _=>⟨⟩) v
def U0(l:Fh):Option Nat:=
 List.rec (motive:=λ_=>Option Nat) (some 0) (λx _ g=>Bl (nth x 0) λv=>Bl (byteOf v) λm=>Bl g λc=>some (Nat.add m (Nat.mul 256 c))) l
def LU(b:Nat)(f:Nat):Nat->Nat->Int:=
 Nat.rec (motive:=λ_=>Nat->Nat->Int) (λ_ _=>.negSucc 0)
  (λ_ g c i=>Bool.rec (g (Nat.div c 256) (Nat.succ i)) (.ofNat i) (Nat.beq (Nat.mod c 256) b)) f
abbrev H9:=AQ->RS->Heap->Option V
def eMv(x:X):H9:=λ_ R _=>some (x.ev R)
def eNo(b:X)(R:RS):Option V:=some (b.ev R)
def nV(c a b:X):H9:=λ_ R _=>(c.ev R).IE λt=>NJ t (some (a.ev R)) (some (b.ev R))
def AOi(x:X):H9:=λG R H=>Fg (Zb (x.ev R) G H 1) λL=>nth L 0
def AMe(n:Nat)(x:X):H9:=λG R H=>Fg (Zb (x.ev R) G H n) λL=>some (.agg L)
def ZL(x:X):H9:=λ_ R _=>AX (x.ev R)
def AKj(o:B2)(x y:X):H9:=λ_ R _=>o.ev (x.ev R) (y.ev R)
def eEq(k:EK)(neg:Bool)(x y:X):H9:=λ_ R _=>Az k neg (x.ev R) (y.ev R)
def APN(x:X):H9:=λ_ R _=>(x.ev R).IE λb=>mkB (Ef b)
def AOQ(x:X):H9:=λ_ R _=>(x.ev R).Cb λk n s=>yu k (Int.neg n) s
def ALu(k:IntKind)(x:X):H9:=λ_ R _=>(x.ev R).Cb λ_ n s=>yu k n s
def nJ(f:Nat)(a c:List X):H9:=λ_ R _=>some (.fn f (Ep a R) (Ep c R))
def aP(off:Nat)(x:X):H9:=λ_ R _=>AL off (x.ev R)
def QS(off:Nat)(x:X):H9:=λ_ R _=>(x.ev R).Ie λl=>nth l off
def QW(off n:Nat)(x:X):H9:=λ_ R _=>(x.ev R).Ie λl=>some (.agg (GH n (Ib off l)))
def Yh(esz:Nat)(x i:X):H9:=λ_ R _=>Ad esz (x.ev R) (i.ev R)
def Pv(n esz:Nat)(x i:X):H9:=λ_ R _=>Es (i.ev R) λi=>BJ (Nat.blt i n) (AL (Nat.mul i esz) (x.ev R))
def nH(x i:X):H9:=λ_ R _=>(x.ev R).EM λln c=>Es (i.ev R) λi=>BJ (Nat.blt i ln) (ED (AOW c i) λb=>some (.int .u8 (.ofNat b) 0))
def mZ(n:Nat)(x i:X):H9:=λ_ R _=>(x.ev R).Ie λl=>Es (i.ev R) λi=>BJ (Nat.blt i n) (nth l i)
def AHV(x:X)(i:Nat):H9:=λ_ R _=>(x.ev R).eU λl=>nth l i
def nU(x:X):H9:=λ_ R _=>(x.ev R).EM λn _=>some (.int .i64 (.ofNat n) 0)
def nP(x:X):H9:=λ_ R _=>lenV (x.ev R)
def ni(x:X):H9:=λ_ R H=>EL H (x.ev R) λes _=>ED (len es) λn=>some (.int .i64 (.ofNat n) 0)
def Ac9(n:Nat):H9:=λ_ _ _=>some (.int .i64 (.ofNat n) 0)
def ny(ok:Bool)(z:V)(r:Option (Nat×V)):Option V:=
 Option.rec (motive:=λ_=>Option V) (NJ ok (some (.BP [z,.bool false])) (some z)) (λp=>NJ ok (some (.BP [p.2,.bool true])) (some p.2)) r
def oW(c:CK)(ok:Bool)(z:V)(m k:X):H9:=λ_ R H=>EL H (m.ev R) λes _=>Bl (KY c (k.ev R) es 0) (ny ok z)
def ZP(z:LV)(ps:List (Nat×Nat×X)):H9:=λ_ R _=>BJ (Eh ps R) (some (.agg (IQ ps R z)))
def Vk(x:X)(lo hi:Option X):H9:=λ_ R _=>H8 (x.ev R) R lo hi
def AM8(z:Nat)(x:X)(lo hi mx:Option X):H9:=λ_ R _=>Gl z (x.ev R) R lo hi mx
def YK(n esz:Nat)(x:X)(lo hi:Option X):H9:=λ_ R _=>(x.ev R).XK (λid o=>FZ hi R n λh=>FZ lo R 0 λl=>
 BJ (band (Nat.beq (Nat.mod o esz) 0) (band (Nat.ble l h) (Nat.ble h n))) (f3 (Nat.add (Nat.div o esz) l) (Nat.sub h l) (Nat.sub n l) λa b c=>.sl id a b c esz)) (λ_ _=>none)
def ANp(x y:X):H9:=λ_ R _=>(x.ev R).Cb λk a s=>(y.ev R).Cb λk' b t=>BJ (band (keq k k') (Nat.beq (Nat.add s t) 0)) (some (.int k (Bool.rec a b (nI a b)) 0))
def APV(x y:X):H9:=λ_ R _=>(x.ev R).Cb λk a s=>(y.ev R).Cb λk' b t=>BJ (band (keq k k') (Nat.beq (Nat.add s t) 0)) (some (.int k (Bool.rec a b (nI b a)) 0))
def AJR(x:X):H9:=λG R H=>BJ (Ef (isStr (x.ev R))) (Bl (elems (x.ev R) G H 1) λl=>Bl (U0 l) λc=>f3 (len l) c 0 λn c _=>.str n c)
def ZV(s c:X):H9:=λ_ R _=>(s.ev R).EM λn cd=>(c.ev R).Cb λk b _=>BJ (Nat.beq (kno k) 4) (ABp b λb=>BJ (Nat.blt b 256) (ES (LU b n cd 0) λi=>some (.int .i64 i 0)))
def fK(x y:V):Option V:=x.EM λl c=>y.EM λm d=>some (.int .i64 (Bool.rec (Bool.rec (.ofNat 0) (.ofNat 1) (slt m d l c)) (.negSucc 0) (slt l c m d)) 0)
def AI8(k:List CK)(neg:Bool)(x y:X):H9:=λ_ R H=>ADY k neg (x.ev R) (y.ev R) H
def og(x y:X):H9:=λ_ R _=>fK (x.ev R) (y.ev R)
def AN.ev(o:AN):H9:=AN.rec (motive:=λ_=>H9)
 eMv nV AOi AMe ZL AKj eEq APN AOQ ALu nJ aP QS QW Yh Pv nH mZ AHV nU nP ni Ac9 oW ZP Vk AM8 YK ANp APV AJR ZV og AI8 o
def yB(L:LV)(n:Nat):T LV->T LV:=
 Nat.rec (motive:=λ_=>T LV->T LV) (λt=>t) (λi g t=>g (T.set t i L)) n
def DW(LS:Fh):Nat->T LV->T LV:=
 List.rec (motive:=λ_=>Nat->T LV->T LV) (λ_ t=>t) (λL _ g i t=>g (Nat.succ i) (T.set t i L)) LS
def Ih(parts:List (Nat×X)):RS->T LV->T LV:=
 List.rec (motive:=λ_=>RS->T LV->T LV) (λ_ t=>t) (λp _ g R t=>g R (T.set t p.1 (CZ (p.2.ev R)))) parts
def FN(parts:List (Nat×X)):RS->Nat->Nat->Bool:=
 List.rec (motive:=λ_=>RS->Nat->Nat->Bool) (λ_ _ _=>true) (λp _ g R esz cnt=>band (band (dI (p.2.ev R)) (band (Nat.blt p.1 cnt) (Nat.beq (len (CZ (p.2.ev R))) esz))) (g R esz cnt)) parts
def V.AFu(v:V):(Nat->Prop)->Prop:=
 V.rec (motive_1:=λ_=>(Nat->Prop)->Prop) (motive_2:=λ_=>PUnit)
  (λ_=>False)
  (λ_ _ _ _=>False)
  (λ_ _=>False)
  (λ_ _ _=>False)
  (λ_=>False)
  (λa _ f=>f a)
  (λ_ _ _=>False)
  (λ_=>False)
  (λ_ _ _ _ _ _=>False)
  (λ_ _ _ _ _=>False)
  (λ_ _ _ _ _ _=>False)
  (λ_=>False)
  (λ_ _=>False)
  (λ_=>False)
  (λ_ _ _ _ _ _=>False)
  (λ_ _ _=>False)
  (λ_ _ _=>False)
  (λ_=>False)
  (λ_ _ _ _=>False)
  ⟨⟩ (λ_ _ _ _=>⟨⟩) v
def V.Kq(v:V):(Nat->Nat->Prop)->Prop:=
 V.rec (motive_1:=λ_=>(Nat->Nat->Prop)->Prop) (motive_2:=λ_=>PUnit)
  (λ_=>False)
  (λ_ _ _ _=>False)
  (λ_ _=>False)
  (λ_ _ _=>False)
  (λ_=>False)
  (λa b f=>f a b)
  (λ_ _ _=>False)
  (λ_=>False)
  (λ_ _ _ _ _ _=>False)
  (λ_ _ _ _ _=>False)
  (λ_ _ _ _ _ _=>False)
  (λ_=>False)
  (λ_ _=>False)
  (λ_=>False)
  (λ_ _ _ _ _ _=>False)
  (λ_ _ _=>False)
  (λ_ _ _=>False)
  (λ_=>False)
  (λ_ _ _ _=>False)
  ⟨⟩ (λ_ _ _ _=>⟨⟩) v
abbrev KA:=EZ->(Nat->V)->Prop
abbrev AlT:=RS->KA->Prop
def Bq(b:Bool)(p:Prop):Prop:=Bool.rec (motive:=λ_=>Prop->Prop) (λ_=>False) (λp=>p) b p
def ZU(v:V)(f:Nat->Prop):Prop:=CJ (Es v λn=>some (.ptr n 0)) λv=>V.AFu v f
def Ag(esz:Nat)(es:Fh):AlT:=λ_ k=>DK (len es) λn=>k (.arr esz n (DW es 0 .e)) λid=>.ptr id 0
def Vz(x:X):AlT:=λR k=>Bq (dI (x.ev R)) (DK (len (CZ (x.ev R))) λe=>k (.arr e 1 (T.set .e 0 (CZ (x.ev R)))) λid=>.ptr id 0)
def Ah(esz cnt:Nat)(z:LV)(ps:List (Nat×X)):AlT:=λR k=>Bq (FN ps R esz cnt) (k (.arr esz cnt (Ih ps R (yB z cnt .e))) λid=>.sl id 0 cnt cnt esz)
def DU(esz bs:Nat)(z:LV)(l c:X):AlT:=λR k=>ZU (l.ev R) λl=>ZU (c.ev R) λc=>
 Bq (band (Nat.ble l c) (Nat.ble (Nat.mul bs c) 281474976710656)) (k (.arr esz c (yB z c .e)) λid=>.sl id 0 l c esz)
def LK:AlT:=λ_ k=>k (.map [] 0) λid=>.map id
def Acp(t e:Nat):AlT:=λ_ k=>k (.G9 t e 0 0 0) λid=>.ptr id 0
def AA.al(o:AA):AlT:=AA.rec (motive:=λ_=>AlT) Ag Vz Ah DU LK Acp o
abbrev K:=Cc->Heap->Nat->Prop
abbrev KV:=V->Heap->Nat->Prop
abbrev AP:=Nat->List V->Heap->Nat->KV->Prop
def Js(need bytes:Nat):Bool:=Nat.ble (Nat.mul need bytes) 140737488355328
abbrev kC:=AQ->Nat->Nat->Fh->Heap->Nat->KV->Prop
def Hy(esz bs:Nat)(OS LS:Fh)(H:Heap)(n:Nat)(k:KV):Prop:=
 DK (Nat.add (len OS) (len LS)) λneed=>Bq (Js need bs) (DK n λn=>k (.gsl n 0 need esz) (T.set H n (.arr esz need (DW LS (len OS) (DW OS 0 .e)))) (Nat.succ n))
def AZe:kC:=λ_ esz bs LS H n k=>List.rec (motive:=λ_=>Prop) (k .Ae H n) (λ_ _ _=>Hy esz bs [] LS H n k) LS
def ARK(id off ln cap esz need:Nat)(LS:Fh)(H:Heap)(n:Nat)(k:KV)(b:EZ):Prop:=
 EZ.rec (motive:=λ_=>Prop) (λesz' cnt c=>Bq (band (Nat.beq esz esz') (Nat.ble (Nat.add off need) cnt)) (k (.sl id off need cap esz) (T.set H id (.arr esz cnt (DW LS (Nat.add off ln) c))) n)) (λ_ _=>False) False (λ_ _ _ _ _=>False) (λ_=>False) b
def ASs(id off ln cap e:Nat):kC:=λ_ esz bs LS H n k=>Bq (Nat.beq e esz) (DK (Nat.add ln (len LS)) λneed=>
 Bool.rec (motive:=λ_=>Prop) (CJ (Ej H id esz ln off) λOS=>Hy esz bs OS LS H n k) (CJ (T.get H id) λb=>ARK id off ln cap esz need LS H n k b) (Nat.ble need cap))
def KZ(id off ln esz bs:Nat)(LS:Fh)(H:Heap)(n:Nat)(k:KV)(b:EZ):Prop:=
 EZ.rec (motive:=λ_=>Prop) (λesz' cnt c=>DK (Nat.add ln (len LS)) λneed=>Bq (band (Js need bs) (band (Nat.beq esz esz') (Nat.ble (Nat.add off ln) cnt)))
  (DK n λn=>Nat.rec (motive:=λ_=>Prop)
   (k (.gsl n 0 need esz) (T.set (T.set H id .dead) n (.arr esz need (DW LS ln c))) (Nat.succ n))
   (λ_ _=>CJ (Ej H id esz ln off) λOS=>k (.gsl n 0 need esz) (T.set (T.set H id .dead) n (.arr esz need (DW LS ln (DW OS 0 .e)))) (Nat.succ n)) off))
  (λ_ _=>False) False (λ_ _ _ _ _=>False) (λ_=>False) b
def AF3(id off ln e:Nat):kC:=λ_ esz bs LS H n k=>Bq (Nat.beq e esz) (List.rec (motive:=λ_=>Prop) (k (.gsl id off ln esz) H n)
 (λ_ _ _=>CJ (T.get H id) λb=>KZ id off ln esz bs LS H n k b) LS)
def ADA(b off ln cap e:Nat):kC:=λG esz bs LS H n k=>Bq (Nat.blt cap (Nat.add ln (len LS))) (CJ (Zy G b esz ln off) λOS=>Hy esz bs OS LS H n k)
def F7:kC:=λ_ _ _ _ _ _ _=>False
def wV(v:V):kC:=
 V.rec (motive_1:=λ_=>kC) (motive_2:=λ_=>PUnit)
  (F7)
  (λ_ _ _=>F7)
  (λ_=>F7)
  (λ_ _=>F7)
  (F7)
  (λ_ _=>F7)
  (λ_ _=>F7)
  (AZe)
  (λa b c d e=>ASs a b c d e)
  (λa b c d=>AF3 a b c d)
  (λa b c d e=>ADA a b c d e)
  (F7)
  (λ_=>F7)
  (F7)
  (λ_ _ _ _ _=>F7)
  (λ_ _=>F7)
  (λ_ _=>F7)
  (F7)
  (λ_ _ _=>F7)
  ⟨⟩ (λ_ _ _ _=>⟨⟩) v
def AVy(id off esz:Nat)(LS:Fh)(H:Heap)(n:Nat)(k:KV)(b:EZ):Prop:=
 EZ.rec (motive:=λ_=>Prop) (λesz' cnt c=>Bq (band (Nat.beq esz esz') (Nat.ble (Nat.add off (len LS)) cnt)) (DK (len LS) λm=>k (.int .i64 (.ofNat m) 0) (T.set H id (.arr esz cnt (DW LS off c))) n)) (λ_ _=>False) False (λ_ _ _ _ _=>False) (λ_=>False) b
abbrev CpT:=Nat->Fh->Heap->Nat->KV->Prop
def Tn(id off ln:Nat):CpT:=λesz LS H n k=>CJ (T.get H id) λb=>AVy id off esz (GH ln LS) H n k b
def WR(v:V):(Nat)->(Fh)->(Heap)->(Nat)->(KV)->Prop:=
 V.rec (motive_1:=λ_=>(Nat)->(Fh)->(Heap)->(Nat)->(KV)->Prop) (motive_2:=λ_=>PUnit)
  (λ_ _ _ _ _=>False)
  (λ_ _ _ _ _ _ _ _=>False)
  (λ_ _ _ _ _ _=>False)
  (λ_ _ _ _ _ _ _=>False)
  (λ_ _ _ _ _=>False)
  (λ_ _ _ _ _ _ _=>False)
  (λ_ _ _ _ _ _ _=>False)
  (λ_ _ H n k=>k (.int .i64 (.ofNat 0) 0) H n)
  (λa b c _ e z L H n k=>Bq (Nat.beq e z) (Tn a b c z L H n k))
  (λa b c d z L H n k=>Bq (Nat.beq d z) (Tn a b c z L H n k))
  (λ_ _ _ _ _ _ _ _ _ _=>False)
  (λ_ _ _ _ _=>False)
  (λ_ _ _ _ _ _=>False)
  (λ_ _ _ _ _=>False)
  (λ_ _ _ _ _ _ _ _ _ _=>False)
  (λ_ _ _ _ _ _ _=>False)
  (λ_ _ _ _ _ _ _=>False)
  (λ_ _ _ _ _=>False)
  (λ_ _ _ _ _ _ _ _=>False)
  ⟨⟩ (λ_ _ _ _=>⟨⟩) v
def U9{α:Type}(l:List α):Nat->List α:=
 List.rec (motive:=λ_=>Nat->List α) (λ_=>[]) (λy ys g i=>Nat.rec (motive:=λ_=>List α) ys (λi _=>y::g i) i) l
def AdA(b:EZ):(ME->Nat->Option EZ)->Option EZ:=EZ.rec (motive:=λ_=>(ME->Nat->Option EZ)->Option EZ) (λ_ _ _ _=>none) (λes c f=>f es c) (λ_=>none) (λ_ _ _ _ _ _=>none) (λ_ _=>none) b
def Abf(H:Heap)(id:Nat)(f:ME->Nat->Option EZ)(g:Heap->Prop):Prop:=CJ (T.get H id) λb=>CJ (AdA b f) λb=>g (T.set H id b)
def Oi(v:V):(Heap)->(ME->Nat->Option EZ)->(Heap->Prop)->Prop:=
 V.rec (motive_1:=λ_=>(Heap)->(ME->Nat->Option EZ)->(Heap->Prop)->Prop) (motive_2:=λ_=>PUnit)
  (λ_ _ _=>False)
  (λ_ _ _ _ _ _=>False)
  (λ_ _ _ _=>False)
  (λ_ _ _ _ _=>False)
  (λ_ _ _=>False)
  (λ_ _ _ _ _=>False)
  (λ_ _ _ _ _=>False)
  (λ_ _ _=>False)
  (λ_ _ _ _ _ _ _ _=>False)
  (λ_ _ _ _ _ _ _=>False)
  (λ_ _ _ _ _ _ _ _=>False)
  (λ_ _ _=>False)
  (λa H f g=>Abf H a f g)
  (λ_ _ _=>False)
  (λ_ _ _ _ _ _ _ _=>False)
  (λ_ _ _ _ _=>False)
  (λ_ _ _ _ _=>False)
  (λ_ _ _=>False)
  (λ_ _ _ _ _ _=>False)
  ⟨⟩ (λ_ _ _ _=>⟨⟩) v
def V.Eu(v:V):(Nat->LV->LV->Prop)->Prop:=
 V.rec (motive_1:=λ_=>(Nat->LV->LV->Prop)->Prop) (motive_2:=λ_=>PUnit)
  (λ_=>False)
  (λ_ _ _ _=>False)
  (λ_ _=>False)
  (λ_ _ _=>False)
  (λ_=>False)
  (λ_ _ _=>False)
  (λ_ _ _=>False)
  (λ_=>False)
  (λ_ _ _ _ _ _=>False)
  (λ_ _ _ _ _=>False)
  (λ_ _ _ _ _ _=>False)
  (λ_=>False)
  (λ_ _=>False)
  (λ_=>False)
  (λa b c _ _ f=>f a b c)
  (λ_ _ _=>False)
  (λ_ _ _=>False)
  (λ_=>False)
  (λ_ _ _ _=>False)
  ⟨⟩ (λ_ _ _ _=>⟨⟩) v
def Je(v:V):LV:=
 V.rec (motive_1:=λ_=>LV) (motive_2:=λ_=>PUnit)
  ([])
  (λ_ _ _=>[])
  (λ_=>[])
  (λ_ _=>[])
  ([])
  (λ_ _=>[])
  (λ_ _=>[])
  ([])
  (λ_ _ _ _ _=>[])
  (λ_ _ _ _=>[])
  (λ_ _ _ _ _=>[])
  ([])
  (λ_=>[])
  ([])
  (λ_ _ _ _ _=>[])
  (λ_ _=>[])
  (λa _=>a)
  ([])
  (λ_ _ _=>[])
  ⟨⟩ (λ_ _ _ _=>⟨⟩) v
abbrev wW:=AQ->AP->RS->Heap->Nat->KV->Prop
def AfH(x:X):wW:=λ_ _ R H n k=>k (x.ev R) H n
def xSt(sz:Nat)(x v:X):wW:=λ_ _ R H n k=>Bq (band (dI (v.ev R)) (Nat.beq (len (CZ (v.ev R))) sz)) (CJ (stP (x.ev R) H sz (CZ (v.ev R))) λH=>k .undef H n)
def Af1(esz bs:Nat)(x y:X):wW:=λG _ R H n k=>CJ (elems (y.ev R) G H esz) λLS=>wV (x.ev R) G esz bs LS H n k
def AcR(esz:Nat)(x y:X):wW:=λG _ R H n k=>CJ (elems (y.ev R) G H esz) λLS=>WR (x.ev R) esz LS H n k
def AM5(ck:CK)(key v:V)(es:ME)(c:Nat):Option EZ:=Bl (KY ck key es 0) λr=>
 Option.rec (motive:=λ_=>Option EZ) (some (.map (cat es [(key,v,c)]) (Nat.succ c))) (λp=>Bl (nth es p.1) λe=>some (.map (TG (e.1,v,e.2.2) es p.1) c)) r
def ALh(ck:CK)(key:V)(es:ME)(c:Nat):Option EZ:=Bl (KY ck key es 0) λr=>
 Option.rec (motive:=λ_=>Option EZ) (some (.map es c)) (λp=>some (.map (U9 es p.1) c)) r
def AfU(c:CK)(m key v:X):wW:=λ_ _ R H n k=>Oi (m.ev R) H (AM5 c (key.ev R) (v.ev R)) λH=>k .undef H n
def AgJ(c:CK)(m key:X):wW:=λ_ _ R H n k=>Oi (m.ev R) H (ALh c (key.ev R)) λH=>k (.BP []) H n
def AfN(m:X):wW:=λ_ _ R H n k=>Oi (m.ev R) H (λ_ c=>some (.map [] c)) λH=>k (.BP []) H n
def Ad0(f:Nat)(args:List X):wW:=λ_ call R H n k=>call f (Ep args R) H n k
def AZR(x:X)(args:List X):wW:=λ_ call R H n k=>V.Eu (x.ev R) λf a c=>call f (cat a (cat (Ep args R) c)) H n k
def AVA(dp:P2)(x:X)(args:List X):wW:=λ_ _ R H n k=>V.Eu (x.ev R) λf a c=>k (.BP (.fn f (cat a (Ep args R)) c::Je (Dq (T.Bf dp R.rg)))) H n
def AgL(x:X):wW:=λ_ _ R H n k=>CJ ((x.ev R).EM λl c=>some (.ptr l c)) λv=>V.Kq v λl c=>
 DK n λn=>k (.gsl n 0 l 1) (T.set H n (.arr 1 l (DW (FW l c) 0 .e))) (Nat.succ n)
def AE.ex(o:AE):wW:=AE.rec (motive:=λ_=>wW) AfH xSt Af1 AcR AfU AgJ AfN Ad0 AZR AVA AgL o
def Afo(p:P2)(v:V)(E:RS):RS:=RS.rec (motive:=λ_=>P2->V->RS) (λL R p v=>.mk L (T.Dx v p R)) E p v
def Abu(v:V)(E:RS):RS:=RS.rec (motive:=λ_=>V->RS) (λL R v=>.mk (v::L) R) E v
def CX(d:IB)(v:V):RS->RS:=IB.rec (motive:=λ_=>V->RS->RS) (λ_ R=>R) Afo Abu d v
abbrev KE:=RS->Heap->Nat->Prop
abbrev XoT:=AQ->AP->IB->RS->Heap->Nat->KE->Prop
def oN(o:AN):XoT:=λG _ d R H n k=>AB (o.ev G R H) λv=>k (CX d v R) H n
def oA(o:AA):XoT:=λ_ _ d R H n k=>o.al R λb f=>DK n λn=>k (CX d (f n) R) (T.set H n b) (Nat.succ n)
def oE(o:AE):XoT:=λG call d R H n k=>o.ex G call R H n λv H n=>k (CX d v R) H n
def AO.ex(o:AO):XoT:=AO.rec (motive:=λ_=>XoT) oN oA oE o
def AV(v:V)(b:Bool)(yes no:Prop):Prop:=v.ZO λt=>Bool.rec (motive:=λ_=>Prop->Prop->Prop) (λ_ n=>n) (λy _=>y) (AFh t b) yes no
def Gp(v:V):(Bool)->(Prop)->(Prop)->Prop:=
 V.rec (motive_1:=λ_=>(Bool)->(Prop)->(Prop)->Prop) (motive_2:=λ_=>PUnit)
  (λ_ _ _=>False)
  (λ_ _ _ _ _ _=>False)
  (λa b' yes no=>Bool.rec (motive:=λ_=>Prop->Prop->Prop) (λ_ n=>n) (λy _=>y) (AFh a b') yes no)
  (λ_ _ _ _ _=>False)
  (λ_ _ _=>False)
  (λ_ _ _ _ _=>False)
  (λ_ _ _ _ _=>False)
  (λ_ _ _=>False)
  (λ_ _ _ _ _ _ _ _=>False)
  (λ_ _ _ _ _ _ _=>False)
  (λ_ _ _ _ _ _ _ _=>False)
  (λ_ _ _=>False)
  (λ_ _ _ _=>False)
  (λ_ _ _=>False)
  (λ_ _ _ _ _ _ _ _=>False)
  (λ_ _ _ _ _=>False)
  (λa _ _ _ no=>List.rec (motive:=λ_=>Prop) no (λ_ _ _=>False) a)
  (λ_ _ _=>False)
  (λ_ _ _ _ _ _=>False)
  ⟨⟩ (λ_ _ _ _=>⟨⟩) v
abbrev Nu:=AQ->AP->RS->Heap->Nat->KE->Prop
def gNo(d:IB)(o:AO):Nu:=λG call R H n k=>o.ex G call d R H n k
def gOn(x:X)(b:Bool)(d:IB)(o:AO):Nu:=λG call R H n k=>Gp (x.ev R) b (o.ex G call d R H n k) (k (CX d (.BP []) R) H n)
def I9.ex(o:I9):Nu:=I9.rec (motive:=λ_=>Nu) (λd g o=>Gd.rec (motive:=λ_=>IB->AO->Nu) gNo gOn g d o) o
def AEI(v:V):(IntKind)->(Int)->(Nat)->Bool:=
 V.rec (motive_1:=λ_=>(IntKind)->(Int)->(Nat)->Bool) (motive_2:=λ_=>PUnit)
  (λ_ _ _=>false)
  (λa b c k n s=>band (keq k a) (band (ieq n b) (band (Nat.beq s 0) (Nat.beq c 0))))
  (λ_ _ _ _=>false)
  (λ_ _ _ _ _=>false)
  (λ_ _ _=>false)
  (λ_ _ _ _ _=>false)
  (λ_ _ _ _ _=>false)
  (λ_ _ _=>false)
  (λ_ _ _ _ _ _ _ _=>false)
  (λ_ _ _ _ _ _ _=>false)
  (λ_ _ _ _ _ _ _ _=>false)
  (λ_ _ _=>false)
  (λ_ _ _ _=>false)
  (λ_ _ _=>false)
  (λ_ _ _ _ _ _ _ _=>false)
  (λ_ _ _ _ _=>false)
  (λ_ _ _ _ _=>false)
  (λ_ _ _=>false)
  (λ_ _ _ _ _ _=>false)
  ⟨⟩ (λ_ _ _ _=>⟨⟩) v
def kS(v:V):(Bool)->Bool:=
 V.rec (motive_1:=λ_=>(Bool)->Bool) (motive_2:=λ_=>PUnit)
  (λ_=>false)
  (λ_ _ _ _=>false)
  (λa x=>AFh x a)
  (λ_ _ _=>false)
  (λ_=>false)
  (λ_ _ _=>false)
  (λ_ _ _=>false)
  (λ_=>false)
  (λ_ _ _ _ _ _=>false)
  (λ_ _ _ _ _=>false)
  (λ_ _ _ _ _ _=>false)
  (λ_=>false)
  (λ_ _=>false)
  (λ_=>false)
  (λ_ _ _ _ _ _=>false)
  (λ_ _ _=>false)
  (λ_ _ _=>false)
  (λ_=>false)
  (λ_ _ _ _=>false)
  ⟨⟩ (λ_ _ _ _=>⟨⟩) v
def AB4(v:V):(Nat)->(Nat)->Bool:=
 V.rec (motive_1:=λ_=>(Nat)->(Nat)->Bool) (motive_2:=λ_=>PUnit)
  (λ_ _=>false)
  (λ_ _ _ _ _=>false)
  (λ_ _ _=>false)
  (λa b l m=>band (Nat.beq l a) (Nat.beq m b))
  (λ_ _=>false)
  (λ_ _ _ _=>false)
  (λ_ _ _ _=>false)
  (λ_ _=>false)
  (λ_ _ _ _ _ _ _=>false)
  (λ_ _ _ _ _ _=>false)
  (λ_ _ _ _ _ _ _=>false)
  (λ_ _=>false)
  (λ_ _ _=>false)
  (λ_ _=>false)
  (λ_ _ _ _ _ _ _=>false)
  (λ_ _ _ _=>false)
  (λ_ _ _ _=>false)
  (λ_ _=>false)
  (λ_ _ _ _ _=>false)
  ⟨⟩ (λ_ _ _ _=>⟨⟩) v
def ZM(v:V):Bool:=
 V.rec (motive_1:=λ_=>Bool) (motive_2:=λ_=>PUnit)
  (false)
  (λ_ _ _=>false)
  (λ_=>false)
  (λ_ _=>false)
  (true)
  (λ_ _=>false)
  (λ_ _=>false)
  (false)
  (λ_ _ _ _ _=>false)
  (λ_ _ _ _=>false)
  (λ_ _ _ _ _=>false)
  (false)
  (λ_=>false)
  (false)
  (λ_ _ _ _ _=>false)
  (λ_ _=>false)
  (λ_ _=>false)
  (false)
  (λ_ _ _=>false)
  ⟨⟩ (λ_ _ _ _=>⟨⟩) v
def aA(v:V):Bool:=
 V.rec (motive_1:=λ_=>Bool) (motive_2:=λ_=>PUnit)
  (false)
  (λ_ _ _=>false)
  (λ_=>false)
  (λ_ _=>false)
  (false)
  (λ_ _=>false)
  (λ_ _=>false)
  (true)
  (λ_ _ _ _ _=>false)
  (λ_ _ _ _=>false)
  (λ_ _ _ _ _=>false)
  (false)
  (λ_=>false)
  (false)
  (λ_ _ _ _ _=>false)
  (λ_ _=>false)
  (λ_ _=>false)
  (false)
  (λ_ _ _=>false)
  ⟨⟩ (λ_ _ _ _=>⟨⟩) v
def aG(v:V):Bool:=
 V.rec (motive_1:=λ_=>Bool) (motive_2:=λ_=>PUnit)
  (false)
  (λ_ _ _=>false)
  (λ_=>false)
  (λ_ _=>false)
  (false)
  (λ_ _=>false)
  (λ_ _=>false)
  (false)
  (λ_ _ _ _ _=>false)
  (λ_ _ _ _=>false)
  (λ_ _ _ _ _=>false)
  (true)
  (λ_=>false)
  (false)
  (λ_ _ _ _ _=>false)
  (λ_ _=>false)
  (λ_ _=>false)
  (false)
  (λ_ _ _=>false)
  ⟨⟩ (λ_ _ _ _=>⟨⟩) v
def Yz(v:V):Bool:=
 V.rec (motive_1:=λ_=>Bool) (motive_2:=λ_=>PUnit)
  (false)
  (λ_ _ _=>false)
  (λ_=>false)
  (λ_ _=>false)
  (false)
  (λ_ _=>false)
  (λ_ _=>false)
  (false)
  (λ_ _ _ _ _=>false)
  (λ_ _ _ _=>false)
  (λ_ _ _ _ _=>false)
  (false)
  (λ_=>false)
  (true)
  (λ_ _ _ _ _=>false)
  (λ_ _=>false)
  (λ_ _=>false)
  (false)
  (λ_ _ _=>false)
  ⟨⟩ (λ_ _ _ _=>⟨⟩) v
def AFa(v:V):(Nat)->(Nat)->Bool:=
 V.rec (motive_1:=λ_=>(Nat)->(Nat)->Bool) (motive_2:=λ_=>PUnit)
  (λ_ _=>false)
  (λ_ _ _ _ _=>false)
  (λ_ _ _=>false)
  (λ_ _ _ _=>false)
  (λ_ _=>false)
  (λa b l m=>band (Nat.beq l a) (Nat.beq m b))
  (λ_ _ _ _=>false)
  (λ_ _=>false)
  (λ_ _ _ _ _ _ _=>false)
  (λ_ _ _ _ _ _=>false)
  (λ_ _ _ _ _ _ _=>false)
  (λ_ _=>false)
  (λ_ _ _=>false)
  (λ_ _=>false)
  (λ_ _ _ _ _ _ _=>false)
  (λ_ _ _ _=>false)
  (λ_ _ _ _=>false)
  (λ_ _=>false)
  (λ_ _ _ _ _=>false)
  ⟨⟩ (λ_ _ _ _=>⟨⟩) v
def jU(v:V):(Nat)->(Nat)->Bool:=
 V.rec (motive_1:=λ_=>(Nat)->(Nat)->Bool) (motive_2:=λ_=>PUnit)
  (λ_ _=>false)
  (λ_ _ _ _ _=>false)
  (λ_ _ _=>false)
  (λ_ _ _ _=>false)
  (λ_ _=>false)
  (λ_ _ _ _=>false)
  (λa b l m=>band (Nat.beq l a) (Nat.beq m b))
  (λ_ _=>false)
  (λ_ _ _ _ _ _ _=>false)
  (λ_ _ _ _ _ _=>false)
  (λ_ _ _ _ _ _ _=>false)
  (λ_ _=>false)
  (λ_ _ _=>false)
  (λ_ _=>false)
  (λ_ _ _ _ _ _ _=>false)
  (λ_ _ _ _=>false)
  (λ_ _ _ _=>false)
  (λ_ _=>false)
  (λ_ _ _ _ _=>false)
  ⟨⟩ (λ_ _ _ _=>⟨⟩) v
def ABG(v:V):(Nat)->Bool:=
 V.rec (motive_1:=λ_=>(Nat)->Bool) (motive_2:=λ_=>PUnit)
  (λ_=>false)
  (λ_ _ _ _=>false)
  (λ_ _=>false)
  (λ_ _ _=>false)
  (λ_=>false)
  (λ_ _ _=>false)
  (λ_ _ _=>false)
  (λ_=>false)
  (λ_ _ _ _ _ _=>false)
  (λ_ _ _ _ _=>false)
  (λ_ _ _ _ _ _=>false)
  (λ_=>false)
  (λa l=>Nat.beq l a)
  (λ_=>false)
  (λ_ _ _ _ _ _=>false)
  (λ_ _ _=>false)
  (λ_ _ _=>false)
  (λ_=>false)
  (λ_ _ _ _=>false)
  ⟨⟩ (λ_ _ _ _=>⟨⟩) v
def AUU(v:V):(Nat)->(Nat)->(Nat)->(Nat)->(Nat)->Bool:=
 V.rec (motive_1:=λ_=>(Nat)->(Nat)->(Nat)->(Nat)->(Nat)->Bool) (motive_2:=λ_=>PUnit)
  (λ_ _ _ _ _=>false)
  (λ_ _ _ _ _ _ _ _=>false)
  (λ_ _ _ _ _ _=>false)
  (λ_ _ _ _ _ _ _=>false)
  (λ_ _ _ _ _=>false)
  (λ_ _ _ _ _ _ _=>false)
  (λ_ _ _ _ _ _ _=>false)
  (λ_ _ _ _ _=>false)
  (λa b c d e i j k l m=>band (Nat.beq i a) (band (Nat.beq j b) (band (Nat.beq k c) (band (Nat.beq l d) (Nat.beq m e)))))
  (λ_ _ _ _ _ _ _ _ _=>false)
  (λ_ _ _ _ _ _ _ _ _ _=>false)
  (λ_ _ _ _ _=>false)
  (λ_ _ _ _ _ _=>false)
  (λ_ _ _ _ _=>false)
  (λ_ _ _ _ _ _ _ _ _ _=>false)
  (λ_ _ _ _ _ _ _=>false)
  (λ_ _ _ _ _ _ _=>false)
  (λ_ _ _ _ _=>false)
  (λ_ _ _ _ _ _ _ _=>false)
  ⟨⟩ (λ_ _ _ _=>⟨⟩) v
def ADy(v:V):(Nat)->(Nat)->(Nat)->(Nat)->Bool:=
 V.rec (motive_1:=λ_=>(Nat)->(Nat)->(Nat)->(Nat)->Bool) (motive_2:=λ_=>PUnit)
  (λ_ _ _ _=>false)
  (λ_ _ _ _ _ _ _=>false)
  (λ_ _ _ _ _=>false)
  (λ_ _ _ _ _ _=>false)
  (λ_ _ _ _=>false)
  (λ_ _ _ _ _ _=>false)
  (λ_ _ _ _ _ _=>false)
  (λ_ _ _ _=>false)
  (λ_ _ _ _ _ _ _ _ _=>false)
  (λa b c d i j k l=>band (Nat.beq i a) (band (Nat.beq j b) (band (Nat.beq k c) (Nat.beq l d))))
  (λ_ _ _ _ _ _ _ _ _=>false)
  (λ_ _ _ _=>false)
  (λ_ _ _ _ _=>false)
  (λ_ _ _ _=>false)
  (λ_ _ _ _ _ _ _ _ _=>false)
  (λ_ _ _ _ _ _=>false)
  (λ_ _ _ _ _ _=>false)
  (λ_ _ _ _=>false)
  (λ_ _ _ _ _ _ _=>false)
  ⟨⟩ (λ_ _ _ _=>⟨⟩) v
def AEh(v:V):(Nat)->(Nat)->(Nat)->(Nat)->(Nat)->Bool:=
 V.rec (motive_1:=λ_=>(Nat)->(Nat)->(Nat)->(Nat)->(Nat)->Bool) (motive_2:=λ_=>PUnit)
  (λ_ _ _ _ _=>false)
  (λ_ _ _ _ _ _ _ _=>false)
  (λ_ _ _ _ _ _=>false)
  (λ_ _ _ _ _ _ _=>false)
  (λ_ _ _ _ _=>false)
  (λ_ _ _ _ _ _ _=>false)
  (λ_ _ _ _ _ _ _=>false)
  (λ_ _ _ _ _=>false)
  (λ_ _ _ _ _ _ _ _ _ _=>false)
  (λ_ _ _ _ _ _ _ _ _=>false)
  (λa b c d e i j k l m=>band (Nat.beq i a) (band (Nat.beq j b) (band (Nat.beq k c) (band (Nat.beq l d) (Nat.beq m e)))))
  (λ_ _ _ _ _=>false)
  (λ_ _ _ _ _ _=>false)
  (λ_ _ _ _ _=>false)
  (λ_ _ _ _ _ _ _ _ _ _=>false)
  (λ_ _ _ _ _ _ _=>false)
  (λ_ _ _ _ _ _ _=>false)
  (λ_ _ _ _ _=>false)
  (λ_ _ _ _ _ _ _ _=>false)
  ⟨⟩ (λ_ _ _ _=>⟨⟩) v
def au(v:V):(V)->Bool:=
 V.rec (motive_1:=λ_=>(V)->Bool) (motive_2:=λ_=>PUnit)
  (λ_=>false)
  (λa b c y=>AEI y a b c)
  (λa y=>kS y a)
  (λa b y=>AB4 y a b)
  (λy=>ZM y)
  (λa b y=>AFa y a b)
  (λa b y=>jU y a b)
  (λy=>aA y)
  (λa b c d e y=>AUU y a b c d e)
  (λa b c d y=>ADy y a b c d)
  (λa b c d e y=>AEh y a b c d e)
  (λy=>aG y)
  (λa y=>ABG y a)
  (λy=>Yz y)
  (λ_ _ _ _ _ _=>false)
  (λ_ _ _=>false)
  (λ_ _ _=>false)
  (λ_=>false)
  (λ_ _ _ _=>false)
  ⟨⟩ (λ_ _ _ _=>⟨⟩) v
def ah(a:List V):List V->Bool:=
 List.rec (motive:=λ_=>List V->Bool) (λb=>List.rec (motive:=λ_=>Bool) true (λ_ _ _=>false) b)
  (λx _ g b=>List.rec (motive:=λ_=>Bool) false (λy ys _=>band (au x y) (g ys)) b) a
def ARX(v:V):(LV)->Bool:=
 V.rec (motive_1:=λ_=>(LV)->Bool) (motive_2:=λ_=>PUnit)
  (λ_=>false)
  (λ_ _ _ _=>false)
  (λ_ _=>false)
  (λ_ _ _=>false)
  (λ_=>false)
  (λ_ _ _=>false)
  (λ_ _ _=>false)
  (λ_=>false)
  (λ_ _ _ _ _ _=>false)
  (λ_ _ _ _ _=>false)
  (λ_ _ _ _ _ _=>false)
  (λ_=>false)
  (λ_ _=>false)
  (λ_=>false)
  (λ_ _ _ _ _ _=>false)
  (λa _ l=>ah l a)
  (λ_ _ _=>false)
  (λ_=>false)
  (λ_ _ _ _=>false)
  ⟨⟩ (λ_ _ _ _=>⟨⟩) v
def ARU(v:V):(LV)->Bool:=
 V.rec (motive_1:=λ_=>(LV)->Bool) (motive_2:=λ_=>PUnit)
  (λ_=>false)
  (λ_ _ _ _=>false)
  (λ_ _=>false)
  (λ_ _ _=>false)
  (λ_=>false)
  (λ_ _ _=>false)
  (λ_ _ _=>false)
  (λ_=>false)
  (λ_ _ _ _ _ _=>false)
  (λ_ _ _ _ _=>false)
  (λ_ _ _ _ _ _=>false)
  (λ_=>false)
  (λ_ _=>false)
  (λ_=>false)
  (λ_ _ _ _ _ _=>false)
  (λ_ _ _=>false)
  (λa _ l=>ah l a)
  (λ_=>false)
  (λ_ _ _ _=>false)
  ⟨⟩ (λ_ _ _ _=>⟨⟩) v
def eG(v:V):Bool:=
 V.rec (motive_1:=λ_=>Bool) (motive_2:=λ_=>PUnit)
  (true)
  (λ_ _ _=>false)
  (λ_=>false)
  (λ_ _=>false)
  (false)
  (λ_ _=>false)
  (λ_ _=>false)
  (false)
  (λ_ _ _ _ _=>false)
  (λ_ _ _ _=>false)
  (λ_ _ _ _ _=>false)
  (false)
  (λ_=>false)
  (false)
  (λ_ _ _ _ _=>false)
  (λ_ _=>false)
  (λ_ _=>false)
  (false)
  (λ_ _ _=>false)
  ⟨⟩ (λ_ _ _ _=>⟨⟩) v
def A8(v:V):(V)->Bool:=
 V.rec (motive_1:=λ_=>(V)->Bool) (motive_2:=λ_=>PUnit)
  (λy=>eG y)
  (λa b c y=>AEI y a b c)
  (λa y=>kS y a)
  (λa b y=>AB4 y a b)
  (λy=>ZM y)
  (λa b y=>AFa y a b)
  (λa b y=>jU y a b)
  (λy=>aA y)
  (λa b c d e y=>AUU y a b c d e)
  (λa b c d y=>ADy y a b c d)
  (λa b c d e y=>AEh y a b c d e)
  (λy=>aG y)
  (λa y=>ABG y a)
  (λy=>Yz y)
  (λ_ _ _ _ _ _=>false)
  (λa _ y=>ARX y a)
  (λa _ y=>ARU y a)
  (λ_=>false)
  (λ_ _ _ _=>false)
  ⟨⟩ (λ_ _ _ _=>⟨⟩) v
inductive AI where
 |op (o:I9)
 |re (d:P2) (g:Gd) (o:AN)
inductive AC where
 |skip
 |ops (l:List I9)
 |reg (l:List AI)
 |seq (a b:AC)
 |cond (x:X) (a b:AC)
 |block (id:Nat) (c:AC)
 |loop (c:AC)
 |exit (id:Nat)
 |ret
def BH(l:List I9):Nu:=
 List.rec (motive:=λ_=>Nu) (λ_ _ R H n k=>k R H n) (λo _ g G call R H n k=>o.ex G call R H n λR H n=>g G call R H n k) l
abbrev ReT:=AQ->RS->Heap->P2->AN->Prop->Prop
def Adj:ReT:=λG R H d o k=>AB (o.ev G R H) λv=>Bq (A8 v (Dq (T.Bf d R.rg))) k
def AfY(x:X)(b:Bool):ReT:=λG R H d o k=>Gp (x.ev R) b (AB (o.ev G R H) λv=>Bq (A8 v (Dq (T.Bf d R.rg))) k) k
def AYp(g:Gd):ReT:=Gd.rec (motive:=λ_=>ReT) Adj AfY g
def AI.ex(i:AI):Nu:=AI.rec (motive:=λ_=>Nu) (λo=>o.ex) (λd g o G _ R H n k=>AYp g G R H d o (k R H n)) i
def Ak(l:List AI):Nu:=
 List.rec (motive:=λ_=>Nu) (λ_ _ R H n k=>k R H n) (λi _ g G call R H n k=>i.ex G call R H n λR H n=>g G call R H n k) l
abbrev KX:=Nat->K
abbrev M:=AQ->AP->Nat->Cc->Heap->Nat->K->KX->K->Prop
def ADE:M:=λ_ _ _ R H n k _ _=>k R H n
def AG6(l:List I9):M:=λG call _ R H n k _ _=>BH l G call (.mk [] R) H n λE H n=>k E.rg H n
def AH1(l:List AI):M:=λG call _ R H n k _ _=>Ak l G call (.mk [] R) H n λE H n=>k E.rg H n
def ABt(_ _:AC)(a b:M):M:=λG call lf R H n k x r=>a G call lf R H n (λR H n=>b G call lf R H n k x r) x r
def fC(c:X)(_ _:AC)(a b:M):M:=λG call lf R H n k x r=>AV (c.ev (.mk [] R)) true (a G call lf R H n k x r) (b G call lf R H n k x r)
def CB(id:Nat)(k:K)(x:KX):KX:=λi R H n=>Bool.rec (motive:=λ_=>Prop->Prop->Prop) (λa _=>a) (λ_ b=>b) (Nat.beq i id) (x i R H n) (k R H n)
def U3(id:Nat)(_:AC)(a:M):M:=λG call lf R H n k x r=>a G call lf R H n k (CB id k x) r
def FQ(a:M)(G:AQ)(call:AP)(lf0 lf:Nat):Cc->Heap->Nat->KX->K->Prop:=
 Nat.rec (motive:=λ_=>Cc->Heap->Nat->KX->K->Prop) (λ_ _ _ _ _=>False) (λ_ g R H n x r=>a G call lf0 R H n (λR H n=>g R H n x r) x r) lf
def AdT(_:AC)(a:M):M:=λG call lf R H n _ x r=>FQ a G call lf lf R H n x r
def zM(id:Nat):M:=λ_ _ _ R H n _ x _=>x id R H n
def AWL:M:=λ_ _ _ R H n _ _ r=>r R H n
def AC.ex(c:AC):M:=AC.rec (motive:=λ_=>M) ADE AG6 AH1 ABt fC U3 AdT zM AWL c
inductive AR where
 |tmp (p:P2)|cell1 (p:P2)|celln (p:P2) (n:Nat)
inductive Nk where
 |join|rep|wstr (t e:Nat)|bstr (t e:Nat)
inductive AF where
 |mk (np:Nat) (code:AC) (res:List AR) (dp:IB) (dg:Nat)
 |nat (k:Nk)
def AR.get(r:AR):AQ->Cc->Heap->Option V:=
 AR.rec (motive:=λ_=>AQ->Cc->Heap->Option V) (λp _ R _=>some (Dq (T.Bf p R))) (λp G R H=>Fg (Zb (Dq (T.Bf p R)) G H 1) λL=>nth L 0)
  (λp n G R H=>Fg (Zb (Dq (T.Bf p R)) G H n) λL=>some (.agg L)) r
def Ia(l:List AR):AQ->Cc->Heap->Option LV:=
 List.rec (motive:=λ_=>AQ->Cc->Heap->Option LV) (λ_ _ _=>some []) (λr _ g G R H=>Bl (r.get G R H) λv=>Bl (g G R H) λvs=>some (v::vs)) l
def BQ(l:List V):V:=List.rec (motive:=λ_=>V) (V.BP []) (λv vs _=>List.rec (motive:=λ_=>V) v (λw ws _=>V.BP (v::w::ws)) vs) l
def GU(args:List V):Nat->Cc->Cc:=
 List.rec (motive:=λ_=>Nat->Cc->Cc) (λ_ R=>R) (λv _ g i R=>g (Nat.succ i) (T.set R i v)) args
def Du(dg:Nat)(l:List V):AP->Heap->Nat->(Heap->Nat->Prop)->Prop:=
 List.rec (motive:=λ_=>AP->Heap->Nat->(Heap->Nat->Prop)->Prop) (λ_ H n k=>k H n)
  (λv _ g call H n k=>V.Eu v λf a c=>Bq (Nat.beq f dg) (call f (cat a c) H n λ_ H n=>g call H n k)) l
def Oe(res:List AR)(G:AQ)(k:KV):K:=λR H n=>CJ (Ia res G R H) λl=>k (BQ l) H n
def DI(res:List AR)(dg:Nat)(d:IB):AQ->AP->KV->K:=
 IB.rec (motive:=λ_=>AQ->AP->KV->K) (λG _ k=>Oe res G k) (λp G call k R H n=>Du dg (Je (Dq (T.Bf p R))) call H n λH n=>Oe res G k R H n) (λG _ k=>Oe res G k) d
def ABd(p q:Nat×Nat):Nat×Nat:=(p.1+q.1,p.2+256^p.1*q.2)
def AQY:Fh->Option (List (Nat×Nat))
 |[]=>some []
 |[.str l c]::r=>match AQY r with|some x=>some ((l,c)::x)|none=>none
 |_::_=>none
def AFe(s:Nat×Nat):List (Nat×Nat)->Nat×Nat
 |[]=>(0,0)
 |a::r=>r.foldl (λp q=>ABd (ABd p s) q) a
def AY5(s:Nat×Nat):Nat->Nat×Nat
 |0=>(0,0)
 |n+1=>ABd s (AY5 s n)
def AMC:Nat:=140737488355328
def oP(x y:V)(G:AQ)(H:Heap)(n:Nat)(k:KV):Prop:=
 match y with
 |.str sl sc=>Bq (Ef (isStr x)) <| CJ (elems x G H 1) λLS=>CJ (AQY LS) λss=>Bq (decide (ss.length<=AMC/\(AFe (sl,sc) ss).1<=AMC)) (k (.str (AFe (sl,sc) ss).1 (AFe (sl,sc) ss).2) H n)
 |_=>False
def AEA(x y:V)(H:Heap)(n:Nat)(k:KV):Prop:=
 match x,y with
 |.str l c,.int .i64 (.ofNat m) _=>Bq (decide (m<=9223372036854775807/\l*m<=AMC)) (k (.str (AY5 (l,c) m).1 (AY5 (l,c) m).2) H n)
 |_,_=>False
def ng(t e:Nat)(x y:V)(H:Heap)(n:Nat)(k:KV):Prop:=
 match x,y with
 |.ptr id 0,.str m d=>(match T.get H id with
  |some (.G9 t' e' l c j)=>Bq (decide (t'=t/\e'=e/\l+m<=AMC)) (k (.BP [.int .i64 (.ofNat m) 0,.AAV]) (T.set (T.set (bif decide (l=0)then H else T.set H j .dead) n (.own id)) id (.G9 t e (ABd (l,c) (m,d)).1 (ABd (l,c) (m,d)).2 n)) (n+1))
  |_=>False)
 |_,_=>False
def nC(t e:Nat)(x:V)(H:Heap)(n:Nat)(k:KV):Prop:=
 match x with
 |.ptr id 0=>(match T.get H id with
  |some (.G9 t' e' l c _)=>Bq (decide (t'=t/\e'=e)) (k (.str l c) (T.set H id .dead) n)
  |_=>False)
 |_=>False
def Jg(f:Nk)(G:AQ)(args:List V)(H:Heap)(n:Nat)(k:KV):Prop:=
 match f,args with
 |.join,[x,y]=>oP x y G H n k
 |.rep,[x,y]=>AEA x y H n k
 |.wstr t e,[x,y]=>ng t e x y H n k
 |.bstr t e,[x]=>nC t e x H n k
 |_,_=>False
def o8:KX:=λ_ _ _ _=>False
def H7(f:AF):AQ->AP->Nat->List V->Heap->Nat->KV->Prop:=
 AF.rec (motive:=λ_=>AQ->AP->Nat->List V->Heap->Nat->KV->Prop) (λnp code res d dg G call lf args H n k=>Bq (Nat.beq (len args) np) (code.ex G call lf (GU args 0 .e) H n (DI res dg d G call k) o8 (DI res dg d G call k))) (λf G _ _ args H n k=>Jg f G args H n k) f
def run(F:T AF)(G:AQ)(lf:Nat)(fuel:Nat):AP:=
 Nat.rec (motive:=λ_=>AP) (λ_ _ _ _ _=>False) (λ_ call f args H n k=>CJ (T.get F f) λaf=>H7 af G call lf args H n k) fuel
end Go.Eng
