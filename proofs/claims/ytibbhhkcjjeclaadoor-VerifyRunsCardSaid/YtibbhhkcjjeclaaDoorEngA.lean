/- Part of a proof; nothing is assumed. -/
import Derived.Calls
import Derived.Defers
import Derived.Orders
import Derived.KernelRfl
import Derived.Laws.Entries
set_option linter.unusedVariables false
set_option linter.unusedSimpArgs false
noncomputable section
namespace Go.Bh
inductive P2 where
 |h|z (p:P2)|o (p:P2)
deriving DecidableEq
inductive T(α:Type)where
 |e|n (v:Option α) (l r:T α)
def T.val{α:Type}(t:T α):Option α:=T.rec none (λv _ _ _ _=>v) t
def T.left{α:Type}(t:T α):T α:=T.rec .e (λ_ l _ _ _=>l) t
def T.right{α:Type}(t:T α):T α:=T.rec .e (λ_ _ r _ _=>r) t
def T.D5{α:Type}(p:P2):T α->Option α:=
 P2.rec (motive:=λ_=>T α->Option α) T.val (λ_ g t=>g t.left) (λ_ g t=>g t.right) p
def T.ZF{α:Type}(x:α)(p:P2):T α->T α:=
 P2.rec (motive:=λ_=>T α->T α) (λt=>.n (some x) t.left t.right)
  (λ_ g t=>.n t.val (g t.left) t.right) (λ_ g t=>.n t.val t.left (g t.right)) p
def AJH(f:Nat):Nat->P2:=
 Nat.rec (motive:=λ_=>Nat->P2) (λ_=>.h)
  (λ_ g k=>Nat.rec (motive:=λ_=>P2) .h
   (λm _=>Bool.rec (P2.o (g (Nat.div m 2))) (P2.z (g (Nat.div m 2))) (Nat.beq (Nat.mod m 2) 0)) k) f
def PG(k:Nat):P2:=AJH (Nat.succ k) k
def T.get{α:Type}(t:T α)(k:Nat):Option α:=T.D5 (PG k) t
def T.set{α:Type}(t:T α)(k:Nat)(x:α):T α:=T.ZF x (PG k) t
inductive V where
 |undef
 |int (k:IntKind) (n:Int) (s:Nat)
 |bool (b:Bool)
 |str (len code:Nat)
 |NT|ptr (id off:Nat)|gptr (b off:Nat)
 |AY|sl (id off len cap esz:Nat)|Qq (id off len esz:Nat)|rsl (b off len cap esz:Nat)
 |ABh|map (id:Nat)
 |AMe|fn (f:Nat) (first caps:List V)
 |agg (cs:List V)
 |Di (vs:List V)
 |AMg|iface (t:Nat) (v:V)
inductive O7 where
 |arr (esz cnt:Nat) (c:T (List V))
 |map (es:List (V×V×Nat)) (clock:Nat)
 |dead
abbrev Heap:=T O7
abbrev JX:=T V
abbrev AX:=Nat->Nat->Nat->Option (List V)
inductive X where
 |r (p:P2)|c (v:V)|s (i:Nat)
def MN(o:Option V):V:=Option.rec V.undef (λv=>v) o
def ALI(l:List V):Nat->V:=
 List.rec (motive:=λ_=>Nat->V) (λ_=>.undef) (λx _ g i=>Nat.rec (motive:=λ_=>V) x (λi _=>g i) i) l
inductive RS where
 |mk (L:List V) (R:JX)
def RS.st(E:RS):List V:=RS.rec (λL _=>L) E
def RS.rg(E:RS):JX:=RS.rec (λ_ R=>R) E
def X.ev(x:X):RS->V:=X.rec (motive:=λ_=>RS->V) (λp E=>MN (T.D5 p E.rg)) (λv _=>v) (λi E=>ALI E.st i) x
def V.Io(v:V):(IntKind->Int->Nat->Option V)->Option V:=
 V.rec (motive_1:=λ_=>(IntKind->Int->Nat->Option V)->Option V) (motive_2:=λ_=>PUnit)
  (λ_=>none)
  (λa b c f=>f a b c)
  (λ_ _=>none)
  (λ_ _ _=>none)
  (λ_=>none)
  (λ_ _ _=>none)
  (λ_ _ _=>none)
  (λ_=>none)
  (λ_ _ _ _ _ _=>none)
  (λ_ _ _ _ _=>none)
  (λ_ _ _ _ _ _=>none)
  (λ_=>none)
  (λ_ _=>none)
  (λ_=>none)
  (λ_ _ _ _ _ _=>none)
  (λ_ _ _=>none)
  (λ_ _ _=>none)
  (λ_=>none)
  (λ_ _ _ _=>none)
  ⟨⟩ (λ_ _ _ _=>⟨⟩) v
def V.kG(v:V):(Bool->Option V)->Option V:=
 V.rec (motive_1:=λ_=>(Bool->Option V)->Option V) (motive_2:=λ_=>PUnit)
  (λ_=>none)
  (λ_ _ _ _=>none)
  (λa f=>f a)
  (λ_ _ _=>none)
  (λ_=>none)
  (λ_ _ _=>none)
  (λ_ _ _=>none)
  (λ_=>none)
  (λ_ _ _ _ _ _=>none)
  (λ_ _ _ _ _=>none)
  (λ_ _ _ _ _ _=>none)
  (λ_=>none)
  (λ_ _=>none)
  (λ_=>none)
  (λ_ _ _ _ _ _=>none)
  (λ_ _ _=>none)
  (λ_ _ _=>none)
  (λ_=>none)
  (λ_ _ _ _=>none)
  ⟨⟩ (λ_ _ _ _=>⟨⟩) v
def V.AEU(v:V):(Bool->Prop)->Prop:=
 V.rec (motive_1:=λ_=>(Bool->Prop)->Prop) (motive_2:=λ_=>PUnit)
  (λ_=>False)
  (λ_ _ _ _=>False)
  (λa f=>f a)
  (λ_ _ _=>False)
  (λ_=>False)
  (λ_ _ _=>False)
  (λ_ _ _=>False)
  (λ_=>False)
  (λ_ _ _ _ _ _=>False)
  (λ_ _ _ _ _=>False)
  (λ_ _ _ _ _ _=>False)
  (λ_=>False)
  (λ_ _=>False)
  (λ_=>False)
  (λ_ _ _ _ _ _=>False)
  (λ_ _ _=>False)
  (λ_ _ _=>False)
  (λ_=>False)
  (λ_ _ _ _=>False)
  ⟨⟩ (λ_ _ _ _=>⟨⟩) v
def V.UM(v:V):(Nat->Nat->Option V)->Option V:=
 V.rec (motive_1:=λ_=>(Nat->Nat->Option V)->Option V) (motive_2:=λ_=>PUnit)
  (λ_=>none)
  (λ_ _ _ _=>none)
  (λ_ _=>none)
  (λa b f=>f a b)
  (λ_=>none)
  (λ_ _ _=>none)
  (λ_ _ _=>none)
  (λ_=>none)
  (λ_ _ _ _ _ _=>none)
  (λ_ _ _ _ _=>none)
  (λ_ _ _ _ _ _=>none)
  (λ_=>none)
  (λ_ _=>none)
  (λ_=>none)
  (λ_ _ _ _ _ _=>none)
  (λ_ _ _=>none)
  (λ_ _ _=>none)
  (λ_=>none)
  (λ_ _ _ _=>none)
  ⟨⟩ (λ_ _ _ _=>⟨⟩) v
def V.sJ(v:V):(List V->Option V)->Option V:=
 V.rec (motive_1:=λ_=>(List V->Option V)->Option V) (motive_2:=λ_=>PUnit)
  (λ_=>none)
  (λ_ _ _ _=>none)
  (λ_ _=>none)
  (λ_ _ _=>none)
  (λ_=>none)
  (λ_ _ _=>none)
  (λ_ _ _=>none)
  (λ_=>none)
  (λ_ _ _ _ _ _=>none)
  (λ_ _ _ _ _=>none)
  (λ_ _ _ _ _ _=>none)
  (λ_=>none)
  (λ_ _=>none)
  (λ_=>none)
  (λ_ _ _ _ _ _=>none)
  (λa _ f=>f a)
  (λ_ _ _=>none)
  (λ_=>none)
  (λ_ _ _ _=>none)
  ⟨⟩ (λ_ _ _ _=>⟨⟩) v
def V.AFv(v:V):(List V->Option V)->Option V:=
 V.rec (motive_1:=λ_=>(List V->Option V)->Option V) (motive_2:=λ_=>PUnit)
  (λ_=>none)
  (λ_ _ _ _=>none)
  (λ_ _=>none)
  (λ_ _ _=>none)
  (λ_=>none)
  (λ_ _ _=>none)
  (λ_ _ _=>none)
  (λ_=>none)
  (λ_ _ _ _ _ _=>none)
  (λ_ _ _ _ _=>none)
  (λ_ _ _ _ _ _=>none)
  (λ_=>none)
  (λ_ _=>none)
  (λ_=>none)
  (λ_ _ _ _ _ _=>none)
  (λ_ _ _=>none)
  (λa _ f=>f a)
  (λ_=>none)
  (λ_ _ _ _=>none)
  ⟨⟩ (λ_ _ _ _=>⟨⟩) v
def V.AFG(v:V):(Nat->Nat->Option V)->(Nat->Nat->Option V)->Option V:=
 V.rec (motive_1:=λ_=>(Nat->Nat->Option V)->(Nat->Nat->Option V)->Option V) (motive_2:=λ_=>PUnit)
  (λ_ _=>none)
  (λ_ _ _ _ _=>none)
  (λ_ _ _=>none)
  (λ_ _ _ _=>none)
  (λ_ _=>none)
  (λa b f _=>f a b)
  (λa b _ g=>g a b)
  (λ_ _=>none)
  (λ_ _ _ _ _ _ _=>none)
  (λ_ _ _ _ _ _=>none)
  (λ_ _ _ _ _ _ _=>none)
  (λ_ _=>none)
  (λ_ _ _=>none)
  (λ_ _=>none)
  (λ_ _ _ _ _ _ _=>none)
  (λ_ _ _ _=>none)
  (λ_ _ _ _=>none)
  (λ_ _=>none)
  (λ_ _ _ _ _=>none)
  ⟨⟩ (λ_ _ _ _=>⟨⟩) v
def V.AHV(v:V):(Option V)->(Nat->Option V)->Option V:=
 V.rec (motive_1:=λ_=>(Option V)->(Nat->Option V)->Option V) (motive_2:=λ_=>PUnit)
  (λ_ _=>none)
  (λ_ _ _ _ _=>none)
  (λ_ _ _=>none)
  (λ_ _ _ _=>none)
  (λ_ _=>none)
  (λ_ _ _ _=>none)
  (λ_ _ _ _=>none)
  (λ_ _=>none)
  (λ_ _ _ _ _ _ _=>none)
  (λ_ _ _ _ _ _=>none)
  (λ_ _ _ _ _ _ _=>none)
  (λz _=>z)
  (λa _ f=>f a)
  (λ_ _=>none)
  (λ_ _ _ _ _ _ _=>none)
  (λ_ _ _ _=>none)
  (λ_ _ _ _=>none)
  (λ_ _=>none)
  (λ_ _ _ _ _=>none)
  ⟨⟩ (λ_ _ _ _=>⟨⟩) v
def V.AM2(v:V):(Option V)->(Nat->Nat->Nat->Nat->Nat->Option V)->(Nat->Nat->Nat->Nat->Option V)->(Nat->Nat->Nat->Nat->Nat->Option V)->Option V:=
 V.rec (motive_1:=λ_=>(Option V)->(Nat->Nat->Nat->Nat->Nat->Option V)->(Nat->Nat->Nat->Nat->Option V)->(Nat->Nat->Nat->Nat->Nat->Option V)->Option V) (motive_2:=λ_=>PUnit)
  (λ_ _ _ _=>none)
  (λ_ _ _ _ _ _ _=>none)
  (λ_ _ _ _ _=>none)
  (λ_ _ _ _ _ _=>none)
  (λ_ _ _ _=>none)
  (λ_ _ _ _ _ _=>none)
  (λ_ _ _ _ _ _=>none)
  (λz _ _ _=>z)
  (λa b c d e _ f _ _=>f a b c d e)
  (λa b c d _ _ g _=>g a b c d)
  (λa b c d e _ _ _ h=>h a b c d e)
  (λ_ _ _ _=>none)
  (λ_ _ _ _ _=>none)
  (λ_ _ _ _=>none)
  (λ_ _ _ _ _ _ _ _ _=>none)
  (λ_ _ _ _ _ _=>none)
  (λ_ _ _ _ _ _=>none)
  (λ_ _ _ _=>none)
  (λ_ _ _ _ _ _ _=>none)
  ⟨⟩ (λ_ _ _ _=>⟨⟩) v
def Aq(v:V):List V:=
 V.rec (motive_1:=λ_=>List V) (motive_2:=λ_=>PUnit)
  ([v])
  (λ_ _ _=>[v])
  (λ_=>[v])
  (λ_ _=>[v])
  ([v])
  (λ_ _=>[v])
  (λ_ _=>[v])
  ([v])
  (λ_ _ _ _ _=>[v])
  (λ_ _ _ _=>[v])
  (λ_ _ _ _ _=>[v])
  ([v])
  (λ_=>[v])
  ([v])
  (λ_ _ _ _ _=>[v])
  (λa _=>a)
  (λ_ _=>[v])
  ([v])
  (λ_ _ _=>[v])
  ⟨⟩ (λ_ _ _ _=>⟨⟩) v
def isStr(v:V):Bool:=
 V.rec (motive_1:=λ_=>Bool) (motive_2:=λ_=>PUnit)
  (false)
  (λ_ _ _=>false)
  (λ_=>false)
  (λ_ _=>true)
  (false)
  (λ_ _=>false)
  (λ_ _=>false)
  (false)
  (λ_ _ _ _ _=>false)
  (λ_ _ _ _=>false)
  (λ_ _ _ _ _=>false)
  (false)
  (λ_=>false)
  (false)
  (λ_ _ _ _ _=>false)
  (λ_ _=>false)
  (λ_ _=>false)
  (false)
  (λ_ _ _=>false)
  ⟨⟩ (λ_ _ _ _=>⟨⟩) v
def lenV(v:V):Option V:=
 V.rec (motive_1:=λ_=>Option V) (motive_2:=λ_=>PUnit)
  (none)
  (λ_ _ _=>none)
  (λ_=>none)
  (λ_ _=>none)
  (none)
  (λ_ _=>none)
  (λ_ _=>none)
  (some (.int .i64 (.ofNat 0) 0))
  (λ_ _ c _ _=>some (.int .i64 (.ofNat c) 0))
  (λ_ _ c _=>some (.int .i64 (.ofNat c) 0))
  (λ_ _ c _ _=>some (.int .i64 (.ofNat c) 0))
  (none)
  (λ_=>none)
  (none)
  (λ_ _ _ _ _=>none)
  (λ_ _=>none)
  (λ_ _=>none)
  (none)
  (λ_ _ _=>none)
  ⟨⟩ (λ_ _ _ _=>⟨⟩) v
def Ad(v:V):Option V:=
 V.rec (motive_1:=λ_=>Option V) (motive_2:=λ_=>PUnit)
  (none)
  (λ_ _ _=>none)
  (λ_=>none)
  (λ_ _=>none)
  (none)
  (λa b=>some (.ptr a b))
  (λa b=>some (.gptr a b))
  (none)
  (λ_ _ _ _ _=>none)
  (λ_ _ _ _=>none)
  (λ_ _ _ _ _=>none)
  (none)
  (λ_=>none)
  (none)
  (λa b c _ _=>some (.fn a b c))
  (λ_ _=>none)
  (λ_ _=>none)
  (none)
  (λ_ _ _=>none)
  ⟨⟩ (λ_ _ _ _=>⟨⟩) v
def V4(n:Int):(Int->Option V)->Option V:=λf=>f n
def GU(n:Nat):(Nat->Option V)->Option V:=
 Nat.rec (motive:=λ_=>(Nat->Option V)->Option V) (λf=>f 0) (λk _ f=>f (Nat.succ k)) n
def DX(n:Nat):(Nat->Prop)->Prop:=
 Nat.rec (motive:=λ_=>(Nat->Prop)->Prop) (λf=>f 0) (λk _ f=>f (Nat.succ k)) n
def ARi(k:IntKind):Nat->Bool:=
 IntKind.rec (motive:=λ_=>Nat->Bool) (λm=>Nat.blt m 128) (λm=>Nat.blt m 32768) (λm=>Nat.blt m 2147483648) (λm=>Nat.blt m 9223372036854775808)
  (λm=>Nat.blt m 256) (λm=>Nat.blt m 65536) (λm=>Nat.blt m 4294967296) (λm=>Nat.blt m 18446744073709551616) k
def ASH(k:IntKind):Nat->Bool:=
 IntKind.rec (motive:=λ_=>Nat->Bool) (λm=>Nat.blt m 128) (λm=>Nat.blt m 32768) (λm=>Nat.blt m 2147483648) (λm=>Nat.blt m 9223372036854775808)
  (λ_=>false) (λ_=>false) (λ_=>false) (λ_=>false) k
def inr(k:IntKind)(n:Int):Bool:=Int.rec (motive:=λ_=>IntKind->Bool) (λm k=>ARi k m) (λm k=>ASH k m) n k
def bT(k:IntKind)(n:Int):Int:=Bool.rec (k.wrap n) n (inr k n)
def AP4(k:IntKind)(n:Int):Option V:=V4 (bT k n) λm=>some (.int k m 0)
def mkI(k:IntKind)(n:Int)(s:Nat):Option V:=
 Nat.rec (motive:=λ_=>IntKind->Int->Option V) AP4 (λ_ _ k n=>some (.int k (k.wrap n) 1)) s k n
def mkN(k:IntKind)(n:Int)(s:Nat):Option V:=
 Nat.rec (motive:=λ_=>IntKind->Int->Option V) (λk n=>V4 n λm=>some (.int k m 0)) (λ_ _ k n=>some (.int k n 1)) s k n
def AOv(a:Nat)(b:Int):Int:=Int.rec (motive:=λ_=>Nat->Int) (λn m=>.ofNat (Nat.add m n)) (λn m=>Int.subNatNat m (Nat.succ n)) b a
def AOX(a:Nat)(b:Int):Int:=Int.rec (motive:=λ_=>Nat->Int) (λn m=>Int.subNatNat n (Nat.succ m)) (λn m=>.negSucc (Nat.succ (Nat.add m n))) b a
def ABD(a b:Int):Int:=Int.rec (motive:=λ_=>Int->Int) AOv AOX a b
def ile(a b:Int):Bool:=Int.rec (motive:=λ_=>Int->Bool) (λm b=>Int.rec (motive:=λ_=>Nat->Bool) (λn m=>Nat.ble m n) (λ_ _=>false) b m)
 (λm b=>Int.rec (motive:=λ_=>Nat->Bool) (λ_ _=>true) (λn m=>Nat.ble n m) b m) a b
def ilt(a b:Int):Bool:=Int.rec (motive:=λ_=>Int->Bool) (λm b=>Int.rec (motive:=λ_=>Nat->Bool) (λn m=>Nat.blt m n) (λ_ _=>false) b m)
 (λm b=>Int.rec (motive:=λ_=>Nat->Bool) (λ_ _=>true) (λn m=>Nat.blt n m) b m) a b
def ieq(a b:Int):Bool:=Int.rec (motive:=λ_=>Int->Bool) (λm b=>Int.rec (motive:=λ_=>Nat->Bool) (λn m=>Nat.beq m n) (λ_ _=>false) b m)
 (λm b=>Int.rec (motive:=λ_=>Nat->Bool) (λ_ _=>false) (λn m=>Nat.beq n m) b m) a b
def kno(a:IntKind):Nat:=IntKind.rec 0 1 2 3 4 5 6 7 a
def keq(a b:IntKind):Bool:=Nat.beq (kno a) (kno b)
def Yk(b:Bool):Bool:=Bool.rec true false b
def band(a b:Bool):Bool:=Bool.rec (motive:=λ_=>Bool->Bool) (λ_=>false) (λb=>b) a b
def ALt(a b:Bool):Bool:=Bool.rec (motive:=λ_=>Bool->Bool) Yk (λb=>b) a b
def mkB(b:Bool):Option V:=Bool.rec (some (.bool false)) (some (.bool true)) b
def BK(b:Bool):Option V->Option V:=Bool.rec (motive:=λ_=>Option V->Option V) (λ_=>none) (λo=>o) b
def uh(b:Bool)(x y:Option V):Option V:=Bool.rec (motive:=λ_=>Option V->Option V->Option V) (λ_ y=>y) (λx _=>x) b x y
def AKS(code i:Nat):Nat:=Nat.mod (Nat.div code (Nat.pow 256 i)) 256
def ASh(code l h:Nat):Nat:=Nat.mod (Nat.div code (Nat.pow 256 l)) (Nat.pow 256 (Nat.sub h l))
def ASR(l1 c1 c2:Nat):Nat:=Nat.add c1 (Nat.mul (Nat.pow 256 l1) c2)
def yM(f:Nat):Nat->Nat->Nat->Nat->Bool:=
 Nat.rec (motive:=λ_=>Nat->Nat->Nat->Nat->Bool) (λ_ _ _ _=>false)
  (λ_ g l1 c1 l2 c2=>Nat.rec (motive:=λ_=>Bool) false (λl2' _=>Nat.rec (motive:=λ_=>Bool) true (λl1' _=>
   Bool.rec (Nat.blt (Nat.mod c1 256) (Nat.mod c2 256)) (g l1' (Nat.div c1 256) l2' (Nat.div c2 256)) (Nat.beq (Nat.mod c1 256) (Nat.mod c2 256))) l1) l2) f
def slt(l1 c1 l2 c2:Nat):Bool:=yM (Nat.succ l2) l1 c1 l2 c2
def nth{α:Type}(l:List α):Nat->Option α:=
 List.rec (motive:=λ_=>Nat->Option α) (λ_=>none) (λx _ g i=>Nat.rec (motive:=λ_=>Option α) (some x) (λi _=>g i) i) l
def dR{α:Type}(x:α)(l:List α):Nat->List α:=
 List.rec (motive:=λ_=>Nat->List α) (λ_=>[]) (λy ys g i=>Nat.rec (motive:=λ_=>List α) (x::ys) (λi _=>y::g i) i) l
def len{α:Type}(l:List α):Nat:=List.rec (motive:=λ_=>Nat) 0 (λ_ _ n=>Nat.succ n) l
def cat{α:Type}(a b:List α):List α:=List.rec (motive:=λ_=>List α->List α) (λb=>b) (λx _ g b=>x::g b) a b
def Xb{α:Type}(n:Nat):List α->List α:=
 Nat.rec (motive:=λ_=>List α->List α) (λ_=>[]) (λ_ g l=>List.rec (motive:=λ_=>List α) [] (λx xs _=>x::g xs) l) n
def kL{α:Type}(n:Nat):List α->List α:=
 Nat.rec (motive:=λ_=>List α->List α) (λl=>l) (λ_ g l=>List.rec (motive:=λ_=>List α) [] (λ_ xs _=>g xs) l) n
def aC(l:List X):RS->List V:=List.rec (motive:=λ_=>RS->List V) (λ_=>[]) (λx _ g R=>x.ev R::g R) l
def AGc(new:List V)(i:Nat)(l:List V):List V:=cat (Xb i l) (cat new (kL (Nat.add i (len new)) l))
abbrev LV:=List V
def U7(o:Option LV)(f:LV->Option V):Option V:=Option.rec (motive:=λ_=>(LV->Option V)->Option V) (λ_=>none) (λv f=>f v) o f
def Hw{α:Type}(o:Option α)(f:α->Prop):Prop:=Option.rec (motive:=λ_=>(α->Prop)->Prop) (λ_=>False) (λv f=>f v) o f
def AP(o:Option V)(f:V->Prop):Prop:=Option.rec (motive:=λ_=>(V->Prop)->Prop) (λ_=>False) (λv f=>f v) o f
def BP{α β:Type}(o:Option α)(f:α->Option β):Option β:=Option.rec (motive:=λ_=>(α->Option β)->Option β) (λ_=>none) (λv f=>f v) o f
def ldC(esz off n:Nat)(L:LV):Option LV:=
 Bool.rec (motive:=λ_=>Option LV)
  (Bool.rec none (some (Xb n (kL (Nat.mod off esz) L))) (Nat.ble (Nat.add (Nat.mod off esz) n) esz))
  (some L) (band (Nat.beq n esz) (Nat.beq (Nat.mod off esz) 0))
def ldB(esz cnt:Nat)(c:T LV)(off n:Nat):Option LV:=
 BP (Bool.rec none (T.get c (Nat.div off esz)) (Nat.blt (Nat.div off esz) cnt)) (ldC esz off n)
def O7.ld(b:O7):Nat->Nat->Option LV:=
 O7.rec (motive:=λ_=>Nat->Nat->Option LV) ldB (λ_ _ _ _=>none) (λ_ _=>none) b
def Z4(H:Heap)(id off n:Nat):Option LV:=Option.rec (motive:=λ_=>Nat->Nat->Option LV) (λ_ _=>none) O7.ld (T.get H id) off n
def jA(v:V):(AX)->(Heap)->(Nat)->Option LV:=
 V.rec (motive_1:=λ_=>(AX)->(Heap)->(Nat)->Option LV) (motive_2:=λ_=>PUnit)
  (λ_ _ _=>none)
  (λ_ _ _ _ _ _=>none)
  (λ_ _ _ _=>none)
  (λ_ _ _ _ _=>none)
  (λ_ _ _=>none)
  (λa b _ H n=>Z4 H a b n)
  (λa b G _ n=>G a b n)
  (λ_ _ _=>none)
  (λ_ _ _ _ _ _ _ _=>none)
  (λ_ _ _ _ _ _ _=>none)
  (λ_ _ _ _ _ _ _ _=>none)
  (λ_ _ _=>none)
  (λ_ _ _ _=>none)
  (λ_ _ _=>none)
  (λ_ _ _ _ _ _ _ _=>none)
  (λ_ _ _ _ _=>none)
  (λ_ _ _ _ _=>none)
  (λ_ _ _=>none)
  (λ_ _ _ _ _ _=>none)
  ⟨⟩ (λ_ _ _ _=>⟨⟩) v
def stC(new:LV)(esz cnt:Nat)(c:T LV)(off n:Nat)(L:LV):Option O7:=
 Bool.rec (motive:=λ_=>Option O7)
  (Bool.rec none (some (.arr esz cnt (T.set c (Nat.div off esz) (AGc new (Nat.mod off esz) L)))) (Nat.ble (Nat.add (Nat.mod off esz) n) esz))
  (some (.arr esz cnt (T.set c (Nat.div off esz) new))) (band (Nat.beq n esz) (Nat.beq (Nat.mod off esz) 0))
def stB(esz cnt:Nat)(c:T LV)(off n:Nat)(new:LV):Option O7:=
 BP (Bool.rec none (T.get c (Nat.div off esz)) (Nat.blt (Nat.div off esz) cnt)) (stC new esz cnt c off n)
def O7.st(b:O7):Nat->Nat->LV->Option O7:=
 O7.rec (motive:=λ_=>Nat->Nat->LV->Option O7) stB (λ_ _ _ _ _=>none) (λ_ _ _=>none) b
def stH(H:Heap)(id off n:Nat)(new:LV):Option Heap:=
 BP (Option.rec (motive:=λ_=>Nat->Nat->LV->Option O7) (λ_ _ _=>none) O7.st (T.get H id) off n new) λb=>some (T.set H id b)
def stP(v:V):(Heap)->(Nat)->(LV)->Option Heap:=
 V.rec (motive_1:=λ_=>(Heap)->(Nat)->(LV)->Option Heap) (motive_2:=λ_=>PUnit)
  (λ_ _ _=>none)
  (λ_ _ _ _ _ _=>none)
  (λ_ _ _ _=>none)
  (λ_ _ _ _ _=>none)
  (λ_ _ _=>none)
  (λa b H n new=>stH H a b n new)
  (λ_ _ _ _ _=>none)
  (λ_ _ _=>none)
  (λ_ _ _ _ _ _ _ _=>none)
  (λ_ _ _ _ _ _ _=>none)
  (λ_ _ _ _ _ _ _ _=>none)
  (λ_ _ _=>none)
  (λ_ _ _ _=>none)
  (λ_ _ _=>none)
  (λ_ _ _ _ _ _ _ _=>none)
  (λ_ _ _ _ _=>none)
  (λ_ _ _ _ _=>none)
  (λ_ _ _=>none)
  (λ_ _ _ _ _ _=>none)
  ⟨⟩ (λ_ _ _ _=>⟨⟩) v
def ALd(v:V):(IntKind)->(Int)->(Nat)->Option Bool:=
 V.rec (motive_1:=λ_=>(IntKind)->(Int)->(Nat)->Option Bool) (motive_2:=λ_=>PUnit)
  (λ_ _ _=>none)
  (λa b c k n s=>Bool.rec (motive:=λ_=>Option Bool) none (some (ieq n b)) (band (keq k a) (Nat.beq (Nat.add s c) 0)))
  (λ_ _ _ _=>none)
  (λ_ _ _ _ _=>none)
  (λ_ _ _=>none)
  (λ_ _ _ _ _=>none)
  (λ_ _ _ _ _=>none)
  (λ_ _ _=>none)
  (λ_ _ _ _ _ _ _ _=>none)
  (λ_ _ _ _ _ _ _=>none)
  (λ_ _ _ _ _ _ _ _=>none)
  (λ_ _ _=>none)
  (λ_ _ _ _=>none)
  (λ_ _ _=>none)
  (λ_ _ _ _ _ _ _ _=>none)
  (λ_ _ _ _ _=>none)
  (λ_ _ _ _ _=>none)
  (λ_ _ _=>none)
  (λ_ _ _ _ _ _=>none)
  ⟨⟩ (λ_ _ _ _=>⟨⟩) v
def AGn(v:V):(Bool)->Option Bool:=
 V.rec (motive_1:=λ_=>(Bool)->Option Bool) (motive_2:=λ_=>PUnit)
  (λ_=>none)
  (λ_ _ _ _=>none)
  (λa x=>some (ALt x a))
  (λ_ _ _=>none)
  (λ_=>none)
  (λ_ _ _=>none)
  (λ_ _ _=>none)
  (λ_=>none)
  (λ_ _ _ _ _ _=>none)
  (λ_ _ _ _ _=>none)
  (λ_ _ _ _ _ _=>none)
  (λ_=>none)
  (λ_ _=>none)
  (λ_=>none)
  (λ_ _ _ _ _ _=>none)
  (λ_ _ _=>none)
  (λ_ _ _=>none)
  (λ_=>none)
  (λ_ _ _ _=>none)
  ⟨⟩ (λ_ _ _ _=>⟨⟩) v
def eqStr(v:V):(Nat)->(Nat)->Option Bool:=
 V.rec (motive_1:=λ_=>(Nat)->(Nat)->Option Bool) (motive_2:=λ_=>PUnit)
  (λ_ _=>none)
  (λ_ _ _ _ _=>none)
  (λ_ _ _=>none)
  (λa b l d=>some (band (Nat.beq l a) (Nat.beq d b)))
  (λ_ _=>none)
  (λ_ _ _ _=>none)
  (λ_ _ _ _=>none)
  (λ_ _=>none)
  (λ_ _ _ _ _ _ _=>none)
  (λ_ _ _ _ _ _=>none)
  (λ_ _ _ _ _ _ _=>none)
  (λ_ _=>none)
  (λ_ _ _=>none)
  (λ_ _=>none)
  (λ_ _ _ _ _ _ _=>none)
  (λ_ _ _ _=>none)
  (λ_ _ _ _=>none)
  (λ_ _=>none)
  (λ_ _ _ _ _=>none)
  ⟨⟩ (λ_ _ _ _=>⟨⟩) v
def ALP(v:V):Option Bool:=
 V.rec (motive_1:=λ_=>Option Bool) (motive_2:=λ_=>PUnit)
  (none)
  (λ_ _ _=>none)
  (λ_=>none)
  (λ_ _=>none)
  (some true)
  (λ_ _=>some false)
  (λ_ _=>some false)
  (none)
  (λ_ _ _ _ _=>none)
  (λ_ _ _ _=>none)
  (λ_ _ _ _ _=>none)
  (none)
  (λ_=>none)
  (none)
  (λ_ _ _ _ _=>none)
  (λ_ _=>none)
  (λ_ _=>none)
  (none)
  (λ_ _ _=>none)
  ⟨⟩ (λ_ _ _ _=>⟨⟩) v
def AOV(v:V):(Nat)->(Nat)->Option Bool:=
 V.rec (motive_1:=λ_=>(Nat)->(Nat)->Option Bool) (motive_2:=λ_=>PUnit)
  (λ_ _=>none)
  (λ_ _ _ _ _=>none)
  (λ_ _ _=>none)
  (λ_ _ _ _=>none)
  (λ_ _=>some false)
  (λa b i o=>Bool.rec none (some (Nat.beq o b)) (Nat.beq i a))
  (λ_ _ _ _=>none)
  (λ_ _=>none)
  (λ_ _ _ _ _ _ _=>none)
  (λ_ _ _ _ _ _=>none)
  (λ_ _ _ _ _ _ _=>none)
  (λ_ _=>none)
  (λ_ _ _=>none)
  (λ_ _=>none)
  (λ_ _ _ _ _ _ _=>none)
  (λ_ _ _ _=>none)
  (λ_ _ _ _=>none)
  (λ_ _=>none)
  (λ_ _ _ _ _=>none)
  ⟨⟩ (λ_ _ _ _=>⟨⟩) v
def AMN(v:V):Option Bool:=
 V.rec (motive_1:=λ_=>Option Bool) (motive_2:=λ_=>PUnit)
  (none)
  (λ_ _ _=>none)
  (λ_=>none)
  (λ_ _=>none)
  (some false)
  (λ_ _=>none)
  (λ_ _=>none)
  (none)
  (λ_ _ _ _ _=>none)
  (λ_ _ _ _=>none)
  (λ_ _ _ _ _=>none)
  (none)
  (λ_=>none)
  (none)
  (λ_ _ _ _ _=>none)
  (λ_ _=>none)
  (λ_ _=>none)
  (none)
  (λ_ _ _=>none)
  ⟨⟩ (λ_ _ _ _=>⟨⟩) v
def ABu(v:V):(V)->Option Bool:=
 V.rec (motive_1:=λ_=>(V)->Option Bool) (motive_2:=λ_=>PUnit)
  (λ_=>none)
  (λa b c y=>ALd y a b c)
  (λ_ _=>none)
  (λ_ _ _=>none)
  (λ_=>none)
  (λ_ _ _=>none)
  (λ_ _ _=>none)
  (λ_=>none)
  (λ_ _ _ _ _ _=>none)
  (λ_ _ _ _ _=>none)
  (λ_ _ _ _ _ _=>none)
  (λ_=>none)
  (λ_ _=>none)
  (λ_=>none)
  (λ_ _ _ _ _ _=>none)
  (λ_ _ _=>none)
  (λ_ _ _=>none)
  (λ_=>none)
  (λ_ _ _ _=>none)
  ⟨⟩ (λ_ _ _ _=>⟨⟩) v
def AGm(v:V):(V)->Option Bool:=
 V.rec (motive_1:=λ_=>(V)->Option Bool) (motive_2:=λ_=>PUnit)
  (λ_=>none)
  (λ_ _ _ _=>none)
  (λ_ _=>none)
  (λa b y=>eqStr y a b)
  (λ_=>none)
  (λ_ _ _=>none)
  (λ_ _ _=>none)
  (λ_=>none)
  (λ_ _ _ _ _ _=>none)
  (λ_ _ _ _ _=>none)
  (λ_ _ _ _ _ _=>none)
  (λ_=>none)
  (λ_ _=>none)
  (λ_=>none)
  (λ_ _ _ _ _ _=>none)
  (λ_ _ _=>none)
  (λ_ _ _=>none)
  (λ_=>none)
  (λ_ _ _ _=>none)
  ⟨⟩ (λ_ _ _ _=>⟨⟩) v
def AAG(v:V):(V)->Option Bool:=
 V.rec (motive_1:=λ_=>(V)->Option Bool) (motive_2:=λ_=>PUnit)
  (λ_=>none)
  (λ_ _ _ _=>none)
  (λa y=>AGn y a)
  (λ_ _ _=>none)
  (λ_=>none)
  (λ_ _ _=>none)
  (λ_ _ _=>none)
  (λ_=>none)
  (λ_ _ _ _ _ _=>none)
  (λ_ _ _ _ _=>none)
  (λ_ _ _ _ _ _=>none)
  (λ_=>none)
  (λ_ _=>none)
  (λ_=>none)
  (λ_ _ _ _ _ _=>none)
  (λ_ _ _=>none)
  (λ_ _ _=>none)
  (λ_=>none)
  (λ_ _ _ _=>none)
  ⟨⟩ (λ_ _ _ _=>⟨⟩) v
def ALM(v:V):(V)->Option Bool:=
 V.rec (motive_1:=λ_=>(V)->Option Bool) (motive_2:=λ_=>PUnit)
  (λ_=>none)
  (λ_ _ _ _=>none)
  (λ_ _=>none)
  (λ_ _ _=>none)
  (λy=>ALP y)
  (λa b y=>AOV y a b)
  (λ_ _ y=>AMN y)
  (λ_=>none)
  (λ_ _ _ _ _ _=>none)
  (λ_ _ _ _ _=>none)
  (λ_ _ _ _ _ _=>none)
  (λ_=>none)
  (λ_ _=>none)
  (λ_=>none)
  (λ_ _ _ _ _ _=>none)
  (λ_ _ _=>none)
  (λ_ _ _=>none)
  (λ_=>none)
  (λ_ _ _ _=>none)
  ⟨⟩ (λ_ _ _ _=>⟨⟩) v
def ALq(v:V):Option Bool:=
 V.rec (motive_1:=λ_=>Option Bool) (motive_2:=λ_=>PUnit)
  (none)
  (λ_ _ _=>none)
  (λ_=>none)
  (λ_ _=>none)
  (none)
  (λ_ _=>none)
  (λ_ _=>none)
  (some true)
  (λ_ _ _ _ _=>some false)
  (λ_ _ _ _=>some false)
  (λ_ _ _ _ _=>some false)
  (none)
  (λ_=>none)
  (none)
  (λ_ _ _ _ _=>none)
  (λ_ _=>none)
  (λ_ _=>none)
  (none)
  (λ_ _ _=>none)
  ⟨⟩ (λ_ _ _ _=>⟨⟩) v
def dS(v:V):Option Bool:=
 V.rec (motive_1:=λ_=>Option Bool) (motive_2:=λ_=>PUnit)
  (none)
  (λ_ _ _=>none)
  (λ_=>none)
  (λ_ _=>none)
  (none)
  (λ_ _=>none)
  (λ_ _=>none)
  (some false)
  (λ_ _ _ _ _=>none)
  (λ_ _ _ _=>none)
  (λ_ _ _ _ _=>none)
  (none)
  (λ_=>none)
  (none)
  (λ_ _ _ _ _=>none)
  (λ_ _=>none)
  (λ_ _=>none)
  (none)
  (λ_ _ _=>none)
  ⟨⟩ (λ_ _ _ _=>⟨⟩) v
def AKC(v:V):Option Bool:=
 V.rec (motive_1:=λ_=>Option Bool) (motive_2:=λ_=>PUnit)
  (none)
  (λ_ _ _=>none)
  (λ_=>none)
  (λ_ _=>none)
  (none)
  (λ_ _=>none)
  (λ_ _=>none)
  (none)
  (λ_ _ _ _ _=>none)
  (λ_ _ _ _=>none)
  (λ_ _ _ _ _=>none)
  (none)
  (λ_=>none)
  (some true)
  (λ_ _ _ _ _=>some false)
  (λ_ _=>none)
  (λ_ _=>none)
  (none)
  (λ_ _ _=>none)
  ⟨⟩ (λ_ _ _ _=>⟨⟩) v
def AIN(v:V):Option Bool:=
 V.rec (motive_1:=λ_=>Option Bool) (motive_2:=λ_=>PUnit)
  (none)
  (λ_ _ _=>none)
  (λ_=>none)
  (λ_ _=>none)
  (none)
  (λ_ _=>none)
  (λ_ _=>none)
  (none)
  (λ_ _ _ _ _=>none)
  (λ_ _ _ _=>none)
  (λ_ _ _ _ _=>none)
  (none)
  (λ_=>none)
  (some false)
  (λ_ _ _ _ _=>none)
  (λ_ _=>none)
  (λ_ _=>none)
  (none)
  (λ_ _ _=>none)
  ⟨⟩ (λ_ _ _ _=>⟨⟩) v
def ALY(v:V):Option Bool:=
 V.rec (motive_1:=λ_=>Option Bool) (motive_2:=λ_=>PUnit)
  (none)
  (λ_ _ _=>none)
  (λ_=>none)
  (λ_ _=>none)
  (none)
  (λ_ _=>none)
  (λ_ _=>none)
  (none)
  (λ_ _ _ _ _=>none)
  (λ_ _ _ _=>none)
  (λ_ _ _ _ _=>none)
  (some true)
  (λ_=>some false)
  (none)
  (λ_ _ _ _ _=>none)
  (λ_ _=>none)
  (λ_ _=>none)
  (none)
  (λ_ _ _=>none)
  ⟨⟩ (λ_ _ _ _=>⟨⟩) v
def AHz(v:V):Option Bool:=
 V.rec (motive_1:=λ_=>Option Bool) (motive_2:=λ_=>PUnit)
  (none)
  (λ_ _ _=>none)
  (λ_=>none)
  (λ_ _=>none)
  (none)
  (λ_ _=>none)
  (λ_ _=>none)
  (none)
  (λ_ _ _ _ _=>none)
  (λ_ _ _ _=>none)
  (λ_ _ _ _ _=>none)
  (some false)
  (λ_=>none)
  (none)
  (λ_ _ _ _ _=>none)
  (λ_ _=>none)
  (λ_ _=>none)
  (none)
  (λ_ _ _=>none)
  ⟨⟩ (λ_ _ _ _=>⟨⟩) v
def kSl(v:V):(V)->Option Bool:=
 V.rec (motive_1:=λ_=>(V)->Option Bool) (motive_2:=λ_=>PUnit)
  (λ_=>none)
  (λ_ _ _ _=>none)
  (λ_ _=>none)
  (λ_ _ _=>none)
  (λ_=>none)
  (λ_ _ _=>none)
  (λ_ _ _=>none)
  (λy=>ALq y)
  (λ_ _ _ _ _ y=>dS y)
  (λ_ _ _ _ y=>dS y)
  (λ_ _ _ _ _ y=>dS y)
  (λ_=>none)
  (λ_ _=>none)
  (λ_=>none)
  (λ_ _ _ _ _ _=>none)
  (λ_ _ _=>none)
  (λ_ _ _=>none)
  (λ_=>none)
  (λ_ _ _ _=>none)
  ⟨⟩ (λ_ _ _ _=>⟨⟩) v
def kFn(v:V):(V)->Option Bool:=
 V.rec (motive_1:=λ_=>(V)->Option Bool) (motive_2:=λ_=>PUnit)
  (λ_=>none)
  (λ_ _ _ _=>none)
  (λ_ _=>none)
  (λ_ _ _=>none)
  (λ_=>none)
  (λ_ _ _=>none)
  (λ_ _ _=>none)
  (λ_=>none)
  (λ_ _ _ _ _ _=>none)
  (λ_ _ _ _ _=>none)
  (λ_ _ _ _ _ _=>none)
  (λ_=>none)
  (λ_ _=>none)
  (λy=>AKC y)
  (λ_ _ _ _ _ y=>AIN y)
  (λ_ _ _=>none)
  (λ_ _ _=>none)
  (λ_=>none)
  (λ_ _ _ _=>none)
  ⟨⟩ (λ_ _ _ _=>⟨⟩) v
def AQe(v:V):(V)->Option Bool:=
 V.rec (motive_1:=λ_=>(V)->Option Bool) (motive_2:=λ_=>PUnit)
  (λ_=>none)
  (λ_ _ _ _=>none)
  (λ_ _=>none)
  (λ_ _ _=>none)
  (λ_=>none)
  (λ_ _ _=>none)
  (λ_ _ _=>none)
  (λ_=>none)
  (λ_ _ _ _ _ _=>none)
  (λ_ _ _ _ _=>none)
  (λ_ _ _ _ _ _=>none)
  (λy=>ALY y)
  (λ_ y=>AHz y)
  (λ_=>none)
  (λ_ _ _ _ _ _=>none)
  (λ_ _ _=>none)
  (λ_ _ _=>none)
  (λ_=>none)
  (λ_ _ _ _=>none)
  ⟨⟩ (λ_ _ _ _=>⟨⟩) v
def QW(o:Option Bool)(f:Bool->Option Bool):Option Bool:=Option.rec (motive:=λ_=>(Bool->Option Bool)->Option Bool) (λ_=>none) (λv f=>f v) o f
inductive CK where
 |int|str|bool|ptr
def CK.eq(k:CK):V->V->Option Bool:=CK.rec (motive:=λ_=>V->V->Option Bool) ABu AGm AAG ALM k
def ABK(ks:List CK):List V->List V->Option Bool:=
 List.rec (motive:=λ_=>List V->List V->Option Bool) (λa b=>List.rec (motive:=λ_=>Option Bool) (List.rec (motive:=λ_=>Option Bool) (some true) (λ_ _ _=>none) b) (λ_ _ _=>none) a)
  (λk _ g a b=>List.rec (motive:=λ_=>Option Bool) none (λx xs _=>List.rec (motive:=λ_=>Option Bool) none (λy ys _=>QW (k.eq x y) λr=>QW (g xs ys) λr'=>some (band r r')) b) a) ks
def AO2(v:V):(List CK)->(LV)->Option Bool:=
 V.rec (motive_1:=λ_=>(List CK)->(LV)->Option Bool) (motive_2:=λ_=>PUnit)
  (λ_ _=>none)
  (λ_ _ _ _ _=>none)
  (λ_ _ _=>none)
  (λ_ _ _ _=>none)
  (λ_ _=>none)
  (λ_ _ _ _=>none)
  (λ_ _ _ _=>none)
  (λ_ _=>none)
  (λ_ _ _ _ _ _ _=>none)
  (λ_ _ _ _ _ _=>none)
  (λ_ _ _ _ _ _ _=>none)
  (λ_ _=>none)
  (λ_ _ _=>none)
  (λ_ _=>none)
  (λ_ _ _ _ _ _ _=>none)
  (λa _ ks l=>ABK ks l a)
  (λ_ _ _ _=>none)
  (λ_ _=>none)
  (λ_ _ _ _ _=>none)
  ⟨⟩ (λ_ _ _ _=>⟨⟩) v
def APD(v:V):(List CK)->(V)->Option Bool:=
 V.rec (motive_1:=λ_=>(List CK)->(V)->Option Bool) (motive_2:=λ_=>PUnit)
  (λ_ _=>none)
  (λ_ _ _ _ _=>none)
  (λ_ _ _=>none)
  (λ_ _ _ _=>none)
  (λ_ _=>none)
  (λ_ _ _ _=>none)
  (λ_ _ _ _=>none)
  (λ_ _=>none)
  (λ_ _ _ _ _ _ _=>none)
  (λ_ _ _ _ _ _=>none)
  (λ_ _ _ _ _ _ _=>none)
  (λ_ _=>none)
  (λ_ _ _=>none)
  (λ_ _=>none)
  (λ_ _ _ _ _ _ _=>none)
  (λa _ ks y=>AO2 y ks a)
  (λ_ _ _ _=>none)
  (λ_ _=>none)
  (λ_ _ _ _ _=>none)
  ⟨⟩ (λ_ _ _ _=>⟨⟩) v
inductive EK where
 |one (k:CK)|agg (ks:List CK)|sl|fn|map
def EK.eq(k:EK):V->V->Option Bool:=EK.rec (motive:=λ_=>V->V->Option Bool) (λk=>k.eq) (λks x y=>APD x ks y) kSl kFn AQe k
inductive B2 where
 |add|sub|mul|quo|rem|and|or|xor|andNot|shl|shr|lss|leq|gtr|geq
def AIx(f:Int->Int->Bool)(x y:V):Option V:=x.Io λk a s=>y.Io λk' b t=>BK (band (keq k k') (Nat.beq (Nat.add s t) 0)) (mkB (f a b))
def AGB(f:Nat->Nat->Nat->Nat->Bool)(x y:V):Option V:=x.UM λl c=>y.UM λm d=>mkB (f l c m d)
def ari(f:Int->Int->Int)(x y:V):Option V:=x.Io λk a s=>y.Io λk' b t=>BK (keq k k') (mkI k (f a b) (Nat.add s t))
def dvs(f:Int->Int->Int)(x y:V):Option V:=
 x.Io λk a s=>y.Io λk' b t=>BK (band (keq k k') (band (Nat.beq t 0) (Yk (ieq b 0)))) (mkI k (f a b) s)
def APW(x y:V):Option V:=
 x.Io λk a s=>y.Io λk' b t=>BK (band (keq k k') (band (Nat.beq t 0) (Yk (ieq b 0)))) (mkN k (Int.tmod a b) s)
def ASA(x y:V):Option V:=x.UM λl c=>y.UM λm d=>BK (Nat.blt (Nat.add l m) 9223372036854775808) (GU (Nat.add l m) λn=>GU (ASR l c d) λe=>some (.str n e))
def AP3(x y:V):Option V:=uh (isStr x) (ASA x y) (ari ABD x y)
def ASb(x y:V):Option V:=ari (λa b=>ABD a (Int.neg b)) x y
def ASO(x y:V):Option V:=ari Int.mul x y
def AMn(k:IntKind)(a b:Int):Int:=Int.rec (motive:=λ_=>Int->IntKind->Int)
 (λm b k=>Int.rec (motive:=λ_=>Nat->IntKind->Int) (λn m k=>bT k (.ofNat (Nat.land m n))) (λn m k=>bits .and k (.ofNat m) (.negSucc n)) b m k)
 (λm b k=>bits .and k (.negSucc m) b) a b k
def AQ6(x y:V):Option V:=x.Io λk a s=>y.Io λk' b t=>BK (band (keq k k') (Nat.beq (Nat.add s t) 0)) (V4 (AMn k a b) λm=>some (.int k m 0))
def AMA(o:BinOp)(x y:V):Option V:=x.Io λk a s=>y.Io λk' b t=>BK (band (keq k k') (Nat.beq (Nat.add s t) 0)) (V4 (bits o k a b) λm=>some (.int k m 0))
def ARu(a:Int)(n:Nat):Int:=Int.fdiv a (Int.ofNat (Nat.pow 2 n))
def AF7(k:IntKind):Nat:=IntKind.rec 8 16 32 64 8 16 32 64 k
def APi(x y:V):Option V:=x.Io λk a s=>y.Io λ_ b t=>BK (band (Yk (ilt b 0)) (Nat.beq (Nat.add s t) 0)) (V4 (ARu a (Nat.min (Int.toNat b) (AF7 k))) λm=>some (.int k m 0))
def AQq(x y:V):Option V:=x.Io λk a s=>y.Io λ_ b t=>BK (band (Yk (ilt b 0)) (Nat.beq (Nat.add s t) 0)) (mkI k (Int.mul a (Int.ofNat (Nat.pow 2 (Nat.min (Int.toNat b) (AF7 k))))) 0)
def ofB(o:Option Bool):Option V:=Option.rec none mkB o
def CX(k:EK)(neg:Bool)(x y:V):Option V:=ofB (QW (k.eq x y) λb=>some (Bool.rec (motive:=λ_=>Bool->Bool) (λb=>b) Yk neg b))
def AQ5(x y:V):Option V:=uh (isStr x) (AGB slt x y) (AIx ilt x y)
def APg(x y:V):Option V:=uh (isStr x) (AGB (λl c m d=>Yk (slt m d l c)) x y) (AIx ile x y)
def AO8(x y:V):Option V:=uh (isStr x) (AGB (λl c m d=>slt m d l c) x y) (AIx (λa b=>ilt b a) x y)
def ARB(x y:V):Option V:=uh (isStr x) (AGB (λl c m d=>Yk (slt l c m d)) x y) (AIx (λa b=>ile b a) x y)
def B2.ev(o:B2):V->V->Option V:=B2.rec (motive:=λ_=>V->V->Option V)
 AP3 ASb ASO (dvs Int.tdiv) APW AQ6 (AMA .or) (AMA .xor) (AMA .andNot) AQq APi AQ5 APg AO8 ARB o
inductive AN where
 |mv (x:X)
 |pick (c a b:X)
 |ld1 (x:X)
 |ldn (n:Nat) (x:X)
 |AKg (x:X)
 |bin (o:B2) (x y:X)
 |eq (k:EK) (neg:Bool) (x y:X)
 |not (x:X)
 |neg (x:X)
 |cvi (k:IntKind) (x:X)
 |AT0 (f:Nat) (first caps:List X)
 |ARX (off:Nat) (x:X)
 |field1 (off:Nat) (x:X)
 |AQ1 (off n:Nat) (x:X)
 |ASE (esz:Nat) (x i:X)
 |AQI (n esz:Nat) (x i:X)
 |ATZ (x i:X)
 |AUd (n:Nat) (x i:X)
 |ext (x:X) (i:Nat)
 |AAK (x:X)
 |AUh (x:X)
 |ASp (x:X)
 |AUR (n:Nat)
 |look (c:CK) (ok:Bool) (zero:V) (m k:X)
 |build (zero:List V) (parts:List (Nat×Nat×X))
 |ASD (x:X) (lo hi:Option X)
 |slc (esz:Nat) (x:X) (lo hi mx:Option X)
 |AUK (n esz:Nat) (x:X) (lo hi:Option X)
 |AT8 (x y:X)
 |ATc (x y:X)
 |cvS (x:X)
 |AMX (s c:X)
 |AGB (x y:X)
inductive AA where
 |alloc (esz:Nat) (es:List (List V))
 |box (x:X)
 |AEI (esz cnt:Nat) (zero:List V) (parts:List (Nat×X))
 |zD (esz bytes:Nat) (zero:List V) (l c:X)
 |AKB
inductive AE where
 |asg (x:X)
 |st (n:Nat) (x v:X)
 |app (esz bytes:Nat) (x y:X)
 |copy (esz:Nat) (x y:X)
 |AHH (c:CK) (m k v:X)
 |del (c:CK) (m k:X)
 |AS8 (m:X)
 |call (f:Nat) (args:List X)
 |AH4 (x:X) (args:List X)
 |defer (dp:P2) (x:X) (args:List X)
 |cvB (x:X)
inductive AO where
 |n (o:AN)|a (o:AA)|e (o:AE)
inductive kF where
 |no|to (p:P2)|ps
inductive Gd where
 |no|on (x:X) (b:Bool)
inductive qx where
 |mk (d:kF) (g:Gd) (o:AO)
def AMo(n:Int):(Nat->Option V)->Option V:=Int.rec (motive:=λ_=>(Nat->Option V)->Option V) (λm f=>f m) (λ_ _=>none) n
def WQ(v:V)(f:Nat->Option V):Option V:=v.Io λ_ n s=>BK (Nat.beq s 0) (AMo n f)
def aJ(x:Option X):RS->Nat->(Nat->Option V)->Option V:=
 Option.rec (motive:=λ_=>RS->Nat->(Nat->Option V)->Option V) (λ_ d f=>f d) (λx R _ f=>WQ (x.ev R) f) x
def f3(a b c:Nat)(f:Nat->Nat->Nat->V):Option V:=GU a λa=>GU b λb=>GU c λc=>some (f a b c)
def ABS(R:RS)(lo hi mx:Option X):Option V:=aJ mx R 0 λm=>aJ hi R 0 λh=>aJ lo R 0 λl=>BK (band (Nat.ble l h) (band (Nat.ble h m) (Nat.beq m 0))) (some .AY)
def AEw(z:Nat)(R:RS)(lo hi mx:Option X)(id off ln cap esz:Nat):Option V:=BK (Nat.beq z esz) (aJ mx R cap λm=>aJ hi R ln λh=>aJ lo R 0 λl=>
 BK (band (Nat.ble l h) (band (Nat.ble h m) (Nat.ble m cap))) (f3 (Nat.add off l) (Nat.sub h l) (Nat.sub m l) λo d c=>.sl id o d c esz))
def yh(R:RS)(lo hi:Option X)(id off ln esz:Nat):Option V:=aJ hi R ln λh=>aJ lo R 0 λl=>
 BK (band (Nat.ble l h) (Nat.ble h ln)) (f3 (Nat.add off l) (Nat.sub h l) 0 λo d _=>.Qq id o d esz)
def zI(R:RS)(lo hi:Option X)(mx:X)(id off ln esz:Nat):Option V:=WQ (mx.ev R) λm=>aJ hi R 0 λh=>aJ lo R 0 λl=>
 BK (band (Nat.ble l h) (band (Nat.ble h m) (Nat.ble m ln))) (f3 (Nat.add off l) (Nat.sub h l) (Nat.sub m l) λo d c=>.sl id o d c esz)
def uz(z:Nat)(R:RS)(lo hi mx:Option X)(id off ln esz:Nat):Option V:=
 BK (Nat.beq z esz) (Option.rec (motive:=λ_=>Option V) (yh R lo hi id off ln esz) (λmx=>zI R lo hi mx id off ln esz) mx)
def zo(z:Nat)(R:RS)(lo hi mx:Option X)(b off ln cap esz:Nat):Option V:=aJ hi R ln λh=>aJ lo R 0 λl=>
 Option.rec (motive:=λ_=>Option V) (BK (band (Nat.ble l h) (Nat.ble h cap)) (f3 (Nat.add off (Nat.mul l z)) (Nat.sub h l) (Nat.sub cap l) λo d c=>.rsl b o d c esz)) (λ_=>none) mx
def wG(z:Nat)(x:V)(R:RS)(lo hi mx:Option X):Option V:=x.AM2 (ABS R lo hi mx) (AEw z R lo hi mx) (uz z R lo hi mx) (zo z R lo hi mx)
def AIg(x:V)(R:RS)(lo hi:Option X):Option V:=
 x.UM λln c=>aJ hi R ln λh=>aJ lo R 0 λl=>BK (band (Nat.ble l h) (Nat.ble h ln)) (f3 (Nat.sub h l) (ASh c l h) 0 λd c _=>.str d c)
def Ag(esz:Nat)(x i:V):Option V:=WQ i λi=>x.AM2 none
 (λid off ln _ e=>BK (band (Nat.beq e esz) (Nat.blt i ln)) (GU (Nat.mul (Nat.add off i) esz) λo=>some (.ptr id o)))
 (λid off ln e=>BK (band (Nat.beq e esz) (Nat.blt i ln)) (GU (Nat.mul (Nat.add off i) esz) λo=>some (.ptr id o)))
 (λb off ln _ _=>BK (Nat.blt i ln) (GU (Nat.add off (Nat.mul i esz)) λo=>some (.gptr b o)))
def AQ(off:Nat)(x:V):Option V:=x.AFG (λid o=>GU (Nat.add o off) λo=>some (.ptr id o)) (λb o=>GU (Nat.add o off) λo=>some (.gptr b o))
abbrev ME:=List (V×V×Nat)
def jJ(c:CK)(k:V)(es:ME):Nat->Option (Option (Nat×V)):=
 List.rec (motive:=λ_=>Nat->Option (Option (Nat×V))) (λ_=>some none)
  (λe _ g i=>BP (c.eq e.1 k) λr=>Bool.rec (g (Nat.succ i)) (some (some (i,e.2.1))) r) es
def ASQ(b:O7):(ME->Nat->Option V)->Option V:=O7.rec (motive:=λ_=>(ME->Nat->Option V)->Option V) (λ_ _ _ _=>none) (λes c f=>f es c) (λ_=>none) b
def Q7(H:Heap)(m:V)(f:ME->Nat->Option V):Option V:=m.AHV (f [] 0) λid=>Option.rec (motive:=λ_=>(ME->Nat->Option V)->Option V) (λ_=>none) ASQ (T.get H id) f
def yI(parts:List (Nat×Nat×X)):RS->List V->List V:=
 List.rec (motive:=λ_=>RS->List V->List V) (λ_ l=>l) (λp _ g R l=>g R (AGc (Aq (p.2.2.ev R)) p.1 l)) parts
def Wl(v:V):Bool:=
 V.rec (motive_1:=λ_=>Bool) (motive_2:=λ_=>PUnit)
  (false)
  (λ_ _ _=>true)
  (λ_=>true)
  (λ_ _=>true)
  (true)
  (λ_ _=>true)
  (λ_ _=>true)
  (true)
  (λ_ _ _ _ _=>true)
  (λ_ _ _ _=>true)
  (λ_ _ _ _ _=>true)
  (true)
  (λ_=>true)
  (true)
  (λ_ _ _ _ _=>true)
  (λ_ _=>true)
  (λ_ _=>false)
  (true)
  (λ_ _ _=>true)
  ⟨⟩ (λ_ _ _ _=>⟨⟩) v
def eX(parts:List (Nat×Nat×X)):RS->Bool:=
 List.rec (motive:=λ_=>RS->Bool) (λ_=>true) (λp _ g R=>band (band (Wl (p.2.2.ev R)) (Nat.beq (len (Aq (p.2.2.ev R))) p.2.1)) (g R)) parts
abbrev ER:=List LV
def CQ(H:Heap)(id esz:Nat)(n:Nat):Nat->Option ER:=
 Nat.rec (motive:=λ_=>Nat->Option ER) (λ_=>some [])
  (λ_ g o=>BP (Z4 H id (Nat.mul o esz) esz) λL=>BP (g (Nat.succ o)) λLS=>some (L::LS)) n
def jS(G:AX)(b esz:Nat)(n:Nat):Nat->Option ER:=
 Nat.rec (motive:=λ_=>Nat->Option ER) (λ_=>some [])
  (λ_ g o=>BP (G b o esz) λL=>BP (g (Nat.add o esz)) λLS=>some (L::LS)) n
def Yr(n:Nat):Nat->ER:=
 Nat.rec (motive:=λ_=>Nat->ER) (λ_=>[]) (λ_ g c=>[.int .u8 (.ofNat (Nat.mod c 256)) 0]::g (Nat.div c 256)) n
def elems(v:V):(AX)->(Heap)->(Nat)->Option ER:=
 V.rec (motive_1:=λ_=>(AX)->(Heap)->(Nat)->Option ER) (motive_2:=λ_=>PUnit)
  (λ_ _ _=>none)
  (λ_ _ _ _ _ _=>none)
  (λ_ _ _ _=>none)
  (λa b _ _ z=>Bool.rec (motive:=λ_=>Option ER) none (some (Yr a b)) (Nat.beq 1 z))
  (λ_ _ _=>none)
  (λ_ _ _ _ _=>none)
  (λ_ _ _ _ _=>none)
  (λ_ _ _=>some [])
  (λa b c _ e _ H z=>Bool.rec (motive:=λ_=>Option ER) none (CQ H a z c b) (Nat.beq e z))
  (λa b c d _ H z=>Bool.rec (motive:=λ_=>Option ER) none (CQ H a z c b) (Nat.beq d z))
  (λa b c _ _ G _ z=>jS G a z c b)
  (λ_ _ _=>none)
  (λ_ _ _ _=>none)
  (λ_ _ _=>none)
  (λ_ _ _ _ _ _ _ _=>none)
  (λ_ _ _ _ _=>none)
  (λ_ _ _ _ _=>none)
  (λ_ _ _=>none)
  (λ_ _ _ _ _ _=>none)
  ⟨⟩ (λ_ _ _ _=>⟨⟩) v
def byteOf(v:V):Option Nat:=
 V.rec (motive_1:=λ_=>Option Nat) (motive_2:=λ_=>PUnit)
  (none)
  (λa b c=>Int.rec (motive:=λ_=>Nat->Option Nat) (λm t=>Bool.rec none (some m) (band (Nat.beq (kno a) 4) (band (Nat.blt m 256) (Nat.beq t 0)))) (λ_ _=>none) b c)
  (λ_=>none)
  (λ_ _=>none)
  (none)
  (λ_ _=>none)
  (λ_ _=>none)
  (none)
  (λ_ _ _ _ _=>none)
  (λ_ _ _ _=>none)
  (λ_ _ _ _ _=>none)
  (none)
  (λ_=>none)
  (none)
  (λ_ _ _ _ _=>none)
  (λ_ _=>none)
  (λ_ _=>none)
  (none)
  (λ_ _ _=>none)
  ⟨⟩ (λ_ _ _ _=>⟨⟩) v
def ACn(l:ER):Option Nat:=
 List.rec (motive:=λ_=>Option Nat) (some 0) (λx _ g=>BP (nth x 0) λv=>BP (byteOf v) λm=>BP g λc=>some (Nat.add m (Nat.mul 256 c))) l
def AA1(b:Nat)(f:Nat):Nat->Nat->Int:=
 Nat.rec (motive:=λ_=>Nat->Nat->Int) (λ_ _=>.negSucc 0)
  (λ_ g c i=>Bool.rec (g (Nat.div c 256) (Nat.succ i)) (.ofNat i) (Nat.beq (Nat.mod c 256) b)) f
abbrev jK:=AX->RS->Heap->Option V
def eMv(x:X):jK:=λ_ R _=>some (x.ev R)
def AH7(c a b:X):jK:=λ_ R _=>(c.ev R).kG λt=>uh t (some (a.ev R)) (some (b.ev R))
def AMa(x:X):jK:=λG R H=>U7 (jA (x.ev R) G H 1) λL=>nth L 0
def AMj(n:Nat)(x:X):jK:=λG R H=>U7 (jA (x.ev R) G H n) λL=>some (.agg L)
def AD1(x:X):jK:=λ_ R _=>Ad (x.ev R)
def AMy(o:B2)(x y:X):jK:=λ_ R _=>o.ev (x.ev R) (y.ev R)
def eEq(k:EK)(neg:Bool)(x y:X):jK:=λ_ R _=>CX k neg (x.ev R) (y.ev R)
def ANE(x:X):jK:=λ_ R _=>(x.ev R).kG λb=>mkB (Yk b)
def AOJ(x:X):jK:=λ_ R _=>(x.ev R).Io λk n s=>mkI k (Int.neg n) s
def AN3(k:IntKind)(x:X):jK:=λ_ R _=>(x.ev R).Io λ_ n s=>mkI k n s
def AID(f:Nat)(a c:List X):jK:=λ_ R _=>some (.fn f (aC a R) (aC c R))
def ADO(off:Nat)(x:X):jK:=λ_ R _=>AQ off (x.ev R)
def y8(off:Nat)(x:X):jK:=λ_ R _=>(x.ev R).sJ λl=>nth l off
def yc(off n:Nat)(x:X):jK:=λ_ R _=>(x.ev R).sJ λl=>some (.agg (Xb n (kL off l)))
def ADC(esz:Nat)(x i:X):jK:=λ_ R _=>Ag esz (x.ev R) (i.ev R)
def y9(n esz:Nat)(x i:X):jK:=λ_ R _=>WQ (i.ev R) λi=>BK (Nat.blt i n) (AQ (Nat.mul i esz) (x.ev R))
def AIP(x i:X):jK:=λ_ R _=>(x.ev R).UM λln c=>WQ (i.ev R) λi=>BK (Nat.blt i ln) (GU (AKS c i) λb=>some (.int .u8 (.ofNat b) 0))
def AIZ(n:Nat)(x i:X):jK:=λ_ R _=>(x.ev R).sJ λl=>WQ (i.ev R) λi=>BK (Nat.blt i n) (nth l i)
def AON(x:X)(i:Nat):jK:=λ_ R _=>(x.ev R).AFv λl=>nth l i
def AIX(x:X):jK:=λ_ R _=>(x.ev R).UM λn _=>some (.int .i64 (.ofNat n) 0)
def AIi(x:X):jK:=λ_ R _=>lenV (x.ev R)
def AHk(x:X):jK:=λ_ R H=>Q7 H (x.ev R) λes _=>GU (len es) λn=>some (.int .i64 (.ofNat n) 0)
def ASg(n:Nat):jK:=λ_ _ _=>some (.int .i64 (.ofNat n) 0)
def AHg(ok:Bool)(z:V)(r:Option (Nat×V)):Option V:=
 Option.rec (motive:=λ_=>Option V) (uh ok (some (.Di [z,.bool false])) (some z)) (λp=>uh ok (some (.Di [p.2,.bool true])) (some p.2)) r
def AHf(c:CK)(ok:Bool)(z:V)(m k:X):jK:=λ_ R H=>Q7 H (m.ev R) λes _=>BP (jJ c (k.ev R) es 0) (AHg ok z)
def ADE(z:LV)(ps:List (Nat×Nat×X)):jK:=λ_ R _=>BK (eX ps R) (some (.agg (yI ps R z)))
def ABY(x:X)(lo hi:Option X):jK:=λ_ R _=>AIg (x.ev R) R lo hi
def AOI(z:Nat)(x:X)(lo hi mx:Option X):jK:=λ_ R _=>wG z (x.ev R) R lo hi mx
def AHn(n esz:Nat)(x:X)(lo hi:Option X):jK:=λ_ R _=>(x.ev R).AFG (λid o=>aJ hi R n λh=>aJ lo R 0 λl=>
 BK (band (Nat.beq (Nat.mod o esz) 0) (band (Nat.ble l h) (Nat.ble h n))) (f3 (Nat.add (Nat.div o esz) l) (Nat.sub h l) (Nat.sub n l) λa b c=>.sl id a b c esz)) (λ_ _=>none)
def AM9(x y:X):jK:=λ_ R _=>(x.ev R).Io λk a s=>(y.ev R).Io λk' b t=>BK (band (keq k k') (Nat.beq (Nat.add s t) 0)) (some (.int k (Bool.rec a b (ilt a b)) 0))
def AOM(x y:X):jK:=λ_ R _=>(x.ev R).Io λk a s=>(y.ev R).Io λk' b t=>BK (band (keq k k') (Nat.beq (Nat.add s t) 0)) (some (.int k (Bool.rec a b (ilt b a)) 0))
def ANR(x:X):jK:=λG R H=>BK (Yk (isStr (x.ev R))) (BP (elems (x.ev R) G H 1) λl=>BP (ACn l) λc=>f3 (len l) c 0 λn c _=>.str n c)
def ADV(s c:X):jK:=λ_ R _=>(s.ev R).UM λn cd=>(c.ev R).Io λk b _=>BK (Nat.beq (kno k) 4) (AMo b λb=>BK (Nat.blt b 256) (V4 (AA1 b n cd 0) λi=>some (.int .i64 i 0)))
def AKT(x y:V):Option V:=x.UM λl c=>y.UM λm d=>some (.int .i64 (Bool.rec (Bool.rec (.ofNat 0) (.ofNat 1) (slt m d l c)) (.negSucc 0) (slt l c m d)) 0)
def AIE(x y:X):jK:=λ_ R _=>AKT (x.ev R) (y.ev R)
def AN.ev(o:AN):jK:=AN.rec (motive:=λ_=>jK)
 eMv AH7 AMa AMj AD1 AMy eEq ANE AOJ AN3 AID ADO y8 yc ADC y9 AIP AIZ AON AIX AIi AHk ASg AHf ADE ABY AOI AHn AM9 AOM ANR ADV AIE o
def tq(L:LV)(n:Nat):T LV->T LV:=
 Nat.rec (motive:=λ_=>T LV->T LV) (λt=>t) (λi g t=>g (T.set t i L)) n
def Fj(LS:ER):Nat->T LV->T LV:=
 List.rec (motive:=λ_=>Nat->T LV->T LV) (λ_ t=>t) (λL _ g i t=>g (Nat.succ i) (T.set t i L)) LS
def gB(parts:List (Nat×X)):RS->T LV->T LV:=
 List.rec (motive:=λ_=>RS->T LV->T LV) (λ_ t=>t) (λp _ g R t=>g R (T.set t p.1 (Aq (p.2.ev R)))) parts
def X3(parts:List (Nat×X)):RS->Nat->Nat->Bool:=
 List.rec (motive:=λ_=>RS->Nat->Nat->Bool) (λ_ _ _=>true) (λp _ g R esz cnt=>band (band (Wl (p.2.ev R)) (band (Nat.blt p.1 cnt) (Nat.beq (len (Aq (p.2.ev R))) esz))) (g R esz cnt)) parts
def V.AJ7(v:V):(Nat->Prop)->Prop:=
 V.rec (motive_1:=λ_=>(Nat->Prop)->Prop) (motive_2:=λ_=>PUnit)
  (λ_=>False)
  (λ_ _ _ _=>False)
  (λ_ _=>False)
  (λ_ _ _=>False)
  (λ_=>False)
  (λa _ f=>f a)
  (λ_ _ _=>False)
  (λ_=>False)
  (λ_ _ _ _ _ _=>False)
  (λ_ _ _ _ _=>False)
  (λ_ _ _ _ _ _=>False)
  (λ_=>False)
  (λ_ _=>False)
  (λ_=>False)
  (λ_ _ _ _ _ _=>False)
  (λ_ _ _=>False)
  (λ_ _ _=>False)
  (λ_=>False)
  (λ_ _ _ _=>False)
  ⟨⟩ (λ_ _ _ _=>⟨⟩) v
def V.yu(v:V):(Nat->Nat->Prop)->Prop:=
 V.rec (motive_1:=λ_=>(Nat->Nat->Prop)->Prop) (motive_2:=λ_=>PUnit)
  (λ_=>False)
  (λ_ _ _ _=>False)
  (λ_ _=>False)
  (λ_ _ _=>False)
  (λ_=>False)
  (λa b f=>f a b)
  (λ_ _ _=>False)
  (λ_=>False)
  (λ_ _ _ _ _ _=>False)
  (λ_ _ _ _ _=>False)
  (λ_ _ _ _ _ _=>False)
  (λ_=>False)
  (λ_ _=>False)
  (λ_=>False)
  (λ_ _ _ _ _ _=>False)
  (λ_ _ _=>False)
  (λ_ _ _=>False)
  (λ_=>False)
  (λ_ _ _ _=>False)
  ⟨⟩ (λ_ _ _ _=>⟨⟩) v
abbrev KA:=O7->(Nat->V)->Prop
abbrev AlT:=RS->KA->Prop
def L9(b:Bool)(p:Prop):Prop:=Bool.rec (motive:=λ_=>Prop->Prop) (λ_=>False) (λp=>p) b p
def AD8(v:V)(f:Nat->Prop):Prop:=Hw (WQ v λn=>some (.ptr n 0)) λv=>V.AJ7 v f
def Ai(esz:Nat)(es:ER):AlT:=λ_ k=>DX (len es) λn=>k (.arr esz n (Fj es 0 .e)) λid=>.ptr id 0
def ABo(x:X):AlT:=λR k=>L9 (Wl (x.ev R)) (DX (len (Aq (x.ev R))) λe=>k (.arr e 1 (T.set .e 0 (Aq (x.ev R)))) λid=>.ptr id 0)
def Az(esz cnt:Nat)(z:LV)(ps:List (Nat×X)):AlT:=λR k=>L9 (X3 ps R esz cnt) (k (.arr esz cnt (gB ps R (tq z cnt .e))) λid=>.sl id 0 cnt cnt esz)
def Jc(esz bs:Nat)(z:LV)(l c:X):AlT:=λR k=>AD8 (l.ev R) λl=>AD8 (c.ev R) λc=>
 L9 (band (Nat.ble l c) (Nat.ble (Nat.mul bs c) 281474976710656)) (k (.arr esz c (tq z c .e)) λid=>.sl id 0 l c esz)
def AA2:AlT:=λ_ k=>k (.map [] 0) λid=>.map id
def AA.al(o:AA):AlT:=AA.rec (motive:=λ_=>AlT) Ai ABo Az Jc AA2 o
abbrev K:=JX->Heap->Nat->Prop
abbrev KV:=V->Heap->Nat->Prop
abbrev Au:=Nat->List V->Heap->Nat->KV->Prop
def QV(need bytes:Nat):Bool:=Nat.ble (Nat.mul need bytes) 140737488355328
abbrev AGI:=AX->Nat->Nat->ER->Heap->Nat->KV->Prop
def Ku(esz bs:Nat)(OS LS:ER)(H:Heap)(n:Nat)(k:KV):Prop:=
 DX (Nat.add (len OS) (len LS)) λneed=>L9 (QV need bs) (DX n λn=>k (.Qq n 0 need esz) (T.set H n (.arr esz need (Fj LS (len OS) (Fj OS 0 .e)))) (Nat.succ n))
def AQV:AGI:=λ_ esz bs LS H n k=>List.rec (motive:=λ_=>Prop) (k .AY H n) (λ_ _ _=>Ku esz bs [] LS H n k) LS
def oL(id off ln cap esz need:Nat)(LS:ER)(H:Heap)(n:Nat)(k:KV)(b:O7):Prop:=
 O7.rec (motive:=λ_=>Prop) (λesz' cnt c=>L9 (band (Nat.beq esz esz') (Nat.ble (Nat.add off need) cnt)) (k (.sl id off need cap esz) (T.set H id (.arr esz cnt (Fj LS (Nat.add off ln) c))) n)) (λ_ _=>False) False b
def AOb(id off ln cap e:Nat):AGI:=λ_ esz bs LS H n k=>L9 (Nat.beq e esz) (DX (Nat.add ln (len LS)) λneed=>
 Bool.rec (motive:=λ_=>Prop) (Hw (CQ H id esz ln off) λOS=>Ku esz bs OS LS H n k) (Hw (T.get H id) λb=>oL id off ln cap esz need LS H n k b) (Nat.ble need cap))
def Zj(id off ln esz bs:Nat)(LS:ER)(H:Heap)(n:Nat)(k:KV)(b:O7):Prop:=
 O7.rec (motive:=λ_=>Prop) (λesz' cnt c=>DX (Nat.add ln (len LS)) λneed=>L9 (band (QV need bs) (band (Nat.beq esz esz') (Nat.ble (Nat.add off ln) cnt)))
  (DX n λn=>Nat.rec (motive:=λ_=>Prop)
   (k (.Qq n 0 need esz) (T.set (T.set H id .dead) n (.arr esz need (Fj LS ln c))) (Nat.succ n))
   (λ_ _=>Hw (CQ H id esz ln off) λOS=>k (.Qq n 0 need esz) (T.set (T.set H id .dead) n (.arr esz need (Fj LS ln (Fj OS 0 .e)))) (Nat.succ n)) off))
  (λ_ _=>False) False b
def AJw(id off ln e:Nat):AGI:=λ_ esz bs LS H n k=>L9 (Nat.beq e esz) (List.rec (motive:=λ_=>Prop) (k (.Qq id off ln esz) H n)
 (λ_ _ _=>Hw (T.get H id) λb=>Zj id off ln esz bs LS H n k b) LS)
def ALf(b off ln cap e:Nat):AGI:=λG esz bs LS H n k=>L9 (Nat.blt cap (Nat.add ln (len LS))) (Hw (jS G b esz ln off) λOS=>Ku esz bs OS LS H n k)
def Yx:AGI:=λ_ _ _ _ _ _ _=>False
def ADQ(v:V):AGI:=
 V.rec (motive_1:=λ_=>AGI) (motive_2:=λ_=>PUnit)
  (Yx)
  (λ_ _ _=>Yx)
  (λ_=>Yx)
  (λ_ _=>Yx)
  (Yx)
  (λ_ _=>Yx)
  (λ_ _=>Yx)
  (AQV)
  (λa b c d e=>AOb a b c d e)
  (λa b c d=>AJw a b c d)
  (λa b c d e=>ALf a b c d e)
  (Yx)
  (λ_=>Yx)
  (Yx)
  (λ_ _ _ _ _=>Yx)
  (λ_ _=>Yx)
  (λ_ _=>Yx)
  (Yx)
  (λ_ _ _=>Yx)
  ⟨⟩ (λ_ _ _ _=>⟨⟩) v
def AME(id off esz:Nat)(LS:ER)(H:Heap)(n:Nat)(k:KV)(b:O7):Prop:=
 O7.rec (motive:=λ_=>Prop) (λesz' cnt c=>L9 (band (Nat.beq esz esz') (Nat.ble (Nat.add off (len LS)) cnt)) (DX (len LS) λm=>k (.int .i64 (.ofNat m) 0) (T.set H id (.arr esz cnt (Fj LS off c))) n)) (λ_ _=>False) False b
abbrev CpT:=Nat->ER->Heap->Nat->KV->Prop
def ABH(id off ln:Nat):CpT:=λesz LS H n k=>Hw (T.get H id) λb=>AME id off esz (Xb ln LS) H n k b
def ACK(v:V):(Nat)->(ER)->(Heap)->(Nat)->(KV)->Prop:=
 V.rec (motive_1:=λ_=>(Nat)->(ER)->(Heap)->(Nat)->(KV)->Prop) (motive_2:=λ_=>PUnit)
  (λ_ _ _ _ _=>False)
  (λ_ _ _ _ _ _ _ _=>False)
  (λ_ _ _ _ _ _=>False)
  (λ_ _ _ _ _ _ _=>False)
  (λ_ _ _ _ _=>False)
  (λ_ _ _ _ _ _ _=>False)
  (λ_ _ _ _ _ _ _=>False)
  (λ_ _ H n k=>k (.int .i64 (.ofNat 0) 0) H n)
  (λa b c _ e z L H n k=>L9 (Nat.beq e z) (ABH a b c z L H n k))
  (λa b c d z L H n k=>L9 (Nat.beq d z) (ABH a b c z L H n k))
  (λ_ _ _ _ _ _ _ _ _ _=>False)
  (λ_ _ _ _ _=>False)
  (λ_ _ _ _ _ _=>False)
  (λ_ _ _ _ _=>False)
  (λ_ _ _ _ _ _ _ _ _ _=>False)
  (λ_ _ _ _ _ _ _=>False)
  (λ_ _ _ _ _ _ _=>False)
  (λ_ _ _ _ _=>False)
  (λ_ _ _ _ _ _ _ _=>False)
  ⟨⟩ (λ_ _ _ _=>⟨⟩) v
def AAC{α:Type}(l:List α):Nat->List α:=
 List.rec (motive:=λ_=>Nat->List α) (λ_=>[]) (λy ys g i=>Nat.rec (motive:=λ_=>List α) ys (λi _=>y::g i) i) l
def AOj(b:O7):(ME->Nat->Option O7)->Option O7:=O7.rec (motive:=λ_=>(ME->Nat->Option O7)->Option O7) (λ_ _ _ _=>none) (λes c f=>f es c) (λ_=>none) b
def ARj(H:Heap)(id:Nat)(f:ME->Nat->Option O7)(g:Heap->Prop):Prop:=Hw (T.get H id) λb=>Hw (AOj b f) λb=>g (T.set H id b)
def ABv(v:V):(Heap)->(ME->Nat->Option O7)->(Heap->Prop)->Prop:=
 V.rec (motive_1:=λ_=>(Heap)->(ME->Nat->Option O7)->(Heap->Prop)->Prop) (motive_2:=λ_=>PUnit)
  (λ_ _ _=>False)
  (λ_ _ _ _ _ _=>False)
  (λ_ _ _ _=>False)
  (λ_ _ _ _ _=>False)
  (λ_ _ _=>False)
  (λ_ _ _ _ _=>False)
  (λ_ _ _ _ _=>False)
  (λ_ _ _=>False)
  (λ_ _ _ _ _ _ _ _=>False)
  (λ_ _ _ _ _ _ _=>False)
  (λ_ _ _ _ _ _ _ _=>False)
  (λ_ _ _=>False)
  (λa H f g=>ARj H a f g)
  (λ_ _ _=>False)
  (λ_ _ _ _ _ _ _ _=>False)
  (λ_ _ _ _ _=>False)
  (λ_ _ _ _ _=>False)
  (λ_ _ _=>False)
  (λ_ _ _ _ _ _=>False)
  ⟨⟩ (λ_ _ _ _=>⟨⟩) v
def V.V7(v:V):(Nat->LV->LV->Prop)->Prop:=
 V.rec (motive_1:=λ_=>(Nat->LV->LV->Prop)->Prop) (motive_2:=λ_=>PUnit)
  (λ_=>False)
  (λ_ _ _ _=>False)
  (λ_ _=>False)
  (λ_ _ _=>False)
  (λ_=>False)
  (λ_ _ _=>False)
  (λ_ _ _=>False)
  (λ_=>False)
  (λ_ _ _ _ _ _=>False)
  (λ_ _ _ _ _=>False)
  (λ_ _ _ _ _ _=>False)
  (λ_=>False)
  (λ_ _=>False)
  (λ_=>False)
  (λa b c _ _ f=>f a b c)
  (λ_ _ _=>False)
  (λ_ _ _=>False)
  (λ_=>False)
  (λ_ _ _ _=>False)
  ⟨⟩ (λ_ _ _ _=>⟨⟩) v
def AFe(v:V):LV:=
 V.rec (motive_1:=λ_=>LV) (motive_2:=λ_=>PUnit)
  ([])
  (λ_ _ _=>[])
  (λ_=>[])
  (λ_ _=>[])
  ([])
  (λ_ _=>[])
  (λ_ _=>[])
  ([])
  (λ_ _ _ _ _=>[])
  (λ_ _ _ _=>[])
  (λ_ _ _ _ _=>[])
  ([])
  (λ_=>[])
  ([])
  (λ_ _ _ _ _=>[])
  (λ_ _=>[])
  (λa _=>a)
  ([])
  (λ_ _ _=>[])
  ⟨⟩ (λ_ _ _ _=>⟨⟩) v
abbrev ExT:=AX->Au->RS->Heap->Nat->KV->Prop
def AUO(x:X):ExT:=λ_ _ R H n k=>k (x.ev R) H n
def xSt(sz:Nat)(x v:X):ExT:=λ_ _ R H n k=>L9 (band (Wl (v.ev R)) (Nat.beq (len (Aq (v.ev R))) sz)) (Hw (stP (x.ev R) H sz (Aq (v.ev R))) λH=>k .undef H n)
def AUf(esz bs:Nat)(x y:X):ExT:=λG _ R H n k=>Hw (elems (y.ev R) G H esz) λLS=>ADQ (x.ev R) G esz bs LS H n k
def ASJ(esz:Nat)(x y:X):ExT:=λG _ R H n k=>Hw (elems (y.ev R) G H esz) λLS=>ACK (x.ev R) esz LS H n k
def AGh(ck:CK)(key v:V)(es:ME)(c:Nat):Option O7:=BP (jJ ck key es 0) λr=>
 Option.rec (motive:=λ_=>Option O7) (some (.map (cat es [(key,v,c)]) (Nat.succ c))) (λp=>BP (nth es p.1) λe=>some (.map (dR (e.1,v,e.2.2) es p.1) c)) r
def APk(ck:CK)(key:V)(es:ME)(c:Nat):Option O7:=BP (jJ ck key es 0) λr=>
 Option.rec (motive:=λ_=>Option O7) (some (.map es c)) (λp=>some (.map (AAC es p.1) c)) r
def AUj(c:CK)(m key v:X):ExT:=λ_ _ R H n k=>ABv (m.ev R) H (AGh c (key.ev R) (v.ev R)) λH=>k .undef H n
def ATn(c:CK)(m key:X):ExT:=λ_ _ R H n k=>ABv (m.ev R) H (APk c (key.ev R)) λH=>k (.Di []) H n
def ATp(m:X):ExT:=λ_ _ R H n k=>ABv (m.ev R) H (λ_ c=>some (.map [] c)) λH=>k (.Di []) H n
def ASY(f:Nat)(args:List X):ExT:=λ_ call R H n k=>call f (aC args R) H n k
def APn(x:X)(args:List X):ExT:=λ_ call R H n k=>V.V7 (x.ev R) λf a c=>call f (cat a (cat (aC args R) c)) H n k
def AQS(dp:P2)(x:X)(args:List X):ExT:=λ_ _ R H n k=>V.V7 (x.ev R) λf a c=>k (.Di (.fn f (cat a (aC args R)) c::AFe (MN (T.D5 dp R.rg)))) H n
def AUY(x:X):ExT:=λ_ _ R H n k=>Hw ((x.ev R).UM λl c=>some (.ptr l c)) λv=>V.yu v λl c=>
 DX n λn=>k (.Qq n 0 l 1) (T.set H n (.arr 1 l (Fj (Yr l c) 0 .e))) (Nat.succ n)
def AE.ex(o:AE):ExT:=AE.rec (motive:=λ_=>ExT) AUO xSt AUf ASJ AUj ATn ATp ASY APn AQS AUY o
def AUF(p:P2)(v:V)(E:RS):RS:=RS.rec (motive:=λ_=>P2->V->RS) (λL R p v=>.mk L (T.ZF v p R)) E p v
def ASV(v:V)(E:RS):RS:=RS.rec (motive:=λ_=>V->RS) (λL R v=>.mk (v::L) R) E v
def GL(d:kF)(v:V):RS->RS:=kF.rec (motive:=λ_=>V->RS->RS) (λ_ R=>R) AUF ASV d v
abbrev KE:=RS->Heap->Nat->Prop
abbrev XoT:=AX->Au->kF->RS->Heap->Nat->KE->Prop
def oN(o:AN):XoT:=λG _ d R H n k=>AP (o.ev G R H) λv=>k (GL d v R) H n
def oA(o:AA):XoT:=λ_ _ d R H n k=>o.al R λb f=>DX n λn=>k (GL d (f n) R) (T.set H n b) (Nat.succ n)
def oE(o:AE):XoT:=λG call d R H n k=>o.ex G call R H n λv H n=>k (GL d v R) H n
def AO.ex(o:AO):XoT:=AO.rec (motive:=λ_=>XoT) oN oA oE o
def AZ(v:V)(b:Bool)(yes no:Prop):Prop:=v.AEU λt=>Bool.rec (motive:=λ_=>Prop->Prop->Prop) (λ_ n=>n) (λy _=>y) (ALt t b) yes no
def iV(v:V):(Bool)->(Prop)->(Prop)->Prop:=
 V.rec (motive_1:=λ_=>(Bool)->(Prop)->(Prop)->Prop) (motive_2:=λ_=>PUnit)
  (λ_ _ _=>False)
  (λ_ _ _ _ _ _=>False)
  (λa b' yes no=>Bool.rec (motive:=λ_=>Prop->Prop->Prop) (λ_ n=>n) (λy _=>y) (ALt a b') yes no)
  (λ_ _ _ _ _=>False)
  (λ_ _ _=>False)
  (λ_ _ _ _ _=>False)
  (λ_ _ _ _ _=>False)
  (λ_ _ _=>False)
  (λ_ _ _ _ _ _ _ _=>False)
  (λ_ _ _ _ _ _ _=>False)
  (λ_ _ _ _ _ _ _ _=>False)
  (λ_ _ _=>False)
  (λ_ _ _ _=>False)
  (λ_ _ _=>False)
  (λ_ _ _ _ _ _ _ _=>False)
  (λ_ _ _ _ _=>False)
  (λa _ _ _ no=>List.rec (motive:=λ_=>Prop) no (λ_ _ _=>False) a)
  (λ_ _ _=>False)
  (λ_ _ _ _ _ _=>False)
  ⟨⟩ (λ_ _ _ _=>⟨⟩) v
abbrev xR:=AX->Au->RS->Heap->Nat->KE->Prop
def gNo(d:kF)(o:AO):xR:=λG call R H n k=>o.ex G call d R H n k
def gOn(x:X)(b:Bool)(d:kF)(o:AO):xR:=λG call R H n k=>iV (x.ev R) b (o.ex G call d R H n k) (k (GL d (.Di []) R) H n)
def qx.ex(o:qx):xR:=qx.rec (motive:=λ_=>xR) (λd g o=>Gd.rec (motive:=λ_=>kF->AO->xR) gNo gOn g d o) o
def ACW(v:V):(IntKind)->(Int)->(Nat)->Bool:=
 V.rec (motive_1:=λ_=>(IntKind)->(Int)->(Nat)->Bool) (motive_2:=λ_=>PUnit)
  (λ_ _ _=>false)
  (λa b c k n s=>band (keq k a) (band (ieq n b) (band (Nat.beq s 0) (Nat.beq c 0))))
  (λ_ _ _ _=>false)
  (λ_ _ _ _ _=>false)
  (λ_ _ _=>false)
  (λ_ _ _ _ _=>false)
  (λ_ _ _ _ _=>false)
  (λ_ _ _=>false)
  (λ_ _ _ _ _ _ _ _=>false)
  (λ_ _ _ _ _ _ _=>false)
  (λ_ _ _ _ _ _ _ _=>false)
  (λ_ _ _=>false)
  (λ_ _ _ _=>false)
  (λ_ _ _=>false)
  (λ_ _ _ _ _ _ _ _=>false)
  (λ_ _ _ _ _=>false)
  (λ_ _ _ _ _=>false)
  (λ_ _ _=>false)
  (λ_ _ _ _ _ _=>false)
  ⟨⟩ (λ_ _ _ _=>⟨⟩) v
def AAF(v:V):(Bool)->Bool:=
 V.rec (motive_1:=λ_=>(Bool)->Bool) (motive_2:=λ_=>PUnit)
  (λ_=>false)
  (λ_ _ _ _=>false)
  (λa x=>ALt x a)
  (λ_ _ _=>false)
  (λ_=>false)
  (λ_ _ _=>false)
  (λ_ _ _=>false)
  (λ_=>false)
  (λ_ _ _ _ _ _=>false)
  (λ_ _ _ _ _=>false)
  (λ_ _ _ _ _ _=>false)
  (λ_=>false)
  (λ_ _=>false)
  (λ_=>false)
  (λ_ _ _ _ _ _=>false)
  (λ_ _ _=>false)
  (λ_ _ _=>false)
  (λ_=>false)
  (λ_ _ _ _=>false)
  ⟨⟩ (λ_ _ _ _=>⟨⟩) v
def ALk(v:V):(Nat)->(Nat)->Bool:=
 V.rec (motive_1:=λ_=>(Nat)->(Nat)->Bool) (motive_2:=λ_=>PUnit)
  (λ_ _=>false)
  (λ_ _ _ _ _=>false)
  (λ_ _ _=>false)
  (λa b l m=>band (Nat.beq l a) (Nat.beq m b))
  (λ_ _=>false)
  (λ_ _ _ _=>false)
  (λ_ _ _ _=>false)
  (λ_ _=>false)
  (λ_ _ _ _ _ _ _=>false)
  (λ_ _ _ _ _ _=>false)
  (λ_ _ _ _ _ _ _=>false)
  (λ_ _=>false)
  (λ_ _ _=>false)
  (λ_ _=>false)
  (λ_ _ _ _ _ _ _=>false)
  (λ_ _ _ _=>false)
  (λ_ _ _ _=>false)
  (λ_ _=>false)
  (λ_ _ _ _ _=>false)
  ⟨⟩ (λ_ _ _ _=>⟨⟩) v
def AD2(v:V):Bool:=
 V.rec (motive_1:=λ_=>Bool) (motive_2:=λ_=>PUnit)
  (false)
  (λ_ _ _=>false)
  (λ_=>false)
  (λ_ _=>false)
  (true)
  (λ_ _=>false)
  (λ_ _=>false)
  (false)
  (λ_ _ _ _ _=>false)
  (λ_ _ _ _=>false)
  (λ_ _ _ _ _=>false)
  (false)
  (λ_=>false)
  (false)
  (λ_ _ _ _ _=>false)
  (λ_ _=>false)
  (λ_ _=>false)
  (false)
  (λ_ _ _=>false)
  ⟨⟩ (λ_ _ _ _=>⟨⟩) v
def AD0(v:V):Bool:=
 V.rec (motive_1:=λ_=>Bool) (motive_2:=λ_=>PUnit)
  (false)
  (λ_ _ _=>false)
  (λ_=>false)
  (λ_ _=>false)
  (false)
  (λ_ _=>false)
  (λ_ _=>false)
  (true)
  (λ_ _ _ _ _=>false)
  (λ_ _ _ _=>false)
  (λ_ _ _ _ _=>false)
  (false)
  (λ_=>false)
  (false)
  (λ_ _ _ _ _=>false)
  (λ_ _=>false)
  (λ_ _=>false)
  (false)
  (λ_ _ _=>false)
  ⟨⟩ (λ_ _ _ _=>⟨⟩) v
def ADg(v:V):Bool:=
 V.rec (motive_1:=λ_=>Bool) (motive_2:=λ_=>PUnit)
  (false)
  (λ_ _ _=>false)
  (λ_=>false)
  (λ_ _=>false)
  (false)
  (λ_ _=>false)
  (λ_ _=>false)
  (false)
  (λ_ _ _ _ _=>false)
  (λ_ _ _ _=>false)
  (λ_ _ _ _ _=>false)
  (true)
  (λ_=>false)
  (false)
  (λ_ _ _ _ _=>false)
  (λ_ _=>false)
  (λ_ _=>false)
  (false)
  (λ_ _ _=>false)
  ⟨⟩ (λ_ _ _ _=>⟨⟩) v
def ADx(v:V):Bool:=
 V.rec (motive_1:=λ_=>Bool) (motive_2:=λ_=>PUnit)
  (false)
  (λ_ _ _=>false)
  (λ_=>false)
  (λ_ _=>false)
  (false)
  (λ_ _=>false)
  (λ_ _=>false)
  (false)
  (λ_ _ _ _ _=>false)
  (λ_ _ _ _=>false)
  (λ_ _ _ _ _=>false)
  (false)
  (λ_=>false)
  (true)
  (λ_ _ _ _ _=>false)
  (λ_ _=>false)
  (λ_ _=>false)
  (false)
  (λ_ _ _=>false)
  ⟨⟩ (λ_ _ _ _=>⟨⟩) v
def ALj(v:V):(Nat)->(Nat)->Bool:=
 V.rec (motive_1:=λ_=>(Nat)->(Nat)->Bool) (motive_2:=λ_=>PUnit)
  (λ_ _=>false)
  (λ_ _ _ _ _=>false)
  (λ_ _ _=>false)
  (λ_ _ _ _=>false)
  (λ_ _=>false)
  (λa b l m=>band (Nat.beq l a) (Nat.beq m b))
  (λ_ _ _ _=>false)
  (λ_ _=>false)
  (λ_ _ _ _ _ _ _=>false)
  (λ_ _ _ _ _ _=>false)
  (λ_ _ _ _ _ _ _=>false)
  (λ_ _=>false)
  (λ_ _ _=>false)
  (λ_ _=>false)
  (λ_ _ _ _ _ _ _=>false)
  (λ_ _ _ _=>false)
  (λ_ _ _ _=>false)
  (λ_ _=>false)
  (λ_ _ _ _ _=>false)
  ⟨⟩ (λ_ _ _ _=>⟨⟩) v
def AHE(v:V):(Nat)->(Nat)->Bool:=
 V.rec (motive_1:=λ_=>(Nat)->(Nat)->Bool) (motive_2:=λ_=>PUnit)
  (λ_ _=>false)
  (λ_ _ _ _ _=>false)
  (λ_ _ _=>false)
  (λ_ _ _ _=>false)
  (λ_ _=>false)
  (λ_ _ _ _=>false)
  (λa b l m=>band (Nat.beq l a) (Nat.beq m b))
  (λ_ _=>false)
  (λ_ _ _ _ _ _ _=>false)
  (λ_ _ _ _ _ _=>false)
  (λ_ _ _ _ _ _ _=>false)
  (λ_ _=>false)
  (λ_ _ _=>false)
  (λ_ _=>false)
  (λ_ _ _ _ _ _ _=>false)
  (λ_ _ _ _=>false)
  (λ_ _ _ _=>false)
  (λ_ _=>false)
  (λ_ _ _ _ _=>false)
  ⟨⟩ (λ_ _ _ _=>⟨⟩) v
def AKc(v:V):(Nat)->Bool:=
 V.rec (motive_1:=λ_=>(Nat)->Bool) (motive_2:=λ_=>PUnit)
  (λ_=>false)
  (λ_ _ _ _=>false)
  (λ_ _=>false)
  (λ_ _ _=>false)
  (λ_=>false)
  (λ_ _ _=>false)
  (λ_ _ _=>false)
  (λ_=>false)
  (λ_ _ _ _ _ _=>false)
  (λ_ _ _ _ _=>false)
  (λ_ _ _ _ _ _=>false)
  (λ_=>false)
  (λa l=>Nat.beq l a)
  (λ_=>false)
  (λ_ _ _ _ _ _=>false)
  (λ_ _ _=>false)
  (λ_ _ _=>false)
  (λ_=>false)
  (λ_ _ _ _=>false)
  ⟨⟩ (λ_ _ _ _=>⟨⟩) v
def AMD(v:V):(Nat)->(Nat)->(Nat)->(Nat)->(Nat)->Bool:=
 V.rec (motive_1:=λ_=>(Nat)->(Nat)->(Nat)->(Nat)->(Nat)->Bool) (motive_2:=λ_=>PUnit)
  (λ_ _ _ _ _=>false)
  (λ_ _ _ _ _ _ _ _=>false)
  (λ_ _ _ _ _ _=>false)
  (λ_ _ _ _ _ _ _=>false)
  (λ_ _ _ _ _=>false)
  (λ_ _ _ _ _ _ _=>false)
  (λ_ _ _ _ _ _ _=>false)
  (λ_ _ _ _ _=>false)
  (λa b c d e i j k l m=>band (Nat.beq i a) (band (Nat.beq j b) (band (Nat.beq k c) (band (Nat.beq l d) (Nat.beq m e)))))
  (λ_ _ _ _ _ _ _ _ _=>false)
  (λ_ _ _ _ _ _ _ _ _ _=>false)
  (λ_ _ _ _ _=>false)
  (λ_ _ _ _ _ _=>false)
  (λ_ _ _ _ _=>false)
  (λ_ _ _ _ _ _ _ _ _ _=>false)
  (λ_ _ _ _ _ _ _=>false)
  (λ_ _ _ _ _ _ _=>false)
  (λ_ _ _ _ _=>false)
  (λ_ _ _ _ _ _ _ _=>false)
  ⟨⟩ (λ_ _ _ _=>⟨⟩) v
def AE3(v:V):(Nat)->(Nat)->(Nat)->(Nat)->Bool:=
 V.rec (motive_1:=λ_=>(Nat)->(Nat)->(Nat)->(Nat)->Bool) (motive_2:=λ_=>PUnit)
  (λ_ _ _ _=>false)
  (λ_ _ _ _ _ _ _=>false)
  (λ_ _ _ _ _=>false)
  (λ_ _ _ _ _ _=>false)
  (λ_ _ _ _=>false)
  (λ_ _ _ _ _ _=>false)
  (λ_ _ _ _ _ _=>false)
  (λ_ _ _ _=>false)
  (λ_ _ _ _ _ _ _ _ _=>false)
  (λa b c d i j k l=>band (Nat.beq i a) (band (Nat.beq j b) (band (Nat.beq k c) (Nat.beq l d))))
  (λ_ _ _ _ _ _ _ _ _=>false)
  (λ_ _ _ _=>false)
  (λ_ _ _ _ _=>false)
  (λ_ _ _ _=>false)
  (λ_ _ _ _ _ _ _ _ _=>false)
  (λ_ _ _ _ _ _=>false)
  (λ_ _ _ _ _ _=>false)
  (λ_ _ _ _=>false)
  (λ_ _ _ _ _ _ _=>false)
  ⟨⟩ (λ_ _ _ _=>⟨⟩) v
def AFt(v:V):(Nat)->(Nat)->(Nat)->(Nat)->(Nat)->Bool:=
 V.rec (motive_1:=λ_=>(Nat)->(Nat)->(Nat)->(Nat)->(Nat)->Bool) (motive_2:=λ_=>PUnit)
  (λ_ _ _ _ _=>false)
  (λ_ _ _ _ _ _ _ _=>false)
  (λ_ _ _ _ _ _=>false)
  (λ_ _ _ _ _ _ _=>false)
  (λ_ _ _ _ _=>false)
  (λ_ _ _ _ _ _ _=>false)
  (λ_ _ _ _ _ _ _=>false)
  (λ_ _ _ _ _=>false)
  (λ_ _ _ _ _ _ _ _ _ _=>false)
  (λ_ _ _ _ _ _ _ _ _=>false)
  (λa b c d e i j k l m=>band (Nat.beq i a) (band (Nat.beq j b) (band (Nat.beq k c) (band (Nat.beq l d) (Nat.beq m e)))))
  (λ_ _ _ _ _=>false)
  (λ_ _ _ _ _ _=>false)
  (λ_ _ _ _ _=>false)
  (λ_ _ _ _ _ _ _ _ _ _=>false)
  (λ_ _ _ _ _ _ _=>false)
  (λ_ _ _ _ _ _ _=>false)
  (λ_ _ _ _ _=>false)
  (λ_ _ _ _ _ _ _ _=>false)
  ⟨⟩ (λ_ _ _ _=>⟨⟩) v
def Jm(v:V):(V)->Bool:=
 V.rec (motive_1:=λ_=>(V)->Bool) (motive_2:=λ_=>PUnit)
  (λ_=>false)
  (λa b c y=>ACW y a b c)
  (λa y=>AAF y a)
  (λa b y=>ALk y a b)
  (λy=>AD2 y)
  (λa b y=>ALj y a b)
  (λa b y=>AHE y a b)
  (λy=>AD0 y)
  (λa b c d e y=>AMD y a b c d e)
  (λa b c d y=>AE3 y a b c d)
  (λa b c d e y=>AFt y a b c d e)
  (λy=>ADg y)
  (λa y=>AKc y a)
  (λy=>ADx y)
  (λ_ _ _ _ _ _=>false)
  (λ_ _ _=>false)
  (λ_ _ _=>false)
  (λ_=>false)
  (λ_ _ _ _=>false)
  ⟨⟩ (λ_ _ _ _=>⟨⟩) v
def AAj(a:List V):List V->Bool:=
 List.rec (motive:=λ_=>List V->Bool) (λb=>List.rec (motive:=λ_=>Bool) true (λ_ _ _=>false) b)
  (λx _ g b=>List.rec (motive:=λ_=>Bool) false (λy ys _=>band (Jm x y) (g ys)) b) a
def AOg(v:V):(LV)->Bool:=
 V.rec (motive_1:=λ_=>(LV)->Bool) (motive_2:=λ_=>PUnit)
  (λ_=>false)
  (λ_ _ _ _=>false)
  (λ_ _=>false)
  (λ_ _ _=>false)
  (λ_=>false)
  (λ_ _ _=>false)
  (λ_ _ _=>false)
  (λ_=>false)
  (λ_ _ _ _ _ _=>false)
  (λ_ _ _ _ _=>false)
  (λ_ _ _ _ _ _=>false)
  (λ_=>false)
  (λ_ _=>false)
  (λ_=>false)
  (λ_ _ _ _ _ _=>false)
  (λa _ l=>AAj l a)
  (λ_ _ _=>false)
  (λ_=>false)
  (λ_ _ _ _=>false)
  ⟨⟩ (λ_ _ _ _=>⟨⟩) v
def AOt(v:V):(LV)->Bool:=
 V.rec (motive_1:=λ_=>(LV)->Bool) (motive_2:=λ_=>PUnit)
  (λ_=>false)
  (λ_ _ _ _=>false)
  (λ_ _=>false)
  (λ_ _ _=>false)
  (λ_=>false)
  (λ_ _ _=>false)
  (λ_ _ _=>false)
  (λ_=>false)
  (λ_ _ _ _ _ _=>false)
  (λ_ _ _ _ _=>false)
  (λ_ _ _ _ _ _=>false)
  (λ_=>false)
  (λ_ _=>false)
  (λ_=>false)
  (λ_ _ _ _ _ _=>false)
  (λ_ _ _=>false)
  (λa _ l=>AAj l a)
  (λ_=>false)
  (λ_ _ _ _=>false)
  ⟨⟩ (λ_ _ _ _=>⟨⟩) v
def AFn(v:V):Bool:=
 V.rec (motive_1:=λ_=>Bool) (motive_2:=λ_=>PUnit)
  (true)
  (λ_ _ _=>false)
  (λ_=>false)
  (λ_ _=>false)
  (false)
  (λ_ _=>false)
  (λ_ _=>false)
  (false)
  (λ_ _ _ _ _=>false)
  (λ_ _ _ _=>false)
  (λ_ _ _ _ _=>false)
  (false)
  (λ_=>false)
  (false)
  (λ_ _ _ _ _=>false)
  (λ_ _=>false)
  (λ_ _=>false)
  (false)
  (λ_ _ _=>false)
  ⟨⟩ (λ_ _ _ _=>⟨⟩) v
def F8(v:V):(V)->Bool:=
 V.rec (motive_1:=λ_=>(V)->Bool) (motive_2:=λ_=>PUnit)
  (λy=>AFn y)
  (λa b c y=>ACW y a b c)
  (λa y=>AAF y a)
  (λa b y=>ALk y a b)
  (λy=>AD2 y)
  (λa b y=>ALj y a b)
  (λa b y=>AHE y a b)
  (λy=>AD0 y)
  (λa b c d e y=>AMD y a b c d e)
  (λa b c d y=>AE3 y a b c d)
  (λa b c d e y=>AFt y a b c d e)
  (λy=>ADg y)
  (λa y=>AKc y a)
  (λy=>ADx y)
  (λ_ _ _ _ _ _=>false)
  (λa _ y=>AOg y a)
  (λa _ y=>AOt y a)
  (λ_=>false)
  (λ_ _ _ _=>false)
  ⟨⟩ (λ_ _ _ _=>⟨⟩) v
inductive AI where
 |op (o:qx)
 |re (d:P2) (g:Gd) (o:AN)
inductive AC where
 |skip
 |ops (l:List qx)
 |reg (l:List AI)
 |seq (a b:AC)
 |cond (x:X) (a b:AC)
 |block (id:Nat) (c:AC)
 |loop (c:AC)
 |exit (id:Nat)
 |ret
def QC(l:List qx):xR:=
 List.rec (motive:=λ_=>xR) (λ_ _ R H n k=>k R H n) (λo _ g G call R H n k=>o.ex G call R H n λR H n=>g G call R H n k) l
abbrev ReT:=AX->RS->Heap->P2->AN->Prop->Prop
def ARs:ReT:=λG R H d o k=>AP (o.ev G R H) λv=>L9 (F8 v (MN (T.D5 d R.rg))) k
def ATv(x:X)(b:Bool):ReT:=λG R H d o k=>iV (x.ev R) b (AP (o.ev G R H) λv=>L9 (F8 v (MN (T.D5 d R.rg))) k) k
def APF(g:Gd):ReT:=Gd.rec (motive:=λ_=>ReT) ARs ATv g
def AI.ex(i:AI):xR:=AI.rec (motive:=λ_=>xR) (λo=>o.ex) (λd g o G _ R H n k=>APF g G R H d o (k R H n)) i
def Bv(l:List AI):xR:=
 List.rec (motive:=λ_=>xR) (λ_ _ R H n k=>k R H n) (λi _ g G call R H n k=>i.ex G call R H n λR H n=>g G call R H n k) l
abbrev KX:=Nat->K
abbrev M:=AX->Au->Nat->JX->Heap->Nat->K->KX->K->Prop
def AKe:M:=λ_ _ _ R H n k _ _=>k R H n
def AMk(l:List qx):M:=λG call _ R H n k _ _=>QC l G call (.mk [] R) H n λE H n=>k E.rg H n
def ANq(l:List AI):M:=λG call _ R H n k _ _=>Bv l G call (.mk [] R) H n λE H n=>k E.rg H n
def AK1(_ _:AC)(a b:M):M:=λG call lf R H n k x r=>a G call lf R H n (λR H n=>b G call lf R H n k x r) x r
def AFi(c:X)(_ _:AC)(a b:M):M:=λG call lf R H n k x r=>AZ (c.ev (.mk [] R)) true (a G call lf R H n k x r) (b G call lf R H n k x r)
def IG(id:Nat)(k:K)(x:KX):KX:=λi R H n=>Bool.rec (motive:=λ_=>Prop->Prop->Prop) (λa _=>a) (λ_ b=>b) (Nat.beq i id) (x i R H n) (k R H n)
def AAd(id:Nat)(_:AC)(a:M):M:=λG call lf R H n k x r=>a G call lf R H n k (IG id k x) r
def WM(a:M)(G:AX)(call:Au)(lf0 lf:Nat):JX->Heap->Nat->KX->K->Prop:=
 Nat.rec (motive:=λ_=>JX->Heap->Nat->KX->K->Prop) (λ_ _ _ _ _=>False) (λ_ g R H n x r=>a G call lf0 R H n (λR H n=>g R H n x r) x r) lf
def ARn(_:AC)(a:M):M:=λG call lf R H n _ x r=>WM a G call lf lf R H n x r
def AL5(id:Nat):M:=λ_ _ _ R H n _ x _=>x id R H n
def AQK:M:=λ_ _ _ R H n _ _ r=>r R H n
def AC.ex(c:AC):M:=AC.rec (motive:=λ_=>M) AKe AMk ANq AK1 AFi AAd ARn AL5 AQK c
inductive AR where
 |tmp (p:P2)|cell1 (p:P2)|celln (p:P2) (n:Nat)
inductive AF where
 |mk (np:Nat) (code:AC) (res:List AR) (dp:kF) (dg:Nat)
def AR.get(r:AR):AX->JX->Heap->Option V:=
 AR.rec (motive:=λ_=>AX->JX->Heap->Option V) (λp _ R _=>some (MN (T.D5 p R))) (λp G R H=>U7 (jA (MN (T.D5 p R)) G H 1) λL=>nth L 0)
  (λp n G R H=>U7 (jA (MN (T.D5 p R)) G H n) λL=>some (.agg L)) r
def wR(l:List AR):AX->JX->Heap->Option LV:=
 List.rec (motive:=λ_=>AX->JX->Heap->Option LV) (λ_ _ _=>some []) (λr _ g G R H=>BP (r.get G R H) λv=>BP (g G R H) λvs=>some (v::vs)) l
def IC(l:List V):V:=List.rec (motive:=λ_=>V) (V.Di []) (λv vs _=>List.rec (motive:=λ_=>V) v (λw ws _=>V.Di (v::w::ws)) vs) l
def dO(args:List V):Nat->JX->JX:=
 List.rec (motive:=λ_=>Nat->JX->JX) (λ_ R=>R) (λv _ g i R=>g (Nat.succ i) (T.set R i v)) args
def UK(dg:Nat)(l:List V):Au->Heap->Nat->(Heap->Nat->Prop)->Prop:=
 List.rec (motive:=λ_=>Au->Heap->Nat->(Heap->Nat->Prop)->Prop) (λ_ H n k=>k H n)
  (λv _ g call H n k=>V.V7 v λf a c=>L9 (Nat.beq f dg) (call f (cat a c) H n λ_ H n=>g call H n k)) l
def ABq(res:List AR)(G:AX)(k:KV):K:=λR H n=>Hw (wR res G R H) λl=>k (IC l) H n
def Jj(res:List AR)(dg:Nat)(d:kF):AX->Au->KV->K:=
 kF.rec (motive:=λ_=>AX->Au->KV->K) (λG _ k=>ABq res G k) (λp G call k R H n=>UK dg (AFe (MN (T.D5 p R))) call H n λH n=>ABq res G k R H n) (λG _ k=>ABq res G k) d
def noX:KX:=λ_ _ _ _=>False
def oH(f:AF):AX->Au->Nat->List V->Heap->Nat->KV->Prop:=
 AF.rec (motive:=λ_=>AX->Au->Nat->List V->Heap->Nat->KV->Prop) (λnp code res d dg G call lf args H n k=>L9 (Nat.beq (len args) np) (code.ex G call lf (dO args 0 .e) H n (Jj res dg d G call k) noX (Jj res dg d G call k))) f
def run(F:T AF)(G:AX)(lf:Nat)(fuel:Nat):Au:=
 Nat.rec (motive:=λ_=>Au) (λ_ _ _ _ _=>False) (λ_ call f args H n k=>Hw (T.get F f) λaf=>oH af G call lf args H n k) fuel
end Go.Bh
