/- Part of a proof; nothing is assumed. -/
import Derived.Calls
import Derived.Defers
import Derived.Orders
import Derived.KernelRfl
import Derived.Laws.Entries
set_option linter.unusedVariables false
set_option linter.unusedSimpArgs false
noncomputable section
theorem a6{p:Prop}(h:p:=by omega):p:=h
theorem a_{p:Prop}(h:p:=by decide):p:=h
theorem o5{p:Prop}(h:p:=by kernel_rfl):p:=h
theorem o6{p:Prop}(h:p:=by simp):p:=h
theorem o_{n:Nat}:n<=n:=Nat.le_refl n
theorem hN{a p:Prop}(h:a)(k:a->p:=by intro h;omega):p:=k h
theorem tw{a b p:Prop}(h:a)(i:b)(k:a->b->p:=by intro h i;omega):p:=k h i
theorem ef{a b c p:Prop}(h:a)(i:b)(j:c)(k:a->b->c->p:=by intro h i j;omega):p:=k h i j
abbrev _t:=@Array.getElem?_eq_some_iff
abbrev _N:=@Array.length_toList
abbrev M':=@Array.mem_of_getElem?
abbrev _Z:=@Array.toArray_toList
abbrev S_:=@Array.toList_append
abbrev F':=@Array.toList_inj
abbrev N':=@Array.toList_map
abbrev ez:=@Bool.and_eq_true
abbrev _q:=@Bool.eq_false_iff
abbrev zc:=@Bool.eq_iff_iff
abbrev J':=@Bool.false_and
abbrev _J:=@Bool.false_eq_true
abbrev _P:=@Bool.false_or
abbrev _l:=@Bool.not_eq_true'
abbrev l_:=@Bool.not_false
abbrev k_:=@Bool.not_true
abbrev _':=@Bool.true_and
abbrev U':=@Int.ofNat_lt
abbrev _9:=@List.all_cons
abbrev _A:=@List.all_eq_true
abbrev y_:=@List.append_assoc
abbrev qs:=@List.append_nil
abbrev I_:=@List.append_of_mem
abbrev _h:=@List.cons.injEq
abbrev O':=@List.drop_append_of_le_length
abbrev C':=@List.drop_drop
abbrev uv:=@List.drop_eq_getElem_cons
abbrev O_:=@List.drop_eq_nil_iff
abbrev sw:=@List.drop_eq_nil_of_le
abbrev _S:=@List.drop_zero
abbrev _D:=@List.ext_getElem?
abbrev _0:=@List.findIdx_cons
abbrev _L:=@List.flatten_cons
abbrev W2:=@List.getD_eq_getElem?_getD
abbrev qi:=@List.getElem?_append_left
abbrev i_:=@List.getElem?_append_right
abbrev _G:=@List.getElem?_cons_succ
abbrev _H:=@List.getElem?_cons_zero
abbrev _r:=@List.getElem?_drop
abbrev eb:=@List.getElem?_eq_getElem
abbrev z_:=@List.getElem?_eq_none
abbrev us:=@List.getElem?_eq_some_iff
abbrev pe:=@List.getElem?_map
abbrev _C:=@List.getElem?_range
abbrev D_:=@List.getElem?_set_ne
abbrev e9:=@List.getElem?_set_self
abbrev x_:=@List.getElem?_take
abbrev _V:=@List.getElem?_toArray
abbrev _U:=@List.getElem?_zipWith
abbrev _B:=@List.getElem_map
abbrev f_:=@List.getElem_mem
abbrev uk:=@List.length_append
abbrev j':=@List.length_cons
abbrev _Q:=@List.length_drop
abbrev _n:=@List.length_eq_zero_iff
abbrev uc:=@List.length_map
abbrev _X:=@List.length_nil
abbrev H_:=@List.length_set
abbrev xx:=@List.length_take
abbrev _x:=@List.length_zipWith
abbrev _R:=@List.mapM_cons
abbrev wm:=@List.map_append
abbrev rl:=@List.map_cons
abbrev T':=@List.map_map
abbrev U_:=@List.map_set
abbrev q_:=@List.mem_append
abbrev n_:=@List.mem_append_left
abbrev qk:=@List.mem_cons
abbrev c_:=@List.mem_cons_of_mem
abbrev u_:=@List.mem_cons_self
abbrev Z':=@List.mem_flatten
abbrev _m:=@List.mem_iff_getElem?
abbrev _c:=@List.mem_map
abbrev _2:=@List.mem_map_of_mem
abbrev ae:=@List.mem_of_find?_eq_some
abbrev D':=@List.mem_of_getElem?
abbrev _y:=@List.mem_of_mem_drop
abbrev _k:=@List.mem_of_mem_take
abbrev X_:=@List.mem_or_eq_of_mem_set
abbrev ff:=@List.mem_singleton
abbrev _W:=@List.nil_append
abbrev R_:=@List.nodup_cons
abbrev _3:=@List.not_mem_nil
abbrev rz:=@List.prefix_refl
abbrev A_:=@List.singleton_append
abbrev P_:=@List.take_append_of_le_length
abbrev R1:=@List.take_left'
abbrev aAc:=@List.take_length
abbrev _d:=@List.take_of_length_le
abbrev G_:=@Nat.add_assoc
abbrev pp:=@Nat.add_mul
abbrev _Y:=@Nat.add_zero
abbrev _e:=@Nat.ble_eq
abbrev xi:=@Nat.blt_eq
abbrev Q_:=@Nat.div_add_mod
abbrev N_:=@Nat.div_eq_of_lt
abbrev r_:=@Nat.eq_of_beq_eq_true
abbrev _F:=@Nat.eq_zero_or_pos
abbrev aAb:=@Nat.le_mul_of_pos_right
abbrev h_:=@Nat.le_of_ble_eq_true
abbrev aAe:=@Nat.le_of_eq
abbrev aAf:=@Nat.le_of_lt
abbrev ea:=@Nat.le_refl
abbrev _a:=@Nat.le_succ
abbrev w_:=@Nat.le_trans
abbrev m_:=@Nat.lt_irrefl
abbrev _5:=@Nat.lt_of_le_of_ne
abbrev W4:=@Nat.lt_of_lt_of_eq
abbrev b_:=@Nat.lt_of_lt_of_le
abbrev _O:=@Nat.lt_or_ge
abbrev Y_:=@Nat.lt_succ_of_lt
abbrev _p:=@Nat.lt_succ_self
abbrev aAi:=@Nat.min_eq_left
abbrev _4:=@Nat.min_self
abbrev _I:=@Nat.mod_eq_of_lt
abbrev W0:=@Nat.mod_lt
abbrev F_:=@Nat.mul_comm
abbrev V_:=@Nat.mul_div_cancel
abbrev z8:=@Nat.mul_le_mul_right
abbrev aAa:=@Nat.mul_mod_left
abbrev I':=@Nat.not_lt
abbrev _8:=@Nat.not_lt_zero
abbrev _g:=@Nat.one_mul
abbrev b7:=@Nat.sub_self
abbrev aAd:=@Nat.sub_zero
abbrev t_:=@Nat.zero_add
abbrev j_:=@Nat.zero_le
abbrev K':=@Nat.zero_mul
abbrev C_:=@Ne.symm
abbrev ee:=@Option.bind_eq_some_iff
abbrev _z:=@Option.getD_some
abbrev W_:=@Option.isNone_iff_eq_none
abbrev Z_:=@Option.isSome_iff_exists
abbrev _6:=@Option.isSome_none
abbrev _7:=@Option.isSome_some
abbrev d_:=@Option.map_eq_some_iff
abbrev _E:=@Option.map_some
abbrev e_:=@Option.some.inj
abbrev _u:=@Option.some.injEq
abbrev L_:=@Prod.ext
abbrev s_:=@Go.Result.andThen_ok
abbrev p_:=@Go.Sem.run_bind
abbrev E_:=@Go.Sem.run_pure
abbrev B_:=@UInt8.lt_iff_toNat_lt
abbrev G':=@UInt8.toNat_inj
abbrev _T:=@beq_iff_eq
abbrev _j:=@cond_false
abbrev _K:=@cond_true
abbrev _s:=@decide_eq_decide
abbrev eg:=@decide_eq_false
abbrev _o:=@decide_eq_false_iff_not
abbrev ui:=@decide_eq_true
abbrev _v:=@decide_eq_true_eq
abbrev v_:=@decide_false
abbrev _b:=@decide_true
abbrev _i:=@Go.eqGuard_at_int
abbrev _M:=@Go.eqGuard_at_string
abbrev J_:=@if_false
abbrev g_:=@if_neg
abbrev hD:=@if_pos
abbrev _1:=@if_true
abbrev K_:=@not_false_eq_true
abbrev _w:=@of_decide_eq_false
abbrev kh:=@of_decide_eq_true
abbrev aAj:=@or_false
abbrev dj:=@Go.run_underlying
abbrev aAn:=Option Bool
abbrev aAp:=List Go.Value
abbrev aAr:=Array Go.Value
abbrev aAw:=List Nat
abbrev aAA:=List UInt8
abbrev aAG:=Option Nat
namespace Go.BN
inductive P2 where
 |h|z (p:P2)|o (p:P2)
deriving DecidableEq
inductive T(α:Type)where
 |e|n (v:Option α) (l r:T α)
def T.val{α:Type}(t:T α):Option α:=T.rec none (λv _ _ _ _=>v) t
def T.left{α:Type}(t:T α):T α:=T.rec .e (λ_ l _ _ _=>l) t
def T.right{α:Type}(t:T α):T α:=T.rec .e (λ_ _ r _ _=>r) t
def T.Ch{α:Type}(p:P2):T α->Option α:=
 P2.rec (motive:=λ_=>T α->Option α) T.val (λ_ g t=>g t.left) (λ_ g t=>g t.right) p
def T.VB{α:Type}(x:α)(p:P2):T α->T α:=
 P2.rec (motive:=λ_=>T α->T α) (λt=>.n (some x) t.left t.right)
  (λ_ g t=>.n t.val (g t.left) t.right) (λ_ g t=>.n t.val t.left (g t.right)) p
def AKU(f:Nat):Nat->P2:=
 Nat.rec (motive:=λ_=>Nat->P2) (λ_=>.h)
  (λ_ g k=>Nat.rec (motive:=λ_=>P2) .h
   (λm _=>Bool.rec (P2.o (g (Nat.div m 2))) (P2.z (g (Nat.div m 2))) (Nat.beq (Nat.mod m 2) 0)) k) f
def Kw(k:Nat):P2:=AKU (Nat.succ k) k
def T.get{α:Type}(t:T α)(k:Nat):Option α:=T.Ch (Kw k) t
def T.set{α:Type}(t:T α)(k:Nat)(x:α):T α:=T.VB x (Kw k) t
inductive V where
 |undef
 |int (k:IntKind) (n:Int) (s:Nat)
 |bool (b:Bool)
 |str (len code:Nat)
 |zU|ptr (id off:Nat)|gptr (b off:Nat)
 |AT|sl (id off len cap esz:Nat)|Hf (id off len esz:Nat)|rsl (b off len cap esz:Nat)
 |AEe|map (id:Nat)
 |AP7|fn (f:Nat) (first caps:List V)
 |agg (cs:List V)
 |CV (vs:List V)
 |AMe|iface (t:Nat) (v:V)
abbrev aAl:=Option V
abbrev aAo:=List V
abbrev V.el{α:Type}(z:α)(a:α:=z)(b:IntKind->Int->Nat->α:=λ_ _ _=>z)(c:Bool->α:=λ_=>z)(d:Nat->Nat->α:=λ_ _=>z)(e:α:=z)(f:Nat->Nat->α:=λ_ _=>z)(g:Nat->Nat->α:=λ_ _=>z)(h:α:=z)(i:Nat->Nat->Nat->Nat->Nat->α:=λ_ _ _ _ _=>z)(j:Nat->Nat->Nat->Nat->α:=λ_ _ _ _=>z)(k:Nat->Nat->Nat->Nat->Nat->α:=λ_ _ _ _ _=>z)(l:α:=z)(m:Nat->α:=λ_=>z)(n:α:=z)(o:Nat->aAo->aAo->PUnit.{1}->PUnit.{1}->α:=λ_ _ _ _ _=>z)(p:aAo->PUnit.{1}->α:=λ_ _=>z)(q:aAo->PUnit.{1}->α:=λ_ _=>z)(r:α:=z)(s:Nat->V->α->α:=λ_ _ _=>z)(v:V):α:=
 V.rec (motive_1:=λ_=>α) (motive_2:=λ_=>PUnit.{1}) a b c d e f g h i j k l m n o p q r s ⟨⟩ (λ_ _ _ _=>⟨⟩) v
inductive LF where
 |arr (esz cnt:Nat) (c:T (List V))
 |map (es:List (V×V×Nat)) (clock:Nat)
 |dead
 |aq (t e l c j:Nat)
 |own (b:Nat)
abbrev aAC:=Option LF
abbrev Heap:=T LF
abbrev F3:=T V
abbrev AQ:=Nat->Nat->Nat->Option (aAo)
inductive X where
 |r (p:P2)|c (v:V)|s (i:Nat)
abbrev aAu:=Option X
def Ij(o:aAl):V:=Option.rec V.undef (λv=>v) o
def ALr(l:aAo):Nat->V:=
 List.rec (motive:=λ_=>Nat->V) (λ_=>.undef) (λx _ g i=>Nat.rec (motive:=λ_=>V) x (λi _=>g i) i) l
inductive RS where
 |mk (L:List V) (R:F3)
def RS.st(E:RS):aAo:=RS.rec (λL _=>L) E
def RS.rg(E:RS):F3:=RS.rec (λ_ R=>R) E
def X.ev(x:X):RS->V:=X.rec (motive:=λ_=>RS->V) (λp E=>Ij (T.Ch p E.rg)) (λv _=>v) (λi E=>ALr E.st i) x
def V.FI(v:V):(IntKind->Int->Nat->aAl)->aAl:=
 V.el (λ_=>none) (b:=λa b c f=>f a b c) (v:=v)
def V.gg(v:V):(Bool->aAl)->aAl:=
 V.el (λ_=>none) (c:=λa f=>f a) (v:=v)
def V.AJO(v:V):(Bool->Prop)->Prop:=
 V.el (λ_=>False) (c:=λa f=>f a) (v:=v)
def V.Pj(v:V):(Nat->Nat->aAl)->aAl:=
 V.el (λ_=>none) (d:=λa b f=>f a b) (v:=v)
def V.vJ(v:V):(aAo->aAl)->aAl:=
 V.el (λ_=>none) (p:=λa _ f=>f a) (v:=v)
def V.AD2(v:V):(aAo->aAl)->aAl:=
 V.el (λ_=>none) (q:=λa _ f=>f a) (v:=v)
def V.AFD(v:V):(Nat->Nat->aAl)->(Nat->Nat->aAl)->aAl:=
 V.el (λ_ _=>none) (f:=λa b f _=>f a b) (g:=λa b _ g=>g a b) (v:=v)
def V.AHH(v:V):(aAl)->(Nat->aAl)->aAl:=
 V.el (λ_ _=>none) (l:=λz _=>z) (m:=λa _ f=>f a) (v:=v)
def V.AO9(v:V):(aAl)->(Nat->Nat->Nat->Nat->Nat->aAl)->(Nat->Nat->Nat->Nat->aAl)->(Nat->Nat->Nat->Nat->Nat->aAl)->aAl:=
 V.el (λ_ _ _ _=>none) (h:=λz _ _ _=>z) (i:=λa b c d e _ f _ _=>f a b c d e) (j:=λa b c d _ _ g _=>g a b c d) (k:=λa b c d e _ _ _ h=>h a b c d e) (v:=v)
def At(v:V):aAo:=
 V.el ([v]) (p:=λa _=>a) (v:=v)
def isStr(v:V):Bool:=
 V.el (false) (d:=λ_ _=>true) (v:=v)
def lenV(v:V):aAl:=
 V.el (none) (h:=some (.int .i64 (.ofNat 0) 0)) (i:=λ_ _ c _ _=>some (.int .i64 (.ofNat c) 0)) (j:=λ_ _ c _=>some (.int .i64 (.ofNat c) 0)) (k:=λ_ _ c _ _=>some (.int .i64 (.ofNat c) 0)) (v:=v)
def AV(v:V):aAl:=
 V.el (none) (f:=λa b=>some (.ptr a b)) (g:=λa b=>some (.gptr a b)) (o:=λa b c _ _=>some (.fn a b c)) (v:=v)
def S4(n:Int):(Int->aAl)->aAl:=λf=>f n
def CC(n:Nat):(Nat->aAl)->aAl:=
 Nat.rec (motive:=λ_=>(Nat->aAl)->aAl) (λf=>f 0) (λk _ f=>f (Nat.succ k)) n
def CS(n:Nat):(Nat->Prop)->Prop:=
 Nat.rec (motive:=λ_=>(Nat->Prop)->Prop) (λf=>f 0) (λk _ f=>f (Nat.succ k)) n
def AWp(k:IntKind):Nat->Bool:=
 IntKind.rec (motive:=λ_=>Nat->Bool) (λm=>Nat.blt m 128) (λm=>Nat.blt m 32768) (λm=>Nat.blt m 2147483648) (λm=>Nat.blt m 9223372036854775808)
  (λm=>Nat.blt m 256) (λm=>Nat.blt m 65536) (λm=>Nat.blt m 4294967296) (λm=>Nat.blt m 18446744073709551616) k
def AVY(k:IntKind):Nat->Bool:=
 IntKind.rec (motive:=λ_=>Nat->Bool) (λm=>Nat.blt m 128) (λm=>Nat.blt m 32768) (λm=>Nat.blt m 2147483648) (λm=>Nat.blt m 9223372036854775808)
  (λ_=>false) (λ_=>false) (λ_=>false) (λ_=>false) k
def inr(k:IntKind)(n:Int):Bool:=Int.rec (motive:=λ_=>IntKind->Bool) (λm k=>AWp k m) (λm k=>AVY k m) n k
def V9(k:IntKind)(n:Int):Int:=Bool.rec (k.wrap n) n (inr k n)
def ASu(k:IntKind)(n:Int):aAl:=S4 (V9 k n) λm=>some (.int k m 0)
def Zn(k:IntKind)(n:Int)(s:Nat):aAl:=
 Nat.rec (motive:=λ_=>IntKind->Int->aAl) ASu (λ_ _ k n=>some (.int k (k.wrap n) 1)) s k n
def mkN(k:IntKind)(n:Int)(s:Nat):aAl:=
 Nat.rec (motive:=λ_=>IntKind->Int->aAl) (λk n=>S4 n λm=>some (.int k m 0)) (λ_ _ k n=>some (.int k n 1)) s k n
def AQ1(a:Nat)(b:Int):Int:=Int.rec (motive:=λ_=>Nat->Int) (λn m=>.ofNat (Nat.add m n)) (λn m=>Int.subNatNat m (Nat.succ n)) b a
def ARt(a:Nat)(b:Int):Int:=Int.rec (motive:=λ_=>Nat->Int) (λn m=>Int.subNatNat n (Nat.succ m)) (λn m=>.negSucc (Nat.succ (Nat.add m n))) b a
def wh(a b:Int):Int:=Int.rec (motive:=λ_=>Int->Int) AQ1 ARt a b
def dh(a b:Int):Bool:=Int.rec (motive:=λ_=>Int->Bool) (λm b=>Int.rec (motive:=λ_=>Nat->Bool) (λn m=>Nat.ble m n) (λ_ _=>false) b m)
 (λm b=>Int.rec (motive:=λ_=>Nat->Bool) (λ_ _=>true) (λn m=>Nat.ble n m) b m) a b
def UG(a b:Int):Bool:=Int.rec (motive:=λ_=>Int->Bool) (λm b=>Int.rec (motive:=λ_=>Nat->Bool) (λn m=>Nat.blt m n) (λ_ _=>false) b m)
 (λm b=>Int.rec (motive:=λ_=>Nat->Bool) (λ_ _=>true) (λn m=>Nat.blt n m) b m) a b
def ieq(a b:Int):Bool:=Int.rec (motive:=λ_=>Int->Bool) (λm b=>Int.rec (motive:=λ_=>Nat->Bool) (λn m=>Nat.beq m n) (λ_ _=>false) b m)
 (λm b=>Int.rec (motive:=λ_=>Nat->Bool) (λ_ _=>false) (λn m=>Nat.beq n m) b m) a b
def lS(a:IntKind):Nat:=IntKind.rec 0 1 2 3 4 5 6 7 a
def keq(a b:IntKind):Bool:=Nat.beq (lS a) (lS b)
def Lf(b:Bool):Bool:=Bool.rec true false b
def band(a b:Bool):Bool:=Bool.rec (motive:=λ_=>Bool->Bool) (λ_=>false) (λb=>b) a b
def ALW(a b:Bool):Bool:=Bool.rec (motive:=λ_=>Bool->Bool) Lf (λb=>b) a b
def R9(b:Bool):aAl:=Bool.rec (some (.bool false)) (some (.bool true)) b
def Az(b:Bool):aAl->aAl:=Bool.rec (motive:=λ_=>aAl->aAl) (λ_=>none) (λo=>o) b
def uK(b:Bool)(x y:aAl):aAl:=Bool.rec (motive:=λ_=>aAl->aAl->aAl) (λ_ y=>y) (λx _=>x) b x y
def AM5(code i:Nat):Nat:=Nat.mod (Nat.div code (Nat.pow 256 i)) 256
def AVw(code l h:Nat):Nat:=Nat.mod (Nat.div code (Nat.pow 256 l)) (Nat.pow 256 (Nat.sub h l))
def AWn(l1 c1 c2:Nat):Nat:=Nat.add c1 (Nat.mul (Nat.pow 256 l1) c2)
def ASG(f:Nat):Nat->Nat->Nat->Nat->Bool:=
 Nat.rec (motive:=λ_=>Nat->Nat->Nat->Nat->Bool) (λ_ _ _ _=>false)
  (λ_ g l1 c1 l2 c2=>Nat.rec (motive:=λ_=>Bool) false (λl2' _=>Nat.rec (motive:=λ_=>Bool) true (λl1' _=>
   Bool.rec (Nat.blt (Nat.mod c1 256) (Nat.mod c2 256)) (g l1' (Nat.div c1 256) l2' (Nat.div c2 256)) (Nat.beq (Nat.mod c1 256) (Nat.mod c2 256))) l1) l2) f
def slt(l1 c1 l2 c2:Nat):Bool:=ASG (Nat.succ l2) l1 c1 l2 c2
def nth{α:Type}(l:List α):Nat->Option α:=
 List.rec (motive:=λ_=>Nat->Option α) (λ_=>none) (λx _ g i=>Nat.rec (motive:=λ_=>Option α) (some x) (λi _=>g i) i) l
def cA{α:Type}(x:α)(l:List α):Nat->List α:=
 List.rec (motive:=λ_=>Nat->List α) (λ_=>[]) (λy ys g i=>Nat.rec (motive:=λ_=>List α) (x::ys) (λi _=>y::g i) i) l
def len{α:Type}(l:List α):Nat:=List.rec (motive:=λ_=>Nat) 0 (λ_ _ n=>Nat.succ n) l
def cat{α:Type}(a b:List α):List α:=List.rec (motive:=λ_=>List α->List α) (λb=>b) (λx _ g b=>x::g b) a b
def Vu{α:Type}(n:Nat):List α->List α:=
 Nat.rec (motive:=λ_=>List α->List α) (λ_=>[]) (λ_ g l=>List.rec (motive:=λ_=>List α) [] (λx xs _=>x::g xs) l) n
def fk{α:Type}(n:Nat):List α->List α:=
 Nat.rec (motive:=λ_=>List α->List α) (λl=>l) (λ_ g l=>List.rec (motive:=λ_=>List α) [] (λ_ xs _=>g xs) l) n
def Zy(l:List X):RS->aAo:=List.rec (motive:=λ_=>RS->aAo) (λ_=>[]) (λx _ g R=>x.ev R::g R) l
def AEW(new:aAo)(i:Nat)(l:aAo):aAo:=cat (Vu i l) (cat new (fk (Nat.add i (len new)) l))
abbrev LV:=aAo
abbrev aAB:=Option LV
def Pe(o:aAB)(f:LV->aAl):aAl:=Option.rec (motive:=λ_=>(LV->aAl)->aAl) (λ_=>none) (λv f=>f v) o f
def CR{α:Type}(o:Option α)(f:α->Prop):Prop:=Option.rec (motive:=λ_=>(α->Prop)->Prop) (λ_=>False) (λv f=>f v) o f
def AD(o:aAl)(f:V->Prop):Prop:=Option.rec (motive:=λ_=>(V->Prop)->Prop) (λ_=>False) (λv f=>f v) o f
def BB{α β:Type}(o:Option α)(f:α->Option β):Option β:=Option.rec (motive:=λ_=>(α->Option β)->Option β) (λ_=>none) (λv f=>f v) o f
def Wl(esz off n:Nat)(L:LV):aAB:=
 Bool.rec (motive:=λ_=>aAB)
  (Bool.rec none (some (Vu n (fk (Nat.mod off esz) L))) (Nat.ble (Nat.add (Nat.mod off esz) n) esz))
  (some L) (band (Nat.beq n esz) (Nat.beq (Nat.mod off esz) 0))
def VV(esz cnt:Nat)(c:T LV)(off n:Nat):aAB:=
 BB (Bool.rec none (T.get c (Nat.div off esz)) (Nat.blt (Nat.div off esz) cnt)) (Wl esz off n)
def LF.ld(b:LF):Nat->Nat->aAB:=
 LF.rec (motive:=λ_=>Nat->Nat->aAB) VV (λ_ _ _ _=>none) (λ_ _=>none) (λ_ _ _ _ _ _ _=>none) (λ_ _ _=>none) b
def ZB(H:Heap)(id off n:Nat):aAB:=Option.rec (motive:=λ_=>Nat->Nat->aAB) (λ_ _=>none) LF.ld (T.get H id) off n
def lG(v:V):(AQ)->(Heap)->(Nat)->aAB:=
 V.el (λ_ _ _=>none) (f:=λa b _ H n=>ZB H a b n) (g:=λa b G _ n=>G a b n) (v:=v)
def gE(new:LV)(esz cnt:Nat)(c:T LV)(off n:Nat)(L:LV):aAC:=
 Bool.rec (motive:=λ_=>aAC)
  (Bool.rec none (some (.arr esz cnt (T.set c (Nat.div off esz) (AEW new (Nat.mod off esz) L)))) (Nat.ble (Nat.add (Nat.mod off esz) n) esz))
  (some (.arr esz cnt (T.set c (Nat.div off esz) new))) (band (Nat.beq n esz) (Nat.beq (Nat.mod off esz) 0))
def stB(esz cnt:Nat)(c:T LV)(off n:Nat)(new:LV):aAC:=
 BB (Bool.rec none (T.get c (Nat.div off esz)) (Nat.blt (Nat.div off esz) cnt)) (gE new esz cnt c off n)
def LF.st(b:LF):Nat->Nat->LV->aAC:=
 LF.rec (motive:=λ_=>Nat->Nat->LV->aAC) stB (λ_ _ _ _ _=>none) (λ_ _ _=>none) (λ_ _ _ _ _ _ _ _=>none) (λ_ _ _ _=>none) b
def cJ(H:Heap)(id off n:Nat)(new:LV):Option Heap:=
 BB (Option.rec (motive:=λ_=>Nat->Nat->LV->aAC) (λ_ _ _=>none) LF.st (T.get H id) off n new) λb=>some (T.set H id b)
def stP(v:V):(Heap)->(Nat)->(LV)->Option Heap:=
 V.el (λ_ _ _=>none) (f:=λa b H n new=>cJ H a b n new) (v:=v)
def AMg(v:V):(IntKind)->(Int)->(Nat)->aAn:=
 V.el (λ_ _ _=>none) (b:=λa b c k n s=>Bool.rec (motive:=λ_=>aAn) none (some (ieq n b)) (band (keq k a) (Nat.beq (Nat.add s c) 0))) (v:=v)
def AGI(v:V):(Bool)->aAn:=
 V.el (λ_=>none) (c:=λa x=>some (ALW x a)) (v:=v)
def eqStr(v:V):(Nat)->(Nat)->aAn:=
 V.el (λ_ _=>none) (d:=λa b l d=>some (band (Nat.beq l a) (Nat.beq d b))) (v:=v)
def ANP(v:V):aAn:=
 V.el (none) (e:=some true) (f:=λ_ _=>some false) (g:=λ_ _=>some false) (v:=v)
def ARp(v:V):(Nat)->(Nat)->aAn:=
 V.el (λ_ _=>none) (e:=λ_ _=>some false) (f:=λa b i o=>Bool.rec none (some (Nat.beq o b)) (Nat.beq i a)) (v:=v)
def AMW(v:V):aAn:=
 V.el (none) (e:=some false) (v:=v)
def AE7(v:V):(V)->aAn:=
 V.el (λ_=>none) (b:=λa b c y=>AMg y a b c) (v:=v)
def AFM(v:V):(V)->aAn:=
 V.el (λ_=>none) (d:=λa b y=>eqStr y a b) (v:=v)
def uw(v:V):(V)->aAn:=
 V.el (λ_=>none) (c:=λa y=>AGI y a) (v:=v)
def ABz(v:V):(V)->aAn:=
 V.el (λ_=>none) (e:=λy=>ANP y) (f:=λa b y=>ARp y a b) (g:=λ_ _ y=>AMW y) (v:=v)
def AMa(v:V):aAn:=
 V.el (none) (h:=some true) (i:=λ_ _ _ _ _=>some false) (j:=λ_ _ _ _=>some false) (k:=λ_ _ _ _ _=>some false) (v:=v)
def bB(v:V):aAn:=
 V.el (none) (h:=some false) (v:=v)
def AL7(v:V):aAn:=
 V.el (none) (n:=some true) (o:=λ_ _ _ _ _=>some false) (v:=v)
def AIH(v:V):aAn:=
 V.el (none) (n:=some false) (v:=v)
def AL1(v:V):aAn:=
 V.el (none) (l:=some true) (m:=λ_=>some false) (v:=v)
def AIR(v:V):aAn:=
 V.el (none) (l:=some false) (v:=v)
def kSl(v:V):(V)->aAn:=
 V.el (λ_=>none) (h:=λy=>AMa y) (i:=λ_ _ _ _ _ y=>bB y) (j:=λ_ _ _ _ y=>bB y) (k:=λ_ _ _ _ _ y=>bB y) (v:=v)
def kFn(v:V):(V)->aAn:=
 V.el (λ_=>none) (n:=λy=>AL7 y) (o:=λ_ _ _ _ _ y=>AIH y) (v:=v)
def ATS(v:V):(V)->aAn:=
 V.el (λ_=>none) (l:=λy=>AL1 y) (m:=λ_ y=>AIR y) (v:=v)
def K8(o:aAn)(f:Bool->aAn):aAn:=Option.rec (motive:=λ_=>(Bool->aAn)->aAn) (λ_=>none) (λv f=>f v) o f
inductive CK where
 |int|str|bool|ptr
abbrev aAE:=List CK
def CK.eq(k:CK):V->V->aAn:=CK.rec (motive:=λ_=>V->V->aAn) AE7 AFM uw ABz k
def ANf(ks:aAE):aAo->aAo->aAn:=
 List.rec (motive:=λ_=>aAo->aAo->aAn) (λa b=>List.rec (motive:=λ_=>aAn) (List.rec (motive:=λ_=>aAn) (some true) (λ_ _ _=>none) b) (λ_ _ _=>none) a)
  (λk _ g a b=>List.rec (motive:=λ_=>aAn) none (λx xs _=>List.rec (motive:=λ_=>aAn) none (λy ys _=>K8 (k.eq x y) λr=>K8 (g xs ys) λr'=>some (band r r')) b) a) ks
def ARW(v:V):(aAE)->(LV)->aAn:=
 V.el (λ_ _=>none) (p:=λa _ ks l=>ANf ks l a) (v:=v)
def ATd(v:V):(aAE)->(V)->aAn:=
 V.el (λ_ _=>none) (p:=λa _ ks y=>ARW y ks a) (v:=v)
inductive EK where
 |one (k:CK)|agg (ks:List CK)|sl|fn|map
def EK.eq(k:EK):V->V->aAn:=EK.rec (motive:=λ_=>V->V->aAn) (λk=>k.eq) (λks x y=>ATd x ks y) kSl kFn ATS k
def V.AIi(v:V):aAG:=
 V.el (none) (f:=λa _=>some a) (v:=v)
def V.APt(v:V):Option (aAo):=
 V.el (none) (p:=λl _=>some l) (v:=v)
def VW(H:Heap)(id:Nat):Bool:=Option.rec (motive:=λ_=>Bool) false
 (λb=>LF.rec (motive:=λ_=>Bool) (λesz _ _=>Lf (Nat.beq esz 1)) (λ_ _=>false) false (λ_ _ _ _ _=>false) (λ_=>false) b) (T.get H id)
def AKJ(ok:Nat->Bool)(x y:V):aAn:=
 Option.rec (motive:=λ_=>aAn) none (λi=>Option.rec (motive:=λ_=>aAn) none (λj=>Bool.rec (motive:=λ_=>aAn) none (some false) (band (Lf (Nat.beq i j)) (band (ok i) (ok j)))) y.AIi) x.AIi
def zm(ok:Nat->Bool)(x y:V):aAn:=Option.rec (motive:=λ_=>aAn) (AKJ ok x y) (λb=>some b) (ABz x y)
def CK.oR(ok:Nat->Bool)(k:CK):V->V->aAn:=CK.rec (motive:=λ_=>V->V->aAn) AE7 AFM uw (zm ok) k
def kQ(q:CK->V->V->aAn)(ks:aAE):aAo->aAo->aAn:=
 List.rec (motive:=λ_=>aAo->aAo->aAn) (λa b=>List.rec (motive:=λ_=>aAn) (List.rec (motive:=λ_=>aAn) (some true) (λ_ _ _=>none) b) (λ_ _ _=>none) a)
  (λk _ g a b=>List.rec (motive:=λ_=>aAn) none (λx xs _=>List.rec (motive:=λ_=>aAn) none (λy ys _=>K8 (q k x y) λr=>K8 (g xs ys) λr'=>some (band r r')) b) a) ks
def rC(ok:Nat->Bool)(ks:aAE)(x y:V):aAn:=
 Option.rec (motive:=λ_=>aAn) none (λl=>Option.rec (motive:=λ_=>aAn) none (λm=>kQ (CK.oR ok) ks l m) y.APt) x.APt
inductive B2 where
 |add|sub|mul|quo|rem|and|or|xor|andNot|shl|shr|lss|leq|gtr|geq
def lY(f:Int->Int->Bool)(x y:V):aAl:=x.FI λk a s=>y.FI λk' b t=>Az (band (keq k k') (Nat.beq (Nat.add s t) 0)) (R9 (f a b))
def AEz(f:Nat->Nat->Nat->Nat->Bool)(x y:V):aAl:=x.Pj λl c=>y.Pj λm d=>R9 (f l c m d)
def jN(f:Int->Int->Int)(x y:V):aAl:=x.FI λk a s=>y.FI λk' b t=>Az (keq k k') (Zn k (f a b) (Nat.add s t))
def nD(f:Int->Int->Int)(x y:V):aAl:=
 x.FI λk a s=>y.FI λk' b t=>Az (band (keq k k') (band (Nat.beq t 0) (Lf (ieq b 0)))) (Zn k (f a b) s)
def ATL(x y:V):aAl:=
 x.FI λk a s=>y.FI λk' b t=>Az (band (keq k k') (band (Nat.beq t 0) (Lf (ieq b 0)))) (mkN k (Int.tmod a b) s)
def AVZ(x y:V):aAl:=x.Pj λl c=>y.Pj λm d=>Az (Nat.blt (Nat.add l m) 9223372036854775808) (CC (Nat.add l m) λn=>CC (AWn l c d) λe=>some (.str n e))
def AS4(x y:V):aAl:=uK (isStr x) (AVZ x y) (jN wh x y)
def AW5(x y:V):aAl:=jN (λa b=>wh a (Int.neg b)) x y
def AWs(x y:V):aAl:=jN Int.mul x y
def AVj(k:IntKind)(a b:Int):Int:=Int.rec (motive:=λ_=>Int->IntKind->Int)
 (λm b k=>Int.rec (motive:=λ_=>Nat->IntKind->Int) (λn m k=>V9 k (.ofNat (Nat.land m n))) (λn m k=>bits .and k (.ofNat m) (.negSucc n)) b m k)
 (λm b k=>bits .and k (.negSucc m) b) a b k
def AS3(x y:V):aAl:=x.FI λk a s=>y.FI λk' b t=>Az (band (keq k k') (Nat.beq (Nat.add s t) 0)) (S4 (AVj k a b) λm=>some (.int k m 0))
def AMJ(o:BinOp)(x y:V):aAl:=x.FI λk a s=>y.FI λk' b t=>Az (band (keq k k') (Nat.beq (Nat.add s t) 0)) (S4 (bits o k a b) λm=>some (.int k m 0))
def AWy(a:Int)(n:Nat):Int:=Int.fdiv a (Int.ofNat (Nat.pow 2 n))
def AEo(k:IntKind):Nat:=IntKind.rec 8 16 32 64 8 16 32 64 k
def AS0(x y:V):aAl:=x.FI λk a s=>y.FI λ_ b t=>Az (band (Lf (UG b 0)) (Nat.beq (Nat.add s t) 0)) (S4 (AWy a (Nat.min (Int.toNat b) (AEo k))) λm=>some (.int k m 0))
def ATw(x y:V):aAl:=x.FI λk a s=>y.FI λ_ b t=>Az (band (Lf (UG b 0)) (Nat.beq (Nat.add s t) 0)) (Zn k (Int.mul a (Int.ofNat (Nat.pow 2 (Nat.min (Int.toNat b) (AEo k))))) 0)
def Ux(o:aAn):aAl:=Option.rec none R9 o
def BM(k:EK)(neg:Bool)(x y:V):aAl:=Ux (K8 (k.eq x y) λb=>some (Bool.rec (motive:=λ_=>Bool->Bool) (λb=>b) Lf neg b))
def ASH(ks:aAE)(neg:Bool)(x y:V)(H:Heap):aAl:=Ux (K8 (rC (VW H) ks x y) λb=>some (Bool.rec (motive:=λ_=>Bool->Bool) (λb=>b) Lf neg b))
def ASb(x y:V):aAl:=uK (isStr x) (AEz slt x y) (lY UG x y)
def AUN(x y:V):aAl:=uK (isStr x) (AEz (λl c m d=>Lf (slt m d l c)) x y) (lY dh x y)
def ATP(x y:V):aAl:=uK (isStr x) (AEz (λl c m d=>slt m d l c) x y) (lY (λa b=>UG b a) x y)
def ATU(x y:V):aAl:=uK (isStr x) (AEz (λl c m d=>Lf (slt l c m d)) x y) (lY (λa b=>dh b a) x y)
def B2.ev(o:B2):V->V->aAl:=B2.rec (motive:=λ_=>V->V->aAl)
 AS4 AW5 AWs (nD Int.tdiv) ATL AS3 (AMJ .or) (AMJ .xor) (AMJ .andNot) ATw AS0 ASb AUN ATP ATU o
end Go.BN
namespace Go.RL
open Go.BN
def q0:P2:=.h
def q1:P2:=.z q0
def q2:P2:=.o q0
def q3:P2:=.z q1
def q4:P2:=.o q1
def q5:P2:=.z q2
def q6:P2:=.o q2
def q7:P2:=.z q3
def q8:P2:=.o q3
def q9:P2:=.z q4
def q10:P2:=.o q4
def q11:P2:=.z q5
def q12:P2:=.o q5
def q13:P2:=.z q6
def cq:P2:=.o q6
def cZ:P2:=.z q7
def q16:P2:=.o q7
def oG:P2:=.z q8
def vy:P2:=.o q8
def ph:P2:=.z q9
def sj:P2:=.o q9
def kw:P2:=.z q10
def q22:P2:=.o q10
def q23:P2:=.z q11
def q24:P2:=.o q11
def tx:P2:=.z q12
def nw:P2:=.o q12
def q27:P2:=.z q13
def q28:P2:=.o q13
def q29:P2:=.z cq
def q30:P2:=.o cq
def wY:P2:=.z cZ
def q32:P2:=.o cZ
def sb:P2:=.z q16
def q34:P2:=.o q16
def q36:P2:=.o oG
def q37:P2:=.z vy
def q38:P2:=.o vy
def q39:P2:=.z ph
def q40:P2:=.o ph
def q41:P2:=.z sj
def q42:P2:=.o sj
def q43:P2:=.z kw
def q44:P2:=.o kw
def q45:P2:=.z q22
def q46:P2:=.o q22
def q49:P2:=.z q24
def q50:P2:=.o q24
def q51:P2:=.z tx
def q52:P2:=.o tx
def q53:P2:=.z nw
def q54:P2:=.o nw
def q55:P2:=.z q27
def q60:P2:=.o q29
def q61:P2:=.z q30
def q62:P2:=.o q30
def q65:P2:=.z q32
def q66:P2:=.o q32
def q67:P2:=.z sb
def q68:P2:=.o sb
def q69:P2:=.z q34
def q73:P2:=.z q36
def q74:P2:=.o q36
def q75:P2:=.z q37
def q76:P2:=.o q37
def q77:P2:=.z q38
def q78:P2:=.o q38
def q83:P2:=.z q41
def q84:P2:=.o q41
def q85:P2:=.z q42
def q92:P2:=.o q45
def q93:P2:=.z q46
def q94:P2:=.o q46
def AZK:P2:=.o q55
abbrev M6:Nat:=3
abbrev Gf:Nat:=7
abbrev aG:Nat:=8
abbrev HG:Nat:=9
abbrev EW:Nat:=10
abbrev jt:Nat:=14
abbrev xm:Nat:=15
abbrev vW:Nat:=16
abbrev A7:Nat:=19
abbrev Xz:Nat:=22
abbrev Um:Nat:=23
abbrev X7:Nat:=24
abbrev V8:Nat:=25
abbrev VY:Nat:=26
abbrev K7:Nat:=27
abbrev Jb:Nat:=30
abbrev ye:Nat:=31
abbrev uH:Nat:=32
abbrev Dh:Nat:=33
abbrev D2:Nat:=34
abbrev Y4:Nat:=35
abbrev ML:Nat:=36
abbrev Ve:Nat:=37
abbrev fy:Nat:=41
abbrev HC:Nat:=43
abbrev Dj:Nat:=44
abbrev PI:Nat:=45
abbrev Xc:Nat:=46
abbrev mR:Nat:=47
abbrev CN:Nat:=48
abbrev Cm:Nat:=49
abbrev CJ:Nat:=50
abbrev CE:Nat:=51
abbrev AU:Nat:=52
abbrev Qj:Nat:=53
abbrev Vj:Nat:=54
abbrev aC:Nat:=55
abbrev YC:Nat:=56
abbrev DG:Nat:=57
abbrev rX:Nat:=58
abbrev B6:Nat:=59
abbrev GX:Nat:=60
abbrev En:Nat:=61
abbrev Kf:Nat:=62
abbrev FR:Nat:=65
abbrev PG:Nat:=66
abbrev Es:Nat:=67
abbrev O6:Nat:=68
abbrev Pw:Nat:=69
abbrev Q8:Nat:=70
abbrev WR:Nat:=71
abbrev FM:Nat:=72
abbrev ir:Nat:=73
abbrev T2:Nat:=79
abbrev YI:Nat:=80
abbrev ZC:Nat:=81
abbrev Qh:Nat:=82
abbrev B5:Nat:=83
abbrev Aa:Nat:=84
abbrev CX:Nat:=85
abbrev NJ:Nat:=86
abbrev C9:Nat:=87
abbrev N2:Nat:=88
abbrev S6:Nat:=89
abbrev vZ:Nat:=90
abbrev N6:Nat:=91
abbrev GP:Nat:=92
abbrev WM:Nat:=93
abbrev Hs:Nat:=94
abbrev SY:Nat:=100
abbrev Rp:Nat:=101
abbrev C4:Nat:=102
abbrev Bi:Nat:=103
abbrev db:Nat:=105
abbrev Aj:Nat:=106
abbrev PT:Nat:=107
abbrev Ql:Nat:=108
abbrev JY:Nat:=109
abbrev Cw:Nat:=110
abbrev OD:Nat:=111
abbrev HZ:Nat:=112
abbrev Q6:Nat:=113
abbrev PY:Nat:=114
abbrev Ce:Nat:=115
abbrev Eb:Nat:=116
abbrev Ab:Nat:=117
abbrev A2:Nat:=118
abbrev K1:Nat:=119
abbrev IZ:Nat:=120
abbrev Dd:Nat:=121
abbrev DX:Nat:=133
abbrev DQ:Nat:=134
abbrev DO:Nat:=135
abbrev Bv:Nat:=136
abbrev Su:Nat:=138
abbrev DT:Nat:=139
abbrev Hq:Nat:=140
abbrev Si:Nat:=141
abbrev TV:Nat:=142
abbrev PR:Nat:=143
abbrev A4:Nat:=144
abbrev TN:Nat:=145
abbrev Aw:Nat:=146
abbrev SE:Nat:=147
abbrev Cn:Nat:=148
abbrev BR:Nat:=149
abbrev UK:Nat:=167
abbrev Sw:Nat:=168
abbrev HY:Nat:=169
abbrev Mn:Nat:=170
abbrev Qr:Nat:=171
abbrev XX:Nat:=172
abbrev NZ:Nat:=173
abbrev iV:Nat:=174
abbrev gV:Nat:=175
abbrev Ca:Nat:=176
abbrev M4:Nat:=177
abbrev GE:Nat:=178
abbrev CO:Nat:=179
abbrev OT:Nat:=190
abbrev JR:Nat:=191
abbrev Pk:Nat:=192
abbrev N5:Nat:=193
abbrev OA:Nat:=194
abbrev Nx:Nat:=195
abbrev JA:Nat:=196
abbrev Uo:Nat:=197
abbrev PJ:Nat:=198
abbrev Hv:Nat:=199
abbrev Tk:Nat:=200
abbrev OL:Nat:=201
abbrev Qs:Nat:=202
abbrev dH:Nat:=203
abbrev EA:Nat:=204
abbrev WI:Nat:=205
abbrev J4:Nat:=216
abbrev NL:Nat:=217
abbrev Jk:Nat:=218
abbrev MO:Nat:=219
abbrev Q1:Nat:=220
abbrev SS:Nat:=221
abbrev TQ:Nat:=222
end Go.RL
namespace Go.BN
inductive AN where
 |mv (x:X)
 |pick (c a b:X)
 |ld1 (x:X)
 |ldn (n:Nat) (x:X)
 |ALM (x:X)
 |bin (o:B2) (x y:X)
 |eq (k:EK) (neg:Bool) (x y:X)
 |not (x:X)
 |neg (x:X)
 |cvi (k:IntKind) (x:X)
 |AZF (f:Nat) (first caps:List X)
 |AV2 (off:Nat) (x:X)
 |field1 (off:Nat) (x:X)
 |ASU (off n:Nat) (x:X)
 |AVi (esz:Nat) (x i:X)
 |ASV (n esz:Nat) (x i:X)
 |AXz (x i:X)
 |AX3 (n:Nat) (x i:X)
 |ext (x:X) (i:Nat)
 |AAA (x:X)
 |AYR (x:X)
 |AWa (x:X)
 |AYK (n:Nat)
 |look (c:CK) (ok:Bool) (zero:V) (m k:X)
 |build (zero:List V) (parts:List (Nat×Nat×X))
 |AWG (x:X) (lo hi:Option X)
 |slc (esz:Nat) (x:X) (lo hi mx:Option X)
 |AYk (n esz:Nat) (x:X) (lo hi:Option X)
 |AYu (x y:X)
 |AYO (x y:X)
 |cvS (x:X)
 |AO0 (s c:X)
 |AEz (x y:X)
 |eqp (k:List CK) (neg:Bool) (x y:X)
inductive AA where
 |alloc (esz:Nat) (es:List (List V))
 |box (x:X)
 |ACw (esz cnt:Nat) (zero:List V) (parts:List (Nat×X))
 |xF (esz bytes:Nat) (zero:List V) (l c:X)
 |AMA
 |aq (t e:Nat)
inductive AE where
 |asg (x:X)
 |st (n:Nat) (x v:X)
 |app (esz bytes:Nat) (x y:X)
 |copy (esz:Nat) (x y:X)
 |AGS (c:CK) (m k v:X)
 |del (c:CK) (m k:X)
 |AWq (m:X)
 |call (f:Nat) (args:List X)
 |AIz (x:X) (args:List X)
 |defer (dp:P2) (x:X) (args:List X)
 |cvB (x:X)
inductive AO where
 |n (o:AN)|a (o:AA)|e (o:AE)
inductive jK where
 |no|to (p:P2)|ps
inductive Gd where
 |no|on (x:X) (b:Bool)
inductive pH where
 |mk (d:jK) (g:Gd) (o:AO)
def AQJ(n:Int):(Nat->aAl)->aAl:=Int.rec (motive:=λ_=>(Nat->aAl)->aAl) (λm f=>f m) (λ_ _=>none) n
def TT(v:V)(f:Nat->aAl):aAl:=v.FI λ_ n s=>Az (Nat.beq s 0) (AQJ n f)
def Yo(x:aAu):RS->Nat->(Nat->aAl)->aAl:=
 Option.rec (motive:=λ_=>RS->Nat->(Nat->aAl)->aAl) (λ_ d f=>f d) (λx R _ f=>TT (x.ev R) f) x
def f3(a b c:Nat)(f:Nat->Nat->Nat->V):aAl:=CC a λa=>CC b λb=>CC c λc=>some (f a b c)
def yP(R:RS)(lo hi mx:aAu):aAl:=Yo mx R 0 λm=>Yo hi R 0 λh=>Yo lo R 0 λl=>Az (band (Nat.ble l h) (band (Nat.ble h m) (Nat.beq m 0))) (some .AT)
def AFT(z:Nat)(R:RS)(lo hi mx:aAu)(id off ln cap esz:Nat):aAl:=Az (Nat.beq z esz) (Yo mx R cap λm=>Yo hi R ln λh=>Yo lo R 0 λl=>
 Az (band (Nat.ble l h) (band (Nat.ble h m) (Nat.ble m cap))) (f3 (Nat.add off l) (Nat.sub h l) (Nat.sub m l) λo d c=>.sl id o d c esz))
def xG(R:RS)(lo hi:aAu)(id off ln esz:Nat):aAl:=Yo hi R ln λh=>Yo lo R 0 λl=>
 Az (band (Nat.ble l h) (Nat.ble h ln)) (f3 (Nat.add off l) (Nat.sub h l) 0 λo d _=>.Hf id o d esz)
def xM(R:RS)(lo hi:aAu)(mx:X)(id off ln esz:Nat):aAl:=TT (mx.ev R) λm=>Yo hi R 0 λh=>Yo lo R 0 λl=>
 Az (band (Nat.ble l h) (band (Nat.ble h m) (Nat.ble m ln))) (f3 (Nat.add off l) (Nat.sub h l) (Nat.sub m l) λo d c=>.sl id o d c esz)
def tf(z:Nat)(R:RS)(lo hi mx:aAu)(id off ln esz:Nat):aAl:=
 Az (Nat.beq z esz) (Option.rec (motive:=λ_=>aAl) (xG R lo hi id off ln esz) (λmx=>xM R lo hi mx id off ln esz) mx)
def zK(z:Nat)(R:RS)(lo hi mx:aAu)(b off ln cap esz:Nat):aAl:=Yo hi R ln λh=>Yo lo R 0 λl=>
 Option.rec (motive:=λ_=>aAl) (Az (band (Nat.ble l h) (Nat.ble h cap)) (f3 (Nat.add off (Nat.mul l z)) (Nat.sub h l) (Nat.sub cap l) λo d c=>.rsl b o d c esz)) (λ_=>none) mx
def lV(z:Nat)(x:V)(R:RS)(lo hi mx:aAu):aAl:=x.AO9 (yP R lo hi mx) (AFT z R lo hi mx) (tf z R lo hi mx) (zK z R lo hi mx)
def AIL(x:V)(R:RS)(lo hi:aAu):aAl:=
 x.Pj λln c=>Yo hi R ln λh=>Yo lo R 0 λl=>Az (band (Nat.ble l h) (Nat.ble h ln)) (f3 (Nat.sub h l) (AVw c l h) 0 λd c _=>.str d c)
def Ai(esz:Nat)(x i:V):aAl:=TT i λi=>x.AO9 none
 (λid off ln _ e=>Az (band (Nat.beq e esz) (Nat.blt i ln)) (CC (Nat.mul (Nat.add off i) esz) λo=>some (.ptr id o)))
 (λid off ln e=>Az (band (Nat.beq e esz) (Nat.blt i ln)) (CC (Nat.mul (Nat.add off i) esz) λo=>some (.ptr id o)))
 (λb off ln _ _=>Az (Nat.blt i ln) (CC (Nat.add off (Nat.mul i esz)) λo=>some (.gptr b o)))
def AG(off:Nat)(x:V):aAl:=x.AFD (λid o=>CC (Nat.add o off) λo=>some (.ptr id o)) (λb o=>CC (Nat.add o off) λo=>some (.gptr b o))
abbrev ME:=List (V×V×Nat)
def iM(c:CK)(k:V)(es:ME):Nat->Option (Option (Nat×V)):=
 List.rec (motive:=λ_=>Nat->Option (Option (Nat×V))) (λ_=>some none)
  (λe _ g i=>BB (c.eq e.1 k) λr=>Bool.rec (g (Nat.succ i)) (some (some (i,e.2.1))) r) es
def AXA(b:LF):(ME->Nat->aAl)->aAl:=LF.rec (motive:=λ_=>(ME->Nat->aAl)->aAl) (λ_ _ _ _=>none) (λes c f=>f es c) (λ_=>none) (λ_ _ _ _ _ _=>none) (λ_ _=>none) b
def NV(H:Heap)(m:V)(f:ME->Nat->aAl):aAl:=m.AHH (f [] 0) λid=>Option.rec (motive:=λ_=>(ME->Nat->aAl)->aAl) (λ_=>none) AXA (T.get H id) f
def vB(parts:List (Nat×Nat×X)):RS->aAo->aAo:=
 List.rec (motive:=λ_=>RS->aAo->aAo) (λ_ l=>l) (λp _ g R l=>g R (AEW (At (p.2.2.ev R)) p.1 l)) parts
def Rb(v:V):Bool:=
 V.el (true) (a:=false) (q:=λ_ _=>false) (v:=v)
def cV(parts:List (Nat×Nat×X)):RS->Bool:=
 List.rec (motive:=λ_=>RS->Bool) (λ_=>true) (λp _ g R=>band (band (Rb (p.2.2.ev R)) (Nat.beq (len (At (p.2.2.ev R))) p.2.1)) (g R)) parts
abbrev Bh:=List LV
abbrev aAs:=Option Bh
def BP(H:Heap)(id esz:Nat)(n:Nat):Nat->aAs:=
 Nat.rec (motive:=λ_=>Nat->aAs) (λ_=>some [])
  (λ_ g o=>BB (ZB H id (Nat.mul o esz) esz) λL=>BB (g (Nat.succ o)) λLS=>some (L::LS)) n
def Y1(G:AQ)(b esz:Nat)(n:Nat):Nat->aAs:=
 Nat.rec (motive:=λ_=>Nat->aAs) (λ_=>some [])
  (λ_ g o=>BB (G b o esz) λL=>BB (g (Nat.add o esz)) λLS=>some (L::LS)) n
def VZ(n:Nat):Nat->Bh:=
 Nat.rec (motive:=λ_=>Nat->Bh) (λ_=>[]) (λ_ g c=>[.int .u8 (.ofNat (Nat.mod c 256)) 0]::g (Nat.div c 256)) n
def elems(v:V):(AQ)->(Heap)->(Nat)->aAs:=
 V.el (λ_ _ _=>none) (d:=λa b _ _ z=>Bool.rec (motive:=λ_=>aAs) none (some (VZ a b)) (Nat.beq 1 z)) (h:=λ_ _ _=>some []) (i:=λa b c _ e _ H z=>Bool.rec (motive:=λ_=>aAs) none (BP H a z c b) (Nat.beq e z)) (j:=λa b c d _ H z=>Bool.rec (motive:=λ_=>aAs) none (BP H a z c b) (Nat.beq d z)) (k:=λa b c _ _ G _ z=>Y1 G a z c b) (v:=v)
def byteOf(v:V):aAG:=
 V.el (none) (b:=λa b c=>Int.rec (motive:=λ_=>Nat->aAG) (λm t=>Bool.rec none (some m) (band (Nat.beq (lS a) 4) (band (Nat.blt m 256) (Nat.beq t 0)))) (λ_ _=>none) b c) (v:=v)
def mP(l:Bh):aAG:=
 List.rec (motive:=λ_=>aAG) (some 0) (λx _ g=>BB (nth x 0) λv=>BB (byteOf v) λm=>BB g λc=>some (Nat.add m (Nat.mul 256 c))) l
def y8(b:Nat)(f:Nat):Nat->Nat->Int:=
 Nat.rec (motive:=λ_=>Nat->Nat->Int) (λ_ _=>.negSucc 0)
  (λ_ g c i=>Bool.rec (g (Nat.div c 256) (Nat.succ i)) (.ofNat i) (Nat.beq (Nat.mod c 256) b)) f
abbrev fG:=AQ->RS->Heap->aAl
def lO(x:X):fG:=λ_ R _=>some (x.ev R)
def AJW(c a b:X):fG:=λ_ R _=>(c.ev R).gg λt=>uK t (some (a.ev R)) (some (b.ev R))
def AOz(x:X):fG:=λG R H=>Pe (lG (x.ev R) G H 1) λL=>nth L 0
def AQZ(n:Nat)(x:X):fG:=λG R H=>Pe (lG (x.ev R) G H n) λL=>some (.agg L)
def ADa(x:X):fG:=λ_ R _=>AV (x.ev R)
def APH(o:B2)(x y:X):fG:=λ_ R _=>o.ev (x.ev R) (y.ev R)
def eEq(k:EK)(neg:Bool)(x y:X):fG:=λ_ R _=>BM k neg (x.ev R) (y.ev R)
def APW(x:X):fG:=λ_ R _=>(x.ev R).gg λb=>R9 (Lf b)
def AOw(x:X):fG:=λ_ R _=>(x.ev R).FI λk n s=>Zn k (Int.neg n) s
def APL(k:IntKind)(x:X):fG:=λ_ R _=>(x.ev R).FI λ_ n s=>Zn k n s
def AI1(f:Nat)(a c:List X):fG:=λ_ R _=>some (.fn f (Zy a R) (Zy c R))
def ADk(off:Nat)(x:X):fG:=λ_ R _=>AG off (x.ev R)
def xV(off:Nat)(x:X):fG:=λ_ R _=>(x.ev R).vJ λl=>nth l off
def xC(off n:Nat)(x:X):fG:=λ_ R _=>(x.ev R).vJ λl=>some (.agg (Vu n (fk off l)))
def ACW(esz:Nat)(x i:X):fG:=λ_ R _=>Ai esz (x.ev R) (i.ev R)
def wu(n esz:Nat)(x i:X):fG:=λ_ R _=>TT (i.ev R) λi=>Az (Nat.blt i n) (AG (Nat.mul i esz) (x.ev R))
def AIe(x i:X):fG:=λ_ R _=>(x.ev R).Pj λln c=>TT (i.ev R) λi=>Az (Nat.blt i ln) (CC (AM5 c i) λb=>some (.int .u8 (.ofNat b) 0))
def AIc(n:Nat)(x i:X):fG:=λ_ R _=>(x.ev R).vJ λl=>TT (i.ev R) λi=>Az (Nat.blt i n) (nth l i)
def AOL(x:X)(i:Nat):fG:=λ_ R _=>(x.ev R).AD2 λl=>nth l i
def AJV(x:X):fG:=λ_ R _=>(x.ev R).Pj λn _=>some (.int .i64 (.ofNat n) 0)
def AIg(x:X):fG:=λ_ R _=>lenV (x.ev R)
def AIk(x:X):fG:=λ_ R H=>NV H (x.ev R) λes _=>CC (len es) λn=>some (.int .i64 (.ofNat n) 0)
def AW4(n:Nat):fG:=λ_ _ _=>some (.int .i64 (.ofNat n) 0)
def AJA(ok:Bool)(z:V)(r:Option (Nat×V)):aAl:=
 Option.rec (motive:=λ_=>aAl) (uK ok (some (.CV [z,.bool false])) (some z)) (λp=>uK ok (some (.CV [p.2,.bool true])) (some p.2)) r
def AJb(c:CK)(ok:Bool)(z:V)(m k:X):fG:=λ_ R H=>NV H (m.ev R) λes _=>BB (iM c (k.ev R) es 0) (AJA ok z)
def AC4(z:LV)(ps:List (Nat×Nat×X)):fG:=λ_ R _=>Az (cV ps R) (some (.agg (vB ps R z)))
def AAC(x:X)(lo hi:aAu):fG:=λ_ R _=>AIL (x.ev R) R lo hi
def AOm(z:Nat)(x:X)(lo hi mx:aAu):fG:=λ_ R _=>lV z (x.ev R) R lo hi mx
def AIS(n esz:Nat)(x:X)(lo hi:aAu):fG:=λ_ R _=>(x.ev R).AFD (λid o=>Yo hi R n λh=>Yo lo R 0 λl=>
 Az (band (Nat.beq (Nat.mod o esz) 0) (band (Nat.ble l h) (Nat.ble h n))) (f3 (Nat.add (Nat.div o esz) l) (Nat.sub h l) (Nat.sub n l) λa b c=>.sl id a b c esz)) (λ_ _=>none)
def AP5(x y:X):fG:=λ_ R _=>(x.ev R).FI λk a s=>(y.ev R).FI λk' b t=>Az (band (keq k k') (Nat.beq (Nat.add s t) 0)) (some (.int k (Bool.rec a b (UG a b)) 0))
def AQA(x y:X):fG:=λ_ R _=>(x.ev R).FI λk a s=>(y.ev R).FI λk' b t=>Az (band (keq k k') (Nat.beq (Nat.add s t) 0)) (some (.int k (Bool.rec a b (UG b a)) 0))
def AOX(x:X):fG:=λG R H=>Az (Lf (isStr (x.ev R))) (BB (elems (x.ev R) G H 1) λl=>BB (mP l) λc=>f3 (len l) c 0 λn c _=>.str n c)
def AC5(s c:X):fG:=λ_ R _=>(s.ev R).Pj λn cd=>(c.ev R).FI λk b _=>Az (Nat.beq (lS k) 4) (AQJ b λb=>Az (Nat.blt b 256) (S4 (y8 b n cd 0) λi=>some (.int .i64 i 0)))
def AFm(x y:V):aAl:=x.Pj λl c=>y.Pj λm d=>some (.int .i64 (Bool.rec (Bool.rec (.ofNat 0) (.ofNat 1) (slt m d l c)) (.negSucc 0) (slt l c m d)) 0)
def APD(k:aAE)(neg:Bool)(x y:X):fG:=λ_ R H=>ASH k neg (x.ev R) (y.ev R) H
def AIq(x y:X):fG:=λ_ R _=>AFm (x.ev R) (y.ev R)
def AN.ev(o:AN):fG:=AN.rec (motive:=λ_=>fG)
 lO AJW AOz AQZ ADa APH eEq APW AOw APL AI1 ADk xV xC ACW wu AIe AIc AOL AJV AIg AIk AW4 AJb AC4 AAC AOm AIS AP5 AQA AOX AC5 AIq APD o
def qe(L:LV)(n:Nat):T LV->T LV:=
 Nat.rec (motive:=λ_=>T LV->T LV) (λt=>t) (λi g t=>g (T.set t i L)) n
def Dk(LS:Bh):Nat->T LV->T LV:=
 List.rec (motive:=λ_=>Nat->T LV->T LV) (λ_ t=>t) (λL _ g i t=>g (Nat.succ i) (T.set t i L)) LS
def bR(parts:List (Nat×X)):RS->T LV->T LV:=
 List.rec (motive:=λ_=>RS->T LV->T LV) (λ_ t=>t) (λp _ g R t=>g R (T.set t p.1 (At (p.2.ev R)))) parts
def VC(parts:List (Nat×X)):RS->Nat->Nat->Bool:=
 List.rec (motive:=λ_=>RS->Nat->Nat->Bool) (λ_ _ _=>true) (λp _ g R esz cnt=>band (band (Rb (p.2.ev R)) (band (Nat.blt p.1 cnt) (Nat.beq (len (At (p.2.ev R))) esz))) (g R esz cnt)) parts
def V.ALZ(v:V):(Nat->Prop)->Prop:=
 V.el (λ_=>False) (f:=λa _ f=>f a) (v:=v)
def V.wy(v:V):(Nat->Nat->Prop)->Prop:=
 V.el (λ_=>False) (f:=λa b f=>f a b) (v:=v)
abbrev KA:=LF->(Nat->V)->Prop
abbrev gP:=RS->KA->Prop
def B7(b:Bool)(p:Prop):Prop:=Bool.rec (motive:=λ_=>Prop->Prop) (λ_=>False) (λp=>p) b p
def ACd(v:V)(f:Nat->Prop):Prop:=CR (TT v λn=>some (.ptr n 0)) λv=>V.ALZ v f
def Af(esz:Nat)(es:Bh):gP:=λ_ k=>CS (len es) λn=>k (.arr esz n (Dk es 0 .e)) λid=>.ptr id 0
def AAL(x:X):gP:=λR k=>B7 (Rb (x.ev R)) (CS (len (At (x.ev R))) λe=>k (.arr e 1 (T.set .e 0 (At (x.ev R)))) λid=>.ptr id 0)
def AY(esz cnt:Nat)(z:LV)(ps:List (Nat×X)):gP:=λR k=>B7 (VC ps R esz cnt) (k (.arr esz cnt (bR ps R (qe z cnt .e))) λid=>.sl id 0 cnt cnt esz)
def JQ(esz bs:Nat)(z:LV)(l c:X):gP:=λR k=>ACd (l.ev R) λl=>ACd (c.ev R) λc=>
 B7 (band (Nat.ble l c) (Nat.ble (Nat.mul bs c) 281474976710656)) (k (.arr esz c (qe z c .e)) λid=>.sl id 0 l c esz)
def ABy:gP:=λ_ k=>k (.map [] 0) λid=>.map id
def AZC(t e:Nat):gP:=λ_ k=>k (.aq t e 0 0 0) λid=>.ptr id 0
def AA.al(o:AA):gP:=AA.rec (motive:=λ_=>gP) Af AAL AY JQ ABy AZC o
abbrev K:=F3->Heap->Nat->Prop
abbrev KV:=V->Heap->Nat->Prop
abbrev Am:=Nat->aAo->Heap->Nat->KV->Prop
def KZ(need bytes:Nat):Bool:=Nat.ble (Nat.mul need bytes) 140737488355328
abbrev AKT:=AQ->Nat->Nat->Bh->Heap->Nat->KV->Prop
def GR(esz bs:Nat)(OS LS:Bh)(H:Heap)(n:Nat)(k:KV):Prop:=
 CS (Nat.add (len OS) (len LS)) λneed=>B7 (KZ need bs) (CS n λn=>k (.Hf n 0 need esz) (T.set H n (.arr esz need (Dk LS (len OS) (Dk OS 0 .e)))) (Nat.succ n))
def ATE:AKT:=λ_ esz bs LS H n k=>List.rec (motive:=λ_=>Prop) (k .AT H n) (λ_ _ _=>GR esz bs [] LS H n k) LS
def aD(id off ln cap esz need:Nat)(LS:Bh)(H:Heap)(n:Nat)(k:KV)(b:LF):Prop:=
 LF.rec (motive:=λ_=>Prop) (λesz' cnt c=>B7 (band (Nat.beq esz esz') (Nat.ble (Nat.add off need) cnt)) (k (.sl id off need cap esz) (T.set H id (.arr esz cnt (Dk LS (Nat.add off ln) c))) n)) (λ_ _=>False) False (λ_ _ _ _ _=>False) (λ_=>False) b
def ARa(id off ln cap e:Nat):AKT:=λ_ esz bs LS H n k=>B7 (Nat.beq e esz) (CS (Nat.add ln (len LS)) λneed=>
 Bool.rec (motive:=λ_=>Prop) (CR (BP H id esz ln off) λOS=>GR esz bs OS LS H n k) (CR (T.get H id) λb=>aD id off ln cap esz need LS H n k b) (Nat.ble need cap))
def X2(id off ln esz bs:Nat)(LS:Bh)(H:Heap)(n:Nat)(k:KV)(b:LF):Prop:=
 LF.rec (motive:=λ_=>Prop) (λesz' cnt c=>CS (Nat.add ln (len LS)) λneed=>B7 (band (KZ need bs) (band (Nat.beq esz esz') (Nat.ble (Nat.add off ln) cnt)))
  (CS n λn=>Nat.rec (motive:=λ_=>Prop)
   (k (.Hf n 0 need esz) (T.set (T.set H id .dead) n (.arr esz need (Dk LS ln c))) (Nat.succ n))
   (λ_ _=>CR (BP H id esz ln off) λOS=>k (.Hf n 0 need esz) (T.set (T.set H id .dead) n (.arr esz need (Dk LS ln (Dk OS 0 .e)))) (Nat.succ n)) off))
  (λ_ _=>False) False (λ_ _ _ _ _=>False) (λ_=>False) b
def ALc(id off ln e:Nat):AKT:=λ_ esz bs LS H n k=>B7 (Nat.beq e esz) (List.rec (motive:=λ_=>Prop) (k (.Hf id off ln esz) H n)
 (λ_ _ _=>CR (T.get H id) λb=>X2 id off ln esz bs LS H n k b) LS)
def AL6(b off ln cap e:Nat):AKT:=λG esz bs LS H n k=>B7 (Nat.blt cap (Nat.add ln (len LS))) (CR (Y1 G b esz ln off) λOS=>GR esz bs OS LS H n k)
def AV9:AKT:=λ_ _ _ _ _ _ _=>False
def AAb(v:V):AKT:=
 V.el (AV9) (h:=ATE) (i:=λa b c d e=>ARa a b c d e) (j:=λa b c d=>ALc a b c d) (k:=λa b c d e=>AL6 a b c d e) (v:=v)
def ASA(id off esz:Nat)(LS:Bh)(H:Heap)(n:Nat)(k:KV)(b:LF):Prop:=
 LF.rec (motive:=λ_=>Prop) (λesz' cnt c=>B7 (band (Nat.beq esz esz') (Nat.ble (Nat.add off (len LS)) cnt)) (CS (len LS) λm=>k (.int .i64 (.ofNat m) 0) (T.set H id (.arr esz cnt (Dk LS off c))) n)) (λ_ _=>False) False (λ_ _ _ _ _=>False) (λ_=>False) b
abbrev CpT:=Nat->Bh->Heap->Nat->KV->Prop
def yY(id off ln:Nat):CpT:=λesz LS H n k=>CR (T.get H id) λb=>ASA id off esz (Vu ln LS) H n k b
def AFe(v:V):(Nat)->(Bh)->(Heap)->(Nat)->(KV)->Prop:=
 V.el (λ_ _ _ _ _=>False) (h:=λ_ _ H n k=>k (.int .i64 (.ofNat 0) 0) H n) (i:=λa b c _ e z L H n k=>B7 (Nat.beq e z) (yY a b c z L H n k)) (j:=λa b c d z L H n k=>B7 (Nat.beq d z) (yY a b c z L H n k)) (v:=v)
def zy{α:Type}(l:List α):Nat->List α:=
 List.rec (motive:=λ_=>Nat->List α) (λ_=>[]) (λy ys g i=>Nat.rec (motive:=λ_=>List α) ys (λi _=>y::g i) i) l
def ARr(b:LF):(ME->Nat->aAC)->aAC:=LF.rec (motive:=λ_=>(ME->Nat->aAC)->aAC) (λ_ _ _ _=>none) (λes c f=>f es c) (λ_=>none) (λ_ _ _ _ _ _=>none) (λ_ _=>none) b
def AVe(H:Heap)(id:Nat)(f:ME->Nat->aAC)(g:Heap->Prop):Prop:=CR (T.get H id) λb=>CR (ARr b f) λb=>g (T.set H id b)
def AAd(v:V):(Heap)->(ME->Nat->aAC)->(Heap->Prop)->Prop:=
 V.el (λ_ _ _=>False) (m:=λa H f g=>AVe H a f g) (v:=v)
def V.Ts(v:V):(Nat->LV->LV->Prop)->Prop:=
 V.el (λ_=>False) (o:=λa b c _ _ f=>f a b c) (v:=v)
def AEF(v:V):LV:=
 V.el ([]) (q:=λa _=>a) (v:=v)
abbrev Zw:=AQ->Am->RS->Heap->Nat->KV->Prop
def AY0(x:X):Zw:=λ_ _ R H n k=>k (x.ev R) H n
def xSt(sz:Nat)(x v:X):Zw:=λ_ _ R H n k=>B7 (band (Rb (v.ev R)) (Nat.beq (len (At (v.ev R))) sz)) (CR (stP (x.ev R) H sz (At (v.ev R))) λH=>k .undef H n)
def AXr(esz bs:Nat)(x y:X):Zw:=λG _ R H n k=>CR (elems (y.ev R) G H esz) λLS=>AAb (x.ev R) G esz bs LS H n k
def AVF(esz:Nat)(x y:X):Zw:=λG _ R H n k=>CR (elems (y.ev R) G H esz) λLS=>AFe (x.ev R) esz LS H n k
def AGa(ck:CK)(key v:V)(es:ME)(c:Nat):aAC:=BB (iM ck key es 0) λr=>
 Option.rec (motive:=λ_=>aAC) (some (.map (cat es [(key,v,c)]) (Nat.succ c))) (λp=>BB (nth es p.1) λe=>some (.map (cA (e.1,v,e.2.2) es p.1) c)) r
def ASz(ck:CK)(key:V)(es:ME)(c:Nat):aAC:=BB (iM ck key es 0) λr=>
 Option.rec (motive:=λ_=>aAC) (some (.map es c)) (λp=>some (.map (zy es p.1) c)) r
def AYY(c:CK)(m key v:X):Zw:=λ_ _ R H n k=>AAd (m.ev R) H (AGa c (key.ev R) (v.ev R)) λH=>k .undef H n
def AZI(c:CK)(m key:X):Zw:=λ_ _ R H n k=>AAd (m.ev R) H (ASz c (key.ev R)) λH=>k (.CV []) H n
def AXl(m:X):Zw:=λ_ _ R H n k=>AAd (m.ev R) H (λ_ c=>some (.map [] c)) λH=>k (.CV []) H n
def AWb(f:Nat)(args:List X):Zw:=λ_ call R H n k=>call f (Zy args R) H n k
def AUP(x:X)(args:List X):Zw:=λ_ call R H n k=>V.Ts (x.ev R) λf a c=>call f (cat a (cat (Zy args R) c)) H n k
def ASl(dp:P2)(x:X)(args:List X):Zw:=λ_ _ R H n k=>V.Ts (x.ev R) λf a c=>k (.CV (.fn f (cat a (Zy args R)) c::AEF (Ij (T.Ch dp R.rg)))) H n
def AYr(x:X):Zw:=λ_ _ R H n k=>CR ((x.ev R).Pj λl c=>some (.ptr l c)) λv=>V.wy v λl c=>
 CS n λn=>k (.Hf n 0 l 1) (T.set H n (.arr 1 l (Dk (VZ l c) 0 .e))) (Nat.succ n)
def AE.ex(o:AE):Zw:=AE.rec (motive:=λ_=>Zw) AY0 xSt AXr AVF AYY AZI AXl AWb AUP ASl AYr o
def AZB(p:P2)(v:V)(E:RS):RS:=RS.rec (motive:=λ_=>P2->V->RS) (λL R p v=>.mk L (T.VB v p R)) E p v
def AWm(v:V)(E:RS):RS:=RS.rec (motive:=λ_=>V->RS) (λL R v=>.mk (v::L) R) E v
def D0(d:jK)(v:V):RS->RS:=jK.rec (motive:=λ_=>V->RS->RS) (λ_ R=>R) AZB AWm d v
abbrev KE:=RS->Heap->Nat->Prop
abbrev gn:=AQ->Am->jK->RS->Heap->Nat->KE->Prop
def oN(o:AN):gn:=λG _ d R H n k=>AD (o.ev G R H) λv=>k (D0 d v R) H n
def oA(o:AA):gn:=λ_ _ d R H n k=>o.al R λb f=>CS n λn=>k (D0 d (f n) R) (T.set H n b) (Nat.succ n)
def oE(o:AE):gn:=λG call d R H n k=>o.ex G call R H n λv H n=>k (D0 d v R) H n
def AO.ex(o:AO):gn:=AO.rec (motive:=λ_=>gn) oN oA oE o
def AS(v:V)(yes no:Prop):Prop:=v.AJO λt=>Bool.rec (motive:=λ_=>Prop->Prop->Prop) (λ_ n=>n) (λy _=>y) (ALW t true) yes no
def dr(v:V):(Bool)->(Prop)->(Prop)->Prop:=
 V.el (λ_ _ _=>False) (c:=λa b' yes no=>Bool.rec (motive:=λ_=>Prop->Prop->Prop) (λ_ n=>n) (λy _=>y) (ALW a b') yes no) (q:=λa _ _ _ no=>List.rec (motive:=λ_=>Prop) no (λ_ _ _=>False) a) (v:=v)
abbrev vE:=AQ->Am->RS->Heap->Nat->KE->Prop
def gNo(d:jK)(o:AO):vE:=λG call R H n k=>o.ex G call d R H n k
def gOn(x:X)(b:Bool)(d:jK)(o:AO):vE:=λG call R H n k=>dr (x.ev R) b (o.ex G call d R H n k) (k (D0 d (.CV []) R) H n)
def pH.ex(o:pH):vE:=pH.rec (motive:=λ_=>vE) (λd g o=>Gd.rec (motive:=λ_=>jK->AO->vE) gNo gOn g d o) o
def ABG(v:V):(IntKind)->(Int)->(Nat)->Bool:=
 V.el (λ_ _ _=>false) (b:=λa b c k n s=>band (keq k a) (band (ieq n b) (band (Nat.beq s 0) (Nat.beq c 0)))) (v:=v)
def zx(v:V):(Bool)->Bool:=
 V.el (λ_=>false) (c:=λa x=>ALW x a) (v:=v)
def AIw(v:V):(Nat)->(Nat)->Bool:=
 V.el (λ_ _=>false) (d:=λa b l m=>band (Nat.beq l a) (Nat.beq m b)) (v:=v)
def ACa(v:V):Bool:=
 V.el (false) (e:=true) (v:=v)
def ACI(v:V):Bool:=
 V.el (false) (h:=true) (v:=v)
def ACK(v:V):Bool:=
 V.el (false) (l:=true) (v:=v)
def ADT(v:V):Bool:=
 V.el (false) (n:=true) (v:=v)
def AN1(v:V):(Nat)->(Nat)->Bool:=
 V.el (λ_ _=>false) (f:=λa b l m=>band (Nat.beq l a) (Nat.beq m b)) (v:=v)
def AGo(v:V):(Nat)->(Nat)->Bool:=
 V.el (λ_ _=>false) (g:=λa b l m=>band (Nat.beq l a) (Nat.beq m b)) (v:=v)
def AK1(v:V):(Nat)->Bool:=
 V.el (λ_=>false) (m:=λa l=>Nat.beq l a) (v:=v)
def ANR(v:V):(Nat)->(Nat)->(Nat)->(Nat)->(Nat)->Bool:=
 V.el (λ_ _ _ _ _=>false) (i:=λa b c d e i j k l m=>band (Nat.beq i a) (band (Nat.beq j b) (band (Nat.beq k c) (band (Nat.beq l d) (Nat.beq m e))))) (v:=v)
def AFt(v:V):(Nat)->(Nat)->(Nat)->(Nat)->Bool:=
 V.el (λ_ _ _ _=>false) (j:=λa b c d i j k l=>band (Nat.beq i a) (band (Nat.beq j b) (band (Nat.beq k c) (Nat.beq l d)))) (v:=v)
def AFO(v:V):(Nat)->(Nat)->(Nat)->(Nat)->(Nat)->Bool:=
 V.el (λ_ _ _ _ _=>false) (k:=λa b c d e i j k l m=>band (Nat.beq i a) (band (Nat.beq j b) (band (Nat.beq k c) (band (Nat.beq l d) (Nat.beq m e))))) (v:=v)
def Eh(v:V):(V)->Bool:=
 V.el (λ_=>false) (b:=λa b c y=>ABG y a b c) (c:=λa y=>zx y a) (d:=λa b y=>AIw y a b) (e:=λy=>ACa y) (f:=λa b y=>AN1 y a b) (g:=λa b y=>AGo y a b) (h:=λy=>ACI y) (i:=λa b c d e y=>ANR y a b c d e) (j:=λa b c d y=>AFt y a b c d) (k:=λa b c d e y=>AFO y a b c d e) (l:=λy=>ACK y) (m:=λa y=>AK1 y a) (n:=λy=>ADT y) (v:=v)
def oY(a:aAo):aAo->Bool:=
 List.rec (motive:=λ_=>aAo->Bool) (λb=>List.rec (motive:=λ_=>Bool) true (λ_ _ _=>false) b)
  (λx _ g b=>List.rec (motive:=λ_=>Bool) false (λy ys _=>band (Eh x y) (g ys)) b) a
def ARo(v:V):(LV)->Bool:=
 V.el (λ_=>false) (p:=λa _ l=>oY l a) (v:=v)
def ARn(v:V):(LV)->Bool:=
 V.el (λ_=>false) (q:=λa _ l=>oY l a) (v:=v)
def AD1(v:V):Bool:=
 V.el (false) (a:=true) (v:=v)
def Ak(v:V):(V)->Bool:=
 V.el (λ_=>false) (a:=λy=>AD1 y) (b:=λa b c y=>ABG y a b c) (c:=λa y=>zx y a) (d:=λa b y=>AIw y a b) (e:=λy=>ACa y) (f:=λa b y=>AN1 y a b) (g:=λa b y=>AGo y a b) (h:=λy=>ACI y) (i:=λa b c d e y=>ANR y a b c d e) (j:=λa b c d y=>AFt y a b c d) (k:=λa b c d e y=>AFO y a b c d e) (l:=λy=>ACK y) (m:=λa y=>AK1 y a) (n:=λy=>ADT y) (p:=λa _ y=>ARo y a) (q:=λa _ y=>ARn y a) (v:=v)
inductive AI where
 |op (o:pH)
 |re (d:P2) (g:Gd) (o:AN)
inductive AC where
 |skip
 |ops (l:List pH)
 |reg (l:List AI)
 |seq (a b:AC)
 |cond (x:X) (a b:AC)
 |block (id:Nat) (c:AC)
 |loop (c:AC)
 |exit (id:Nat)
 |ret
def Mu(l:List pH):vE:=
 List.rec (motive:=λ_=>vE) (λ_ _ R H n k=>k R H n) (λo _ g G call R H n k=>o.ex G call R H n λR H n=>g G call R H n k) l
abbrev mA:=AQ->RS->Heap->P2->AN->Prop->Prop
def AXB:mA:=λG R H d o k=>AD (o.ev G R H) λv=>B7 (Ak v (Ij (T.Ch d R.rg))) k
def AYc(x:X)(b:Bool):mA:=λG R H d o k=>dr (x.ev R) b (AD (o.ev G R H) λv=>B7 (Ak v (Ij (T.Ch d R.rg))) k) k
def ATo(g:Gd):mA:=Gd.rec (motive:=λ_=>mA) AXB AYc g
def AI.ex(i:AI):vE:=AI.rec (motive:=λ_=>vE) (λo=>o.ex) (λd g o G _ R H n k=>ATo g G R H d o (k R H n)) i
def Bg(l:List AI):vE:=
 List.rec (motive:=λ_=>vE) (λ_ _ R H n k=>k R H n) (λi _ g G call R H n k=>i.ex G call R H n λR H n=>g G call R H n k) l
abbrev KX:=Nat->K
abbrev M:=AQ->Am->Nat->F3->Heap->Nat->K->KX->K->Prop
def ANk:M:=λ_ _ _ R H n k _ _=>k R H n
def AOK(l:List pH):M:=λG call _ R H n k _ _=>Mu l G call (.mk [] R) H n λE H n=>k E.rg H n
def AOO(l:List AI):M:=λG call _ R H n k _ _=>Bg l G call (.mk [] R) H n λE H n=>k E.rg H n
def ANc(_ _:AC)(a b:M):M:=λG call lf R H n k x r=>a G call lf R H n (λR H n=>b G call lf R H n k x r) x r
def AE9(c:X)(_ _:AC)(a b:M):M:=λG call lf R H n k x r=>AS (c.ev (.mk [] R)) (a G call lf R H n k x r) (b G call lf R H n k x r)
def Ew(id:Nat)(k:K)(x:KX):KX:=λi R H n=>Bool.rec (motive:=λ_=>Prop->Prop->Prop) (λa _=>a) (λ_ b=>b) (Nat.beq i id) (x i R H n) (k R H n)
def zu(id:Nat)(_:AC)(a:M):M:=λG call lf R H n k x r=>a G call lf R H n k (Ew id k x) r
def Tb(a:M)(G:AQ)(call:Am)(lf0 lf:Nat):F3->Heap->Nat->KX->K->Prop:=
 Nat.rec (motive:=λ_=>F3->Heap->Nat->KX->K->Prop) (λ_ _ _ _ _=>False) (λ_ g R H n x r=>a G call lf0 R H n (λR H n=>g R H n x r) x r) lf
def AWU(_:AC)(a:M):M:=λG call lf R H n _ x r=>Tb a G call lf lf R H n x r
def ANG(id:Nat):M:=λ_ _ _ R H n _ x _=>x id R H n
def AUE:M:=λ_ _ _ R H n _ _ r=>r R H n
def AC.ex(c:AC):M:=AC.rec (motive:=λ_=>M) ANk AOK AOO ANc AE9 zu AWU ANG AUE c
inductive AR where
 |tmp (p:P2)|cell1 (p:P2)|celln (p:P2) (n:Nat)
inductive Nk where
 |join|rep|wstr (t e:Nat)|bstr (t e:Nat)
inductive AF where
 |mk (np:Nat) (code:AC) (res:List AR) (dp:jK) (dg:Nat)
 |nat (k:Nk)
def AR.get(r:AR):AQ->F3->Heap->aAl:=
 AR.rec (motive:=λ_=>AQ->F3->Heap->aAl) (λp _ R _=>some (Ij (T.Ch p R))) (λp G R H=>Pe (lG (Ij (T.Ch p R)) G H 1) λL=>nth L 0)
  (λp n G R H=>Pe (lG (Ij (T.Ch p R)) G H n) λL=>some (.agg L)) r
def ASg(l:List AR):AQ->F3->Heap->aAB:=
 List.rec (motive:=λ_=>AQ->F3->Heap->aAB) (λ_ _ _=>some []) (λr _ g G R H=>BB (r.get G R H) λv=>BB (g G R H) λvs=>some (v::vs)) l
def Bb(l:aAo):V:=List.rec (motive:=λ_=>V) (V.CV []) (λv vs _=>List.rec (motive:=λ_=>V) v (λw ws _=>V.CV (v::w::ws)) vs) l
def ZR(args:aAo):Nat->F3->F3:=
 List.rec (motive:=λ_=>Nat->F3->F3) (λ_ R=>R) (λv _ g i R=>g (Nat.succ i) (T.set R i v)) args
def Po(dg:Nat)(l:aAo):Am->Heap->Nat->(Heap->Nat->Prop)->Prop:=
 List.rec (motive:=λ_=>Am->Heap->Nat->(Heap->Nat->Prop)->Prop) (λ_ H n k=>k H n)
  (λv _ g call H n k=>V.Ts v λf a c=>B7 (Nat.beq f dg) (call f (cat a c) H n λ_ H n=>g call H n k)) l
def AAZ(res:List AR)(G:AQ)(k:KV):K:=λR H n=>CR (ASg res G R H) λl=>k (Bb l) H n
def GZ(res:List AR)(dg:Nat)(d:jK):AQ->Am->KV->K:=
 jK.rec (motive:=λ_=>AQ->Am->KV->K) (λG _ k=>AAZ res G k) (λp G call k R H n=>Po dg (AEF (Ij (T.Ch p R))) call H n λH n=>AAZ res G k R H n) (λG _ k=>AAZ res G k) d
def ANb(p q:Nat×Nat):Nat×Nat:=(p.1+q.1,p.2+256^p.1*q.2)
def ARU:Bh->Option (List (Nat×Nat))
 |[]=>some []
 |[.str l c]::r=>match ARU r with|some x=>some ((l,c)::x)|none=>none
 |_::_=>none
def AN2(s:Nat×Nat):List (Nat×Nat)->Nat×Nat
 |[]=>(0,0)
 |a::r=>r.foldl (λp q=>ANb (ANb p s) q) a
def ATq(s:Nat×Nat):Nat->Nat×Nat
 |0=>(0,0)
 |n+1=>ANb s (ATq s n)
def APM:Nat:=140737488355328
def AJF(x y:V)(G:AQ)(H:Heap)(n:Nat)(k:KV):Prop:=
 match y with
 |.str sl sc=>B7 (Lf (isStr x)) <| CR (elems x G H 1) λLS=>CR (ARU LS) λss=>B7 (decide (ss.length<=APM/\(AN2 (sl,sc) ss).1<=APM)) (k (.str (AN2 (sl,sc) ss).1 (AN2 (sl,sc) ss).2) H n)
 |_=>False
def ANp(x y:V)(H:Heap)(n:Nat)(k:KV):Prop:=
 match x,y with
 |.str l c,.int .i64 (.ofNat m) _=>B7 (decide (m<=9223372036854775807/\l*m<=APM)) (k (.str (ATq (l,c) m).1 (ATq (l,c) m).2) H n)
 |_,_=>False
def AJY(t e:Nat)(x y:V)(H:Heap)(n:Nat)(k:KV):Prop:=
 match x,y with
 |.ptr id 0,.str m d=>(match T.get H id with
  |some (.aq t' e' l c j)=>B7 (decide (t'=t/\e'=e/\l+m<=APM)) (k (.CV [.int .i64 (.ofNat m) 0,.AMe]) (T.set (T.set (bif decide (l=0)then H else T.set H j .dead) n (.own id)) id (.aq t e (ANb (l,c) (m,d)).1 (ANb (l,c) (m,d)).2 n)) (n+1))
  |_=>False)
 |_,_=>False
def AIy(t e:Nat)(x:V)(H:Heap)(n:Nat)(k:KV):Prop:=
 match x with
 |.ptr id 0=>(match T.get H id with
  |some (.aq t' e' l c _)=>B7 (decide (t'=t/\e'=e)) (k (.str l c) (T.set H id .dead) n)
  |_=>False)
 |_=>False
def nE(f:Nk)(G:AQ)(args:aAo)(H:Heap)(n:Nat)(k:KV):Prop:=
 match f,args with
 |.join,[x,y]=>AJF x y G H n k
 |.rep,[x,y]=>ANp x y H n k
 |.wstr t e,[x,y]=>AJY t e x y H n k
 |.bstr t e,[x]=>AIy t e x H n k
 |_,_=>False
def iE:KX:=λ_ _ _ _=>False
def dO(f:AF):AQ->Am->Nat->aAo->Heap->Nat->KV->Prop:=
 AF.rec (motive:=λ_=>AQ->Am->Nat->aAo->Heap->Nat->KV->Prop) (λnp code res d dg G call lf args H n k=>B7 (Nat.beq (len args) np) (code.ex G call lf (ZR args 0 .e) H n (GZ res dg d G call k) iE (GZ res dg d G call k))) (λf G _ _ args H n k=>nE f G args H n k) f
def run(F:T AF)(G:AQ)(lf:Nat)(fuel:Nat):Am:=
 Nat.rec (motive:=λ_=>Am) (λ_ _ _ _ _=>False) (λ_ call f args H n k=>CR (T.get F f) λaf=>dO af G call lf args H n k) fuel
end Go.BN
