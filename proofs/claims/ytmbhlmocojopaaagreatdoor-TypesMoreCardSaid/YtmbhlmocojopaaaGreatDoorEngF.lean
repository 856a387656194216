/- Part of a proof; nothing is assumed. -/
import Derived.Test.YtmbhlmocojopaaaGreatDoorEngE
set_option linter.unusedVariables false
set_option linter.unusedSimpArgs false
noncomputable section
namespace Go.DW
def P2.beq(p:P2):P2->Bool:=
 P2.rec (motive:=λ_=>P2->Bool) (λq=>P2.rec (motive:=λ_=>Bool) true (λ_ _=>false) (λ_ _=>false) q)
  (λ_ g q=>P2.rec (motive:=λ_=>Bool) false (λq _=>g q) (λ_ _=>false) q)
  (λ_ g q=>P2.rec (motive:=λ_=>Bool) false (λ_ _=>false) (λq _=>g q) q) p
theorem P2.AET:∀p:P2,P2.beq p p=true
 |.h=>rfl
 |.z p=>P2.AET p
 |.o p=>P2.AET p
abbrev rg(R:LW)(p:P2):V:=PD (T.FM p R)
theorem ne{R:LW}{p q:P2}{v a:V}(hb:P2.beq q p=false)(h:rg R p=a):rg (T.eF v q R) p=a:=by
 show PD (T.FM p (T.eF v q R))=a
 rw[T.KF _ _ _ _ (λe=>by subst e;rw[P2.AET]at hb;cases hb)]
 exact h
abbrev He:=(σ:Type)->((σ->Prop)->σ->Prop)->σ->Prop
def Eb(L:He):Prop:=∀(σ:Type) (b:(σ->Prop)->σ->Prop) (P:σ->Prop),(∀ih,(∀s,ih s->P s)->∀s,b ih s->P s)->∀s,L σ b s->P s
def lfp:He:=fun σ b s=>∀I:σ->Prop,(∀s,b I s->I s)->I s
theorem BI:Eb lfp:=λ_ _ P h _ hL=>hL P (h P λ_ h=>h)
def E0:RS:=.mk [] .e
def CQ(c a b:V):Option V:=c.vG λt=>ACs t (some a) (some b)
def AY(a:V)(G:AX)(H:Heap):Option V:=Xn (ldP a G H 1) λL=>nth L 0
def Ag(n:Nat)(a:V)(G:AX)(H:Heap):Option V:=Xn (ldP a G H n) λL=>some (.agg L)
def Qi(a:V):Option V:=a.vG λb=>mkB (TM b)
def AR7(k:IntKind)(a:V):Option V:=a.Kr λ_ n s=>mkI k n s
def AOY(a i:V):Option V:=a.WM λln c=>aA i λi=>CG (Nat.blt i ln) (Et (AOv c i) λb=>some (.int .u8 (.ofNat b) 0))
def KO(a:V)(i:Nat):Option V:=a.AJO λl=>nth l i
def uX(a:V):Option V:=a.WM λn _=>some (.int .i64 (.ofNat n) 0)
def APr(c:CK)(ok:Bool)(z m k:V)(H:Heap):Option V:=Ug H m λes _=>CZ (uQ c k es 0) (AM9 ok z)
def Dv(z:LV)(ps:List (Nat×Nat×X)):Option V:=CG (pJ ps E0) (some (.agg (AC2 ps E0 z)))
def AWK(a:V)(G:AX)(H:Heap):Option V:=CG (TM (isStr a)) (CZ (elems a G H 1) λl=>CZ (yu l) λc=>f3 (len l) c 0 λn c _=>.str n c)
def Eo(v:V)(k:KA):Prop:=ER (jZ v) (FT (len (Ba v)) λe=>k (.arr e 1 (T.set .e 0 (Ba v))) λid=>.ptr id 0)
def Bq(sz:Nat)(a b:V)(H:Heap)(n:Nat)(k:KV):Prop:=ER (band (jZ b) (Nat.beq (len (Ba b)) sz)) (Ej (stP a H sz (Ba b)) λH=>k .undef H n)
def Rt(esz bs:Nat)(a b:V)(G:AX)(H:Heap)(n:Nat)(k:KV):Prop:=Ej (elems b G H esz) λLS=>AIT a G esz bs LS H n k
def AWC(c:CK)(m key v:V)(H:Heap)(n:Nat)(k:KV):Prop:=AF4 m H (AK1 c key v) λH=>k .undef H n
def Em(x:V)(args:List V)(call:BG)(H:Heap)(n:Nat)(k:KV):Prop:=V.Zb x λf a c=>call f (cat a (cat args c)) H n k
def BF(c:V)(b:Bool)(e:Option V)(P:V->Prop):Prop:=rD c b (AP e P) (P (.Io []))
def Bh(al:KA->Prop)(H:Heap)(n:Nat)(P:KV):Prop:=al λb f=>FT n λn=>P (f n) (T.set H n b) (Nat.succ n)
def I5(c:V)(b:Bool)(t:KV->Prop)(H:Heap)(n:Nat)(P:KV):Prop:=rD c b (t P) (P (.Io []) H n)
inductive AVr where
 |t (v:V)|c1 (v:V)|cn (v:V) (n:Nat)
def AVr.get(r:AVr)(G:AX)(H:Heap):Option V:=AVr.rec (λv=>some v) (λv=>AY v G H) (λv n=>Ag n v G H) r
def BO(l:List AVr)(G:AX)(H:Heap):Option LV:=
 List.rec (motive:=λ_=>Option LV) (some []) (λr _ g=>CZ (r.get G H) λv=>CZ g λvs=>some (v::vs)) l
section
variable{E:RS}{G:AX}{H:Heap}{n:Nat}{x y z w:X}{a b c d:V}
variable{call:BG}
end
section
variable{L:List V}{R:LW}{G:AX}{call:BG}{H:Heap}{n:Nat}{a b:V}
end
def ADV(c:V)(b:Bool)(e:Option V)(a:V)(P:Prop):Prop:=rD c b (AP e λv=>ER (Aw v a) P) P
def kR(k:K):KE:=λE H n=>k E.rg H n
theorem AEY{v:V}{b:Bool}{P Q P' Q':Prop}(h:Ae v b P Q)(hp:P->P')(hq:Q->Q'):Ae v b P' Q':=by
 rw[bC]at h⊢
 obtain⟨t,ht,h⟩:=h
 refine⟨t,ht,?_⟩
 split
 ·rename_i e;rw[if_pos e]at h;exact hp h
 ·rename_i e;rw[if_neg e]at h;exact hq h
section
variable{G:AX}{call callE:BG}
section
variable{L:List V}{R:LW}{H:Heap}{n:Nat}{l:List AOp}{k:KE}{p:P2}{x:X}{b:Bool}{c a:V}
end
section
variable{L:List V}{R:LW}{H:Heap}{n:Nat}{l:List AI}{k:KE}{p:P2}{x:X}{b:Bool}{c a:V}
theorem i0{K:K}(h:K R H n):DY [] G callE (.mk L R) H n (kR K):=h
end
section
variable{R:LW}{H:Heap}{n:Nat}{k:K}{x:KX}{r:K}{a b:AC}
end
section
variable{res rs:List AR}{dg:Nat}{R:LW}{H:Heap}{n:Nat}{k:KV}{l:LV}{p:P2}{a:V}{vs:List AVr}
end
end
abbrev SF:=BG->List V->Heap->Nat->KV->Prop
def ar0(s:BG->Heap->Nat->KV->Prop):SF:=λcall l H n k=>List.rec (motive:=λ_=>Prop) (s call H n k) (λ_ _ _=>False) l
def mO(s:BG->V->Heap->Nat->KV->Prop):SF:=λcall l H n k=>List.rec (motive:=λ_=>Prop) False (λa l _=>ar0 (λcall=>s call a) call l H n k) l
def N7(s:BG->V->V->Heap->Nat->KV->Prop):SF:=λcall l H n k=>List.rec (motive:=λ_=>Prop) False (λa l _=>mO (λcall=>s call a) call l H n k) l
def ar3(s:BG->V->V->V->Heap->Nat->KV->Prop):SF:=λcall l H n k=>List.rec (motive:=λ_=>Prop) False (λa l _=>N7 (λcall=>s call a) call l H n k) l
def ar4(s:BG->V->V->V->V->Heap->Nat->KV->Prop):SF:=λcall l H n k=>List.rec (motive:=λ_=>Prop) False (λa l _=>ar3 (λcall=>s call a) call l H n k) l
def ar5(s:BG->V->V->V->V->V->Heap->Nat->KV->Prop):SF:=λcall l H n k=>List.rec (motive:=λ_=>Prop) False (λa l _=>ar4 (λcall=>s call a) call l H n k) l
def ar6(s:BG->V->V->V->V->V->V->Heap->Nat->KV->Prop):SF:=λcall l H n k=>List.rec (motive:=λ_=>Prop) False (λa l _=>ar5 (λcall=>s call a) call l H n k) l
theorem AMe{s:BG->Heap->Nat->KV->Prop}{call:BG}{l:List V}{H:Heap}{n:Nat}{k:KV}(h:ar0 s call l H n k):l=[]/\s call H n k:=by
 cases l with
 |nil=>exact⟨rfl,h⟩
 |cons=>exact(show False from h).elim
theorem ANJ{s:BG->V->Heap->Nat->KV->Prop}{call:BG}{l:List V}{H:Heap}{n:Nat}{k:KV}(h:mO s call l H n k):∃a0,l=[a0]/\s call a0 H n k:=by
 cases l with
 |nil=>exact(show False from h).elim
 |cons a l=>
  obtain⟨rfl,h⟩:=AMe (show ar0 (λcall=>s call a) call l H n k from h)
  exact⟨a,rfl,h⟩
theorem AMn{s:BG->V->V->Heap->Nat->KV->Prop}{call:BG}{l:List V}{H:Heap}{n:Nat}{k:KV}(h:N7 s call l H n k):∃a0 a1,l=[a0,a1]/\s call a0 a1 H n k:=by
 cases l with
 |nil=>exact(show False from h).elim
 |cons a l=>
  obtain⟨b0,rfl,h⟩:=ANJ (show mO (λcall=>s call a) call l H n k from h)
  exact⟨a,b0,rfl,h⟩
theorem AMB{s:BG->V->V->V->Heap->Nat->KV->Prop}{call:BG}{l:List V}{H:Heap}{n:Nat}{k:KV}(h:ar3 s call l H n k):∃a0 a1 a2,l=[a0,a1,a2]/\s call a0 a1 a2 H n k:=by
 cases l with
 |nil=>exact(show False from h).elim
 |cons a l=>
  obtain⟨b0,b1,rfl,h⟩:=AMn (show N7 (λcall=>s call a) call l H n k from h)
  exact⟨a,b0,b1,rfl,h⟩
theorem AMl{s:BG->V->V->V->V->Heap->Nat->KV->Prop}{call:BG}{l:List V}{H:Heap}{n:Nat}{k:KV}(h:ar4 s call l H n k):∃a0 a1 a2 a3,l=[a0,a1,a2,a3]/\s call a0 a1 a2 a3 H n k:=by
 cases l with
 |nil=>exact(show False from h).elim
 |cons a l=>
  obtain⟨b0,b1,b2,rfl,h⟩:=AMB (show ar3 (λcall=>s call a) call l H n k from h)
  exact⟨a,b0,b1,b2,rfl,h⟩
theorem AMq{s:BG->V->V->V->V->V->Heap->Nat->KV->Prop}{call:BG}{l:List V}{H:Heap}{n:Nat}{k:KV}(h:ar5 s call l H n k):∃a0 a1 a2 a3 a4,l=[a0,a1,a2,a3,a4]/\s call a0 a1 a2 a3 a4 H n k:=by
 cases l with
 |nil=>exact(show False from h).elim
 |cons a l=>
  obtain⟨b0,b1,b2,b3,rfl,h⟩:=AMl (show ar4 (λcall=>s call a) call l H n k from h)
  exact⟨a,b0,b1,b2,b3,rfl,h⟩
theorem ARV{s:BG->V->V->V->V->V->V->Heap->Nat->KV->Prop}{call:BG}{l:List V}{H:Heap}{n:Nat}{k:KV}(h:ar6 s call l H n k):∃a0 a1 a2 a3 a4 a5,l=[a0,a1,a2,a3,a4,a5]/\s call a0 a1 a2 a3 a4 a5 H n k:=by
 cases l with
 |nil=>exact(show False from h).elim
 |cons a l=>
  obtain⟨b0,b1,b2,b3,b4,rfl,h⟩:=AMq (show ar5 (λcall=>s call a) call l H n k from h)
  exact⟨a,b0,b1,b2,b3,b4,rfl,h⟩
def AHN(G:AX)(af:AF)(s:SF):Prop:=∀call callE,WE call callE->Il callE->∀args H n k,s call args H n k->AKT af G callE args H n k
section
variable{E:RS}{G:AX}{H:Heap}{x:X}{a:Int}
end
@[congr] theorem AWN{o o':Option V}(f:V->Prop)(h:o=o'):AP o f=AP o' f:=by rw[h]
@[congr] theorem AWW{α:Type}{o o':Option α}(f:α->Prop)(h:o=o'):Ej o f=Ej o' f:=by rw[h]
@[congr] theorem AWh{b b':Bool}(p:Prop)(h:b=b'):ER b p=ER b' p:=by rw[h]
@[congr] theorem ATq{v v':V}(b:Bool)(p q:Prop)(h:v=v'):Ae v b p q=Ae v' b p q:=by rw[h]
@[congr] theorem AWe{c c':V}{b:Bool}{e:Option V}(f:V->Prop)(h:c=c'):BF c b e f=BF c' b e f:=by rw[h]
@[congr] theorem AV2{c c':V}{b:Bool}{t:KV->Prop}{H:Heap}{n:Nat}(f:KV)(h:c=c'):I5 c b t H n f=I5 c' b t H n f:=by rw[h]
@[congr] theorem AUr(F:T AF)(G:AX)(f:Nat){a a':List V}{H H':Heap}{n n':Nat}(k:KV)(h0:a=a')(h1:H=H')(h2:n=n'):Runs F G f a H n k=Runs F G f a' H' n' k:=by rw[h0,h1,h2]
theorem AQ(v:V)(f:V->Prop):AP (some v) f=f v:=rfl
theorem dS{α:Type}(v:α)(f:α->Prop):Ej (some v) f=f v:=rfl
theorem qM(p:Prop):ER true p=p:=rfl
theorem Ar(p q:Prop):Ae (.bool true) true p q=p:=rfl
theorem Aj(p q:Prop):Ae (.bool false) true p q=q:=rfl
theorem ATR(e:Option V)(f:V->Prop):BF (.bool true) true e f=AP e f:=rfl
theorem AUC(e:Option V)(f:V->Prop):BF (.bool false) false e f=AP e f:=rfl
theorem AXx(e:Option V)(f:V->Prop):BF (.bool true) false e f=f (.Io []):=rfl
theorem AXJ(e:Option V)(f:V->Prop):BF (.bool false) true e f=f (.Io []):=rfl
theorem AZU(b:Bool)(e:Option V)(f:V->Prop):BF (.Io []) b e f=f (.Io []):=rfl
theorem AYV(t:KV->Prop)(H:Heap)(n:Nat)(f:KV):I5 (.bool true) true t H n f=t f:=rfl
theorem AYR(t:KV->Prop)(H:Heap)(n:Nat)(f:KV):I5 (.bool false) false t H n f=t f:=rfl
theorem AYA(t:KV->Prop)(H:Heap)(n:Nat)(f:KV):I5 (.bool true) false t H n f=f (.Io []) H n:=rfl
theorem AYI(t:KV->Prop)(H:Heap)(n:Nat)(f:KV):I5 (.bool false) true t H n f=f (.Io []) H n:=rfl
theorem AaD(b:Bool)(t:KV->Prop)(H:Heap)(n:Nat)(f:KV):I5 (.Io []) b t H n f=f (.Io []) H n:=rfl
theorem AYf(b:Bool):Qi (.bool b)=some (.bool (!b)):=by cases b<;>rfl
theorem AS1(a b:V):CQ (.bool true) a b=some a:=rfl
theorem ASp(a b:V):CQ (.bool false) a b=some b:=rfl
theorem Am(off id o:Nat):AU off (.ptr id o)=some (.ptr id (o+off)):=by show Et (Nat.add o off) _=_;rw[DK];rfl
theorem AM0(off id o:Nat):AU off (.gptr id o)=some (.gptr id (o+off)):=by show Et (Nat.add o off) _=_;rw[DK];rfl
theorem ATE(id o:Nat):Ap (.ptr id o)=some (.ptr id o):=rfl
theorem iY(a:V)(l:List V):KO (.Io (a::l)) 0=some a:=rfl
theorem iK(a b:V)(l:List V):KO (.Io (a::b::l)) 1=some b:=rfl
theorem AKi(a b c:V)(l:List V):KO (.Io (a::b::c::l)) 2=some c:=rfl
theorem AOy(a:V)(G:AX)(H:Heap):AY a G H=Xn (ldP a G H 1) λL=>nth L 0:=rfl
theorem AMb(m:Nat)(a:V)(G:AX)(H:Heap):Ag m a G H=Xn (ldP a G H m) λL=>some (.agg L):=rfl
theorem AD4(id off:Nat)(G:AX)(H:Heap)(n:Nat):ldP (.ptr id off) G H n=yx H id off n:=rfl
theorem AH0(L:LV)(f:LV->Option V):Xn (some L) f=f L:=rfl
def one(L:LV):S9:=.arr L.length 1 (T.set .e 0 L)
theorem AT9{v:V}{H:Heap}{n:Nat}{P:KV}(h:jZ v=true):Bh (Eo v) H n P=P (.ptr n 0) (T.set H n (one (Ba v))) (n+1):=by
 show ER (jZ v) (FT (len (Ba v)) λe=>FT n λn=>P (.ptr n 0) (T.set H n (.arr e 1 (T.set .e 0 (Ba v)))) (Nat.succ n))=_
 rw[CS,CS,len_eq,h]
 rfl
theorem AL7{z:Nat}{L:LV}{H:Heap}{n:Nat}{P:KV}(h:L.length=z):Bh (Au z [L] E0) H n P=P (.ptr n 0) (T.set H n (one L)) (n+1):=by
 show FT (len [L]) (λm=>FT n λn=>P (.ptr n 0) (T.set H n (.arr z m (Ih [L] 0 .e))) (Nat.succ n))=_
 rw[CS,CS,len_eq]
 subst h
 rfl
theorem AKg{H:Heap}{id:Nat}{L:LV}(h:T.get H id=some (one L)){off m:Nat}(hm:0<m)(hl:off+m<=L.length):yx H id off m=some ((L.drop off).take m):=by
 unfold yx
 rw[h]
 show ldB L.length 1 (T.set .e 0 L) off m=_
 unfold ldB
 have hdiv:off/L.length=0:=Nat.div_eq_of_lt (by omega)
 have hmod:off%L.length=off:=Nat.mod_eq_of_lt (by omega)
 have hb:Nat.blt (Nat.div off L.length) 1=true:=by rw[Nat.blt_eq];show off/L.length<1;omega
 rw[hb]
 show CZ (T.get (T.set T.e 0 L) (Nat.div off L.length)) (ldC L.length off m)=_
 have hg2:T.get (T.set T.e 0 L) (Nat.div off L.length)=some L:=by
  show T.get (T.set T.e 0 L) (off/L.length)=some L
  rw[hdiv];simp
 rw[hg2]
 show ldC L.length off m L=_
 unfold ldC
 cases hc:band (Nat.beq m L.length) (Nat.beq (Nat.mod off L.length) 0)with
 |true=>
  simp only[Bg,Bool.and_eq_true,beq_iff]at hc
  obtain⟨h1,h2⟩:=hc
  have h2':off=0:=by have:off%L.length=0:=h2;omega
  subst h2'
  simp[h1]
 |false=>
  have hf:Nat.ble (Nat.add (Nat.mod off L.length) m) L.length=true:=by
   rw[Nat.ble_eq];show off%L.length+m<=L.length;omega
  rw[hf]
  show some (bP m (vO (Nat.mod off L.length) L))=_
  rw[kP,sW]
  show some (List.take m (List.drop (off%L.length) L))=_
  rw[hmod]
theorem AWJ{H:Heap}{id:Nat}{L:LV}(h:T.get H id=some (one L)){off m:Nat}{new:LV}(hm:0<m)(hn:new.length=m)(hl:off+m<=L.length):stH H id off m new=some (T.set H id (one (L.take off++(new++L.drop (off+m))))):=by
 unfold stH
 rw[h]
 show CZ (stB L.length 1 (T.set .e 0 L) off m new) (λb=>some (T.set H id b))=_
 have hdiv:Nat.div off L.length=0:=Nat.div_eq_of_lt (by omega)
 have hmod:Nat.mod off L.length=off:=Nat.mod_eq_of_lt (by omega)
 have hs:stB L.length 1 (T.set .e 0 L) off m new=some (one (L.take off++(new++L.drop (off+m)))):=by
  unfold stB
  rw[hdiv]
  show CZ (T.get (T.set T.e 0 L) 0) (stC new L.length 1 (T.set .e 0 L) off m)=_
  rw[T.BP]
  show stC new L.length 1 (T.set .e 0 L) off m L=_
  unfold stC
  rw[hmod,hdiv]
  have hlen:(L.take off++(new++L.drop (off+m))).length=L.length:=by simp;omega
  cases hc:band (Nat.beq m L.length) (Nat.beq off 0)with
  |true=>
   simp only[Bg,Bool.and_eq_true,beq_iff]at hc
   obtain⟨h1,h2⟩:=hc
   subst h2
   show some (S9.arr L.length 1 (T.set (T.set T.e 0 L) 0 new))=_
   unfold one
   rw[hlen]
   have:List.take 0 L++(new++List.drop (0+m) L)=new:=by simp[h1]
   rw[this];rfl
  |false=>
   have hf:Nat.ble (Nat.add off m) L.length=true:=by rw[Nat.ble_eq];exact hl
   rw[hf]
   show some (S9.arr L.length 1 (T.set (T.set T.e 0 L) 0 (AK7 new off L)))=_
   unfold one
   rw[hlen,AHG,hn];rfl
 rw[hs]
 rfl
theorem BH{F:T AF}{G:AX}{f:Nat}{af:AF}{s:SF}(hf:T.get F f=some af)(hs:AHN G af s){args:List V}{H:Heap}{n:Nat}{k:KV}(h:s (Runs F G) args H n k):Runs F G f args H n k:=
 AKq hf (hs _ _ (λ_ _ _ _ _ h=>h) (AAv F G) _ _ _ _ h)
def goN(x:X)(b:Bool)(d:uS)(o:AN):XpT:=λG _ R H n k=>BF (x.ev R) b (o.ev G R H) λv=>k (IL d v R) H n
def goA(x:X)(b:Bool)(d:uS)(o:AA):XpT:=λ_ _ R H n k=>I5 (x.ev R) b (Bh (o.al R) H n) H n λv H n=>k (IL d v R) H n
def goE(x:X)(b:Bool)(d:uS)(o:AE):XpT:=λG call R H n k=>I5 (x.ev R) b (o.ex G call R H n) H n λv H n=>k (IL d v R) H n
def AZF(x:X)(b:Bool)(d:uS)(o:AO):XpT:=AO.rec (motive:=λ_=>XpT) (goN x b d) (goA x b d) (goE x b d) o
def oAG(o:AA):XoT:=λ_ _ d R H n k=>Bh (o.al R) H n λv H n=>k (IL d v R) H n
def AO.exG(o:AO):XoT:=AO.rec (motive:=λ_=>XoT) oN oAG oE o
def AZh(d:uS)(o:AO):XpT:=λG call R H n k=>o.exG G call d R H n k
def AOp.exG(o:AOp):XpT:=AOp.rec (motive:=λ_=>XpT) (λd g o=>Gd.rec (motive:=λ_=>uS->AO->XpT) AZh AZF g d o) o
theorem AL8(o:AOp):o.exG=o.ex:=by
 obtain⟨d,g,o⟩:=o
 cases g<;>cases o<;>rfl
def AK6(l:List AOp):XpT:=
 List.rec (motive:=λ_=>XpT) (λ_ _ R H n k=>k R H n) (λo _ g G call R H n k=>o.exG G call R H n λR H n=>g G call R H n k) l
theorem ANO:∀l:List AOp,AK6 l=Tq l
 |[]=>rfl
 |o::l=>by
  show(λG call R H n k=>o.exG G call R H n λR H n=>AK6 l G call R H n k)=λG call R H n k=>o.ex G call R H n λR H n=>Tq l G call R H n k
  rw[ANO l,AL8]
def AXj(x:X)(b:Bool):ReT:=λG R H d o k=>ADV (x.ev R) b (o.ev G R H) (PD (T.FM d R.rg)) k
def AW6(g:Gd):ReT:=Gd.rec (motive:=λ_=>ReT) AYn AXj g
def AI.exG(i:AI):XpT:=AI.rec (motive:=λ_=>XpT) (λo=>o.exG) (λd g o G _ R H n k=>AW6 g G R H d o (k R H n)) i
theorem AU1(i:AI):i.exG=i.ex:=by
 cases i with
 |op o=>exact AL8 o
 |re d g o=>cases g<;>rfl
def AEf(l:List AI):XpT:=
 List.rec (motive:=λ_=>XpT) (λ_ _ R H n k=>k R H n) (λi _ g G call R H n k=>i.exG G call R H n λR H n=>g G call R H n k) l
theorem AGL:∀l:List AI,AEf l=DY l
 |[]=>rfl
 |o::l=>by
  show(λG call R H n k=>o.exG G call R H n λR H n=>AEf l G call R H n k)=λG call R H n k=>o.ex G call R H n λR H n=>DY l G call R H n k
  rw[AGL l,AU1]
def APp(l:List AOp):M:=λG call _ R H n k _ _=>AK6 l G call (.mk [] R) H n λE H n=>k E.rg H n
def APO(l:List AI):M:=λG call _ R H n k _ _=>AEf l G call (.mk [] R) H n λE H n=>k E.rg H n
def AC.exG(c:AC):M:=AC.rec (motive:=λ_=>M) APy APp APO AO8 AIz AEp AHw AOj AUZ c
theorem zC:∀c:AC,c.exG=c.exL
 |.skip=>rfl
 |.ops l=>by show APp l=ATO l;unfold APp ATO;rw[ANO]
 |.reg l=>by show APO l=AS9 l;unfold APO AS9;rw[AGL]
 |.seq a b=>by show AO8 a b a.exG b.exG=AO8 a b a.exL b.exL;rw[zC a,zC b]
 |.cond x a b=>by show AIz x a b a.exG b.exG=AIz x a b a.exL b.exL;rw[zC a,zC b]
 |.block i a=>by show AEp i a a.exG=AEp i a a.exL;rw[zC a]
 |.loop a=>by show AHw a a.exG=AHw a a.exL;rw[zC a]
 |.exit i=>rfl
 |.ret=>rfl
inductive An:Type 1 where
 |n
 |s (a b:An)
 |j (S:K) (a b:An)
 |c (a b:An)
 |b (a:An)
 |l (σ:Type) (bd:(σ->Prop)->σ->Prop) (st:LW->Heap->Nat->σ) (a:(σ->Prop)->An)
abbrev M2:=AC->AX->BG->LW->Heap->Nat->K->KX->K->Prop
def AC.AJA(c:AC)(f:AC->AC->Prop):Prop:=AC.rec (motive:=λ_=>Prop) False (λ_=>False) (λ_=>False) (λa b _ _=>f a b) (λ_ _ _ _ _=>False) (λ_ _ _=>False) (λ_ _=>False) (λ_=>False) False c
def AC.AK4(c:AC)(f:X->AC->AC->Prop):Prop:=AC.rec (motive:=λ_=>Prop) False (λ_=>False) (λ_=>False) (λ_ _ _ _=>False) (λx a b _ _=>f x a b) (λ_ _ _=>False) (λ_ _=>False) (λ_=>False) False c
def AC.AHs(c:AC)(f:Nat->AC->Prop):Prop:=AC.rec (motive:=λ_=>Prop) False (λ_=>False) (λ_=>False) (λ_ _ _ _=>False) (λ_ _ _ _ _=>False) (λi a _=>f i a) (λ_ _=>False) (λ_=>False) False c
def AC.ALU(c:AC)(f:AC->Prop):Prop:=AC.rec (motive:=λ_=>Prop) False (λ_=>False) (λ_=>False) (λ_ _ _ _=>False) (λ_ _ _ _ _=>False) (λ_ _ _=>False) (λa _=>f a) (λ_=>False) False c
def An.ex(L:He)(an:An):M2:=
 An.rec (motive:=λ_=>M2)
  (λc G call R H n k x r=>c.exG G call 0 R H n k x r)
  (λ_ _ ga gb c G call R H n k x r=>c.AJA λa b=>ga a G call R H n (λR H n=>gb b G call R H n k x r) x r)
  (λS _ _ ga _ c G call R H n _ x r=>c.AJA λa _=>ga a G call R H n S x r)
  (λ_ _ ga gb c G call R H n k x r=>c.AK4 λy a b=>Ae (y.ev (.mk [] R)) true (ga a G call R H n k x r) (gb b G call R H n k x r))
  (λ_ ga c G call R H n k x r=>c.AHs λi a=>ga a G call R H n k (Jf i k x) r)
  (fun σ bd st _ _ c _ _ R H n _ _ _=>c.ALU λ_=>L σ bd (st R H n)) an
abbrev M3:=AC->AX->BG->K->KX->K->Prop
def An.ob(L:He)(an:An):M3:=
 An.rec (motive:=λ_=>M3)
  (λ_ _ _ _ _ _=>True)
  (λ_ b ga gb c G call k x r=>c.AJA λa d=>ga a G call (λR H n=>b.ex L d G call R H n k x r) x r/\gb d G call k x r)
  (λS _ b ga gb c G call k x r=>c.AJA λa d=>ga a G call S x r/\(∀R H n,S R H n=b.ex L d G call R H n k x r)/\gb d G call k x r)
  (λ_ _ ga gb c G call k x r=>c.AK4 λ_ a b=>ga a G call k x r/\gb b G call k x r)
  (λ_ ga c G call k x r=>c.AHs λi a=>ga a G call k (Jf i k x) r)
  (fun σ bd st a ga c G call _ x r=>c.ALU λd=>∀ih:σ->Prop,(∀R H n,bd ih (st R H n)=(a ih).ex L d G call R H n (λR H n=>ih (st R H n)) x r)/\ga ih d G call (λR H n=>ih (st R H n)) x r) an
def AC.AO7(c:AC)(f:AC->AC->Prop):Prop:=AC.rec (motive:=λ_=>Prop) True (λ_=>True) (λ_=>True) (λa b _ _=>f a b) (λ_ _ _ _ _=>True) (λ_ _ _=>True) (λ_ _=>True) (λ_=>True) True c
def AC.ARi(c:AC)(f:X->AC->AC->Prop):Prop:=AC.rec (motive:=λ_=>Prop) True (λ_=>True) (λ_=>True) (λ_ _ _ _=>True) (λx a b _ _=>f x a b) (λ_ _ _=>True) (λ_ _=>True) (λ_=>True) True c
def AC.AP6(c:AC)(f:Nat->AC->Prop):Prop:=AC.rec (motive:=λ_=>Prop) True (λ_=>True) (λ_=>True) (λ_ _ _ _=>True) (λ_ _ _ _ _=>True) (λi a _=>f i a) (λ_ _=>True) (λ_=>True) True c
def AC.ASm(c:AC)(f:AC->Prop):Prop:=AC.rec (motive:=λ_=>Prop) True (λ_=>True) (λ_=>True) (λ_ _ _ _=>True) (λ_ _ _ _ _=>True) (λ_ _ _=>True) (λa _=>f a) (λ_=>True) True c
def An.obR(L:He)(an:An):M3:=
 An.rec (motive:=λ_=>M3)
  (λ_ _ _ _ _ _=>True)
  (λ_ b ga gb c G call k x r=>c.AO7 λa d=>ga a G call (λR H n=>b.ex L d G call R H n k x r) x r/\gb d G call k x r)
  (λS _ b ga gb c G call k x r=>c.AO7 λa d=>ga a G call S x r/\(∀R H n,S R H n=S R H n)/\gb d G call k x r)
  (λ_ _ ga gb c G call k x r=>c.ARi λ_ a b=>ga a G call k x r/\gb b G call k x r)
  (λ_ ga c G call k x r=>c.AP6 λi a=>ga a G call k (Jf i k x) r)
  (fun σ bd st a ga c G call _ x r=>c.ASm λd=>∀ih:σ->Prop,(∀R H n,bd ih (st R H n)=bd ih (st R H n))/\ga ih d G call (λR H n=>ih (st R H n)) x r) an
theorem An.AVW(L:He)(an:An):∀c G call k x r,an.obR L c G call k x r:=by
 induction an with
 |n=>exact λ_ _ _ _ _ _=>trivial
 |s a b iha ihb=>intro c;cases c<;>first|exact λ_ _ _ _ _=>trivial|exact λG call k x r=>⟨iha _ _ _ _ _ _,ihb _ _ _ _ _ _⟩
 |j S a b iha ihb=>intro c;cases c<;>first|exact λ_ _ _ _ _=>trivial|exact λG call k x r=>⟨iha _ _ _ _ _ _,λ_ _ _=>rfl,ihb _ _ _ _ _ _⟩
 |c a b iha ihb=>intro c;cases c<;>first|exact λ_ _ _ _ _=>trivial|exact λG call k x r=>⟨iha _ _ _ _ _ _,ihb _ _ _ _ _ _⟩
 |b a iha=>intro c;cases c<;>first|exact λ_ _ _ _ _=>trivial|exact λG call k x r=>iha _ _ _ _ _ _
 |l σ bd st a iha=>intro c;cases c<;>first|exact λ_ _ _ _ _=>trivial|exact λG call k x r ih=>⟨λ_ _ _=>rfl,iha ih _ _ _ _ _ _⟩
theorem AGl{c:AC}{f:AC->AC->Prop}(h:c.AJA f):∃a b,c=.seq a b/\f a b:=by
 cases c<;>first|exact⟨_,_,rfl,h⟩|exact(show False from h).elim
theorem ALI{c:AC}{f:X->AC->AC->Prop}(h:c.AK4 f):∃x a b,c=.cond x a b/\f x a b:=by
 cases c<;>first|exact⟨_,_,_,rfl,h⟩|exact(show False from h).elim
theorem AKE{c:AC}{f:Nat->AC->Prop}(h:c.AHs f):∃i a,c=.block i a/\f i a:=by
 cases c<;>first|exact⟨_,_,rfl,h⟩|exact(show False from h).elim
theorem ALk{c:AC}{f:AC->Prop}(h:c.ALU f):∃a,c=.loop a/\f a:=by
 cases c<;>first|exact⟨_,rfl,h⟩|exact(show False from h).elim
section
variable{G:AX}{call callE:BG}
theorem ASZ{c:AC}{R:LW}{H:Heap}{n:Nat}{k:K}{x:KX}{r:K}(h:c.exG G call 0 R H n k x r):c.exL G call 0 R H n k x r:=by rwa [zC]at h
theorem zG(hle:WE call callE)(hd:Il callE):∀(c:AC) (R:LW) (H:Heap) (n:Nat) (k k':K) (x x':KX) (r r':K),(∀R H n,k R H n->k' R H n)->(∀i R H n,x i R H n->x' i R H n)->(∀R H n,r R H n->r' R H n)->
 c.exL G call 0 R H n k x r->c.exL G callE 0 R H n k' x' r'
 |.skip,R,H,n,k,k',x,x',r,r',hk,hx,hr,h=>hk _ _ _ h
 |.ops l,R,H,n,k,k',x,x',r,r',hk,hx,hr,h=>AQc hd l _ H n (λE H n h=>hk _ _ _ h) (AKp hd hle G l _ H n _ h)
 |.reg l,R,H,n,k,k',x,x',r,r',hk,hx,hr,h=>AKX hd l _ H n (λE H n h=>hk _ _ _ h) (AEx hd hle G l _ H n _ h)
 |.seq a b,R,H,n,k,k',x,x',r,r',hk,hx,hr,h=>zG hle hd a R H n _ _ x x' r r' (λR H n h=>zG hle hd b R H n k k' x x' r r' hk hx hr h) hx hr h
 |.cond c a b,R,H,n,k,k',x,x',r,r',hk,hx,hr,h=>by
  have h':Ae (c.ev (.mk [] R)) true (a.exL G call 0 R H n k x r) (b.exL G call 0 R H n k x r):=h
  show Ae (c.ev (.mk [] R)) true (a.exL G callE 0 R H n k' x' r') (b.exL G callE 0 R H n k' x' r')
  exact AEY h' (zG hle hd a R H n k k' x x' r r' hk hx hr) (zG hle hd b R H n k k' x x' r r' hk hx hr)
 |.block id a,R,H,n,k,k',x,x',r,r',hk,hx,hr,h=>by
  refine zG hle hd a R H n k k' (Jf id k x) (Jf id k' x') r r' hk (λi R H n h=>?_) hr h
  unfold Jf at h⊢
  cases hb:Nat.beq i id with
  |true=>rw[hb]at h;exact hk _ _ _ h
  |false=>rw[hb]at h;exact hx _ _ _ _ h
 |.loop a,R,H,n,k,k',x,x',r,r',hk,hx,hr,h=>by
  intro I hI
  exact h I λR H n hb=>hI R H n (zG hle hd a R H n I I x x' r r' (λ_ _ _ h=>h) hx hr hb)
 |.exit i,R,H,n,k,k',x,x',r,r',hk,hx,hr,h=>hx _ _ _ _ h
 |.ret,R,H,n,k,k',x,x',r,r',hk,hx,hr,h=>hr _ _ _ h
theorem An.ok{L:He}(hL:Eb L)(hle:WE call callE)(hd:Il callE)(an:An):∀(c:AC) (k k':K) (x x':KX) (r r':K),(∀R H n,k R H n->k' R H n)->(∀i R H n,x i R H n->x' i R H n)->(∀R H n,r R H n->r' R H n)->
 an.ob L c G call k x r->∀R H n,an.ex L c G call R H n k x r->c.exL G callE 0 R H n k' x' r':=by
 induction an with
 |n=>exact λc k k' x x' r r' hk hx hr _ R H n h=>zG hle hd c R H n k k' x x' r r' hk hx hr (ASZ h)
 |s a b iha ihb=>
  intro c k k' x x' r r' hk hx hr ho R H n h
  obtain⟨c1,c2,rfl,ho⟩:=AGl ho
  exact iha c1 _ _ x x' r r' (λR H n h=>ihb c2 k k' x x' r r' hk hx hr ho.2 R H n h) hx hr ho.1 R H n h
 |j S a b iha ihb=>
  intro c k k' x x' r r' hk hx hr ho R H n h
  obtain⟨c1,c2,rfl,ho⟩:=AGl ho
  exact iha c1 S (λR H n=>c2.exL G callE 0 R H n k' x' r') x x' r r' (λR H n h=>ihb c2 k k' x x' r r' hk hx hr ho.2.2 R H n (ho.2.1 R H n▸h)) hx hr ho.1 R H n h
 |c a b iha ihb=>
  intro c k k' x x' r r' hk hx hr ho R H n h
  obtain⟨y,c1,c2,rfl,ho⟩:=ALI ho
  exact AEY (P':=c1.exL G callE 0 R H n k' x' r') (Q':=c2.exL G callE 0 R H n k' x' r') h (λh=>iha c1 k k' x x' r r' hk hx hr ho.1 R H n h) (λh=>ihb c2 k k' x x' r r' hk hx hr ho.2 R H n h)
 |b a iha=>
  intro c k k' x x' r r' hk hx hr ho R H n h
  obtain⟨i,c1,rfl,ho⟩:=AKE ho
  refine iha c1 k k' (Jf i k x) (Jf i k' x') r r' hk (λj R H n h=>?_) hr ho R H n h
  unfold Jf at h⊢
  cases hb:Nat.beq j i with
  |true=>rw[hb]at h;exact hk _ _ _ h
  |false=>rw[hb]at h;exact hx _ _ _ _ h
 |l σ bd st a iha=>
  intro c k k' x x' r r' hk hx hr ho R H n h
  obtain⟨c1,rfl,ho⟩:=ALk ho
  intro I hI
  have h':L σ bd (st R H n):=h
  refine hL σ bd (λs=>∀R H n,st R H n=s->I R H n) (λih hih s hs R H n e=>?_) _ h' R H n rfl
  subst e
  rw[(ho ih).1]at hs
  exact hI R H n (iha ih c1 (λR H n=>ih (st R H n)) I x x' r r' (λR H n h=>hih _ h R H n rfl) hx hr (ho ih).2 R H n hs)
end
def fEx(L:He)(an:An)(af:AF)(G:AX)(call:BG)(args:List V)(H:Heap)(n:Nat)(k:KV):Prop:=
 AF.rec (motive:=λ_=>Prop) (λnp code res d dg=>ER (Nat.beq (len args) np) (an.ex L code G call (lJ args 0 .e) H n (Lj res dg d G call k) noX (Lj res dg d G call k))) (λf=>y9 f G args H n k) af
def fOb(L:He)(an:An)(af:AF)(G:AX)(call:BG)(k:KV):Prop:=
 AF.rec (motive:=λ_=>Prop) (λ_ code res d dg=>an.ob L code G call (Lj res dg d G call k) noX (Lj res dg d G call k)) (λ_=>True) af
def AZk(L:He)(an:An)(af:AF)(G:AX)(call:BG)(k:KV):Prop:=
 AF.rec (motive:=λ_=>Prop) (λ_ code res d dg=>an.obR L code G call (Lj res dg d G call k) noX (Lj res dg d G call k)) (λ_=>True) af
theorem obs{L:He}{an:An}{af:AF}{G:AX}{call:BG}{k:KV}(h:AZk L an af G call k=fOb L an af G call k):fOb L an af G call k:=by
 rw[<-h];cases af with
 |mk=>exact An.AVW ..
 |nat=>exact trivial
theorem AAb{L:He}(hL:Eb L){G:AX}{call callE:BG}(hle:WE call callE)(hd:Il callE){an:An}{af:AF}{args:List V}{H:Heap}{n:Nat}{k:KV}(ho:fOb L an af G call k)(h:fEx L an af G call args H n k):AKT af G callE args H n k:=by
 cases af with
 |nat=>exact h
 |mk np code res d dg=>
 have h':ER (Nat.beq (len args) np) (an.ex L code G call (lJ args 0 .e) H n (Lj res dg d G call k) noX (Lj res dg d G call k)):=h
 show ER (Nat.beq (len args) np) (code.exL G callE 0 (lJ args 0 .e) H n (Lj res dg d G callE k) noX (Lj res dg d G callE k))
 rw[II]at h'⊢
 exact⟨h'.1,An.ok hL hle hd an code _ _ _ _ _ _ (λR H n h=>kC hd hle res dg d G k R H n h) (λ_ _ _ _ h=>h) (λR H n h=>kC hd hle res dg d G k R H n h) ho _ _ _ h'.2⟩
section
variable{L:He}(hL:Eb L){G:AX}{af:AF}{an:BG->KV->An}(ho:∀call k,fOb L (an call k) af G call k)
include hL ho
theorem sf0{s:BG->Heap->Nat->KV->Prop}(h:∀call H n k,s call H n k=fEx L (an call k) af G call [] H n k):AHN G af (ar0 s):=λcall callE hle hd l H n k hs=>by
 obtain⟨rfl,hs⟩:=AMe hs;exact AAb hL hle hd (ho call k) (h .. ▸hs)
theorem sf1{s:BG->V->Heap->Nat->KV->Prop}(h:∀call a0 H n k,s call a0 H n k=fEx L (an call k) af G call [a0] H n k):AHN G af (mO s):=λcall callE hle hd l H n k hs=>by
 obtain⟨a0,rfl,hs⟩:=ANJ hs;exact AAb hL hle hd (ho call k) (h .. ▸hs)
theorem mP{s:BG->V->V->Heap->Nat->KV->Prop}(h:∀call a0 a1 H n k,s call a0 a1 H n k=fEx L (an call k) af G call [a0,a1] H n k):AHN G af (N7 s):=λcall callE hle hd l H n k hs=>by
 obtain⟨a0,a1,rfl,hs⟩:=AMn hs;exact AAb hL hle hd (ho call k) (h .. ▸hs)
theorem sf3{s:BG->V->V->V->Heap->Nat->KV->Prop}(h:∀call a0 a1 a2 H n k,s call a0 a1 a2 H n k=fEx L (an call k) af G call [a0,a1,a2] H n k):AHN G af (ar3 s):=λcall callE hle hd l H n k hs=>by
 obtain⟨a0,a1,a2,rfl,hs⟩:=AMB hs;exact AAb hL hle hd (ho call k) (h .. ▸hs)
theorem sf4{s:BG->V->V->V->V->Heap->Nat->KV->Prop}(h:∀call a0 a1 a2 a3 H n k,s call a0 a1 a2 a3 H n k=fEx L (an call k) af G call [a0,a1,a2,a3] H n k):AHN G af (ar4 s):=λcall callE hle hd l H n k hs=>by
 obtain⟨a0,a1,a2,a3,rfl,hs⟩:=AMl hs;exact AAb hL hle hd (ho call k) (h .. ▸hs)
theorem sf5{s:BG->V->V->V->V->V->Heap->Nat->KV->Prop}(h:∀call a0 a1 a2 a3 a4 H n k,s call a0 a1 a2 a3 a4 H n k=fEx L (an call k) af G call [a0,a1,a2,a3,a4] H n k):AHN G af (ar5 s):=λcall callE hle hd l H n k hs=>by
 obtain⟨a0,a1,a2,a3,a4,rfl,hs⟩:=AMq hs;exact AAb hL hle hd (ho call k) (h .. ▸hs)
theorem sf6{s:BG->V->V->V->V->V->V->Heap->Nat->KV->Prop}(h:∀call a0 a1 a2 a3 a4 a5 H n k,s call a0 a1 a2 a3 a4 a5 H n k=fEx L (an call k) af G call [a0,a1,a2,a3,a4,a5] H n k):AHN G af (ar6 s):=λcall callE hle hd l H n k hs=>by
 obtain⟨a0,a1,a2,a3,a4,a5,rfl,hs⟩:=ARV hs;exact AAb hL hle hd (ho call k) (h .. ▸hs)
end
def inR(l:List (Nat×Nat))(t:Nat):Bool:=l.any λp=>Nat.ble p.1 t&&Nat.ble t p.2
def qO(l:List Nat):List (Nat×Wk):=l.map λj=>(j,.plain)
def Nu(n:Nat):List (Nat×Wk):=qO (List.range n)
def BA(o:Option AF):AF:=o.getD (.mk 0 .skip [] .no 0)
theorem Ac{o:Option AF}(h:o.isSome=true):o=some (BA o):=by
 cases o with
 |none=>cases h
 |some a=>rfl
theorem zT.one{P:Program}{F:T AF}{f:Nat}{af:AF}{fn:Func}{loc:Nat->Bool}{df:Bool}{ords:AJq}{dg:Nat}(hf:P.funcs[f]? =some fn)(hn:(fn.name== "runtime.NumGoroutine")=false)
 (ht:trF P loc df ords dg fn=some af) (hd:af.dg=dg) (hi:ALb af.dp=true):zT P F f af:=.code ⟨⟨fn,loc,df,ords,hf,hn,hd▸ht⟩,.inl hi⟩
theorem zT.two{P:Program}{F:T AF}{f:Nat}{af af':AF}{fn:Func}{loc:Nat->Bool}{df:Bool}{ords:AJq}{dg:Nat}(hf:P.funcs[f]? =some fn)(hn:(fn.name== "runtime.NumGoroutine")=false)
 (ht:trF P loc df ords dg fn=some af) (hd:af.dg=dg) (ha:T.get F dg=some af') (hi:ALb af'.dp=true):zT P F f af:=.code ⟨⟨fn,loc,df,ords,hf,hn,hd▸ht⟩,.inr ⟨af',hd▸ha,hi⟩⟩
end Go.DW
namespace Go.DW
theorem AX1(x y:Int):B2.ev .lss (.int .i64 x 0) (.int .i64 y 0)=some (.bool (decide (x<y))):=by
 show mkB (ilt x y)=_
 rw[bT,cu]
theorem AUA(x y:Int):EN (.one .int) true (.int .i64 x 0) (.int .i64 y 0)=some (.bool (!(x==y))):=by
 show ofB (Va (some (ieq x y)) λb=>some (TM b))=_
 rw[jQ];cases x==y<;>rfl
theorem AJT(x:Int):EN (.one .int) true (.int .i64 x 0) (.int .i64 x 0)=some (.bool false):=by rw[AUA];simp
theorem wrap64(a:Int):IntKind.wrap .i64 a=if 9223372036854775808<=a%18446744073709551616 then a%18446744073709551616-18446744073709551616 else a%18446744073709551616:=by
 show(if(true&&decide (a%18446744073709551616≥9223372036854775808))=true then a%18446744073709551616-18446744073709551616 else a%18446744073709551616)=_
 by_cases h:9223372036854775808<=a%18446744073709551616
 ·rw[if_pos h,if_pos (by simpa using h)]
 ·rw[if_neg h,if_neg (by simpa using h)]
theorem ay{x:Int}(h1: -9223372036854775808<=x)(h2:x<9223372036854775808):IntKind.wrap .i64 x=x:=by
 rw[wrap64];split<;>omega
end Go.DW
