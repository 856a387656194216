/- Part of a proof; nothing is assumed. -/
import Derived.Test.YtmbhlmocojopaaaGreatDoorEngE
set_option linter.unusedVariables false
set_option linter.unusedSimpArgs false
noncomputable section
namespace Go.DW
def P2.beq(p:P2):P2->Bool:=
 P2.rec (motive:=λ_=>P2->Bool) (λq=>P2.rec (motive:=λ_=>Bool) true (λ_ _=>false) (λ_ _=>false) q)
  (λ_ g q=>P2.rec (motive:=λ_=>Bool) false (λq _=>g q) (λ_ _=>false) q)
  (λ_ g q=>P2.rec (motive:=λ_=>Bool) false (λ_ _=>false) (λq _=>g q) q) p
theorem P2.AEj:∀p:P2,P2.beq p p=true
 |.h=>rfl
 |.z p=>P2.AEj p
 |.o p=>P2.AEj p
abbrev rg(R:LW)(p:P2):V:=PD (T.FN p R)
theorem ne{R:LW}{p q:P2}{v a:V}(hb:P2.beq q p=false)(h:rg R p=a):rg (T.fB v q R) p=a:=by
 show PD (T.FN p (T.fB v q R))=a
 rw[T.J3 _ _ _ _ (λe=>by subst e;rw[P2.AEj]at hb;cases hb)]
 exact h
abbrev He:=(σ:Type)->((σ->Prop)->σ->Prop)->σ->Prop
def Eb(L:He):Prop:=∀(σ:Type) (b:(σ->Prop)->σ->Prop) (P:σ->Prop),(∀ih,(∀s,ih s->P s)->∀s,b ih s->P s)->∀s,L σ b s->P s
def lfp:He:=fun σ b s=>∀I:σ->Prop,(∀s,b I s->I s)->I s
theorem BI:Eb lfp:=λ_ _ P h _ hL=>hL P (h P λ_ h=>h)
def E0:RS:=.mk [] .e
def CQ(c a b:V):Option V:=c.wG λt=>ACn t (some a) (some b)
def AY(a:V)(G:AX)(H:Heap):Option V:=XT (ldP a G H 1) λL=>nth L 0
def Ag(n:Nat)(a:V)(G:AX)(H:Heap):Option V:=XT (ldP a G H n) λL=>some (.agg L)
def QJ(a:V):Option V:=a.wG λb=>mkB (TK b)
def ASo(k:IntKind)(a:V):Option V:=a.Kv λ_ n s=>mkI k n s
def AQn(a i:V):Option V:=a.WZ λln c=>Z5 i λi=>CG (Nat.blt i ln) (Et (AQD c i) λb=>some (.int .u8 (.ofNat b) 0))
def KI(a:V)(i:Nat):Option V:=a.AJx λl=>nth l i
def wE(a:V):Option V:=a.WZ λn _=>some (.int .i64 (.ofNat n) 0)
def AP5(c:CK)(ok:Bool)(z m k:V)(H:Heap):Option V:=Ug H m λes _=>Cb (tJ c k es 0) (AMt ok z)
def Dv(z:LV)(ps:List (Nat×Nat×X)):Option V:=CG (nR ps E0) (some (.agg (ADC ps E0 z)))
def AVd(a:V)(G:AX)(H:Heap):Option V:=CG (TK (isStr a)) (Cb (elems a G H 1) λl=>Cb (yg l) λc=>f3 (len l) c 0 λn c _=>.str n c)
def Eo(v:V)(k:KA):Prop:=ER (jZ v) (FT (len (Ba v)) λe=>k (.arr e 1 (T.set .e 0 (Ba v))) λid=>.ptr id 0)
def Bv(sz:Nat)(a b:V)(H:Heap)(n:Nat)(k:KV):Prop:=ER (band (jZ b) (Nat.beq (len (Ba b)) sz)) (Ei (stP a H sz (Ba b)) λH=>k .undef H n)
def Rk(esz bs:Nat)(a b:V)(G:AX)(H:Heap)(n:Nat)(k:KV):Prop:=Ei (elems b G H esz) λLS=>AHK a G esz bs LS H n k
def AVD(c:CK)(m key v:V)(H:Heap)(n:Nat)(k:KV):Prop:=AFp m H (AKZ c key v) λH=>k .undef H n
def Ej(x:V)(args:List V)(call:BG)(H:Heap)(n:Nat)(k:KV):Prop:=V.ZO x λf a c=>call f (cat a (cat args c)) H n k
def BF(c:V)(b:Bool)(e:Option V)(P:V->Prop):Prop:=qy c b (AP e P) (P (.Io []))
def Bh(al:KA->Prop)(H:Heap)(n:Nat)(P:KV):Prop:=al λb f=>FT n λn=>P (f n) (T.set H n b) (Nat.succ n)
def Iy(c:V)(b:Bool)(t:KV->Prop)(H:Heap)(n:Nat)(P:KV):Prop:=qy c b (t P) (P (.Io []) H n)
inductive AVr where
 |t (v:V)|c1 (v:V)|cn (v:V) (n:Nat)
def AVr.get(r:AVr)(G:AX)(H:Heap):Option V:=AVr.rec (λv=>some v) (λv=>AY v G H) (λv n=>Ag n v G H) r
def BO(l:List AVr)(G:AX)(H:Heap):Option LV:=
 List.rec (motive:=λ_=>Option LV) (some []) (λr _ g=>Cb (r.get G H) λv=>Cb g λvs=>some (v::vs)) l
section
variable{E:RS}{G:AX}{H:Heap}{n:Nat}{x y z w:X}{a b c d:V}
variable{call:BG}
end
section
variable{L:List V}{R:LW}{G:AX}{call:BG}{H:Heap}{n:Nat}{a b:V}
end
def ADV(c:V)(b:Bool)(e:Option V)(a:V)(P:Prop):Prop:=qy c b (AP e λv=>ER (Aw v a) P) P
def kR(k:K):KE:=λE H n=>k E.rg H n
theorem AFO{v:V}{b:Bool}{P Q P' Q':Prop}(h:Ae v b P Q)(hp:P->P')(hq:Q->Q'):Ae v b P' Q':=by
 rw[bC]at h⊢
 obtain⟨t,ht,h⟩:=h
 refine⟨t,ht,?_⟩
 split
 ·rename_i e;rw[if_pos e]at h;exact hp h
 ·rename_i e;rw[if_neg e]at h;exact hq h
section
variable{G:AX}{call callE:BG}
section
variable{L:List V}{R:LW}{H:Heap}{n:Nat}{l:List AOp}{k:KE}{p:P2}{x:X}{b:Bool}{c a:V}
end
section
variable{L:List V}{R:LW}{H:Heap}{n:Nat}{l:List AI}{k:KE}{p:P2}{x:X}{b:Bool}{c a:V}
theorem i0{K:K}(h:K R H n):DY [] G callE (.mk L R) H n (kR K):=h
end
section
variable{R:LW}{H:Heap}{n:Nat}{k:K}{x:KX}{r:K}{a b:AC}
end
section
variable{res rs:List AR}{dg:Nat}{R:LW}{H:Heap}{n:Nat}{k:KV}{l:LV}{p:P2}{a:V}{vs:List AVr}
end
end
abbrev SF:=BG->List V->Heap->Nat->KV->Prop
def ar0(s:BG->Heap->Nat->KV->Prop):SF:=λcall l H n k=>List.rec (motive:=λ_=>Prop) (s call H n k) (λ_ _ _=>False) l
def mM(s:BG->V->Heap->Nat->KV->Prop):SF:=λcall l H n k=>List.rec (motive:=λ_=>Prop) False (λa l _=>ar0 (λcall=>s call a) call l H n k) l
def N8(s:BG->V->V->Heap->Nat->KV->Prop):SF:=λcall l H n k=>List.rec (motive:=λ_=>Prop) False (λa l _=>mM (λcall=>s call a) call l H n k) l
def ar3(s:BG->V->V->V->Heap->Nat->KV->Prop):SF:=λcall l H n k=>List.rec (motive:=λ_=>Prop) False (λa l _=>N8 (λcall=>s call a) call l H n k) l
def ar4(s:BG->V->V->V->V->Heap->Nat->KV->Prop):SF:=λcall l H n k=>List.rec (motive:=λ_=>Prop) False (λa l _=>ar3 (λcall=>s call a) call l H n k) l
def ar5(s:BG->V->V->V->V->V->Heap->Nat->KV->Prop):SF:=λcall l H n k=>List.rec (motive:=λ_=>Prop) False (λa l _=>ar4 (λcall=>s call a) call l H n k) l
def ar6(s:BG->V->V->V->V->V->V->Heap->Nat->KV->Prop):SF:=λcall l H n k=>List.rec (motive:=λ_=>Prop) False (λa l _=>ar5 (λcall=>s call a) call l H n k) l
theorem AMN{s:BG->Heap->Nat->KV->Prop}{call:BG}{l:List V}{H:Heap}{n:Nat}{k:KV}(h:ar0 s call l H n k):l=[]/\s call H n k:=by
 cases l with
 |nil=>exact⟨rfl,h⟩
 |cons=>exact(show False from h).elim
theorem AMx{s:BG->V->Heap->Nat->KV->Prop}{call:BG}{l:List V}{H:Heap}{n:Nat}{k:KV}(h:mM s call l H n k):∃a0,l=[a0]/\s call a0 H n k:=by
 cases l with
 |nil=>exact(show False from h).elim
 |cons a l=>
  obtain⟨rfl,h⟩:=AMN (show ar0 (λcall=>s call a) call l H n k from h)
  exact⟨a,rfl,h⟩
theorem ANC{s:BG->V->V->Heap->Nat->KV->Prop}{call:BG}{l:List V}{H:Heap}{n:Nat}{k:KV}(h:N8 s call l H n k):∃a0 a1,l=[a0,a1]/\s call a0 a1 H n k:=by
 cases l with
 |nil=>exact(show False from h).elim
 |cons a l=>
  obtain⟨b0,rfl,h⟩:=AMx (show mM (λcall=>s call a) call l H n k from h)
  exact⟨a,b0,rfl,h⟩
theorem AM7{s:BG->V->V->V->Heap->Nat->KV->Prop}{call:BG}{l:List V}{H:Heap}{n:Nat}{k:KV}(h:ar3 s call l H n k):∃a0 a1 a2,l=[a0,a1,a2]/\s call a0 a1 a2 H n k:=by
 cases l with
 |nil=>exact(show False from h).elim
 |cons a l=>
  obtain⟨b0,b1,rfl,h⟩:=ANC (show N8 (λcall=>s call a) call l H n k from h)
  exact⟨a,b0,b1,rfl,h⟩
theorem AM1{s:BG->V->V->V->V->Heap->Nat->KV->Prop}{call:BG}{l:List V}{H:Heap}{n:Nat}{k:KV}(h:ar4 s call l H n k):∃a0 a1 a2 a3,l=[a0,a1,a2,a3]/\s call a0 a1 a2 a3 H n k:=by
 cases l with
 |nil=>exact(show False from h).elim
 |cons a l=>
  obtain⟨b0,b1,b2,rfl,h⟩:=AM7 (show ar3 (λcall=>s call a) call l H n k from h)
  exact⟨a,b0,b1,b2,rfl,h⟩
theorem ANB{s:BG->V->V->V->V->V->Heap->Nat->KV->Prop}{call:BG}{l:List V}{H:Heap}{n:Nat}{k:KV}(h:ar5 s call l H n k):∃a0 a1 a2 a3 a4,l=[a0,a1,a2,a3,a4]/\s call a0 a1 a2 a3 a4 H n k:=by
 cases l with
 |nil=>exact(show False from h).elim
 |cons a l=>
  obtain⟨b0,b1,b2,b3,rfl,h⟩:=AM1 (show ar4 (λcall=>s call a) call l H n k from h)
  exact⟨a,b0,b1,b2,b3,rfl,h⟩
theorem ARz{s:BG->V->V->V->V->V->V->Heap->Nat->KV->Prop}{call:BG}{l:List V}{H:Heap}{n:Nat}{k:KV}(h:ar6 s call l H n k):∃a0 a1 a2 a3 a4 a5,l=[a0,a1,a2,a3,a4,a5]/\s call a0 a1 a2 a3 a4 a5 H n k:=by
 cases l with
 |nil=>exact(show False from h).elim
 |cons a l=>
  obtain⟨b0,b1,b2,b3,b4,rfl,h⟩:=ANB (show ar5 (λcall=>s call a) call l H n k from h)
  exact⟨a,b0,b1,b2,b3,b4,rfl,h⟩
def AHn(G:AX)(af:AF)(s:SF):Prop:=∀call callE,V9 call callE->Il callE->∀args H n k,s call args H n k->ALo af G callE args H n k
section
variable{E:RS}{G:AX}{H:Heap}{x:X}{a:Int}
end
@[congr] theorem AWY{o o':Option V}(f:V->Prop)(h:o=o'):AP o f=AP o' f:=by rw[h]
@[congr] theorem AWJ{α:Type}{o o':Option α}(f:α->Prop)(h:o=o'):Ei o f=Ei o' f:=by rw[h]
@[congr] theorem AWK{b b':Bool}(p:Prop)(h:b=b'):ER b p=ER b' p:=by rw[h]
@[congr] theorem ATx{v v':V}(b:Bool)(p q:Prop)(h:v=v'):Ae v b p q=Ae v' b p q:=by rw[h]
@[congr] theorem AWH{c c':V}{b:Bool}{e:Option V}(f:V->Prop)(h:c=c'):BF c b e f=BF c' b e f:=by rw[h]
@[congr] theorem AVM{c c':V}{b:Bool}{t:KV->Prop}{H:Heap}{n:Nat}(f:KV)(h:c=c'):Iy c b t H n f=Iy c' b t H n f:=by rw[h]
@[congr] theorem AUT(F:T AF)(G:AX)(f:Nat){a a':List V}{H H':Heap}{n n':Nat}(k:KV)(h0:a=a')(h1:H=H')(h2:n=n'):Runs F G f a H n k=Runs F G f a' H' n' k:=by rw[h0,h1,h2]
theorem AQ(v:V)(f:V->Prop):AP (some v) f=f v:=rfl
theorem dK{α:Type}(v:α)(f:α->Prop):Ei (some v) f=f v:=rfl
theorem qO(p:Prop):ER true p=p:=rfl
theorem Ar(p q:Prop):Ae (.bool true) true p q=p:=rfl
theorem Aj(p q:Prop):Ae (.bool false) true p q=q:=rfl
theorem ATZ(e:Option V)(f:V->Prop):BF (.bool true) true e f=AP e f:=rfl
theorem AUP(e:Option V)(f:V->Prop):BF (.bool false) false e f=AP e f:=rfl
theorem AYT(e:Option V)(f:V->Prop):BF (.bool true) false e f=f (.Io []):=rfl
theorem AWs(e:Option V)(f:V->Prop):BF (.bool false) true e f=f (.Io []):=rfl
theorem AZN(b:Bool)(e:Option V)(f:V->Prop):BF (.Io []) b e f=f (.Io []):=rfl
theorem AXq(t:KV->Prop)(H:Heap)(n:Nat)(f:KV):Iy (.bool true) true t H n f=t f:=rfl
theorem AYI(t:KV->Prop)(H:Heap)(n:Nat)(f:KV):Iy (.bool false) false t H n f=t f:=rfl
theorem AWp(t:KV->Prop)(H:Heap)(n:Nat)(f:KV):Iy (.bool true) false t H n f=f (.Io []) H n:=rfl
theorem AXC(t:KV->Prop)(H:Heap)(n:Nat)(f:KV):Iy (.bool false) true t H n f=f (.Io []) H n:=rfl
theorem AZ0(b:Bool)(t:KV->Prop)(H:Heap)(n:Nat)(f:KV):Iy (.Io []) b t H n f=f (.Io []) H n:=rfl
theorem AXU(b:Bool):QJ (.bool b)=some (.bool (!b)):=by cases b<;>rfl
theorem ASe(a b:V):CQ (.bool true) a b=some a:=rfl
theorem ASO(a b:V):CQ (.bool false) a b=some b:=rfl
theorem Am(off id o:Nat):AU off (.ptr id o)=some (.ptr id (o+off)):=by show Et (Nat.add o off) _=_;rw[DK];rfl
theorem AL8(off id o:Nat):AU off (.gptr id o)=some (.gptr id (o+off)):=by show Et (Nat.add o off) _=_;rw[DK];rfl
theorem ARQ(id o:Nat):Ap (.ptr id o)=some (.ptr id o):=rfl
theorem jM(a:V)(l:List V):KI (.Io (a::l)) 0=some a:=rfl
theorem jL(a b:V)(l:List V):KI (.Io (a::b::l)) 1=some b:=rfl
theorem ALr(a b c:V)(l:List V):KI (.Io (a::b::c::l)) 2=some c:=rfl
theorem APX(a:V)(G:AX)(H:Heap):AY a G H=XT (ldP a G H 1) λL=>nth L 0:=rfl
theorem ALy(m:Nat)(a:V)(G:AX)(H:Heap):Ag m a G H=XT (ldP a G H m) λL=>some (.agg L):=rfl
theorem AD2(id off:Nat)(G:AX)(H:Heap)(n:Nat):ldP (.ptr id off) G H n=yj H id off n:=rfl
theorem AHB(L:LV)(f:LV->Option V):XT (some L) f=f L:=rfl
def one(L:LV):Sm:=.arr L.length 1 (T.set .e 0 L)
theorem AUB{v:V}{H:Heap}{n:Nat}{P:KV}(h:jZ v=true):Bh (Eo v) H n P=P (.ptr n 0) (T.set H n (one (Ba v))) (n+1):=by
 show ER (jZ v) (FT (len (Ba v)) λe=>FT n λn=>P (.ptr n 0) (T.set H n (.arr e 1 (T.set .e 0 (Ba v)))) (Nat.succ n))=_
 rw[CS,CS,len_eq,h]
 rfl
theorem AMG{z:Nat}{L:LV}{H:Heap}{n:Nat}{P:KV}(h:L.length=z):Bh (Au z [L] E0) H n P=P (.ptr n 0) (T.set H n (one L)) (n+1):=by
 show FT (len [L]) (λm=>FT n λn=>P (.ptr n 0) (T.set H n (.arr z m (Ic [L] 0 .e))) (Nat.succ n))=_
 rw[CS,CS,len_eq]
 subst h
 rfl
theorem AKv{H:Heap}{id:Nat}{L:LV}(h:T.get H id=some (one L)){off m:Nat}(hm:0<m)(hl:off+m<=L.length):yj H id off m=some ((L.drop off).take m):=by
 unfold yj
 rw[h]
 show ldB L.length 1 (T.set .e 0 L) off m=_
 unfold ldB
 have hdiv:off/L.length=0:=Nat.div_eq_of_lt (by omega)
 have hmod:off%L.length=off:=Nat.mod_eq_of_lt (by omega)
 have hb:Nat.blt (Nat.div off L.length) 1=true:=by rw[Nat.blt_eq];show off/L.length<1;omega
 rw[hb]
 show Cb (T.get (T.set T.e 0 L) (Nat.div off L.length)) (ldC L.length off m)=_
 have hg2:T.get (T.set T.e 0 L) (Nat.div off L.length)=some L:=by
  show T.get (T.set T.e 0 L) (off/L.length)=some L
  rw[hdiv];simp
 rw[hg2]
 show ldC L.length off m L=_
 unfold ldC
 cases hc:band (Nat.beq m L.length) (Nat.beq (Nat.mod off L.length) 0)with
 |true=>
  simp only[Bg,Bool.and_eq_true,beq_iff]at hc
  obtain⟨h1,h2⟩:=hc
  have h2':off=0:=by have:off%L.length=0:=h2;omega
  subst h2'
  simp[h1]
 |false=>
  have hf:Nat.ble (Nat.add (Nat.mod off L.length) m) L.length=true:=by
   rw[Nat.ble_eq];show off%L.length+m<=L.length;omega
  rw[hf]
  show some (dU m (uO (Nat.mod off L.length) L))=_
  rw[lC,uI]
  show some (List.take m (List.drop (off%L.length) L))=_
  rw[hmod]
theorem AVq{H:Heap}{id:Nat}{L:LV}(h:T.get H id=some (one L)){off m:Nat}{new:LV}(hm:0<m)(hn:new.length=m)(hl:off+m<=L.length):stH H id off m new=some (T.set H id (one (L.take off++(new++L.drop (off+m))))):=by
 unfold stH
 rw[h]
 show Cb (stB L.length 1 (T.set .e 0 L) off m new) (λb=>some (T.set H id b))=_
 have hdiv:Nat.div off L.length=0:=Nat.div_eq_of_lt (by omega)
 have hmod:Nat.mod off L.length=off:=Nat.mod_eq_of_lt (by omega)
 have hs:stB L.length 1 (T.set .e 0 L) off m new=some (one (L.take off++(new++L.drop (off+m)))):=by
  unfold stB
  rw[hdiv]
  show Cb (T.get (T.set T.e 0 L) 0) (stC new L.length 1 (T.set .e 0 L) off m)=_
  rw[T.BP]
  show stC new L.length 1 (T.set .e 0 L) off m L=_
  unfold stC
  rw[hmod,hdiv]
  have hlen:(L.take off++(new++L.drop (off+m))).length=L.length:=by simp;omega
  cases hc:band (Nat.beq m L.length) (Nat.beq off 0)with
  |true=>
   simp only[Bg,Bool.and_eq_true,beq_iff]at hc
   obtain⟨h1,h2⟩:=hc
   subst h2
   show some (Sm.arr L.length 1 (T.set (T.set T.e 0 L) 0 new))=_
   unfold one
   rw[hlen]
   have:List.take 0 L++(new++List.drop (0+m) L)=new:=by simp[h1]
   rw[this];rfl
  |false=>
   have hf:Nat.ble (Nat.add off m) L.length=true:=by rw[Nat.ble_eq];exact hl
   rw[hf]
   show some (Sm.arr L.length 1 (T.set (T.set T.e 0 L) 0 (ALk new off L)))=_
   unfold one
   rw[hlen,AHE,hn];rfl
 rw[hs]
 rfl
theorem BH{F:T AF}{G:AX}{f:Nat}{af:AF}{s:SF}(hf:T.get F f=some af)(hs:AHn G af s){args:List V}{H:Heap}{n:Nat}{k:KV}(h:s (Runs F G) args H n k):Runs F G f args H n k:=
 ALc hf (hs _ _ (λ_ _ _ _ _ h=>h) (ABO F G) _ _ _ _ h)
def goN(x:X)(b:Bool)(d:ug)(o:AN):XpT:=λG _ R H n k=>BF (x.ev R) b (o.ev G R H) λv=>k (IQ d v R) H n
def goA(x:X)(b:Bool)(d:ug)(o:AA):XpT:=λ_ _ R H n k=>Iy (x.ev R) b (Bh (o.al R) H n) H n λv H n=>k (IQ d v R) H n
def goE(x:X)(b:Bool)(d:ug)(o:AE):XpT:=λG call R H n k=>Iy (x.ev R) b (o.ex G call R H n) H n λv H n=>k (IQ d v R) H n
def AZC(x:X)(b:Bool)(d:ug)(o:AO):XpT:=AO.rec (motive:=λ_=>XpT) (goN x b d) (goA x b d) (goE x b d) o
def oAG(o:AA):XoT:=λ_ _ d R H n k=>Bh (o.al R) H n λv H n=>k (IQ d v R) H n
def AO.exG(o:AO):XoT:=AO.rec (motive:=λ_=>XoT) oN oAG oE o
def AZO(d:ug)(o:AO):XpT:=λG call R H n k=>o.exG G call d R H n k
def AOp.exG(o:AOp):XpT:=AOp.rec (motive:=λ_=>XpT) (λd g o=>Gd.rec (motive:=λ_=>ug->AO->XpT) AZO AZC g d o) o
theorem AMw(o:AOp):o.exG=o.ex:=by
 obtain⟨d,g,o⟩:=o
 cases g<;>cases o<;>rfl
def ALX(l:List AOp):XpT:=
 List.rec (motive:=λ_=>XpT) (λ_ _ R H n k=>k R H n) (λo _ g G call R H n k=>o.exG G call R H n λR H n=>g G call R H n k) l
theorem AMA:∀l:List AOp,ALX l=TS l
 |[]=>rfl
 |o::l=>by
  show(λG call R H n k=>o.exG G call R H n λR H n=>ALX l G call R H n k)=λG call R H n k=>o.ex G call R H n λR H n=>TS l G call R H n k
  rw[AMA l,AMw]
def AYf(x:X)(b:Bool):ReT:=λG R H d o k=>ADV (x.ev R) b (o.ev G R H) (PD (T.FN d R.rg)) k
def AW9(g:Gd):ReT:=Gd.rec (motive:=λ_=>ReT) AXG AYf g
def AI.exG(i:AI):XpT:=AI.rec (motive:=λ_=>XpT) (λo=>o.exG) (λd g o G _ R H n k=>AW9 g G R H d o (k R H n)) i
theorem AVf(i:AI):i.exG=i.ex:=by
 cases i with
 |op o=>exact AMw o
 |re d g o=>cases g<;>rfl
def AE3(l:List AI):XpT:=
 List.rec (motive:=λ_=>XpT) (λ_ _ R H n k=>k R H n) (λi _ g G call R H n k=>i.exG G call R H n λR H n=>g G call R H n k) l
theorem AGq:∀l:List AI,AE3 l=DY l
 |[]=>rfl
 |o::l=>by
  show(λG call R H n k=>o.exG G call R H n λR H n=>AE3 l G call R H n k)=λG call R H n k=>o.ex G call R H n λR H n=>DY l G call R H n k
  rw[AGq l,AVf]
def AQf(l:List AOp):M:=λG call _ R H n k _ _=>ALX l G call (.mk [] R) H n λE H n=>k E.rg H n
def AOg(l:List AI):M:=λG call _ R H n k _ _=>AE3 l G call (.mk [] R) H n λE H n=>k E.rg H n
def AC.exG(c:AC):M:=AC.rec (motive:=λ_=>M) APz AQf AOg AQB AJX AFg AHJ APP AU3 c
theorem AAP:∀c:AC,c.exG=c.exL
 |.skip=>rfl
 |.ops l=>by show AQf l=ASf l;unfold AQf ASf;rw[AMA]
 |.reg l=>by show AOg l=ASH l;unfold AOg ASH;rw[AGq]
 |.seq a b=>by show AQB a b a.exG b.exG=AQB a b a.exL b.exL;rw[AAP a,AAP b]
 |.cond x a b=>by show AJX x a b a.exG b.exG=AJX x a b a.exL b.exL;rw[AAP a,AAP b]
 |.block i a=>by show AFg i a a.exG=AFg i a a.exL;rw[AAP a]
 |.loop a=>by show AHJ a a.exG=AHJ a a.exL;rw[AAP a]
 |.exit i=>rfl
 |.ret=>rfl
inductive An:Type 1 where
 |n
 |s (a b:An)
 |j (S:K) (a b:An)
 |c (a b:An)
 |b (a:An)
 |l (σ:Type) (bd:(σ->Prop)->σ->Prop) (st:LW->Heap->Nat->σ) (a:(σ->Prop)->An)
abbrev M2:=AC->AX->BG->LW->Heap->Nat->K->KX->K->Prop
def AC.AIg(c:AC)(f:AC->AC->Prop):Prop:=AC.rec (motive:=λ_=>Prop) False (λ_=>False) (λ_=>False) (λa b _ _=>f a b) (λ_ _ _ _ _=>False) (λ_ _ _=>False) (λ_ _=>False) (λ_=>False) False c
def AC.ALZ(c:AC)(f:X->AC->AC->Prop):Prop:=AC.rec (motive:=λ_=>Prop) False (λ_=>False) (λ_=>False) (λ_ _ _ _=>False) (λx a b _ _=>f x a b) (λ_ _ _=>False) (λ_ _=>False) (λ_=>False) False c
def AC.AHb(c:AC)(f:Nat->AC->Prop):Prop:=AC.rec (motive:=λ_=>Prop) False (λ_=>False) (λ_=>False) (λ_ _ _ _=>False) (λ_ _ _ _ _=>False) (λi a _=>f i a) (λ_ _=>False) (λ_=>False) False c
def AC.ALJ(c:AC)(f:AC->Prop):Prop:=AC.rec (motive:=λ_=>Prop) False (λ_=>False) (λ_=>False) (λ_ _ _ _=>False) (λ_ _ _ _ _=>False) (λ_ _ _=>False) (λa _=>f a) (λ_=>False) False c
def An.ex(L:He)(an:An):M2:=
 An.rec (motive:=λ_=>M2)
  (λc G call R H n k x r=>c.exG G call 0 R H n k x r)
  (λ_ _ ga gb c G call R H n k x r=>c.AIg λa b=>ga a G call R H n (λR H n=>gb b G call R H n k x r) x r)
  (λS _ _ ga _ c G call R H n _ x r=>c.AIg λa _=>ga a G call R H n S x r)
  (λ_ _ ga gb c G call R H n k x r=>c.ALZ λy a b=>Ae (y.ev (.mk [] R)) true (ga a G call R H n k x r) (gb b G call R H n k x r))
  (λ_ ga c G call R H n k x r=>c.AHb λi a=>ga a G call R H n k (Ja i k x) r)
  (fun σ bd st _ _ c _ _ R H n _ _ _=>c.ALJ λ_=>L σ bd (st R H n)) an
abbrev M3:=AC->AX->BG->K->KX->K->Prop
def An.ob(L:He)(an:An):M3:=
 An.rec (motive:=λ_=>M3)
  (λ_ _ _ _ _ _=>True)
  (λ_ b ga gb c G call k x r=>c.AIg λa d=>ga a G call (λR H n=>b.ex L d G call R H n k x r) x r/\gb d G call k x r)
  (λS _ b ga gb c G call k x r=>c.AIg λa d=>ga a G call S x r/\(∀R H n,S R H n=b.ex L d G call R H n k x r)/\gb d G call k x r)
  (λ_ _ ga gb c G call k x r=>c.ALZ λ_ a b=>ga a G call k x r/\gb b G call k x r)
  (λ_ ga c G call k x r=>c.AHb λi a=>ga a G call k (Ja i k x) r)
  (fun σ bd st a ga c G call _ x r=>c.ALJ λd=>∀ih:σ->Prop,(∀R H n,bd ih (st R H n)=(a ih).ex L d G call R H n (λR H n=>ih (st R H n)) x r)/\ga ih d G call (λR H n=>ih (st R H n)) x r) an
def AC.AQt(c:AC)(f:AC->AC->Prop):Prop:=AC.rec (motive:=λ_=>Prop) True (λ_=>True) (λ_=>True) (λa b _ _=>f a b) (λ_ _ _ _ _=>True) (λ_ _ _=>True) (λ_ _=>True) (λ_=>True) True c
def AC.ARV(c:AC)(f:X->AC->AC->Prop):Prop:=AC.rec (motive:=λ_=>Prop) True (λ_=>True) (λ_=>True) (λ_ _ _ _=>True) (λx a b _ _=>f x a b) (λ_ _ _=>True) (λ_ _=>True) (λ_=>True) True c
def AC.AP8(c:AC)(f:Nat->AC->Prop):Prop:=AC.rec (motive:=λ_=>Prop) True (λ_=>True) (λ_=>True) (λ_ _ _ _=>True) (λ_ _ _ _ _=>True) (λi a _=>f i a) (λ_ _=>True) (λ_=>True) True c
def AC.ASb(c:AC)(f:AC->Prop):Prop:=AC.rec (motive:=λ_=>Prop) True (λ_=>True) (λ_=>True) (λ_ _ _ _=>True) (λ_ _ _ _ _=>True) (λ_ _ _=>True) (λa _=>f a) (λ_=>True) True c
def An.obR(L:He)(an:An):M3:=
 An.rec (motive:=λ_=>M3)
  (λ_ _ _ _ _ _=>True)
  (λ_ b ga gb c G call k x r=>c.AQt λa d=>ga a G call (λR H n=>b.ex L d G call R H n k x r) x r/\gb d G call k x r)
  (λS _ b ga gb c G call k x r=>c.AQt λa d=>ga a G call S x r/\(∀R H n,S R H n=S R H n)/\gb d G call k x r)
  (λ_ _ ga gb c G call k x r=>c.ARV λ_ a b=>ga a G call k x r/\gb b G call k x r)
  (λ_ ga c G call k x r=>c.AP8 λi a=>ga a G call k (Ja i k x) r)
  (fun σ bd st a ga c G call _ x r=>c.ASb λd=>∀ih:σ->Prop,(∀R H n,bd ih (st R H n)=bd ih (st R H n))/\ga ih d G call (λR H n=>ih (st R H n)) x r) an
theorem An.AVz(L:He)(an:An):∀c G call k x r,an.obR L c G call k x r:=by
 induction an with
 |n=>exact λ_ _ _ _ _ _=>trivial
 |s a b iha ihb=>intro c;cases c<;>first|exact λ_ _ _ _ _=>trivial|exact λG call k x r=>⟨iha _ _ _ _ _ _,ihb _ _ _ _ _ _⟩
 |j S a b iha ihb=>intro c;cases c<;>first|exact λ_ _ _ _ _=>trivial|exact λG call k x r=>⟨iha _ _ _ _ _ _,λ_ _ _=>rfl,ihb _ _ _ _ _ _⟩
 |c a b iha ihb=>intro c;cases c<;>first|exact λ_ _ _ _ _=>trivial|exact λG call k x r=>⟨iha _ _ _ _ _ _,ihb _ _ _ _ _ _⟩
 |b a iha=>intro c;cases c<;>first|exact λ_ _ _ _ _=>trivial|exact λG call k x r=>iha _ _ _ _ _ _
 |l σ bd st a iha=>intro c;cases c<;>first|exact λ_ _ _ _ _=>trivial|exact λG call k x r ih=>⟨λ_ _ _=>rfl,iha ih _ _ _ _ _ _⟩
theorem AGv{c:AC}{f:AC->AC->Prop}(h:c.AIg f):∃a b,c=.seq a b/\f a b:=by
 cases c<;>first|exact⟨_,_,rfl,h⟩|exact(show False from h).elim
theorem AKi{c:AC}{f:X->AC->AC->Prop}(h:c.ALZ f):∃x a b,c=.cond x a b/\f x a b:=by
 cases c<;>first|exact⟨_,_,_,rfl,h⟩|exact(show False from h).elim
theorem AJT{c:AC}{f:Nat->AC->Prop}(h:c.AHb f):∃i a,c=.block i a/\f i a:=by
 cases c<;>first|exact⟨_,_,rfl,h⟩|exact(show False from h).elim
theorem ALO{c:AC}{f:AC->Prop}(h:c.ALJ f):∃a,c=.loop a/\f a:=by
 cases c<;>first|exact⟨_,rfl,h⟩|exact(show False from h).elim
section
variable{G:AX}{call callE:BG}
theorem AR1{c:AC}{R:LW}{H:Heap}{n:Nat}{k:K}{x:KX}{r:K}(h:c.exG G call 0 R H n k x r):c.exL G call 0 R H n k x r:=by rwa [AAP]at h
theorem AAU(hle:V9 call callE)(hd:Il callE):∀(c:AC) (R:LW) (H:Heap) (n:Nat) (k k':K) (x x':KX) (r r':K),(∀R H n,k R H n->k' R H n)->(∀i R H n,x i R H n->x' i R H n)->(∀R H n,r R H n->r' R H n)->
 c.exL G call 0 R H n k x r->c.exL G callE 0 R H n k' x' r'
 |.skip,R,H,n,k,k',x,x',r,r',hk,hx,hr,h=>hk _ _ _ h
 |.ops l,R,H,n,k,k',x,x',r,r',hk,hx,hr,h=>APi hd l _ H n (λE H n h=>hk _ _ _ h) (ALs hd hle G l _ H n _ h)
 |.reg l,R,H,n,k,k',x,x',r,r',hk,hx,hr,h=>AKp hd l _ H n (λE H n h=>hk _ _ _ h) (AFM hd hle G l _ H n _ h)
 |.seq a b,R,H,n,k,k',x,x',r,r',hk,hx,hr,h=>AAU hle hd a R H n _ _ x x' r r' (λR H n h=>AAU hle hd b R H n k k' x x' r r' hk hx hr h) hx hr h
 |.cond c a b,R,H,n,k,k',x,x',r,r',hk,hx,hr,h=>by
  have h':Ae (c.ev (.mk [] R)) true (a.exL G call 0 R H n k x r) (b.exL G call 0 R H n k x r):=h
  show Ae (c.ev (.mk [] R)) true (a.exL G callE 0 R H n k' x' r') (b.exL G callE 0 R H n k' x' r')
  exact AFO h' (AAU hle hd a R H n k k' x x' r r' hk hx hr) (AAU hle hd b R H n k k' x x' r r' hk hx hr)
 |.block id a,R,H,n,k,k',x,x',r,r',hk,hx,hr,h=>by
  refine AAU hle hd a R H n k k' (Ja id k x) (Ja id k' x') r r' hk (λi R H n h=>?_) hr h
  unfold Ja at h⊢
  cases hb:Nat.beq i id with
  |true=>rw[hb]at h;exact hk _ _ _ h
  |false=>rw[hb]at h;exact hx _ _ _ _ h
 |.loop a,R,H,n,k,k',x,x',r,r',hk,hx,hr,h=>by
  intro I hI
  exact h I λR H n hb=>hI R H n (AAU hle hd a R H n I I x x' r r' (λ_ _ _ h=>h) hx hr hb)
 |.exit i,R,H,n,k,k',x,x',r,r',hk,hx,hr,h=>hx _ _ _ _ h
 |.ret,R,H,n,k,k',x,x',r,r',hk,hx,hr,h=>hr _ _ _ h
theorem An.ok{L:He}(hL:Eb L)(hle:V9 call callE)(hd:Il callE)(an:An):∀(c:AC) (k k':K) (x x':KX) (r r':K),(∀R H n,k R H n->k' R H n)->(∀i R H n,x i R H n->x' i R H n)->(∀R H n,r R H n->r' R H n)->
 an.ob L c G call k x r->∀R H n,an.ex L c G call R H n k x r->c.exL G callE 0 R H n k' x' r':=by
 induction an with
 |n=>exact λc k k' x x' r r' hk hx hr _ R H n h=>AAU hle hd c R H n k k' x x' r r' hk hx hr (AR1 h)
 |s a b iha ihb=>
  intro c k k' x x' r r' hk hx hr ho R H n h
  obtain⟨c1,c2,rfl,ho⟩:=AGv ho
  exact iha c1 _ _ x x' r r' (λR H n h=>ihb c2 k k' x x' r r' hk hx hr ho.2 R H n h) hx hr ho.1 R H n h
 |j S a b iha ihb=>
  intro c k k' x x' r r' hk hx hr ho R H n h
  obtain⟨c1,c2,rfl,ho⟩:=AGv ho
  exact iha c1 S (λR H n=>c2.exL G callE 0 R H n k' x' r') x x' r r' (λR H n h=>ihb c2 k k' x x' r r' hk hx hr ho.2.2 R H n (ho.2.1 R H n▸h)) hx hr ho.1 R H n h
 |c a b iha ihb=>
  intro c k k' x x' r r' hk hx hr ho R H n h
  obtain⟨y,c1,c2,rfl,ho⟩:=AKi ho
  exact AFO (P':=c1.exL G callE 0 R H n k' x' r') (Q':=c2.exL G callE 0 R H n k' x' r') h (λh=>iha c1 k k' x x' r r' hk hx hr ho.1 R H n h) (λh=>ihb c2 k k' x x' r r' hk hx hr ho.2 R H n h)
 |b a iha=>
  intro c k k' x x' r r' hk hx hr ho R H n h
  obtain⟨i,c1,rfl,ho⟩:=AJT ho
  refine iha c1 k k' (Ja i k x) (Ja i k' x') r r' hk (λj R H n h=>?_) hr ho R H n h
  unfold Ja at h⊢
  cases hb:Nat.beq j i with
  |true=>rw[hb]at h;exact hk _ _ _ h
  |false=>rw[hb]at h;exact hx _ _ _ _ h
 |l σ bd st a iha=>
  intro c k k' x x' r r' hk hx hr ho R H n h
  obtain⟨c1,rfl,ho⟩:=ALO ho
  intro I hI
  have h':L σ bd (st R H n):=h
  refine hL σ bd (λs=>∀R H n,st R H n=s->I R H n) (λih hih s hs R H n e=>?_) _ h' R H n rfl
  subst e
  rw[(ho ih).1]at hs
  exact hI R H n (iha ih c1 (λR H n=>ih (st R H n)) I x x' r r' (λR H n h=>hih _ h R H n rfl) hx hr (ho ih).2 R H n hs)
end
def fEx(L:He)(an:An)(af:AF)(G:AX)(call:BG)(args:List V)(H:Heap)(n:Nat)(k:KV):Prop:=
 AF.rec (motive:=λ_=>Prop) (λnp code res d dg=>ER (Nat.beq (len args) np) (an.ex L code G call (lN args 0 .e) H n (LZ res dg d G call k) noX (LZ res dg d G call k))) (λf=>AAA f G args H n k) af
def fOb(L:He)(an:An)(af:AF)(G:AX)(call:BG)(k:KV):Prop:=
 AF.rec (motive:=λ_=>Prop) (λ_ code res d dg=>an.ob L code G call (LZ res dg d G call k) noX (LZ res dg d G call k)) (λ_=>True) af
def AZz(L:He)(an:An)(af:AF)(G:AX)(call:BG)(k:KV):Prop:=
 AF.rec (motive:=λ_=>Prop) (λ_ code res d dg=>an.obR L code G call (LZ res dg d G call k) noX (LZ res dg d G call k)) (λ_=>True) af
theorem obs{L:He}{an:An}{af:AF}{G:AX}{call:BG}{k:KV}(h:AZz L an af G call k=fOb L an af G call k):fOb L an af G call k:=by
 rw[<-h];cases af with
 |mk=>exact An.AVz ..
 |nat=>exact trivial
theorem AAK{L:He}(hL:Eb L){G:AX}{call callE:BG}(hle:V9 call callE)(hd:Il callE){an:An}{af:AF}{args:List V}{H:Heap}{n:Nat}{k:KV}(ho:fOb L an af G call k)(h:fEx L an af G call args H n k):ALo af G callE args H n k:=by
 cases af with
 |nat=>exact h
 |mk np code res d dg=>
 have h':ER (Nat.beq (len args) np) (an.ex L code G call (lN args 0 .e) H n (LZ res dg d G call k) noX (LZ res dg d G call k)):=h
 show ER (Nat.beq (len args) np) (code.exL G callE 0 (lN args 0 .e) H n (LZ res dg d G callE k) noX (LZ res dg d G callE k))
 rw[IC]at h'⊢
 exact⟨h'.1,An.ok hL hle hd an code _ _ _ _ _ _ (λR H n h=>jq hd hle res dg d G k R H n h) (λ_ _ _ _ h=>h) (λR H n h=>jq hd hle res dg d G k R H n h) ho _ _ _ h'.2⟩
section
variable{L:He}(hL:Eb L){G:AX}{af:AF}{an:BG->KV->An}(ho:∀call k,fOb L (an call k) af G call k)
include hL ho
theorem sf0{s:BG->Heap->Nat->KV->Prop}(h:∀call H n k,s call H n k=fEx L (an call k) af G call [] H n k):AHn G af (ar0 s):=λcall callE hle hd l H n k hs=>by
 obtain⟨rfl,hs⟩:=AMN hs;exact AAK hL hle hd (ho call k) (h .. ▸hs)
theorem sf1{s:BG->V->Heap->Nat->KV->Prop}(h:∀call a0 H n k,s call a0 H n k=fEx L (an call k) af G call [a0] H n k):AHn G af (mM s):=λcall callE hle hd l H n k hs=>by
 obtain⟨a0,rfl,hs⟩:=AMx hs;exact AAK hL hle hd (ho call k) (h .. ▸hs)
theorem mJ{s:BG->V->V->Heap->Nat->KV->Prop}(h:∀call a0 a1 H n k,s call a0 a1 H n k=fEx L (an call k) af G call [a0,a1] H n k):AHn G af (N8 s):=λcall callE hle hd l H n k hs=>by
 obtain⟨a0,a1,rfl,hs⟩:=ANC hs;exact AAK hL hle hd (ho call k) (h .. ▸hs)
theorem sf3{s:BG->V->V->V->Heap->Nat->KV->Prop}(h:∀call a0 a1 a2 H n k,s call a0 a1 a2 H n k=fEx L (an call k) af G call [a0,a1,a2] H n k):AHn G af (ar3 s):=λcall callE hle hd l H n k hs=>by
 obtain⟨a0,a1,a2,rfl,hs⟩:=AM7 hs;exact AAK hL hle hd (ho call k) (h .. ▸hs)
theorem sf4{s:BG->V->V->V->V->Heap->Nat->KV->Prop}(h:∀call a0 a1 a2 a3 H n k,s call a0 a1 a2 a3 H n k=fEx L (an call k) af G call [a0,a1,a2,a3] H n k):AHn G af (ar4 s):=λcall callE hle hd l H n k hs=>by
 obtain⟨a0,a1,a2,a3,rfl,hs⟩:=AM1 hs;exact AAK hL hle hd (ho call k) (h .. ▸hs)
theorem sf5{s:BG->V->V->V->V->V->Heap->Nat->KV->Prop}(h:∀call a0 a1 a2 a3 a4 H n k,s call a0 a1 a2 a3 a4 H n k=fEx L (an call k) af G call [a0,a1,a2,a3,a4] H n k):AHn G af (ar5 s):=λcall callE hle hd l H n k hs=>by
 obtain⟨a0,a1,a2,a3,a4,rfl,hs⟩:=ANB hs;exact AAK hL hle hd (ho call k) (h .. ▸hs)
theorem sf6{s:BG->V->V->V->V->V->V->Heap->Nat->KV->Prop}(h:∀call a0 a1 a2 a3 a4 a5 H n k,s call a0 a1 a2 a3 a4 a5 H n k=fEx L (an call k) af G call [a0,a1,a2,a3,a4,a5] H n k):AHn G af (ar6 s):=λcall callE hle hd l H n k hs=>by
 obtain⟨a0,a1,a2,a3,a4,a5,rfl,hs⟩:=ARz hs;exact AAK hL hle hd (ho call k) (h .. ▸hs)
end
def inR(l:List (Nat×Nat))(t:Nat):Bool:=l.any λp=>Nat.ble p.1 t&&Nat.ble t p.2
def qA(l:List Nat):List (Nat×Wk):=l.map λj=>(j,.plain)
def Nr(n:Nat):List (Nat×Wk):=qA (List.range n)
def BA(o:Option AF):AF:=o.getD (.mk 0 .skip [] .no 0)
theorem Ac{o:Option AF}(h:o.isSome=true):o=some (BA o):=by
 cases o with
 |none=>cases h
 |some a=>rfl
theorem AAQ.one{P:Program}{F:T AF}{f:Nat}{af:AF}{fn:Func}{loc:Nat->Bool}{df:Bool}{ords:AJl}{dg:Nat}(hf:P.funcs[f]? =some fn)(hn:(fn.name== "runtime.NumGoroutine")=false)
 (ht:trF P loc df ords dg fn=some af) (hd:af.dg=dg) (hi:AKk af.dp=true):AAQ P F f af:=.code ⟨⟨fn,loc,df,ords,hf,hn,hd▸ht⟩,.inl hi⟩
theorem AAQ.two{P:Program}{F:T AF}{f:Nat}{af af':AF}{fn:Func}{loc:Nat->Bool}{df:Bool}{ords:AJl}{dg:Nat}(hf:P.funcs[f]? =some fn)(hn:(fn.name== "runtime.NumGoroutine")=false)
 (ht:trF P loc df ords dg fn=some af) (hd:af.dg=dg) (ha:T.get F dg=some af') (hi:AKk af'.dp=true):AAQ P F f af:=.code ⟨⟨fn,loc,df,ords,hf,hn,hd▸ht⟩,.inr ⟨af',hd▸ha,hi⟩⟩
end Go.DW
namespace Go.DW
theorem AWc(x y:Int):B2.ev .lss (.int .i64 x 0) (.int .i64 y 0)=some (.bool (decide (x<y))):=by
 show mkB (ilt x y)=_
 rw[cZ,bZ]
theorem ATM(x y:Int):EL (.one .int) true (.int .i64 x 0) (.int .i64 y 0)=some (.bool (!(x==y))):=by
 show ofB (VL (some (ieq x y)) λb=>some (TK b))=_
 rw[iL];cases x==y<;>rfl
theorem AKJ(x:Int):EL (.one .int) true (.int .i64 x 0) (.int .i64 x 0)=some (.bool false):=by rw[ATM];simp
theorem wrap64(a:Int):IntKind.wrap .i64 a=if 9223372036854775808<=a%18446744073709551616 then a%18446744073709551616-18446744073709551616 else a%18446744073709551616:=by
 show(if(true&&decide (a%18446744073709551616≥9223372036854775808))=true then a%18446744073709551616-18446744073709551616 else a%18446744073709551616)=_
 by_cases h:9223372036854775808<=a%18446744073709551616
 ·rw[if_pos h,if_pos (by simpa using h)]
 ·rw[if_neg h,if_neg (by simpa using h)]
theorem au{x:Int}(h1: -9223372036854775808<=x)(h2:x<9223372036854775808):IntKind.wrap .i64 x=x:=by
 rw[wrap64];split<;>omega
end Go.DW
