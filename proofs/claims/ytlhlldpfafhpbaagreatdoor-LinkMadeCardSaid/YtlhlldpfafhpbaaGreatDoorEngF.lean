/- Part of a proof; nothing is assumed. -/
import Derived.Test.YtlhlldpfafhpbaaGreatDoorEngE
set_option linter.unusedVariables false
set_option linter.unusedSimpArgs false
noncomputable section
namespace Go.BN
def P2.beq(p:P2):P2->Bool:=
 P2.rec (motive:=λ_=>P2->Bool) (λq=>P2.rec (motive:=λ_=>Bool) true (λ_ _=>false) (λ_ _=>false) q)
  (λ_ g q=>P2.rec (motive:=λ_=>Bool) false (λq _=>g q) (λ_ _=>false) q)
  (λ_ g q=>P2.rec (motive:=λ_=>Bool) false (λ_ _=>false) (λq _=>g q) q) p
abbrev P2.xy:∀p:P2,P2.beq p p=true
 |.h=>rfl
 |.z p=>P2.xy p
 |.o p=>P2.xy p
abbrev rg(R:F3)(p:P2):V:=Ij (T.Ch p R)
variable{R:F3}{p:P2}{v:V}
abbrev sm:rg (T.VB v p R) p=v:=by show Ij _=v;simp
abbrev ne{q:P2}{a:V}(d:P2.beq q p=false)(h:rg R p=a):rg (T.VB v q R) p=a:=by show Ij _=a;rw[T.Fb _ _ _ _ (λe=>by simp_all[P2.xy])];omega
abbrev Ma:=(σ:Type)->((σ->Prop)->σ->Prop)->σ->Prop
def AMv(L:Ma):Prop:=∀(σ:Type) (b:(σ->Prop)->σ->Prop) (P:σ->Prop),(∀ih,(∀s,ih s->P s)->∀s,b ih s->P s)->∀s,L σ b s->P s
def lfp:Ma:=fun σ b s=>∀I:σ->Prop,(∀s,b I s->I s)->I s
abbrev Ae:AMv lfp:=λ_ _ P h _ hL=>hL P (h P λ_ h=>h)
def E0:RS:=.mk [] .e
def BI(c a b:V):aAl:=c.gg λt=>uK t (some a) (some b)
def AM(a:V)(G:AQ)(H:Heap):aAl:=Pe (lG a G H 1) λL=>nth L 0
def AX(n:Nat)(a:V)(G:AQ)(H:Heap):aAl:=Pe (lG a G H n) λL=>some (.agg L)
def F0(a:V):aAl:=a.gg λb=>R9 (Lf b)
def AUS(a:V):aAl:=a.FI λk n s=>Zn k (Int.neg n) s
def AOu(k:IntKind)(a:V):aAl:=a.FI λ_ n s=>Zn k n s
def AI3(n esz:Nat)(a i:V):aAl:=TT i λi=>Az (Nat.blt i n) (AG (Nat.mul i esz) a)
def ANr(a i:V):aAl:=a.Pj λln c=>TT i λi=>Az (Nat.blt i ln) (CC (AM5 c i) λb=>some (.int .u8 (.ofNat b) 0))
def Do(a:V)(i:Nat):aAl:=a.AD2 λl=>nth l i
def jG(a:V):aAl:=a.Pj λn _=>some (.int .i64 (.ofNat n) 0)
def ANB(c:CK)(ok:Bool)(z m k:V)(H:Heap):aAl:=NV H m λes _=>BB (iM c k es 0) (AJA ok z)
def BT(z:LV)(ps:List (Nat×Nat×X)):aAl:=Az (cV ps E0) (some (.agg (vB ps E0 z)))
def AHF(x y:V):aAl:=x.FI λk a s=>y.FI λk' b t=>Az (band (keq k k') (Nat.beq (Nat.add s t) 0)) (some (.int k (Bool.rec a b (UG a b)) 0))
def AUK(a:V)(G:AQ)(H:Heap):aAl:=Az (Lf (isStr a)) (BB (elems a G H 1) λl=>BB (mP l) λc=>f3 (len l) c 0 λn c _=>.str n c)
def BK(v:V)(k:KA):Prop:=B7 (Rb v) (CS (len (At v)) λe=>k (.arr e 1 (T.set .e 0 (At v))) λid=>.ptr id 0)
def A1(sz:Nat)(a b:V)(H:Heap)(n:Nat)(k:KV):Prop:=B7 (band (Rb b) (Nat.beq (len (At b)) sz)) (CR (stP a H sz (At b)) λH=>k .undef H n)
def Ey(esz bs:Nat)(a b:V)(G:AQ)(H:Heap)(n:Nat)(k:KV):Prop:=CR (elems b G H esz) λLS=>AAb a G esz bs LS H n k
def ASO(c:CK)(m key v:V)(H:Heap)(n:Nat)(k:KV):Prop:=AAd m H (AGa c key v) λH=>k .undef H n
def DN(x:V)(args:aAo)(call:Am)(H:Heap)(n:Nat)(k:KV):Prop:=V.Ts x λf a c=>call f (cat a (cat args c)) H n k
def Ax(c:V)(b:Bool)(e:aAl)(P:V->Prop):Prop:=dr c b (AD e P) (P (.CV []))
def Au(al:KA->Prop)(H:Heap)(n:Nat)(P:KV):Prop:=al λb f=>CS n λn=>P (f n) (T.set H n b) (Nat.succ n)
def Et(c:V)(b:Bool)(t:KV->Prop)(H:Heap)(n:Nat)(P:KV):Prop:=dr c b (t P) (P (.CV []) H n)
inductive fu where
 |t (v:V)|c1 (v:V)|cn (v:V) (n:Nat)
def fu.get(r:fu)(G:AQ)(H:Heap):aAl:=fu.rec (λv=>some v) (λv=>AM v G H) (λv n=>AX n v G H) r
def Ay(l:List fu)(G:AQ)(H:Heap):aAB:=
 List.rec (motive:=λ_=>aAB) (some []) (λr _ g=>BB (r.get G H) λv=>BB g λvs=>some (v::vs)) l
section
variable{E:RS}{G:AQ}{H:Heap}{n:Nat}{x y z w:X}{a b c d:V}
variable{call:Am}
end
section
variable{L:List V}{R:F3}{G:AQ}{call:Am}{H:Heap}{n:Nat}{a b:V}
end
def qf(c:V)(b:Bool)(e:aAl)(a:V)(P:Prop):Prop:=dr c b (AD e λv=>B7 (Ak v a) P) P
def kR(k:K):KE:=λE H n=>k E.rg H n
abbrev yv{P Q P' Q':Prop}(h:AS v P Q)(f:P->P')(g:Q->Q'):AS v P' Q':=by rw[VM]at h⊢;have⟨t,d,h⟩:=h;refine⟨t,d,?_⟩;split<;>simp_all
section
variable{G:AQ}{call callE:Am}
section
variable{L:List V}{R:F3}{H:Heap}{n:Nat}{l:List pH}{k:KE}{p:P2}{x:X}{b:Bool}{c a:V}
end
section
variable{L:List V}{R:F3}{H:Heap}{n:Nat}{l:List AI}{k:KE}{p:P2}{x:X}{b:Bool}{c a:V}
abbrev i0{K:K}(h:K R H n):Bg [] G callE (.mk L R) H n (kR K):=h
end
section
variable{R:F3}{H:Heap}{n:Nat}{k:K}{x:KX}{r:K}{a b:AC}
end
section
variable{res rs:List AR}{dg:Nat}{R:F3}{H:Heap}{n:Nat}{k:KV}{l:LV}{p:P2}{a:V}{vs:List fu}
end
end
abbrev SF:=Am->aAo->Heap->Nat->KV->Prop
def eU(s:Am->Heap->Nat->KV->Prop):SF:=λcall l H n k=>List.rec (motive:=λ_=>Prop) (s call H n k) (λ_ _ _=>False) l
def fH(s:Am->V->Heap->Nat->KV->Prop):SF:=λcall l H n k=>List.rec (motive:=λ_=>Prop) False (λa l _=>eU (λcall=>s call a) call l H n k) l
def NR(s:Am->V->V->Heap->Nat->KV->Prop):SF:=λcall l H n k=>List.rec (motive:=λ_=>Prop) False (λa l _=>fH (λcall=>s call a) call l H n k) l
def ar3(s:Am->V->V->V->Heap->Nat->KV->Prop):SF:=λcall l H n k=>List.rec (motive:=λ_=>Prop) False (λa l _=>NR (λcall=>s call a) call l H n k) l
def YO(s:Am->V->V->V->V->Heap->Nat->KV->Prop):SF:=λcall l H n k=>List.rec (motive:=λ_=>Prop) False (λa l _=>ar3 (λcall=>s call a) call l H n k) l
def xb(s:Am->V->V->V->V->V->Heap->Nat->KV->Prop):SF:=λcall l H n k=>List.rec (motive:=λ_=>Prop) False (λa l _=>YO (λcall=>s call a) call l H n k) l
def pm(s:Am->V->V->V->V->V->V->Heap->Nat->KV->Prop):SF:=λcall l H n k=>List.rec (motive:=λ_=>Prop) False (λa l _=>xb (λcall=>s call a) call l H n k) l
variable{l:List V}{H:Heap}{n:Nat}{k:KV}
abbrev AIB{s:Am->Heap->Nat->KV->Prop}{call:Am}{l:aAo}(h:eU s call l H n k):l=[]/\s call H n k:=by
 cases l with
 |nil=>trivial
 |cons=>trivial
abbrev AIj{s:Am->V->Heap->Nat->KV->Prop}{call:Am}{l:aAo}(h:fH s call l H n k):∃a0,l=[a0]/\s call a0 H n k:=by
 cases l with
 |nil=>trivial
 |cons a l=>
  obtain⟨rfl,h⟩:=AIB (show eU (λcall=>s call a) call l H n k from h);simp[*]
abbrev AJQ{s:Am->V->V->Heap->Nat->KV->Prop}{call:Am}{l:aAo}(h:NR s call l H n k):∃a0 a1,l=[a0,a1]/\s call a0 a1 H n k:=by
 cases l with
 |nil=>trivial
 |cons a l=>
  obtain⟨d,rfl,h⟩:=AIj (show fH _ call l H n k from h);exact⟨a,d,rfl,h⟩
abbrev AJU{s:Am->V->V->V->Heap->Nat->KV->Prop}{call:Am}{l:aAo}(h:ar3 s call l H n k):∃a0 a1 a2,l=[a0,a1,a2]/\s call a0 a1 a2 H n k:=by
 cases l with
 |nil=>trivial
 |cons a l=>
  obtain⟨d,f,rfl,h⟩:=AJQ (show NR _ call l H n k from h);exact⟨a,d,f,rfl,h⟩
abbrev AI6{s:Am->V->V->V->V->Heap->Nat->KV->Prop}{call:Am}{l:aAo}(h:YO s call l H n k):∃a0 a1 a2 d,l=[a0,a1,a2,d]/\s call a0 a1 a2 d H n k:=by
 cases l with
 |nil=>trivial
 |cons a l=>
  obtain⟨f,g,i,rfl,h⟩:=AJU (show ar3 _ call l H n k from h);exact⟨a,f,g,i,rfl,h⟩
abbrev AJB{s:Am->V->V->V->V->V->Heap->Nat->KV->Prop}{call:Am}{l:aAo}(h:xb s call l H n k):∃a0 a1 a2 d f,l=[a0,a1,a2,d,f]/\s call a0 a1 a2 d f H n k:=by
 cases l with
 |nil=>trivial
 |cons a l=>
  obtain⟨g,i,m,p,rfl,h⟩:=AI6 (show YO _ call l H n k from h);exact⟨a,g,i,m,p,rfl,h⟩
abbrev AOh{s:Am->V->V->V->V->V->V->Heap->Nat->KV->Prop}{call:Am}{l:aAo}(h:pm s call l H n k):∃a0 a1 a2 d f g,l=[a0,a1,a2,d,f,g]/\s call a0 a1 a2 d f g H n k:=by
 cases l with
 |nil=>trivial
 |cons a l=>
  obtain⟨i,m,p,q,u,rfl,h⟩:=AJB (show xb _ call l H n k from h);exact⟨a,i,m,p,q,u,rfl,h⟩
def ADL(G:AQ)(af:AF)(s:SF):Prop:=∀call callE,O7 call callE->EJ callE->∀args H n k,s call args H n k->AGZ af G callE args H n k
section
variable{E:RS}{G:AQ}{H:Heap}{x:X}{a:Int}
end
@[congr] theorem AUb{o o':Option V}(f:V->Prop)(h:o=o'):AD o f=AD o' f:=by rw[h]
@[congr] theorem AUo{α:Type}{o o':Option α}(f:α->Prop)(h:o=o'):CR o f=CR o' f:=by rw[h]
@[congr] theorem AUZ{b b':Bool}(p:Prop)(h:b=b'):B7 b p=B7 b' p:=by rw[h]
@[congr] theorem ARS{v v':V}(p q:Prop)(h:v=v'):AS v p q=AS v' p q:=by rw[h]
@[congr] theorem AUt{c c':V}{b:Bool}{e:Option V}(f:V->Prop)(h:c=c'):Ax c b e f=Ax c' b e f:=by rw[h]
@[congr] theorem ATR{c c':V}{b:Bool}{t:KV->Prop}{H:Heap}{n:Nat}(f:KV)(h:c=c'):Et c b t H n f=Et c' b t H n f:=by rw[h]
@[congr] theorem AT2(F:T AF)(G:AQ)(f:Nat){a a':List V}{H H':Heap}{n n':Nat}(k:KV)(h0:a=a')(h1:H=H')(h2:n=n'):Runs F G f a H n k=Runs F G f a' H' n' k:=by simp[*]
abbrev AJ(v:V)(f:V->Prop):AD (some v) f=f v:=rfl
abbrev SG{d:Type}(v:d)(f:d->Prop):CR (some v) f=f v:=rfl
abbrev YF(p:Prop):B7 true p=p:=rfl
abbrev Ah(p q:Prop):AS (.bool true) p q=p:=rfl
abbrev AZ(p q:Prop):AS (.bool false) p q=q:=rfl
abbrev AQ6(e:aAl)(f:V->Prop):Ax (.bool true) true e f=AD e f:=rfl
abbrev AQx(e:aAl)(f:V->Prop):Ax (.bool false) false e f=AD e f:=rfl
abbrev AVz(e:aAl)(f:V->Prop):Ax (.bool true) false e f=f (.CV []):=rfl
abbrev AWO(e:aAl)(f:V->Prop):Ax (.bool false) true e f=f (.CV []):=rfl
abbrev ADE(b:Bool)(e:aAl)(f:V->Prop):Ax (.CV []) b e f=f (.CV []):=rfl
abbrev AU3(t:KV->Prop)(H:Heap)(n:Nat)(f:KV):Et (.bool true) true t H n f=t f:=rfl
abbrev AVS(t:KV->Prop)(H:Heap)(n:Nat)(f:KV):Et (.bool false) false t H n f=t f:=rfl
abbrev AVW(t:KV->Prop)(H:Heap)(n:Nat)(f:KV):Et (.bool true) false t H n f=f (.CV []) H n:=rfl
abbrev AU1(t:KV->Prop)(H:Heap)(n:Nat)(f:KV):Et (.bool false) true t H n f=f (.CV []) H n:=rfl
abbrev AYf(b:Bool)(t:KV->Prop)(H:Heap)(n:Nat)(f:KV):Et (.CV []) b t H n f=f (.CV []) H n:=rfl
abbrev AWx(b:Bool):F0 (.bool b)=some (.bool (!b)):=by cases b<;>rfl
abbrev APw(a b:V):BI (.bool true) a b=some a:=rfl
abbrev APl(a b:V):BI (.bool false) a b=some b:=rfl
abbrev AP(off id o:Nat):AG off (.ptr id o)=some (.ptr id (o+off)):=by show CC _ _=_;simp
abbrev AB5(off id o:Nat):AG off (.gptr id o)=some (.gptr id (o+off)):=by show CC _ _=_;simp
abbrev A0(id o:Nat):AV (.ptr id o)=some (.ptr id o):=rfl
abbrev OC(a:V)(l:aAo):Do (.CV (a::l)) 0=some a:=rfl
abbrev N4(a b:V)(l:aAo):Do (.CV (a::b::l)) 1=some b:=rfl
abbrev AHD(a b c:V)(l:aAo):Do (.CV (a::b::c::l)) 2=some c:=rfl
abbrev AJH(a:V)(G:AQ)(H:Heap):AM a G H=Pe (lG a G H 1) λL=>nth L 0:=rfl
abbrev AIM(m:Nat)(a:V)(G:AQ)(H:Heap):AX m a G H=Pe (lG a G H m) λL=>some (.agg L):=rfl
abbrev xP(id off:Nat)(G:AQ)(H:Heap)(n:Nat):lG (.ptr id off) G H n=ZB H id off n:=rfl
abbrev ACF(L:LV)(f:LV->aAl):Pe (some L) f=f L:=rfl
def one(L:LV):LF:=.arr L.length 1 (T.set .e 0 L)
variable{P:KV}
abbrev AQw(h:Rb v=true):Au (BK v) H n P=P (.ptr n 0) (T.set H n (one (At v))) (n+1):=by show B7 _ (CS _ λe=>CS n λn=>P _ _ _)=_;rw[A8,A8,len_eq,h];rfl
variable{L:LV}
abbrev AIN{z:Nat}(h:L.length=z):Au (Af z [L] E0) H n P=P (.ptr n 0) (T.set H n (one L)) (n+1):=by show CS (len [L]) (λm=>CS n λn=>P (.ptr n 0) (T.set H n (.arr z m _)) (Nat.succ n))=_;rw[A8,A8,len_eq];subst h;rfl
variable{id:Nat}{m:Nat}
abbrev AHg(h:T.get H id=some (one L)){off:Nat}(u:0<m)(v:off+m<=L.length):ZB H id off m=some ((L.drop off).take m):=by
 unfold ZB;rw[h];show VV L.length 1 _ off m=_;unfold VV;have f:off/L.length=0:=N_ a6;have g:off%L.length=off:=_I a6;have i:Nat.blt (Nat.div off L.length) 1=true:=by simp;omega
 rw[i];have d:T.get (T.set T.e 0 L) (Nat.div off L.length)=some L:=by simp_all
 rw[d];show Wl L.length off m L=_;unfold Wl;cases k:band _ _ with
 |true=>
  simp only[A6,ez,beq_iff]at k;have p:off=0:=a6;simp[*]
 |false=>
  have q:Nat.ble (Nat.add (Nat.mod off L.length) m) L.length=true:=by rw[_e];show off%L.length+m<=L.length;omega
  rw[q];rw[aK,fK];show some (List.take m (List.drop (off%L.length) L))=_;simp[*]
abbrev ATO(h:T.get H id=some (one L)){off:Nat}{new:LV}(v:0<m)(k:new.length=m)(w:off+m<=L.length):cJ H id off m new=some (T.set H id (one (L.take off++(new++L.drop (off+m))))):=by
 unfold cJ;rw[h];show BB (stB L.length 1 _ off m new) _=_;have d:Nat.div off L.length=0:=N_ a6;have g:Nat.mod off L.length=off:=_I a6;have p:stB L.length 1 (T.set .e 0 L) off m new=some (one (L.take off++(new++L.drop (off+m)))):=by
  unfold stB;rw[d];show gE new L.length 1 _ off m L=_;unfold gE;rw[g,d];have f:(L.take off++(new++L.drop (off+m))).length=L.length:=by simp;omega
  cases i:band _ _ with
  |true=>
   simp only[A6,ez,beq_iff]at i;have⟨x,q⟩:=i;subst q;unfold one;rw[f];have:List.take 0 L++(new++List.drop (0+m) L)=new:=by simp[*]
   rw[this];rfl
  |false=>
   have u:Nat.ble (Nat.add off m) L.length=true:=by simp[*]
   rw[u];unfold one;rw[f,wv,k];rfl
 rw[p];rfl
variable{F:T AF}{G:AQ}{f:Nat}{af:AF}
abbrev hJ{s:SF}(d:T.get F f=some af)(g:ADL G af s){args:aAo}(h:s (Runs F G) args H n k):Runs F G f args H n k:=
 AGw d (g _ _ (λ_ _ _ _ _ h=>h) (rY F G) _ _ _ _ h)
def goN(x:X)(b:Bool)(d:jK)(o:AN):vE:=λG _ R H n k=>Ax (x.ev R) b (o.ev G R H) λv=>k (D0 d v R) H n
def goA(x:X)(b:Bool)(d:jK)(o:AA):vE:=λ_ _ R H n k=>Et (x.ev R) b (Au (o.al R) H n) H n λv H n=>k (D0 d v R) H n
def goE(x:X)(b:Bool)(d:jK)(o:AE):vE:=λG call R H n k=>Et (x.ev R) b (o.ex G call R H n) H n λv H n=>k (D0 d v R) H n
def AXy(x:X)(b:Bool)(d:jK)(o:AO):vE:=AO.rec (motive:=λ_=>vE) (goN x b d) (goA x b d) (goE x b d) o
def oAG(o:AA):gn:=λ_ _ d R H n k=>Au (o.al R) H n λv H n=>k (D0 d v R) H n
def AO.SC(o:AO):gn:=AO.rec (motive:=λ_=>gn) oN oAG oE o
def AY7(d:jK)(o:AO):vE:=λG call R H n k=>o.SC G call d R H n k
def pH.SC(o:pH):vE:=pH.rec (motive:=λ_=>vE) (λd g o=>Gd.rec (motive:=λ_=>jK->AO->vE) AY7 AXy g d o) o
abbrev AJG(o:pH):o.SC=o.ex:=by have⟨d,g,o⟩:=o;cases g<;>cases o<;>rfl
def AGt(l:List pH):vE:=
 List.rec (motive:=λ_=>vE) (λ_ _ R H n k=>k R H n) (λo _ g G call R H n k=>o.SC G call R H n λR H n=>g G call R H n k) l
abbrev AJZ:∀l:List pH,AGt l=Mu l
 |[]=>rfl
 |o::l=>by show(λG call R H n k=>o.SC G call R H n λR H n=>AGt l G call R H n k)=λG call R H n k=>o.ex G call R H n λR H n=>Mu l G call R H n k;rw[AJZ l,AJG]
def AUy(x:X)(b:Bool):mA:=λG R H d o k=>qf (x.ev R) b (o.ev G R H) (Ij (T.Ch d R.rg)) k
def AVP(g:Gd):mA:=Gd.rec (motive:=λ_=>mA) AXB AUy g
def AI.SC(i:AI):vE:=AI.rec (motive:=λ_=>vE) (λo=>o.SC) (λd g o G _ R H n k=>AVP g G R H d o (k R H n)) i
abbrev AUM(i:AI):i.SC=i.ex:=by
 cases i with
 |op o=>exact AJG o
 |re d g o=>rfl
def zX(l:List AI):vE:=
 List.rec (motive:=λ_=>vE) (λ_ _ R H n k=>k R H n) (λi _ g G call R H n k=>i.SC G call R H n λR H n=>g G call R H n k) l
abbrev AA8:∀l:List AI,zX l=Bg l
 |[]=>rfl
 |o::l=>by show(λG call R H n k=>o.SC G call R H n λR H n=>zX l G call R H n k)=λG call R H n k=>o.ex G call R H n λR H n=>Bg l G call R H n k;rw[AA8 l,AUM]
def AME(l:List pH):M:=λG call _ R H n k _ _=>AGt l G call (.mk [] R) H n λE H n=>k E.rg H n
def AK5(l:List AI):M:=λG call _ R H n k _ _=>zX l G call (.mk [] R) H n λE H n=>k E.rg H n
def AC.SC(c:AC):M:=AC.rec (motive:=λ_=>M) ANk AME AK5 ANc AE9 zu AC1 ANG AUE c
abbrev nT:∀c:AC,c.SC=c.Tl
 |.skip=>rfl
 |.ops l=>by show AME l=AOK l;unfold AME AOK;rw[AJZ]
 |.reg l=>by show AK5 l=AOO l;unfold AK5 AOO;rw[AA8]
 |.seq a b=>by show ANc a b a.SC b.SC=ANc a b a.Tl b.Tl;rw[nT a,nT b]
 |.cond x a b=>by show AE9 x a b a.SC b.SC=AE9 x a b a.Tl b.Tl;rw[nT a,nT b]
 |.block i a=>by show zu i a a.SC=zu i a a.Tl;rw[nT a]
 |.loop a=>by show AC1 a a.SC=AC1 a a.Tl;rw[nT a]
 |.exit i=>rfl
 |.ret=>rfl
inductive An:Type 1 where
 |n
 |s (a b:An)
 |j (S:K) (a b:An)
 |c (a b:An)
 |b (a:An)
 |l (σ:Type) (bd:(σ->Prop)->σ->Prop) (st:F3->Heap->Nat->σ) (a:(σ->Prop)->An)
abbrev M2:=AC->AQ->Am->F3->Heap->Nat->K->KX->K->Prop
def AC.AFN(c:AC)(f:AC->AC->Prop):Prop:=AC.rec (motive:=λ_=>Prop) False (λ_=>False) (λ_=>False) (λa b _ _=>f a b) (λ_ _ _ _ _=>False) (λ_ _ _=>False) (λ_ _=>False) (λ_=>False) False c
def AC.AHJ(c:AC)(f:X->AC->AC->Prop):Prop:=AC.rec (motive:=λ_=>Prop) False (λ_=>False) (λ_=>False) (λ_ _ _ _=>False) (λx a b _ _=>f x a b) (λ_ _ _=>False) (λ_ _=>False) (λ_=>False) False c
def AC.ADP(c:AC)(f:Nat->AC->Prop):Prop:=AC.rec (motive:=λ_=>Prop) False (λ_=>False) (λ_=>False) (λ_ _ _ _=>False) (λ_ _ _ _ _=>False) (λi a _=>f i a) (λ_ _=>False) (λ_=>False) False c
def AC.AGi(c:AC)(f:AC->Prop):Prop:=AC.rec (motive:=λ_=>Prop) False (λ_=>False) (λ_=>False) (λ_ _ _ _=>False) (λ_ _ _ _ _=>False) (λ_ _ _=>False) (λa _=>f a) (λ_=>False) False c
def An.ex(L:Ma)(an:An):M2:=
 An.rec (motive:=λ_=>M2)
  (λc G call R H n k x r=>c.SC G call 0 R H n k x r)
  (λ_ _ ga gb c G call R H n k x r=>c.AFN λa b=>ga a G call R H n (λR H n=>gb b G call R H n k x r) x r)
  (λS _ _ ga _ c G call R H n _ x r=>c.AFN λa _=>ga a G call R H n S x r)
  (λ_ _ ga gb c G call R H n k x r=>c.AHJ λy a b=>AS (y.ev (.mk [] R)) (ga a G call R H n k x r) (gb b G call R H n k x r))
  (λ_ ga c G call R H n k x r=>c.ADP λi a=>ga a G call R H n k (Ew i k x) r)
  (fun σ bd st _ _ c _ _ R H n _ _ _=>c.AGi λ_=>L σ bd (st R H n)) an
abbrev M3:=AC->AQ->Am->K->KX->K->Prop
def An.ob(L:Ma)(an:An):M3:=
 An.rec (motive:=λ_=>M3)
  (λ_ _ _ _ _ _=>True)
  (λ_ b ga gb c G call k x r=>c.AFN λa d=>ga a G call (λR H n=>b.ex L d G call R H n k x r) x r/\gb d G call k x r)
  (λS _ b ga gb c G call k x r=>c.AFN λa d=>ga a G call S x r/\(∀R H n,S R H n=b.ex L d G call R H n k x r)/\gb d G call k x r)
  (λ_ _ ga gb c G call k x r=>c.AHJ λ_ a b=>ga a G call k x r/\gb b G call k x r)
  (λ_ ga c G call k x r=>c.ADP λi a=>ga a G call k (Ew i k x) r)
  (fun σ bd st a ga c G call _ x r=>c.AGi λd=>∀ih:σ->Prop,(∀R H n,bd ih (st R H n)=(a ih).ex L d G call R H n (λR H n=>ih (st R H n)) x r)/\ga ih d G call (λR H n=>ih (st R H n)) x r) an
def AC.AM3(c:AC)(f:AC->AC->Prop):Prop:=AC.rec (motive:=λ_=>Prop) True (λ_=>True) (λ_=>True) (λa b _ _=>f a b) (λ_ _ _ _ _=>True) (λ_ _ _=>True) (λ_ _=>True) (λ_=>True) True c
def AC.AQX(c:AC)(f:X->AC->AC->Prop):Prop:=AC.rec (motive:=λ_=>Prop) True (λ_=>True) (λ_=>True) (λ_ _ _ _=>True) (λx a b _ _=>f x a b) (λ_ _ _=>True) (λ_ _=>True) (λ_=>True) True c
def AC.ANQ(c:AC)(f:Nat->AC->Prop):Prop:=AC.rec (motive:=λ_=>Prop) True (λ_=>True) (λ_=>True) (λ_ _ _ _=>True) (λ_ _ _ _ _=>True) (λi a _=>f i a) (λ_ _=>True) (λ_=>True) True c
def AC.AQE(c:AC)(f:AC->Prop):Prop:=AC.rec (motive:=λ_=>Prop) True (λ_=>True) (λ_=>True) (λ_ _ _ _=>True) (λ_ _ _ _ _=>True) (λ_ _ _=>True) (λa _=>f a) (λ_=>True) True c
def An.obR(L:Ma)(an:An):M3:=
 An.rec (motive:=λ_=>M3)
  (λ_ _ _ _ _ _=>True)
  (λ_ b ga gb c G call k x r=>c.AM3 λa d=>ga a G call (λR H n=>b.ex L d G call R H n k x r) x r/\gb d G call k x r)
  (λS _ b ga gb c G call k x r=>c.AM3 λa d=>ga a G call S x r/\(∀R H n,S R H n=S R H n)/\gb d G call k x r)
  (λ_ _ ga gb c G call k x r=>c.AQX λ_ a b=>ga a G call k x r/\gb b G call k x r)
  (λ_ ga c G call k x r=>c.ANQ λi a=>ga a G call k (Ew i k x) r)
  (fun σ bd st a ga c G call _ x r=>c.AQE λd=>∀ih:σ->Prop,(∀R H n,bd ih (st R H n)=bd ih (st R H n))/\ga ih d G call (λR H n=>ih (st R H n)) x r) an
abbrev An.AUH(L:Ma)(an:An):∀c G call k x r,an.obR L c G call k x r:=by
 induction an with
 |n=>exact λ_ _ _ _ _ _=>trivial
 |s a b d f=>intro c;cases c<;>first|exact λ_ _ _ _ _=>trivial|exact λG call k x r=>⟨d _ _ _ _ _ _,f _ _ _ _ _ _⟩
 |j S a b d f=>intro c;cases c<;>first|exact λ_ _ _ _ _=>trivial|exact λG call k x r=>⟨d _ _ _ _ _ _,λ_ _ _=>rfl,f _ _ _ _ _ _⟩
 |c a b d f=>intro c;cases c<;>first|exact λ_ _ _ _ _=>trivial|exact λG call k x r=>⟨d _ _ _ _ _ _,f _ _ _ _ _ _⟩
 |b a d=>intro c;cases c<;>first|exact λ_ _ _ _ _=>trivial|exact λG call k x r=>d _ _ _ _ _ _
 |l i m st a d=>intro c;cases c<;>first|exact λ_ _ _ _ _=>trivial|exact λG call k x r g=>⟨λ_ _ _=>rfl,d g _ _ _ _ _ _⟩
variable{c:AC}
abbrev ABj{f:AC->AC->Prop}(h:c.AFN f):∃a b,c=.seq a b/\f a b:=by cases c<;>first|exact⟨_,_,rfl,h⟩|trivial
abbrev AHf{f:X->AC->AC->Prop}(h:c.AHJ f):∃x a b,c=.cond x a b/\f x a b:=by cases c<;>first|exact⟨_,_,_,rfl,h⟩|trivial
abbrev AEV{f:Nat->AC->Prop}(h:c.ADP f):∃i a,c=.block i a/\f i a:=by cases c<;>first|exact⟨_,_,rfl,h⟩|trivial
abbrev AGL{f:AC->Prop}(h:c.AGi f):∃a,c=.loop a/\f a:=by cases c<;>first|exact⟨_,rfl,h⟩|trivial
section
variable{G:AQ}{call callE:Am}
abbrev APc{k:K}{x:KX}{r:K}(h:c.SC G call 0 R H n k x r):c.Tl G call 0 R H n k x r:=by simp_all[nT]
abbrev ma(d:O7 call callE)(u:EJ callE):∀(c:AC) (R:F3) (H:Heap) (n:Nat) (k k':K) (x g:KX) (r f:K),(∀R H n,k R H n->k' R H n)->(∀i R H n,x i R H n->g i R H n)->(∀R H n,r R H n->f R H n)->
 c.Tl G call 0 R H n k x r->c.Tl G callE 0 R H n k' g f
 |.skip,R,H,n,k,k',x,g,r,f,m,q,p,h=>m _ _ _ h
 |.ops l,R,H,n,k,k',x,g,r,f,m,q,p,h=>ANh u l _ H n (λE H n h=>m _ _ _ h) (AHp u d G l _ H n _ h)
 |.reg l,R,H,n,k,k',x,g,r,f,m,q,p,h=>AHS u l _ H n (λE H n h=>m _ _ _ h) (yo u d G l _ H n _ h)
 |.seq a b,R,H,n,k,k',x,g,r,f,m,q,p,h=>ma d u a R H n _ _ x g r f (λR H n h=>ma d u b R H n k k' x g r f m q p h) q p h
 |.cond c a b,R,H,n,k,k',x,g,r,f,m,q,p,h=>by have w:=h;exact yv w (ma d u a R H n k k' x g r f m q p) (ma d u b R H n k k' x g r f m q p)
 |.block y a,R,H,n,k,k',x,g,r,f,m,q,p,h=>by refine ma d u a R H n k k' _ _ r f m (λi R H n h=>?_) p h;unfold Ew at h⊢;cases v:Nat.beq i y<;>simp_all
 |.loop a,R,H,n,k,k',x,g,r,f,m,q,p,h=>by intro I A;exact h I λR H n v=>A R H n (ma d u a R H n I I x g r f (λ_ _ _ h=>h) q p v)
 |.exit i,R,H,n,k,k',x,g,r,f,m,q,p,h=>q _ _ _ _ h
 |.ret,R,H,n,k,k',x,g,r,f,m,q,p,h=>p _ _ _ h
abbrev An.ok{L:Ma}(hL:AMv L)(B:O7 call callE)(J:EJ callE)(an:An):∀(c:AC) (k k':K) (x d:KX) (r f:K),(∀R H n,k R H n->k' R H n)->(∀i R H n,x i R H n->d i R H n)->(∀R H n,r R H n->f R H n)->
 an.ob L c G call k x r->∀R H n,an.ex L c G call R H n k x r->c.Tl G callE 0 R H n k' d f:=by
 induction an with
 |n=>exact λc k k' x d r f q p m _ R H n h=>ma B J c R H n k k' x d r f q p m (APc h)
 |s a b g u=>
  intro c k k' x d r f q p m ho R H n h;obtain⟨v,w,rfl,ho⟩:=ABj ho;exact g v _ _ x d r f (λR H n h=>u w k k' x d r f q p m ho.2 R H n h) p m ho.1 R H n h
 |j S a b g u=>
  intro c k k' x d r f q p m ho R H n h;obtain⟨v,w,rfl,ho⟩:=ABj ho;exact g v S (λR H n=>w.Tl G callE 0 R H n k' d f) x d r f (λR H n h=>u w k k' x d r f q p m ho.2.2 R H n (ho.2.1 R H n▸h)) p m ho.1 R H n h
 |c a b g u=>
  intro c k k' x d r f q p m ho R H n h;obtain⟨y,v,w,rfl,ho⟩:=AHf ho;exact yv (P':=v.Tl G callE 0 R H n k' d f) (Q':=w.Tl G callE 0 R H n k' d f) h (λh=>g v k k' x d r f q p m ho.1 R H n h) (λh=>u w k k' x d r f q p m ho.2 R H n h)
 |b a g=>
  intro c k k' x d r f q p m ho R H n h;obtain⟨i,v,rfl,ho⟩:=AEV ho;refine g v k k' (Ew i k x) (Ew i k' d) r f q (λj R H n h=>?_) m ho R H n h;unfold Ew at h⊢;cases O:Nat.beq j i<;>simp_all
 |l D E st a g=>
  intro c k k' x d r f q p m ho R H n h;obtain⟨v,rfl,ho⟩:=AGL ho;intro I M;have N:L D E (st R H n):=h;refine hL D E (λs=>∀R H n,st R H n=s->I R H n) (λA C s F R H n e=>?_) _ N R H n rfl;subst e;rw[(ho A).1]at F;exact M R H n (g A v (λR H n=>A (st R H n)) I x d r f (λR H n h=>C _ h R H n rfl) p m (ho A).2 R H n F)
end
def gf(L:Ma)(an:An)(af:AF)(G:AQ)(call:Am)(args:aAo)(H:Heap)(n:Nat)(k:KV):Prop:=
 AF.rec (motive:=λ_=>Prop) (λnp code res d dg=>B7 (Nat.beq (len args) np) (an.ex L code G call (ZR args 0 .e) H n (GZ res dg d G call k) iE (GZ res dg d G call k))) (λf=>nE f G args H n k) af
def u5(L:Ma)(an:An)(af:AF)(G:AQ)(call:Am)(k:KV):Prop:=
 AF.rec (motive:=λ_=>Prop) (λ_ code res d dg=>an.ob L code G call (GZ res dg d G call k) iE (GZ res dg d G call k)) (λ_=>True) af
def AWF(L:Ma)(an:An)(af:AF)(G:AQ)(call:Am)(k:KV):Prop:=
 AF.rec (motive:=λ_=>Prop) (λ_ code res d dg=>an.obR L code G call (GZ res dg d G call k) iE (GZ res dg d G call k)) (λ_=>True) af
variable{an:An}
abbrev obs{L:Ma}{call:Am}(h:AWF L an af G call k=u5 L an af G call k):u5 L an af G call k:=by
 rw[<-h];cases af with
 |mk=>exact An.AUH ..
 |nat=>trivial
abbrev nG{L:Ma}(hL:AMv L){call callE:Am}(f:O7 call callE)(i:EJ callE){args:aAo}(ho:u5 L an af G call k)(h:gf L an af G call args H n k):AGZ af G callE args H n k:=by
 cases af with
 |nat=>exact h
 |mk p g res d dg=>
 have m:B7 _ _:=h;show B7 _ _;rw[Du]at m⊢;exact⟨m.1,An.ok hL f i an g _ _ _ _ _ _ (λR H n h=>Y7 i f res dg d G k R H n h) (λ_ _ _ _ h=>h) (λR H n h=>Y7 i f res dg d G k R H n h) ho _ _ _ m.2⟩
section
variable{L:Ma}(hL:AMv L){G:AQ}{af:AF}(an:Am->KV->An)(ho:∀call k,AWF L (an call k) af G call k=u5 L (an call k) af G call k:=by intro _ _;kernel_rfl)
include hL ho
abbrev uN{s:Am->Heap->Nat->KV->Prop}(h:∀call H n k,s call H n k=gf L (an call k) af G call [] H n k:=by intros;kernel_rfl):ADL G af (eU s):=λcall callE d g l H n k f=>by obtain⟨rfl,f⟩:=AIB f;exact nG hL d g (obs (ho call k)) (h .. ▸f)
abbrev fI{s:Am->V->Heap->Nat->KV->Prop}(h:∀call d H n k,s call d H n k=gf L (an call k) af G call [d] H n k:=by intros;kernel_rfl):ADL G af (fH s):=λcall callE f i l H n k g=>by obtain⟨d,rfl,g⟩:=AIj g;exact nG hL f i (obs (ho call k)) (h .. ▸g)
abbrev OO{s:Am->V->V->Heap->Nat->KV->Prop}(h:∀call d f H n k,s call d f H n k=gf L (an call k) af G call [d,f] H n k:=by intros;kernel_rfl):ADL G af (NR s):=λcall callE g m l H n k i=>by obtain⟨d,f,rfl,i⟩:=AJQ i;exact nG hL g m (obs (ho call k)) (h .. ▸i)
abbrev sf3{s:Am->V->V->V->Heap->Nat->KV->Prop}(h:∀call d f g H n k,s call d f g H n k=gf L (an call k) af G call [d,f,g] H n k:=by intros;kernel_rfl):ADL G af (ar3 s):=λcall callE i p l H n k m=>by obtain⟨d,f,g,rfl,m⟩:=AJU m;exact nG hL i p (obs (ho call k)) (h .. ▸m)
abbrev gQ{s:Am->V->V->V->V->Heap->Nat->KV->Prop}(h:∀call d f g i H n k,s call d f g i H n k=gf L (an call k) af G call [d,f,g,i] H n k:=by intros;kernel_rfl):ADL G af (YO s):=λcall callE m q l H n k p=>by obtain⟨d,f,g,i,rfl,p⟩:=AI6 p;exact nG hL m q (obs (ho call k)) (h .. ▸p)
abbrev sf5{s:Am->V->V->V->V->V->Heap->Nat->KV->Prop}(h:∀call d f g i m H n k,s call d f g i m H n k=gf L (an call k) af G call [d,f,g,i,m] H n k:=by intros;kernel_rfl):ADL G af (xb s):=λcall callE p u l H n k q=>by obtain⟨d,f,g,i,m,rfl,q⟩:=AJB q;exact nG hL p u (obs (ho call k)) (h .. ▸q)
abbrev p7{s:Am->V->V->V->V->V->V->Heap->Nat->KV->Prop}(h:∀call d f g i m p H n k,s call d f g i m p H n k=gf L (an call k) af G call [d,f,g,i,m,p] H n k:=by intros;kernel_rfl):ADL G af (pm s):=λcall callE q v l H n k u=>by obtain⟨d,f,g,i,m,p,rfl,u⟩:=AOh u;exact nG hL q v (obs (ho call k)) (h .. ▸u)
end
def inR(l:List (Nat×Nat))(t:Nat):Bool:=l.any λp=>Nat.ble p.1 t&&Nat.ble t p.2
def av(l:aAw):List (Nat×Wk):=l.map λj=>(j,.plain)
def Dy(n:Nat):List (Nat×Wk):=av (List.range n)
def Ad(o:Option AF):AF:=o.getD (.mk 0 .skip [] .no 0)
abbrev AL{o:Option AF}(h:o.isSome=true):o=some (Ad o):=by
 cases o with
 |none=>cases h
 |some a=>rfl
variable{fn:Func}{d:AFc}{dg:Nat}
abbrev mp.one{P:Program}{loc:Nat->Bool}{g:Bool}(i:P.funcs[f]? =some fn)(k:(fn.name== "runtime.NumGoroutine")=false)
 (m:fr P loc g d dg fn=some af) (p:af.dg=dg) (hi:AGM af.dp=true):mp P F f af:=.code ⟨⟨fn,loc,g,d,i,k,p▸m⟩,.inl hi⟩
abbrev mp.two{P:Program}{g:AF}{loc:Nat->Bool}{i:Bool}(m:P.funcs[f]? =some fn)(p:(fn.name== "runtime.NumGoroutine")=false)
 (q:fr P loc i d dg fn=some af) (k:af.dg=dg) (u:T.get F dg=some g) (hi:AGM g.dp=true):mp P F f af:=.code ⟨⟨fn,loc,i,d,m,p,k▸q⟩,.inr ⟨g,k▸u,hi⟩⟩
end Go.BN
namespace Go.BN
abbrev AV4(x y:Int):B2.ev .lss (.int .i64 x 0) (.int .i64 y 0)=some (.bool (decide (x<y))):=by show R9 _=_;simp
abbrev ALt(x y:Int):B2.ev .leq (.int .i64 x 0) (.int .i64 y 0)=some (.bool (decide (x<=y))):=by show R9 _=_;simp
abbrev eq_i(x y:Int):BM (.one .int) false (.int .i64 x 0) (.int .i64 y 0)=some (.bool (x==y)):=by show Ux (K8 (some _) λb=>some b)=_;rw[PD];cases x==y<;>rfl
abbrev AML(x y:Int):BM (.one .int) true (.int .i64 x 0) (.int .i64 y 0)=some (.bool (!(x==y))):=by show Ux (K8 (some _) λb=>some _)=_;rw[PD];cases x==y<;>rfl
abbrev AEi(x:Int):BM (.one .int) true (.int .i64 x 0) (.int .i64 x 0)=some (.bool false):=by simp[AML]
abbrev wrap64(a:Int):IntKind.wrap .i64 a=if 9223372036854775808<=a%18446744073709551616 then a%18446744073709551616-18446744073709551616 else a%18446744073709551616:=by show(if(true&&decide (a%18446744073709551616≥9223372036854775808))=true then a%18446744073709551616-18446744073709551616 else a%18446744073709551616)=_;simp
abbrev NX{x:Int}(d: -9223372036854775808<=x)(f:x<9223372036854775808):IntKind.wrap .i64 x=x:=by simp[wrap64];omega
end Go.BN
