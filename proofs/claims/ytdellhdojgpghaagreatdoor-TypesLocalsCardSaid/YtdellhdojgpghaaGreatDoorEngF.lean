/- Part of a proof; nothing is assumed. -/
import Derived.Test.YtdellhdojgpghaaGreatDoorEngE
set_option linter.unusedVariables false
set_option linter.unusedSimpArgs false
noncomputable section
namespace Go.Bj
def P2.beq(p:P2):P2->Bool:=
 P2.rec (motive:=λ_=>P2->Bool) (λq=>P2.rec (motive:=λ_=>Bool) true (λ_ _=>false) (λ_ _=>false) q)
  (λ_ g q=>P2.rec (motive:=λ_=>Bool) false (λq _=>g q) (λ_ _=>false) q)
  (λ_ g q=>P2.rec (motive:=λ_=>Bool) false (λ_ _=>false) (λq _=>g q) q) p
theorem P2.AFU:∀p:P2,P2.beq p p=true
 |.h=>rfl
 |.z p=>P2.AFU p
 |.o p=>P2.AFU p
abbrev rg(R:Je)(p:P2):V:=Nh (T.ED p R)
theorem ne{R:Je}{p q:P2}{v a:V}(hb:P2.beq q p=false)(h:rg R p=a):rg (T.aG v q R) p=a:=by
 show Nh (T.ED p (T.aG v q R))=a
 rw[T.I9 _ _ _ _ (λe=>by subst e;rw[P2.AFU]at hb;cases hb)]
 exact h
abbrev Ed:=(σ:Type)->((σ->Prop)->σ->Prop)->σ->Prop
def Cb(L:Ed):Prop:=∀(σ:Type) (b:(σ->Prop)->σ->Prop) (P:σ->Prop),(∀ih,(∀s,ih s->P s)->∀s,b ih s->P s)->∀s,L σ b s->P s
def lfp:Ed:=fun σ b s=>∀I:σ->Prop,(∀s,b I s->I s)->I s
theorem Aq:Cb lfp:=λ_ _ P h _ hL=>hL P (h P λ_ h=>h)
def E0:RS:=.mk [] .e
def Cj(c a b:V):Option V:=c.pO λt=>AC1 t (some a) (some b)
def Aa(a:V)(G:AV)(H:Heap):Option V:=PY (ldP a G H 1) λL=>nth L 0
def Ah(n:Nat)(a:V)(G:AV)(H:Heap):Option V:=PY (ldP a G H n) λL=>some (.agg L)
def KP(a:V):Option V:=a.pO λb=>mkB (QD b)
def AS5(k:IntKind)(a:V):Option V:=a.JK λ_ n s=>mkI k n s
def AU3(off:Nat)(a:V):Option V:=a.uP λl=>nth l off
def AaA(off n:Nat)(a:V):Option V:=a.uP λl=>some (.agg (Yc n (lX off l)))
def ABb(a i:V):Option V:=a.RV λln c=>XK i λi=>BF (Nat.blt i ln) (CW (AQS c i) λb=>some (.int .u8 (.ofNat b) 0))
def AW8(n:Nat)(a i:V):Option V:=a.uP λl=>XK i λi=>BF (Nat.blt i n) (nth l i)
def HY(a:V)(i:Nat):Option V:=a.AKk λl=>nth l i
def ZY(a:V):Option V:=a.RV λn _=>some (.int .i64 (.ofNat n) 0)
def AQr(c:CK)(ok:Bool)(z m k:V)(H:Heap):Option V:=RF H m λes _=>Bl (sO c k es 0) (APA ok z)
def BN(z:LV)(ps:List (Nat×Nat×X)):Option V:=BF (iq ps E0) (some (.agg (ADA ps E0 z)))
def AYu(a:V)(G:AV)(H:Heap):Option V:=BF (QD (isStr a)) (Bl (elems a G H 1) λl=>Bl (yM l) λc=>f3 (len l) c 0 λn c _=>.str n c)
def ARD(s c:V):Option V:=s.RV λn cd=>c.JK λk b _=>BF (Nat.beq (kno k) 4) (ARk b λb=>BF (Nat.blt b 256) (Oo (cu b n cd 0) λi=>some (.int .i64 i 0)))
def Fg(v:V)(k:KA):Prop:=EJ (Wi v) (DU (len (BA v)) λe=>k (.arr e 1 (T.set .e 0 (BA v))) λid=>.ptr id 0)
def Bd(sz:Nat)(a b:V)(H:Heap)(n:Nat)(k:KV):Prop:=EJ (band (Wi b) (Nat.beq (len (BA b)) sz)) (EN (stP a H sz (BA b)) λH=>k .undef H n)
def Oq(esz bs:Nat)(a b:V)(G:AV)(H:Heap)(n:Nat)(k:KV):Prop:=EN (elems b G H esz) λLS=>AGA a G esz bs LS H n k
def AYd(c:CK)(m key v:V)(H:Heap)(n:Nat)(k:KV):Prop:=AGx m H (ANV c key v) λH=>k .undef H n
def WQ(x:V)(args:List V)(call:BD)(H:Heap)(n:Nat)(k:KV):Prop:=V.WB x λf a c=>call f (cat a (cat args c)) H n k
def AGO(d x:V)(args:List V)(H:Heap)(n:Nat)(k:KV):Prop:=V.WB x λf a c=>k (.EI (.fn f (cat a args) c::xC d)) H n
def Aal(a:V)(H:Heap)(n:Nat)(k:KV):Prop:=EN (a.RV λl c=>some (.ptr l c)) λv=>V.ABm v λl c=>
 DU n λn=>k (.G6 n 0 l 1) (T.set H n (.arr 1 l (Ew (TV l c) 0 .e))) (Nat.succ n)
def BX(c:V)(b:Bool)(e:Option V)(P:V->Prop):Prop:=nM c b (AP e P) (P (.EI []))
def CB(al:KA->Prop)(H:Heap)(n:Nat)(P:KV):Prop:=al λb f=>DU n λn=>P (f n) (T.set H n b) (Nat.succ n)
def Le(c:V)(b:Bool)(t:KV->Prop)(H:Heap)(n:Nat)(P:KV):Prop:=nM c b (t P) (P (.EI []) H n)
inductive AVr where
 |t (v:V)|c1 (v:V)|cn (v:V) (n:Nat)
def AVr.get(r:AVr)(G:AV)(H:Heap):Option V:=AVr.rec (λv=>some v) (λv=>Aa v G H) (λv n=>Ah n v G H) r
def CP(l:List AVr)(G:AV)(H:Heap):Option LV:=
 List.rec (motive:=λ_=>Option LV) (some []) (λr _ g=>Bl (r.get G H) λv=>Bl g λvs=>some (v::vs)) l
section
variable{E:RS}{G:AV}{H:Heap}{n:Nat}{x y z w:X}{a b c d:V}
variable{call:BD}
end
section
variable{L:List V}{R:Je}{G:AV}{call:BD}{H:Heap}{n:Nat}{a b:V}
end
def AJw(c:V)(b:Bool)(e:Option V)(a:V)(P:Prop):Prop:=nM c b (AP e λv=>EJ (BH v a) P) P
def kR(k:K):KE:=λE H n=>k E.rg H n
theorem AGR{v:V}{b:Bool}{P Q P' Q':Prop}(h:Ac v b P Q)(hp:P->P')(hq:Q->Q'):Ac v b P' Q':=by
 rw[Y3]at h⊢
 obtain⟨t,ht,h⟩:=h
 refine⟨t,ht,?_⟩
 split
 ·rename_i e;rw[if_pos e]at h;exact hp h
 ·rename_i e;rw[if_neg e]at h;exact hq h
section
variable{G:AV}{call callE:BD}
section
variable{L:List V}{R:Je}{H:Heap}{n:Nat}{l:List AOp}{k:KE}{p:P2}{x:X}{b:Bool}{c a:V}
end
section
variable{L:List V}{R:Je}{H:Heap}{n:Nat}{l:List AI}{k:KE}{p:P2}{x:X}{b:Bool}{c a:V}
theorem i0{K:K}(h:K R H n):CU [] G callE (.mk L R) H n (kR K):=h
end
section
variable{R:Je}{H:Heap}{n:Nat}{k:K}{x:KX}{r:K}{a b:AC}
end
section
variable{res rs:List AR}{dg:Nat}{R:Je}{H:Heap}{n:Nat}{k:KV}{l:LV}{p:P2}{a:V}{vs:List AVr}
end
end
abbrev SF:=BD->List V->Heap->Nat->KV->Prop
def ar0(s:BD->Heap->Nat->KV->Prop):SF:=λcall l H n k=>List.rec (motive:=λ_=>Prop) (s call H n k) (λ_ _ _=>False) l
def YV(s:BD->V->Heap->Nat->KV->Prop):SF:=λcall l H n k=>List.rec (motive:=λ_=>Prop) False (λa l _=>ar0 (λcall=>s call a) call l H n k) l
def Z7(s:BD->V->V->Heap->Nat->KV->Prop):SF:=λcall l H n k=>List.rec (motive:=λ_=>Prop) False (λa l _=>YV (λcall=>s call a) call l H n k) l
def ar3(s:BD->V->V->V->Heap->Nat->KV->Prop):SF:=λcall l H n k=>List.rec (motive:=λ_=>Prop) False (λa l _=>Z7 (λcall=>s call a) call l H n k) l
def ar4(s:BD->V->V->V->V->Heap->Nat->KV->Prop):SF:=λcall l H n k=>List.rec (motive:=λ_=>Prop) False (λa l _=>ar3 (λcall=>s call a) call l H n k) l
def ar5(s:BD->V->V->V->V->V->Heap->Nat->KV->Prop):SF:=λcall l H n k=>List.rec (motive:=λ_=>Prop) False (λa l _=>ar4 (λcall=>s call a) call l H n k) l
def ar6(s:BD->V->V->V->V->V->V->Heap->Nat->KV->Prop):SF:=λcall l H n k=>List.rec (motive:=λ_=>Prop) False (λa l _=>ar5 (λcall=>s call a) call l H n k) l
theorem AOC{s:BD->Heap->Nat->KV->Prop}{call:BD}{l:List V}{H:Heap}{n:Nat}{k:KV}(h:ar0 s call l H n k):l=[]/\s call H n k:=by
 cases l with
 |nil=>exact⟨rfl,h⟩
 |cons=>exact(show False from h).elim
theorem AO2{s:BD->V->Heap->Nat->KV->Prop}{call:BD}{l:List V}{H:Heap}{n:Nat}{k:KV}(h:YV s call l H n k):∃a0,l=[a0]/\s call a0 H n k:=by
 cases l with
 |nil=>exact(show False from h).elim
 |cons a l=>
  obtain⟨rfl,h⟩:=AOC (show ar0 (λcall=>s call a) call l H n k from h)
  exact⟨a,rfl,h⟩
theorem AOj{s:BD->V->V->Heap->Nat->KV->Prop}{call:BD}{l:List V}{H:Heap}{n:Nat}{k:KV}(h:Z7 s call l H n k):∃a0 a1,l=[a0,a1]/\s call a0 a1 H n k:=by
 cases l with
 |nil=>exact(show False from h).elim
 |cons a l=>
  obtain⟨b0,rfl,h⟩:=AO2 (show YV (λcall=>s call a) call l H n k from h)
  exact⟨a,b0,rfl,h⟩
theorem AOv{s:BD->V->V->V->Heap->Nat->KV->Prop}{call:BD}{l:List V}{H:Heap}{n:Nat}{k:KV}(h:ar3 s call l H n k):∃a0 a1 a2,l=[a0,a1,a2]/\s call a0 a1 a2 H n k:=by
 cases l with
 |nil=>exact(show False from h).elim
 |cons a l=>
  obtain⟨b0,b1,rfl,h⟩:=AOj (show Z7 (λcall=>s call a) call l H n k from h)
  exact⟨a,b0,b1,rfl,h⟩
theorem AO6{s:BD->V->V->V->V->Heap->Nat->KV->Prop}{call:BD}{l:List V}{H:Heap}{n:Nat}{k:KV}(h:ar4 s call l H n k):∃a0 a1 a2 a3,l=[a0,a1,a2,a3]/\s call a0 a1 a2 a3 H n k:=by
 cases l with
 |nil=>exact(show False from h).elim
 |cons a l=>
  obtain⟨b0,b1,b2,rfl,h⟩:=AOv (show ar3 (λcall=>s call a) call l H n k from h)
  exact⟨a,b0,b1,b2,rfl,h⟩
theorem APB{s:BD->V->V->V->V->V->Heap->Nat->KV->Prop}{call:BD}{l:List V}{H:Heap}{n:Nat}{k:KV}(h:ar5 s call l H n k):∃a0 a1 a2 a3 a4,l=[a0,a1,a2,a3,a4]/\s call a0 a1 a2 a3 a4 H n k:=by
 cases l with
 |nil=>exact(show False from h).elim
 |cons a l=>
  obtain⟨b0,b1,b2,b3,rfl,h⟩:=AO6 (show ar4 (λcall=>s call a) call l H n k from h)
  exact⟨a,b0,b1,b2,b3,rfl,h⟩
theorem AVC{s:BD->V->V->V->V->V->V->Heap->Nat->KV->Prop}{call:BD}{l:List V}{H:Heap}{n:Nat}{k:KV}(h:ar6 s call l H n k):∃a0 a1 a2 a3 a4 a5,l=[a0,a1,a2,a3,a4,a5]/\s call a0 a1 a2 a3 a4 a5 H n k:=by
 cases l with
 |nil=>exact(show False from h).elim
 |cons a l=>
  obtain⟨b0,b1,b2,b3,b4,rfl,h⟩:=APB (show ar5 (λcall=>s call a) call l H n k from h)
  exact⟨a,b0,b1,b2,b3,b4,rfl,h⟩
def AJv(G:AV)(af:AF)(s:SF):Prop:=∀call callE,TW call callE->Gn callE->∀args H n k,s call args H n k->ANT af G callE args H n k
section
variable{E:RS}{G:AV}{H:Heap}{x:X}{a:Int}
end
@[congr] theorem AZg{o o':Option V}(f:V->Prop)(h:o=o'):AP o f=AP o' f:=by rw[h]
@[congr] theorem AZj{α:Type}{o o':Option α}(f:α->Prop)(h:o=o'):EN o f=EN o' f:=by rw[h]
@[congr] theorem AZb{b b':Bool}(p:Prop)(h:b=b'):EJ b p=EJ b' p:=by rw[h]
@[congr] theorem AWM{v v':V}(b:Bool)(p q:Prop)(h:v=v'):Ac v b p q=Ac v' b p q:=by rw[h]
@[congr] theorem AZf{c c':V}{b:Bool}{e:Option V}(f:V->Prop)(h:c=c'):BX c b e f=BX c' b e f:=by rw[h]
@[congr] theorem AXm{c c':V}{b:Bool}{t:KV->Prop}{H:Heap}{n:Nat}(f:KV)(h:c=c'):Le c b t H n f=Le c' b t H n f:=by rw[h]
@[congr] theorem AZV(F:T AF)(G:AV)(f:Nat){a a':List V}{H H':Heap}{n n':Nat}(k:KV)(h0:a=a')(h1:H=H')(h2:n=n'):Runs F G f a H n k=Runs F G f a' H' n' k:=by rw[h0,h1,h2]
theorem AU(v:V)(f:V->Prop):AP (some v) f=f v:=rfl
theorem Qe{α:Type}(v:α)(f:α->Prop):EN (some v) f=f v:=rfl
theorem UF(p:Prop):EJ true p=p:=rfl
theorem A8(p q:Prop):Ac (.bool true) true p q=p:=rfl
theorem Ak(p q:Prop):Ac (.bool false) true p q=q:=rfl
theorem AWP(e:Option V)(f:V->Prop):BX (.bool true) true e f=AP e f:=rfl
theorem AWu(e:Option V)(f:V->Prop):BX (.bool false) false e f=AP e f:=rfl
theorem Abh(e:Option V)(f:V->Prop):BX (.bool true) false e f=f (.EI []):=rfl
theorem Aaz(e:Option V)(f:V->Prop):BX (.bool false) true e f=f (.EI []):=rfl
theorem AdC(b:Bool)(e:Option V)(f:V->Prop):BX (.EI []) b e f=f (.EI []):=rfl
theorem AaB(t:KV->Prop)(H:Heap)(n:Nat)(f:KV):Le (.bool true) true t H n f=t f:=rfl
theorem Abb(t:KV->Prop)(H:Heap)(n:Nat)(f:KV):Le (.bool false) false t H n f=t f:=rfl
theorem Abp(t:KV->Prop)(H:Heap)(n:Nat)(f:KV):Le (.bool true) false t H n f=f (.EI []) H n:=rfl
theorem AZ4(t:KV->Prop)(H:Heap)(n:Nat)(f:KV):Le (.bool false) true t H n f=f (.EI []) H n:=rfl
theorem Ac3(b:Bool)(t:KV->Prop)(H:Heap)(n:Nat)(f:KV):Le (.EI []) b t H n f=f (.EI []) H n:=rfl
theorem AWw(b:Bool):KP (.bool b)=some (.bool (!b)):=by cases b<;>rfl
theorem AVU(a b:V):Cj (.bool true) a b=some a:=rfl
theorem AUa(a b:V):Cj (.bool false) a b=some b:=rfl
theorem AY(off id o:Nat):AQ off (.ptr id o)=some (.ptr id (o+off)):=by show CW (Nat.add o off) _=_;rw[BP];rfl
theorem AOT(off id o:Nat):AQ off (.gptr id o)=some (.gptr id (o+off)):=by show CW (Nat.add o off) _=_;rw[BP];rfl
theorem AUT(id o:Nat):Ae (.ptr id o)=some (.ptr id o):=rfl
theorem ZF(a:V)(l:List V):HY (.EI (a::l)) 0=some a:=rfl
theorem ZN(a b:V)(l:List V):HY (.EI (a::b::l)) 1=some b:=rfl
theorem ANn(a b c:V)(l:List V):HY (.EI (a::b::c::l)) 2=some c:=rfl
theorem ADs(a:V)(G:AV)(H:Heap):Aa a G H=PY (ldP a G H 1) λL=>nth L 0:=rfl
theorem AHZ(m:Nat)(a:V)(G:AV)(H:Heap):Ah m a G H=PY (ldP a G H m) λL=>some (.agg L):=rfl
theorem vH(id off:Nat)(G:AV)(H:Heap)(n:Nat):ldP (.ptr id off) G H n=aB H id off n:=rfl
theorem AJH(L:LV)(f:LV->Option V):PY (some L) f=f L:=rfl
def one(L:LV):Qc:=.arr L.length 1 (T.set .e 0 L)
theorem AWr{v:V}{H:Heap}{n:Nat}{P:KV}(h:Wi v=true):CB (Fg v) H n P=P (.ptr n 0) (T.set H n (one (BA v))) (n+1):=by
 show EJ (Wi v) (DU (len (BA v)) λe=>DU n λn=>P (.ptr n 0) (T.set H n (.arr e 1 (T.set .e 0 (BA v)))) (Nat.succ n))=_
 rw[BL,BL,len_eq,h]
 rfl
theorem AOs{z:Nat}{L:LV}{H:Heap}{n:Nat}{P:KV}(h:L.length=z):CB (Ap z [L] E0) H n P=P (.ptr n 0) (T.set H n (one L)) (n+1):=by
 show DU (len [L]) (λm=>DU n λn=>P (.ptr n 0) (T.set H n (.arr z m (Ew [L] 0 .e))) (Nat.succ n))=_
 rw[BL,BL,len_eq]
 subst h
 rfl
theorem ANr{H:Heap}{id:Nat}{L:LV}(h:T.get H id=some (one L)){off m:Nat}(hm:0<m)(hl:off+m<=L.length):aB H id off m=some ((L.drop off).take m):=by
 unfold aB
 rw[h]
 show ldB L.length 1 (T.set .e 0 L) off m=_
 unfold ldB
 have hdiv:off/L.length=0:=Nat.div_eq_of_lt (by omega)
 have hmod:off%L.length=off:=Nat.mod_eq_of_lt (by omega)
 have hb:Nat.blt (Nat.div off L.length) 1=true:=by rw[Nat.blt_eq];show off/L.length<1;omega
 rw[hb]
 show Bl (T.get (T.set T.e 0 L) (Nat.div off L.length)) (ldC L.length off m)=_
 have hg2:T.get (T.set T.e 0 L) (Nat.div off L.length)=some L:=by
  show T.get (T.set T.e 0 L) (off/L.length)=some L
  rw[hdiv];simp
 rw[hg2]
 show ldC L.length off m L=_
 unfold ldC
 cases hc:band (Nat.beq m L.length) (Nat.beq (Nat.mod off L.length) 0)with
 |true=>
  simp only[BO,Bool.and_eq_true,beq_iff]at hc
  obtain⟨h1,h2⟩:=hc
  have h2':off=0:=by have:off%L.length=0:=h2;omega
  subst h2'
  simp[h1]
 |false=>
  have hf:Nat.ble (Nat.add (Nat.mod off L.length) m) L.length=true:=by
   rw[Nat.ble_eq];show off%L.length+m<=L.length;omega
  rw[hf]
  show some (Yc m (lX (Nat.mod off L.length) L))=_
  rw[iI,qB]
  show some (List.take m (List.drop (off%L.length) L))=_
  rw[hmod]
theorem AXW{H:Heap}{id:Nat}{L:LV}(h:T.get H id=some (one L)){off m:Nat}{new:LV}(hm:0<m)(hn:new.length=m)(hl:off+m<=L.length):stH H id off m new=some (T.set H id (one (L.take off++(new++L.drop (off+m))))):=by
 unfold stH
 rw[h]
 show Bl (stB L.length 1 (T.set .e 0 L) off m new) (λb=>some (T.set H id b))=_
 have hdiv:Nat.div off L.length=0:=Nat.div_eq_of_lt (by omega)
 have hmod:Nat.mod off L.length=off:=Nat.mod_eq_of_lt (by omega)
 have hs:stB L.length 1 (T.set .e 0 L) off m new=some (one (L.take off++(new++L.drop (off+m)))):=by
  unfold stB
  rw[hdiv]
  show Bl (T.get (T.set T.e 0 L) 0) (stC new L.length 1 (T.set .e 0 L) off m)=_
  rw[T.Au]
  show stC new L.length 1 (T.set .e 0 L) off m L=_
  unfold stC
  rw[hmod,hdiv]
  have hlen:(L.take off++(new++L.drop (off+m))).length=L.length:=by simp;omega
  cases hc:band (Nat.beq m L.length) (Nat.beq off 0)with
  |true=>
   simp only[BO,Bool.and_eq_true,beq_iff]at hc
   obtain⟨h1,h2⟩:=hc
   subst h2
   show some (Qc.arr L.length 1 (T.set (T.set T.e 0 L) 0 new))=_
   unfold one
   rw[hlen]
   have:List.take 0 L++(new++List.drop (0+m) L)=new:=by simp[h1]
   rw[this];rfl
  |false=>
   have hf:Nat.ble (Nat.add off m) L.length=true:=by rw[Nat.ble_eq];exact hl
   rw[hf]
   show some (Qc.arr L.length 1 (T.set (T.set T.e 0 L) 0 (AMi new off L)))=_
   unfold one
   rw[hlen,AIv,hn];rfl
 rw[hs]
 rfl
theorem AE0{F:T AF}{G:AV}{f:Nat}{af:AF}{s:SF}(hf:T.get F f=some af)(hs:AJv G af s){args:List V}{H:Heap}{n:Nat}{k:KV}(h:s (Runs F G) args H n k):Runs F G f args H n k:=
 AM9 hf (hs _ _ (λ_ _ _ _ _ h=>h) (ABz F G) _ _ _ _ h)
def goN(x:X)(b:Bool)(d:sW)(o:AN):XpT:=λG _ R H n k=>BX (x.ev R) b (o.ev G R H) λv=>k (GR d v R) H n
def goA(x:X)(b:Bool)(d:sW)(o:AA):XpT:=λ_ _ R H n k=>Le (x.ev R) b (CB (o.al R) H n) H n λv H n=>k (GR d v R) H n
def goE(x:X)(b:Bool)(d:sW)(o:AE):XpT:=λG call R H n k=>Le (x.ev R) b (o.ex G call R H n) H n λv H n=>k (GR d v R) H n
def AdZ(x:X)(b:Bool)(d:sW)(o:AO):XpT:=AO.rec (motive:=λ_=>XpT) (goN x b d) (goA x b d) (goE x b d) o
def oAG(o:AA):XoT:=λ_ _ d R H n k=>CB (o.al R) H n λv H n=>k (GR d v R) H n
def AO.exG(o:AO):XoT:=AO.rec (motive:=λ_=>XoT) oN oAG oE o
def Acy(d:sW)(o:AO):XpT:=λG call R H n k=>o.exG G call d R H n k
def AOp.exG(o:AOp):XpT:=AOp.rec (motive:=λ_=>XpT) (λd g o=>Gd.rec (motive:=λ_=>sW->AO->XpT) Acy AdZ g d o) o
theorem APP(o:AOp):o.exG=o.ex:=by
 obtain⟨d,g,o⟩:=o
 cases g<;>cases o<;>rfl
def AM0(l:List AOp):XpT:=
 List.rec (motive:=λ_=>XpT) (λ_ _ R H n k=>k R H n) (λo _ g G call R H n k=>o.exG G call R H n λR H n=>g G call R H n k) l
theorem APF:∀l:List AOp,AM0 l=Qi l
 |[]=>rfl
 |o::l=>by
  show(λG call R H n k=>o.exG G call R H n λR H n=>AM0 l G call R H n k)=λG call R H n k=>o.ex G call R H n λR H n=>Qi l G call R H n k
  rw[APF l,APP]
def AZr(x:X)(b:Bool):ReT:=λG R H d o k=>AJw (x.ev R) b (o.ev G R H) (Nh (T.ED d R.rg)) k
def AbL(g:Gd):ReT:=Gd.rec (motive:=λ_=>ReT) Aba AZr g
def AI.exG(i:AI):XpT:=AI.rec (motive:=λ_=>XpT) (λo=>o.exG) (λd g o G _ R H n k=>AbL g G R H d o (k R H n)) i
theorem AYy(i:AI):i.exG=i.ex:=by
 cases i with
 |op o=>exact APP o
 |re d g o=>cases g<;>rfl
def AGN(l:List AI):XpT:=
 List.rec (motive:=λ_=>XpT) (λ_ _ R H n k=>k R H n) (λi _ g G call R H n k=>i.exG G call R H n λR H n=>g G call R H n k) l
theorem AHI:∀l:List AI,AGN l=CU l
 |[]=>rfl
 |o::l=>by
  show(λG call R H n k=>o.exG G call R H n λR H n=>AGN l G call R H n k)=λG call R H n k=>o.ex G call R H n λR H n=>CU l G call R H n k
  rw[AHI l,AYy]
def ASm(l:List AOp):M:=λG call _ R H n k _ _=>AM0 l G call (.mk [] R) H n λE H n=>k E.rg H n
def ARs(l:List AI):M:=λG call _ R H n k _ _=>AGN l G call (.mk [] R) H n λE H n=>k E.rg H n
def AC.exG(c:AC):M:=AC.rec (motive:=λ_=>M) DJ ASm ARs ARm AKo AFw AIj AQx AYC c
theorem zQ:∀c:AC,c.exG=c.exL
 |.skip=>rfl
 |.ops l=>by show ASm l=AT7 l;unfold ASm AT7;rw[APF]
 |.reg l=>by show ARs l=AUG l;unfold ARs AUG;rw[AHI]
 |.seq a b=>by show ARm a b a.exG b.exG=ARm a b a.exL b.exL;rw[zQ a,zQ b]
 |.cond x a b=>by show AKo x a b a.exG b.exG=AKo x a b a.exL b.exL;rw[zQ a,zQ b]
 |.block i a=>by show AFw i a a.exG=AFw i a a.exL;rw[zQ a]
 |.loop a=>by show AIj a a.exG=AIj a a.exL;rw[zQ a]
 |.exit i=>rfl
 |.ret=>rfl
inductive An:Type 1 where
 |n
 |s (a b:An)
 |j (S:K) (a b:An)
 |c (a b:An)
 |b (a:An)
 |l (σ:Type) (bd:(σ->Prop)->σ->Prop) (st:Je->Heap->Nat->σ) (a:(σ->Prop)->An)
abbrev M2:=AC->AV->BD->Je->Heap->Nat->K->KX->K->Prop
def AC.ALd(c:AC)(f:AC->AC->Prop):Prop:=AC.rec (motive:=λ_=>Prop) False (λ_=>False) (λ_=>False) (λa b _ _=>f a b) (λ_ _ _ _ _=>False) (λ_ _ _=>False) (λ_ _=>False) (λ_=>False) False c
def AC.AN8(c:AC)(f:X->AC->AC->Prop):Prop:=AC.rec (motive:=λ_=>Prop) False (λ_=>False) (λ_=>False) (λ_ _ _ _=>False) (λx a b _ _=>f x a b) (λ_ _ _=>False) (λ_ _=>False) (λ_=>False) False c
def AC.AJ3(c:AC)(f:Nat->AC->Prop):Prop:=AC.rec (motive:=λ_=>Prop) False (λ_=>False) (λ_=>False) (λ_ _ _ _=>False) (λ_ _ _ _ _=>False) (λi a _=>f i a) (λ_ _=>False) (λ_=>False) False c
def AC.AN2(c:AC)(f:AC->Prop):Prop:=AC.rec (motive:=λ_=>Prop) False (λ_=>False) (λ_=>False) (λ_ _ _ _=>False) (λ_ _ _ _ _=>False) (λ_ _ _=>False) (λa _=>f a) (λ_=>False) False c
def An.ex(L:Ed)(an:An):M2:=
 An.rec (motive:=λ_=>M2)
  (λc G call R H n k x r=>c.exG G call 0 R H n k x r)
  (λ_ _ ga gb c G call R H n k x r=>c.ALd λa b=>ga a G call R H n (λR H n=>gb b G call R H n k x r) x r)
  (λS _ _ ga _ c G call R H n _ x r=>c.ALd λa _=>ga a G call R H n S x r)
  (λ_ _ ga gb c G call R H n k x r=>c.AN8 λy a b=>Ac (y.ev (.mk [] R)) true (ga a G call R H n k x r) (gb b G call R H n k x r))
  (λ_ ga c G call R H n k x r=>c.AJ3 λi a=>ga a G call R H n k (IQ i k x) r)
  (fun σ bd st _ _ c _ _ R H n _ _ _=>c.AN2 λ_=>L σ bd (st R H n)) an
abbrev M3:=AC->AV->BD->K->KX->K->Prop
def An.ob(L:Ed)(an:An):M3:=
 An.rec (motive:=λ_=>M3)
  (λ_ _ _ _ _ _=>True)
  (λ_ b ga gb c G call k x r=>c.ALd λa d=>ga a G call (λR H n=>b.ex L d G call R H n k x r) x r/\gb d G call k x r)
  (λS _ b ga gb c G call k x r=>c.ALd λa d=>ga a G call S x r/\(∀R H n,S R H n=b.ex L d G call R H n k x r)/\gb d G call k x r)
  (λ_ _ ga gb c G call k x r=>c.AN8 λ_ a b=>ga a G call k x r/\gb b G call k x r)
  (λ_ ga c G call k x r=>c.AJ3 λi a=>ga a G call k (IQ i k x) r)
  (fun σ bd st a ga c G call _ x r=>c.AN2 λd=>∀ih:σ->Prop,(∀R H n,bd ih (st R H n)=(a ih).ex L d G call R H n (λR H n=>ih (st R H n)) x r)/\ga ih d G call (λR H n=>ih (st R H n)) x r) an
def AC.AS7(c:AC)(f:AC->AC->Prop):Prop:=AC.rec (motive:=λ_=>Prop) True (λ_=>True) (λ_=>True) (λa b _ _=>f a b) (λ_ _ _ _ _=>True) (λ_ _ _=>True) (λ_ _=>True) (λ_=>True) True c
def AC.AVL(c:AC)(f:X->AC->AC->Prop):Prop:=AC.rec (motive:=λ_=>Prop) True (λ_=>True) (λ_=>True) (λ_ _ _ _=>True) (λx a b _ _=>f x a b) (λ_ _ _=>True) (λ_ _=>True) (λ_=>True) True c
def AC.ARP(c:AC)(f:Nat->AC->Prop):Prop:=AC.rec (motive:=λ_=>Prop) True (λ_=>True) (λ_=>True) (λ_ _ _ _=>True) (λ_ _ _ _ _=>True) (λi a _=>f i a) (λ_ _=>True) (λ_=>True) True c
def AC.AUE(c:AC)(f:AC->Prop):Prop:=AC.rec (motive:=λ_=>Prop) True (λ_=>True) (λ_=>True) (λ_ _ _ _=>True) (λ_ _ _ _ _=>True) (λ_ _ _=>True) (λa _=>f a) (λ_=>True) True c
def An.obR(L:Ed)(an:An):M3:=
 An.rec (motive:=λ_=>M3)
  (λ_ _ _ _ _ _=>True)
  (λ_ b ga gb c G call k x r=>c.AS7 λa d=>ga a G call (λR H n=>b.ex L d G call R H n k x r) x r/\gb d G call k x r)
  (λS _ b ga gb c G call k x r=>c.AS7 λa d=>ga a G call S x r/\(∀R H n,S R H n=S R H n)/\gb d G call k x r)
  (λ_ _ ga gb c G call k x r=>c.AVL λ_ a b=>ga a G call k x r/\gb b G call k x r)
  (λ_ ga c G call k x r=>c.ARP λi a=>ga a G call k (IQ i k x) r)
  (fun σ bd st a ga c G call _ x r=>c.AUE λd=>∀ih:σ->Prop,(∀R H n,bd ih (st R H n)=bd ih (st R H n))/\ga ih d G call (λR H n=>ih (st R H n)) x r) an
theorem An.AYa(L:Ed)(an:An):∀c G call k x r,an.obR L c G call k x r:=by
 induction an with
 |n=>exact λ_ _ _ _ _ _=>trivial
 |s a b iha ihb=>intro c;cases c<;>first|exact λ_ _ _ _ _=>trivial|exact λG call k x r=>⟨iha _ _ _ _ _ _,ihb _ _ _ _ _ _⟩
 |j S a b iha ihb=>intro c;cases c<;>first|exact λ_ _ _ _ _=>trivial|exact λG call k x r=>⟨iha _ _ _ _ _ _,λ_ _ _=>rfl,ihb _ _ _ _ _ _⟩
 |c a b iha ihb=>intro c;cases c<;>first|exact λ_ _ _ _ _=>trivial|exact λG call k x r=>⟨iha _ _ _ _ _ _,ihb _ _ _ _ _ _⟩
 |b a iha=>intro c;cases c<;>first|exact λ_ _ _ _ _=>trivial|exact λG call k x r=>iha _ _ _ _ _ _
 |l σ bd st a iha=>intro c;cases c<;>first|exact λ_ _ _ _ _=>trivial|exact λG call k x r ih=>⟨λ_ _ _=>rfl,iha ih _ _ _ _ _ _⟩
theorem AHo{c:AC}{f:AC->AC->Prop}(h:c.ALd f):∃a b,c=.seq a b/\f a b:=by
 cases c<;>first|exact⟨_,_,rfl,h⟩|exact(show False from h).elim
theorem ANp{c:AC}{f:X->AC->AC->Prop}(h:c.AN8 f):∃x a b,c=.cond x a b/\f x a b:=by
 cases c<;>first|exact⟨_,_,_,rfl,h⟩|exact(show False from h).elim
theorem AKf{c:AC}{f:Nat->AC->Prop}(h:c.AJ3 f):∃i a,c=.block i a/\f i a:=by
 cases c<;>first|exact⟨_,_,rfl,h⟩|exact(show False from h).elim
theorem AMn{c:AC}{f:AC->Prop}(h:c.AN2 f):∃a,c=.loop a/\f a:=by
 cases c<;>first|exact⟨_,rfl,h⟩|exact(show False from h).elim
section
variable{G:AV}{call callE:BD}
theorem AT8{c:AC}{R:Je}{H:Heap}{n:Nat}{k:K}{x:KX}{r:K}(h:c.exG G call 0 R H n k x r):c.exL G call 0 R H n k x r:=by rwa [zQ]at h
theorem yu(hle:TW call callE)(hd:Gn callE):∀(c:AC) (R:Je) (H:Heap) (n:Nat) (k k':K) (x x':KX) (r r':K),(∀R H n,k R H n->k' R H n)->(∀i R H n,x i R H n->x' i R H n)->(∀R H n,r R H n->r' R H n)->
 c.exL G call 0 R H n k x r->c.exL G callE 0 R H n k' x' r'
 |.skip,R,H,n,k,k',x,x',r,r',hk,hx,hr,h=>hk _ _ _ h
 |.ops l,R,H,n,k,k',x,x',r,r',hk,hx,hr,h=>ASE hd l _ H n (λE H n h=>hk _ _ _ h) (AMR hd hle G l _ H n _ h)
 |.reg l,R,H,n,k,k',x,x',r,r',hk,hx,hr,h=>AMk hd l _ H n (λE H n h=>hk _ _ _ h) (AGC hd hle G l _ H n _ h)
 |.seq a b,R,H,n,k,k',x,x',r,r',hk,hx,hr,h=>yu hle hd a R H n _ _ x x' r r' (λR H n h=>yu hle hd b R H n k k' x x' r r' hk hx hr h) hx hr h
 |.cond c a b,R,H,n,k,k',x,x',r,r',hk,hx,hr,h=>by
  have h':Ac (c.ev (.mk [] R)) true (a.exL G call 0 R H n k x r) (b.exL G call 0 R H n k x r):=h
  show Ac (c.ev (.mk [] R)) true (a.exL G callE 0 R H n k' x' r') (b.exL G callE 0 R H n k' x' r')
  exact AGR h' (yu hle hd a R H n k k' x x' r r' hk hx hr) (yu hle hd b R H n k k' x x' r r' hk hx hr)
 |.block id a,R,H,n,k,k',x,x',r,r',hk,hx,hr,h=>by
  refine yu hle hd a R H n k k' (IQ id k x) (IQ id k' x') r r' hk (λi R H n h=>?_) hr h
  unfold IQ at h⊢
  cases hb:Nat.beq i id with
  |true=>rw[hb]at h;exact hk _ _ _ h
  |false=>rw[hb]at h;exact hx _ _ _ _ h
 |.loop a,R,H,n,k,k',x,x',r,r',hk,hx,hr,h=>by
  intro I hI
  exact h I λR H n hb=>hI R H n (yu hle hd a R H n I I x x' r r' (λ_ _ _ h=>h) hx hr hb)
 |.exit i,R,H,n,k,k',x,x',r,r',hk,hx,hr,h=>hx _ _ _ _ h
 |.ret,R,H,n,k,k',x,x',r,r',hk,hx,hr,h=>hr _ _ _ h
theorem An.ok{L:Ed}(hL:Cb L)(hle:TW call callE)(hd:Gn callE)(an:An):∀(c:AC) (k k':K) (x x':KX) (r r':K),(∀R H n,k R H n->k' R H n)->(∀i R H n,x i R H n->x' i R H n)->(∀R H n,r R H n->r' R H n)->
 an.ob L c G call k x r->∀R H n,an.ex L c G call R H n k x r->c.exL G callE 0 R H n k' x' r':=by
 induction an with
 |n=>exact λc k k' x x' r r' hk hx hr _ R H n h=>yu hle hd c R H n k k' x x' r r' hk hx hr (AT8 h)
 |s a b iha ihb=>
  intro c k k' x x' r r' hk hx hr ho R H n h
  obtain⟨c1,c2,rfl,ho⟩:=AHo ho
  exact iha c1 _ _ x x' r r' (λR H n h=>ihb c2 k k' x x' r r' hk hx hr ho.2 R H n h) hx hr ho.1 R H n h
 |j S a b iha ihb=>
  intro c k k' x x' r r' hk hx hr ho R H n h
  obtain⟨c1,c2,rfl,ho⟩:=AHo ho
  exact iha c1 S (λR H n=>c2.exL G callE 0 R H n k' x' r') x x' r r' (λR H n h=>ihb c2 k k' x x' r r' hk hx hr ho.2.2 R H n (ho.2.1 R H n▸h)) hx hr ho.1 R H n h
 |c a b iha ihb=>
  intro c k k' x x' r r' hk hx hr ho R H n h
  obtain⟨y,c1,c2,rfl,ho⟩:=ANp ho
  exact AGR (P':=c1.exL G callE 0 R H n k' x' r') (Q':=c2.exL G callE 0 R H n k' x' r') h (λh=>iha c1 k k' x x' r r' hk hx hr ho.1 R H n h) (λh=>ihb c2 k k' x x' r r' hk hx hr ho.2 R H n h)
 |b a iha=>
  intro c k k' x x' r r' hk hx hr ho R H n h
  obtain⟨i,c1,rfl,ho⟩:=AKf ho
  refine iha c1 k k' (IQ i k x) (IQ i k' x') r r' hk (λj R H n h=>?_) hr ho R H n h
  unfold IQ at h⊢
  cases hb:Nat.beq j i with
  |true=>rw[hb]at h;exact hk _ _ _ h
  |false=>rw[hb]at h;exact hx _ _ _ _ h
 |l σ bd st a iha=>
  intro c k k' x x' r r' hk hx hr ho R H n h
  obtain⟨c1,rfl,ho⟩:=AMn ho
  intro I hI
  have h':L σ bd (st R H n):=h
  refine hL σ bd (λs=>∀R H n,st R H n=s->I R H n) (λih hih s hs R H n e=>?_) _ h' R H n rfl
  subst e
  rw[(ho ih).1]at hs
  exact hI R H n (iha ih c1 (λR H n=>ih (st R H n)) I x x' r r' (λR H n h=>hih _ h R H n rfl) hx hr (ho ih).2 R H n hs)
end
def fEx(L:Ed)(an:An)(af:AF)(G:AV)(call:BD)(args:List V)(H:Heap)(n:Nat)(k:KV):Prop:=
 AF.rec (motive:=λ_=>Prop) (λnp code res d dg=>EJ (Nat.beq (len args) np) (an.ex L code G call (eU args 0 .e) H n (Jq res dg d G call k) noX (Jq res dg d G call k))) (λf=>AAF f G args H n k) af
def fOb(L:Ed)(an:An)(af:AF)(G:AV)(call:BD)(k:KV):Prop:=
 AF.rec (motive:=λ_=>Prop) (λ_ code res d dg=>an.ob L code G call (Jq res dg d G call k) noX (Jq res dg d G call k)) (λ_=>True) af
def Acl(L:Ed)(an:An)(af:AF)(G:AV)(call:BD)(k:KV):Prop:=
 AF.rec (motive:=λ_=>Prop) (λ_ code res d dg=>an.obR L code G call (Jq res dg d G call k) noX (Jq res dg d G call k)) (λ_=>True) af
theorem obs{L:Ed}{an:An}{af:AF}{G:AV}{call:BD}{k:KV}(h:Acl L an af G call k=fOb L an af G call k):fOb L an af G call k:=by
 rw[<-h];cases af with
 |mk=>exact An.AYa ..
 |nat=>exact trivial
theorem AAJ{L:Ed}(hL:Cb L){G:AV}{call callE:BD}(hle:TW call callE)(hd:Gn callE){an:An}{af:AF}{args:List V}{H:Heap}{n:Nat}{k:KV}(ho:fOb L an af G call k)(h:fEx L an af G call args H n k):ANT af G callE args H n k:=by
 cases af with
 |nat=>exact h
 |mk np code res d dg=>
 have h':EJ (Nat.beq (len args) np) (an.ex L code G call (eU args 0 .e) H n (Jq res dg d G call k) noX (Jq res dg d G call k)):=h
 show EJ (Nat.beq (len args) np) (code.exL G callE 0 (eU args 0 .e) H n (Jq res dg d G callE k) noX (Jq res dg d G callE k))
 rw[Fp]at h'⊢
 exact⟨h'.1,An.ok hL hle hd an code _ _ _ _ _ _ (λR H n h=>eG hd hle res dg d G k R H n h) (λ_ _ _ _ h=>h) (λR H n h=>eG hd hle res dg d G k R H n h) ho _ _ _ h'.2⟩
section
variable{L:Ed}(hL:Cb L){G:AV}{af:AF}{an:BD->KV->An}(ho:∀call k,fOb L (an call k) af G call k)
include hL ho
theorem sf0{s:BD->Heap->Nat->KV->Prop}(h:∀call H n k,s call H n k=fEx L (an call k) af G call [] H n k):AJv G af (ar0 s):=λcall callE hle hd l H n k hs=>by
 obtain⟨rfl,hs⟩:=AOC hs;exact AAJ hL hle hd (ho call k) (h .. ▸hs)
theorem Yg{s:BD->V->Heap->Nat->KV->Prop}(h:∀call a0 H n k,s call a0 H n k=fEx L (an call k) af G call [a0] H n k):AJv G af (YV s):=λcall callE hle hd l H n k hs=>by
 obtain⟨a0,rfl,hs⟩:=AO2 hs;exact AAJ hL hle hd (ho call k) (h .. ▸hs)
theorem gU{s:BD->V->V->Heap->Nat->KV->Prop}(h:∀call a0 a1 H n k,s call a0 a1 H n k=fEx L (an call k) af G call [a0,a1] H n k):AJv G af (Z7 s):=λcall callE hle hd l H n k hs=>by
 obtain⟨a0,a1,rfl,hs⟩:=AOj hs;exact AAJ hL hle hd (ho call k) (h .. ▸hs)
theorem sf3{s:BD->V->V->V->Heap->Nat->KV->Prop}(h:∀call a0 a1 a2 H n k,s call a0 a1 a2 H n k=fEx L (an call k) af G call [a0,a1,a2] H n k):AJv G af (ar3 s):=λcall callE hle hd l H n k hs=>by
 obtain⟨a0,a1,a2,rfl,hs⟩:=AOv hs;exact AAJ hL hle hd (ho call k) (h .. ▸hs)
theorem sf4{s:BD->V->V->V->V->Heap->Nat->KV->Prop}(h:∀call a0 a1 a2 a3 H n k,s call a0 a1 a2 a3 H n k=fEx L (an call k) af G call [a0,a1,a2,a3] H n k):AJv G af (ar4 s):=λcall callE hle hd l H n k hs=>by
 obtain⟨a0,a1,a2,a3,rfl,hs⟩:=AO6 hs;exact AAJ hL hle hd (ho call k) (h .. ▸hs)
theorem sf5{s:BD->V->V->V->V->V->Heap->Nat->KV->Prop}(h:∀call a0 a1 a2 a3 a4 H n k,s call a0 a1 a2 a3 a4 H n k=fEx L (an call k) af G call [a0,a1,a2,a3,a4] H n k):AJv G af (ar5 s):=λcall callE hle hd l H n k hs=>by
 obtain⟨a0,a1,a2,a3,a4,rfl,hs⟩:=APB hs;exact AAJ hL hle hd (ho call k) (h .. ▸hs)
theorem sf6{s:BD->V->V->V->V->V->V->Heap->Nat->KV->Prop}(h:∀call a0 a1 a2 a3 a4 a5 H n k,s call a0 a1 a2 a3 a4 a5 H n k=fEx L (an call k) af G call [a0,a1,a2,a3,a4,a5] H n k):AJv G af (ar6 s):=λcall callE hle hd l H n k hs=>by
 obtain⟨a0,a1,a2,a3,a4,a5,rfl,hs⟩:=AVC hs;exact AAJ hL hle hd (ho call k) (h .. ▸hs)
end
def inR(l:List (Nat×Nat))(t:Nat):Bool:=l.any λp=>Nat.ble p.1 t&&Nat.ble t p.2
def opp(l:List Nat):List (Nat×Wk):=l.map λj=>(j,.plain)
def PD(n:Nat):List (Nat×Wk):=opp (List.range n)
def BM(o:Option AF):AF:=o.getD (.mk 0 .skip [] .no 0)
theorem Ag{o:Option AF}(h:o.isSome=true):o=some (BM o):=by
 cases o with
 |none=>cases h
 |some a=>rfl
theorem zX.one{P:Program}{F:T AF}{f:Nat}{af:AF}{fn:Func}{loc:Nat->Bool}{df:Bool}{ords:AKO}{dg:Nat}(hf:P.funcs[f]? =some fn)(hn:(fn.name== "runtime.NumGoroutine")=false)
 (ht:trF P loc df ords dg fn=some af) (hd:af.dg=dg) (hi:AMp af.dp=true):zX P F f af:=.code ⟨⟨fn,loc,df,ords,hf,hn,hd▸ht⟩,.inl hi⟩
theorem zX.two{P:Program}{F:T AF}{f:Nat}{af af':AF}{fn:Func}{loc:Nat->Bool}{df:Bool}{ords:AKO}{dg:Nat}(hf:P.funcs[f]? =some fn)(hn:(fn.name== "runtime.NumGoroutine")=false)
 (ht:trF P loc df ords dg fn=some af) (hd:af.dg=dg) (ha:T.get F dg=some af') (hi:AMp af'.dp=true):zX P F f af:=.code ⟨⟨fn,loc,df,ords,hf,hn,hd▸ht⟩,.inr ⟨af',hd▸ha,hi⟩⟩
end Go.Bj
namespace Go.Bj
theorem AaE(x y:Int):B2.ev .lss (.int .i64 x 0) (.int .i64 y 0)=some (.bool (decide (x<y))):=by
 show mkB (ilt x y)=_
 rw[TL,WS]
theorem AW4(x y:Int):Dw (.one .int) true (.int .i64 x 0) (.int .i64 y 0)=some (.bool (!(x==y))):=by
 show ofB (Qg (some (ieq x y)) λb=>some (QD b))=_
 rw[WU];cases x==y<;>rfl
theorem ALR(x:Int):Dw (.one .int) true (.int .i64 x 0) (.int .i64 x 0)=some (.bool false):=by rw[AW4];simp
theorem wrap64(a:Int):IntKind.wrap .i64 a=if 9223372036854775808<=a%18446744073709551616 then a%18446744073709551616-18446744073709551616 else a%18446744073709551616:=by
 show(if(true&&decide (a%18446744073709551616≥9223372036854775808))=true then a%18446744073709551616-18446744073709551616 else a%18446744073709551616)=_
 by_cases h:9223372036854775808<=a%18446744073709551616
 ·rw[if_pos h,if_pos (by simpa using h)]
 ·rw[if_neg h,if_neg (by simpa using h)]
theorem RG{x:Int}(h1: -9223372036854775808<=x)(h2:x<9223372036854775808):IntKind.wrap .i64 x=x:=by
 rw[wrap64];split<;>omega
end Go.Bj
