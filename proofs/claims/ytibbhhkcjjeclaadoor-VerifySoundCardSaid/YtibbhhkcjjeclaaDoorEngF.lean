/- Part of a proof; nothing is assumed. -/
import Derived.Test.YtibbhhkcjjeclaaDoorEngE
set_option linter.unusedVariables false
set_option linter.unusedSimpArgs false
noncomputable section
namespace Go.Bv
def P2.beq(p:P2):P2->Bool:=
 P2.rec (motive:=λ_=>P2->Bool) (λq=>P2.rec (motive:=λ_=>Bool) true (λ_ _=>false) (λ_ _=>false) q)
  (λ_ g q=>P2.rec (motive:=λ_=>Bool) false (λq _=>g q) (λ_ _=>false) q)
  (λ_ g q=>P2.rec (motive:=λ_=>Bool) false (λ_ _=>false) (λq _=>g q) q) p
theorem P2.ACe:∀p:P2,P2.beq p p=true
 |.h=>rfl
 |.z p=>P2.ACe p
 |.o p=>P2.ACe p
abbrev rg(R:Jb)(p:P2):V:=NT (T.D6 p R)
theorem ne{R:Jb}{p q:P2}{v a:V}(hb:P2.beq q p=false)(h:rg R p=a):rg (T.aB v q R) p=a:=by
 show NT (T.D6 p (T.aB v q R))=a
 rw[T.I5 _ _ _ _ (λe=>by subst e;rw[P2.ACe]at hb;cases hb)]
 exact h
abbrev Eo:=(σ:Type)->((σ->Prop)->σ->Prop)->σ->Prop
def Dj(L:Eo):Prop:=∀(σ:Type) (b:(σ->Prop)->σ->Prop) (P:σ->Prop),(∀ih,(∀s,ih s->P s)->∀s,b ih s->P s)->∀s,L σ b s->P s
def lfp:Eo:=fun σ b s=>∀I:σ->Prop,(∀s,b I s->I s)->I s
theorem BK:Dj lfp:=λ_ _ P h _ hL=>hL P (h P λ_ h=>h)
def lpF(m:Nat):Eo:=fun σ b s=>Nat.rec (motive:=λ_=>σ->Prop) (λ_=>False) (λ_ g=>b g) m s
theorem ASQ(m:Nat):Dj (lpF m):=fun σ b P h=>by
 induction m with
 |zero=>exact λs hs=>(show False from hs).elim
 |succ m ih=>exact λs hs=>h _ ih s hs
def E0:RS:=.mk [] .e
def Aw(c a b:V):Option V:=c.nH λt=>xM t (some a) (some b)
def AV(a:V)(G:AX)(H:Heap):Option V:=VI (lC a G H 1) λL=>nth L 0
def Ae(n:Nat)(a:V)(G:AX)(H:Heap):Option V:=VI (lC a G H n) λL=>some (.agg L)
def FN(a:V):Option V:=a.nH λb=>mkB (aC b)
def AUW(a:V):Option V:=a.Ir λk n s=>mkI k (Int.neg n) s
def AAR(off:Nat)(a:V):Option V:=a.wV λl=>nth l off
def AJP(n esz:Nat)(a i:V):Option V:=Xf i λi=>BQ (Nat.blt i n) (AQ (Nat.mul i esz) a)
def AMr(a i:V):Option V:=a.U2 λln c=>Xf i λi=>BQ (Nat.blt i ln) (GX (ANl c i) λb=>some (.int .u8 (.ofNat b) 0))
def Bz(a:V)(i:Nat):Option V:=a.AGQ λl=>nth l i
def Qk(a:V):Option V:=a.U2 λn _=>some (.int .i64 (.ofNat n) 0)
def ACN(c:CK)(ok:Bool)(z m k:V)(H:Heap):Option V:=Ro H m λes _=>BR (nP c k es 0) (AJy ok z)
def BA(z:LV)(ps:List (Nat×Nat×X)):Option V:=BQ (jG ps E0) (some (.agg (AAH ps E0 z)))
def AUy(x y:V):Option V:=x.Ir λk a s=>y.Ir λk' b t=>BQ (band (keq k k') (Nat.beq (Nat.add s t) 0)) (some (.int k (Bool.rec a b (ilt a b)) 0))
def EM(v:V)(k:KA):Prop:=NI (YR v) (DU (len (Aq v)) λe=>k (.arr e 1 (T.set .e 0 (Aq v))) λid=>.ptr id 0)
def BZ(sz:Nat)(a b:V)(H:Heap)(n:Nat)(k:KV):Prop:=NI (band (YR b) (Nat.beq (len (Aq b)) sz)) (Gz (stP a H sz (Aq b)) λH=>k .undef H n)
def V8(esz bs:Nat)(a b:V)(G:AX)(H:Heap)(n:Nat)(k:KV):Prop:=Gz (elems b G H esz) λLS=>AEz a G esz bs LS H n k
def copyV(esz:Nat)(a b:V)(G:AX)(H:Heap)(n:Nat)(k:KV):Prop:=Gz (elems b G H esz) λLS=>ADR a esz LS H n k
def AOT(c:CK)(m key v:V)(H:Heap)(n:Nat)(k:KV):Prop:=ADI m H (AHs c key v) λH=>k .undef H n
def Ba(x:V)(args:List V)(call:Ap)(H:Heap)(n:Nat)(k:KV):Prop:=V.Xk x λf a c=>call f (cat a (cat args c)) H n k
def Aj(c:V)(b:Bool)(e:Option V)(P:V->Prop):Prop:=kH c b (AL e P) (P (.Df []))
def Bg(al:KA->Prop)(H:Heap)(n:Nat)(P:KV):Prop:=al λb f=>DU n λn=>P (f n) (T.set H n b) (Nat.succ n)
def D5(c:V)(b:Bool)(t:KV->Prop)(H:Heap)(n:Nat)(P:KV):Prop:=kH c b (t P) (P (.Df []) H n)
inductive AVr where
 |t (v:V)|c1 (v:V)|cn (v:V) (n:Nat)
def AVr.get(r:AVr)(G:AX)(H:Heap):Option V:=AVr.rec (λv=>some v) (λv=>AV v G H) (λv n=>Ae n v G H) r
def Dh(l:List AVr)(G:AX)(H:Heap):Option LV:=
 List.rec (motive:=λ_=>Option LV) (some []) (λr _ g=>BR (r.get G H) λv=>BR g λvs=>some (v::vs)) l
section
variable{E:RS}{G:AX}{H:Heap}{n:Nat}{x y z w:X}{a b c d:V}
variable{call:Ap}
end
section
variable{L:List V}{R:Jb}{G:AX}{call:Ap}{H:Heap}{n:Nat}{a b:V}
end
def uO(c:V)(b:Bool)(e:Option V)(a:V)(P:Prop):Prop:=kH c b (AL e λv=>NI (GK v a) P) P
def kR(k:K):KE:=λE H n=>k E.rg H n
theorem ABn{v:V}{b:Bool}{P Q P' Q':Prop}(h:AY v b P Q)(hp:P->P')(hq:Q->Q'):AY v b P' Q':=by
 rw[Yw]at h⊢
 obtain⟨t,ht,h⟩:=h
 refine⟨t,ht,?_⟩
 split
 ·rename_i e;rw[if_pos e]at h;exact hp h
 ·rename_i e;rw[if_neg e]at h;exact hq h
section
variable{G:AX}{call callE:Ap}
section
variable{L:List V}{R:Jb}{H:Heap}{n:Nat}{l:List uh}{k:KE}{p:P2}{x:X}{b:Bool}{c a:V}
theorem o0{K:K}(h:K R H n):Qe [] G callE (.mk L R) H n (kR K):=h
end
section
variable{L:List V}{R:Jb}{H:Heap}{n:Nat}{l:List AI}{k:KE}{p:P2}{x:X}{b:Bool}{c a:V}
end
section
variable{R:Jb}{H:Heap}{n:Nat}{k:K}{x:KX}{r:K}{a b:AC}
end
section
variable{res rs:List AR}{dg:Nat}{R:Jb}{H:Heap}{n:Nat}{k:KV}{l:LV}{p:P2}{a:V}{vs:List AVr}
end
end
abbrev SF:=Ap->List V->Heap->Nat->KV->Prop
def ar0(s:Ap->Heap->Nat->KV->Prop):SF:=λcall l H n k=>List.rec (motive:=λ_=>Prop) (s call H n k) (λ_ _ _=>False) l
def MZ(s:Ap->V->Heap->Nat->KV->Prop):SF:=λcall l H n k=>List.rec (motive:=λ_=>Prop) False (λa l _=>ar0 (λcall=>s call a) call l H n k) l
def TY(s:Ap->V->V->Heap->Nat->KV->Prop):SF:=λcall l H n k=>List.rec (motive:=λ_=>Prop) False (λa l _=>MZ (λcall=>s call a) call l H n k) l
def ar3(s:Ap->V->V->V->Heap->Nat->KV->Prop):SF:=λcall l H n k=>List.rec (motive:=λ_=>Prop) False (λa l _=>TY (λcall=>s call a) call l H n k) l
def ar4(s:Ap->V->V->V->V->Heap->Nat->KV->Prop):SF:=λcall l H n k=>List.rec (motive:=λ_=>Prop) False (λa l _=>ar3 (λcall=>s call a) call l H n k) l
def ar5(s:Ap->V->V->V->V->V->Heap->Nat->KV->Prop):SF:=λcall l H n k=>List.rec (motive:=λ_=>Prop) False (λa l _=>ar4 (λcall=>s call a) call l H n k) l
def ar6(s:Ap->V->V->V->V->V->V->Heap->Nat->KV->Prop):SF:=λcall l H n k=>List.rec (motive:=λ_=>Prop) False (λa l _=>ar5 (λcall=>s call a) call l H n k) l
theorem AJ2{s:Ap->Heap->Nat->KV->Prop}{call:Ap}{l:List V}{H:Heap}{n:Nat}{k:KV}(h:ar0 s call l H n k):l=[]/\s call H n k:=by
 cases l with
 |nil=>exact⟨rfl,h⟩
 |cons=>exact(show False from h).elim
theorem AJc{s:Ap->V->Heap->Nat->KV->Prop}{call:Ap}{l:List V}{H:Heap}{n:Nat}{k:KV}(h:MZ s call l H n k):∃a0,l=[a0]/\s call a0 H n k:=by
 cases l with
 |nil=>exact(show False from h).elim
 |cons a l=>
  obtain⟨rfl,h⟩:=AJ2 (show ar0 (λcall=>s call a) call l H n k from h)
  exact⟨a,rfl,h⟩
theorem AJn{s:Ap->V->V->Heap->Nat->KV->Prop}{call:Ap}{l:List V}{H:Heap}{n:Nat}{k:KV}(h:TY s call l H n k):∃a0 a1,l=[a0,a1]/\s call a0 a1 H n k:=by
 cases l with
 |nil=>exact(show False from h).elim
 |cons a l=>
  obtain⟨b0,rfl,h⟩:=AJc (show MZ (λcall=>s call a) call l H n k from h)
  exact⟨a,b0,rfl,h⟩
theorem AJL{s:Ap->V->V->V->Heap->Nat->KV->Prop}{call:Ap}{l:List V}{H:Heap}{n:Nat}{k:KV}(h:ar3 s call l H n k):∃a0 a1 a2,l=[a0,a1,a2]/\s call a0 a1 a2 H n k:=by
 cases l with
 |nil=>exact(show False from h).elim
 |cons a l=>
  obtain⟨b0,b1,rfl,h⟩:=AJn (show TY (λcall=>s call a) call l H n k from h)
  exact⟨a,b0,b1,rfl,h⟩
theorem AI7{s:Ap->V->V->V->V->Heap->Nat->KV->Prop}{call:Ap}{l:List V}{H:Heap}{n:Nat}{k:KV}(h:ar4 s call l H n k):∃a0 a1 a2 a3,l=[a0,a1,a2,a3]/\s call a0 a1 a2 a3 H n k:=by
 cases l with
 |nil=>exact(show False from h).elim
 |cons a l=>
  obtain⟨b0,b1,b2,rfl,h⟩:=AJL (show ar3 (λcall=>s call a) call l H n k from h)
  exact⟨a,b0,b1,b2,rfl,h⟩
theorem AJB{s:Ap->V->V->V->V->V->Heap->Nat->KV->Prop}{call:Ap}{l:List V}{H:Heap}{n:Nat}{k:KV}(h:ar5 s call l H n k):∃a0 a1 a2 a3 a4,l=[a0,a1,a2,a3,a4]/\s call a0 a1 a2 a3 a4 H n k:=by
 cases l with
 |nil=>exact(show False from h).elim
 |cons a l=>
  obtain⟨b0,b1,b2,b3,rfl,h⟩:=AI7 (show ar4 (λcall=>s call a) call l H n k from h)
  exact⟨a,b0,b1,b2,b3,rfl,h⟩
theorem AOy{s:Ap->V->V->V->V->V->V->Heap->Nat->KV->Prop}{call:Ap}{l:List V}{H:Heap}{n:Nat}{k:KV}(h:ar6 s call l H n k):∃a0 a1 a2 a3 a4 a5,l=[a0,a1,a2,a3,a4,a5]/\s call a0 a1 a2 a3 a4 a5 H n k:=by
 cases l with
 |nil=>exact(show False from h).elim
 |cons a l=>
  obtain⟨b0,b1,b2,b3,b4,rfl,h⟩:=AJB (show ar5 (λcall=>s call a) call l H n k from h)
  exact⟨a,b0,b1,b2,b3,b4,rfl,h⟩
def ASR(FS:T SF)(fuel:Nat):Ap:=
 Nat.rec (motive:=λ_=>Ap) (λ_ _ _ _ _=>False) (λ_ call f args H n k=>Gz (T.get FS f) λs=>s call args H n k) fuel
def AC7(G:AX)(af:AF)(s:SF):Prop:=∀call callE,TD call callE->Gs callE->∀args H n k,s call args H n k->AIt af G callE args H n k
def ATL(F:T AF)(G:AX)(FS:T SF):Prop:=∀f s,T.get FS f=some s->∃af,T.get F f=some af/\AC7 G af s
theorem AI9{F:T AF}{G:AX}{FS:T SF}(h:ATL F G FS):∀m,TD (ASR FS m) (Runs F G)
 |0=>λ_ _ _ _ _ h=>(show False from h).elim
 |m+1=>λf a H n k hr=>by
  have hr':Gz (T.get FS f) λs=>s (ASR FS m) a H n k:=hr
  rw[JQ]at hr'
  obtain⟨s,hs,hr'⟩:=hr'
  obtain⟨af,haf,hok⟩:=h f s hs
  exact AB5 haf (hok _ _ (AI9 h m) (nZ F G) _ _ _ _ hr')
section
variable{E:RS}{G:AX}{H:Heap}{x:X}{a:Int}
end
@[congr] theorem ATG{o o':Option V}(f:V->Prop)(h:o=o'):AL o f=AL o' f:=by rw[h]
@[congr] theorem ATB{α:Type}{o o':Option α}(f:α->Prop)(h:o=o'):Gz o f=Gz o' f:=by rw[h]
@[congr] theorem AS6{b b':Bool}(p:Prop)(h:b=b'):NI b p=NI b' p:=by rw[h]
@[congr] theorem AQZ{v v':V}(b:Bool)(p q:Prop)(h:v=v'):AY v b p q=AY v' b p q:=by rw[h]
@[congr] theorem AS4{c c':V}{b:Bool}{e:Option V}(f:V->Prop)(h:c=c'):Aj c b e f=Aj c' b e f:=by rw[h]
@[congr] theorem ASU{c c':V}{b:Bool}{t:KV->Prop}{H:Heap}{n:Nat}(f:KV)(h:c=c'):D5 c b t H n f=D5 c' b t H n f:=by rw[h]
@[congr] theorem AQo(F:T AF)(G:AX)(f:Nat){a a':List V}{H H':Heap}{n n':Nat}(k:KV)(h0:a=a')(h1:H=H')(h2:n=n'):Runs F G f a H n k=Runs F G f a' H' n' k:=by rw[h0,h1,h2]
theorem AB(v:V)(f:V->Prop):AL (some v) f=f v:=rfl
theorem XQ{α:Type}(v:α)(f:α->Prop):Gz (some v) f=f v:=rfl
theorem WG(p:Prop):NI true p=p:=rfl
theorem BG(p q:Prop):AY (.bool true) true p q=p:=rfl
theorem BD(p q:Prop):AY (.bool false) true p q=q:=rfl
theorem AQg(e:Option V)(f:V->Prop):Aj (.bool true) true e f=AL e f:=rfl
theorem AQM(e:Option V)(f:V->Prop):Aj (.bool false) false e f=AL e f:=rfl
theorem ATI(e:Option V)(f:V->Prop):Aj (.bool true) false e f=f (.Df []):=rfl
theorem ATT(e:Option V)(f:V->Prop):Aj (.bool false) true e f=f (.Df []):=rfl
theorem AV9(b:Bool)(e:Option V)(f:V->Prop):Aj (.Df []) b e f=f (.Df []):=rfl
theorem AT7(t:KV->Prop)(H:Heap)(n:Nat)(f:KV):D5 (.bool true) true t H n f=t f:=rfl
theorem AUK(t:KV->Prop)(H:Heap)(n:Nat)(f:KV):D5 (.bool false) false t H n f=t f:=rfl
theorem ATu(t:KV->Prop)(H:Heap)(n:Nat)(f:KV):D5 (.bool true) false t H n f=f (.Df []) H n:=rfl
theorem ATv(t:KV->Prop)(H:Heap)(n:Nat)(f:KV):D5 (.bool false) true t H n f=f (.Df []) H n:=rfl
theorem AV4(b:Bool)(t:KV->Prop)(H:Heap)(n:Nat)(f:KV):D5 (.Df []) b t H n f=f (.Df []) H n:=rfl
theorem qm(b:Bool):FN (.bool b)=some (.bool (!b)):=by cases b<;>rfl
theorem APi(a b:V):Aw (.bool true) a b=some a:=rfl
theorem AP2(a b:V):Aw (.bool false) a b=some b:=rfl
theorem Ah(off id o:Nat):AQ off (.ptr id o)=some (.ptr id (o+off)):=by show GX (Nat.add o off) _=_;rw[EL];rfl
theorem AFD(off id o:Nat):AQ off (.gptr id o)=some (.gptr id (o+off)):=by show GX (Nat.add o off) _=_;rw[EL];rfl
theorem Dk(id o:Nat):Ag (.ptr id o)=some (.ptr id o):=rfl
theorem AIV(a:V)(l:List V):Bz (.Df (a::l)) 0=some a:=rfl
theorem AHr(a b:V)(l:List V):Bz (.Df (a::b::l)) 1=some b:=rfl
theorem ASo(a b c:V)(l:List V):Bz (.Df (a::b::c::l)) 2=some c:=rfl
theorem ANZ(a:V)(G:AX)(H:Heap):AV a G H=VI (lC a G H 1) λL=>nth L 0:=rfl
theorem AQb(m:Nat)(a:V)(G:AX)(H:Heap):Ae m a G H=VI (lC a G H m) λL=>some (.agg L):=rfl
theorem AJS(id off:Nat)(G:AX)(H:Heap)(n:Nat):lC (.ptr id off) G H n=dV H id off n:=rfl
theorem AFk(L:LV)(f:LV->Option V):VI (some L) f=f L:=rfl
def one(L:LV):P7:=.arr L.length 1 (T.set .e 0 L)
theorem AQe{v:V}{H:Heap}{n:Nat}{P:KV}(h:YR v=true):Bg (EM v) H n P=P (.ptr n 0) (T.set H n (one (Aq v))) (n+1):=by
 show NI (YR v) (DU (len (Aq v)) λe=>DU n λn=>P (.ptr n 0) (T.set H n (.arr e 1 (T.set .e 0 (Aq v)))) (Nat.succ n))=_
 rw[BO,BO,len_eq,h]
 rfl
theorem AJx{z:Nat}{L:LV}{H:Heap}{n:Nat}{P:KV}(h:L.length=z):Bg (Af z [L] E0) H n P=P (.ptr n 0) (T.set H n (one L)) (n+1):=by
 show DU (len [L]) (λm=>DU n λn=>P (.ptr n 0) (T.set H n (.arr z m (Fv [L] 0 .e))) (Nat.succ n))=_
 rw[BO,BO,len_eq]
 subst h
 rfl
theorem AHf{H:Heap}{id:Nat}{L:LV}(h:T.get H id=some (one L)){off m:Nat}(hm:0<m)(hl:off+m<=L.length):dV H id off m=some ((L.drop off).take m):=by
 unfold dV
 rw[h]
 show ldB L.length 1 (T.set .e 0 L) off m=_
 unfold ldB
 have hdiv:off/L.length=0:=Nat.div_eq_of_lt (by omega)
 have hmod:off%L.length=off:=Nat.mod_eq_of_lt (by omega)
 have hb:Nat.blt (Nat.div off L.length) 1=true:=by rw[Nat.blt_eq];show off/L.length<1;omega
 rw[hb]
 show BR (T.get (T.set T.e 0 L) (Nat.div off L.length)) (ldC L.length off m)=_
 have hg2:T.get (T.set T.e 0 L) (Nat.div off L.length)=some L:=by
  show T.get (T.set T.e 0 L) (off/L.length)=some L
  rw[hdiv];simp
 rw[hg2]
 show ldC L.length off m L=_
 unfold ldC
 cases hc:band (Nat.beq m L.length) (Nat.beq (Nat.mod off L.length) 0)with
 |true=>
  simp only[BP,Bool.and_eq_true,beq_iff]at hc
  obtain⟨h1,h2⟩:=hc
  have h2':off=0:=by have:off%L.length=0:=h2;omega
  subst h2'
  simp[h1]
 |false=>
  have hf:Nat.ble (Nat.add (Nat.mod off L.length) m) L.length=true:=by
   rw[Nat.ble_eq];show off%L.length+m<=L.length;omega
  rw[hf]
  show some (YF m (lK (Nat.mod off L.length) L))=_
  rw[Zt,nJ]
  show some (List.take m (List.drop (off%L.length) L))=_
  rw[hmod]
theorem ARb{H:Heap}{id:Nat}{L:LV}(h:T.get H id=some (one L)){off m:Nat}{new:LV}(hm:0<m)(hn:new.length=m)(hl:off+m<=L.length):stH H id off m new=some (T.set H id (one (L.take off++(new++L.drop (off+m))))):=by
 unfold stH
 rw[h]
 show BR (stB L.length 1 (T.set .e 0 L) off m new) (λb=>some (T.set H id b))=_
 have hdiv:Nat.div off L.length=0:=Nat.div_eq_of_lt (by omega)
 have hmod:Nat.mod off L.length=off:=Nat.mod_eq_of_lt (by omega)
 have hs:stB L.length 1 (T.set .e 0 L) off m new=some (one (L.take off++(new++L.drop (off+m)))):=by
  unfold stB
  rw[hdiv]
  show BR (T.get (T.set T.e 0 L) 0) (stC new L.length 1 (T.set .e 0 L) off m)=_
  rw[T.Ai]
  show stC new L.length 1 (T.set .e 0 L) off m L=_
  unfold stC
  rw[hmod,hdiv]
  have hlen:(L.take off++(new++L.drop (off+m))).length=L.length:=by simp;omega
  cases hc:band (Nat.beq m L.length) (Nat.beq off 0)with
  |true=>
   simp only[BP,Bool.and_eq_true,beq_iff]at hc
   obtain⟨h1,h2⟩:=hc
   subst h2
   show some (P7.arr L.length 1 (T.set (T.set T.e 0 L) 0 new))=_
   unfold one
   rw[hlen]
   have:List.take 0 L++(new++List.drop (0+m) L)=new:=by simp[h1]
   rw[this];rfl
  |false=>
   have hf:Nat.ble (Nat.add off m) L.length=true:=by rw[Nat.ble_eq];exact hl
   rw[hf]
   show some (P7.arr L.length 1 (T.set (T.set T.e 0 L) 0 (AHn new off L)))=_
   unfold one
   rw[hlen,AFm,hn];rfl
 rw[hs]
 rfl
theorem BL{F:T AF}{G:AX}{f:Nat}{af:AF}{s:SF}(hf:T.get F f=some af)(hs:AC7 G af s){args:List V}{H:Heap}{n:Nat}{k:KV}(h:s (Runs F G) args H n k):Runs F G f args H n k:=
 AB5 hf (hs _ _ (λ_ _ _ _ _ h=>h) (nZ F G) _ _ _ _ h)
def goN(x:X)(b:Bool)(d:lS)(o:AN):zS:=λG _ R H n k=>Aj (x.ev R) b (o.ev G R H) λv=>k (GR d v R) H n
def goA(x:X)(b:Bool)(d:lS)(o:AA):zS:=λ_ _ R H n k=>D5 (x.ev R) b (Bg (o.al R) H n) H n λv H n=>k (GR d v R) H n
def goE(x:X)(b:Bool)(d:lS)(o:AE):zS:=λG call R H n k=>D5 (x.ev R) b (o.ex G call R H n) H n λv H n=>k (GR d v R) H n
def AVg(x:X)(b:Bool)(d:lS)(o:AO):zS:=AO.rec (motive:=λ_=>zS) (goN x b d) (goA x b d) (goE x b d) o
def oAG(o:AA):XoT:=λ_ _ d R H n k=>Bg (o.al R) H n λv H n=>k (GR d v R) H n
def AO.exG(o:AO):XoT:=AO.rec (motive:=λ_=>XoT) oN oAG oE o
def AVe(d:lS)(o:AO):zS:=λG call R H n k=>o.exG G call d R H n k
def uh.exG(o:uh):zS:=uh.rec (motive:=λ_=>zS) (λd g o=>Gd.rec (motive:=λ_=>lS->AO->zS) AVe AVg g d o) o
theorem AJU(o:uh):o.exG=o.ex:=by
 obtain⟨d,g,o⟩:=o
 cases g<;>cases o<;>rfl
def AIs(l:List uh):zS:=
 List.rec (motive:=λ_=>zS) (λ_ _ R H n k=>k R H n) (λo _ g G call R H n k=>o.exG G call R H n λR H n=>g G call R H n k) l
theorem AJu:∀l:List uh,AIs l=Qe l
 |[]=>rfl
 |o::l=>by
  show(λG call R H n k=>o.exG G call R H n λR H n=>AIs l G call R H n k)=λG call R H n k=>o.ex G call R H n λR H n=>Qe l G call R H n k
  rw[AJu l,AJU]
def AUQ(x:X)(b:Bool):ReT:=λG R H d o k=>uO (x.ev R) b (o.ev G R H) (NT (T.D6 d R.rg)) k
def ATS(g:Gd):ReT:=Gd.rec (motive:=λ_=>ReT) ATy AUQ g
def AI.exG(i:AI):zS:=AI.rec (motive:=λ_=>zS) (λo=>o.exG) (λd g o G _ R H n k=>ATS g G R H d o (k R H n)) i
theorem ARz(i:AI):i.exG=i.ex:=by
 cases i with
 |op o=>exact AJU o
 |re d g o=>cases g<;>rfl
def ABS(l:List AI):zS:=
 List.rec (motive:=λ_=>zS) (λ_ _ R H n k=>k R H n) (λi _ g G call R H n k=>i.exG G call R H n λR H n=>g G call R H n k) l
theorem AEE:∀l:List AI,ABS l=CG l
 |[]=>rfl
 |o::l=>by
  show(λG call R H n k=>o.exG G call R H n λR H n=>ABS l G call R H n k)=λG call R H n k=>o.ex G call R H n λR H n=>CG l G call R H n k
  rw[AEE l,ARz]
def AM4(l:List uh):M:=λG call _ R H n k _ _=>AIs l G call (.mk [] R) H n λE H n=>k E.rg H n
def AMn(l:List AI):M:=λG call _ R H n k _ _=>ABS l G call (.mk [] R) H n λE H n=>k E.rg H n
def AC.exG(c:AC):M:=AC.rec (motive:=λ_=>M) ANN AM4 AMn AMd AFv ABe AEe AL7 ARY c
theorem tu:∀c:AC,c.exG=c.exL
 |.skip=>rfl
 |.ops l=>by show AM4 l=APK l;unfold AM4 APK;rw[AJu]
 |.reg l=>by show AMn l=AOV l;unfold AMn AOV;rw[AEE]
 |.seq a b=>by show AMd a b a.exG b.exG=AMd a b a.exL b.exL;rw[tu a,tu b]
 |.cond x a b=>by show AFv x a b a.exG b.exG=AFv x a b a.exL b.exL;rw[tu a,tu b]
 |.block i a=>by show ABe i a a.exG=ABe i a a.exL;rw[tu a]
 |.loop a=>by show AEe a a.exG=AEe a a.exL;rw[tu a]
 |.exit i=>rfl
 |.ret=>rfl
inductive An:Type 1 where
 |n
 |s (a b:An)
 |j (S:K) (a b:An)
 |c (a b:An)
 |b (a:An)
 |l (σ:Type) (bd:(σ->Prop)->σ->Prop) (st:Jb->Heap->Nat->σ) (a:(σ->Prop)->An)
abbrev M2:=AC->AX->Ap->Jb->Heap->Nat->K->KX->K->Prop
def AC.AGY(c:AC)(f:AC->AC->Prop):Prop:=AC.rec (motive:=λ_=>Prop) False (λ_=>False) (λ_=>False) (λa b _ _=>f a b) (λ_ _ _ _ _=>False) (λ_ _ _=>False) (λ_ _=>False) (λ_=>False) False c
def AC.AHu(c:AC)(f:X->AC->AC->Prop):Prop:=AC.rec (motive:=λ_=>Prop) False (λ_=>False) (λ_=>False) (λ_ _ _ _=>False) (λx a b _ _=>f x a b) (λ_ _ _=>False) (λ_ _=>False) (λ_=>False) False c
def AC.AFX(c:AC)(f:Nat->AC->Prop):Prop:=AC.rec (motive:=λ_=>Prop) False (λ_=>False) (λ_=>False) (λ_ _ _ _=>False) (λ_ _ _ _ _=>False) (λi a _=>f i a) (λ_ _=>False) (λ_=>False) False c
def AC.AIy(c:AC)(f:AC->Prop):Prop:=AC.rec (motive:=λ_=>Prop) False (λ_=>False) (λ_=>False) (λ_ _ _ _=>False) (λ_ _ _ _ _=>False) (λ_ _ _=>False) (λa _=>f a) (λ_=>False) False c
def An.ex(L:Eo)(an:An):M2:=
 An.rec (motive:=λ_=>M2)
  (λc G call R H n k x r=>c.exG G call 0 R H n k x r)
  (λ_ _ ga gb c G call R H n k x r=>c.AGY λa b=>ga a G call R H n (λR H n=>gb b G call R H n k x r) x r)
  (λS _ _ ga _ c G call R H n _ x r=>c.AGY λa _=>ga a G call R H n S x r)
  (λ_ _ ga gb c G call R H n k x r=>c.AHu λy a b=>AY (y.ev (.mk [] R)) true (ga a G call R H n k x r) (gb b G call R H n k x r))
  (λ_ ga c G call R H n k x r=>c.AFX λi a=>ga a G call R H n k (IL i k x) r)
  (fun σ bd st _ _ c _ _ R H n _ _ _=>c.AIy λ_=>L σ bd (st R H n)) an
abbrev M3:=AC->AX->Ap->K->KX->K->Prop
def An.ob(L:Eo)(an:An):M3:=
 An.rec (motive:=λ_=>M3)
  (λ_ _ _ _ _ _=>True)
  (λ_ b ga gb c G call k x r=>c.AGY λa d=>ga a G call (λR H n=>b.ex L d G call R H n k x r) x r/\gb d G call k x r)
  (λS _ b ga gb c G call k x r=>c.AGY λa d=>ga a G call S x r/\(∀R H n,S R H n=b.ex L d G call R H n k x r)/\gb d G call k x r)
  (λ_ _ ga gb c G call k x r=>c.AHu λ_ a b=>ga a G call k x r/\gb b G call k x r)
  (λ_ ga c G call k x r=>c.AFX λi a=>ga a G call k (IL i k x) r)
  (fun σ bd st a ga c G call _ x r=>c.AIy λd=>∀ih:σ->Prop,(∀R H n,bd ih (st R H n)=(a ih).ex L d G call R H n (λR H n=>ih (st R H n)) x r)/\ga ih d G call (λR H n=>ih (st R H n)) x r) an
def AC.ALY(c:AC)(f:AC->AC->Prop):Prop:=AC.rec (motive:=λ_=>Prop) True (λ_=>True) (λ_=>True) (λa b _ _=>f a b) (λ_ _ _ _ _=>True) (λ_ _ _=>True) (λ_ _=>True) (λ_=>True) True c
def AC.AOo(c:AC)(f:X->AC->AC->Prop):Prop:=AC.rec (motive:=λ_=>Prop) True (λ_=>True) (λ_=>True) (λ_ _ _ _=>True) (λx a b _ _=>f x a b) (λ_ _ _=>True) (λ_ _=>True) (λ_=>True) True c
def AC.AMU(c:AC)(f:Nat->AC->Prop):Prop:=AC.rec (motive:=λ_=>Prop) True (λ_=>True) (λ_=>True) (λ_ _ _ _=>True) (λ_ _ _ _ _=>True) (λi a _=>f i a) (λ_ _=>True) (λ_=>True) True c
def AC.AO0(c:AC)(f:AC->Prop):Prop:=AC.rec (motive:=λ_=>Prop) True (λ_=>True) (λ_=>True) (λ_ _ _ _=>True) (λ_ _ _ _ _=>True) (λ_ _ _=>True) (λa _=>f a) (λ_=>True) True c
def An.obR(L:Eo)(an:An):M3:=
 An.rec (motive:=λ_=>M3)
  (λ_ _ _ _ _ _=>True)
  (λ_ b ga gb c G call k x r=>c.ALY λa d=>ga a G call (λR H n=>b.ex L d G call R H n k x r) x r/\gb d G call k x r)
  (λS _ b ga gb c G call k x r=>c.ALY λa d=>ga a G call S x r/\(∀R H n,S R H n=S R H n)/\gb d G call k x r)
  (λ_ _ ga gb c G call k x r=>c.AOo λ_ a b=>ga a G call k x r/\gb b G call k x r)
  (λ_ ga c G call k x r=>c.AMU λi a=>ga a G call k (IL i k x) r)
  (fun σ bd st a ga c G call _ x r=>c.AO0 λd=>∀ih:σ->Prop,(∀R H n,bd ih (st R H n)=bd ih (st R H n))/\ga ih d G call (λR H n=>ih (st R H n)) x r) an
theorem An.AQs(L:Eo)(an:An):∀c G call k x r,an.obR L c G call k x r:=by
 induction an with
 |n=>exact λ_ _ _ _ _ _=>trivial
 |s a b iha ihb=>intro c;cases c<;>first|exact λ_ _ _ _ _=>trivial|exact λG call k x r=>⟨iha _ _ _ _ _ _,ihb _ _ _ _ _ _⟩
 |j S a b iha ihb=>intro c;cases c<;>first|exact λ_ _ _ _ _=>trivial|exact λG call k x r=>⟨iha _ _ _ _ _ _,λ_ _ _=>rfl,ihb _ _ _ _ _ _⟩
 |c a b iha ihb=>intro c;cases c<;>first|exact λ_ _ _ _ _=>trivial|exact λG call k x r=>⟨iha _ _ _ _ _ _,ihb _ _ _ _ _ _⟩
 |b a iha=>intro c;cases c<;>first|exact λ_ _ _ _ _=>trivial|exact λG call k x r=>iha _ _ _ _ _ _
 |l σ bd st a iha=>intro c;cases c<;>first|exact λ_ _ _ _ _=>trivial|exact λG call k x r ih=>⟨λ_ _ _=>rfl,iha ih _ _ _ _ _ _⟩
theorem AD0{c:AC}{f:AC->AC->Prop}(h:c.AGY f):∃a b,c=.seq a b/\f a b:=by
 cases c<;>first|exact⟨_,_,rfl,h⟩|exact(show False from h).elim
theorem AIT{c:AC}{f:X->AC->AC->Prop}(h:c.AHu f):∃x a b,c=.cond x a b/\f x a b:=by
 cases c<;>first|exact⟨_,_,_,rfl,h⟩|exact(show False from h).elim
theorem AGX{c:AC}{f:Nat->AC->Prop}(h:c.AFX f):∃i a,c=.block i a/\f i a:=by
 cases c<;>first|exact⟨_,_,rfl,h⟩|exact(show False from h).elim
theorem AIQ{c:AC}{f:AC->Prop}(h:c.AIy f):∃a,c=.loop a/\f a:=by
 cases c<;>first|exact⟨_,rfl,h⟩|exact(show False from h).elim
section
variable{G:AX}{call callE:Ap}
theorem AOD{c:AC}{R:Jb}{H:Heap}{n:Nat}{k:K}{x:KX}{r:K}(h:c.exG G call 0 R H n k x r):c.exL G call 0 R H n k x r:=by rwa [tu]at h
theorem uV(hle:TD call callE)(hd:Gs callE):∀(c:AC) (R:Jb) (H:Heap) (n:Nat) (k k':K) (x x':KX) (r r':K),(∀R H n,k R H n->k' R H n)->(∀i R H n,x i R H n->x' i R H n)->(∀R H n,r R H n->r' R H n)->
 c.exL G call 0 R H n k x r->c.exL G callE 0 R H n k' x' r'
 |.skip,R,H,n,k,k',x,x',r,r',hk,hx,hr,h=>hk _ _ _ h
 |.ops l,R,H,n,k,k',x,x',r,r',hk,hx,hr,h=>ANE hd l _ H n (λE H n h=>hk _ _ _ h) (AH3 hd hle G l _ H n _ h)
 |.reg l,R,H,n,k,k',x,x',r,r',hk,hx,hr,h=>AIc hd l _ H n (λE H n h=>hk _ _ _ h) (ABK hd hle G l _ H n _ h)
 |.seq a b,R,H,n,k,k',x,x',r,r',hk,hx,hr,h=>uV hle hd a R H n _ _ x x' r r' (λR H n h=>uV hle hd b R H n k k' x x' r r' hk hx hr h) hx hr h
 |.cond c a b,R,H,n,k,k',x,x',r,r',hk,hx,hr,h=>by
  have h':AY (c.ev (.mk [] R)) true (a.exL G call 0 R H n k x r) (b.exL G call 0 R H n k x r):=h
  show AY (c.ev (.mk [] R)) true (a.exL G callE 0 R H n k' x' r') (b.exL G callE 0 R H n k' x' r')
  exact ABn h' (uV hle hd a R H n k k' x x' r r' hk hx hr) (uV hle hd b R H n k k' x x' r r' hk hx hr)
 |.block id a,R,H,n,k,k',x,x',r,r',hk,hx,hr,h=>by
  refine uV hle hd a R H n k k' (IL id k x) (IL id k' x') r r' hk (λi R H n h=>?_) hr h
  unfold IL at h⊢
  cases hb:Nat.beq i id with
  |true=>rw[hb]at h;exact hk _ _ _ h
  |false=>rw[hb]at h;exact hx _ _ _ _ h
 |.loop a,R,H,n,k,k',x,x',r,r',hk,hx,hr,h=>by
  intro I hI
  exact h I λR H n hb=>hI R H n (uV hle hd a R H n I I x x' r r' (λ_ _ _ h=>h) hx hr hb)
 |.exit i,R,H,n,k,k',x,x',r,r',hk,hx,hr,h=>hx _ _ _ _ h
 |.ret,R,H,n,k,k',x,x',r,r',hk,hx,hr,h=>hr _ _ _ h
theorem An.ok{L:Eo}(hL:Dj L)(hle:TD call callE)(hd:Gs callE)(an:An):∀(c:AC) (k k':K) (x x':KX) (r r':K),(∀R H n,k R H n->k' R H n)->(∀i R H n,x i R H n->x' i R H n)->(∀R H n,r R H n->r' R H n)->
 an.ob L c G call k x r->∀R H n,an.ex L c G call R H n k x r->c.exL G callE 0 R H n k' x' r':=by
 induction an with
 |n=>exact λc k k' x x' r r' hk hx hr _ R H n h=>uV hle hd c R H n k k' x x' r r' hk hx hr (AOD h)
 |s a b iha ihb=>
  intro c k k' x x' r r' hk hx hr ho R H n h
  obtain⟨c1,c2,rfl,ho⟩:=AD0 ho
  exact iha c1 _ _ x x' r r' (λR H n h=>ihb c2 k k' x x' r r' hk hx hr ho.2 R H n h) hx hr ho.1 R H n h
 |j S a b iha ihb=>
  intro c k k' x x' r r' hk hx hr ho R H n h
  obtain⟨c1,c2,rfl,ho⟩:=AD0 ho
  exact iha c1 S (λR H n=>c2.exL G callE 0 R H n k' x' r') x x' r r' (λR H n h=>ihb c2 k k' x x' r r' hk hx hr ho.2.2 R H n (ho.2.1 R H n▸h)) hx hr ho.1 R H n h
 |c a b iha ihb=>
  intro c k k' x x' r r' hk hx hr ho R H n h
  obtain⟨y,c1,c2,rfl,ho⟩:=AIT ho
  exact ABn (P':=c1.exL G callE 0 R H n k' x' r') (Q':=c2.exL G callE 0 R H n k' x' r') h (λh=>iha c1 k k' x x' r r' hk hx hr ho.1 R H n h) (λh=>ihb c2 k k' x x' r r' hk hx hr ho.2 R H n h)
 |b a iha=>
  intro c k k' x x' r r' hk hx hr ho R H n h
  obtain⟨i,c1,rfl,ho⟩:=AGX ho
  refine iha c1 k k' (IL i k x) (IL i k' x') r r' hk (λj R H n h=>?_) hr ho R H n h
  unfold IL at h⊢
  cases hb:Nat.beq j i with
  |true=>rw[hb]at h;exact hk _ _ _ h
  |false=>rw[hb]at h;exact hx _ _ _ _ h
 |l σ bd st a iha=>
  intro c k k' x x' r r' hk hx hr ho R H n h
  obtain⟨c1,rfl,ho⟩:=AIQ ho
  intro I hI
  have h':L σ bd (st R H n):=h
  refine hL σ bd (λs=>∀R H n,st R H n=s->I R H n) (λih hih s hs R H n e=>?_) _ h' R H n rfl
  subst e
  rw[(ho ih).1]at hs
  exact hI R H n (iha ih c1 (λR H n=>ih (st R H n)) I x x' r r' (λR H n h=>hih _ h R H n rfl) hx hr (ho ih).2 R H n hs)
end
def fEx(L:Eo)(an:An)(af:AF)(G:AX)(call:Ap)(args:List V)(H:Heap)(n:Nat)(k:KV):Prop:=
 AF.rec (motive:=λ_=>Prop) (λnp code res d dg=>NI (Nat.beq (len args) np) (an.ex L code G call (fP args 0 .e) H n (Jr res dg d G call k) noX (Jr res dg d G call k))) af
def fOb(L:Eo)(an:An)(af:AF)(G:AX)(call:Ap)(k:KV):Prop:=
 AF.rec (motive:=λ_=>Prop) (λ_ code res d dg=>an.ob L code G call (Jr res dg d G call k) noX (Jr res dg d G call k)) af
def AWF(L:Eo)(an:An)(af:AF)(G:AX)(call:Ap)(k:KV):Prop:=
 AF.rec (motive:=λ_=>Prop) (λ_ code res d dg=>an.obR L code G call (Jr res dg d G call k) noX (Jr res dg d G call k)) af
theorem obs{L:Eo}{an:An}{af:AF}{G:AX}{call:Ap}{k:KV}(h:AWF L an af G call k=fOb L an af G call k):fOb L an af G call k:=by
 rw[<-h];cases af;exact An.AQs ..
theorem tJ{L:Eo}(hL:Dj L){G:AX}{call callE:Ap}(hle:TD call callE)(hd:Gs callE){an:An}{af:AF}{args:List V}{H:Heap}{n:Nat}{k:KV}(ho:fOb L an af G call k)(h:fEx L an af G call args H n k):AIt af G callE args H n k:=by
 obtain⟨np,code,res,d,dg⟩:=af
 have h':NI (Nat.beq (len args) np) (an.ex L code G call (fP args 0 .e) H n (Jr res dg d G call k) noX (Jr res dg d G call k)):=h
 show NI (Nat.beq (len args) np) (code.exL G callE 0 (fP args 0 .e) H n (Jr res dg d G callE k) noX (Jr res dg d G callE k))
 rw[F7]at h'⊢
 exact⟨h'.1,An.ok hL hle hd an code _ _ _ _ _ _ (λR H n h=>iD hd hle res dg d G k R H n h) (λ_ _ _ _ h=>h) (λR H n h=>iD hd hle res dg d G k R H n h) ho _ _ _ h'.2⟩
section
variable{L:Eo}(hL:Dj L){G:AX}{af:AF}{an:Ap->KV->An}(ho:∀call k,fOb L (an call k) af G call k)
include hL ho
theorem sf0{s:Ap->Heap->Nat->KV->Prop}(h:∀call H n k,s call H n k=fEx L (an call k) af G call [] H n k):AC7 G af (ar0 s):=λcall callE hle hd l H n k hs=>by
 obtain⟨rfl,hs⟩:=AJ2 hs;exact tJ hL hle hd (ho call k) (h .. ▸hs)
theorem wo{s:Ap->V->Heap->Nat->KV->Prop}(h:∀call a0 H n k,s call a0 H n k=fEx L (an call k) af G call [a0] H n k):AC7 G af (MZ s):=λcall callE hle hd l H n k hs=>by
 obtain⟨a0,rfl,hs⟩:=AJc hs;exact tJ hL hle hd (ho call k) (h .. ▸hs)
theorem sf2{s:Ap->V->V->Heap->Nat->KV->Prop}(h:∀call a0 a1 H n k,s call a0 a1 H n k=fEx L (an call k) af G call [a0,a1] H n k):AC7 G af (TY s):=λcall callE hle hd l H n k hs=>by
 obtain⟨a0,a1,rfl,hs⟩:=AJn hs;exact tJ hL hle hd (ho call k) (h .. ▸hs)
theorem sf3{s:Ap->V->V->V->Heap->Nat->KV->Prop}(h:∀call a0 a1 a2 H n k,s call a0 a1 a2 H n k=fEx L (an call k) af G call [a0,a1,a2] H n k):AC7 G af (ar3 s):=λcall callE hle hd l H n k hs=>by
 obtain⟨a0,a1,a2,rfl,hs⟩:=AJL hs;exact tJ hL hle hd (ho call k) (h .. ▸hs)
theorem sf4{s:Ap->V->V->V->V->Heap->Nat->KV->Prop}(h:∀call a0 a1 a2 a3 H n k,s call a0 a1 a2 a3 H n k=fEx L (an call k) af G call [a0,a1,a2,a3] H n k):AC7 G af (ar4 s):=λcall callE hle hd l H n k hs=>by
 obtain⟨a0,a1,a2,a3,rfl,hs⟩:=AI7 hs;exact tJ hL hle hd (ho call k) (h .. ▸hs)
theorem sf5{s:Ap->V->V->V->V->V->Heap->Nat->KV->Prop}(h:∀call a0 a1 a2 a3 a4 H n k,s call a0 a1 a2 a3 a4 H n k=fEx L (an call k) af G call [a0,a1,a2,a3,a4] H n k):AC7 G af (ar5 s):=λcall callE hle hd l H n k hs=>by
 obtain⟨a0,a1,a2,a3,a4,rfl,hs⟩:=AJB hs;exact tJ hL hle hd (ho call k) (h .. ▸hs)
theorem sf6{s:Ap->V->V->V->V->V->V->Heap->Nat->KV->Prop}(h:∀call a0 a1 a2 a3 a4 a5 H n k,s call a0 a1 a2 a3 a4 a5 H n k=fEx L (an call k) af G call [a0,a1,a2,a3,a4,a5] H n k):AC7 G af (ar6 s):=λcall callE hle hd l H n k hs=>by
 obtain⟨a0,a1,a2,a3,a4,a5,rfl,hs⟩:=AOy hs;exact tJ hL hle hd (ho call k) (h .. ▸hs)
end
def inR(l:List (Nat×Nat))(t:Nat):Bool:=l.any λp=>Nat.ble p.1 t&&Nat.ble t p.2
def opp(l:List Nat):List (Nat×Wk):=l.map λj=>(j,.plain)
def VH(n:Nat):List (Nat×Wk):=opp (List.range n)
def Bo(o:Option AF):AF:=o.getD (.mk 0 .skip [] .no 0)
theorem Ak{o:Option AF}(h:o.isSome=true):o=some (Bo o):=by
 cases o with
 |none=>cases h
 |some a=>rfl
theorem ABL.one{P:Program}{F:T AF}{f:Nat}{af:AF}{fn:Func}{loc:Nat->Bool}{df:Bool}{ords:AIO}{dg:Nat}(hf:P.funcs[f]? =some fn)(hn:(fn.name== "runtime.NumGoroutine")=false)
 (ht:trF P loc df ords dg fn=some af) (hd:af.dg=dg) (hi:AKC af.dp=true):ABL P F f af:=⟨⟨fn,loc,df,ords,hf,hn,hd▸ht⟩,.inl hi⟩
end Go.Bv
namespace Go.Bv
theorem AM7(x y:Int):B2.ev .lss (.int .i64 x 0) (.int .i64 y 0)=some (.bool (decide (x<y))):=by
 show mkB (ilt x y)=_
 rw[TV,WV]
theorem ADs(x y:Int):B2.ev .leq (.int .i64 x 0) (.int .i64 y 0)=some (.bool (decide (x<=y))):=by
 show mkB (ile x y)=_
 rw[TV,uD]
theorem eq_i(x y:Int):Cc (.one .int) false (.int .i64 x 0) (.int .i64 y 0)=some (.bool (x==y)):=by
 show ofB (RX (some (ieq x y)) λb=>some b)=_
 rw[VQ];cases x==y<;>rfl
theorem ALl(x y:Int):Cc (.one .int) true (.int .i64 x 0) (.int .i64 y 0)=some (.bool (!(x==y))):=by
 show ofB (RX (some (ieq x y)) λb=>some (aC b))=_
 rw[VQ];cases x==y<;>rfl
theorem wrap64(a:Int):IntKind.wrap .i64 a=if 9223372036854775808<=a%18446744073709551616 then a%18446744073709551616-18446744073709551616 else a%18446744073709551616:=by
 show(if(true&&decide (a%18446744073709551616≥9223372036854775808))=true then a%18446744073709551616-18446744073709551616 else a%18446744073709551616)=_
 by_cases h:9223372036854775808<=a%18446744073709551616
 ·rw[if_pos h,if_pos (by simpa using h)]
 ·rw[if_neg h,if_neg (by simpa using h)]
theorem Yu{x:Int}(h1: -9223372036854775808<=x)(h2:x<9223372036854775808):IntKind.wrap .i64 x=x:=by
 rw[wrap64];split<;>omega
end Go.Bv
