/- Part of a proof; nothing is assumed. -/
import Derived.Test.YtcjkfmaoahojeaaDoorConD
import Derived.Test.YtcjkfmaoahojeaaDoorConC
import Derived.Test.YtcjkfmaoahojeaaDoorLawA
set_option linter.unusedVariables false
set_option linter.unusedSimpArgs false
namespace Go.PQ
open Go.Eng
set_option maxRecDepth 100000
theorem x_len:Aq.length=1/\Di.length=1/\MG.length=1/\m_rc.length=1/\NM.length=3/\IL.length=2/\EU.length=4/\FK.length=5/\EZ.length=6/\FM.length=5/\FB.length=6/\D8.length=6/\MN.length=5/\J9.length=5/\Hl.length=7:=⟨rfl,rfl,rfl,rfl,rfl,rfl,rfl,rfl,rfl,rfl,rfl,rfl,rfl,rfl,rfl⟩
abbrev lS(t:Nat)(s:St):Nat:=(textS t s).length
abbrev lF(t:Nat)(l:List St):Nat:=(l.map (textS t)).flatten.length
theorem jf(d:Nat):(tabs d).length=d:=by simp[tabs]
theorem AAE(t:Nat)(l:List St):(Jy t (l.map (textS (t+1)))).length=lF (t+1) l+(t+3):=by
 have:=x_len;have:=jf t
 unfold Jy lF;simp only[List.length_append,List.length_cons,List.length_nil];omega
theorem AP7(t:Nat)(l:List St)(s:St):lF t (l++[s])=lF t l+lS t s:=by
 unfold lF lS;simp
theorem AUW(t:Nat)(l:Bs)(ty:Ty)(e:Ex):lS t (.mk 1 l ty [e] [] [])=t+((aG ty).length+(l.length+(lE e+10))):=by
 have:=x_len;have:=jf t
 unfold lS lE;rw[D7];show(tabs t++(NM++([32]++(aG ty++([32]++(l++([32]++(Di++([32]++(textE e++(Aq++[10]))))))))))).length=_
 simp only[List.length_append,List.length_cons,List.length_nil];omega
theorem ASQ(t:Nat)(a b:Ex):lS t (.mk 2 [] JE [a,b] [] [])=t+(lE a+(lE b+5)):=by
 have:=x_len;have:=jf t
 unfold lS lE;rw[D7];show(tabs t++(textE a++([32]++(Di++([32]++(textE b++(Aq++[10]))))))).length=_
 simp only[List.length_append,List.length_cons,List.length_nil];omega
theorem ATJ(t:Nat)(a:Ex):lS t (.mk 3 [] JE [a] [] [])=t+(lE a+2):=by
 have:=x_len;have:=jf t
 unfold lS lE;rw[D7];show(tabs t++(textE a++(Aq++[10]))).length=_
 simp only[List.length_append,List.length_cons,List.length_nil];omega
theorem ATk(t:Nat)(a:Ex):lS t (.mk 6 [] JE [a] [] [])=t+(lE a+9):=by
 have:=x_len;have:=jf t
 unfold lS lE;rw[D7];show(tabs t++(EZ++([32]++(textE a++(Aq++[10]))))).length=_
 simp only[List.length_append,List.length_cons,List.length_nil];omega
theorem ATT(t:Nat)(a:Ex):lS t (.mk 7 [] JE [a] [] [])=t+(lE a+8):=by
 have:=x_len;have:=jf t
 unfold lS lE;rw[D7];show(tabs t++(FM++([32]++(textE a++(Aq++[10]))))).length=_
 simp only[List.length_append,List.length_cons,List.length_nil];omega
theorem AQn(t:Nat)(c:Ex)(th:List St):lS t (.mk 5 [] JE [c] th [])=t+(lE c+(lF (t+1) th+(t+11))):=by
 have:=x_len;have:=jf t;have:=AAE t th
 unfold lF at*;unfold lS lE;rw[D7];show(tabs t++(FK++([32]++(textE c++([32]++(Jy t (th.map (textS (t+1)))++[10])))))).length=_
 simp only[List.length_append,List.length_cons,List.length_nil];omega
theorem AMp(t:Nat)(c:Ex)(th el:List St):lS t (.mk 4 [] JE [c] th el)<=t+(lE c+(lF (t+1) th+(t+(8+bif el.isEmpty then 0 else lF (t+1) el+(t+9))))):=by
 have:=x_len;have:=jf t;have:=AAE t th;have hel:=AAE t el
 unfold lF at*;unfold lS lE;rw[D7];show(tabs t++(IL++([32]++(textE c++([32]++(Jy t (th.map (textS (t+1)))++((bif (el.map (textS (t+1))).isEmpty then[]else[32]++(EU++([32]++Jy t (el.map (textS (t+1))))))++[10]))))))).length<=_
 cases el with
 |nil=>simp only[List.map_nil,List.isEmpty_nil,cond_true,List.length_append,List.length_cons,List.length_nil]at*;omega
 |cons a el=>simp only[List.map_cons,List.isEmpty_cons,cond_false,List.length_append,List.length_cons,List.length_nil]at*;omega
theorem AEj{α:Type}{d:Nat}{s:S}{k:Ty×S->Option (α×S)}{Q:α->Nat->Nat->Prop}(h:Wn d s)(hb:∀t s',Fz d s'->Bd (k (t,s')) d)(hy:∀t s',Wn d s'->jZ t.nm=true->s'.c+1<=s.c->s'.p+(aG t).length+110<=s.p->Tr (k (t,s')) d Q):Tr ((UZ s).bind k) d Q:=by
 have:=PE
 have e:(UZ s).bind k=(Yu s).bind λp=>(BZ Fe p.2).bind λq=>bif q.1 then(BM [FV] q.2).bind λs=>k (⟨p.1.nm,true⟩,s)else k (p.1,q.2):=by
  unfold UZ
  simp only[Option.bind_assoc]
  congr 1;funext p;congr 1;funext q
  cases q.1 with
  |true=>simp only[cond_true,Option.bind_assoc];rfl
  |false=>rfl
 rw[e]
 refine AIf h (λs1 h1=>QV h1 (hb _ _ h1)) λt s1 h1 ha hn _ hc1 hp1=>?_
 refine GX Fe h1 (λs2 h2 hc2 hp2=>?_) ?_
 ·refine KF FV h2 (λs3 h3=>hb _ _ h3) λs3 h3 hc3 hp3=>?_
  refine hy ⟨t.nm,true⟩ s3 h3 hn (by(try dsimp only at*);omega) ?_
  have:(aG ⟨t.nm,true⟩).length=t.nm.length+2:=by
   show(t.nm++(Fe++FV)).length=_
   rw[List.length_append];rfl
  (try dsimp only at*);omega
 ·refine hy t s1 h1 hn hc1 ?_
  have:(aG t).length=t.nm.length:=by unfold aG;rw[ha];rfl
  omega
def QS(d c p:Nat)(o:St)(c' p':Nat):Prop:=rD o/\c'+1<=c/\∀t,t<=d+1->p'+lS t o<=p
def QB(d c p:Nat)(o:List St)(c' p':Nat):Prop:=(∀x∈o,rD x)/\c'+1<=c/\∀t,t<=d+1->p'+lF (t+1) o+220<=p
structure SS(st:PM St)(N:Nat):Prop where
 tr:∀d s,Wn d s->s.c<N->Tr (st s) d (QS d s.c s.p)
 bd:∀d s,Fz d s->d<500->Bd (st s) d
section
variable{d:Nat}{s:S}
theorem mV{st:PM St}{f:Nat}{l:List St}(h:Fz d s)(hf:1<=f):Bd (KQ st f l s) d:=by
 obtain⟨f,rfl⟩:∃g,f=g+1:=⟨f-1,by omega⟩
 unfold KQ
 rw[U4 h.ne];exact Cb h
theorem ACN(st:PM St)(f:Nat)(s:S):EW st f s=(LD s).bind λs1=>((BM [MG] s1).bind λs2=>KQ st f [] s2).bind λp=>(VB p.2).bind λs'=>some (p.1,s'):=by
 unfold EW;simp only[Option.bind_assoc]
theorem Z9{st:PM St}{f:Nat}(h:Fz d s)(hd:d<900)(hf:1<=f):Bd (EW st f s) d:=by
 rw[ACN]
 exact AId (g:=λo=>o) h (by omega) λs' h'=>MS h' (mV h' hf)
theorem AKg{st:PM St}{N:Nat}(hs:SS st N):
 ∀(f:Nat) (l:List St) (d:Nat) (s:S),Wn d s->s.c<N->s.c+2<=f->(∀x∈l,rD x)->l.length+s.c<1000000->Tr (KQ st f l s) d λo c p=>(∀x∈o,rD x)/\c<=s.c/\∀t,t<=d+1->p+lF t o+111<=s.p+lF t l:=by
 have:=x_len
 intro f
 induction f with
 |zero=>intro l d s h hc hf;omega
 |succ f ih=>
  intro l d s h hc hf hl hn
  have ho:s.ok=true:=by unfold S.ok;rw[h.e];rfl
  have hlt:decide (l.length<1000000)=true:=decide_eq_true (by omega)
  unfold KQ
  rw[ho,hlt]
  refine GX m_rc h (λs1 h1 hc1 hp1=>ES h1 ⟨hl,by(try dsimp only at*);omega,λt ht=>by(try dsimp only at*);omega⟩) ?_
  refine(hs.tr d s h hc).bind (λo s2 h2=>mV h2 (by omega)) λo s2 h2 hq=>?_
  obtain⟨hw,hc2,hp2⟩:=hq
  refine(ih (l++[o]) d s2 h2 (by omega) (by omega) ?_ ?_).mono λo' c p hq=>⟨hq.1,by have:=hq.2.1;omega,λt ht=>?_⟩
  ·intro x hx
   rcases List.mem_append.1 hx with hx|hx
   ·exact hl x hx
   ·rw[List.mem_singleton.1 hx];exact hw
  ·rw[List.length_append,List.length_cons,List.length_nil];omega
  ·have h1:=hq.2.2 t ht
   have h2:=hp2 t ht
   rw[AP7]at h1
   omega
theorem mQ{st:PM St}{N f:Nat}(hs:SS st N)(hN:N<800)(h:Wn d s)(hc:s.c<=N)(hf:N+2<=f):Tr (EW st f s) d (QB d s.c s.p):=by
 have:=x_len
 rw[ACN]
 refine zk (g:=λo=>o) (R:=QB d s.c s.p) h (λs' hz _ _=>MS hz (mV hz (by omega))) (λs' ha ht hr=>?_) λo c p hq=>hq
 have hcc:s'.c=s.c:=by unfold S.c;rw[hr]
 have hpp:s'.p=s.p:=by unfold S.p;rw[hr,ht]
 refine KF MG ha (λs1 h1=>mV h1 (by omega)) λs1 h1 hc1 hp1=>?_
 exact(AKg hs f [] (d+1) s1 h1 (by omega) (by omega) (λx hx=>by cases hx) (by show 0+_<_;omega)).mono λo c p hq=>⟨hq.1,by have:=hq.2.1;omega,λt ht=>by
  have h1:=hq.2.2 (t+1) (by omega)
  have h0:lF (t+1) []=0:=rfl
  omega⟩
theorem wQ{st:St}(h:Fz d s):Bd (endP st s) d:=by rw[AJO h.ne];exact Cb h
theorem AEn{st:St}{Q:St->Nat->Nat->Prop}(h:Wn d s)(hy:∀s',Wn d s'->s'.c+1<=s.c->s'.p+111=s.p->Q st s'.c s'.p):Tr (endP st s) d Q:=by
 have:=x_len
 exact KF Aq h (λs1 h1=>Cb h1) λs1 h1 hc hp=>ES h1 (hy s1 h1 hc (by omega))
theorem AKp{f:Nat}(h:Fz d s)(hf:4<=f):Bd (Wu f s) d:=by
 obtain⟨f,rfl⟩:∃g,f=g+4:=⟨f-4,by omega⟩
 unfold Wu
 rw[tJ h.ne h.lt]
 show Bd (bif Hq [Di] s then _ else some (_,bif _ then s else EJ 21 s)) d
 rw[Td h.ne]
 show Bd (some (_,bif _ then s else EJ 21 s)) d
 rw[PS h.ne,Bool.cond_self]
 exact Cb h
theorem AK1{N f:Nat}(hN:N<799)(hf:2*N+10<=f)(h:Wn d s)(hc:s.c<=N):Tr (Wu f s) d λo c p=>rD o/\c+1<=s.c/\∀t,t<=d+1->p+lS t o<=s.p+110:=by
 have:=x_len
 have hle:=h.le
 have he:=ADW (N+1) f (by omega) (by omega)
 unfold Wu
 refine(he.tr d s h (by omega)).bind (λo s1 h1=>?_) λo s1 h1 hq=>?_
 ·show Bd (bif Hq [Di] s1 then _ else some (_,bif _ then s1 else EJ 21 s1)) d
  rw[Td h1.ne]
  show Bd (some (_,bif _ then s1 else EJ 21 s1)) d
  rw[PS h1.ne,Bool.cond_self]
  exact Cb h1
 obtain⟨hw,hc1,hp1⟩:=hq
 show Tr (bif Hq [Di] s1 then(BM [Di] (bif decide (o.kind=6)||(decide (o.kind=7)||decide (o.kind=12))then s1 else EJ 21 s1)).bind λs1=>(expr f s1).bind λq=>some (St.mk 2 [] JE [o,q.1] [] [],q.2)
  else some (St.mk 3 [] JE [o] [] [],bif decide (o.kind=8)||decide (o.kind=9)then s1 else EJ 21 s1)) d _
 cases Hq [Di] s1 with
 |false=>
  cases hk:decide (o.kind=8)||decide (o.kind=9)with
  |false=>exact(Cb (VZ h1 (.inr (.inr rfl)))).tr
  |true=>
   show Tr (some (St.mk 3 [] JE [o] [] [],s1)) d _
   refine ES h1 ⟨.ask hw (by simpa using hk),hc1,λt ht=>?_⟩
   have:=ATJ t o
   (try dsimp only at*);omega
 |true=>
  cases hk:decide (o.kind=6)||(decide (o.kind=7)||decide (o.kind=12))with
  |false=>
   refine(MS (VZ h1 (.inr (.inr rfl))) ?_).tr
   exact(he.bd d _ (VZ h1 (.inr (.inr rfl))) (by omega)).bind λo s2 h2=>Cb h2
  |true=>
   show Tr ((BM [Di] s1).bind λs1=>(expr f s1).bind λq=>some (St.mk 2 [] JE [o,q.1] [] [],q.2)) d _
   refine KF Di h1 (λs2 h2=>(he.bd d _ h2 (by omega)).bind λo s2 h2=>Cb h2) λs2 h2 hc2 hp2=>?_
   refine(he.tr d s2 h2 (by(try dsimp only at*);omega)).bind (λo s3 h3=>Cb h3) λo' s3 h3 hq=>?_
   obtain⟨hw',hc3,hp3⟩:=hq
   refine ES h3 ⟨.put hw (by simpa using hk) hw',by(try dsimp only at*);omega,λt ht=>?_⟩
   have:=ASQ t o o'
   (try dsimp only at*);omega
theorem AA8(st ch:PM St)(f:Nat)(s:S):Yn st ch f s=(LD s).bind λs1=>(bodyC st ch f s1).bind λp=>(VB p.2).bind λs'=>some (p.1,s'):=ACb ..
theorem AGI{st ch:PM St}{f:Nat}(h:Fz d s)(hd:d<800)(hf:4<=f):Bd (bodyC st ch f s) d:=by
 obtain⟨f,rfl⟩:∃g,f=g+4:=⟨f-4,by omega⟩
 unfold bodyC
 refine MS h ?_
 rw[tJ h.ne h.lt]
 refine(Z9 h (by omega) (by omega)).bind λo s1 h1=>QV h1 (Cb h1)
theorem AN2{st ch:PM St}{N f:Nat}(hN:N<790)(hs:SS st N)(hch:SS ch N)(hf:2*N+10<=f)(h:Wn d s)(hd:1<=d)(hc:s.c<=N):Tr (bodyC st ch f s) d (QS (d-1) s.c s.p):=by
 have:=x_len
 have hle:=h.le
 have he:=ADW (N+1) f (by omega) (by omega)
 unfold bodyC
 refine KF IL h (λs1 h1=>?_) λs1 h1 hc1 hp1=>?_
 ·refine(he.bd d s1 h1 (by omega)).bind λo s2 h2=>(Z9 h2 (by omega) (by omega)).bind λo s3 h3=>QV h3 (Cb h3)
 refine(he.tr d s1 h1 (by omega)).bind (λo s2 h2=>(Z9 h2 (by omega) (by omega)).bind λo s3 h3=>QV h3 (Cb h3)) λc s2 h2 hq=>?_
 obtain⟨hw,hc2,hp2⟩:=hq
 refine(mQ hs (by omega) h2 (by omega) (by omega)).bind (λo s3 h3=>QV h3 (Cb h3)) λth s3 h3 hq=>?_
 obtain⟨hth,hc3,hp3⟩:=hq
 refine GX EU h3 (λs4 h4 hc4 hp4=>?_) ?_
 ·show Tr ((bif Hq [IL] s4 then(ch s4).bind λx=>some ([x.1],x.2)else EW st f s4).bind λx=>some (St.mk 4 [] JE [c] th x.1,x.2)) d _
  cases Hq [IL] s4 with
  |true=>
   show Tr (((ch s4).bind λx=>some ([x.1],x.2)).bind λx=>some (St.mk 4 [] JE [c] th x.1,x.2)) d _
   rw[Option.bind_assoc]
   refine(hch.tr d s4 h4 (by(try dsimp only at*);omega)).bind (λo s5 h5=>Cb h5) λo s5 h5 hq=>?_
   obtain⟨ho,hc5,hp5⟩:=hq
   refine ES h5 ⟨.ite hw hth λx hx=>by rw[List.mem_singleton.1 hx];exact ho,by(try dsimp only at*);omega,λt ht=>?_⟩
   have a1:=AMp t c th [o]
   have a2:=hp3 t (by omega)
   have a3:=hp5 (t+1) (by omega)
   have a4:lF (t+1) [o]=lS (t+1) o:=by unfold lF lS;simp
   simp only[List.isEmpty_cons,cond_false]at a1
   (try dsimp only at*);omega
  |false=>
   refine(mQ hs (by(try dsimp only at*);omega) h4 (by(try dsimp only at*);omega) (by(try dsimp only at*);omega)).bind (λo s5 h5=>Cb h5) λel s5 h5 hq=>?_
   obtain⟨hel,hc5,hp5⟩:=hq
   refine ES h5 ⟨.ite hw hth hel,by(try dsimp only at*);omega,λt ht=>?_⟩
   have a1:=AMp t c th el
   have a2:=hp3 t (by omega)
   have a3:=hp5 t (by omega)
   have a4:(bif el.isEmpty then 0 else lF (t+1) el+(t+9))<=lF (t+1) el+(t+9):=by cases el.isEmpty<;>simp
   (try dsimp only at*);omega
 ·refine ES h3 ⟨.ite hw hth (λx hx=>by cases hx),by(try dsimp only at*);omega,λt ht=>?_⟩
  have a1:=AMp t c th []
  have a2:=hp3 t (by omega)
  simp only[List.isEmpty_nil,cond_true]at a1
  (try dsimp only at*);omega
theorem AKq{st ch:PM St}{N f:Nat}(hN:N<790)(hs:SS st N)(hch:SS ch N)(hf:2*N+10<=f)(h:Wn d s)(hc:s.c<=N):Tr (Yn st ch f s) d (QS d s.c s.p):=by
 have hle:=h.le
 rw[AA8]
 refine zk (g:=λo=>o) (R:=QS d s.c s.p) h (λs' hz _ _=>AGI hz (by omega) (by omega)) (λs' ha ht hr=>?_) λo c p hq=>hq
 have hcc:s'.c=s.c:=by unfold S.c;rw[hr]
 have hpp:s'.p=s.p:=by unfold S.p;rw[hr,ht]
 have:=AN2 hN hs hch hf ha (by omega) (by omega)
 rw[hcc,hpp]at this
 exact this
theorem AJ4{st ch:PM St}{f:Nat}(h:Fz d s)(hd:d<700)(hf:4<=f):Bd (Yn st ch f s) d:=by
 rw[AA8]
 exact AId (g:=λo=>o) h (by omega) λs' h'=>AGI h' (by omega) hf
theorem APZ{st ch:PM St}{f:Nat}(h:Fz d s)(hf:4<=f):Bd (TT st ch f s) d:=by
 unfold TT
 refine QV h ?_
 show Bd (bif Hq [IL] s then _ else _) d
 rw[Td h.ne]
 exact QV h (QV h (QV h ((AKp h hf).bind λo s1 h1=>wQ h1)))
theorem APi{st ch:PM St}{N f:Nat}(hN:N<790)(hs:SS st N)(hch:SS ch (N+1))(hf:2*N+10<=f)(h:Wn d s)(hc:s.c<=N):Tr (TT st ch f s) d (QS d s.c s.p):=by
 have:=x_len
 have hle:=h.le
 have he:=ADW (N+1) f (by omega) (by omega)
 have eb:∀{g:Ex->St} {s1:S},Fz d s1->Bd ((expr f s1).bind λx=>endP (g x.1) x.2) d:=λh1=>(he.bd d _ h1 (by omega)).bind λo s2 h2=>wQ h2
 unfold TT
 refine GX NM h (λs1 h1 hc1 hp1=>?_) ?_
 ·refine AEj h1 (λt s2 h2=>Yv h2 (MS h2 (eb (g:=λx=>St.mk 1 [] t [x] [] []) h2))) λty s2 h2 hty hc2 hp2=>?_
  refine Vh h2 (by decide) (λs3 h3=>MS h3 (eb (g:=λx=>St.mk 1 [] ty [x] [] []) h3)) λl s3 h3 _ hlow hc3 hp3=>?_
  refine KF Di h3 (λs4 h4=>eb (g:=λx=>St.mk 1 l ty [x] [] []) h4) λs4 h4 hc4 hp4=>?_
  refine(he.tr d s4 h4 (by(try dsimp only at*);omega)).bind (λo s5 h5=>wQ h5) λo s5 h5 hq=>?_
  obtain⟨hw,hc5,hp5⟩:=hq
  refine AEn h5 λs6 h6 hc6 hp6=>⟨.lt (hlow rfl) hty hw,by(try dsimp only at*);omega,λt ht=>?_⟩
  have:=AUW t l ty o
  (try dsimp only at*);omega
 show Tr (bif Hq [IL] s then ch s else _) d _
 cases Hq [IL] s with
 |true=>exact hch.tr d s h (by omega)
 |false=>
 refine GX FK h (λs1 h1 hc1 hp1=>?_) ?_
 ·refine(he.tr d s1 h1 (by(try dsimp only at*);omega)).bind (λo s2 h2=>(Z9 h2 (by(try dsimp only at*);omega) (by(try dsimp only at*);omega)).bind λo s3 h3=>Cb h3) λc s2 h2 hq=>?_
  obtain⟨hw,hc2,hp2⟩:=hq
  refine(mQ hs (by(try dsimp only at*);omega) h2 (by(try dsimp only at*);omega) (by(try dsimp only at*);omega)).bind (λo s3 h3=>Cb h3) λth s3 h3 hq=>?_
  obtain⟨hth,hc3,hp3⟩:=hq
  refine ES h3 ⟨.loop hw hth,by(try dsimp only at*);omega,λt ht=>?_⟩
  have:=AQn t c th
  have:=hp3 t (by omega)
  (try dsimp only at*);omega
 refine GX EZ h (λs1 h1 hc1 hp1=>?_) ?_
 ·refine(he.tr d s1 h1 (by(try dsimp only at*);omega)).bind (λo s2 h2=>wQ h2) λo s2 h2 hq=>?_
  obtain⟨hw,hc2,hp2⟩:=hq
  refine AEn h2 λs6 h6 hc6 hp6=>⟨.ret hw,by(try dsimp only at*);omega,λt ht=>?_⟩
  have:=ATk t o
  (try dsimp only at*);omega
 refine GX FM h (λs1 h1 hc1 hp1=>?_) ?_
 ·refine(he.tr d s1 h1 (by(try dsimp only at*);omega)).bind (λo s2 h2=>wQ h2) λo s2 h2 hq=>?_
  obtain⟨hw,hc2,hp2⟩:=hq
  refine AEn h2 λs6 h6 hc6 hp6=>⟨.prt hw,by(try dsimp only at*);omega,λt ht=>?_⟩
  have:=ATT t o
  (try dsimp only at*);omega
 refine(AK1 (N:=N) (by omega) (by omega) h hc).bind (λo s2 h2=>wQ h2) λo s2 h2 hq=>?_
 obtain⟨hw,hc2,hp2⟩:=hq
 refine AEn h2 λs6 h6 hc6 hp6=>⟨hw,by(try dsimp only at*);omega,λt ht=>?_⟩
 have:=hp2 t ht
 (try dsimp only at*);omega
end
theorem AVe:∀(N:Nat),N<790->∀f,(2*N+12<=f->SS (sc f true) N)/\(2*N+13<=f->SS (sc f false) N):=by
 have bdt:∀f,5<=f->∀b d s,Fz d s->d<500->Bd (sc f b s) d:=λf hf b d s h hd=>by
  obtain⟨f,rfl⟩:∃g,f=g+1:=⟨f-1,by omega⟩
  unfold sc
  cases b with
  |true=>exact AJ4 h (by omega) (by omega)
  |false=>exact APZ h (by omega)
 intro N
 induction N with
 |zero=>intro _ f;exact⟨λhf=>⟨λd s h hc=>by omega,bdt f (by omega) _⟩,λhf=>⟨λd s h hc=>by omega,bdt f (by omega) _⟩⟩
 |succ N ih=>
  intro hN f
  have tt:∀f,2*(N+1)+12<=f->SS (sc f true) (N+1):=λf hf=>by
   refine⟨λd s h hc=>?_,bdt f (by omega) _⟩
   obtain⟨f,rfl⟩:∃g,f=g+1:=⟨f-1,by omega⟩
   unfold sc
   exact AKq (N:=N) (by omega) ((ih (by omega) f).2 (by omega)) ((ih (by omega) f).1 (by omega)) (by omega) h (by omega)
  refine⟨tt f,λhf=>⟨λd s h hc=>?_,bdt f (by omega) _⟩⟩
  obtain⟨f,rfl⟩:∃g,f=g+1:=⟨f-1,by omega⟩
  unfold sc
  exact APi (N:=N) (by omega) ((ih (by omega) f).2 (by omega)) (tt f (by omega)) (by omega) h (by omega)
abbrev lP(l:List Va):Nat:=(GZ (l.map aQ)).length
abbrev lFs(l:List Va):Nat:=(l.map Nb).flatten.length
abbrev lMs(l:List Me):Nat:=(l.map Qd).flatten.length
theorem AL9(v:Va):(aQ v).length=(aG v.ty).length+(v.nm.length+1):=by
 unfold aQ;simp only[List.length_append,List.length_cons,List.length_nil];omega
theorem AQ1(l:List Va)(v:Va):lP (l++[v])=lP l+(aQ v).length+(bif l.isEmpty then 0 else 2):=by
 unfold lP;rw[List.map_append,List.map_cons,List.map_nil,AC5];cases l<;>rfl
theorem ALC(l:List Va)(v:Va):lFs (l++[v])=lFs l+((aG v.ty).length+(v.nm.length+10)):=by
 have:=x_len
 unfold lFs Nb;simp only[List.map_append,List.map_cons,List.map_nil,List.flatten_append,List.flatten_cons,List.flatten_nil,List.length_append,List.length_cons,List.length_nil];omega
theorem AN5(l:List Me)(m:Me):lMs (l++[m])=lMs l+(Qd m).length:=by
 unfold lMs;simp
theorem AM8(m:Me):(Qd m).length<=(aG m.ret).length+(m.nm.length+(lP m.ps+(lF 2 m.body+25))):=by
 have:=x_len;have:=PE;have hb:=AAE 1 m.body
 have e:(Jy 1 (m.body.map (textS 2))).length=lF 2 m.body+4:=hb
 unfold Qd lP
 cases m.st<;>simp only[cond_true,cond_false,List.length_append,List.length_cons,List.length_nil]at* <;>omega
def QC(c p:Nat)(fs:List Va)(ms:List Me)(o:List Va×List Me)(c' p':Nat):Prop:=
 (∀x∈o.1,WrV x)/\o.1.length<=200/\(∀x∈o.2,WrM x)/\o.2.length<=200/\c'<=c/\p'+(lFs o.1+lMs o.2)<=p+(lFs fs+lMs ms)
section
variable{d:Nat}{s:S}
theorem X6{f:Nat}{l:List Va}(h:Fz d s)(hf:1<=f):Bd (ET f l s) d:=by
 obtain⟨f,rfl⟩:∃g,f=g+1:=⟨f-1,by omega⟩
 unfold ET
 rw[U4 h.ne];exact Cb h
theorem lC{n:Nat}{s:S}(h:s.e≠0):D9 n s=s:=by unfold D9;rw[PS h,Bool.cond_self]
theorem AH9:∀(f:Nat) (l:List Va) (d:Nat) (s:S),Wn d s->s.c+2<=f->(∀x∈l,WrV x)->l.length<=200->
 Tr (ET f l s) d λo c p=>(∀x∈o,WrV x)/\o.length<=200/\c<=s.c/\p+lP o<=s.p+lP l:=by
 intro f
 induction f with
 |zero=>intro l d s h hf;omega
 |succ f ih=>
  intro l d s h hf hl hn
  have hle:=h.le
  have ho:s.ok=true:=by unfold S.ok;rw[h.e];rfl
  unfold ET
  rw[ho]
  refine GX BD h (λs1 h1 hc1 hp1=>ES h1 ⟨hl,hn,by(try dsimp only at*);omega,by(try dsimp only at*);omega⟩) ?_
  have one:∀s1,Wn d s1->s1.c<=s.c->s1.p+(bif l.isEmpty then 0 else 2)<=s.p->Tr ((UZ s1).bind λt=>(Eo 3 t.2).bind λn=>ET f (l++[⟨n.1,t.1⟩]) (D9 (l.length+1) n.2)) d λo c p=>(∀x∈o,WrV x)/\o.length<=200/\c<=s.c/\p+lP o<=s.p+lP l:=by
   intro s1 h1 hc1 hp1
   refine AEj h1 (λt s2 h2=>Yv h2 ?_) λty s2 h2 hty hc2 hp2=>?_
   ·show Bd (ET f _ (D9 _ s2)) d
    rw[lC h2.ne]
    exact X6 h2 (by omega)
   refine Vh h2 (by decide) (λs3 h3=>?_) λn s3 h3 _ hlow hc3 hp3=>?_
   ·show Bd (ET f _ (D9 _ s3)) d
    rw[lC h3.ne]
    exact X6 h3 (by(try dsimp only at*);omega)
   try dsimp only at*
   refine AAR (k:=ET f (l++[⟨n,ty⟩])) h3 (λs4 h4=>X6 h4 (by omega)) λh200=>?_
   have hj:=AQ1 l ⟨n,ty⟩
   have hpl:=AL9 ⟨n,ty⟩
   try dsimp only at hj hpl
   refine(ih (l++[Va.mk n ty]) d s3 h3 (by omega) ?_ ?_).mono λo' c p hq=>⟨hq.1,hq.2.1,by have:=hq.2.2.1;omega,by have:=hq.2.2.2;omega⟩
   ·intro x hx
    rcases List.mem_append.1 hx with hx|hx
    ·exact hl x hx
    ·rw[List.mem_singleton.1 hx];exact WrV.mk (hlow rfl) hty
   ·rw[List.length_append];exact h200
  cases l with
  |nil=>exact one s h (Nat.le_refl _) (Nat.le_refl _)
  |cons a l=>
   refine KF CY h (λs1 h1=>AMM h1 (Yv h1 ?_)) λs1 h1 hc1 hp1=>one s1 h1 (by(try dsimp only at*);omega) (by show s1.p+2<=_;(try dsimp only at*);omega)
   show Bd (ET f _ (D9 _ s1)) d
   rw[lC h1.ne]
   exact X6 h1 (by(try dsimp only at*);omega)
theorem AVH{N f:Nat}(hN:N<790)(hf:2*N+13<=f):SS (sc f false) N:=(AVe N hN f).2 hf
def ALl(f:Nat)(b:Bool)(s:S):Option (Me×S):=(BM [D8] s).bind λs1=>(UZ s1).bind λt=>(Eo 3 t.2).bind λn=>(BM [Au] n.2).bind λs2=>
 (ET f [] s2).bind λps=>(EW (sc f false) f ps.2).bind λx=>some (⟨n.1,b,ps.1,t.1,x.1⟩,x.2)
theorem AH6(f:Nat)(s:S):Rh f s=(BZ FB s).bind λp=>ALl f p.1 p.2:=rfl
theorem AFo{N f:Nat}{b:Bool}(hN:N<790)(hf:2*N+13<=f)(h:Wn 0 s)(hc:s.c<=N):Tr (ALl f b s) 0 λo c p=>WrM o/\c+1<=s.c/\p+(Qd o).length<=s.p:=by
 have:=x_len;have:=PE
 have hs:=AVH hN hf
 have bb:∀{s1:S} {g:List St->Me},Fz 0 s1->Bd ((EW (sc f false) f s1).bind λx=>some (g x.1,x.2)) 0:=λh1=>(Z9 h1 (by omega) (by omega)).bind λo s2 h2=>Cb h2
 have bp:∀{s1:S} {g:List Va->List St->Me},Fz 0 s1->Bd ((ET f [] s1).bind λps=>(EW (sc f false) f ps.2).bind λx=>some (g ps.1 x.1,x.2)) 0:=λ{s1 g} h1=>(X6 h1 (by omega)).bind λo s2 h2=>bb (g:=g o) h2
 unfold ALl
 refine KF D8 h (λs1 h1=>AMM h1 (Yv h1 (MS h1 (bp (g:=λps x=>⟨[],b,ps,⟨[],false⟩,x⟩) h1)))) λs1 h1 hc1 hp1=>?_
 refine AEj h1 (λt s2 h2=>Yv h2 (MS h2 (bp (g:=λps x=>⟨[],b,ps,t,x⟩) h2))) λty s2 h2 hty hc2 hp2=>?_
 refine Vh h2 (by decide) (λs3 h3=>MS h3 (bp (g:=λps x=>⟨[],b,ps,ty,x⟩) h3)) λn s3 h3 _ hlow hc3 hp3=>?_
 refine KF Au h3 (λs4 h4=>bp (g:=λps x=>⟨n,b,ps,ty,x⟩) h4) λs4 h4 hc4 hp4=>?_
 try dsimp only at*
 refine(AH9 f [] 0 s4 h4 (by omega) (λx hx=>by cases hx) (by decide)).bind (λo s5 h5=>bb (g:=λx=>⟨n,b,o,ty,x⟩) h5) λps s5 h5 hq=>?_
 obtain⟨hps,hpn,hc5,hp5⟩:=hq
 rw[show lP []=0 from rfl]at hp5
 refine(mQ hs (by omega) h5 (by omega) (by omega)).bind (λo s6 h6=>Cb h6) λbd s6 h6 hq=>?_
 obtain⟨hbd,hc6,hp6⟩:=hq
 have hp6:s6.p+lF 2 bd+220<=s5.p:=hp6 1 (by omega)
 have hm:=AM8 ⟨n,b,ps,ty,bd⟩
 have h0:lP []=0:=rfl
 try dsimp only at*
 exact ES h6 ⟨⟨hlow rfl,hty,hps,hpn,hbd⟩,by(try dsimp only at*);omega,by(try dsimp only at*);omega⟩
theorem AGv{N f:Nat}(hN:N<790)(hf:2*N+13<=f)(h:Wn 0 s)(hc:s.c<=N):Tr (Rh f s) 0 λo c p=>WrM o/\c+1<=s.c/\p+(Qd o).length<=s.p:=by
 rw[AH6]
 refine GX FB h (λs1 h1 hc1 hp1=>?_) (AFo hN hf h hc)
 exact(AFo hN hf h1 (by omega)).mono λo c p hq=>⟨hq.1,by have:=hq.2.1;(try dsimp only at*);omega,by have:=hq.2.2;(try dsimp only at*);omega⟩
theorem Sm{f g:Nat}{fs:List Va}{ms:List Me}(h:Fz d s)(hf:1<=g):Bd (EL f g fs ms s) d:=by
 obtain⟨g,rfl⟩:∃k,g=k+1:=⟨g-1,by omega⟩
 unfold EL
 rw[U4 h.ne];exact Cb h
theorem AJ6{N f:Nat}(hN:N<790)(hf:2*N+13<=f):
 ∀(g:Nat) (fs:List Va) (ms:List Me) (s:S),Wn 0 s->s.c<=N->s.c+2<=g->(∀x∈fs,WrV x)->fs.length<=200->(∀x∈ms,WrM x)->ms.length<=200->Tr (EL f g fs ms s) 0 (QC s.c s.p fs ms):=by
 have:=x_len
 intro g
 induction g with
 |zero=>intro fs ms s h hc hg;omega
 |succ g ih=>
  intro fs ms s h hc hg hfs hfn hms hmn
  have ho:s.ok=true:=by unfold S.ok;rw[h.e];rfl
  unfold EL
  rw[ho]
  refine GX m_rc h (λs1 h1 hc1 hp1=>ES h1 ⟨hfs,hfn,hms,hmn,by(try dsimp only at*);omega,by(try dsimp only at*);omega⟩) ?_
  refine GX MN h (λs1 h1 hc1 hp1=>?_) ?_
  ·have bw:∀{s2:S} {t:Ty} {n:Bs},Fz 0 s2->Bd ((BM [Aq] (D9 (fs.length+1) s2)).bind λs1=>EL f g (fs++[⟨n,t⟩]) ms s1) 0:=λh2=>by
    rw[lC h2.ne];exact MS h2 (Sm h2 (by omega))
   refine AEj h1 (λt s2 h2=>Yv h2 (bw (t:=t) (n:=[]) h2)) λty s2 h2 hty hc2 hp2=>?_
   refine Vh h2 (by decide) (λs3 h3=>bw (t:=ty) (n:=[]) h3) λn s3 h3 _ hlow hc3 hp3=>?_
   try dsimp only at*
   refine AAR (k:=λs=>(BM [Aq] s).bind λs1=>EL f g (fs++[⟨n,ty⟩]) ms s1) h3 (λs4 h4=>MS h4 (Sm h4 (by omega))) λh200=>?_
   refine KF Aq h3 (λs4 h4=>Sm h4 (by omega)) λs4 h4 hc4 hp4=>?_
   have hj:=ALC fs ⟨n,ty⟩
   try dsimp only at*
   refine(ih (fs++[Va.mk n ty]) ms s4 h4 (by omega) (by omega) ?_ ?_ hms hmn).mono λo' c p hq=>⟨hq.1,hq.2.1,hq.2.2.1,hq.2.2.2.1,by have:=hq.2.2.2.2.1;omega,by have:=hq.2.2.2.2.2;omega⟩
   ·intro x hx
    rcases List.mem_append.1 hx with hx|hx
    ·exact hfs x hx
    ·rw[List.mem_singleton.1 hx];exact WrV.mk (hlow rfl) hty
   ·rw[List.length_append];exact h200
  ·show Tr (bif Hq [FB,D8] s then(Rh f s).bind λm=>EL f g fs (ms++[m.1]) (D9 (ms.length+1) m.2)else EL f g fs ms (EJ 21 s)) 0 _
   cases Hq [FB,D8] s with
   |false=>exact(Sm (VZ h (.inr (.inr rfl))) (by omega)).tr
   |true=>
    refine(AGv hN hf h hc).bind (λo s2 h2=>?_) λm s2 h2 hq=>?_
    ·show Bd (EL f g fs _ (D9 _ s2)) 0
     rw[lC h2.ne]
     exact Sm h2 (by omega)
    obtain⟨hw,hc2,hp2⟩:=hq
    refine AAR (k:=EL f g fs (ms++[m])) h2 (λs4 h4=>Sm h4 (by omega)) λh200=>?_
    have hj:=AN5 ms m
    try dsimp only at*
    refine(ih fs (ms++[m]) s2 h2 (by omega) (by omega) hfs hfn ?_ ?_).mono λo' c p hq=>⟨hq.1,hq.2.1,hq.2.2.1,hq.2.2.2.1,by have:=hq.2.2.2.2.1;omega,by have:=hq.2.2.2.2.2;omega⟩
    ·intro x hx
     rcases List.mem_append.1 hx with hx|hx
     ·exact hms x hx
     ·rw[List.mem_singleton.1 hx];exact hw
    ·rw[List.length_append];exact h200
def wC(f:Nat)(nm sup:Bs)(s:S):Option (Cl×S):=(BM [MG] s).bind λs2=>(EL f f [] [] s2).bind λx=>some (⟨nm,sup,x.1.1,x.1.2⟩,bif x.2.ok&& !decide (x.2.t.kind=0)then EJ 21 x.2 else x.2)
theorem AKT(f:Nat)(s:S):xX f s=(BM [J9] s).bind λs1=>(Eo 2 s1).bind λn=>(BZ Hl n.2).bind λp=>(bif p.1 then Eo 2 p.2 else some ([],p.2)).bind λu=>wC f n.1 u.1 u.2:=rfl
theorem ACg{f:Nat}{nm sup:Bs}(h:Fz d s)(hf:1<=f):Bd (wC f nm sup s) d:=by
 refine MS h ((Sm h hf).bind λo s2 h2=>?_)
 show Bd (some (_,bif s2.ok&&_ then _ else s2)) d
 rw[U4 h2.ne]
 exact Cb h2
theorem AJo(c:Cl):(Qr c).length<=c.nm.length+(c.sup.length+(lFs c.fs+(lMs c.ms+30))):=by
 have:=x_len
 unfold Qr lFs lMs
 cases c.sup.isEmpty<;>simp only[cond_true,cond_false,List.length_append,List.length_cons,List.length_nil]at* <;>omega
theorem ACd{N f:Nat}{nm sup:Bs}(hN:N<790)(hf:2*N+13<=f)(h:Wn 0 s)(hc:s.c<=N)(hn:ZV nm=true)(hs:sup=[]∨ZV sup=true):
 Tr (wC f nm sup s) 0 λo c p=>WrC o/\p+(Qr o).length<=s.p+(nm.length+sup.length):=by
 have:=x_len
 refine KF MG h (λs1 h1=>?_) λs1 h1 hc1 hp1=>?_
 ·refine(Sm h1 (by omega)).bind λo s2 h2=>?_
  show Bd (some (_,bif s2.ok&&_ then _ else s2)) 0
  rw[U4 h2.ne]
  exact Cb h2
 refine(AJ6 hN hf f [] [] s1 h1 (by omega) (by omega) (λx hx=>by cases hx) (by decide) (λx hx=>by cases hx) (by decide)).bind (λo s2 h2=>?_) λo s2 h2 hq=>?_
 ·show Bd (some (_,bif s2.ok&&_ then _ else s2)) 0
  rw[U4 h2.ne]
  exact Cb h2
 obtain⟨h3,h4,h5,h6,hc2,hp2⟩:=hq
 have ho:s2.ok=true:=by unfold S.ok;rw[h2.e];rfl
 show Tr (some ((⟨nm,sup,o.1,o.2⟩:Cl),bif s2.ok&& !decide (s2.t.kind=0)then EJ 21 s2 else s2)) 0 _
 rw[ho]
 cases hk:decide (s2.t.kind=0)with
 |false=>exact(Cb (VZ h2 (.inr (.inr rfl)))).tr
 |true=>
  have hl:=AJo ⟨nm,sup,o.1,o.2⟩
  have h0:lFs []=0:=rfl
  have h00:lMs []=0:=rfl
  show Tr (some ((⟨nm,sup,o.1,o.2⟩:Cl),s2)) 0 _
  try dsimp only at*
  exact ES h2 ⟨⟨hn,hs,h3,h4,h5,h6⟩,by omega⟩
theorem AJ0{N f:Nat}(hN:N<790)(hf:2*N+13<=f)(h:Wn 0 s)(hc:s.c<=N):Tr (xX f s) 0 λo c p=>WrC o/\p+(Qr o).length<=s.p:=by
 have:=x_len
 rw[AKT]
 have bb:∀{s1:S} {nm:Bs},Fz 0 s1->Bd ((BZ Hl s1).bind λp=>(bif p.1 then Eo 2 p.2 else some ([],p.2)).bind λu=>wC f nm u.1 u.2) 0:=λh1=>QV h1 (ACg h1 (by omega))
 refine KF J9 h (λs1 h1=>Yv h1 (bb (nm:=[]) h1)) λs1 h1 hc1 hp1=>?_
 refine Vh h1 (by decide) (λs2 h2=>bb (nm:=[]) h2) λn s2 h2 hu _ hc2 hp2=>?_
 try dsimp only at*
 refine GX Hl h2 (λs3 h3 hc3 hp3=>?_) ?_
 ·show Tr ((Eo 2 s3).bind λu=>wC f n u.1 u.2) 0 _
  refine Vh h3 (by decide) (λs4 h4=>ACg h4 (by omega)) λsup s4 h4 hu4 _ hc4 hp4=>?_
  exact(ACd (sup:=sup) hN hf h4 (by omega) (hu rfl) (.inr (hu4 rfl))).mono λo c p hq=>⟨hq.1,by have:=hq.2;(try dsimp only at*);omega⟩
 ·show Tr (wC f n [] s2) 0 _
  have h0:([]:Bs).length=0:=rfl
  exact(ACd hN hf h2 (by omega) (hu rfl) (.inl rfl)).mono λo c p hq=>⟨hq.1,by have:=hq.2;(try dsimp only at*);omega⟩
end
theorem AFB{ts:List Tok}(h:AL1 ts)(hn:ts.length<=600):∃o e,vS 200000 ts=some (o,e)/\((e=3∨e=4∨e=21)∨e=0/\WrC o/\(Qr o).length<=AD0 ts):=by
 cases ts with
 |nil=>exact h.elim
 |cons t r=>
  obtain⟨o,s',e,hx⟩:=AJ0 (s:=⟨t,r,0,0⟩) (N:=600) (f:=200000) (by decide) (by decide) ⟨rfl,rfl,h,by decide⟩ (by show r.length<=600;rw[List.length_cons]at hn;omega)
  refine⟨o,s'.e,?_,?_⟩
  ·show((xX 200000 ⟨t,r,0,0⟩).bind λp=>some (p.1,p.2.e))=_
   rw[e];rfl
  ·rcases hx with⟨ha,hw,hp⟩|hf
   ·refine .inr ⟨ha.e,hw,?_⟩
    have:(⟨t,r,0,0⟩:S).p=AD0 (t::r):=rfl
    omega
   ·exact .inl hf.e
theorem Zo:∀(r:Bs) (b:Bool),(DV b r).length<=r.length
 |[],b=>by cases b<;>exact Nat.le_refl _
 |c::t,true=>by
  show(bif decide (c.toNat=10)then DV false t else DV true t).length<=_
  have h1:=Zo t false
  have h2:=Zo t true
  cases decide (c.toNat=10)<;>simp only[cond_true,cond_false,List.length_cons]<;>omega
 |c::t,false=>by
  rw[AD9]
  have h1:=Zo t false
  have h2:=Zo t true
  cases blank c<;>cases pre [47,47] (c::t)<;>simp only[cond_true,cond_false,List.length_cons]<;>omega
theorem AML:∀(l:Bs) (n k:Nat),n<=288230376151711744->WT n l=some k->k<=288230376151711744
 |[],n,k,hn,h=>by cases h;exact hn
 |c::l,n,k,hn,h=>by
  have h:(bif decide (288230376151711744<n*10+(c.toNat-48))then none else WT (n*10+(c.toNat-48)) l)=some k:=h
  cases hd:decide (288230376151711744<n*10+(c.toNat-48))with
  |true=>rw[hd]at h;cases h
  |false=>
   rw[hd]at h
   have:=of_decide_eq_false hd
   exact AML l _ k (by omega) h
theorem AHA(p:UInt8->Bool):∀l:Bs,(l.takeWhile p).all p=true
 |[]=>rfl
 |c::l=>by
  cases h:p c with
  |true=>rw[List.takeWhile_cons_of_pos h,List.all_cons,h,AHA p l];rfl
  |false=>rw[List.takeWhile_cons_of_neg (by rw[h];decide)];rfl
theorem AD4(p:UInt8->Bool):∀l:Bs,(l.takeWhile p).length<=l.length
 |[]=>Nat.le_refl _
 |c::l=>by
  have:=AD4 p l
  cases h:p c with
  |true=>rw[List.takeWhile_cons_of_pos h,List.length_cons,List.length_cons];omega
  |false=>rw[List.takeWhile_cons_of_neg (by rw[h];decide)];exact Nat.zero_le _
def AQa(n:Nat)(x:Nat×Tok):Prop:=(x.1=0∨x.1=4∨x.1=20∨x.1=22)/\(x.1=0->ATQ x.2/\(x.2.kind=0->x.2.text=[])/\(x.2.kind≠0->1<=x.2.text.length/\x.2.text.length<=n))
theorem AI1{n k:Nat}{l:Bs}(h1:1<=l.length)(h2:l.length<=n)(hk:k≠0)(h:l.length<=40->ATQ ⟨k,l,0⟩):AQa n (XC ⟨k,l,0⟩):=by
 unfold XC
 cases hd:decide (40<l.length)with
 |true=>exact⟨.inr (.inl rfl),λh=>by cases h⟩
 |false=>
  have:=of_decide_eq_false hd
  exact⟨.inl rfl,λ_=>⟨h (by omega),(λh0=>absurd h0 hk),λ_=>⟨h1,h2⟩⟩⟩
theorem AOo(c:UInt8)(l:Bs):Gz (c::l)=bif great c then XC ⟨2,(c::l).takeWhile inner,0⟩else
 bif small c then XC ⟨bif decide ((c::l).takeWhile inner∈Nv)then 1 else 3,(c::l).takeWhile inner,0⟩else
 bif digit c then(match WT 0 ((c::l).takeWhile digit)with|none=>(22,TN)|some n=>(0,⟨4,(c::l).takeWhile digit,n⟩))else
 match EX.find? (λm=>pre m (c::l))with|none=>(20,TN)|some m=>(0,⟨5,m,0⟩):=rfl
theorem ANM(l:Bs):AQa l.length (Gz l):=by
 cases l with
 |nil=>exact⟨.inl rfl,λ_=>⟨⟨(λh=>by cases h),(λh=>by cases h),(λh=>by cases h)⟩,λ_=>rfl,λh=>absurd rfl h⟩⟩
 |cons c l=>
  rw[AOo]
  have tw:∀{p:UInt8->Bool},p c=true->((c::l).takeWhile p)=c::l.takeWhile p:=λh=>List.takeWhile_cons_of_pos h
  have tl:∀{p:UInt8->Bool},p c=true->1<=((c::l).takeWhile p).length:=λh=>by rw[tw h,List.length_cons];omega
  cases hg:great c with
  |true=>
   have hi:inner c=true:=by unfold inner;rw[hg];rfl
   refine AI1 (tl hi) (AD4 _ _) (by decide) λh40=>⟨(λh=>by cases h),λ_=>?_,(λh=>by cases h)⟩
   show nameB great ((c::l).takeWhile inner)=true
   unfold nameB
   rw[AHA,decide_eq_true h40,tw hi]
   show(great c&&true&&true)=true
   rw[hg];rfl
  |false=>
  cases hs:small c with
  |true=>
   have hi:inner c=true:=by unfold inner;rw[hg,hs];rfl
   refine AI1 (tl hi) (AD4 _ _) (by cases decide ((c::l).takeWhile inner∈Nv)<;>decide) λh40=>?_
   cases hw:decide ((c::l).takeWhile inner∈Nv)with
   |true=>exact⟨(λh=>by cases h),(λh=>by cases h),(λh=>by cases h)⟩
   |false=>
    refine⟨λ_=>?_,(λh=>by cases h),(λh=>by cases h)⟩
    show qN ((c::l).takeWhile inner)=true
    unfold qN
    rw[hw]
    unfold nameB
    rw[AHA,decide_eq_true h40,tw hi]
    show((small c&&true&&true)&&true)=true
    rw[hs];rfl
  |false=>
  cases hd:digit c with
  |true=>
   show AQa _ (match WT 0 ((c::l).takeWhile digit)with|none=>(22,TN)|some n=>(0,⟨4,(c::l).takeWhile digit,n⟩))
   cases hn:WT 0 ((c::l).takeWhile digit)with
   |none=>exact⟨.inr (.inr (.inr rfl)),(λh=>by cases h)⟩
   |some n=>exact⟨.inl rfl,λ_=>⟨⟨(λh=>by cases h),(λh=>by cases h),λ_=>AML _ _ _ (by decide) hn⟩,(λh=>by cases h),λ_=>⟨tl hd,AD4 _ _⟩⟩⟩
  |false=>
   show AQa _ (match EX.find? (λm=>pre m (c::l))with|none=>(20,TN)|some m=>(0,⟨5,m,0⟩))
   cases hf:EX.find? (λm=>pre m (c::l))with
   |none=>exact⟨.inr (.inr (.inl rfl)),(λh=>by cases h)⟩
   |some m=>
    have hp:=List.find?_some hf
    have hm:=List.mem_of_find?_eq_some hf
    simp only[pre,Bool.and_eq_true,decide_eq_true_eq]at hp
    have hl:∀m∈EX,1<=m.length:=by decide
    exact⟨.inl rfl,λ_=>⟨⟨(λh=>by cases h),(λh=>by cases h),(λh=>by cases h)⟩,(λh=>by cases h),λ_=>⟨hl m hm,hp.1⟩⟩⟩
theorem AK0:∀(f:Nat) (r:Bs),r.length<f->((WB f r).1=0∨(WB f r).1=4∨(WB f r).1=20∨(WB f r).1=22)/\((WB f r).1=0->AL1 (WB f r).2/\AD0 (WB f r).2<=111*r.length+110/\(WB f r).2.length<=r.length+1):=by
 intro f
 induction f with
 |zero=>intro r h;omega
 |succ f ih=>
  intro r hr
  rw[ABn]
  have hs:=Zo r false
  generalize DV false r=q at hs
  obtain⟨h1,h2⟩:=ANM q
  generalize Gz q=x at h1 h2
  cases hx:decide (x.1=0)with
  |false=>have:=of_decide_eq_false hx;exact⟨h1,λh=>absurd h this⟩
  |true=>
   obtain⟨ht,h0,hn⟩:=h2 (of_decide_eq_true hx)
   cases hk:decide (x.2.kind=0)with
   |true=>
    have hk:=of_decide_eq_true hk
    refine⟨.inl rfl,λ_=>⟨⟨ht,.inl hk⟩,?_,?_⟩⟩
    ·show x.2.text.length+110+0<=_
     rw[h0 hk];show 0+110+0<=_;omega
    ·show 1<=_;omega
   |false=>
    have hk:=of_decide_eq_false hk
    obtain⟨hn1,hn2⟩:=hn hk
    have hd:(q.drop x.2.text.length).length=q.length-x.2.text.length:=List.length_drop
    obtain⟨i1,i2⟩:=ih (q.drop x.2.text.length) (by omega)
    refine⟨i1,λhe=>?_⟩
    obtain⟨j1,j2,j3⟩:=i2 he
    refine⟨⟨ht,.inr j1⟩,?_,?_⟩
    ·show x.2.text.length+110+AD0 (WB f (q.drop x.2.text.length)).2<=_
     omega
    ·show(WB f (q.drop x.2.text.length)).2.length+1<=_
     omega
theorem AGp{s:Bs}(h:s.length<=500):∃o e,bD 200000 s=some (o,e)/\(o=none/\(e=3∨e=4∨e=20∨e=21∨e=22)∨∃c,o=some c/\e=0/\WrC c/\(Qr c).length<=60000):=by
 have hl:zN s=WB (s.length+1) s:=by unfold zN;rw[decide_eq_false (show ¬65536<s.length by omega)];rfl
 unfold bD
 rw[hl]
 obtain⟨h1,h2⟩:=AK0 (s.length+1) s (by omega)
 generalize WB (s.length+1) s=x at h1 h2
 cases hx:decide (x.1=0)with
 |false=>
  have hx:=of_decide_eq_false hx
  exact⟨none,x.1,rfl,.inl ⟨rfl,by omega⟩⟩
 |true=>
  obtain⟨ht,hp,hl⟩:=h2 (of_decide_eq_true hx)
  obtain⟨o,e,he,hc⟩:=AFB ht (by omega)
  rw[he]
  show ∃o' e',some (bif decide (e=0)then(some o,0)else(none,e))=some (o',e')/\_
  rcases hc with hc|⟨rfl,hw,hc⟩
  ·rw[decide_eq_false (by omega)]
   exact⟨none,e,rfl,.inl ⟨rfl,by omega⟩⟩
  ·exact⟨some o,0,rfl,.inr ⟨o,rfl,rfl,hw,by omega⟩⟩
theorem AH5{x:Cl}(hw:WrC x)(hn:nC x<=(Qr x).length)(hl:(Qr x).length<=60000):bD 200000 (Qr x)=some (some x,0)∨bD 200000 (Qr x)=some (none,3):=by
 unfold bD
 rw[AQg (AJn hw) (by omega)]
 obtain⟨c',e,h1,h2,h3⟩:=AOl (f:=200000) hw (by omega) (by omega)
 show((vS 200000 (l7 x++[TN])).bind λp=>some (bif decide (p.2=0)then(some p.1,0)else(none,p.2)))=_∨((vS 200000 (l7 x++[TN])).bind λp=>some (bif decide (p.2=0)then(some p.1,0)else(none,p.2)))=_
 rw[h1]
 rcases h3 with⟨rfl,_⟩|⟨rfl,_⟩
 ·rw[h2 rfl];exact .inl rfl
 ·exact .inr rfl
theorem AOL:NM.length=3/\IL.length=2/\EU.length=4/\FK.length=5/\EZ.length=6/\FM.length=5/\Di.length=1/\Aq.length=1/\([10]:Bs).length=1/\([32]:Bs).length=1:=⟨rfl,rfl,rfl,rfl,rfl,rfl,rfl,rfl,rfl,rfl⟩
theorem su(a:Ex):nL [a]=nE a:=by unfold nL;unfold nL;omega
theorem ANz(a b:Ex):nL [a,b]=nE a+nE b:=by unfold nL;rw[su]
theorem AJe:∀{ks:List Ex},(∀x∈ks,nE x<=(textE x).length)->nL ks<=(GZ (ks.map textE)).length
 |[],_=>by rw[lI];exact Nat.zero_le _
 |a::l,h=>by
  have h1:=h a (List.mem_cons_self ..)
  have h2:∀l:List Ex,(∀x∈l,nE x<=(textE x).length)->nL l<=((l.map textE).flatMap λb=>CY++([32]++b)).length:=by
   intro l
   induction l with
   |nil=>intro _;rw[lI];exact Nat.zero_le _
   |cons c l ih=>
    intro h
    have h3:=ih λx hx=>h x (List.mem_cons_of_mem _ hx)
    have h4:=h c (List.mem_cons_self ..)
    unfold nL
    simp only[List.map_cons,List.flatMap_cons,List.length_append];omega
  have h3:=h2 l λx hx=>h x (List.mem_cons_of_mem _ hx)
  unfold nL GZ
  simp only[List.map_cons,List.length_append];omega
theorem ZA{e:Ex}(h:Wr e):nE e<=(textE e).length:=by
 have hm:=PE
 have h32:([32]:Bs).length=1:=rfl
 induction h with
 | @num n h=>rw[FP,lI,Ad];show _<=(YE n).length;unfold YE;rw[Tj];exact cu 20 n
 |tru=>rw[FP,lI,Ad];decide
 |fls=>rw[FP,lI,Ad];decide
 |nul=>rw[FP,lI,Ad];decide
 |ths=>rw[FP,lI,Ad];decide
 | @loc l h=>
  rw[FP,lI,Ad]
  show _<=l.length
  cases l with
  |nil=>cases h
  |cons a l=>simp only[List.length_cons];omega
 | @get l a h ha ih=>rw[FP,su,Ad];show _<=(textE a++(DJ++l)).length;simp only[List.length_append];omega
 | @call l a ks h ha hk hn ih ihk=>
  rw[FP,Ad]
  have:=AJe ihk
  show 1+nL (a::ks)<=(textE a++(DJ++(l++(Au++(GZ (ks.map textE)++BD))))).length
  unfold nL
  simp only[List.length_append];omega
 | @stat l u ks h hu hk hn ihk=>
  rw[FP,Ad]
  have:=AJe ihk
  show 1+nL ks<=(u++(DJ++(l++(Au++(GZ (ks.map textE)++BD))))).length
  simp only[List.length_append];omega
 | @new u hu=>rw[FP,lI,Ad];show _<=(Au++(Ib++([32]++(u++BD)))).length;simp only[List.length_append];omega
 | @arr u a hu ha ih=>rw[FP,su,Ad];show _<=(Ib++([32]++(u++(Fe++(textE a++FV))))).length;simp only[List.length_append];omega
 | @elm a b ha hb iha ihb=>rw[FP,ANz,Ad];show _<=(textE a++(Fe++(textE b++FV))).length;simp only[List.length_append];omega
 | @len a ha ih=>rw[FP,su,Ad];show _<=(textE a++(DJ++G7)).length;simp only[List.length_append];omega
 | @neg a ha ih=>rw[FP,su,Ad];show _<=(Au++(Dq++(textE a++BD))).length;simp only[List.length_append];omega
 | @not a ha ih=>rw[FP,su,Ad];show _<=(Au++(IV++(textE a++BD))).length;simp only[List.length_append];omega
 | @bin o a b ho ha hb iha ihb=>rw[FP,ANz,Ad];show _<=(Au++(textE a++([32]++(o++([32]++(textE b++BD)))))).length;simp only[List.length_append];omega
 | @and a b ha hb iha ihb=>rw[FP,ANz,Ad];show _<=(Au++(textE a++([32]++(L9++([32]++(textE b++BD)))))).length;simp only[List.length_append];omega
 | @or a b ha hb iha ihb=>rw[FP,ANz,Ad];show _<=(Au++(textE a++([32]++(W9++([32]++(textE b++BD)))))).length;simp only[List.length_append];omega
 | @asx u a hu ha ih=>rw[FP,su,Ad];show _<=(Au++(textE a++([32]++(RP++([32]++(u++BD)))))).length;simp only[List.length_append];omega
 | @isx u a hu ha ih=>rw[FP,su,Ad];show _<=(Au++(textE a++([32]++(OC++([32]++(u++BD)))))).length;simp only[List.length_append];omega
theorem AN9{t:Nat}:∀{l:List St},(∀s∈l,nS s<=(textS t s).length)->nSs l<=(l.map (textS t)).flatten.length
 |[],_=>by rw[yj];exact Nat.zero_le _
 |a::l,h=>by
  have h1:=h a (List.mem_cons_self ..)
  have h2:=AN9 (l:=l) λx hx=>h x (List.mem_cons_of_mem _ hx)
  rw[ALt]
  simp only[List.map_cons,List.flatten_cons,List.length_append];omega
theorem ADJ{t:Nat}{l:List St}(h:∀s∈l,nS s<=(textS (t+1) s).length):nSs l<=(Jy t (l.map (textS (t+1)))).length:=by
 have:=AN9 h
 unfold Jy
 simp only[List.length_append];omega
theorem ALu{s:St}(h:rD s):∀t,nS s<=(textS t s).length:=by
 have hw:=AOL
 induction h with
 | @lt l ty e hl ht he=>intro t;have:=ZA he;rw[XP,su,yj,D7];show _<=(tabs t++(NM++([32]++(aG ty++([32]++(l++([32]++(Di++([32]++(textE e++(Aq++[10]))))))))))).length;simp only[List.length_append];omega
 | @put a b ha hk hb=>intro t;have:=ZA ha;have:=ZA hb;rw[XP,ANz,yj,D7];show _<=(tabs t++(textE a++([32]++(Di++([32]++(textE b++(Aq++[10]))))))).length;simp only[List.length_append];omega
 | @ask a ha hk=>intro t;have:=ZA ha;rw[XP,su,yj,D7];show _<=(tabs t++(textE a++(Aq++[10]))).length;simp only[List.length_append];omega
 | @ret a ha=>intro t;have:=ZA ha;rw[XP,su,yj,D7];show _<=(tabs t++(EZ++([32]++(textE a++(Aq++[10]))))).length;simp only[List.length_append];omega
 | @prt a ha=>intro t;have:=ZA ha;rw[XP,su,yj,D7];show _<=(tabs t++(FM++([32]++(textE a++(Aq++[10]))))).length;simp only[List.length_append];omega
 | @loop c th hc ht iht=>intro t;have:=ZA hc;have:=ADJ (t:=t) λs hs=>iht s hs (t+1);rw[XP,su,yj,D7];show _<=(tabs t++(FK++([32]++(textE c++([32]++(Jy t (th.map (textS (t+1)))++[10])))))).length;simp only[List.length_append];omega
 | @ite c th el hc ht he iht ihe=>
  intro t
  have:=ZA hc
  have:=ADJ (t:=t) λs hs=>iht s hs (t+1)
  have h2:=ADJ (t:=t) λs hs=>ihe s hs (t+1)
  rw[XP,su,D7]
  have h3:nSs el<=(bif (el.map (textS (t+1))).isEmpty then([]:Bs)else[32]++(EU++([32]++Jy t (el.map (textS (t+1)))))).length:=by
   cases el with
   |nil=>rw[yj];exact Nat.zero_le _
   |cons y el=>show _<=([32]++(EU++([32]++Jy t ((y::el).map (textS (t+1)))))).length;simp only[List.length_append];omega
  show _<=(tabs t++(IL++([32]++(textE c++([32]++(Jy t (th.map (textS (t+1)))++((bif (el.map (textS (t+1))).isEmpty then[]else[32]++(EU++([32]++Jy t (el.map (textS (t+1))))))++[10]))))))).length
  simp only[List.length_append];omega
theorem AKU:∀ls:List Bs,ls.length<=(GZ ls).length+1
 |[]=>by decide
 |a::l=>by
  have h2:∀l:List Bs,l.length<=(l.flatMap λb=>CY++([32]++b)).length:=by
   intro l
   induction l with
   |nil=>exact Nat.le_refl _
   |cons c l ih=>have:CY.length=1:=rfl;simp only[List.flatMap_cons,List.length_append,List.length_cons];omega
  have:=h2 l
  unfold GZ
  simp only[List.length_append,List.length_cons];omega
theorem APa{m:Me}(h:WrM m):nM m<=(Qd m).length:=by
 have h1:=ADJ (t:=1) λs hs=>ALu (h.body s hs) 2
 have h2:=AKU (m.ps.map aQ)
 rw[List.length_map]at h2
 have h3:Au.length=1/\D8.length=6:=⟨rfl,rfl⟩
 unfold nM Qd
 simp only[List.length_append]at h1⊢
 have h4:(Jy 1 (m.body.map (textS 2))).length=(Jy 1 (m.body.map (textS (1+1)))).length:=rfl
 omega
theorem AFX:∀{l:List Me},(∀m∈l,WrM m)->nMs l<=(l.map Qd).flatten.length
 |[],_=>Nat.zero_le _
 |a::l,h=>by
  have h1:=APa (h a (List.mem_cons_self ..))
  have h2:=AFX (l:=l) λx hx=>h x (List.mem_cons_of_mem _ hx)
  unfold nMs
  simp only[List.map_cons,List.flatten_cons,List.length_append];omega
theorem AMP{c:Cl}(h:WrC c):nC c<=(Qr c).length:=by
 have h1:=AFX h.ms
 have h2:∀l:List Va,l.length<=(l.map Nb).flatten.length:=by
  intro l
  induction l with
  |nil=>exact Nat.le_refl _
  |cons c l ih=>
   have:1<=(Nb c).length:=by unfold Nb;simp only[List.length_append,List.length_cons];omega
   simp only[List.map_cons,List.flatten_cons,List.length_append,List.length_cons];omega
 have h2:=h2 c.fs
 unfold nC Qr
 simp only[List.length_append];omega
def ALy(G:AY)(s:St):Prop:=∀(H:Heap) (n:Nat) (c1 c2:LV) (A B:Nat->Prop) (k:KV),SY G H A c1 s->SY G H B c2 s->(∀id,A id->id<n)->(∀id,B id->id<n)->(∀H' n',Kp H n H' n'->k (.bool true) H' n')->Runs F G KW [.agg c1,.agg c2] H n k
def AOJ(G:AY)(s:Me):Prop:=∀(H:Heap) (n:Nat) (c1 c2:LV) (A B:Nat->Prop) (k:KV),Zf G H A c1 s->Zf G H B c2 s->(∀id,A id->id<n)->(∀id,B id->id<n)->(∀H' n',Kp H n H' n'->k (.bool true) H' n')->Runs F G JM [.agg c1,.agg c2] H n k
theorem AVT(q:IntKind)(x:Nat):Ez (.one .int) false (.int q (.ofNat x) 0) (.int q (.ofNat x) 0)=some (.bool true):=by rw[VN,decide_eq_true rfl]
theorem ANZ(l:Bs):Ez (.one .str) false (sB l) (sB l)=some (.bool true):=(AFM l l).trans (by simp)
theorem AVX(b:Bool):Ez (.one .bool) false (.bool b) (.bool b)=some (.bool true):=by cases b<;>rfl
theorem ARO(t:Ty):Ez (.agg [.str,.bool]) false (.agg [sB t.nm,.bool t.arr]) (.agg [sB t.nm,.bool t.arr])=some (.bool true):=by rw[ALV];simp
section
variable{G:AY}{H:Heap}{n:Nat}{k:KV}
theorem ABh{l:List St}{v w:V}{cs ds:EY}{A B:Nat->Prop}(hv:El G H v 9 cs)(hw:El G H w 9 ds)(hva:∀id,v.Ry=some id->id<n)(hwa:∀id,w.Ry=some id->id<n)(hc:RF G H A cs l)(hd:RF G H B ds l)(hA:∀id,A id->id<n)(hB:∀id,B id->id<n)
 (hs:∀e∈l,ALy G e) (hlen:l.length<4611686018427387904) (hk:∀H' n',Kp H n H' n'->k (.bool true) H' n'):Runs F G CG [v,w,.fn KW [] []] H n k:=by
 refine Am (s:=ar3 (CO lfp G)) DW (by obtain⟨h,o⟩:=JH Ap G;rw[DW]at h;cases h;exact o) ?_
 show CO lfp G (Runs F G) v w (.fn KW [] []) H n k
 delta CO
 refine AB hv.len (AB hw.len ?_)
 rw[aY,BA,hc.len,hd.len,decide_eq_true rfl,Bool.not_true,Bg]
 refine AB hv.len ?_
 rw[hc.len]
 refine IZ (N:=l.length) (J:=λj q=>∃H' n',q=(w,.fn KW [] [],v,.int .i64 (.ofNat l.length) 0,.int .i64 (.ofNat j) 0,H',n')/\Kp H n H' n') ?_ ?_ ⟨H,n,rfl,Kp.refl ..⟩
 ·rintro I j q hlt ⟨H1,n1,rfl,f1⟩ ih
  show BL lfp G (Runs F G) k I w (.fn KW [] []) v (.int .i64 (.ofNat l.length) 0) (.int .i64 (.ofNat j) 0) H1 n1
  delta BL
  have hv1:=hv.kp hva f1
  have hw1:=hw.kp hwa f1
  have hc1:RF G H1 A cs l:=hc.mono (λ_ h=>h) λid h=>f1.same id (hA id h)
  have hd1:RF G H1 B ds l:=hd.mono (λ_ h=>h) λid h=>f1.same id (hB id h)
  obtain⟨c,hc2,hx⟩:=hc1.at (List.getElem?_eq_getElem hlt)
  obtain⟨d,hd2,hy⟩:=hd1.at (List.getElem?_eq_getElem hlt)
  have hse:=hs _ (List.getElem_mem hlt)
  generalize l[j]=e1 at hx hy hse
  have hn1:=f1.le
  obtain⟨p,hp,hld⟩:=hv1.at hc2
  rw[Ht,BA,decide_eq_true hlt,Bq]
  refine AB hp (AB (Qs hld) ?_)
  refine BG rfl λH2 f2 g2=>?_
  refine DI g2 rfl hx.len (by omega) λH3 g2 t3=>?_
  have f3:Kp H1 n1 H3 (n1+1):=⟨f2.le,λid hid=>(t3 id (by omega)).trans (f2.same id hid)⟩
  obtain⟨p3,hp3,hld3⟩:=(hw1.kp (λid h=>Nat.lt_of_lt_of_le (hwa id h) hn1) f3).at hd2
  refine AB hp3 (AB (Qs hld3) ?_)
  refine BG rfl λH4 f4 g4=>?_
  have g2:=f4.get g2 (by omega)
  refine DI g4 rfl hy.len (by omega) λH5 g4 t5=>?_
  have g2:=(t5 n1 (by omega)).trans g2
  have f5:Kp H3 (n1+1) H5 (n1+1+1):=⟨f4.le,λid hid=>(t5 id (by omega)).trans (f4.same id hid)⟩
  have f5:=f3.trans f5
  refine AB (Ah (m:=9) g2 (by omega) hx.len) (AB (Ah (m:=9) g4 (by omega) hy.len) ?_)
  have fin:=f1.trans f5
  have hx:SY G H5 A c e1:=hx.mono (λ_ h=>h) λid h=>f5.same id (by have:=hA id h;omega)
  have hy:SY G H5 B d e1:=hy.mono (λ_ h=>h) λid h=>f5.same id (by have:=hB id h;omega)
  refine hse H5 _ c d A B _ hx hy (λid h=>by have:=hA id h;omega) (λid h=>by have:=hB id h;omega) λH6 n6 f6=>?_
  rw[Qv,BA,Bool.not_true,Bg]
  refine AB (Iz (by omega)) ?_
  exact ih _ ⟨_,_,rfl,fin.trans f6⟩
 ·rintro I q ⟨H1,n1,rfl,f1⟩
  show BL lfp G (Runs F G) k I w (.fn KW [] []) v (.int .i64 (.ofNat l.length) 0) (.int .i64 (.ofNat l.length) 0) H1 n1
  delta BL
  rw[Ht,BA,decide_eq_false (Nat.lt_irrefl _),Bg]
  delta DR
  exact hk _ _ f1
theorem AHp{l:List Me}{v w:V}{cs ds:EY}{A B:Nat->Prop}(hv:El G H v 8 cs)(hw:El G H w 8 ds)(hva:∀id,v.Ry=some id->id<n)(hwa:∀id,w.Ry=some id->id<n)(hc:Yb G H A cs l)(hd:Yb G H B ds l)(hA:∀id,A id->id<n)(hB:∀id,B id->id<n)
 (hs:∀e∈l,AOJ G e) (hlen:l.length<4611686018427387904) (hk:∀H' n',Kp H n H' n'->k (.bool true) H' n'):Runs F G EC [v,w,.fn JM [] []] H n k:=by
 refine Am (s:=ar3 (BX lfp G)) CZ (by obtain⟨h,o⟩:=Gw Ap G;rw[CZ]at h;cases h;exact o) ?_
 show BX lfp G (Runs F G) v w (.fn JM [] []) H n k
 delta BX
 refine AB hv.len (AB hw.len ?_)
 rw[aY,BA,hc.len,hd.len,decide_eq_true rfl,Bool.not_true,Bg]
 refine AB hv.len ?_
 rw[hc.len]
 refine IZ (N:=l.length) (J:=λj q=>∃H' n',q=(w,.fn JM [] [],v,.int .i64 (.ofNat l.length) 0,.int .i64 (.ofNat j) 0,H',n')/\Kp H n H' n') ?_ ?_ ⟨H,n,rfl,Kp.refl ..⟩
 ·rintro I j q hlt ⟨H1,n1,rfl,f1⟩ ih
  show Az lfp G (Runs F G) k I w (.fn JM [] []) v (.int .i64 (.ofNat l.length) 0) (.int .i64 (.ofNat j) 0) H1 n1
  delta Az
  have hv1:=hv.kp hva f1
  have hw1:=hw.kp hwa f1
  have hc1:Yb G H1 A cs l:=hc.mono (λ_ h=>h) λid h=>f1.same id (hA id h)
  have hd1:Yb G H1 B ds l:=hd.mono (λ_ h=>h) λid h=>f1.same id (hB id h)
  obtain⟨c,hc2,hx⟩:=hc1.at (List.getElem?_eq_getElem hlt)
  obtain⟨d,hd2,hy⟩:=hd1.at (List.getElem?_eq_getElem hlt)
  have hse:=hs _ (List.getElem_mem hlt)
  generalize l[j]=e1 at hx hy hse
  have hn1:=f1.le
  obtain⟨p,hp,hld⟩:=hv1.at hc2
  rw[Ht,BA,decide_eq_true hlt,Bq]
  refine AB hp (AB (Qs hld) ?_)
  refine BG rfl λH2 f2 g2=>?_
  refine DI g2 rfl hx.len (by omega) λH3 g2 t3=>?_
  have f3:Kp H1 n1 H3 (n1+1):=⟨f2.le,λid hid=>(t3 id (by omega)).trans (f2.same id hid)⟩
  obtain⟨p3,hp3,hld3⟩:=(hw1.kp (λid h=>Nat.lt_of_lt_of_le (hwa id h) hn1) f3).at hd2
  refine AB hp3 (AB (Qs hld3) ?_)
  refine BG rfl λH4 f4 g4=>?_
  have g2:=f4.get g2 (by omega)
  refine DI g4 rfl hy.len (by omega) λH5 g4 t5=>?_
  have g2:=(t5 n1 (by omega)).trans g2
  have f5:Kp H3 (n1+1) H5 (n1+1+1):=⟨f4.le,λid hid=>(t5 id (by omega)).trans (f4.same id hid)⟩
  have f5:=f3.trans f5
  refine AB (Ah (m:=8) g2 (by omega) hx.len) (AB (Ah (m:=8) g4 (by omega) hy.len) ?_)
  have fin:=f1.trans f5
  have hx:Zf G H5 A c e1:=hx.mono (λ_ h=>h) λid h=>f5.same id (by have:=hA id h;omega)
  have hy:Zf G H5 B d e1:=hy.mono (λ_ h=>h) λid h=>f5.same id (by have:=hB id h;omega)
  refine hse H5 _ c d A B _ hx hy (λid h=>by have:=hA id h;omega) (λid h=>by have:=hB id h;omega) λH6 n6 f6=>?_
  rw[Qv,BA,Bool.not_true,Bg]
  refine AB (Iz (by omega)) ?_
  exact ih _ ⟨_,_,rfl,fin.trans f6⟩
 ·rintro I q ⟨H1,n1,rfl,f1⟩
  show Az lfp G (Runs F G) k I w (.fn JM [] []) v (.int .i64 (.ofNat l.length) 0) (.int .i64 (.ofNat l.length) 0) H1 n1
  delta Az
  rw[Ht,BA,decide_eq_false (Nat.lt_irrefl _),Bg]
  delta CV
  exact hk _ _ f1
theorem AU2(x:Va):Ez (.agg [.str,.str,.bool]) true (.agg (vaC x)) (.agg (vaC x))=some (.bool false):=by
 obtain⟨nm,ty⟩:=x
 have h:(EK.agg [.str,.str,.bool]).eq (.agg [sB nm,sB ty.nm,.bool ty.arr]) (.agg [sB nm,sB ty.nm,.bool ty.arr])=some true:=
  show zJ [.str,.str,.bool] [sB nm,sB ty.nm,.bool ty.arr] [sB nm,sB ty.nm,.bool ty.arr]=_ from QK.2 ⟨_,_,AGt _ _,QK.2 ⟨_,_,AGt _ _,QK.2 ⟨_,true,ALQ _ _,rfl,rfl⟩,rfl⟩,by simp⟩
 show ofB (Zp ((EK.agg [.str,.str,.bool]).eq (.agg [sB nm,sB ty.nm,.bool ty.arr]) (.agg [sB nm,sB ty.nm,.bool ty.arr])) λb=>some (Xj b))=_
 rw[h];rfl
theorem AJI{l:List Va}{v w:V}{A B:Nat->Prop}(hv:ADd G H A v l)(hw:ADd G H B w l)(hlen:l.length<4611686018427387904)(hk:k (.bool true) H n):Runs F G IX [v,w] H n k:=by
 obtain⟨hv,_⟩:=hv
 obtain⟨hw,_⟩:=hw
 refine Am (s:=RG (FI lfp G)) Hy (by obtain⟨h,o⟩:=Uh Ap G;rw[Hy]at h;cases h;exact o) ?_
 show FI lfp G (Runs F G) v w H n k
 delta FI
 refine AB hv.len (AB hw.len ?_)
 rw[aY,BA,decide_eq_true rfl,Bool.not_true,Bg]
 refine AB hv.len ?_
 rw[List.length_map]
 refine IZ (N:=l.length) (J:=λj q=>q=(v,w,.int .i64 (.ofNat l.length) 0,.int .i64 (.ofNat j) 0,H,n)) ?_ ?_ rfl
 ·rintro I j q hlt rfl ih
  show D6 lfp G (Runs F G) k I v w (.int .i64 (.ofNat l.length) 0) (.int .i64 (.ofNat j) 0) H n
  delta D6
  have hcx:(l.map vaC)[j]? =some (vaC l[j]):=by rw[List.getElem?_map,List.getElem?_eq_getElem hlt];rfl
  obtain⟨p,hp,hld⟩:=hv.at hcx
  obtain⟨p2,hp2,hld2⟩:=hw.at hcx
  rw[Ht,BA,decide_eq_true hlt,Bq]
  refine AB hp (AB (Qs hld) (AB hp2 (AB (Qs hld2) ?_)))
  refine AB (AU2 l[j]) ?_
  rw[Bg]
  exact AB (Iz (by omega)) (ih _ rfl)
 ·rintro I q rfl
  show D6 lfp G (Runs F G) k I v w (.int .i64 (.ofNat l.length) 0) (.int .i64 (.ofNat l.length) 0) H n
  delta D6
  rw[Ht,BA,decide_eq_false (Nat.lt_irrefl _),Bg]
  delta Gp
  exact hk
theorem AP0:∀(N:Nat),N<4611686018427387904->∀(s:St),nS s<=N->ALy G s:=by
 intro N
 induction N with
 |zero=>intro _ s h;have:=AMq s;omega
 |succ N ih=>
  intro hbig s hN H n c1 c2 A B k h1 h2 hA hB hk
  refine Am (s:=RG (Ri lfp G)) VW (by obtain⟨h,o⟩:=wo Ap G;rw[VW]at h;cases h;exact o) ?_
  show Ri lfp G (Runs F G) (.agg c1) (.agg c2) H n k
  delta Ri
  refine D5 λH1 f1 g1=>?_
  refine D5 λH2 f2 g2=>?_
  have g1:=f2.get g1 (by omega)
  have f2:=f1.trans f2
  have h1:SY G H2 A c1 s:=h1.mono (λ_ h=>h) λid h=>f2.same id (hA id h)
  have h2:SY G H2 B c2 s:=h2.mono (λ_ h=>h) λid h=>f2.same id (hB id h)
  obtain⟨kd,nm,ty,es,th,el⟩:=s
  rw[XP]at hN
  obtain⟨l1,k1,ve,vt,vl,ct,cl,rfl,he,ht,kt,hta,hct,hel,kl,hela,hcl⟩:=h1.inv
  obtain⟨l2,k2,we,wt,wl,dt,dl,rfl,ge,gt,jt,gta,gct,gel,jl,gela,gcl⟩:=h2.inv
  have hA2:∀id,A id->id<n+1+1:=λid h=>by have:=hA id h;omega
  have hB2:∀id,B id->id<n+1+1:=λid h=>by have:=hB id h;omega
  have q0:AZ (.ptr n 0) G H2=some _:=AQ g1 rfl
  have r0:AZ (.ptr (n+1) 0) G H2=some _:=AQ g2 rfl
  have q3:AZ (.ptr n 3) G H2=some _:=AQ g1 rfl
  have r3:AZ (.ptr (n+1) 3) G H2=some _:=AQ g2 rfl
  have q6:AZ (.ptr n 6) G H2=some _:=AQ g1 rfl
  have r6:AZ (.ptr (n+1) 6) G H2=some _:=AQ g2 rfl
  have q7:AZ (.ptr n 7) G H2=some _:=AQ g1 rfl
  have r7:AZ (.ptr (n+1) 7) G H2=some _:=AQ g2 rfl
  have q8:AZ (.ptr n 8) G H2=some _:=AQ g1 rfl
  have r8:AZ (.ptr (n+1) 8) G H2=some _:=AQ g2 rfl
  simp only[go_sem,Nat.reduceAdd,q0,r0,AVT,q3,r3,ANZ]
  refine AB (v:=.agg [sB ty.nm,.bool ty.arr]) (VX g1 (by omega) (by show 4+2<=9;omega)) ?_
  refine AB (v:=.agg [sB ty.nm,.bool ty.arr]) (VX g2 (by omega) (by show 4+2<=9;omega)) ?_
  simp only[go_sem,Nat.reduceAdd,ARO,q6,r6]
  obtain⟨cs,hle,_,_,_,hva,hcs⟩:=he
  obtain⟨ds,gle,_,_,_,gva,gcs⟩:=ge
  have:=AAz es
  refine AIk hle gle (λid h=>hA2 id (hva id h)) (λid h=>hB2 id (gva id h)) hcs gcs hA2 hB2 (λe he=>ASP N (by omega) e (by have:=ABX he;omega)) (by omega) λH3 n3 f3=>?_
  rw[ql]
  have hn3:=f3.le
  have hA3:∀id,A id->id<n3:=λid h=>by have:=hA2 id h;omega
  have hB3:∀id,B id->id<n3:=λid h=>by have:=hB2 id h;omega
  have q7:AZ (.ptr n 7) G H3=some _:=AQ (f3.get g1 (by omega)) rfl
  have r7:AZ (.ptr (n+1) 7) G H3=some _:=AQ (f3.get g2 (by omega)) rfl
  have q8:AZ (.ptr n 8) G H3=some _:=AQ (f3.get g1 (by omega)) rfl
  have r8:AZ (.ptr (n+1) 8) G H3=some _:=AQ (f3.get g2 (by omega)) rfl
  simp only[go_sem,Nat.reduceAdd,q7,r7]
  have:=Y8 th
  refine ABh (ht.same λid hid=>f3.same id (hA2 id (hta id hid))) (gt.same λid hid=>f3.same id (hB2 id (gta id hid))) (λid h=>hA3 id (hta id h)) (λid h=>hB3 id (gta id h)) (hct.mono (λ_ h=>h) λid h=>f3.same id (hA2 id h)) (gct.mono (λ_ h=>h) λid h=>f3.same id (hB2 id h)) hA3 hB3 (λe he=>ih (by omega) e (by have:=Ro he;omega)) (by omega) λH4 n4 f4=>?_
  have f4:=f3.trans f4
  have hn4:=f4.le
  have hA4:∀id,A id->id<n4:=λid h=>by have:=hA2 id h;omega
  have hB4:∀id,B id->id<n4:=λid h=>by have:=hB2 id h;omega
  have q7:AZ (.ptr n 7) G H4=some _:=AQ (f4.get g1 (by omega)) rfl
  have r7:AZ (.ptr (n+1) 7) G H4=some _:=AQ (f4.get g2 (by omega)) rfl
  have q8:AZ (.ptr n 8) G H4=some _:=AQ (f4.get g1 (by omega)) rfl
  have r8:AZ (.ptr (n+1) 8) G H4=some _:=AQ (f4.get g2 (by omega)) rfl
  simp only[go_sem,Nat.reduceAdd,q8,r8]
  have:=Y8 el
  refine ABh (hel.same λid hid=>f4.same id (hA2 id (hela id hid))) (gel.same λid hid=>f4.same id (hB2 id (gela id hid))) (λid h=>hA4 id (hela id h)) (λid h=>hB4 id (gela id h)) (hcl.mono (λ_ h=>h) λid h=>f4.same id (hA2 id h)) (gcl.mono (λ_ h=>h) λid h=>f4.same id (hB2 id h)) hA4 hB4 (λe he=>ih (by omega) e (by have:=Ro he;omega)) (by omega) λH5 n5 f5=>?_
  try simp only[go_sem]
  exact hk _ _ (f2.trans (f4.trans f5))
theorem AQl{m:Me}(hN:nM m<4611686018427387904):AOJ G m:=by
 intro H n c1 c2 A B k h1 h2 hA hB hk
 refine Am (s:=RG (Ox lfp G)) Si (by obtain⟨h,o⟩:=qM Ap G;rw[Si]at h;cases h;exact o) ?_
 show Ox lfp G (Runs F G) (.agg c1) (.agg c2) H n k
 delta Ox
 refine D5 λH1 f1 g1=>?_
 refine D5 λH2 f2 g2=>?_
 have g1:=f2.get g1 (by omega)
 have f2:=f1.trans f2
 have h1:Zf G H2 A c1 m:=h1.mono (λ_ h=>h) λid h=>f2.same id (hA id h)
 have h2:Zf G H2 B c2 m:=h2.mono (λ_ h=>h) λid h=>f2.same id (hB id h)
 unfold nM at hN
 obtain⟨l1,k1,vp,vb,rfl,hp,cs,hle,_,_,_,hva,hcs⟩:=h1.inv
 obtain⟨l2,k2,wp,wb,rfl,gp,ds,gle,_,_,_,gva,gcs⟩:=h2.inv
 have hA2:∀id,A id->id<n+1+1:=λid h=>by have:=hA id h;omega
 have hB2:∀id,B id->id<n+1+1:=λid h=>by have:=hB id h;omega
 have q2:AZ (.ptr n 2) G H2=some _:=AQ g1 rfl
 have r2:AZ (.ptr (n+1) 2) G H2=some _:=AQ g2 rfl
 have q3:AZ (.ptr n 3) G H2=some _:=AQ g1 rfl
 have r3:AZ (.ptr (n+1) 3) G H2=some _:=AQ g2 rfl
 have q4:AZ (.ptr n 4) G H2=some _:=AQ g1 rfl
 have r4:AZ (.ptr (n+1) 4) G H2=some _:=AQ g2 rfl
 have q7:AZ (.ptr n 7) G H2=some _:=AQ g1 rfl
 have r7:AZ (.ptr (n+1) 7) G H2=some _:=AQ g2 rfl
 simp only[go_sem,Nat.reduceAdd,q2,r2,ANZ,q3,r3,AVX]
 refine AB (v:=.agg [sB m.ret.nm,.bool m.ret.arr]) (VX g1 (by omega) (by show 5+2<=8;omega)) ?_
 refine AB (v:=.agg [sB m.ret.nm,.bool m.ret.arr]) (VX g2 (by omega) (by show 5+2<=8;omega)) ?_
 simp only[go_sem,Nat.reduceAdd,ARO,q4,r4]
 refine AJI hp gp (by omega) ?_
 simp only[go_sem,Nat.reduceAdd,q7,r7]
 have:=Y8 m.body
 refine ABh hle gle (λid h=>hA2 id (hva id h)) (λid h=>hB2 id (gva id h)) hcs gcs hA2 hB2 (λe he=>AP0 (nSs m.body) (by omega) e (Ro he)) (by omega) λH3 n3 f3=>?_
 try simp only[go_sem]
 exact hk _ _ (f2.trans f3)
theorem APT{x:Cl}{c1 c2:LV}{A B:Nat->Prop}(h1:YS G H A c1 x)(h2:YS G H B c2 x)(hA:∀id,A id->id<n)(hB:∀id,B id->id<n)(hN:nC x<4611686018427387904)(hk:∀H' n',Kp H n H' n'->k (.bool true) H' n'):Runs F G Zq [.agg c1,.agg c2] H n k:=by
 refine Am (s:=RG (QG lfp G)) UH (by obtain⟨h,o⟩:=tH Ap G;rw[UH]at h;cases h;exact o) ?_
 show QG lfp G (Runs F G) (.agg c1) (.agg c2) H n k
 delta QG
 refine D5 λH1 f1 g1=>?_
 refine D5 λH2 f2 g2=>?_
 have g1:=f2.get g1 (by omega)
 have f2:=f1.trans f2
 have h1:YS G H2 A c1 x:=h1.mono (λ_ h=>h) λid h=>f2.same id (hA id h)
 have h2:YS G H2 B c2 x:=h2.mono (λ_ h=>h) λid h=>f2.same id (hB id h)
 unfold nC at hN
 obtain⟨l1,k1,vp,vb,rfl,hp,cs,hle,_,_,_,hva,hcs⟩:=h1.inv
 obtain⟨l2,k2,wp,wb,rfl,gp,ds,gle,_,_,_,gva,gcs⟩:=h2.inv
 have hA2:∀id,A id->id<n+1+1:=λid h=>by have:=hA id h;omega
 have hB2:∀id,B id->id<n+1+1:=λid h=>by have:=hB id h;omega
 have q2:AZ (.ptr n 2) G H2=some _:=AQ g1 rfl
 have r2:AZ (.ptr (n+1) 2) G H2=some _:=AQ g2 rfl
 have q3:AZ (.ptr n 3) G H2=some _:=AQ g1 rfl
 have r3:AZ (.ptr (n+1) 3) G H2=some _:=AQ g2 rfl
 have q4:AZ (.ptr n 4) G H2=some _:=AQ g1 rfl
 have r4:AZ (.ptr (n+1) 4) G H2=some _:=AQ g2 rfl
 have q5:AZ (.ptr n 5) G H2=some _:=AQ g1 rfl
 have r5:AZ (.ptr (n+1) 5) G H2=some _:=AQ g2 rfl
 simp only[go_sem,Nat.reduceAdd,q2,r2,ANZ,q3,r3,q4,r4]
 refine AJI hp gp (by omega) ?_
 simp only[go_sem,Nat.reduceAdd,q5,r5]
 have:=AEV x.ms
 refine AHp hle gle (λid h=>hA2 id (hva id h)) (λid h=>hB2 id (gva id h)) hcs gcs hA2 hB2 (λe he=>AQl (by have:=AAT he;omega)) (by omega) λH3 n3 f3=>?_
 try simp only[go_sem]
 exact hk _ _ (f2.trans f3)
end
theorem AQd:Ez (.agg [.int,.int,.int]) false (.agg (YX 0 0 0)) (.agg (YX 0 0 0))=some (.bool true):=rfl
theorem AQp:Ez (.one .str) false (.str 0 0) (.str 0 0)=some (.bool true):=rfl
section
variable{G:AY}{H:Heap}{n:Nat}{k:KV}
theorem AAS{p:V}{e c:Nat}{b:Bool}{K:V->Prop}(hq:AZ p G H=some (.int .i64 (.ofNat e) 0))(h:K (.bool (b||decide (e=c)))):
 Bh (.bool b) false (some p) λa=>Bh (.bool b) false (AZ a G H) λv=>Bh (.bool b) false (Ez (.one .int) false v (.int .i64 (.ofNat c) 0)) λr=>AP (Dc (.bool b) (.bool true) r) K:=by
 cases b with
 |true=>exact AKY (AKY (AKY (AR7 h)))
 |false=>
  simp only[go_sem,hq,VN]
  exact h
theorem AD7(hG:Xx G)(hP:dZ G)(hS:AHG G){s:Bs}(hk:∀H' n',k (.bool true) H' n'):Runs F G dF [sB s] H n k:=by
 refine Am (s:=IQ (Ji lfp G)) NU (by obtain⟨h,o⟩:=Z7 Ap G;rw[NU]at h;cases h;exact o) ?_
 show Ji lfp G (Runs F G) (sB s) H n k
 delta Ji
 refine ATo hG hS λH2 n2 f2=>?_
 have hn2:=f2.le
 rw[Qv,BA,Bool.not_true,Bg]
 refine AB (jM _) (AB (kN ..) ?_)
 cases AWG:decide (500<s.length)with
 |true=>rw[Bq];exact hk _ _
 |false=>
 have AWG:=of_decide_eq_false AWG
 rw[Bg]
 obtain⟨o,e,hoe,hcase⟩:=AGp (s:=s) (by omega)
 refine zZ hG hoe λH3 n3 c ft f3 hc hf=>?_
 have hn3:=f3.le
 rw[qZ,BA,qo,BA]
 obtain⟨line,col,rfl,hlc,hz⟩:=hf
 rcases hcase with⟨rfl,he⟩|⟨x,rfl,rfl,hw,hl⟩
 ·have hc:c=clZ:=hc
  subst hc
  obtain⟨l1,l2⟩:=hlc (by omega)
  refine BG rfl λH4 f4 g4=>?_
  refine BG rfl λH5 f5 g5=>?_
  have g4:=f5.get g4 (by omega)
  refine DI g4 rfl rfl (by omega) λH6 g6 s6=>?_
  have g5:=(s6 (n3+1) (by omega)).trans g5
  refine DI (L:=YX e line col) g5 rfl rfl (by omega) λH7 g7 s7=>?_
  have g6:=(s7 n3 (by omega)).trans g6
  have q1:AZ (.ptr (n3+1) 0) G H7=some (.int .i64 (.ofNat e) 0):=AQ g7 rfl
  have q2:AZ (.ptr (n3+1) 1) G H7=some (.int .i64 (.ofNat line) 0):=AQ g7 rfl
  have q3:AZ (.ptr (n3+1) 2) G H7=some (.int .i64 (.ofNat col) 0):=AQ g7 rfl
  have q4:AZ (.ptr n3 2) G H7=some (.str 0 0):=AQ g6 rfl
  have q5:AZ (.ptr n3 5) G H7=some .Aj:=AQ g6 rfl
  have d0:decide (e=0)=false:=decide_eq_false (by omega)
  have qn:lenV .Aj=some (.int .i64 (.ofNat 0) 0):=rfl
  simp only[go_sem,Nat.reduceAdd,q1,aY,d0,Bool.not_false,q4,AQp,q5,qn,VN,decide_true,q2,Ym,decide_eq_true l1,q3,decide_eq_true l2]
  refine AAS q1 (AAS q1 (AAS q1 (AAS q1 ?_)))
  have hb:((((decide (e=20)||decide (e=22))||decide (e=4))||decide (e=21))||decide (e=3))=true:=by
   rcases he with rfl|rfl|rfl|rfl|rfl<;>rfl
  rw[hb]
  first|exact hk _ _|(simp only[go_sem];exact hk _ _)
 ·have hcx:YS G H3 (Rg n2 n3) c x:=hc.1
  obtain⟨ln,hln,hl0⟩:=hc.2
  obtain⟨rfl,rfl⟩:=hz rfl
  refine BG rfl λH4 f4 g4=>?_
  refine BG rfl λH5 f5 g5=>?_
  have g4:=f5.get g4 (by omega)
  refine DI g4 rfl hcx.len (by omega) λH6 g6 s6=>?_
  have g5:=(s6 (n3+1) (by omega)).trans g5
  refine DI (L:=YX 0 0 0) g5 rfl rfl (by omega) λH7 g7 s7=>?_
  have g6:=(s7 n3 (by omega)).trans g6
  have f37:Kp H3 n3 H7 (n3+1+1):=⟨by omega,λid hid=>(s7 id (by omega)).trans ((s6 id (by omega)).trans ((f5.same id (by omega)).trans (f4.same id hid)))⟩
  have q1:AZ (.ptr (n3+1) 0) G H7=some (.int .i64 (.ofNat 0) 0):=AQ g7 rfl
  have q0:A8 6 (.ptr n3 0) G H7=some (.agg c):=Ah (m:=6) g6 (by omega) hcx.len
  rw[Aa,BA]
  refine AB q1 (AB (aY ..) ?_)
  rw[decide_eq_true rfl,Bool.not_true,Bg]
  refine AB q0 ?_
  have hcx7:YS G H7 (Rg n2 n3) c x:=hcx.mono (λ_ h=>h) λid h=>f37.same id h.2
  refine AL6 hP hcx7 (λid h=>by have:=h.2;omega) hw (by omega) λH8 n8 f8=>?_
  have hn8:=f8.le
  have g6:=f8.get g6 (by omega)
  have hcx8:YS G H8 (Rg n2 n3) c x:=hcx7.mono (λ_ h=>h) λid h=>f8.same id (by have:=h.2;omega)
  have hnc:=AMP hw
  rcases AH5 hw hnc hl with hr|hr
  ·refine zZ hG hr λH9 n9 d ft f9 hd hf=>?_
   have hn9:=f9.le
   have hdx:YS G H9 (Rg n8 n9) d x:=hd.1
   obtain⟨line,col,rfl,_,hz⟩:=hf
   obtain⟨rfl,rfl⟩:=hz rfl
   have g6:=f9.get g6 (by omega)
   have hcx9:YS G H9 (Rg n2 n3) c x:=hcx8.mono (λ_ h=>h) λid h=>f9.same id (by have:=h.2;omega)
   rw[qZ,BA,qo,BA]
   refine BG rfl λH10 f10 g10=>?_
   refine BG rfl λH11 f11 g11=>?_
   have g10:=f11.get g10 (by omega)
   refine DI g10 rfl hdx.len (by omega) λH12 g12 s12=>?_
   have g11:=(s12 (n9+1) (by omega)).trans g11
   refine DI (L:=YX 0 0 0) g11 rfl rfl (by omega) λH13 g13 s13=>?_
   have g12:=(s13 n9 (by omega)).trans g12
   have same:∀id,id<n9->T.get H13 id=T.get H9 id:=λid hid=>(s13 id (by omega)).trans ((s12 id (by omega)).trans ((f11.same id (by omega)).trans (f10.same id hid)))
   have g6:=(same n3 (by omega)).trans g6
   have p1:AZ (.ptr (n9+1) 0) G H13=some (.int .i64 (.ofNat 0) 0):=AQ g13 rfl
   have p2:A8 3 (.ptr (n9+1) 0) G H13=some (.agg (YX 0 0 0)):=Ah (m:=3) g13 (by omega) rfl
   have p3:A8 6 (.ptr n9 0) G H13=some (.agg d):=Ah (m:=6) g12 (by omega) hdx.len
   have p4:A8 6 (.ptr n3 0) G H13=some (.agg c):=Ah (m:=6) g6 (by omega) hcx.len
   have d3:decide (0=3)=false:=rfl
   simp only[go_sem,Nat.reduceAdd,p1,VN,d3,decide_false,p2,AHm,AQd,p3,p4]
   refine APT (hdx.mono (λ_ h=>h) λid h=>same id h.2) (hcx9.mono (λ_ h=>h) λid h=>same id (by have:=h.2;omega)) (λid h=>by have:=h.2;omega) (λid h=>by have:=h.2;omega) (by omega) λH14 n14 f14=>?_
   have g6:=f14.get g6 (by omega)
   have p5:AZ (.ptr n3 0) G H14=some (.int .i64 (.ofNat ln) 0):=AQ g6 hl0
   simp only[go_sem,Nat.reduceAdd,p5,Ym,decide_eq_true hln]
   first|exact hk _ _|(simp only[go_sem];exact hk _ _)
  ·refine zZ hG hr λH9 n9 d ft f9 hd hf=>?_
   have hd:d=clZ:=hd
   subst hd
   obtain⟨line,col,rfl,_,_⟩:=hf
   rw[qZ,BA,qo,BA]
   refine BG rfl λH10 f10 g10=>?_
   refine BG rfl λH11 f11 g11=>?_
   have g10:=f11.get g10 (by omega)
   refine DI g10 rfl rfl (by omega) λH12 g12 s12=>?_
   have g11:=(s12 (n9+1) (by omega)).trans g11
   refine DI (L:=YX 3 line col) g11 rfl rfl (by omega) λH13 g13 s13=>?_
   have p1:AZ (.ptr (n9+1) 0) G H13=some (.int .i64 (.ofNat 3) 0):=AQ g13 rfl
   rw[Aa,BA]
   refine AB p1 (AB (VN ..) ?_)
   rw[decide_eq_true rfl]
   repeat (first|with_reducible refine AKY ?_|with_reducible refine AVP ?_|with_reducible refine AR7 ?_)
   first|exact hk _ _|(simp only[go_sem];exact hk _ _)
end
end Go.PQ
