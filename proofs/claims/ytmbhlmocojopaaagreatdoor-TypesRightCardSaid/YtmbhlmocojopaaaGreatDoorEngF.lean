/- Part of a proof; nothing is assumed. -/
import Derived.Test.YtmbhlmocojopaaaGreatDoorEngE
set_option linter.unusedVariables false
set_option linter.unusedSimpArgs false
noncomputable section
namespace Go.DK
def P2.beq(p:P2):P2->Bool:=
 P2.rec (motive:=λ_=>P2->Bool) (λq=>P2.rec (motive:=λ_=>Bool) true (λ_ _=>false) (λ_ _=>false) q)
  (λ_ g q=>P2.rec (motive:=λ_=>Bool) false (λq _=>g q) (λ_ _=>false) q)
  (λ_ g q=>P2.rec (motive:=λ_=>Bool) false (λ_ _=>false) (λq _=>g q) q) p
theorem P2.AF6:∀p:P2,P2.beq p p=true
 |.h=>rfl
 |.z p=>P2.AF6 p
 |.o p=>P2.AF6 p
abbrev rg(R:LZ)(p:P2):V:=Om (T.E5 p R)
theorem ne{R:LZ}{p q:P2}{v a:V}(hb:P2.beq q p=false)(h:rg R p=a):rg (T.dW v q R) p=a:=by
 show Om (T.E5 p (T.dW v q R))=a
 rw[T.J6 _ _ _ _ (λe=>by subst e;rw[P2.AF6]at hb;cases hb)]
 exact h
abbrev GN:=(σ:Type)->((σ->Prop)->σ->Prop)->σ->Prop
def ER(L:GN):Prop:=∀(σ:Type) (b:(σ->Prop)->σ->Prop) (P:σ->Prop),(∀ih,(∀s,ih s->P s)->∀s,b ih s->P s)->∀s,L σ b s->P s
def lfp:GN:=fun σ b s=>∀I:σ->Prop,(∀s,b I s->I s)->I s
theorem BK:ER lfp:=λ_ _ P h _ hL=>hL P (h P λ_ h=>h)
def E0:RS:=.mk [] .e
def DT(c a b:V):Option V:=c.uY λt=>AD6 t (some a) (some b)
def AY(a:V)(G:AX)(H:Heap):Option V:=WZ (ldP a G H 1) λL=>nth L 0
def Ad(n:Nat)(a:V)(G:AX)(H:Heap):Option V:=WZ (ldP a G H n) λL=>some (.agg L)
def Nb(a:V):Option V:=a.uY λb=>rQ (Rt b)
def AUa(k:IntKind)(a:V):Option V:=a.LP λ_ n s=>mkI k n s
def ARk(a i:V):Option V:=a.VG λln c=>ZA i λi=>CO (Nat.blt i ln) (En (ASJ c i) λb=>some (.int .u8 (.ofNat b) 0))
def Ep(a:V)(i:Nat):Option V:=a.AKg λl=>nth l i
def ARc(a:V):Option V:=a.VG λn _=>some (.int .i64 (.ofNat n) 0)
def AP7(c:CK)(ok:Bool)(z m k:V)(H:Heap):Option V:=TS H m λes _=>DF (wS c k es 0) (AOW ok z)
def CZ(z:LV)(ps:List (Nat×Nat×X)):Option V:=CO (nU ps E0) (some (.agg (AEC ps E0 z)))
def AXO(a:V)(G:AX)(H:Heap):Option V:=CO (Rt (isStr a)) (DF (elems a G H 1) λl=>DF (zo l) λc=>f3 (len l) c 0 λn c _=>.str n c)
def EW(v:V)(k:KA):Prop:=Dj (jc v) (FN (len (Bl v)) λe=>k (.arr e 1 (T.set .e 0 (Bl v))) λid=>.ptr id 0)
def BL(sz:Nat)(a b:V)(H:Heap)(n:Nat)(k:KV):Prop:=Dj (band (jc b) (Nat.beq (len (Bl b)) sz)) (Dz (stP a H sz (Bl b)) λH=>k .undef H n)
def O8(esz bs:Nat)(a b:V)(G:AX)(H:Heap)(n:Nat)(k:KV):Prop:=Dz (elems b G H esz) λLS=>AJj a G esz bs LS H n k
def AXD(c:CK)(m key v:V)(H:Heap)(n:Nat)(k:KV):Prop:=AHO m H (AMx c key v) λH=>k .undef H n
def D7(x:V)(args:List V)(call:BG)(H:Heap)(n:Nat)(k:KV):Prop:=V.Yj x λf a c=>call f (cat a (cat args c)) H n k
def Ba(c:V)(b:Bool)(e:Option V)(P:V->Prop):Prop:=sQ c b (AL e P) (P (.G5 []))
def BZ(al:KA->Prop)(H:Heap)(n:Nat)(P:KV):Prop:=al λb f=>FN n λn=>P (f n) (T.set H n b) (Nat.succ n)
def Ik(c:V)(b:Bool)(t:KV->Prop)(H:Heap)(n:Nat)(P:KV):Prop:=sQ c b (t P) (P (.G5 []) H n)
inductive AVr where
 |t (v:V)|c1 (v:V)|cn (v:V) (n:Nat)
def AVr.get(r:AVr)(G:AX)(H:Heap):Option V:=AVr.rec (λv=>some v) (λv=>AY v G H) (λv n=>Ad n v G H) r
def BA(l:List AVr)(G:AX)(H:Heap):Option LV:=
 List.rec (motive:=λ_=>Option LV) (some []) (λr _ g=>DF (r.get G H) λv=>DF g λvs=>some (v::vs)) l
section
variable{E:RS}{G:AX}{H:Heap}{n:Nat}{x y z w:X}{a b c d:V}
variable{call:BG}
end
section
variable{L:List V}{R:LZ}{G:AX}{call:BG}{H:Heap}{n:Nat}{a b:V}
end
def ACj(c:V)(b:Bool)(e:Option V)(a:V)(P:Prop):Prop:=sQ c b (AL e λv=>Dj (Ar v a) P) P
def kR(k:K):KE:=λE H n=>k E.rg H n
theorem AGt{v:V}{b:Bool}{P Q P' Q':Prop}(h:Aa v b P Q)(hp:P->P')(hq:Q->Q'):Aa v b P' Q':=by
 rw[Zm]at h⊢
 obtain⟨t,ht,h⟩:=h
 refine⟨t,ht,?_⟩
 split
 ·rename_i e;rw[if_pos e]at h;exact hp h
 ·rename_i e;rw[if_neg e]at h;exact hq h
section
variable{G:AX}{call callE:BG}
section
variable{L:List V}{R:LZ}{H:Heap}{n:Nat}{l:List AOp}{k:KE}{p:P2}{x:X}{b:Bool}{c a:V}
end
section
variable{L:List V}{R:LZ}{H:Heap}{n:Nat}{l:List AI}{k:KE}{p:P2}{x:X}{b:Bool}{c a:V}
theorem i0{K:K}(h:K R H n):Df [] G callE (.mk L R) H n (kR K):=h
end
section
variable{R:LZ}{H:Heap}{n:Nat}{k:K}{x:KX}{r:K}{a b:AC}
end
section
variable{res rs:List AR}{dg:Nat}{R:LZ}{H:Heap}{n:Nat}{k:KV}{l:LV}{p:P2}{a:V}{vs:List AVr}
end
end
abbrev SF:=BG->List V->Heap->Nat->KV->Prop
def ar0(s:BG->Heap->Nat->KV->Prop):SF:=λcall l H n k=>List.rec (motive:=λ_=>Prop) (s call H n k) (λ_ _ _=>False) l
def ar1(s:BG->V->Heap->Nat->KV->Prop):SF:=λcall l H n k=>List.rec (motive:=λ_=>Prop) False (λa l _=>ar0 (λcall=>s call a) call l H n k) l
def dH(s:BG->V->V->Heap->Nat->KV->Prop):SF:=λcall l H n k=>List.rec (motive:=λ_=>Prop) False (λa l _=>ar1 (λcall=>s call a) call l H n k) l
def ar3(s:BG->V->V->V->Heap->Nat->KV->Prop):SF:=λcall l H n k=>List.rec (motive:=λ_=>Prop) False (λa l _=>dH (λcall=>s call a) call l H n k) l
def ar4(s:BG->V->V->V->V->Heap->Nat->KV->Prop):SF:=λcall l H n k=>List.rec (motive:=λ_=>Prop) False (λa l _=>ar3 (λcall=>s call a) call l H n k) l
def ar5(s:BG->V->V->V->V->V->Heap->Nat->KV->Prop):SF:=λcall l H n k=>List.rec (motive:=λ_=>Prop) False (λa l _=>ar4 (λcall=>s call a) call l H n k) l
def ar6(s:BG->V->V->V->V->V->V->Heap->Nat->KV->Prop):SF:=λcall l H n k=>List.rec (motive:=λ_=>Prop) False (λa l _=>ar5 (λcall=>s call a) call l H n k) l
theorem ANd{s:BG->Heap->Nat->KV->Prop}{call:BG}{l:List V}{H:Heap}{n:Nat}{k:KV}(h:ar0 s call l H n k):l=[]/\s call H n k:=by
 cases l with
 |nil=>exact⟨rfl,h⟩
 |cons=>exact(show False from h).elim
theorem AOM{s:BG->V->Heap->Nat->KV->Prop}{call:BG}{l:List V}{H:Heap}{n:Nat}{k:KV}(h:ar1 s call l H n k):∃a0,l=[a0]/\s call a0 H n k:=by
 cases l with
 |nil=>exact(show False from h).elim
 |cons a l=>
  obtain⟨rfl,h⟩:=ANd (show ar0 (λcall=>s call a) call l H n k from h)
  exact⟨a,rfl,h⟩
theorem AN3{s:BG->V->V->Heap->Nat->KV->Prop}{call:BG}{l:List V}{H:Heap}{n:Nat}{k:KV}(h:dH s call l H n k):∃a0 a1,l=[a0,a1]/\s call a0 a1 H n k:=by
 cases l with
 |nil=>exact(show False from h).elim
 |cons a l=>
  obtain⟨b0,rfl,h⟩:=AOM (show ar1 (λcall=>s call a) call l H n k from h)
  exact⟨a,b0,rfl,h⟩
theorem AOH{s:BG->V->V->V->Heap->Nat->KV->Prop}{call:BG}{l:List V}{H:Heap}{n:Nat}{k:KV}(h:ar3 s call l H n k):∃a0 a1 a2,l=[a0,a1,a2]/\s call a0 a1 a2 H n k:=by
 cases l with
 |nil=>exact(show False from h).elim
 |cons a l=>
  obtain⟨b0,b1,rfl,h⟩:=AN3 (show dH (λcall=>s call a) call l H n k from h)
  exact⟨a,b0,b1,rfl,h⟩
theorem AOP{s:BG->V->V->V->V->Heap->Nat->KV->Prop}{call:BG}{l:List V}{H:Heap}{n:Nat}{k:KV}(h:ar4 s call l H n k):∃a0 a1 a2 a3,l=[a0,a1,a2,a3]/\s call a0 a1 a2 a3 H n k:=by
 cases l with
 |nil=>exact(show False from h).elim
 |cons a l=>
  obtain⟨b0,b1,b2,rfl,h⟩:=AOH (show ar3 (λcall=>s call a) call l H n k from h)
  exact⟨a,b0,b1,b2,rfl,h⟩
theorem AOX{s:BG->V->V->V->V->V->Heap->Nat->KV->Prop}{call:BG}{l:List V}{H:Heap}{n:Nat}{k:KV}(h:ar5 s call l H n k):∃a0 a1 a2 a3 a4,l=[a0,a1,a2,a3,a4]/\s call a0 a1 a2 a3 a4 H n k:=by
 cases l with
 |nil=>exact(show False from h).elim
 |cons a l=>
  obtain⟨b0,b1,b2,b3,rfl,h⟩:=AOP (show ar4 (λcall=>s call a) call l H n k from h)
  exact⟨a,b0,b1,b2,b3,rfl,h⟩
theorem AT0{s:BG->V->V->V->V->V->V->Heap->Nat->KV->Prop}{call:BG}{l:List V}{H:Heap}{n:Nat}{k:KV}(h:ar6 s call l H n k):∃a0 a1 a2 a3 a4 a5,l=[a0,a1,a2,a3,a4,a5]/\s call a0 a1 a2 a3 a4 a5 H n k:=by
 cases l with
 |nil=>exact(show False from h).elim
 |cons a l=>
  obtain⟨b0,b1,b2,b3,b4,rfl,h⟩:=AOX (show ar5 (λcall=>s call a) call l H n k from h)
  exact⟨a,b0,b1,b2,b3,b4,rfl,h⟩
def AJr(G:AX)(af:AF)(s:SF):Prop:=∀call callE,U3 call callE->Ig callE->∀args H n k,s call args H n k->AMv af G callE args H n k
section
variable{E:RS}{G:AX}{H:Heap}{x:X}{a:Int}
end
@[congr] theorem AX9{o o':Option V}(f:V->Prop)(h:o=o'):AL o f=AL o' f:=by rw[h]
@[congr] theorem AYF{α:Type}{o o':Option α}(f:α->Prop)(h:o=o'):Dz o f=Dz o' f:=by rw[h]
@[congr] theorem AX2{b b':Bool}(p:Prop)(h:b=b'):Dj b p=Dj b' p:=by rw[h]
@[congr] theorem AU2{v v':V}(b:Bool)(p q:Prop)(h:v=v'):Aa v b p q=Aa v' b p q:=by rw[h]
@[congr] theorem AX8{c c':V}{b:Bool}{e:Option V}(f:V->Prop)(h:c=c'):Ba c b e f=Ba c' b e f:=by rw[h]
@[congr] theorem AWN{c c':V}{b:Bool}{t:KV->Prop}{H:Heap}{n:Nat}(f:KV)(h:c=c'):Ik c b t H n f=Ik c' b t H n f:=by rw[h]
@[congr] theorem AXw(F:T AF)(G:AX)(f:Nat){a a':List V}{H H':Heap}{n n':Nat}(k:KV)(h0:a=a')(h1:H=H')(h2:n=n'):Runs F G f a H n k=Runs F G f a' H' n' k:=by rw[h0,h1,h2]
theorem AQ(v:V)(f:V->Prop):AL (some v) f=f v:=rfl
theorem Zq{α:Type}(v:α)(f:α->Prop):Dz (some v) f=f v:=rfl
theorem qx(p:Prop):Dj true p=p:=rfl
theorem A8(p q:Prop):Aa (.bool true) true p q=p:=rfl
theorem Ai(p q:Prop):Aa (.bool false) true p q=q:=rfl
theorem AU9(e:Option V)(f:V->Prop):Ba (.bool true) true e f=AL e f:=rfl
theorem AVk(e:Option V)(f:V->Prop):Ba (.bool false) false e f=AL e f:=rfl
theorem AaC(e:Option V)(f:V->Prop):Ba (.bool true) false e f=f (.G5 []):=rfl
theorem AZU(e:Option V)(f:V->Prop):Ba (.bool false) true e f=f (.G5 []):=rfl
theorem Abr(b:Bool)(e:Option V)(f:V->Prop):Ba (.G5 []) b e f=f (.G5 []):=rfl
theorem AYe(t:KV->Prop)(H:Heap)(n:Nat)(f:KV):Ik (.bool true) true t H n f=t f:=rfl
theorem AZ5(t:KV->Prop)(H:Heap)(n:Nat)(f:KV):Ik (.bool false) false t H n f=t f:=rfl
theorem AaK(t:KV->Prop)(H:Heap)(n:Nat)(f:KV):Ik (.bool true) false t H n f=f (.G5 []) H n:=rfl
theorem AYZ(t:KV->Prop)(H:Heap)(n:Nat)(f:KV):Ik (.bool false) true t H n f=f (.G5 []) H n:=rfl
theorem Abh(b:Bool)(t:KV->Prop)(H:Heap)(n:Nat)(f:KV):Ik (.G5 []) b t H n f=f (.G5 []) H n:=rfl
theorem AZX(b:Bool):Nb (.bool b)=some (.bool (!b)):=by cases b<;>rfl
theorem AUF(a b:V):DT (.bool true) a b=some a:=rfl
theorem ATS(a b:V):DT (.bool false) a b=some b:=rfl
theorem Ae(off id o:Nat):AU off (.ptr id o)=some (.ptr id (o+off)):=by show En (Nat.add o off) _=_;rw[DU];rfl
theorem ANp(off id o:Nat):AU off (.gptr id o)=some (.gptr id (o+off)):=by show En (Nat.add o off) _=_;rw[DU];rfl
theorem ATN(id o:Nat):Am (.ptr id o)=some (.ptr id o):=rfl
theorem O5(a:V)(l:List V):Ep (.G5 (a::l)) 0=some a:=rfl
theorem O7(a b:V)(l:List V):Ep (.G5 (a::b::l)) 1=some b:=rfl
theorem xJ(a b c:V)(l:List V):Ep (.G5 (a::b::c::l)) 2=some c:=rfl
theorem ASg(a:V)(G:AX)(H:Heap):AY a G H=WZ (ldP a G H 1) λL=>nth L 0:=rfl
theorem AN8(m:Nat)(a:V)(G:AX)(H:Heap):Ad m a G H=WZ (ldP a G H m) λL=>some (.agg L):=rfl
theorem AEv(id off:Nat)(G:AX)(H:Heap)(n:Nat):ldP (.ptr id off) G H n=zf H id off n:=rfl
theorem AJS(L:LV)(f:LV->Option V):WZ (some L) f=f L:=rfl
def one(L:LV):Ro:=.arr L.length 1 (T.set .e 0 L)
theorem AVi{v:V}{H:Heap}{n:Nat}{P:KV}(h:jc v=true):BZ (EW v) H n P=P (.ptr n 0) (T.set H n (one (Bl v))) (n+1):=by
 show Dj (jc v) (FN (len (Bl v)) λe=>FN n λn=>P (.ptr n 0) (T.set H n (.arr e 1 (T.set .e 0 (Bl v)))) (Nat.succ n))=_
 rw[CV,CV,len_eq,h]
 rfl
theorem AOD{z:Nat}{L:LV}{H:Heap}{n:Nat}{P:KV}(h:L.length=z):BZ (Aq z [L] E0) H n P=P (.ptr n 0) (T.set H n (one L)) (n+1):=by
 show FN (len [L]) (λm=>FN n λn=>P (.ptr n 0) (T.set H n (.arr z m (IX [L] 0 .e))) (Nat.succ n))=_
 rw[CV,CV,len_eq]
 subst h
 rfl
theorem ANG{H:Heap}{id:Nat}{L:LV}(h:T.get H id=some (one L)){off m:Nat}(hm:0<m)(hl:off+m<=L.length):zf H id off m=some ((L.drop off).take m):=by
 unfold zf
 rw[h]
 show ldB L.length 1 (T.set .e 0 L) off m=_
 unfold ldB
 have hdiv:off/L.length=0:=Nat.div_eq_of_lt (by omega)
 have hmod:off%L.length=off:=Nat.mod_eq_of_lt (by omega)
 have hb:Nat.blt (Nat.div off L.length) 1=true:=by rw[Nat.blt_eq];show off/L.length<1;omega
 rw[hb]
 show DF (T.get (T.set T.e 0 L) (Nat.div off L.length)) (ldC L.length off m)=_
 have hg2:T.get (T.set T.e 0 L) (Nat.div off L.length)=some L:=by
  show T.get (T.set T.e 0 L) (off/L.length)=some L
  rw[hdiv];simp
 rw[hg2]
 show ldC L.length off m L=_
 unfold ldC
 cases hc:band (Nat.beq m L.length) (Nat.beq (Nat.mod off L.length) 0)with
 |true=>
  simp only[Bv,Bool.and_eq_true,beq_iff]at hc
  obtain⟨h1,h2⟩:=hc
  have h2':off=0:=by have:off%L.length=0:=h2;omega
  subst h2'
  simp[h1]
 |false=>
  have hf:Nat.ble (Nat.add (Nat.mod off L.length) m) L.length=true:=by
   rw[Nat.ble_eq];show off%L.length+m<=L.length;omega
  rw[hf]
  show some (aZ m (wZ (Nat.mod off L.length) L))=_
  rw[mQ,uj]
  show some (List.take m (List.drop (off%L.length) L))=_
  rw[hmod]
theorem AWF{H:Heap}{id:Nat}{L:LV}(h:T.get H id=some (one L)){off m:Nat}{new:LV}(hm:0<m)(hn:new.length=m)(hl:off+m<=L.length):stH H id off m new=some (T.set H id (one (L.take off++(new++L.drop (off+m))))):=by
 unfold stH
 rw[h]
 show DF (stB L.length 1 (T.set .e 0 L) off m new) (λb=>some (T.set H id b))=_
 have hdiv:Nat.div off L.length=0:=Nat.div_eq_of_lt (by omega)
 have hmod:Nat.mod off L.length=off:=Nat.mod_eq_of_lt (by omega)
 have hs:stB L.length 1 (T.set .e 0 L) off m new=some (one (L.take off++(new++L.drop (off+m)))):=by
  unfold stB
  rw[hdiv]
  show DF (T.get (T.set T.e 0 L) 0) (stC new L.length 1 (T.set .e 0 L) off m)=_
  rw[T.BX]
  show stC new L.length 1 (T.set .e 0 L) off m L=_
  unfold stC
  rw[hmod,hdiv]
  have hlen:(L.take off++(new++L.drop (off+m))).length=L.length:=by simp;omega
  cases hc:band (Nat.beq m L.length) (Nat.beq off 0)with
  |true=>
   simp only[Bv,Bool.and_eq_true,beq_iff]at hc
   obtain⟨h1,h2⟩:=hc
   subst h2
   show some (Ro.arr L.length 1 (T.set (T.set T.e 0 L) 0 new))=_
   unfold one
   rw[hlen]
   have:List.take 0 L++(new++List.drop (0+m) L)=new:=by simp[h1]
   rw[this];rfl
  |false=>
   have hf:Nat.ble (Nat.add off m) L.length=true:=by rw[Nat.ble_eq];exact hl
   rw[hf]
   show some (Ro.arr L.length 1 (T.set (T.set T.e 0 L) 0 (AMI new off L)))=_
   unfold one
   rw[hlen,AI5,hn];rfl
 rw[hs]
 rfl
theorem AC2{F:T AF}{G:AX}{f:Nat}{af:AF}{s:SF}(hf:T.get F f=some af)(hs:AJr G af s){args:List V}{H:Heap}{n:Nat}{k:KV}(h:s (Runs F G) args H n k):Runs F G f args H n k:=
 AMg hf (hs _ _ (λ_ _ _ _ _ h=>h) (ACm F G) _ _ _ _ h)
def goN(x:X)(b:Bool)(d:wX)(o:AN):XpT:=λG _ R H n k=>Ba (x.ev R) b (o.ev G R H) λv=>k (IC d v R) H n
def goA(x:X)(b:Bool)(d:wX)(o:AA):XpT:=λ_ _ R H n k=>Ik (x.ev R) b (BZ (o.al R) H n) H n λv H n=>k (IC d v R) H n
def goE(x:X)(b:Bool)(d:wX)(o:AE):XpT:=λG call R H n k=>Ik (x.ev R) b (o.ex G call R H n) H n λv H n=>k (IC d v R) H n
def AcO(x:X)(b:Bool)(d:wX)(o:AO):XpT:=AO.rec (motive:=λ_=>XpT) (goN x b d) (goA x b d) (goE x b d) o
def oAG(o:AA):XoT:=λ_ _ d R H n k=>BZ (o.al R) H n λv H n=>k (IC d v R) H n
def AO.exG(o:AO):XoT:=AO.rec (motive:=λ_=>XoT) oN oAG oE o
def Aba(d:wX)(o:AO):XpT:=λG call R H n k=>o.exG G call d R H n k
def AOp.exG(o:AOp):XpT:=AOp.rec (motive:=λ_=>XpT) (λd g o=>Gd.rec (motive:=λ_=>wX->AO->XpT) Aba AcO g d o) o
theorem AOl(o:AOp):o.exG=o.ex:=by
 obtain⟨d,g,o⟩:=o
 cases g<;>cases o<;>rfl
def AMX(l:List AOp):XpT:=
 List.rec (motive:=λ_=>XpT) (λ_ _ R H n k=>k R H n) (λo _ g G call R H n k=>o.exG G call R H n λR H n=>g G call R H n k) l
theorem AOb:∀l:List AOp,AMX l=SA l
 |[]=>rfl
 |o::l=>by
  show(λG call R H n k=>o.exG G call R H n λR H n=>AMX l G call R H n k)=λG call R H n k=>o.ex G call R H n λR H n=>SA l G call R H n k
  rw[AOb l,AOl]
def AYP(x:X)(b:Bool):ReT:=λG R H d o k=>ACj (x.ev R) b (o.ev G R H) (Om (T.E5 d R.rg)) k
def AZs(g:Gd):ReT:=Gd.rec (motive:=λ_=>ReT) AZ4 AYP g
def AI.exG(i:AI):XpT:=AI.rec (motive:=λ_=>XpT) (λo=>o.exG) (λd g o G _ R H n k=>AZs g G R H d o (k R H n)) i
theorem AXS(i:AI):i.exG=i.ex:=by
 cases i with
 |op o=>exact AOl o
 |re d g o=>cases g<;>rfl
def AGq(l:List AI):XpT:=
 List.rec (motive:=λ_=>XpT) (λ_ _ R H n k=>k R H n) (λi _ g G call R H n k=>i.exG G call R H n λR H n=>g G call R H n k) l
theorem AHl:∀l:List AI,AGq l=Df l
 |[]=>rfl
 |o::l=>by
  show(λG call R H n k=>o.exG G call R H n λR H n=>AGq l G call R H n k)=λG call R H n k=>o.ex G call R H n λR H n=>Df l G call R H n k
  rw[AHl l,AXS]
def ARm(l:List AOp):M:=λG call _ R H n k _ _=>AMX l G call (.mk [] R) H n λE H n=>k E.rg H n
def AQ2(l:List AI):M:=λG call _ R H n k _ _=>AGq l G call (.mk [] R) H n λE H n=>k E.rg H n
def AC.exG(c:AC):M:=AC.rec (motive:=λ_=>M) ARR ARm AQ2 AQy AKi AGT AIx AQD AWj c
theorem AAV:∀c:AC,c.exG=c.exL
 |.skip=>rfl
 |.ops l=>by show ARm l=AS1 l;unfold ARm AS1;rw[AOb]
 |.reg l=>by show AQ2 l=AS9 l;unfold AQ2 AS9;rw[AHl]
 |.seq a b=>by show AQy a b a.exG b.exG=AQy a b a.exL b.exL;rw[AAV a,AAV b]
 |.cond x a b=>by show AKi x a b a.exG b.exG=AKi x a b a.exL b.exL;rw[AAV a,AAV b]
 |.block i a=>by show AGT i a a.exG=AGT i a a.exL;rw[AAV a]
 |.loop a=>by show AIx a a.exG=AIx a a.exL;rw[AAV a]
 |.exit i=>rfl
 |.ret=>rfl
inductive An:Type 1 where
 |n
 |s (a b:An)
 |j (S:K) (a b:An)
 |c (a b:An)
 |b (a:An)
 |l (σ:Type) (bd:(σ->Prop)->σ->Prop) (st:LZ->Heap->Nat->σ) (a:(σ->Prop)->An)
abbrev M2:=AC->AX->BG->LZ->Heap->Nat->K->KX->K->Prop
def AC.ALP(c:AC)(f:AC->AC->Prop):Prop:=AC.rec (motive:=λ_=>Prop) False (λ_=>False) (λ_=>False) (λa b _ _=>f a b) (λ_ _ _ _ _=>False) (λ_ _ _=>False) (λ_ _=>False) (λ_=>False) False c
def AC.ANV(c:AC)(f:X->AC->AC->Prop):Prop:=AC.rec (motive:=λ_=>Prop) False (λ_=>False) (λ_=>False) (λ_ _ _ _=>False) (λx a b _ _=>f x a b) (λ_ _ _=>False) (λ_ _=>False) (λ_=>False) False c
def AC.AJy(c:AC)(f:Nat->AC->Prop):Prop:=AC.rec (motive:=λ_=>Prop) False (λ_=>False) (λ_=>False) (λ_ _ _ _=>False) (λ_ _ _ _ _=>False) (λi a _=>f i a) (λ_ _=>False) (λ_=>False) False c
def AC.ANQ(c:AC)(f:AC->Prop):Prop:=AC.rec (motive:=λ_=>Prop) False (λ_=>False) (λ_=>False) (λ_ _ _ _=>False) (λ_ _ _ _ _=>False) (λ_ _ _=>False) (λa _=>f a) (λ_=>False) False c
def An.ex(L:GN)(an:An):M2:=
 An.rec (motive:=λ_=>M2)
  (λc G call R H n k x r=>c.exG G call 0 R H n k x r)
  (λ_ _ ga gb c G call R H n k x r=>c.ALP λa b=>ga a G call R H n (λR H n=>gb b G call R H n k x r) x r)
  (λS _ _ ga _ c G call R H n _ x r=>c.ALP λa _=>ga a G call R H n S x r)
  (λ_ _ ga gb c G call R H n k x r=>c.ANV λy a b=>Aa (y.ev (.mk [] R)) true (ga a G call R H n k x r) (gb b G call R H n k x r))
  (λ_ ga c G call R H n k x r=>c.AJy λi a=>ga a G call R H n k (JU i k x) r)
  (fun σ bd st _ _ c _ _ R H n _ _ _=>c.ANQ λ_=>L σ bd (st R H n)) an
abbrev M3:=AC->AX->BG->K->KX->K->Prop
def An.ob(L:GN)(an:An):M3:=
 An.rec (motive:=λ_=>M3)
  (λ_ _ _ _ _ _=>True)
  (λ_ b ga gb c G call k x r=>c.ALP λa d=>ga a G call (λR H n=>b.ex L d G call R H n k x r) x r/\gb d G call k x r)
  (λS _ b ga gb c G call k x r=>c.ALP λa d=>ga a G call S x r/\(∀R H n,S R H n=b.ex L d G call R H n k x r)/\gb d G call k x r)
  (λ_ _ ga gb c G call k x r=>c.ANV λ_ a b=>ga a G call k x r/\gb b G call k x r)
  (λ_ ga c G call k x r=>c.AJy λi a=>ga a G call k (JU i k x) r)
  (fun σ bd st a ga c G call _ x r=>c.ANQ λd=>∀ih:σ->Prop,(∀R H n,bd ih (st R H n)=(a ih).ex L d G call R H n (λR H n=>ih (st R H n)) x r)/\ga ih d G call (λR H n=>ih (st R H n)) x r) an
def AC.AR9(c:AC)(f:AC->AC->Prop):Prop:=AC.rec (motive:=λ_=>Prop) True (λ_=>True) (λ_=>True) (λa b _ _=>f a b) (λ_ _ _ _ _=>True) (λ_ _ _=>True) (λ_ _=>True) (λ_=>True) True c
def AC.AT7(c:AC)(f:X->AC->AC->Prop):Prop:=AC.rec (motive:=λ_=>Prop) True (λ_=>True) (λ_=>True) (λ_ _ _ _=>True) (λx a b _ _=>f x a b) (λ_ _ _=>True) (λ_ _=>True) (λ_=>True) True c
def AC.AQe(c:AC)(f:Nat->AC->Prop):Prop:=AC.rec (motive:=λ_=>Prop) True (λ_=>True) (λ_=>True) (λ_ _ _ _=>True) (λ_ _ _ _ _=>True) (λi a _=>f i a) (λ_ _=>True) (λ_=>True) True c
def AC.AS6(c:AC)(f:AC->Prop):Prop:=AC.rec (motive:=λ_=>Prop) True (λ_=>True) (λ_=>True) (λ_ _ _ _=>True) (λ_ _ _ _ _=>True) (λ_ _ _=>True) (λa _=>f a) (λ_=>True) True c
def An.obR(L:GN)(an:An):M3:=
 An.rec (motive:=λ_=>M3)
  (λ_ _ _ _ _ _=>True)
  (λ_ b ga gb c G call k x r=>c.AR9 λa d=>ga a G call (λR H n=>b.ex L d G call R H n k x r) x r/\gb d G call k x r)
  (λS _ b ga gb c G call k x r=>c.AR9 λa d=>ga a G call S x r/\(∀R H n,S R H n=S R H n)/\gb d G call k x r)
  (λ_ _ ga gb c G call k x r=>c.AT7 λ_ a b=>ga a G call k x r/\gb b G call k x r)
  (λ_ ga c G call k x r=>c.AQe λi a=>ga a G call k (JU i k x) r)
  (fun σ bd st a ga c G call _ x r=>c.AS6 λd=>∀ih:σ->Prop,(∀R H n,bd ih (st R H n)=bd ih (st R H n))/\ga ih d G call (λR H n=>ih (st R H n)) x r) an
theorem An.AXB(L:GN)(an:An):∀c G call k x r,an.obR L c G call k x r:=by
 induction an with
 |n=>exact λ_ _ _ _ _ _=>trivial
 |s a b iha ihb=>intro c;cases c<;>first|exact λ_ _ _ _ _=>trivial|exact λG call k x r=>⟨iha _ _ _ _ _ _,ihb _ _ _ _ _ _⟩
 |j S a b iha ihb=>intro c;cases c<;>first|exact λ_ _ _ _ _=>trivial|exact λG call k x r=>⟨iha _ _ _ _ _ _,λ_ _ _=>rfl,ihb _ _ _ _ _ _⟩
 |c a b iha ihb=>intro c;cases c<;>first|exact λ_ _ _ _ _=>trivial|exact λG call k x r=>⟨iha _ _ _ _ _ _,ihb _ _ _ _ _ _⟩
 |b a iha=>intro c;cases c<;>first|exact λ_ _ _ _ _=>trivial|exact λG call k x r=>iha _ _ _ _ _ _
 |l σ bd st a iha=>intro c;cases c<;>first|exact λ_ _ _ _ _=>trivial|exact λG call k x r ih=>⟨λ_ _ _=>rfl,iha ih _ _ _ _ _ _⟩
theorem AIB{c:AC}{f:AC->AC->Prop}(h:c.ALP f):∃a b,c=.seq a b/\f a b:=by
 cases c<;>first|exact⟨_,_,rfl,h⟩|exact(show False from h).elim
theorem ANE{c:AC}{f:X->AC->AC->Prop}(h:c.ANV f):∃x a b,c=.cond x a b/\f x a b:=by
 cases c<;>first|exact⟨_,_,_,rfl,h⟩|exact(show False from h).elim
theorem AKZ{c:AC}{f:Nat->AC->Prop}(h:c.AJy f):∃i a,c=.block i a/\f i a:=by
 cases c<;>first|exact⟨_,_,rfl,h⟩|exact(show False from h).elim
theorem AMM{c:AC}{f:AC->Prop}(h:c.ANQ f):∃a,c=.loop a/\f a:=by
 cases c<;>first|exact⟨_,rfl,h⟩|exact(show False from h).elim
section
variable{G:AX}{call callE:BG}
theorem AS2{c:AC}{R:LZ}{H:Heap}{n:Nat}{k:K}{x:KX}{r:K}(h:c.exG G call 0 R H n k x r):c.exL G call 0 R H n k x r:=by rwa [AAV]at h
theorem AAK(hle:U3 call callE)(hd:Ig callE):∀(c:AC) (R:LZ) (H:Heap) (n:Nat) (k k':K) (x x':KX) (r r':K),(∀R H n,k R H n->k' R H n)->(∀i R H n,x i R H n->x' i R H n)->(∀R H n,r R H n->r' R H n)->
 c.exL G call 0 R H n k x r->c.exL G callE 0 R H n k' x' r'
 |.skip,R,H,n,k,k',x,x',r,r',hk,hx,hr,h=>hk _ _ _ h
 |.ops l,R,H,n,k,k',x,x',r,r',hk,hx,hr,h=>ARI hd l _ H n (λE H n h=>hk _ _ _ h) (AL0 hd hle G l _ H n _ h)
 |.reg l,R,H,n,k,k',x,x',r,r',hk,hx,hr,h=>AMK hd l _ H n (λE H n h=>hk _ _ _ h) (AGe hd hle G l _ H n _ h)
 |.seq a b,R,H,n,k,k',x,x',r,r',hk,hx,hr,h=>AAK hle hd a R H n _ _ x x' r r' (λR H n h=>AAK hle hd b R H n k k' x x' r r' hk hx hr h) hx hr h
 |.cond c a b,R,H,n,k,k',x,x',r,r',hk,hx,hr,h=>by
  have h':Aa (c.ev (.mk [] R)) true (a.exL G call 0 R H n k x r) (b.exL G call 0 R H n k x r):=h
  show Aa (c.ev (.mk [] R)) true (a.exL G callE 0 R H n k' x' r') (b.exL G callE 0 R H n k' x' r')
  exact AGt h' (AAK hle hd a R H n k k' x x' r r' hk hx hr) (AAK hle hd b R H n k k' x x' r r' hk hx hr)
 |.block id a,R,H,n,k,k',x,x',r,r',hk,hx,hr,h=>by
  refine AAK hle hd a R H n k k' (JU id k x) (JU id k' x') r r' hk (λi R H n h=>?_) hr h
  unfold JU at h⊢
  cases hb:Nat.beq i id with
  |true=>rw[hb]at h;exact hk _ _ _ h
  |false=>rw[hb]at h;exact hx _ _ _ _ h
 |.loop a,R,H,n,k,k',x,x',r,r',hk,hx,hr,h=>by
  intro I hI
  exact h I λR H n hb=>hI R H n (AAK hle hd a R H n I I x x' r r' (λ_ _ _ h=>h) hx hr hb)
 |.exit i,R,H,n,k,k',x,x',r,r',hk,hx,hr,h=>hx _ _ _ _ h
 |.ret,R,H,n,k,k',x,x',r,r',hk,hx,hr,h=>hr _ _ _ h
theorem An.ok{L:GN}(hL:ER L)(hle:U3 call callE)(hd:Ig callE)(an:An):∀(c:AC) (k k':K) (x x':KX) (r r':K),(∀R H n,k R H n->k' R H n)->(∀i R H n,x i R H n->x' i R H n)->(∀R H n,r R H n->r' R H n)->
 an.ob L c G call k x r->∀R H n,an.ex L c G call R H n k x r->c.exL G callE 0 R H n k' x' r':=by
 induction an with
 |n=>exact λc k k' x x' r r' hk hx hr _ R H n h=>AAK hle hd c R H n k k' x x' r r' hk hx hr (AS2 h)
 |s a b iha ihb=>
  intro c k k' x x' r r' hk hx hr ho R H n h
  obtain⟨c1,c2,rfl,ho⟩:=AIB ho
  exact iha c1 _ _ x x' r r' (λR H n h=>ihb c2 k k' x x' r r' hk hx hr ho.2 R H n h) hx hr ho.1 R H n h
 |j S a b iha ihb=>
  intro c k k' x x' r r' hk hx hr ho R H n h
  obtain⟨c1,c2,rfl,ho⟩:=AIB ho
  exact iha c1 S (λR H n=>c2.exL G callE 0 R H n k' x' r') x x' r r' (λR H n h=>ihb c2 k k' x x' r r' hk hx hr ho.2.2 R H n (ho.2.1 R H n▸h)) hx hr ho.1 R H n h
 |c a b iha ihb=>
  intro c k k' x x' r r' hk hx hr ho R H n h
  obtain⟨y,c1,c2,rfl,ho⟩:=ANE ho
  exact AGt (P':=c1.exL G callE 0 R H n k' x' r') (Q':=c2.exL G callE 0 R H n k' x' r') h (λh=>iha c1 k k' x x' r r' hk hx hr ho.1 R H n h) (λh=>ihb c2 k k' x x' r r' hk hx hr ho.2 R H n h)
 |b a iha=>
  intro c k k' x x' r r' hk hx hr ho R H n h
  obtain⟨i,c1,rfl,ho⟩:=AKZ ho
  refine iha c1 k k' (JU i k x) (JU i k' x') r r' hk (λj R H n h=>?_) hr ho R H n h
  unfold JU at h⊢
  cases hb:Nat.beq j i with
  |true=>rw[hb]at h;exact hk _ _ _ h
  |false=>rw[hb]at h;exact hx _ _ _ _ h
 |l σ bd st a iha=>
  intro c k k' x x' r r' hk hx hr ho R H n h
  obtain⟨c1,rfl,ho⟩:=AMM ho
  intro I hI
  have h':L σ bd (st R H n):=h
  refine hL σ bd (λs=>∀R H n,st R H n=s->I R H n) (λih hih s hs R H n e=>?_) _ h' R H n rfl
  subst e
  rw[(ho ih).1]at hs
  exact hI R H n (iha ih c1 (λR H n=>ih (st R H n)) I x x' r r' (λR H n h=>hih _ h R H n rfl) hx hr (ho ih).2 R H n hs)
end
def fEx(L:GN)(an:An)(af:AF)(G:AX)(call:BG)(args:List V)(H:Heap)(n:Nat)(k:KV):Prop:=
 AF.rec (motive:=λ_=>Prop) (λnp code res d dg=>Dj (Nat.beq (len args) np) (an.ex L code G call (jh args 0 .e) H n (Lr res dg d G call k) noX (Lr res dg d G call k))) (λf=>AAv f G args H n k) af
def fOb(L:GN)(an:An)(af:AF)(G:AX)(call:BG)(k:KV):Prop:=
 AF.rec (motive:=λ_=>Prop) (λ_ code res d dg=>an.ob L code G call (Lr res dg d G call k) noX (Lr res dg d G call k)) (λ_=>True) af
def AbR(L:GN)(an:An)(af:AF)(G:AX)(call:BG)(k:KV):Prop:=
 AF.rec (motive:=λ_=>Prop) (λ_ code res d dg=>an.obR L code G call (Lr res dg d G call k) noX (Lr res dg d G call k)) (λ_=>True) af
theorem obs{L:GN}{an:An}{af:AF}{G:AX}{call:BG}{k:KV}(h:AbR L an af G call k=fOb L an af G call k):fOb L an af G call k:=by
 rw[<-h];cases af with
 |mk=>exact An.AXB ..
 |nat=>exact trivial
theorem AA0{L:GN}(hL:ER L){G:AX}{call callE:BG}(hle:U3 call callE)(hd:Ig callE){an:An}{af:AF}{args:List V}{H:Heap}{n:Nat}{k:KV}(ho:fOb L an af G call k)(h:fEx L an af G call args H n k):AMv af G callE args H n k:=by
 cases af with
 |nat=>exact h
 |mk np code res d dg=>
 have h':Dj (Nat.beq (len args) np) (an.ex L code G call (jh args 0 .e) H n (Lr res dg d G call k) noX (Lr res dg d G call k)):=h
 show Dj (Nat.beq (len args) np) (code.exL G callE 0 (jh args 0 .e) H n (Lr res dg d G callE k) noX (Lr res dg d G callE k))
 rw[Hl]at h'⊢
 exact⟨h'.1,An.ok hL hle hd an code _ _ _ _ _ _ (λR H n h=>jY hd hle res dg d G k R H n h) (λ_ _ _ _ h=>h) (λR H n h=>jY hd hle res dg d G k R H n h) ho _ _ _ h'.2⟩
section
variable{L:GN}(hL:ER L){G:AX}{af:AF}{an:BG->KV->An}(ho:∀call k,fOb L (an call k) af G call k)
include hL ho
theorem sf0{s:BG->Heap->Nat->KV->Prop}(h:∀call H n k,s call H n k=fEx L (an call k) af G call [] H n k):AJr G af (ar0 s):=λcall callE hle hd l H n k hs=>by
 obtain⟨rfl,hs⟩:=ANd hs;exact AA0 hL hle hd (ho call k) (h .. ▸hs)
theorem sf1{s:BG->V->Heap->Nat->KV->Prop}(h:∀call a0 H n k,s call a0 H n k=fEx L (an call k) af G call [a0] H n k):AJr G af (ar1 s):=λcall callE hle hd l H n k hs=>by
 obtain⟨a0,rfl,hs⟩:=AOM hs;exact AA0 hL hle hd (ho call k) (h .. ▸hs)
theorem nR{s:BG->V->V->Heap->Nat->KV->Prop}(h:∀call a0 a1 H n k,s call a0 a1 H n k=fEx L (an call k) af G call [a0,a1] H n k):AJr G af (dH s):=λcall callE hle hd l H n k hs=>by
 obtain⟨a0,a1,rfl,hs⟩:=AN3 hs;exact AA0 hL hle hd (ho call k) (h .. ▸hs)
theorem sf3{s:BG->V->V->V->Heap->Nat->KV->Prop}(h:∀call a0 a1 a2 H n k,s call a0 a1 a2 H n k=fEx L (an call k) af G call [a0,a1,a2] H n k):AJr G af (ar3 s):=λcall callE hle hd l H n k hs=>by
 obtain⟨a0,a1,a2,rfl,hs⟩:=AOH hs;exact AA0 hL hle hd (ho call k) (h .. ▸hs)
theorem sf4{s:BG->V->V->V->V->Heap->Nat->KV->Prop}(h:∀call a0 a1 a2 a3 H n k,s call a0 a1 a2 a3 H n k=fEx L (an call k) af G call [a0,a1,a2,a3] H n k):AJr G af (ar4 s):=λcall callE hle hd l H n k hs=>by
 obtain⟨a0,a1,a2,a3,rfl,hs⟩:=AOP hs;exact AA0 hL hle hd (ho call k) (h .. ▸hs)
theorem sf5{s:BG->V->V->V->V->V->Heap->Nat->KV->Prop}(h:∀call a0 a1 a2 a3 a4 H n k,s call a0 a1 a2 a3 a4 H n k=fEx L (an call k) af G call [a0,a1,a2,a3,a4] H n k):AJr G af (ar5 s):=λcall callE hle hd l H n k hs=>by
 obtain⟨a0,a1,a2,a3,a4,rfl,hs⟩:=AOX hs;exact AA0 hL hle hd (ho call k) (h .. ▸hs)
theorem sf6{s:BG->V->V->V->V->V->V->Heap->Nat->KV->Prop}(h:∀call a0 a1 a2 a3 a4 a5 H n k,s call a0 a1 a2 a3 a4 a5 H n k=fEx L (an call k) af G call [a0,a1,a2,a3,a4,a5] H n k):AJr G af (ar6 s):=λcall callE hle hd l H n k hs=>by
 obtain⟨a0,a1,a2,a3,a4,a5,rfl,hs⟩:=AT0 hs;exact AA0 hL hle hd (ho call k) (h .. ▸hs)
end
def inR(l:List (Nat×Nat))(t:Nat):Bool:=l.any λp=>Nat.ble p.1 t&&Nat.ble t p.2
def Zo(l:List Nat):List (Nat×Wk):=l.map λj=>(j,.plain)
def J8(n:Nat):List (Nat×Wk):=Zo (List.range n)
def BF(o:Option AF):AF:=o.getD (.mk 0 .skip [] .no 0)
theorem Ac{o:Option AF}(h:o.isSome=true):o=some (BF o):=by
 cases o with
 |none=>cases h
 |some a=>rfl
theorem AAe.one{P:Program}{F:T AF}{f:Nat}{af:AF}{fn:Func}{loc:Nat->Bool}{df:Bool}{ords:AKK}{dg:Nat}(hf:P.funcs[f]? =some fn)(hn:(fn.name== "runtime.NumGoroutine")=false)
 (ht:trF P loc df ords dg fn=some af) (hd:af.dg=dg) (hi:AMN af.dp=true):AAe P F f af:=.code ⟨⟨fn,loc,df,ords,hf,hn,hd▸ht⟩,.inl hi⟩
theorem AAe.two{P:Program}{F:T AF}{f:Nat}{af af':AF}{fn:Func}{loc:Nat->Bool}{df:Bool}{ords:AKK}{dg:Nat}(hf:P.funcs[f]? =some fn)(hn:(fn.name== "runtime.NumGoroutine")=false)
 (ht:trF P loc df ords dg fn=some af) (hd:af.dg=dg) (ha:T.get F dg=some af') (hi:AMN af'.dp=true):AAe P F f af:=.code ⟨⟨fn,loc,df,ords,hf,hn,hd▸ht⟩,.inr ⟨af',hd▸ha,hi⟩⟩
end Go.DK
namespace Go.DK
theorem AYg(x y:Int):B2.ev .lss (.int .i64 x 0) (.int .i64 y 0)=some (.bool (decide (x<y))):=by
 show rQ (ilt x y)=_
 rw[aH,aG]
theorem AVq(x y:Int):Dc (.one .int) true (.int .i64 x 0) (.int .i64 y 0)=some (.bool (!(x==y))):=by
 show ofB (UK (some (ieq x y)) λb=>some (Rt b))=_
 rw[jI];cases x==y<;>rfl
theorem ALG(x:Int):Dc (.one .int) true (.int .i64 x 0) (.int .i64 x 0)=some (.bool false):=by rw[AVq];simp
theorem wrap64(a:Int):IntKind.wrap .i64 a=if 9223372036854775808<=a%18446744073709551616 then a%18446744073709551616-18446744073709551616 else a%18446744073709551616:=by
 show(if(true&&decide (a%18446744073709551616≥9223372036854775808))=true then a%18446744073709551616-18446744073709551616 else a%18446744073709551616)=_
 by_cases h:9223372036854775808<=a%18446744073709551616
 ·rw[if_pos h,if_pos (by simpa using h)]
 ·rw[if_neg h,if_neg (by simpa using h)]
theorem Zk{x:Int}(h1: -9223372036854775808<=x)(h2:x<9223372036854775808):IntKind.wrap .i64 x=x:=by
 rw[wrap64];split<;>omega
end Go.DK
