/- Part of a proof; nothing is assumed. -/
import Derived.Test.YtibbhhkcjjeclaaDoorEngE
set_option linter.unusedVariables false
set_option linter.unusedSimpArgs false
noncomputable section
namespace Go.Bv
def P2.beq(p:P2):P2->Bool:=
 P2.rec (motive:=λ_=>P2->Bool) (λq=>P2.rec (motive:=λ_=>Bool) true (λ_ _=>false) (λ_ _=>false) q)
  (λ_ g q=>P2.rec (motive:=λ_=>Bool) false (λq _=>g q) (λ_ _=>false) q)
  (λ_ g q=>P2.rec (motive:=λ_=>Bool) false (λ_ _=>false) (λq _=>g q) q) p
abbrev rg(R:Je)(p:P2):V:=NT (T.D6 p R)
theorem ne{R:Je}{p q:P2}{v a:V}(hb:P2.beq q p=false)(h:rg R p=a):rg (T.aB v q R) p=a:=by
 show NT (T.D6 p (T.aB v q R))=a
 rw[T.Iy _ _ _ _ (λe=>by subst e;rw[P2.beq_self]at hb;cases hb)]
 exact h
abbrev Eo:=(σ:Type)->((σ->Prop)->σ->Prop)->σ->Prop
def Df(L:Eo):Prop:=∀(σ:Type) (b:(σ->Prop)->σ->Prop) (P:σ->Prop),(∀ih,(∀s,ih s->P s)->∀s,b ih s->P s)->∀s,L σ b s->P s
def lfp:Eo:=fun σ b s=>∀I:σ->Prop,(∀s,b I s->I s)->I s
theorem BK:Df lfp:=λ_ _ P h _ hL=>hL P (h P λ_ h=>h)
def lpF(m:Nat):Eo:=fun σ b s=>Nat.rec (motive:=λ_=>σ->Prop) (λ_=>False) (λ_ g=>b g) m s
theorem ARI(m:Nat):Df (lpF m):=fun σ b P h=>by
 induction m with
 |zero=>exact λs hs=>(show False from hs).elim
 |succ m ih=>exact λs hs=>h _ ih s hs
def E0:RS:=.mk [] .e
def Az(c a b:V):Option V:=c.nZ λt=>xX t (some a) (some b)
def AV(a:V)(G:AX)(H:Heap):Option V:=Vz (lC a G H 1) λL=>nth L 0
def Ae(n:Nat)(a:V)(G:AX)(H:Heap):Option V:=Vz (lC a G H n) λL=>some (.agg L)
def FD(a:V):Option V:=a.nZ λb=>mkB (Z8 b)
def AT4(a:V):Option V:=a.Ir λk n s=>mkI k (Int.neg n) s
def AAR(off:Nat)(a:V):Option V:=a.vC λl=>nth l off
def AJ4(n esz:Nat)(a i:V):Option V:=Xa i λi=>BQ (Nat.blt i n) (AQ (Nat.mul i esz) a)
def ANc(a i:V):Option V:=a.U9 λln c=>Xa i λi=>BQ (Nat.blt i ln) (GX (AMf c i) λb=>some (.int .u8 (.ofNat b) 0))
def Bz(a:V)(i:Nat):Option V:=a.AFz λl=>nth l i
def Ql(a:V):Option V:=a.U9 λn _=>some (.int .i64 (.ofNat n) 0)
def ACY(c:CK)(ok:Bool)(z m k:V)(H:Heap):Option V:=Rw H m λes _=>BR (lM c k es 0) (AJI ok z)
def BA(z:LV)(ps:List (Nat×Nat×X)):Option V:=BQ (iV ps E0) (some (.agg (AAC ps E0 z)))
def AS6(x y:V):Option V:=x.Ir λk a s=>y.Ir λk' b t=>BQ (band (keq k k') (Nat.beq (Nat.add s t) 0)) (some (.int k (Bool.rec a b (ilt a b)) 0))
def EL(v:V)(k:KA):Prop:=NC (Z7 v) (DT (len (Au v)) λe=>k (.arr e 1 (T.set .e 0 (Au v))) λid=>.ptr id 0)
def BZ(sz:Nat)(a b:V)(H:Heap)(n:Nat)(k:KV):Prop:=NC (band (Z7 b) (Nat.beq (len (Au b)) sz)) (G9 (stP a H sz (Au b)) λH=>k .undef H n)
def V7(esz bs:Nat)(a b:V)(G:AX)(H:Heap)(n:Nat)(k:KV):Prop:=G9 (elems b G H esz) λLS=>AEy a G esz bs LS H n k
def copyV(esz:Nat)(a b:V)(G:AX)(H:Heap)(n:Nat)(k:KV):Prop:=G9 (elems b G H esz) λLS=>ADu a esz LS H n k
def APU(c:CK)(m key v:V)(H:Heap)(n:Nat)(k:KV):Prop:=ADF m H (AII c key v) λH=>k .undef H n
def Ba(x:V)(args:List V)(call:Ap)(H:Heap)(n:Nat)(k:KV):Prop:=V.Xj x λf a c=>call f (cat a (cat args c)) H n k
def Aj(c:V)(b:Bool)(e:Option V)(P:V->Prop):Prop:=kY c b (AL e P) (P (.Dz []))
def Bg(al:KA->Prop)(H:Heap)(n:Nat)(P:KV):Prop:=al λb f=>DT n λn=>P (f n) (T.set H n b) (Nat.succ n)
def EM(c:V)(b:Bool)(t:KV->Prop)(H:Heap)(n:Nat)(P:KV):Prop:=kY c b (t P) (P (.Dz []) H n)
inductive AVr where
 |t (v:V)|c1 (v:V)|cn (v:V) (n:Nat)
def AVr.get(r:AVr)(G:AX)(H:Heap):Option V:=AVr.rec (λv=>some v) (λv=>AV v G H) (λv n=>Ae n v G H) r
def Dq(l:List AVr)(G:AX)(H:Heap):Option LV:=
 List.rec (motive:=λ_=>Option LV) (some []) (λr _ g=>BR (r.get G H) λv=>BR g λvs=>some (v::vs)) l
section
variable{E:RS}{G:AX}{H:Heap}{n:Nat}{x y z w:X}{a b c d:V}
variable{call:Ap}
end
section
variable{L:List V}{R:Je}{G:AX}{call:Ap}{H:Heap}{n:Nat}{a b:V}
end
def tN(c:V)(b:Bool)(e:Option V)(a:V)(P:Prop):Prop:=kY c b (AL e λv=>NC (GI v a) P) P
def kR(k:K):KE:=λE H n=>k E.rg H n
theorem ACg{v:V}{b:Bool}{P Q P' Q':Prop}(h:AY v b P Q)(hp:P->P')(hq:Q->Q'):AY v b P' Q':=by
 rw[Yv]at h⊢
 obtain⟨t,ht,h⟩:=h
 refine⟨t,ht,?_⟩
 split
 ·rename_i e;rw[if_pos e]at h;exact hp h
 ·rename_i e;rw[if_neg e]at h;exact hq h
section
variable{G:AX}{call callE:Ap}
section
variable{L:List V}{R:Je}{H:Heap}{n:Nat}{l:List uf}{k:KE}{p:P2}{x:X}{b:Bool}{c a:V}
theorem o0{K:K}(h:K R H n):Qi [] G callE (.mk L R) H n (kR K):=h
end
section
variable{L:List V}{R:Je}{H:Heap}{n:Nat}{l:List AI}{k:KE}{p:P2}{x:X}{b:Bool}{c a:V}
end
section
variable{R:Je}{H:Heap}{n:Nat}{k:K}{x:KX}{r:K}{a b:AC}
end
section
variable{res rs:List AR}{dg:Nat}{R:Je}{H:Heap}{n:Nat}{k:KV}{l:LV}{p:P2}{a:V}{vs:List AVr}
end
end
abbrev SF:=Ap->List V->Heap->Nat->KV->Prop
def ar0(s:Ap->Heap->Nat->KV->Prop):SF:=λcall l H n k=>List.rec (motive:=λ_=>Prop) (s call H n k) (λ_ _ _=>False) l
def Lu(s:Ap->V->Heap->Nat->KV->Prop):SF:=λcall l H n k=>List.rec (motive:=λ_=>Prop) False (λa l _=>ar0 (λcall=>s call a) call l H n k) l
def TY(s:Ap->V->V->Heap->Nat->KV->Prop):SF:=λcall l H n k=>List.rec (motive:=λ_=>Prop) False (λa l _=>Lu (λcall=>s call a) call l H n k) l
def ar3(s:Ap->V->V->V->Heap->Nat->KV->Prop):SF:=λcall l H n k=>List.rec (motive:=λ_=>Prop) False (λa l _=>TY (λcall=>s call a) call l H n k) l
def ar4(s:Ap->V->V->V->V->Heap->Nat->KV->Prop):SF:=λcall l H n k=>List.rec (motive:=λ_=>Prop) False (λa l _=>ar3 (λcall=>s call a) call l H n k) l
def ar5(s:Ap->V->V->V->V->V->Heap->Nat->KV->Prop):SF:=λcall l H n k=>List.rec (motive:=λ_=>Prop) False (λa l _=>ar4 (λcall=>s call a) call l H n k) l
def ar6(s:Ap->V->V->V->V->V->V->Heap->Nat->KV->Prop):SF:=λcall l H n k=>List.rec (motive:=λ_=>Prop) False (λa l _=>ar5 (λcall=>s call a) call l H n k) l
theorem AJq{s:Ap->Heap->Nat->KV->Prop}{call:Ap}{l:List V}{H:Heap}{n:Nat}{k:KV}(h:ar0 s call l H n k):l=[]/\s call H n k:=by
 cases l with
 |nil=>exact⟨rfl,h⟩
 |cons=>exact(show False from h).elim
theorem AJX{s:Ap->V->Heap->Nat->KV->Prop}{call:Ap}{l:List V}{H:Heap}{n:Nat}{k:KV}(h:Lu s call l H n k):∃a0,l=[a0]/\s call a0 H n k:=by
 cases l with
 |nil=>exact(show False from h).elim
 |cons a l=>
  obtain⟨rfl,h⟩:=AJq (show ar0 (λcall=>s call a) call l H n k from h)
  exact⟨a,rfl,h⟩
theorem AI5{s:Ap->V->V->Heap->Nat->KV->Prop}{call:Ap}{l:List V}{H:Heap}{n:Nat}{k:KV}(h:TY s call l H n k):∃a0 a1,l=[a0,a1]/\s call a0 a1 H n k:=by
 cases l with
 |nil=>exact(show False from h).elim
 |cons a l=>
  obtain⟨b0,rfl,h⟩:=AJX (show Lu (λcall=>s call a) call l H n k from h)
  exact⟨a,b0,rfl,h⟩
theorem AJo{s:Ap->V->V->V->Heap->Nat->KV->Prop}{call:Ap}{l:List V}{H:Heap}{n:Nat}{k:KV}(h:ar3 s call l H n k):∃a0 a1 a2,l=[a0,a1,a2]/\s call a0 a1 a2 H n k:=by
 cases l with
 |nil=>exact(show False from h).elim
 |cons a l=>
  obtain⟨b0,b1,rfl,h⟩:=AI5 (show TY (λcall=>s call a) call l H n k from h)
  exact⟨a,b0,b1,rfl,h⟩
theorem AJU{s:Ap->V->V->V->V->Heap->Nat->KV->Prop}{call:Ap}{l:List V}{H:Heap}{n:Nat}{k:KV}(h:ar4 s call l H n k):∃a0 a1 a2 a3,l=[a0,a1,a2,a3]/\s call a0 a1 a2 a3 H n k:=by
 cases l with
 |nil=>exact(show False from h).elim
 |cons a l=>
  obtain⟨b0,b1,b2,rfl,h⟩:=AJo (show ar3 (λcall=>s call a) call l H n k from h)
  exact⟨a,b0,b1,b2,rfl,h⟩
theorem AJi{s:Ap->V->V->V->V->V->Heap->Nat->KV->Prop}{call:Ap}{l:List V}{H:Heap}{n:Nat}{k:KV}(h:ar5 s call l H n k):∃a0 a1 a2 a3 a4,l=[a0,a1,a2,a3,a4]/\s call a0 a1 a2 a3 a4 H n k:=by
 cases l with
 |nil=>exact(show False from h).elim
 |cons a l=>
  obtain⟨b0,b1,b2,b3,rfl,h⟩:=AJU (show ar4 (λcall=>s call a) call l H n k from h)
  exact⟨a,b0,b1,b2,b3,rfl,h⟩
theorem AON{s:Ap->V->V->V->V->V->V->Heap->Nat->KV->Prop}{call:Ap}{l:List V}{H:Heap}{n:Nat}{k:KV}(h:ar6 s call l H n k):∃a0 a1 a2 a3 a4 a5,l=[a0,a1,a2,a3,a4,a5]/\s call a0 a1 a2 a3 a4 a5 H n k:=by
 cases l with
 |nil=>exact(show False from h).elim
 |cons a l=>
  obtain⟨b0,b1,b2,b3,b4,rfl,h⟩:=AJi (show ar5 (λcall=>s call a) call l H n k from h)
  exact⟨a,b0,b1,b2,b3,b4,rfl,h⟩
def ARt(FS:T SF)(fuel:Nat):Ap:=
 Nat.rec (motive:=λ_=>Ap) (λ_ _ _ _ _=>False) (λ_ call f args H n k=>G9 (T.get FS f) λs=>s call args H n k) fuel
def AC6(G:AX)(af:AF)(s:SF):Prop:=∀call callE,TQ call callE->Gp callE->∀args H n k,s call args H n k->AHr af G callE args H n k
def ATd(F:T AF)(G:AX)(FS:T SF):Prop:=∀f s,T.get FS f=some s->∃af,T.get F f=some af/\AC6 G af s
theorem AJT{F:T AF}{G:AX}{FS:T SF}(h:ATd F G FS):∀m,TQ (ARt FS m) (Runs F G)
 |0=>λ_ _ _ _ _ h=>(show False from h).elim
 |m+1=>λf a H n k hr=>by
  have hr':G9 (T.get FS f) λs=>s (ARt FS m) a H n k:=hr
  rw[JU]at hr'
  obtain⟨s,hs,hr'⟩:=hr'
  obtain⟨af,haf,hok⟩:=h f s hs
  exact ACi haf (hok _ _ (AJT h m) (mM F G) _ _ _ _ hr')
section
variable{E:RS}{G:AX}{H:Heap}{x:X}{a:Int}
end
@[congr] theorem ASk{o o':Option V}(f:V->Prop)(h:o=o'):AL o f=AL o' f:=by rw[h]
@[congr] theorem AS1{α:Type}{o o':Option α}(f:α->Prop)(h:o=o'):G9 o f=G9 o' f:=by rw[h]
@[congr] theorem ASt{b b':Bool}(p:Prop)(h:b=b'):NC b p=NC b' p:=by rw[h]
@[congr] theorem AQH{v v':V}(b:Bool)(p q:Prop)(h:v=v'):AY v b p q=AY v' b p q:=by rw[h]
@[congr] theorem AS0{c c':V}{b:Bool}{e:Option V}(f:V->Prop)(h:c=c'):Aj c b e f=Aj c' b e f:=by rw[h]
@[congr] theorem AQd{c c':V}{b:Bool}{t:KV->Prop}{H:Heap}{n:Nat}(f:KV)(h:c=c'):EM c b t H n f=EM c' b t H n f:=by rw[h]
@[congr] theorem ARq(F:T AF)(G:AX)(f:Nat){a a':List V}{H H':Heap}{n n':Nat}(k:KV)(h0:a=a')(h1:H=H')(h2:n=n'):Runs F G f a H n k=Runs F G f a' H' n' k:=by rw[h0,h1,h2]
theorem AB(v:V)(f:V->Prop):AL (some v) f=f v:=rfl
theorem Xm{α:Type}(v:α)(f:α->Prop):G9 (some v) f=f v:=rfl
theorem WE(p:Prop):NC true p=p:=rfl
theorem BG(p q:Prop):AY (.bool true) true p q=p:=rfl
theorem BD(p q:Prop):AY (.bool false) true p q=q:=rfl
theorem AQP(e:Option V)(f:V->Prop):Aj (.bool true) true e f=AL e f:=rfl
theorem APv(e:Option V)(f:V->Prop):Aj (.bool false) false e f=AL e f:=rfl
theorem qU(b:Bool):FD (.bool b)=some (.bool (!b)):=by cases b<;>rfl
theorem Ah(off id o:Nat):AQ off (.ptr id o)=some (.ptr id (o+off)):=by show GX (Nat.add o off) _=_;rw[EJ];rfl
theorem AE6(off id o:Nat):AQ off (.gptr id o)=some (.gptr id (o+off)):=by show GX (Nat.add o off) _=_;rw[EJ];rfl
theorem Dl(id o:Nat):Ag (.ptr id o)=some (.ptr id o):=rfl
theorem AIE(a:V)(l:List V):Bz (.Dz (a::l)) 0=some a:=rfl
theorem AHn(a b:V)(l:List V):Bz (.Dz (a::b::l)) 1=some b:=rfl
theorem AM5(a:V)(G:AX)(H:Heap):AV a G H=Vz (lC a G H 1) λL=>nth L 0:=rfl
theorem AQC(m:Nat)(a:V)(G:AX)(H:Heap):Ae m a G H=Vz (lC a G H m) λL=>some (.agg L):=rfl
theorem AJy(id off:Nat)(G:AX)(H:Heap)(n:Nat):lC (.ptr id off) G H n=dI H id off n:=rfl
theorem AEp(L:LV)(f:LV->Option V):Vz (some L) f=f L:=rfl
def one(L:LV):PZ:=.arr L.length 1 (T.set .e 0 L)
theorem APu{v:V}{H:Heap}{n:Nat}{P:KV}(h:Z7 v=true):Bg (EL v) H n P=P (.ptr n 0) (T.set H n (one (Au v))) (n+1):=by
 show NC (Z7 v) (DT (len (Au v)) λe=>DT n λn=>P (.ptr n 0) (T.set H n (.arr e 1 (T.set .e 0 (Au v)))) (Nat.succ n))=_
 rw[BO,BO,len_eq,h]
 rfl
theorem AJx{z:Nat}{L:LV}{H:Heap}{n:Nat}{P:KV}(h:L.length=z):Bg (Af z [L] E0) H n P=P (.ptr n 0) (T.set H n (one L)) (n+1):=by
 show DT (len [L]) (λm=>DT n λn=>P (.ptr n 0) (T.set H n (.arr z m (Fv [L] 0 .e))) (Nat.succ n))=_
 rw[BO,BO,len_eq]
 subst h
 rfl
theorem AIO{H:Heap}{id:Nat}{L:LV}(h:T.get H id=some (one L)){off m:Nat}(hm:0<m)(hl:off+m<=L.length):dI H id off m=some ((L.drop off).take m):=by
 unfold dI
 rw[h]
 show ldB L.length 1 (T.set .e 0 L) off m=_
 unfold ldB
 have hdiv:off/L.length=0:=Nat.div_eq_of_lt (by omega)
 have hmod:off%L.length=off:=Nat.mod_eq_of_lt (by omega)
 have hb:Nat.blt (Nat.div off L.length) 1=true:=by rw[Nat.blt_eq];show off/L.length<1;omega
 rw[hb]
 show BR (T.get (T.set T.e 0 L) (Nat.div off L.length)) (ldC L.length off m)=_
 have hg2:T.get (T.set T.e 0 L) (Nat.div off L.length)=some L:=by
  show T.get (T.set T.e 0 L) (off/L.length)=some L
  rw[hdiv];simp
 rw[hg2]
 show ldC L.length off m L=_
 unfold ldC
 cases hc:band (Nat.beq m L.length) (Nat.beq (Nat.mod off L.length) 0)with
 |true=>
  simp only[BP,Bool.and_eq_true,beq_iff]at hc
  obtain⟨h1,h2⟩:=hc
  have h2':off=0:=by have:off%L.length=0:=h2;omega
  subst h2'
  simp[h1]
 |false=>
  have hf:Nat.ble (Nat.add (Nat.mod off L.length) m) L.length=true:=by
   rw[Nat.ble_eq];show off%L.length+m<=L.length;omega
  rw[hf]
  show some (YI m (nC (Nat.mod off L.length) L))=_
  rw[Zu,lS]
  show some (List.take m (List.drop (off%L.length) L))=_
  rw[hmod]
theorem ARg{H:Heap}{id:Nat}{L:LV}(h:T.get H id=some (one L)){off m:Nat}{new:LV}(hm:0<m)(hn:new.length=m)(hl:off+m<=L.length):stH H id off m new=some (T.set H id (one (L.take off++(new++L.drop (off+m))))):=by
 unfold stH
 rw[h]
 show BR (stB L.length 1 (T.set .e 0 L) off m new) (λb=>some (T.set H id b))=_
 have hdiv:Nat.div off L.length=0:=Nat.div_eq_of_lt (by omega)
 have hmod:Nat.mod off L.length=off:=Nat.mod_eq_of_lt (by omega)
 have hs:stB L.length 1 (T.set .e 0 L) off m new=some (one (L.take off++(new++L.drop (off+m)))):=by
  unfold stB
  rw[hdiv]
  show BR (T.get (T.set T.e 0 L) 0) (stC new L.length 1 (T.set .e 0 L) off m)=_
  rw[T.Ai]
  show stC new L.length 1 (T.set .e 0 L) off m L=_
  unfold stC
  rw[hmod,hdiv]
  have hlen:(L.take off++(new++L.drop (off+m))).length=L.length:=by simp;omega
  cases hc:band (Nat.beq m L.length) (Nat.beq off 0)with
  |true=>
   simp only[BP,Bool.and_eq_true,beq_iff]at hc
   obtain⟨h1,h2⟩:=hc
   subst h2
   show some (PZ.arr L.length 1 (T.set (T.set T.e 0 L) 0 new))=_
   unfold one
   rw[hlen]
   have:List.take 0 L++(new++List.drop (0+m) L)=new:=by simp[h1]
   rw[this];rfl
  |false=>
   have hf:Nat.ble (Nat.add off m) L.length=true:=by rw[Nat.ble_eq];exact hl
   rw[hf]
   show some (PZ.arr L.length 1 (T.set (T.set T.e 0 L) 0 (AIm new off L)))=_
   unfold one
   rw[hlen,AER,hn];rfl
 rw[hs]
 rfl
theorem BL{F:T AF}{G:AX}{f:Nat}{af:AF}{s:SF}(hf:T.get F f=some af)(hs:AC6 G af s){args:List V}{H:Heap}{n:Nat}{k:KV}(h:s (Runs F G) args H n k):Runs F G f args H n k:=
 ACi hf (hs _ _ (λ_ _ _ _ _ h=>h) (mM F G) _ _ _ _ h)
def goN(x:X)(b:Bool)(d:oK)(o:AN):zK:=λG _ R H n k=>Aj (x.ev R) b (o.ev G R H) λv=>k (GU d v R) H n
def goA(x:X)(b:Bool)(d:oK)(o:AA):zK:=λ_ _ R H n k=>EM (x.ev R) b (Bg (o.al R) H n) H n λv H n=>k (GU d v R) H n
def goE(x:X)(b:Bool)(d:oK)(o:AE):zK:=λG call R H n k=>EM (x.ev R) b (o.ex G call R H n) H n λv H n=>k (GU d v R) H n
def AVc(x:X)(b:Bool)(d:oK)(o:AO):zK:=AO.rec (motive:=λ_=>zK) (goN x b d) (goA x b d) (goE x b d) o
def oAG(o:AA):XoT:=λ_ _ d R H n k=>Bg (o.al R) H n λv H n=>k (GU d v R) H n
def AO.exG(o:AO):XoT:=AO.rec (motive:=λ_=>XoT) oN oAG oE o
def AVy(d:oK)(o:AO):zK:=λG call R H n k=>o.exG G call d R H n k
def uf.exG(o:uf):zK:=uf.rec (motive:=λ_=>zK) (λd g o=>Gd.rec (motive:=λ_=>oK->AO->zK) AVy AVc g d o) o
theorem AJ1(o:uf):o.exG=o.ex:=by
 obtain⟨d,g,o⟩:=o
 cases g<;>cases o<;>rfl
def AHt(l:List uf):zK:=
 List.rec (motive:=λ_=>zK) (λ_ _ R H n k=>k R H n) (λo _ g G call R H n k=>o.exG G call R H n λR H n=>g G call R H n k) l
theorem AJ5:∀l:List uf,AHt l=Qi l
 |[]=>rfl
 |o::l=>by
  show(λG call R H n k=>o.exG G call R H n λR H n=>AHt l G call R H n k)=λG call R H n k=>o.ex G call R H n λR H n=>Qi l G call R H n k
  rw[AJ5 l,AJ1]
def AUF(x:X)(b:Bool):ReT:=λG R H d o k=>tN (x.ev R) b (o.ev G R H) (NT (T.D6 d R.rg)) k
def AUh(g:Gd):ReT:=Gd.rec (motive:=λ_=>ReT) AUC AUF g
def AI.exG(i:AI):zK:=AI.rec (motive:=λ_=>zK) (λo=>o.exG) (λd g o G _ R H n k=>AUh g G R H d o (k R H n)) i
theorem AQs(i:AI):i.exG=i.ex:=by
 cases i with
 |op o=>exact AJ1 o
 |re d g o=>cases g<;>rfl
def ABH(l:List AI):zK:=
 List.rec (motive:=λ_=>zK) (λ_ _ R H n k=>k R H n) (λi _ g G call R H n k=>i.exG G call R H n λR H n=>g G call R H n k) l
theorem ADg:∀l:List AI,ABH l=CG l
 |[]=>rfl
 |o::l=>by
  show(λG call R H n k=>o.exG G call R H n λR H n=>ABH l G call R H n k)=λG call R H n k=>o.ex G call R H n λR H n=>CG l G call R H n k
  rw[ADg l,AQs]
def ANo(l:List uf):M:=λG call _ R H n k _ _=>AHt l G call (.mk [] R) H n λE H n=>k E.rg H n
def AMz(l:List AI):M:=λG call _ R H n k _ _=>ABH l G call (.mk [] R) H n λE H n=>k E.rg H n
def AC.exG(c:AC):M:=AC.rec (motive:=λ_=>M) ANs ANo AMz ALU AGl ACZ AFd AMW ASW c
theorem uP:∀c:AC,c.exG=c.zT
 |.skip=>rfl
 |.ops l=>by show ANo l=APm l;unfold ANo APm;rw[AJ5]
 |.reg l=>by show AMz l=AN6 l;unfold AMz AN6;rw[ADg]
 |.seq a b=>by show ALU a b a.exG b.exG=ALU a b a.zT b.zT;rw[uP a,uP b]
 |.cond x a b=>by show AGl x a b a.exG b.exG=AGl x a b a.zT b.zT;rw[uP a,uP b]
 |.block i a=>by show ACZ i a a.exG=ACZ i a a.zT;rw[uP a]
 |.loop a=>by show AFd a a.exG=AFd a a.zT;rw[uP a]
 |.exit i=>rfl
 |.ret=>rfl
inductive An:Type 1 where
 |n
 |s (a b:An)
 |j (S:K) (a b:An)
 |c (a b:An)
 |b (a:An)
 |l (σ:Type) (bd:(σ->Prop)->σ->Prop) (st:Je->Heap->Nat->σ) (a:(σ->Prop)->An)
abbrev M2:=AC->AX->Ap->Je->Heap->Nat->K->KX->K->Prop
def AC.AGz(c:AC)(f:AC->AC->Prop):Prop:=AC.rec (motive:=λ_=>Prop) False (λ_=>False) (λ_=>False) (λa b _ _=>f a b) (λ_ _ _ _ _=>False) (λ_ _ _=>False) (λ_ _=>False) (λ_=>False) False c
def AC.AIh(c:AC)(f:X->AC->AC->Prop):Prop:=AC.rec (motive:=λ_=>Prop) False (λ_=>False) (λ_=>False) (λ_ _ _ _=>False) (λx a b _ _=>f x a b) (λ_ _ _=>False) (λ_ _=>False) (λ_=>False) False c
def AC.AEd(c:AC)(f:Nat->AC->Prop):Prop:=AC.rec (motive:=λ_=>Prop) False (λ_=>False) (λ_=>False) (λ_ _ _ _=>False) (λ_ _ _ _ _=>False) (λi a _=>f i a) (λ_ _=>False) (λ_=>False) False c
def AC.AHg(c:AC)(f:AC->Prop):Prop:=AC.rec (motive:=λ_=>Prop) False (λ_=>False) (λ_=>False) (λ_ _ _ _=>False) (λ_ _ _ _ _=>False) (λ_ _ _=>False) (λa _=>f a) (λ_=>False) False c
def An.ex(L:Eo)(an:An):M2:=
 An.rec (motive:=λ_=>M2)
  (λc G call R H n k x r=>c.exG G call 0 R H n k x r)
  (λ_ _ ga gb c G call R H n k x r=>c.AGz λa b=>ga a G call R H n (λR H n=>gb b G call R H n k x r) x r)
  (λS _ _ ga _ c G call R H n _ x r=>c.AGz λa _=>ga a G call R H n S x r)
  (λ_ _ ga gb c G call R H n k x r=>c.AIh λy a b=>AY (y.ev (.mk [] R)) true (ga a G call R H n k x r) (gb b G call R H n k x r))
  (λ_ ga c G call R H n k x r=>c.AEd λi a=>ga a G call R H n k (IG i k x) r)
  (fun σ bd st _ _ c _ _ R H n _ _ _=>c.AHg λ_=>L σ bd (st R H n)) an
abbrev M3:=AC->AX->Ap->K->KX->K->Prop
def An.ob(L:Eo)(an:An):M3:=
 An.rec (motive:=λ_=>M3)
  (λ_ _ _ _ _ _=>True)
  (λ_ b ga gb c G call k x r=>c.AGz λa d=>ga a G call (λR H n=>b.ex L d G call R H n k x r) x r/\gb d G call k x r)
  (λS _ b ga gb c G call k x r=>c.AGz λa d=>ga a G call S x r/\(∀R H n,S R H n=b.ex L d G call R H n k x r)/\gb d G call k x r)
  (λ_ _ ga gb c G call k x r=>c.AIh λ_ a b=>ga a G call k x r/\gb b G call k x r)
  (λ_ ga c G call k x r=>c.AEd λi a=>ga a G call k (IG i k x) r)
  (fun σ bd st a ga c G call _ x r=>c.AHg λd=>∀ih:σ->Prop,(∀R H n,bd ih (st R H n)=(a ih).ex L d G call R H n (λR H n=>ih (st R H n)) x r)/\ga ih d G call (λR H n=>ih (st R H n)) x r) an
def AC.AL5(c:AC)(f:AC->AC->Prop):Prop:=AC.rec (motive:=λ_=>Prop) True (λ_=>True) (λ_=>True) (λa b _ _=>f a b) (λ_ _ _ _ _=>True) (λ_ _ _=>True) (λ_ _=>True) (λ_=>True) True c
def AC.APT(c:AC)(f:X->AC->AC->Prop):Prop:=AC.rec (motive:=λ_=>Prop) True (λ_=>True) (λ_=>True) (λ_ _ _ _=>True) (λx a b _ _=>f x a b) (λ_ _ _=>True) (λ_ _=>True) (λ_=>True) True c
def AC.AMe(c:AC)(f:Nat->AC->Prop):Prop:=AC.rec (motive:=λ_=>Prop) True (λ_=>True) (λ_=>True) (λ_ _ _ _=>True) (λ_ _ _ _ _=>True) (λi a _=>f i a) (λ_ _=>True) (λ_=>True) True c
def AC.AOg(c:AC)(f:AC->Prop):Prop:=AC.rec (motive:=λ_=>Prop) True (λ_=>True) (λ_=>True) (λ_ _ _ _=>True) (λ_ _ _ _ _=>True) (λ_ _ _=>True) (λa _=>f a) (λ_=>True) True c
def An.obR(L:Eo)(an:An):M3:=
 An.rec (motive:=λ_=>M3)
  (λ_ _ _ _ _ _=>True)
  (λ_ b ga gb c G call k x r=>c.AL5 λa d=>ga a G call (λR H n=>b.ex L d G call R H n k x r) x r/\gb d G call k x r)
  (λS _ b ga gb c G call k x r=>c.AL5 λa d=>ga a G call S x r/\(∀R H n,S R H n=S R H n)/\gb d G call k x r)
  (λ_ _ ga gb c G call k x r=>c.APT λ_ a b=>ga a G call k x r/\gb b G call k x r)
  (λ_ ga c G call k x r=>c.AMe λi a=>ga a G call k (IG i k x) r)
  (fun σ bd st a ga c G call _ x r=>c.AOg λd=>∀ih:σ->Prop,(∀R H n,bd ih (st R H n)=bd ih (st R H n))/\ga ih d G call (λR H n=>ih (st R H n)) x r) an
theorem An.AQi(L:Eo)(an:An):∀c G call k x r,an.obR L c G call k x r:=by
 induction an with
 |n=>exact λ_ _ _ _ _ _=>trivial
 |s a b iha ihb=>intro c;cases c<;>first|exact λ_ _ _ _ _=>trivial|exact λG call k x r=>⟨iha _ _ _ _ _ _,ihb _ _ _ _ _ _⟩
 |j S a b iha ihb=>intro c;cases c<;>first|exact λ_ _ _ _ _=>trivial|exact λG call k x r=>⟨iha _ _ _ _ _ _,λ_ _ _=>rfl,ihb _ _ _ _ _ _⟩
 |c a b iha ihb=>intro c;cases c<;>first|exact λ_ _ _ _ _=>trivial|exact λG call k x r=>⟨iha _ _ _ _ _ _,ihb _ _ _ _ _ _⟩
 |b a iha=>intro c;cases c<;>first|exact λ_ _ _ _ _=>trivial|exact λG call k x r=>iha _ _ _ _ _ _
 |l σ bd st a iha=>intro c;cases c<;>first|exact λ_ _ _ _ _=>trivial|exact λG call k x r ih=>⟨λ_ _ _=>rfl,iha ih _ _ _ _ _ _⟩
theorem ADi{c:AC}{f:AC->AC->Prop}(h:c.AGz f):∃a b,c=.seq a b/\f a b:=by
 cases c<;>first|exact⟨_,_,rfl,h⟩|exact(show False from h).elim
theorem AHm{c:AC}{f:X->AC->AC->Prop}(h:c.AIh f):∃x a b,c=.cond x a b/\f x a b:=by
 cases c<;>first|exact⟨_,_,_,rfl,h⟩|exact(show False from h).elim
theorem AGI{c:AC}{f:Nat->AC->Prop}(h:c.AEd f):∃i a,c=.block i a/\f i a:=by
 cases c<;>first|exact⟨_,_,rfl,h⟩|exact(show False from h).elim
theorem AH8{c:AC}{f:AC->Prop}(h:c.AHg f):∃a,c=.loop a/\f a:=by
 cases c<;>first|exact⟨_,rfl,h⟩|exact(show False from h).elim
section
variable{G:AX}{call callE:Ap}
theorem AOw{c:AC}{R:Je}{H:Heap}{n:Nat}{k:K}{x:KX}{r:K}(h:c.exG G call 0 R H n k x r):c.zT G call 0 R H n k x r:=by rwa [uP]at h
theorem qy(hle:TQ call callE)(hd:Gp callE):∀(c:AC) (R:Je) (H:Heap) (n:Nat) (k k':K) (x x':KX) (r r':K),(∀R H n,k R H n->k' R H n)->(∀i R H n,x i R H n->x' i R H n)->(∀R H n,r R H n->r' R H n)->
 c.zT G call 0 R H n k x r->c.zT G callE 0 R H n k' x' r'
 |.skip,R,H,n,k,k',x,x',r,r',hk,hx,hr,h=>hk _ _ _ h
 |.ops l,R,H,n,k,k',x,x',r,r',hk,hx,hr,h=>AMi hd l _ H n (λE H n h=>hk _ _ _ h) (AI3 hd hle G l _ H n _ h)
 |.reg l,R,H,n,k,k',x,x',r,r',hk,hx,hr,h=>AIN hd l _ H n (λE H n h=>hk _ _ _ h) (ABZ hd hle G l _ H n _ h)
 |.seq a b,R,H,n,k,k',x,x',r,r',hk,hx,hr,h=>qy hle hd a R H n _ _ x x' r r' (λR H n h=>qy hle hd b R H n k k' x x' r r' hk hx hr h) hx hr h
 |.cond c a b,R,H,n,k,k',x,x',r,r',hk,hx,hr,h=>by
  have h':AY (c.ev (.mk [] R)) true (a.zT G call 0 R H n k x r) (b.zT G call 0 R H n k x r):=h
  show AY (c.ev (.mk [] R)) true (a.zT G callE 0 R H n k' x' r') (b.zT G callE 0 R H n k' x' r')
  exact ACg h' (qy hle hd a R H n k k' x x' r r' hk hx hr) (qy hle hd b R H n k k' x x' r r' hk hx hr)
 |.block id a,R,H,n,k,k',x,x',r,r',hk,hx,hr,h=>by
  refine qy hle hd a R H n k k' (IG id k x) (IG id k' x') r r' hk (λi R H n h=>?_) hr h
  unfold IG at h⊢
  cases hb:Nat.beq i id with
  |true=>rw[hb]at h;exact hk _ _ _ h
  |false=>rw[hb]at h;exact hx _ _ _ _ h
 |.loop a,R,H,n,k,k',x,x',r,r',hk,hx,hr,h=>by
  intro I hI
  exact h I λR H n hb=>hI R H n (qy hle hd a R H n I I x x' r r' (λ_ _ _ h=>h) hx hr hb)
 |.exit i,R,H,n,k,k',x,x',r,r',hk,hx,hr,h=>hx _ _ _ _ h
 |.ret,R,H,n,k,k',x,x',r,r',hk,hx,hr,h=>hr _ _ _ h
theorem An.ok{L:Eo}(hL:Df L)(hle:TQ call callE)(hd:Gp callE)(an:An):∀(c:AC) (k k':K) (x x':KX) (r r':K),(∀R H n,k R H n->k' R H n)->(∀i R H n,x i R H n->x' i R H n)->(∀R H n,r R H n->r' R H n)->
 an.ob L c G call k x r->∀R H n,an.ex L c G call R H n k x r->c.zT G callE 0 R H n k' x' r':=by
 induction an with
 |n=>exact λc k k' x x' r r' hk hx hr _ R H n h=>qy hle hd c R H n k k' x x' r r' hk hx hr (AOw h)
 |s a b iha ihb=>
  intro c k k' x x' r r' hk hx hr ho R H n h
  obtain⟨c1,c2,rfl,ho⟩:=ADi ho
  exact iha c1 _ _ x x' r r' (λR H n h=>ihb c2 k k' x x' r r' hk hx hr ho.2 R H n h) hx hr ho.1 R H n h
 |j S a b iha ihb=>
  intro c k k' x x' r r' hk hx hr ho R H n h
  obtain⟨c1,c2,rfl,ho⟩:=ADi ho
  exact iha c1 S (λR H n=>c2.zT G callE 0 R H n k' x' r') x x' r r' (λR H n h=>ihb c2 k k' x x' r r' hk hx hr ho.2.2 R H n (ho.2.1 R H n▸h)) hx hr ho.1 R H n h
 |c a b iha ihb=>
  intro c k k' x x' r r' hk hx hr ho R H n h
  obtain⟨y,c1,c2,rfl,ho⟩:=AHm ho
  exact ACg (P':=c1.zT G callE 0 R H n k' x' r') (Q':=c2.zT G callE 0 R H n k' x' r') h (λh=>iha c1 k k' x x' r r' hk hx hr ho.1 R H n h) (λh=>ihb c2 k k' x x' r r' hk hx hr ho.2 R H n h)
 |b a iha=>
  intro c k k' x x' r r' hk hx hr ho R H n h
  obtain⟨i,c1,rfl,ho⟩:=AGI ho
  refine iha c1 k k' (IG i k x) (IG i k' x') r r' hk (λj R H n h=>?_) hr ho R H n h
  unfold IG at h⊢
  cases hb:Nat.beq j i with
  |true=>rw[hb]at h;exact hk _ _ _ h
  |false=>rw[hb]at h;exact hx _ _ _ _ h
 |l σ bd st a iha=>
  intro c k k' x x' r r' hk hx hr ho R H n h
  obtain⟨c1,rfl,ho⟩:=AH8 ho
  intro I hI
  have h':L σ bd (st R H n):=h
  refine hL σ bd (λs=>∀R H n,st R H n=s->I R H n) (λih hih s hs R H n e=>?_) _ h' R H n rfl
  subst e
  rw[(ho ih).1]at hs
  exact hI R H n (iha ih c1 (λR H n=>ih (st R H n)) I x x' r r' (λR H n h=>hih _ h R H n rfl) hx hr (ho ih).2 R H n hs)
end
def fEx(L:Eo)(an:An)(af:AF)(G:AX)(call:Ap)(args:List V)(H:Heap)(n:Nat)(k:KV):Prop:=
 AF.rec (motive:=λ_=>Prop) (λnp code res d dg=>NC (Nat.beq (len args) np) (an.ex L code G call (fH args 0 .e) H n (Jr res dg d G call k) noX (Jr res dg d G call k))) af
def fOb(L:Eo)(an:An)(af:AF)(G:AX)(call:Ap)(k:KV):Prop:=
 AF.rec (motive:=λ_=>Prop) (λ_ code res d dg=>an.ob L code G call (Jr res dg d G call k) noX (Jr res dg d G call k)) af
def AVk(L:Eo)(an:An)(af:AF)(G:AX)(call:Ap)(k:KV):Prop:=
 AF.rec (motive:=λ_=>Prop) (λ_ code res d dg=>an.obR L code G call (Jr res dg d G call k) noX (Jr res dg d G call k)) af
theorem obs{L:Eo}{an:An}{af:AF}{G:AX}{call:Ap}{k:KV}(h:AVk L an af G call k=fOb L an af G call k):fOb L an af G call k:=by
 rw[<-h];cases af;exact An.AQi ..
theorem sN{L:Eo}(hL:Df L){G:AX}{call callE:Ap}(hle:TQ call callE)(hd:Gp callE){an:An}{af:AF}{args:List V}{H:Heap}{n:Nat}{k:KV}(ho:fOb L an af G call k)(h:fEx L an af G call args H n k):AHr af G callE args H n k:=by
 obtain⟨np,code,res,d,dg⟩:=af
 have h':NC (Nat.beq (len args) np) (an.ex L code G call (fH args 0 .e) H n (Jr res dg d G call k) noX (Jr res dg d G call k)):=h
 show NC (Nat.beq (len args) np) (code.zT G callE 0 (fH args 0 .e) H n (Jr res dg d G callE k) noX (Jr res dg d G callE k))
 rw[GN]at h'⊢
 exact⟨h'.1,An.ok hL hle hd an code _ _ _ _ _ _ (λR H n h=>gJ hd hle res dg d G k R H n h) (λ_ _ _ _ h=>h) (λR H n h=>gJ hd hle res dg d G k R H n h) ho _ _ _ h'.2⟩
section
variable{L:Eo}(hL:Df L){G:AX}{af:AF}{an:Ap->KV->An}(ho:∀call k,fOb L (an call k) af G call k)
include hL ho
theorem sf0{s:Ap->Heap->Nat->KV->Prop}(h:∀call H n k,s call H n k=fEx L (an call k) af G call [] H n k):AC6 G af (ar0 s):=λcall callE hle hd l H n k hs=>by
 obtain⟨rfl,hs⟩:=AJq hs;exact sN hL hle hd (ho call k) (h .. ▸hs)
theorem wR{s:Ap->V->Heap->Nat->KV->Prop}(h:∀call a0 H n k,s call a0 H n k=fEx L (an call k) af G call [a0] H n k):AC6 G af (Lu s):=λcall callE hle hd l H n k hs=>by
 obtain⟨a0,rfl,hs⟩:=AJX hs;exact sN hL hle hd (ho call k) (h .. ▸hs)
theorem sf2{s:Ap->V->V->Heap->Nat->KV->Prop}(h:∀call a0 a1 H n k,s call a0 a1 H n k=fEx L (an call k) af G call [a0,a1] H n k):AC6 G af (TY s):=λcall callE hle hd l H n k hs=>by
 obtain⟨a0,a1,rfl,hs⟩:=AI5 hs;exact sN hL hle hd (ho call k) (h .. ▸hs)
theorem sf3{s:Ap->V->V->V->Heap->Nat->KV->Prop}(h:∀call a0 a1 a2 H n k,s call a0 a1 a2 H n k=fEx L (an call k) af G call [a0,a1,a2] H n k):AC6 G af (ar3 s):=λcall callE hle hd l H n k hs=>by
 obtain⟨a0,a1,a2,rfl,hs⟩:=AJo hs;exact sN hL hle hd (ho call k) (h .. ▸hs)
theorem sf4{s:Ap->V->V->V->V->Heap->Nat->KV->Prop}(h:∀call a0 a1 a2 a3 H n k,s call a0 a1 a2 a3 H n k=fEx L (an call k) af G call [a0,a1,a2,a3] H n k):AC6 G af (ar4 s):=λcall callE hle hd l H n k hs=>by
 obtain⟨a0,a1,a2,a3,rfl,hs⟩:=AJU hs;exact sN hL hle hd (ho call k) (h .. ▸hs)
theorem sf5{s:Ap->V->V->V->V->V->Heap->Nat->KV->Prop}(h:∀call a0 a1 a2 a3 a4 H n k,s call a0 a1 a2 a3 a4 H n k=fEx L (an call k) af G call [a0,a1,a2,a3,a4] H n k):AC6 G af (ar5 s):=λcall callE hle hd l H n k hs=>by
 obtain⟨a0,a1,a2,a3,a4,rfl,hs⟩:=AJi hs;exact sN hL hle hd (ho call k) (h .. ▸hs)
theorem sf6{s:Ap->V->V->V->V->V->V->Heap->Nat->KV->Prop}(h:∀call a0 a1 a2 a3 a4 a5 H n k,s call a0 a1 a2 a3 a4 a5 H n k=fEx L (an call k) af G call [a0,a1,a2,a3,a4,a5] H n k):AC6 G af (ar6 s):=λcall callE hle hd l H n k hs=>by
 obtain⟨a0,a1,a2,a3,a4,a5,rfl,hs⟩:=AON hs;exact sN hL hle hd (ho call k) (h .. ▸hs)
end
def inR(l:List (Nat×Nat))(t:Nat):Bool:=l.any λp=>Nat.ble p.1 t&&Nat.ble t p.2
def opp(l:List Nat):List (Nat×Wk):=l.map λj=>(j,.plain)
def VH(n:Nat):List (Nat×Wk):=opp (List.range n)
def Bo(o:Option AF):AF:=o.getD (.mk 0 .skip [] .no 0)
theorem Ak{o:Option AF}(h:o.isSome=true):o=some (Bo o):=by
 cases o with
 |none=>cases h
 |some a=>rfl
theorem ACX.one{P:Program}{F:T AF}{f:Nat}{af:AF}{fn:Func}{loc:Nat->Bool}{df:Bool}{ords:AHj}{dg:Nat}(hf:P.funcs[f]? =some fn)(hn:(fn.name== "runtime.NumGoroutine")=false)
 (ht:trF P loc df ords dg fn=some af) (hd:af.dg=dg) (hi:AKT af.dp=true):ACX P F f af:=⟨⟨fn,loc,df,ords,hf,hn,hd▸ht⟩,.inl hi⟩
end Go.Bv
namespace Go.Bv
theorem ANL(x y:Int):B2.ev .lss (.int .i64 x 0) (.int .i64 y 0)=some (.bool (decide (x<y))):=by
 show mkB (ilt x y)=_
 rw[Sm,Wi]
theorem ADt(x y:Int):B2.ev .leq (.int .i64 x 0) (.int .i64 y 0)=some (.bool (decide (x<=y))):=by
 show mkB (ile x y)=_
 rw[Sm,tu]
theorem eq_i(x y:Int):Cc (.one .int) false (.int .i64 x 0) (.int .i64 y 0)=some (.bool (x==y)):=by
 show ofB (Qu (some (ieq x y)) λb=>some b)=_
 rw[VY];cases x==y<;>rfl
theorem ALt(x y:Int):Cc (.one .int) true (.int .i64 x 0) (.int .i64 y 0)=some (.bool (!(x==y))):=by
 show ofB (Qu (some (ieq x y)) λb=>some (Z8 b))=_
 rw[VY];cases x==y<;>rfl
theorem wrap64(a:Int):IntKind.wrap .i64 a=if 9223372036854775808<=a%18446744073709551616 then a%18446744073709551616-18446744073709551616 else a%18446744073709551616:=by
 show(if(true&&decide (a%18446744073709551616≥9223372036854775808))=true then a%18446744073709551616-18446744073709551616 else a%18446744073709551616)=_
 by_cases h:9223372036854775808<=a%18446744073709551616
 ·rw[if_pos h,if_pos (by simpa using h)]
 ·rw[if_neg h,if_neg (by simpa using h)]
theorem Yq{x:Int}(h1: -9223372036854775808<=x)(h2:x<9223372036854775808):IntKind.wrap .i64 x=x:=by
 rw[wrap64];split<;>omega
end Go.Bv
