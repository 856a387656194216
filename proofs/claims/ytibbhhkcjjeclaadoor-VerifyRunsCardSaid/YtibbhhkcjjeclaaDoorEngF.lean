/- Part of a proof; nothing is assumed. -/
import Derived.Test.YtibbhhkcjjeclaaDoorEngE
set_option linter.unusedVariables false
set_option linter.unusedSimpArgs false
noncomputable section
namespace Go.Bh
def P2.beq(p:P2):P2->Bool:=
 P2.rec (motive:=λ_=>P2->Bool) (λq=>P2.rec (motive:=λ_=>Bool) true (λ_ _=>false) (λ_ _=>false) q)
  (λ_ g q=>P2.rec (motive:=λ_=>Bool) false (λq _=>g q) (λ_ _=>false) q)
  (λ_ g q=>P2.rec (motive:=λ_=>Bool) false (λ_ _=>false) (λq _=>g q) q) p
theorem P2.AA5:∀p:P2,P2.beq p p=true
 |.h=>rfl
 |.z p=>P2.AA5 p
 |.o p=>P2.AA5 p
abbrev rg(R:JX)(p:P2):V:=MN (T.D5 p R)
theorem ne{R:JX}{p q:P2}{v a:V}(hb:P2.beq q p=false)(h:rg R p=a):rg (T.ZF v q R) p=a:=by
 show MN (T.D5 p (T.ZF v q R))=a
 rw[T.Ir _ _ _ _ (λe=>by subst e;rw[P2.AA5]at hb;cases hb)]
 exact h
abbrev FI:=(σ:Type)->((σ->Prop)->σ->Prop)->σ->Prop
def Dy(L:FI):Prop:=∀(σ:Type) (b:(σ->Prop)->σ->Prop) (P:σ->Prop),(∀ih,(∀s,ih s->P s)->∀s,b ih s->P s)->∀s,L σ b s->P s
def lfp:FI:=fun σ b s=>∀I:σ->Prop,(∀s,b I s->I s)->I s
theorem BO:Dy lfp:=λ_ _ P h _ hL=>hL P (h P λ_ h=>h)
def lpF(m:Nat):FI:=fun σ b s=>Nat.rec (motive:=λ_=>σ->Prop) (λ_=>False) (λ_ g=>b g) m s
theorem AQl(m:Nat):Dy (lpF m):=fun σ b P h=>by
 induction m with
 |zero=>exact λs hs=>(show False from hs).elim
 |succ m ih=>exact λs hs=>h _ ih s hs
def E0:RS:=.mk [] .e
def BF(c a b:V):Option V:=c.kG λt=>uh t (some a) (some b)
def AV(a:V)(G:AX)(H:Heap):Option V:=U7 (jA a G H 1) λL=>nth L 0
def Af(n:Nat)(a:V)(G:AX)(H:Heap):Option V:=U7 (jA a G H n) λL=>some (.agg L)
def F6(a:V):Option V:=a.kG λb=>mkB (Yk b)
def ATC(a:V):Option V:=a.Io λk n s=>mkI k (Int.neg n) s
def yL(off:Nat)(a:V):Option V:=a.sJ λl=>nth l off
def AH0(n esz:Nat)(a i:V):Option V:=WQ i λi=>BK (Nat.blt i n) (AQ (Nat.mul i esz) a)
def ALg(a i:V):Option V:=a.UM λln c=>WQ i λi=>BK (Nat.blt i ln) (GU (AKS c i) λb=>some (.int .u8 (.ofNat b) 0))
def Bl(a:V)(i:Nat):Option V:=a.AFv λl=>nth l i
def lC(a:V):Option V:=a.UM λn _=>some (.int .i64 (.ofNat n) 0)
def AAp(c:CK)(ok:Bool)(z m k:V)(H:Heap):Option V:=Q7 H m λes _=>BP (jJ c k es 0) (AHg ok z)
def Ap(z:LV)(ps:List (Nat×Nat×X)):Option V:=BK (eX ps E0) (some (.agg (yI ps E0 z)))
def ASv(x y:V):Option V:=x.Io λk a s=>y.Io λk' b t=>BK (band (keq k k') (Nat.beq (Nat.add s t) 0)) (some (.int k (Bool.rec a b (ilt a b)) 0))
def EW(v:V)(k:KA):Prop:=L9 (Wl v) (DX (len (Aq v)) λe=>k (.arr e 1 (T.set .e 0 (Aq v))) λid=>.ptr id 0)
def Ba(sz:Nat)(a b:V)(H:Heap)(n:Nat)(k:KV):Prop:=L9 (band (Wl b) (Nat.beq (len (Aq b)) sz)) (Hw (stP a H sz (Aq b)) λH=>k .undef H n)
def Va(esz bs:Nat)(a b:V)(G:AX)(H:Heap)(n:Nat)(k:KV):Prop:=Hw (elems b G H esz) λLS=>ADQ a G esz bs LS H n k
def copyV(esz:Nat)(a b:V)(G:AX)(H:Heap)(n:Nat)(k:KV):Prop:=Hw (elems b G H esz) λLS=>ACK a esz LS H n k
def ANa(c:CK)(m key v:V)(H:Heap)(n:Nat)(k:KV):Prop:=ABv m H (AGh c key v) λH=>k .undef H n
def BX(x:V)(args:List V)(call:Au)(H:Heap)(n:Nat)(k:KV):Prop:=V.V7 x λf a c=>call f (cat a (cat args c)) H n k
def Aj(c:V)(b:Bool)(e:Option V)(P:V->Prop):Prop:=iV c b (AP e P) (P (.Di []))
def Bf(al:KA->Prop)(H:Heap)(n:Nat)(P:KV):Prop:=al λb f=>DX n λn=>P (f n) (T.set H n b) (Nat.succ n)
def EN(c:V)(b:Bool)(t:KV->Prop)(H:Heap)(n:Nat)(P:KV):Prop:=iV c b (t P) (P (.Di []) H n)
inductive AVr where
 |t (v:V)|c1 (v:V)|cn (v:V) (n:Nat)
def AVr.get(r:AVr)(G:AX)(H:Heap):Option V:=AVr.rec (λv=>some v) (λv=>AV v G H) (λv n=>Af n v G H) r
def Du(l:List AVr)(G:AX)(H:Heap):Option LV:=
 List.rec (motive:=λ_=>Option LV) (some []) (λr _ g=>BP (r.get G H) λv=>BP g λvs=>some (v::vs)) l
section
variable{E:RS}{G:AX}{H:Heap}{n:Nat}{x y z w:X}{a b c d:V}
theorem xs0:aC [] E=[]:=rfl
variable{call:Au}
end
section
variable{L:List V}{R:JX}{G:AX}{call:Au}{H:Heap}{n:Nat}{a b:V}
end
def wB(c:V)(b:Bool)(e:Option V)(a:V)(P:Prop):Prop:=iV c b (AP e λv=>L9 (F8 v a) P) P
def kR(k:K):KE:=λE H n=>k E.rg H n
theorem zM{v:V}{b:Bool}{P Q P' Q':Prop}(h:AZ v b P Q)(hp:P->P')(hq:Q->Q'):AZ v b P' Q':=by
 rw[X4]at h⊢
 obtain⟨t,ht,h⟩:=h
 refine⟨t,ht,?_⟩
 split
 ·rename_i e;rw[if_pos e]at h;exact hp h
 ·rename_i e;rw[if_neg e]at h;exact hq h
section
variable{G:AX}{call callE:Au}
section
variable{L:List V}{R:JX}{H:Heap}{n:Nat}{l:List qx}{k:KE}{p:P2}{x:X}{b:Bool}{c a:V}
theorem o0{K:K}(h:K R H n):QC [] G callE (.mk L R) H n (kR K):=h
end
section
variable{L:List V}{R:JX}{H:Heap}{n:Nat}{l:List AI}{k:KE}{p:P2}{x:X}{b:Bool}{c a:V}
end
section
variable{R:JX}{H:Heap}{n:Nat}{k:K}{x:KX}{r:K}{a b:AC}
end
section
variable{res rs:List AR}{dg:Nat}{R:JX}{H:Heap}{n:Nat}{k:KV}{l:LV}{p:P2}{a:V}{vs:List AVr}
end
end
abbrev SF:=Au->List V->Heap->Nat->KV->Prop
def ar0(s:Au->Heap->Nat->KV->Prop):SF:=λcall l H n k=>List.rec (motive:=λ_=>Prop) (s call H n k) (λ_ _ _=>False) l
def N9(s:Au->V->Heap->Nat->KV->Prop):SF:=λcall l H n k=>List.rec (motive:=λ_=>Prop) False (λa l _=>ar0 (λcall=>s call a) call l H n k) l
def SC(s:Au->V->V->Heap->Nat->KV->Prop):SF:=λcall l H n k=>List.rec (motive:=λ_=>Prop) False (λa l _=>N9 (λcall=>s call a) call l H n k) l
def ar3(s:Au->V->V->V->Heap->Nat->KV->Prop):SF:=λcall l H n k=>List.rec (motive:=λ_=>Prop) False (λa l _=>SC (λcall=>s call a) call l H n k) l
def ar4(s:Au->V->V->V->V->Heap->Nat->KV->Prop):SF:=λcall l H n k=>List.rec (motive:=λ_=>Prop) False (λa l _=>ar3 (λcall=>s call a) call l H n k) l
def ar5(s:Au->V->V->V->V->V->Heap->Nat->KV->Prop):SF:=λcall l H n k=>List.rec (motive:=λ_=>Prop) False (λa l _=>ar4 (λcall=>s call a) call l H n k) l
theorem AH3{s:Au->Heap->Nat->KV->Prop}{call:Au}{l:List V}{H:Heap}{n:Nat}{k:KV}(h:ar0 s call l H n k):l=[]/\s call H n k:=by
 cases l with
 |nil=>exact⟨rfl,h⟩
 |cons=>exact(show False from h).elim
theorem AIR{s:Au->V->Heap->Nat->KV->Prop}{call:Au}{l:List V}{H:Heap}{n:Nat}{k:KV}(h:N9 s call l H n k):∃a0,l=[a0]/\s call a0 H n k:=by
 cases l with
 |nil=>exact(show False from h).elim
 |cons a l=>
  obtain⟨rfl,h⟩:=AH3 (show ar0 (λcall=>s call a) call l H n k from h)
  exact⟨a,rfl,h⟩
theorem AH6{s:Au->V->V->Heap->Nat->KV->Prop}{call:Au}{l:List V}{H:Heap}{n:Nat}{k:KV}(h:SC s call l H n k):∃a0 a1,l=[a0,a1]/\s call a0 a1 H n k:=by
 cases l with
 |nil=>exact(show False from h).elim
 |cons a l=>
  obtain⟨b0,rfl,h⟩:=AIR (show N9 (λcall=>s call a) call l H n k from h)
  exact⟨a,b0,rfl,h⟩
theorem AHl{s:Au->V->V->V->Heap->Nat->KV->Prop}{call:Au}{l:List V}{H:Heap}{n:Nat}{k:KV}(h:ar3 s call l H n k):∃a0 a1 a2,l=[a0,a1,a2]/\s call a0 a1 a2 H n k:=by
 cases l with
 |nil=>exact(show False from h).elim
 |cons a l=>
  obtain⟨b0,b1,rfl,h⟩:=AH6 (show SC (λcall=>s call a) call l H n k from h)
  exact⟨a,b0,b1,rfl,h⟩
theorem AHo{s:Au->V->V->V->V->Heap->Nat->KV->Prop}{call:Au}{l:List V}{H:Heap}{n:Nat}{k:KV}(h:ar4 s call l H n k):∃a0 a1 a2 a3,l=[a0,a1,a2,a3]/\s call a0 a1 a2 a3 H n k:=by
 cases l with
 |nil=>exact(show False from h).elim
 |cons a l=>
  obtain⟨b0,b1,b2,rfl,h⟩:=AHl (show ar3 (λcall=>s call a) call l H n k from h)
  exact⟨a,b0,b1,b2,rfl,h⟩
theorem ANO{s:Au->V->V->V->V->V->Heap->Nat->KV->Prop}{call:Au}{l:List V}{H:Heap}{n:Nat}{k:KV}(h:ar5 s call l H n k):∃a0 a1 a2 a3 a4,l=[a0,a1,a2,a3,a4]/\s call a0 a1 a2 a3 a4 H n k:=by
 cases l with
 |nil=>exact(show False from h).elim
 |cons a l=>
  obtain⟨b0,b1,b2,b3,rfl,h⟩:=AHo (show ar4 (λcall=>s call a) call l H n k from h)
  exact⟨a,b0,b1,b2,b3,rfl,h⟩
def AQx(FS:T SF)(fuel:Nat):Au:=
 Nat.rec (motive:=λ_=>Au) (λ_ _ _ _ _=>False) (λ_ call f args H n k=>Hw (T.get FS f) λs=>s call args H n k) fuel
def ADe(G:AX)(af:AF)(s:SF):Prop:=∀call callE,Rh call callE->Gh callE->∀args H n k,s call args H n k->AHF af G callE args H n k
def ARt(F:T AF)(G:AX)(FS:T SF):Prop:=∀f s,T.get FS f=some s->∃af,T.get F f=some af/\ADe G af s
theorem AIh{F:T AF}{G:AX}{FS:T SF}(h:ARt F G FS):∀m,Rh (AQx FS m) (Runs F G)
 |0=>λ_ _ _ _ _ h=>(show False from h).elim
 |m+1=>λf a H n k hr=>by
  have hr':Hw (T.get FS f) λs=>s (AQx FS m) a H n k:=hr
  rw[JK]at hr'
  obtain⟨s,hs,hr'⟩:=hr'
  obtain⟨af,haf,hok⟩:=h f s hs
  exact zN haf (hok _ _ (AIh h m) (jl F G) _ _ _ _ hr')
section
variable{E:RS}{G:AX}{H:Heap}{x:X}{a:Int}
end
@[congr] theorem ARN{o o':Option V}(f:V->Prop)(h:o=o'):AP o f=AP o' f:=by rw[h]
@[congr] theorem ARW{α:Type}{o o':Option α}(f:α->Prop)(h:o=o'):Hw o f=Hw o' f:=by rw[h]
@[congr] theorem ARS{b b':Bool}(p:Prop)(h:b=b'):L9 b p=L9 b' p:=by rw[h]
@[congr] theorem AO4{v v':V}(b:Bool)(p q:Prop)(h:v=v'):AZ v b p q=AZ v' b p q:=by rw[h]
@[congr] theorem ARD{c c':V}{b:Bool}{e:Option V}(f:V->Prop)(h:c=c'):Aj c b e f=Aj c' b e f:=by rw[h]
@[congr] theorem AP7{c c':V}{b:Bool}{t:KV->Prop}{H:Heap}{n:Nat}(f:KV)(h:c=c'):EN c b t H n f=EN c' b t H n f:=by rw[h]
@[congr] theorem AQC(F:T AF)(G:AX)(f:Nat){a a':List V}{H H':Heap}{n n':Nat}(k:KV)(h0:a=a')(h1:H=H')(h2:n=n'):Runs F G f a H n k=Runs F G f a' H' n' k:=by rw[h0,h1,h2]
theorem AB(v:V)(f:V->Prop):AP (some v) f=f v:=rfl
theorem WR{α:Type}(v:α)(f:α->Prop):Hw (some v) f=f v:=rfl
theorem VU(p:Prop):L9 true p=p:=rfl
theorem BD(p q:Prop):AZ (.bool true) true p q=p:=rfl
theorem BA(p q:Prop):AZ (.bool false) true p q=q:=rfl
theorem AOx(e:Option V)(f:V->Prop):Aj (.bool true) true e f=AP e f:=rfl
theorem AO5(e:Option V)(f:V->Prop):Aj (.bool false) false e f=AP e f:=rfl
theorem ASa(e:Option V)(f:V->Prop):Aj (.bool true) false e f=f (.Di []):=rfl
theorem ARq(e:Option V)(f:V->Prop):Aj (.bool false) true e f=f (.Di []):=rfl
theorem AUP(b:Bool)(e:Option V)(f:V->Prop):Aj (.Di []) b e f=f (.Di []):=rfl
theorem ASC(t:KV->Prop)(H:Heap)(n:Nat)(f:KV):EN (.bool true) true t H n f=t f:=rfl
theorem ASm(t:KV->Prop)(H:Heap)(n:Nat)(f:KV):EN (.bool false) false t H n f=t f:=rfl
theorem ASf(t:KV->Prop)(H:Heap)(n:Nat)(f:KV):EN (.bool true) false t H n f=f (.Di []) H n:=rfl
theorem ASI(t:KV->Prop)(H:Heap)(n:Nat)(f:KV):EN (.bool false) true t H n f=f (.Di []) H n:=rfl
theorem ATf(b:Bool)(t:KV->Prop)(H:Heap)(n:Nat)(f:KV):EN (.Di []) b t H n f=f (.Di []) H n:=rfl
theorem jW(b:Bool):F6 (.bool b)=some (.bool (!b)):=by cases b<;>rfl
theorem AMW(a b:V):BF (.bool true) a b=some a:=rfl
theorem ANx(a b:V):BF (.bool false) a b=some b:=rfl
theorem Ae(off id o:Nat):AQ off (.ptr id o)=some (.ptr id (o+off)):=by show GU (Nat.add o off) _=_;rw[EI];rfl
theorem AER(off id o:Nat):AQ off (.gptr id o)=some (.gptr id (o+off)):=by show GU (Nat.add o off) _=_;rw[EI];rfl
theorem Dq(id o:Nat):Ad (.ptr id o)=some (.ptr id o):=rfl
theorem AHc(a:V)(l:List V):Bl (.Di (a::l)) 0=some a:=rfl
theorem AGg(a b:V)(l:List V):Bl (.Di (a::b::l)) 1=some b:=rfl
theorem APj(a b c:V)(l:List V):Bl (.Di (a::b::c::l)) 2=some c:=rfl
theorem AJ5(a:V)(G:AX)(H:Heap):AV a G H=U7 (jA a G H 1) λL=>nth L 0:=rfl
theorem AOn(m:Nat)(a:V)(G:AX)(H:Heap):Af m a G H=U7 (jA a G H m) λL=>some (.agg L):=rfl
theorem AH1(id off:Nat)(G:AX)(H:Heap)(n:Nat):jA (.ptr id off) G H n=Z4 H id off n:=rfl
theorem ADt(L:LV)(f:LV->Option V):U7 (some L) f=f L:=rfl
def one(L:LV):O7:=.arr L.length 1 (T.set .e 0 L)
theorem AO7{v:V}{H:Heap}{n:Nat}{P:KV}(h:Wl v=true):Bf (EW v) H n P=P (.ptr n 0) (T.set H n (one (Aq v))) (n+1):=by
 show L9 (Wl v) (DX (len (Aq v)) λe=>DX n λn=>P (.ptr n 0) (T.set H n (.arr e 1 (T.set .e 0 (Aq v)))) (Nat.succ n))=_
 rw[BL,BL,len_eq,h]
 rfl
theorem AIc{z:Nat}{L:LV}{H:Heap}{n:Nat}{P:KV}(h:L.length=z):Bf (Ai z [L] E0) H n P=P (.ptr n 0) (T.set H n (one L)) (n+1):=by
 show DX (len [L]) (λm=>DX n λn=>P (.ptr n 0) (T.set H n (.arr z m (Fj [L] 0 .e))) (Nat.succ n))=_
 rw[BL,BL,len_eq]
 subst h
 rfl
theorem AG3{H:Heap}{id:Nat}{L:LV}(h:T.get H id=some (one L)){off m:Nat}(hm:0<m)(hl:off+m<=L.length):Z4 H id off m=some ((L.drop off).take m):=by
 unfold Z4
 rw[h]
 show ldB L.length 1 (T.set .e 0 L) off m=_
 unfold ldB
 have hdiv:off/L.length=0:=Nat.div_eq_of_lt (by omega)
 have hmod:off%L.length=off:=Nat.mod_eq_of_lt (by omega)
 have hb:Nat.blt (Nat.div off L.length) 1=true:=by rw[Nat.blt_eq];show off/L.length<1;omega
 rw[hb]
 show BP (T.get (T.set T.e 0 L) (Nat.div off L.length)) (ldC L.length off m)=_
 have hg2:T.get (T.set T.e 0 L) (Nat.div off L.length)=some L:=by
  show T.get (T.set T.e 0 L) (off/L.length)=some L
  rw[hdiv];simp
 rw[hg2]
 show ldC L.length off m L=_
 unfold ldC
 cases hc:band (Nat.beq m L.length) (Nat.beq (Nat.mod off L.length) 0)with
 |true=>
  simp only[BM,Bool.and_eq_true,beq_iff]at hc
  obtain⟨h1,h2⟩:=hc
  have h2':off=0:=by have:off%L.length=0:=h2;omega
  subst h2'
  simp[h1]
 |false=>
  have hf:Nat.ble (Nat.add (Nat.mod off L.length) m) L.length=true:=by
   rw[Nat.ble_eq];show off%L.length+m<=L.length;omega
  rw[hf]
  show some (Xb m (kL (Nat.mod off L.length) L))=_
  rw[Yo,jy]
  show some (List.take m (List.drop (off%L.length) L))=_
  rw[hmod]
theorem APT{H:Heap}{id:Nat}{L:LV}(h:T.get H id=some (one L)){off m:Nat}{new:LV}(hm:0<m)(hn:new.length=m)(hl:off+m<=L.length):stH H id off m new=some (T.set H id (one (L.take off++(new++L.drop (off+m))))):=by
 unfold stH
 rw[h]
 show BP (stB L.length 1 (T.set .e 0 L) off m new) (λb=>some (T.set H id b))=_
 have hdiv:Nat.div off L.length=0:=Nat.div_eq_of_lt (by omega)
 have hmod:Nat.mod off L.length=off:=Nat.mod_eq_of_lt (by omega)
 have hs:stB L.length 1 (T.set .e 0 L) off m new=some (one (L.take off++(new++L.drop (off+m)))):=by
  unfold stB
  rw[hdiv]
  show BP (T.get (T.set T.e 0 L) 0) (stC new L.length 1 (T.set .e 0 L) off m)=_
  rw[T.Ah]
  show stC new L.length 1 (T.set .e 0 L) off m L=_
  unfold stC
  rw[hmod,hdiv]
  have hlen:(L.take off++(new++L.drop (off+m))).length=L.length:=by simp;omega
  cases hc:band (Nat.beq m L.length) (Nat.beq off 0)with
  |true=>
   simp only[BM,Bool.and_eq_true,beq_iff]at hc
   obtain⟨h1,h2⟩:=hc
   subst h2
   show some (O7.arr L.length 1 (T.set (T.set T.e 0 L) 0 new))=_
   unfold one
   rw[hlen]
   have:List.take 0 L++(new++List.drop (0+m) L)=new:=by simp[h1]
   rw[this];rfl
  |false=>
   have hf:Nat.ble (Nat.add off m) L.length=true:=by rw[Nat.ble_eq];exact hl
   rw[hf]
   show some (O7.arr L.length 1 (T.set (T.set T.e 0 L) 0 (AGc new off L)))=_
   unfold one
   rw[hlen,AEA,hn];rfl
 rw[hs]
 rfl
theorem BN{F:T AF}{G:AX}{f:Nat}{af:AF}{s:SF}(hf:T.get F f=some af)(hs:ADe G af s){args:List V}{H:Heap}{n:Nat}{k:KV}(h:s (Runs F G) args H n k):Runs F G f args H n k:=
 zN hf (hs _ _ (λ_ _ _ _ _ h=>h) (jl F G) _ _ _ _ h)
def goN(x:X)(b:Bool)(d:kF)(o:AN):xR:=λG _ R H n k=>Aj (x.ev R) b (o.ev G R H) λv=>k (GL d v R) H n
def goA(x:X)(b:Bool)(d:kF)(o:AA):xR:=λ_ _ R H n k=>EN (x.ev R) b (Bf (o.al R) H n) H n λv H n=>k (GL d v R) H n
def goE(x:X)(b:Bool)(d:kF)(o:AE):xR:=λG call R H n k=>EN (x.ev R) b (o.ex G call R H n) H n λv H n=>k (GL d v R) H n
def AUS(x:X)(b:Bool)(d:kF)(o:AO):xR:=AO.rec (motive:=λ_=>xR) (goN x b d) (goA x b d) (goE x b d) o
def oAG(o:AA):XoT:=λ_ _ d R H n k=>Bf (o.al R) H n λv H n=>k (GL d v R) H n
def AO.exG(o:AO):XoT:=AO.rec (motive:=λ_=>XoT) oN oAG oE o
def AT5(d:kF)(o:AO):xR:=λG call R H n k=>o.exG G call d R H n k
def qx.exG(o:qx):xR:=qx.rec (motive:=λ_=>xR) (λd g o=>Gd.rec (motive:=λ_=>kF->AO->xR) AT5 AUS g d o) o
theorem AIF(o:qx):o.exG=o.ex:=by
 obtain⟨d,g,o⟩:=o
 cases g<;>cases o<;>rfl
def AGd(l:List qx):xR:=
 List.rec (motive:=λ_=>xR) (λ_ _ R H n k=>k R H n) (λo _ g G call R H n k=>o.exG G call R H n λR H n=>g G call R H n k) l
theorem AH5:∀l:List qx,AGd l=QC l
 |[]=>rfl
 |o::l=>by
  show(λG call R H n k=>o.exG G call R H n λR H n=>AGd l G call R H n k)=λG call R H n k=>o.ex G call R H n λR H n=>QC l G call R H n k
  rw[AH5 l,AIF]
def AR4(x:X)(b:Bool):ReT:=λG R H d o k=>wB (x.ev R) b (o.ev G R H) (MN (T.D5 d R.rg)) k
def AR8(g:Gd):ReT:=Gd.rec (motive:=λ_=>ReT) ARs AR4 g
def AI.exG(i:AI):xR:=AI.rec (motive:=λ_=>xR) (λo=>o.exG) (λd g o G _ R H n k=>AR8 g G R H d o (k R H n)) i
theorem AO9(i:AI):i.exG=i.ex:=by
 cases i with
 |op o=>exact AIF o
 |re d g o=>cases g<;>rfl
def zY(l:List AI):xR:=
 List.rec (motive:=λ_=>xR) (λ_ _ R H n k=>k R H n) (λi _ g G call R H n k=>i.exG G call R H n λR H n=>g G call R H n k) l
theorem AB9:∀l:List AI,zY l=Bv l
 |[]=>rfl
 |o::l=>by
  show(λG call R H n k=>o.exG G call R H n λR H n=>zY l G call R H n k)=λG call R H n k=>o.ex G call R H n λR H n=>Bv l G call R H n k
  rw[AB9 l,AO9]
def ALA(l:List qx):M:=λG call _ R H n k _ _=>AGd l G call (.mk [] R) H n λE H n=>k E.rg H n
def AKV(l:List AI):M:=λG call _ R H n k _ _=>zY l G call (.mk [] R) H n λE H n=>k E.rg H n
def AC.exG(c:AC):M:=AC.rec (motive:=λ_=>M) AKe ALA AKV AK1 AFi AAd ADa AL5 AQK c
theorem o7:∀c:AC,c.exG=c.xA
 |.skip=>rfl
 |.ops l=>by show ALA l=AMk l;unfold ALA AMk;rw[AH5]
 |.reg l=>by show AKV l=ANq l;unfold AKV ANq;rw[AB9]
 |.seq a b=>by show AK1 a b a.exG b.exG=AK1 a b a.xA b.xA;rw[o7 a,o7 b]
 |.cond x a b=>by show AFi x a b a.exG b.exG=AFi x a b a.xA b.xA;rw[o7 a,o7 b]
 |.block i a=>by show AAd i a a.exG=AAd i a a.xA;rw[o7 a]
 |.loop a=>by show ADa a a.exG=ADa a a.xA;rw[o7 a]
 |.exit i=>rfl
 |.ret=>rfl
inductive An:Type 1 where
 |n
 |s (a b:An)
 |j (S:K) (a b:An)
 |c (a b:An)
 |b (a:An)
 |l (σ:Type) (bd:(σ->Prop)->σ->Prop) (st:JX->Heap->Nat->σ) (a:(σ->Prop)->An)
abbrev M2:=AC->AX->Au->JX->Heap->Nat->K->KX->K->Prop
def AC.AEy(c:AC)(f:AC->AC->Prop):Prop:=AC.rec (motive:=λ_=>Prop) False (λ_=>False) (λ_=>False) (λa b _ _=>f a b) (λ_ _ _ _ _=>False) (λ_ _ _=>False) (λ_ _=>False) (λ_=>False) False c
def AC.AGs(c:AC)(f:X->AC->AC->Prop):Prop:=AC.rec (motive:=λ_=>Prop) False (λ_=>False) (λ_=>False) (λ_ _ _ _=>False) (λx a b _ _=>f x a b) (λ_ _ _=>False) (λ_ _=>False) (λ_=>False) False c
def AC.ADp(c:AC)(f:Nat->AC->Prop):Prop:=AC.rec (motive:=λ_=>Prop) False (λ_=>False) (λ_=>False) (λ_ _ _ _=>False) (λ_ _ _ _ _=>False) (λi a _=>f i a) (λ_ _=>False) (λ_=>False) False c
def AC.AGV(c:AC)(f:AC->Prop):Prop:=AC.rec (motive:=λ_=>Prop) False (λ_=>False) (λ_=>False) (λ_ _ _ _=>False) (λ_ _ _ _ _=>False) (λ_ _ _=>False) (λa _=>f a) (λ_=>False) False c
def An.ex(L:FI)(an:An):M2:=
 An.rec (motive:=λ_=>M2)
  (λc G call R H n k x r=>c.exG G call 0 R H n k x r)
  (λ_ _ ga gb c G call R H n k x r=>c.AEy λa b=>ga a G call R H n (λR H n=>gb b G call R H n k x r) x r)
  (λS _ _ ga _ c G call R H n _ x r=>c.AEy λa _=>ga a G call R H n S x r)
  (λ_ _ ga gb c G call R H n k x r=>c.AGs λy a b=>AZ (y.ev (.mk [] R)) true (ga a G call R H n k x r) (gb b G call R H n k x r))
  (λ_ ga c G call R H n k x r=>c.ADp λi a=>ga a G call R H n k (IG i k x) r)
  (fun σ bd st _ _ c _ _ R H n _ _ _=>c.AGV λ_=>L σ bd (st R H n)) an
abbrev M3:=AC->AX->Au->K->KX->K->Prop
def An.ob(L:FI)(an:An):M3:=
 An.rec (motive:=λ_=>M3)
  (λ_ _ _ _ _ _=>True)
  (λ_ b ga gb c G call k x r=>c.AEy λa d=>ga a G call (λR H n=>b.ex L d G call R H n k x r) x r/\gb d G call k x r)
  (λS _ b ga gb c G call k x r=>c.AEy λa d=>ga a G call S x r/\(∀R H n,S R H n=b.ex L d G call R H n k x r)/\gb d G call k x r)
  (λ_ _ ga gb c G call k x r=>c.AGs λ_ a b=>ga a G call k x r/\gb b G call k x r)
  (λ_ ga c G call k x r=>c.ADp λi a=>ga a G call k (IG i k x) r)
  (fun σ bd st a ga c G call _ x r=>c.AGV λd=>∀ih:σ->Prop,(∀R H n,bd ih (st R H n)=(a ih).ex L d G call R H n (λR H n=>ih (st R H n)) x r)/\ga ih d G call (λR H n=>ih (st R H n)) x r) an
def AC.ALv(c:AC)(f:AC->AC->Prop):Prop:=AC.rec (motive:=λ_=>Prop) True (λ_=>True) (λ_=>True) (λa b _ _=>f a b) (λ_ _ _ _ _=>True) (λ_ _ _=>True) (λ_ _=>True) (λ_=>True) True c
def AC.AOC(c:AC)(f:X->AC->AC->Prop):Prop:=AC.rec (motive:=λ_=>Prop) True (λ_=>True) (λ_=>True) (λ_ _ _ _=>True) (λx a b _ _=>f x a b) (λ_ _ _=>True) (λ_ _=>True) (λ_=>True) True c
def AC.ALR(c:AC)(f:Nat->AC->Prop):Prop:=AC.rec (motive:=λ_=>Prop) True (λ_=>True) (λ_=>True) (λ_ _ _ _=>True) (λ_ _ _ _ _=>True) (λi a _=>f i a) (λ_ _=>True) (λ_=>True) True c
def AC.ANQ(c:AC)(f:AC->Prop):Prop:=AC.rec (motive:=λ_=>Prop) True (λ_=>True) (λ_=>True) (λ_ _ _ _=>True) (λ_ _ _ _ _=>True) (λ_ _ _=>True) (λa _=>f a) (λ_=>True) True c
def An.obR(L:FI)(an:An):M3:=
 An.rec (motive:=λ_=>M3)
  (λ_ _ _ _ _ _=>True)
  (λ_ b ga gb c G call k x r=>c.ALv λa d=>ga a G call (λR H n=>b.ex L d G call R H n k x r) x r/\gb d G call k x r)
  (λS _ b ga gb c G call k x r=>c.ALv λa d=>ga a G call S x r/\(∀R H n,S R H n=S R H n)/\gb d G call k x r)
  (λ_ _ ga gb c G call k x r=>c.AOC λ_ a b=>ga a G call k x r/\gb b G call k x r)
  (λ_ ga c G call k x r=>c.ALR λi a=>ga a G call k (IG i k x) r)
  (fun σ bd st a ga c G call _ x r=>c.ANQ λd=>∀ih:σ->Prop,(∀R H n,bd ih (st R H n)=bd ih (st R H n))/\ga ih d G call (λR H n=>ih (st R H n)) x r) an
theorem An.AQr(L:FI)(an:An):∀c G call k x r,an.obR L c G call k x r:=by
 induction an with
 |n=>exact λ_ _ _ _ _ _=>trivial
 |s a b iha ihb=>intro c;cases c<;>first|exact λ_ _ _ _ _=>trivial|exact λG call k x r=>⟨iha _ _ _ _ _ _,ihb _ _ _ _ _ _⟩
 |j S a b iha ihb=>intro c;cases c<;>first|exact λ_ _ _ _ _=>trivial|exact λG call k x r=>⟨iha _ _ _ _ _ _,λ_ _ _=>rfl,ihb _ _ _ _ _ _⟩
 |c a b iha ihb=>intro c;cases c<;>first|exact λ_ _ _ _ _=>trivial|exact λG call k x r=>⟨iha _ _ _ _ _ _,ihb _ _ _ _ _ _⟩
 |b a iha=>intro c;cases c<;>first|exact λ_ _ _ _ _=>trivial|exact λG call k x r=>iha _ _ _ _ _ _
 |l σ bd st a iha=>intro c;cases c<;>first|exact λ_ _ _ _ _=>trivial|exact λG call k x r ih=>⟨λ_ _ _=>rfl,iha ih _ _ _ _ _ _⟩
theorem AB2{c:AC}{f:AC->AC->Prop}(h:c.AEy f):∃a b,c=.seq a b/\f a b:=by
 cases c<;>first|exact⟨_,_,rfl,h⟩|exact(show False from h).elim
theorem AHQ{c:AC}{f:X->AC->AC->Prop}(h:c.AGs f):∃x a b,c=.cond x a b/\f x a b:=by
 cases c<;>first|exact⟨_,_,_,rfl,h⟩|exact(show False from h).elim
theorem AEs{c:AC}{f:Nat->AC->Prop}(h:c.ADp f):∃i a,c=.block i a/\f i a:=by
 cases c<;>first|exact⟨_,_,rfl,h⟩|exact(show False from h).elim
theorem AGU{c:AC}{f:AC->Prop}(h:c.AGV f):∃a,c=.loop a/\f a:=by
 cases c<;>first|exact⟨_,rfl,h⟩|exact(show False from h).elim
section
variable{G:AX}{call callE:Au}
theorem ANC{c:AC}{R:JX}{H:Heap}{n:Nat}{k:K}{x:KX}{r:K}(h:c.exG G call 0 R H n k x r):c.xA G call 0 R H n k x r:=by rwa [o7]at h
theorem pW(hle:Rh call callE)(hd:Gh callE):∀(c:AC) (R:JX) (H:Heap) (n:Nat) (k k':K) (x x':KX) (r r':K),(∀R H n,k R H n->k' R H n)->(∀i R H n,x i R H n->x' i R H n)->(∀R H n,r R H n->r' R H n)->
 c.xA G call 0 R H n k x r->c.xA G callE 0 R H n k' x' r'
 |.skip,R,H,n,k,k',x,x',r,r',hk,hx,hr,h=>hk _ _ _ h
 |.ops l,R,H,n,k,k',x,x',r,r',hk,hx,hr,h=>AMJ hd l _ H n (λE H n h=>hk _ _ _ h) (AGR hd hle G l _ H n _ h)
 |.reg l,R,H,n,k,k',x,x',r,r',hk,hx,hr,h=>AHM hd l _ H n (λE H n h=>hk _ _ _ h) (AAs hd hle G l _ H n _ h)
 |.seq a b,R,H,n,k,k',x,x',r,r',hk,hx,hr,h=>pW hle hd a R H n _ _ x x' r r' (λR H n h=>pW hle hd b R H n k k' x x' r r' hk hx hr h) hx hr h
 |.cond c a b,R,H,n,k,k',x,x',r,r',hk,hx,hr,h=>by
  have h':AZ (c.ev (.mk [] R)) true (a.xA G call 0 R H n k x r) (b.xA G call 0 R H n k x r):=h
  show AZ (c.ev (.mk [] R)) true (a.xA G callE 0 R H n k' x' r') (b.xA G callE 0 R H n k' x' r')
  exact zM h' (pW hle hd a R H n k k' x x' r r' hk hx hr) (pW hle hd b R H n k k' x x' r r' hk hx hr)
 |.block id a,R,H,n,k,k',x,x',r,r',hk,hx,hr,h=>by
  refine pW hle hd a R H n k k' (IG id k x) (IG id k' x') r r' hk (λi R H n h=>?_) hr h
  unfold IG at h⊢
  cases hb:Nat.beq i id with
  |true=>rw[hb]at h;exact hk _ _ _ h
  |false=>rw[hb]at h;exact hx _ _ _ _ h
 |.loop a,R,H,n,k,k',x,x',r,r',hk,hx,hr,h=>by
  intro I hI
  exact h I λR H n hb=>hI R H n (pW hle hd a R H n I I x x' r r' (λ_ _ _ h=>h) hx hr hb)
 |.exit i,R,H,n,k,k',x,x',r,r',hk,hx,hr,h=>hx _ _ _ _ h
 |.ret,R,H,n,k,k',x,x',r,r',hk,hx,hr,h=>hr _ _ _ h
theorem An.ok{L:FI}(hL:Dy L)(hle:Rh call callE)(hd:Gh callE)(an:An):∀(c:AC) (k k':K) (x x':KX) (r r':K),(∀R H n,k R H n->k' R H n)->(∀i R H n,x i R H n->x' i R H n)->(∀R H n,r R H n->r' R H n)->
 an.ob L c G call k x r->∀R H n,an.ex L c G call R H n k x r->c.xA G callE 0 R H n k' x' r':=by
 induction an with
 |n=>exact λc k k' x x' r r' hk hx hr _ R H n h=>pW hle hd c R H n k k' x x' r r' hk hx hr (ANC h)
 |s a b iha ihb=>
  intro c k k' x x' r r' hk hx hr ho R H n h
  obtain⟨c1,c2,rfl,ho⟩:=AB2 ho
  exact iha c1 _ _ x x' r r' (λR H n h=>ihb c2 k k' x x' r r' hk hx hr ho.2 R H n h) hx hr ho.1 R H n h
 |j S a b iha ihb=>
  intro c k k' x x' r r' hk hx hr ho R H n h
  obtain⟨c1,c2,rfl,ho⟩:=AB2 ho
  exact iha c1 S (λR H n=>c2.xA G callE 0 R H n k' x' r') x x' r r' (λR H n h=>ihb c2 k k' x x' r r' hk hx hr ho.2.2 R H n (ho.2.1 R H n▸h)) hx hr ho.1 R H n h
 |c a b iha ihb=>
  intro c k k' x x' r r' hk hx hr ho R H n h
  obtain⟨y,c1,c2,rfl,ho⟩:=AHQ ho
  exact zM (P':=c1.xA G callE 0 R H n k' x' r') (Q':=c2.xA G callE 0 R H n k' x' r') h (λh=>iha c1 k k' x x' r r' hk hx hr ho.1 R H n h) (λh=>ihb c2 k k' x x' r r' hk hx hr ho.2 R H n h)
 |b a iha=>
  intro c k k' x x' r r' hk hx hr ho R H n h
  obtain⟨i,c1,rfl,ho⟩:=AEs ho
  refine iha c1 k k' (IG i k x) (IG i k' x') r r' hk (λj R H n h=>?_) hr ho R H n h
  unfold IG at h⊢
  cases hb:Nat.beq j i with
  |true=>rw[hb]at h;exact hk _ _ _ h
  |false=>rw[hb]at h;exact hx _ _ _ _ h
 |l σ bd st a iha=>
  intro c k k' x x' r r' hk hx hr ho R H n h
  obtain⟨c1,rfl,ho⟩:=AGU ho
  intro I hI
  have h':L σ bd (st R H n):=h
  refine hL σ bd (λs=>∀R H n,st R H n=s->I R H n) (λih hih s hs R H n e=>?_) _ h' R H n rfl
  subst e
  rw[(ho ih).1]at hs
  exact hI R H n (iha ih c1 (λR H n=>ih (st R H n)) I x x' r r' (λR H n h=>hih _ h R H n rfl) hx hr (ho ih).2 R H n hs)
end
def fEx(L:FI)(an:An)(af:AF)(G:AX)(call:Au)(args:List V)(H:Heap)(n:Nat)(k:KV):Prop:=
 AF.rec (motive:=λ_=>Prop) (λnp code res d dg=>L9 (Nat.beq (len args) np) (an.ex L code G call (dO args 0 .e) H n (Jj res dg d G call k) noX (Jj res dg d G call k))) af
def fOb(L:FI)(an:An)(af:AF)(G:AX)(call:Au)(k:KV):Prop:=
 AF.rec (motive:=λ_=>Prop) (λ_ code res d dg=>an.ob L code G call (Jj res dg d G call k) noX (Jj res dg d G call k)) af
def AUC(L:FI)(an:An)(af:AF)(G:AX)(call:Au)(k:KV):Prop:=
 AF.rec (motive:=λ_=>Prop) (λ_ code res d dg=>an.obR L code G call (Jj res dg d G call k) noX (Jj res dg d G call k)) af
theorem obs{L:FI}{an:An}{af:AF}{G:AX}{call:Au}{k:KV}(h:AUC L an af G call k=fOb L an af G call k):fOb L an af G call k:=by
 rw[<-h];cases af;exact An.AQr ..
theorem uq{L:FI}(hL:Dy L){G:AX}{call callE:Au}(hle:Rh call callE)(hd:Gh callE){an:An}{af:AF}{args:List V}{H:Heap}{n:Nat}{k:KV}(ho:fOb L an af G call k)(h:fEx L an af G call args H n k):AHF af G callE args H n k:=by
 obtain⟨np,code,res,d,dg⟩:=af
 have h':L9 (Nat.beq (len args) np) (an.ex L code G call (dO args 0 .e) H n (Jj res dg d G call k) noX (Jj res dg d G call k)):=h
 show L9 (Nat.beq (len args) np) (code.xA G callE 0 (dO args 0 .e) H n (Jj res dg d G callE k) noX (Jj res dg d G callE k))
 rw[GI]at h'⊢
 exact⟨h'.1,An.ok hL hle hd an code _ _ _ _ _ _ (λR H n h=>bV hd hle res dg d G k R H n h) (λ_ _ _ _ h=>h) (λR H n h=>bV hd hle res dg d G k R H n h) ho _ _ _ h'.2⟩
section
variable{L:FI}(hL:Dy L){G:AX}{af:AF}{an:Au->KV->An}(ho:∀call k,fOb L (an call k) af G call k)
include hL ho
theorem sf0{s:Au->Heap->Nat->KV->Prop}(h:∀call H n k,s call H n k=fEx L (an call k) af G call [] H n k):ADe G af (ar0 s):=λcall callE hle hd l H n k hs=>by
 obtain⟨rfl,hs⟩:=AH3 hs;exact uq hL hle hd (ho call k) (h .. ▸hs)
theorem xM{s:Au->V->Heap->Nat->KV->Prop}(h:∀call a0 H n k,s call a0 H n k=fEx L (an call k) af G call [a0] H n k):ADe G af (N9 s):=λcall callE hle hd l H n k hs=>by
 obtain⟨a0,rfl,hs⟩:=AIR hs;exact uq hL hle hd (ho call k) (h .. ▸hs)
theorem sf2{s:Au->V->V->Heap->Nat->KV->Prop}(h:∀call a0 a1 H n k,s call a0 a1 H n k=fEx L (an call k) af G call [a0,a1] H n k):ADe G af (SC s):=λcall callE hle hd l H n k hs=>by
 obtain⟨a0,a1,rfl,hs⟩:=AH6 hs;exact uq hL hle hd (ho call k) (h .. ▸hs)
theorem sf3{s:Au->V->V->V->Heap->Nat->KV->Prop}(h:∀call a0 a1 a2 H n k,s call a0 a1 a2 H n k=fEx L (an call k) af G call [a0,a1,a2] H n k):ADe G af (ar3 s):=λcall callE hle hd l H n k hs=>by
 obtain⟨a0,a1,a2,rfl,hs⟩:=AHl hs;exact uq hL hle hd (ho call k) (h .. ▸hs)
theorem sf4{s:Au->V->V->V->V->Heap->Nat->KV->Prop}(h:∀call a0 a1 a2 a3 H n k,s call a0 a1 a2 a3 H n k=fEx L (an call k) af G call [a0,a1,a2,a3] H n k):ADe G af (ar4 s):=λcall callE hle hd l H n k hs=>by
 obtain⟨a0,a1,a2,a3,rfl,hs⟩:=AHo hs;exact uq hL hle hd (ho call k) (h .. ▸hs)
theorem sf5{s:Au->V->V->V->V->V->Heap->Nat->KV->Prop}(h:∀call a0 a1 a2 a3 a4 H n k,s call a0 a1 a2 a3 a4 H n k=fEx L (an call k) af G call [a0,a1,a2,a3,a4] H n k):ADe G af (ar5 s):=λcall callE hle hd l H n k hs=>by
 obtain⟨a0,a1,a2,a3,a4,rfl,hs⟩:=ANO hs;exact uq hL hle hd (ho call k) (h .. ▸hs)
end
def inR(l:List (Nat×Nat))(t:Nat):Bool:=l.any λp=>Nat.ble p.1 t&&Nat.ble t p.2
def opp(l:List Nat):List (Nat×Wk):=l.map λj=>(j,.plain)
def Ud(n:Nat):List (Nat×Wk):=opp (List.range n)
def Bj(o:Option AF):AF:=o.getD (.mk 0 .skip [] .no 0)
theorem Ak{o:Option AF}(h:o.isSome=true):o=some (Bj o):=by
 cases o with
 |none=>cases h
 |some a=>rfl
theorem ABA.one{P:Program}{F:T AF}{f:Nat}{af:AF}{fn:Func}{loc:Nat->Bool}{df:Bool}{ords:AHL}{dg:Nat}(hf:P.funcs[f]? =some fn)(hn:(fn.name== "runtime.NumGoroutine")=false)
 (ht:trF P loc df ords dg fn=some af) (hd:af.dg=dg) (hi:AJA af.dp=true):ABA P F f af:=⟨⟨fn,loc,df,ords,hf,hn,hd▸ht⟩,.inl hi⟩
end Go.Bh
namespace Go.Bh
theorem ALV(x y:Int):B2.ev .lss (.int .i64 x 0) (.int .i64 y 0)=some (.bool (decide (x<y))):=by
 show mkB (ilt x y)=_
 rw[Rw,Vp]
theorem AEl(x y:Int):B2.ev .leq (.int .i64 x 0) (.int .i64 y 0)=some (.bool (decide (x<=y))):=by
 show mkB (ile x y)=_
 rw[Rw,pJ]
theorem eq_i(x y:Int):CX (.one .int) false (.int .i64 x 0) (.int .i64 y 0)=some (.bool (x==y)):=by
 show ofB (QW (some (ieq x y)) λb=>some b)=_
 rw[Tt];cases x==y<;>rfl
theorem ALH(x y:Int):CX (.one .int) true (.int .i64 x 0) (.int .i64 y 0)=some (.bool (!(x==y))):=by
 show ofB (QW (some (ieq x y)) λb=>some (Yk b))=_
 rw[Tt];cases x==y<;>rfl
theorem wrap64(a:Int):IntKind.wrap .i64 a=if 9223372036854775808<=a%18446744073709551616 then a%18446744073709551616-18446744073709551616 else a%18446744073709551616:=by
 show(if(true&&decide (a%18446744073709551616≥9223372036854775808))=true then a%18446744073709551616-18446744073709551616 else a%18446744073709551616)=_
 by_cases h:9223372036854775808<=a%18446744073709551616
 ·rw[if_pos h,if_pos (by simpa using h)]
 ·rw[if_neg h,if_neg (by simpa using h)]
theorem Vr{x:Int}(h1: -9223372036854775808<=x)(h2:x<9223372036854775808):IntKind.wrap .i64 x=x:=by
 rw[wrap64];split<;>omega
end Go.Bh
