/- Part of a proof: texts En45 En46 En47 En48 En49 En50 En51 En52 En53 of the engine and what is proved with it; nothing is assumed. -/
import Derived.Test.YtibbhhkcjjeclaaDoorEngE
set_option linter.unusedVariables false
set_option linter.unusedSimpArgs false
noncomputable section
namespace Go.CS
def P2.beq(p:P2):P2->Bool:=
 P2.rec (motive:=λ_=>P2->Bool) (λq=>P2.rec (motive:=λ_=>Bool) true (λ_ _=>false) (λ_ _=>false) q)
  (λ_ g q=>P2.rec (motive:=λ_=>Bool) false (λq _=>g q) (λ_ _=>false) q)
  (λ_ g q=>P2.rec (motive:=λ_=>Bool) false (λ_ _=>false) (λq _=>g q) q) p
theorem P2.ABJ:∀p:P2,P2.beq p p=true
 |.h=>rfl
 |.z p=>P2.ABJ p
 |.o p=>P2.ABJ p
abbrev rg(R:I8)(p:P2):V:=L9 (T.Dz p R)
theorem ne{R:I8}{p q:P2}{v a:V}(hb:P2.beq q p=false)(h:rg R p=a):rg (T.Yo v q R) p=a:=by
 show L9 (T.Dz p (T.Yo v q R))=a
 rw[T.IU _ _ _ _ (λe=>by subst e;rw[P2.ABJ]at hb;cases hb)]
 exact h
abbrev Au:=(σ:Type)->((σ->Prop)->σ->Prop)->σ->Prop
def D7(L:Au):Prop:=∀(σ:Type) (b:(σ->Prop)->σ->Prop) (P:σ->Prop),(∀ih,(∀s,ih s->P s)->∀s,b ih s->P s)->∀s,L σ b s->P s
def lfp:Au:=fun σ b s=>∀I:σ->Prop,(∀s,b I s->I s)->I s
theorem BO:D7 lfp:=λ_ _ P h _ hL=>hL P (h P λ_ h=>h)
def lpF(m:Nat):Au:=fun σ b s=>Nat.rec (motive:=λ_=>σ->Prop) (λ_=>False) (λ_ g=>b g) m s
theorem APW(m:Nat):D7 (lpF m):=fun σ b P h=>by
 induction m with
 |zero=>exact λs hs=>(show False from hs).elim
 |succ m ih=>exact λs hs=>h _ ih s hs
def E0:RS:=.mk [] .e
def Aw(c a b:V):Option V:=c.iZ λt=>uz t (some a) (some b)
def AY(a:V)(G:AQ)(H:Heap):Option V:=TW (lX a G H 1) λL=>nth L 0
def Af(n:Nat)(a:V)(G:AQ)(H:Heap):Option V:=TW (lX a G H n) λL=>some (.agg L)
def Et(a:V):Option V:=a.iZ λb=>mkB (Zr b)
def AIA(n esz:Nat)(a i:V):Option V:=WS i λi=>BM (Nat.blt i n) (AP (Nat.mul i esz) a)
def AKV(a i:V):Option V:=a.TU λln c=>WS i λi=>BM (Nat.blt i ln) (FW (AKD c i) λb=>some (.int .u8 (.ofNat b) 0))
def D6(a:V)(i:Nat):Option V:=a.AEf λl=>nth l i
def P7(a:V):Option V:=a.TU λn _=>some (.int .i64 (.ofNat n) 0)
def AAc(c:CK)(ok:Bool)(z m k:V)(H:Heap):Option V:=Qp H m λes _=>BH (jZ c k es 0) (AIB ok z)
def BX(z:LV)(ps:List (Nat×Nat×X)):Option V:=BM (eX ps E0) (some (.agg (xO ps E0 z)))
def Di(v:V)(k:KA):Prop:=Lc (YH v) (DU (len (Az v)) λe=>k (.arr e 1 (T.set .e 0 (Az v))) λid=>.ptr id 0)
def Bg(sz:Nat)(a b:V)(H:Heap)(n:Nat)(k:KV):Prop:=Lc (band (YH b) (Nat.beq (len (Az b)) sz)) (II (stP a H sz (Az b)) λH=>k .undef H n)
def Va(esz bs:Nat)(a b:V)(G:AQ)(H:Heap)(n:Nat)(k:KV):Prop:=II (elems b G H esz) λLS=>ACq a G esz bs LS H n k
def copyV(esz:Nat)(a b:V)(G:AQ)(H:Heap)(n:Nat)(k:KV):Prop:=II (elems b G H esz) λLS=>AB5 a esz LS H n k
def AOC(c:CK)(m key v:V)(H:Heap)(n:Nat)(k:KV):Prop:=ABb m H (AG4 c key v) λH=>k .undef H n
def BQ(x:V)(args:List V)(call:AX)(H:Heap)(n:Nat)(k:KV):Prop:=V.V5 x λf a c=>call f (cat a (cat args c)) H n k
def Ak(c:V)(b:Bool)(e:Option V)(P:V->Prop):Prop:=iF c b (AL e P) (P (.Fh []))
def Bo(al:KA->Prop)(H:Heap)(n:Nat)(P:KV):Prop:=al λb f=>DU n λn=>P (f n) (T.set H n b) (Nat.succ n)
def Dx(c:V)(b:Bool)(t:KV->Prop)(H:Heap)(n:Nat)(P:KV):Prop:=iF c b (t P) (P (.Fh []) H n)
inductive AVr where
 |t (v:V)|c1 (v:V)|cn (v:V) (n:Nat)
def AVr.get(r:AVr)(G:AQ)(H:Heap):Option V:=AVr.rec (λv=>some v) (λv=>AY v G H) (λv n=>Af n v G H) r
def CB(l:List AVr)(G:AQ)(H:Heap):Option LV:=
 List.rec (motive:=λ_=>Option LV) (some []) (λr _ g=>BH (r.get G H) λv=>BH g λvs=>some (v::vs)) l
section
variable{E:RS}{G:AQ}{H:Heap}{n:Nat}{x y z w:X}{a b c d:V}
variable{call:AX}
end
section
variable{L:List V}{R:I8}{G:AQ}{call:AX}{H:Heap}{n:Nat}{a b:V}
end
def mX(c:V)(b:Bool)(e:Option V)(a:V)(P:Prop):Prop:=iF c b (AL e λv=>Lc (Fe v a) P) P
def kR(k:K):KE:=λE H n=>k E.rg H n
theorem zH{v:V}{b:Bool}{P Q P' Q':Prop}(h:AZ v b P Q)(hp:P->P')(hq:Q->Q'):AZ v b P' Q':=by
 rw[Xn]at h⊢
 obtain⟨t,ht,h⟩:=h
 refine⟨t,ht,?_⟩
 split
 ·rename_i e;rw[if_pos e]at h;exact hp h
 ·rename_i e;rw[if_neg e]at h;exact hq h
section
variable{G:AQ}{call callE:AX}
section
variable{L:List V}{R:I8}{H:Heap}{n:Nat}{l:List qo}{k:KE}{p:P2}{x:X}{b:Bool}{c a:V}
theorem o0{K:K}(h:K R H n):P8 [] G callE (.mk L R) H n (kR K):=h
end
section
variable{L:List V}{R:I8}{H:Heap}{n:Nat}{l:List AI}{k:KE}{p:P2}{x:X}{b:Bool}{c a:V}
end
section
variable{R:I8}{H:Heap}{n:Nat}{k:K}{x:KX}{r:K}{a b:AC}
end
section
variable{res rs:List AR}{dg:Nat}{R:I8}{H:Heap}{n:Nat}{k:KV}{l:LV}{p:P2}{a:V}{vs:List AVr}
end
end
abbrev SF:=AX->List V->Heap->Nat->KV->Prop
def ar0(s:AX->Heap->Nat->KV->Prop):SF:=λcall l H n k=>List.rec (motive:=λ_=>Prop) (s call H n k) (λ_ _ _=>False) l
def KL(s:AX->V->Heap->Nat->KV->Prop):SF:=λcall l H n k=>List.rec (motive:=λ_=>Prop) False (λa l _=>ar0 (λcall=>s call a) call l H n k) l
def RP(s:AX->V->V->Heap->Nat->KV->Prop):SF:=λcall l H n k=>List.rec (motive:=λ_=>Prop) False (λa l _=>KL (λcall=>s call a) call l H n k) l
def ar3(s:AX->V->V->V->Heap->Nat->KV->Prop):SF:=λcall l H n k=>List.rec (motive:=λ_=>Prop) False (λa l _=>RP (λcall=>s call a) call l H n k) l
def ar4(s:AX->V->V->V->V->Heap->Nat->KV->Prop):SF:=λcall l H n k=>List.rec (motive:=λ_=>Prop) False (λa l _=>ar3 (λcall=>s call a) call l H n k) l
theorem AHv{s:AX->Heap->Nat->KV->Prop}{call:AX}{l:List V}{H:Heap}{n:Nat}{k:KV}(h:ar0 s call l H n k):l=[]/\s call H n k:=by
 cases l with
 |nil=>exact⟨rfl,h⟩
 |cons=>exact(show False from h).elim
theorem AHT{s:AX->V->Heap->Nat->KV->Prop}{call:AX}{l:List V}{H:Heap}{n:Nat}{k:KV}(h:KL s call l H n k):∃a0,l=[a0]/\s call a0 H n k:=by
 cases l with
 |nil=>exact(show False from h).elim
 |cons a l=>
  obtain⟨rfl,h⟩:=AHv (show ar0 (λcall=>s call a) call l H n k from h)
  exact⟨a,rfl,h⟩
theorem AH5{s:AX->V->V->Heap->Nat->KV->Prop}{call:AX}{l:List V}{H:Heap}{n:Nat}{k:KV}(h:RP s call l H n k):∃a0 a1,l=[a0,a1]/\s call a0 a1 H n k:=by
 cases l with
 |nil=>exact(show False from h).elim
 |cons a l=>
  obtain⟨b0,rfl,h⟩:=AHT (show KL (λcall=>s call a) call l H n k from h)
  exact⟨a,b0,rfl,h⟩
theorem AH7{s:AX->V->V->V->Heap->Nat->KV->Prop}{call:AX}{l:List V}{H:Heap}{n:Nat}{k:KV}(h:ar3 s call l H n k):∃a0 a1 a2,l=[a0,a1,a2]/\s call a0 a1 a2 H n k:=by
 cases l with
 |nil=>exact(show False from h).elim
 |cons a l=>
  obtain⟨b0,b1,rfl,h⟩:=AH5 (show RP (λcall=>s call a) call l H n k from h)
  exact⟨a,b0,b1,rfl,h⟩
theorem AMX{s:AX->V->V->V->V->Heap->Nat->KV->Prop}{call:AX}{l:List V}{H:Heap}{n:Nat}{k:KV}(h:ar4 s call l H n k):∃a0 a1 a2 a3,l=[a0,a1,a2,a3]/\s call a0 a1 a2 a3 H n k:=by
 cases l with
 |nil=>exact(show False from h).elim
 |cons a l=>
  obtain⟨b0,b1,b2,rfl,h⟩:=AH7 (show ar3 (λcall=>s call a) call l H n k from h)
  exact⟨a,b0,b1,b2,rfl,h⟩
def AQI(FS:T SF)(fuel:Nat):AX:=
 Nat.rec (motive:=λ_=>AX) (λ_ _ _ _ _=>False) (λ_ call f args H n k=>II (T.get FS f) λs=>s call args H n k) fuel
def AC1(G:AQ)(af:AF)(s:SF):Prop:=∀call callE,RD call callE->F7 callE->∀args H n k,s call args H n k->AF8 af G callE args H n k
def AKJ(F:T AF)(G:AQ)(FS:T SF):Prop:=∀f s,T.get FS f=some s->∃af,T.get F f=some af/\AC1 G af s
theorem AHb{F:T AF}{G:AQ}{FS:T SF}(h:AKJ F G FS):∀m,RD (AQI FS m) (Runs F G)
 |0=>λ_ _ _ _ _ h=>(show False from h).elim
 |m+1=>λf a H n k hr=>by
  have hr':II (T.get FS f) λs=>s (AQI FS m) a H n k:=hr
  rw[Iw]at hr'
  obtain⟨s,hs,hr'⟩:=hr'
  obtain⟨af,haf,hok⟩:=h f s hs
  exact zG haf (hok _ _ (AHb h m) (jw F G) _ _ _ _ hr')
section
variable{E:RS}{G:AQ}{H:Heap}{x:X}{a:Int}
end
@[congr] theorem ARP{o o':Option V}(f:V->Prop)(h:o=o'):AL o f=AL o' f:=by rw[h]
@[congr] theorem ARO{α:Type}{o o':Option α}(f:α->Prop)(h:o=o'):II o f=II o' f:=by rw[h]
@[congr] theorem ARN{b b':Bool}(p:Prop)(h:b=b'):Lc b p=Lc b' p:=by rw[h]
@[congr] theorem AOc{v v':V}(b:Bool)(p q:Prop)(h:v=v'):AZ v b p q=AZ v' b p q:=by rw[h]
@[congr] theorem ARA{c c':V}{b:Bool}{e:Option V}(f:V->Prop)(h:c=c'):Ak c b e f=Ak c' b e f:=by rw[h]
@[congr] theorem AQu{c c':V}{b:Bool}{t:KV->Prop}{H:Heap}{n:Nat}(f:KV)(h:c=c'):Dx c b t H n f=Dx c' b t H n f:=by rw[h]
@[congr] theorem APD(F:T AF)(G:AQ)(f:Nat){a a':List V}{H H':Heap}{n n':Nat}(k:KV)(h0:a=a')(h1:H=H')(h2:n=n'):Runs F G f a H n k=Runs F G f a' H' n' k:=by rw[h0,h1,h2]
theorem AV(v:V)(f:V->Prop):AL (some v) f=f v:=rfl
theorem WU{α:Type}(v:α)(f:α->Prop):II (some v) f=f v:=rfl
theorem Qa(p:Prop):Lc true p=p:=rfl
theorem Bz(p q:Prop):AZ (.bool true) true p q=p:=rfl
theorem BZ(p q:Prop):AZ (.bool false) true p q=q:=rfl
theorem ASu(e:Option V)(f:V->Prop):Ak (.bool true) true e f=AL e f:=rfl
theorem ARr(e:Option V)(f:V->Prop):Ak (.bool false) false e f=AL e f:=rfl
theorem ASy(e:Option V)(f:V->Prop):Ak (.bool true) false e f=f (.Fh []):=rfl
theorem ARt(e:Option V)(f:V->Prop):Ak (.bool false) true e f=f (.Fh []):=rfl
theorem AUT(b:Bool)(e:Option V)(f:V->Prop):Ak (.Fh []) b e f=f (.Fh []):=rfl
theorem ARW(t:KV->Prop)(H:Heap)(n:Nat)(f:KV):Dx (.bool true) true t H n f=t f:=rfl
theorem ASn(t:KV->Prop)(H:Heap)(n:Nat)(f:KV):Dx (.bool false) false t H n f=t f:=rfl
theorem ARu(t:KV->Prop)(H:Heap)(n:Nat)(f:KV):Dx (.bool true) false t H n f=f (.Fh []) H n:=rfl
theorem ASj(t:KV->Prop)(H:Heap)(n:Nat)(f:KV):Dx (.bool false) true t H n f=f (.Fh []) H n:=rfl
theorem AUi(b:Bool)(t:KV->Prop)(H:Heap)(n:Nat)(f:KV):Dx (.Fh []) b t H n f=f (.Fh []) H n:=rfl
theorem ASk(b:Bool):Et (.bool b)=some (.bool (!b)):=by cases b<;>rfl
theorem AN1(a b:V):Aw (.bool true) a b=some a:=rfl
theorem ANJ(a b:V):Aw (.bool false) a b=some b:=rfl
theorem BG(off id o:Nat):AP off (.ptr id o)=some (.ptr id (o+off)):=by show FW (Nat.add o off) _=_;rw[D5];rfl
theorem AC8(off id o:Nat):AP off (.gptr id o)=some (.gptr id (o+off)):=by show FW (Nat.add o off) _=_;rw[D5];rfl
theorem EM(id o:Nat):Ah (.ptr id o)=some (.ptr id o):=rfl
theorem AAw(a:V)(l:List V):D6 (.Fh (a::l)) 0=some a:=rfl
theorem AAG(a b:V)(l:List V):D6 (.Fh (a::b::l)) 1=some b:=rfl
theorem AO5(a b c:V)(l:List V):D6 (.Fh (a::b::c::l)) 2=some c:=rfl
theorem AEH(a:V)(G:AQ)(H:Heap):AY a G H=TW (lX a G H 1) λL=>nth L 0:=rfl
theorem AH8(m:Nat)(a:V)(G:AQ)(H:Heap):Af m a G H=TW (lX a G H m) λL=>some (.agg L):=rfl
theorem lZ(id off:Nat)(G:AQ)(H:Heap)(n:Nat):lX (.ptr id off) G H n=Zz H id off n:=rfl
theorem ADL(L:LV)(f:LV->Option V):TW (some L) f=f L:=rfl
def one(L:LV):Oj:=.arr L.length 1 (T.set .e 0 L)
theorem bD{v:V}{H:Heap}{n:Nat}{P:KV}(h:YH v=true):Bo (Di v) H n P=P (.ptr n 0) (T.set H n (one (Az v))) (n+1):=by
 show Lc (YH v) (DU (len (Az v)) λe=>DU n λn=>P (.ptr n 0) (T.set H n (.arr e 1 (T.set .e 0 (Az v)))) (Nat.succ n))=_
 rw[BK,BK,len_eq,h]
 rfl
theorem LQ{z:Nat}{L:LV}{H:Heap}{n:Nat}{P:KV}(h:L.length=z):Bo (Am z [L] E0) H n P=P (.ptr n 0) (T.set H n (one L)) (n+1):=by
 show DU (len [L]) (λm=>DU n λn=>P (.ptr n 0) (T.set H n (.arr z m (FQ [L] 0 .e))) (Nat.succ n))=_
 rw[BK,BK,len_eq]
 subst h
 rfl
theorem AGu{H:Heap}{id:Nat}{L:LV}(h:T.get H id=some (one L)){off m:Nat}(hm:0<m)(hl:off+m<=L.length):Zz H id off m=some ((L.drop off).take m):=by
 unfold Zz
 rw[h]
 show ldB L.length 1 (T.set .e 0 L) off m=_
 unfold ldB
 have hdiv:off/L.length=0:=Nat.div_eq_of_lt (by omega)
 have hmod:off%L.length=off:=Nat.mod_eq_of_lt (by omega)
 have hb:Nat.blt (Nat.div off L.length) 1=true:=by rw[Nat.blt_eq];show off/L.length<1;omega
 rw[hb]
 show BH (T.get (T.set T.e 0 L) (Nat.div off L.length)) (ldC L.length off m)=_
 have hg2:T.get (T.set T.e 0 L) (Nat.div off L.length)=some L:=by
  show T.get (T.set T.e 0 L) (off/L.length)=some L
  rw[hdiv];simp
 rw[hg2]
 show ldC L.length off m L=_
 unfold ldC
 cases hc:band (Nat.beq m L.length) (Nat.beq (Nat.mod off L.length) 0)with
 |true=>
  simp only[BP,Bool.and_eq_true,beq_iff]at hc
  obtain⟨h1,h2⟩:=hc
  have h2':off=0:=by have:off%L.length=0:=h2;omega
  subst h2'
  simp[h1]
 |false=>
  have hf:Nat.ble (Nat.add (Nat.mod off L.length) m) L.length=true:=by
   rw[Nat.ble_eq];show off%L.length+m<=L.length;omega
  rw[hf]
  show some (XH m (kZ (Nat.mod off L.length) L))=_
  rw[YT,kD]
  show some (List.take m (List.drop (off%L.length) L))=_
  rw[hmod]
theorem APw{H:Heap}{id:Nat}{L:LV}(h:T.get H id=some (one L)){off m:Nat}{new:LV}(hm:0<m)(hn:new.length=m)(hl:off+m<=L.length):stH H id off m new=some (T.set H id (one (L.take off++(new++L.drop (off+m))))):=by
 unfold stH
 rw[h]
 show BH (stB L.length 1 (T.set .e 0 L) off m new) (λb=>some (T.set H id b))=_
 have hdiv:Nat.div off L.length=0:=Nat.div_eq_of_lt (by omega)
 have hmod:Nat.mod off L.length=off:=Nat.mod_eq_of_lt (by omega)
 have hs:stB L.length 1 (T.set .e 0 L) off m new=some (one (L.take off++(new++L.drop (off+m)))):=by
  unfold stB
  rw[hdiv]
  show BH (T.get (T.set T.e 0 L) 0) (stC new L.length 1 (T.set .e 0 L) off m)=_
  rw[T.Ag]
  show stC new L.length 1 (T.set .e 0 L) off m L=_
  unfold stC
  rw[hmod,hdiv]
  have hlen:(L.take off++(new++L.drop (off+m))).length=L.length:=by simp;omega
  cases hc:band (Nat.beq m L.length) (Nat.beq off 0)with
  |true=>
   simp only[BP,Bool.and_eq_true,beq_iff]at hc
   obtain⟨h1,h2⟩:=hc
   subst h2
   show some (Oj.arr L.length 1 (T.set (T.set T.e 0 L) 0 new))=_
   unfold one
   rw[hlen]
   have:List.take 0 L++(new++List.drop (0+m) L)=new:=by simp[h1]
   rw[this];rfl
  |false=>
   have hf:Nat.ble (Nat.add off m) L.length=true:=by rw[Nat.ble_eq];exact hl
   rw[hf]
   show some (Oj.arr L.length 1 (T.set (T.set T.e 0 L) 0 (AGB new off L)))=_
   unfold one
   rw[hlen,ACt,hn];rfl
 rw[hs]
 rfl
theorem BN{F:T AF}{G:AQ}{f:Nat}{af:AF}{s:SF}(hf:T.get F f=some af)(hs:AC1 G af s){args:List V}{H:Heap}{n:Nat}{k:KV}(h:s (Runs F G) args H n k):Runs F G f args H n k:=
 zG hf (hs _ _ (λ_ _ _ _ _ h=>h) (jw F G) _ _ _ _ h)
def goN(x:X)(b:Bool)(d:jo)(o:AN):xX:=λG _ R H n k=>Ak (x.ev R) b (o.ev G R H) λv=>k (Fj d v R) H n
def goA(x:X)(b:Bool)(d:jo)(o:AA):xX:=λ_ _ R H n k=>Dx (x.ev R) b (Bo (o.al R) H n) H n λv H n=>k (Fj d v R) H n
def goE(x:X)(b:Bool)(d:jo)(o:AE):xX:=λG call R H n k=>Dx (x.ev R) b (o.ex G call R H n) H n λv H n=>k (Fj d v R) H n
def ATz(x:X)(b:Bool)(d:jo)(o:AO):xX:=AO.rec (motive:=λ_=>xX) (goN x b d) (goA x b d) (goE x b d) o
def oAG(o:AA):XoT:=λ_ _ d R H n k=>Bo (o.al R) H n λv H n=>k (Fj d v R) H n
def AO.exG(o:AO):XoT:=AO.rec (motive:=λ_=>XoT) oN oAG oE o
def AUp(d:jo)(o:AO):xX:=λG call R H n k=>o.exG G call d R H n k
def qo.exG(o:qo):xX:=qo.rec (motive:=λ_=>xX) (λd g o=>Gd.rec (motive:=λ_=>jo->AO->xX) AUp ATz g d o) o
theorem AII(o:qo):o.exG=o.ex:=by
 obtain⟨d,g,o⟩:=o
 cases g<;>cases o<;>rfl
def AGs(l:List qo):xX:=
 List.rec (motive:=λ_=>xX) (λ_ _ R H n k=>k R H n) (λo _ g G call R H n k=>o.exG G call R H n λR H n=>g G call R H n k) l
theorem AIE:∀l:List qo,AGs l=P8 l
 |[]=>rfl
 |o::l=>by
  show(λG call R H n k=>o.exG G call R H n λR H n=>AGs l G call R H n k)=λG call R H n k=>o.ex G call R H n λR H n=>P8 l G call R H n k
  rw[AIE l,AII]
def ASE(x:X)(b:Bool):ReT:=λG R H d o k=>mX (x.ev R) b (o.ev G R H) (L9 (T.Dz d R.rg)) k
def ATC(g:Gd):ReT:=Gd.rec (motive:=λ_=>ReT) ASt ASE g
def AI.exG(i:AI):xX:=AI.rec (motive:=λ_=>xX) (λo=>o.exG) (λd g o G _ R H n k=>ATC g G R H d o (k R H n)) i
theorem APK(i:AI):i.exG=i.ex:=by
 cases i with
 |op o=>exact AII o
 |re d g o=>cases g<;>rfl
def ABR(l:List AI):xX:=
 List.rec (motive:=λ_=>xX) (λ_ _ R H n k=>k R H n) (λi _ g G call R H n k=>i.exG G call R H n λR H n=>g G call R H n k) l
theorem ACV:∀l:List AI,ABR l=CO l
 |[]=>rfl
 |o::l=>by
  show(λG call R H n k=>o.exG G call R H n λR H n=>ABR l G call R H n k)=λG call R H n k=>o.ex G call R H n λR H n=>CO l G call R H n k
  rw[ACV l,APK]
def AJ6(l:List qo):M:=λG call _ R H n k _ _=>AGs l G call (.mk [] R) H n λE H n=>k E.rg H n
def AJ4(l:List AI):M:=λG call _ R H n k _ _=>ABR l G call (.mk [] R) H n λE H n=>k E.rg H n
def AC.exG(c:AC):M:=AC.rec (motive:=λ_=>M) AKm AJ6 AJ4 ALK AEF zN ADX AKb APR c
theorem qU:∀c:AC,c.exG=c.wz
 |.skip=>rfl
 |.ops l=>by show AJ6 l=AMV l;unfold AJ6 AMV;rw[AIE]
 |.reg l=>by show AJ4 l=ANu l;unfold AJ4 ANu;rw[ACV]
 |.seq a b=>by show ALK a b a.exG b.exG=ALK a b a.wz b.wz;rw[qU a,qU b]
 |.cond x a b=>by show AEF x a b a.exG b.exG=AEF x a b a.wz b.wz;rw[qU a,qU b]
 |.block i a=>by show zN i a a.exG=zN i a a.wz;rw[qU a]
 |.loop a=>by show ADX a a.exG=ADX a a.wz;rw[qU a]
 |.exit i=>rfl
 |.ret=>rfl
inductive An:Type 1 where
 |n
 |s (a b:An)
 |j (S:K) (a b:An)
 |c (a b:An)
 |b (a:An)
 |l (σ:Type) (bd:(σ->Prop)->σ->Prop) (st:I8->Heap->Nat->σ) (a:(σ->Prop)->An)
abbrev M2:=AC->AQ->AX->I8->Heap->Nat->K->KX->K->Prop
def AC.AFJ(c:AC)(f:AC->AC->Prop):Prop:=AC.rec (motive:=λ_=>Prop) False (λ_=>False) (λ_=>False) (λa b _ _=>f a b) (λ_ _ _ _ _=>False) (λ_ _ _=>False) (λ_ _=>False) (λ_=>False) False c
def AC.AF2(c:AC)(f:X->AC->AC->Prop):Prop:=AC.rec (motive:=λ_=>Prop) False (λ_=>False) (λ_=>False) (λ_ _ _ _=>False) (λx a b _ _=>f x a b) (λ_ _ _=>False) (λ_ _=>False) (λ_=>False) False c
def AC.ADQ(c:AC)(f:Nat->AC->Prop):Prop:=AC.rec (motive:=λ_=>Prop) False (λ_=>False) (λ_=>False) (λ_ _ _ _=>False) (λ_ _ _ _ _=>False) (λi a _=>f i a) (λ_ _=>False) (λ_=>False) False c
def AC.AGf(c:AC)(f:AC->Prop):Prop:=AC.rec (motive:=λ_=>Prop) False (λ_=>False) (λ_=>False) (λ_ _ _ _=>False) (λ_ _ _ _ _=>False) (λ_ _ _=>False) (λa _=>f a) (λ_=>False) False c
def An.ex(L:Au)(an:An):M2:=
 An.rec (motive:=λ_=>M2)
  (λc G call R H n k x r=>c.exG G call 0 R H n k x r)
  (λ_ _ ga gb c G call R H n k x r=>c.AFJ λa b=>ga a G call R H n (λR H n=>gb b G call R H n k x r) x r)
  (λS _ _ ga _ c G call R H n _ x r=>c.AFJ λa _=>ga a G call R H n S x r)
  (λ_ _ ga gb c G call R H n k x r=>c.AF2 λy a b=>AZ (y.ev (.mk [] R)) true (ga a G call R H n k x r) (gb b G call R H n k x r))
  (λ_ ga c G call R H n k x r=>c.ADQ λi a=>ga a G call R H n k (Gw i k x) r)
  (fun σ bd st _ _ c _ _ R H n _ _ _=>c.AGf λ_=>L σ bd (st R H n)) an
abbrev M3:=AC->AQ->AX->K->KX->K->Prop
def An.ob(L:Au)(an:An):M3:=
 An.rec (motive:=λ_=>M3)
  (λ_ _ _ _ _ _=>True)
  (λ_ b ga gb c G call k x r=>c.AFJ λa d=>ga a G call (λR H n=>b.ex L d G call R H n k x r) x r/\gb d G call k x r)
  (λS _ b ga gb c G call k x r=>c.AFJ λa d=>ga a G call S x r/\(∀R H n,S R H n=b.ex L d G call R H n k x r)/\gb d G call k x r)
  (λ_ _ ga gb c G call k x r=>c.AF2 λ_ a b=>ga a G call k x r/\gb b G call k x r)
  (λ_ ga c G call k x r=>c.ADQ λi a=>ga a G call k (Gw i k x) r)
  (fun σ bd st a ga c G call _ x r=>c.AGf λd=>∀ih:σ->Prop,(∀R H n,bd ih (st R H n)=(a ih).ex L d G call R H n (λR H n=>ih (st R H n)) x r)/\ga ih d G call (λR H n=>ih (st R H n)) x r) an
def AC.AL5(c:AC)(f:AC->AC->Prop):Prop:=AC.rec (motive:=λ_=>Prop) True (λ_=>True) (λ_=>True) (λa b _ _=>f a b) (λ_ _ _ _ _=>True) (λ_ _ _=>True) (λ_ _=>True) (λ_=>True) True c
def AC.AMx(c:AC)(f:X->AC->AC->Prop):Prop:=AC.rec (motive:=λ_=>Prop) True (λ_=>True) (λ_=>True) (λ_ _ _ _=>True) (λx a b _ _=>f x a b) (λ_ _ _=>True) (λ_ _=>True) (λ_=>True) True c
def AC.AJV(c:AC)(f:Nat->AC->Prop):Prop:=AC.rec (motive:=λ_=>Prop) True (λ_=>True) (λ_=>True) (λ_ _ _ _=>True) (λ_ _ _ _ _=>True) (λi a _=>f i a) (λ_ _=>True) (λ_=>True) True c
def AC.ANt(c:AC)(f:AC->Prop):Prop:=AC.rec (motive:=λ_=>Prop) True (λ_=>True) (λ_=>True) (λ_ _ _ _=>True) (λ_ _ _ _ _=>True) (λ_ _ _=>True) (λa _=>f a) (λ_=>True) True c
def An.obR(L:Au)(an:An):M3:=
 An.rec (motive:=λ_=>M3)
  (λ_ _ _ _ _ _=>True)
  (λ_ b ga gb c G call k x r=>c.AL5 λa d=>ga a G call (λR H n=>b.ex L d G call R H n k x r) x r/\gb d G call k x r)
  (λS _ b ga gb c G call k x r=>c.AL5 λa d=>ga a G call S x r/\(∀R H n,S R H n=S R H n)/\gb d G call k x r)
  (λ_ _ ga gb c G call k x r=>c.AMx λ_ a b=>ga a G call k x r/\gb b G call k x r)
  (λ_ ga c G call k x r=>c.AJV λi a=>ga a G call k (Gw i k x) r)
  (fun σ bd st a ga c G call _ x r=>c.ANt λd=>∀ih:σ->Prop,(∀R H n,bd ih (st R H n)=bd ih (st R H n))/\ga ih d G call (λR H n=>ih (st R H n)) x r) an
theorem An.AO8(L:Au)(an:An):∀c G call k x r,an.obR L c G call k x r:=by
 induction an with
 |n=>exact λ_ _ _ _ _ _=>trivial
 |s a b iha ihb=>intro c;cases c<;>first|exact λ_ _ _ _ _=>trivial|exact λG call k x r=>⟨iha _ _ _ _ _ _,ihb _ _ _ _ _ _⟩
 |j S a b iha ihb=>intro c;cases c<;>first|exact λ_ _ _ _ _=>trivial|exact λG call k x r=>⟨iha _ _ _ _ _ _,λ_ _ _=>rfl,ihb _ _ _ _ _ _⟩
 |c a b iha ihb=>intro c;cases c<;>first|exact λ_ _ _ _ _=>trivial|exact λG call k x r=>⟨iha _ _ _ _ _ _,ihb _ _ _ _ _ _⟩
 |b a iha=>intro c;cases c<;>first|exact λ_ _ _ _ _=>trivial|exact λG call k x r=>iha _ _ _ _ _ _
 |l σ bd st a iha=>intro c;cases c<;>first|exact λ_ _ _ _ _=>trivial|exact λG call k x r ih=>⟨λ_ _ _=>rfl,iha ih _ _ _ _ _ _⟩
theorem ACX{c:AC}{f:AC->AC->Prop}(h:c.AFJ f):∃a b,c=.seq a b/\f a b:=by
 cases c<;>first|exact⟨_,_,rfl,h⟩|exact(show False from h).elim
theorem AF3{c:AC}{f:X->AC->AC->Prop}(h:c.AF2 f):∃x a b,c=.cond x a b/\f x a b:=by
 cases c<;>first|exact⟨_,_,_,rfl,h⟩|exact(show False from h).elim
theorem AE6{c:AC}{f:Nat->AC->Prop}(h:c.ADQ f):∃i a,c=.block i a/\f i a:=by
 cases c<;>first|exact⟨_,_,rfl,h⟩|exact(show False from h).elim
theorem AG8{c:AC}{f:AC->Prop}(h:c.AGf f):∃a,c=.loop a/\f a:=by
 cases c<;>first|exact⟨_,rfl,h⟩|exact(show False from h).elim
section
variable{G:AQ}{call callE:AX}
theorem ANf{c:AC}{R:I8}{H:Heap}{n:Nat}{k:K}{x:KX}{r:K}(h:c.exG G call 0 R H n k x r):c.wz G call 0 R H n k x r:=by rwa [qU]at h
theorem pO(hle:RD call callE)(hd:F7 callE):∀(c:AC) (R:I8) (H:Heap) (n:Nat) (k k':K) (x x':KX) (r r':K),(∀R H n,k R H n->k' R H n)->(∀i R H n,x i R H n->x' i R H n)->(∀R H n,r R H n->r' R H n)->
 c.wz G call 0 R H n k x r->c.wz G callE 0 R H n k' x' r'
 |.skip,R,H,n,k,k',x,x',r,r',hk,hx,hr,h=>hk _ _ _ h
 |.ops l,R,H,n,k,k',x,x',r,r',hk,hx,hr,h=>ALy hd l _ H n (λE H n h=>hk _ _ _ h) (AGT hd hle G l _ H n _ h)
 |.reg l,R,H,n,k,k',x,x',r,r',hk,hx,hr,h=>AG5 hd l _ H n (λE H n h=>hk _ _ _ h) (zk hd hle G l _ H n _ h)
 |.seq a b,R,H,n,k,k',x,x',r,r',hk,hx,hr,h=>pO hle hd a R H n _ _ x x' r r' (λR H n h=>pO hle hd b R H n k k' x x' r r' hk hx hr h) hx hr h
 |.cond c a b,R,H,n,k,k',x,x',r,r',hk,hx,hr,h=>by
  have h':AZ (c.ev (.mk [] R)) true (a.wz G call 0 R H n k x r) (b.wz G call 0 R H n k x r):=h
  show AZ (c.ev (.mk [] R)) true (a.wz G callE 0 R H n k' x' r') (b.wz G callE 0 R H n k' x' r')
  exact zH h' (pO hle hd a R H n k k' x x' r r' hk hx hr) (pO hle hd b R H n k k' x x' r r' hk hx hr)
 |.block id a,R,H,n,k,k',x,x',r,r',hk,hx,hr,h=>by
  refine pO hle hd a R H n k k' (Gw id k x) (Gw id k' x') r r' hk (λi R H n h=>?_) hr h
  unfold Gw at h⊢
  cases hb:Nat.beq i id with
  |true=>rw[hb]at h;exact hk _ _ _ h
  |false=>rw[hb]at h;exact hx _ _ _ _ h
 |.loop a,R,H,n,k,k',x,x',r,r',hk,hx,hr,h=>by
  intro I hI
  exact h I λR H n hb=>hI R H n (pO hle hd a R H n I I x x' r r' (λ_ _ _ h=>h) hx hr hb)
 |.exit i,R,H,n,k,k',x,x',r,r',hk,hx,hr,h=>hx _ _ _ _ h
 |.ret,R,H,n,k,k',x,x',r,r',hk,hx,hr,h=>hr _ _ _ h
theorem An.ok{L:Au}(hL:D7 L)(hle:RD call callE)(hd:F7 callE)(an:An):∀(c:AC) (k k':K) (x x':KX) (r r':K),(∀R H n,k R H n->k' R H n)->(∀i R H n,x i R H n->x' i R H n)->(∀R H n,r R H n->r' R H n)->
 an.ob L c G call k x r->∀R H n,an.ex L c G call R H n k x r->c.wz G callE 0 R H n k' x' r':=by
 induction an with
 |n=>exact λc k k' x x' r r' hk hx hr _ R H n h=>pO hle hd c R H n k k' x x' r r' hk hx hr (ANf h)
 |s a b iha ihb=>
  intro c k k' x x' r r' hk hx hr ho R H n h
  obtain⟨c1,c2,rfl,ho⟩:=ACX ho
  exact iha c1 _ _ x x' r r' (λR H n h=>ihb c2 k k' x x' r r' hk hx hr ho.2 R H n h) hx hr ho.1 R H n h
 |j S a b iha ihb=>
  intro c k k' x x' r r' hk hx hr ho R H n h
  obtain⟨c1,c2,rfl,ho⟩:=ACX ho
  exact iha c1 S (λR H n=>c2.wz G callE 0 R H n k' x' r') x x' r r' (λR H n h=>ihb c2 k k' x x' r r' hk hx hr ho.2.2 R H n (ho.2.1 R H n▸h)) hx hr ho.1 R H n h
 |c a b iha ihb=>
  intro c k k' x x' r r' hk hx hr ho R H n h
  obtain⟨y,c1,c2,rfl,ho⟩:=AF3 ho
  exact zH (P':=c1.wz G callE 0 R H n k' x' r') (Q':=c2.wz G callE 0 R H n k' x' r') h (λh=>iha c1 k k' x x' r r' hk hx hr ho.1 R H n h) (λh=>ihb c2 k k' x x' r r' hk hx hr ho.2 R H n h)
 |b a iha=>
  intro c k k' x x' r r' hk hx hr ho R H n h
  obtain⟨i,c1,rfl,ho⟩:=AE6 ho
  refine iha c1 k k' (Gw i k x) (Gw i k' x') r r' hk (λj R H n h=>?_) hr ho R H n h
  unfold Gw at h⊢
  cases hb:Nat.beq j i with
  |true=>rw[hb]at h;exact hk _ _ _ h
  |false=>rw[hb]at h;exact hx _ _ _ _ h
 |l σ bd st a iha=>
  intro c k k' x x' r r' hk hx hr ho R H n h
  obtain⟨c1,rfl,ho⟩:=AG8 ho
  intro I hI
  have h':L σ bd (st R H n):=h
  refine hL σ bd (λs=>∀R H n,st R H n=s->I R H n) (λih hih s hs R H n e=>?_) _ h' R H n rfl
  subst e
  rw[(ho ih).1]at hs
  exact hI R H n (iha ih c1 (λR H n=>ih (st R H n)) I x x' r r' (λR H n h=>hih _ h R H n rfl) hx hr (ho ih).2 R H n hs)
end
def fEx(L:Au)(an:An)(af:AF)(G:AQ)(call:AX)(args:List V)(H:Heap)(n:Nat)(k:KV):Prop:=
 AF.rec (motive:=λ_=>Prop) (λnp code res d dg=>Lc (Nat.beq (len args) np) (an.ex L code G call (aW args 0 .e) H n (JQ res dg d G call k) noX (JQ res dg d G call k))) af
def fOb(L:Au)(an:An)(af:AF)(G:AQ)(call:AX)(k:KV):Prop:=
 AF.rec (motive:=λ_=>Prop) (λ_ code res d dg=>an.ob L code G call (JQ res dg d G call k) noX (JQ res dg d G call k)) af
def AUZ(L:Au)(an:An)(af:AF)(G:AQ)(call:AX)(k:KV):Prop:=
 AF.rec (motive:=λ_=>Prop) (λ_ code res d dg=>an.obR L code G call (JQ res dg d G call k) noX (JQ res dg d G call k)) af
theorem obs{L:Au}{an:An}{af:AF}{G:AQ}{call:AX}{k:KV}(h:AUZ L an af G call k=fOb L an af G call k):fOb L an af G call k:=by
 rw[<-h];cases af;exact An.AO8 ..
theorem AAA{L:Au}(hL:D7 L){G:AQ}{call callE:AX}(hle:RD call callE)(hd:F7 callE){an:An}{af:AF}{args:List V}{H:Heap}{n:Nat}{k:KV}(ho:fOb L an af G call k)(h:fEx L an af G call args H n k):AF8 af G callE args H n k:=by
 obtain⟨np,code,res,d,dg⟩:=af
 have h':Lc (Nat.beq (len args) np) (an.ex L code G call (aW args 0 .e) H n (JQ res dg d G call k) noX (JQ res dg d G call k)):=h
 show Lc (Nat.beq (len args) np) (code.wz G callE 0 (aW args 0 .e) H n (JQ res dg d G callE k) noX (JQ res dg d G callE k))
 rw[FY]at h'⊢
 exact⟨h'.1,An.ok hL hle hd an code _ _ _ _ _ _ (λR H n h=>Z5 hd hle res dg d G k R H n h) (λ_ _ _ _ h=>h) (λR H n h=>Z5 hd hle res dg d G k R H n h) ho _ _ _ h'.2⟩
section
variable{L:Au}(hL:D7 L){G:AQ}{af:AF}{an:AX->KV->An}(ho:∀call k,fOb L (an call k) af G call k)
include hL ho
theorem sf0{s:AX->Heap->Nat->KV->Prop}(h:∀call H n k,s call H n k=fEx L (an call k) af G call [] H n k):AC1 G af (ar0 s):=λcall callE hle hd l H n k hs=>by
 obtain⟨rfl,hs⟩:=AHv hs;exact AAA hL hle hd (ho call k) (h .. ▸hs)
theorem qp{s:AX->V->Heap->Nat->KV->Prop}(h:∀call a0 H n k,s call a0 H n k=fEx L (an call k) af G call [a0] H n k):AC1 G af (KL s):=λcall callE hle hd l H n k hs=>by
 obtain⟨a0,rfl,hs⟩:=AHT hs;exact AAA hL hle hd (ho call k) (h .. ▸hs)
theorem sf2{s:AX->V->V->Heap->Nat->KV->Prop}(h:∀call a0 a1 H n k,s call a0 a1 H n k=fEx L (an call k) af G call [a0,a1] H n k):AC1 G af (RP s):=λcall callE hle hd l H n k hs=>by
 obtain⟨a0,a1,rfl,hs⟩:=AH5 hs;exact AAA hL hle hd (ho call k) (h .. ▸hs)
theorem sf3{s:AX->V->V->V->Heap->Nat->KV->Prop}(h:∀call a0 a1 a2 H n k,s call a0 a1 a2 H n k=fEx L (an call k) af G call [a0,a1,a2] H n k):AC1 G af (ar3 s):=λcall callE hle hd l H n k hs=>by
 obtain⟨a0,a1,a2,rfl,hs⟩:=AH7 hs;exact AAA hL hle hd (ho call k) (h .. ▸hs)
theorem sf4{s:AX->V->V->V->V->Heap->Nat->KV->Prop}(h:∀call a0 a1 a2 a3 H n k,s call a0 a1 a2 a3 H n k=fEx L (an call k) af G call [a0,a1,a2,a3] H n k):AC1 G af (ar4 s):=λcall callE hle hd l H n k hs=>by
 obtain⟨a0,a1,a2,a3,rfl,hs⟩:=AMX hs;exact AAA hL hle hd (ho call k) (h .. ▸hs)
end
def inR(l:List (Nat×Nat))(t:Nat):Bool:=l.any λp=>Nat.ble p.1 t&&Nat.ble t p.2
def opp(l:List Nat):List (Nat×Wk):=l.map λj=>(j,.plain)
def Rq(n:Nat):List (Nat×Wk):=opp (List.range n)
def CJ(o:Option AF):AF:=o.getD (.mk 0 .skip [] .no 0)
theorem Aq{o:Option AF}(h:o.isSome=true):o=some (CJ o):=by
 cases o with
 |none=>cases h
 |some a=>rfl
theorem AAp.one{P:Program}{F:T AF}{f:Nat}{af:AF}{fn:Func}{loc:Nat->Bool}{df:Bool}{ords:AId}{dg:Nat}(hf:P.funcs[f]? =some fn)(hn:(fn.name== "runtime.NumGoroutine")=false)
 (ht:trF P loc df ords dg fn=some af) (hd:af.dg=dg) (hi:AL2 af.dp=true):AAp P F f af:=⟨⟨fn,loc,df,ords,hf,hn,hd▸ht⟩,.inl hi⟩
theorem AKJ.set{F:T AF}{G:AQ}{FS:T SF}(h:AKJ F G FS){f:Nat}{af:AF}(hf:T.get F f=some af){s:SF}(hs:AC1 G af s):AKJ F G (T.set FS f s):=λg s' hg=>by
 rw[T.OD]at hg
 split at hg
 ·rename_i e;subst e;cases hg;exact⟨af,hf,hs⟩
 ·exact h g s' hg
theorem AJ1(x y:Int):B2.ev .lss (.int .i64 x 0) (.int .i64 y 0)=some (.bool (decide (x<y))):=by
 show mkB (ilt x y)=_
 rw[Qs,WY]
theorem AEE(x y:Int):B2.ev .leq (.int .i64 x 0) (.int .i64 y 0)=some (.bool (decide (x<=y))):=by
 show mkB (ile x y)=_
 rw[Qs,qB]
theorem eq_i(x y:Int):Cc (.one .int) false (.int .i64 x 0) (.int .i64 y 0)=some (.bool (x==y)):=by
 show ofB (VA (some (ieq x y)) λb=>some b)=_
 rw[Wx];cases x==y<;>rfl
theorem AK5(x y:Int):Cc (.one .int) true (.int .i64 x 0) (.int .i64 y 0)=some (.bool (!(x==y))):=by
 show ofB (VA (some (ieq x y)) λb=>some (Zr b))=_
 rw[Wx];cases x==y<;>rfl
theorem wrap64(a:Int):IntKind.wrap .i64 a=if 9223372036854775808<=a%18446744073709551616 then a%18446744073709551616-18446744073709551616 else a%18446744073709551616:=by
 show(if(true&&decide (a%18446744073709551616≥9223372036854775808))=true then a%18446744073709551616-18446744073709551616 else a%18446744073709551616)=_
 by_cases h:9223372036854775808<=a%18446744073709551616
 ·rw[if_pos h,if_pos (by simpa using h)]
 ·rw[if_neg h,if_neg (by simpa using h)]
theorem bI{x:Int}(h1: -9223372036854775808<=x)(h2:x<9223372036854775808):IntKind.wrap .i64 x=x:=by
 rw[wrap64];split<;>omega
end Go.CS
