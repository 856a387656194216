/- Part of a proof; nothing is assumed. -/
import Derived.Test.YtmbhlmocojopaaaGreatDoorEngE
set_option linter.unusedVariables false
set_option linter.unusedSimpArgs false
noncomputable section
namespace Go.DW
def P2.beq(p:P2):P2->Bool:=
 P2.rec (motive:=λ_=>P2->Bool) (λq=>P2.rec (motive:=λ_=>Bool) true (λ_ _=>false) (λ_ _=>false) q)
  (λ_ g q=>P2.rec (motive:=λ_=>Bool) false (λq _=>g q) (λ_ _=>false) q)
  (λ_ g q=>P2.rec (motive:=λ_=>Bool) false (λ_ _=>false) (λq _=>g q) q) p
theorem P2.AFV:∀p:P2,P2.beq p p=true
 |.h=>rfl
 |.z p=>P2.AFV p
 |.o p=>P2.AFV p
abbrev rg(R:LW)(p:P2):V:=PD (T.FB p R)
theorem ne{R:LW}{p q:P2}{v a:V}(hb:P2.beq q p=false)(h:rg R p=a):rg (T.eY v q R) p=a:=by
 show PD (T.FB p (T.eY v q R))=a
 rw[T.Jy _ _ _ _ (λe=>by subst e;rw[P2.AFV]at hb;cases hb)]
 exact h
abbrev He:=(σ:Type)->((σ->Prop)->σ->Prop)->σ->Prop
def Eb(L:He):Prop:=∀(σ:Type) (b:(σ->Prop)->σ->Prop) (P:σ->Prop),(∀ih,(∀s,ih s->P s)->∀s,b ih s->P s)->∀s,L σ b s->P s
def lfp:He:=fun σ b s=>∀I:σ->Prop,(∀s,b I s->I s)->I s
theorem BH:Eb lfp:=λ_ _ P h _ hL=>hL P (h P λ_ h=>h)
def E0:RS:=.mk [] .e
def CQ(c a b:V):Option V:=c.vZ λt=>AB7 t (some a) (some b)
def AY(a:V)(G:AX)(H:Heap):Option V:=XU (ldP a G H 1) λL=>nth L 0
def Ag(n:Nat)(a:V)(G:AX)(H:Heap):Option V:=XU (ldP a G H n) λL=>some (.agg L)
def QU(a:V):Option V:=a.vZ λb=>mkB (TL b)
def ARQ(k:IntKind)(a:V):Option V:=a.LG λ_ n s=>mkI k n s
def AOs(a i:V):Option V:=a.WS λln c=>Z4 i λi=>CG (Nat.blt i ln) (Ep (APp c i) λb=>some (.int .u8 (.ofNat b) 0))
def KL(a:V)(i:Nat):Option V:=a.AJK λl=>nth l i
def tV(a:V):Option V:=a.WS λn _=>some (.int .i64 (.ofNat n) 0)
def AQJ(c:CK)(ok:Bool)(z m k:V)(H:Heap):Option V:=Ua H m λes _=>Ce (wC c k es 0) (AMg ok z)
def Du(z:LV)(ps:List (Nat×Nat×X)):Option V:=CG (pO ps E0) (some (.agg (ACx ps E0 z)))
def AUx(a:V)(G:AX)(H:Heap):Option V:=CG (TL (isStr a)) (Ce (elems a G H 1) λl=>Ce (yU l) λc=>f3 (len l) c 0 λn c _=>.str n c)
def Eo(v:V)(k:KA):Prop:=ER (jZ v) (FT (len (Ba v)) λe=>k (.arr e 1 (T.set .e 0 (Ba v))) λid=>.ptr id 0)
def Bl(sz:Nat)(a b:V)(H:Heap)(n:Nat)(k:KV):Prop:=ER (band (jZ b) (Nat.beq (len (Ba b)) sz)) (Ei (stP a H sz (Ba b)) λH=>k .undef H n)
def Rk(esz bs:Nat)(a b:V)(G:AX)(H:Heap)(n:Nat)(k:KV):Prop:=Ei (elems b G H esz) λLS=>AH7 a G esz bs LS H n k
def AUz(c:CK)(m key v:V)(H:Heap)(n:Nat)(k:KV):Prop:=AFv m H (AKb c key v) λH=>k .undef H n
def Ef(x:V)(args:List V)(call:BG)(H:Heap)(n:Nat)(k:KV):Prop:=V.Zc x λf a c=>call f (cat a (cat args c)) H n k
def BF(c:V)(b:Bool)(e:Option V)(P:V->Prop):Prop:=qV c b (AP e P) (P (.Il []))
def Bh(al:KA->Prop)(H:Heap)(n:Nat)(P:KV):Prop:=al λb f=>FT n λn=>P (f n) (T.set H n b) (Nat.succ n)
def Ip(c:V)(b:Bool)(t:KV->Prop)(H:Heap)(n:Nat)(P:KV):Prop:=qV c b (t P) (P (.Il []) H n)
inductive AVr where
 |t (v:V)|c1 (v:V)|cn (v:V) (n:Nat)
def AVr.get(r:AVr)(G:AX)(H:Heap):Option V:=AVr.rec (λv=>some v) (λv=>AY v G H) (λv n=>Ag n v G H) r
def BO(l:List AVr)(G:AX)(H:Heap):Option LV:=
 List.rec (motive:=λ_=>Option LV) (some []) (λr _ g=>Ce (r.get G H) λv=>Ce g λvs=>some (v::vs)) l
section
variable{E:RS}{G:AX}{H:Heap}{n:Nat}{x y z w:X}{a b c d:V}
variable{call:BG}
end
section
variable{L:List V}{R:LW}{G:AX}{call:BG}{H:Heap}{n:Nat}{a b:V}
end
def ADa(c:V)(b:Bool)(e:Option V)(a:V)(P:Prop):Prop:=qV c b (AP e λv=>ER (Aw v a) P) P
def kR(k:K):KE:=λE H n=>k E.rg H n
theorem AE3{v:V}{b:Bool}{P Q P' Q':Prop}(h:Ae v b P Q)(hp:P->P')(hq:Q->Q'):Ae v b P' Q':=by
 rw[aj]at h⊢
 obtain⟨t,ht,h⟩:=h
 refine⟨t,ht,?_⟩
 split
 ·rename_i e;rw[if_pos e]at h;exact hp h
 ·rename_i e;rw[if_neg e]at h;exact hq h
section
variable{G:AX}{call callE:BG}
section
variable{L:List V}{R:LW}{H:Heap}{n:Nat}{l:List AOp}{k:KE}{p:P2}{x:X}{b:Bool}{c a:V}
end
section
variable{L:List V}{R:LW}{H:Heap}{n:Nat}{l:List AI}{k:KE}{p:P2}{x:X}{b:Bool}{c a:V}
theorem i0{K:K}(h:K R H n):DY [] G callE (.mk L R) H n (kR K):=h
end
section
variable{R:LW}{H:Heap}{n:Nat}{k:K}{x:KX}{r:K}{a b:AC}
end
section
variable{res rs:List AR}{dg:Nat}{R:LW}{H:Heap}{n:Nat}{k:KV}{l:LV}{p:P2}{a:V}{vs:List AVr}
end
end
abbrev SF:=BG->List V->Heap->Nat->KV->Prop
def ar0(s:BG->Heap->Nat->KV->Prop):SF:=λcall l H n k=>List.rec (motive:=λ_=>Prop) (s call H n k) (λ_ _ _=>False) l
def mP(s:BG->V->Heap->Nat->KV->Prop):SF:=λcall l H n k=>List.rec (motive:=λ_=>Prop) False (λa l _=>ar0 (λcall=>s call a) call l H n k) l
def OB(s:BG->V->V->Heap->Nat->KV->Prop):SF:=λcall l H n k=>List.rec (motive:=λ_=>Prop) False (λa l _=>mP (λcall=>s call a) call l H n k) l
def ar3(s:BG->V->V->V->Heap->Nat->KV->Prop):SF:=λcall l H n k=>List.rec (motive:=λ_=>Prop) False (λa l _=>OB (λcall=>s call a) call l H n k) l
def ar4(s:BG->V->V->V->V->Heap->Nat->KV->Prop):SF:=λcall l H n k=>List.rec (motive:=λ_=>Prop) False (λa l _=>ar3 (λcall=>s call a) call l H n k) l
def ar5(s:BG->V->V->V->V->V->Heap->Nat->KV->Prop):SF:=λcall l H n k=>List.rec (motive:=λ_=>Prop) False (λa l _=>ar4 (λcall=>s call a) call l H n k) l
def ar6(s:BG->V->V->V->V->V->V->Heap->Nat->KV->Prop):SF:=λcall l H n k=>List.rec (motive:=λ_=>Prop) False (λa l _=>ar5 (λcall=>s call a) call l H n k) l
theorem AMe{s:BG->Heap->Nat->KV->Prop}{call:BG}{l:List V}{H:Heap}{n:Nat}{k:KV}(h:ar0 s call l H n k):l=[]/\s call H n k:=by
 cases l with
 |nil=>exact⟨rfl,h⟩
 |cons=>exact(show False from h).elim
theorem AMw{s:BG->V->Heap->Nat->KV->Prop}{call:BG}{l:List V}{H:Heap}{n:Nat}{k:KV}(h:mP s call l H n k):∃a0,l=[a0]/\s call a0 H n k:=by
 cases l with
 |nil=>exact(show False from h).elim
 |cons a l=>
  obtain⟨rfl,h⟩:=AMe (show ar0 (λcall=>s call a) call l H n k from h)
  exact⟨a,rfl,h⟩
theorem AL5{s:BG->V->V->Heap->Nat->KV->Prop}{call:BG}{l:List V}{H:Heap}{n:Nat}{k:KV}(h:OB s call l H n k):∃a0 a1,l=[a0,a1]/\s call a0 a1 H n k:=by
 cases l with
 |nil=>exact(show False from h).elim
 |cons a l=>
  obtain⟨b0,rfl,h⟩:=AMw (show mP (λcall=>s call a) call l H n k from h)
  exact⟨a,b0,rfl,h⟩
theorem AMM{s:BG->V->V->V->Heap->Nat->KV->Prop}{call:BG}{l:List V}{H:Heap}{n:Nat}{k:KV}(h:ar3 s call l H n k):∃a0 a1 a2,l=[a0,a1,a2]/\s call a0 a1 a2 H n k:=by
 cases l with
 |nil=>exact(show False from h).elim
 |cons a l=>
  obtain⟨b0,b1,rfl,h⟩:=AL5 (show OB (λcall=>s call a) call l H n k from h)
  exact⟨a,b0,b1,rfl,h⟩
theorem AMi{s:BG->V->V->V->V->Heap->Nat->KV->Prop}{call:BG}{l:List V}{H:Heap}{n:Nat}{k:KV}(h:ar4 s call l H n k):∃a0 a1 a2 a3,l=[a0,a1,a2,a3]/\s call a0 a1 a2 a3 H n k:=by
 cases l with
 |nil=>exact(show False from h).elim
 |cons a l=>
  obtain⟨b0,b1,b2,rfl,h⟩:=AMM (show ar3 (λcall=>s call a) call l H n k from h)
  exact⟨a,b0,b1,b2,rfl,h⟩
theorem AL0{s:BG->V->V->V->V->V->Heap->Nat->KV->Prop}{call:BG}{l:List V}{H:Heap}{n:Nat}{k:KV}(h:ar5 s call l H n k):∃a0 a1 a2 a3 a4,l=[a0,a1,a2,a3,a4]/\s call a0 a1 a2 a3 a4 H n k:=by
 cases l with
 |nil=>exact(show False from h).elim
 |cons a l=>
  obtain⟨b0,b1,b2,b3,rfl,h⟩:=AMi (show ar4 (λcall=>s call a) call l H n k from h)
  exact⟨a,b0,b1,b2,b3,rfl,h⟩
theorem ARX{s:BG->V->V->V->V->V->V->Heap->Nat->KV->Prop}{call:BG}{l:List V}{H:Heap}{n:Nat}{k:KV}(h:ar6 s call l H n k):∃a0 a1 a2 a3 a4 a5,l=[a0,a1,a2,a3,a4,a5]/\s call a0 a1 a2 a3 a4 a5 H n k:=by
 cases l with
 |nil=>exact(show False from h).elim
 |cons a l=>
  obtain⟨b0,b1,b2,b3,b4,rfl,h⟩:=AL0 (show ar5 (λcall=>s call a) call l H n k from h)
  exact⟨a,b0,b1,b2,b3,b4,rfl,h⟩
def AIV(G:AX)(af:AF)(s:SF):Prop:=∀call callE,V9 call callE->Io callE->∀args H n k,s call args H n k->ALl af G callE args H n k
section
variable{E:RS}{G:AX}{H:Heap}{x:X}{a:Int}
end
@[congr] theorem AWO{o o':Option V}(f:V->Prop)(h:o=o'):AP o f=AP o' f:=by rw[h]
@[congr] theorem AWV{α:Type}{o o':Option α}(f:α->Prop)(h:o=o'):Ei o f=Ei o' f:=by rw[h]
@[congr] theorem AWc{b b':Bool}(p:Prop)(h:b=b'):ER b p=ER b' p:=by rw[h]
@[congr] theorem ATd{v v':V}(b:Bool)(p q:Prop)(h:v=v'):Ae v b p q=Ae v' b p q:=by rw[h]
@[congr] theorem AWZ{c c':V}{b:Bool}{e:Option V}(f:V->Prop)(h:c=c'):BF c b e f=BF c' b e f:=by rw[h]
@[congr] theorem AVJ{c c':V}{b:Bool}{t:KV->Prop}{H:Heap}{n:Nat}(f:KV)(h:c=c'):Ip c b t H n f=Ip c' b t H n f:=by rw[h]
@[congr] theorem AVV(F:T AF)(G:AX)(f:Nat){a a':List V}{H H':Heap}{n n':Nat}(k:KV)(h0:a=a')(h1:H=H')(h2:n=n'):Runs F G f a H n k=Runs F G f a' H' n' k:=by rw[h0,h1,h2]
theorem AQ(v:V)(f:V->Prop):AP (some v) f=f v:=rfl
theorem cZ{α:Type}(v:α)(f:α->Prop):Ei (some v) f=f v:=rfl
theorem qO(p:Prop):ER true p=p:=rfl
theorem Ar(p q:Prop):Ae (.bool true) true p q=p:=rfl
theorem Aj(p q:Prop):Ae (.bool false) true p q=q:=rfl
theorem ATN(e:Option V)(f:V->Prop):BF (.bool true) true e f=AP e f:=rfl
theorem AUL(e:Option V)(f:V->Prop):BF (.bool false) false e f=AP e f:=rfl
theorem AXH(e:Option V)(f:V->Prop):BF (.bool true) false e f=f (.Il []):=rfl
theorem AXX(e:Option V)(f:V->Prop):BF (.bool false) true e f=f (.Il []):=rfl
theorem AZV(b:Bool)(e:Option V)(f:V->Prop):BF (.Il []) b e f=f (.Il []):=rfl
theorem AWe(t:KV->Prop)(H:Heap)(n:Nat)(f:KV):Ip (.bool true) true t H n f=t f:=rfl
theorem AYL(t:KV->Prop)(H:Heap)(n:Nat)(f:KV):Ip (.bool false) false t H n f=t f:=rfl
theorem AX7(t:KV->Prop)(H:Heap)(n:Nat)(f:KV):Ip (.bool true) false t H n f=f (.Il []) H n:=rfl
theorem AXO(t:KV->Prop)(H:Heap)(n:Nat)(f:KV):Ip (.bool false) true t H n f=f (.Il []) H n:=rfl
theorem AZJ(b:Bool)(t:KV->Prop)(H:Heap)(n:Nat)(f:KV):Ip (.Il []) b t H n f=f (.Il []) H n:=rfl
theorem AYE(b:Bool):QU (.bool b)=some (.bool (!b)):=by cases b<;>rfl
theorem ATC(a b:V):CQ (.bool true) a b=some a:=rfl
theorem ARp(a b:V):CQ (.bool false) a b=some b:=rfl
theorem Am(off id o:Nat):AU off (.ptr id o)=some (.ptr id (o+off)):=by show Ep (Nat.add o off) _=_;rw[DK];rfl
theorem AME(off id o:Nat):AU off (.gptr id o)=some (.gptr id (o+off)):=by show Ep (Nat.add o off) _=_;rw[DK];rfl
theorem ASI(id o:Nat):Ap (.ptr id o)=some (.ptr id o):=rfl
theorem jQ(a:V)(l:List V):KL (.Il (a::l)) 0=some a:=rfl
theorem iM(a b:V)(l:List V):KL (.Il (a::b::l)) 1=some b:=rfl
theorem ALn(a b c:V)(l:List V):KL (.Il (a::b::c::l)) 2=some c:=rfl
theorem APu(a:V)(G:AX)(H:Heap):AY a G H=XU (ldP a G H 1) λL=>nth L 0:=rfl
theorem ANG(m:Nat)(a:V)(G:AX)(H:Heap):Ag m a G H=XU (ldP a G H m) λL=>some (.agg L):=rfl
theorem AD0(id off:Nat)(G:AX)(H:Heap)(n:Nat):ldP (.ptr id off) G H n=yc H id off n:=rfl
theorem AIO(L:LV)(f:LV->Option V):XU (some L) f=f L:=rfl
def one(L:LV):SI:=.arr L.length 1 (T.set .e 0 L)
theorem ATr{v:V}{H:Heap}{n:Nat}{P:KV}(h:jZ v=true):Bh (Eo v) H n P=P (.ptr n 0) (T.set H n (one (Ba v))) (n+1):=by
 show ER (jZ v) (FT (len (Ba v)) λe=>FT n λn=>P (.ptr n 0) (T.set H n (.arr e 1 (T.set .e 0 (Ba v)))) (Nat.succ n))=_
 rw[CS,CS,len_eq,h]
 rfl
theorem AML{z:Nat}{L:LV}{H:Heap}{n:Nat}{P:KV}(h:L.length=z):Bh (Au z [L] E0) H n P=P (.ptr n 0) (T.set H n (one L)) (n+1):=by
 show FT (len [L]) (λm=>FT n λn=>P (.ptr n 0) (T.set H n (.arr z m (Ic [L] 0 .e))) (Nat.succ n))=_
 rw[CS,CS,len_eq]
 subst h
 rfl
theorem AK3{H:Heap}{id:Nat}{L:LV}(h:T.get H id=some (one L)){off m:Nat}(hm:0<m)(hl:off+m<=L.length):yc H id off m=some ((L.drop off).take m):=by
 unfold yc
 rw[h]
 show ldB L.length 1 (T.set .e 0 L) off m=_
 unfold ldB
 have hdiv:off/L.length=0:=Nat.div_eq_of_lt (by omega)
 have hmod:off%L.length=off:=Nat.mod_eq_of_lt (by omega)
 have hb:Nat.blt (Nat.div off L.length) 1=true:=by rw[Nat.blt_eq];show off/L.length<1;omega
 rw[hb]
 show Ce (T.get (T.set T.e 0 L) (Nat.div off L.length)) (ldC L.length off m)=_
 have hg2:T.get (T.set T.e 0 L) (Nat.div off L.length)=some L:=by
  show T.get (T.set T.e 0 L) (off/L.length)=some L
  rw[hdiv];simp
 rw[hg2]
 show ldC L.length off m L=_
 unfold ldC
 cases hc:band (Nat.beq m L.length) (Nat.beq (Nat.mod off L.length) 0)with
 |true=>
  simp only[Bg,Bool.and_eq_true,beq_iff]at hc
  obtain⟨h1,h2⟩:=hc
  have h2':off=0:=by have:off%L.length=0:=h2;omega
  subst h2'
  simp[h1]
 |false=>
  have hf:Nat.ble (Nat.add (Nat.mod off L.length) m) L.length=true:=by
   rw[Nat.ble_eq];show off%L.length+m<=L.length;omega
  rw[hf]
  show some (bW m (vV (Nat.mod off L.length) L))=_
  rw[jo,tZ]
  show some (List.take m (List.drop (off%L.length) L))=_
  rw[hmod]
theorem AVz{H:Heap}{id:Nat}{L:LV}(h:T.get H id=some (one L)){off m:Nat}{new:LV}(hm:0<m)(hn:new.length=m)(hl:off+m<=L.length):stH H id off m new=some (T.set H id (one (L.take off++(new++L.drop (off+m))))):=by
 unfold stH
 rw[h]
 show Ce (stB L.length 1 (T.set .e 0 L) off m new) (λb=>some (T.set H id b))=_
 have hdiv:Nat.div off L.length=0:=Nat.div_eq_of_lt (by omega)
 have hmod:Nat.mod off L.length=off:=Nat.mod_eq_of_lt (by omega)
 have hs:stB L.length 1 (T.set .e 0 L) off m new=some (one (L.take off++(new++L.drop (off+m)))):=by
  unfold stB
  rw[hdiv]
  show Ce (T.get (T.set T.e 0 L) 0) (stC new L.length 1 (T.set .e 0 L) off m)=_
  rw[T.BP]
  show stC new L.length 1 (T.set .e 0 L) off m L=_
  unfold stC
  rw[hmod,hdiv]
  have hlen:(L.take off++(new++L.drop (off+m))).length=L.length:=by simp;omega
  cases hc:band (Nat.beq m L.length) (Nat.beq off 0)with
  |true=>
   simp only[Bg,Bool.and_eq_true,beq_iff]at hc
   obtain⟨h1,h2⟩:=hc
   subst h2
   show some (SI.arr L.length 1 (T.set (T.set T.e 0 L) 0 new))=_
   unfold one
   rw[hlen]
   have:List.take 0 L++(new++List.drop (0+m) L)=new:=by simp[h1]
   rw[this];rfl
  |false=>
   have hf:Nat.ble (Nat.add off m) L.length=true:=by rw[Nat.ble_eq];exact hl
   rw[hf]
   show some (SI.arr L.length 1 (T.set (T.set T.e 0 L) 0 (ALo new off L)))=_
   unfold one
   rw[hlen,AH6,hn];rfl
 rw[hs]
 rfl
theorem BI{F:T AF}{G:AX}{f:Nat}{af:AF}{s:SF}(hf:T.get F f=some af)(hs:AIV G af s){args:List V}{H:Heap}{n:Nat}{k:KV}(h:s (Runs F G) args H n k):Runs F G f args H n k:=
 ALA hf (hs _ _ (λ_ _ _ _ _ h=>h) (ABE F G) _ _ _ _ h)
def goN(x:X)(b:Bool)(d:vM)(o:AN):XpT:=λG _ R H n k=>BF (x.ev R) b (o.ev G R H) λv=>k (IU d v R) H n
def goA(x:X)(b:Bool)(d:vM)(o:AA):XpT:=λ_ _ R H n k=>Ip (x.ev R) b (Bh (o.al R) H n) H n λv H n=>k (IU d v R) H n
def goE(x:X)(b:Bool)(d:vM)(o:AE):XpT:=λG call R H n k=>Ip (x.ev R) b (o.ex G call R H n) H n λv H n=>k (IU d v R) H n
def AZE(x:X)(b:Bool)(d:vM)(o:AO):XpT:=AO.rec (motive:=λ_=>XpT) (goN x b d) (goA x b d) (goE x b d) o
def oAG(o:AA):XoT:=λ_ _ d R H n k=>Bh (o.al R) H n λv H n=>k (IU d v R) H n
def AO.exG(o:AO):XoT:=AO.rec (motive:=λ_=>XoT) oN oAG oE o
def AZm(d:vM)(o:AO):XpT:=λG call R H n k=>o.exG G call d R H n k
def AOp.exG(o:AOp):XpT:=AOp.rec (motive:=λ_=>XpT) (λd g o=>Gd.rec (motive:=λ_=>vM->AO->XpT) AZm AZE g d o) o
theorem AMP(o:AOp):o.exG=o.ex:=by
 obtain⟨d,g,o⟩:=o
 cases g<;>cases o<;>rfl
def AKU(l:List AOp):XpT:=
 List.rec (motive:=λ_=>XpT) (λ_ _ R H n k=>k R H n) (λo _ g G call R H n k=>o.exG G call R H n λR H n=>g G call R H n k) l
theorem AMZ:∀l:List AOp,AKU l=UF l
 |[]=>rfl
 |o::l=>by
  show(λG call R H n k=>o.exG G call R H n λR H n=>AKU l G call R H n k)=λG call R H n k=>o.ex G call R H n λR H n=>UF l G call R H n k
  rw[AMZ l,AMP]
def AXz(x:X)(b:Bool):ReT:=λG R H d o k=>ADa (x.ev R) b (o.ev G R H) (PD (T.FB d R.rg)) k
def AYI(g:Gd):ReT:=Gd.rec (motive:=λ_=>ReT) AYD AXz g
def AI.exG(i:AI):XpT:=AI.rec (motive:=λ_=>XpT) (λo=>o.exG) (λd g o G _ R H n k=>AYI g G R H d o (k R H n)) i
theorem AUu(i:AI):i.exG=i.ex:=by
 cases i with
 |op o=>exact AMP o
 |re d g o=>cases g<;>rfl
def AEw(l:List AI):XpT:=
 List.rec (motive:=λ_=>XpT) (λ_ _ R H n k=>k R H n) (λi _ g G call R H n k=>i.exG G call R H n λR H n=>g G call R H n k) l
theorem AGN:∀l:List AI,AEw l=DY l
 |[]=>rfl
 |o::l=>by
  show(λG call R H n k=>o.exG G call R H n λR H n=>AEw l G call R H n k)=λG call R H n k=>o.ex G call R H n λR H n=>DY l G call R H n k
  rw[AGN l,AUu]
def AQQ(l:List AOp):M:=λG call _ R H n k _ _=>AKU l G call (.mk [] R) H n λE H n=>k E.rg H n
def AOl(l:List AI):M:=λG call _ R H n k _ _=>AEw l G call (.mk [] R) H n λE H n=>k E.rg H n
def AC.exG(c:AC):M:=AC.rec (motive:=λ_=>M) AOk AQQ AOl APw AJb AEP AHg APD AVe c
theorem zq:∀c:AC,c.exG=c.exL
 |.skip=>rfl
 |.ops l=>by show AQQ l=ASo l;unfold AQQ ASo;rw[AMZ]
 |.reg l=>by show AOl l=AR0 l;unfold AOl AR0;rw[AGN]
 |.seq a b=>by show APw a b a.exG b.exG=APw a b a.exL b.exL;rw[zq a,zq b]
 |.cond x a b=>by show AJb x a b a.exG b.exG=AJb x a b a.exL b.exL;rw[zq a,zq b]
 |.block i a=>by show AEP i a a.exG=AEP i a a.exL;rw[zq a]
 |.loop a=>by show AHg a a.exG=AHg a a.exL;rw[zq a]
 |.exit i=>rfl
 |.ret=>rfl
inductive An:Type 1 where
 |n
 |s (a b:An)
 |j (S:K) (a b:An)
 |c (a b:An)
 |b (a:An)
 |l (σ:Type) (bd:(σ->Prop)->σ->Prop) (st:LW->Heap->Nat->σ) (a:(σ->Prop)->An)
abbrev M2:=AC->AX->BG->LW->Heap->Nat->K->KX->K->Prop
def AC.AJo(c:AC)(f:AC->AC->Prop):Prop:=AC.rec (motive:=λ_=>Prop) False (λ_=>False) (λ_=>False) (λa b _ _=>f a b) (λ_ _ _ _ _=>False) (λ_ _ _=>False) (λ_ _=>False) (λ_=>False) False c
def AC.ALS(c:AC)(f:X->AC->AC->Prop):Prop:=AC.rec (motive:=λ_=>Prop) False (λ_=>False) (λ_=>False) (λ_ _ _ _=>False) (λx a b _ _=>f x a b) (λ_ _ _=>False) (λ_ _=>False) (λ_=>False) False c
def AC.AHs(c:AC)(f:Nat->AC->Prop):Prop:=AC.rec (motive:=λ_=>Prop) False (λ_=>False) (λ_=>False) (λ_ _ _ _=>False) (λ_ _ _ _ _=>False) (λi a _=>f i a) (λ_ _=>False) (λ_=>False) False c
def AC.AK1(c:AC)(f:AC->Prop):Prop:=AC.rec (motive:=λ_=>Prop) False (λ_=>False) (λ_=>False) (λ_ _ _ _=>False) (λ_ _ _ _ _=>False) (λ_ _ _=>False) (λa _=>f a) (λ_=>False) False c
def An.ex(L:He)(an:An):M2:=
 An.rec (motive:=λ_=>M2)
  (λc G call R H n k x r=>c.exG G call 0 R H n k x r)
  (λ_ _ ga gb c G call R H n k x r=>c.AJo λa b=>ga a G call R H n (λR H n=>gb b G call R H n k x r) x r)
  (λS _ _ ga _ c G call R H n _ x r=>c.AJo λa _=>ga a G call R H n S x r)
  (λ_ _ ga gb c G call R H n k x r=>c.ALS λy a b=>Ae (y.ev (.mk [] R)) true (ga a G call R H n k x r) (gb b G call R H n k x r))
  (λ_ ga c G call R H n k x r=>c.AHs λi a=>ga a G call R H n k (Jd i k x) r)
  (fun σ bd st _ _ c _ _ R H n _ _ _=>c.AK1 λ_=>L σ bd (st R H n)) an
abbrev M3:=AC->AX->BG->K->KX->K->Prop
def An.ob(L:He)(an:An):M3:=
 An.rec (motive:=λ_=>M3)
  (λ_ _ _ _ _ _=>True)
  (λ_ b ga gb c G call k x r=>c.AJo λa d=>ga a G call (λR H n=>b.ex L d G call R H n k x r) x r/\gb d G call k x r)
  (λS _ b ga gb c G call k x r=>c.AJo λa d=>ga a G call S x r/\(∀R H n,S R H n=b.ex L d G call R H n k x r)/\gb d G call k x r)
  (λ_ _ ga gb c G call k x r=>c.ALS λ_ a b=>ga a G call k x r/\gb b G call k x r)
  (λ_ ga c G call k x r=>c.AHs λi a=>ga a G call k (Jd i k x) r)
  (fun σ bd st a ga c G call _ x r=>c.AK1 λd=>∀ih:σ->Prop,(∀R H n,bd ih (st R H n)=(a ih).ex L d G call R H n (λR H n=>ih (st R H n)) x r)/\ga ih d G call (λR H n=>ih (st R H n)) x r) an
def AC.AQ3(c:AC)(f:AC->AC->Prop):Prop:=AC.rec (motive:=λ_=>Prop) True (λ_=>True) (λ_=>True) (λa b _ _=>f a b) (λ_ _ _ _ _=>True) (λ_ _ _=>True) (λ_ _=>True) (λ_=>True) True c
def AC.ASc(c:AC)(f:X->AC->AC->Prop):Prop:=AC.rec (motive:=λ_=>Prop) True (λ_=>True) (λ_=>True) (λ_ _ _ _=>True) (λx a b _ _=>f x a b) (λ_ _ _=>True) (λ_ _=>True) (λ_=>True) True c
def AC.AQ5(c:AC)(f:Nat->AC->Prop):Prop:=AC.rec (motive:=λ_=>Prop) True (λ_=>True) (λ_=>True) (λ_ _ _ _=>True) (λ_ _ _ _ _=>True) (λi a _=>f i a) (λ_ _=>True) (λ_=>True) True c
def AC.ASr(c:AC)(f:AC->Prop):Prop:=AC.rec (motive:=λ_=>Prop) True (λ_=>True) (λ_=>True) (λ_ _ _ _=>True) (λ_ _ _ _ _=>True) (λ_ _ _=>True) (λa _=>f a) (λ_=>True) True c
def An.obR(L:He)(an:An):M3:=
 An.rec (motive:=λ_=>M3)
  (λ_ _ _ _ _ _=>True)
  (λ_ b ga gb c G call k x r=>c.AQ3 λa d=>ga a G call (λR H n=>b.ex L d G call R H n k x r) x r/\gb d G call k x r)
  (λS _ b ga gb c G call k x r=>c.AQ3 λa d=>ga a G call S x r/\(∀R H n,S R H n=S R H n)/\gb d G call k x r)
  (λ_ _ ga gb c G call k x r=>c.ASc λ_ a b=>ga a G call k x r/\gb b G call k x r)
  (λ_ ga c G call k x r=>c.AQ5 λi a=>ga a G call k (Jd i k x) r)
  (fun σ bd st a ga c G call _ x r=>c.ASr λd=>∀ih:σ->Prop,(∀R H n,bd ih (st R H n)=bd ih (st R H n))/\ga ih d G call (λR H n=>ih (st R H n)) x r) an
theorem An.AVg(L:He)(an:An):∀c G call k x r,an.obR L c G call k x r:=by
 induction an with
 |n=>exact λ_ _ _ _ _ _=>trivial
 |s a b iha ihb=>intro c;cases c<;>first|exact λ_ _ _ _ _=>trivial|exact λG call k x r=>⟨iha _ _ _ _ _ _,ihb _ _ _ _ _ _⟩
 |j S a b iha ihb=>intro c;cases c<;>first|exact λ_ _ _ _ _=>trivial|exact λG call k x r=>⟨iha _ _ _ _ _ _,λ_ _ _=>rfl,ihb _ _ _ _ _ _⟩
 |c a b iha ihb=>intro c;cases c<;>first|exact λ_ _ _ _ _=>trivial|exact λG call k x r=>⟨iha _ _ _ _ _ _,ihb _ _ _ _ _ _⟩
 |b a iha=>intro c;cases c<;>first|exact λ_ _ _ _ _=>trivial|exact λG call k x r=>iha _ _ _ _ _ _
 |l σ bd st a iha=>intro c;cases c<;>first|exact λ_ _ _ _ _=>trivial|exact λG call k x r ih=>⟨λ_ _ _=>rfl,iha ih _ _ _ _ _ _⟩
theorem AGr{c:AC}{f:AC->AC->Prop}(h:c.AJo f):∃a b,c=.seq a b/\f a b:=by
 cases c<;>first|exact⟨_,_,rfl,h⟩|exact(show False from h).elim
theorem ALZ{c:AC}{f:X->AC->AC->Prop}(h:c.ALS f):∃x a b,c=.cond x a b/\f x a b:=by
 cases c<;>first|exact⟨_,_,_,rfl,h⟩|exact(show False from h).elim
theorem AKJ{c:AC}{f:Nat->AC->Prop}(h:c.AHs f):∃i a,c=.block i a/\f i a:=by
 cases c<;>first|exact⟨_,_,rfl,h⟩|exact(show False from h).elim
theorem ALs{c:AC}{f:AC->Prop}(h:c.AK1 f):∃a,c=.loop a/\f a:=by
 cases c<;>first|exact⟨_,rfl,h⟩|exact(show False from h).elim
section
variable{G:AX}{call callE:BG}
theorem ASt{c:AC}{R:LW}{H:Heap}{n:Nat}{k:K}{x:KX}{r:K}(h:c.exG G call 0 R H n k x r):c.exL G call 0 R H n k x r:=by rwa [zq]at h
theorem AAa(hle:V9 call callE)(hd:Io callE):∀(c:AC) (R:LW) (H:Heap) (n:Nat) (k k':K) (x x':KX) (r r':K),(∀R H n,k R H n->k' R H n)->(∀i R H n,x i R H n->x' i R H n)->(∀R H n,r R H n->r' R H n)->
 c.exL G call 0 R H n k x r->c.exL G callE 0 R H n k' x' r'
 |.skip,R,H,n,k,k',x,x',r,r',hk,hx,hr,h=>hk _ _ _ h
 |.ops l,R,H,n,k,k',x,x',r,r',hk,hx,hr,h=>APR hd l _ H n (λE H n h=>hk _ _ _ h) (ALq hd hle G l _ H n _ h)
 |.reg l,R,H,n,k,k',x,x',r,r',hk,hx,hr,h=>AKj hd l _ H n (λE H n h=>hk _ _ _ h) (AFe hd hle G l _ H n _ h)
 |.seq a b,R,H,n,k,k',x,x',r,r',hk,hx,hr,h=>AAa hle hd a R H n _ _ x x' r r' (λR H n h=>AAa hle hd b R H n k k' x x' r r' hk hx hr h) hx hr h
 |.cond c a b,R,H,n,k,k',x,x',r,r',hk,hx,hr,h=>by
  have h':Ae (c.ev (.mk [] R)) true (a.exL G call 0 R H n k x r) (b.exL G call 0 R H n k x r):=h
  show Ae (c.ev (.mk [] R)) true (a.exL G callE 0 R H n k' x' r') (b.exL G callE 0 R H n k' x' r')
  exact AE3 h' (AAa hle hd a R H n k k' x x' r r' hk hx hr) (AAa hle hd b R H n k k' x x' r r' hk hx hr)
 |.block id a,R,H,n,k,k',x,x',r,r',hk,hx,hr,h=>by
  refine AAa hle hd a R H n k k' (Jd id k x) (Jd id k' x') r r' hk (λi R H n h=>?_) hr h
  unfold Jd at h⊢
  cases hb:Nat.beq i id with
  |true=>rw[hb]at h;exact hk _ _ _ h
  |false=>rw[hb]at h;exact hx _ _ _ _ h
 |.loop a,R,H,n,k,k',x,x',r,r',hk,hx,hr,h=>by
  intro I hI
  exact h I λR H n hb=>hI R H n (AAa hle hd a R H n I I x x' r r' (λ_ _ _ h=>h) hx hr hb)
 |.exit i,R,H,n,k,k',x,x',r,r',hk,hx,hr,h=>hx _ _ _ _ h
 |.ret,R,H,n,k,k',x,x',r,r',hk,hx,hr,h=>hr _ _ _ h
theorem An.ok{L:He}(hL:Eb L)(hle:V9 call callE)(hd:Io callE)(an:An):∀(c:AC) (k k':K) (x x':KX) (r r':K),(∀R H n,k R H n->k' R H n)->(∀i R H n,x i R H n->x' i R H n)->(∀R H n,r R H n->r' R H n)->
 an.ob L c G call k x r->∀R H n,an.ex L c G call R H n k x r->c.exL G callE 0 R H n k' x' r':=by
 induction an with
 |n=>exact λc k k' x x' r r' hk hx hr _ R H n h=>AAa hle hd c R H n k k' x x' r r' hk hx hr (ASt h)
 |s a b iha ihb=>
  intro c k k' x x' r r' hk hx hr ho R H n h
  obtain⟨c1,c2,rfl,ho⟩:=AGr ho
  exact iha c1 _ _ x x' r r' (λR H n h=>ihb c2 k k' x x' r r' hk hx hr ho.2 R H n h) hx hr ho.1 R H n h
 |j S a b iha ihb=>
  intro c k k' x x' r r' hk hx hr ho R H n h
  obtain⟨c1,c2,rfl,ho⟩:=AGr ho
  exact iha c1 S (λR H n=>c2.exL G callE 0 R H n k' x' r') x x' r r' (λR H n h=>ihb c2 k k' x x' r r' hk hx hr ho.2.2 R H n (ho.2.1 R H n▸h)) hx hr ho.1 R H n h
 |c a b iha ihb=>
  intro c k k' x x' r r' hk hx hr ho R H n h
  obtain⟨y,c1,c2,rfl,ho⟩:=ALZ ho
  exact AE3 (P':=c1.exL G callE 0 R H n k' x' r') (Q':=c2.exL G callE 0 R H n k' x' r') h (λh=>iha c1 k k' x x' r r' hk hx hr ho.1 R H n h) (λh=>ihb c2 k k' x x' r r' hk hx hr ho.2 R H n h)
 |b a iha=>
  intro c k k' x x' r r' hk hx hr ho R H n h
  obtain⟨i,c1,rfl,ho⟩:=AKJ ho
  refine iha c1 k k' (Jd i k x) (Jd i k' x') r r' hk (λj R H n h=>?_) hr ho R H n h
  unfold Jd at h⊢
  cases hb:Nat.beq j i with
  |true=>rw[hb]at h;exact hk _ _ _ h
  |false=>rw[hb]at h;exact hx _ _ _ _ h
 |l σ bd st a iha=>
  intro c k k' x x' r r' hk hx hr ho R H n h
  obtain⟨c1,rfl,ho⟩:=ALs ho
  intro I hI
  have h':L σ bd (st R H n):=h
  refine hL σ bd (λs=>∀R H n,st R H n=s->I R H n) (λih hih s hs R H n e=>?_) _ h' R H n rfl
  subst e
  rw[(ho ih).1]at hs
  exact hI R H n (iha ih c1 (λR H n=>ih (st R H n)) I x x' r r' (λR H n h=>hih _ h R H n rfl) hx hr (ho ih).2 R H n hs)
end
def fEx(L:He)(an:An)(af:AF)(G:AX)(call:BG)(args:List V)(H:Heap)(n:Nat)(k:KV):Prop:=
 AF.rec (motive:=λ_=>Prop) (λnp code res d dg=>ER (Nat.beq (len args) np) (an.ex L code G call (je args 0 .e) H n (LZ res dg d G call k) noX (LZ res dg d G call k))) (λf=>zo f G args H n k) af
def fOb(L:He)(an:An)(af:AF)(G:AX)(call:BG)(k:KV):Prop:=
 AF.rec (motive:=λ_=>Prop) (λ_ code res d dg=>an.ob L code G call (LZ res dg d G call k) noX (LZ res dg d G call k)) (λ_=>True) af
def AZ0(L:He)(an:An)(af:AF)(G:AX)(call:BG)(k:KV):Prop:=
 AF.rec (motive:=λ_=>Prop) (λ_ code res d dg=>an.obR L code G call (LZ res dg d G call k) noX (LZ res dg d G call k)) (λ_=>True) af
theorem obs{L:He}{an:An}{af:AF}{G:AX}{call:BG}{k:KV}(h:AZ0 L an af G call k=fOb L an af G call k):fOb L an af G call k:=by
 rw[<-h];cases af with
 |mk=>exact An.AVg ..
 |nat=>exact trivial
theorem AAK{L:He}(hL:Eb L){G:AX}{call callE:BG}(hle:V9 call callE)(hd:Io callE){an:An}{af:AF}{args:List V}{H:Heap}{n:Nat}{k:KV}(ho:fOb L an af G call k)(h:fEx L an af G call args H n k):ALl af G callE args H n k:=by
 cases af with
 |nat=>exact h
 |mk np code res d dg=>
 have h':ER (Nat.beq (len args) np) (an.ex L code G call (je args 0 .e) H n (LZ res dg d G call k) noX (LZ res dg d G call k)):=h
 show ER (Nat.beq (len args) np) (code.exL G callE 0 (je args 0 .e) H n (LZ res dg d G callE k) noX (LZ res dg d G callE k))
 rw[IE]at h'⊢
 exact⟨h'.1,An.ok hL hle hd an code _ _ _ _ _ _ (λR H n h=>jw hd hle res dg d G k R H n h) (λ_ _ _ _ h=>h) (λR H n h=>jw hd hle res dg d G k R H n h) ho _ _ _ h'.2⟩
section
variable{L:He}(hL:Eb L){G:AX}{af:AF}{an:BG->KV->An}(ho:∀call k,fOb L (an call k) af G call k)
include hL ho
theorem sf0{s:BG->Heap->Nat->KV->Prop}(h:∀call H n k,s call H n k=fEx L (an call k) af G call [] H n k):AIV G af (ar0 s):=λcall callE hle hd l H n k hs=>by
 obtain⟨rfl,hs⟩:=AMe hs;exact AAK hL hle hd (ho call k) (h .. ▸hs)
theorem sf1{s:BG->V->Heap->Nat->KV->Prop}(h:∀call a0 H n k,s call a0 H n k=fEx L (an call k) af G call [a0] H n k):AIV G af (mP s):=λcall callE hle hd l H n k hs=>by
 obtain⟨a0,rfl,hs⟩:=AMw hs;exact AAK hL hle hd (ho call k) (h .. ▸hs)
theorem mQ{s:BG->V->V->Heap->Nat->KV->Prop}(h:∀call a0 a1 H n k,s call a0 a1 H n k=fEx L (an call k) af G call [a0,a1] H n k):AIV G af (OB s):=λcall callE hle hd l H n k hs=>by
 obtain⟨a0,a1,rfl,hs⟩:=AL5 hs;exact AAK hL hle hd (ho call k) (h .. ▸hs)
theorem sf3{s:BG->V->V->V->Heap->Nat->KV->Prop}(h:∀call a0 a1 a2 H n k,s call a0 a1 a2 H n k=fEx L (an call k) af G call [a0,a1,a2] H n k):AIV G af (ar3 s):=λcall callE hle hd l H n k hs=>by
 obtain⟨a0,a1,a2,rfl,hs⟩:=AMM hs;exact AAK hL hle hd (ho call k) (h .. ▸hs)
theorem sf4{s:BG->V->V->V->V->Heap->Nat->KV->Prop}(h:∀call a0 a1 a2 a3 H n k,s call a0 a1 a2 a3 H n k=fEx L (an call k) af G call [a0,a1,a2,a3] H n k):AIV G af (ar4 s):=λcall callE hle hd l H n k hs=>by
 obtain⟨a0,a1,a2,a3,rfl,hs⟩:=AMi hs;exact AAK hL hle hd (ho call k) (h .. ▸hs)
theorem sf5{s:BG->V->V->V->V->V->Heap->Nat->KV->Prop}(h:∀call a0 a1 a2 a3 a4 H n k,s call a0 a1 a2 a3 a4 H n k=fEx L (an call k) af G call [a0,a1,a2,a3,a4] H n k):AIV G af (ar5 s):=λcall callE hle hd l H n k hs=>by
 obtain⟨a0,a1,a2,a3,a4,rfl,hs⟩:=AL0 hs;exact AAK hL hle hd (ho call k) (h .. ▸hs)
theorem sf6{s:BG->V->V->V->V->V->V->Heap->Nat->KV->Prop}(h:∀call a0 a1 a2 a3 a4 a5 H n k,s call a0 a1 a2 a3 a4 a5 H n k=fEx L (an call k) af G call [a0,a1,a2,a3,a4,a5] H n k):AIV G af (ar6 s):=λcall callE hle hd l H n k hs=>by
 obtain⟨a0,a1,a2,a3,a4,a5,rfl,hs⟩:=ARX hs;exact AAK hL hle hd (ho call k) (h .. ▸hs)
end
def inR(l:List (Nat×Nat))(t:Nat):Bool:=l.any λp=>Nat.ble p.1 t&&Nat.ble t p.2
def qF(l:List Nat):List (Nat×Wk):=l.map λj=>(j,.plain)
def Nq(n:Nat):List (Nat×Wk):=qF (List.range n)
def BA(o:Option AF):AF:=o.getD (.mk 0 .skip [] .no 0)
theorem Aa{o:Option AF}(h:o.isSome=true):o=some (BA o):=by
 cases o with
 |none=>cases h
 |some a=>rfl
theorem zS.one{P:Program}{F:T AF}{f:Nat}{af:AF}{fn:Func}{loc:Nat->Bool}{df:Bool}{ords:AJZ}{dg:Nat}(hf:P.funcs[f]? =some fn)(hn:(fn.name== "runtime.NumGoroutine")=false)
 (ht:trF P loc df ords dg fn=some af) (hd:af.dg=dg) (hi:AKs af.dp=true):zS P F f af:=.code ⟨⟨fn,loc,df,ords,hf,hn,hd▸ht⟩,.inl hi⟩
theorem zS.two{P:Program}{F:T AF}{f:Nat}{af af':AF}{fn:Func}{loc:Nat->Bool}{df:Bool}{ords:AJZ}{dg:Nat}(hf:P.funcs[f]? =some fn)(hn:(fn.name== "runtime.NumGoroutine")=false)
 (ht:trF P loc df ords dg fn=some af) (hd:af.dg=dg) (ha:T.get F dg=some af') (hi:AKs af'.dp=true):zS P F f af:=.code ⟨⟨fn,loc,df,ords,hf,hn,hd▸ht⟩,.inr ⟨af',hd▸ha,hi⟩⟩
end Go.DW
namespace Go.DW
theorem AW8(x y:Int):B2.ev .lss (.int .i64 x 0) (.int .i64 y 0)=some (.bool (decide (x<y))):=by
 show mkB (ilt x y)=_
 rw[dQ,dY]
theorem ATx(x y:Int):EN (.one .int) true (.int .i64 x 0) (.int .i64 y 0)=some (.bool (!(x==y))):=by
 show ofB (Ve (some (ieq x y)) λb=>some (TL b))=_
 rw[jF];cases x==y<;>rfl
theorem AI1(x:Int):EN (.one .int) true (.int .i64 x 0) (.int .i64 x 0)=some (.bool false):=by rw[ATx];simp
theorem wrap64(a:Int):IntKind.wrap .i64 a=if 9223372036854775808<=a%18446744073709551616 then a%18446744073709551616-18446744073709551616 else a%18446744073709551616:=by
 show(if(true&&decide (a%18446744073709551616≥9223372036854775808))=true then a%18446744073709551616-18446744073709551616 else a%18446744073709551616)=_
 by_cases h:9223372036854775808<=a%18446744073709551616
 ·rw[if_pos h,if_pos (by simpa using h)]
 ·rw[if_neg h,if_neg (by simpa using h)]
theorem ah{x:Int}(h1: -9223372036854775808<=x)(h2:x<9223372036854775808):IntKind.wrap .i64 x=x:=by
 rw[wrap64];split<;>omega
end Go.DW
