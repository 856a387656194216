/- Part of a proof; nothing is assumed. -/
import Derived.Test.YtcjkfmaoahojeaaGreatDoorEngE
set_option linter.unusedVariables false
set_option linter.unusedSimpArgs false
noncomputable section
namespace Go.Eng
def P2.beq(p:P2):P2->Bool:=
 P2.rec (motive:=λ_=>P2->Bool) (λq=>P2.rec (motive:=λ_=>Bool) true (λ_ _=>false) (λ_ _=>false) q)
  (λ_ g q=>P2.rec (motive:=λ_=>Bool) false (λq _=>g q) (λ_ _=>false) q)
  (λ_ g q=>P2.rec (motive:=λ_=>Bool) false (λ_ _=>false) (λq _=>g q) q) p
theorem P2.ADk:∀p:P2,P2.beq p p=true
 |.h=>rfl
 |.z p=>P2.ADk p
 |.o p=>P2.ADk p
abbrev rg(R:J6)(p:P2):V:=Ns (T.Ea p R)
theorem ne{R:J6}{p q:P2}{v a:V}(hb:P2.beq q p=false)(h:rg R p=a):rg (T.aC v q R) p=a:=by
 show Ns (T.Ea p (T.aC v q R))=a
 rw[T.JM _ _ _ _ (λe=>by subst e;rw[P2.ADk]at hb;cases hb)]
 exact h
abbrev Fa:=(σ:Type)->((σ->Prop)->σ->Prop)->σ->Prop
def D8(L:Fa):Prop:=∀(σ:Type) (b:(σ->Prop)->σ->Prop) (P:σ->Prop),(∀ih,(∀s,ih s->P s)->∀s,b ih s->P s)->∀s,L σ b s->P s
def lfp:Fa:=fun σ b s=>∀I:σ->Prop,(∀s,b I s->I s)->I s
theorem Ap:D8 lfp:=λ_ _ P h _ hL=>hL P (h P λ_ h=>h)
def E0:RS:=.mk [] .e
def DV(c a b:V):Option V:=c.rM λt=>AAn t (some a) (some b)
def AX(a:V)(G:AV)(H:Heap):Option V:=Pz (ldP a G H 1) λL=>nth L 0
def A8(n:Nat)(a:V)(G:AV)(H:Heap):Option V:=Pz (ldP a G H n) λL=>some (.agg L)
def VJ(a:V):Option V:=a.rM λb=>mkB (YN b)
def AZx(a:V):Option V:=a.Hw λk n s=>mkI k (Int.neg n) s
def ABN(k:IntKind)(a:V):Option V:=a.Hw λ_ n s=>mkI k n s
def ATN(off:Nat)(a:V):Option V:=a.oI λl=>nth l off
def AYm(off n:Nat)(a:V):Option V:=a.oI λl=>some (.agg (Y0 n (lM off l)))
def AF1(n esz:Nat)(a i:V):Option V:=WA i λi=>BO (Nat.blt i n) (AU (Nat.mul i esz) a)
def Ku(a i:V):Option V:=a.TB λln c=>WA i λi=>BO (Nat.blt i ln) (Dy (ANU c i) λb=>some (.int .u8 (.ofNat b) 0))
def ATr(n:Nat)(a i:V):Option V:=a.oI λl=>WA i λi=>BO (Nat.blt i n) (nth l i)
def rV(a:V)(i:Nat):Option V:=a.AJR λl=>nth l i
def OZ(a:V):Option V:=a.TB λn _=>some (.int .i64 (.ofNat n) 0)
def Bl(z:LV)(ps:List (Nat×Nat×X)):Option V:=BO (kD ps E0) (some (.agg (AB9 ps E0 z)))
def ALz(n esz:Nat)(a:V)(lo hi:Option X):Option V:=a.AFe (λid o=>Zk hi E0 n λh=>Zk lo E0 0 λl=>
 BO (band (Nat.beq (Nat.mod o esz) 0) (band (Nat.ble l h) (Nat.ble h n))) (f3 (Nat.add (Nat.div o esz) l) (Nat.sub h l) (Nat.sub n l) λa b c=>.sl id a b c esz)) (λ_ _=>none)
def AQN(x y:V):Option V:=x.Hw λk a s=>y.Hw λk' b t=>BO (band (keq k k') (Nat.beq (Nat.add s t) 0)) (some (.int k (Bool.rec a b (ilt a b)) 0))
def Aag(x y:V):Option V:=x.Hw λk a s=>y.Hw λk' b t=>BO (band (keq k k') (Nat.beq (Nat.add s t) 0)) (some (.int k (Bool.rec a b (ilt b a)) 0))
def AMT(a:V)(G:AV)(H:Heap):Option V:=BO (YN (isStr a)) (DJ (elems a G H 1) λl=>DJ (AAF l) λc=>f3 (len l) c 0 λn c _=>.str n c)
def AOc(s c:V):Option V:=s.TB λn cd=>c.Hw λk b _=>BO (Nat.beq (kno k) 4) (APJ b λb=>BO (Nat.blt b 256) (Pj (dH b n cd 0) λi=>some (.int .i64 i 0)))
def JC(v:V)(k:KA):Prop:=Ed (jq v) (ET (len (Cb v)) λe=>k (.arr e 1 (T.set .e 0 (Cb v))) λid=>.ptr id 0)
def CQ(sz:Nat)(a b:V)(H:Heap)(n:Nat)(k:KV):Prop:=Ed (band (jq b) (Nat.beq (len (Cb b)) sz)) (Hu (stP a H sz (Cb b)) λH=>k .undef H n)
def Xx(esz bs:Nat)(a b:V)(G:AV)(H:Heap)(n:Nat)(k:KV):Prop:=Hu (elems b G H esz) λLS=>AI8 a G esz bs LS H n k
def FM(x:V)(args:List V)(call:BP)(H:Heap)(n:Nat)(k:KV):Prop:=V.WR x λf a c=>call f (cat a (cat args c)) H n k
def ADJ(d x:V)(args:List V)(H:Heap)(n:Nat)(k:KV):Prop:=V.WR x λf a c=>k (.Jq (.fn f (cat a args) c::uG d)) H n
def AYu(a:V)(H:Heap)(n:Nat)(k:KV):Prop:=Hu (a.TB λl c=>some (.ptr l c)) λv=>V.AAJ v λl c=>
 ET n λn=>k (.QF n 0 l 1) (T.set H n (.arr 1 l (Fh (Uj l c) 0 .e))) (Nat.succ n)
def Bc(c:V)(b:Bool)(e:Option V)(P:V->Prop):Prop:=mZ c b (AP e P) (P (.Jq []))
def DW(al:KA->Prop)(H:Heap)(n:Nat)(P:KV):Prop:=al λb f=>ET n λn=>P (f n) (T.set H n b) (Nat.succ n)
def Uk(c:V)(b:Bool)(t:KV->Prop)(H:Heap)(n:Nat)(P:KV):Prop:=mZ c b (t P) (P (.Jq []) H n)
inductive AVr where
 |t (v:V)|c1 (v:V)|cn (v:V) (n:Nat)
def AVr.get(r:AVr)(G:AV)(H:Heap):Option V:=AVr.rec (λv=>some v) (λv=>AX v G H) (λv n=>A8 n v G H) r
def Du(l:List AVr)(G:AV)(H:Heap):Option LV:=
 List.rec (motive:=λ_=>Option LV) (some []) (λr _ g=>DJ (r.get G H) λv=>DJ g λvs=>some (v::vs)) l
section
variable{E:RS}{G:AV}{H:Heap}{n:Nat}{x y z w:X}{a b c d:V}
variable{call:BP}
end
section
variable{L:List V}{R:J6}{G:AV}{call:BP}{H:Heap}{n:Nat}{a b:V}
end
def AaF(c:V)(b:Bool)(e:Option V)(a:V)(P:Prop):Prop:=mZ c b (AP e λv=>Ed (BR v a) P) P
def kR(k:K):KE:=λE H n=>k E.rg H n
theorem AD5{v:V}{b:Bool}{P Q P' Q':Prop}(h:Ac v b P Q)(hp:P->P')(hq:Q->Q'):Ac v b P' Q':=by
 rw[ZW]at h⊢
 obtain⟨t,ht,h⟩:=h
 refine⟨t,ht,?_⟩
 split
 ·rename_i e;rw[if_pos e]at h;exact hp h
 ·rename_i e;rw[if_neg e]at h;exact hq h
section
variable{G:AV}{call callE:BP}
section
variable{L:List V}{R:J6}{H:Heap}{n:Nat}{l:List yJ}{k:KE}{p:P2}{x:X}{b:Bool}{c a:V}
end
section
variable{L:List V}{R:J6}{H:Heap}{n:Nat}{l:List AI}{k:KE}{p:P2}{x:X}{b:Bool}{c a:V}
theorem i0{K:K}(h:K R H n):DR [] G callE (.mk L R) H n (kR K):=h
end
section
variable{R:J6}{H:Heap}{n:Nat}{k:K}{x:KX}{r:K}{a b:AC}
end
section
variable{res rs:List AR}{dg:Nat}{R:J6}{H:Heap}{n:Nat}{k:KV}{l:LV}{p:P2}{a:V}{vs:List AVr}
end
end
abbrev SF:=BP->List V->Heap->Nat->KV->Prop
def ar0(s:BP->Heap->Nat->KV->Prop):SF:=λcall l H n k=>List.rec (motive:=λ_=>Prop) (s call H n k) (λ_ _ _=>False) l
def Gw(s:BP->V->Heap->Nat->KV->Prop):SF:=λcall l H n k=>List.rec (motive:=λ_=>Prop) False (λa l _=>ar0 (λcall=>s call a) call l H n k) l
def QS(s:BP->V->V->Heap->Nat->KV->Prop):SF:=λcall l H n k=>List.rec (motive:=λ_=>Prop) False (λa l _=>Gw (λcall=>s call a) call l H n k) l
def ar3(s:BP->V->V->V->Heap->Nat->KV->Prop):SF:=λcall l H n k=>List.rec (motive:=λ_=>Prop) False (λa l _=>QS (λcall=>s call a) call l H n k) l
def ar4(s:BP->V->V->V->V->Heap->Nat->KV->Prop):SF:=λcall l H n k=>List.rec (motive:=λ_=>Prop) False (λa l _=>ar3 (λcall=>s call a) call l H n k) l
theorem ALZ{s:BP->Heap->Nat->KV->Prop}{call:BP}{l:List V}{H:Heap}{n:Nat}{k:KV}(h:ar0 s call l H n k):l=[]/\s call H n k:=by
 cases l with
 |nil=>exact⟨rfl,h⟩
 |cons=>exact(show False from h).elim
theorem ALe{s:BP->V->Heap->Nat->KV->Prop}{call:BP}{l:List V}{H:Heap}{n:Nat}{k:KV}(h:Gw s call l H n k):∃a0,l=[a0]/\s call a0 H n k:=by
 cases l with
 |nil=>exact(show False from h).elim
 |cons a l=>
  obtain⟨rfl,h⟩:=ALZ (show ar0 (λcall=>s call a) call l H n k from h)
  exact⟨a,rfl,h⟩
theorem ALt{s:BP->V->V->Heap->Nat->KV->Prop}{call:BP}{l:List V}{H:Heap}{n:Nat}{k:KV}(h:QS s call l H n k):∃a0 a1,l=[a0,a1]/\s call a0 a1 H n k:=by
 cases l with
 |nil=>exact(show False from h).elim
 |cons a l=>
  obtain⟨b0,rfl,h⟩:=ALe (show Gw (λcall=>s call a) call l H n k from h)
  exact⟨a,b0,rfl,h⟩
theorem ALB{s:BP->V->V->V->Heap->Nat->KV->Prop}{call:BP}{l:List V}{H:Heap}{n:Nat}{k:KV}(h:ar3 s call l H n k):∃a0 a1 a2,l=[a0,a1,a2]/\s call a0 a1 a2 H n k:=by
 cases l with
 |nil=>exact(show False from h).elim
 |cons a l=>
  obtain⟨b0,b1,rfl,h⟩:=ALt (show QS (λcall=>s call a) call l H n k from h)
  exact⟨a,b0,b1,rfl,h⟩
theorem ATb{s:BP->V->V->V->V->Heap->Nat->KV->Prop}{call:BP}{l:List V}{H:Heap}{n:Nat}{k:KV}(h:ar4 s call l H n k):∃a0 a1 a2 a3,l=[a0,a1,a2,a3]/\s call a0 a1 a2 a3 H n k:=by
 cases l with
 |nil=>exact(show False from h).elim
 |cons a l=>
  obtain⟨b0,b1,b2,rfl,h⟩:=ALB (show ar3 (λcall=>s call a) call l H n k from h)
  exact⟨a,b0,b1,b2,rfl,h⟩
def AKL(G:AV)(af:AF)(s:SF):Prop:=∀call callE,Ui call callE->Hg callE->∀args H n k,s call args H n k->AHM af G callE args H n k
section
variable{E:RS}{G:AV}{H:Heap}{x:X}{a:Int}
end
@[congr] theorem AXX{o o':Option V}(f:V->Prop)(h:o=o'):AP o f=AP o' f:=by rw[h]
@[congr] theorem AXT{α:Type}{o o':Option α}(f:α->Prop)(h:o=o'):Hu o f=Hu o' f:=by rw[h]
@[congr] theorem AXL{b b':Bool}(p:Prop)(h:b=b'):Ed b p=Ed b' p:=by rw[h]
@[congr] theorem AUN{v v':V}(b:Bool)(p q:Prop)(h:v=v'):Ac v b p q=Ac v' b p q:=by rw[h]
@[congr] theorem AXN{c c':V}{b:Bool}{e:Option V}(f:V->Prop)(h:c=c'):Bc c b e f=Bc c' b e f:=by rw[h]
@[congr] theorem AVO{c c':V}{b:Bool}{t:KV->Prop}{H:Heap}{n:Nat}(f:KV)(h:c=c'):Uk c b t H n f=Uk c' b t H n f:=by rw[h]
@[congr] theorem AVl(F:T AF)(G:AV)(f:Nat){a a':List V}{H H':Heap}{n n':Nat}(k:KV)(h0:a=a')(h1:H=H')(h2:n=n'):Runs F G f a H n k=Runs F G f a' H' n' k:=by rw[h0,h1,h2]
theorem Aw(v:V)(f:V->Prop):AP (some v) f=f v:=rfl
theorem uq{α:Type}(v:α)(f:α->Prop):Hu (some v) f=f v:=rfl
theorem ou(p:Prop):Ed true p=p:=rfl
theorem Ah(p q:Prop):Ac (.bool true) true p q=p:=rfl
theorem Aq(p q:Prop):Ac (.bool false) true p q=q:=rfl
theorem AYb(e:Option V)(f:V->Prop):Bc (.bool true) true e f=AP e f:=rfl
theorem AYQ(e:Option V)(f:V->Prop):Bc (.bool false) false e f=AP e f:=rfl
theorem AYU(e:Option V)(f:V->Prop):Bc (.bool true) false e f=f (.Jq []):=rfl
theorem AYj(e:Option V)(f:V->Prop):Bc (.bool false) true e f=f (.Jq []):=rfl
theorem AaQ(b:Bool)(e:Option V)(f:V->Prop):Bc (.Jq []) b e f=f (.Jq []):=rfl
theorem AZB(t:KV->Prop)(H:Heap)(n:Nat)(f:KV):Uk (.bool true) true t H n f=t f:=rfl
theorem AYy(t:KV->Prop)(H:Heap)(n:Nat)(f:KV):Uk (.bool false) false t H n f=t f:=rfl
theorem AX1(t:KV->Prop)(H:Heap)(n:Nat)(f:KV):Uk (.bool true) false t H n f=f (.Jq []) H n:=rfl
theorem AYa(t:KV->Prop)(H:Heap)(n:Nat)(f:KV):Uk (.bool false) true t H n f=f (.Jq []) H n:=rfl
theorem AaI(b:Bool)(t:KV->Prop)(H:Heap)(n:Nat)(f:KV):Uk (.Jq []) b t H n f=f (.Jq []) H n:=rfl
theorem AYc(b:Bool):VJ (.bool b)=some (.bool (!b)):=by cases b<;>rfl
theorem ATI(a b:V):DV (.bool true) a b=some a:=rfl
theorem ATe(a b:V):DV (.bool false) a b=some b:=rfl
theorem Aa(off id o:Nat):AU off (.ptr id o)=some (.ptr id (o+off)):=by show Dy (Nat.add o off) _=_;rw[Bv];rfl
theorem AGS(off id o:Nat):AU off (.XJ id o)=some (.XJ id (o+off)):=by show Dy (Nat.add o off) _=_;rw[Bv];rfl
theorem ATP(id o:Nat):Bj (.ptr id o)=some (.ptr id o):=rfl
theorem AAm(a:V)(l:List V):rV (.Jq (a::l)) 0=some a:=rfl
theorem AAr(a b:V)(l:List V):rV (.Jq (a::b::l)) 1=some b:=rfl
theorem AUk(a b c:V)(l:List V):rV (.Jq (a::b::c::l)) 2=some c:=rfl
theorem ABx(a:V)(G:AV)(H:Heap):AX a G H=Pz (ldP a G H 1) λL=>nth L 0:=rfl
theorem AFF(m:Nat)(a:V)(G:AV)(H:Heap):A8 m a G H=Pz (ldP a G H m) λL=>some (.agg L):=rfl
theorem tC(id off:Nat)(G:AV)(H:Heap)(n:Nat):ldP (.ptr id off) G H n=lC H id off n:=rfl
theorem AFx(L:LV)(f:LV->Option V):Pz (some L) f=f L:=rfl
def one(L:LV):RQ:=.arr L.length 1 (T.set .e 0 L)
theorem ATi{v:V}{H:Heap}{n:Nat}{P:KV}(h:jq v=true):DW (JC v) H n P=P (.ptr n 0) (T.set H n (one (Cb v))) (n+1):=by
 show Ed (jq v) (ET (len (Cb v)) λe=>ET n λn=>P (.ptr n 0) (T.set H n (.arr e 1 (T.set .e 0 (Cb v)))) (Nat.succ n))=_
 rw[CJ,CJ,len_eq,h]
 rfl
theorem ALH{z:Nat}{L:LV}{H:Heap}{n:Nat}{P:KV}(h:L.length=z):DW (BA z [L] E0) H n P=P (.ptr n 0) (T.set H n (one L)) (n+1):=by
 show ET (len [L]) (λm=>ET n λn=>P (.ptr n 0) (T.set H n (.arr z m (Fh [L] 0 .e))) (Nat.succ n))=_
 rw[CJ,CJ,len_eq]
 subst h
 rfl
theorem APb{H:Heap}{id:Nat}{L:LV}(h:T.get H id=some (one L)){off m:Nat}(hm:0<m)(hl:off+m<=L.length):lC H id off m=some ((L.drop off).take m):=by
 unfold lC
 rw[h]
 show ldB L.length 1 (T.set .e 0 L) off m=_
 unfold ldB
 have hdiv:off/L.length=0:=Nat.div_eq_of_lt (by omega)
 have hmod:off%L.length=off:=Nat.mod_eq_of_lt (by omega)
 have hb:Nat.blt (Nat.div off L.length) 1=true:=by rw[Nat.blt_eq];show off/L.length<1;omega
 rw[hb]
 show DJ (T.get (T.set T.e 0 L) (Nat.div off L.length)) (ldC L.length off m)=_
 have hg2:T.get (T.set T.e 0 L) (Nat.div off L.length)=some L:=by
  show T.get (T.set T.e 0 L) (off/L.length)=some L
  rw[hdiv];simp
 rw[hg2]
 show ldC L.length off m L=_
 unfold ldC
 cases hc:band (Nat.beq m L.length) (Nat.beq (Nat.mod off L.length) 0)with
 |true=>
  simp only[CW,Bool.and_eq_true,beq_iff]at hc
  obtain⟨h1,h2⟩:=hc
  have h2':off=0:=by have:off%L.length=0:=h2;omega
  subst h2'
  simp[h1]
 |false=>
  have hf:Nat.ble (Nat.add (Nat.mod off L.length) m) L.length=true:=by
   rw[Nat.ble_eq];show off%L.length+m<=L.length;omega
  rw[hf]
  show some (Y0 m (lM (Nat.mod off L.length) L))=_
  rw[gG,pX]
  show some (List.take m (List.drop (off%L.length) L))=_
  rw[hmod]
theorem AWm{H:Heap}{id:Nat}{L:LV}(h:T.get H id=some (one L)){off m:Nat}{new:LV}(hm:0<m)(hn:new.length=m)(hl:off+m<=L.length):stH H id off m new=some (T.set H id (one (L.take off++(new++L.drop (off+m))))):=by
 unfold stH
 rw[h]
 show DJ (stB L.length 1 (T.set .e 0 L) off m new) (λb=>some (T.set H id b))=_
 have hdiv:Nat.div off L.length=0:=Nat.div_eq_of_lt (by omega)
 have hmod:Nat.mod off L.length=off:=Nat.mod_eq_of_lt (by omega)
 have hs:stB L.length 1 (T.set .e 0 L) off m new=some (one (L.take off++(new++L.drop (off+m)))):=by
  unfold stB
  rw[hdiv]
  show DJ (T.get (T.set T.e 0 L) 0) (eu new L.length 1 (T.set .e 0 L) off m)=_
  rw[T.C9]
  show eu new L.length 1 (T.set .e 0 L) off m L=_
  unfold eu
  rw[hmod,hdiv]
  have hlen:(L.take off++(new++L.drop (off+m))).length=L.length:=by simp;omega
  cases hc:band (Nat.beq m L.length) (Nat.beq off 0)with
  |true=>
   simp only[CW,Bool.and_eq_true,beq_iff]at hc
   obtain⟨h1,h2⟩:=hc
   subst h2
   show some (RQ.arr L.length 1 (T.set (T.set T.e 0 L) 0 new))=_
   unfold one
   rw[hlen]
   have:List.take 0 L++(new++List.drop (0+m) L)=new:=by simp[h1]
   rw[this];rfl
  |false=>
   have hf:Nat.ble (Nat.add off m) L.length=true:=by rw[Nat.ble_eq];exact hl
   rw[hf]
   show some (RQ.arr L.length 1 (T.set (T.set T.e 0 L) 0 (AK4 new off L)))=_
   unfold one
   rw[hlen,AGv,hn];rfl
 rw[hs]
 rfl
theorem Am{F:T AF}{G:AV}{f:Nat}{af:AF}{s:SF}(hf:T.get F f=some af)(hs:AKL G af s){args:List V}{H:Heap}{n:Nat}{k:KV}(h:s (Runs F G) args H n k):Runs F G f args H n k:=
 ADf hf (hs _ _ (λ_ _ _ _ _ h=>h) (zq F G) _ _ _ _ h)
def goN(x:X)(b:Bool)(d:rP)(o:AN):XpT:=λG _ R H n k=>Bc (x.ev R) b (o.ev G R H) λv=>k (Gt d v R) H n
def goA(x:X)(b:Bool)(d:rP)(o:AA):XpT:=λ_ _ R H n k=>Uk (x.ev R) b (DW (o.al R) H n) H n λv H n=>k (Gt d v R) H n
def goE(x:X)(b:Bool)(d:rP)(o:AE):XpT:=λG call R H n k=>Uk (x.ev R) b (o.ex G call R H n) H n λv H n=>k (Gt d v R) H n
def AZq(x:X)(b:Bool)(d:rP)(o:AO):XpT:=AO.rec (motive:=λ_=>XpT) (goN x b d) (goA x b d) (goE x b d) o
def oAG(o:AA):XoT:=λ_ _ d R H n k=>DW (o.al R) H n λv H n=>k (Gt d v R) H n
def AO.exG(o:AO):XoT:=AO.rec (motive:=λ_=>XoT) oN oAG oE o
def AaU(d:rP)(o:AO):XpT:=λG call R H n k=>o.exG G call d R H n k
def yJ.exG(o:yJ):XpT:=yJ.rec (motive:=λ_=>XpT) (λd g o=>Gd.rec (motive:=λ_=>rP->AO->XpT) AaU AZq g d o) o
theorem ALc(o:yJ):o.exG=o.ex:=by
 obtain⟨d,g,o⟩:=o
 cases g<;>cases o<;>rfl
def AKz(l:List yJ):XpT:=
 List.rec (motive:=λ_=>XpT) (λ_ _ R H n k=>k R H n) (λo _ g G call R H n k=>o.exG G call R H n λR H n=>g G call R H n k) l
theorem AML:∀l:List yJ,AKz l=Q7 l
 |[]=>rfl
 |o::l=>by
  show(λG call R H n k=>o.exG G call R H n λR H n=>AKz l G call R H n k)=λG call R H n k=>o.ex G call R H n λR H n=>Q7 l G call R H n k
  rw[AML l,ALc]
def AY7(x:X)(b:Bool):ReT:=λG R H d o k=>AaF (x.ev R) b (o.ev G R H) (Ns (T.Ea d R.rg)) k
def AX6(g:Gd):ReT:=Gd.rec (motive:=λ_=>ReT) AXt AY7 g
def AI.exG(i:AI):XpT:=AI.rec (motive:=λ_=>XpT) (λo=>o.exG) (λd g o G _ R H n k=>AX6 g G R H d o (k R H n)) i
theorem AWW(i:AI):i.exG=i.ex:=by
 cases i with
 |op o=>exact ALc o
 |re d g o=>cases g<;>rfl
def AEZ(l:List AI):XpT:=
 List.rec (motive:=λ_=>XpT) (λ_ _ R H n k=>k R H n) (λi _ g G call R H n k=>i.exG G call R H n λR H n=>g G call R H n k) l
theorem AFb:∀l:List AI,AEZ l=DR l
 |[]=>rfl
 |o::l=>by
  show(λG call R H n k=>o.exG G call R H n λR H n=>AEZ l G call R H n k)=λG call R H n k=>o.ex G call R H n λR H n=>DR l G call R H n k
  rw[AFb l,AWW]
def ANl(l:List yJ):M:=λG call _ R H n k _ _=>AKz l G call (.mk [] R) H n λE H n=>k E.rg H n
def AO4(l:List AI):M:=λG call _ R H n k _ _=>AEZ l G call (.mk [] R) H n λE H n=>k E.rg H n
def AC.exG(c:AC):M:=AC.rec (motive:=λ_=>M) Dx ANl AO4 AOU AHt ADA AGf APn AWo c
theorem vK:∀c:AC,c.exG=c.exL
 |.skip=>rfl
 |.ops l=>by show ANl l=ARK l;unfold ANl ARK;rw[AML]
 |.reg l=>by show AO4 l=ARO l;unfold AO4 ARO;rw[AFb]
 |.seq a b=>by show AOU a b a.exG b.exG=AOU a b a.exL b.exL;rw[vK a,vK b]
 |.cond x a b=>by show AHt x a b a.exG b.exG=AHt x a b a.exL b.exL;rw[vK a,vK b]
 |.block i a=>by show ADA i a a.exG=ADA i a a.exL;rw[vK a]
 |.loop a=>by show AGf a a.exG=AGf a a.exL;rw[vK a]
 |.exit i=>rfl
 |.ret=>rfl
inductive An:Type 1 where
 |n
 |s (a b:An)
 |j (S:K) (a b:An)
 |c (a b:An)
 |b (a:An)
 |l (σ:Type) (bd:(σ->Prop)->σ->Prop) (st:J6->Heap->Nat->σ) (a:(σ->Prop)->An)
abbrev M2:=AC->AV->BP->J6->Heap->Nat->K->KX->K->Prop
def AC.AIH(c:AC)(f:AC->AC->Prop):Prop:=AC.rec (motive:=λ_=>Prop) False (λ_=>False) (λ_=>False) (λa b _ _=>f a b) (λ_ _ _ _ _=>False) (λ_ _ _=>False) (λ_ _=>False) (λ_=>False) False c
def AC.AK3(c:AC)(f:X->AC->AC->Prop):Prop:=AC.rec (motive:=λ_=>Prop) False (λ_=>False) (λ_=>False) (λ_ _ _ _=>False) (λx a b _ _=>f x a b) (λ_ _ _=>False) (λ_ _=>False) (λ_=>False) False c
def AC.AG1(c:AC)(f:Nat->AC->Prop):Prop:=AC.rec (motive:=λ_=>Prop) False (λ_=>False) (λ_=>False) (λ_ _ _ _=>False) (λ_ _ _ _ _=>False) (λi a _=>f i a) (λ_ _=>False) (λ_=>False) False c
def AC.AJa(c:AC)(f:AC->Prop):Prop:=AC.rec (motive:=λ_=>Prop) False (λ_=>False) (λ_=>False) (λ_ _ _ _=>False) (λ_ _ _ _ _=>False) (λ_ _ _=>False) (λa _=>f a) (λ_=>False) False c
def An.ex(L:Fa)(an:An):M2:=
 An.rec (motive:=λ_=>M2)
  (λc G call R H n k x r=>c.exG G call 0 R H n k x r)
  (λ_ _ ga gb c G call R H n k x r=>c.AIH λa b=>ga a G call R H n (λR H n=>gb b G call R H n k x r) x r)
  (λS _ _ ga _ c G call R H n _ x r=>c.AIH λa _=>ga a G call R H n S x r)
  (λ_ _ ga gb c G call R H n k x r=>c.AK3 λy a b=>Ac (y.ev (.mk [] R)) true (ga a G call R H n k x r) (gb b G call R H n k x r))
  (λ_ ga c G call R H n k x r=>c.AG1 λi a=>ga a G call R H n k (Ib i k x) r)
  (fun σ bd st _ _ c _ _ R H n _ _ _=>c.AJa λ_=>L σ bd (st R H n)) an
abbrev M3:=AC->AV->BP->K->KX->K->Prop
def An.ob(L:Fa)(an:An):M3:=
 An.rec (motive:=λ_=>M3)
  (λ_ _ _ _ _ _=>True)
  (λ_ b ga gb c G call k x r=>c.AIH λa d=>ga a G call (λR H n=>b.ex L d G call R H n k x r) x r/\gb d G call k x r)
  (λS _ b ga gb c G call k x r=>c.AIH λa d=>ga a G call S x r/\(∀R H n,S R H n=b.ex L d G call R H n k x r)/\gb d G call k x r)
  (λ_ _ ga gb c G call k x r=>c.AK3 λ_ a b=>ga a G call k x r/\gb b G call k x r)
  (λ_ ga c G call k x r=>c.AG1 λi a=>ga a G call k (Ib i k x) r)
  (fun σ bd st a ga c G call _ x r=>c.AJa λd=>∀ih:σ->Prop,(∀R H n,bd ih (st R H n)=(a ih).ex L d G call R H n (λR H n=>ih (st R H n)) x r)/\ga ih d G call (λR H n=>ih (st R H n)) x r) an
def AC.AP2(c:AC)(f:AC->AC->Prop):Prop:=AC.rec (motive:=λ_=>Prop) True (λ_=>True) (λ_=>True) (λa b _ _=>f a b) (λ_ _ _ _ _=>True) (λ_ _ _=>True) (λ_ _=>True) (λ_=>True) True c
def AC.ATV(c:AC)(f:X->AC->AC->Prop):Prop:=AC.rec (motive:=λ_=>Prop) True (λ_=>True) (λ_=>True) (λ_ _ _ _=>True) (λx a b _ _=>f x a b) (λ_ _ _=>True) (λ_ _=>True) (λ_=>True) True c
def AC.AQP(c:AC)(f:Nat->AC->Prop):Prop:=AC.rec (motive:=λ_=>Prop) True (λ_=>True) (λ_=>True) (λ_ _ _ _=>True) (λ_ _ _ _ _=>True) (λi a _=>f i a) (λ_ _=>True) (λ_=>True) True c
def AC.ARI(c:AC)(f:AC->Prop):Prop:=AC.rec (motive:=λ_=>Prop) True (λ_=>True) (λ_=>True) (λ_ _ _ _=>True) (λ_ _ _ _ _=>True) (λ_ _ _=>True) (λa _=>f a) (λ_=>True) True c
def An.obR(L:Fa)(an:An):M3:=
 An.rec (motive:=λ_=>M3)
  (λ_ _ _ _ _ _=>True)
  (λ_ b ga gb c G call k x r=>c.AP2 λa d=>ga a G call (λR H n=>b.ex L d G call R H n k x r) x r/\gb d G call k x r)
  (λS _ b ga gb c G call k x r=>c.AP2 λa d=>ga a G call S x r/\(∀R H n,S R H n=S R H n)/\gb d G call k x r)
  (λ_ _ ga gb c G call k x r=>c.ATV λ_ a b=>ga a G call k x r/\gb b G call k x r)
  (λ_ ga c G call k x r=>c.AQP λi a=>ga a G call k (Ib i k x) r)
  (fun σ bd st a ga c G call _ x r=>c.ARI λd=>∀ih:σ->Prop,(∀R H n,bd ih (st R H n)=bd ih (st R H n))/\ga ih d G call (λR H n=>ih (st R H n)) x r) an
theorem An.AU2(L:Fa)(an:An):∀c G call k x r,an.obR L c G call k x r:=by
 induction an with
 |n=>exact λ_ _ _ _ _ _=>trivial
 |s a b iha ihb=>intro c;cases c<;>first|exact λ_ _ _ _ _=>trivial|exact λG call k x r=>⟨iha _ _ _ _ _ _,ihb _ _ _ _ _ _⟩
 |j S a b iha ihb=>intro c;cases c<;>first|exact λ_ _ _ _ _=>trivial|exact λG call k x r=>⟨iha _ _ _ _ _ _,λ_ _ _=>rfl,ihb _ _ _ _ _ _⟩
 |c a b iha ihb=>intro c;cases c<;>first|exact λ_ _ _ _ _=>trivial|exact λG call k x r=>⟨iha _ _ _ _ _ _,ihb _ _ _ _ _ _⟩
 |b a iha=>intro c;cases c<;>first|exact λ_ _ _ _ _=>trivial|exact λG call k x r=>iha _ _ _ _ _ _
 |l σ bd st a iha=>intro c;cases c<;>first|exact λ_ _ _ _ _=>trivial|exact λG call k x r ih=>⟨λ_ _ _=>rfl,iha ih _ _ _ _ _ _⟩
theorem AFS{c:AC}{f:AC->AC->Prop}(h:c.AIH f):∃a b,c=.seq a b/\f a b:=by
 cases c<;>first|exact⟨_,_,rfl,h⟩|exact(show False from h).elim
theorem AJo{c:AC}{f:X->AC->AC->Prop}(h:c.AK3 f):∃x a b,c=.cond x a b/\f x a b:=by
 cases c<;>first|exact⟨_,_,_,rfl,h⟩|exact(show False from h).elim
theorem AJA{c:AC}{f:Nat->AC->Prop}(h:c.AG1 f):∃i a,c=.block i a/\f i a:=by
 cases c<;>first|exact⟨_,_,rfl,h⟩|exact(show False from h).elim
theorem AJ4{c:AC}{f:AC->Prop}(h:c.AJa f):∃a,c=.loop a/\f a:=by
 cases c<;>first|exact⟨_,rfl,h⟩|exact(show False from h).elim
section
variable{G:AV}{call callE:BP}
theorem ARC{c:AC}{R:J6}{H:Heap}{n:Nat}{k:K}{x:KX}{r:K}(h:c.exG G call 0 R H n k x r):c.exL G call 0 R H n k x r:=by rwa [vK]at h
theorem uz(hle:Ui call callE)(hd:Hg callE):∀(c:AC) (R:J6) (H:Heap) (n:Nat) (k k':K) (x x':KX) (r r':K),(∀R H n,k R H n->k' R H n)->(∀i R H n,x i R H n->x' i R H n)->(∀R H n,r R H n->r' R H n)->
 c.exL G call 0 R H n k x r->c.exL G callE 0 R H n k' x' r'
 |.skip,R,H,n,k,k',x,x',r,r',hk,hx,hr,h=>hk _ _ _ h
 |.ops l,R,H,n,k,k',x,x',r,r',hk,hx,hr,h=>AOH hd l _ H n (λE H n h=>hk _ _ _ h) (AJT hd hle G l _ H n _ h)
 |.reg l,R,H,n,k,k',x,x',r,r',hk,hx,hr,h=>AKE hd l _ H n (λE H n h=>hk _ _ _ h) (AD2 hd hle G l _ H n _ h)
 |.seq a b,R,H,n,k,k',x,x',r,r',hk,hx,hr,h=>uz hle hd a R H n _ _ x x' r r' (λR H n h=>uz hle hd b R H n k k' x x' r r' hk hx hr h) hx hr h
 |.cond c a b,R,H,n,k,k',x,x',r,r',hk,hx,hr,h=>by
  have h':Ac (c.ev (.mk [] R)) true (a.exL G call 0 R H n k x r) (b.exL G call 0 R H n k x r):=h
  show Ac (c.ev (.mk [] R)) true (a.exL G callE 0 R H n k' x' r') (b.exL G callE 0 R H n k' x' r')
  exact AD5 h' (uz hle hd a R H n k k' x x' r r' hk hx hr) (uz hle hd b R H n k k' x x' r r' hk hx hr)
 |.block id a,R,H,n,k,k',x,x',r,r',hk,hx,hr,h=>by
  refine uz hle hd a R H n k k' (Ib id k x) (Ib id k' x') r r' hk (λi R H n h=>?_) hr h
  unfold Ib at h⊢
  cases hb:Nat.beq i id with
  |true=>rw[hb]at h;exact hk _ _ _ h
  |false=>rw[hb]at h;exact hx _ _ _ _ h
 |.loop a,R,H,n,k,k',x,x',r,r',hk,hx,hr,h=>by
  intro I hI
  exact h I λR H n hb=>hI R H n (uz hle hd a R H n I I x x' r r' (λ_ _ _ h=>h) hx hr hb)
 |.exit i,R,H,n,k,k',x,x',r,r',hk,hx,hr,h=>hx _ _ _ _ h
 |.ret,R,H,n,k,k',x,x',r,r',hk,hx,hr,h=>hr _ _ _ h
theorem An.ok{L:Fa}(hL:D8 L)(hle:Ui call callE)(hd:Hg callE)(an:An):∀(c:AC) (k k':K) (x x':KX) (r r':K),(∀R H n,k R H n->k' R H n)->(∀i R H n,x i R H n->x' i R H n)->(∀R H n,r R H n->r' R H n)->
 an.ob L c G call k x r->∀R H n,an.ex L c G call R H n k x r->c.exL G callE 0 R H n k' x' r':=by
 induction an with
 |n=>exact λc k k' x x' r r' hk hx hr _ R H n h=>uz hle hd c R H n k k' x x' r r' hk hx hr (ARC h)
 |s a b iha ihb=>
  intro c k k' x x' r r' hk hx hr ho R H n h
  obtain⟨c1,c2,rfl,ho⟩:=AFS ho
  exact iha c1 _ _ x x' r r' (λR H n h=>ihb c2 k k' x x' r r' hk hx hr ho.2 R H n h) hx hr ho.1 R H n h
 |j S a b iha ihb=>
  intro c k k' x x' r r' hk hx hr ho R H n h
  obtain⟨c1,c2,rfl,ho⟩:=AFS ho
  exact iha c1 S (λR H n=>c2.exL G callE 0 R H n k' x' r') x x' r r' (λR H n h=>ihb c2 k k' x x' r r' hk hx hr ho.2.2 R H n (ho.2.1 R H n▸h)) hx hr ho.1 R H n h
 |c a b iha ihb=>
  intro c k k' x x' r r' hk hx hr ho R H n h
  obtain⟨y,c1,c2,rfl,ho⟩:=AJo ho
  exact AD5 (P':=c1.exL G callE 0 R H n k' x' r') (Q':=c2.exL G callE 0 R H n k' x' r') h (λh=>iha c1 k k' x x' r r' hk hx hr ho.1 R H n h) (λh=>ihb c2 k k' x x' r r' hk hx hr ho.2 R H n h)
 |b a iha=>
  intro c k k' x x' r r' hk hx hr ho R H n h
  obtain⟨i,c1,rfl,ho⟩:=AJA ho
  refine iha c1 k k' (Ib i k x) (Ib i k' x') r r' hk (λj R H n h=>?_) hr ho R H n h
  unfold Ib at h⊢
  cases hb:Nat.beq j i with
  |true=>rw[hb]at h;exact hk _ _ _ h
  |false=>rw[hb]at h;exact hx _ _ _ _ h
 |l σ bd st a iha=>
  intro c k k' x x' r r' hk hx hr ho R H n h
  obtain⟨c1,rfl,ho⟩:=AJ4 ho
  intro I hI
  have h':L σ bd (st R H n):=h
  refine hL σ bd (λs=>∀R H n,st R H n=s->I R H n) (λih hih s hs R H n e=>?_) _ h' R H n rfl
  subst e
  rw[(ho ih).1]at hs
  exact hI R H n (iha ih c1 (λR H n=>ih (st R H n)) I x x' r r' (λR H n h=>hih _ h R H n rfl) hx hr (ho ih).2 R H n hs)
end
def fEx(L:Fa)(an:An)(af:AF)(G:AV)(call:BP)(args:List V)(H:Heap)(n:Nat)(k:KV):Prop:=
 AF.rec (motive:=λ_=>Prop) (λnp code res d dg=>Ed (Nat.beq (len args) np) (an.ex L code G call (gW args 0 .e) H n (KF res dg d G call k) noX (KF res dg d G call k))) (λf=>oU f G args H n k) af
def fOb(L:Fa)(an:An)(af:AF)(G:AV)(call:BP)(k:KV):Prop:=
 AF.rec (motive:=λ_=>Prop) (λ_ code res d dg=>an.ob L code G call (KF res dg d G call k) noX (KF res dg d G call k)) (λ_=>True) af
def AaD(L:Fa)(an:An)(af:AF)(G:AV)(call:BP)(k:KV):Prop:=
 AF.rec (motive:=λ_=>Prop) (λ_ code res d dg=>an.obR L code G call (KF res dg d G call k) noX (KF res dg d G call k)) (λ_=>True) af
theorem obs{L:Fa}{an:An}{af:AF}{G:AV}{call:BP}{k:KV}(h:AaD L an af G call k=fOb L an af G call k):fOb L an af G call k:=by
 rw[<-h];cases af with
 |mk=>exact An.AU2 ..
 |nat=>exact trivial
theorem AEL{L:Fa}(hL:D8 L){G:AV}{call callE:BP}(hle:Ui call callE)(hd:Hg callE){an:An}{af:AF}{args:List V}{H:Heap}{n:Nat}{k:KV}(ho:fOb L an af G call k)(h:fEx L an af G call args H n k):AHM af G callE args H n k:=by
 cases af with
 |nat=>exact h
 |mk np code res d dg=>
 have h':Ed (Nat.beq (len args) np) (an.ex L code G call (gW args 0 .e) H n (KF res dg d G call k) noX (KF res dg d G call k)):=h
 show Ed (Nat.beq (len args) np) (code.exL G callE 0 (gW args 0 .e) H n (KF res dg d G callE k) noX (KF res dg d G callE k))
 rw[Ez]at h'⊢
 exact⟨h'.1,An.ok hL hle hd an code _ _ _ _ _ _ (λR H n h=>gU hd hle res dg d G k R H n h) (λ_ _ _ _ h=>h) (λR H n h=>gU hd hle res dg d G k R H n h) ho _ _ _ h'.2⟩
section
variable{L:Fa}(hL:D8 L){G:AV}{af:AF}{an:BP->KV->An}(ho:∀call k,fOb L (an call k) af G call k)
include hL ho
theorem sf0{s:BP->Heap->Nat->KV->Prop}(h:∀call H n k,s call H n k=fEx L (an call k) af G call [] H n k):AKL G af (ar0 s):=λcall callE hle hd l H n k hs=>by
 obtain⟨rfl,hs⟩:=ALZ hs;exact AEL hL hle hd (ho call k) (h .. ▸hs)
theorem YG{s:BP->V->Heap->Nat->KV->Prop}(h:∀call a0 H n k,s call a0 H n k=fEx L (an call k) af G call [a0] H n k):AKL G af (Gw s):=λcall callE hle hd l H n k hs=>by
 obtain⟨a0,rfl,hs⟩:=ALe hs;exact AEL hL hle hd (ho call k) (h .. ▸hs)
theorem yI{s:BP->V->V->Heap->Nat->KV->Prop}(h:∀call a0 a1 H n k,s call a0 a1 H n k=fEx L (an call k) af G call [a0,a1] H n k):AKL G af (QS s):=λcall callE hle hd l H n k hs=>by
 obtain⟨a0,a1,rfl,hs⟩:=ALt hs;exact AEL hL hle hd (ho call k) (h .. ▸hs)
theorem sf3{s:BP->V->V->V->Heap->Nat->KV->Prop}(h:∀call a0 a1 a2 H n k,s call a0 a1 a2 H n k=fEx L (an call k) af G call [a0,a1,a2] H n k):AKL G af (ar3 s):=λcall callE hle hd l H n k hs=>by
 obtain⟨a0,a1,a2,rfl,hs⟩:=ALB hs;exact AEL hL hle hd (ho call k) (h .. ▸hs)
theorem sf4{s:BP->V->V->V->V->Heap->Nat->KV->Prop}(h:∀call a0 a1 a2 a3 H n k,s call a0 a1 a2 a3 H n k=fEx L (an call k) af G call [a0,a1,a2,a3] H n k):AKL G af (ar4 s):=λcall callE hle hd l H n k hs=>by
 obtain⟨a0,a1,a2,a3,rfl,hs⟩:=ATb hs;exact AEL hL hle hd (ho call k) (h .. ▸hs)
end
def inR(l:List (Nat×Nat))(t:Nat):Bool:=l.any λp=>Nat.ble p.1 t&&Nat.ble t p.2
def opp(l:List Nat):List (Nat×Wk):=l.map λj=>(j,.plain)
def dY(n:Nat):List (Nat×Wk):=opp (List.range n)
def Bo(o:Option AF):AF:=o.getD (.mk 0 .skip [] .no 0)
theorem Ag{o:Option AF}(h:o.isSome=true):o=some (Bo o):=by
 cases o with
 |none=>cases h
 |some a=>rfl
theorem vM.one{P:Program}{F:T AF}{f:Nat}{af:AF}{fn:Func}{loc:Nat->Bool}{df:Bool}{ords:AI9}{dg:Nat}(hf:P.funcs[f]? =some fn)(hn:(fn.name== "runtime.NumGoroutine")=false)
 (ht:trF P loc df ords dg fn=some af) (hd:af.dg=dg) (hi:AKS af.dp=true):vM P F f af:=.code ⟨⟨fn,loc,df,ords,hf,hn,hd▸ht⟩,.inl hi⟩
theorem vM.two{P:Program}{F:T AF}{f:Nat}{af af':AF}{fn:Func}{loc:Nat->Bool}{df:Bool}{ords:AI9}{dg:Nat}(hf:P.funcs[f]? =some fn)(hn:(fn.name== "runtime.NumGoroutine")=false)
 (ht:trF P loc df ords dg fn=some af) (hd:af.dg=dg) (ha:T.get F dg=some af') (hi:AKS af'.dp=true):vM P F f af:=.code ⟨⟨fn,loc,df,ords,hf,hn,hd▸ht⟩,.inr ⟨af',hd▸ha,hi⟩⟩
end Go.Eng
namespace Go.Eng
theorem wrap64(a:Int):IntKind.wrap .i64 a=if 9223372036854775808<=a%18446744073709551616 then a%18446744073709551616-18446744073709551616 else a%18446744073709551616:=by
 show(if(true&&decide (a%18446744073709551616≥9223372036854775808))=true then a%18446744073709551616-18446744073709551616 else a%18446744073709551616)=_
 by_cases h:9223372036854775808<=a%18446744073709551616
 ·rw[if_pos h,if_pos (by simpa using h)]
 ·rw[if_neg h,if_neg (by simpa using h)]
theorem gZ{x:Int}(h1: -9223372036854775808<=x)(h2:x<9223372036854775808):IntKind.wrap .i64 x=x:=by
 rw[wrap64];split<;>omega
end Go.Eng
