/- Part of a proof; nothing is assumed. -/
import Derived.Test.YtcjkfmaoahojeaaGreatDoorEngE
set_option linter.unusedVariables false
set_option linter.unusedSimpArgs false
noncomputable section
namespace Go.Eng
def P2.beq(p:P2):P2->Bool:=
 P2.rec (motive:=λ_=>P2->Bool) (λq=>P2.rec (motive:=λ_=>Bool) true (λ_ _=>false) (λ_ _=>false) q)
  (λ_ g q=>P2.rec (motive:=λ_=>Bool) false (λq _=>g q) (λ_ _=>false) q)
  (λ_ g q=>P2.rec (motive:=λ_=>Bool) false (λ_ _=>false) (λq _=>g q) q) p
theorem P2.AEN:∀p:P2,P2.beq p p=true
 |.h=>rfl
 |.z p=>P2.AEN p
 |.o p=>P2.AEN p
abbrev rg(R:J6)(p:P2):V:=Nu (T.Ea p R)
theorem ne{R:J6}{p q:P2}{v a:V}(hb:P2.beq q p=false)(h:rg R p=a):rg (T.aG v q R) p=a:=by
 show Nu (T.Ea p (T.aG v q R))=a
 rw[T.JE _ _ _ _ (λe=>by subst e;rw[P2.AEN]at hb;cases hb)]
 exact h
abbrev Fa:=(σ:Type)->((σ->Prop)->σ->Prop)->σ->Prop
def D8(L:Fa):Prop:=∀(σ:Type) (b:(σ->Prop)->σ->Prop) (P:σ->Prop),(∀ih,(∀s,ih s->P s)->∀s,b ih s->P s)->∀s,L σ b s->P s
def lfp:Fa:=fun σ b s=>∀I:σ->Prop,(∀s,b I s->I s)->I s
theorem Ap:D8 lfp:=λ_ _ P h _ hL=>hL P (h P λ_ h=>h)
def E0:RS:=.mk [] .e
def DV(c a b:V):Option V:=c.ng λt=>AA9 t (some a) (some b)
def AX(a:V)(G:AV)(H:Heap):Option V:=QC (ldP a G H 1) λL=>nth L 0
def A8(n:Nat)(a:V)(G:AV)(H:Heap):Option V:=QC (ldP a G H n) λL=>some (.agg L)
def VU(a:V):Option V:=a.ng λb=>mkB (YP b)
def AZq(a:V):Option V:=a.Hu λk n s=>mkI k (Int.neg n) s
def ABY(k:IntKind)(a:V):Option V:=a.Hu λ_ n s=>mkI k n s
def ARU(off:Nat)(a:V):Option V:=a.oP λl=>nth l off
def AZB(off n:Nat)(a:V):Option V:=a.oP λl=>some (.agg (Yq n (lW off l)))
def AGg(n esz:Nat)(a i:V):Option V:=V9 i λi=>BN (Nat.blt i n) (AU (Nat.mul i esz) a)
def Kw(a i:V):Option V:=a.Sv λln c=>V9 i λi=>BN (Nat.blt i ln) (Dv (AMs c i) λb=>some (.int .u8 (.ofNat b) 0))
def ATf(n:Nat)(a i:V):Option V:=a.oP λl=>V9 i λi=>BN (Nat.blt i n) (nth l i)
def sS(a:V)(i:Nat):Option V:=a.AH7 λl=>nth l i
def Oi(a:V):Option V:=a.Sv λn _=>some (.int .i64 (.ofNat n) 0)
def Bl(z:LV)(ps:List (Nat×Nat×X)):Option V:=BN (iq ps E0) (some (.agg (ACB ps E0 z)))
def ALY(n esz:Nat)(a:V)(lo hi:Option X):Option V:=a.AE0 (λid o=>Zi hi E0 n λh=>Zi lo E0 0 λl=>
 BN (band (Nat.beq (Nat.mod o esz) 0) (band (Nat.ble l h) (Nat.ble h n))) (f3 (Nat.add (Nat.div o esz) l) (Nat.sub h l) (Nat.sub n l) λa b c=>.sl id a b c esz)) (λ_ _=>none)
def AOY(x y:V):Option V:=x.Hu λk a s=>y.Hu λk' b t=>BN (band (keq k k') (Nat.beq (Nat.add s t) 0)) (some (.int k (Bool.rec a b (ilt a b)) 0))
def AZ1(x y:V):Option V:=x.Hu λk a s=>y.Hu λk' b t=>BN (band (keq k k') (Nat.beq (Nat.add s t) 0)) (some (.int k (Bool.rec a b (ilt b a)) 0))
def AM0(a:V)(G:AV)(H:Heap):Option V:=BN (YP (isStr a)) (DJ (elems a G H 1) λl=>DJ (zL l) λc=>f3 (len l) c 0 λn c _=>.str n c)
def AOU(s c:V):Option V:=s.Sv λn cd=>c.Hu λk b _=>BN (Nat.beq (kno k) 4) (APg b λb=>BN (Nat.blt b 256) (PX (dV b n cd 0) λi=>some (.int .i64 i 0)))
def JB(v:V)(k:KA):Prop:=Ed (jV v) (ET (len (CX v)) λe=>k (.arr e 1 (T.set .e 0 (CX v))) λid=>.ptr id 0)
def CQ(sz:Nat)(a b:V)(H:Heap)(n:Nat)(k:KV):Prop:=Ed (band (jV b) (Nat.beq (len (CX b)) sz)) (Hw (stP a H sz (CX b)) λH=>k .undef H n)
def Xg(esz bs:Nat)(a b:V)(G:AV)(H:Heap)(n:Nat)(k:KV):Prop:=Hw (elems b G H esz) λLS=>AJN a G esz bs LS H n k
def FM(x:V)(args:List V)(call:BP)(H:Heap)(n:Nat)(k:KV):Prop:=V.V8 x λf a c=>call f (cat a (cat args c)) H n k
def AER(d x:V)(args:List V)(H:Heap)(n:Nat)(k:KV):Prop:=V.V8 x λf a c=>k (.Jt (.fn f (cat a args) c::uF d)) H n
def AYR(a:V)(H:Heap)(n:Nat)(k:KV):Prop:=Hw (a.Sv λl c=>some (.ptr l c)) λv=>V.zF v λl c=>
 ET n λn=>k (.QF n 0 l 1) (T.set H n (.arr 1 l (Fb (Ux l c) 0 .e))) (Nat.succ n)
def Bc(c:V)(b:Bool)(e:Option V)(P:V->Prop):Prop:=mg c b (AP e P) (P (.Jt []))
def DW(al:KA->Prop)(H:Heap)(n:Nat)(P:KV):Prop:=al λb f=>ET n λn=>P (f n) (T.set H n b) (Nat.succ n)
def Uk(c:V)(b:Bool)(t:KV->Prop)(H:Heap)(n:Nat)(P:KV):Prop:=mg c b (t P) (P (.Jt []) H n)
inductive AVr where
 |t (v:V)|c1 (v:V)|cn (v:V) (n:Nat)
def AVr.get(r:AVr)(G:AV)(H:Heap):Option V:=AVr.rec (λv=>some v) (λv=>AX v G H) (λv n=>A8 n v G H) r
def Dy(l:List AVr)(G:AV)(H:Heap):Option LV:=
 List.rec (motive:=λ_=>Option LV) (some []) (λr _ g=>DJ (r.get G H) λv=>DJ g λvs=>some (v::vs)) l
section
variable{E:RS}{G:AV}{H:Heap}{n:Nat}{x y z w:X}{a b c d:V}
variable{call:BP}
end
section
variable{L:List V}{R:J6}{G:AV}{call:BP}{H:Heap}{n:Nat}{a b:V}
end
def AZv(c:V)(b:Bool)(e:Option V)(a:V)(P:Prop):Prop:=mg c b (AP e λv=>Ed (BR v a) P) P
def kR(k:K):KE:=λE H n=>k E.rg H n
theorem ADh{v:V}{b:Bool}{P Q P' Q':Prop}(h:Ac v b P Q)(hp:P->P')(hq:Q->Q'):Ac v b P' Q':=by
 rw[ZV]at h⊢
 obtain⟨t,ht,h⟩:=h
 refine⟨t,ht,?_⟩
 split
 ·rename_i e;rw[if_pos e]at h;exact hp h
 ·rename_i e;rw[if_neg e]at h;exact hq h
section
variable{G:AV}{call callE:BP}
section
variable{L:List V}{R:J6}{H:Heap}{n:Nat}{l:List yI}{k:KE}{p:P2}{x:X}{b:Bool}{c a:V}
end
section
variable{L:List V}{R:J6}{H:Heap}{n:Nat}{l:List AI}{k:KE}{p:P2}{x:X}{b:Bool}{c a:V}
theorem i0{K:K}(h:K R H n):DR [] G callE (.mk L R) H n (kR K):=h
end
section
variable{R:J6}{H:Heap}{n:Nat}{k:K}{x:KX}{r:K}{a b:AC}
end
section
variable{res rs:List AR}{dg:Nat}{R:J6}{H:Heap}{n:Nat}{k:KV}{l:LV}{p:P2}{a:V}{vs:List AVr}
end
end
abbrev SF:=BP->List V->Heap->Nat->KV->Prop
def ar0(s:BP->Heap->Nat->KV->Prop):SF:=λcall l H n k=>List.rec (motive:=λ_=>Prop) (s call H n k) (λ_ _ _=>False) l
def Gx(s:BP->V->Heap->Nat->KV->Prop):SF:=λcall l H n k=>List.rec (motive:=λ_=>Prop) False (λa l _=>ar0 (λcall=>s call a) call l H n k) l
def QH(s:BP->V->V->Heap->Nat->KV->Prop):SF:=λcall l H n k=>List.rec (motive:=λ_=>Prop) False (λa l _=>Gx (λcall=>s call a) call l H n k) l
def ar3(s:BP->V->V->V->Heap->Nat->KV->Prop):SF:=λcall l H n k=>List.rec (motive:=λ_=>Prop) False (λa l _=>QH (λcall=>s call a) call l H n k) l
def ar4(s:BP->V->V->V->V->Heap->Nat->KV->Prop):SF:=λcall l H n k=>List.rec (motive:=λ_=>Prop) False (λa l _=>ar3 (λcall=>s call a) call l H n k) l
theorem AMH{s:BP->Heap->Nat->KV->Prop}{call:BP}{l:List V}{H:Heap}{n:Nat}{k:KV}(h:ar0 s call l H n k):l=[]/\s call H n k:=by
 cases l with
 |nil=>exact⟨rfl,h⟩
 |cons=>exact(show False from h).elim
theorem ALw{s:BP->V->Heap->Nat->KV->Prop}{call:BP}{l:List V}{H:Heap}{n:Nat}{k:KV}(h:Gx s call l H n k):∃a0,l=[a0]/\s call a0 H n k:=by
 cases l with
 |nil=>exact(show False from h).elim
 |cons a l=>
  obtain⟨rfl,h⟩:=AMH (show ar0 (λcall=>s call a) call l H n k from h)
  exact⟨a,rfl,h⟩
theorem AL0{s:BP->V->V->Heap->Nat->KV->Prop}{call:BP}{l:List V}{H:Heap}{n:Nat}{k:KV}(h:QH s call l H n k):∃a0 a1,l=[a0,a1]/\s call a0 a1 H n k:=by
 cases l with
 |nil=>exact(show False from h).elim
 |cons a l=>
  obtain⟨b0,rfl,h⟩:=ALw (show Gx (λcall=>s call a) call l H n k from h)
  exact⟨a,b0,rfl,h⟩
theorem AL2{s:BP->V->V->V->Heap->Nat->KV->Prop}{call:BP}{l:List V}{H:Heap}{n:Nat}{k:KV}(h:ar3 s call l H n k):∃a0 a1 a2,l=[a0,a1,a2]/\s call a0 a1 a2 H n k:=by
 cases l with
 |nil=>exact(show False from h).elim
 |cons a l=>
  obtain⟨b0,b1,rfl,h⟩:=AL0 (show QH (λcall=>s call a) call l H n k from h)
  exact⟨a,b0,b1,rfl,h⟩
theorem AS5{s:BP->V->V->V->V->Heap->Nat->KV->Prop}{call:BP}{l:List V}{H:Heap}{n:Nat}{k:KV}(h:ar4 s call l H n k):∃a0 a1 a2 a3,l=[a0,a1,a2,a3]/\s call a0 a1 a2 a3 H n k:=by
 cases l with
 |nil=>exact(show False from h).elim
 |cons a l=>
  obtain⟨b0,b1,b2,rfl,h⟩:=AL2 (show ar3 (λcall=>s call a) call l H n k from h)
  exact⟨a,b0,b1,b2,rfl,h⟩
def AJx(G:AV)(af:AF)(s:SF):Prop:=∀call callE,Un call callE->Hg callE->∀args H n k,s call args H n k->AG2 af G callE args H n k
section
variable{E:RS}{G:AV}{H:Heap}{x:X}{a:Int}
end
@[congr] theorem AXO{o o':Option V}(f:V->Prop)(h:o=o'):AP o f=AP o' f:=by rw[h]
@[congr] theorem AXU{α:Type}{o o':Option α}(f:α->Prop)(h:o=o'):Hw o f=Hw o' f:=by rw[h]
@[congr] theorem AXX{b b':Bool}(p:Prop)(h:b=b'):Ed b p=Ed b' p:=by rw[h]
@[congr] theorem AT1{v v':V}(b:Bool)(p q:Prop)(h:v=v'):Ac v b p q=Ac v' b p q:=by rw[h]
@[congr] theorem AXN{c c':V}{b:Bool}{e:Option V}(f:V->Prop)(h:c=c'):Bc c b e f=Bc c' b e f:=by rw[h]
@[congr] theorem AWs{c c':V}{b:Bool}{t:KV->Prop}{H:Heap}{n:Nat}(f:KV)(h:c=c'):Uk c b t H n f=Uk c' b t H n f:=by rw[h]
@[congr] theorem AWr(F:T AF)(G:AV)(f:Nat){a a':List V}{H H':Heap}{n n':Nat}(k:KV)(h0:a=a')(h1:H=H')(h2:n=n'):Runs F G f a H n k=Runs F G f a' H' n' k:=by rw[h0,h1,h2]
theorem Aw(v:V)(f:V->Prop):AP (some v) f=f v:=rfl
theorem uV{α:Type}(v:α)(f:α->Prop):Hw (some v) f=f v:=rfl
theorem pz(p:Prop):Ed true p=p:=rfl
theorem Ah(p q:Prop):Ac (.bool true) true p q=p:=rfl
theorem Aq(p q:Prop):Ac (.bool false) true p q=q:=rfl
theorem AYx(e:Option V)(f:V->Prop):Bc (.bool true) true e f=AP e f:=rfl
theorem AYW(e:Option V)(f:V->Prop):Bc (.bool false) false e f=AP e f:=rfl
theorem AYs(e:Option V)(f:V->Prop):Bc (.bool true) false e f=f (.Jt []):=rfl
theorem AY6(e:Option V)(f:V->Prop):Bc (.bool false) true e f=f (.Jt []):=rfl
theorem AZp(b:Bool)(e:Option V)(f:V->Prop):Bc (.Jt []) b e f=f (.Jt []):=rfl
theorem AXj(t:KV->Prop)(H:Heap)(n:Nat)(f:KV):Uk (.bool true) true t H n f=t f:=rfl
theorem AYr(t:KV->Prop)(H:Heap)(n:Nat)(f:KV):Uk (.bool false) false t H n f=t f:=rfl
theorem AXv(t:KV->Prop)(H:Heap)(n:Nat)(f:KV):Uk (.bool true) false t H n f=f (.Jt []) H n:=rfl
theorem AYy(t:KV->Prop)(H:Heap)(n:Nat)(f:KV):Uk (.bool false) true t H n f=f (.Jt []) H n:=rfl
theorem Aab(b:Bool)(t:KV->Prop)(H:Heap)(n:Nat)(f:KV):Uk (.Jt []) b t H n f=f (.Jt []) H n:=rfl
theorem AYv(b:Bool):VU (.bool b)=some (.bool (!b)):=by cases b<;>rfl
theorem ASG(a b:V):DV (.bool true) a b=some a:=rfl
theorem ASa(a b:V):DV (.bool false) a b=some b:=rfl
theorem Aa(off id o:Nat):AU off (.ptr id o)=some (.ptr id (o+off)):=by show Dv (Nat.add o off) _=_;rw[Bz];rfl
theorem AFw(off id o:Nat):AU off (.WY id o)=some (.WY id (o+off)):=by show Dv (Nat.add o off) _=_;rw[Bz];rfl
theorem ASW(id o:Nat):Bh (.ptr id o)=some (.ptr id o):=rfl
theorem AAm(a:V)(l:List V):sS (.Jt (a::l)) 0=some a:=rfl
theorem ABQ(a b:V)(l:List V):sS (.Jt (a::b::l)) 1=some b:=rfl
theorem AVz(a b c:V)(l:List V):sS (.Jt (a::b::c::l)) 2=some c:=rfl
theorem AB4(a:V)(G:AV)(H:Heap):AX a G H=QC (ldP a G H 1) λL=>nth L 0:=rfl
theorem AE9(m:Nat)(a:V)(G:AV)(H:Heap):A8 m a G H=QC (ldP a G H m) λL=>some (.agg L):=rfl
theorem tV(id off:Nat)(G:AV)(H:Heap)(n:Nat):ldP (.ptr id off) G H n=lZ H id off n:=rfl
theorem AGX(L:LV)(f:LV->Option V):QC (some L) f=f L:=rfl
def one(L:LV):RV:=.arr L.length 1 (T.set .e 0 L)
theorem AUK{v:V}{H:Heap}{n:Nat}{P:KV}(h:jV v=true):DW (JB v) H n P=P (.ptr n 0) (T.set H n (one (CX v))) (n+1):=by
 show Ed (jV v) (ET (len (CX v)) λe=>ET n λn=>P (.ptr n 0) (T.set H n (.arr e 1 (T.set .e 0 (CX v)))) (Nat.succ n))=_
 rw[CJ,CJ,len_eq,h]
 rfl
theorem ALJ{z:Nat}{L:LV}{H:Heap}{n:Nat}{P:KV}(h:L.length=z):DW (BA z [L] E0) H n P=P (.ptr n 0) (T.set H n (one L)) (n+1):=by
 show ET (len [L]) (λm=>ET n λn=>P (.ptr n 0) (T.set H n (.arr z m (Fb [L] 0 .e))) (Nat.succ n))=_
 rw[CJ,CJ,len_eq]
 subst h
 rfl
theorem AOl{H:Heap}{id:Nat}{L:LV}(h:T.get H id=some (one L)){off m:Nat}(hm:0<m)(hl:off+m<=L.length):lZ H id off m=some ((L.drop off).take m):=by
 unfold lZ
 rw[h]
 show ldB L.length 1 (T.set .e 0 L) off m=_
 unfold ldB
 have hdiv:off/L.length=0:=Nat.div_eq_of_lt (by omega)
 have hmod:off%L.length=off:=Nat.mod_eq_of_lt (by omega)
 have hb:Nat.blt (Nat.div off L.length) 1=true:=by rw[Nat.blt_eq];show off/L.length<1;omega
 rw[hb]
 show DJ (T.get (T.set T.e 0 L) (Nat.div off L.length)) (ldC L.length off m)=_
 have hg2:T.get (T.set T.e 0 L) (Nat.div off L.length)=some L:=by
  show T.get (T.set T.e 0 L) (off/L.length)=some L
  rw[hdiv];simp
 rw[hg2]
 show ldC L.length off m L=_
 unfold ldC
 cases hc:band (Nat.beq m L.length) (Nat.beq (Nat.mod off L.length) 0)with
 |true=>
  simp only[CV,Bool.and_eq_true,beq_iff]at hc
  obtain⟨h1,h2⟩:=hc
  have h2':off=0:=by have:off%L.length=0:=h2;omega
  subst h2'
  simp[h1]
 |false=>
  have hf:Nat.ble (Nat.add (Nat.mod off L.length) m) L.length=true:=by
   rw[Nat.ble_eq];show off%L.length+m<=L.length;omega
  rw[hf]
  show some (Yq m (lW (Nat.mod off L.length) L))=_
  rw[fQ,qC]
  show some (List.take m (List.drop (off%L.length) L))=_
  rw[hmod]
theorem AWl{H:Heap}{id:Nat}{L:LV}(h:T.get H id=some (one L)){off m:Nat}{new:LV}(hm:0<m)(hn:new.length=m)(hl:off+m<=L.length):stH H id off m new=some (T.set H id (one (L.take off++(new++L.drop (off+m))))):=by
 unfold stH
 rw[h]
 show DJ (stB L.length 1 (T.set .e 0 L) off m new) (λb=>some (T.set H id b))=_
 have hdiv:Nat.div off L.length=0:=Nat.div_eq_of_lt (by omega)
 have hmod:Nat.mod off L.length=off:=Nat.mod_eq_of_lt (by omega)
 have hs:stB L.length 1 (T.set .e 0 L) off m new=some (one (L.take off++(new++L.drop (off+m)))):=by
  unfold stB
  rw[hdiv]
  show DJ (T.get (T.set T.e 0 L) 0) (eu new L.length 1 (T.set .e 0 L) off m)=_
  rw[T.C9]
  show eu new L.length 1 (T.set .e 0 L) off m L=_
  unfold eu
  rw[hmod,hdiv]
  have hlen:(L.take off++(new++L.drop (off+m))).length=L.length:=by simp;omega
  cases hc:band (Nat.beq m L.length) (Nat.beq off 0)with
  |true=>
   simp only[CV,Bool.and_eq_true,beq_iff]at hc
   obtain⟨h1,h2⟩:=hc
   subst h2
   show some (RV.arr L.length 1 (T.set (T.set T.e 0 L) 0 new))=_
   unfold one
   rw[hlen]
   have:List.take 0 L++(new++List.drop (0+m) L)=new:=by simp[h1]
   rw[this];rfl
  |false=>
   have hf:Nat.ble (Nat.add off m) L.length=true:=by rw[Nat.ble_eq];exact hl
   rw[hf]
   show some (RV.arr L.length 1 (T.set (T.set T.e 0 L) 0 (AJV new off L)))=_
   unfold one
   rw[hlen,AGT,hn];rfl
 rw[hs]
 rfl
theorem Am{F:T AF}{G:AV}{f:Nat}{af:AF}{s:SF}(hf:T.get F f=some af)(hs:AJx G af s){args:List V}{H:Heap}{n:Nat}{k:KV}(h:s (Runs F G) args H n k):Runs F G f args H n k:=
 AEW hf (hs _ _ (λ_ _ _ _ _ h=>h) (AAL F G) _ _ _ _ h)
def goN(x:X)(b:Bool)(d:sQ)(o:AN):XpT:=λG _ R H n k=>Bc (x.ev R) b (o.ev G R H) λv=>k (Gn d v R) H n
def goA(x:X)(b:Bool)(d:sQ)(o:AA):XpT:=λ_ _ R H n k=>Uk (x.ev R) b (DW (o.al R) H n) H n λv H n=>k (Gn d v R) H n
def goE(x:X)(b:Bool)(d:sQ)(o:AE):XpT:=λG call R H n k=>Uk (x.ev R) b (o.ex G call R H n) H n λv H n=>k (Gn d v R) H n
def Aac(x:X)(b:Bool)(d:sQ)(o:AO):XpT:=AO.rec (motive:=λ_=>XpT) (goN x b d) (goA x b d) (goE x b d) o
def oAG(o:AA):XoT:=λ_ _ d R H n k=>DW (o.al R) H n λv H n=>k (Gn d v R) H n
def AO.exG(o:AO):XoT:=AO.rec (motive:=λ_=>XoT) oN oAG oE o
def AZx(d:sQ)(o:AO):XpT:=λG call R H n k=>o.exG G call d R H n k
def yI.exG(o:yI):XpT:=yI.rec (motive:=λ_=>XpT) (λd g o=>Gd.rec (motive:=λ_=>sQ->AO->XpT) AZx Aac g d o) o
theorem AMI(o:yI):o.exG=o.ex:=by
 obtain⟨d,g,o⟩:=o
 cases g<;>cases o<;>rfl
def AJb(l:List yI):XpT:=
 List.rec (motive:=λ_=>XpT) (λ_ _ R H n k=>k R H n) (λo _ g G call R H n k=>o.exG G call R H n λR H n=>g G call R H n k) l
theorem ALm:∀l:List yI,AJb l=Qx l
 |[]=>rfl
 |o::l=>by
  show(λG call R H n k=>o.exG G call R H n λR H n=>AJb l G call R H n k)=λG call R H n k=>o.ex G call R H n λR H n=>Qx l G call R H n k
  rw[ALm l,AMI]
def AYB(x:X)(b:Bool):ReT:=λG R H d o k=>AZv (x.ev R) b (o.ev G R H) (Nu (T.Ea d R.rg)) k
def AYE(g:Gd):ReT:=Gd.rec (motive:=λ_=>ReT) AY1 AYB g
def AI.exG(i:AI):XpT:=AI.rec (motive:=λ_=>XpT) (λo=>o.exG) (λd g o G _ R H n k=>AYE g G R H d o (k R H n)) i
theorem AWg(i:AI):i.exG=i.ex:=by
 cases i with
 |op o=>exact AMI o
 |re d g o=>cases g<;>rfl
def ADV(l:List AI):XpT:=
 List.rec (motive:=λ_=>XpT) (λ_ _ R H n k=>k R H n) (λi _ g G call R H n k=>i.exG G call R H n λR H n=>g G call R H n k) l
theorem AE5:∀l:List AI,ADV l=DR l
 |[]=>rfl
 |o::l=>by
  show(λG call R H n k=>o.exG G call R H n λR H n=>ADV l G call R H n k)=λG call R H n k=>o.ex G call R H n λR H n=>DR l G call R H n k
  rw[AE5 l,AWg]
def APM(l:List yI):M:=λG call _ R H n k _ _=>AJb l G call (.mk [] R) H n λE H n=>k E.rg H n
def ANt(l:List AI):M:=λG call _ R H n k _ _=>ADV l G call (.mk [] R) H n λE H n=>k E.rg H n
def AC.exG(c:AC):M:=AC.rec (motive:=λ_=>M) Dx APM ANt APW AIe ADc AF4 AOr AVR c
theorem wS:∀c:AC,c.exG=c.exL
 |.skip=>rfl
 |.ops l=>by show APM l=AR9 l;unfold APM AR9;rw[ALm]
 |.reg l=>by show ANt l=AR0 l;unfold ANt AR0;rw[AE5]
 |.seq a b=>by show APW a b a.exG b.exG=APW a b a.exL b.exL;rw[wS a,wS b]
 |.cond x a b=>by show AIe x a b a.exG b.exG=AIe x a b a.exL b.exL;rw[wS a,wS b]
 |.block i a=>by show ADc i a a.exG=ADc i a a.exL;rw[wS a]
 |.loop a=>by show AF4 a a.exG=AF4 a a.exL;rw[wS a]
 |.exit i=>rfl
 |.ret=>rfl
inductive An:Type 1 where
 |n
 |s (a b:An)
 |j (S:K) (a b:An)
 |c (a b:An)
 |b (a:An)
 |l (σ:Type) (bd:(σ->Prop)->σ->Prop) (st:J6->Heap->Nat->σ) (a:(σ->Prop)->An)
abbrev M2:=AC->AV->BP->J6->Heap->Nat->K->KX->K->Prop
def AC.AIr(c:AC)(f:AC->AC->Prop):Prop:=AC.rec (motive:=λ_=>Prop) False (λ_=>False) (λ_=>False) (λa b _ _=>f a b) (λ_ _ _ _ _=>False) (λ_ _ _=>False) (λ_ _=>False) (λ_=>False) False c
def AC.AKF(c:AC)(f:X->AC->AC->Prop):Prop:=AC.rec (motive:=λ_=>Prop) False (λ_=>False) (λ_=>False) (λ_ _ _ _=>False) (λx a b _ _=>f x a b) (λ_ _ _=>False) (λ_ _=>False) (λ_=>False) False c
def AC.AFp(c:AC)(f:Nat->AC->Prop):Prop:=AC.rec (motive:=λ_=>Prop) False (λ_=>False) (λ_=>False) (λ_ _ _ _=>False) (λ_ _ _ _ _=>False) (λi a _=>f i a) (λ_ _=>False) (λ_=>False) False c
def AC.AJm(c:AC)(f:AC->Prop):Prop:=AC.rec (motive:=λ_=>Prop) False (λ_=>False) (λ_=>False) (λ_ _ _ _=>False) (λ_ _ _ _ _=>False) (λ_ _ _=>False) (λa _=>f a) (λ_=>False) False c
def An.ex(L:Fa)(an:An):M2:=
 An.rec (motive:=λ_=>M2)
  (λc G call R H n k x r=>c.exG G call 0 R H n k x r)
  (λ_ _ ga gb c G call R H n k x r=>c.AIr λa b=>ga a G call R H n (λR H n=>gb b G call R H n k x r) x r)
  (λS _ _ ga _ c G call R H n _ x r=>c.AIr λa _=>ga a G call R H n S x r)
  (λ_ _ ga gb c G call R H n k x r=>c.AKF λy a b=>Ac (y.ev (.mk [] R)) true (ga a G call R H n k x r) (gb b G call R H n k x r))
  (λ_ ga c G call R H n k x r=>c.AFp λi a=>ga a G call R H n k (Ib i k x) r)
  (fun σ bd st _ _ c _ _ R H n _ _ _=>c.AJm λ_=>L σ bd (st R H n)) an
abbrev M3:=AC->AV->BP->K->KX->K->Prop
def An.ob(L:Fa)(an:An):M3:=
 An.rec (motive:=λ_=>M3)
  (λ_ _ _ _ _ _=>True)
  (λ_ b ga gb c G call k x r=>c.AIr λa d=>ga a G call (λR H n=>b.ex L d G call R H n k x r) x r/\gb d G call k x r)
  (λS _ b ga gb c G call k x r=>c.AIr λa d=>ga a G call S x r/\(∀R H n,S R H n=b.ex L d G call R H n k x r)/\gb d G call k x r)
  (λ_ _ ga gb c G call k x r=>c.AKF λ_ a b=>ga a G call k x r/\gb b G call k x r)
  (λ_ ga c G call k x r=>c.AFp λi a=>ga a G call k (Ib i k x) r)
  (fun σ bd st a ga c G call _ x r=>c.AJm λd=>∀ih:σ->Prop,(∀R H n,bd ih (st R H n)=(a ih).ex L d G call R H n (λR H n=>ih (st R H n)) x r)/\ga ih d G call (λR H n=>ih (st R H n)) x r) an
def AC.AN7(c:AC)(f:AC->AC->Prop):Prop:=AC.rec (motive:=λ_=>Prop) True (λ_=>True) (λ_=>True) (λa b _ _=>f a b) (λ_ _ _ _ _=>True) (λ_ _ _=>True) (λ_ _=>True) (λ_=>True) True c
def AC.ARA(c:AC)(f:X->AC->AC->Prop):Prop:=AC.rec (motive:=λ_=>Prop) True (λ_=>True) (λ_=>True) (λ_ _ _ _=>True) (λx a b _ _=>f x a b) (λ_ _ _=>True) (λ_ _=>True) (λ_=>True) True c
def AC.APQ(c:AC)(f:Nat->AC->Prop):Prop:=AC.rec (motive:=λ_=>Prop) True (λ_=>True) (λ_=>True) (λ_ _ _ _=>True) (λ_ _ _ _ _=>True) (λi a _=>f i a) (λ_ _=>True) (λ_=>True) True c
def AC.ARh(c:AC)(f:AC->Prop):Prop:=AC.rec (motive:=λ_=>Prop) True (λ_=>True) (λ_=>True) (λ_ _ _ _=>True) (λ_ _ _ _ _=>True) (λ_ _ _=>True) (λa _=>f a) (λ_=>True) True c
def An.obR(L:Fa)(an:An):M3:=
 An.rec (motive:=λ_=>M3)
  (λ_ _ _ _ _ _=>True)
  (λ_ b ga gb c G call k x r=>c.AN7 λa d=>ga a G call (λR H n=>b.ex L d G call R H n k x r) x r/\gb d G call k x r)
  (λS _ b ga gb c G call k x r=>c.AN7 λa d=>ga a G call S x r/\(∀R H n,S R H n=S R H n)/\gb d G call k x r)
  (λ_ _ ga gb c G call k x r=>c.ARA λ_ a b=>ga a G call k x r/\gb b G call k x r)
  (λ_ ga c G call k x r=>c.APQ λi a=>ga a G call k (Ib i k x) r)
  (fun σ bd st a ga c G call _ x r=>c.ARh λd=>∀ih:σ->Prop,(∀R H n,bd ih (st R H n)=bd ih (st R H n))/\ga ih d G call (λR H n=>ih (st R H n)) x r) an
theorem An.AWq(L:Fa)(an:An):∀c G call k x r,an.obR L c G call k x r:=by
 induction an with
 |n=>exact λ_ _ _ _ _ _=>trivial
 |s a b iha ihb=>intro c;cases c<;>first|exact λ_ _ _ _ _=>trivial|exact λG call k x r=>⟨iha _ _ _ _ _ _,ihb _ _ _ _ _ _⟩
 |j S a b iha ihb=>intro c;cases c<;>first|exact λ_ _ _ _ _=>trivial|exact λG call k x r=>⟨iha _ _ _ _ _ _,λ_ _ _=>rfl,ihb _ _ _ _ _ _⟩
 |c a b iha ihb=>intro c;cases c<;>first|exact λ_ _ _ _ _=>trivial|exact λG call k x r=>⟨iha _ _ _ _ _ _,ihb _ _ _ _ _ _⟩
 |b a iha=>intro c;cases c<;>first|exact λ_ _ _ _ _=>trivial|exact λG call k x r=>iha _ _ _ _ _ _
 |l σ bd st a iha=>intro c;cases c<;>first|exact λ_ _ _ _ _=>trivial|exact λG call k x r ih=>⟨λ_ _ _=>rfl,iha ih _ _ _ _ _ _⟩
theorem AFM{c:AC}{f:AC->AC->Prop}(h:c.AIr f):∃a b,c=.seq a b/\f a b:=by
 cases c<;>first|exact⟨_,_,rfl,h⟩|exact(show False from h).elim
theorem AKG{c:AC}{f:X->AC->AC->Prop}(h:c.AKF f):∃x a b,c=.cond x a b/\f x a b:=by
 cases c<;>first|exact⟨_,_,_,rfl,h⟩|exact(show False from h).elim
theorem AHV{c:AC}{f:Nat->AC->Prop}(h:c.AFp f):∃i a,c=.block i a/\f i a:=by
 cases c<;>first|exact⟨_,_,rfl,h⟩|exact(show False from h).elim
theorem AKE{c:AC}{f:AC->Prop}(h:c.AJm f):∃a,c=.loop a/\f a:=by
 cases c<;>first|exact⟨_,rfl,h⟩|exact(show False from h).elim
section
variable{G:AV}{call callE:BP}
theorem AS9{c:AC}{R:J6}{H:Heap}{n:Nat}{k:K}{x:KX}{r:K}(h:c.exG G call 0 R H n k x r):c.exL G call 0 R H n k x r:=by rwa [wS]at h
theorem xG(hle:Un call callE)(hd:Hg callE):∀(c:AC) (R:J6) (H:Heap) (n:Nat) (k k':K) (x x':KX) (r r':K),(∀R H n,k R H n->k' R H n)->(∀i R H n,x i R H n->x' i R H n)->(∀R H n,r R H n->r' R H n)->
 c.exL G call 0 R H n k x r->c.exL G callE 0 R H n k' x' r'
 |.skip,R,H,n,k,k',x,x',r,r',hk,hx,hr,h=>hk _ _ _ h
 |.ops l,R,H,n,k,k',x,x',r,r',hk,hx,hr,h=>AQN hd l _ H n (λE H n h=>hk _ _ _ h) (AJf hd hle G l _ H n _ h)
 |.reg l,R,H,n,k,k',x,x',r,r',hk,hx,hr,h=>AJw hd l _ H n (λE H n h=>hk _ _ _ h) (AEX hd hle G l _ H n _ h)
 |.seq a b,R,H,n,k,k',x,x',r,r',hk,hx,hr,h=>xG hle hd a R H n _ _ x x' r r' (λR H n h=>xG hle hd b R H n k k' x x' r r' hk hx hr h) hx hr h
 |.cond c a b,R,H,n,k,k',x,x',r,r',hk,hx,hr,h=>by
  have h':Ac (c.ev (.mk [] R)) true (a.exL G call 0 R H n k x r) (b.exL G call 0 R H n k x r):=h
  show Ac (c.ev (.mk [] R)) true (a.exL G callE 0 R H n k' x' r') (b.exL G callE 0 R H n k' x' r')
  exact ADh h' (xG hle hd a R H n k k' x x' r r' hk hx hr) (xG hle hd b R H n k k' x x' r r' hk hx hr)
 |.block id a,R,H,n,k,k',x,x',r,r',hk,hx,hr,h=>by
  refine xG hle hd a R H n k k' (Ib id k x) (Ib id k' x') r r' hk (λi R H n h=>?_) hr h
  unfold Ib at h⊢
  cases hb:Nat.beq i id with
  |true=>rw[hb]at h;exact hk _ _ _ h
  |false=>rw[hb]at h;exact hx _ _ _ _ h
 |.loop a,R,H,n,k,k',x,x',r,r',hk,hx,hr,h=>by
  intro I hI
  exact h I λR H n hb=>hI R H n (xG hle hd a R H n I I x x' r r' (λ_ _ _ h=>h) hx hr hb)
 |.exit i,R,H,n,k,k',x,x',r,r',hk,hx,hr,h=>hx _ _ _ _ h
 |.ret,R,H,n,k,k',x,x',r,r',hk,hx,hr,h=>hr _ _ _ h
theorem An.ok{L:Fa}(hL:D8 L)(hle:Un call callE)(hd:Hg callE)(an:An):∀(c:AC) (k k':K) (x x':KX) (r r':K),(∀R H n,k R H n->k' R H n)->(∀i R H n,x i R H n->x' i R H n)->(∀R H n,r R H n->r' R H n)->
 an.ob L c G call k x r->∀R H n,an.ex L c G call R H n k x r->c.exL G callE 0 R H n k' x' r':=by
 induction an with
 |n=>exact λc k k' x x' r r' hk hx hr _ R H n h=>xG hle hd c R H n k k' x x' r r' hk hx hr (AS9 h)
 |s a b iha ihb=>
  intro c k k' x x' r r' hk hx hr ho R H n h
  obtain⟨c1,c2,rfl,ho⟩:=AFM ho
  exact iha c1 _ _ x x' r r' (λR H n h=>ihb c2 k k' x x' r r' hk hx hr ho.2 R H n h) hx hr ho.1 R H n h
 |j S a b iha ihb=>
  intro c k k' x x' r r' hk hx hr ho R H n h
  obtain⟨c1,c2,rfl,ho⟩:=AFM ho
  exact iha c1 S (λR H n=>c2.exL G callE 0 R H n k' x' r') x x' r r' (λR H n h=>ihb c2 k k' x x' r r' hk hx hr ho.2.2 R H n (ho.2.1 R H n▸h)) hx hr ho.1 R H n h
 |c a b iha ihb=>
  intro c k k' x x' r r' hk hx hr ho R H n h
  obtain⟨y,c1,c2,rfl,ho⟩:=AKG ho
  exact ADh (P':=c1.exL G callE 0 R H n k' x' r') (Q':=c2.exL G callE 0 R H n k' x' r') h (λh=>iha c1 k k' x x' r r' hk hx hr ho.1 R H n h) (λh=>ihb c2 k k' x x' r r' hk hx hr ho.2 R H n h)
 |b a iha=>
  intro c k k' x x' r r' hk hx hr ho R H n h
  obtain⟨i,c1,rfl,ho⟩:=AHV ho
  refine iha c1 k k' (Ib i k x) (Ib i k' x') r r' hk (λj R H n h=>?_) hr ho R H n h
  unfold Ib at h⊢
  cases hb:Nat.beq j i with
  |true=>rw[hb]at h;exact hk _ _ _ h
  |false=>rw[hb]at h;exact hx _ _ _ _ h
 |l σ bd st a iha=>
  intro c k k' x x' r r' hk hx hr ho R H n h
  obtain⟨c1,rfl,ho⟩:=AKE ho
  intro I hI
  have h':L σ bd (st R H n):=h
  refine hL σ bd (λs=>∀R H n,st R H n=s->I R H n) (λih hih s hs R H n e=>?_) _ h' R H n rfl
  subst e
  rw[(ho ih).1]at hs
  exact hI R H n (iha ih c1 (λR H n=>ih (st R H n)) I x x' r r' (λR H n h=>hih _ h R H n rfl) hx hr (ho ih).2 R H n hs)
end
def fEx(L:Fa)(an:An)(af:AF)(G:AV)(call:BP)(args:List V)(H:Heap)(n:Nat)(k:KV):Prop:=
 AF.rec (motive:=λ_=>Prop) (λnp code res d dg=>Ed (Nat.beq (len args) np) (an.ex L code G call (fK args 0 .e) H n (J8 res dg d G call k) noX (J8 res dg d G call k))) (λf=>oU f G args H n k) af
def fOb(L:Fa)(an:An)(af:AF)(G:AV)(call:BP)(k:KV):Prop:=
 AF.rec (motive:=λ_=>Prop) (λ_ code res d dg=>an.ob L code G call (J8 res dg d G call k) noX (J8 res dg d G call k)) (λ_=>True) af
def AaP(L:Fa)(an:An)(af:AF)(G:AV)(call:BP)(k:KV):Prop:=
 AF.rec (motive:=λ_=>Prop) (λ_ code res d dg=>an.obR L code G call (J8 res dg d G call k) noX (J8 res dg d G call k)) (λ_=>True) af
theorem obs{L:Fa}{an:An}{af:AF}{G:AV}{call:BP}{k:KV}(h:AaP L an af G call k=fOb L an af G call k):fOb L an af G call k:=by
 rw[<-h];cases af with
 |mk=>exact An.AWq ..
 |nat=>exact trivial
theorem AEF{L:Fa}(hL:D8 L){G:AV}{call callE:BP}(hle:Un call callE)(hd:Hg callE){an:An}{af:AF}{args:List V}{H:Heap}{n:Nat}{k:KV}(ho:fOb L an af G call k)(h:fEx L an af G call args H n k):AG2 af G callE args H n k:=by
 cases af with
 |nat=>exact h
 |mk np code res d dg=>
 have h':Ed (Nat.beq (len args) np) (an.ex L code G call (fK args 0 .e) H n (J8 res dg d G call k) noX (J8 res dg d G call k)):=h
 show Ed (Nat.beq (len args) np) (code.exL G callE 0 (fK args 0 .e) H n (J8 res dg d G callE k) noX (J8 res dg d G callE k))
 rw[Ez]at h'⊢
 exact⟨h'.1,An.ok hL hle hd an code _ _ _ _ _ _ (λR H n h=>fF hd hle res dg d G k R H n h) (λ_ _ _ _ h=>h) (λR H n h=>fF hd hle res dg d G k R H n h) ho _ _ _ h'.2⟩
section
variable{L:Fa}(hL:D8 L){G:AV}{af:AF}{an:BP->KV->An}(ho:∀call k,fOb L (an call k) af G call k)
include hL ho
theorem sf0{s:BP->Heap->Nat->KV->Prop}(h:∀call H n k,s call H n k=fEx L (an call k) af G call [] H n k):AJx G af (ar0 s):=λcall callE hle hd l H n k hs=>by
 obtain⟨rfl,hs⟩:=AMH hs;exact AEF hL hle hd (ho call k) (h .. ▸hs)
theorem YG{s:BP->V->Heap->Nat->KV->Prop}(h:∀call a0 H n k,s call a0 H n k=fEx L (an call k) af G call [a0] H n k):AJx G af (Gx s):=λcall callE hle hd l H n k hs=>by
 obtain⟨a0,rfl,hs⟩:=ALw hs;exact AEF hL hle hd (ho call k) (h .. ▸hs)
theorem yK{s:BP->V->V->Heap->Nat->KV->Prop}(h:∀call a0 a1 H n k,s call a0 a1 H n k=fEx L (an call k) af G call [a0,a1] H n k):AJx G af (QH s):=λcall callE hle hd l H n k hs=>by
 obtain⟨a0,a1,rfl,hs⟩:=AL0 hs;exact AEF hL hle hd (ho call k) (h .. ▸hs)
theorem sf3{s:BP->V->V->V->Heap->Nat->KV->Prop}(h:∀call a0 a1 a2 H n k,s call a0 a1 a2 H n k=fEx L (an call k) af G call [a0,a1,a2] H n k):AJx G af (ar3 s):=λcall callE hle hd l H n k hs=>by
 obtain⟨a0,a1,a2,rfl,hs⟩:=AL2 hs;exact AEF hL hle hd (ho call k) (h .. ▸hs)
theorem sf4{s:BP->V->V->V->V->Heap->Nat->KV->Prop}(h:∀call a0 a1 a2 a3 H n k,s call a0 a1 a2 a3 H n k=fEx L (an call k) af G call [a0,a1,a2,a3] H n k):AJx G af (ar4 s):=λcall callE hle hd l H n k hs=>by
 obtain⟨a0,a1,a2,a3,rfl,hs⟩:=AS5 hs;exact AEF hL hle hd (ho call k) (h .. ▸hs)
end
def inR(l:List (Nat×Nat))(t:Nat):Bool:=l.any λp=>Nat.ble p.1 t&&Nat.ble t p.2
def opp(l:List Nat):List (Nat×Wk):=l.map λj=>(j,.plain)
def dR(n:Nat):List (Nat×Wk):=opp (List.range n)
def Bo(o:Option AF):AF:=o.getD (.mk 0 .skip [] .no 0)
theorem Ag{o:Option AF}(h:o.isSome=true):o=some (Bo o):=by
 cases o with
 |none=>cases h
 |some a=>rfl
theorem xH.one{P:Program}{F:T AF}{f:Nat}{af:AF}{fn:Func}{loc:Nat->Bool}{df:Bool}{ords:AIi}{dg:Nat}(hf:P.funcs[f]? =some fn)(hn:(fn.name== "runtime.NumGoroutine")=false)
 (ht:trF P loc df ords dg fn=some af) (hd:af.dg=dg) (hi:AK2 af.dp=true):xH P F f af:=.code ⟨⟨fn,loc,df,ords,hf,hn,hd▸ht⟩,.inl hi⟩
theorem xH.two{P:Program}{F:T AF}{f:Nat}{af af':AF}{fn:Func}{loc:Nat->Bool}{df:Bool}{ords:AIi}{dg:Nat}(hf:P.funcs[f]? =some fn)(hn:(fn.name== "runtime.NumGoroutine")=false)
 (ht:trF P loc df ords dg fn=some af) (hd:af.dg=dg) (ha:T.get F dg=some af') (hi:AK2 af'.dp=true):xH P F f af:=.code ⟨⟨fn,loc,df,ords,hf,hn,hd▸ht⟩,.inr ⟨af',hd▸ha,hi⟩⟩
end Go.Eng
namespace Go.Eng
theorem wrap64(a:Int):IntKind.wrap .i64 a=if 9223372036854775808<=a%18446744073709551616 then a%18446744073709551616-18446744073709551616 else a%18446744073709551616:=by
 show(if(true&&decide (a%18446744073709551616≥9223372036854775808))=true then a%18446744073709551616-18446744073709551616 else a%18446744073709551616)=_
 by_cases h:9223372036854775808<=a%18446744073709551616
 ·rw[if_pos h,if_pos (by simpa using h)]
 ·rw[if_neg h,if_neg (by simpa using h)]
theorem iO{x:Int}(h1: -9223372036854775808<=x)(h2:x<9223372036854775808):IntKind.wrap .i64 x=x:=by
 rw[wrap64];split<;>omega
end Go.Eng
