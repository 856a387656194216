/- Part of a proof; nothing is assumed. -/
import Derived.Test.YtcjkfmaoahojeaaGreatDoorEngE
set_option linter.unusedVariables false
set_option linter.unusedSimpArgs false
noncomputable section
namespace Go.Eng
def P2.beq(p:P2):P2->Bool:=
 P2.rec (motive:=λ_=>P2->Bool) (λq=>P2.rec (motive:=λ_=>Bool) true (λ_ _=>false) (λ_ _=>false) q)
  (λ_ g q=>P2.rec (motive:=λ_=>Bool) false (λq _=>g q) (λ_ _=>false) q)
  (λ_ g q=>P2.rec (motive:=λ_=>Bool) false (λ_ _=>false) (λq _=>g q) q) p
theorem P2.AD8:∀p:P2,P2.beq p p=true
 |.h=>rfl
 |.z p=>P2.AD8 p
 |.o p=>P2.AD8 p
abbrev rg(R:KG)(p:P2):V:=OD (T.Ed p R)
theorem ne{R:KG}{p q:P2}{v a:V}(hb:P2.beq q p=false)(h:rg R p=a):rg (T.aW v q R) p=a:=by
 show OD (T.Ed p (T.aW v q R))=a
 rw[T.JL _ _ _ _ (λe=>by subst e;rw[P2.AD8]at hb;cases hb)]
 exact h
abbrev F5:=(σ:Type)->((σ->Prop)->σ->Prop)->σ->Prop
def EC(L:F5):Prop:=∀(σ:Type) (b:(σ->Prop)->σ->Prop) (P:σ->Prop),(∀ih,(∀s,ih s->P s)->∀s,b ih s->P s)->∀s,L σ b s->P s
def lfp:F5:=fun σ b s=>∀I:σ->Prop,(∀s,b I s->I s)->I s
theorem Ap:EC lfp:=λ_ _ P h _ hL=>hL P (h P λ_ h=>h)
def E0:RS:=.mk [] .e
def DZ(c a b:V):Option V:=c.pY λt=>ABS t (some a) (some b)
def AX(a:V)(G:AV)(H:Heap):Option V:=QT (ldP a G H 1) λL=>nth L 0
def BF(n:Nat)(a:V)(G:AV)(H:Heap):Option V:=QT (ldP a G H n) λL=>some (.agg L)
def Vb(a:V):Option V:=a.pY λb=>mkB (Yi b)
def AaK(a:V):Option V:=a.IL λk n s=>mkI k (Int.neg n) s
def AA1(k:IntKind)(a:V):Option V:=a.IL λ_ n s=>mkI k n s
def ATr(off:Nat)(a:V):Option V:=a.tC λl=>nth l off
def AYu(off n:Nat)(a:V):Option V:=a.tC λl=>some (.agg (ZK n (mg off l)))
def AHh(n esz:Nat)(a i:V):Option V:=WW i λi=>BP (Nat.blt i n) (AU (Nat.mul i esz) a)
def Kz(a i:V):Option V:=a.Tc λln c=>WW i λi=>BP (Nat.blt i ln) (Dz (AN3 c i) λb=>some (.int .u8 (.ofNat b) 0))
def AUx(n:Nat)(a i:V):Option V:=a.tC λl=>WW i λi=>BP (Nat.blt i n) (nth l i)
def kP(a:V)(i:Nat):Option V:=a.AIY λl=>nth l i
def N8(a:V):Option V:=a.Tc λn _=>some (.int .i64 (.ofNat n) 0)
def Bh(z:LV)(ps:List (Nat×Nat×X)):Option V:=BP (kX ps E0) (some (.agg (ACT ps E0 z)))
def ALf(n esz:Nat)(a:V)(lo hi:Option X):Option V:=a.AFx (λid o=>Zp hi E0 n λh=>Zp lo E0 0 λl=>
 BP (band (Nat.beq (Nat.mod o esz) 0) (band (Nat.ble l h) (Nat.ble h n))) (f3 (Nat.add (Nat.div o esz) l) (Nat.sub h l) (Nat.sub n l) λa b c=>.sl id a b c esz)) (λ_ _=>none)
def APw(x y:V):Option V:=x.IL λk a s=>y.IL λk' b t=>BP (band (keq k k') (Nat.beq (Nat.add s t) 0)) (some (.int k (Bool.rec a b (ilt a b)) 0))
def AaM(x y:V):Option V:=x.IL λk a s=>y.IL λk' b t=>BP (band (keq k k') (Nat.beq (Nat.add s t) 0)) (some (.int k (Bool.rec a b (ilt b a)) 0))
def ANk(a:V)(G:AV)(H:Heap):Option V:=BP (Yi (isStr a)) (DR (elems a G H 1) λl=>DR (AAq l) λc=>f3 (len l) c 0 λn c _=>.str n c)
def AO4(s c:V):Option V:=s.Tc λn cd=>c.IL λk b _=>BP (Nat.beq (kno k) 4) (AQh b λb=>BP (Nat.blt b 256) (P5 (fK b n cd 0) λi=>some (.int .i64 i 0)))
def JJ(v:V)(k:KA):Prop:=En (kD v) (Ea (len (CZ v)) λe=>k (.arr e 1 (T.set .e 0 (CZ v))) λid=>.ptr id 0)
def CP(sz:Nat)(a b:V)(H:Heap)(n:Nat)(k:KV):Prop:=En (band (kD b) (Nat.beq (len (CZ b)) sz)) (IV (stP a H sz (CZ b)) λH=>k .undef H n)
def X0(esz bs:Nat)(a b:V)(G:AV)(H:Heap)(n:Nat)(k:KV):Prop:=IV (elems b G H esz) λLS=>AJf a G esz bs LS H n k
def FW(x:V)(args:List V)(call:BQ)(H:Heap)(n:Nat)(k:KV):Prop:=V.WX x λf a c=>call f (cat a (cat args c)) H n k
def AEf(d x:V)(args:List V)(H:Heap)(n:Nat)(k:KV):Prop:=V.WX x λf a c=>k (.J4 (.fn f (cat a args) c::uY d)) H n
def AZV(a:V)(H:Heap)(n:Nat)(k:KV):Prop:=IV (a.Tc λl c=>some (.ptr l c)) λv=>V.zM v λl c=>
 Ea n λn=>k (.O5 n 0 l 1) (T.set H n (.arr 1 l (GH (VB l c) 0 .e))) (Nat.succ n)
def Bd(c:V)(b:Bool)(e:Option V)(P:V->Prop):Prop:=oI c b (AP e P) (P (.J4 []))
def DY(al:KA->Prop)(H:Heap)(n:Nat)(P:KV):Prop:=al λb f=>Ea n λn=>P (f n) (T.set H n b) (Nat.succ n)
def UO(c:V)(b:Bool)(t:KV->Prop)(H:Heap)(n:Nat)(P:KV):Prop:=oI c b (t P) (P (.J4 []) H n)
inductive AVr where
 |t (v:V)|c1 (v:V)|cn (v:V) (n:Nat)
def AVr.get(r:AVr)(G:AV)(H:Heap):Option V:=AVr.rec (λv=>some v) (λv=>AX v G H) (λv n=>BF n v G H) r
def D6(l:List AVr)(G:AV)(H:Heap):Option LV:=
 List.rec (motive:=λ_=>Option LV) (some []) (λr _ g=>DR (r.get G H) λv=>DR g λvs=>some (v::vs)) l
section
variable{E:RS}{G:AV}{H:Heap}{n:Nat}{x y z w:X}{a b c d:V}
variable{call:BQ}
end
section
variable{L:List V}{R:KG}{G:AV}{call:BQ}{H:Heap}{n:Nat}{a b:V}
end
def Aaj(c:V)(b:Bool)(e:Option V)(a:V)(P:Prop):Prop:=oI c b (AP e λv=>En (BU v a) P) P
def kR(k:K):KE:=λE H n=>k E.rg H n
theorem ADq{v:V}{b:Bool}{P Q P' Q':Prop}(h:Ac v b P Q)(hp:P->P')(hq:Q->Q'):Ac v b P' Q':=by
 rw[Zl]at h⊢
 obtain⟨t,ht,h⟩:=h
 refine⟨t,ht,?_⟩
 split
 ·rename_i e;rw[if_pos e]at h;exact hp h
 ·rename_i e;rw[if_neg e]at h;exact hq h
section
variable{G:AV}{call callE:BQ}
section
variable{L:List V}{R:KG}{H:Heap}{n:Nat}{l:List y7}{k:KE}{p:P2}{x:X}{b:Bool}{c a:V}
end
section
variable{L:List V}{R:KG}{H:Heap}{n:Nat}{l:List AI}{k:KE}{p:P2}{x:X}{b:Bool}{c a:V}
theorem i0{K:K}(h:K R H n):DV [] G callE (.mk L R) H n (kR K):=h
end
section
variable{R:KG}{H:Heap}{n:Nat}{k:K}{x:KX}{r:K}{a b:AC}
end
section
variable{res rs:List AR}{dg:Nat}{R:KG}{H:Heap}{n:Nat}{k:KV}{l:LV}{p:P2}{a:V}{vs:List AVr}
end
end
abbrev SF:=BQ->List V->Heap->Nat->KV->Prop
def ar0(s:BQ->Heap->Nat->KV->Prop):SF:=λcall l H n k=>List.rec (motive:=λ_=>Prop) (s call H n k) (λ_ _ _=>False) l
def Ho(s:BQ->V->Heap->Nat->KV->Prop):SF:=λcall l H n k=>List.rec (motive:=λ_=>Prop) False (λa l _=>ar0 (λcall=>s call a) call l H n k) l
def QD(s:BQ->V->V->Heap->Nat->KV->Prop):SF:=λcall l H n k=>List.rec (motive:=λ_=>Prop) False (λa l _=>Ho (λcall=>s call a) call l H n k) l
def ar3(s:BQ->V->V->V->Heap->Nat->KV->Prop):SF:=λcall l H n k=>List.rec (motive:=λ_=>Prop) False (λa l _=>QD (λcall=>s call a) call l H n k) l
def ar4(s:BQ->V->V->V->V->Heap->Nat->KV->Prop):SF:=λcall l H n k=>List.rec (motive:=λ_=>Prop) False (λa l _=>ar3 (λcall=>s call a) call l H n k) l
theorem ALz{s:BQ->Heap->Nat->KV->Prop}{call:BQ}{l:List V}{H:Heap}{n:Nat}{k:KV}(h:ar0 s call l H n k):l=[]/\s call H n k:=by
 cases l with
 |nil=>exact⟨rfl,h⟩
 |cons=>exact(show False from h).elim
theorem AMo{s:BQ->V->Heap->Nat->KV->Prop}{call:BQ}{l:List V}{H:Heap}{n:Nat}{k:KV}(h:Ho s call l H n k):∃a0,l=[a0]/\s call a0 H n k:=by
 cases l with
 |nil=>exact(show False from h).elim
 |cons a l=>
  obtain⟨rfl,h⟩:=ALz (show ar0 (λcall=>s call a) call l H n k from h)
  exact⟨a,rfl,h⟩
theorem ALx{s:BQ->V->V->Heap->Nat->KV->Prop}{call:BQ}{l:List V}{H:Heap}{n:Nat}{k:KV}(h:QD s call l H n k):∃a0 a1,l=[a0,a1]/\s call a0 a1 H n k:=by
 cases l with
 |nil=>exact(show False from h).elim
 |cons a l=>
  obtain⟨b0,rfl,h⟩:=AMo (show Ho (λcall=>s call a) call l H n k from h)
  exact⟨a,b0,rfl,h⟩
theorem AL4{s:BQ->V->V->V->Heap->Nat->KV->Prop}{call:BQ}{l:List V}{H:Heap}{n:Nat}{k:KV}(h:ar3 s call l H n k):∃a0 a1 a2,l=[a0,a1,a2]/\s call a0 a1 a2 H n k:=by
 cases l with
 |nil=>exact(show False from h).elim
 |cons a l=>
  obtain⟨b0,b1,rfl,h⟩:=ALx (show QD (λcall=>s call a) call l H n k from h)
  exact⟨a,b0,b1,rfl,h⟩
theorem ATt{s:BQ->V->V->V->V->Heap->Nat->KV->Prop}{call:BQ}{l:List V}{H:Heap}{n:Nat}{k:KV}(h:ar4 s call l H n k):∃a0 a1 a2 a3,l=[a0,a1,a2,a3]/\s call a0 a1 a2 a3 H n k:=by
 cases l with
 |nil=>exact(show False from h).elim
 |cons a l=>
  obtain⟨b0,b1,b2,rfl,h⟩:=AL4 (show ar3 (λcall=>s call a) call l H n k from h)
  exact⟨a,b0,b1,b2,rfl,h⟩
def ALd(G:AV)(af:AF)(s:SF):Prop:=∀call callE,U6 call callE->IC callE->∀args H n k,s call args H n k->AGR af G callE args H n k
section
variable{E:RS}{G:AV}{H:Heap}{x:X}{a:Int}
end
@[congr] theorem AYD{o o':Option V}(f:V->Prop)(h:o=o'):AP o f=AP o' f:=by rw[h]
@[congr] theorem AYH{α:Type}{o o':Option α}(f:α->Prop)(h:o=o'):IV o f=IV o' f:=by rw[h]
@[congr] theorem AYB{b b':Bool}(p:Prop)(h:b=b'):En b p=En b' p:=by rw[h]
@[congr] theorem AUg{v v':V}(b:Bool)(p q:Prop)(h:v=v'):Ac v b p q=Ac v' b p q:=by rw[h]
@[congr] theorem AYE{c c':V}{b:Bool}{e:Option V}(f:V->Prop)(h:c=c'):Bd c b e f=Bd c' b e f:=by rw[h]
@[congr] theorem AXk{c c':V}{b:Bool}{t:KV->Prop}{H:Heap}{n:Nat}(f:KV)(h:c=c'):UO c b t H n f=UO c' b t H n f:=by rw[h]
@[congr] theorem AXb(F:T AF)(G:AV)(f:Nat){a a':List V}{H H':Heap}{n n':Nat}(k:KV)(h0:a=a')(h1:H=H')(h2:n=n'):Runs F G f a H n k=Runs F G f a' H' n' k:=by rw[h0,h1,h2]
theorem Au(v:V)(f:V->Prop):AP (some v) f=f v:=rfl
theorem vW{α:Type}(v:α)(f:α->Prop):IV (some v) f=f v:=rfl
theorem qR(p:Prop):En true p=p:=rfl
theorem Ah(p q:Prop):Ac (.bool true) true p q=p:=rfl
theorem Aq(p q:Prop):Ac (.bool false) true p q=q:=rfl
theorem AYS(e:Option V)(f:V->Prop):Bd (.bool true) true e f=AP e f:=rfl
theorem AZi(e:Option V)(f:V->Prop):Bd (.bool false) false e f=AP e f:=rfl
theorem AYV(e:Option V)(f:V->Prop):Bd (.bool true) false e f=f (.J4 []):=rfl
theorem AZC(e:Option V)(f:V->Prop):Bd (.bool false) true e f=f (.J4 []):=rfl
theorem Aad(b:Bool)(e:Option V)(f:V->Prop):Bd (.J4 []) b e f=f (.J4 []):=rfl
theorem AZX(t:KV->Prop)(H:Heap)(n:Nat)(f:KV):UO (.bool true) true t H n f=t f:=rfl
theorem AYy(t:KV->Prop)(H:Heap)(n:Nat)(f:KV):UO (.bool false) false t H n f=t f:=rfl
theorem AZc(t:KV->Prop)(H:Heap)(n:Nat)(f:KV):UO (.bool true) false t H n f=f (.J4 []) H n:=rfl
theorem AY8(t:KV->Prop)(H:Heap)(n:Nat)(f:KV):UO (.bool false) true t H n f=f (.J4 []) H n:=rfl
theorem AaR(b:Bool)(t:KV->Prop)(H:Heap)(n:Nat)(f:KV):UO (.J4 []) b t H n f=f (.J4 []) H n:=rfl
theorem AZk(b:Bool):Vb (.bool b)=some (.bool (!b)):=by cases b<;>rfl
theorem AS6(a b:V):DZ (.bool true) a b=some a:=rfl
theorem ASi(a b:V):DZ (.bool false) a b=some b:=rfl
theorem AZ(off id o:Nat):AU off (.ptr id o)=some (.ptr id (o+off)):=by show Dz (Nat.add o off) _=_;rw[CB];rfl
theorem AHR(off id o:Nat):AU off (.Xa id o)=some (.Xa id (o+off)):=by show Dz (Nat.add o off) _=_;rw[CB];rfl
theorem AUH(id o:Nat):Bj (.ptr id o)=some (.ptr id o):=rfl
theorem wG(a:V)(l:List V):kP (.J4 (a::l)) 0=some a:=rfl
theorem wz(a b:V)(l:List V):kP (.J4 (a::b::l)) 1=some b:=rfl
theorem AVl(a b c:V)(l:List V):kP (.J4 (a::b::c::l)) 2=some c:=rfl
theorem ACG(a:V)(G:AV)(H:Heap):AX a G H=QT (ldP a G H 1) λL=>nth L 0:=rfl
theorem AFk(m:Nat)(a:V)(G:AV)(H:Heap):BF m a G H=QT (ldP a G H m) λL=>some (.agg L):=rfl
theorem uO(id off:Nat)(G:AV)(H:Heap)(n:Nat):ldP (.ptr id off) G H n=mW H id off n:=rfl
theorem AGY(L:LV)(f:LV->Option V):QT (some L) f=f L:=rfl
def one(L:LV):Rl:=.arr L.length 1 (T.set .e 0 L)
theorem AUa{v:V}{H:Heap}{n:Nat}{P:KV}(h:kD v=true):DY (JJ v) H n P=P (.ptr n 0) (T.set H n (one (CZ v))) (n+1):=by
 show En (kD v) (Ea (len (CZ v)) λe=>Ea n λn=>P (.ptr n 0) (T.set H n (.arr e 1 (T.set .e 0 (CZ v)))) (Nat.succ n))=_
 rw[CO,CO,len_eq,h]
 rfl
theorem ALv{z:Nat}{L:LV}{H:Heap}{n:Nat}{P:KV}(h:L.length=z):DY (BD z [L] E0) H n P=P (.ptr n 0) (T.set H n (one L)) (n+1):=by
 show Ea (len [L]) (λm=>Ea n λn=>P (.ptr n 0) (T.set H n (.arr z m (GH [L] 0 .e))) (Nat.succ n))=_
 rw[CO,CO,len_eq]
 subst h
 rfl
theorem AO5{H:Heap}{id:Nat}{L:LV}(h:T.get H id=some (one L)){off m:Nat}(hm:0<m)(hl:off+m<=L.length):mW H id off m=some ((L.drop off).take m):=by
 unfold mW
 rw[h]
 show ldB L.length 1 (T.set .e 0 L) off m=_
 unfold ldB
 have hdiv:off/L.length=0:=Nat.div_eq_of_lt (by omega)
 have hmod:off%L.length=off:=Nat.mod_eq_of_lt (by omega)
 have hb:Nat.blt (Nat.div off L.length) 1=true:=by rw[Nat.blt_eq];show off/L.length<1;omega
 rw[hb]
 show DR (T.get (T.set T.e 0 L) (Nat.div off L.length)) (ldC L.length off m)=_
 have hg2:T.get (T.set T.e 0 L) (Nat.div off L.length)=some L:=by
  show T.get (T.set T.e 0 L) (off/L.length)=some L
  rw[hdiv];simp
 rw[hg2]
 show ldC L.length off m L=_
 unfold ldC
 cases hc:band (Nat.beq m L.length) (Nat.beq (Nat.mod off L.length) 0)with
 |true=>
  simp only[CU,Bool.and_eq_true,beq_iff]at hc
  obtain⟨h1,h2⟩:=hc
  have h2':off=0:=by have:off%L.length=0:=h2;omega
  subst h2'
  simp[h1]
 |false=>
  have hf:Nat.ble (Nat.add (Nat.mod off L.length) m) L.length=true:=by
   rw[Nat.ble_eq];show off%L.length+m<=L.length;omega
  rw[hf]
  show some (ZK m (mg (Nat.mod off L.length) L))=_
  rw[gX,qo]
  show some (List.take m (List.drop (off%L.length) L))=_
  rw[hmod]
theorem AWh{H:Heap}{id:Nat}{L:LV}(h:T.get H id=some (one L)){off m:Nat}{new:LV}(hm:0<m)(hn:new.length=m)(hl:off+m<=L.length):stH H id off m new=some (T.set H id (one (L.take off++(new++L.drop (off+m))))):=by
 unfold stH
 rw[h]
 show DR (stB L.length 1 (T.set .e 0 L) off m new) (λb=>some (T.set H id b))=_
 have hdiv:Nat.div off L.length=0:=Nat.div_eq_of_lt (by omega)
 have hmod:Nat.mod off L.length=off:=Nat.mod_eq_of_lt (by omega)
 have hs:stB L.length 1 (T.set .e 0 L) off m new=some (one (L.take off++(new++L.drop (off+m)))):=by
  unfold stB
  rw[hdiv]
  show DR (T.get (T.set T.e 0 L) 0) (gI new L.length 1 (T.set .e 0 L) off m)=_
  rw[T.DJ]
  show gI new L.length 1 (T.set .e 0 L) off m L=_
  unfold gI
  rw[hmod,hdiv]
  have hlen:(L.take off++(new++L.drop (off+m))).length=L.length:=by simp;omega
  cases hc:band (Nat.beq m L.length) (Nat.beq off 0)with
  |true=>
   simp only[CU,Bool.and_eq_true,beq_iff]at hc
   obtain⟨h1,h2⟩:=hc
   subst h2
   show some (Rl.arr L.length 1 (T.set (T.set T.e 0 L) 0 new))=_
   unfold one
   rw[hlen]
   have:List.take 0 L++(new++List.drop (0+m) L)=new:=by simp[h1]
   rw[this];rfl
  |false=>
   have hf:Nat.ble (Nat.add off m) L.length=true:=by rw[Nat.ble_eq];exact hl
   rw[hf]
   show some (Rl.arr L.length 1 (T.set (T.set T.e 0 L) 0 (AJ6 new off L)))=_
   unfold one
   rw[hlen,AGv,hn];rfl
 rw[hs]
 rfl
theorem Am{F:T AF}{G:AV}{f:Nat}{af:AF}{s:SF}(hf:T.get F f=some af)(hs:ALd G af s){args:List V}{H:Heap}{n:Nat}{k:KV}(h:s (Runs F G) args H n k):Runs F G f args H n k:=
 ADf hf (hs _ _ (λ_ _ _ _ _ h=>h) (AAn F G) _ _ _ _ h)
def goN(x:X)(b:Bool)(d:tX)(o:AN):XpT:=λG _ R H n k=>Bd (x.ev R) b (o.ev G R H) λv=>k (Gz d v R) H n
def goA(x:X)(b:Bool)(d:tX)(o:AA):XpT:=λ_ _ R H n k=>UO (x.ev R) b (DY (o.al R) H n) H n λv H n=>k (Gz d v R) H n
def goE(x:X)(b:Bool)(d:tX)(o:AE):XpT:=λG call R H n k=>UO (x.ev R) b (o.ex G call R H n) H n λv H n=>k (Gz d v R) H n
def Aa9(x:X)(b:Bool)(d:tX)(o:AO):XpT:=AO.rec (motive:=λ_=>XpT) (goN x b d) (goA x b d) (goE x b d) o
def oAG(o:AA):XoT:=λ_ _ d R H n k=>DY (o.al R) H n λv H n=>k (Gz d v R) H n
def AO.exG(o:AO):XoT:=AO.rec (motive:=λ_=>XoT) oN oAG oE o
def Aa4(d:tX)(o:AO):XpT:=λG call R H n k=>o.exG G call d R H n k
def y7.exG(o:y7):XpT:=y7.rec (motive:=λ_=>XpT) (λd g o=>Gd.rec (motive:=λ_=>tX->AO->XpT) Aa4 Aa9 g d o) o
theorem ALj(o:y7):o.exG=o.ex:=by
 obtain⟨d,g,o⟩:=o
 cases g<;>cases o<;>rfl
def AJ8(l:List y7):XpT:=
 List.rec (motive:=λ_=>XpT) (λ_ _ R H n k=>k R H n) (λo _ g G call R H n k=>o.exG G call R H n λR H n=>g G call R H n k) l
theorem AMg:∀l:List y7,AJ8 l=Rf l
 |[]=>rfl
 |o::l=>by
  show(λG call R H n k=>o.exG G call R H n λR H n=>AJ8 l G call R H n k)=λG call R H n k=>o.ex G call R H n λR H n=>Rf l G call R H n k
  rw[AMg l,ALj]
def AYn(x:X)(b:Bool):ReT:=λG R H d o k=>Aaj (x.ev R) b (o.ev G R H) (OD (T.Ed d R.rg)) k
def AZb(g:Gd):ReT:=Gd.rec (motive:=λ_=>ReT) AYN AYn g
def AI.exG(i:AI):XpT:=AI.rec (motive:=λ_=>XpT) (λo=>o.exG) (λd g o G _ R H n k=>AZb g G R H d o (k R H n)) i
theorem AXZ(i:AI):i.exG=i.ex:=by
 cases i with
 |op o=>exact ALj o
 |re d g o=>cases g<;>rfl
def AEF(l:List AI):XpT:=
 List.rec (motive:=λ_=>XpT) (λ_ _ R H n k=>k R H n) (λi _ g G call R H n k=>i.exG G call R H n λR H n=>g G call R H n k) l
theorem AFu:∀l:List AI,AEF l=DV l
 |[]=>rfl
 |o::l=>by
  show(λG call R H n k=>o.exG G call R H n λR H n=>AEF l G call R H n k)=λG call R H n k=>o.ex G call R H n λR H n=>DV l G call R H n k
  rw[AFu l,AXZ]
def AOn(l:List y7):M:=λG call _ R H n k _ _=>AJ8 l G call (.mk [] R) H n λE H n=>k E.rg H n
def APe(l:List AI):M:=λG call _ R H n k _ _=>AEF l G call (.mk [] R) H n λE H n=>k E.rg H n
def AC.exG(c:AC):M:=AC.rec (motive:=λ_=>M) Dc AOn APe AP7 AIJ AEP AHj AOi AWK c
theorem yU:∀c:AC,c.exG=c.exL
 |.skip=>rfl
 |.ops l=>by show AOn l=ARz l;unfold AOn ARz;rw[AMg]
 |.reg l=>by show APe l=AS0 l;unfold APe AS0;rw[AFu]
 |.seq a b=>by show AP7 a b a.exG b.exG=AP7 a b a.exL b.exL;rw[yU a,yU b]
 |.cond x a b=>by show AIJ x a b a.exG b.exG=AIJ x a b a.exL b.exL;rw[yU a,yU b]
 |.block i a=>by show AEP i a a.exG=AEP i a a.exL;rw[yU a]
 |.loop a=>by show AHj a a.exG=AHj a a.exL;rw[yU a]
 |.exit i=>rfl
 |.ret=>rfl
inductive An:Type 1 where
 |n
 |s (a b:An)
 |j (S:K) (a b:An)
 |c (a b:An)
 |b (a:An)
 |l (σ:Type) (bd:(σ->Prop)->σ->Prop) (st:KG->Heap->Nat->σ) (a:(σ->Prop)->An)
abbrev M2:=AC->AV->BQ->KG->Heap->Nat->K->KX->K->Prop
def AC.AIL(c:AC)(f:AC->AC->Prop):Prop:=AC.rec (motive:=λ_=>Prop) False (λ_=>False) (λ_=>False) (λa b _ _=>f a b) (λ_ _ _ _ _=>False) (λ_ _ _=>False) (λ_ _=>False) (λ_=>False) False c
def AC.AKl(c:AC)(f:X->AC->AC->Prop):Prop:=AC.rec (motive:=λ_=>Prop) False (λ_=>False) (λ_=>False) (λ_ _ _ _=>False) (λx a b _ _=>f x a b) (λ_ _ _=>False) (λ_ _=>False) (λ_=>False) False c
def AC.AHU(c:AC)(f:Nat->AC->Prop):Prop:=AC.rec (motive:=λ_=>Prop) False (λ_=>False) (λ_=>False) (λ_ _ _ _=>False) (λ_ _ _ _ _=>False) (λi a _=>f i a) (λ_ _=>False) (λ_=>False) False c
def AC.AKN(c:AC)(f:AC->Prop):Prop:=AC.rec (motive:=λ_=>Prop) False (λ_=>False) (λ_=>False) (λ_ _ _ _=>False) (λ_ _ _ _ _=>False) (λ_ _ _=>False) (λa _=>f a) (λ_=>False) False c
def An.ex(L:F5)(an:An):M2:=
 An.rec (motive:=λ_=>M2)
  (λc G call R H n k x r=>c.exG G call 0 R H n k x r)
  (λ_ _ ga gb c G call R H n k x r=>c.AIL λa b=>ga a G call R H n (λR H n=>gb b G call R H n k x r) x r)
  (λS _ _ ga _ c G call R H n _ x r=>c.AIL λa _=>ga a G call R H n S x r)
  (λ_ _ ga gb c G call R H n k x r=>c.AKl λy a b=>Ac (y.ev (.mk [] R)) true (ga a G call R H n k x r) (gb b G call R H n k x r))
  (λ_ ga c G call R H n k x r=>c.AHU λi a=>ga a G call R H n k (Iy i k x) r)
  (fun σ bd st _ _ c _ _ R H n _ _ _=>c.AKN λ_=>L σ bd (st R H n)) an
abbrev M3:=AC->AV->BQ->K->KX->K->Prop
def An.ob(L:F5)(an:An):M3:=
 An.rec (motive:=λ_=>M3)
  (λ_ _ _ _ _ _=>True)
  (λ_ b ga gb c G call k x r=>c.AIL λa d=>ga a G call (λR H n=>b.ex L d G call R H n k x r) x r/\gb d G call k x r)
  (λS _ b ga gb c G call k x r=>c.AIL λa d=>ga a G call S x r/\(∀R H n,S R H n=b.ex L d G call R H n k x r)/\gb d G call k x r)
  (λ_ _ ga gb c G call k x r=>c.AKl λ_ a b=>ga a G call k x r/\gb b G call k x r)
  (λ_ ga c G call k x r=>c.AHU λi a=>ga a G call k (Iy i k x) r)
  (fun σ bd st a ga c G call _ x r=>c.AKN λd=>∀ih:σ->Prop,(∀R H n,bd ih (st R H n)=(a ih).ex L d G call R H n (λR H n=>ih (st R H n)) x r)/\ga ih d G call (λR H n=>ih (st R H n)) x r) an
def AC.APB(c:AC)(f:AC->AC->Prop):Prop:=AC.rec (motive:=λ_=>Prop) True (λ_=>True) (λ_=>True) (λa b _ _=>f a b) (λ_ _ _ _ _=>True) (λ_ _ _=>True) (λ_ _=>True) (λ_=>True) True c
def AC.ATa(c:AC)(f:X->AC->AC->Prop):Prop:=AC.rec (motive:=λ_=>Prop) True (λ_=>True) (λ_=>True) (λ_ _ _ _=>True) (λx a b _ _=>f x a b) (λ_ _ _=>True) (λ_ _=>True) (λ_=>True) True c
def AC.AOa(c:AC)(f:Nat->AC->Prop):Prop:=AC.rec (motive:=λ_=>Prop) True (λ_=>True) (λ_=>True) (λ_ _ _ _=>True) (λ_ _ _ _ _=>True) (λi a _=>f i a) (λ_ _=>True) (λ_=>True) True c
def AC.ATo(c:AC)(f:AC->Prop):Prop:=AC.rec (motive:=λ_=>Prop) True (λ_=>True) (λ_=>True) (λ_ _ _ _=>True) (λ_ _ _ _ _=>True) (λ_ _ _=>True) (λa _=>f a) (λ_=>True) True c
def An.obR(L:F5)(an:An):M3:=
 An.rec (motive:=λ_=>M3)
  (λ_ _ _ _ _ _=>True)
  (λ_ b ga gb c G call k x r=>c.APB λa d=>ga a G call (λR H n=>b.ex L d G call R H n k x r) x r/\gb d G call k x r)
  (λS _ b ga gb c G call k x r=>c.APB λa d=>ga a G call S x r/\(∀R H n,S R H n=S R H n)/\gb d G call k x r)
  (λ_ _ ga gb c G call k x r=>c.ATa λ_ a b=>ga a G call k x r/\gb b G call k x r)
  (λ_ ga c G call k x r=>c.AOa λi a=>ga a G call k (Iy i k x) r)
  (fun σ bd st a ga c G call _ x r=>c.ATo λd=>∀ih:σ->Prop,(∀R H n,bd ih (st R H n)=bd ih (st R H n))/\ga ih d G call (λR H n=>ih (st R H n)) x r) an
theorem An.AVS(L:F5)(an:An):∀c G call k x r,an.obR L c G call k x r:=by
 induction an with
 |n=>exact λ_ _ _ _ _ _=>trivial
 |s a b iha ihb=>intro c;cases c<;>first|exact λ_ _ _ _ _=>trivial|exact λG call k x r=>⟨iha _ _ _ _ _ _,ihb _ _ _ _ _ _⟩
 |j S a b iha ihb=>intro c;cases c<;>first|exact λ_ _ _ _ _=>trivial|exact λG call k x r=>⟨iha _ _ _ _ _ _,λ_ _ _=>rfl,ihb _ _ _ _ _ _⟩
 |c a b iha ihb=>intro c;cases c<;>first|exact λ_ _ _ _ _=>trivial|exact λG call k x r=>⟨iha _ _ _ _ _ _,ihb _ _ _ _ _ _⟩
 |b a iha=>intro c;cases c<;>first|exact λ_ _ _ _ _=>trivial|exact λG call k x r=>iha _ _ _ _ _ _
 |l σ bd st a iha=>intro c;cases c<;>first|exact λ_ _ _ _ _=>trivial|exact λG call k x r ih=>⟨λ_ _ _=>rfl,iha ih _ _ _ _ _ _⟩
theorem AF7{c:AC}{f:AC->AC->Prop}(h:c.AIL f):∃a b,c=.seq a b/\f a b:=by
 cases c<;>first|exact⟨_,_,rfl,h⟩|exact(show False from h).elim
theorem ALV{c:AC}{f:X->AC->AC->Prop}(h:c.AKl f):∃x a b,c=.cond x a b/\f x a b:=by
 cases c<;>first|exact⟨_,_,_,rfl,h⟩|exact(show False from h).elim
theorem AHy{c:AC}{f:Nat->AC->Prop}(h:c.AHU f):∃i a,c=.block i a/\f i a:=by
 cases c<;>first|exact⟨_,_,rfl,h⟩|exact(show False from h).elim
theorem AKB{c:AC}{f:AC->Prop}(h:c.AKN f):∃a,c=.loop a/\f a:=by
 cases c<;>first|exact⟨_,rfl,h⟩|exact(show False from h).elim
section
variable{G:AV}{call callE:BQ}
theorem ASc{c:AC}{R:KG}{H:Heap}{n:Nat}{k:K}{x:KX}{r:K}(h:c.exG G call 0 R H n k x r):c.exL G call 0 R H n k x r:=by rwa [yU]at h
theorem wF(hle:U6 call callE)(hd:IC callE):∀(c:AC) (R:KG) (H:Heap) (n:Nat) (k k':K) (x x':KX) (r r':K),(∀R H n,k R H n->k' R H n)->(∀i R H n,x i R H n->x' i R H n)->(∀R H n,r R H n->r' R H n)->
 c.exL G call 0 R H n k x r->c.exL G callE 0 R H n k' x' r'
 |.skip,R,H,n,k,k',x,x',r,r',hk,hx,hr,h=>hk _ _ _ h
 |.ops l,R,H,n,k,k',x,x',r,r',hk,hx,hr,h=>AOX hd l _ H n (λE H n h=>hk _ _ _ h) (AKo hd hle G l _ H n _ h)
 |.reg l,R,H,n,k,k',x,x',r,r',hk,hx,hr,h=>ALJ hd l _ H n (λE H n h=>hk _ _ _ h) (ADj hd hle G l _ H n _ h)
 |.seq a b,R,H,n,k,k',x,x',r,r',hk,hx,hr,h=>wF hle hd a R H n _ _ x x' r r' (λR H n h=>wF hle hd b R H n k k' x x' r r' hk hx hr h) hx hr h
 |.cond c a b,R,H,n,k,k',x,x',r,r',hk,hx,hr,h=>by
  have h':Ac (c.ev (.mk [] R)) true (a.exL G call 0 R H n k x r) (b.exL G call 0 R H n k x r):=h
  show Ac (c.ev (.mk [] R)) true (a.exL G callE 0 R H n k' x' r') (b.exL G callE 0 R H n k' x' r')
  exact ADq h' (wF hle hd a R H n k k' x x' r r' hk hx hr) (wF hle hd b R H n k k' x x' r r' hk hx hr)
 |.block id a,R,H,n,k,k',x,x',r,r',hk,hx,hr,h=>by
  refine wF hle hd a R H n k k' (Iy id k x) (Iy id k' x') r r' hk (λi R H n h=>?_) hr h
  unfold Iy at h⊢
  cases hb:Nat.beq i id with
  |true=>rw[hb]at h;exact hk _ _ _ h
  |false=>rw[hb]at h;exact hx _ _ _ _ h
 |.loop a,R,H,n,k,k',x,x',r,r',hk,hx,hr,h=>by
  intro I hI
  exact h I λR H n hb=>hI R H n (wF hle hd a R H n I I x x' r r' (λ_ _ _ h=>h) hx hr hb)
 |.exit i,R,H,n,k,k',x,x',r,r',hk,hx,hr,h=>hx _ _ _ _ h
 |.ret,R,H,n,k,k',x,x',r,r',hk,hx,hr,h=>hr _ _ _ h
theorem An.ok{L:F5}(hL:EC L)(hle:U6 call callE)(hd:IC callE)(an:An):∀(c:AC) (k k':K) (x x':KX) (r r':K),(∀R H n,k R H n->k' R H n)->(∀i R H n,x i R H n->x' i R H n)->(∀R H n,r R H n->r' R H n)->
 an.ob L c G call k x r->∀R H n,an.ex L c G call R H n k x r->c.exL G callE 0 R H n k' x' r':=by
 induction an with
 |n=>exact λc k k' x x' r r' hk hx hr _ R H n h=>wF hle hd c R H n k k' x x' r r' hk hx hr (ASc h)
 |s a b iha ihb=>
  intro c k k' x x' r r' hk hx hr ho R H n h
  obtain⟨c1,c2,rfl,ho⟩:=AF7 ho
  exact iha c1 _ _ x x' r r' (λR H n h=>ihb c2 k k' x x' r r' hk hx hr ho.2 R H n h) hx hr ho.1 R H n h
 |j S a b iha ihb=>
  intro c k k' x x' r r' hk hx hr ho R H n h
  obtain⟨c1,c2,rfl,ho⟩:=AF7 ho
  exact iha c1 S (λR H n=>c2.exL G callE 0 R H n k' x' r') x x' r r' (λR H n h=>ihb c2 k k' x x' r r' hk hx hr ho.2.2 R H n (ho.2.1 R H n▸h)) hx hr ho.1 R H n h
 |c a b iha ihb=>
  intro c k k' x x' r r' hk hx hr ho R H n h
  obtain⟨y,c1,c2,rfl,ho⟩:=ALV ho
  exact ADq (P':=c1.exL G callE 0 R H n k' x' r') (Q':=c2.exL G callE 0 R H n k' x' r') h (λh=>iha c1 k k' x x' r r' hk hx hr ho.1 R H n h) (λh=>ihb c2 k k' x x' r r' hk hx hr ho.2 R H n h)
 |b a iha=>
  intro c k k' x x' r r' hk hx hr ho R H n h
  obtain⟨i,c1,rfl,ho⟩:=AHy ho
  refine iha c1 k k' (Iy i k x) (Iy i k' x') r r' hk (λj R H n h=>?_) hr ho R H n h
  unfold Iy at h⊢
  cases hb:Nat.beq j i with
  |true=>rw[hb]at h;exact hk _ _ _ h
  |false=>rw[hb]at h;exact hx _ _ _ _ h
 |l σ bd st a iha=>
  intro c k k' x x' r r' hk hx hr ho R H n h
  obtain⟨c1,rfl,ho⟩:=AKB ho
  intro I hI
  have h':L σ bd (st R H n):=h
  refine hL σ bd (λs=>∀R H n,st R H n=s->I R H n) (λih hih s hs R H n e=>?_) _ h' R H n rfl
  subst e
  rw[(ho ih).1]at hs
  exact hI R H n (iha ih c1 (λR H n=>ih (st R H n)) I x x' r r' (λR H n h=>hih _ h R H n rfl) hx hr (ho ih).2 R H n hs)
end
def fEx(L:F5)(an:An)(af:AF)(G:AV)(call:BQ)(args:List V)(H:Heap)(n:Nat)(k:KV):Prop:=
 AF.rec (motive:=λ_=>Prop) (λnp code res d dg=>En (Nat.beq (len args) np) (an.ex L code G call (iF args 0 .e) H n (KL res dg d G call k) noX (KL res dg d G call k))) (λf=>tY f G args H n k) af
def fOb(L:F5)(an:An)(af:AF)(G:AV)(call:BQ)(k:KV):Prop:=
 AF.rec (motive:=λ_=>Prop) (λ_ code res d dg=>an.ob L code G call (KL res dg d G call k) noX (KL res dg d G call k)) (λ_=>True) af
def Aao(L:F5)(an:An)(af:AF)(G:AV)(call:BQ)(k:KV):Prop:=
 AF.rec (motive:=λ_=>Prop) (λ_ code res d dg=>an.obR L code G call (KL res dg d G call k) noX (KL res dg d G call k)) (λ_=>True) af
theorem obs{L:F5}{an:An}{af:AF}{G:AV}{call:BQ}{k:KV}(h:Aao L an af G call k=fOb L an af G call k):fOb L an af G call k:=by
 rw[<-h];cases af with
 |mk=>exact An.AVS ..
 |nat=>exact trivial
theorem AEA{L:F5}(hL:EC L){G:AV}{call callE:BQ}(hle:U6 call callE)(hd:IC callE){an:An}{af:AF}{args:List V}{H:Heap}{n:Nat}{k:KV}(ho:fOb L an af G call k)(h:fEx L an af G call args H n k):AGR af G callE args H n k:=by
 cases af with
 |nat=>exact h
 |mk np code res d dg=>
 have h':En (Nat.beq (len args) np) (an.ex L code G call (iF args 0 .e) H n (KL res dg d G call k) noX (KL res dg d G call k)):=h
 show En (Nat.beq (len args) np) (code.exL G callE 0 (iF args 0 .e) H n (KL res dg d G callE k) noX (KL res dg d G callE k))
 rw[FI]at h'⊢
 exact⟨h'.1,An.ok hL hle hd an code _ _ _ _ _ _ (λR H n h=>iE hd hle res dg d G k R H n h) (λ_ _ _ _ h=>h) (λR H n h=>iE hd hle res dg d G k R H n h) ho _ _ _ h'.2⟩
section
variable{L:F5}(hL:EC L){G:AV}{af:AF}{an:BQ->KV->An}(ho:∀call k,fOb L (an call k) af G call k)
include hL ho
theorem sf0{s:BQ->Heap->Nat->KV->Prop}(h:∀call H n k,s call H n k=fEx L (an call k) af G call [] H n k):ALd G af (ar0 s):=λcall callE hle hd l H n k hs=>by
 obtain⟨rfl,hs⟩:=ALz hs;exact AEA hL hle hd (ho call k) (h .. ▸hs)
theorem Yf{s:BQ->V->Heap->Nat->KV->Prop}(h:∀call a0 H n k,s call a0 H n k=fEx L (an call k) af G call [a0] H n k):ALd G af (Ho s):=λcall callE hle hd l H n k hs=>by
 obtain⟨a0,rfl,hs⟩:=AMo hs;exact AEA hL hle hd (ho call k) (h .. ▸hs)
theorem yh{s:BQ->V->V->Heap->Nat->KV->Prop}(h:∀call a0 a1 H n k,s call a0 a1 H n k=fEx L (an call k) af G call [a0,a1] H n k):ALd G af (QD s):=λcall callE hle hd l H n k hs=>by
 obtain⟨a0,a1,rfl,hs⟩:=ALx hs;exact AEA hL hle hd (ho call k) (h .. ▸hs)
theorem sf3{s:BQ->V->V->V->Heap->Nat->KV->Prop}(h:∀call a0 a1 a2 H n k,s call a0 a1 a2 H n k=fEx L (an call k) af G call [a0,a1,a2] H n k):ALd G af (ar3 s):=λcall callE hle hd l H n k hs=>by
 obtain⟨a0,a1,a2,rfl,hs⟩:=AL4 hs;exact AEA hL hle hd (ho call k) (h .. ▸hs)
theorem sf4{s:BQ->V->V->V->V->Heap->Nat->KV->Prop}(h:∀call a0 a1 a2 a3 H n k,s call a0 a1 a2 a3 H n k=fEx L (an call k) af G call [a0,a1,a2,a3] H n k):ALd G af (ar4 s):=λcall callE hle hd l H n k hs=>by
 obtain⟨a0,a1,a2,a3,rfl,hs⟩:=ATt hs;exact AEA hL hle hd (ho call k) (h .. ▸hs)
end
def inR(l:List (Nat×Nat))(t:Nat):Bool:=l.any λp=>Nat.ble p.1 t&&Nat.ble t p.2
def opp(l:List Nat):List (Nat×Wk):=l.map λj=>(j,.plain)
def dY(n:Nat):List (Nat×Wk):=opp (List.range n)
def Bq(o:Option AF):AF:=o.getD (.mk 0 .skip [] .no 0)
theorem Af{o:Option AF}(h:o.isSome=true):o=some (Bq o):=by
 cases o with
 |none=>cases h
 |some a=>rfl
theorem yV.one{P:Program}{F:T AF}{f:Nat}{af:AF}{fn:Func}{loc:Nat->Bool}{df:Bool}{ords:AJC}{dg:Nat}(hf:P.funcs[f]? =some fn)(hn:(fn.name== "runtime.NumGoroutine")=false)
 (ht:trF P loc df ords dg fn=some af) (hd:af.dg=dg) (hi:AKP af.dp=true):yV P F f af:=.code ⟨⟨fn,loc,df,ords,hf,hn,hd▸ht⟩,.inl hi⟩
theorem yV.two{P:Program}{F:T AF}{f:Nat}{af af':AF}{fn:Func}{loc:Nat->Bool}{df:Bool}{ords:AJC}{dg:Nat}(hf:P.funcs[f]? =some fn)(hn:(fn.name== "runtime.NumGoroutine")=false)
 (ht:trF P loc df ords dg fn=some af) (hd:af.dg=dg) (ha:T.get F dg=some af') (hi:AKP af'.dp=true):yV P F f af:=.code ⟨⟨fn,loc,df,ords,hf,hn,hd▸ht⟩,.inr ⟨af',hd▸ha,hi⟩⟩
end Go.Eng
namespace Go.Eng
theorem wrap64(a:Int):IntKind.wrap .i64 a=if 9223372036854775808<=a%18446744073709551616 then a%18446744073709551616-18446744073709551616 else a%18446744073709551616:=by
 show(if(true&&decide (a%18446744073709551616≥9223372036854775808))=true then a%18446744073709551616-18446744073709551616 else a%18446744073709551616)=_
 by_cases h:9223372036854775808<=a%18446744073709551616
 ·rw[if_pos h,if_pos (by simpa using h)]
 ·rw[if_neg h,if_neg (by simpa using h)]
theorem gK{x:Int}(h1: -9223372036854775808<=x)(h2:x<9223372036854775808):IntKind.wrap .i64 x=x:=by
 rw[wrap64];split<;>omega
end Go.Eng
