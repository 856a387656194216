/- Part of a proof; nothing is assumed. -/
import Derived.Test.YtldgkimnlbkddaaGreatDoorEngE
set_option linter.unusedVariables false
set_option linter.unusedSimpArgs false
noncomputable section
namespace Go.Bf
def P2.beq(p:P2):P2->Bool:=
 P2.rec (motive:=λ_=>P2->Bool) (λq=>P2.rec (motive:=λ_=>Bool) true (λ_ _=>false) (λ_ _=>false) q)
  (λ_ g q=>P2.rec (motive:=λ_=>Bool) false (λq _=>g q) (λ_ _=>false) q)
  (λ_ g q=>P2.rec (motive:=λ_=>Bool) false (λ_ _=>false) (λq _=>g q) q) p
abbrev rg(R:Ih)(p:P2):V:=Ls (T.Du p R)
theorem sm{R:Ih}{p:P2}{v:V}:rg (T.iP v p R) p=v:=by show Ls (T.Du p (T.iP v p R))=v;rw[T.VY];rfl
abbrev EZ:=(σ:Type)->((σ->Prop)->σ->Prop)->σ->Prop
def Dc(L:EZ):Prop:=∀(σ:Type) (b:(σ->Prop)->σ->Prop) (P:σ->Prop),(∀ih,(∀s,ih s->P s)->∀s,b ih s->P s)->∀s,L σ b s->P s
def lfp:EZ:=fun σ b s=>∀I:σ->Prop,(∀s,b I s->I s)->I s
theorem BF:Dc lfp:=λ_ _ P h _ hL=>hL P (h P λ_ h=>h)
def E0:RS:=.mk [] .e
def Aw(c a b:V):Option V:=c.yG λt=>AHm t (some a) (some b)
def AX(a:V)(G:AY)(H:Heap):Option V:=Va (ldP a G H 1) λL=>nth L 0
def Aj(n:Nat)(a:V)(G:AY)(H:Heap):Option V:=Va (ldP a G H n) λL=>some (.agg L)
def FK(a:V):Option V:=a.yG λb=>mkB (Qq b)
def Af5(a:V):Option V:=a.Iq λk n s=>mkI k (Int.neg n) s
def Acz(off:Nat)(a:V):Option V:=a.AGP λl=>nth l off
def AT8(n esz:Nat)(a i:V):Option V:=Ym i λi=>BI (Nat.blt i n) (AQ (Nat.mul i esz) a)
def AX1(a i:V):Option V:=a.VK λln c=>Ym i λi=>BI (Nat.blt i ln) (Dx (AYf c i) λb=>some (.int .u8 (.ofNat b) 0))
def CS(a:V)(i:Nat):Option V:=a.AQC λl=>nth l i
def Qh(a:V):Option V:=a.VK λn _=>some (.int .i64 (.ofNat n) 0)
def ACi(c:CK)(ok:Bool)(z m k:V)(H:Heap):Option V:=Qc H m λes _=>BO (vJ c k es 0) (ARJ ok z)
def BH(z:LV)(ps:List (Nat×Nat×X)):Option V:=BI (qW ps E0) (some (.agg (AH1 ps E0 z)))
def EM(v:V)(k:KA):Prop:=Ji (Zp v) (DT (len (A8 v)) λe=>k (.arr e 1 (T.set .e 0 (A8 v))) λid=>.ptr id 0)
def Bz(sz:Nat)(a b:V)(H:Heap)(n:Nat)(k:KV):Prop:=Ji (band (Zp b) (Nat.beq (len (A8 b)) sz)) (Gu (stP a H sz (A8 b)) λH=>k .undef H n)
def WV(esz bs:Nat)(a b:V)(G:AY)(H:Heap)(n:Nat)(k:KV):Prop:=Gu (elems b G H esz) λLS=>APB a G esz bs LS H n k
def copyV(esz:Nat)(a b:V)(G:AY)(H:Heap)(n:Nat)(k:KV):Prop:=Gu (elems b G H esz) λLS=>AMg a esz LS H n k
def AOw(c:CK)(m key v:V)(H:Heap)(n:Nat)(k:KV):Prop:=AMG m H (AL9 c key v) λH=>k .undef H n
def AWn(x:V)(args:List V)(call:Au)(H:Heap)(n:Nat)(k:KV):Prop:=V.Y8 x λf a c=>call f (cat a (cat args c)) H n k
def Ak(c:V)(b:Bool)(e:Option V)(P:V->Prop):Prop:=wP c b (AL e P) (P (.Dl []))
def Bc(al:KA->Prop)(H:Heap)(n:Nat)(P:KV):Prop:=al λb f=>DT n λn=>P (f n) (T.set H n b) (Nat.succ n)
def DY(c:V)(b:Bool)(t:KV->Prop)(H:Heap)(n:Nat)(P:KV):Prop:=wP c b (t P) (P (.Dl []) H n)
inductive AVr where
 |t (v:V)|c1 (v:V)|cn (v:V) (n:Nat)
def AVr.get(r:AVr)(G:AY)(H:Heap):Option V:=AVr.rec (λv=>some v) (λv=>AX v G H) (λv n=>Aj n v G H) r
def ED(l:List AVr)(G:AY)(H:Heap):Option LV:=
 List.rec (motive:=λ_=>Option LV) (some []) (λr _ g=>BO (r.get G H) λv=>BO g λvs=>some (v::vs)) l
section
variable{E:RS}{G:AY}{H:Heap}{n:Nat}{x y z w:X}{a b c d:V}
variable{call:Au}
end
section
variable{L:List V}{R:Ih}{G:AY}{call:Au}{H:Heap}{n:Nat}{a b:V}
end
def ACX(c:V)(b:Bool)(e:Option V)(a:V)(P:Prop):Prop:=wP c b (AL e λv=>Ji (Es v a) P) P
def kR(k:K):KE:=λE H n=>k E.rg H n
theorem ALj{v:V}{b:Bool}{P Q P' Q':Prop}(h:AZ v b P Q)(hp:P->P')(d:Q->Q'):AZ v b P' Q':=by
 rw[bV]at h⊢
 obtain⟨t,f,h⟩:=h
 refine⟨t,f,?_⟩
 split
 ·rename_i e;rw[if_pos e]at h;exact hp h
 ·rename_i e;rw[if_neg e]at h;exact d h
section
variable{G:AY}{call callE:Au}
section
variable{L:List V}{R:Ih}{H:Heap}{n:Nat}{l:List AOp}{k:KE}{p:P2}{x:X}{b:Bool}{c a:V}
theorem o0{K:K}(h:K R H n):Qa [] G callE (.mk L R) H n (kR K):=h
end
section
variable{L:List V}{R:Ih}{H:Heap}{n:Nat}{l:List AI}{k:KE}{p:P2}{x:X}{b:Bool}{c a:V}
theorem i0{K:K}(h:K R H n):Bl [] G callE (.mk L R) H n (kR K):=h
end
section
variable{R:Ih}{H:Heap}{n:Nat}{k:K}{x:KX}{r:K}{a b:AC}
end
section
variable{res rs:List AR}{dg:Nat}{R:Ih}{H:Heap}{n:Nat}{k:KV}{l:LV}{p:P2}{a:V}{vs:List AVr}
def ARq(l:List AR)(R:Ih):List AVr:=l.map fun
 |.tmp p=>.t (rg R p)|.cell1 p=>.c1 (rg R p)|.celln p n=>.cn (rg R p) n
end
end
abbrev SF:=Au->List V->Heap->Nat->KV->Prop
def ar0(s:Au->Heap->Nat->KV->Prop):SF:=λcall l H n k=>List.rec (motive:=λ_=>Prop) (s call H n k) (λ_ _ _=>False) l
def xC(s:Au->V->Heap->Nat->KV->Prop):SF:=λcall l H n k=>List.rec (motive:=λ_=>Prop) False (λa l _=>ar0 (λcall=>s call a) call l H n k) l
def ar2(s:Au->V->V->Heap->Nat->KV->Prop):SF:=λcall l H n k=>List.rec (motive:=λ_=>Prop) False (λa l _=>xC (λcall=>s call a) call l H n k) l
def ar3(s:Au->V->V->V->Heap->Nat->KV->Prop):SF:=λcall l H n k=>List.rec (motive:=λ_=>Prop) False (λa l _=>ar2 (λcall=>s call a) call l H n k) l
def ar4(s:Au->V->V->V->V->Heap->Nat->KV->Prop):SF:=λcall l H n k=>List.rec (motive:=λ_=>Prop) False (λa l _=>ar3 (λcall=>s call a) call l H n k) l
def ar5(s:Au->V->V->V->V->V->Heap->Nat->KV->Prop):SF:=λcall l H n k=>List.rec (motive:=λ_=>Prop) False (λa l _=>ar4 (λcall=>s call a) call l H n k) l
theorem ATd{s:Au->Heap->Nat->KV->Prop}{call:Au}{l:List V}{H:Heap}{n:Nat}{k:KV}(h:ar0 s call l H n k):l=[]/\s call H n k:=by
 cases l with
 |nil=>exact⟨rfl,h⟩
 |cons=>exact(show False from h).elim
theorem AUM{s:Au->V->Heap->Nat->KV->Prop}{call:Au}{l:List V}{H:Heap}{n:Nat}{k:KV}(h:xC s call l H n k):∃d,l=[d]/\s call d H n k:=by
 cases l with
 |nil=>exact(show False from h).elim
 |cons a l=>
  obtain⟨rfl,h⟩:=ATd (show ar0 (λcall=>s call a) call l H n k from h)
  exact⟨a,rfl,h⟩
theorem ATz{s:Au->V->V->Heap->Nat->KV->Prop}{call:Au}{l:List V}{H:Heap}{n:Nat}{k:KV}(h:ar2 s call l H n k):∃d f,l=[d,f]/\s call d f H n k:=by
 cases l with
 |nil=>exact(show False from h).elim
 |cons a l=>
  obtain⟨g,rfl,h⟩:=AUM (show xC (λcall=>s call a) call l H n k from h)
  exact⟨a,g,rfl,h⟩
theorem AUC{s:Au->V->V->V->Heap->Nat->KV->Prop}{call:Au}{l:List V}{H:Heap}{n:Nat}{k:KV}(h:ar3 s call l H n k):∃d f g,l=[d,f,g]/\s call d f g H n k:=by
 cases l with
 |nil=>exact(show False from h).elim
 |cons a l=>
  obtain⟨i,m,rfl,h⟩:=ATz (show ar2 (λcall=>s call a) call l H n k from h)
  exact⟨a,i,m,rfl,h⟩
theorem AUP{s:Au->V->V->V->V->Heap->Nat->KV->Prop}{call:Au}{l:List V}{H:Heap}{n:Nat}{k:KV}(h:ar4 s call l H n k):∃d f g i,l=[d,f,g,i]/\s call d f g i H n k:=by
 cases l with
 |nil=>exact(show False from h).elim
 |cons a l=>
  obtain⟨m,p,q,rfl,h⟩:=AUC (show ar3 (λcall=>s call a) call l H n k from h)
  exact⟨a,m,p,q,rfl,h⟩
theorem Aas{s:Au->V->V->V->V->V->Heap->Nat->KV->Prop}{call:Au}{l:List V}{H:Heap}{n:Nat}{k:KV}(h:ar5 s call l H n k):∃d f g i m,l=[d,f,g,i,m]/\s call d f g i m H n k:=by
 cases l with
 |nil=>exact(show False from h).elim
 |cons a l=>
  obtain⟨p,q,u,v,rfl,h⟩:=AUP (show ar4 (λcall=>s call a) call l H n k from h)
  exact⟨a,p,q,u,v,rfl,h⟩
def ARd(G:AY)(af:AF)(s:SF):Prop:=∀call callE,U5 call callE->F8 callE->∀args H n k,s call args H n k->ASz af G callE args H n k
section
variable{E:RS}{G:AY}{H:Heap}{x:X}{a:Int}
end
@[congr] theorem AeI{o o':Option V}(f:V->Prop)(h:o=o'):AL o f=AL o' f:=by rw[h]
@[congr] theorem AeJ{α:Type}{o o':Option α}(f:α->Prop)(h:o=o'):Gu o f=Gu o' f:=by rw[h]
@[congr] theorem AeC{b b':Bool}(p:Prop)(h:b=b'):Ji b p=Ji b' p:=by rw[h]
@[congr] theorem AbI{v v':V}(b:Bool)(p q:Prop)(h:v=v'):AZ v b p q=AZ v' b p q:=by rw[h]
@[congr] theorem AeH{c c':V}{b:Bool}{e:Option V}(f:V->Prop)(h:c=c'):Ak c b e f=Ak c' b e f:=by rw[h]
@[congr] theorem AcP{c c':V}{b:Bool}{t:KV->Prop}{H:Heap}{n:Nat}(f:KV)(h:c=c'):DY c b t H n f=DY c' b t H n f:=by rw[h]
@[congr] theorem Ad8(F:T AF)(G:AY)(f:Nat){a a':List V}{H H':Heap}{n n':Nat}(k:KV)(h0:a=a')(h1:H=H')(h2:n=n'):Runs F G f a H n k=Runs F G f a' H' n' k:=by rw[h0,h1,h2]
theorem AP(v:V)(f:V->Prop):AL (some v) f=f v:=rfl
theorem V8{α:Type}(v:α)(f:α->Prop):Gu (some v) f=f v:=rfl
theorem X5(p:Prop):Ji true p=p:=rfl
theorem BP(p q:Prop):AZ (.bool true) true p q=p:=rfl
theorem BG(p q:Prop):AZ (.bool false) true p q=q:=rfl
theorem AbL(e:Option V)(f:V->Prop):Ak (.bool true) true e f=AL e f:=rfl
theorem Abj(e:Option V)(f:V->Prop):Ak (.bool false) false e f=AL e f:=rfl
theorem Af4(e:Option V)(f:V->Prop):Ak (.bool true) false e f=f (.Dl []):=rfl
theorem AfZ(e:Option V)(f:V->Prop):Ak (.bool false) true e f=f (.Dl []):=rfl
theorem AhT(b:Bool)(e:Option V)(f:V->Prop):Ak (.Dl []) b e f=f (.Dl []):=rfl
theorem Aeh(t:KV->Prop)(H:Heap)(n:Nat)(f:KV):DY (.bool true) true t H n f=t f:=rfl
theorem Af1(t:KV->Prop)(H:Heap)(n:Nat)(f:KV):DY (.bool false) false t H n f=t f:=rfl
theorem AgB(t:KV->Prop)(H:Heap)(n:Nat)(f:KV):DY (.bool true) false t H n f=f (.Dl []) H n:=rfl
theorem Aef(t:KV->Prop)(H:Heap)(n:Nat)(f:KV):DY (.bool false) true t H n f=f (.Dl []) H n:=rfl
theorem AhJ(b:Bool)(t:KV->Prop)(H:Heap)(n:Nat)(f:KV):DY (.Dl []) b t H n f=f (.Dl []) H n:=rfl
theorem Afc(b:Bool):FK (.bool b)=some (.bool (!b)):=by cases b<;>rfl
theorem AaT(a b:V):Aw (.bool true) a b=some a:=rfl
theorem AZj(a b:V):Aw (.bool false) a b=some b:=rfl
theorem Ah(off id o:Nat):AQ off (.ptr id o)=some (.ptr id (o+off)):=by show Dx (Nat.add o off) _=_;rw[Bv];rfl
theorem AOD(off id o:Nat):AQ off (.gptr id o)=some (.gptr id (o+off)):=by show Dx (Nat.add o off) _=_;rw[Bv];rfl
theorem DV(id o:Nat):Af (.ptr id o)=some (.ptr id o):=rfl
theorem AJ5(a:V)(l:List V):CS (.Dl (a::l)) 0=some a:=rfl
theorem AKJ(a b:V)(l:List V):CS (.Dl (a::b::l)) 1=some b:=rfl
theorem Adl(a b c:V)(l:List V):CS (.Dl (a::b::c::l)) 2=some c:=rfl
theorem AUq(a:V)(G:AY)(H:Heap):AX a G H=Va (ldP a G H 1) λL=>nth L 0:=rfl
theorem AbZ(m:Nat)(a:V)(G:AY)(H:Heap):Aj m a G H=Va (ldP a G H m) λL=>some (.agg L):=rfl
theorem ATg(id off:Nat)(G:AY)(H:Heap)(n:Nat):ldP (.ptr id off) G H n=mY H id off n:=rfl
theorem AJT(L:LV)(f:LV->Option V):Va (some L) f=f L:=rfl
def one(L:LV):Nu:=.arr L.length 1 (T.set .e 0 L)
theorem Abg{v:V}{H:Heap}{n:Nat}{P:KV}(h:Zp v=true):Bc (EM v) H n P=P (.ptr n 0) (T.set H n (one (A8 v))) (n+1):=by
 show Ji (Zp v) (DT (len (A8 v)) λe=>DT n λn=>P (.ptr n 0) (T.set H n (.arr e 1 (T.set .e 0 (A8 v)))) (Nat.succ n))=_
 rw[BL,BL,len_eq,h]
 rfl
theorem AT9{z:Nat}{L:LV}{H:Heap}{n:Nat}{P:KV}(h:L.length=z):Bc (Am z [L] E0) H n P=P (.ptr n 0) (T.set H n (one L)) (n+1):=by
 show DT (len [L]) (λm=>DT n λn=>P (.ptr n 0) (T.set H n (.arr z m (Et [L] 0 .e))) (Nat.succ n))=_
 rw[BL,BL,len_eq]
 subst h
 rfl
theorem ATI{H:Heap}{id:Nat}{L:LV}(h:T.get H id=some (one L)){off m:Nat}(w:0<m)(x:off+m<=L.length):mY H id off m=some ((L.drop off).take m):=by
 unfold mY
 rw[h]
 show ldB L.length 1 (T.set .e 0 L) off m=_
 unfold ldB
 have d:off/L.length=0:=Nat.div_eq_of_lt (by omega)
 have f:off%L.length=off:=Nat.mod_eq_of_lt (by omega)
 have p:Nat.blt (Nat.div off L.length) 1=true:=by rw[Nat.blt_eq];show off/L.length<1;omega
 rw[p]
 show BO (T.get (T.set T.e 0 L) (Nat.div off L.length)) (ldC L.length off m)=_
 have g:T.get (T.set T.e 0 L) (Nat.div off L.length)=some L:=by
  show T.get (T.set T.e 0 L) (off/L.length)=some L
  rw[d];simp
 rw[g]
 show ldC L.length off m L=_
 unfold ldC
 cases k:band (Nat.beq m L.length) (Nat.beq (Nat.mod off L.length) 0)with
 |true=>
  simp only[BK,Bool.and_eq_true,beq_iff]at k
  obtain⟨q,u⟩:=k
  have i:off=0:=by have:off%L.length=0:=u;omega
  subst i
  simp[q]
 |false=>
  have v:Nat.ble (Nat.add (Nat.mod off L.length) m) L.length=true:=by
   rw[Nat.ble_eq];show off%L.length+m<=L.length;omega
  rw[v]
  show some (aK m (AAS (Nat.mod off L.length) L))=_
  rw[gQ,yN]
  show some (List.take m (List.drop (off%L.length) L))=_
  rw[f]
theorem Ab8{H:Heap}{id:Nat}{L:LV}(h:T.get H id=some (one L)){off m:Nat}{new:LV}(x:0<m)(k:new.length=m)(p:off+m<=L.length):stH H id off m new=some (T.set H id (one (L.take off++(new++L.drop (off+m))))):=by
 unfold stH
 rw[h]
 show BO (stB L.length 1 (T.set .e 0 L) off m new) (λb=>some (T.set H id b))=_
 have d:Nat.div off L.length=0:=Nat.div_eq_of_lt (by omega)
 have g:Nat.mod off L.length=off:=Nat.mod_eq_of_lt (by omega)
 have q:stB L.length 1 (T.set .e 0 L) off m new=some (one (L.take off++(new++L.drop (off+m)))):=by
  unfold stB
  rw[d]
  show BO (T.get (T.set T.e 0 L) 0) (stC new L.length 1 (T.set .e 0 L) off m)=_
  rw[T.Ag]
  show stC new L.length 1 (T.set .e 0 L) off m L=_
  unfold stC
  rw[g,d]
  have f:(L.take off++(new++L.drop (off+m))).length=L.length:=by simp;omega
  cases i:band (Nat.beq m L.length) (Nat.beq off 0)with
  |true=>
   simp only[BK,Bool.and_eq_true,beq_iff]at i
   obtain⟨u,v⟩:=i
   subst v
   show some (Nu.arr L.length 1 (T.set (T.set T.e 0 L) 0 new))=_
   unfold one
   rw[f]
   have:List.take 0 L++(new++List.drop (0+m) L)=new:=by simp[u]
   rw[this];rfl
  |false=>
   have w:Nat.ble (Nat.add off m) L.length=true:=by rw[Nat.ble_eq];exact p
   rw[w]
   show some (Nu.arr L.length 1 (T.set (T.set T.e 0 L) 0 (AP4 new off L)))=_
   unfold one
   rw[f,AJN,k];rfl
 rw[q]
 rfl
theorem AGo{F:T AF}{G:AY}{f:Nat}{af:AF}{s:SF}(d:T.get F f=some af)(hs:ARd G af s){args:List V}{H:Heap}{n:Nat}{k:KV}(h:s (Runs F G) args H n k):Runs F G f args H n k:=
 ASa d (hs _ _ (λ_ _ _ _ _ h=>h) (AGX F G) _ _ _ _ h)
def goN(x:X)(b:Bool)(d:Dst)(o:AN):XpT:=λG _ R H n k=>Ak (x.ev R) b (o.ev G R H) λv=>k (FW d v R) H n
def goA(x:X)(b:Bool)(d:Dst)(o:AA):XpT:=λ_ _ R H n k=>DY (x.ev R) b (Bc (o.al R) H n) H n λv H n=>k (FW d v R) H n
def goE(x:X)(b:Bool)(d:Dst)(o:AE):XpT:=λG call R H n k=>DY (x.ev R) b (o.ex G call R H n) H n λv H n=>k (FW d v R) H n
def Ahu(x:X)(b:Bool)(d:Dst)(o:AO):XpT:=AO.rec (motive:=λ_=>XpT) (goN x b d) (goA x b d) (goE x b d) o
def oAG(o:AA):XoT:=λ_ _ d R H n k=>Bc (o.al R) H n λv H n=>k (FW d v R) H n
def AO.exG(o:AO):XoT:=AO.rec (motive:=λ_=>XoT) oN oAG oE o
def AhF(d:Dst)(o:AO):XpT:=λG call R H n k=>o.exG G call d R H n k
def AOp.exG(o:AOp):XpT:=AOp.rec (motive:=λ_=>XpT) (λd g o=>Gd.rec (motive:=λ_=>Dst->AO->XpT) AhF Ahu g d o) o
theorem AUo(o:AOp):o.exG=o.ex:=by
 obtain⟨d,g,o⟩:=o
 cases g<;>cases o<;>rfl
def ASI(l:List AOp):XpT:=
 List.rec (motive:=λ_=>XpT) (λ_ _ R H n k=>k R H n) (λo _ g G call R H n k=>o.exG G call R H n λR H n=>g G call R H n k) l
theorem AUf:∀l:List AOp,ASI l=Qa l
 |[]=>rfl
 |o::l=>by
  show(λG call R H n k=>o.exG G call R H n λR H n=>ASI l G call R H n k)=λG call R H n k=>o.ex G call R H n λR H n=>Qa l G call R H n k
  rw[AUf l,AUo]
def AeU(x:X)(b:Bool):ReT:=λG R H d o k=>ACX (x.ev R) b (o.ev G R H) (Ls (T.Du d R.rg)) k
def Afp(g:Gd):ReT:=Gd.rec (motive:=λ_=>ReT) Af0 AeU g
def AI.exG(i:AI):XpT:=AI.rec (motive:=λ_=>XpT) (λo=>o.exG) (λd g o G _ R H n k=>Afp g G R H d o (k R H n)) i
theorem AdQ(i:AI):i.exG=i.ex:=by
 cases i with
 |op o=>exact AUo o
 |re d g o=>cases g<;>rfl
def ALg(l:List AI):XpT:=
 List.rec (motive:=λ_=>XpT) (λ_ _ R H n k=>k R H n) (λi _ g G call R H n k=>i.exG G call R H n λR H n=>g G call R H n k) l
theorem AMo:∀l:List AI,ALg l=Bl l
 |[]=>rfl
 |o::l=>by
  show(λG call R H n k=>o.exG G call R H n λR H n=>ALg l G call R H n k)=λG call R H n k=>o.ex G call R H n λR H n=>Bl l G call R H n k
  rw[AMo l,AdQ]
def AX3(l:List AOp):M:=λG call _ R H n k _ _=>ASI l G call (.mk [] R) H n λE H n=>k E.rg H n
def AXF(l:List AI):M:=λG call _ R H n k _ _=>ALg l G call (.mk [] R) H n λE H n=>k E.rg H n
def AC.exG(c:AC):M:=AC.rec (motive:=λ_=>M) AXf AX3 AXF AW8 AQJ AKy AOC AWJ Acp c
theorem ADh:∀c:AC,c.exG=c.exL
 |.skip=>rfl
 |.ops l=>by show AX3 l=AZG l;unfold AX3 AZG;rw[AUf]
 |.reg l=>by show AXF l=AZS l;unfold AXF AZS;rw[AMo]
 |.seq a b=>by show AW8 a b a.exG b.exG=AW8 a b a.exL b.exL;rw[ADh a,ADh b]
 |.cond x a b=>by show AQJ x a b a.exG b.exG=AQJ x a b a.exL b.exL;rw[ADh a,ADh b]
 |.block i a=>by show AKy i a a.exG=AKy i a a.exL;rw[ADh a]
 |.loop a=>by show AOC a a.exG=AOC a a.exL;rw[ADh a]
 |.exit i=>rfl
 |.ret=>rfl
inductive An:Type 1 where
 |n
 |s (a b:An)
 |j (S:K) (a b:An)
 |c (a b:An)
 |b (a:An)
 |l (σ:Type) (bd:(σ->Prop)->σ->Prop) (st:Ih->Heap->Nat->σ) (a:(σ->Prop)->An)
abbrev M2:=AC->AY->Au->Ih->Heap->Nat->K->KX->K->Prop
def AC.ARA(c:AC)(f:AC->AC->Prop):Prop:=AC.rec (motive:=λ_=>Prop) False (λ_=>False) (λ_=>False) (λa b _ _=>f a b) (λ_ _ _ _ _=>False) (λ_ _ _=>False) (λ_ _=>False) (λ_=>False) False c
def AC.ATY(c:AC)(f:X->AC->AC->Prop):Prop:=AC.rec (motive:=λ_=>Prop) False (λ_=>False) (λ_=>False) (λ_ _ _ _=>False) (λx a b _ _=>f x a b) (λ_ _ _=>False) (λ_ _=>False) (λ_=>False) False c
def AC.APU(c:AC)(f:Nat->AC->Prop):Prop:=AC.rec (motive:=λ_=>Prop) False (λ_=>False) (λ_=>False) (λ_ _ _ _=>False) (λ_ _ _ _ _=>False) (λi a _=>f i a) (λ_ _=>False) (λ_=>False) False c
def AC.ATS(c:AC)(f:AC->Prop):Prop:=AC.rec (motive:=λ_=>Prop) False (λ_=>False) (λ_=>False) (λ_ _ _ _=>False) (λ_ _ _ _ _=>False) (λ_ _ _=>False) (λa _=>f a) (λ_=>False) False c
def An.ex(L:EZ)(an:An):M2:=
 An.rec (motive:=λ_=>M2)
  (λc G call R H n k x r=>c.exG G call 0 R H n k x r)
  (λ_ _ ga gb c G call R H n k x r=>c.ARA λa b=>ga a G call R H n (λR H n=>gb b G call R H n k x r) x r)
  (λS _ _ ga _ c G call R H n _ x r=>c.ARA λa _=>ga a G call R H n S x r)
  (λ_ _ ga gb c G call R H n k x r=>c.ATY λy a b=>AZ (y.ev (.mk [] R)) true (ga a G call R H n k x r) (gb b G call R H n k x r))
  (λ_ ga c G call R H n k x r=>c.APU λi a=>ga a G call R H n k (Gz i k x) r)
  (fun σ bd st _ _ c _ _ R H n _ _ _=>c.ATS λ_=>L σ bd (st R H n)) an
abbrev M3:=AC->AY->Au->K->KX->K->Prop
def An.ob(L:EZ)(an:An):M3:=
 An.rec (motive:=λ_=>M3)
  (λ_ _ _ _ _ _=>True)
  (λ_ b ga gb c G call k x r=>c.ARA λa d=>ga a G call (λR H n=>b.ex L d G call R H n k x r) x r/\gb d G call k x r)
  (λS _ b ga gb c G call k x r=>c.ARA λa d=>ga a G call S x r/\(∀R H n,S R H n=b.ex L d G call R H n k x r)/\gb d G call k x r)
  (λ_ _ ga gb c G call k x r=>c.ATY λ_ a b=>ga a G call k x r/\gb b G call k x r)
  (λ_ ga c G call k x r=>c.APU λi a=>ga a G call k (Gz i k x) r)
  (fun σ bd st a ga c G call _ x r=>c.ATS λd=>∀ih:σ->Prop,(∀R H n,bd ih (st R H n)=(a ih).ex L d G call R H n (λR H n=>ih (st R H n)) x r)/\ga ih d G call (λR H n=>ih (st R H n)) x r) an
def AC.AYO(c:AC)(f:AC->AC->Prop):Prop:=AC.rec (motive:=λ_=>Prop) True (λ_=>True) (λ_=>True) (λa b _ _=>f a b) (λ_ _ _ _ _=>True) (λ_ _ _=>True) (λ_ _=>True) (λ_=>True) True c
def AC.AaM(c:AC)(f:X->AC->AC->Prop):Prop:=AC.rec (motive:=λ_=>Prop) True (λ_=>True) (λ_=>True) (λ_ _ _ _=>True) (λx a b _ _=>f x a b) (λ_ _ _=>True) (λ_ _=>True) (λ_=>True) True c
def AC.AWb(c:AC)(f:Nat->AC->Prop):Prop:=AC.rec (motive:=λ_=>Prop) True (λ_=>True) (λ_=>True) (λ_ _ _ _=>True) (λ_ _ _ _ _=>True) (λi a _=>f i a) (λ_ _=>True) (λ_=>True) True c
def AC.AZP(c:AC)(f:AC->Prop):Prop:=AC.rec (motive:=λ_=>Prop) True (λ_=>True) (λ_=>True) (λ_ _ _ _=>True) (λ_ _ _ _ _=>True) (λ_ _ _=>True) (λa _=>f a) (λ_=>True) True c
def An.obR(L:EZ)(an:An):M3:=
 An.rec (motive:=λ_=>M3)
  (λ_ _ _ _ _ _=>True)
  (λ_ b ga gb c G call k x r=>c.AYO λa d=>ga a G call (λR H n=>b.ex L d G call R H n k x r) x r/\gb d G call k x r)
  (λS _ b ga gb c G call k x r=>c.AYO λa d=>ga a G call S x r/\(∀R H n,S R H n=S R H n)/\gb d G call k x r)
  (λ_ _ ga gb c G call k x r=>c.AaM λ_ a b=>ga a G call k x r/\gb b G call k x r)
  (λ_ ga c G call k x r=>c.AWb λi a=>ga a G call k (Gz i k x) r)
  (fun σ bd st a ga c G call _ x r=>c.AZP λd=>∀ih:σ->Prop,(∀R H n,bd ih (st R H n)=bd ih (st R H n))/\ga ih d G call (λR H n=>ih (st R H n)) x r) an
theorem An.AdB(L:EZ)(an:An):∀c G call k x r,an.obR L c G call k x r:=by
 induction an with
 |n=>exact λ_ _ _ _ _ _=>trivial
 |s a b d f=>intro c;cases c<;>first|exact λ_ _ _ _ _=>trivial|exact λG call k x r=>⟨d _ _ _ _ _ _,f _ _ _ _ _ _⟩
 |j S a b d f=>intro c;cases c<;>first|exact λ_ _ _ _ _=>trivial|exact λG call k x r=>⟨d _ _ _ _ _ _,λ_ _ _=>rfl,f _ _ _ _ _ _⟩
 |c a b d f=>intro c;cases c<;>first|exact λ_ _ _ _ _=>trivial|exact λG call k x r=>⟨d _ _ _ _ _ _,f _ _ _ _ _ _⟩
 |b a d=>intro c;cases c<;>first|exact λ_ _ _ _ _=>trivial|exact λG call k x r=>d _ _ _ _ _ _
 |l i m st a d=>intro c;cases c<;>first|exact λ_ _ _ _ _=>trivial|exact λG call k x r g=>⟨λ_ _ _=>rfl,d g _ _ _ _ _ _⟩
theorem ANI{c:AC}{f:AC->AC->Prop}(h:c.ARA f):∃a b,c=.seq a b/\f a b:=by
 cases c<;>first|exact⟨_,_,rfl,h⟩|exact(show False from h).elim
theorem ATG{c:AC}{f:X->AC->AC->Prop}(h:c.ATY f):∃x a b,c=.cond x a b/\f x a b:=by
 cases c<;>first|exact⟨_,_,_,rfl,h⟩|exact(show False from h).elim
theorem AP3{c:AC}{f:Nat->AC->Prop}(h:c.APU f):∃i a,c=.block i a/\f i a:=by
 cases c<;>first|exact⟨_,_,rfl,h⟩|exact(show False from h).elim
theorem AR6{c:AC}{f:AC->Prop}(h:c.ATS f):∃a,c=.loop a/\f a:=by
 cases c<;>first|exact⟨_,rfl,h⟩|exact(show False from h).elim
section
variable{G:AY}{call callE:Au}
theorem AZK{c:AC}{R:Ih}{H:Heap}{n:Nat}{k:K}{x:KX}{r:K}(h:c.exG G call 0 R H n k x r):c.exL G call 0 R H n k x r:=by rwa [ADh]at h
theorem ADF(g:U5 call callE)(hd:F8 callE):∀(c:AC) (R:Ih) (H:Heap) (n:Nat) (k k':K) (x d:KX) (r f:K),(∀R H n,k R H n->k' R H n)->(∀i R H n,x i R H n->d i R H n)->(∀R H n,r R H n->f R H n)->
 c.exL G call 0 R H n k x r->c.exL G callE 0 R H n k' d f
 |.skip,R,H,n,k,k',x,d,r,f,m,p,q,h=>m _ _ _ h
 |.ops l,R,H,n,k,k',x,d,r,f,m,p,q,h=>AXY hd l _ H n (λE H n h=>m _ _ _ h) (ARt hd g G l _ H n _ h)
 |.reg l,R,H,n,k,k',x,d,r,f,m,p,q,h=>AR5 hd l _ H n (λE H n h=>m _ _ _ h) (ALG hd g G l _ H n _ h)
 |.seq a b,R,H,n,k,k',x,d,r,f,m,p,q,h=>ADF g hd a R H n _ _ x d r f (λR H n h=>ADF g hd b R H n k k' x d r f m p q h) p q h
 |.cond c a b,R,H,n,k,k',x,d,r,f,m,p,q,h=>by
  have w:AZ (c.ev (.mk [] R)) true (a.exL G call 0 R H n k x r) (b.exL G call 0 R H n k x r):=h
  show AZ (c.ev (.mk [] R)) true (a.exL G callE 0 R H n k' d f) (b.exL G callE 0 R H n k' d f)
  exact ALj w (ADF g hd a R H n k k' x d r f m p q) (ADF g hd b R H n k k' x d r f m p q)
 |.block v a,R,H,n,k,k',x,d,r,f,m,p,q,h=>by
  refine ADF g hd a R H n k k' (Gz v k x) (Gz v k' d) r f m (λi R H n h=>?_) q h
  unfold Gz at h⊢
  cases u:Nat.beq i v with
  |true=>rw[u]at h;exact m _ _ _ h
  |false=>rw[u]at h;exact p _ _ _ _ h
 |.loop a,R,H,n,k,k',x,d,r,f,m,p,q,h=>by
  intro I y
  exact h I λR H n u=>y R H n (ADF g hd a R H n I I x d r f (λ_ _ _ h=>h) p q u)
 |.exit i,R,H,n,k,k',x,d,r,f,m,p,q,h=>p _ _ _ _ h
 |.ret,R,H,n,k,k',x,d,r,f,m,p,q,h=>q _ _ _ h
theorem An.ok{L:EZ}(hL:Dc L)(B:U5 call callE)(hd:F8 callE)(an:An):∀(c:AC) (k k':K) (x d:KX) (r f:K),(∀R H n,k R H n->k' R H n)->(∀i R H n,x i R H n->d i R H n)->(∀R H n,r R H n->f R H n)->
 an.ob L c G call k x r->∀R H n,an.ex L c G call R H n k x r->c.exL G callE 0 R H n k' d f:=by
 induction an with
 |n=>exact λc k k' x d r f q m p _ R H n h=>ADF B hd c R H n k k' x d r f q m p (AZK h)
 |s a b g u=>
  intro c k k' x d r f q m p ho R H n h
  obtain⟨v,w,rfl,ho⟩:=ANI ho
  exact g v _ _ x d r f (λR H n h=>u w k k' x d r f q m p ho.2 R H n h) m p ho.1 R H n h
 |j S a b g u=>
  intro c k k' x d r f q m p ho R H n h
  obtain⟨v,w,rfl,ho⟩:=ANI ho
  exact g v S (λR H n=>w.exL G callE 0 R H n k' d f) x d r f (λR H n h=>u w k k' x d r f q m p ho.2.2 R H n (ho.2.1 R H n▸h)) m p ho.1 R H n h
 |c a b g u=>
  intro c k k' x d r f q m p ho R H n h
  obtain⟨y,v,w,rfl,ho⟩:=ATG ho
  exact ALj (P':=v.exL G callE 0 R H n k' d f) (Q':=w.exL G callE 0 R H n k' d f) h (λh=>g v k k' x d r f q m p ho.1 R H n h) (λh=>u w k k' x d r f q m p ho.2 R H n h)
 |b a g=>
  intro c k k' x d r f q m p ho R H n h
  obtain⟨i,v,rfl,ho⟩:=AP3 ho
  refine g v k k' (Gz i k x) (Gz i k' d) r f q (λj R H n h=>?_) p ho R H n h
  unfold Gz at h⊢
  cases D:Nat.beq j i with
  |true=>rw[D]at h;exact q _ _ _ h
  |false=>rw[D]at h;exact m _ _ _ _ h
 |l E F st a g=>
  intro c k k' x d r f q m p ho R H n h
  obtain⟨v,rfl,ho⟩:=AR6 ho
  intro I M
  have N:L E F (st R H n):=h
  refine hL E F (λs=>∀R H n,st R H n=s->I R H n) (λA C s J R H n e=>?_) _ N R H n rfl
  subst e
  rw[(ho A).1]at J
  exact M R H n (g A v (λR H n=>A (st R H n)) I x d r f (λR H n h=>C _ h R H n rfl) m p (ho A).2 R H n J)
end
def fEx(L:EZ)(an:An)(af:AF)(G:AY)(call:Au)(args:List V)(H:Heap)(n:Nat)(k:KV):Prop:=
 AF.rec (motive:=λ_=>Prop) (λnp code res d dg=>Ji (Nat.beq (len args) np) (an.ex L code G call (nJ args 0 .e) H n (JE res dg d G call k) noX (JE res dg d G call k))) (λf=>AEH f G args H n k) af
def fOb(L:EZ)(an:An)(af:AF)(G:AY)(call:Au)(k:KV):Prop:=
 AF.rec (motive:=λ_=>Prop) (λ_ code res d dg=>an.ob L code G call (JE res dg d G call k) noX (JE res dg d G call k)) (λ_=>True) af
def AhB(L:EZ)(an:An)(af:AF)(G:AY)(call:Au)(k:KV):Prop:=
 AF.rec (motive:=λ_=>Prop) (λ_ code res d dg=>an.obR L code G call (JE res dg d G call k) noX (JE res dg d G call k)) (λ_=>True) af
theorem obs{L:EZ}{an:An}{af:AF}{G:AY}{call:Au}{k:KV}(h:AhB L an af G call k=fOb L an af G call k):fOb L an af G call k:=by
 rw[<-h];cases af with
 |mk=>exact An.AdB ..
 |nat=>exact trivial
theorem AHK{L:EZ}(hL:Dc L){G:AY}{call callE:Au}(g:U5 call callE)(hd:F8 callE){an:An}{af:AF}{args:List V}{H:Heap}{n:Nat}{k:KV}(ho:fOb L an af G call k)(h:fEx L an af G call args H n k):ASz af G callE args H n k:=by
 cases af with
 |nat=>exact h
 |mk m f res d dg=>
 have i:Ji (Nat.beq (len args) m) (an.ex L f G call (nJ args 0 .e) H n (JE res dg d G call k) noX (JE res dg d G call k)):=h
 show Ji (Nat.beq (len args) m) (f.exL G callE 0 (nJ args 0 .e) H n (JE res dg d G callE k) noX (JE res dg d G callE k))
 rw[FM]at i⊢
 exact⟨i.1,An.ok hL g hd an f _ _ _ _ _ _ (λR H n h=>nD hd g res dg d G k R H n h) (λ_ _ _ _ h=>h) (λR H n h=>nD hd g res dg d G k R H n h) ho _ _ _ i.2⟩
section
variable{L:EZ}(hL:Dc L){G:AY}{af:AF}{an:Au->KV->An}(ho:∀call k,fOb L (an call k) af G call k)
include hL ho
theorem sf0{s:Au->Heap->Nat->KV->Prop}(h:∀call H n k,s call H n k=fEx L (an call k) af G call [] H n k):ARd G af (ar0 s):=λcall callE d hd l H n k f=>by
 obtain⟨rfl,f⟩:=ATd f;exact AHK hL d hd (ho call k) (h .. ▸f)
theorem sf1{s:Au->V->Heap->Nat->KV->Prop}(h:∀call d H n k,s call d H n k=fEx L (an call k) af G call [d] H n k):ARd G af (xC s):=λcall callE f hd l H n k g=>by
 obtain⟨d,rfl,g⟩:=AUM g;exact AHK hL f hd (ho call k) (h .. ▸g)
theorem sf2{s:Au->V->V->Heap->Nat->KV->Prop}(h:∀call d f H n k,s call d f H n k=fEx L (an call k) af G call [d,f] H n k):ARd G af (ar2 s):=λcall callE g hd l H n k i=>by
 obtain⟨d,f,rfl,i⟩:=ATz i;exact AHK hL g hd (ho call k) (h .. ▸i)
theorem sf3{s:Au->V->V->V->Heap->Nat->KV->Prop}(h:∀call d f g H n k,s call d f g H n k=fEx L (an call k) af G call [d,f,g] H n k):ARd G af (ar3 s):=λcall callE i hd l H n k m=>by
 obtain⟨d,f,g,rfl,m⟩:=AUC m;exact AHK hL i hd (ho call k) (h .. ▸m)
theorem sf4{s:Au->V->V->V->V->Heap->Nat->KV->Prop}(h:∀call d f g i H n k,s call d f g i H n k=fEx L (an call k) af G call [d,f,g,i] H n k):ARd G af (ar4 s):=λcall callE m hd l H n k p=>by
 obtain⟨d,f,g,i,rfl,p⟩:=AUP p;exact AHK hL m hd (ho call k) (h .. ▸p)
theorem sf5{s:Au->V->V->V->V->V->Heap->Nat->KV->Prop}(h:∀call d f g i m H n k,s call d f g i m H n k=fEx L (an call k) af G call [d,f,g,i,m] H n k):ARd G af (ar5 s):=λcall callE p hd l H n k q=>by
 obtain⟨d,f,g,i,m,rfl,q⟩:=Aas q;exact AHK hL p hd (ho call k) (h .. ▸q)
end
def inR(l:List (Nat×Nat))(t:Nat):Bool:=l.any λp=>Nat.ble p.1 t&&Nat.ble t p.2
def opp(l:List Nat):List (Nat×Wk):=l.map λj=>(j,.plain)
def Dp(n:Nat):List (Nat×Wk):=opp (List.range n)
def Ae(o:Option AF):AF:=o.getD (.mk 0 .skip [] .no 0)
theorem AV{o:Option AF}(h:o.isSome=true):o=some (Ae o):=by
 cases o with
 |none=>cases h
 |some a=>rfl
theorem ADl.one{P:Program}{F:T AF}{f:Nat}{af:AF}{fn:Func}{loc:Nat->Bool}{g:Bool}{d:APj}{dg:Nat}(i:P.funcs[f]? =some fn)(k:(fn.name== "runtime.NumGoroutine")=false)
 (m:trF P loc g d dg fn=some af) (hd:af.dg=dg) (hi:AR9 af.dp=true):ADl P F f af:=.code ⟨⟨fn,loc,g,d,i,k,hd▸m⟩,.inl hi⟩
theorem ADl.two{P:Program}{F:T AF}{f:Nat}{af g:AF}{fn:Func}{loc:Nat->Bool}{i:Bool}{d:APj}{dg:Nat}(k:P.funcs[f]? =some fn)(m:(fn.name== "runtime.NumGoroutine")=false)
 (p:trF P loc i d dg fn=some af) (hd:af.dg=dg) (q:T.get F dg=some g) (hi:AR9 g.dp=true):ADl P F f af:=.code ⟨⟨fn,loc,i,d,k,m,hd▸p⟩,.inr ⟨g,hd▸q,hi⟩⟩
end Go.Bf
namespace Go.Bf
theorem APy(x y:Int):B2.ev .lss (.int .i64 x 0) (.int .i64 y 0)=some (.bool (decide (x<y))):=by
 show mkB (ilt x y)=_
 rw[TR,ZX]
theorem AMq(x y:Int):B2.ev .leq (.int .i64 x 0) (.int .i64 y 0)=some (.bool (decide (x<=y))):=by
 show mkB (ile x y)=_
 rw[TR,AD8]
theorem eq_i(x y:Int):CU (.one .int) false (.int .i64 x 0) (.int .i64 y 0)=some (.bool (x==y)):=by
 show ofB (Ld (some (ieq x y)) λb=>some b)=_
 rw[U4];cases x==y<;>rfl
theorem AYQ(x y:Int):CU (.one .int) true (.int .i64 x 0) (.int .i64 y 0)=some (.bool (!(x==y))):=by
 show ofB (Ld (some (ieq x y)) λb=>some (Qq b))=_
 rw[U4];cases x==y<;>rfl
theorem wrap64(a:Int):IntKind.wrap .i64 a=if 9223372036854775808<=a%18446744073709551616 then a%18446744073709551616-18446744073709551616 else a%18446744073709551616:=by
 show(if(true&&decide (a%18446744073709551616≥9223372036854775808))=true then a%18446744073709551616-18446744073709551616 else a%18446744073709551616)=_
 by_cases h:9223372036854775808<=a%18446744073709551616
 ·rw[if_pos h,if_pos (by simpa using h)]
 ·rw[if_neg h,if_neg (by simpa using h)]
theorem YF{x:Int}(d: -9223372036854775808<=x)(f:x<9223372036854775808):IntKind.wrap .i64 x=x:=by
 rw[wrap64];split<;>omega
end Go.Bf
