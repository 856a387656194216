/- Part of a proof; nothing is assumed. -/
import Derived.Test.YtbcanmhagkiccaaGreatDoorEngE
set_option linter.unusedVariables false
set_option linter.unusedSimpArgs false
noncomputable section
namespace Go.Eng
def P2.beq(p:P2):P2->Bool:=
 P2.rec (motive:=λ_=>P2->Bool) (λq=>P2.rec (motive:=λ_=>Bool) true (λ_ _=>false) (λ_ _=>false) q)
  (λ_ g q=>P2.rec (motive:=λ_=>Bool) false (λq _=>g q) (λ_ _=>false) q)
  (λ_ g q=>P2.rec (motive:=λ_=>Bool) false (λ_ _=>false) (λq _=>g q) q) p
theorem P2.UO:∀p:P2,P2.beq p p=true
 |.h=>rfl
 |.z p=>P2.UO p
 |.o p=>P2.UO p
abbrev rg(R:Cc)(p:P2):V:=Dq (T.Bf p R)
theorem sm{R:Cc}{p:P2}{v:V}:rg (T.Dx v p R) p=v:=by show Dq (T.Bf p (T.Dx v p R))=v;rw[T.Ed];rfl
theorem ne{R:Cc}{p q:P2}{v a:V}(hb:P2.beq q p=false)(h:rg R p=a):rg (T.Dx v q R) p=a:=by
 show Dq (T.Bf p (T.Dx v q R))=a
 rw[T.Ce _ _ _ _ (λe=>by subst e;rw[P2.UO]at hb;cases hb)]
 exact h
abbrev Aa:=(σ:Type)->((σ->Prop)->σ->Prop)->σ->Prop
def Ar(L:Aa):Prop:=∀(σ:Type) (b:(σ->Prop)->σ->Prop) (P:σ->Prop),(∀ih,(∀s,ih s->P s)->∀s,b ih s->P s)->∀s,L σ b s->P s
def lfp:Aa:=fun σ b s=>∀I:σ->Prop,(∀s,b I s->I s)->I s
theorem AfJ:Ar lfp:=λ_ _ P h _ hL=>hL P (h P λ_ h=>h)
def lpF(m:Nat):Aa:=fun σ b s=>Nat.rec (motive:=λ_=>σ->Prop) (λ_=>False) (λ_ g=>b g) m s
theorem aI(m:Nat):Ar (lpF m):=fun σ b P h=>by
 induction m with
 |zero=>exact λs hs=>(show False from hs).elim
 |succ m ih=>exact λs hs=>h _ ih s hs
def E0:RS:=.mk [] .e
def Am(c a b:V):Option V:=c.IE λt=>NJ t (some a) (some b)
def AY(a:V)(G:AQ)(H:Heap):Option V:=Fg (Zb a G H 1) λL=>nth L 0
def Ac(n:Nat)(a:V)(G:AQ)(H:Heap):Option V:=Fg (Zb a G H n) λL=>some (.agg L)
def Ba(a:V):Option V:=a.IE λb=>mkB (Ef b)
def AZs(a:V):Option V:=a.Cb λk n s=>yu k (Int.neg n) s
def FU(k:IntKind)(a:V):Option V:=a.Cb λ_ n s=>yu k n s
def ALP(off:Nat)(a:V):Option V:=a.Ie λl=>nth l off
def AbD(off n:Nat)(a:V):Option V:=a.Ie λl=>some (.agg (GH n (Ib off l)))
def nO(n esz:Nat)(a i:V):Option V:=Es i λi=>BJ (Nat.blt i n) (AL (Nat.mul i esz) a)
def U1(a i:V):Option V:=a.EM λln c=>Es i λi=>BJ (Nat.blt i ln) (ED (AOW c i) λb=>some (.int .u8 (.ofNat b) 0))
def ASa(n:Nat)(a i:V):Option V:=a.Ie λl=>Es i λi=>BJ (Nat.blt i n) (nth l i)
def BG(a:V)(i:Nat):Option V:=a.eU λl=>nth l i
def Et(a:V):Option V:=a.EM λn _=>some (.int .i64 (.ofNat n) 0)
def Ac4(a:V)(H:Heap):Option V:=EL H a λes _=>ED (len es) λn=>some (.int .i64 (.ofNat n) 0)
def dG(c:CK)(ok:Bool)(z m k:V)(H:Heap):Option V:=EL H m λes _=>Bl (KY c k es 0) (ny ok z)
def Aw(z:LV)(ps:List (Nat×Nat×X)):Option V:=BJ (Eh ps E0) (some (.agg (IQ ps E0 z)))
def ARq(n esz:Nat)(a:V)(lo hi:Option X):Option V:=a.XK (λid o=>FZ hi E0 n λh=>FZ lo E0 0 λl=>
 BJ (band (Nat.beq (Nat.mod o esz) 0) (band (Nat.ble l h) (Nat.ble h n))) (f3 (Nat.add (Nat.div o esz) l) (Nat.sub h l) (Nat.sub n l) λa b c=>.sl id a b c esz)) (λ_ _=>none)
def AZX(x y:V):Option V:=x.Cb λk a s=>y.Cb λk' b t=>BJ (band (keq k k') (Nat.beq (Nat.add s t) 0)) (some (.int k (Bool.rec a b (nI a b)) 0))
def Af7(x y:V):Option V:=x.Cb λk a s=>y.Cb λk' b t=>BJ (band (keq k k') (Nat.beq (Nat.add s t) 0)) (some (.int k (Bool.rec a b (nI b a)) 0))
def Af5(a:V)(G:AQ)(H:Heap):Option V:=BJ (Ef (isStr a)) (Bl (elems a G H 1) λl=>Bl (U0 l) λc=>f3 (len l) c 0 λn c _=>.str n c)
def AAN(s c:V):Option V:=s.EM λn cd=>c.Cb λk b _=>BJ (Nat.beq (kno k) 4) (ABp b λb=>BJ (Nat.blt b 256) (ES (LU b n cd 0) λi=>some (.int .i64 i 0)))
def BA(v:V)(k:KA):Prop:=Bq (dI v) (DK (len (CZ v)) λe=>k (.arr e 1 (T.set .e 0 (CZ v))) λid=>.ptr id 0)
def Au(sz:Nat)(a b:V)(H:Heap)(n:Nat)(k:KV):Prop:=Bq (band (dI b) (Nat.beq (len (CZ b)) sz)) (CJ (stP a H sz (CZ b)) λH=>k .undef H n)
def Dn(esz bs:Nat)(a b:V)(G:AQ)(H:Heap)(n:Nat)(k:KV):Prop:=CJ (elems b G H esz) λLS=>wV a G esz bs LS H n k
def copyV(esz:Nat)(a b:V)(G:AQ)(H:Heap)(n:Nat)(k:KV):Prop:=CJ (elems b G H esz) λLS=>WR a esz LS H n k
def iD(c:CK)(m key v:V)(H:Heap)(n:Nat)(k:KV):Prop:=Oi m H (AM5 c key v) λH=>k .undef H n
def Ae5(c:CK)(m key:V)(H:Heap)(n:Nat)(k:KV):Prop:=Oi m H (ALh c key) λH=>k (.BP []) H n
def AfB(m:V)(H:Heap)(n:Nat)(k:KV):Prop:=Oi m H (λ_ c=>some (.map [] c)) λH=>k (.BP []) H n
def CU(x:V)(args:List V)(call:AP)(H:Heap)(n:Nat)(k:KV):Prop:=V.Eu x λf a c=>call f (cat a (cat args c)) H n k
def Vf(d x:V)(args:List V)(H:Heap)(n:Nat)(k:KV):Prop:=V.Eu x λf a c=>k (.BP (.fn f (cat a args) c::Je d)) H n
def AcU(a:V)(H:Heap)(n:Nat)(k:KV):Prop:=CJ (a.EM λl c=>some (.ptr l c)) λv=>V.Kq v λl c=>
 DK n λn=>k (.gsl n 0 l 1) (T.set H n (.arr 1 l (DW (FW l c) 0 .e))) (Nat.succ n)
def Ai(c:V)(b:Bool)(e:Option V)(P:V->Prop):Prop:=Gp c b (AB e P) (P (.BP []))
def Ap(al:KA->Prop)(H:Heap)(n:Nat)(P:KV):Prop:=al λb f=>DK n λn=>P (f n) (T.set H n b) (Nat.succ n)
def BZ(c:V)(b:Bool)(t:KV->Prop)(H:Heap)(n:Nat)(P:KV):Prop:=Gp c b (t P) (P (.BP []) H n)
inductive AVr where
 |t (v:V)|c1 (v:V)|cn (v:V) (n:Nat)
def AVr.get(r:AVr)(G:AQ)(H:Heap):Option V:=AVr.rec (λv=>some v) (λv=>AY v G H) (λv n=>Ac n v G H) r
def BF(l:List AVr)(G:AQ)(H:Heap):Option LV:=
 List.rec (motive:=λ_=>Option LV) (some []) (λr _ g=>Bl (r.get G H) λv=>Bl g λvs=>some (v::vs)) l
section
variable{E:RS}{G:AQ}{H:Heap}{n:Nat}{x y z w:X}{a b c d:V}
theorem MP(hx:x.ev E=a)(hy:y.ev E=b)(hz:z.ev E=c):(AN.pick x y z).ev G E H=Am a b c:=by subst hx hy hz;rfl
theorem EP(hx:x.ev E=a):(AN.ld1 x).ev G E H=AY a G H:=by subst hx;rfl
theorem Wy{m:Nat}(hx:x.ev E=a):(AN.ldn m x).ev G E H=Ac m a G H:=by subst hx;rfl
theorem Dk(hx:x.ev E=a):(AN.ER x).ev G E H=AX a:=by subst hx;rfl
theorem F5{o:B2}(hx:x.ev E=a)(hy:y.ev E=b):(AN.bin o x y).ev G E H=o.ev a b:=by subst hx hy;rfl
theorem k_eq{k:EK}{t:Bool}(hx:x.ev E=a)(hy:y.ev E=b):(AN.eq k t x y).ev G E H=Az k t a b:=by subst hx hy;rfl
theorem Agf{k:List CK}{t:Bool}(hx:x.ev E=a)(hy:y.ev E=b):(AN.eqp k t x y).ev G E H=ADY k t a b H:=by subst hx hy;rfl
theorem ABa(hx:x.ev E=a):(AN.not x).ev G E H=Ba a:=by subst hx;rfl
theorem Ag1(hx:x.ev E=a):(AN.neg x).ev G E H=AZs a:=by subst hx;rfl
theorem AhC{k:IntKind}(hx:x.ev E=a):(AN.cvi k x).ev G E H=FU k a:=by subst hx;rfl
theorem Bz{o:Nat}(hx:x.ev E=a):(AN.Dh o x).ev G E H=AL o a:=by subst hx;rfl
theorem Ab8{o:Nat}(hx:x.ev E=a):(AN.field1 o x).ev G E H=ALP o a:=by subst hx;rfl
theorem AdV{o m:Nat}(hx:x.ev E=a):(AN.AE8 o m x).ev G E H=AbD o m a:=by subst hx;rfl
theorem Zp{e:Nat}(hx:x.ev E=a)(hy:y.ev E=b):(AN.fO e x y).ev G E H=Ad e a b:=by subst hx hy;rfl
theorem Aau{m e:Nat}(hx:x.ev E=a)(hy:y.ev E=b):(AN.AFC m e x y).ev G E H=nO m e a b:=by subst hx hy;rfl
theorem Afw(hx:x.ev E=a)(hy:y.ev E=b):(AN.Adz x y).ev G E H=U1 a b:=by subst hx hy;rfl
theorem AfX{m:Nat}(hx:x.ev E=a)(hy:y.ev E=b):(AN.Aa5 m x y).ev G E H=ASa m a b:=by subst hx hy;rfl
theorem OB{i:Nat}(hx:x.ev E=a):(AN.ext x i).ev G E H=BG a i:=by subst hx;rfl
theorem Afx(hx:x.ev E=a):(AN.Adx x).ev G E H=Et a:=by subst hx;rfl
theorem Sl(hx:x.ev E=a):(AN.jM x).ev G E H=lenV a:=by subst hx;rfl
theorem AfM(hx:x.ev E=a):(AN.AZv x).ev G E H=Ac4 a H:=by subst hx;rfl
theorem AfQ{k:CK}{t:Bool}{z0:V}(hx:x.ev E=a)(hy:y.ev E=b):(AN.look k t z0 x y).ev G E H=dG k t z0 a b H:=by subst hx hy;rfl
def psC(ps:List (Nat×Nat×X))(E:RS):List (Nat×Nat×X):=ps.map λp=>(p.1,p.2.1,.c (p.2.2.ev E))
theorem ps0:psC [] E=[]:=rfl
theorem psS{i m:Nat}{l l':List (Nat×Nat×X)}(hx:x.ev E=a)(h:psC l E=l'):psC ((i,m,x)::l) E=(i,m,.c a)::l':=by subst hx h;rfl
theorem AAT(l:List (Nat×Nat×X)):Eh l E=Eh (psC l E) E0:=by
 induction l with
 |nil=>rfl
 |cons p l ih=>show band (band (dI (p.2.2.ev E)) (Nat.beq (len (CZ (p.2.2.ev E))) p.2.1)) (Eh l E)=band (band (dI (p.2.2.ev E)) (Nat.beq (len (CZ (p.2.2.ev E))) p.2.1)) (Eh (psC l E) E0);rw[ih]
theorem APc(l:List (Nat×Nat×X)):∀z,IQ l E z=IQ (psC l E) E0 z:=by
 induction l with
 |nil=>exact λ_=>rfl
 |cons p l ih=>exact λz=>ih (jT (CZ (p.2.2.ev E)) p.1 z)
theorem AO2{z0:LV}{ps ps':List (Nat×Nat×X)}(hp:psC ps E=ps'):(AN.build z0 ps).ev G E H=Aw z0 ps':=by
 subst hp
 show BJ (Eh ps E) (some (.agg (IQ ps E z0)))=_
 rw[AAT,APc];rfl
def oxC(o:Option X)(E:RS):Option X:=o.map λx=>.c (x.ev E)
theorem ox0:oxC none E=none:=rfl
theorem oxS(hx:x.ev E=a):oxC (some x) E=some (.c a):=by subst hx;rfl
theorem Jc(o:Option X):FZ o E=FZ (oxC o E) E0:=by cases o<;>rfl
theorem AgQ{lo hi lo' hi':Option X}(hx:x.ev E=a)(h1:oxC lo E=lo')(h2:oxC hi E=hi'):(AN.AWn x lo hi).ev G E H=H8 a E0 lo' hi':=by
 subst hx h1 h2
 show H8 (x.ev E) E lo hi=_
 unfold H8;simp only[Jc lo,Jc hi]
theorem Aae{m:Nat}{lo hi mx lo' hi' mx':Option X}(hx:x.ev E=a)(h1:oxC lo E=lo')(h2:oxC hi E=hi')(h3:oxC mx E=mx'):(AN.slc m x lo hi mx).ev G E H=Gl m a E0 lo' hi' mx':=by
 subst hx h1 h2 h3
 show Gl m (x.ev E) E lo hi mx=_
 unfold Gl LH YH JR L6 J4 Kw
 simp only[Jc lo,Jc hi,Jc mx]
 cases mx<;>rfl
theorem Afb{m e:Nat}{lo hi lo' hi':Option X}(hx:x.ev E=a)(h1:oxC lo E=lo')(h2:oxC hi E=hi'):(AN.AdG m e x lo hi).ev G E H=ARq m e a lo' hi':=by
 subst hx h1 h2
 show YK m e x lo hi G E H=_
 unfold YK ARq;simp only[Jc lo,Jc hi]
theorem Ae4(hx:x.ev E=a)(hy:y.ev E=b):(AN.Aam x y).ev G E H=AZX a b:=by subst hx hy;rfl
theorem Ae3(hx:x.ev E=a)(hy:y.ev E=b):(AN.Ady x y).ev G E H=Af7 a b:=by subst hx hy;rfl
theorem Agq(hx:x.ev E=a):(AN.cvS x).ev G E H=Af5 a G H:=by subst hx;rfl
theorem Afn(hx:x.ev E=a)(hy:y.ev E=b):(AN.YW x y).ev G E H=fK a b:=by subst hx hy;rfl
theorem AaX(hx:x.ev E=a)(hy:y.ev E=b):(AN.oI x y).ev G E H=AAN a b:=by subst hx hy;rfl
theorem xs0:Ep [] E=[]:=rfl
theorem Vy{l:List X}{l':List V}(hx:x.ev E=a)(h:Ep l E=l'):Ep (x::l) E=a::l':=by subst hx h;rfl
theorem Af6{f:Nat}{l m:List X}{l' m':List V}(h:Ep l E=l')(h':Ep m E=m'):(AN.AdE f l m).ev G E H=some (.fn f l' m'):=by subst h h';rfl
theorem EN(hx:x.ev E=a):(AN.mv x).ev G E H=some a:=by subst hx;rfl
theorem Afh{m:Nat}:(AN.Ado m).ev G E H=some (.int .i64 (.ofNat m) 0):=rfl
theorem Oz{e:Nat}{es:Fh}:(AA.alloc e es).al E=Ag e es E0:=rfl
theorem Agd(hx:x.ev E=a):(AA.box x).al E=BA a:=by subst hx;rfl
def pbC(ps:List (Nat×X))(E:RS):List (Nat×X):=ps.map λp=>(p.1,.c (p.2.ev E))
theorem pb0:pbC [] E=[]:=rfl
theorem pbS{i:Nat}{l l':List (Nat×X)}(hx:x.ev E=a)(h:pbC l E=l'):pbC ((i,x)::l) E=(i,.c a)::l':=by subst hx h;rfl
theorem pG(l:List (Nat×X))(e m:Nat):FN l E e m=FN (pbC l E) E0 e m:=by
 induction l with
 |nil=>rfl
 |cons p l ih=>show band (band (dI (p.2.ev E)) (band (Nat.blt p.1 m) (Nat.beq (len (CZ (p.2.ev E))) e))) (FN l E e m)=band (band (dI (p.2.ev E)) (band (Nat.blt p.1 m) (Nat.beq (len (CZ (p.2.ev E))) e))) (FN (pbC l E) E0 e m);rw[ih]
theorem AAf(l:List (Nat×X)):∀t,Ih l E t=Ih (pbC l E) E0 t:=by
 induction l with
 |nil=>exact λ_=>rfl
 |cons p l ih=>exact λt=>ih (T.set t p.1 (CZ (p.2.ev E)))
theorem SE{e m:Nat}{z0:LV}{ps ps':List (Nat×X)}(hp:pbC ps E=ps'):(AA.Hg e m z0 ps).al E=Ah e m z0 ps' E0:=by
 subst hp
 show Ah e m z0 ps E=_
 funext k
 unfold Ah;rw[pG,AAf]
theorem AaR{e m:Nat}{z0:LV}(hx:x.ev E=a)(hy:y.ev E=b):(AA.Ku e m z0 x y).al E=DU e m z0 (.c a) (.c b) E0:=by subst hx hy;rfl
theorem AeX:AA.nK.al E=LK E0:=rfl
theorem Aga{t e:Nat}:(AA.G9 t e).al E=Acp t e E0:=rfl
variable{call:AP}
theorem iw{m:Nat}(hx:x.ev E=a)(hy:y.ev E=b):(AE.st m x y).ex G call E H n=Au m a b H n:=by subst hx hy;rfl
theorem Ag5{e m:Nat}(hx:x.ev E=a)(hy:y.ev E=b):(AE.app e m x y).ex G call E H n=Dn e m a b G H n:=by subst hx hy;rfl
theorem Af4{e:Nat}(hx:x.ev E=a)(hy:y.ev E=b):(AE.copy e x y).ex G call E H n=copyV e a b G H n:=by subst hx hy;rfl
theorem Adp{k:CK}(hx:x.ev E=a)(hy:y.ev E=b)(hz:z.ev E=c):(AE.Zd k x y z).ex G call E H n=iD k a b c H n:=by subst hx hy hz;rfl
theorem Ag2{k:CK}(hx:x.ev E=a)(hy:y.ev E=b):(AE.del k x y).ex G call E H n=Ae5 k a b H n:=by subst hx hy;rfl
theorem Ae6(hx:x.ev E=a):(AE.AWS x).ex G call E H n=AfB a H n:=by subst hx;rfl
theorem Gn{f:Nat}{l:List X}{l':List V}(h:Ep l E=l'):(AE.call f l).ex G call E H n=call f l' H n:=by subst h;rfl
theorem Aeg{l:List X}{l':List V}(hx:x.ev E=a)(h:Ep l E=l'):(AE.gK x l).ex G call E H n=CU a l' call H n:=by subst hx h;rfl
theorem Ag6(hx:x.ev E=a):(AE.cvB x).ex G call E H n=AcU a H n:=by subst hx;rfl
end
section
variable{L:List V}{R:Cc}{G:AQ}{call:AP}{H:Heap}{n:Nat}{a b:V}
theorem Aeh{x:X}{l:List X}{l':List V}{dp:P2}(hd:rg R dp=b)(hx:x.ev (.mk L R)=a)(h:Ep l (.mk L R)=l'):(AE.defer dp x l).ex G call (.mk L R) H n=Vf b a l' H n:=by subst hd hx h;rfl
end
def Me(c:V)(b:Bool)(e:Option V)(a:V)(P:Prop):Prop:=Gp c b (AB e λv=>Bq (A8 v a) P) P
theorem xr{L:List V}{R:Cc}{p:P2}{a:V}(h:rg R p=a):(X.r p).ev (.mk L R)=a:=h
def kR(k:K):KE:=λE H n=>k E.rg H n
theorem CP{e:Option V}{P Q:V->Prop}(h:AB e P)(hk:∀v,P v->Q v):AB e Q:=by
 cases e with
 |none=>exact h
 |some v=>exact hk v h
theorem CG{v:V}{b:Bool}{P Q P' Q':Prop}(h:Gp v b P Q)(hp:P->P')(hq:Q->Q'):Gp v b P' Q':=by
 rw[Ei]at h⊢
 obtain⟨t,ht,h⟩:=h
 refine⟨t,ht,?_⟩
 split
 ·rename_i e;rw[if_pos e]at h;exact hp h
 ·rename_i e;rw[if_neg e]at h;exact hq h
theorem FC{v:V}{b:Bool}{P Q P' Q':Prop}(h:AV v b P Q)(hp:P->P')(hq:Q->Q'):AV v b P' Q':=by
 rw[FB]at h⊢
 obtain⟨t,ht,h⟩:=h
 refine⟨t,ht,?_⟩
 split
 ·rename_i e;rw[if_pos e]at h;exact hp h
 ·rename_i e;rw[if_neg e]at h;exact hq h
theorem Dw{o:AA}{E:RS}{H:Heap}{n:Nat}{P Q:KV}(h:Ap (o.al E) H n P)(hk:∀v H n,P v H n->Q v H n):Ap (o.al E) H n Q:=
 FK.mono (ABV o E) (k:=λs=>DK n λn=>P (s.2 n) (T.set H n s.1) (Nat.succ n)) (k':=λs=>DK n λn=>Q (s.2 n) (T.set H n s.1) (Nat.succ n))
  (λs hs=>by rw[CY]at hs⊢;exact hk _ _ _ hs) h
section
variable{G:AQ}{call callE:AP}
theorem ET(hle:Bc call callE)(hd:BI callE){o:AE}{E:RS}{H:Heap}{n:Nat}{P Q:KV}(h:o.ex G call E H n P)(hk:∀v H n,P v H n->Q v H n):o.ex G callE E H n Q:=
 FK.mono (jl hd o G E H n) (k:=λs=>P s.1 s.2.1 s.2.2) (k':=λs=>Q s.1 s.2.1 s.2.2) (λs hs=>hk _ _ _ hs) (AQM hle o G E H n _ h)
section
variable{L:List V}{R:Cc}{H:Heap}{n:Nat}{l:List I9}{k:KE}{p:P2}{x:X}{b:Bool}{c a:V}
theorem Ci{o:AN}{e:Option V}{P:V->Prop}(h:AB e P)(he:o.ev G (.mk L R) H=e)(hk:∀v,P v->BH l G callE (.mk (v::L) R) H n k):BH (.mk .ps .no (.n o)::l) G callE (.mk L R) H n k:=by
 subst he;exact CP h hk
theorem Aaz{o:AN}(he:o.ev G (.mk L R) H=some a)(hk:BH l G callE (.mk ((a)::L) R) H n k):BH (.mk .ps .no (.n o)::l) G callE (.mk L R) H n k:=by
 show AB (o.ev G (.mk L R) H) _;rw[he];exact hk
theorem Dc{o:AN}{e:Option V}{P:V->Prop}(h:Ai c b e P)(hc:x.ev (.mk L R)=c)(he:o.ev G (.mk L R) H=e)(hk:∀v,P v->BH l G callE (.mk (v::L) R) H n k):BH (.mk .ps (.on x b) (.n o)::l) G callE (.mk L R) H n k:=by
 subst hc he;exact CG h (λh=>CP h hk) (hk _)
theorem Ac8{o:AA}{al:KA->Prop}{P:KV}(h:Ap al H n P)(he:o.al (.mk L R)=al)(hk:∀v H n,P v H n->BH l G callE (.mk (v::L) R) H n k):BH (.mk .ps .no (.a o)::l) G callE (.mk L R) H n k:=by
 subst he;exact Dw (Q:=λv H n=>BH l G callE (.mk (v::L) R) H n k) h hk
theorem Agb{o:AA}{al:KA->Prop}{P:KV}(h:BZ c b (Ap al H n) H n P)(hc:x.ev (.mk L R)=c)(he:o.al (.mk L R)=al)(hk:∀v H n,P v H n->BH l G callE (.mk (v::L) R) H n k):BH (.mk .ps (.on x b) (.a o)::l) G callE (.mk L R) H n k:=by
 subst hc he;exact CG h (λh=>Dw (Q:=λv H n=>BH l G callE (.mk (v::L) R) H n k) h hk) (hk _ _ _)
theorem jC(hle:Bc call callE)(hd:BI callE){o:AE}{t:KV->Prop}{P:KV}(h:t P)(he:o.ex G call (.mk L R) H n=t)(hk:∀v H n,P v H n->BH l G callE (.mk (v::L) R) H n k):BH (.mk .ps .no (.e o)::l) G callE (.mk L R) H n k:=by
 subst he;exact ET hle hd (Q:=λv H n=>BH l G callE (.mk (v::L) R) H n k) h hk
theorem Agh(hle:Bc call callE)(hd:BI callE){o:AE}{t:KV->Prop}{P:KV}(h:BZ c b t H n P)(hc:x.ev (.mk L R)=c)(he:o.ex G call (.mk L R) H n=t)(hk:∀v H n,P v H n->BH l G callE (.mk (v::L) R) H n k):BH (.mk .ps (.on x b) (.e o)::l) G callE (.mk L R) H n k:=by
 subst hc he;exact CG h (λh=>ET hle hd (Q:=λv H n=>BH l G callE (.mk (v::L) R) H n k) h hk) (hk _ _ _)
theorem AiE{x:X}(hx:x.ev (.mk L R)=a)(hk:BH l G callE (.mk ((a)::L) R) H n k):BH (.mk .ps .no (.e (.asg x))::l) G callE (.mk L R) H n k:=by
 subst hx;exact hk
theorem V3{o:AN}{e:Option V}{P:V->Prop}(h:AB e P)(he:o.ev G (.mk L R) H=e)(hk:∀v,P v->BH l G callE (.mk L (T.Dx v p R)) H n k):BH (.mk (.to p) .no (.n o)::l) G callE (.mk L R) H n k:=by
 subst he;exact CP h hk
theorem Iy{o:AN}(he:o.ev G (.mk L R) H=some a)(hk:BH l G callE (.mk L (T.Dx a p R)) H n k):BH (.mk (.to p) .no (.n o)::l) G callE (.mk L R) H n k:=by
 show AB (o.ev G (.mk L R) H) _;rw[he];exact hk
theorem Agl{o:AN}{e:Option V}{P:V->Prop}(h:Ai c b e P)(hc:x.ev (.mk L R)=c)(he:o.ev G (.mk L R) H=e)(hk:∀v,P v->BH l G callE (.mk L (T.Dx v p R)) H n k):BH (.mk (.to p) (.on x b) (.n o)::l) G callE (.mk L R) H n k:=by
 subst hc he;exact CG h (λh=>CP h hk) (hk _)
theorem AZ3{o:AA}{al:KA->Prop}{P:KV}(h:Ap al H n P)(he:o.al (.mk L R)=al)(hk:∀v H n,P v H n->BH l G callE (.mk L (T.Dx v p R)) H n k):BH (.mk (.to p) .no (.a o)::l) G callE (.mk L R) H n k:=by
 subst he;exact Dw (Q:=λv H n=>BH l G callE (.mk L (T.Dx v p R)) H n k) h hk
theorem Agg{o:AA}{al:KA->Prop}{P:KV}(h:BZ c b (Ap al H n) H n P)(hc:x.ev (.mk L R)=c)(he:o.al (.mk L R)=al)(hk:∀v H n,P v H n->BH l G callE (.mk L (T.Dx v p R)) H n k):BH (.mk (.to p) (.on x b) (.a o)::l) G callE (.mk L R) H n k:=by
 subst hc he;exact CG h (λh=>Dw (Q:=λv H n=>BH l G callE (.mk L (T.Dx v p R)) H n k) h hk) (hk _ _ _)
theorem AiL(hle:Bc call callE)(hd:BI callE){o:AE}{t:KV->Prop}{P:KV}(h:t P)(he:o.ex G call (.mk L R) H n=t)(hk:∀v H n,P v H n->BH l G callE (.mk L (T.Dx v p R)) H n k):BH (.mk (.to p) .no (.e o)::l) G callE (.mk L R) H n k:=by
 subst he;exact ET hle hd (Q:=λv H n=>BH l G callE (.mk L (T.Dx v p R)) H n k) h hk
theorem AhF(hle:Bc call callE)(hd:BI callE){o:AE}{t:KV->Prop}{P:KV}(h:BZ c b t H n P)(hc:x.ev (.mk L R)=c)(he:o.ex G call (.mk L R) H n=t)(hk:∀v H n,P v H n->BH l G callE (.mk L (T.Dx v p R)) H n k):BH (.mk (.to p) (.on x b) (.e o)::l) G callE (.mk L R) H n k:=by
 subst hc he;exact CG h (λh=>ET hle hd (Q:=λv H n=>BH l G callE (.mk L (T.Dx v p R)) H n k) h hk) (hk _ _ _)
theorem AjI{x:X}(hx:x.ev (.mk L R)=a)(hk:BH l G callE (.mk L (T.Dx a p R)) H n k):BH (.mk (.to p) .no (.e (.asg x))::l) G callE (.mk L R) H n k:=by
 subst hx;exact hk
theorem Aj1{o:AN}{e:Option V}{P:V->Prop}(h:AB e P)(he:o.ev G (.mk L R) H=e)(hk:∀v,P v->BH l G callE (.mk L R) H n k):BH (.mk .no .no (.n o)::l) G callE (.mk L R) H n k:=by
 subst he;exact CP h hk
theorem AiF{o:AN}(he:o.ev G (.mk L R) H=some a)(hk:BH l G callE (.mk L R) H n k):BH (.mk .no .no (.n o)::l) G callE (.mk L R) H n k:=by
 show AB (o.ev G (.mk L R) H) _;rw[he];exact hk
theorem AgT{o:AN}{e:Option V}{P:V->Prop}(h:Ai c b e P)(hc:x.ev (.mk L R)=c)(he:o.ev G (.mk L R) H=e)(hk:∀v,P v->BH l G callE (.mk L R) H n k):BH (.mk .no (.on x b) (.n o)::l) G callE (.mk L R) H n k:=by
 subst hc he;exact CG h (λh=>CP h hk) (hk _)
theorem Ajj{o:AA}{al:KA->Prop}{P:KV}(h:Ap al H n P)(he:o.al (.mk L R)=al)(hk:∀v H n,P v H n->BH l G callE (.mk L R) H n k):BH (.mk .no .no (.a o)::l) G callE (.mk L R) H n k:=by
 subst he;exact Dw (Q:=λv H n=>BH l G callE (.mk L R) H n k) h hk
theorem Agt{o:AA}{al:KA->Prop}{P:KV}(h:BZ c b (Ap al H n) H n P)(hc:x.ev (.mk L R)=c)(he:o.al (.mk L R)=al)(hk:∀v H n,P v H n->BH l G callE (.mk L R) H n k):BH (.mk .no (.on x b) (.a o)::l) G callE (.mk L R) H n k:=by
 subst hc he;exact CG h (λh=>Dw (Q:=λv H n=>BH l G callE (.mk L R) H n k) h hk) (hk _ _ _)
theorem xZ(hle:Bc call callE)(hd:BI callE){o:AE}{t:KV->Prop}{P:KV}(h:t P)(he:o.ex G call (.mk L R) H n=t)(hk:∀v H n,P v H n->BH l G callE (.mk L R) H n k):BH (.mk .no .no (.e o)::l) G callE (.mk L R) H n k:=by
 subst he;exact ET hle hd (Q:=λv H n=>BH l G callE (.mk L R) H n k) h hk
theorem Agy(hle:Bc call callE)(hd:BI callE){o:AE}{t:KV->Prop}{P:KV}(h:BZ c b t H n P)(hc:x.ev (.mk L R)=c)(he:o.ex G call (.mk L R) H n=t)(hk:∀v H n,P v H n->BH l G callE (.mk L R) H n k):BH (.mk .no (.on x b) (.e o)::l) G callE (.mk L R) H n k:=by
 subst hc he;exact CG h (λh=>ET hle hd (Q:=λv H n=>BH l G callE (.mk L R) H n k) h hk) (hk _ _ _)
theorem AiN{x:X}(hx:x.ev (.mk L R)=a)(hk:BH l G callE (.mk L R) H n k):BH (.mk .no .no (.e (.asg x))::l) G callE (.mk L R) H n k:=by
 subst hx;exact hk
theorem o0{K:K}(h:K R H n):BH [] G callE (.mk L R) H n (kR K):=h
end
section
variable{L:List V}{R:Cc}{H:Heap}{n:Nat}{l:List AI}{k:KE}{p:P2}{x:X}{b:Bool}{c a:V}
theorem AjQ{o:AN}{e:Option V}{P:V->Prop}(h:AB e P)(he:o.ev G (.mk L R) H=e)(hk:∀v,P v->Ak l G callE (.mk (v::L) R) H n k):Ak (.op (.mk .ps .no (.n o))::l) G callE (.mk L R) H n k:=by
 subst he;exact CP h hk
theorem Ai9{o:AN}(he:o.ev G (.mk L R) H=some a)(hk:Ak l G callE (.mk ((a)::L) R) H n k):Ak (.op (.mk .ps .no (.n o))::l) G callE (.mk L R) H n k:=by
 show AB (o.ev G (.mk L R) H) _;rw[he];exact hk
theorem Agc{o:AN}{e:Option V}{P:V->Prop}(h:Ai c b e P)(hc:x.ev (.mk L R)=c)(he:o.ev G (.mk L R) H=e)(hk:∀v,P v->Ak l G callE (.mk (v::L) R) H n k):Ak (.op (.mk .ps (.on x b) (.n o))::l) G callE (.mk L R) H n k:=by
 subst hc he;exact CG h (λh=>CP h hk) (hk _)
theorem Ah5{o:AA}{al:KA->Prop}{P:KV}(h:Ap al H n P)(he:o.al (.mk L R)=al)(hk:∀v H n,P v H n->Ak l G callE (.mk (v::L) R) H n k):Ak (.op (.mk .ps .no (.a o))::l) G callE (.mk L R) H n k:=by
 subst he;exact Dw (Q:=λv H n=>Ak l G callE (.mk (v::L) R) H n k) h hk
theorem Agi{o:AA}{al:KA->Prop}{P:KV}(h:BZ c b (Ap al H n) H n P)(hc:x.ev (.mk L R)=c)(he:o.al (.mk L R)=al)(hk:∀v H n,P v H n->Ak l G callE (.mk (v::L) R) H n k):Ak (.op (.mk .ps (.on x b) (.a o))::l) G callE (.mk L R) H n k:=by
 subst hc he;exact CG h (λh=>Dw (Q:=λv H n=>Ak l G callE (.mk (v::L) R) H n k) h hk) (hk _ _ _)
theorem Ajf(hle:Bc call callE)(hd:BI callE){o:AE}{t:KV->Prop}{P:KV}(h:t P)(he:o.ex G call (.mk L R) H n=t)(hk:∀v H n,P v H n->Ak l G callE (.mk (v::L) R) H n k):Ak (.op (.mk .ps .no (.e o))::l) G callE (.mk L R) H n k:=by
 subst he;exact ET hle hd (Q:=λv H n=>Ak l G callE (.mk (v::L) R) H n k) h hk
theorem Ags(hle:Bc call callE)(hd:BI callE){o:AE}{t:KV->Prop}{P:KV}(h:BZ c b t H n P)(hc:x.ev (.mk L R)=c)(he:o.ex G call (.mk L R) H n=t)(hk:∀v H n,P v H n->Ak l G callE (.mk (v::L) R) H n k):Ak (.op (.mk .ps (.on x b) (.e o))::l) G callE (.mk L R) H n k:=by
 subst hc he;exact CG h (λh=>ET hle hd (Q:=λv H n=>Ak l G callE (.mk (v::L) R) H n k) h hk) (hk _ _ _)
theorem AiY{x:X}(hx:x.ev (.mk L R)=a)(hk:Ak l G callE (.mk ((a)::L) R) H n k):Ak (.op (.mk .ps .no (.e (.asg x)))::l) G callE (.mk L R) H n k:=by
 subst hx;exact hk
theorem Ee{o:AN}{e:Option V}{P:V->Prop}(h:AB e P)(he:o.ev G (.mk L R) H=e)(hk:∀v,P v->Ak l G callE (.mk L (T.Dx v p R)) H n k):Ak (.op (.mk (.to p) .no (.n o))::l) G callE (.mk L R) H n k:=by
 subst he;exact CP h hk
theorem bY{o:AN}(he:o.ev G (.mk L R) H=some a)(hk:Ak l G callE (.mk L (T.Dx a p R)) H n k):Ak (.op (.mk (.to p) .no (.n o))::l) G callE (.mk L R) H n k:=by
 show AB (o.ev G (.mk L R) H) _;rw[he];exact hk
theorem Ag8{o:AN}{e:Option V}{P:V->Prop}(h:Ai c b e P)(hc:x.ev (.mk L R)=c)(he:o.ev G (.mk L R) H=e)(hk:∀v,P v->Ak l G callE (.mk L (T.Dx v p R)) H n k):Ak (.op (.mk (.to p) (.on x b) (.n o))::l) G callE (.mk L R) H n k:=by
 subst hc he;exact CG h (λh=>CP h hk) (hk _)
theorem Ab6{o:AA}{al:KA->Prop}{P:KV}(h:Ap al H n P)(he:o.al (.mk L R)=al)(hk:∀v H n,P v H n->Ak l G callE (.mk L (T.Dx v p R)) H n k):Ak (.op (.mk (.to p) .no (.a o))::l) G callE (.mk L R) H n k:=by
 subst he;exact Dw (Q:=λv H n=>Ak l G callE (.mk L (T.Dx v p R)) H n k) h hk
theorem Agk{o:AA}{al:KA->Prop}{P:KV}(h:BZ c b (Ap al H n) H n P)(hc:x.ev (.mk L R)=c)(he:o.al (.mk L R)=al)(hk:∀v H n,P v H n->Ak l G callE (.mk L (T.Dx v p R)) H n k):Ak (.op (.mk (.to p) (.on x b) (.a o))::l) G callE (.mk L R) H n k:=by
 subst hc he;exact CG h (λh=>Dw (Q:=λv H n=>Ak l G callE (.mk L (T.Dx v p R)) H n k) h hk) (hk _ _ _)
theorem AbO(hle:Bc call callE)(hd:BI callE){o:AE}{t:KV->Prop}{P:KV}(h:t P)(he:o.ex G call (.mk L R) H n=t)(hk:∀v H n,P v H n->Ak l G callE (.mk L (T.Dx v p R)) H n k):Ak (.op (.mk (.to p) .no (.e o))::l) G callE (.mk L R) H n k:=by
 subst he;exact ET hle hd (Q:=λv H n=>Ak l G callE (.mk L (T.Dx v p R)) H n k) h hk
theorem Agx(hle:Bc call callE)(hd:BI callE){o:AE}{t:KV->Prop}{P:KV}(h:BZ c b t H n P)(hc:x.ev (.mk L R)=c)(he:o.ex G call (.mk L R) H n=t)(hk:∀v H n,P v H n->Ak l G callE (.mk L (T.Dx v p R)) H n k):Ak (.op (.mk (.to p) (.on x b) (.e o))::l) G callE (.mk L R) H n k:=by
 subst hc he;exact CG h (λh=>ET hle hd (Q:=λv H n=>Ak l G callE (.mk L (T.Dx v p R)) H n k) h hk) (hk _ _ _)
theorem Ais{x:X}(hx:x.ev (.mk L R)=a)(hk:Ak l G callE (.mk L (T.Dx a p R)) H n k):Ak (.op (.mk (.to p) .no (.e (.asg x)))::l) G callE (.mk L R) H n k:=by
 subst hx;exact hk
theorem AkR{o:AN}{e:Option V}{P:V->Prop}(h:AB e P)(he:o.ev G (.mk L R) H=e)(hk:∀v,P v->Ak l G callE (.mk L R) H n k):Ak (.op (.mk .no .no (.n o))::l) G callE (.mk L R) H n k:=by
 subst he;exact CP h hk
theorem AjT{o:AN}(he:o.ev G (.mk L R) H=some a)(hk:Ak l G callE (.mk L R) H n k):Ak (.op (.mk .no .no (.n o))::l) G callE (.mk L R) H n k:=by
 show AB (o.ev G (.mk L R) H) _;rw[he];exact hk
theorem Agw{o:AN}{e:Option V}{P:V->Prop}(h:Ai c b e P)(hc:x.ev (.mk L R)=c)(he:o.ev G (.mk L R) H=e)(hk:∀v,P v->Ak l G callE (.mk L R) H n k):Ak (.op (.mk .no (.on x b) (.n o))::l) G callE (.mk L R) H n k:=by
 subst hc he;exact CG h (λh=>CP h hk) (hk _)
theorem AhQ{o:AA}{al:KA->Prop}{P:KV}(h:Ap al H n P)(he:o.al (.mk L R)=al)(hk:∀v H n,P v H n->Ak l G callE (.mk L R) H n k):Ak (.op (.mk .no .no (.a o))::l) G callE (.mk L R) H n k:=by
 subst he;exact Dw (Q:=λv H n=>Ak l G callE (.mk L R) H n k) h hk
theorem AhA{o:AA}{al:KA->Prop}{P:KV}(h:BZ c b (Ap al H n) H n P)(hc:x.ev (.mk L R)=c)(he:o.al (.mk L R)=al)(hk:∀v H n,P v H n->Ak l G callE (.mk L R) H n k):Ak (.op (.mk .no (.on x b) (.a o))::l) G callE (.mk L R) H n k:=by
 subst hc he;exact CG h (λh=>Dw (Q:=λv H n=>Ak l G callE (.mk L R) H n k) h hk) (hk _ _ _)
theorem Abq(hle:Bc call callE)(hd:BI callE){o:AE}{t:KV->Prop}{P:KV}(h:t P)(he:o.ex G call (.mk L R) H n=t)(hk:∀v H n,P v H n->Ak l G callE (.mk L R) H n k):Ak (.op (.mk .no .no (.e o))::l) G callE (.mk L R) H n k:=by
 subst he;exact ET hle hd (Q:=λv H n=>Ak l G callE (.mk L R) H n k) h hk
theorem AhG(hle:Bc call callE)(hd:BI callE){o:AE}{t:KV->Prop}{P:KV}(h:BZ c b t H n P)(hc:x.ev (.mk L R)=c)(he:o.ex G call (.mk L R) H n=t)(hk:∀v H n,P v H n->Ak l G callE (.mk L R) H n k):Ak (.op (.mk .no (.on x b) (.e o))::l) G callE (.mk L R) H n k:=by
 subst hc he;exact CG h (λh=>ET hle hd (Q:=λv H n=>Ak l G callE (.mk L R) H n k) h hk) (hk _ _ _)
theorem AhZ{x:X}(hx:x.ev (.mk L R)=a)(hk:Ak l G callE (.mk L R) H n k):Ak (.op (.mk .no .no (.e (.asg x)))::l) G callE (.mk L R) H n k:=by
 subst hx;exact hk
theorem i0{K:K}(h:K R H n):Ak [] G callE (.mk L R) H n (kR K):=h
theorem ire{o:AN}{e:Option V}{P0:Prop}(h:AB e λv=>Bq (A8 v a) P0)(hr:rg R p=a)(he:o.ev G (.mk L R) H=e)(hk:P0->Ak l G callE (.mk L R) H n k):Ak (.re p .no o::l) G callE (.mk L R) H n k:=by
 subst hr he;exact CP h λv h=>by rw[CO]at h⊢;exact⟨h.1,hk h.2⟩
theorem Ajd{o:AN}{e:Option V}{P0:Prop}(h:Me c b e a P0)(hc:x.ev (.mk L R)=c)(hr:rg R p=a)(he:o.ev G (.mk L R) H=e)(hk:P0->Ak l G callE (.mk L R) H n k):Ak (.re p (.on x b) o::l) G callE (.mk L R) H n k:=by
 subst hc hr he;exact CG h (λh=>CP h λv h=>by rw[CO]at h⊢;exact⟨h.1,hk h.2⟩) hk
end
section
variable{R:Cc}{H:Heap}{n:Nat}{k:K}{x:KX}{r:K}{a b:AC}
theorem Fa(h:k R H n):AC.skip.FM G callE 0 R H n k x r:=h
theorem DZ{l:List I9}(h:BH l G callE (.mk [] R) H n (kR k)):(AC.ops l).FM G callE 0 R H n k x r:=h
theorem mF{l:List AI}(h:Ak l G callE (.mk [] R) H n (kR k)):(AC.reg l).FM G callE 0 R H n k x r:=h
theorem CS(h:a.FM G callE 0 R H n (λR H n=>b.FM G callE 0 R H n k x r) x r):(AC.seq a b).FM G callE 0 R H n k x r:=h
theorem AX7(S:Cc->Heap->Nat->Prop)(hb:∀R H n,S R H n->b.FM G callE 0 R H n k x r)
 (ha:(∀R H n,S R H n->b.FM G callE 0 R H n k x r)->a.FM G callE 0 R H n (λR H n=>b.FM G callE 0 R H n k x r) x r):(AC.seq a b).FM G callE 0 R H n k x r:=ha hb
theorem GK{c:X}{v:V}{P Q:Prop}(h:AV v true P Q)(hc:c.ev (.mk [] R)=v)(ha:P->a.FM G callE 0 R H n k x r)(hb:Q->b.FM G callE 0 R H n k x r):(AC.cond c a b).FM G callE 0 R H n k x r:=by
 subst hc;exact FC h ha hb
theorem oL{i:Nat}(h:a.FM G callE 0 R H n k (CB i k x) r):(AC.block i a).FM G callE 0 R H n k x r:=h
theorem Td{i:Nat}(h:x i R H n):(AC.exit i).FM G callE 0 R H n k x r:=h
theorem UF(h:r R H n):AC.ret.FM G callE 0 R H n k x r:=h
theorem J6{i:Nat}(h:k R H n):CB i k x i R H n:=by
 unfold CB
 have:Nat.beq i i=true:=by simp
 rw[this];exact h
theorem zS{i j:Nat}(hb:Nat.beq j i=false)(h:x j R H n):CB i k x j R H n:=by
 unfold CB;rw[hb];exact h
theorem AYI{σ:Type}{lp:Aa}(hL:Ar lp){bd:(σ->Prop)->σ->Prop}{s0:σ}(S:σ->Cc->Heap->Nat->Prop)(h:lp σ bd s0)(h0:S s0 R H n)
 (hb:∀(ih:σ->Prop) (I:K),(∀s R H n,S s R H n->ih s->I R H n)->∀s R H n,S s R H n->bd ih s->a.FM G callE 0 R H n I x r):(AC.loop a).FM G callE 0 R H n k x r:=by
 show mW a.FM G callE R H n x r
 intro I hI
 exact hL σ bd (λs=>∀R H n,S s R H n->I R H n) (λih hih s hs R H n hS=>hI R H n (hb ih I (λs R H n hS hi=>hih s hi R H n hS) s R H n hS hs)) s0 h R H n h0
end
section
variable{res rs:List AR}{dg:Nat}{R:Cc}{H:Heap}{n:Nat}{k:KV}{l:LV}{p:P2}{a:V}{vs:List AVr}
def SB(l:List AR)(R:Cc):List AVr:=l.map fun
 |.tmp p=>.t (rg R p)|.cell1 p=>.c1 (rg R p)|.celln p n=>.cn (rg R p) n
theorem rs0:SB [] R=[]:=rfl
theorem rsT(hx:rg R p=a)(h:SB rs R=vs):SB (.tmp p::rs) R=.t a::vs:=by subst hx h;rfl
theorem rsC(hx:rg R p=a)(h:SB rs R=vs):SB (.cell1 p::rs) R=.c1 a::vs:=by subst hx h;rfl
theorem rsN{m:Nat}(hx:rg R p=a)(h:SB rs R=vs):SB (.celln p m::rs) R=.cn a m::vs:=by subst hx h;rfl
theorem nZ:∀(res:List AR),Ia res G R H=BF (SB res R) G H
 |[]=>rfl
 |r::res=>by
  show Bl (r.get G R H) (λv=>Bl (Ia res G R H) λvs=>some (v::vs))=_
  rw[nZ res]
  cases r<;>rfl
theorem AFE(h:CJ (BF vs G H) λl=>k (BQ l) H n)(he:SB res R=vs):Oe res G k R H n:=by
 subst he;show CJ (Ia res G R H) _;rw[nZ];exact h
theorem Ji(he:SB res R=vs)(h:CJ (BF vs G H) λl=>k (BQ l) H n):DI res dg .no G callE k R H n:=AFE h he
theorem kH(hle:Bc call callE)(hd:BI callE){l:List V}{P Q:Heap->Nat->Prop}(h:Du dg l call H n P)(hk:∀H n,P H n->Q H n):Du dg l callE H n Q:=
 FK.mono (MK hd dg l H n) (k:=λs=>P s.1 s.2) (k':=λs=>Q s.1 s.2) (λs hs=>hk _ _ hs) (Tz hd hle dg l H n _ h)
theorem Afk{dv:V}{dp:P2}(hle:Bc call callE)(hd:BI callE)(hr:rg R dp=dv)(he:SB res R=vs)(h:Du dg (Je dv) call H n λH n=>CJ (BF vs G H) λl=>k (BQ l) H n):DI res dg (.to dp) G callE k R H n:=by
 subst hr
 exact kH hle hd (Q:=λH n=>Oe res G k R H n) h λH n h=>AFE h he
theorem mY{np:Nat}{code:AC}{d:IB}{args:List V}(hl:Nat.beq (len args) np=true)(h:code.FM G callE 0 (GU args 0 .e) H n (DI res dg d G callE k) o8 (DI res dg d G callE k)):
 Gs (.mk np code res d dg) G callE args H n k:=by
 show Bq (Nat.beq (len args) np) _
 rw[hl];exact h
end
end
abbrev SF:=AP->List V->Heap->Nat->KV->Prop
def yh(s:AP->Heap->Nat->KV->Prop):SF:=λcall l H n k=>List.rec (motive:=λ_=>Prop) (s call H n k) (λ_ _ _=>False) l
def CQ(s:AP->V->Heap->Nat->KV->Prop):SF:=λcall l H n k=>List.rec (motive:=λ_=>Prop) False (λa l _=>yh (λcall=>s call a) call l H n k) l
def Bj(s:AP->V->V->Heap->Nat->KV->Prop):SF:=λcall l H n k=>List.rec (motive:=λ_=>Prop) False (λa l _=>CQ (λcall=>s call a) call l H n k) l
def ar3(s:AP->V->V->V->Heap->Nat->KV->Prop):SF:=λcall l H n k=>List.rec (motive:=λ_=>Prop) False (λa l _=>Bj (λcall=>s call a) call l H n k) l
def P5(s:AP->V->V->V->V->Heap->Nat->KV->Prop):SF:=λcall l H n k=>List.rec (motive:=λ_=>Prop) False (λa l _=>ar3 (λcall=>s call a) call l H n k) l
def RU(s:AP->V->V->V->V->V->Heap->Nat->KV->Prop):SF:=λcall l H n k=>List.rec (motive:=λ_=>Prop) False (λa l _=>P5 (λcall=>s call a) call l H n k) l
def ar6(s:AP->V->V->V->V->V->V->Heap->Nat->KV->Prop):SF:=λcall l H n k=>List.rec (motive:=λ_=>Prop) False (λa l _=>RU (λcall=>s call a) call l H n k) l
def ar7(s:AP->V->V->V->V->V->V->V->Heap->Nat->KV->Prop):SF:=λcall l H n k=>List.rec (motive:=λ_=>Prop) False (λa l _=>ar6 (λcall=>s call a) call l H n k) l
def ar8(s:AP->V->V->V->V->V->V->V->V->Heap->Nat->KV->Prop):SF:=λcall l H n k=>List.rec (motive:=λ_=>Prop) False (λa l _=>ar7 (λcall=>s call a) call l H n k) l
def ar9(s:AP->V->V->V->V->V->V->V->V->V->Heap->Nat->KV->Prop):SF:=λcall l H n k=>List.rec (motive:=λ_=>Prop) False (λa l _=>ar8 (λcall=>s call a) call l H n k) l
def AVZ(s:AP->V->V->V->V->V->V->V->V->V->V->Heap->Nat->KV->Prop):SF:=λcall l H n k=>List.rec (motive:=λ_=>Prop) False (λa l _=>ar9 (λcall=>s call a) call l H n k) l
def AVS(s:AP->V->V->V->V->V->V->V->V->V->V->V->Heap->Nat->KV->Prop):SF:=λcall l H n k=>List.rec (motive:=λ_=>Prop) False (λa l _=>AVZ (λcall=>s call a) call l H n k) l
def Ae1(s:AP->V->V->V->V->V->V->V->V->V->V->V->V->Heap->Nat->KV->Prop):SF:=λcall l H n k=>List.rec (motive:=λ_=>Prop) False (λa l _=>AVS (λcall=>s call a) call l H n k) l
theorem lq{s:AP->Heap->Nat->KV->Prop}{call:AP}{l:List V}{H:Heap}{n:Nat}{k:KV}(h:yh s call l H n k):l=[]/\s call H n k:=by
 cases l with
 |nil=>exact⟨rfl,h⟩
 |cons=>exact(show False from h).elim
theorem aK{s:AP->V->Heap->Nat->KV->Prop}{call:AP}{l:List V}{H:Heap}{n:Nat}{k:KV}(h:CQ s call l H n k):∃a0,l=[a0]/\s call a0 H n k:=by
 cases l with
 |nil=>exact(show False from h).elim
 |cons a l=>
  obtain⟨rfl,h⟩:=lq (show yh (λcall=>s call a) call l H n k from h)
  exact⟨a,rfl,h⟩
theorem nG{s:AP->V->V->Heap->Nat->KV->Prop}{call:AP}{l:List V}{H:Heap}{n:Nat}{k:KV}(h:Bj s call l H n k):∃a0 a1,l=[a0,a1]/\s call a0 a1 H n k:=by
 cases l with
 |nil=>exact(show False from h).elim
 |cons a l=>
  obtain⟨b0,rfl,h⟩:=aK (show CQ (λcall=>s call a) call l H n k from h)
  exact⟨a,b0,rfl,h⟩
theorem nS{s:AP->V->V->V->Heap->Nat->KV->Prop}{call:AP}{l:List V}{H:Heap}{n:Nat}{k:KV}(h:ar3 s call l H n k):∃a0 a1 a2,l=[a0,a1,a2]/\s call a0 a1 a2 H n k:=by
 cases l with
 |nil=>exact(show False from h).elim
 |cons a l=>
  obtain⟨b0,b1,rfl,h⟩:=nG (show Bj (λcall=>s call a) call l H n k from h)
  exact⟨a,b0,b1,rfl,h⟩
theorem nY{s:AP->V->V->V->V->Heap->Nat->KV->Prop}{call:AP}{l:List V}{H:Heap}{n:Nat}{k:KV}(h:P5 s call l H n k):∃a0 a1 a2 a3,l=[a0,a1,a2,a3]/\s call a0 a1 a2 a3 H n k:=by
 cases l with
 |nil=>exact(show False from h).elim
 |cons a l=>
  obtain⟨b0,b1,b2,rfl,h⟩:=nS (show ar3 (λcall=>s call a) call l H n k from h)
  exact⟨a,b0,b1,b2,rfl,h⟩
theorem oD{s:AP->V->V->V->V->V->Heap->Nat->KV->Prop}{call:AP}{l:List V}{H:Heap}{n:Nat}{k:KV}(h:RU s call l H n k):∃a0 a1 a2 a3 a4,l=[a0,a1,a2,a3,a4]/\s call a0 a1 a2 a3 a4 H n k:=by
 cases l with
 |nil=>exact(show False from h).elim
 |cons a l=>
  obtain⟨b0,b1,b2,b3,rfl,h⟩:=nY (show P5 (λcall=>s call a) call l H n k from h)
  exact⟨a,b0,b1,b2,b3,rfl,h⟩
theorem nN{s:AP->V->V->V->V->V->V->Heap->Nat->KV->Prop}{call:AP}{l:List V}{H:Heap}{n:Nat}{k:KV}(h:ar6 s call l H n k):∃a0 a1 a2 a3 a4 a5,l=[a0,a1,a2,a3,a4,a5]/\s call a0 a1 a2 a3 a4 a5 H n k:=by
 cases l with
 |nil=>exact(show False from h).elim
 |cons a l=>
  obtain⟨b0,b1,b2,b3,b4,rfl,h⟩:=oD (show RU (λcall=>s call a) call l H n k from h)
  exact⟨a,b0,b1,b2,b3,b4,rfl,h⟩
theorem oO{s:AP->V->V->V->V->V->V->V->Heap->Nat->KV->Prop}{call:AP}{l:List V}{H:Heap}{n:Nat}{k:KV}(h:ar7 s call l H n k):∃a0 a1 a2 a3 a4 a5 a6,l=[a0,a1,a2,a3,a4,a5,a6]/\s call a0 a1 a2 a3 a4 a5 a6 H n k:=by
 cases l with
 |nil=>exact(show False from h).elim
 |cons a l=>
  obtain⟨b0,b1,b2,b3,b4,b5,rfl,h⟩:=nN (show ar6 (λcall=>s call a) call l H n k from h)
  exact⟨a,b0,b1,b2,b3,b4,b5,rfl,h⟩
theorem mX{s:AP->V->V->V->V->V->V->V->V->Heap->Nat->KV->Prop}{call:AP}{l:List V}{H:Heap}{n:Nat}{k:KV}(h:ar8 s call l H n k):∃a0 a1 a2 a3 a4 a5 a6 a7,l=[a0,a1,a2,a3,a4,a5,a6,a7]/\s call a0 a1 a2 a3 a4 a5 a6 a7 H n k:=by
 cases l with
 |nil=>exact(show False from h).elim
 |cons a l=>
  obtain⟨b0,b1,b2,b3,b4,b5,b6,rfl,h⟩:=oO (show ar7 (λcall=>s call a) call l H n k from h)
  exact⟨a,b0,b1,b2,b3,b4,b5,b6,rfl,h⟩
theorem ANg{s:AP->V->V->V->V->V->V->V->V->V->Heap->Nat->KV->Prop}{call:AP}{l:List V}{H:Heap}{n:Nat}{k:KV}(h:ar9 s call l H n k):∃a0 a1 a2 a3 a4 a5 a6 a7 a8,l=[a0,a1,a2,a3,a4,a5,a6,a7,a8]/\s call a0 a1 a2 a3 a4 a5 a6 a7 a8 H n k:=by
 cases l with
 |nil=>exact(show False from h).elim
 |cons a l=>
  obtain⟨b0,b1,b2,b3,b4,b5,b6,b7,rfl,h⟩:=mX (show ar8 (λcall=>s call a) call l H n k from h)
  exact⟨a,b0,b1,b2,b3,b4,b5,b6,b7,rfl,h⟩
theorem AFY{s:AP->V->V->V->V->V->V->V->V->V->V->Heap->Nat->KV->Prop}{call:AP}{l:List V}{H:Heap}{n:Nat}{k:KV}(h:AVZ s call l H n k):∃a0 a1 a2 a3 a4 a5 a6 a7 a8 a9,l=[a0,a1,a2,a3,a4,a5,a6,a7,a8,a9]/\s call a0 a1 a2 a3 a4 a5 a6 a7 a8 a9 H n k:=by
 cases l with
 |nil=>exact(show False from h).elim
 |cons a l=>
  obtain⟨b0,b1,b2,b3,b4,b5,b6,b7,b8,rfl,h⟩:=ANg (show ar9 (λcall=>s call a) call l H n k from h)
  exact⟨a,b0,b1,b2,b3,b4,b5,b6,b7,b8,rfl,h⟩
theorem ABL{s:AP->V->V->V->V->V->V->V->V->V->V->V->Heap->Nat->KV->Prop}{call:AP}{l:List V}{H:Heap}{n:Nat}{k:KV}(h:AVS s call l H n k):∃a0 a1 a2 a3 a4 a5 a6 a7 a8 a9 a10,l=[a0,a1,a2,a3,a4,a5,a6,a7,a8,a9,a10]/\s call a0 a1 a2 a3 a4 a5 a6 a7 a8 a9 a10 H n k:=by
 cases l with
 |nil=>exact(show False from h).elim
 |cons a l=>
  obtain⟨b0,b1,b2,b3,b4,b5,b6,b7,b8,b9,rfl,h⟩:=AFY (show AVZ (λcall=>s call a) call l H n k from h)
  exact⟨a,b0,b1,b2,b3,b4,b5,b6,b7,b8,b9,rfl,h⟩
theorem AcH{s:AP->V->V->V->V->V->V->V->V->V->V->V->V->Heap->Nat->KV->Prop}{call:AP}{l:List V}{H:Heap}{n:Nat}{k:KV}(h:Ae1 s call l H n k):∃a0 a1 a2 a3 a4 a5 a6 a7 a8 a9 a10 a11,l=[a0,a1,a2,a3,a4,a5,a6,a7,a8,a9,a10,a11]/\s call a0 a1 a2 a3 a4 a5 a6 a7 a8 a9 a10 a11 H n k:=by
 cases l with
 |nil=>exact(show False from h).elim
 |cons a l=>
  obtain⟨b0,b1,b2,b3,b4,b5,b6,b7,b8,b9,b10,rfl,h⟩:=ABL (show AVS (λcall=>s call a) call l H n k from h)
  exact⟨a,b0,b1,b2,b3,b4,b5,b6,b7,b8,b9,b10,rfl,h⟩
def Oj(FS:T SF)(fuel:Nat):AP:=
 Nat.rec (motive:=λ_=>AP) (λ_ _ _ _ _=>False) (λ_ call f args H n k=>CJ (T.get FS f) λs=>s call args H n k) fuel
def Jy(G:AQ)(af:AF)(s:SF):Prop:=∀call callE,Bc call callE->BI callE->∀args H n k,s call args H n k->Gs af G callE args H n k
def KQ(F:T AF)(G:AQ)(FS:T SF):Prop:=∀f s,T.get FS f=some s->∃af,T.get F f=some af/\Jy G af s
theorem Eo{F:T AF}{G:AQ}{FS:T SF}(h:KQ F G FS):∀m,Bc (Oj FS m) (Runs F G)
 |0=>λ_ _ _ _ _ h=>(show False from h).elim
 |m+1=>λf a H n k hr=>by
  have hr':CJ (T.get FS f) λs=>s (Oj FS m) a H n k:=hr
  rw[DT]at hr'
  obtain⟨s,hs,hr'⟩:=hr'
  obtain⟨af,haf,hok⟩:=h f s hs
  exact EY haf (hok _ _ (Eo h m) (D8 F G) _ _ _ _ hr')
theorem AeI{F:T AF}{G:AQ}{FS:T SF}(h:KQ F G FS){f:Nat}{a:List V}{m:Nat}(hr:Oj FS m f a .e 0 OX=True):Runs F G f a .e 0 λv _ _=>v=.bool true:=
 Eb (k:=OX) (λ_ _ _ hv=>GZ hv) (Eo h m _ _ _ _ _ (of_eq_true hr))
section
variable{E:RS}{G:AQ}{H:Heap}{x:X}{a:Int}
theorem km1(hx:x.ev E=.int .i64 a 0):(AN.cvi .u64 x).ev G E H=some (.int .u64 (IntKind.wrap .u64 a) 0):=by
 show(x.ev E).Cb _=_
 rw[hx];exact fG _ _
theorem km2{m t:Nat}(hm:0<m)(e:umod a m=t)(hx:x.ev E=.int .u64 (IntKind.wrap .u64 a) 0):(AN.bin .rem x (.c (.int .u64 (.ofNat m) 0))).ev G E H=some (.int .u64 (.ofNat t) 0):=by
 subst e
 show B2.ev .rem (x.ev E) (.int .u64 (.ofNat m) 0)=_
 rw[hx]
 show BJ (band true (band true (Ef (ieq (.ofNat m) 0)))) (mkN .u64 (Int.tmod (IntKind.wrap .u64 a) (.ofNat m)) 0)=_
 have:ieq (.ofNat m) 0=false:=by rw[Jf];simp;omega
 rw[this]
 show ES (Int.tmod (IntKind.wrap .u64 a) (.ofNat m)) (λm=>some (.int .u64 m 0))=_
 rw[E5]
 exact congrArg (λz=>some (V.int .u64 z 0)) (umod_eq a m)
theorem km3{m t:Nat}(hm:m<9223372036854775808)(e:MB a m=t)(hx:x.ev E=.int .i64 a 0):(AN.bin .and x (.c (.int .i64 (.ofNat m) 0))).ev G E H=some (.int .i64 (.ofNat t) 0):=by
 subst e
 show AL3 (x.ev E) (.int .i64 (.ofNat m) 0)=_
 rw[hx]
 show BJ true (ES (AKa .i64 a (.ofNat m)) λm=>some (.int .i64 m 0))=_
 rw[vG a hm];rfl
end
theorem Aat{F:T AF}{G:AQ}{FS:T SF}(h:KQ F G FS){f:Nat}{af:AF}(hf:T.get F f=some af){a:List V}(m:Nat){t:KV->Prop}(hs:∀callE,Bc (Oj FS m) callE->BI callE->t OX->Gs af G callE a .e 0 OX)(hr:t OX=True):
 Runs F G f a .e 0 λv _ _=>v=.bool true:=
 Eb (k:=OX) (λ_ _ _ hv=>GZ hv) (EY hf (hs _ (Eo h m) (D8 F G) (of_eq_true hr)))
theorem below2{p:Nat->Prop}(h0:p 0)(h1:p 1)(x:Nat)(hx:x<2):p x:=by
 have:x=0∨x=1:=by omega
 rcases this with rfl|rfl<;>assumption
theorem below3{p:Nat->Prop}(h0:p 0)(h1:p 1)(h2:p 2)(x:Nat)(hx:x<3):p x:=by
 have:x=0∨x=1∨x=2:=by omega
 rcases this with rfl|rfl|rfl<;>assumption
theorem AfV{p:Nat->Prop}(h0:p 0)(h1:p 1)(h2:p 2)(h3:p 3)(x:Nat)(hx:x<4):p x:=by
 have:x=0∨x=1∨x=2∨x=3:=by omega
 rcases this with rfl|rfl|rfl|rfl<;>assumption
theorem Afy{p:Nat->Prop}(h0:p 0)(h1:p 1)(h2:p 2)(h3:p 3)(h4:p 4)(x:Nat)(hx:x<5):p x:=by
 have:x=0∨x=1∨x=2∨x=3∨x=4:=by omega
 rcases this with rfl|rfl|rfl|rfl|rfl<;>assumption
theorem Af0{p:Nat->Prop}(h0:p 0)(h1:p 1)(h2:p 2)(h3:p 3)(h4:p 4)(h5:p 5)(x:Nat)(hx:x<6):p x:=by
 have:x=0∨x=1∨x=2∨x=3∨x=4∨x=5:=by omega
 rcases this with rfl|rfl|rfl|rfl|rfl|rfl<;>assumption
theorem Ae0{p:Nat->Prop}(h0:p 0)(h1:p 1)(h2:p 2)(h3:p 3)(h4:p 4)(h5:p 5)(h6:p 6)(x:Nat)(hx:x<7):p x:=by
 have:x=0∨x=1∨x=2∨x=3∨x=4∨x=5∨x=6:=by omega
 rcases this with rfl|rfl|rfl|rfl|rfl|rfl|rfl<;>assumption
theorem Afq{p:Nat->Prop}(h0:p 0)(h1:p 1)(h2:p 2)(h3:p 3)(h4:p 4)(h5:p 5)(h6:p 6)(h7:p 7)(x:Nat)(hx:x<8):p x:=by
 have:x=0∨x=1∨x=2∨x=3∨x=4∨x=5∨x=6∨x=7:=by omega
 rcases this with rfl|rfl|rfl|rfl|rfl|rfl|rfl|rfl<;>assumption
theorem Af2{p:Nat->Prop}(h0:p 0)(h1:p 1)(h2:p 2)(h3:p 3)(h4:p 4)(h5:p 5)(h6:p 6)(h7:p 7)(h8:p 8)(x:Nat)(hx:x<9):p x:=by
 have:x=0∨x=1∨x=2∨x=3∨x=4∨x=5∨x=6∨x=7∨x=8:=by omega
 rcases this with rfl|rfl|rfl|rfl|rfl|rfl|rfl|rfl|rfl<;>assumption
theorem AeS{p:Nat->Prop}(h0:p 0)(h1:p 1)(h2:p 2)(h3:p 3)(h4:p 4)(h5:p 5)(h6:p 6)(h7:p 7)(h8:p 8)(h9:p 9)(x:Nat)(hx:x<10):p x:=by
 have:x=0∨x=1∨x=2∨x=3∨x=4∨x=5∨x=6∨x=7∨x=8∨x=9:=by omega
 rcases this with rfl|rfl|rfl|rfl|rfl|rfl|rfl|rfl|rfl|rfl<;>assumption
theorem AeV{p:Nat->Prop}(h0:p 0)(h1:p 1)(h2:p 2)(h3:p 3)(h4:p 4)(h5:p 5)(h6:p 6)(h7:p 7)(h8:p 8)(h9:p 9)(h10:p 10)(h11:p 11)(x:Nat)(hx:x<12):p x:=by
 have:x=0∨x=1∨x=2∨x=3∨x=4∨x=5∨x=6∨x=7∨x=8∨x=9∨x=10∨x=11:=by omega
 rcases this with rfl|rfl|rfl|rfl|rfl|rfl|rfl|rfl|rfl|rfl|rfl|rfl<;>assumption
theorem AeP{p:Nat->Prop}(h0:p 0)(h1:p 1)(h2:p 2)(h3:p 3)(h4:p 4)(h5:p 5)(h6:p 6)(h7:p 7)(h8:p 8)(h9:p 9)(h10:p 10)(h11:p 11)(h12:p 12)(h13:p 13)(h14:p 14)(h15:p 15)(x:Nat)(hx:x<16):p x:=by
 have:x=0∨x=1∨x=2∨x=3∨x=4∨x=5∨x=6∨x=7∨x=8∨x=9∨x=10∨x=11∨x=12∨x=13∨x=14∨x=15:=by omega
 rcases this with rfl|rfl|rfl|rfl|rfl|rfl|rfl|rfl|rfl|rfl|rfl|rfl|rfl|rfl|rfl|rfl<;>assumption
theorem Aen{p:Nat->Prop}(h0:p 0)(h1:p 1)(h2:p 2)(h3:p 3)(h4:p 4)(h5:p 5)(h6:p 6)(h7:p 7)(h8:p 8)(h9:p 9)(h10:p 10)(h11:p 11)(h12:p 12)(h13:p 13)(h14:p 14)(h15:p 15)(h16:p 16)(h17:p 17)(h18:p 18)(h19:p 19)(x:Nat)(hx:x<20):p x:=by
 have:x=0∨x=1∨x=2∨x=3∨x=4∨x=5∨x=6∨x=7∨x=8∨x=9∨x=10∨x=11∨x=12∨x=13∨x=14∨x=15∨x=16∨x=17∨x=18∨x=19:=by omega
 rcases this with rfl|rfl|rfl|rfl|rfl|rfl|rfl|rfl|rfl|rfl|rfl|rfl|rfl|rfl|rfl|rfl|rfl|rfl|rfl|rfl<;>assumption
theorem AeB{p:Nat->Prop}(h0:p 0)(h1:p 1)(h2:p 2)(h3:p 3)(h4:p 4)(h5:p 5)(h6:p 6)(h7:p 7)(h8:p 8)(h9:p 9)(h10:p 10)(h11:p 11)(h12:p 12)(h13:p 13)(h14:p 14)(h15:p 15)(h16:p 16)(h17:p 17)(h18:p 18)(h19:p 19)(h20:p 20)(h21:p 21)(h22:p 22)(h23:p 23)(h24:p 24)(h25:p 25)(h26:p 26)(h27:p 27)(h28:p 28)(h29:p 29)(x:Nat)(hx:x<30):p x:=by
 match x,hx with
 |0,_=>exact h0
 |1,_=>exact h1
 |2,_=>exact h2
 |3,_=>exact h3
 |4,_=>exact h4
 |5,_=>exact h5
 |6,_=>exact h6
 |7,_=>exact h7
 |8,_=>exact h8
 |9,_=>exact h9
 |10,_=>exact h10
 |11,_=>exact h11
 |12,_=>exact h12
 |13,_=>exact h13
 |14,_=>exact h14
 |15,_=>exact h15
 |16,_=>exact h16
 |17,_=>exact h17
 |18,_=>exact h18
 |19,_=>exact h19
 |20,_=>exact h20
 |21,_=>exact h21
 |22,_=>exact h22
 |23,_=>exact h23
 |24,_=>exact h24
 |25,_=>exact h25
 |26,_=>exact h26
 |27,_=>exact h27
 |28,_=>exact h28
 |29,_=>exact h29
 |x+30,hx=>exact absurd hx (by omega)
theorem AeQ{p:Nat->Prop}(h0:p 0)(h1:p 1)(h2:p 2)(h3:p 3)(h4:p 4)(h5:p 5)(h6:p 6)(h7:p 7)(h8:p 8)(h9:p 9)(h10:p 10)(h11:p 11)(h12:p 12)(h13:p 13)(h14:p 14)(h15:p 15)(h16:p 16)(h17:p 17)(h18:p 18)(h19:p 19)(h20:p 20)(h21:p 21)(h22:p 22)(h23:p 23)(h24:p 24)(h25:p 25)(h26:p 26)(h27:p 27)(h28:p 28)(h29:p 29)(h30:p 30)(h31:p 31)(x:Nat)(hx:x<32):p x:=by
 match x,hx with
 |0,_=>exact h0
 |1,_=>exact h1
 |2,_=>exact h2
 |3,_=>exact h3
 |4,_=>exact h4
 |5,_=>exact h5
 |6,_=>exact h6
 |7,_=>exact h7
 |8,_=>exact h8
 |9,_=>exact h9
 |10,_=>exact h10
 |11,_=>exact h11
 |12,_=>exact h12
 |13,_=>exact h13
 |14,_=>exact h14
 |15,_=>exact h15
 |16,_=>exact h16
 |17,_=>exact h17
 |18,_=>exact h18
 |19,_=>exact h19
 |20,_=>exact h20
 |21,_=>exact h21
 |22,_=>exact h22
 |23,_=>exact h23
 |24,_=>exact h24
 |25,_=>exact h25
 |26,_=>exact h26
 |27,_=>exact h27
 |28,_=>exact h28
 |29,_=>exact h29
 |30,_=>exact h30
 |31,_=>exact h31
 |x+32,hx=>exact absurd hx (by omega)
theorem Ael{p:Nat->Prop}(h0:p 0)(h1:p 1)(h2:p 2)(h3:p 3)(h4:p 4)(h5:p 5)(h6:p 6)(h7:p 7)(h8:p 8)(h9:p 9)(h10:p 10)(h11:p 11)(h12:p 12)(h13:p 13)(h14:p 14)(h15:p 15)(h16:p 16)(h17:p 17)(h18:p 18)(h19:p 19)(h20:p 20)(h21:p 21)(h22:p 22)(h23:p 23)(h24:p 24)(h25:p 25)(h26:p 26)(h27:p 27)(h28:p 28)(h29:p 29)(h30:p 30)(h31:p 31)(h32:p 32)(h33:p 33)(h34:p 34)(h35:p 35)(h36:p 36)(h37:p 37)(h38:p 38)(h39:p 39)(h40:p 40)(h41:p 41)(x:Nat)(hx:x<42):p x:=by
 match x,hx with
 |0,_=>exact h0
 |1,_=>exact h1
 |2,_=>exact h2
 |3,_=>exact h3
 |4,_=>exact h4
 |5,_=>exact h5
 |6,_=>exact h6
 |7,_=>exact h7
 |8,_=>exact h8
 |9,_=>exact h9
 |10,_=>exact h10
 |11,_=>exact h11
 |12,_=>exact h12
 |13,_=>exact h13
 |14,_=>exact h14
 |15,_=>exact h15
 |16,_=>exact h16
 |17,_=>exact h17
 |18,_=>exact h18
 |19,_=>exact h19
 |20,_=>exact h20
 |21,_=>exact h21
 |22,_=>exact h22
 |23,_=>exact h23
 |24,_=>exact h24
 |25,_=>exact h25
 |26,_=>exact h26
 |27,_=>exact h27
 |28,_=>exact h28
 |29,_=>exact h29
 |30,_=>exact h30
 |31,_=>exact h31
 |32,_=>exact h32
 |33,_=>exact h33
 |34,_=>exact h34
 |35,_=>exact h35
 |36,_=>exact h36
 |37,_=>exact h37
 |38,_=>exact h38
 |39,_=>exact h39
 |40,_=>exact h40
 |41,_=>exact h41
 |x+42,hx=>exact absurd hx (by omega)
theorem Aes{p:Nat->Prop}(h0:p 0)(h1:p 1)(h2:p 2)(h3:p 3)(h4:p 4)(h5:p 5)(h6:p 6)(h7:p 7)(h8:p 8)(h9:p 9)(h10:p 10)(h11:p 11)(h12:p 12)(h13:p 13)(h14:p 14)(h15:p 15)(h16:p 16)(h17:p 17)(h18:p 18)(h19:p 19)(h20:p 20)(h21:p 21)(h22:p 22)(h23:p 23)(h24:p 24)(h25:p 25)(h26:p 26)(h27:p 27)(h28:p 28)(h29:p 29)(h30:p 30)(h31:p 31)(h32:p 32)(h33:p 33)(h34:p 34)(h35:p 35)(h36:p 36)(h37:p 37)(h38:p 38)(h39:p 39)(h40:p 40)(h41:p 41)(h42:p 42)(h43:p 43)(h44:p 44)(h45:p 45)(h46:p 46)(h47:p 47)(h48:p 48)(h49:p 49)(h50:p 50)(h51:p 51)(h52:p 52)(h53:p 53)(h54:p 54)(h55:p 55)(h56:p 56)(h57:p 57)(h58:p 58)(h59:p 59)(h60:p 60)(h61:p 61)(h62:p 62)(h63:p 63)(x:Nat)(hx:x<64):p x:=by
 match x,hx with
 |0,_=>exact h0
 |1,_=>exact h1
 |2,_=>exact h2
 |3,_=>exact h3
 |4,_=>exact h4
 |5,_=>exact h5
 |6,_=>exact h6
 |7,_=>exact h7
 |8,_=>exact h8
 |9,_=>exact h9
 |10,_=>exact h10
 |11,_=>exact h11
 |12,_=>exact h12
 |13,_=>exact h13
 |14,_=>exact h14
 |15,_=>exact h15
 |16,_=>exact h16
 |17,_=>exact h17
 |18,_=>exact h18
 |19,_=>exact h19
 |20,_=>exact h20
 |21,_=>exact h21
 |22,_=>exact h22
 |23,_=>exact h23
 |24,_=>exact h24
 |25,_=>exact h25
 |26,_=>exact h26
 |27,_=>exact h27
 |28,_=>exact h28
 |29,_=>exact h29
 |30,_=>exact h30
 |31,_=>exact h31
 |32,_=>exact h32
 |33,_=>exact h33
 |34,_=>exact h34
 |35,_=>exact h35
 |36,_=>exact h36
 |37,_=>exact h37
 |38,_=>exact h38
 |39,_=>exact h39
 |40,_=>exact h40
 |41,_=>exact h41
 |42,_=>exact h42
 |43,_=>exact h43
 |44,_=>exact h44
 |45,_=>exact h45
 |46,_=>exact h46
 |47,_=>exact h47
 |48,_=>exact h48
 |49,_=>exact h49
 |50,_=>exact h50
 |51,_=>exact h51
 |52,_=>exact h52
 |53,_=>exact h53
 |54,_=>exact h54
 |55,_=>exact h55
 |56,_=>exact h56
 |57,_=>exact h57
 |58,_=>exact h58
 |59,_=>exact h59
 |60,_=>exact h60
 |61,_=>exact h61
 |62,_=>exact h62
 |63,_=>exact h63
 |x+64,hx=>exact absurd hx (by omega)
theorem AeO{p:Nat->Prop}(h0:p 0)(h1:p 1)(h2:p 2)(h3:p 3)(h4:p 4)(h5:p 5)(h6:p 6)(h7:p 7)(h8:p 8)(h9:p 9)(h10:p 10)(h11:p 11)(h12:p 12)(h13:p 13)(h14:p 14)(h15:p 15)(h16:p 16)(h17:p 17)(h18:p 18)(h19:p 19)(h20:p 20)(h21:p 21)(h22:p 22)(h23:p 23)(h24:p 24)(h25:p 25)(h26:p 26)(h27:p 27)(h28:p 28)(h29:p 29)(h30:p 30)(h31:p 31)(h32:p 32)(h33:p 33)(h34:p 34)(h35:p 35)(h36:p 36)(h37:p 37)(h38:p 38)(h39:p 39)(h40:p 40)(h41:p 41)(h42:p 42)(h43:p 43)(h44:p 44)(h45:p 45)(h46:p 46)(h47:p 47)(h48:p 48)(h49:p 49)(h50:p 50)(h51:p 51)(h52:p 52)(h53:p 53)(h54:p 54)(h55:p 55)(h56:p 56)(h57:p 57)(h58:p 58)(h59:p 59)(h60:p 60)(h61:p 61)(h62:p 62)(h63:p 63)(h64:p 64)(h65:p 65)(h66:p 66)(h67:p 67)(h68:p 68)(h69:p 69)(h70:p 70)(h71:p 71)(h72:p 72)(h73:p 73)(h74:p 74)(h75:p 75)(h76:p 76)(h77:p 77)(h78:p 78)(h79:p 79)(h80:p 80)(h81:p 81)(x:Nat)(hx:x<82):p x:=by
 match x,hx with
 |0,_=>exact h0
 |1,_=>exact h1
 |2,_=>exact h2
 |3,_=>exact h3
 |4,_=>exact h4
 |5,_=>exact h5
 |6,_=>exact h6
 |7,_=>exact h7
 |8,_=>exact h8
 |9,_=>exact h9
 |10,_=>exact h10
 |11,_=>exact h11
 |12,_=>exact h12
 |13,_=>exact h13
 |14,_=>exact h14
 |15,_=>exact h15
 |16,_=>exact h16
 |17,_=>exact h17
 |18,_=>exact h18
 |19,_=>exact h19
 |20,_=>exact h20
 |21,_=>exact h21
 |22,_=>exact h22
 |23,_=>exact h23
 |24,_=>exact h24
 |25,_=>exact h25
 |26,_=>exact h26
 |27,_=>exact h27
 |28,_=>exact h28
 |29,_=>exact h29
 |30,_=>exact h30
 |31,_=>exact h31
 |32,_=>exact h32
 |33,_=>exact h33
 |34,_=>exact h34
 |35,_=>exact h35
 |36,_=>exact h36
 |37,_=>exact h37
 |38,_=>exact h38
 |39,_=>exact h39
 |40,_=>exact h40
 |41,_=>exact h41
 |42,_=>exact h42
 |43,_=>exact h43
 |44,_=>exact h44
 |45,_=>exact h45
 |46,_=>exact h46
 |47,_=>exact h47
 |48,_=>exact h48
 |49,_=>exact h49
 |50,_=>exact h50
 |51,_=>exact h51
 |52,_=>exact h52
 |53,_=>exact h53
 |54,_=>exact h54
 |55,_=>exact h55
 |56,_=>exact h56
 |57,_=>exact h57
 |58,_=>exact h58
 |59,_=>exact h59
 |60,_=>exact h60
 |61,_=>exact h61
 |62,_=>exact h62
 |63,_=>exact h63
 |64,_=>exact h64
 |65,_=>exact h65
 |66,_=>exact h66
 |67,_=>exact h67
 |68,_=>exact h68
 |69,_=>exact h69
 |70,_=>exact h70
 |71,_=>exact h71
 |72,_=>exact h72
 |73,_=>exact h73
 |74,_=>exact h74
 |75,_=>exact h75
 |76,_=>exact h76
 |77,_=>exact h77
 |78,_=>exact h78
 |79,_=>exact h79
 |80,_=>exact h80
 |81,_=>exact h81
 |x+82,hx=>exact absurd hx (by omega)
def goN(x:X)(b:Bool)(d:IB)(o:AN):Nu:=λG _ R H n k=>Ai (x.ev R) b (o.ev G R H) λv=>k (CX d v R) H n
def goA(x:X)(b:Bool)(d:IB)(o:AA):Nu:=λ_ _ R H n k=>BZ (x.ev R) b (Ap (o.al R) H n) H n λv H n=>k (CX d v R) H n
def goE(x:X)(b:Bool)(d:IB)(o:AE):Nu:=λG call R H n k=>BZ (x.ev R) b (o.ex G call R H n) H n λv H n=>k (CX d v R) H n
def AgO(x:X)(b:Bool)(d:IB)(o:AO):Nu:=AO.rec (motive:=λ_=>Nu) (goN x b d) (goA x b d) (goE x b d) o
def oAG(o:AA):XoT:=λ_ _ d R H n k=>Ap (o.al R) H n λv H n=>k (CX d v R) H n
def AO.WM(o:AO):XoT:=AO.rec (motive:=λ_=>XoT) oN oAG oE o
def Afg(d:IB)(o:AO):Nu:=λG call R H n k=>o.WM G call d R H n k
def I9.WM(o:I9):Nu:=I9.rec (motive:=λ_=>Nu) (λd g o=>Gd.rec (motive:=λ_=>IB->AO->Nu) Afg AgO g d o) o
theorem oQ(o:I9):o.WM=o.ex:=by
 obtain⟨d,g,o⟩:=o
 cases g<;>cases o<;>rfl
def jf(l:List I9):Nu:=
 List.rec (motive:=λ_=>Nu) (λ_ _ R H n k=>k R H n) (λo _ g G call R H n k=>o.WM G call R H n λR H n=>g G call R H n k) l
theorem oH:∀l:List I9,jf l=BH l
 |[]=>rfl
 |o::l=>by
  show(λG call R H n k=>o.WM G call R H n λR H n=>jf l G call R H n k)=λG call R H n k=>o.ex G call R H n λR H n=>BH l G call R H n k
  rw[oH l,oQ]
def Aap(x:X)(b:Bool):ReT:=λG R H d o k=>Me (x.ev R) b (o.ev G R H) (Dq (T.Bf d R.rg)) k
def AdN(g:Gd):ReT:=Gd.rec (motive:=λ_=>ReT) Adj Aap g
def AI.WM(i:AI):Nu:=AI.rec (motive:=λ_=>Nu) (λo=>o.WM) (λd g o G _ R H n k=>AdN g G R H d o (k R H n)) i
theorem AYh(i:AI):i.WM=i.ex:=by
 cases i with
 |op o=>exact oQ o
 |re d g o=>cases g<;>rfl
def Vd(l:List AI):Nu:=
 List.rec (motive:=λ_=>Nu) (λ_ _ R H n k=>k R H n) (λi _ g G call R H n k=>i.WM G call R H n λR H n=>g G call R H n k) l
theorem Wn:∀l:List AI,Vd l=Ak l
 |[]=>rfl
 |o::l=>by
  show(λG call R H n k=>o.WM G call R H n λR H n=>Vd l G call R H n k)=λG call R H n k=>o.ex G call R H n λR H n=>Ak l G call R H n k
  rw[Wn l,AYh]
def AEF(l:List I9):M:=λG call _ R H n k _ _=>jf l G call (.mk [] R) H n λE H n=>k E.rg H n
def ACI(l:List AI):M:=λG call _ R H n k _ _=>Vd l G call (.mk [] R) H n λE H n=>k E.rg H n
def AC.WM(c:AC):M:=AC.rec (motive:=λ_=>M) ADE AEF ACI ABt fC U3 ZH zM AWL c
theorem JQ:∀c:AC,c.WM=c.FM
 |.skip=>rfl
 |.ops l=>by show AEF l=AG6 l;unfold AEF AG6;rw[oH]
 |.reg l=>by show ACI l=AH1 l;unfold ACI AH1;rw[Wn]
 |.seq a b=>by show ABt a b a.WM b.WM=ABt a b a.FM b.FM;rw[JQ a,JQ b]
 |.cond x a b=>by show fC x a b a.WM b.WM=fC x a b a.FM b.FM;rw[JQ a,JQ b]
 |.block i a=>by show U3 i a a.WM=U3 i a a.FM;rw[JQ a]
 |.loop a=>by show ZH a a.WM=ZH a a.FM;rw[JQ a]
 |.exit i=>rfl
 |.ret=>rfl
inductive An:Type 1 where
 |n
 |s (a b:An)
 |j (S:K) (a b:An)
 |c (a b:An)
 |b (a:An)
 |l (σ:Type) (bd:(σ->Prop)->σ->Prop) (st:Cc->Heap->Nat->σ) (a:(σ->Prop)->An)
abbrev M2:=AC->AQ->AP->Cc->Heap->Nat->K->KX->K->Prop
def AC.iH(c:AC)(f:AC->AC->Prop):Prop:=AC.rec (motive:=λ_=>Prop) False (λ_=>False) (λ_=>False) (λa b _ _=>f a b) (λ_ _ _ _ _=>False) (λ_ _ _=>False) (λ_ _=>False) (λ_=>False) False c
def AC.lg(c:AC)(f:X->AC->AC->Prop):Prop:=AC.rec (motive:=λ_=>Prop) False (λ_=>False) (λ_=>False) (λ_ _ _ _=>False) (λx a b _ _=>f x a b) (λ_ _ _=>False) (λ_ _=>False) (λ_=>False) False c
def AC.cO(c:AC)(f:Nat->AC->Prop):Prop:=AC.rec (motive:=λ_=>Prop) False (λ_=>False) (λ_=>False) (λ_ _ _ _=>False) (λ_ _ _ _ _=>False) (λi a _=>f i a) (λ_ _=>False) (λ_=>False) False c
def AC.lW(c:AC)(f:AC->Prop):Prop:=AC.rec (motive:=λ_=>Prop) False (λ_=>False) (λ_=>False) (λ_ _ _ _=>False) (λ_ _ _ _ _=>False) (λ_ _ _=>False) (λa _=>f a) (λ_=>False) False c
def An.ex(L:Aa)(an:An):M2:=
 An.rec (motive:=λ_=>M2)
  (λc G call R H n k x r=>c.WM G call 0 R H n k x r)
  (λ_ _ ga gb c G call R H n k x r=>c.iH λa b=>ga a G call R H n (λR H n=>gb b G call R H n k x r) x r)
  (λS _ _ ga _ c G call R H n _ x r=>c.iH λa _=>ga a G call R H n S x r)
  (λ_ _ ga gb c G call R H n k x r=>c.lg λy a b=>AV (y.ev (.mk [] R)) true (ga a G call R H n k x r) (gb b G call R H n k x r))
  (λ_ ga c G call R H n k x r=>c.cO λi a=>ga a G call R H n k (CB i k x) r)
  (fun σ bd st _ _ c _ _ R H n _ _ _=>c.lW λ_=>L σ bd (st R H n)) an
abbrev M3:=AC->AQ->AP->K->KX->K->Prop
def An.ob(L:Aa)(an:An):M3:=
 An.rec (motive:=λ_=>M3)
  (λ_ _ _ _ _ _=>True)
  (λ_ b ga gb c G call k x r=>c.iH λa d=>ga a G call (λR H n=>b.ex L d G call R H n k x r) x r/\gb d G call k x r)
  (λS _ b ga gb c G call k x r=>c.iH λa d=>ga a G call S x r/\(∀R H n,S R H n=b.ex L d G call R H n k x r)/\gb d G call k x r)
  (λ_ _ ga gb c G call k x r=>c.lg λ_ a b=>ga a G call k x r/\gb b G call k x r)
  (λ_ ga c G call k x r=>c.cO λi a=>ga a G call k (CB i k x) r)
  (fun σ bd st a ga c G call _ x r=>c.lW λd=>∀ih:σ->Prop,(∀R H n,bd ih (st R H n)=(a ih).ex L d G call R H n (λR H n=>ih (st R H n)) x r)/\ga ih d G call (λR H n=>ih (st R H n)) x r) an
def AC.AE3(c:AC)(f:AC->AC->Prop):Prop:=AC.rec (motive:=λ_=>Prop) True (λ_=>True) (λ_=>True) (λa b _ _=>f a b) (λ_ _ _ _ _=>True) (λ_ _ _=>True) (λ_ _=>True) (λ_=>True) True c
def AC.AMP(c:AC)(f:X->AC->AC->Prop):Prop:=AC.rec (motive:=λ_=>Prop) True (λ_=>True) (λ_=>True) (λ_ _ _ _=>True) (λx a b _ _=>f x a b) (λ_ _ _=>True) (λ_ _=>True) (λ_=>True) True c
def AC.AAq(c:AC)(f:Nat->AC->Prop):Prop:=AC.rec (motive:=λ_=>Prop) True (λ_=>True) (λ_=>True) (λ_ _ _ _=>True) (λ_ _ _ _ _=>True) (λi a _=>f i a) (λ_ _=>True) (λ_=>True) True c
def AC.AHv(c:AC)(f:AC->Prop):Prop:=AC.rec (motive:=λ_=>Prop) True (λ_=>True) (λ_=>True) (λ_ _ _ _=>True) (λ_ _ _ _ _=>True) (λ_ _ _=>True) (λa _=>f a) (λ_=>True) True c
def An.obR(L:Aa)(an:An):M3:=
 An.rec (motive:=λ_=>M3)
  (λ_ _ _ _ _ _=>True)
  (λ_ b ga gb c G call k x r=>c.AE3 λa d=>ga a G call (λR H n=>b.ex L d G call R H n k x r) x r/\gb d G call k x r)
  (λS _ b ga gb c G call k x r=>c.AE3 λa d=>ga a G call S x r/\(∀R H n,S R H n=S R H n)/\gb d G call k x r)
  (λ_ _ ga gb c G call k x r=>c.AMP λ_ a b=>ga a G call k x r/\gb b G call k x r)
  (λ_ ga c G call k x r=>c.AAq λi a=>ga a G call k (CB i k x) r)
  (fun σ bd st a ga c G call _ x r=>c.AHv λd=>∀ih:σ->Prop,(∀R H n,bd ih (st R H n)=bd ih (st R H n))/\ga ih d G call (λR H n=>ih (st R H n)) x r) an
theorem An.AXe(L:Aa)(an:An):∀c G call k x r,an.obR L c G call k x r:=by
 induction an with
 |n=>exact λ_ _ _ _ _ _=>trivial
 |s a b iha ihb=>intro c;cases c<;>first|exact λ_ _ _ _ _=>trivial|exact λG call k x r=>⟨iha _ _ _ _ _ _,ihb _ _ _ _ _ _⟩
 |j S a b iha ihb=>intro c;cases c<;>first|exact λ_ _ _ _ _=>trivial|exact λG call k x r=>⟨iha _ _ _ _ _ _,λ_ _ _=>rfl,ihb _ _ _ _ _ _⟩
 |c a b iha ihb=>intro c;cases c<;>first|exact λ_ _ _ _ _=>trivial|exact λG call k x r=>⟨iha _ _ _ _ _ _,ihb _ _ _ _ _ _⟩
 |b a iha=>intro c;cases c<;>first|exact λ_ _ _ _ _=>trivial|exact λG call k x r=>iha _ _ _ _ _ _
 |l σ bd st a iha=>intro c;cases c<;>first|exact λ_ _ _ _ _=>trivial|exact λG call k x r ih=>⟨λ_ _ _=>rfl,iha ih _ _ _ _ _ _⟩
theorem Xv{c:AC}{f:AC->AC->Prop}(h:c.iH f):∃a b,c=.seq a b/\f a b:=by
 cases c<;>first|exact⟨_,_,rfl,h⟩|exact(show False from h).elim
theorem lM{c:AC}{f:X->AC->AC->Prop}(h:c.lg f):∃x a b,c=.cond x a b/\f x a b:=by
 cases c<;>first|exact⟨_,_,_,rfl,h⟩|exact(show False from h).elim
theorem dn{c:AC}{f:Nat->AC->Prop}(h:c.cO f):∃i a,c=.block i a/\f i a:=by
 cases c<;>first|exact⟨_,_,rfl,h⟩|exact(show False from h).elim
theorem jV{c:AC}{f:AC->Prop}(h:c.lW f):∃a,c=.loop a/\f a:=by
 cases c<;>first|exact⟨_,rfl,h⟩|exact(show False from h).elim
section
variable{G:AQ}{call callE:AP}
theorem AHQ{c:AC}{R:Cc}{H:Heap}{n:Nat}{k:K}{x:KX}{r:K}(h:c.WM G call 0 R H n k x r):c.FM G call 0 R H n k x r:=by rwa [JQ]at h
theorem JG(hle:Bc call callE)(hd:BI callE):∀(c:AC) (R:Cc) (H:Heap) (n:Nat) (k k':K) (x x':KX) (r r':K),(∀R H n,k R H n->k' R H n)->(∀i R H n,x i R H n->x' i R H n)->(∀R H n,r R H n->r' R H n)->
 c.FM G call 0 R H n k x r->c.FM G callE 0 R H n k' x' r'
 |.skip,R,H,n,k,k',x,x',r,r',hk,hx,hr,h=>hk _ _ _ h
 |.ops l,R,H,n,k,k',x,x',r,r',hk,hx,hr,h=>gU hd l _ H n (λE H n h=>hk _ _ _ h) (jJ hd hle G l _ H n _ h)
 |.reg l,R,H,n,k,k',x,x',r,r',hk,hx,hr,h=>TI hd l _ H n (λE H n h=>hk _ _ _ h) (VL hd hle G l _ H n _ h)
 |.seq a b,R,H,n,k,k',x,x',r,r',hk,hx,hr,h=>JG hle hd a R H n _ _ x x' r r' (λR H n h=>JG hle hd b R H n k k' x x' r r' hk hx hr h) hx hr h
 |.cond c a b,R,H,n,k,k',x,x',r,r',hk,hx,hr,h=>by
  have h':AV (c.ev (.mk [] R)) true (a.FM G call 0 R H n k x r) (b.FM G call 0 R H n k x r):=h
  show AV (c.ev (.mk [] R)) true (a.FM G callE 0 R H n k' x' r') (b.FM G callE 0 R H n k' x' r')
  exact FC h' (JG hle hd a R H n k k' x x' r r' hk hx hr) (JG hle hd b R H n k k' x x' r r' hk hx hr)
 |.block id a,R,H,n,k,k',x,x',r,r',hk,hx,hr,h=>by
  refine JG hle hd a R H n k k' (CB id k x) (CB id k' x') r r' hk (λi R H n h=>?_) hr h
  unfold CB at h⊢
  cases hb:Nat.beq i id with
  |true=>rw[hb]at h;exact hk _ _ _ h
  |false=>rw[hb]at h;exact hx _ _ _ _ h
 |.loop a,R,H,n,k,k',x,x',r,r',hk,hx,hr,h=>by
  intro I hI
  exact h I λR H n hb=>hI R H n (JG hle hd a R H n I I x x' r r' (λ_ _ _ h=>h) hx hr hb)
 |.exit i,R,H,n,k,k',x,x',r,r',hk,hx,hr,h=>hx _ _ _ _ h
 |.ret,R,H,n,k,k',x,x',r,r',hk,hx,hr,h=>hr _ _ _ h
theorem An.ok{L:Aa}(hL:Ar L)(hle:Bc call callE)(hd:BI callE)(an:An):∀(c:AC) (k k':K) (x x':KX) (r r':K),(∀R H n,k R H n->k' R H n)->(∀i R H n,x i R H n->x' i R H n)->(∀R H n,r R H n->r' R H n)->
 an.ob L c G call k x r->∀R H n,an.ex L c G call R H n k x r->c.FM G callE 0 R H n k' x' r':=by
 induction an with
 |n=>exact λc k k' x x' r r' hk hx hr _ R H n h=>JG hle hd c R H n k k' x x' r r' hk hx hr (AHQ h)
 |s a b iha ihb=>
  intro c k k' x x' r r' hk hx hr ho R H n h
  obtain⟨c1,c2,rfl,ho⟩:=Xv ho
  exact iha c1 _ _ x x' r r' (λR H n h=>ihb c2 k k' x x' r r' hk hx hr ho.2 R H n h) hx hr ho.1 R H n h
 |j S a b iha ihb=>
  intro c k k' x x' r r' hk hx hr ho R H n h
  obtain⟨c1,c2,rfl,ho⟩:=Xv ho
  exact iha c1 S (λR H n=>c2.FM G callE 0 R H n k' x' r') x x' r r' (λR H n h=>ihb c2 k k' x x' r r' hk hx hr ho.2.2 R H n (ho.2.1 R H n▸h)) hx hr ho.1 R H n h
 |c a b iha ihb=>
  intro c k k' x x' r r' hk hx hr ho R H n h
  obtain⟨y,c1,c2,rfl,ho⟩:=lM ho
  exact FC (P':=c1.FM G callE 0 R H n k' x' r') (Q':=c2.FM G callE 0 R H n k' x' r') h (λh=>iha c1 k k' x x' r r' hk hx hr ho.1 R H n h) (λh=>ihb c2 k k' x x' r r' hk hx hr ho.2 R H n h)
 |b a iha=>
  intro c k k' x x' r r' hk hx hr ho R H n h
  obtain⟨i,c1,rfl,ho⟩:=dn ho
  refine iha c1 k k' (CB i k x) (CB i k' x') r r' hk (λj R H n h=>?_) hr ho R H n h
  unfold CB at h⊢
  cases hb:Nat.beq j i with
  |true=>rw[hb]at h;exact hk _ _ _ h
  |false=>rw[hb]at h;exact hx _ _ _ _ h
 |l σ bd st a iha=>
  intro c k k' x x' r r' hk hx hr ho R H n h
  obtain⟨c1,rfl,ho⟩:=jV ho
  intro I hI
  have h':L σ bd (st R H n):=h
  refine hL σ bd (λs=>∀R H n,st R H n=s->I R H n) (λih hih s hs R H n e=>?_) _ h' R H n rfl
  subst e
  rw[(ho ih).1]at hs
  exact hI R H n (iha ih c1 (λR H n=>ih (st R H n)) I x x' r r' (λR H n h=>hih _ h R H n rfl) hx hr (ho ih).2 R H n hs)
end
def fEx(L:Aa)(an:An)(af:AF)(G:AQ)(call:AP)(args:List V)(H:Heap)(n:Nat)(k:KV):Prop:=
 AF.rec (motive:=λ_=>Prop) (λnp code res d dg=>Bq (Nat.beq (len args) np) (an.ex L code G call (GU args 0 .e) H n (DI res dg d G call k) o8 (DI res dg d G call k))) (λf=>Jg f G args H n k) af
def fOb(L:Aa)(an:An)(af:AF)(G:AQ)(call:AP)(k:KV):Prop:=
 AF.rec (motive:=λ_=>Prop) (λ_ code res d dg=>an.ob L code G call (DI res dg d G call k) o8 (DI res dg d G call k)) (λ_=>True) af
def AfZ(L:Aa)(an:An)(af:AF)(G:AQ)(call:AP)(k:KV):Prop:=
 AF.rec (motive:=λ_=>Prop) (λ_ code res d dg=>an.obR L code G call (DI res dg d G call k) o8 (DI res dg d G call k)) (λ_=>True) af
theorem obs{L:Aa}{an:An}{af:AF}{G:AQ}{call:AP}{k:KV}(h:AfZ L an af G call k=fOb L an af G call k):fOb L an af G call k:=by
 rw[<-h];cases af with
 |mk=>exact An.AXe ..
 |nat=>exact trivial
theorem Hz{L:Aa}(hL:Ar L){G:AQ}{call callE:AP}(hle:Bc call callE)(hd:BI callE){an:An}{af:AF}{args:List V}{H:Heap}{n:Nat}{k:KV}(ho:fOb L an af G call k)(h:fEx L an af G call args H n k):Gs af G callE args H n k:=by
 cases af with
 |nat=>exact h
 |mk np code res d dg=>
 have h':Bq (Nat.beq (len args) np) (an.ex L code G call (GU args 0 .e) H n (DI res dg d G call k) o8 (DI res dg d G call k)):=h
 show Bq (Nat.beq (len args) np) (code.FM G callE 0 (GU args 0 .e) H n (DI res dg d G callE k) o8 (DI res dg d G callE k))
 rw[CO]at h'⊢
 exact⟨h'.1,An.ok hL hle hd an code _ _ _ _ _ _ (λR H n h=>Gw hd hle res dg d G k R H n h) (λ_ _ _ _ h=>h) (λR H n h=>Gw hd hle res dg d G k R H n h) ho _ _ _ h'.2⟩
section
variable{L:Aa}(hL:Ar L){G:AQ}{af:AF}{an:AP->KV->An}(ho:∀call k,fOb L (an call k) af G call k)
include hL ho
theorem sf0{s:AP->Heap->Nat->KV->Prop}(h:∀call H n k,s call H n k=fEx L (an call k) af G call [] H n k):Jy G af (yh s):=λcall callE hle hd l H n k hs=>by
 obtain⟨rfl,hs⟩:=lq hs;exact Hz hL hle hd (ho call k) (h .. ▸hs)
theorem EO{s:AP->V->Heap->Nat->KV->Prop}(h:∀call a0 H n k,s call a0 H n k=fEx L (an call k) af G call [a0] H n k):Jy G af (CQ s):=λcall callE hle hd l H n k hs=>by
 obtain⟨a0,rfl,hs⟩:=aK hs;exact Hz hL hle hd (ho call k) (h .. ▸hs)
theorem D6{s:AP->V->V->Heap->Nat->KV->Prop}(h:∀call a0 a1 H n k,s call a0 a1 H n k=fEx L (an call k) af G call [a0,a1] H n k):Jy G af (Bj s):=λcall callE hle hd l H n k hs=>by
 obtain⟨a0,a1,rfl,hs⟩:=nG hs;exact Hz hL hle hd (ho call k) (h .. ▸hs)
theorem sf3{s:AP->V->V->V->Heap->Nat->KV->Prop}(h:∀call a0 a1 a2 H n k,s call a0 a1 a2 H n k=fEx L (an call k) af G call [a0,a1,a2] H n k):Jy G af (ar3 s):=λcall callE hle hd l H n k hs=>by
 obtain⟨a0,a1,a2,rfl,hs⟩:=nS hs;exact Hz hL hle hd (ho call k) (h .. ▸hs)
theorem sf4{s:AP->V->V->V->V->Heap->Nat->KV->Prop}(h:∀call a0 a1 a2 a3 H n k,s call a0 a1 a2 a3 H n k=fEx L (an call k) af G call [a0,a1,a2,a3] H n k):Jy G af (P5 s):=λcall callE hle hd l H n k hs=>by
 obtain⟨a0,a1,a2,a3,rfl,hs⟩:=nY hs;exact Hz hL hle hd (ho call k) (h .. ▸hs)
theorem sf5{s:AP->V->V->V->V->V->Heap->Nat->KV->Prop}(h:∀call a0 a1 a2 a3 a4 H n k,s call a0 a1 a2 a3 a4 H n k=fEx L (an call k) af G call [a0,a1,a2,a3,a4] H n k):Jy G af (RU s):=λcall callE hle hd l H n k hs=>by
 obtain⟨a0,a1,a2,a3,a4,rfl,hs⟩:=oD hs;exact Hz hL hle hd (ho call k) (h .. ▸hs)
theorem sf6{s:AP->V->V->V->V->V->V->Heap->Nat->KV->Prop}(h:∀call a0 a1 a2 a3 a4 a5 H n k,s call a0 a1 a2 a3 a4 a5 H n k=fEx L (an call k) af G call [a0,a1,a2,a3,a4,a5] H n k):Jy G af (ar6 s):=λcall callE hle hd l H n k hs=>by
 obtain⟨a0,a1,a2,a3,a4,a5,rfl,hs⟩:=nN hs;exact Hz hL hle hd (ho call k) (h .. ▸hs)
theorem sf7{s:AP->V->V->V->V->V->V->V->Heap->Nat->KV->Prop}(h:∀call a0 a1 a2 a3 a4 a5 a6 H n k,s call a0 a1 a2 a3 a4 a5 a6 H n k=fEx L (an call k) af G call [a0,a1,a2,a3,a4,a5,a6] H n k):Jy G af (ar7 s):=λcall callE hle hd l H n k hs=>by
 obtain⟨a0,a1,a2,a3,a4,a5,a6,rfl,hs⟩:=oO hs;exact Hz hL hle hd (ho call k) (h .. ▸hs)
theorem sf8{s:AP->V->V->V->V->V->V->V->V->Heap->Nat->KV->Prop}(h:∀call a0 a1 a2 a3 a4 a5 a6 a7 H n k,s call a0 a1 a2 a3 a4 a5 a6 a7 H n k=fEx L (an call k) af G call [a0,a1,a2,a3,a4,a5,a6,a7] H n k):Jy G af (ar8 s):=λcall callE hle hd l H n k hs=>by
 obtain⟨a0,a1,a2,a3,a4,a5,a6,a7,rfl,hs⟩:=mX hs;exact Hz hL hle hd (ho call k) (h .. ▸hs)
end
def inR(l:List (Nat×Nat))(t:Nat):Bool:=l.any λp=>Nat.ble p.1 t&&Nat.ble t p.2
def Iu(l:List Nat):List (Nat×Wk):=l.map λj=>(j,.plain)
def Bg(n:Nat):List (Nat×Wk):=Iu (List.range n)
def Aj(o:Option AF):AF:=o.getD (.mk 0 .skip [] .no 0)
theorem AZ{o:Option AF}(h:o.isSome=true):o=some (Aj o):=by
 cases o with
 |none=>cases h
 |some a=>rfl
theorem JU.one{P:Program}{F:T AF}{f:Nat}{af:AF}{fn:Func}{loc:Nat->Bool}{df:Bool}{ords:jK}{dg:Nat}(hf:P.funcs[f]? =some fn)(hn:(fn.name== "runtime.NumGoroutine")=false)
 (ht:trF P loc df ords dg fn=some af) (hd:af.dg=dg) (hi:rO af.dp=true):JU P F f af:=.code ⟨⟨fn,loc,df,ords,hf,hn,hd▸ht⟩,.inl hi⟩
theorem JU.two{P:Program}{F:T AF}{f:Nat}{af af':AF}{fn:Func}{loc:Nat->Bool}{df:Bool}{ords:jK}{dg:Nat}(hf:P.funcs[f]? =some fn)(hn:(fn.name== "runtime.NumGoroutine")=false)
 (ht:trF P loc df ords dg fn=some af) (hd:af.dg=dg) (ha:T.get F dg=some af') (hi:rO af'.dp=true):JU P F f af:=.code ⟨⟨fn,loc,df,ords,hf,hn,hd▸ht⟩,.inr ⟨af',hd▸ha,hi⟩⟩
def Afj(b:Bool)(v:V)(p q:Prop):Prop:=v=.bool b/\Bool.rec (motive:=λ_=>Prop) q p b
theorem AeY{b:Bool}{v:V}{p q:Prop}(h:Afj b v p q):AV v true p q:=by
 obtain⟨rfl,h⟩:=h
 cases b<;>exact h
def Abn(b:Bool)(e:Option V)(P:V->Prop):Prop:=e=some (.bool b)/\P (.bool b)
theorem AKz{b:Bool}{e:Option V}{P:V->Prop}(h:Abn b e P):AB e P:=by
 obtain⟨rfl,h⟩:=h;exact h
def AZh(c:V)(g b:Bool)(e:Option V)(P:V->Prop):Prop:=Gp c g (Abn b e P) (P (.BP []))
theorem ALS{c:V}{g b:Bool}{e:Option V}{P:V->Prop}(h:AZh c g b e P):Ai c g e P:=CG h AKz (λh=>h)
def AgI(i:Nat)(e:Option V)(P:Prop):Prop:=e=some (.int .i64 (.ofNat i) 0)/\P
theorem Aeu{i:Nat}{e:Option V}{P:Prop}(h:AgI i e P):AB e λv=>v=.int .i64 (.ofNat i) 0/\P:=by
 obtain⟨rfl,h⟩:=h;exact⟨rfl,h⟩
def Af3(b:Bool)(s:SF):SF:=λcall args H n k=>
 List.rec (motive:=λ_=>Prop) False (λv l _=>v=.bool b/\s call (.bool b::l) H n k) args
theorem Ad8{G:AQ}{af:AF}{b:Bool}{s:SF}(h:Jy G af s):Jy G af (Af3 b s):=λcall callE hle hd args H n k hs=>by
 cases args with
 |nil=>exact(show False from hs).elim
 |cons v l=>
  obtain⟨rfl,hq⟩:=(show v=.bool b/\s call (.bool b::l) H n k from hs)
  exact h _ _ hle hd _ _ _ _ hq
theorem KQ.set{F:T AF}{G:AQ}{FS:T SF}(h:KQ F G FS){f:Nat}{af:AF}(hf:T.get F f=some af){s:SF}(hs:Jy G af s):KQ F G (T.set FS f s):=λg s' hg=>by
 rw[T.Ey]at hg
 split at hg
 ·rename_i e;subst e;cases hg;exact⟨af,hf,hs⟩
 ·exact h g s' hg
theorem AgX(x y:Int):B2.ev .lss (.int .i64 x 0) (.int .i64 y 0)=some (.bool (decide (x<y))):=by
 show mkB (nI x y)=_
 rw[ZG,JO]
theorem Agj(x y:Int):B2.ev .leq (.int .i64 x 0) (.int .i64 y 0)=some (.bool (decide (x<=y))):=by
 show mkB (ile x y)=_
 rw[ZG,AXH]
theorem eq_i(x y:Int):Az (.one .int) false (.int .i64 x 0) (.int .i64 y 0)=some (.bool (x==y)):=by
 show ofB (GV (some (ieq x y)) λb=>some b)=_
 rw[Jf];cases x==y<;>rfl
theorem AdJ(x y:Int):Az (.one .int) true (.int .i64 x 0) (.int .i64 y 0)=some (.bool (!(x==y))):=by
 show ofB (GV (some (ieq x y)) λb=>some (Ef b))=_
 rw[Jf];cases x==y<;>rfl
theorem eq_self(x:Int):Az (.one .int) false (.int .i64 x 0) (.int .i64 x 0)=some (.bool true):=by rw[eq_i];simp
theorem Ack(x:Int):Az (.one .int) true (.int .i64 x 0) (.int .i64 x 0)=some (.bool false):=by rw[AdJ];simp
theorem wrap64(a:Int):IntKind.wrap .i64 a=if 9223372036854775808<=a%18446744073709551616 then a%18446744073709551616-18446744073709551616 else a%18446744073709551616:=by
 show(if(true&&decide (a%18446744073709551616≥9223372036854775808))=true then a%18446744073709551616-18446744073709551616 else a%18446744073709551616)=_
 by_cases h:9223372036854775808<=a%18446744073709551616
 ·rw[if_pos h,if_pos (by simpa using h)]
 ·rw[if_neg h,if_neg (by simpa using h)]
theorem jZ(a:Int):(IntKind.wrap .i64 a)%18446744073709551616=a%18446744073709551616:=by
 rw[wrap64];split<;>omega
theorem sW{x:Int}(h1: -9223372036854775808<=x)(h2:x<9223372036854775808):IntKind.wrap .i64 x=x:=by
 rw[wrap64];split<;>omega
theorem Zc{a b:Int}(h:a%18446744073709551616=b%18446744073709551616):IntKind.wrap .i64 a=IntKind.wrap .i64 b:=by
 rw[wrap64,wrap64,h]
theorem AgU{x:Int}(h:(Lit.int .i64 x).wf=true): -9223372036854775808<=x/\x<9223372036854775808:=by
 have h':(decide (-9223372036854775808<=x)&&decide (x<=9223372036854775807))=true:=h
 simp at h'
 omega
theorem AaM{F:T AF}{G:AQ}{FS:T SF}(h:KQ F G FS){f:Nat}{af:AF}(hf:T.get F f=some af){a:List V}(m:Nat){t:KV->Prop}(hs:∀callE,Bc (Oj FS m) callE->BI callE->t OX->Gs af G callE a .e 0 OX)(hr:t OX):
 Runs F G f a .e 0 λv _ _=>v=.bool true:=
 Eb (k:=OX) (λ_ _ _ hv=>GZ hv) (EY hf (hs _ (Eo h m) (D8 F G) hr))
theorem ATW{F:T AF}{G:AQ}{FS FT:T SF}(h:KQ F G FS)(h2:KQ F G FT){f:Nat}{af:AF}(hf:T.get F f=some af){a:List V}(m:Nat){t:KV->Prop}
 (hs:∀callE,Bc (Oj FS m) callE->Bc (Oj FT m) callE->BI callE->t OX->Gs af G callE a .e 0 OX) (hr:t OX):Runs F G f a .e 0 λv _ _=>v=.bool true:=
 Eb (k:=OX) (λ_ _ _ hv=>GZ hv) (EY hf (hs _ (Eo h m) (Eo h2 m) (D8 F G) hr))
theorem AeN{P:Program}{w:World}{r:Reach}{base:Nat}{t e:TypeId}{v:Value}(ht:P.underlying t=some (.slice e))(h:Value.okWide P w r base t v):
 v=.slice none 0 0∨∃b o l c,v=.slice (some ⟨b,o,none⟩) l c/\l<=c:=by
 unfold Value.okWide at h
 rw[ht]at h
 have h1:Cell.okWide P w r base t v:=h
 unfold Cell.okWide at h1
 rw[ht]at h1
 have h2:Cell.ok P w r base t v:=by
  cases v<;>exact h1
 unfold Cell.ok at h2
 rw[ht]at h2
 cases v with
 |slice a l c=>
  cases a with
  |none=>
   refine .inl ?_
   match l,c,h2 with
   |0,0,_=>rfl
  |some a=>
   refine .inr ?_
   obtain⟨h3,_,h4⟩:=h2
   obtain⟨b,o,s⟩:=a
   have h5:s=none:=h4.2.1
   subst h5
   exact⟨b,o,l,c,rfl,h3⟩
 |_=>exact(show False from h2).elim
theorem AaY{F:T AF}{G:AQ}{FS FT:T SF}(h:KQ F G FS)(h2:KQ F G FT){f:Nat}{af:AF}(hf:T.get F f=some af){a:List V}(m:Nat){t:Prop}
 (hs:∀callE,Bc (Oj FS m) callE->Bc (Oj FT m) callE->BI callE->t->Gs af G callE a .e 0 OX) (hr:t):Runs F G f a .e 0 λv _ _=>v=.bool true:=
 Eb (k:=OX) (λ_ _ _ hv=>GZ hv) (EY hf (hs _ (Eo h m) (Eo h2 m) (D8 F G) hr))
def AcA(b:Bool)(P:Prop):Prop:=b=true/\P
theorem ANh{e:Option V}{a:V}{P:Prop}(h:AB e λv=>AcA (A8 v a) P):AB e λv=>Bq (A8 v a) P:=by
 cases e with
 |none=>exact h
 |some v=>exact(CO _ _).2 h
def Adi(i:Int)(e:Option V)(P:Prop):Prop:=e=some (.int .i64 i 0)/\P
theorem AL9{i:Int}{e:Option V}{P:Prop}(h:Adi i e P):AB e λv=>v=.int .i64 i 0/\P:=by
 obtain⟨rfl,h⟩:=h;exact⟨rfl,h⟩
theorem NK{call callE:AP}(hle:Bc call callE)(hd:BI callE){f:Nat}{a:List V}{H:Heap}{n:Nat}{P Q:KV}(h:call f a H n P)(hk:∀v H n,P v H n->Q v H n):callE f a H n Q:=
 FK.mono (hd f a H n) (k:=λs=>P s.1 s.2.1 s.2.2) (k':=λs=>Q s.1 s.2.1 s.2.2) (λs hs=>hk _ _ _ hs) (hle _ _ _ _ _ h)
theorem Bc.refl(call:AP):Bc call call:=λ_ _ _ _ _ h=>h
theorem AaW{F:T AF}{G:AQ}{FT:T SF}(h2:KQ F G FT){f:Nat}{af:AF}(hf:T.get F f=some af){a:List V}(m:Nat){t:Prop}
 (hs:Bc (Oj FT m) (Runs F G)->BI (Runs F G)->t->Gs af G (Runs F G) a .e 0 OX) (hr:t):Runs F G f a .e 0 λv _ _=>v=.bool true:=
 Eb (k:=OX) (λ_ _ _ hv=>GZ hv) (EY hf (hs (Eo h2 m) (D8 F G) hr))
end Go.Eng
