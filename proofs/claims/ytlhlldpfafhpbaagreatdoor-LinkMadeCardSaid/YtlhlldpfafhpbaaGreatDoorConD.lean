/- Part of a proof; nothing is assumed. -/
import Derived.Test.YtlhlldpfafhpbaaGreatDoorConC
set_option linter.unusedVariables false
set_option linter.unusedSimpArgs false
namespace Go.RL
open Go.BN
set_option maxRecDepth 100000
structure Mg where
 vp:V
 at':Nat
 vv:V
 names:Nat
 inn:St
def Mg.cells(s:Mg):LV:=[s.vp,iN s.at',s.vv,iN s.names,s.inn.v]
def ints(xs:List Int):Bh:=xs.map λi=>[.int .i64 i 0]
abbrev ANO(xs:List Int):(ints xs).length=xs.length:=uc ..
def AWi(G:AQ)(vp:V):Prop:=∃ps:List Int,(∀H,El G H vp 1 (ints ps))/\ps.length<=200
structure PA(G:AQ)(H:Heap)(gp:Nat)(s:Mg):Prop where
 g:T.get H gp=some (one s.cells)
 pk:AWi G s.vp
structure Fg(gp:Nat)(H:Heap)(n:Nat)(H':Heap)(n':Nat):Prop where
 le:n<=n'
 same:∀id,id<n->id≠gp->T.get H' id=T.get H id
abbrev Fg.refl(gp:Nat)(H:Heap)(n:Nat):Fg gp H n H n:=⟨ea _,λ_ _ _=>rfl⟩
variable{gp:Nat}{H:Heap}{H':Heap}{n:Nat}{n':Nat}{f:Nat}
abbrev Fg.trans{d:Heap}(x:Fg gp H n H' n')(y:Fg gp H' n' d f):Fg gp H n d f:=
 ⟨w_ x.le y.le,λg h i=>(y.same g (b_ h x.le) i).trans (x.same g h i)⟩
abbrev Fg.kp(x:Kp H n H' n'):Fg gp H n H' n':=⟨x.le,λd h _=>x.same d h⟩
variable{id:Nat}
abbrev Fg.get{b:LF}(x:Fg gp H n H' n')(h:T.get H id=some b)(d:id<n)(f:id≠gp):T.get H' id=some b:=(x.same id d f).trans h
def Mg.to(s:Mg)(a:Nat):Mg:={s with at':=a}
abbrev ARe(a b:Int):B2.ev .add (.int .i64 a 0) (.int .i64 b 0)=some (.int .i64 (V9 .i64 (wh a b)) 0):=rfl
variable{m:Nat}
abbrev AJC(z:Int)(d:0<m):B2.ev .rem (.int .i64 z 0) (iN m)=some (.int .i64 (Int.tmod z m) 0):=by
 show Az (band true (band true (Lf (ieq (.ofNat m) 0)))) (mkN .i64 (Int.tmod z (.ofNat m)) 0)=_;have:ieq (.ofNat m) 0=false:=by rw[PD];cases m with|zero=>omega|succ m=>rfl
 rw[this];show S4 (Int.tmod z (.ofNat m)) (λm=>some (.int .i64 m 0))=_;rw[Sx];rfl
abbrev AU0(u:Nat)(g:0<m)(i:u<9223372036854775808):B2.ev .quo (iN u) (iN m)=some (iN (u/m)):=by
 show Az (band true (band true (Lf (ieq (.ofNat m) 0)))) (Zn .i64 (Int.tdiv (.ofNat u) (.ofNat m)) 0)=_;have:ieq (.ofNat m) 0=false:=by rw[PD];cases m with|zero=>omega|succ m=>rfl
 rw[this];show some (V.int .i64 (V9 .i64 (Int.tdiv (.ofNat u) (.ofNat m))) 0)=_;have f:u/m<=u:=Nat.div_le_self ..;rw[show Int.tdiv (.ofNat u) (.ofNat m)=Int.ofNat (u/m)from rfl,NB];generalize u/m=d at f;rw[NX o6 (by simp;omega)]
variable{b:Nat}{L0:LV}{v:V}{P:KV}
abbrev FK{off:Nat}(g:T.get H b=some (one L0))(f:Rb v=true)(i:(At v).length=m)(k:0<m)(p:off+m<=L0.length)
 (h:∀d,T.get d b=some (one (L0.take off++(At v++L0.drop (off+m))))->(∀j,j≠b->T.get d j=T.get H j)->P .undef d n):A1 m (.ptr b off) v H n P:=by rw[ACr g f i k p];exact h _ (T.B4 ..) λj q=>T.Ac _ _ (C_ q)
theorem APJ(z:Int){m:Nat}(f:0<m): -(m:Int)<Int.tmod z m/\Int.tmod z m<m:=by
 have g:=Int.tmod_lt_of_pos z (show(0:Int)<m by omega)
 have d:=Int.tmod_lt_of_pos (-z) (show(0:Int)<m by omega)
 rw[Int.neg_tmod]at d
 omega
abbrev BG(i o:Nat):AV (.ptr i o)=some (.ptr i o):=rfl
variable{nm:St}{r:Nat}
section
variable{G:AQ}{H:Heap}{n gp:Nat}{s:Mg}{k:KV}
abbrev EY(h:PA G H gp s)(u:0<m)(E:m<=1000000)(N:s.at'<1000000000000)
 (A:∀v r a,r<m->a<=s.at'+1->PA G v gp (s.to a)->(∀id,id≠gp->T.get v id=T.get H id)->k (iN r) v n):Runs F G AU [.ptr gp 0,iN m] H n k:=by
 refine go2 (aI Ae G) ?_;delta Qq;have⟨d,B,O⟩:=h.pk;have q0:AM (.ptr gp 0) G H=some s.vp:=AK h.g rfl;have q1:AM (.ptr gp 1) G H=some (iN s.at'):=AK h.g rfl;have f:=(B H).len;rw[ANO]at f;simp only[go_sem,BG,Nat.reduceAdd,q0,f,A9];by_cases C:d.length=0
 .rw[ui C,Ah];exact A H 0 s.at' u (_a _) h λ_ _=>rfl
 .rw[eg C,AZ];have q:0<d.length:=a6;have w:s.at'%d.length<d.length:=W0 _ q;have⟨p,x,y⟩:=(B H).at (i:=s.at'%d.length) (c:=[.int .i64 d[s.at'%d.length] 0]) (by simp[ints,w]);have D:=AJC (s.at':Int) q;rw[show Int.tmod (s.at':Int) (d.length:Int)=Int.ofNat (s.at'%d.length)from rfl]at D;generalize hz:V9 .i64 (wh d[s.at'%d.length] (Int.ofNat (s.at'/d.length)))=z;have P:=APJ z u;obtain⟨r,I⟩:∃r:Nat,Int.tmod z m+m=r:=⟨(Int.tmod z m+m).toNat,a6⟩;have J:B2.ev .add (.int .i64 (Int.tmod z m) 0) (iN m)=some (iN r):=by rw[ARe,cr,NB];have e:Int.tmod z (m:Int)+Int.ofNat m=(r:Int):=I;rw[e,NX a6 a6];rfl
  have q2:B2.ev .rem (iN s.at') (iN d.length)=some (iN (s.at'%d.length)):=D;have q3:AM p G H=some (.int .i64 d[s.at'%d.length] 0):=OE y;have q4:=AU0 s.at' q a6;have q5:=ARe d[s.at'%d.length] (Int.ofNat (s.at'/d.length));rw[hz]at q5;have q6:=CA (i:=s.at') a6;have q7:B2.ev .rem (iN r) (iN m)=some (iN (r%m)):=AJC (r:Int) u;simp only[go_sem,BG,Nat.reduceAdd,q0,q1,f,q2,x,q3,q4,q5,q6,AJC z u,J,q7];refine FK (off:=1) (m:=1) h.g rfl rfl a6 (by show 1+1<=5;omega) λK L M=>?_;refine A K (r%m) (s.at'+1) (W0 _ u) o_ ⟨L,h.pk⟩ M
abbrev xO:LV:=[iN 0,iN 0,iN 0,iN 0,.str 0 0,.str 0 0,.bool false,.AT,.str 0 0,.bool false,.str 0 0]
abbrev fN{kind:Nat}(u:v=.AT∨∃a b c d e,v=.sl a b c d e)(w:∀g i,Kp H n g i->k (.agg (Mb kind 0 nm IY IY (0,0) 0 0 v)) g i):Runs F G Ab [iN kind,nm.v,v] H n k:=by refine xN (tK Ae G) ?_;delta dK;refine Ao rfl λB p x=>?_;refine AB (v:=.agg (Mb kind 0 nm IY IY (0,0) 0 0 v)) (by rcases u with rfl|⟨a,b,c,d,e,rfl⟩<;>rfl) ?_;refine BX x rfl rfl a6 λC y A=>?_;rw[By (m:=11) y a6 rfl];simp only[go_sem];exact w _ _ ⟨p.le,λq f=>(A q a6).trans (p.same q f)⟩
abbrev AQn(q:∀f g,Kp H n f g->k (.agg (Mb 1 r (0,0) IY IY (0,0) 0 0 .AT)) f g):Runs F G K1 [iN r] H n k:=by refine go1 (tQ Ae G) ?_;delta dG;refine Ao rfl λy i u=>?_;refine AB (v:=.agg (Mb 1 r (0,0) IY IY (0,0) 0 0 .AT)) rfl ?_;refine BX u rfl rfl a6 λA w x=>?_;rw[By (m:=11) w a6 rfl];simp only[go_sem];exact q _ _ ⟨i.le,λp d=>(x p a6).trans (i.same p d)⟩
end
abbrev D9(a b:Nat):B2.ev .lss (iN a) (iN b)=some (.bool (decide (a<b))):=ADl ..
abbrev AQ7{e:aAl}{a:V}{P:Prop}(d:P):qf (.bool true) false e a P:=d
abbrev AVV{b:Bool}{e:aAl}{a:V}{P:Prop}(d:P):qf (.CV []) b e a P:=d
abbrev ARH{e:aAl}{a:V}{P:Prop}(d:P):qf (.bool false) true e a P:=d
structure AKN(G:AQ)(H:Heap)(n gp:Nat)(v:V)(Γ:List BU):Prop where
 el:El G H v 3 (Γ.map RR)
 lo:∀id,v.CD=some id->id<n/\id≠gp
 lt:Γ.length<=1000
variable{G:AQ}{Γ:List BU}
abbrev AKN.fg{Γ:aAm}(h:AKN G H n gp v Γ)(f:Fg gp H n H' n'):AKN G H' n' gp v Γ:=
 ⟨h.el.same λg d=>f.same g (h.lo g d).1 (h.lo g d).2,λg d=>⟨b_ (h.lo g d).1 f.le,(h.lo g d).2⟩,h.lt⟩
def Fit(t u:Ty):Prop:=u=t∨t=tA/\u=tB
variable{t:Ty}{u:Ty}
abbrev Fit.rq(h:Fit t u):Rq t u:=by rcases h with rfl|⟨rfl,rfl⟩;exact .same _;exact .ba
def LcJ(G:AQ)(H:Heap)(n gp:Nat)(s:Mg)(Γ:List BU)(t:Ty)(j:Nat)(H':Heap)(n':Nat)(v:V)(xs:List St):Prop:=
 Fg gp H n H' n'/\PA G H' gp s/\T.get H' n=some (one t.cells)/\T.get H' (n+1)=some (one xO)/\n+2<n'/\Sk H' 1 (λid=>n+2<=id/\id<n') v (xs.map λx=>[x.v])/\
  (∀x∈xs,∃f∈Γ,f.nm=x/\Fit t f.ty)/\xs.length<=j
section
variable{G:AQ}{H:Heap}{n gp:Nat}{s:Mg}{Γ:List BU}{k:KV}
theorem APT{t:Ty}(h:PA G H gp s)(hg:gp<n)(X:AKN G H n gp s.vv Γ)(hs:s.at'<1000000000000)
 (d7:∀B K,Fg gp H n B K->PA G B gp s->k (.CV [.agg xO,.bool false]) B K)
 (d8:∀B K f a,f∈Γ->Fit t f.ty->a<=s.at'+1->Fg gp H n B K->PA G B gp (s.to a)->k (.CV [.agg (Mb 6 0 f.nm IY IY (0,0) 0 0 .AT),.bool true]) B K):
 Runs F G PY [.ptr gp 0,t.v] H n k:=by
 refine go2 (YY Ae G) ?_
 delta Pg
 refine BE λH1 f1 g1=>?_
 refine Ao rfl λH2 f2 g2=>?_
 have g1:=f2.get g1 (by omega)
 refine M1 (G:=G) (vs:=[]) rfl (by omega) (λv X=>by cases X) λH3 f3 g3 R=>?_
 have g1:=f3.get g1 (by omega)
 have g2:=f3.get g2 (by omega)
 have d0:Kp H n H3 (n+1+1+1):=(f1.trans f2).trans f3
 have m3:PA G H3 gp s:=⟨d0.get h.g hg,h.pk⟩
 have q2:AM (.ptr gp 2) G H3=some s.vv:=AK m3.g rfl
 have d9:=X.fg (Fg.kp (gp:=gp) d0)
 have hl:=d9.el.len
 rw[List.length_map]at hl
 simp only[go_sem,BG,Nat.reduceAdd,q2,hl]
 obtain⟨t3,g3⟩:=g3
 refine BL (N:=Γ.length) (J:=λj q=>∃B K v C,q=(.ptr gp 0,.ptr n 0,.ptr (n+1) 0,v,s.vv,iN Γ.length,iN j,B,K)/\LcJ G H n gp s Γ t j B K v C) ?_ ?_
  ⟨H3,n+1+1+1,_,[],rfl,Fg.kp d0,m3,g1,g2,by omega,.emp g3 (by omega),λx hx=>(by cases hx),Nat.le_refl _⟩
 ·rintro I j q d1 ⟨H4,L,v,C,rfl,hj⟩ ih
  show C6 lfp G (Runs F G) k I (.ptr gp 0) (.ptr n 0) (.ptr (n+1) 0) v s.vv (iN Γ.length) (iN j) H4 L
  delta C6
  obtain⟨S,m4,b1,b2,f0,U,V,d2⟩:=hj
  have f9:=X.fg S
  obtain⟨p,hp,M⟩:=f9.el.at (i:=j) (c:=RR Γ[j]) (by simp[d1])
  have Y:Γ[j]∈Γ:=List.getElem_mem d1
  generalize Γ[j]=f at M Y
  rw[D9,AJ,decide_eq_true d1,Ah]
  refine AB hp (AB (BZ M) ?_)
  refine Ao rfl λH5 f5 g5=>?_
  refine BX g5 rfl rfl (by omega) λH6 g6 s6=>?_
  have Q:Kp H4 L H6 (L+1):=⟨f5.le,λd u=>(s6 d (by omega)).trans (f5.same d u)⟩
  have b1:=Q.get b1 (by omega)
  have b2:=Q.get b2 (by omega)
  have m6:PA G H6 gp s:=⟨Q.get m4.g (by omega),h.pk⟩
  have qt:∀{B:Heap},T.get B L=some (one (RR f))->AX 2 (.ptr L 1) G B=some f.ty.v:=λg=>BV (off:=1) (m:=2) g (by omega) (by show 3<=3;omega)
  have q1:=qt g6
  have q2:AX 2 (.ptr n 0) G H6=some t.v:=Be b1
  have d4:=S.trans (Fg.kp (gp:=gp) Q)
  have Z:Sk H6 1 (λd=>n+2<=d/\d<L) v (C.map λx=>[x.v]):=U.mono (λ_ h=>h) λd u=>Q.same d u.2
  have d5:∀{y:Heap} {D:Nat},Kp H6 (L+1) y D->Fit t f.ty->AD (AM (.ptr L 0) G y) (λg0=>Au (AY 1 1 [.str 0 0] [(0,.c g0)] E0) y D λg4 H K=>
   Ey 1 16 v g4 G H K λg8 H K=>CH lfp G (Runs F G) k I (.ptr gp 0) (.ptr n 0) (.ptr (n+1) 0) g8 s.vv (iN Γ.length) (iN j) H K):=by
   intro y D w O
   have g7:=w.get g6 (by omega)
   have m7:PA G y gp s:=⟨w.get m6.g (by omega),h.pk⟩
   have YE:=w.le
   refine AB (AK (off:=0) g7 (v:=f.nm.v) rfl) ?_
   have P:Sk y 1 (λd=>n+2<=d/\d<D) v (C.map λx=>[x.v]):=Z.mono (λ_ hh=>⟨hh.1,by omega⟩) λd u=>w.same d (by omega)
   have i5:C.length<=1000:=by have:=X.lt;omega
   refine P.app (m:=0) (bs:=16) (c:=f.nm.v) (λd u=>(P.own u).2) (by omega) rfl rfl (by rw[List.length_map];omega) λv' H8 g9 d3 i4=>?_
   delta CH
   rw[CA (by have:=X.lt;omega),AJ]
   have same:∀d,d<D->v.CD≠some d->T.get H8 d=T.get y d:=d3
   have W:∀d,d<n+2->T.get H8 d=T.get y d:=λd u=>same d (by omega) λe=>by have:=(P.own e).1;omega
   refine ih _ ⟨H8,D+2,v',C++[f.nm],rfl,?_⟩
   refine⟨⟨by have:=S.le;omega,λd u E=>(W d (by omega)).trans ((w.same d (by omega)).trans (d4.same d u E))⟩,⟨(W gp (by omega)).trans m7.g,h.pk⟩,(W n (by omega)).trans (w.get b1 (by omega)),(W (n+1) (by omega)).trans (w.get b2 (by omega)),by omega,?_,?_,by rw[List.length_append];exact Nat.succ_le_succ d2⟩
   ·have:=g9 (λd=>n+2<=d/\d<D+2) ⟨by omega,by omega⟩
    rw[List.map_append];exact this
   ·intro x hx
    rcases List.mem_append.1 hx with hx|hx
    ·exact V x hx
    ·rw[List.mem_singleton.1 hx];exact⟨f,Y,rfl,O⟩
  have no:∀{y:Heap} {D:Nat},Kp H6 (L+1) y D->CH lfp G (Runs F G) k I (.ptr gp 0) (.ptr n 0) (.ptr (n+1) 0) v s.vv (iN Γ.length) (iN j) y D:=by
   intro y D w
   have YE:=w.le
   delta CH
   rw[CA (by have:=X.lt;omega),AJ]
   exact ih _ ⟨y,D,v,C,rfl,d4.trans (Fg.kp w),⟨w.get m6.g (by omega),h.pk⟩,w.get b1 (by omega),w.get b2 (by omega),by omega,Z.mono (λ_ hh=>⟨hh.1,by omega⟩) λd u=>w.same d (by omega),V,Nat.le_succ_of_le d2⟩
  simp only[go_sem,Nat.reduceAdd,q1,q2,UX]
  cases hE:f.ty.is t with
  |true=>
   repeat (first|with_reducible refine QD ?_|with_reducible refine AFB ?_|with_reducible refine AQ7 ?_)
   simp only[go_sem]
   refine AVV ?_
   exact d5 (Kp.refl _ _) (.inl (Ty.jF.1 hE))
  |false=>
   refine S9 rfl (AFl ?_)
   refine U0 λy D w=>?_
   have i0:=w.get b1 (by omega)
   refine AOP (Be i0) (FH t) ?_
   refine S9 (UX t tA) (S9 rfl ?_)
   cases hA:t.is tA with
   |false=>
    repeat (first|with_reducible refine Wq ?_|with_reducible refine jL ?_|with_reducible refine ARH ?_)
    simp only[go_sem]
    exact no w
   |true=>
    have d6:=w.get g6 (by omega)
    refine MT rfl (MT (qt d6) (wi ?_))
    refine U0 λH8 n8 f8=>?_
    have i1:=f8.get d6 (by have:=w.le;omega)
    refine AWr (qt i1) (FH _) ?_
    refine MT (UX f.ty tB) ?_
    refine S9 (xK ..) (AB (xK ..) ?_)
    cases hB:f.ty.is tB with
    |true=>show AS (.bool true) _ _;rw[Ah];exact d5 (w.trans f8) (.inr ⟨Ty.jF.1 hA,Ty.jF.1 hB⟩)
    |false=>show AS (.bool false) _ _;rw[AZ];exact no (w.trans f8)
 ·rintro I q ⟨H4,L,v,C,rfl,hj⟩
  show C6 lfp G (Runs F G) k I (.ptr gp 0) (.ptr n 0) (.ptr (n+1) 0) v s.vv (iN Γ.length) (iN Γ.length) H4 L
  delta C6
  rw[D9,AJ,decide_eq_false (Nat.lt_irrefl _),AZ]
  delta HE
  obtain⟨S,m4,b1,b2,f0,U,V,d2⟩:=hj
  have R:=U.el (G:=G) (by omega)
  refine AB R.len (AB (A9 ..) ?_)
  rw[List.length_map]
  cases C with
  |nil=>
   rw[show decide (([]:List St).length=0)=true from rfl,Ah]
   refine AB (v:=.agg xO) rfl ?_
   refine BX b2 rfl rfl (by omega) λH5 g5 s5=>?_
   rw[By (m:=11) g5 (by omega) rfl]
   simp only[go_sem]
   have f5:Fg gp H n H5 L:=⟨S.le,λd u E=>(s5 d (by omega)).trans (S.same d u E)⟩
   exact d7 _ _ f5 ⟨(s5 gp (by omega)).trans m4.g,h.pk⟩
  |cons x C=>
   rw[decide_eq_false (by simp),AZ]
   refine AB R.len ?_
   rw[List.length_map]
   have i6:(x::C).length<=1000:=by have:=X.lt;omega
   refine EY m4 (by simp) (by omega) hs λH5 r a hr ha m5 A=>?_
   have i2:El G H5 v 1 ((x::C).map λx=>[x.v]):=R.same λd u=>A d λe=>by have:=(U.own u).1;omega
   obtain⟨p,hp,M⟩:=i2.at (i:=r) (c:=[(x::C)[r].v]) (by rw[List.getElem?_map,List.getElem?_eq_getElem hr];rfl)
   obtain⟨f,hf,i3,O⟩:=V _ (List.getElem_mem hr)
   rw[<-i3]at M
   refine AB hp (AB (OE M) ?_)
   refine fN (nm:=f.nm) (.inl rfl) λH6 n6 Q=>?_
   have b5:T.get H5 (n+1)=some (one xO):=(A _ (by omega)).trans b2
   have b6:=Q.get b5 (by omega)
   refine BX b6 rfl rfl (by omega) λy g7 s7=>?_
   rw[By (m:=11) g7 (by omega) rfl]
   simp only[go_sem]
   have m6:PA G y gp (s.to a):=⟨(s7 gp (by omega)).trans (Q.get m5.g (by omega)),h.pk⟩
   have w:Fg gp H n y n6:=⟨Nat.le_trans S.le Q.le,λd u E=>(s7 d (by omega)).trans ((Q.same d (Nat.lt_of_lt_of_le u S.le)).trans ((A d E).trans (S.same d u E)))⟩
   exact d8 _ _ f a hf O ha w m6
end
def Rg(a b:Nat):Nat->Prop:=λid=>a<=id/\id<b
structure Vr(inn:St)(Γ:List BU)(e:Te)(t:Ty):Prop where
 ex:∃u,Rq t u/\Gd inn Γ e u/\(e.kind≠4->u≠Ec)
variable{e:Te}
abbrev Vr.of{inn:St}{Γ:aAm}(d:Rq t u)(h:Gd inn Γ e u)(f:u≠Ec):Vr inn Γ e t:=⟨u,d,h,λ_=>f⟩
structure Mk(G:AQ)(H:Heap)(n gp:Nat)(s:Mg)(Γ:List BU):Prop where
 m:PA G H gp s
 g:gp<n
 v:AKN G H n gp s.vv Γ
 UZ:Zf Γ s.names
 inn:s.inn=(0,0)∨s.inn=nA∨s.inn=nB
variable{a:Nat}{s:Mg}
abbrev Mk.fg{Γ:aAm}(h:Mk G H n gp s Γ)(f:Fg gp H n H' n')(m:PA G H' gp (s.to a)):Mk G H' n' gp (s.to a) Γ:=
 ⟨m,b_ h.g f.le,h.v.fg f,h.UZ,h.inn⟩
abbrev Mk.kp{Γ:aAm}(h:Mk G H n gp s Γ)(f:Kp H n H' n'):Mk G H' n' gp s Γ:=
 ⟨⟨f.get h.m.g h.g,h.m.pk⟩,b_ h.g f.le,h.v.fg (.kp f),h.UZ,h.inn⟩
def EPost(G:AQ)(H:Heap)(n gp:Nat)(s:Mg)(Γ:aAm)(t:Ty)(c:Nat)(k:KV):Prop:=
 ∀H' n' a l e,Fg gp H n H' n'->PA G H' gp (s.to a)->a<=s.at'+c->C3 G H' (Rg n n') l e->Vr s.inn Γ e t->11*e.cz<=2*c+4->k (.agg l) H' n'
def cst:Nat->Nat
 |0=>10
 |d+1=>10+3*cst d
abbrev jh:∀d,cst d=10∨40<=cst d
 |0=>.inl rfl
 |d+1=>.inr (by have:=jh d;show 40<=10+3*cst d;omega)
def am(G:AQ)(gp d:Nat):Prop:=∀(t:Ty) (H:Heap) (n:Nat) (s:Mg) (Γ:aAm) (k:KV),GW t->Mk G H n gp s Γ->s.at'+cst d+2<1000000000000->EPost G H n gp s Γ t (cst d) k->Runs F G Aa [.ptr gp 0,t.v,iN d] H n k
variable{l:LV}
abbrev C3.fg(h:C3 G H (Rg a b) l e)(i:gp<a)(f:Fg gp H b H' n'):C3 G H' (Rg a n') l e:=
 h.mono (λg d=>⟨d.1,b_ d.2 f.le⟩) λg d=>f.same g d.2 λe=>hN d.1
abbrev C3.kp'(h:C3 G H (Rg a b) l e)(f:Kp H b H' n'):C3 G H' (Rg a n') l e:=
 h.mono (λg d=>⟨d.1,b_ d.2 f.le⟩) λg d=>f.same g d.2
variable{k:KV}
section
variable{G:AQ}{H:Heap}{n a:Nat}{P:KV}{Z:LV}
abbrev RD(h:C3 G H (Rg a n) l e)(m:a<=n)(p:∀d,Kp H n d (n+1)->Kt G d (Rg a (n+1)) (.sl n 0 1 1 11) [e]->P (.sl n 0 1 1 11) d (n+1)):Au (AY 11 1 Z [(0,.c (.agg l))] E0) H n P:=by refine M1 (G:=G) (vs:=[.agg l]) rfl a6 (λv k=>by simp at k;subst k;exact⟨rfl,h.len⟩) λd f _ g=>?_;refine p d f ⟨[l],g,AA5 o_,rfl,rfl,λq i=>by cases i;exact⟨m,_p _⟩,.cons (h.kp' f) .nil⟩
abbrev ZI{g i:LV}{p q:Te}(u:C3 G H (Rg a n) g p)(w:C3 G H (Rg a n) i q)(y:a<=n)(A:∀d,Kp H n d (n+1)->Kt G d (Rg a (n+1)) (.sl n 0 2 2 11) [p,q]->P (.sl n 0 2 2 11) d (n+1)):Au (AY 11 2 Z [(0,.c (.agg g)),(1,.c (.agg i))] E0) H n P:=by refine M1 (G:=G) (vs:=[.agg g,.agg i]) rfl a6 (λv x=>by simp at x;rcases x with rfl|rfl;exact⟨rfl,u.len⟩;exact⟨rfl,w.len⟩) λd f _ k=>?_;refine A d f ⟨[g,i],k,AA5 o_,rfl,rfl,λB m=>by cases m;exact⟨y,_p _⟩,.cons (u.kp' f) (.cons (w.kp' f) .nil)⟩
abbrev SA{kind:Nat}{es:aAq}(h:Kt G H (Rg a n) (.sl id 0 m m 11) es)(p:∀g i l,Kp H n g i->C3 G g (Rg a i) l (.mk kind 0 nm IY IY (0,0) es)->k (.agg l) g i):
 Runs F G Ab [iN kind,nm.v,.sl id 0 m m 11] H n k:=
 fN (.inr ⟨_,_,_,_,_,rfl⟩) λg i f=>p g i _ f (C3.of (h.mono (λid d=>⟨d.1,b_ d.2 f.le⟩) λid d=>f.same id d.2))
abbrev AG2{kind:Nat}(i:∀d g l,Kp H n d g->C3 G d (Rg a g) l (.mk kind 0 nm IY IY (0,0) [])->k (.agg l) d g):Runs F G Ab [iN kind,nm.v,.AT] H n k:=
 fN (.inl rfl) λd g f=>i d g _ f (C3.of .nil)
abbrev xn(p:T.get H b=some (one L0))(q:L0.length=11)(f:C3 G H (Rg a n) l e)(u:b<a)(v:∀d,(∀id,id≠b->T.get d id=T.get H id)->C3 G d (Rg a n) l e->k (.agg l) d n):
 A1 11 (.ptr b 0) (.agg l) H n λ_ H n=>CR (Ay [.cn (.ptr b 0) 11] G H) λl=>k (Bb l) H n:=by refine BX p q f.len a6 λd g s=>?_;rw[By (m:=11) g a6 f.len];simp only[go_sem];exact v d s (f.mono (λ_ h=>h) λid i=>s id λe=>hN i.1)
end
abbrev C3.kd{A:Nat->Prop}{c:LV}(h:C3 G H A c e):c[0]? =some (iN e.kind):=by cases h;rfl
variable{cl:St}
abbrev AWN(f:cl=nA∨cl=nB)(r:Rq ⟨cl,false⟩ u)(d:u≠Ec):(u=tA∨u=tB)/\(cl=nB->u=tB):=by
 rcases f with rfl|rfl
 .have key:∀t,Rq t u->t=tA->u=tA∨u=tB:=by
   intro t r g;cases r with
   |same=>exact .inl g
   |ba=>exact .inr rfl
   |na=>exact absurd rfl d
   |nb=>exact absurd rfl d
  exact⟨key _ r rfl,λh=>by cases h⟩
 .have key:∀t,Rq t u->t=tB->u=tB:=by
   intro t r g;cases r with
   |same=>exact g
   |ba=>rfl
   |na=>exact absurd rfl d
   |nb=>exact absurd rfl d
  exact⟨.inr (key _ r rfl),λ_=>key _ r rfl⟩
variable{c:Nat}{d:Nat}
section
variable{G:AQ}{H:Heap}{n gp:Nat}{s:Mg}{Γ:List BU}{k:KV}
abbrev AIr(i:T.get H b=some (one L0))(p:L0.length=11)(q:T.get H c=some (one l))(g:C3 G H (Rg a n) l e)(d:b<a)(u:∀f,(∀id,id≠b->T.get f id=T.get H id)->C3 G f (Rg a n) l e->k (.agg l) f n):
 Da lfp G (Runs F G) k (.ptr b 0) (.ptr c 0) H n:=by delta Da;refine AB (As (m:=11) q a6 g.len) ?_;exact xn i p g d u
abbrev iZ(hE:am G gp d)(w:cl=nA∨cl=nB)(h:Mk G H n gp s Γ)(hs:s.at'+cst d+2<1000000000000)
 (W:∀I K a l e u,Fg gp H n I K->PA G I gp (s.to a)->a<=s.at'+cst d->C3 G I (Rg n K) l e->Gd s.inn Γ e u->(u=tA∨u=tB)->(cl=nB->u=tB)->11*e.cz<=2*cst d+4->k (.agg l) I K):
 Runs F G A2 [.ptr gp 0,cl.v,iN d] H n k:=by
 refine xN (Zq Ae G) ?_;delta RJ;have d0:=h.g;refine Ao rfl λH1 f1 g1=>?_;refine U0 (l:=cl.1) (c:=cl.2) λH2 L M=>?_;have C:=f1.trans M;have d1:=M.le;have Tr:GW ⟨cl,false⟩:=by rcases w with rfl|rfl;exact .inr (.inr (.inl rfl));exact .inr (.inr (.inr (.inl rfl)))
 refine hE ⟨cl,false⟩ H2 L s Γ _ Tr (h.kp C) hs λH3 B a l e f3 X Y N O hz=>?_;have d2:=f3.le;have g3:=f3.get (M.get g1 a6) a6 a6;refine Ao rfl λH4 Z g4=>?_;refine BX g4 rfl N.len a6 λD P s5=>?_;have x:Kp H3 B D (B+1):=⟨Z.le,λi f=>(s5 i a6).trans (Z.same i f)⟩;have E:=x.get g3 a6;have rp:C3 G D (Rg L (B+1)) l e:=N.kp' x;have J:PA G D gp (s.to a):=⟨x.get X.g a6,X.pk⟩;have f5:Fg gp H n D (B+1):=((Fg.kp C).trans f3).trans (.kp x);rw[CZ,AJ];refine AB (AK (off:=0) P rp.kd) (AB (A9 ..) ?_);cases Q:decide (e.kind=4)with
 |true=>
  rw[Ah];refine fN (kind:=10) (nm:=(0,0)) (.inl rfl) λH6 n6 R=>?_;have d3:=R.le;have S:=R.get P a6;refine BX S N.len rfl a6 λH7 g7 s7=>?_;refine U0 (l:=cl.1) (c:=cl.2) λH8 n8 U=>?_;have d4:=U.le;have g8:=U.get g7 a6;rw[AP,AJ];refine FK (off:=0+5) (m:=2) (v:=Ty.v ⟨cl,false⟩) g8 rfl rfl a6 (by show 0+5+2<=11;omega) λH9 g9 s9=>?_;have same:∀i,i<B->T.get H9 i=T.get D i:=λi f=>(s9 i a6).trans ((U.same i a6).trans ((s7 i a6).trans (R.same i a6)));refine AIr (a:=n+1) (b:=n) (L0:=xO) (e:=.mk 10 0 (0,0) ⟨cl,false⟩ IY (0,0) []) ((same n a6).trans E) rfl g9 (C3.of .nil) (_p _) λy p q=>?_;refine W y n8 a _ _ ⟨cl,false⟩ ?_ ?_ Y (q.mono (λi f=>⟨hN f.1,f.2⟩) λ_ _=>rfl) (Gd.new (by rcases w with rfl|rfl;exact .inl rfl;exact .inr rfl)) (by rcases w with rfl|rfl;exact .inl rfl;exact .inr rfl) (λe=>by rw[e];rfl) (by have:=jh d;simp[Te.cz,OG,pZ];omega)
  .exact⟨a6,λi f A=>(p i a6).trans ((same i a6).trans (f5.same i f A))⟩
  .exact⟨(p gp a6).trans ((same gp a6).trans J.g),J.pk⟩
 |false=>
  rw[AZ];refine AIr (a:=L) (b:=n) (L0:=xO) E rfl P rp a6 λy p q=>?_;have⟨u,r,hu,V⟩:=O.ex;have⟨q1,q2⟩:=AWN w r (V (_w Q));refine W y (B+1) a _ _ u ?_ ⟨(p gp a6).trans J.g,J.pk⟩ Y (q.mono (λi f=>⟨hN f.1,f.2⟩) λ_ _=>rfl) hu q1 q2 hz;exact⟨a6,λi f A=>(p i a6).trans (f5.same i f A)⟩
end
abbrev rH(h:t.nm≠u.nm):t≠u:=λe=>h (congrArg Ty.nm e)
abbrev int_ne:BY≠Ec:=rH a_
abbrev U9:A3≠Ec:=rH a_
abbrev ANl:wN≠Ec:=rH a_
abbrev AJm:tA≠Ec:=rH a_
abbrev AKY:tB≠Ec:=rH a_
abbrev Rq.ALm(r:Rq t u)(d:t≠tA)(f:t≠tB):u=t:=by
 cases r with
 |same=>rfl
 |ba=>exact absurd rfl d
 |na=>exact absurd rfl d
 |nb=>exact absurd rfl f
abbrev Vr.ALm{inn:St}{Γ:aAm}(h:Vr inn Γ e t)(d:t≠tA)(f:t≠tB):Gd inn Γ e t:=by have⟨u,r,g,_⟩:=h.ex;rw[<-r.ALm d f];exact g
abbrev Vr.int{inn:St}{Γ:aAm}(h:Vr inn Γ e BY):Gd inn Γ e BY:=h.ALm (rH a_) (rH a_)
abbrev Vr.bool{inn:St}{Γ:aAm}(h:Vr inn Γ e A3):Gd inn Γ e A3:=h.ALm (rH a_) (rH a_)
abbrev Vr.is{inn:St}{Γ:aAm}(h:Vr inn Γ e wN):Gd inn Γ e wN:=h.ALm (λe=>by have:=congrArg Ty.arr e;cases this) (λe=>by have:=congrArg Ty.arr e;cases this)
abbrev sW{a b:V}{call:Am}:DN (.fn f [] [a,b]) [] call H n k=call f [a,b] H n k:=rfl
abbrev Yz{a b x:V}{call:Am}:DN (.fn f [] [a,b]) [x] call H n k=call f [x,a,b] H n k:=rfl
structure Bx(H:Heap)(n b gp d:Nat):Prop where
 b1:T.get H b=some (one [.ptr gp 0])
 b2:T.get H (b+1)=some (one [iN (d+1)])
 b3:T.get H (b+2)=some (one xO)
 le:b+3<=n
 g:gp<b
abbrev Bx.fg(h:Bx H n b gp d)(f:Fg gp H n H' n'):Bx H' n' b gp d:=by have:=h.le;have:=h.g;exact⟨f.get h.b1 a6 a6,f.get h.b2 a6 a6,f.get h.b3 a6 a6,w_ h.le f.le,h.g⟩
abbrev Bx.same(h:Bx H n b gp d)(i:n<=n')(f:∀id,b<=id->id<b+3->T.get H' id=T.get H id):Bx H' n' b gp d:=
 ⟨(f b a6 a6).trans h.b1,(f (b+1) a6 a6).trans h.b2,(f (b+2) a6 a6).trans h.b3,w_ h.le i,h.g⟩
abbrev Bx.kp(h:Bx H n b gp d)(f:Kp H n H' n'):Bx H' n' b gp d:=h.fg (.kp f)
abbrev AFk(i o:Nat):Ak (.ptr i o) (.ptr i o)=true:=by show band (Nat.beq i i) (Nat.beq o o)=true;rw[Bq,Bq];rfl
abbrev AEk(q:IntKind)(a:Int):Ak (.int q a 0) (.int q a 0)=true:=ABx q a
abbrev zQ(d:Nat)(f:d<1000):B2.ev .sub (iN (d+1)) (iN 1)=some (iN d):=zF (a:=d+1) (b:=1) a6 a6
variable{ws:List St}
section
variable{G:AQ}{H:Heap}{n gp d b:Nat}{s:Mg}{Γ:List BU}{k:KV}
abbrev oc(q:∀f g,Kp H n f g->k wN.v f g):Runs F G Cm [] H n k:=by refine go0 (qP Ae G) ?_;delta aE;refine Ao rfl λy i u=>?_;refine AB (v:=wN.v) rfl ?_;refine BX u rfl rfl a6 λA w x=>?_;rw[By (m:=2) w a6 rfl];simp only[go_sem];exact q _ _ ⟨i.le,λp d=>(x p a6).trans (i.same p d)⟩
abbrev ul(C:am G gp d)(D:d<1000)(h:Mk G H n gp s Γ)(E:Bx H n b gp d)(I:s.at'+cst d+2<1000000000000)(J:EPost G H n gp s Γ BY (cst d) k):Runs F G Cn [.ptr b 0,.ptr (b+1) 0] H n k:=by refine go2 (Yh Ae G) ?_;delta Pf;have K:=h.g;refine Ao rfl λW y L=>?_;have i:=E.kp y;refine AB (AK (off:=0) i.b1 rfl) (AB (AK (off:=0) i.b2 rfl) ?_);rw[zQ d D,AJ];refine Hg λM N q=>?_;have O:=q.le;have m:=i.kp q;refine AB (AK (off:=0) m.b1 rfl) (Ba (AFk ..) (AB (AK (off:=0) m.b2 rfl) (Ba (AEk ..) ?_)));have p:=y.trans q;refine C BY M N s Γ _ (.inl rfl) (h.kp p) I λX P a l e f3 A Q R u S=>?_;have T:=f3.le;have U:=f3.get (q.get L a6) a6 a6;refine xn U rfl R a6 λV B v=>?_;refine J V P a l e ?_ ⟨(B gp a6).trans A.g,A.pk⟩ Q (v.mono (λw f=>⟨hN f.1,f.2⟩) λ_ _=>rfl) u S;exact⟨a6,λw f x=>(B w a6).trans (((Fg.kp p).trans f3).same w f x)⟩
abbrev tV{vs:aAo}(i:vs.length=m)(k:∀v∈vs,Rb v=true/\(At v).length=1)(p:∀d,Kp H n d (n+1)->El G d (.sl n 0 m m 1) 1 (vs.map At)->P (.sl n 0 m m 1) d (n+1)):Au (AY 1 m [.str 0 0] (ACT 0 vs) E0) H n P:=
 M1 (G:=G) i a6 k λd f _ g=>p d f g
def W1(G:AQ)(H:Heap)(v:V)(ws:List St):Prop:=El G H v 1 (ws.map λx=>[x.v])
theorem W1.at{G:AQ}{H:Heap}{v:V}{ws:List St}(h:W1 G H v ws){r:Nat}(f:r<ws.length):∃p,Ai 1 v (iN r)=some p/\AM p G H=some (ws[r].v):=by
 obtain⟨p,g,d⟩:=El.at h (i:=r) (c:=[ws[r].v]) (by rw[List.getElem?_map,List.getElem?_eq_getElem f];rfl)
 exact⟨p,g,OE d⟩
theorem W1.again{G:AQ}{H':Heap}{v p:V}{ws:List St}(f:W1 G H' v ws){r:Nat}(g:r<ws.length)(i:Ai 1 v (iN r)=some p):AM p G H'=some (ws[r].v):=by
 obtain⟨m,d,k⟩:=f.at g
 rw[i]at d;cases d;exact k
theorem W1.fg{G:AQ}{H H':Heap}{n n' gp id m:Nat}{ws:List St}(h:W1 G H (.sl id 0 m m 1) ws)(f:Fg gp H n H' n')(d:id<n)(g:id≠gp):W1 G H' (.sl id 0 m m 1) ws:=
 El.same h λj i=>by cases i;exact f.same id d g
abbrev AAR(x:St):Ak x.v x.v=true:=xf ..
abbrev Xq{a0 n0:Nat}{H0:Heap}(y:EPost G H0 n0 gp s Γ t c k)(w:Bx H n b gp d)(A:n0<=b)(f:Fg gp H0 n0 H n)(m:PA G H gp (s.to a))(B:a<=s.at'+c)(p:b+2<a0)
 (C:C3 G H (Rg a0 n) l e) (D:Vr s.inn Γ e t) (E:gp<n0) (F:11*e.cz<=2*c+4:=by first|omega|(simp[Te.cz,OG,pZ]<;>omega)):A1 11 (.ptr (b+2) 0) (.agg l) H n λ_ H n=>CR (Ay [.cn (.ptr (b+2) 0) 11] G H) λl=>k (Bb l) H n:=by have:=w.g;refine xn w.b3 rfl C p λI x q=>?_;refine y I n a l e ⟨f.le,λu i v=>(x u a6).trans (f.same u i v)⟩ ⟨(x gp a6).trans m.g,m.pk⟩ B (q.mono (λu i=>⟨hN i.1,i.2⟩) λ_ _=>rfl) D F
end
abbrev yE(d:Nat):B2.ev .leq (iN d) (iN 0)=some (.bool (decide (d<=0))):=ANL ..
def ws2:List St:=[nA,nB]
def ops5:List St:=[ABJ,ABp,ABD,ABR,AA3]
section
variable{G:AQ}{H:Heap}{n gp d:Nat}{s:Mg}{Γ:List BU}{k:KV}
abbrev ASE(h:Mk G H n gp s Γ)(O:s.at'<1000000000000-10)(C:EPost G H n gp s Γ BY (cst 0-2) k):Runs F G Ce [.ptr gp 0,iN 0] H n k:=by refine go2 (RG Ae G) ?_;delta Lz;have D:=h.g;refine BE λP E q=>?_;refine BE λQ x u=>?_;refine Ao rfl λR f3 I=>?_;have q:=f3.get (x.get q a6) a6;have u:=f3.get u a6;have f:=(E.trans x).trans f3;refine AB (AK (off:=0) u rfl) (AB (yE 0) ?_);rw[ui (ea 0),Ah];refine AB (AK (off:=0) q rfl) ?_;have J:=h.kp f;refine EY J.m a6 a6 a6 λS r a T U y A=>?_;refine AQn λV K p=>?_;have L:=p.le;have M:=p.get ((A (n+1+1) a6).trans I) a6;refine xn (a:=n+1+1+1) (e:=.mk 1 r (0,0) IY IY (0,0) []) M rfl (C3.of .nil) a6 λN B v=>?_;refine C N K a _ _ ⟨a6,λi d w=>(B i a6).trans ((p.same i a6).trans ((A i w).trans (f.same i d)))⟩ ⟨(B gp a6).trans (p.get y.g a6),y.pk⟩ (by unfold cst;omega) (v.mono (λi d=>⟨hN d.1,d.2⟩) λ_ _=>rfl) ⟨BY,.same _,Gd.num,λ_=>int_ne⟩ (by simp[Te.cz,OG,pZ,cst])
abbrev AU2(hE:am G gp d)(hd:d<1000)(h:Mk G H n gp s Γ)(hs:s.at'+cst (d+1)<1000000000000)(hk:EPost G H n gp s Γ BY (cst (d+1)-2) k):Runs F G Ce [.ptr gp 0,iN (d+1)] H n k:=by
 refine go2 (RG Ae G) ?_;delta Lz;have Q:=h.g;have hc:cst (d+1)=10+3*cst d:=rfl;have q4:=jh d;refine BE λH1 f1 g1=>?_;refine BE λH2 f2 g2=>?_;refine Ao rfl λH3 f3 g3=>?_;have bx:Bx H3 (n+1+1+1) n gp d:=⟨f3.get (f2.get g1 a6) a6,f3.get g2 a6,g3,a6,Q⟩;have f0:=(f1.trans f2).trans f3;have mk:=h.kp f0;have m2:=Fg.kp (gp:=gp) f0;clear f1 f2 f3 g1 g2 g3 f0;generalize hn3:n+1+1+1=n3 at*;have q5:=bx.le;refine AB (AK (off:=0) bx.b2 rfl) (AB (yE (d+1)) ?_);rw[eg a6,AZ];refine AB (AK (off:=0) bx.b1 rfl) ?_;refine EY mk.m a6 a6 a6 λH4 r R hr q6 m4 s4=>?_;have f4:Fg gp H3 n3 H4 n3:=⟨ea _,λi _ K=>s4 i K⟩;have U:=m2.trans f4;have y:=bx.fg f4;have M:=mk.fg f4 m4;refine AB (A9 ..) ?_;cases h0:decide (r=0)with
 |true=>
  rw[Ah];refine AB (AK (off:=0) y.b1 rfl) (AB (AK (off:=0) y.b2 rfl) ?_);rw[zQ d hd,AJ];refine iZ (cl:=nA) hE (.inl rfl) M (by show R+cst d+2<_;omega) λH5 n5 E l e u C m5 w he hu i1 _ hz=>?_;have g0:=C.le;refine RD he g0 λH6 A D=>?_;refine SA (nm:=pu) (es:=[e]) D λH7 n7 l7 L i2=>?_;have i3:=A.trans L;refine Xq hk ((y.fg C).kp i3) o_ ((U.trans C).trans (.kp i3)) ⟨i3.get m5.g a6,m5.pk⟩ (a:=E) (by have:E<=R+cst d:=w;omega) a6 i2 (.of (.same _) (Gd.get hu i1 rfl a_) int_ne) Q
 |false=>
 rw[AZ];refine AB (A9 ..) ?_;cases h1:decide (r=1)with
 |true=>
  rw[Ah];refine AB (AK (off:=0) y.b1 rfl) (AB (AK (off:=0) y.b2 rfl) ?_);rw[zQ d hd,AJ];refine iZ (cl:=nA) hE (.inl rfl) M (by show R+cst d+2<_;omega) λH5 n5 E l e u C m5 w he hu i1 _ hz=>?_;have g0:=C.le;have w:E<=R+cst d:=w;have V:=M.fg C m5;have S:=y.fg C;rw[sW];refine ul hE hd V S (by show E+cst d+2<_;omega) λH6 n6 W l2 e2 A m6 PW X Y hz=>?_;have d1:=A.le;have PW:W<=E+cst d:=PW;have m3:=he.fg a6 A;have I:C3 G H6 (Rg n3 n6) l2 e2:=X.mono (λi f=>⟨hN f.1,f.2⟩) λ_ _=>rfl;refine ZI m3 I a6 λH7 L D=>?_;refine SA (nm:=VR) (es:=[e,e2]) D λH8 n8 l8 N d5=>?_;have i4:=L.trans N;refine Xq hk ((S.fg A).kp i4) o_ (((U.trans C).trans A).trans (.kp i4)) ⟨i4.get m6.g a6,m6.pk⟩ (a:=W) a6 a6 d5 (.of (.same _) (Gd.AV5 hu i1 Y.int) int_ne) Q
 |false=>
 rw[AZ];refine AB (A9 ..) ?_;cases h2:decide (r=2)with
 |true=>
  rw[Ah];refine AB (AK (off:=0) y.b1 rfl) (AB (AK (off:=0) y.b2 rfl) ?_);rw[zQ d hd,AJ];refine Ao rfl λH5 C g5=>?_;have S:=y.kp C;have V:=M.kp C;rw[sW];refine ul hE hd V S (by show R+cst d+2<_;omega) λH6 n6 E l e A m6 w he i5 hz=>?_;have d1:=A.le;have w:E<=R+cst d:=w;have O:=S.fg A;have d2:=V.fg A m6;have g6:=A.get g5 a6 a6;refine AB (AK (off:=0) O.b1 rfl) (Ba (AFk ..) (AB (AK (off:=0) O.b2 rfl) (Ba (AEk ..) ?_)));refine U0 (l:=1) (c:=65) λH7 n7 L=>?_;have YE:=L.le;have d3:=O.kp L;refine AB (AK (off:=0) d3.b1 rfl) (Ba (AFk ..) (AB (AK (off:=0) d3.b2 rfl) (Ba (AEk ..) ?_)));refine hE tA H7 n7 (s.to E) Γ _ (.inr (.inr (.inl rfl))) (d2.kp L) (by show E+cst d+2<_;omega) λH8 n8 W l2 e2 N m8 PW X Y hz=>?_;have m9:=N.le;have PW:W<=E+cst d:=PW;have g8:=N.get (L.get g6 a6) a6 a6;have d5:=(he.kp' L).fg a6 N;have I:C3 G H8 (Rg (n3+1) n8) l2 e2:=X.mono (λi f=>⟨hN f.1,f.2⟩) λ_ _=>rfl;refine ZI d5 I a6 λH9 f9 D=>?_;refine fN (kind:=9) (nm:=fJ) (.inr ⟨_,_,_,_,_,rfl⟩) λk1 Z d4=>?_;have q2:=d4.le;have i6:=D.mono (B:=Rg (n3+1) Z) (H':=k1) (λi f=>⟨f.1,hN f.2⟩) λi f=>d4.same i f.2;have p0:=d4.get (f9.get g8 a6) a6;refine BX p0 rfl rfl a6 λg4 p1 k2=>?_;have P:∀i,i<n8->i≠n3->T.get g4 i=T.get H8 i:=λi f e=>(k2 i e).trans ((d4.same i a6).trans (f9.same i a6));have k3:Bx g4 Z n gp d:=(d3.fg N).same a6 λi _ f=>P i a6 a6;have k4:PA G g4 gp (s.to W):=⟨(P gp a6 a6).trans m8.g,m8.pk⟩;refine tV (G:=G) (vs:=ws2.map St.v) rfl (λv hv=>by obtain⟨x,_,rfl⟩:=_c.1 hv;exact⟨rfl,rfl⟩) λi7 g7 hw=>?_;have hw:W1 G i7 (.sl Z 0 2 2 1) ws2:=hw;have i0:=k3.kp g7;refine AB (AK (off:=0) i0.b1 rfl) ?_;have p2:PA G i7 gp (s.to W):=⟨g7.get k4.g a6,k4.pk⟩;refine EY p2 a6 a6 (by show W<_;omega) λp3 q a4 hq ji k5 p4=>?_;have ji:a4<=W+1:=ji;have g9:Fg gp i7 (Z+1) p3 (Z+1):=⟨ea _,λi _ K=>p4 i K⟩;have k6:=hw.fg g9 a6 a6;have⟨p,hp,i8⟩:=k6.at hq;refine AB hp (AB i8 ?_);refine U0 (l:=ws2[q].1) (c:=ws2[q].2) λq7 k7 d6=>?_;have q3:=d6.le;have p5:=d6.get (g9.get (g7.get p1 a6) a6 a6) a6;rw[AP,AJ];refine FK (off:=0+5) (m:=2) (v:=Ty.v ⟨ws2[q],false⟩) p5 rfl rfl a6 (by show 0+5+2<=11;omega) λk8 p6 i9=>?_;refine AB (As (m:=11) p6 a6 rfl) ?_;have d0:∀i,i<Z->i≠n3->i≠gp->T.get k8 i=T.get g4 i:=λi f e K=>(i9 i e).trans ((d6.same i a6).trans ((g9.same i a6 K).trans (g7.same i f)));have k0:=i6.mono (B:=Rg (n3+1) k7) (H':=k8) (λi f=>⟨f.1,hN f.2⟩) λi f=>(d0 i (hN f.2) (hN f.1) (hN f.1)).trans (k2 i (hN f.1));have p7:({nm:=ws2[q],arr:=false}:Ty)=tA∨({nm:=ws2[q],arr:=false}:Ty)=tB:=by
   match q,hq with
   |0,_=>exact .inl rfl
   |1,_=>exact .inr rfl
  have⟨u,p8,p9,_⟩:=Y.ex;refine Xq (a:=a4) (a0:=n3+1) (e:=.mk 9 0 fJ ⟨ws2[q],false⟩ IY (0,0) [e,e2]) hk (i0.same (n':=k7) a6 λi _ f=>(i9 i a6).trans ((d6.same i a6).trans (g9.same i a6 a6))) o_ ?_ ⟨(i9 gp a6).trans (d6.get k5.g a6),k5.pk⟩ a6 a6 (C3.of k0) (.of (.same _) (Gd.AYX p7 i5.int p9 p8) int_ne) Q;refine⟨a6,λi f K=>(d0 i a6 a6 K).trans ((P i a6 a6).trans ?_)⟩;exact(((((U.trans (.kp C)).trans A).trans (.kp L)).trans N).same i f K)
 |false=>
 rw[AZ];refine AB (A9 ..) ?_;cases h3:decide (r=3)with
 |true=>
  rw[Ah];refine AB (AK (off:=0) y.b1 rfl) (AB (AK (off:=0) y.b2 rfl) ?_);rw[zQ d hd,AJ];refine oc λH5 n5 C=>?_;have g0:=C.le;have S:=y.kp C;refine AB (AK (off:=0) S.b1 rfl) (Ba (AFk ..) (AB (AK (off:=0) S.b2 rfl) (Ba (AEk ..) ?_)));refine hE wN H5 n5 (s.to R) Γ _ (.inr (.inr (.inr (.inr rfl)))) (M.kp C) (by show R+cst d+2<_;omega) λH6 n6 E l e A m6 w he d7 hz=>?_;have d1:=A.le;have w:E<=R+cst d:=w;have d2:=(M.kp C).fg A m6;have O:=S.fg A;rw[sW];refine ul hE hd d2 O (by show E+cst d+2<_;omega) λH7 n7 W l2 e2 L m7 PW X Y hz=>?_;have YE:=L.le;have PW:W<=E+cst d:=PW;have i2:=he.fg a6 L;have I:C3 G H7 (Rg n5 n7) l2 e2:=X.mono (λi f=>⟨hN f.1,f.2⟩) λ_ _=>rfl;refine ZI i2 I a6 λH8 N D=>?_;refine SA (nm:=(0,0)) (es:=[e,e2]) D λH9 n9 l9 f9 d8=>?_;have J:=N.trans f9;refine Xq hk ((O.fg L).kp J) o_ ((((U.trans (.kp C)).trans A).trans L).trans (.kp J)) ⟨J.get m7.g a6,m7.pk⟩ (a:=W) a6 a6 d8 (.of (.same _) (Gd.elm d7.is Y.int) int_ne) Q
 |false=>
 rw[AZ];refine AB (A9 ..) ?_;cases h4:decide (r=4)with
 |true=>
  rw[Ah];refine AB (AK (off:=0) y.b1 rfl) (AB (AK (off:=0) y.b2 rfl) ?_);rw[zQ d hd,AJ];refine oc λH5 n5 C=>?_;have g0:=C.le;have S:=y.kp C;refine AB (AK (off:=0) S.b1 rfl) (Ba (AFk ..) (AB (AK (off:=0) S.b2 rfl) (Ba (AEk ..) ?_)));refine hE wN H5 n5 (s.to R) Γ _ (.inr (.inr (.inr (.inr rfl)))) (M.kp C) (by show R+cst d+2<_;omega) λH6 n6 E l e A m6 w he d7 hz=>?_;have d1:=A.le;have w:E<=R+cst d:=w;refine RD he d1 λH8 N D=>?_;refine SA (nm:=(0,0)) (es:=[e]) D λH9 n9 l9 f9 d8=>?_;have J:=N.trans f9;refine Xq hk ((S.fg A).kp J) o_ (((U.trans (.kp C)).trans A).trans (.kp J)) ⟨J.get m6.g a6,m6.pk⟩ (a:=E) a6 a6 d8 (.of (.same _) (Gd.len d7.is) int_ne) Q
 |false=>
 rw[AZ];refine AB (A9 ..) ?_;cases h5:decide (r=5)with
 |true=>
  rw[Ah,sW];refine ul hE hd M y (by show R+cst d+2<_;omega) λH6 n6 E l e A m6 w he d7 hz=>?_;have d1:=A.le;have w:E<=R+cst d:=w;refine RD he d1 λH8 N D=>?_;refine SA (nm:=(0,0)) (es:=[e]) D λH9 n9 l9 f9 d8=>?_;have J:=N.trans f9;refine Xq hk ((y.fg A).kp J) o_ ((U.trans A).trans (.kp J)) ⟨J.get m6.g a6,m6.pk⟩ (a:=E) a6 a6 d8 (.of (.same _) (Gd.neg d7.int) int_ne) Q
 |false=>
 rw[AZ];refine tV (G:=G) (vs:=ops5.map St.v) rfl (λv hv=>by obtain⟨x,_,rfl⟩:=_c.1 hv;exact⟨rfl,rfl⟩) λH5 C hw=>?_;have hw:W1 G H5 (.sl n3 0 5 5 1) ops5:=hw;have S:=y.kp C;have V:=M.kp C;refine AB (AK (off:=0) S.b1 rfl) ?_;refine EY V.m a6 a6 (by show R<_;omega) λH6 q E hq w m6 s6=>?_;have w:E<=R+1:=w;have A:Fg gp H5 (n3+1) H6 (n3+1):=⟨ea _,λi _ K=>s6 i K⟩;have k9:=hw.fg A a6 a6;have O:=S.fg A;have d2:=V.fg A m6;have⟨p,hp,i8⟩:=k9.at hq;refine AB hp (AB i8 ?_);rw[sW];refine ul hE hd d2 O (by show E+cst d+2<_;omega) λH7 n7 W l e L m7 PW he i5 hz=>?_;have YE:=L.le;have PW:W<=E+cst d:=PW;have m0:=k9.fg L a6 a6;refine AB (m0.again hq hp) (Ba (AAR _) ?_);have d3:=O.fg L;have q0:=d2.fg L m7;rw[sW];refine ul hE hd q0 d3 (by show W+cst d+2<_;omega) λH8 n8 a4 l2 e2 N m8 ji X Y hz=>?_;have m9:=N.le;have ji:a4<=W+cst d:=ji;have q1:=m0.fg N a6 a6;refine AB (q1.again hq hp) (Ba (AAR _) ?_);have d5:=he.fg a6 N;have I:C3 G H8 (Rg (n3+1) n8) l2 e2:=X.mono (λi f=>⟨hN f.1,f.2⟩) λ_ _=>rfl;refine ZI d5 I a6 λH9 f9 D=>?_;refine SA (nm:=ops5[q]) (es:=[e,e2]) D λk1 Z q8 d4 m1=>?_;have d9:=f9.trans d4;refine Xq hk ((d3.fg N).kp d9) o_ (((((U.trans (.kp C)).trans A).trans L).trans N).trans (.kp d9)) ⟨d9.get m8.g a6,m8.pk⟩ (a:=a4) a6 a6 m1 (.of (.same _) (Gd.jN (f_ hq) i5.int Y.int) int_ne) Q
end
abbrev rqA(r:Rq tA u):u=tA∨u=tB∨u=Ec:=by
 have key:∀t,Rq t u->t=tA->u=tA∨u=tB∨u=Ec:=by
  intro t r d;cases r with
  |same=>exact .inl d
  |ba=>exact .inr (.inl rfl)
  |na=>exact .inr (.inr rfl)
  |nb=>exact .inr (.inr rfl)
 exact key _ r rfl
abbrev AJT(r:Rq tA u):(u.cls||u.is Ec)=true:=by rcases rqA r with rfl|rfl|rfl<;>rfl
def vL:List St:=[T3,Qx]
def vG:List St:=[eh,di,T3,Qx]
section
variable{G:AQ}{H:Heap}{n gp d b:Nat}{s:Mg}{Γ:List BU}{k:KV}
abbrev S3(C:am G gp d)(D:d<1000)(E:GW t)(h:Mk G H n gp s Γ)(I:Bx H n b gp d)(J:s.at'+cst d+2<1000000000000)(K:EPost G H n gp s Γ t (cst d) k):Runs F G BR [t.v,.ptr b 0,.ptr (b+1) 0] H n k:=by refine xN (Wv Ae G) ?_;delta Oe;have L:=h.g;refine BE λW M p=>?_;refine Ao rfl λN y O=>?_;have p:=y.get p a6;have i:=M.trans y;have m:=I.kp i;refine AB (AK (off:=0) m.b1 rfl) (AB (Be p) (AB (AK (off:=0) m.b2 rfl) ?_));rw[zQ d D,AJ];refine C t N (n+1+1) s Γ _ E (h.kp i) J λX P a l e f3 A Q R q S=>?_;have T:=f3.le;have U:=f3.get O a6 a6;refine xn U rfl R a6 λV B u=>?_;refine K V P a l e ?_ ⟨(B gp a6).trans A.g,A.pk⟩ Q (u.mono (λw f=>⟨hN f.1,f.2⟩) λ_ _=>rfl) q S;exact⟨a6,λw f x=>(B w a6).trans (((Fg.kp i).trans f3).same w f x)⟩
abbrev AOy(h:Mk G H n gp s Γ)(hs:s.at'<1000000000000-10)(P:EPost G H n gp s Γ A3 (cst 0-2) k):Runs F G Eb [.ptr gp 0,iN 0] H n k:=by
 refine go2 (PZ Ae G) ?_;delta KT;have Q:=h.g;refine BE λH1 R w=>?_;refine BE λH2 L x=>?_;refine Ao rfl λH3 f3 S=>?_;have w:=f3.get (L.get w a6) a6;have x:=f3.get x a6;refine AB (AK (off:=0) x rfl) (AB (yE 0) ?_);rw[ui (ea 0),Ah];refine M1 (G:=G) (vs:=[iN 2,iN 3]) rfl a6 (λv M=>by simp at M;rcases M with rfl|rfl<;>exact⟨rfl,rfl⟩) λH4 y _ A=>?_;have f:=((R.trans L).trans f3).trans y;refine AB (AK (off:=0) (y.get w a6) rfl) ?_;have T:=h.kp f;refine EY T.m a6 a6 a6 λU r a V ha N B=>?_;have C:El G U (.sl (n+1+1+1) 0 2 2 1) 1 [[iN 2],[iN 3]]:=El.same A λi d=>by cases d;exact B _ a6
 obtain⟨kd,D,q⟩:∃kd,([[iN 2],[iN 3]]:Bh)[r]? =some [iN kd]/\(kd=2∨kd=3):=by
  match r,V with
  |0,_=>exact⟨2,rfl,.inl rfl⟩
  |1,_=>exact⟨3,rfl,.inr rfl⟩
 have⟨p,W,E⟩:=C.at D;refine AB W (AB (OE E) ?_);refine AG2 (a:=n+1+1+1+1) (nm:=(0,0)) λH6 X l6 u I=>?_;have Y:=u.le;have Z:=u.get ((B (n+1+1) a6).trans (y.get S a6)) a6;refine xn Z rfl I a6 λH7 O J=>?_;refine P H7 X a _ _ ⟨a6,λi d K=>(O i a6).trans ((u.same i a6).trans ((B i K).trans (f.same i d)))⟩ ⟨(O gp a6).trans (u.get N.g a6),N.pk⟩ (by unfold cst;omega) (J.mono (λi d=>⟨hN d.1,d.2⟩) λ_ _=>rfl) (.of (.same _) ?_ U9) (by rcases q with rfl|rfl<;>simp[Te.cz,OG,pZ,cst]);rcases q with rfl|rfl
 .exact Gd.tru
 .exact Gd.Cp
end
section
variable{G:AQ}{H:Heap}{n gp d:Nat}{s:Mg}{Γ:List BU}{k:KV}
abbrev ASX(hE:am G gp d)(hd:d<1000)(h:Mk G H n gp s Γ)(hs:s.at'+cst (d+1)<1000000000000)(hk:EPost G H n gp s Γ A3 (cst (d+1)-2) k):Runs F G Eb [.ptr gp 0,iN (d+1)] H n k:=by
 refine go2 (PZ Ae G) ?_;delta KT;have d0:=h.g;have hc:cst (d+1)=10+3*cst d:=rfl;have u7:=jh d;have tb:GW A3:=.inr (.inl rfl);have ta:GW tA:=.inr (.inr (.inl rfl));have p2:GW tB:=.inr (.inr (.inr (.inl rfl)));have ti:GW BY:=.inl rfl;refine BE λH1 f1 g1=>?_;refine BE λH2 f2 g2=>?_;refine Ao rfl λH3 f3 g3=>?_;have bx:Bx H3 (n+1+1+1) n gp d:=⟨f3.get (f2.get g1 a6) a6,f3.get g2 a6,g3,a6,d0⟩;have f0:=(f1.trans f2).trans f3;have mk:=h.kp f0;have p3:=Fg.kp (gp:=gp) f0;clear f1 f2 f3 g1 g2 g3 f0;generalize hn3:n+1+1+1=n3 at*;have u8:=bx.le;refine AB (AK (off:=0) bx.b2 rfl) (AB (yE (d+1)) ?_);rw[eg a6,AZ];refine AB (AK (off:=0) bx.b1 rfl) ?_;refine EY mk.m a6 a6 a6 λH4 r a1 hr u9 m4 s4=>?_;have f4:Fg gp H3 n3 H4 n3:=⟨ea _,λy _ M=>s4 y M⟩;have d1:=p3.trans f4;have W:=bx.fg f4;have d2:=mk.fg f4 m4;refine AB (A9 ..) ?_;cases h0:decide (r=0)with
 |true=>
  rw[Ah];refine Fw λH5 n5 C=>?_;have d8:=C.le;have cI:=W.kp C;have D:=d2.kp C;rw[Yz];refine S3 (t:=A3) hE hd tb D cI (by show a1+cst d+2<_;omega) λH6 n6 J l e I m6 i he O hz=>?_;have d9:=I.le;have i:J<=a1+cst d:=i;refine RD he d9 λH8 P K=>?_;refine SA (nm:=(0,0)) (es:=[e]) K λH9 n9 l9 U p4=>?_;have i7:=P.trans U;refine Xq hk ((cI.fg I).kp i7) o_ (((d1.trans (.kp C)).trans I).trans (.kp i7)) ⟨i7.get m6.g a6,m6.pk⟩ (a:=J) a6 a6 p4 (.of (.same _) (Gd.not O.bool) U9) d0
 |false=>
 rw[AZ];refine AB (A9 ..) ?_;cases h1:decide (r=1)with
 |true=>
  rw[Ah];refine Fw λH5 n5 C=>?_;have d8:=C.le;have cI:=W.kp C;have D:=d2.kp C;rw[Yz];refine S3 (t:=A3) hE hd tb D cI (by show a1+cst d+2<_;omega) λH6 n6 J l e I m6 i he O hz=>?_;have d9:=I.le;have i:J<=a1+cst d:=i;have V:=cI.fg I;have d3:=D.fg I m6;refine Fw λH7 n7 N=>?_;have YE:=N.le;have Q:=V.kp N;have X:=d3.kp N;rw[Yz];refine S3 (t:=A3) hE hd tb X Q (by show J+cst d+2<_;omega) λH8 n8 a3 l2 e2 P m8 PW d4 d5 hz=>?_;have i8:=P.le;have PW:a3<=J+cst d:=PW;have i9:=(he.kp' N).fg a6 P;have R:C3 G H8 (Rg n5 n8) l2 e2:=d4.mono (λy f=>⟨hN f.1,f.2⟩) λ_ _=>rfl;refine ZI i9 R a6 λH9 U K=>?_;refine SA (nm:=(0,0)) (es:=[e,e2]) K λY L p5 w S=>?_;have A:=U.trans w;refine Xq hk ((Q.fg P).kp A) o_ (((((d1.trans (.kp C)).trans I).trans (.kp N)).trans P).trans (.kp A)) ⟨A.get m8.g a6,m8.pk⟩ (a:=a3) a6 a6 S (.of (.same _) (Gd.and O.bool d5.bool) U9) d0
 |false=>
 rw[AZ];refine AB (A9 ..) ?_;cases h2:decide (r=2)with
 |true=>
  rw[Ah];refine Fw λH5 n5 C=>?_;have d8:=C.le;have cI:=W.kp C;have D:=d2.kp C;rw[Yz];refine S3 (t:=A3) hE hd tb D cI (by show a1+cst d+2<_;omega) λH6 n6 J l e I m6 i he O hz=>?_;have d9:=I.le;have i:J<=a1+cst d:=i;have V:=cI.fg I;have d3:=D.fg I m6;refine Fw λH7 n7 N=>?_;have YE:=N.le;have Q:=V.kp N;have X:=d3.kp N;rw[Yz];refine S3 (t:=A3) hE hd tb X Q (by show J+cst d+2<_;omega) λH8 n8 a3 l2 e2 P m8 PW d4 d5 hz=>?_;have i8:=P.le;have PW:a3<=J+cst d:=PW;have i9:=(he.kp' N).fg a6 P;have R:C3 G H8 (Rg n5 n8) l2 e2:=d4.mono (λy f=>⟨hN f.1,f.2⟩) λ_ _=>rfl;refine ZI i9 R a6 λH9 U K=>?_;refine SA (nm:=(0,0)) (es:=[e,e2]) K λY L p5 w S=>?_;have A:=U.trans w;refine Xq hk ((Q.fg P).kp A) o_ (((((d1.trans (.kp C)).trans I).trans (.kp N)).trans P).trans (.kp A)) ⟨A.get m8.g a6,m8.pk⟩ (a:=a3) a6 a6 S (.of (.same _) (Gd.or O.bool d5.bool) U9) d0
 |false=>
 rw[AZ];refine AB (A9 ..) ?_;cases h3:decide (r=3)with
 |true=>
  rw[Ah];refine tV (G:=G) (vs:=vL.map St.v) rfl (λv hv=>by obtain⟨x,_,rfl⟩:=_c.1 hv;exact⟨rfl,rfl⟩) λH5 C hw=>?_;have hw:W1 G H5 (.sl n3 0 2 2 1) vL:=hw;have cI:=W.kp C;have D:=d2.kp C;refine AB (AK (off:=0) cI.b1 rfl) ?_;refine EY D.m a6 a6 (by show a1<_;omega) λH6 q J hq i m6 s6=>?_;have i:J<=a1+1:=i;have I:Fg gp H5 (n3+1) H6 (n3+1):=⟨ea _,λy _ M=>s6 y M⟩;have g0:=hw.fg I a6 a6;have V:=cI.fg I;have d3:=D.fg I m6;have⟨p,hp,g4⟩:=g0.at hq;refine AB hp (AB g4 ?_);refine U0 (l:=1) (c:=65) λH7 n7 N=>?_;have YE:=N.le;have g5:=g0.fg (Fg.kp (gp:=gp) N) a6 a6;refine AB (g5.again hq hp) (Ba (AAR _) ?_);have Q:=V.kp N;have X:=d3.kp N;rw[Yz];refine S3 (t:=tA) hE hd ta X Q (by show J+cst d+2<_;omega) λH8 n8 a3 l e P m8 PW he O hz=>?_;have i8:=P.le;have PW:a3<=J+cst d:=PW;have g6:=g5.fg P a6 a6;refine AB (g6.again hq hp) (Ba (AAR _) ?_);have k0:=Q.fg P;have k1:=X.fg P m8;refine U0 (l:=1) (c:=66) λH9 n9 U=>?_;have p6:=U.le;have g7:=g6.fg (Fg.kp (gp:=gp) U) a6 a6;refine AB (g7.again hq hp) (Ba (AAR _) ?_);have g8:=k0.kp U;have k2:=k1.kp U;rw[Yz];refine S3 (t:=tB) hE hd p2 k2 g8 (by show a3+cst d+2<_;omega) λY L a4 l2 e2 w g9 ji d4 d5 hz=>?_;have i5:=w.le;have ji:a4<=a3+cst d:=ji;have i0:=g7.fg w a6 a6;refine AB (i0.again hq hp) (Ba (AAR _) ?_);have S:=(he.kp' U).fg a6 w;have R:C3 G Y (Rg n7 L) l2 e2:=d4.mono (λy f=>⟨hN f.1,f.2⟩) λ_ _=>rfl;refine ZI S R a6 λk9 d6 K=>?_;refine SA (nm:=vL[q]) (es:=[e,e2]) K λi2 p7 p8 d7 i1=>?_;have E:=d6.trans d7;have⟨u1,r1,q1,_⟩:=O.ex;have⟨u2,r2,q2,_⟩:=d5.ex;have k3:Gd s.inn Γ (.mk 16 0 vL[q] IY IY (0,0) [e,e2]) A3:=Gd.same (f_ hq) q1 q2 (r1.obj rfl) (r2.obj rfl);refine Xq hk ((g8.fg w).kp E) o_ (((((((d1.trans (.kp C)).trans I).trans (.kp N)).trans P).trans (.kp U)).trans w).trans (.kp E)) ⟨E.get g9.g a6,g9.pk⟩ (a:=a4) a6 a6 i1 (.of (.same _) k3 U9) d0
 |false=>
 rw[AZ];refine AB (A9 ..) ?_;cases h4:decide (r=4)with
 |true=>
  rw[Ah];refine U0 (l:=1) (c:=65) λH5 n5 C=>?_;have d8:=C.le;have cI:=W.kp C;have D:=d2.kp C;rw[Yz];refine S3 (t:=tA) hE hd ta D cI (by show a1+cst d+2<_;omega) λH6 n6 J l e I m6 i he O hz=>?_;have d9:=I.le;have i:J<=a1+cst d:=i;have V:=cI.fg I;refine RD he d9 λH9 U K=>?_;refine fN (kind:=20) (nm:=(0,0)) (.inr ⟨_,_,_,_,_,rfl⟩) λY L w=>?_;have i5:=w.le;have A:=U.trans w;have k4:=K.mono (B:=Rg n5 L) (H':=Y) (λy f=>⟨f.1,hN f.2⟩) λy f=>w.same y f.2;refine Ao rfl λk9 d6 p9=>?_;refine BX p9 rfl rfl a6 λi2 q0 q3=>?_;have d7:Kp Y L i2 (L+1):=⟨d6.le,λy f=>(q3 y a6).trans (d6.same y f)⟩;have i6:=A.trans d7;have m0:=V.kp i6;have m1:PA G i2 gp (s.to J):=⟨i6.get m6.g a6,m6.pk⟩;refine tV (G:=G) (vs:=ws2.map St.v) rfl (λv hv=>by obtain⟨x,_,rfl⟩:=_c.1 hv;exact⟨rfl,rfl⟩) λk5 i3 hw=>?_;have hw:W1 G k5 (.sl (L+1) 0 2 2 1) ws2:=hw;have m2:=m0.kp i3;refine AB (AK (off:=0) m2.b1 rfl) ?_;have q4:PA G k5 gp (s.to J):=⟨i3.get m1.g a6,m1.pk⟩;refine EY q4 a6 a6 (by show J<_;omega) λq5 q a3 hq PW m3 q6=>?_;have PW:a3<=J+1:=PW;have k6:Fg gp k5 (L+1+1) q5 (L+1+1):=⟨ea _,λy _ M=>q6 y M⟩;have m7:=hw.fg k6 a6 a6;have⟨p,hp,g4⟩:=m7.at hq;refine AB hp (AB g4 ?_);refine U0 (l:=ws2[q].1) (c:=ws2[q].2) λv0 m9 i4=>?_;have u6:=i4.le;have q7:=i4.get (k6.get (i3.get q0 a6) a6 a6) a6;rw[AP,AJ];refine FK (off:=0+5) (m:=2) (v:=Ty.v ⟨ws2[q],false⟩) q7 rfl rfl a6 (by show 0+5+2<=11;omega) λp0 q8 p1=>?_;refine AB (As (m:=11) q8 a6 rfl) ?_;have Z:∀y,y<L->y≠gp->T.get p0 y=T.get Y y:=λy f M=>(p1 y a6).trans ((i4.same y a6).trans ((k6.same y a6 M).trans ((i3.same y a6).trans (d7.same y f))));have k7:=k4.mono (B:=Rg n5 m9) (H':=p0) (λy f=>⟨f.1,hN f.2⟩) λy f=>Z y f.2 (hN f.1);have q9:({nm:=ws2[q],arr:=false}:Ty)=tA∨({nm:=ws2[q],arr:=false}:Ty)=tB:=by
   match q,hq with
   |0,_=>exact .inl rfl
   |1,_=>exact .inr rfl
  have⟨u,u0,u3,_⟩:=O.ex;refine Xq (a:=a3) (a0:=n5) (e:=.mk 20 0 (0,0) ⟨ws2[q],false⟩ IY (0,0) [e]) hk (V.same (n':=m9) a6 λy _ f=>(Z y a6 a6).trans (A.same y a6)) o_ ?_ ⟨(p1 gp a6).trans (i4.get m3.g a6),m3.pk⟩ a6 a6 (C3.of k7) (.of (.same _) (Gd.isx q9 u3 (AJT u0)) U9) d0;exact⟨a6,λy f M=>(Z y a6 M).trans ((((d1.trans (.kp C)).trans I).trans (.kp A)).same y f M)⟩
 |false=>
 rw[AZ];refine AB (A9 ..) ?_;cases h5:decide (r=5)with
 |true=>
  rw[Ah];refine AB (AK (off:=0) W.b1 rfl) (AB (AK (off:=0) W.b2 rfl) ?_);rw[zQ d hd,AJ];refine iZ (cl:=nB) hE (.inr rfl) d2 (by show a1+cst d+2<_;omega) λH5 n5 J l e u C m5 i he hu _ u4 hz=>?_;have d8:=C.le;have i:J<=a1+cst d:=i;obtain rfl:=u4 rfl;refine RD he d8 λH6 I K=>?_;refine SA (nm:=Jd) (es:=[e]) K λH7 n7 l7 N u5=>?_;have k8:=I.trans N;refine Xq hk ((W.fg C).kp k8) o_ ((d1.trans C).trans (.kp k8)) ⟨k8.get m5.g a6,m5.pk⟩ (a:=J) a6 a6 u5 (.of (.same _) (Gd.flag hu) U9) d0
 |false=>
 rw[AZ];refine tV (G:=G) (vs:=vG.map St.v) rfl (λv hv=>by obtain⟨x,_,rfl⟩:=_c.1 hv;exact⟨rfl,rfl⟩) λH5 C hw=>?_;have hw:W1 G H5 (.sl n3 0 4 4 1) vG:=hw;have cI:=W.kp C;have D:=d2.kp C;refine AB (AK (off:=0) cI.b1 rfl) ?_;refine EY D.m a6 a6 (by show a1<_;omega) λH6 q J hq i m6 s6=>?_;have i:J<=a1+1:=i;have I:Fg gp H5 (n3+1) H6 (n3+1):=⟨ea _,λy _ M=>s6 y M⟩;have g0:=hw.fg I a6 a6;have V:=cI.fg I;have d3:=D.fg I m6;have⟨p,hp,g4⟩:=g0.at hq;refine AB hp (AB g4 ?_);refine Hg λH7 n7 N=>?_;have YE:=N.le;have g5:=g0.fg (Fg.kp (gp:=gp) N) a6 a6;refine AB (g5.again hq hp) (Ba (AAR _) ?_);have Q:=V.kp N;have X:=d3.kp N;rw[Yz];refine S3 (t:=BY) hE hd ti X Q (by show J+cst d+2<_;omega) λH8 n8 a3 l e P m8 PW he O hz=>?_;have i8:=P.le;have PW:a3<=J+cst d:=PW;have g6:=g5.fg P a6 a6;refine AB (g6.again hq hp) (Ba (AAR _) ?_);have k0:=Q.fg P;have k1:=X.fg P m8;refine Hg λH9 n9 U=>?_;have p6:=U.le;have g7:=g6.fg (Fg.kp (gp:=gp) U) a6 a6;refine AB (g7.again hq hp) (Ba (AAR _) ?_);have g8:=k0.kp U;have k2:=k1.kp U;rw[Yz];refine S3 (t:=BY) hE hd ti k2 g8 (by show a3+cst d+2<_;omega) λY L a4 l2 e2 w g9 ji d4 d5 hz=>?_;have i5:=w.le;have ji:a4<=a3+cst d:=ji;have i0:=g7.fg w a6 a6;refine AB (i0.again hq hp) (Ba (AAR _) ?_);have S:=(he.kp' U).fg a6 w;have R:C3 G Y (Rg n7 L) l2 e2:=d4.mono (λy f=>⟨hN f.1,f.2⟩) λ_ _=>rfl;refine ZI S R a6 λk9 d6 K=>?_;refine SA (nm:=vG[q]) (es:=[e,e2]) K λi2 p7 p8 d7 i1=>?_;have E:=d6.trans d7;have k3:Gd s.inn Γ (.mk 16 0 vG[q] IY IY (0,0) [e,e2]) A3:=Gd.cmp (f_ hq) O.int d5.int;refine Xq hk ((g8.fg w).kp E) o_ (((((((d1.trans (.kp C)).trans I).trans (.kp N)).trans P).trans (.kp U)).trans w).trans (.kp E)) ⟨E.get g9.g a6,g9.pk⟩ (a:=a4) a6 a6 i1 (.of (.same _) k3 U9) d0
end
noncomputable def AP0(G:AQ)(call:Am)(a0 a2 v1 v2:V)(H:Heap)(n:Nat)(k:KV):Prop:=
 AD (B2.ev .leq a2 (iN 0)) λv27=>
 Ax v27 false (some a0) λv28=>
 Et v27 false (call AU [v28,(iN 5)] H n) H n λv29 H n=>
 Ax v27 false (BM (.one .int) false v29 (iN 0)) λv30=>
 AD (BI v27 (.bool true) v30) λv31=>
 AS v31 (call AU [a0,(iN 4)] H n λv32 H n=>
 AD (BM (.one .int) false v32 (iN 0)) λv33=>
 AS v33 (call Ab [(iN 4),(.str 0 0),.AT] H n λv34 H n=>
 A1 11 v2 v34 H n λv35 H n=>
 CR (Ay [.cn v2 11] G H) λl=>k (Bb l) H n) (call Ab [(iN 10),(.str 0 0),.AT] H n λv36 H n=>
 Au (Af 11 [[(iN 0),(iN 0),(iN 0),(iN 0),(.str 0 0),(.str 0 0),(.bool false),.AT,(.str 0 0),(.bool false),(.str 0 0)]] E0) H n λv37 H n=>
 A1 11 v37 v36 H n λv38 H n=>
 AD (AX 2 v1 G H) λv39=>
 AD (AG 5 v37) λv40=>
 A1 2 v40 v39 H n λv41 H n=>
 AD (AX 11 v37 G H) λv42=>
 A1 11 v2 v42 H n λv43 H n=>
 CR (Ay [.cn v2 11] G H) λl=>k (Bb l) H n)) (AD (AG 0 v1) λv44=>
 AD (AM v44 G H) λv45=>
 AD (BM (.one .str) false v45 (.str 1 66)) λv46=>
 AS v46 (call CN [(.str 1 65)] H n λv47 H n=>
 AD (B2.ev .sub a2 (iN 1)) λv48=>
 call Aa [a0,v47,v48] H n λv49 H n=>
 Au (AY 11 1 [(iN 0),(iN 0),(iN 0),(iN 0),(.str 0 0),(.str 0 0),(.bool false),.AT,(.str 0 0),(.bool false),(.str 0 0)] [(0,.c v49)] E0) H n λv50 H n=>
 call Ab [(iN 19),(.str 0 0),v50] H n λv51 H n=>
 Au (Af 11 [[(iN 0),(iN 0),(iN 0),(iN 0),(.str 0 0),(.str 0 0),(.bool false),.AT,(.str 0 0),(.bool false),(.str 0 0)]] E0) H n λv52 H n=>
 A1 11 v52 v51 H n λv53 H n=>
 AD (AX 2 v1 G H) λv54=>
 AD (AG 5 v52) λv55=>
 A1 2 v55 v54 H n λv56 H n=>
 AD (AX 11 v52 G H) λv57=>
 A1 11 v2 v57 H n λv58 H n=>
 CR (Ay [.cn v2 11] G H) λl=>k (Bb l) H n) (call AU [a0,(iN 3)] H n λv59 H n=>
 AD (BM (.one .int) false v59 (iN 0)) λv60=>
 AS v60 (AD (B2.ev .sub a2 (iN 1)) λv61=>
 call A2 [a0,(.str 1 65),v61] H n λv62 H n=>
 Au (AY 11 1 [(iN 0),(iN 0),(iN 0),(iN 0),(.str 0 0),(.str 0 0),(.bool false),.AT,(.str 0 0),(.bool false),(.str 0 0)] [(0,.c v62)] E0) H n λv63 H n=>
 call Ab [(iN 7),(.str 4 1954047342),v63] H n λv64 H n=>
 A1 11 v2 v64 H n λv65 H n=>
 CR (Ay [.cn v2 11] G H) λl=>k (Bb l) H n) (AD (BM (.one .int) false v59 (iN 1)) λv66=>
 AS v66 (AD (B2.ev .sub a2 (iN 1)) λv67=>
 call A2 [a0,(.str 1 65),v67] H n λv68 H n=>
 Au (AY 11 1 [(iN 0),(iN 0),(iN 0),(iN 0),(.str 0 0),(.str 0 0),(.bool false),.AT,(.str 0 0),(.bool false),(.str 0 0)] [(0,.c v68)] E0) H n λv69 H n=>
 call Ab [(iN 8),(.str 4 1718379891),v69] H n λv70 H n=>
 A1 11 v2 v70 H n λv71 H n=>
 CR (Ay [.cn v2 11] G H) λl=>k (Bb l) H n) (call Ab [(iN 10),(.str 0 0),.AT] H n λv72 H n=>
 Au (Af 11 [[(iN 0),(iN 0),(iN 0),(iN 0),(.str 0 0),(.str 0 0),(.bool false),.AT,(.str 0 0),(.bool false),(.str 0 0)]] E0) H n λv73 H n=>
 A1 11 v73 v72 H n λv74 H n=>
 Au (AY 1 2 [(.str 0 0)] [(0,.c (.str 1 65)),(1,.c (.str 1 66))] E0) H n λv75 H n=>
 call AU [a0,(iN 2)] H n λv76 H n=>
 AD (Ai 1 v75 v76) λv77=>
 AD (AM v77 G H) λv78=>
 call CN [v78] H n λv79 H n=>
 AD (AG 5 v73) λv80=>
 A1 2 v80 v79 H n λv81 H n=>
 AD (AX 11 v73 G H) λv82=>
 A1 11 v2 v82 H n λv83 H n=>
 CR (Ay [.cn v2 11] G H) λl=>k (Bb l) H n))))
variable{ty:Ty}
section
variable{G:AQ}{H:Heap}{n gp d b c:Nat}{s:Mg}{Γ:List BU}{k:KV}
abbrev AWZ{kind:Nat}(i:T.get H c=some (one (Mb kind 0 nm IY IY (0,0) 0 0 v)))(q:T.get H b=some (one L0))(u:L0.length=11)(d:b≠c)
 (w:∀f,(∀id,id≠c->id≠b->T.get f id=T.get H id)->k (.agg (Mb kind 0 nm ty IY (0,0) 0 0 v)) f n):
 AD (AG 5 (.ptr c 0)) λp=>A1 2 p ty.v H n λ_ H n=>AD (AX 11 (.ptr c 0) G H) λl=>A1 11 (.ptr b 0) l H n λ_ H n=>CR (Ay [.cn (.ptr b 0) 11] G H) λl=>k (Bb l) H n:=by rw[AP,AJ];refine FK (off:=0+5) (m:=2) (v:=ty.v) i rfl rfl a6 (by show 0+5+2<=11;omega) λE x g=>?_;refine AB (As (m:=11) x a6 rfl) ?_;refine BX ((g b d).trans q) u rfl a6 λy A B=>?_;rw[By (m:=11) A a6 rfl];simp only[go_sem];exact w y λid C D=>(B id D).trans (g id C)
end
structure Bo(H:Heap)(n b gp:Nat)(t:Ty):Prop where
 b1:T.get H b=some (one t.cells)
 b2:T.get H (b+1)=some (one xO)
 le:b+2<=n
 g:gp<b
abbrev Bo.fg(h:Bo H n b gp t)(f:Fg gp H n H' n'):Bo H' n' b gp t:=by have:=h.le;have:=h.g;exact⟨f.get h.b1 a6 a6,f.get h.b2 a6 a6,w_ h.le f.le,h.g⟩
abbrev Bo.kp(h:Bo H n b gp t)(f:Kp H n H' n'):Bo H' n' b gp t:=h.fg (.kp f)
abbrev AL3(f:d+1<1000):B2.ev .sub (iN (d+1)) (iN 1)=some (iN d):=zQ d a6
abbrev xE:∀d,10<=cst d
 |0=>ea _
 |d+1=>by show 10<=10+3*cst d;omega
variable{c0:Nat}
section
variable{G:AQ}{H H0:Heap}{n gp d b a0:Nat}{s:Mg}{Γ:List BU}{k:KV}{t:Ty}
abbrev bM{a1:Nat}(x:EPost G H0 b gp s Γ t c k)(v:Bo H n b gp t)(f:Fg gp H0 b H n)(m:PA G H gp (s.to a))(y:a<=s.at'+c)(i:b+1<a1)
 (A:C3 G H (Rg a1 n) l e) (B:Vr s.inn Γ e t) (C:11*e.cz<=2*c+4:=by first|omega|(simp[Te.cz,OG,pZ]<;>omega)):A1 11 (.ptr (b+1) 0) (.agg l) H n λ_ H n=>CR (Ay [.cn (.ptr (b+1) 0) 11] G H) λl=>k (Bb l) H n:=by have:=v.g;refine xn v.b2 rfl A i λD w p=>?_;refine x D n a l e ⟨f.le,λq d u=>(w q a6).trans (f.same q d u)⟩ ⟨(w gp a6).trans m.g,m.pk⟩ y (p.mono (λq d=>⟨hN d.1,d.2⟩) λ_ _=>rfl) B C
abbrev ADN{kind:Nat}{kids:aAq}(x:EPost G H0 b gp s Γ t c0 k)(q:Bo H n b gp t)(f:Fg gp H0 b H n)(m:PA G H gp (s.to a))(y:a<=s.at'+c0)(A:b+1<c)
 (B:T.get H c=some (one (Mb kind 0 (0,0) IY IY (0,0) 0 0 v))) (C:Kt G H (λi=>b<i/\i<n/\i≠c/\i≠b+1) v kids) (D:Vr s.inn Γ (.mk kind 0 (0,0) ty IY (0,0) kids) t) (E:11*(Te.mk kind 0 (0,0) ty IY (0,0) kids).cz<=2*c0+4:=by first|omega|(simp[Te.cz,OG,pZ]<;>omega)):
 AD (AG 5 (.ptr c 0)) λp=>A1 2 p ty.v H n λ_ H n=>AD (AX 11 (.ptr c 0) G H) λl=>A1 11 (.ptr (b+1) 0) l H n λ_ H n=>CR (Ay [.cn (.ptr (b+1) 0) 11] G H) λl=>k (Bb l) H n:=by have:=q.g;have:=q.le;refine AWZ B q.b2 rfl a6 λF u=>?_;refine x F n a _ _ ⟨f.le,λi d w=>(u i a6 a6).trans (f.same i d w)⟩ ⟨(u gp a6 a6).trans m.g,m.pk⟩ y (C3.of (C.mono (λi d=>⟨a6,d.2.1⟩) λi d=>u i d.2.2.1 d.2.2.2)) D E
theorem ATz(hE:∀d',d=d'+1->am G gp d')(hd:d<1000)(ht:t=tA∨t=tB)(hb:Bo H n b gp t)(h:Mk G H n gp (s.to a0) Γ)(k5:a0<=s.at'+1)(hs:s.at'+cst d<1000000000000)(f:Fg gp H0 b H n)(hp:EPost G H0 b gp s Γ t (cst d-2) k):
 AP0 G (Runs F G) (.ptr gp 0) (iN d) (.ptr b 0) (.ptr (b+1) 0) H n k:=by
 unfold AP0
 have k6:=xE d
 have k7:=jh d
 have k8:=hb.le
 have k9:=hb.g
 have m0:GW t:=by rcases ht with rfl|rfl;exact .inr (.inr (.inl rfl));exact .inr (.inr (.inr (.inl rfl)))
 have g3:t≠Ec:=by rcases ht with rfl|rfl;exact AJm;exact AKY
 have U:∀(V:Heap) (J:Nat),Fg gp H n V n->PA G V gp (s.to J)->J<=a0+1->Runs F G AU [.ptr gp 0,iN 4] V n λg9 H n=>AD (BM (.one .int) false g9 (iN 0)) λi0=>
  AS i0 (Runs F G Ab [(iN 4),(.str 0 0),.AT] H n λi1 H n=>A1 11 (.ptr (b+1) 0) i1 H n λm4 H n=>CR (Ay [.cn (.ptr (b+1) 0) 11] G H) λl=>k (Bb l) H n)
  (Runs F G Ab [(iN 10),(.str 0 0),.AT] H n λi2 H n=>Au (Af 11 [xO] E0) H n λd0 H n=>A1 11 d0 i2 H n λm8 H n=>AD (AX 2 (.ptr b 0) G H) λi3=>
   AD (AG 5 d0) λi4=>A1 2 i4 i3 H n λm9 H n=>AD (AX 11 d0 G H) λi5=>A1 11 (.ptr (b+1) 0) i5 H n λp0 H n=>CR (Ay [.cn (.ptr (b+1) 0) 11] G H) λl=>k (Bb l) H n):=by
  intro V J f1 m1 Q
  refine EY m1 a6 a6 (by show J<_;omega) λH2 r D hr A W s2=>?_
  have A:D<=J+1:=A
  have L:Fg gp H n H2 n:=⟨ea _,λy i C=>(s2 y C).trans (f1.same y i C)⟩
  have K:=hb.fg L
  refine AB (A9 ..) ?_
  cases h0:decide (r=0)with
  |true=>
   rw[Ah]
   refine AG2 (a:=n) (nm:=(0,0)) λH3 P l3 f3 i6=>?_
   have R:=f3.le
   exact bM hp (K.kp f3) ((f.trans L).trans (.kp f3)) ⟨f3.get W.g a6,W.pk⟩ (a:=D) a6 a6 i6 ⟨Ec,by rcases ht with rfl|rfl;exact .na;exact .nb,Gd.nul,λh=>absurd rfl h⟩
  |false=>
   rw[AZ]
   refine fN (kind:=10) (nm:=(0,0)) (.inl rfl) λH3 P f3=>?_
   have R:=f3.le
   refine Ao rfl λH4 f4 g4=>?_
   refine BX g4 rfl rfl a6 λX g5 s5=>?_
   have E:Kp H3 P X (P+1):=⟨f4.le,λy i=>(s5 y a6).trans (f4.same y i)⟩
   have M:=f3.trans E
   have d6:=K.kp M
   refine AB (Be d6.b1) ?_
   exact ADN hp d6 ((f.trans L).trans (.kp M)) ⟨M.get W.g a6,W.pk⟩ (a:=D) a6 a6 g5 .nil (.of (.same _) (Gd.new ht) g3)
 cases d with
 |zero=>
  refine AB (yE 0) ?_
  rw[ui (ea 0)]
  refine QD (AFB (QD (AB (xK ..) ?_)))
  show AS (.bool true) _ _
  rw[Ah]
  exact U H a0 (Fg.refl ..) h.m a6
 |succ d=>
 have p1:cst (d+1)=10+3*cst d:=rfl
 have hE:=hE d rfl
 refine AB (yE (d+1)) ?_
 rw[eg a6]
 refine S9 rfl (AFl ?_)
 refine EY h.m a6 a6 (by show a0<_;omega) λV r J hr Q m1 s1=>?_
 have Q:J<=a0+1:=Q
 have f1:Fg gp H n V n:=⟨ea _,λy _ C=>s1 y C⟩
 have d1:=hb.fg f1
 have d7:=h.fg (a:=J) f1 m1
 have d8:=f.trans f1
 refine S9 (A9 ..) (AB (xK ..) ?_)
 show AS (.bool (decide (r=0))) _ _
 cases h0:decide (r=0)with
 |true=>rw[Ah];exact U V J f1 m1 Q
 |false=>
 rw[AZ,CZ,AJ]
 refine AB (AK (off:=0) d1.b1 (v:=t.nm.v) rfl) ?_
 rcases ht with rfl|rfl
 ·refine AB (v:=.bool false) rfl ?_
  rw[AZ]
  refine EY m1 a6 a6 (by show J<_;omega) λH2 q D hq A W s2=>?_
  have A:D<=J+1:=A
  have L:Fg gp V n H2 n:=⟨ea _,λy _ C=>s2 y C⟩
  have K:=d1.fg L
  have d9:=d7.fg (a:=D) L W
  have aQ:=d8.trans L
  refine AB (A9 ..) ?_
  cases q0:decide (q=0)with
  |true=>
   rw[Ah]
   refine AB (AL3 hd) ?_
   refine iZ (cl:=nA) hE (.inl rfl) d9 (by show D+cst d+2<_;omega) λX n5 Y l e u E m5 Z he hu d2 _ hz=>?_
   have S:=E.le
   have Z:Y<=D+cst d:=Z
   refine RD he S λH6 T N=>?_
   refine SA (nm:=my) (es:=[e]) N λH7 n7 l7 O d3=>?_
   have I:=T.trans O
   exact bM hp ((K.fg E).kp I) ((aQ.trans E).trans (.kp I)) ⟨I.get m5.g a6,m5.pk⟩ (a:=Y) a6 a6 d3 (.of (.same _) (Gd.get hu d2 rfl a_) AJm)
  |false=>
  rw[AZ]
  refine AB (A9 ..) ?_
  cases q1:decide (q=1)with
  |true=>
   rw[Ah]
   refine AB (AL3 hd) ?_
   refine iZ (cl:=nA) hE (.inl rfl) d9 (by show D+cst d+2<_;omega) λX n5 Y l e u E m5 Z he hu d2 _ hz=>?_
   have S:=E.le
   have Z:Y<=D+cst d:=Z
   refine RD he S λH6 T N=>?_
   refine SA (nm:=yM) (es:=[e]) N λH7 n7 l7 O d3=>?_
   have I:=T.trans O
   exact bM hp ((K.fg E).kp I) ((aQ.trans E).trans (.kp I)) ⟨I.get m5.g a6,m5.pk⟩ (a:=Y) a6 a6 d3 (.of (.same _) (Gd.AV1 hu d2) AJm)
  |false=>
  rw[AZ]
  refine fN (kind:=10) (nm:=(0,0)) (.inl rfl) λH3 P f3=>?_
  have R:=f3.le
  refine Ao rfl λH4 f4 g4=>?_
  refine BX g4 rfl rfl a6 λX g5 s5=>?_
  have E:Kp H3 P X (P+1):=⟨f4.le,λy i=>(s5 y a6).trans (f4.same y i)⟩
  have M:=f3.trans E
  refine tV (G:=G) (vs:=ws2.map St.v) rfl (λv hv=>by obtain⟨x,_,rfl⟩:=_c.1 hv;exact⟨rfl,rfl⟩) λH6 T hw=>?_
  have hw:W1 G H6 (.sl (P+1) 0 2 2 1) ws2:=hw
  have d4:=M.trans T
  have m6:PA G H6 gp (s.to D):=⟨d4.get W.g a6,W.pk⟩
  refine EY m6 a6 a6 (by show D<_;omega) λH7 w Y f0 Z m7 s7=>?_
  have Z:Y<=D+1:=Z
  have O:Fg gp H6 (P+1+1) H7 (P+1+1):=⟨ea _,λy _ C=>s7 y C⟩
  have i7:=hw.fg O a6 a6
  obtain⟨p,i8,i9⟩:=i7.at f0
  refine AB i8 (AB i9 ?_)
  refine U0 (l:=ws2[w].1) (c:=ws2[w].2) λH8 n8 f8=>?_
  have p2:=f8.le
  have g8:=f8.get (O.get (T.get g5 a6) a6 a6) a6
  have f9:({nm:=ws2[w],arr:=false}:Ty)=tA∨({nm:=ws2[w],arr:=false}:Ty)=tB:=by
   match w,f0 with
   |0,_=>exact .inl rfl
   |1,_=>exact .inr rfl
  refine ADN (ty:=⟨ws2[w],false⟩) (kids:=[]) hp (((K.kp d4).fg O).kp f8) (((aQ.trans (.kp d4)).trans O).trans (.kp f8)) ⟨f8.get m7.g a6,m7.pk⟩ (a:=Y) a6 a6 g8 .nil ?_
  rcases f9 with e|e
  ·rw[e];exact .of (.same _) (Gd.new (.inl rfl)) AJm
  ·rw[e];exact .of .ba (Gd.new (.inr rfl)) AKY
 ·refine AB (v:=.bool true) rfl ?_
  rw[Ah]
  refine U0 (l:=1) (c:=65) λH2 n2 L=>?_
  have p3:=L.le
  refine AB (AL3 hd) ?_
  refine hE tA H2 n2 (s.to J) Γ _ (.inr (.inr (.inl rfl))) (d7.kp L) (by show J+cst d+2<_;omega) λH3 P D l e f3 m3 A he k0 hz=>?_
  have R:=f3.le
  have A:D<=J+cst d:=A
  have k1:=(d1.kp L).fg f3
  have k2:=(d8.trans (.kp L)).trans f3
  refine RD he R λH4 f4 N=>?_
  refine fN (kind:=19) (nm:=(0,0)) (.inr ⟨_,_,_,_,_,rfl⟩) λX n5 E=>?_
  have S:=E.le
  have g0:=N.mono (B:=Rg n2 n5) (H':=X) (λy i=>⟨i.1,by have:=i.2;omega⟩) λy i=>E.same y i.2
  refine Ao rfl λH6 T g6=>?_
  refine BX g6 rfl rfl a6 λH7 g7 s7=>?_
  have O:Kp X n5 H7 (n5+1):=⟨T.le,λy i=>(s7 y a6).trans (T.same y i)⟩
  have d5:=(f4.trans E).trans O
  have g1:=k1.kp d5
  have g2:=g0.mono (B:=λy=>b<y/\y<n5+1/\y≠n5/\y≠b+1) (H':=H7) (λy i=>by have:=i.1;have:=i.2;omega) λy i=>O.same y i.2
  refine AB (Be g1.b1) ?_
  obtain⟨u,k3,k4,_⟩:=k0.ex
  exact ADN hp g1 (k2.trans (.kp d5)) ⟨d5.get m3.g a6,m3.pk⟩ (a:=D) a6 a6 g7 g2 (.of (.same _) (Gd.asx (.inr rfl) k4 (AJT k3)) AKY)
end
abbrev y6(d:Nat):B2.ev .gtr (iN d) (iN 0)=some (.bool (decide (0<d))):=cM ..
abbrev AB8{b:Bool}{e:aAl}{P:V->Prop}(h:P (.CV [])):Ax (.CV []) b e P:=h
section
variable{G:AQ}{H:Heap}{n gp d:Nat}{s:Mg}{Γ:List BU}{k:KV}{t:Ty}
abbrev AMP(S:∀P,d=P+1->am G gp P)(T:d<1000)(D:t=tA∨t=tB)(h:Mk G H n gp s Γ)(U:s.at'+cst d<1000000000000)(Q:EPost G H n gp s Γ t (cst d-2) k):
 Runs F G IZ [.ptr gp 0,t.v,iN d] H n k:=by
 refine xN (XA Ae G) ?_;delta Oh;have E:=h.g;have V:=xE d;refine BE λH1 W X=>?_;refine Ao rfl λw R Y=>?_;have f:=W.trans R;have x:Bo w (n+1+1) n gp t:=⟨R.get X a6,Y,a6,E⟩;have mk:=h.kp f;have fg:=Fg.kp (gp:=gp) f;have q4:AM (.ptr gp 4) G w=some s.inn.v:=AK mk.m.g rfl;have rest:∀(q:Heap) (y:Nat),Fg gp w (n+1+1) q (n+1+1)->PA G q gp (s.to y)->y<=s.at'+1->AP0 G (Runs F G) (.ptr gp 0) (iN d) (.ptr n 0) (.ptr (n+1) 0) q (n+1+1) k:=λq y f3 B u=>
  ATz S T D (x.fg f3) (mk.fg f3 B) u U (fg.trans f3) Q
 have i:=rest w s.at' (Fg.refl ..) mk.m a6;have p:s.inn≠(0,0)->Rq t ⟨s.inn,false⟩->(⟨s.inn,false⟩:Ty)≠Ec->Runs F G AU [.ptr gp 0,iN 3] w (n+1+1) λI H A=>Ax (.bool true) true (BM (.one .int) false I (iN 0)) λJ=>AD (BI (.bool true) J (.bool false)) λK=>
  AS K (Runs F G Ab [(iN 5),(.str 0 0),.AT] H A λL H A=>A1 11 (.ptr (n+1) 0) L H A λZ H A=>CR (Ay [.cn (.ptr (n+1) 0) 11] G H) λl=>k (Bb l) H A)
   (AP0 G (Runs F G) (.ptr gp 0) (iN d) (.ptr n 0) (.ptr (n+1) 0) H A k):=by
  intro hi hr hn;refine EY mk.m a6 a6 a6 λq r y d0 u B s3=>?_;have f3:Fg gp w (n+1+1) q (n+1+1):=⟨ea _,λid _ M=>s3 id M⟩;refine MT (A9 ..) (V1 ?_);cases h0:decide (r=0)with
  |true=>
   rw[Ah];refine AG2 (a:=n+1+1) (nm:=(0,0)) λH4 n4 l4 C N=>?_;have d1:=C.le;exact bM Q ((x.fg f3).kp C) ((fg.trans f3).trans (.kp C)) ⟨C.get B.g a6,B.pk⟩ (a:=y) a6 a6 N (.of hr (Gd.this hi) hn)
  |false=>rw[AZ];exact rest q y f3 B u
 rw[BG,AJ,AP,AJ];refine AB q4 ?_;rcases h.inn with e|e|e
 .rw[e];refine AB (v:=.bool false) rfl ?_;repeat (first|with_reducible refine Wq ?_|with_reducible refine jL ?_|with_reducible refine AB8 ?_|with_reducible refine ah ?_)
  rw[AZ];exact i
 .rw[e]at p⊢;refine AB (v:=.bool true) rfl (MT rfl (MT (y6 d) (V1 ?_)));cases O:decide (0<d)with
  |false=>
   repeat (first|with_reducible refine Wq ?_|with_reducible refine jL ?_|with_reducible refine AB8 ?_|with_reducible refine ah ?_)
   rw[AZ];exact i
  |true=>
  rcases D with rfl|rfl
  .refine MT (CZ _ _) (MT (AK (off:=0) x.b1 (v:=tA.nm.v) rfl) (MT (a:=.bool true) rfl (MT rfl ?_)));repeat (first|with_reducible refine QD ?_)
   repeat (first|with_reducible refine AB8 ?_)
   refine MT (a:=.bool true) rfl (V1 ?_);exact MT rfl (wi (p a_ (.same _) AJm))
  .refine MT (CZ _ _) (MT (AK (off:=0) x.b1 (v:=tB.nm.v) rfl) (MT (a:=.bool false) rfl (MT rfl ?_)));refine S9 rfl (S9 (BG _ _) (S9 (by rw[AP]) (S9 q4 ?_)));refine S9 (a:=.bool false) (by rw[e];rfl) (MT (a:=.bool false) rfl (V1 ?_));repeat (first|with_reducible refine Wq ?_|with_reducible refine jL ?_|with_reducible refine AB8 ?_|with_reducible refine ah ?_)
   rw[AZ];exact i
 .rw[e]at p⊢;refine AB (v:=.bool true) rfl (MT rfl (MT (y6 d) (V1 ?_)));cases O:decide (0<d)with
  |false=>
   repeat (first|with_reducible refine Wq ?_|with_reducible refine jL ?_|with_reducible refine AB8 ?_|with_reducible refine ah ?_)
   rw[AZ];exact i
  |true=>
  rcases D with rfl|rfl
  .refine MT (CZ _ _) (MT (AK (off:=0) x.b1 (v:=tA.nm.v) rfl) (MT (a:=.bool true) rfl (MT rfl ?_)));repeat (first|with_reducible refine QD ?_)
   repeat (first|with_reducible refine AB8 ?_)
   refine MT (a:=.bool true) rfl (V1 ?_);exact MT rfl (wi (p a_ .ba AKY))
  .refine MT (CZ _ _) (MT (AK (off:=0) x.b1 (v:=tB.nm.v) rfl) (MT (a:=.bool false) rfl (MT rfl ?_)));refine S9 rfl (S9 (BG _ _) (S9 (by rw[AP]) (S9 q4 ?_)));refine S9 (a:=.bool true) (by rw[e];rfl) (MT (a:=.bool true) rfl (V1 ?_));exact MT rfl (wi (p a_ (.same _) AKY))
end
noncomputable def ARg(G:AQ)(call:Am)(a0 a2 v1 v2:V)(H:Heap)(n:Nat)(k:KV):Prop:=
 AD (AX 2 v1 G H) λv19=>
 call A7 [] H n λv20 H n=>
 AD (AX 2 v1 G H) λv=>B7 (Ak v v19) <|
 AD (BM (.agg [.str,.bool]) false v19 v20) λv21=>
 AS v21 (call Ce [a0,a2] H n λv22 H n=>
 A1 11 v2 v22 H n λv23 H n=>
 CR (Ay [.cn v2 11] G H) λl=>k (Bb l) H n) (AD (AX 2 v1 G H) λv24=>
 call CE [] H n λv25 H n=>
 AD (AX 2 v1 G H) λv=>B7 (Ak v v24) <|
 AD (BM (.agg [.str,.bool]) false v24 v25) λv26=>
 AS v26 (call Eb [a0,a2] H n λv27 H n=>
 A1 11 v2 v27 H n λv28 H n=>
 CR (Ay [.cn v2 11] G H) λl=>k (Bb l) H n) (AD (AX 2 v1 G H) λv29=>
 call Cm [] H n λv30 H n=>
 AD (AX 2 v1 G H) λv=>B7 (Ak v v29) <|
 AD (BM (.agg [.str,.bool]) false v29 v30) λv31=>
 AS v31 (AD (B2.ev .gtr a2 (iN 0)) λv32=>
 Ax v32 true (some a0) λv33=>
 Et v32 true (call AU [v33,(iN 3)] H n) H n λv34 H n=>
 Ax v32 true (B2.ev .gtr v34 (iN 0)) λv35=>
 AD (BI v32 v35 (.bool false)) λv36=>
 AS v36 (AD (B2.ev .sub a2 (iN 1)) λv37=>
 call A2 [a0,(.str 1 65),v37] H n λv38 H n=>
 Au (AY 11 1 [(iN 0),(iN 0),(iN 0),(iN 0),(.str 0 0),(.str 0 0),(.bool false),.AT,(.str 0 0),(.bool false),(.str 0 0)] [(0,.c v38)] E0) H n λv39 H n=>
 call Ab [(iN 7),(.str 2 29560),v39] H n λv40 H n=>
 A1 11 v2 v40 H n λv41 H n=>
 CR (Ay [.cn v2 11] G H) λl=>k (Bb l) H n) (call AU [a0,(iN 6)] H n λv42 H n=>
 call K1 [v42] H n λv43 H n=>
 Au (AY 11 1 [(iN 0),(iN 0),(iN 0),(iN 0),(.str 0 0),(.str 0 0),(.bool false),.AT,(.str 0 0),(.bool false),(.str 0 0)] [(0,.c v43)] E0) H n λv44 H n=>
 call Ab [(iN 11),(.str 0 0),v44] H n λv45 H n=>
 Au (Af 11 [[(iN 0),(iN 0),(iN 0),(iN 0),(.str 0 0),(.str 0 0),(.bool false),.AT,(.str 0 0),(.bool false),(.str 0 0)]] E0) H n λv46 H n=>
 A1 11 v46 v45 H n λv47 H n=>
 AD (B2.ev .gtr a2 (iN 0)) λv54=>
 Ax v54 true (some a0) λv55=>
 Et v54 true (call AU [v55,(iN 4)] H n) H n λv56 H n=>
 Ax v54 true (BM (.one .int) false v56 (iN 0)) λv57=>
 AD (BI v54 v57 (.bool false)) λv58=>
 AS v58 (AD (B2.ev .sub a2 (iN 1)) λv59=>
 call Ce [a0,v59] H n λv60 H n=>
 Au (AY 11 1 [(iN 0),(iN 0),(iN 0),(iN 0),(.str 0 0),(.str 0 0),(.bool false),.AT,(.str 0 0),(.bool false),(.str 0 0)] [(0,.c v60)] E0) H n λv61 H n=>
 AD (AG 7 v46) λv62=>
 A1 1 v62 v61 H n λv63 H n=>
 Bc lfp G call k v2 v46 H n) (Bc lfp G call k v2 v46 H n))) (AD (AX 2 v1 G H) λv64=>
 call IZ [a0,v64,a2] H n λv65 H n=>
 A1 11 v2 v65 H n λv66 H n=>
 CR (Ay [.cn v2 11] G H) λl=>k (Bb l) H n)))
section
variable{G:AQ}{H H0:Heap}{n gp d b a0:Nat}{s:Mg}{Γ:List BU}{k:KV}{t:Ty}
abbrev AIO(i:∀f,f<d->am G gp f)(p:d<1000)(h:Mk G H n gp s Γ)(m:s.at'+cst d<1000000000000)(g:EPost G H n gp s Γ BY (cst d-2) k):Runs F G Ce [.ptr gp 0,iN d] H n k:=by
 cases d with
 |zero=>exact ASE h (by have:cst 0=10:=rfl;omega) g
 |succ d=>exact AU2 (i d a6) a6 h m g
abbrev AMS(i:∀f,f<d->am G gp f)(p:d<1000)(h:Mk G H n gp s Γ)(m:s.at'+cst d<1000000000000)(g:EPost G H n gp s Γ A3 (cst d-2) k):Runs F G Eb [.ptr gp 0,iN d] H n k:=by
 cases d with
 |zero=>exact AOy h (by have:cst 0=10:=rfl;omega) g
 |succ d=>exact ASX (i d a6) a6 h m g
abbrev ALI(x:EPost G H0 b gp s Γ wN c0 k)(q:Bo H n b gp wN)(f:Fg gp H0 b H n)(m:PA G H gp (s.to a))(y:a<=s.at'+c0)(u:b+1<c)(w:c<n)
 (A:T.get H c=some (one (Mb 11 0 (0,0) IY IY (0,0) 0 0 v))) (B:Kt G H (λi=>b<i/\i<n/\i≠c/\i≠b+1) v [e]) (C:Gd s.inn Γ e BY) (E:11*(e.cz+1)<=2*c0+4:=by first|omega|(simp[Te.cz,OG,pZ]<;>omega)):
 Bc lfp G (Runs F G) k (.ptr (b+1) 0) (.ptr c 0) H n:=by delta Bc;have:=q.g;have:=q.le;refine Hg λI J p=>?_;have D:=p.le;exact ADN (ty:=BY) x (q.kp p) (f.trans (.kp p)) ⟨p.get m.g a6,m.pk⟩ y u (p.get A w) (B.mono (λi d=>⟨d.1,a6,d.2.2⟩) λi d=>p.same i d.2.1) (.of (.same _) (Gd.arr C) ANl) (by simp[Te.cz,OG,pZ];omega)
abbrev AIW(hE:∀d',d'<d->am G gp d')(hd:d<1000)(ht:GW t)(hb:Bo H n b gp t)(h:Mk G H n gp (s.to a0) Γ)(p1:a0<=s.at'+2)(hs:s.at'+cst d+2<1000000000000)(f:Fg gp H0 b H n)(Y:EPost G H0 b gp s Γ t (cst d) k):
 ARg G (Runs F G) (.ptr gp 0) (iN d) (.ptr b 0) (.ptr (b+1) 0) H n k:=by
 unfold ARg;have p2:=xE d;have p3:=jh d;have p4:=hb.le;have p5:=hb.g;refine AB (Be hb.b1) ?_;refine Hg λH1 n1 f1=>?_;have p6:=f1.le;have J:=hb.kp f1;have d6:=h.kp f1;have d7:=f.trans (.kp f1);refine AB (Be J.b1) (Ba (FH _) (AB (UX t BY) ?_));cases e1:t.is BY with
 |true=>
  have e1:=Ty.jF.1 e1;subst e1;rw[Ah];refine AIO hE hd d6 (by show a0+cst d<_;omega) λH2 n2 a l e Z m2 U K hg hz=>?_;have U:a<=a0+(cst d-2):=U;exact bM Y (J.fg Z) (d7.trans Z) m2 (a:=a) a6 a6 K hg
 |false=>
 rw[AZ];refine AB (Be J.b1) ?_;refine Fw λH2 n2 Z=>?_;have p7:=Z.le;have L:=J.kp Z;have d8:=d6.kp Z;have aQ:=d7.trans (.kp Z);refine AB (Be L.b1) (Ba (FH _) (AB (UX t A3) ?_));cases e2:t.is A3 with
 |true=>
  have e2:=Ty.jF.1 e2;subst e2;rw[Ah];refine AMS hE hd d8 (by show a0+cst d<_;omega) λH3 I a l e f3 m3 U K hg hz=>?_;have U:a<=a0+(cst d-2):=U;exact bM Y (L.fg f3) (aQ.trans f3) m3 (a:=a) a6 a6 K hg
 |false=>
 rw[AZ];refine AB (Be L.b1) ?_;refine oc λH3 I f3=>?_;have p8:=f3.le;have y:=L.kp f3;have A:=d8.kp f3;have M:=aQ.trans (.kp f3);refine AB (Be y.b1) (Ba (FH _) (AB (UX t wN) ?_));cases e3:t.is wN with
 |true=>
  have e3:=Ty.jF.1 e3;subst e3;rw[Ah];have arr:∀(N:Heap) (B:Nat),Fg gp H3 I N I->PA G N gp (s.to B)->B<=a0+1->Runs F G AU [.ptr gp 0,iN 6] N I λi4 H n=>Runs F G K1 [i4] H n λi5 H n=>
   Au (AY 11 1 xO [(0,.c i5)] E0) H n λi6 H n=>Runs F G Ab [(iN 11),(.str 0 0),i6] H n λi7 H n=>Au (Af 11 [xO] E0) H n λO H n=>A1 11 O i7 H n λp9 H n=>
   AD (B2.ev .gtr (iN d) (iN 0)) λP=>Ax P true (some (.ptr gp 0)) λi8=>Et P true (Runs F G AU [i8,iN 4] H n) H n λi9 H n=>
   Ax P true (BM (.one .int) false i9 (iN 0)) λk0=>AD (BI P k0 (.bool false)) λk1=>AS k1 (AD (B2.ev .sub (iN d) (iN 1)) λk2=>
    Runs F G Ce [.ptr gp 0,k2] H n λk3 H n=>Au (AY 11 1 xO [(0,.c k3)] E0) H n λk4 H n=>AD (AG 7 O) λk5=>A1 1 k5 k4 H n λq1 H n=>Bc lfp G (Runs F G) k (.ptr (b+1) 0) O H n)
    (Bc lfp G (Runs F G) k (.ptr (b+1) 0) O H n):=by
   intro N B Q m4 R;refine EY m4 a6 a6 (by show B<_;omega) λH5 r S hr C m5 s5=>?_;have C:S<=B+1:=C;have f5:Fg gp N I H5 I:=⟨ea _,λp _ w=>s5 p w⟩;have k6:=Q.trans f5;refine AQn λH6 n6 f6=>?_;have k7:=f6.le;refine RD (G:=G) (a:=I) (e:=.mk 1 r (0,0) IY IY (0,0) []) (C3.of .nil) k7 λH7 f7 d0=>?_;refine fN (kind:=11) (nm:=(0,0)) (.inr ⟨_,_,_,_,_,rfl⟩) λH8 n8 f8=>?_;have q2:=f8.le;refine Ao rfl λH9 f9 g9=>?_;refine BX g9 rfl rfl a6 λT d9 k8=>?_;have f0:Kp H8 n8 T (n8+1):=⟨f9.le,λp i=>(k8 p a6).trans (f9.same p i)⟩;have V:=((f6.trans f7).trans f8).trans f0;have x:=k6.trans (Fg.kp (gp:=gp) V);have W:=y.fg x;have d1:PA G T gp (s.to S):=⟨V.get m5.g a6,m5.pk⟩;have D:Kt G T (λp=>b<p/\p<n8+1/\p≠n8/\p≠b+1) (.sl n6 0 1 1 11) [.mk 1 r (0,0) IY IY (0,0) []]:=d0.mono (λp i=>tw i.1 i.2) λp i=>(f8.trans f0).same p (hN i.2);have X:=M.trans x;cases d with
   |zero=>
    refine AB (y6 0) ?_;rw[eg a6];refine Wq (jL (Wq (ah ?_)));rw[AZ];exact ALI Y W X d1 (a:=S) a6 a6 a6 d9 D Gd.num
   |succ d=>
    have k9:cst (d+1)=10+3*cst d:=rfl;refine AB (y6 (d+1)) ?_;rw[ui a6];refine MT rfl (wi ?_);refine EY d1 a6 a6 (by show S<_;omega) λg0 q a3 hq PW g1 g2=>?_;have PW:a3<=S+1:=PW;have E:Fg gp T (n8+1) g0 (n8+1):=⟨ea _,λp _ w=>g2 p w⟩;have g3:=W.fg E;have g4:=X.trans E;have g5:=E.get d9 a6 a6;refine MT (A9 ..) (V1 ?_);cases q0:decide (q=0)with
    |false=>
     rw[AZ];exact ALI Y g3 g4 g1 (a:=a3) a6 a6 a6 g5 (D.mono (λp h=>h) λp i=>g2 p a6) Gd.num
    |true=>
     rw[Ah];refine AB (AL3 hd) ?_;have g6:Mk G g0 (n8+1) gp (s.to a3) Γ:=((A.fg (a:=S) x d1)).fg (a:=a3) E g1;refine AIO (λd' e=>hE d' a6) a6 g6 (by show a3+cst d<_;omega) λq3 g7 a4 l e d2 g8 ji K hg hz=>?_;have i0:=d2.le;have ji:a4<=a3+(cst d-2):=ji;have m0:=d2.get g5 a6 a6;refine RD K i0 λq4 d3 i1=>?_;rw[AP,AJ];refine FK (off:=0+7) (m:=1) (v:=.sl g7 0 1 1 11) (d3.get m0 a6) rfl rfl a6 (by show 0+7+1<=11;omega) λm1 m6 d4=>?_;have i2:Fg gp H3 I m1 (g7+1):=⟨a6,λp i w=>(d4 p a6).trans ((d3.same p a6).trans ((d2.same p a6 w).trans ((E.same p a6 w).trans (x.same p i w))))⟩;exact ALI Y (y.fg i2) (M.trans i2) ⟨(d4 gp a6).trans (d3.get g8.g a6),g8.pk⟩ (a:=a4) a6 a6 a6 m6 (i1.mono (λp i=>tw i.1 i.2) λp i=>d4 p (hN i.1)) hg.int
  have i3:=arr H3 a0 (Fg.refl ..) A.m a6;cases d with
  |zero=>
   refine AB (y6 0) ?_;rw[eg a6];refine Wq (jL (Wq (ah ?_)));rw[AZ];exact i3
  |succ d=>
   have k9:cst (d+1)=10+3*cst d:=rfl;refine AB (y6 (d+1)) ?_;rw[ui a6];refine MT rfl (wi ?_);refine EY A.m a6 a6 (by show a0<_;omega) λN q B hq R m4 s4=>?_;have R:B<=a0+1:=R;have Q:Fg gp H3 I N I:=⟨ea _,λp _ w=>s4 p w⟩;refine MT (y6 q) (V1 ?_);cases q0:decide (0<q)with
   |false=>rw[AZ];exact arr N B Q m4 R
   |true=>
    rw[Ah];refine AB (AL3 hd) ?_;refine iZ (cl:=nA) (hE d a6) (.inl rfl) (A.fg (a:=B) Q m4) (by show B+cst d+2<_;omega) λH5 n5 S l e u f5 m5 C K hu m7 _ hz=>?_;have m8:=f5.le;have C:S<=B+cst d:=C;refine RD K m8 λH6 f6 d0=>?_;refine SA (nm:=AGj) (es:=[e]) d0 λH7 n7 l7 f7 m9=>?_;have d5:=f6.trans f7;exact bM Y (((y.fg Q).fg f5).kp d5) (((M.trans Q).trans f5).trans (.kp d5)) ⟨d5.get m5.g a6,m5.pk⟩ (a:=S) a6 a6 m9 (.of (.same _) (Gd.get hu m7 rfl a_) ANl)
 |false=>
 rw[AZ];have p0:t=tA∨t=tB:=by
  rcases ht with rfl|rfl|rfl|rfl|rfl
  .rw[Ty.VF]at e1;cases e1
  .rw[Ty.VF]at e2;cases e2
  .exact .inl rfl
  .exact .inr rfl
  .rw[Ty.VF]at e3;cases e3
 refine AB (Be y.b1) ?_;refine AMP (λd' e=>hE d' a6) hd p0 A (by show a0+cst d<_;omega) λN n4 a l e Q m4 U K hg hz=>?_;have U:a<=a0+(cst d-2):=U;exact bM Y (y.fg Q) (M.trans Q) m4 (a:=a) a6 a6 K hg
end
abbrev AMV{inn:St}{Γ:aAm}(h:Zf Γ m){f:BU}(g:f∈Γ)(d:Fit t f.ty):Vr inn Γ (.mk 6 0 f.nm IY IY (0,0) []) t:=
 .of d.rq (Gd.loc (tP h.nd g)) (by rcases h.ty f g with e|e|e|e|e<;>rw[e];exact int_ne;exact U9;exact AJm;exact AKY;exact ANl)
abbrev ANz{b:Bool}{t:KV->Prop}{Q:KV}(h:Q (.CV []) H n):Et (.CV []) b t H n Q:=h
section
variable{G:AQ}{gp:Nat}
abbrev AJl(d:Nat)(X:d<1000)(Y:∀Z,Z<d->am G gp Z):am G gp d:=by
 intro t H n s Γ k ht h hs L;refine xN (Zi Ae G) ?_;delta Qz;have M:=h.g;have d0:=xE d;refine BE λH1 f1 g1=>?_;refine Ao rfl λN f2 g2=>?_;have f:=f1.trans f2;have O:Bo N (n+1+1) n gp t:=⟨f2.get g1 a6,g2,a6,M⟩;have mk:=h.kp f;have fg:=Fg.kp (gp:=gp) f;refine AB (Be O.b1) ?_;refine APT mk.m mk.g mk.v a6 (λP p f3 C=>?_) (λP p l a hl D ha f3 C=>?_)
 .have Q:=f3.le;rw[OC,AJ,N4,AJ];refine Ao rfl λH4 E R=>?_;refine BX R rfl rfl a6 λq g5 S=>?_;have F:Kp P p q (p+1):=⟨E.le,λy A=>(S y a6).trans (E.same y A)⟩;repeat (first|with_reducible refine Wq ?_|with_reducible refine jL ?_|with_reducible refine AB8 ?_|with_reducible refine ANz ?_|with_reducible refine ah ?_)
  rw[AZ];have i:Fg gp N (n+1+1) q (p+1):=f3.trans (.kp F);exact AIW (s:=s) (a0:=s.at') Y X ht (O.fg i) (mk.fg (a:=s.at') i ⟨F.get C.g a6,C.pk⟩) a6 a6 (fg.trans i) L
 .have Q:=f3.le;rw[OC,AJ,N4,AJ];refine Ao rfl λH4 E R=>?_;refine BX R rfl rfl a6 λq g5 S=>?_;have F:Kp P p q (p+1):=⟨E.le,λy A=>(S y a6).trans (E.same y A)⟩;have i:Fg gp N (n+1+1) q (p+1):=f3.trans (.kp F);have I:=O.fg i;have T:PA G q gp (s.to a):=⟨F.get C.g a6,C.pk⟩;have U:=mk.fg (a:=a) i T;have J:=fg.trans i;have B:=AMV (inn:=s.inn) h.UZ hl D;have take:∀(w:Heap) (a1:Nat),Fg gp q (p+1) w (p+1)->PA G w gp (s.to a1)->a1<=a+1->AD (AX 11 (.ptr p 0) G w) λV=>A1 11 (.ptr (n+1) 0) V w (p+1) λd1 H n'=>CR (Ay [.cn (.ptr (n+1) 0) 11] G H) λl=>k (Bb l) H n':=by intro w a1 x K u;have g6:=x.get g5 a6 a6;refine AB (As (m:=11) g6 a6 rfl) ?_;exact bM (l:=Mb 6 0 l.nm IY IY (0,0) 0 0 .AT) (a1:=n+1+1) (e:=.mk 6 0 l.nm IY IY (0,0) []) L (I.fg x) (J.trans x) K (a:=a1) a6 a6 (C3.of .nil) B
  refine MT rfl (MT (yE d) (MT rfl ?_));cases d with
  |zero=>
   rw[ui (ea 0)];refine QD (AFB (QD (MT (a:=.bool true) rfl (V1 ?_))));rw[Ah];exact take q a (Fg.refl ..) T a6
  |succ d=>
   rw[eg a6];refine S9 rfl (AFl ?_);refine EY T a6 a6 (by show a<_;omega) λw r a1 hr u K s6=>?_;have u:a1<=a+1:=u;have x:Fg gp q (p+1) w (p+1):=⟨ea _,λy _ W=>s6 y W⟩;refine S9 (A9 ..) ?_;cases r0:decide (r=0)with
   |true=>
    refine MT (a:=.bool true) rfl (V1 ?_);rw[Ah];exact take w a1 x K u
   |false=>
    refine MT (a:=.bool false) rfl (V1 ?_);rw[AZ];exact AIW (s:=s) (a0:=a1) Y X ht (I.fg x) (U.fg (a:=a1) x K) a6 a6 (J.trans x) L
abbrev Jg:∀d,d<1000->am G gp d:=by
 intro d;induction d using Nat.strongRecOn with
 |_ d f=>intro g;exact AJl d g λi h=>f i h a6
end
def typs:aAv:=[BY,BY,A3,tA,tB,wN]
section
variable{G:AQ}{H:Heap}{n gp:Nat}{s:Mg}{Γ:List BU}{k:KV}
abbrev AVa(h:Mk G H n gp s Γ)(R:s.at'<1000000000000)(S:∀y L a t,GW t->a<=s.at'+1->Fg gp H n y L->PA G y gp (s.to a)->k t.v y L):Runs F G SE [.ptr gp 0] H n k:=by
 refine go1 (bP Ae G) ?_;delta SI;have A:=h.g;refine Ao rfl λH1 M U=>?_;refine Hg λH2 n2 V=>Hg λH3 n3 f3=>Fw λH4 n4 W=>U0 (l:=1) (c:=65) λH5 n5 X=>U0 (l:=1) (c:=66) λH6 n6 Y=>oc λH7 N Z=>?_;have q:=((((V.trans f3).trans W).trans X).trans Y).trans Z;have YE:=q.le;refine M1 (G:=G) (vs:=typs.map Ty.v) rfl a6 (λv hv=>by obtain⟨x,_,rfl⟩:=_c.1 hv;exact⟨rfl,rfl⟩) λH8 f8 _ B=>?_;have d:=q.trans f8;have m8:PA G H8 gp s:=⟨d.get (M.get h.m.g A) a6,h.m.pk⟩;refine EY m8 a6 a6 R λO r a P ha Q C=>?_;have D:El G O (.sl N 0 6 6 2) 2 (typs.map Ty.cells):=El.same B λu f=>by cases f;exact C _ a6
 have⟨p,hp,E⟩:=D.at (i:=r) (c:=typs[r].cells) (by rw[pe,eb P];rfl);refine AB hp (AB (BZ E) ?_);have g9:T.get O n=_:=(C n a6).trans (d.get U a6);refine BX g9 rfl rfl a6 λI J w=>?_;rw[By (m:=2) J a6 rfl];simp only[go_sem];refine S I (N+1) a typs[r] ?_ ha ⟨a6,λu f K=>(w u a6).trans ((C u K).trans ((d.same u a6).trans (M.same u f)))⟩ ⟨(w gp a6).trans Q.g,Q.pk⟩;match r,P with
 |0,_=>exact .inl rfl
 |1,_=>exact .inl rfl
 |2,_=>exact .inr (.inl rfl)
 |3,_=>exact .inr (.inr (.inl rfl))
 |4,_=>exact .inr (.inr (.inr (.inl rfl)))
 |5,_=>exact .inr (.inr (.inr (.inr rfl)))
abbrev il:LV:=[iN 0,iN 0,iN 0,.str 0 0,.str 0 0,.bool false,.AT,.AT,.AT]
abbrev ACO(q:∀g i,Kp H n g i->k (.agg (SB d 0 0 (0,0) IY (.sl id 0 m m 11) .AT .AT)) g i):Runs F G Aw [iN d,.sl id 0 m m 11] H n k:=by refine go2 (XI Ae G) ?_;delta Oj;refine Ao rfl λy p u=>?_;refine AB (v:=.agg (SB d 0 0 (0,0) IY (.sl id 0 m m 11) .AT .AT)) rfl ?_;refine BX u rfl rfl a6 λA w x=>?_;rw[By (m:=9) w a6 rfl];simp only[go_sem];exact q _ _ ⟨p.le,λid f=>(x id a6).trans (p.same id f)⟩
end
end Go.RL
