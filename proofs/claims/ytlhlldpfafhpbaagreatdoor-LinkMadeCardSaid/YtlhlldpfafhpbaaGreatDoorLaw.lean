/- Part of a proof; nothing is assumed. -/
import Derived.Test.YtlhlldpfafhpbaaGreatDoorConK
set_option linter.unusedVariables false
set_option linter.unusedSimpArgs false
namespace Go.RL
open Go.BN
set_option maxRecDepth 100000
def wD:LV:=[.str 0 0,.int .i32 (.ofNat 0) 0,.str 3 7630441,.int .i32 (.ofNat 110) 0,.str 4 1819047278,.int .i32 (.ofNat 0) 0,.str 5 465490374508,.int .i32 (.ofNat 108) 0,.str 5 435711603827,.int .i32 (.ofNat 108) 0,.str 3 6579297,.int .i32 (.ofNat 0) 0,.str 3 6452595,.int .i32 (.ofNat 0) 0,.str 3 7107949,.int .i32 (.ofNat 0) 0,.str 3 7760228,.int .i32 (.ofNat 0) 0,.str 3 6582125,.int .i32 (.ofNat 0) 0,.str 4 1936942444,.int .i32 (.ofNat 0) 0,.str 4 1953722221,.int .i32 (.ofNat 0) 0,.str 4 1701667187,.int .i32 (.ofNat 0) 0,.str 5 491327616111,.int .i32 (.ofNat 0) 0,.str 3 6776174,.int .i32 (.ofNat 0) 0,.str 3 7630702,.int .i32 (.ofNat 0) 0,.str 3 7628135,.int .i32 (.ofNat 102) 0,.str 3 7632240,.int .i32 (.ofNat 102) 0,.str 3 7824750,.int .i32 (.ofNat 99) 0,.str 5 521325933153,.int .i32 (.ofNat 116) 0,.str 4 1684107116,.int .i32 (.ofNat 116) 0,.str 4 1702257011,.int .i32 (.ofNat 116) 0,.str 6 114849160783212,.int .i32 (.ofNat 0) 0,.str 4 1953718627,.int .i32 (.ofNat 99) 0,.str 2 29545,.int .i32 (.ofNat 99) 0,.str 4 1819042147,.int .i32 (.ofNat 109) 0,.str 6 109304575259763,.int .i32 (.ofNat 109) 0,.str 4 1886221674,.int .i32 (.ofNat 106) 0,.str 6 126939460038261,.int .i32 (.ofNat 106) 0,.str 6 121437875889522,.int .i32 (.ofNat 0) 0,.str 5 500068610672,.int .i32 (.ofNat 0) 0,.str 3 7368560,.int .i32 (.ofNat 0) 0,.str 4 1819242338,.int .i32 (.ofNat 98) 0]
def AAu(G:AQ):Prop:=∀o,o<66->G 0 o 1=some ((wD.drop o).take 1)
abbrev AR8:∀c,c<33->(wD.drop (c*2+1)).take 1=[V.int .i32 (.ofNat (AIC.getD c 0)) 0]:=λc d=>
 match c,d with
 |0,_=>rfl
 |1,_=>rfl
 |2,_=>rfl
 |3,_=>rfl
 |4,_=>rfl
 |5,_=>rfl
 |6,_=>rfl
 |7,_=>rfl
 |8,_=>rfl
 |9,_=>rfl
 |10,_=>rfl
 |11,_=>rfl
 |12,_=>rfl
 |13,_=>rfl
 |14,_=>rfl
 |15,_=>rfl
 |16,_=>rfl
 |17,_=>rfl
 |18,_=>rfl
 |19,_=>rfl
 |20,_=>rfl
 |21,_=>rfl
 |22,_=>rfl
 |23,_=>rfl
 |24,_=>rfl
 |25,_=>rfl
 |26,_=>rfl
 |27,_=>rfl
 |28,_=>rfl
 |29,_=>rfl
 |30,_=>rfl
 |31,_=>rfl
 |32,_=>rfl
 |n+33,h=>absurd h a6
variable{G:AQ}
abbrev AAu.op(h:AAu G):dZ G:=λc d=>by rw[h _ a6,AR8 c d]
section
attribute [local irreducible] run
end
section
variable{G:AQ}{H H':Heap}{n n':Nat}{k:KV}{A:Nat->Prop}
end
section
variable{G:AQ}{H H':Heap}{n n':Nat}{k:KV}{A B:Nat->Prop}{v:V}{LS:Bh}{L:LV}
end
section
variable{G:AQ}{H H':Heap}{n n':Nat}{k:KV}{a1 a2 n1:Nat}{b:Bd}{h:Nat->Nat}{R:Nat->Prop}{sn:Nat->Bool}{v:V}{td:List Nat}
end
section
variable{G:AQ}{H H':Heap}{n n':Nat}{k:KV}{a1 a2 n1:Nat}{b:Bd}{h:Nat->Nat}{R:Nat->Prop}{sn:Nat->Bool}{v:V}{td:List Nat}
end
variable{tb:Tab}
abbrev qT{c f:Tc}(d:ASc c)(h:Yy tb c=some f):ASc f:=by obtain⟨g,u,rfl⟩:=d_.1 (show((lE tb c.nm c.ms).map λp=>({c with ms:=p}:Tc))=some f from h);have⟨B,v,x⟩:=AAB u;refine⟨d.nm,d.sup,d.fs,λy i=>?_,d.lf,by show g.length<20;rw[v];exact d.lm⟩;have⟨m,A,k⟩:=x y i;have w:=AGx k;have q:=d.ms m A;exact⟨by rw[w.nm];exact q.nm,by rw[w.ret];exact q.ret,by rw[w.ps];exact q.ps,by rw[w.ps];exact q.ln⟩
variable{v:V}{f:Fl}{t:Nat}{a:Nat}{b:Nat}{Cp:List Fl}
section
variable{G:AQ}{H:Heap}{n:Nat}{k:KV}{A:Nat->Prop}
abbrev yA{v:V}{L:LV}(h:sH G H n (.agg L) f):L.length=10:=by have⟨k,m,p,q,u,w,x,y,A,d,B,g,i,e⟩:=h;cases e;rw[i.is];rfl
abbrev fB(hG:RN G)(hO:dZ G){ds:Bh}{cs:List Tc}{Cp:kE}(ht:TabAt G H n t a b tb)(d7:tb.length<=1000)(d0:El G H v 6 ds)(d1:∀id,v.CD=some id->A id)(hA:∀id,A id->id<n/\id≠b)(d8:ds.length=cs.length)(g6:Cp.length=cs.length)(g9:cs.length<=100)
 (d9:∀(i:Nat) (c:Tc) (f:Fl),cs[i]? =some c->Cp[i]? =some f->∃d,ds[i]? =some d/\WP G H A d c/\ASc c/\cO tb c/\fT tb c f)
 (hk:∀H' n' w y,Kb b H n H' n'->Sk H' 10 (λid=>n<=id/\id<n') w y->y.length=Cp.length->(∀(i:Nat) (f:Fl),Cp[i]? =some f->∃L,y[i]? =some L/\vj G H' n (λid=>n<=id/\id<n') (.agg L) f)->k (.CV [w,.bool true]) H' n'):Runs F G HG [.ptr t 0,v] H n k:=by
 refine go2 (Pn Ae G) ?_;delta Kz;have f0:=ht.bn;refine AYs a6 λH1 f1 g1=>?_;have⟨t1,g1⟩:=g1;have f8:=d0.same (H':=H1) λid g=>f1.same id (hA id (d1 id g)).1;refine AB (v:=.int .i64 (.ofNat cs.length) 0) (by rw[f8.len,d8]) ?_;refine BL (N:=cs.length) (J:=λj s=>∃H' n' w y,s=(.ptr t 0,w,v,iN cs.length,iN j,H',n')/\Kb b H n H' n'/\n<=n'/\Sk H' 10 (λid=>n<=id/\id<n') w y/\y.length=j/\
  (∀(i:Nat) (f:Fl),i<j->Cp[i]? =some f->∃L,y[i]? =some L/\vj G H' n (λid=>n<=id/\id<n'/\w.CD≠some id) (.agg L) f)) ?_ ?_
  ⟨H1,n+1,_,[],rfl,f1.kb f0,a6,.emp g1 ⟨a6,a6⟩,rfl,λi f h=>a6⟩
 .rintro I j s d2 ⟨B,C,w,y,rfl,f3,f9,O,P,Q⟩ ih;show EL lfp G (Runs F G) k I (.ptr t 0) w v (iN cs.length) (iN j) B C;delta EL;have D:=eb d2;have R:=eb (show j<Cp.length by omega);have⟨d,hd,hc,d3,d4,S⟩:=d9 j _ _ D R;generalize cs[j]=c at D hc d3 d4 S;generalize Cp[j]=f at R S;have E:∀id,A id->T.get B id=T.get H id:=λid g=>f3.same id (hA id g).1 (hA id g).2;have⟨p,hp,g0⟩:=(d0.same (H':=B) λid g=>E id (d1 id g)).at hd;rw[Bf,AJ,ui d2,Ah];refine AB hp (AB (BZ g0) ?_);refine Ao rfl λH4 f4 g4=>?_;refine BX g4 rfl hc.len a6 λH5 g5 s5=>?_;refine AB (As (m:=6) g5 a6 hc.len) ?_;have U:Kp B C H5 (C+1):=⟨f4.le,λid g=>(s5 id a6).trans (f4.same id g)⟩;have f5:=f3.trans (U.kb (b:=b) a6);refine APO (n0:=n) (A:=A) hG hO (ht.kb (f5.low o_)) a6 d7 (hc.mono (λ_ h=>h) λid g=>(U.same id (hN (hA id g))).trans (E id g)) (λid g=>hN (hA id g)) d3 d4 S λH6 n6 w6 f6 d5=>?_;have i0:=f6.le;rw[OC,AJ,N4,AJ];have d6:=d5 H6 n6 .refl a6 (λ_ _=>rfl) λid g=>g.2;obtain⟨L,e0⟩:∃L,w6=.agg L:=by have⟨L',vf,vm,v0,v1,v2,v3,v4,vb,i1,ws,i2,S,e⟩:=d6;exact⟨L',e⟩
  subst e0;have hL:=yA (v:=.AT) d6;refine Ao rfl λH7 f7 g7=>?_;refine BX g7 rfl hL a6 λH8 g8 s8=>?_;have W:Kp H6 n6 H8 (n6+1):=⟨f7.le,λid g=>(s8 id a6).trans (f7.same id g)⟩;refine AB (zN ..) ?_;show AS (.bool false) _ _;rw[AZ];refine AB (As (m:=10) g8 a6 hL) ?_;have x:Kb b B C H8 (n6+1):=(U.kb (b:=b) a6).trans (f6.trans (W.kb a6));have X:Sk H8 10 (λid=>n<=id/\id<C) w y:=O.mono (λ_ h=>h) λid h=>x.same id h.2 a6;refine X.app (bs:=224) (c:=.agg L) (m:=0) (λid g=>hN (X.own g)) a6 rfl hL a6 λw' H9 g2 u K=>?_;rw[CA a6,AJ];have Z:∀id,w.CD=some id->n<=id/\id<C:=λid e=>X.own e;refine ih _ ⟨H9,n6+1+2,w',y++[L],rfl,⟨a6,λid h1 h2=>(u id a6 λe=>hN (Z _ e)).trans ((x.same id a6 h2).trans (f3.same id h1 h2)),λhs=>(x.seen (f3.seen hs)).same (u _ a6 λe=>hN (Z _ e))⟩,a6,g2 _ ⟨a6,a6⟩,by rw[uk,P];rfl,λi f2 hi Y=>?_⟩;by_cases e:i=j
  .subst e;rw[R]at Y;cases Y;refine⟨L,by rw[i_ a6,P];simp,?_⟩;refine d5.mono (Kp.ke ⟨ea _,λid g=>(u id a6 λe=>hN (Z _ e)).trans (W.same id a6)⟩) (λid g=>⟨a6,a6,by rw[K];intro e;cases e;omega⟩) λid g=>?_;exact(u id a6 λe=>hN (Z _ e)).trans (W.same id g.2)
  .obtain⟨M,h1,h2⟩:=Q i f2 a6 Y;refine⟨M,by rw[qi (hN ((us.1 h1).1))];exact h1,?_⟩;have g3:Kb b B n H9 n:=⟨ea _,λid q1 q2=>(u id a6 λe=>hN (Z _ e)).trans (x.same id a6 q2),λq=>(x.seen q).same (u _ a6 λe=>hN (Z _ e))⟩;exact h2.mono (g3.ke (f3.seen ht.seen)) (λid g=>⟨g.1,a6,by rw[K];intro e;cases e;omega⟩) λid g=>(u id a6 g.2.2).trans (x.same id a6 a6)
 .rintro I s ⟨B,C,w,y,rfl,f3,f9,O,P,Q⟩;show EL lfp G (Runs F G) k I (.ptr t 0) w v (iN cs.length) (iN cs.length) B C;delta EL;rw[Bf,AJ,eg (m_ _),AZ];delta GN;refine hk B C w y f3 O a6 λi f S=>?_;have⟨L,h1,h2⟩:=Q i f (hN ((us.1 S).1)) S;exact⟨L,h1,h2.mono .refl (λid g=>⟨g.1,g.2.1⟩) λ_ _=>rfl⟩
end
variable{vp:V}{ps:List Int}{A:Tc}{B:Tc}{g:Fl}
section
variable{G:AQ}{H:Heap}{n:Nat}{k:KV}{A:Nat->Prop}
structure Mk2(A B A' B':Tc):Prop where
 w:zZ A B
 la:A.ms.length<=4/\B.ms.length<=4
 ca:Yy (Ef ([A,B].map Ar)) A=some A'
 cb:Yy (Ef ([A,B].map Ar)) B=some B'
structure Md(G:AQ)(H:Heap)(n m n1 t a b:Nat)(v:V)(ds:Bh)(A B A' B':Tc):Prop where
 le:m<=n1/\n1<=n
 ts:n1<=b/\n1<=a/\n1<=t
 tab:TabAt G H n t a b (Ef ([A,B].map Ar))
 el:El G H v 6 ds
 len:ds.length=2
 own:∀id,v.CD=some id->Rg m n1 id
 d0:∃d,ds[0]? =some d/\WP G H (Rg m n1) d A'
 d1:∃d,ds[1]? =some d/\WP G H (Rg m n1) d B'
 is:Mk2 A B A' B'
abbrev AMd(hG:RN G)(hp:∀H,El G H vp 1 (ints ps))(T:vp=.AT∨∃b o l c z,vp=.rsl b o l c z)(d5:ps.length<=200)
 (hk:∀H' n' v Q t a b A B D E n1,Kp H n H' n'->Md G H' n' n n1 t a b v Q A B D E->k (.CV [v,.ptr t 0,.bool true]) H' n'):
 Runs F G aG [vp] H n k:=by
 refine go1 (qw Ae G) ?_;delta aB;refine AJi ⟨ps,hp,a6⟩ T λH2 I v lA lB A B f2 U d6 d7 d8 K hA hB J=>?_;have d9:=f2.le;have⟨F1,B1,B2⟩:=APe J.w;have hR:∀f,Rg n I f->f<I:=λf h=>h.2;refine AP4 (cs:=[A,B]) hG U (λf d=>(K f d).2) (.cons hA.fc (.cons hB.fc .nil)) hR F1 (λi c p=>?_) (by show 2<=100;omega) λH3 L w Q f3 M W N=>?_
 .match i,p with
  |0,p=>cases p;exact⟨lA,rfl,hA,B1⟩
  |1,p=>cases p;exact⟨lB,rfl,hB,B2⟩
  |i+2,p=>simp at p
 have f0:=f3.le;rw[OC,AJ,N4,AJ];have⟨d0,D,X,t0,Y⟩:=N 0 A rfl;have⟨d1,E,Z,t1,c1⟩:=N 1 B rfl;have d2:Q=[d0,d1]:=by
  match Q,W,X,Z with
  |[x,y],_,X,Z=>cases X;cases Z;rfl
 subst d2;have u:A.ms.length<=4/\B.ms.length<=4:=by
  cases J with
  |mk g s h1 h2 h3 h4 hg hs=>
   rename_i m1 m2 m3 m4 R S;refine⟨ea 4,?_⟩;show(R++S).length<=4;rw[uk];have x1:R.length<=1:=by
    cases g
    .obtain rfl:R=[]:=hg;exact j_ _
    .obtain⟨x,rfl,q⟩:=(show ∃m,R=[m]/\jU nB m Hp from hg);exact ea _
   have x2:S.length<=1:=by
    cases s
    .obtain rfl:S=[]:=hs;exact j_ _
    .obtain⟨x,rfl,q⟩:=(show ∃m,S=[m]/\jU nB m IB from hs);exact ea _
   omega
 have⟨⟨ra,fa,na⟩,rb,fb,nb⟩:=AI0 J.w u.1 u.2 Y c1;have C:∀f,(Rg n I f∨(I<=f/\f<L))->f<L:=λf d=>by rcases d with h|h;have:=h.2;omega;exact h.2
 refine AKR (cs:=[D,E]) (M.el a6) (λf d=>(M.own d).2) (.cons t0.fc (.cons t1.fc .nil)) C (λc p=>by simp at p;rcases p with rfl|rfl;exact qT J.w.oa Y;exact qT J.w.ob c1) (by show 2<=100;omega) λH4 n4 t a b O hb ht=>?_;have d3:=O.le;have d4:Ef ([D,E].map Ar)=Ef ([A,B].map Ar):=by show Ef [Ar D,Ar E]=Ef [Ar A,Ar B];rw[fa,fb]
 rw[d4]at ht;have P:∀f,(Rg n I f∨(I<=f/\f<L))->Rg n L f:=λf d=>by rcases d with h|h;exact⟨h.1,hN h.2⟩;exact⟨a6,h.2⟩
 exact hk H4 n4 w _ t a b A B D E L ((f2.trans f3).trans O) ⟨⟨a6,d3⟩,hb,ht,(M.el a6).same λf d=>O.same f (M.own d).2,rfl,λf d=>by have:=M.own d;exact⟨a6,this.2⟩,
  ⟨d0,rfl,t0.mono P λf d=>O.same f (C f d)⟩,⟨d1,rfl,t1.mono P λf d=>O.same f (C f d)⟩,⟨J.w,u,Y,c1⟩⟩
abbrev AJe{A d i:Tc}(h:Mk2 A B d i):∃f g,fT (Ef ([A,B].map Ar)) d f/\fT (Ef ([A,B].map Ar)) i g/\cO (Ef ([A,B].map Ar)) d/\cO (Ef ([A,B].map Ar)) i/\ASc d/\ASc i:=by have⟨⟨k,u,v⟩,m,x,y⟩:=AI0 h.w h.la.1 h.la.2 h.ca h.cb;have⟨f,p⟩:=ABa k;have⟨g,q⟩:=ABa m;exact⟨f,g,p,q,k,m,qT h.w.oa h.ca,qT h.w.ob h.cb⟩
abbrev cF(Q:RN G)(R:dZ G){m n1:Nat}{S:Bh}{A C D:Tc}(h:Md G H n m n1 t a b v S A B C D)(T:fT (Ef ([A,B].map Ar)) C f)(U:fT (Ef ([A,B].map Ar)) D g)(W:cO (Ef ([A,B].map Ar)) C)(X:cO (Ef ([A,B].map Ar)) D)(Y:ASc C)(ob:ASc D)
 (Z:∀H' n' w E I,Kb b H n H' n'->Sk H' 10 (λq=>n<=q/\q<n') w [E,I]->vj G H' n (λq=>n<=q/\q<n') (.agg E) f->vj G H' n (λq=>n<=q/\q<n') (.agg I) g->k (.CV [w,.bool true]) H' n'):Runs F G HG [.ptr t 0,v] H n k:=by
 have⟨b1,F1,_,_⟩:=AA9 h.is.w;have d2:=h.le;have d3:=h.ts;have⟨d,x0,x1⟩:=h.d0;have⟨e,y0,y1⟩:=h.d1;refine fB (A:=Rg m n1) (cs:=[C,D]) (Cp:=[f,g]) Q R h.tab F1.tl h.el h.own (λq J=>⟨hN J.2,hN J.2⟩) h.len rfl (by show 2<=100;omega) (λi c f' u p=>?_) λH3 n3 w P f3 L M K=>?_
 .match i,u,p with
  |0,u,p=>cases u;cases p;exact⟨d,x0,x1,Y,W,T⟩
  |1,u,p=>cases u;cases p;exact⟨e,y0,y1,ob,X,U⟩
  |i+2,u,_=>simp at u
 have⟨E,N,q0⟩:=K 0 f rfl;have⟨I,O,q1⟩:=K 1 g rfl;have:P=[E,I]:=by
  match P,M,N,O with
  |[x,y],_,N,O=>cases N;cases O;rfl
 subst this;exact Z H3 n3 w E I f3 L q0 q1
end
def LH(a b:Tab):Prop:=a.length=b.length/\∀s,DU a s=DU b s
section
variable{a b:Tab}
theorem QF(h:∀s,DU a s=DU b s):∀(m:Nat) (out:List St) (s:St),HH m a out s=HH m b out s
 |0,_,_=>rfl
 |m+1,out,s=>by
  unfold HH
  rw[h]
  cases DU b s with
  |none=>rfl
  |some c=>simp only[QF h m]
abbrev Kv(h:LH a b)(s:St):above a s=above b s:=by unfold above;rw[h.1];exact QF h.2 _ _ _
abbrev L4(h:LH a b):BD a=BD b:=by funext t;unfold BD;rw[h.2]
abbrev RI(h:LH a b)(s:St):∀cs,Xe a s cs=Xe b s cs
 |[]=>rfl
 |c::cs=>by unfold Xe;rw[h.2,RI h s cs]
abbrev R4(h:LH a b)(c s:St):QU a c s=QU b c s:=by unfold QU;rw[Kv h,RI h]
abbrev QX(h:LH a b)(s:St)(st:Bool):∀cs,FP a s st cs=FP b s st cs
 |[]=>rfl
 |c::cs=>by unfold FP;rw[h.2,QX h s st cs]
abbrev Xs(h:LH a b)(c s:St)(st:Bool):Cq a c s st=Cq b c s st:=by unfold Cq;rw[Kv h,QX h]
abbrev QV(h:LH a b)(p:PM):∀cs,AGn a p cs=AGn b p cs
 |[]=>rfl
 |c::cs=>by unfold AGn;rw[h.2,QV h p cs]
abbrev WO(h:LH a b)(p:PM):ARQ a p=ARQ b p:=by unfold ARQ;rw[Kv h,QV h]
abbrev P1(h:LH a b)(d:St):∀ms,OB a d ms=OB b d ms
 |[]=>rfl
 |m::ms=>by unfold OB ABt;rw[L4 h,Xs h,P1 h d ms]
abbrev Qo(h:LH a b)(d:St)(r:Int):∀l,mO a d r l=mO b d r l
 |[]=>rfl
 |f::l=>by unfold mO;rw[L4 h,R4 h,Qo h d r l]
abbrev Up(h:LH a b)(s:St):Cj a s=Cj b s:=by
 unfold Cj;rw[h.2 s,Kv h,h.2];cases DU b s with
 |none=>rfl
 |some c=>simp only[P1 h,Qo h]
abbrev Xw(h:LH a b)(p:Pool):L6 a p=L6 b p:=by
 unfold L6;have d:AKp a=AKp b:=by funext f;unfold AKp;rw[R4 h]
 have g:ARQ a=ARQ b:=by funext f;exact WO h f
 rw[L4 h,d,g]
end
abbrev Tg{d:Type}(s:St)(v:d):∀(ps:List (St×d)),(Sr s v ps).length=if(DU ps s).isSome then ps.length else ps.length+1
 |[]=>rfl
 |p::ps=>by
  have f:=Tg s v ps;unfold Sr DU;by_cases h:p.1=s
  .simp[h]
  .unfold DU at f;simp only[h,J_,j',List.find?_cons,v_];rw[f];split<;>rename_i g<;>simp[g]
def Lh(cs:b9)(s:St):Option Fc:=cs.find? λc=>decide (c.nm=s)
variable{cs:List Fc}{s:St}
abbrev Wa{cs:b9}(h:s∉cs.map (λc=>c.nm)):Lh cs s=none:=by unfold Lh;rw[List.find?_eq_none];intro c d f;exact h (_c.2 ⟨c,d,kh f⟩)
abbrev Rk:∀(cs:b9) (fs:Tab) (s:St),(cs.map λc=>c.nm).Nodup->DU (xT fs cs) s=(match Lh cs s with|some c=>some c|none=>DU fs s)
 |[],_,_,_=>rfl
 |c::cs,fs,s,h=>by
  rw[rl,R_]at h;show DU (xT (Sr c.nm c fs) cs) s=_;rw[Rk cs _ s h.2,AUi];unfold Lh;rw[List.find?_cons];by_cases e:c.nm=s
  .subst e;have:=Wa h.1;unfold Lh at this;rw[this];simp
  .simp[e]
abbrev Uf{cs:b9}(h:(cs.map λc=>c.nm).Nodup)(s:St):DU (Ef cs) s=Lh cs s:=by unfold Ef;rw[Rk cs [] s h];cases Lh cs s<;>rfl
abbrev Q3:∀(cs:b9) (fs:Tab),(cs.map λc=>c.nm).Nodup->(∀c∈cs,DU fs c.nm=none)->(xT fs cs).length=fs.length+cs.length
 |[],_,_,_=>rfl
 |c::cs,fs,h,g=>by
  rw[rl,R_]at h;show(xT (Sr c.nm c fs) cs).length=_;rw[Q3 cs _ h.2,Tg,g c (u_ ..)]
  .simp only[_6,j'];simp;omega
  .intro d f;rw[AUi,g_,g d (c_ _ f)];intro e;exact h.1 (e▸_c.2 ⟨d,f,rfl⟩)
abbrev Th{cs:b9}(h:(cs.map λc=>c.nm).Nodup):(Ef cs).length=cs.length:=by unfold Ef;rw[Q3 cs [] h λ_ _=>rfl];simp
abbrev Qk{cs:b9}(h:(cs.map λc=>c.nm).Nodup){c:Fc}:Lh cs s=some c↔c∈cs/\c.nm=s:=by
 induction cs with
 |nil=>simp[Lh]
 |cons d cs g=>
  rw[rl,R_]at h;have g:=g h.2;unfold Lh at g⊢;rw[List.find?_cons];by_cases e:d.nm=s
  .simp only[e,_b,_u,qk];constructor
   .rintro rfl;exact⟨.inl rfl,e⟩
   .rintro⟨rfl|k,f⟩
    .rfl
    .exact absurd (_c.2 ⟨c,k,f.trans e.symm⟩) h.1
  .simp only[e,v_,qk];rw[g];constructor
   .rintro⟨i,f⟩;exact⟨.inr i,f⟩
   .rintro⟨rfl|i,f⟩
    .exact absurd f e
    .exact⟨i,f⟩
abbrev ZT{d f:b9}(g:d.Perm f)(h:(d.map λc=>c.nm).Nodup):LH (Ef d) (Ef f):=by have i:(f.map λc=>c.nm).Nodup:=(g.map _).nodup_iff.1 h;refine⟨by rw[Th h,Th i];exact g.length_eq,λs=>?_⟩;rw[Uf h,Uf i];apply Option.ext;intro c;rw[Qk h,Qk i,g.mem_iff]
abbrev R5:∀(Cp:kE) (d:List (St×Fl)),Ii d Cp=0↔(∀f∈Cp,bq f=true)/\(Gl Cp).Nodup/\∀f∈Cp,DU d f.face.nm=none
 |[],_=>by simp[Ii]
 |f::fs,d=>by
  unfold Ii;have q:=R5 fs (Sr f.face.nm f d);cases m:bq f with
  |false=>
   simp only[l_,_K];constructor
   .intro h;cases h
   .intro h;have:=h.1 f (u_ ..);rw[m]at this;cases this
  |true=>
   simp only[k_,_j];cases p:DU d f.face.nm with
   |some x=>
    simp only[_7,_K];constructor
    .intro h;cases h
    .intro h;have:=h.2.2 f (u_ ..);rw[p]at this;cases this
   |none=>
    simp only[_6,_j];rw[q];simp only[Gl,rl,R_,qk,forall_eq_or_imp,AUi];constructor
    .rintro⟨a1,a2,k⟩;refine⟨⟨m,a1⟩,⟨?_,a2⟩,p,λg i=>?_⟩
     .intro u;have⟨g,i,e⟩:=_c.1 u;have:=k g i;rw[hD e.symm]at this;cases this
     .have:=k g i;split at this
      .cases this
      .exact this
    .rintro⟨⟨_,a1⟩,⟨v,a2⟩,_,k⟩;refine⟨a1,a2,λg i=>?_⟩;rw[g_]
     .exact k g i
     .intro e;exact v (_c.2 ⟨g,i,e.symm⟩)
abbrev Sz(t:Tab):∀(Cp:kE),link2 t Cp=0↔∀f∈Cp,Cj t f.face.nm=0/\L6 t f.pool=true
 |[]=>by simp[link2]
 |f::fs=>by
  unfold link2;have i:=Sz t fs;cases d:Cj t f.face.nm==0 with
  |false=>
   simp only[l_,_K,qk,forall_eq_or_imp];have d:Cj t f.face.nm≠0:=by simpa using d
   exact⟨λh=>absurd h d,λh=>absurd h.1.1 d⟩
  |true=>
   have d:Cj t f.face.nm=0:=by simpa using d
   simp only[k_,_j];cases g:L6 t f.pool with
   |false=>
    simp only[l_,_K,qk,forall_eq_or_imp,g];exact⟨λh=>absurd h a_,λh=>absurd h.1.2 o6⟩
   |true=>
    simp only[k_,_j,qk,forall_eq_or_imp,g,d,i];simp
structure YW(Cp:List Fl):Prop where
 len:Cp.length<=200
 ok:∀f∈Cp,bq f=true
 apart:(Gl Cp).Nodup
 stand:∀f∈Cp,Cj (Ef (Ag Cp)) f.face.nm=0/\L6 (Ef (Ag Cp)) f.pool=true
abbrev R3{Cp:kE}:HO Cp=0↔YW Cp:=by
 unfold HO;have g:=R5 Cp [];have k:=Sz (Ef (Ag Cp)) Cp;by_cases h:200<Cp.length
 .rw[ui h];exact⟨λh=>(by cases h),λd=>absurd d.len a6⟩
 .rw[eg h];simp only[_j];cases f:Ii [] Cp==0 with
  |false=>
   have f:Ii [] Cp≠0:=by simpa using f
   simp only[l_,_K];exact⟨λh=>absurd h f,λd=>absurd (g.2 ⟨d.ok,d.apart,λ_ _=>rfl⟩) f⟩
  |true=>
   have f:Ii [] Cp=0:=by simpa using f
   simp only[k_,_j];rw[k];have i:=g.1 f;exact⟨λd=>⟨a6,i.1,i.2.1,d⟩,λd=>d.stand⟩
abbrev YK(Cp:kE):(Ag Cp).map (λc=>c.nm)=Gl Cp:=o6
abbrev YW.tab{d f:kE}(h:YW d)(g:d.Perm f):LH (Ef (Ag d)) (Ef (Ag f)):=ZT (g.map _) (by rw[YK];exact h.apart)
abbrev YW.perm{i k:kE}(h:YW i)(d:i.Perm k):YW k:=by have m:=h.tab d;refine⟨by rw[<-d.length_eq];exact h.len,λf g=>h.ok f (d.mem_iff.2 g),(d.map _).nodup_iff.1 h.apart,λf g=>?_⟩;rw[<-Up m,<-Xw m];exact h.stand f (d.mem_iff.2 g)
abbrev pR.link{p:Pool}(h:pR tb p):L6 tb p=true:=by unfold L6;simp only[ez,_A];exact⟨λc d x g=>by rw[ff.1 g];exact(h.c c d).2,h.t,λf i=>(h.f f i).2,λm k=>(h.m m k).2⟩
abbrev AEH:Cj (Ef [IK,JJ false false]) nA=0/\Cj (Ef [IK,JJ false false]) nB=0/\Cj (Ef [JJ false false]) nB=23:=⟨o5,o5,o5⟩
abbrev AB6:Cj (Ef [IK,JJ false true]) nA=0/\Cj (Ef [IK,JJ false true]) nB=0/\Cj (Ef [JJ false true]) nB=23:=⟨o5,o5,o5⟩
abbrev AAg:Cj (Ef [IK,JJ true false]) nA=0/\Cj (Ef [IK,JJ true false]) nB=0/\Cj (Ef [JJ true false]) nB=23:=⟨o5,o5,o5⟩
abbrev ADc:Cj (Ef [IK,JJ true true]) nA=0/\Cj (Ef [IK,JJ true true]) nB=0/\Cj (Ef [JJ true true]) nB=23:=⟨o5,o5,o5⟩
abbrev AEd(g s:Bool):Cj (Ef [IK,JJ g s]) nA=0/\Cj (Ef [IK,JJ g s]) nB=0/\Cj (Ef [JJ g s]) nB=23:=by
 cases g<;>cases s
 .exact AEH
 .exact AB6
 .exact AAg
 .exact ADc
abbrev TP(h:bq f=true):Ii [] [f]=0/\Ii [] [f,f]=6:=by
 have e:DU (Sr f.face.nm f ([]:List (St×Fl))) f.face.nm=some f:=by rw[AUi,hD rfl]
 unfold Ii;rw[h];refine⟨rfl,?_⟩;show Ii (Sr f.face.nm f []) [f]=6;unfold Ii;rw[h,e];rfl
abbrev bW{u v:Tc}(h:Mk2 A B u v)(i:fT (Ef ([A,B].map Ar)) u f)(k:fT (Ef ([A,B].map Ar)) v g):
 YW [f,g]/\HO [g]=23/\HO [f,f]=6:=by
 have⟨⟨_,G,O⟩,_,H,P⟩:=AI0 h.w h.la.1 h.la.2 h.ca h.cb;have⟨x,y,I,J⟩:=ASv h.w;have⟨K,L,M⟩:=AEd x y;have C:f.face=IK:=by rw[i.face,G,h.w.fa]
 have m:g.face=JJ x y:=by rw[k.face,H,I]
 have D:f.face.nm=nA:=by rw[C];rfl
 have p:g.face.nm=nB:=by rw[m];cases x<;>cases y<;>rfl
 have E:=i.pr.link;have F:=k.pr.link;rw[J]at E F;have N:Ag [f,g]=[IK,JJ x y]:=by show[f.face,g.face]=_;rw[C,m]
 refine⟨⟨by show 2<=200;omega,λq d=>?_,?_,λq d=>?_⟩,?_,?_⟩
 .rcases qk.1 d with rfl|d
  .exact i.ok
  .rw[ff.1 d];exact k.ok
 .show[f.face.nm,g.face.nm].Nodup;rw[D,p];decide
 .rw[N];rcases qk.1 d with rfl|d
  .rw[D];exact⟨K,E⟩
  .rw[ff.1 d,p];exact⟨L,F⟩
 .unfold HO;rw[show decide (200<[g].length)=false from rfl,(TP k.ok).1];show link2 (Ef (Ag [g])) [g]=23;rw[show Ag [g]=[JJ x y]by show[g.face]=_;rw[m]];unfold link2;rw[p,M];rfl
 .unfold HO;rw[show decide (200<[f,f].length)=false from rfl,(TP i.ok).2];rfl
set_option maxHeartbeats 0 in
abbrev Yc(G:AQ)(K:V->Prop):run F G 100 100 Gf [] .e 0 (λv _ _=>K v)=K (.bool true):=o5
section
attribute [local irreducible] run
abbrev cH{k:KV}(d:∀H n,k (.bool true) H n):Runs F G Gf [] .e 0 k:=by
 have h:=of_eq_true (p:=run F G 100 100 Gf [] .e 0 (λv _ _=>v=.bool true))
  (by rw[Yc G λv=>v=.bool true];exact eq_true rfl)
 exact AKI (λv H n f=>by subst f;exact d H n) ⟨100,h⟩
end
abbrev gw{e:aAl}{P:V->Prop}(d:e=some v)(h:P v):Ax (.bool false) false e P:=by subst d;exact h
variable{L0:LV}
section
variable{G:AQ}{H:Heap}{n:Nat}{k:KV}{f g:Fl}
abbrev TZ(u:RN G)(A:dZ G){d:LV}(B:sH G H n (.agg L0) f)(C:sH G H n (.agg d) g)
 (D:∀H' n' w,Kp H n H' n'->k (.CV [w,.int .i64 (HO [f,g]) 0]) H' n'):
 Au (AY 10 2 ZU [(0,.c (.agg L0)),(1,.c (.agg d))] E0) H n λv H n=>Runs F G EW [v] H n k:=by
 have J:=yA (v:=.AT) B;have K:=yA (v:=.AT) C;refine M1 (G:=G) (vs:=[.agg L0,.agg d]) rfl a6 (λx E=>by simp at E;rcases E with rfl|rfl<;>exact⟨rfl,by assumption⟩) λI m M el=>?_;have fv:Iu G I (n+1) (.sl n 0 2 2 10) [f,g]:=⟨⟨[L0,d],el,rfl,λi L c x y=>by
  match i,x,y with
  |0,x,y=>cases x;cases y;exact B.ke m.ke
  |1,x,y=>cases x;cases y;exact C.ke m.ke
  |i+2,x,_=>simp at x⟩,λN p=>by cases p;omega,by show 2<big;decide⟩
 by_cases e:HO [f,g]=0
 .refine R7 u A fv (λ_ H' n' i q _=>?_) λh=>absurd e h;have:=D H' n' (.ptr i 0) (m.trans q);rwa [e]at this
 .exact R7 u A fv (λh=>absurd h e) λ_ H' n' q=>D H' n' .zU (m.trans q)
abbrev c8(p:RN G)(q:dZ G)(u:sH G H n (.agg L0) f)
 (A:∀H' n' w,Kp H n H' n'->k (.CV [w,.int .i64 (HO [f]) 0]) H' n'):
 Au (AY 10 1 ZU [(0,.c (.agg L0))] E0) H n λv H n=>Runs F G EW [v] H n k:=by
 have C:=yA (v:=.AT) u;refine M1 (G:=G) (vs:=[.agg L0]) rfl a6 (λx B=>by simp at B;subst B;exact⟨rfl,C⟩) λD d E el=>?_;have fv:Iu G D (n+1) (.sl n 0 1 1 10) [f]:=⟨⟨[L0],el,rfl,λi L c x y=>by
  match i,x,y with
  |0,x,y=>cases x;cases y;exact u.ke d.ke
  |i+1,x,_=>simp at x⟩,λI g=>by cases g;omega,by show 1<big;decide⟩
 by_cases e:HO [f]=0
 .refine R7 p q fv (λ_ H' n' i m _=>?_) λh=>absurd e h;have:=A H' n' (.ptr i 0) (d.trans m);rwa [e]at this
 .exact R7 p q fv (λh=>absurd h e) λ_ H' n' m=>A H' n' .zU (d.trans m)
abbrev Zp(d:RN G)(f:dZ G)(g:∀H' n' w,k (.CV [w,.int .i64 0 0]) H' n'):Runs F G EW [.AT] H n k:=
 R7 (Cp:=[]) d f ⟨⟨[],uG,rfl,λi L c x=>by simp at x⟩,ADf,by show 0<big;decide⟩ (λ_ H' n' i _ _=>g H' n' _) λh=>absurd (by unfold HO;rfl) h
abbrev Xf(A:RN G)(B:dZ G){w:V}{u:Bh}{p q:Fl}{I J K:LV}(L:Sk H 10 (λd=>d<n) w u)(Q:u[0]? =some L0)(R:u[1]? =some K)(M:sH G H n (.agg L0) f)(S:sH G H n (.agg K) g)
 (U:T.get H a=some (one I)) (W:T.get H b=some (one J)) (N:sH G H n (.agg I) p) (O:sH G H n (.agg J) q) (X:HO [p,q]=0) (k2:HO [g]=23) (Y:HO [f,f]=6) (Z:∀H' n',k (.bool true) H' n'):
 Ap lfp G (Runs F G) k w (.ptr a 0) (.ptr b 0) H n:=by have P:∀d,(λd=>d<n) d->d<n:=λ_ h=>h;delta Ap;refine AB (As (m:=10) U a6 (yA (v:=.AT) N)) (AB (As (m:=10) W a6 (yA (v:=.AT) O)) ?_);refine TZ A B N O λH1 n1 w1 C=>?_;rw[OC,AJ,N4,AJ,X];have u7:Sk H1 10 (λd=>d<n) w u:=L.mono P λd h=>C.same d h;have⟨p1,D,E⟩:=(u7.el (G:=G) a6).at R;refine AB D (AB (BZ E) ?_);refine c8 A B (S.ke C.ke) λH2 n2 w2 f2=>?_;rw[OC,AJ,N4,AJ,k2];have i:=C.trans f2;have Y3:Sk H2 10 (λd=>d<n) w u:=L.mono P λd h=>i.same d h;have⟨p2,x,y⟩:=(Y3.el (G:=G) a6).at Q;refine AB x (AB (BZ y) (AB x (AB (BZ y) ?_)));refine TZ A B (M.ke i.ke) (M.ke i.ke) λH3 n3 w3 f3=>?_;rw[OC,AJ,N4,AJ,Y];refine Zp A B λH4 n4 w4=>?_;rw[OC,AJ,N4,AJ];exact Z H4 n4
abbrev Ye(S:RN G)(C:dZ G)(hp:∀H,El G H vp 1 (ints ps))(X:vp=.AT∨∃b o l c z,vp=.rsl b o l c z){tn:Bool}(Y:∀H' n',k (.bool true) H' n'):Runs F G M6 [vp,.bool tn] .e 0 k:=by
 refine go2 (Me Ae G) ?_;delta If;refine cH λH0 n0=>?_;refine AB (Bw ..) ?_;show AS (.bool false) _ _;have K:(ints ps).length=ps.length:=uc ..;rw[AZ];refine AB (hp H0).len ?_;rw[K,cM,AJ];cases h1:decide (200<ps.length)with
 |true=>rw[Ah];exact Y _ _
 |false=>
 have h1:=_w h1;rw[AZ];refine AMd S hp X a6 λH2 n2 v ds t a b A B A' B' n1 f2 D=>?_;rw[OC,AJ,N4,AJ];refine AB (v:=.bool true) rfl (AB (Bw ..) ?_);show AS (.bool false) _ _;rw[AZ];have⟨f,g,hf,hg,ra,rb,oa,ob⟩:=AJe D.is;have⟨L,k2,k3⟩:=bW D.is hf hg;refine cF S C D hf hg ra rb oa ob λT q w I J f3 y q0 q1=>?_;have M:=f3.le;have Z:([I,J]:Bh)[0]? =some I:=rfl;have e1:([I,J]:Bh)[1]? =some J:=rfl;have N:=q0 T q .refl M (λ_ _=>rfl) λd i=>i.2;have O:=q1 T q .refl M (λ_ _=>rfl) λd i=>i.2;have U:=yA (v:=.AT) N;have W:=yA (v:=.AT) O;rw[OC,AJ,N4,AJ];have P:=y.el (G:=G) a6;have d0:lenV w=some (iN 2):=by rw[P.len];rfl
 refine AB (Bw ..) ?_;show Ax (.bool false) false _ _;refine gw rfl (gw d0 (gw (v:=.bool false) rfl (ah ?_)));rw[AZ];have⟨p,d1,d2⟩:=P.at Z;refine AB d1 (AB (BZ d2) ?_);refine Ao rfl λH4 f4 g4=>?_;refine BX g4 rfl U a6 λH5 g5 s5=>?_;have Q:Kp T q H5 (q+1):=⟨f4.le,λd i=>(s5 d a6).trans (f4.same d i)⟩;have ZV:Sk H5 10 (λd=>n2<=d/\d<q) w [I,J]:=y.mono (λ_ h=>h) λd h=>Q.same d h.2;have⟨p',d3,d4⟩:=(ZV.el (G:=G) a6).at e1;refine AB d3 (AB (BZ d4) ?_);refine Ao rfl λH6 f6 g6=>?_;refine BX g6 rfl W a6 λH7 g7 s7=>?_;have R:Kp H5 (q+1) H7 (q+2):=⟨a6,λd i=>(s7 d a6).trans (f6.same d i)⟩;have u:=Q.trans R;have E:=(R.same q a6).trans g5;have bj:Sk H7 10 (λd=>d<q+2) w [I,J]:=y.mono (λd h=>a6) λd h=>u.same d h.2;cases tn with
 |false=>
  rw[AZ];exact Xf S C bj Z e1 (N.ke u.ke) (O.ke u.ke) E g7 (N.ke u.ke) (O.ke u.ke) (R3.2 L) k2 k3 Y
 |true=>
  rw[Ah];refine AB (As (m:=10) g7 a6 W) (AB (As (m:=10) E a6 U) ?_);refine BX E U W a6 λH8 g8 s8=>?_;refine BX ((s8 (q+1) a6).trans g7) W U a6 λH9 g9 s9=>?_;have x:Kp T q H9 (q+2):=⟨a6,λd i=>(s9 d a6).trans ((s8 d a6).trans (u.same d i))⟩;have d5:Sk H9 10 (λd=>d<q+2) w [I,J]:=y.mono (λd h=>a6) λd h=>x.same d h.2;exact Xf S C d5 Z e1 (N.ke x.ke) (O.ke x.ke) ((s9 q a6).trans g8) g9 (O.ke x.ke) (N.ke x.ke) (R3.2 (L.perm (.swap ..))) k2 k3 Y
end
end Go.RL
