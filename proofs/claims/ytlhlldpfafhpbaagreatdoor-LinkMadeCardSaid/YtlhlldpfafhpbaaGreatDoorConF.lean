/- Part of a proof; nothing is assumed. -/
import Derived.Test.YtlhlldpfafhpbaaGreatDoorConE
set_option linter.unusedVariables false
set_option linter.unusedSimpArgs false
noncomputable section
namespace Go.RL
open Go.BN
set_option maxRecDepth 100000
def sink{α:Type}(lt:α->α->Bool):Nat->List α->List α
 |0,xs=>xs
 |j+1,xs=>match xs[j+1]?,xs[j]? with
  |some a,some b=>bif lt a b then sink lt j ((xs.set (j+1) b).set j a)else xs
  |_,_=>xs
def Wc{α:Type}(lt:α->α->Bool)(xs:List α)(i:Nat):Nat->List α
 |0=>xs
 |r+1=>Wc lt (sink lt i xs) (i+1) r
def GI{α:Type}(lt:α->α->Bool)(xs:List α):List α:=Wc lt xs 1 (xs.length-1)
def eZ{α:Type}(key:α->St)(a b:α):Bool:=slt (key a).1 (key a).2 (key b).1 (key b).2
variable{j:Nat}
abbrev VO{d:Type}{lt:d->d->Bool}{xs:List d}(h:j+1<xs.length)(f:lt xs[j+1] xs[j]=false):sink lt (j+1) xs=xs:=by show(match xs[j+1]?,xs[j]? with|some a,some b=>bif lt a b then sink lt j ((xs.set (j+1) b).set j a)else xs|_,_=>xs)=xs;rw[eb h,eb (show j<xs.length by omega)];show(bif lt xs[j+1] xs[j]then _ else xs)=xs;rw[f];rfl
abbrev jo{d:Type}{lt:d->d->Bool}{xs:List d}(h:j+1<xs.length)(f:lt xs[j+1] xs[j]=true):sink lt (j+1) xs=sink lt j ((xs.set (j+1) xs[j]).set j xs[j+1]):=by show(match xs[j+1]?,xs[j]? with|some a,some b=>bif lt a b then sink lt j ((xs.set (j+1) b).set j a)else xs|_,_=>xs)=_;rw[eb h,eb (show j<xs.length by omega)];show(bif lt xs[j+1] xs[j]then _ else xs)=_;rw[f];rfl
abbrev AFx{d:Type}{lt:d->d->Bool}:∀(j:Nat) (xs:List d),(sink lt j xs).length=xs.length
 |0,_=>rfl
 |j+1,xs=>by
  by_cases h:j+1<xs.length
  .cases f:lt xs[j+1] xs[j]with
   |false=>rw[VO h f]
   |true=>rw[jo h f,AFx j];simp
  .show(match xs[j+1]?,xs[j]? with|some a,some b=>bif lt a b then sink lt j ((xs.set (j+1) b).set j a)else xs|_,_=>xs).length=_;rw[z_ a6]
abbrev AFP{d:Type}{lt:d->d->Bool}:∀(j:Nat) (xs:List d) (x:d),x∈sink lt j xs->x∈xs
 |0,_,_,h=>h
 |j+1,xs,x,h=>by
  by_cases f:j+1<xs.length
  .cases g:lt xs[j+1] xs[j]with
   |false=>rw[VO f g]at h;exact h
   |true=>
    rw[jo f g]at h;have h:=AFP j _ x h;rcases X_ h with h|rfl
    .rcases X_ h with h|rfl
     .exact h
     .exact f_ _
    .exact f_ _
  .have:sink lt (j+1) xs=xs:=by show(match xs[j+1]?,xs[j]? with|some a,some b=>bif lt a b then sink lt j ((xs.set (j+1) b).set j a)else xs|_,_=>xs)=_;rw[z_ a6]
   rw[this]at h;exact h
abbrev AZV{d:Type}{lt:d->d->Bool}:∀(r:Nat) (xs:List d) (i:Nat),(Wc lt xs i r).length=xs.length
 |0,_,_=>rfl
 |r+1,xs,i=>by show(Wc lt (sink lt i xs) (i+1) r).length=_;rw[AZV r,AFx]
abbrev zl{d:Type}{lt:d->d->Bool}:∀(r:Nat) (xs:List d) (i:Nat) (x:d),x∈Wc lt xs i r->x∈xs
 |0,_,_,_,h=>h
 |r+1,xs,i,x,h=>AFP i xs x (zl r _ _ x h)
abbrev VN{d:Type}{lt:d->d->Bool}(xs:List d):(GI lt xs).length=xs.length:=AZV ..
abbrev Pa{d:Type}{lt:d->d->Bool}{xs:List d}{x:d}(h:x∈GI lt xs):x∈xs:=zl _ _ _ _ h
abbrev AF6{d i:Type}{lt:d->d->Bool}{lt':i->i->Bool}{f:d->i}(k:∀a b,lt a b=lt' (f a) (f b)):∀(j:Nat) (xs:List d),(sink lt j xs).map f=sink lt' j (xs.map f)
 |0,_=>rfl
 |j+1,xs=>by
  by_cases h:j+1<xs.length
  .have m:j+1<(xs.map f).length:=by rw[uc];exact h
   cases g:lt xs[j+1] xs[j]with
   |false=>rw[VO h g,VO m (by rw[_B,_B,<-k];exact g)]
   |true=>rw[jo h g,jo m (by rw[_B,_B,<-k];exact g),AF6 k j,U_,U_,_B,_B]
  .show(match xs[j+1]?,xs[j]? with|some a,some b=>bif lt a b then sink lt j ((xs.set (j+1) b).set j a)else xs|_,_=>xs).map f=(match(xs.map f)[j+1]?,(xs.map f)[j]? with|some a,some b=>bif lt' a b then sink lt' j (((xs.map f).set (j+1) b).set j a)else xs.map f|_,_=>xs.map f);rw[z_ a6,z_ (l:=xs.map f) (by rw[uc];omega)]
abbrev yU{d g:Type}{lt:d->d->Bool}{lt':g->g->Bool}{f:d->g}(k:∀a b,lt a b=lt' (f a) (f b)):∀(r:Nat) (xs:List d) (i:Nat),(Wc lt xs i r).map f=Wc lt' (xs.map f) i r
 |0,_,_=>rfl
 |r+1,xs,i=>by show(Wc lt (sink lt i xs) (i+1) r).map f=Wc lt' (sink lt' i (xs.map f)) (i+1) r;rw[yU k r,AF6 k]
abbrev sV{d g:Type}{lt:d->d->Bool}{lt':g->g->Bool}{f:d->g}(i:∀a b,lt a b=lt' (f a) (f b))(xs:List d):(GI lt xs).map f=GI lt' (xs.map f):=by unfold GI;rw[yU i,uc]
def lY(a b:St):Int:=Bool.rec (Bool.rec (.ofNat 0) (.ofNat 1) (slt b.1 b.2 a.1 a.2)) (.negSucc 0) (slt a.1 a.2 b.1 b.2)
abbrev AQB(a b:St):B2.ev .lss (.int .i64 (lY a b) 0) (iN 0)=some (.bool (slt a.1 a.2 b.1 b.2)):=by
 rw[ACn];unfold lY;cases slt a.1 a.2 b.1 b.2 with
 |true=>rfl
 |false=>cases slt b.1 b.2 a.1 a.2<;>rfl
variable{G:AQ}{H:Heap}{n:Nat}{k:KV}
abbrev sR{a b:St}(d:k (.int .i64 (lY a b) 0) H n):Runs F G ML [a.v,b.v] H n k:=by refine go2 (pD Ae G) ?_;delta X5;refine go2 (P5 Ae G) ?_;delta II;exact AB (show AFm a.v b.v=some (.int .i64 (lY a b) 0)from rfl) d
def XW(p:Bk×V):LV:=Bk.cells p.1 p.2
def eB(p:Bk×V):St:=p.1.nm
abbrev AJI:∀ps:List (Bk×V),ps.map XW=List.zipWith Bk.cells (ps.map Prod.fst) (ps.map Prod.snd)
 |[]=>rfl
 |p::l=>by rw[rl,AJI l];rfl
variable{z:Nat}{f:V}{A:Nat->Prop}{v:V}
section
variable{G:AQ}
abbrev ALh{x y:BU}(i:∀d f,Kp H n d f->k (.int .i64 (lY (BU.nm x) (BU.nm y)) 0) d f):Runs F G PG [.agg (RR x),.agg (RR y)] H n k:=by refine go2 (ju Ae G) ?_;delta WA;refine BE λu m p=>?_;refine BE λw g q=>?_;rw[CZ,AJ];refine AB (AK (off:=0) (g.get p a6) (v:=(BU.nm x).v) rfl) ?_;rw[CZ,AJ];refine AB (AK (off:=0) q (v:=(BU.nm y).v) rfl) ?_;exact sR (i _ _ (m.trans g))
structure u9{α:Type}(z:Nat)(cl:α->LV)(H0:Heap)(n0:Nat)(A:Nat->Prop)(v:V)(H:Heap)(n:Nat)(xs:List α):Prop where
 sk:Sk H z A v (xs.map cl)
 same:∀id,id<n0->v.CD≠some id->T.get H id=T.get H0 id
 le:n0<=n
abbrev AUG{α:Type}{cl:α->LV}{nm:α->St}(hz:0<z)(P:∀x,(cl x).length=z)(Q:∀x y (H:Heap) (n:Nat) (k:KV),(∀g u,Kp H n g u->k (.int .i64 (lY (nm x) (nm y)) 0) g u)->DN f [.agg (cl x),.agg (cl y)] (Runs F G) H n k){xs:List α}{m:Nat}(h:Sk H z A v (xs.map cl))(hA:∀id,v.CD=some id->id<n)(hm:xs.length=m)(hb:m<=1000)
 (hk:∀g u,n<=u->Sk g z A v ((GI (eZ nm) xs).map cl)->(∀id,id<n->v.CD≠some id->T.get g id=T.get H id)->k (.CV []) g u):
 AG0 z lfp G (Runs F G) v (iN 0) (iN m) f H n k:=by
 unfold AG0;rw[CA a6,AJ];refine ET (J:=λq s=>∃i g u E,q=m-i/\1<=i/\s=(v,iN 0,iN m,f,iN i,g,u)/\E.length=m/\Wc (eZ nm) E i (m-i)=GI (eZ nm) xs/\u9 z cl H n A v g u E) ?_
  (m:=m-1) ⟨1,H,n,xs,rfl,ea _,rfl,hm,by rw[GI,hm],h,λ_ _ _=>rfl,ea _⟩
 rintro I q s ⟨i,H1,n1,E,rfl,hi,rfl,hl,O,hj⟩ ih;show ACB z lfp G (Runs F G) k I v (iN 0) (iN m) f (iN i) H1 n1;delta ACB;refine AB (ADl ..) ?_;by_cases R:i<m
 .rw[ui R,Ah];obtain⟨r,hr⟩:∃r,m-i=r+1:=⟨m-i-1,a6⟩;rw[hr]at O;refine ET (J:=λj s=>∃g u d,s=(v,iN 0,iN m,f,iN i,iN j,g,u)/\j<=i/\d.length=m/\sink (eZ nm) j d=sink (eZ nm) i E/\u9 z cl H n A v g u d) ?_
   (m:=i) ⟨H1,n1,E,rfl,ea _,hl,rfl,hj⟩
  rintro I2 j s ⟨H2,n2,d,rfl,f2,M,N,p⟩ d0;show ACG z lfp G (Runs F G) k I I2 v (iN 0) (iN m) f (iN i) (iN j) H2 n2;delta ACG;refine AB (cM ..) ?_;have S:∀{g:Heap} {u:Nat} {U:List α},u9 z cl H n A v g u U->U.length=m->U=sink (eZ nm) i E->jY lfp G (Runs F G) k I v (iN 0) (iN m) f (iN i) g u:=by intro g u U hw d1 d2;delta jY;rw[CA a6,AJ];refine ih (m-(i+1)) _ a6 ⟨i+1,g,u,U,rfl,a6,rfl,d1,?_,hw⟩;rw[show m-(i+1)=r by omega,d2];exact O
  cases j with
  |zero=>
   rw[show decide (0<0)=false from rfl];repeat (first|with_reducible refine Wq ?_|with_reducible refine jL ?_|with_reducible refine ANz ?_|with_reducible refine AB8 ?_|with_reducible refine ah ?_)
   rw[AZ];exact S p M (by rw[<-N];rfl)
  |succ j=>
   rw[ui (show 0<j+1 by omega)];have W:=p.sk.el (G:=G) a6;have B:j+1<d.length:=a6;have⟨p1,d3,d4⟩:=W.at (i:=j+1) (c:=cl d[j+1]) (by simp[B]);have⟨p0,d5,d6⟩:=W.at (i:=j) (c:=cl d[j]) (by rw[pe,eb (show j<d.length by omega)];rfl);have X:=zQ j a6;refine MT rfl (MT rfl (MT rfl (MT d3 (MT (BZ d4) (MT rfl (MT rfl (MT X (MT d5 (MT (BZ d6) (wi ?_))))))))));show DN f [.agg (cl d[j+1]),.agg (cl d[j])] (Runs F G) H2 n2 _;refine Q _ _ _ _ _ λH3 n3 f3=>?_;refine MT (AQB _ _) ?_;refine V1 ?_;have d7:∀id,v.CD=some id->id<n2:=λid C=>b_ (hA id C) p.le;have D:u9 z cl H n A v H3 n3 d:=⟨p.sk.JO (λid C=>p.sk.own C) λid C=>f3.same id (d7 id C),λid h1 Y=>(f3.same id (hN p.le)).trans (p.same id h1 Y),w_ p.le f3.le⟩;cases hc:slt (nm d[j+1]).1 (nm d[j+1]).2 (nm d[j]).1 (nm d[j]).2 with
   |false=>
    rw[AZ];exact S D M (by rw[<-N,VO B hc])
   |true=>
    rw[Ah,X,AJ,AJ];have K:=D.sk.el (G:=G) a6;have⟨q1,d8,d9⟩:=K.at (i:=j+1) (c:=cl d[j+1]) (by simp[B]);have⟨q0,f0,f1⟩:=K.at (i:=j) (c:=cl d[j]) (by rw[pe,eb (show j<d.length by omega)];rfl);refine AB f0 (AB (BZ f1) (AB d8 (AB (BZ d9) ?_)));refine D.sk.put (i:=j+1) (w:=.agg (cl d[j])) a6 (by rw[uc];exact B) rfl (P _) λH4 Z s4=>?_;refine Z.put (i:=j) (w:=.agg (cl d[j+1])) a6 (by rw[H_,uc];omega) rfl (P _) λH5 L s5=>?_;rw[show(At (.agg (cl d[j])))=cl d[j]from rfl,show(At (.agg (cl d[j+1])))=cl d[j+1]from rfl,<-U_,<-U_]at L;rw[AJ];refine d0 j _ a6 ⟨H5,n3,(d.set (j+1) d[j]).set j d[j+1],rfl,a6,by simp[M],?_,⟨L,λid h1 Y=>(s5 id Y).trans ((s4 id Y).trans (D.same id h1 Y)),D.le⟩⟩;rw[<-N,jo B hc]
 .rw[eg R,AZ];have:m-i=0:=a6;rw[this]at O;have O:E=GI (eZ nm) xs:=O;rw[<-O]at hk;exact hk H1 n1 hj.le hj.sk hj.same
abbrev ACz{C:Type}{cl:C->LV}{nm:C->St}{p u t:Nat}(N:0<z)(D:∀x,(cl x).length=z)(w:∀x y (H:Heap) (n:Nat) (k:KV),(∀i B,Kp H n i B->k (.int .i64 (lY (nm x) (nm y)) 0) i B)->DN f [.agg (cl x),.agg (cl y)] (Runs F G) H n k)(O:DF G u (YO (AG0 z lfp G)))(P:DF G t (ar3 (ADE p u lfp G))){xs:List C}(h:Sk H z A v (xs.map cl))(Q:∀id,v.CD=some id->id<n)(X:xs.length<20)
 (R:∀i B,n<=B->Sk i z A v ((GI (eZ nm) xs).map cl)->(∀id,id<n->v.CD≠some id->T.get i id=T.get H id)->k (.CV []) i B):
 AD (lenV v) λv1=>Runs F G t [v,v1,f] H n λ_ H n=>k (.CV []) H n:=by have d:=(h.el (G:=G) a6).len;rw[uc]at d;refine AB d ?_;have⟨S,U⟩:=P;refine hJ (s:=ar3 (ADE p u lfp G)) S U ?_;show ADE p u lfp G (Runs F G) v (iN xs.length) f H n _;delta ADE;generalize hm:xs.length=m at*;refine ET (J:=λ_ s=>s=(v,iN m,f,iN 20,iN 0,iN 20,H,n)) ?_ (m:=0) rfl;rintro I q s rfl _;show yC p u lfp G (Runs F G) _ I v (iN m) f (iN 20) (iN 0) (iN 20) H n;delta yC;refine AB (ANL ..) ?_;rw[eg a6,AZ];delta qE;have⟨q1,q2⟩:=O;refine hJ (s:=YO (AG0 z lfp G)) q1 q2 ?_;refine AUG N D w h Q hm a6 λE K L M g=>?_;refine ET (J:=λ_ s=>s=(v,iN m,f,iN 20,E,K)) ?_ (m:=0) rfl;rintro W q2 Y rfl _;show ACN p lfp G (Runs F G) _ W v (iN m) f (iN 20) E K;delta ACN;refine AB (ADl ..) ?_;rw[eg a6,AZ];exact R E K L M g
abbrev AJg{xs:List (BU)}(h:Sk H 3 A v (xs.map RR))(i:∀id,v.CD=some id->id<n)(m:xs.length<20)
 (p:∀d g,n<=g->Sk d 3 A v ((GI (eZ BU.nm) xs).map RR)->(∀id,id<n->v.CD≠some id->T.get d id=T.get H id)->k (.CV []) d g):
 Runs F G FR [v,.fn PG [] []] H n k:=by refine go2 (Lu Ae G) ?_;delta FU;exact ACz (nm:=BU.nm) (cl:=RR) (f:=.fn PG [] []) a_ (λ_=>rfl) (λ_ _ _ _ _ h=>ALh h) (Mi Ae G) (Rr Ae G) h i m p
end
section
variable{G:AQ}
abbrev AK8{x y:Bk×V}(i:∀d f,Kp H n d f->k (.int .i64 (lY (eB x) (eB y)) 0) d f):Runs F G O6 [.agg (XW x),.agg (XW y)] H n k:=by refine go2 (AUp Ae G) ?_;delta WX;refine BE λu m p=>?_;refine BE λw g q=>?_;rw[CZ,AJ];refine AB (AK (off:=0) (g.get p a6) (v:=(eB x).v) rfl) ?_;rw[CZ,AJ];refine AB (AK (off:=0) q (v:=(eB y).v) rfl) ?_;exact sR (i _ _ (m.trans g))
abbrev AJc{xs:List (Bk×V)}(h:Sk H 5 A v (xs.map XW))(i:∀id,v.CD=some id->id<n)(m:xs.length<20)
 (p:∀d g,n<=g->Sk d 5 A v ((GI (eZ eB) xs).map XW)->(∀id,id<n->v.CD≠some id->T.get d id=T.get H id)->k (.CV []) d g):
 Runs F G Es [v,.fn O6 [] []] H n k:=by refine go2 (KF Ae G) ?_;delta Er;exact ACz (nm:=eB) (cl:=XW) (f:=.fn O6 [] []) a_ (λ_=>rfl) (λ_ _ _ _ _ h=>AK8 h) (MW Ae G) (RQ Ae G) h i m p
end
variable{LS:Bh}
abbrev AOQ(h:El G H v z LS):v=.AT/\LS=[]∨BM .sl false v .AT=some (.bool false):=by
 have⟨f,d⟩:=h;cases v<;>try (cases d;done)
 .cases f
 .cases d;exact .inl ⟨rfl,rfl⟩
 .exact .inr rfl
 .exact .inr rfl
 .exact .inr rfl
abbrev Yp{bs:Nat}{o:LV}(C:0<z)(p:bs<=100000)(h:El G H v z LS)(q:∀d,v.CD=some d->d<n)(D:LS.length<=100000)
 (u:∀w i x,Kp H n i x->Sk i z (λd=>n<=d/\d<x) w LS->k w i x):
 AD (BM .sl false v .AT) λv1=>AS v1 (k .AT H n) (Au (AY z 0 o [] E0) H n λv2 H n=>Ey z bs v2 v G H n λv3 H n=>k v3 H n):=by
 rcases AOQ h with⟨rfl,rfl⟩|e
 .refine AB (show BM .sl false .AT .AT=some (.bool true)from rfl) ?_;rw[Ah];exact u _ _ _ (Kp.refl _ _) .nil
 .refine AB e ?_;rw[AZ,ATM];have A:=h.same (H':=T.set H n (.arr z 0 .e)) λd f=>T.Ac _ _ (hN (q d f));cases LS with
  |nil=>exact AMz (T.B4 ..) A.2 λi B=>u _ _ _ ⟨a6,λd f=>by rw[B,T.Ac _ _ a6]⟩ (.emp ((B _).trans (T.B4 ..)) ⟨ea _,a6⟩)
  |cons a E=>
   refine ww (t:=.e) C A.2 (hN (Nat.mul_le_mul D p)) λw i m g y=>?_;refine u _ _ _ ⟨a6,λd f=>(g d a6).trans (T.Ac _ _ a6)⟩ ?_;generalize hX:a::E=X at m;cases m with
   |nil=>cases hX
   |Hf F I J f=>
    have e:=y _ rfl;exact .Hf F I J ⟨a6,a6⟩
abbrev AHL(h:El G H v 3 LS)(f:∀d,v.CD=some d->d<n)(p:LS.length<=100000)
 (q:∀m g i,Kp H n g i->Sk g 3 (λd=>n<=d/\d<i) m LS->k m g i):Runs F G Jb [v] H n k:=by refine go1 (Rs Ae G) ?_;delta Jf;exact Yp a_ a_ h f p q
abbrev AXw(h:El G H v 11 LS)(f:∀d,v.CD=some d->d<n)(p:LS.length<=100000)
 (q:∀m g i,Kp H n g i->Sk g 11 (λd=>n<=d/\d<i) m LS->k m g i):Runs F G Ca [v] H n k:=by refine go1 (QO Ae G) ?_;delta Hy;exact Yp a_ a_ h f p q
abbrev mG(h:El G H v 8 LS)(f:∀d,v.CD=some d->d<n)(p:LS.length<=100000)
 (q:∀m g i,Kp H n g i->Sk g 8 (λd=>n<=d/\d<i) m LS->k m g i):Runs F G Dh [v] H n k:=by refine go1 (Nn Ae G) ?_;delta GU;exact Yp a_ a_ h f p q
def Ip(m:Tm):Bk:=⟨m.nm,m.st,m.ps.map BU.ty,m.ret⟩
def Ar(c:Tc):Fc:=⟨c.nm,c.sup,GI (eZ BU.nm) c.fs,GI (eZ Bk.nm) (c.ms.map Ip)⟩
structure ADR(m:Tm):Prop where
 nm:m.nm.ok
 ret:m.ret.nm.ok
 ps:∀f∈m.ps,f.ty.nm.ok
 ln:m.ps.length<=1000
structure ASc(c:Tc):Prop where
 nm:c.nm.ok
 sup:c.sup.ok
 fs:∀f∈c.fs,f.nm.ok/\f.ty.nm.ok
 ms:∀m∈c.ms,ADR m
 lf:c.fs.length<20
 lm:c.ms.length<20
inductive AAa(G:AQ)(H:Heap)(A:Nat->Prop):LV->Tm->Prop where
 |mk (p q vb:V) {nm:St} {st:Bool} {ty:Ty} {ps:List BU} {bd:List Tt} {vp:V} (hp:AF7 G H A vp ps):AAa G H A [p,q,nm.v,.bool st,vp,ty.nm.v,.bool ty.arr,vb] ⟨nm,st,ps,ty,bd⟩
variable{H':Heap}{B:Nat->Prop}{c:LV}{m:Tm}
abbrev AAa.mono(d:∀id,A id->B id)(f:∀id,A id->T.get H' id=T.get H id)(h:AAa G H A c m):AAa G H' B c m:=by
 cases h with
 |mk p q g i=>exact .mk p q g (i.mono d f)
abbrev AAa.len(h:AAa G H A c m):c.length=8:=by cases h;rfl
abbrev lQ.fm(h:lQ G H A c m):AAa G H A c m:=by
 cases h with
 |mk d f g i=>exact .mk _ _ _ g
inductive ZP(G:AQ)(H:Heap)(A:Nat->Prop):Bh->List Tm->Prop where
 |nil:ZP G H A [] []
 |cons {c:LV} {e:Tm} {cs:Bh} {es:List Tm} (h:AAa G H A c e) (t:ZP G H A cs es):ZP G H A (c::cs) (e::es)
abbrev ZP.mono(d:∀id,A id->B id)(f:∀id,A id->T.get H' id=T.get H id):∀{cs:Bh} {es:aAz},ZP G H A cs es->ZP G H' B cs es
 |_,_,.nil=>.nil
 |_,_,.cons h t=>.cons (h.mono d f) (t.mono d f)
abbrev ZP.len:∀{cs:Bh} {es:aAz},ZP G H A cs es->cs.length=es.length
 |_,_,.nil=>rfl
 |_,_,.cons h t=>by simp[t.len]
abbrev ZP.at:∀{cs:Bh} {es:aAz},ZP G H A cs es->∀{i:Nat} {e:Tm},es[i]? =some e->∃c,cs[i]? =some c/\AAa G H A c e
 |_,_,.nil,i,e,h=>by simp at h
 |_,_,.cons h t,0,e,d=>by cases d;exact⟨_,rfl,h⟩
 |_,_,.cons h t,i+1,e,d=>by have⟨c,f,g⟩:=t.at (i:=i) d;exact⟨c,f,g⟩
abbrev JW.fm:∀{cs:Bh} {es:aAz},JW G H A cs es->ZP G H A cs es
 |_,_,.nil=>.nil
 |_,_,.cons h t=>.cons h.fm t.fm
inductive AAP(G:AQ)(H:Heap)(A:Nat->Prop):LV->Tc->Prop where
 |mk (p q:V) {nm sup:St} {fs:List BU} {ms:List Tm} {vf vm:V} {cs:Bh} (hf:AF7 G H A vf fs) (e1:El G H vm 8 cs) (e5:∀id,vm.CD=some id->A id) (hts:ZP G H A cs ms):AAP G H A [p,q,nm.v,sup.v,vf,vm] ⟨nm,sup,fs,ms⟩
abbrev AAP.mono{m:Tc}(f:∀id,A id->B id)(g:∀id,A id->T.get H' id=T.get H id)(h:AAP G H A c m):AAP G H' B c m:=by
 cases h with
 |mk p q u v k i=>exact .mk p q (u.mono f g) (v.same λid d=>g id (k id d)) (λid d=>f id (k id d)) (i.mono f g)
abbrev AAP.len{m:Tc}(h:AAP G H A c m):c.length=6:=by cases h;rfl
abbrev WP.fc{m:Tc}(h:WP G H A c m):AAP G H A c m:=by
 cases h with
 |mk f g i k=>
  have⟨u,p,_,_,_,q,d⟩:=k;exact .mk _ _ i p q d.fm
abbrev sgZ:LV:=[.str 0 0,.bool false,.AT,.str 0 0,.bool false]
variable{l:LV}
section
variable{G:AQ}{H:Heap}{n:Nat}{A:Nat->Prop}{k:KV}
abbrev AWW(h:AAa G H A l m)(hA:∀d,A d->d<n)(R:m.ps.length<=1000)
 (hk:∀u D w,Kp H n u D->Sk u 2 (λd=>n<=d/\d<D) w ((m.ps.map BU.ty).map Ty.cells)->k (.agg (XW (Ip m,w))) u D):Runs F G ye [.agg l] H n k:=by
 refine go1 (AEh Ae G) ?_;delta yz;cases h with
 |mk p0 q0 vb Z=>
  rename_i nm st ty B bd W;have R:B.length<=1000:=R;refine BE λH1 f1 E=>?_;refine Ao rfl λH2 f2 g2=>?_;have E:=f2.get E a6;rw[AP,AJ];refine AB (AK (off:=0+2) E (v:=nm.v) rfl) ?_;rw[AP,AJ];refine AB (AK (off:=0+3) E (v:=.bool st) rfl) ?_;rw[AP,AJ];refine AB (BV (off:=0+5) (m:=2) E a6 (by show 0+5+2<=8;omega)) ?_;refine AB (v:=.agg (XW (⟨nm,st,[],ty⟩,.AT))) rfl ?_;refine Ao rfl λH3 f3 g3=>?_;refine BX g3 rfl rfl a6 λS g4 s4=>?_;have U:Kp H n S (n+1+1+1):=(f1.trans f2).trans ⟨f3.le,λd f=>(s4 d a6).trans (f3.same d f)⟩;have E:T.get S n=_:=(s4 n a6).trans (f3.get E a6);have g2:T.get S (n+1)=_:=(s4 (n+1) a6).trans (f3.get g2 a6);rw[AP,AJ];refine AB (AK (off:=0+4) E (v:=W) rfl) ?_;have d0:=Z.mono (H':=S) (λ_ h=>h) λd f=>U.same d (hA d f);have K:=d0.1.len;rw[uc]at K;refine AB K ?_;refine BL (N:=B.length) (J:=λj q=>∃u D w,q=(.ptr (n+1) 0,.ptr (n+2) 0,W,iN B.length,iN j,u,D)/\Kp H n u D/\n+3<=D/\T.get u (n+1)=some (one sgZ)/\T.get u (n+2)=some (one (XW (⟨nm,st,[],ty⟩,w)))/\
   Sk u 2 (λd=>n+3<=d/\d<D) w (((B.take j).map BU.ty).map Ty.cells)) ?_ ?_ ⟨S,n+1+1+1,.AT,rfl,U,a6,g2,g4,.nil⟩
  .rintro I j q L ⟨P,C,w,rfl,Q,d1,b1,X,Y⟩ ih;show ND lfp G (Runs F G) k I (.ptr (n+1) 0) (.ptr (n+2) 0) W (iN B.length) (iN j) P C;delta ND;have d2:=Z.1.same (H':=P) λd f=>Q.same d (hA d (Z.2.2.2.2 d f));have⟨p,d3,V⟩:=d2.at (i:=j) (c:=RR B[j]) (by simp[L]);have y:=take_snoc (eb L);generalize B[j]=x at V y;rw[D9,AJ,ui L,Ah];refine AB d3 (AB (BZ V) ?_);refine Ao rfl λH6 f6 g6=>?_;refine BX g6 rfl rfl a6 λH7 g7 s7=>?_;have M:Kp P C H7 (C+1):=⟨f6.le,λd f=>(s7 d a6).trans (f6.same d f)⟩;have d4:=M.get X a6;rw[AP,AJ];refine AB (AK (off:=0+2) d4 (v:=w) rfl) ?_;rw[AP,AJ];refine AB (BV (off:=0+1) (m:=2) g7 a6 (by show 0+1+2<=3;omega)) ?_;have bj:Sk H7 2 (λd=>n+3<=d/\d<C) w (((B.take j).map BU.ty).map Ty.cells):=Y.mono (λ_ h=>h) λd f=>M.same d f.2;refine bj.app (bs:=24) (c:=x.ty.v) (m:=0) (λd f=>hN ((bj.own f).2)) a6 rfl rfl (by rw[uc,uc,xx];omega) λw' H8 d5 O d6=>?_;have k8:∀d,d<n+3->T.get H8 d=T.get P d:=λd h=>(O d a6 λe=>hN ((bj.own e).1)).trans (M.same d a6);have g:=d5 (λd=>n+3<=d/\d<C+1+2) ⟨a6,a6⟩;rw[AJ];refine FK (off:=0+2) (m:=1) (v:=w') ((k8 (n+2) a6).trans X) g.ok.1 (by rw[g.ok.2.1];rfl) a6 (by show 0+2+1<=5;omega) λH9 g9 s9=>?_;rw[g.ok.2.1]at g9;rw[CA a6,AJ];refine ih _ ⟨H9,C+1+2,w',rfl,⟨hN Q.le,λd f=>(s9 d a6).trans ((k8 d a6).trans (Q.same d f))⟩,a6,(s9 (n+1) a6).trans ((k8 (n+1) a6).trans b1),g9,?_⟩;rw[y,wm,wm];exact g.JO (λd f=>g.own f) λd f=>s9 d (hN (g.own f))
  .rintro I q ⟨P,C,w,rfl,Q,d1,b1,X,Y⟩;show ND lfp G (Runs F G) k I (.ptr (n+1) 0) (.ptr (n+2) 0) W (iN B.length) (iN B.length) P C;delta ND;rw[D9,AJ,eg (m_ _),AZ];delta Wj;refine AB (As (m:=5) X a6 rfl) ?_;refine BX b1 rfl rfl a6 λH6 g6 s6=>?_;rw[By (m:=5) g6 a6 rfl];simp only[go_sem];rw[_d o_]at Y;refine hk H6 C w ⟨Q.le,λd f=>(s6 d a6).trans (Q.same d f)⟩ (Y.mono (λd h=>⟨a6,h.2⟩) λd h=>s6 d a6)
end
abbrev z6:LV:=[.str 0 0,.str 0 0,.AT,.AT]
def yl(nm sup:St)(vf vm:V):LV:=[nm.v,sup.v,vf,vm]
abbrev ANV(h:Sk H 3 A v LS)(a b c d:Nat):BT z6 [(0,1,.c (.str a b)),(1,1,.c (.str c d)),(2,1,.c v)]=some (.agg [.str a b,.str c d,v,.AT]):=by cases h<;>rfl
variable{R:Nat->Prop}{R':Nat->Prop}{w:V}
section
variable{G:AQ}{H:Heap}{n:Nat}{A:Nat->Prop}{k:KV}
def mU(G:AQ)(H:Heap)(R:Nat->Prop)(v:V)(c:Fc):Prop:=∀H' n',(∀id,R id->T.get H' id=T.get H id)->(∀id,R id->id<n')->Jz G H' n' v c
abbrev mU.mono{c:Fc}(h:mU G H R v c)(i:∀id,R id->R' id)(k:∀id,R id->T.get H' id=T.get H id):mU G H' R' v c:=
 λf g m p=>h f g (λid d=>(m id (i id d)).trans (k id d)) λid d=>p id (i id d)
structure ALq(G:AQ)(H:Heap)(B:Nat->Prop)(ps:List (Bk×V)):Prop where
 at':∀p∈ps,El G H p.2 2 (p.1.ps.map Ty.cells)/\(∀id,p.2.CD=some id->B id)/\p.1.ps.length<=1000/\(∀t∈p.1.ps,t.nm.ok)/\p.1.nm.ok/\p.1.ret.nm.ok
abbrev ALq.mono{C:Nat->Prop}{ps:List (Bk×V)}(h:ALq G H B ps)(g:∀id,B id->C id)(i:∀id,B id->T.get H' id=T.get H id):ALq G H' C ps:=
 ⟨λp k=>by have⟨m,f,q⟩:=h.at' p k;exact⟨m.same λid d=>i id (f id d),λid d=>g id (f id d),q⟩⟩
abbrev ASD{ps:List (Bk×V)}{i:Nat}{m:Bk}(f:(ps.map Prod.fst)[i]? =some m)(d:(ps.map Prod.snd)[i]? =some w):(m,w)∈ps:=by rw[pe]at f d;obtain⟨p,g,rfl⟩:=d_.1 f;rw[g]at d;cases d;exact D' g
abbrev ARx{nm D:St}{fs:aAm}{ps:List (Bk×V)}{y:V}{b:Nat}{H0:Heap}{n0:Nat}(hb:b+2<=n)(d2:n0<=b)(b1:T.get H b=some (one z6))(b2:T.get H (b+1)=some (one (yl nm D y w)))
 (f:Kp H0 n0 H n) (Q:Sk H 3 (λid=>b+2<=id/\id<n) y (fs.map RR)) (R:Sk H 5 (λid=>b+2<=id/\id<n/\y.CD≠some id) w (ps.map XW)) (K:ALq G H (λid=>b+2<=id/\id<n/\y.CD≠some id/\w.CD≠some id) ps)
 (S:∀f∈fs,f.nm.ok/\f.ty.nm.ok) (U:nm.ok/\D.ok) (W:fs.length<20) (X:ps.length<20)
 (hk:∀E Y v,Kp H0 n0 E Y->mU G E (λid=>n0<=id/\id<Y) v ⟨nm,D,GI (eZ BU.nm) fs,GI (eZ Bk.nm) (ps.map Prod.fst)⟩->k v E Y):S7 lfp G (Runs F G) k (.ptr b 0) (.ptr (b+1) 0) H n:=by
 delta S7;have d3:=f.le;refine go1 (rF Ae G) ?_;delta Zx;rw[BG,AJ,AP,AJ];refine AB (AK (off:=0+2) b2 (v:=y) rfl) ?_;refine AJg Q (λid d=>(Q.own d).2) W λH1 n1 d4 fI g=>?_;have Z:∀id,id<b+2->y.CD≠some id:=λid h e=>hN (Q.own e);have L:T.get H1 (b+1)=_:=(g (b+1) a6 (Z _ a6)).trans b2;rw[AJ,AP,AJ];refine AB (AK (off:=0+3) L (v:=w) rfl) ?_;have M:Sk H1 5 (λid=>b+2<=id/\id<n/\y.CD≠some id) w (ps.map XW):=R.mono (λ_ h=>h) λid h=>g id h.2.1 h.2.2;refine AJc M (λid d=>hN (M.own d)) X λH2 n2 d5 I q=>?_;have wo:∀id,id<b+2->w.CD≠some id:=λid h e=>hN (R.own e);have d0:T.get H2 (b+1)=_:=(q (b+1) a6 (wo _ a6)).trans L;refine AB (As (m:=4) d0 a6 rfl) ?_;have d1:T.get H2 b=_:=(q b a6 (wo _ a6)).trans ((g b a6 (Z _ a6)).trans b1);refine BX d1 rfl rfl a6 λN g3 O=>?_;rw[By (m:=4) g3 a6 rfl];simp only[go_sem];have sf3:Sk N 3 (λid=>b+2<=id/\id<n) y ((GI (eZ BU.nm) fs).map RR):=fI.JO (λid d=>fI.own d) λid d=>(O id (hN (fI.own d))).trans (q id (hN (fI.own d)) λe=>(R.own e).2.2 d);have P:Sk N 5 (λid=>b+2<=id/\id<n) w ((GI (eZ eB) ps).map XW):=I.JO (λid d=>by have:=I.own d;exact⟨this.1,this.2.1⟩) λid d=>O id (hN (I.own d));have u:=K.mono (H':=N) (C:=λid=>b+2<=id/\id<n) (λid h=>⟨h.1,h.2.1⟩) λid h=>(O id a6).trans ((q id a6 h.2.2.2).trans (g id h.2.1 h.2.2.1));have A:=sV (lt:=eZ eB) (lt':=eZ Bk.nm) (f:=Prod.fst) (λa b=>rfl) ps;refine hk N n2 _ ⟨a6,λid d=>(O id a6).trans ((q id a6 (wo _ a6)).trans ((g id a6 (Z _ a6)).trans (f.same id d)))⟩ λH4 n4 h4 J=>?_;have rg:∀id,b+2<=id->id<n->n0<=id/\id<n2:=λid h1 h2=>⟨a6,a6⟩;have sf3:=sf3.mono (H':=H4) (B:=λid=>id<n4) (λid h=>J id (rg id h.1 h.2)) λid h=>h4 id (rg id h.1 h.2);have P:=P.mono (H':=H4) (B:=λid=>id<n4) (λid h=>J id (rg id h.1 h.2)) λid h=>h4 id (rg id h.1 h.2);have u:=u.mono (H':=H4) (C:=λid=>id<n4) (λid h=>J id (rg id h.1 h.2)) λid h=>h4 id (rg id h.1 h.2);refine⟨y,w,(GI (eZ eB) ps).map Prod.snd,⟨rfl,?_,?_,U⟩,rfl⟩
 .exact⟨sf3.el a6,λid d=>sf3.own d,by rw[VN];unfold big;omega,λx hx=>S x (Pa hx)⟩
 .refine⟨?_,λid d=>P.own d,by rw[VN,uc];unfold big;omega,by rw[uc,VN,VN,uc],?_,?_⟩
  .have:=P.el (G:=G) a6;rw[AJI,A]at this;exact this
  .intro i m w' h1 h2;rw[<-A]at h1;have⟨q1,q2,q3,q4,_⟩:=u.at' _ (Pa (ASD h1 h2));exact⟨q1,λid d=>q2 id d,Nat.lt_of_le_of_lt (show m.ps.length<=1000 from q3) (by unfold big;omega),q4⟩
  .intro m hm;obtain⟨p,hp,rfl⟩:=_c.1 (Pa hm);exact(K.at' p hp).2.2.2.2
abbrev ATs{c:Tc}(h:AAP G H A l c)(hA:∀id,A id->id<n)(hc:ASc c)(hk:∀H' K v,Kp H n H' K->mU G H' (λid=>n<=id/\id<K) v (Ar c)->k v H' K):Runs F G jt [.agg l] H n k:=by
 refine go1 (AHk Ae G) ?_;delta ABm;cases h with
 |mk p0 q0 hf e1 e5 d3=>
  rename_i nm L fs S vf vm cs;have f8:nm.ok/\L.ok:=⟨hc.nm,hc.sup⟩;have k1:S.length<20:=hc.lm;have g0:fs.length<20:=hc.lf;have g6:=d3.len;refine BE λH1 f1 g1=>?_;refine Ao rfl λH2 f2 g2=>?_;have g1:=f2.get g1 a6;rw[AP,AJ];refine AB (AK (off:=0+2) g1 (v:=nm.v) rfl) ?_;rw[AP,AJ];refine AB (AK (off:=0+3) g1 (v:=L.v) rfl) ?_;rw[AP,AJ];refine AB (AK (off:=0+4) g1 (v:=vf) rfl) ?_;refine Ao rfl λH3 f3 g3=>?_;have d4:=(f1.trans f2).trans f3;have g9:=hf.1.same (H':=H3) λid d=>d4.same id (hA id (hf.2.2.2.2 id d));refine AHL g9 (λid d=>hN (hA id (hf.2.2.2.2 id d))) (by rw[uc];omega) λy H4 n4 f4 sf=>?_;have k2:=f4.le;have g4:=f4.get (f3.get g1 a6) a6;refine AB (AK (off:=0+2) g4 (v:=nm.v) rfl) (Ba (xf ..) (AB (AK (off:=0+3) g4 (v:=L.v) rfl) (Ba (xf ..) ?_)));refine AB (ANV sf ..) ?_;have zt:=f4.get g3 a6;refine BX zt rfl rfl a6 λH5 g5 s5=>?_;have d5:Kp H n H5 n4:=⟨a6,λid d=>(s5 id a6).trans ((d4.trans f4).same id d)⟩;have i0:T.get H5 n=_:=(s5 n a6).trans g4;have u4:T.get H5 (n+1)=_:=(s5 (n+1) a6).trans (f4.get (f3.get g2 a6) a6);have sf5:Sk H5 3 (λid=>n+3<=id/\id<n4) y (fs.map RR):=sf.mono (λid h=>⟨a6,h.2⟩) λid h=>s5 id a6;rw[AP,AJ];refine AB (AK (off:=0+5) i0 (v:=vm) rfl) ?_;have i1:=e1.same (H':=H5) λid d=>d5.same id (hA id (e5 id d));have W:=i1.len;rw[g6]at W;refine AB W ?_;refine BL (N:=S.length) (J:=λj q=>∃H' K w U,q=(.ptr (n+1) 0,.ptr (n+2) 0,vm,iN S.length,iN j,H',K)/\Kp H n H' K/\n+3<=K/\T.get H' (n+1)=some (one z6)/\T.get H' (n+2)=some (one (yl nm L y w))/\
   Sk H' 3 (λid=>n+3<=id/\id<K) y (fs.map RR)/\Sk H' 5 (λid=>n+3<=id/\id<K/\y.CD≠some id) w (U.map XW)/\ALq G H' (λid=>n+3<=id/\id<K/\y.CD≠some id/\w.CD≠some id) U/\U.map Prod.fst=(S.take j).map Ip) ?_ ?_
   ⟨H5,n4,.AT,[],rfl,d5,a6,u4,g5,sf5,.nil,⟨λp hp=>by cases hp⟩,rfl⟩
  .rintro I j q M ⟨H6,X,w,U,rfl,Y,i2,b1,b2,p7,V,O,B⟩ ih;show ON lfp G (Runs F G) k I (.ptr (n+1) 0) (.ptr (n+2) 0) vm (iN S.length) (iN j) H6 X;delta ON;have i3:=e1.same (H':=H6) λid d=>Y.same id (hA id (e5 id d));have d6:=ZP.mono (H':=H6) (λ_ h=>h) (λid d=>Y.same id (hA id d)) d3;have⟨lm,d7,Tr⟩:=d6.at (i:=j) (eb M);have⟨p,i4,i5⟩:=i3.at d7;have P:=take_snoc (eb M);have D:=hc.ms _ (f_ M);have i6:U.length=j:=by have:=congrArg List.length B;simpa[xx,aAi (aAf M)]using this
   generalize S[j]=m at Tr P D;rw[D9,AJ,ui M,Ah];refine AB i4 (AB (BZ i5) ?_);refine Ao rfl λH7 f7 g7=>?_;refine BX g7 rfl Tr.len a6 λH8 g8 s8=>?_;have d0:Kp H6 X H8 (X+1):=⟨f7.le,λid d=>(s8 id a6).trans (f7.same id d)⟩;have i7:=d0.get b2 a6;rw[AP,AJ];have q2:∀{H':Heap},T.get H' (n+2)=some (one (yl nm L y w))->AM (.ptr (n+2) (0+3)) G H'=some w:=λg=>AK (off:=0+3) g rfl;refine AB (q2 i7) (AB (As (m:=8) g8 a6 Tr.len) ?_);have d8:=Tr.mono (H':=H8) (λ_ h=>h) λid d=>d0.same id (tw (hA id d) Y.le);refine AWW d8 (λid d=>tw (hA id d) Y.le) D.ln λH9 n9 w1 f9 i8=>?_;have k3:=f9.le;have Q:=d0.trans f9;have i9:=Q.get b2 a6;refine AB (q2 i9) (Ba V.ok.2.2 ?_);have R:Sk H9 5 (λid=>n+3<=id/\id<X/\y.CD≠some id) w (U.map XW):=V.mono (λ_ h=>h) λid h=>Q.same id h.2.1;refine R.app (bs:=72) (c:=.agg (XW (Ip m,w1))) (m:=0) (λid d=>hN (R.own d)) a6 rfl rfl (by rw[uc];omega) λw' k0 d9 x f0=>?_;have d1:∀id,id<n+3->T.get k0 id=T.get H6 id:=λid h=>(x id a6 λe=>hN (R.own e)).trans (Q.same id a6);have hU:∀id,y.CD=some id->n+3<=id/\id<X:=λid d=>p7.own d;have u:=d9 (λid=>n+3<=id/\id<n9+2/\y.CD≠some id) ⟨a6,a6,λe=>hN (hU _ e)⟩;rw[AJ];refine FK (off:=0+3) (m:=1) (v:=w') ((d1 (n+2) a6).trans b2) u.ok.1 (by rw[u.ok.2.1];rfl) a6 (by show 0+3+1<=4;omega) λd2 f5 E=>?_;rw[u.ok.2.1]at f5;rw[CA a6,AJ];refine ih _ ⟨d2,n9+2,w',U++[(Ip m,w1)],rfl,⟨hN Y.le,λid d=>(E id a6).trans ((d1 id a6).trans (Y.same id d))⟩,a6,(E (n+1) a6).trans ((d1 (n+1) a6).trans b1),f5,?_,?_,⟨λp hp=>?_⟩,?_⟩
   .refine p7.JO (λid d=>hN (hU id d)) λid d=>?_;have:=hU id d;exact(E id a6).trans ((x id a6 λe=>(R.own e).2.2 d).trans (Q.same id this.2))
   .rw[wm];exact u.JO (λid d=>u.own d) λid d=>E id (hN (u.own d))
   .have w'ne:∀id,id<n9+1->w'.CD≠some id:=λid h e=>by rw[f0]at e;have:=e_ e;omega
    rcases q_.1 hp with hp|hp
    .have:=(O.mono (H':=d2) (C:=λid=>n+3<=id/\id<n9+2/\y.CD≠some id/\w'.CD≠some id) (λid h=>⟨h.1,a6,h.2.2.1,w'ne id a6⟩) λid h=>(E id a6).trans ((x id a6 h.2.2.2).trans (Q.same id h.2.1))).at' p hp;exact this
    .rw[ff.1 hp];have Z:Sk d2 2 (λid=>X+1<=id/\id<n9) w1 ((m.ps.map BU.ty).map Ty.cells):=i8.mono (λ_ h=>h) λid h=>(E id a6).trans (x id a6 λe=>hN (R.own e));refine⟨Z.el a6,λid d=>?_,?_,?_,D.nm,D.ret⟩
     .have:=Z.own d;exact⟨a6,a6,λe=>hN (hU _ e),w'ne id a6⟩
     .show(m.ps.map BU.ty).length<=1000;rw[uc];exact D.ln
     .intro t ht;obtain⟨f,hf,rfl⟩:=_c.1 (show t∈m.ps.map BU.ty from ht);exact D.ps f hf
   .rw[P,wm,wm,B];rfl
  .rintro I q ⟨H6,X,w,U,rfl,Y,i2,b1,b2,p7,V,O,B⟩;show ON lfp G (Runs F G) k I (.ptr (n+1) 0) (.ptr (n+2) 0) vm (iN S.length) (iN S.length) H6 X;delta ON;rw[D9,AJ,eg (m_ _),AZ];rw[_d o_]at B;have i6:U.length=S.length:=by have:=congrArg List.length B;simpa using this
   refine ARx (b:=n+1) (n0:=n) a6 a6 b1 b2 Y p7 V O hc.fs f8 g0 a6 λH' K v f' hv=>?_;rw[B]at hv;exact hk H' K v f' hv
end
inductive Vs(G:AQ)(H:Heap)(A:Nat->Prop):Bh->List Tc->Prop where
 |nil:Vs G H A [] []
 |cons {c:LV} {e:Tc} {cs:Bh} {es:List Tc} (h:AAP G H A c e) (t:Vs G H A cs es):Vs G H A (c::cs) (e::es)
abbrev Vs.mono(d:∀id,A id->B id)(f:∀id,A id->T.get H' id=T.get H id):∀{cs:Bh} {es:List Tc},Vs G H A cs es->Vs G H' B cs es
 |_,_,.nil=>.nil
 |_,_,.cons h t=>.cons (h.mono d f) (t.mono d f)
abbrev Vs.len:∀{cs:Bh} {es:List Tc},Vs G H A cs es->cs.length=es.length
 |_,_,.nil=>rfl
 |_,_,.cons h t=>by simp[t.len]
abbrev Vs.at:∀{cs:Bh} {es:List Tc},Vs G H A cs es->∀{i:Nat} {e:Tc},es[i]? =some e->∃c,cs[i]? =some c/\AAP G H A c e
 |_,_,.nil,i,e,h=>by simp at h
 |_,_,.cons h t,0,e,d=>by cases d;exact⟨_,rfl,h⟩
 |_,_,.cons h t,i+1,e,d=>by have⟨c,f,g⟩:=t.at (i:=i) d;exact⟨c,f,g⟩
inductive Ud(G:AQ)(H:Heap)(R:Nat->Prop):Bh->List Fc->Prop where
 |nil:Ud G H R [] []
 |cons {l:LV} {c:Fc} {ls:Bh} {cs:List Fc} (h:mU G H R (.agg l) c) (t:Ud G H R ls cs):Ud G H R (l::ls) (c::cs)
abbrev Ud.mono(d:∀id,R id->R' id)(f:∀id,R id->T.get H' id=T.get H id):∀{g:Bh} {cs:b9},Ud G H R g cs->Ud G H' R' g cs
 |_,_,.nil=>.nil
 |_,_,.cons h t=>.cons (h.mono d f) (t.mono d f)
abbrev Ud.len:∀{d:Bh} {cs:b9},Ud G H R d cs->d.length=cs.length
 |_,_,.nil=>rfl
 |_,_,.cons _ t=>by simp[t.len]
abbrev Ud.at:∀{g:Bh} {cs:b9},Ud G H R g cs->∀{i:Nat} {l:LV} {c:Fc},g[i]? =some l->cs[i]? =some c->mU G H R (.agg l) c
 |_,_,.nil,i,l,c,_,h=>by simp at h
 |_,_,.cons h t,0,l,c,d,f=>by cases d;cases f;exact h
 |_,_,.cons h t,i+1,l,c,d,f=>t.at (i:=i) d f
abbrev Ud.snoc:∀{d:Bh} {cs:b9} {l:LV} {c:Fc},Ud G H R d cs->mU G H R (.agg l) c->Ud G H R (d++[l]) (cs++[c])
 |_,_,_,_,.nil,h=>.cons h .nil
 |_,_,_,_,.cons h t,f=>.cons h (t.snoc f)
abbrev Jz.cells{c:Fc}(h:Jz G H n v c):∃d f,v=.agg (yl c.nm c.sup d f):=by have⟨d,f,g,_,e⟩:=h;exact⟨d,f,e⟩
variable{cs:List Tc}{q:Bh}
section
variable{G:AQ}{H:Heap}{n:Nat}{k:KV}{A:Nat->Prop}
abbrev ANN{ls:Bh}(h:El G H v 6 ls)(T:Lo v n)(U:Vs G H A ls cs)(hA:∀id,A id->id<n)(d2:∀c∈cs,ASc c)(d9:cs.length<=100)
 (hk:∀B K t a b,Kp H n B K->(n<=b/\n<=a/\n<=t)->TabAt G B K t a b (Ef (cs.map Ar))->k (.ptr t 0) B K):AO8 lfp G (Runs F G) v H n k:=by
 delta AO8;refine AYs a6 λH1 f1 g1=>?_;have⟨t1,g1⟩:=g1;have M:=(h.kp T f1).len;rw[U.len]at M;refine AB M ?_;refine BL (N:=cs.length) (J:=λj q=>∃B K w R,q=(w,v,iN cs.length,iN j,B,K)/\Kp H n B K/\Sk B 4 (λid=>n<=id/\id<K) w R/\Ud G B (λid=>n<=id/\id<K/\w.CD≠some id) R ((cs.take j).map Ar)) ?_ ?_
  ⟨H1,n+1,_,[],rfl,f1,.emp g1 ⟨ea _,a6⟩,.nil⟩
 .rintro I j q C ⟨S,O,w,R,rfl,P,sk,g⟩ ih;show sA lfp G (Runs F G) k I w v (iN cs.length) (iN j) S O;delta sA;have f0:=P.le;have W:=Vs.mono (H':=S) (λ_ h=>h) (λid d=>P.same id (hA id d)) U;have⟨l,hl,D⟩:=W.at (eb C);have⟨p,d3,d4⟩:=(h.kp T P).at hl;have u:=take_snoc (eb C);have X:=d2 _ (f_ C);have E:=g.len;rw[uc,xx]at E;generalize cs[j]=c at D u X;rw[D9,AJ,ui C,Ah];refine AB d3 (AB (BZ d4) ?_);refine Ao rfl λH3 f3 g3=>?_;refine BX g3 rfl D.len a6 λH4 g4 s4=>?_;have Y:Kp S O H4 (O+1):=⟨f3.le,λid d=>(s4 id a6).trans (f3.same id d)⟩;refine AB (As (m:=6) g4 a6 D.len) ?_;have Z:=D.mono (H':=H4) (λ_ h=>h) λid d=>Y.same id (hN (hA id d));refine ATs Z (λid d=>hN (hA id d)) X λH5 n5 fv f5 d0=>?_;have f4:=f5.le;have Q:=Y.trans f5;have⟨vf,vm,e⟩:=(d0 H5 n5 (λ_ _=>rfl) λ_ h=>h.2).cells;subst e;have ZV:Sk H5 4 (λid=>n<=id/\id<O) w R:=sk.mono (λ_ h=>h) λid h=>Q.same id h.2;refine ZV.app (bs:=80) (c:=.agg (yl (Ar c).nm (Ar c).sup vf vm)) (m:=0) (λid d=>hN (ZV.own d)) a6 rfl rfl (by rw[E];omega) λw' H6 d5 f d1=>?_;rw[CA a6,AJ];have w'ne:∀id,id<n5+1->w'.CD≠some id:=λid h e=>by rw[d1]at e;have:=e_ e;omega
  refine ih _ ⟨H6,n5+2,w',_,rfl,⟨a6,λid d=>(f id a6 λe=>hN (ZV.own e)).trans ((Q.same id a6).trans (P.same id d))⟩,d5 _ ⟨a6,a6⟩,?_⟩;rw[u,wm];refine Ud.snoc (Ud.mono (λid h=>⟨h.1,a6,w'ne id a6⟩) (λid h=>(f id a6 h.2.2).trans (Q.same id h.2.1)) g) (d0.mono (λid h=>⟨a6,a6,w'ne id a6⟩) λid h=>f id a6 λe=>hN (ZV.own e))
 .rintro I q ⟨S,O,w,R,rfl,P,sk,g⟩;show sA lfp G (Runs F G) k I w v (iN cs.length) (iN cs.length) S O;delta sA;rw[D9,AJ,eg (m_ _),AZ];delta xB;rw[_d o_]at g;have E:=g.len;have d6:(cs.map Ar).length<=1000:=by rw[uc];omega
  refine AWw (m:=O) (cs:=cs.map Ar) ⟨⟨R,sk.el a6,E,λi L c h1 h2=>g.at h1 h2 S O (λ_ _=>rfl) λid h=>h.2.1⟩,λid d=>(sk.own d).2,d6,ea _⟩ λH3 n3 t a b f3 g3 d7 d8 h1 h2 h3 h4=>?_;have:=P.le;refine hk H3 n3 t a b (P.trans f3) a6 ⟨h4,a6,a6,a6,a6,g3,?_,d8⟩;have⟨ps,q1,q2,q3⟩:=d7.is;exact⟨ps,q1,q2,λs v c x y=>(q3 s v c x y).up f3.le⟩
abbrev AQP(h:El G H v 6 q)(d:Lo v n)(f:Vs G H A q cs)(w:∀u,A u->u<n)(g:∀c∈cs,ASc c)(i:cs.length<=100)
 (x:∀m p t a b,Kp H n m p->(n<=b/\n<=a/\n<=t)->TabAt G m p t a b (Ef (cs.map Ar))->k (.ptr t 0) m p):Runs F G Xc [v] H n k:=by refine go1 (nK Ae G) ?_;delta YJ;exact ANN h d f w g i x
end
section
variable{G:AQ}{H:Heap}{n:Nat}{k:KV}{A:Nat->Prop}
abbrev AKR(h:El G H v 6 q)(d:Lo v n)(f:Vs G H A q cs)(w:∀u,A u->u<n)(g:∀c∈cs,ASc c)(i:cs.length<=100)
 (x:∀m p t a b,Kp H n m p->(n<=b/\n<=a/\n<=t)->TabAt G m p t a b (Ef (cs.map Ar))->k (.ptr t 0) m p):Runs F G X7 [v] H n k:=by refine go1 (mr Ae G) ?_;delta Xi;exact ANN h d f w g i x
end
end Go.RL
