/- Part of a proof; nothing is assumed. -/
import Derived.Test.YtlhlldpfafhpbaaGreatDoorConF
set_option linter.unusedVariables false
set_option linter.unusedSimpArgs false
namespace Go.RL
open Go.BN
set_option maxRecDepth 100000
structure Kq where
 kb:Nat
 n0:Nat
 t:Nat
 a:Nat
 b:Nat
 tb:Tab
 cl:Nat
 cc:Nat
 cls:St
 sup:St
 vf:V
 vm:V
structure Km where
 ml:Nat
 mc:Nat
 nm:St
 st:Bool
 vp:V
 ret:Ty
 vb:V
def Kq.cells(K:Kq)(M:Km)(vv:V)(all:Nat):LV:=[.ptr K.t 0,vv,iN all,iN K.cl,iN K.cc,K.cls.v,K.sup.v,K.vf,K.vm,
 iN M.ml,iN M.mc,M.nm.v,.bool M.st,M.vp,M.ret.nm.v,.bool M.ret.arr,M.vb,iN 0,iN 0,iN 0]
def Kq.x(K:Kq)(M:Km):Kx:=⟨K.tb,K.cls,M.st,M.ret⟩
structure T1(G:AQ)(K:Kq):Prop where
 n0:K.n0<=K.kb
 ta:K.t<K.n0
 aa:K.a<K.n0
 ba:K.b<K.n0
 ar:∀s c,DU K.tb s=some c->∀m∈c.ms,m.ps.length<=1000
 tn:∀s c,DU K.tb s=some c->(∀f∈c.fs,f.ty.nm.ok)/\∀m∈c.ms,m.ret.nm.ok
 tl:K.tb.length<=1000
 cls:K.cls.ok
 sub:RN G
structure au(G:AQ)(H:Heap)(n:Nat)(K:Kq)(M:Km)(vv:V)(all:Nat)(Γ:List BU):Prop where
 g:T.get H K.kb=some (one (K.cells M vv all))
 tab:TabAt G H K.n0 K.t K.a K.b K.tb
 kn:K.kb<n
 sk:Sk H 3 (λid=>K.kb<id/\id<n) vv (Γ.map RR)
 la:Γ.length<=all
 al:all<=200
 ok:∀f∈Γ,f.ty.nm.ok
 ret:M.ret.nm.ok
variable{G:AQ}{H:Heap}{n:Nat}{n':Nat}{a:Nat}{b:Nat}{fs:Tab}
abbrev TabAt.up{t:Nat}(h:TabAt G H n t a b fs)(d:n<=n'):TabAt G H n' t a b fs:=
 h.kb ⟨d,λ_ _ _=>rfl,λh=>h⟩
variable{H':Heap}{K:Kq}{M:Km}{vv:V}{Γ:List BU}
abbrev au.kb{all:Nat}{Γ:aAm}(o:T1 G K)(h:au G H n K M vv all Γ)(f:Kb K.b H n H' n'):au G H' n' K M vv all Γ:=by have:=o.n0;have:=o.ba;exact⟨f.get h.g h.kn a6,h.tab.kb (f.low (hN h.kn)),b_ h.kn f.le,h.sk.mono (λi d=>⟨d.1,b_ d.2 f.le⟩) λi d=>f.same i d.2 a6,h.la,h.al,h.ok,h.ret⟩
abbrev au.kp{all:Nat}{Γ:aAm}(o:T1 G K)(h:au G H n K M vv all Γ)(f:Kp H n H' n'):au G H' n' K M vv all Γ:=
 h.kb o (f.kb (ef h.kn o.n0 o.ba))
abbrev au.lt{all:Nat}{Γ:aAm}(h:au G H n K M vv all Γ):Γ.length<=200:=w_ h.la h.al
abbrev au.bn{all:Nat}{Γ:aAm}(o:T1 G K)(h:au G H n K M vv all Γ):K.b<n:=by have:=h.kn;have:=o.n0;have:=o.ba;omega
abbrev au.up{all:Nat}{Γ:aAm}(o:T1 G K)(h:au G H n K M vv all Γ):TabAt G H n K.t K.a K.b K.tb:=
 h.tab.up (tw h.kn o.n0)
variable{v:V}{cs:Bh}{es:List Te}{t:Ty}{s:St}
section
variable{G:AQ}{H:Heap}{n:Nat}{K:Kq}{M:Km}{vv:V}{all:Nat}{Γ:List BU}{k:KV}{A:Nat->Prop}
abbrev L2{i m p:V}(g:T.get H K.kb=some (one (K.cells M vv all)))(q:K.kb<n)(u:∀d,Kp H n d (n+1)->k (.bool true) d (n+1)):
 Runs F G A4 [.ptr K.kb 0,.bool true,i,.agg [m,p]] H n k:=by refine tS (de Ae G) ?_;delta Tf;refine BE λv f w=>?_;rw[Bw,AJ];show AS (.bool false) _ _;rw[AZ];delta GC;rw[BG,AJ,AP,AJ,CZ,AJ];refine AB (AK (off:=0+17) (f.get g q) rfl) ?_;refine AB (A9 ..) ?_;exact u v f
abbrev sI{es:aAq}(g:T.get H K.kb=some (one (K.cells M vv all)))(hn:K.kb<n)(X:El G H v 11 cs)(Y:∀id,v.CD=some id->A id)(Z:DV G H A cs es)(O:∀id,A id->id<n)(D:∀e∈es,e.of=t)(d0:es.length<=1000000)
 (hk:∀i E,Kp H n i E->k (.bool true) i E):Runs F G CO [.ptr K.kb 0,v,t.v] H n k:=by
 refine xN (bK Ae G) ?_;delta SK;refine BE λP Q g1=>?_;have u:=(X.same (H':=P) λid d=>Q.same id (O id (Y id d))).len;rw[Z.len]at u;refine AB u ?_;refine BL (N:=es.length) (J:=λj q=>∃i E,q=(.ptr K.kb 0,.ptr n 0,v,iN es.length,iN j,i,E)/\Kp P (n+1) i E) ?_ ?_ ⟨P,n+1,rfl,Kp.refl _ _⟩
 .rintro I j q w ⟨x,y,rfl,C⟩ ih;show Dx lfp G (Runs F G) k I (.ptr K.kb 0) (.ptr n 0) v (iN es.length) (iN j) x y;delta Dx;have f:=Q.trans C;have d1:=f.le;have⟨l,hl,R⟩:=(DV.mono (H':=x) (λ_ h=>h) (λid d=>f.same id (O id d)) Z).at (eb w);have⟨p,S,U⟩:=(X.same (H':=x) λid d=>f.same id (O id (Y id d))).at hl;have L:=D _ (f_ w);generalize es[j]=e at R L;rw[D9,AJ,ui w,Ah];refine AB S (AB (BZ U) ?_);refine Ao rfl λH3 f3 g3=>?_;refine BX g3 rfl R.len a6 λH4 g4 s4=>?_;have B:Kp x y H4 (y+1):=⟨f3.le,λid d=>(s4 id a6).trans (f3.same id d)⟩;cases R with
  |mk kind num nm ty of own line col d2 d3 d4 d5=>
   obtain rfl:of=t:=L;rw[AP,AJ];refine AB (BV (off:=0+8) (m:=2) g4 a6 (by show 0+8+2<=11;omega)) ?_;have W:T.get H4 n=_:=B.get (C.get g1 a6) (hN C.le);refine AB (Be W) ?_;refine AB (UX of of) ?_;rw[Ty.VF,AP,AJ];refine AB (BV (off:=0+1) (m:=2) g4 a6 (by show 0+1+2<=11;omega)) ?_;refine L2 (K:=K) (B.get (f.get g hn) a6) a6 λH5 f5=>?_;rw[Bw,AJ];show AS (.bool false) _ _;rw[AZ,CA a6,AJ];exact ih _ ⟨H5,y+1+1,rfl,C.trans (B.trans f5)⟩
 .rintro I q ⟨x,y,rfl,C⟩;show Dx lfp G (Runs F G) k I (.ptr K.kb 0) (.ptr n 0) v (iN es.length) (iN es.length) x y;delta Dx;rw[D9,AJ,eg (m_ _),AZ];exact hk x y (Q.trans C)
abbrev zR:∀{Γ:aAm} {j:Nat},Cg s (Γ.take j)=none->∀{f:BU},Γ[j]? =some f->(f.nm=s->Cg s Γ=some f.ty)/\(f.nm≠s->Cg s (Γ.take (j+1))=none)
 |[],_,_,_,h=>by simp at h
 |g::l,0,_,f,h=>by
  cases h;refine⟨λe=>?_,λe=>?_⟩
  .show(bif decide (g.nm=s)then some g.ty else Cg s l)=_;rw[ui e];rfl
  .show(bif decide (g.nm=s)then some g.ty else Cg s (l.take 0))=_;rw[eg e];rfl
 |g::l,j+1,d,f,h=>by
  have d:(bif decide (g.nm=s)then some g.ty else Cg s (l.take j))=none:=d;cases i:decide (g.nm=s)with
  |true=>rw[i]at d;cases d
  |false=>
   rw[i]at d;have⟨k,m⟩:=zR (j:=j) d (show l[j]? =some f from h);refine⟨λe=>?_,λe=>?_⟩
   .show(bif decide (g.nm=s)then some g.ty else Cg s l)=_;rw[i];exact k e
   .show(bif decide (g.nm=s)then some g.ty else Cg s (l.take (j+1)))=_;rw[i];exact m e
abbrev AMQ(o:T1 G K)(h:au G H n K M vv all Γ)(X:∀D E,Kp H n D E->k (.CV [((Cg s Γ).getD IY).v,.bool (Cg s Γ).isSome]) D E):Runs F G PR [.ptr K.kb (0+1),s.v] H n k:=by
 refine go2 (lu Ae G) ?_;delta Vi;refine Ao rfl λY P Z=>?_;have Q:=h.kp o P;rw[BG,AJ,CZ,AJ];refine AB (AK (off:=0+1) Q.g (v:=vv) rfl) ?_;have y:=(Q.sk.el (G:=G) a6).len;rw[uc]at y;have d0:=h.lt;refine AB y ?_;refine BL (N:=Γ.length) (J:=λj q=>∃D E,q=(s.v,.ptr n 0,vv,iN Γ.length,iN j,D,E)/\Kp Y (n+1) D E/\Cg s (Γ.take j)=none) ?_ ?_ ⟨Y,n+1,rfl,Kp.refl _ _,rfl⟩
 .rintro I j q B ⟨O,A,rfl,x,d⟩ ih;show E9 lfp G (Runs F G) k I s.v (.ptr n 0) vv (iN Γ.length) (iN j) O A;delta E9;have h2:=Q.kp o x;have⟨p,R,L⟩:=(h2.sk.el (G:=G) a6).at (i:=j) (c:=RR Γ[j]) (by simp[B]);have⟨q1,q2⟩:=zR d (eb B);generalize Γ[j]=f at L q1 q2;rw[D9,AJ,ui B,Ah];refine AB R (AB (BZ L) ?_);refine Ao rfl λH3 f3 g3=>?_;refine BX g3 rfl rfl a6 λH4 g4 s4=>?_;have S:=x.le;have C:Kp O A H4 (A+1):=⟨f3.le,λu w=>(s4 u a6).trans (f3.same u w)⟩;rw[CZ,AJ];refine AB (AK (off:=0) g4 (v:=f.nm.v) rfl) ?_;refine AB (show BM (.one .str) false f.nm.v s.v=some (.bool (decide (f.nm.1=s.1/\f.nm.2=s.2)))from cK ..) ?_;by_cases e:f.nm=s
  .rw[show decide (f.nm.1=s.1/\f.nm.2=s.2)=true by rw[e];simp,Ah,AP,AJ];refine AB (BV (off:=0+1) (m:=2) g4 a6 (by show 0+1+2<=3;omega)) ?_;have T:=C.get (x.get Z a6) a6;refine BX T rfl rfl a6 λU V W=>?_;rw[By (m:=2) V a6 rfl];simp only[go_sem];have:=X U (A+1) ⟨a6,λu w=>(W u a6).trans ((C.same u a6).trans ((x.same u a6).trans (P.same u w)))⟩;rw[q1 e]at this;exact this
  .rw[show decide (f.nm.1=s.1/\f.nm.2=s.2)=false from eg λh=>e (L_ h.1 h.2),AZ,CA a6,AJ];exact ih _ ⟨H4,A+1,rfl,x.trans C,q2 e⟩
 .rintro I q ⟨O,A,rfl,x,d⟩;show E9 lfp G (Runs F G) k I s.v (.ptr n 0) vv (iN Γ.length) (iN Γ.length) O A;delta E9;rw[D9,AJ,eg (m_ _),AZ];delta LP;refine AB (v:=IY.v) rfl ?_;have S:=x.le;refine BX (x.get Z a6) rfl rfl a6 λU V W=>?_;rw[By (m:=2) V a6 rfl];simp only[go_sem];rw[_d o_]at d;have:=X U A ⟨a6,λu w=>(W u a6).trans ((x.same u a6).trans (P.same u w))⟩;rw[d]at this;exact this
end
def AFy(G:AQ)(K:Kq)(M:Km)(Γ:aAm)(e:Te):Prop:=∀(H:Heap) (n:Nat) (A:Nat->Prop) (l:LV) (e':Te) (vv:V) (all:Nat) (k:KV),au G H n K M vv all Γ->C3 G H A l e->(∀id,A id->id<n/\id≠K.b)->Yx (K.x M) Γ e=some e'->
 (∀H' n' l',Kb K.b H n H' n'->C3 G H' (Rg n n') l' e'->k (.agg l') H' n')->Runs F G M4 [.ptr K.kb 0,.agg l] H n k
structure oQ(b c:Nat)(H:Heap)(n:Nat)(H':Heap)(n':Nat):Prop where
 le:n<=n'
 same:∀id,id<n->id≠b->id≠c->T.get H' id=T.get H id
 seen:E1 H b->E1 H' b
variable{c:Nat}{d:Heap}{f:Nat}
abbrev oQ.trans(x:oQ b c H n H' n')(y:oQ b c H' n' d f):oQ b c H n d f:=
 ⟨w_ x.le y.le,λg h i k=>(y.same g (b_ h x.le) i k).trans (x.same g h i k),λh=>y.seen (x.seen h)⟩
abbrev Kb.bc(c:Nat)(x:Kb b H n H' n'):oQ b c H n H' n':=⟨x.le,λd h f _=>x.same d h f,x.seen⟩
variable{m:Nat}
abbrev oQ.low(x:oQ b c H n H' n')(i:m<=c)(d:m<=n):Kb b H m H' n':=⟨w_ d x.le,λf h g=>x.same f (b_ h d) g a6,x.seen⟩
abbrev oQ.box(d:b≠c)(h:∀id,id≠c->T.get H' id=T.get H id):oQ b c H n H' n:=⟨ea _,λid _ _ f=>h id f,λg=>g.same (h b d)⟩
variable{j:Nat}
abbrev set_mid{g:Type}{d cs:List g}{a x:g}(i:d.length=j)(h:cs[j]? =some a):(d++cs.drop j).set j x=(d++[x])++cs.drop (j+1):=by
 have⟨f,_⟩:=us.1 h;subst i;have e:(cs.drop d.length).set 0 x=x::cs.drop (d.length+1):=by rw[uv f];rfl
 rw[List.set_append,g_ a6,b7,e,y_];rfl
abbrev ACp{f:Type}{d cs:List f}(g:d.length=j):(d++cs.drop j)[j]? =cs[j]? :=by subst g;rw[i_ a6,b7,_r,_Y]
variable{nm:St}{ty:Ty}{of:Ty}
section
variable{G:AQ}{H:Heap}{n m c:Nat}{K:Kq}{M:Km}{vv:V}{all:Nat}{Γ:List BU}{k:KV}{A:Nat->Prop}
abbrev ATj{kind num:Nat}{own:St}{line col:Nat}{es es':aAq}(o:T1 G K)(hX:∀e∈es,AFy G K M Γ e)(h:au G H m K M vv all Γ)(d0:m<=c)(d1:c<n)
 (Y:∀id,A id->id<m/\id≠K.b) (gc:T.get H c=some (one (Mb kind num nm ty of own line col v))) (he:Kt G H A v es) (g1:es.length<=10000) (d2:jj (K.x M) Γ es=some es')
 (hk:∀H' P v',oQ K.b c H n H' P->T.get H' c=some (one (Mb kind num nm ty of own line col v'))->Kt G H' (Rg n P) v' es'->k (.bool true) H' P):Runs F G Tk [.ptr K.kb 0,.ptr c 0] H n k:=by
 refine go2 (eC Ae G) ?_;delta TB;have g7:=h.kn;have g8:=h.bn o;obtain⟨cs,e1,-,-,-,e5,d3⟩:=he;have d8:=d3.len;rw[BG,AJ,AP,AJ];refine AB (AK (off:=0+7) gc (v:=v) rfl) ?_;refine AXw e1 (λid d=>hN (Y id (e5 id d))) a6 λv' H1 U f1 Z=>?_;have g9:=f1.le;rw[AJ,AP,AJ];refine FK (off:=0+7) (m:=1) (v:=v') (f1.get gc d1) Z.ok.1 (by rw[Z.ok.2.1];rfl) a6 (by show 0+7+1<=11;omega) λH2 g2 s2=>?_;rw[Z.ok.2.1]at g2;have f2:oQ K.b c H n H2 U:=(f1.kb (b:=K.b) a6).bc c |>.trans (.box a6 s2);have Y3:Sk H2 11 (λid=>n<=id/\id<U) v' cs:=Z.mono (λ_ h=>h) λid h=>s2 id a6;rw[AJ,AP,AJ];have q2:∀{H':Heap},T.get H' c=some (one (Mb kind num nm ty of own line col v'))->AM (.ptr c (0+7)) G H'=some v':=λg=>AK (off:=0+7) g rfl;refine AB (q2 g2) ?_;have Q:=(Y3.el (G:=G) a6).len;rw[d8]at Q;refine AB Q ?_;have i0:=pN d2;refine BL (N:=es.length) (J:=λj q=>∃H' P B,q=(.ptr K.kb 0,.ptr c 0,v',iN es.length,iN j,H',P)/\oQ K.b c H n H' P/\U<=P/\T.get H' c=some (one (Mb kind num nm ty of own line col v'))/\
  Sk H' 11 (λid=>n<=id/\id<U) v' (B++cs.drop j)/\DV G H' (λid=>n<=id/\id<P/\v'.CD≠some id) B (es'.take j)/\B.length=j) ?_ ?_ ⟨H2,U,[],rfl,f2,ea _,g2,Y3,.nil,rfl⟩
 .rintro I j q W ⟨X,C,B,rfl,f3,d9,g3,f,D,E⟩ ih;show Dr lfp G (Runs F G) k I (.ptr K.kb 0) (.ptr c 0) v' (iN es.length) (iN j) X C;delta Dr;have d4:=DV.mono (H':=X) (λ_ h=>h) (λid d=>f3.same id (hN (Y id d)) (Y id d).2 (hN (Y id d))) d3;have R:=eb W;have⟨l,hl,L⟩:=d4.at R;have⟨e',f0,d5⟩:=AGF d2 R;have d6:=hX _ (f_ W);generalize es[j]=e at L d5 d6;have⟨p,f5,f7⟩:=(f.el (G:=G) a6).at (i:=j) (c:=l) (by rw[ACp E];exact hl);rw[D9,AJ,ui W,Ah];refine AB f5 (AB (BZ f7) ?_);refine Ao rfl λH4 f4 g4=>?_;refine BX g4 rfl L.len a6 λH5 g5 s5=>?_;have u:Kp X C H5 (C+1):=⟨f4.le,λid d=>(s5 id a6).trans (f4.same id d)⟩;rw[BG,AJ,AP,AJ];refine AB (q2 (u.get g3 a6)) (AB (As (m:=11) g5 a6 L.len) ?_);have f8:oQ K.b c H n H5 (C+1):=f3.trans ((u.kb (b:=K.b) a6).bc c);have h5:=h.kb o (f8.low d0 a6);have d7:C3 G H5 A l e:=L.mono (λ_ h=>h) λid d=>u.same id (hN (Y id d));refine d6 H5 (C+1) A l e' vv all _ h5 d7 (λid d=>by have:=Y id d;exact⟨a6,this.2⟩) d5 λH6 n6 l' f6 S=>?_;have i1:=f6.le;have g6:T.get H6 c=_:=f6.get (u.get g3 a6) a6 a6;refine AB (q2 g6) (Ba Z.ok.2.2 ?_);have O:Kb K.b X C H6 n6:=(u.kb (b:=K.b) a6).trans f6;have f9:Sk H6 11 (λid=>n<=id/\id<U) v' (B++cs.drop j):=f.mono (λ_ h=>h) λid h=>O.same id a6 a6;have g0:j<(B++cs.drop j).length:=by rw[uk,_Q];omega
  refine f9.put (i:=j) (w:=.agg l') a6 g0 rfl S.len λH7 bj s7=>?_;rw[show At (.agg l')=l' from rfl,set_mid E hl]at bj;rw[CA a6,AJ];have y:∀id,id<n∨U<=id->v'.CD≠some id:=λid h e=>hN (Z.own e);refine ih _ ⟨H7,n6,B++[l'],rfl,?_,a6,(s7 c (y c (.inl d1))).trans g6,bj,?_,by rw[uk,E];rfl⟩
  .exact⟨hN f3.le,λid h1 h2 h3=>(s7 id (y id (.inl h1))).trans ((O.same id (hN f3.le) h2).trans (f3.same id h1 h2 h3)),λhs=>(O.seen (f3.seen hs)).same (s7 _ (y _ (.inl a6)))⟩
  .rw[take_snoc f0];refine(DV.mono (λid d=>⟨d.1,a6,d.2.2⟩) (λid d=>(s7 id d.2.2).trans (O.same id d.2.1 a6)) D).app (.cons (S.mono (λid d=>⟨hN d.1,d.2,y id (.inr (hN d.1))⟩) λid d=>s7 id (y id (.inr (hN d.1)))) .nil)
 .rintro I q ⟨X,C,B,rfl,f3,d9,g3,f,D,E⟩;show Dr lfp G (Runs F G) k I (.ptr K.kb 0) (.ptr c 0) v' (iN es.length) (iN es.length) X C;delta Dr;rw[D9,AJ,eg (m_ _),AZ];delta JX;have h3:=h.kb o (f3.low d0 a6);rw[BG,AJ,AP,AJ,CZ,AJ];refine AB (AK (off:=0+17) h3.g rfl) ?_;refine AB (A9 ..) ?_;rw[sw a6,qs]at f;rw[_d a6]at D;refine hk X C v' f3 g3 ⟨B,f.el a6,f.ks,f.ok.1,f.ok.2.1,λid d=>by have:=f.own d;exact⟨this.1,a6⟩,DV.mono (λid d=>⟨d.1,d.2.1⟩) (λ_ _=>rfl) D⟩
end
structure Kid(G:AQ)(v:V)(cs:Bh)(i:Nat)(l:LV)(p q1 q8 q9:V):Prop where
 ip:Ai 11 v (iN i)=some p
 i1:AG 1 p=some q1
 i8:AG 8 p=some q8
 i9:AG 1 q8=some q9
 ld:∀H',El G H' v 11 cs->AX 11 p G H'=some (.agg l)/\AX 2 q1 G H'=some (.agg ((l.drop 1).take 2))/\AX 2 q8 G H'=some (.agg ((l.drop 8).take 2))/\∀x,l[9]? =some x->AM q9 G H'=some x
variable{i:Nat}{l:LV}
abbrev Vx(f:RN G)(h:El G H v 11 cs)(hi:cs[i]? =some l)(u:l.length=11):∃p q1 q8 q9,Kid G v cs i l p q1 q8 q9:=by
 have⟨p,y,g⟩:=h.at hi;have⟨q1,A,_⟩:=bo f g u (o:=1) (m:=2) a6 a6;have⟨q8,B,w⟩:=bo f g u (o:=8) (m:=2) a6 a6;have k:((l.drop 8).take 2).length=2:=by rw[xx,_Q];omega
 have⟨q9,C,_⟩:=bo f w k (o:=1) (m:=1) a6 a6;refine⟨p,q1,q8,q9,y,A,B,C,λN J=>?_⟩;have⟨O,q,d⟩:=J.at hi;rw[y]at q;cases q;have⟨P,D,K⟩:=bo f d u (o:=1) (m:=2) a6 a6;rw[A]at D;cases D;have⟨Q,E,F⟩:=bo f d u (o:=8) (m:=2) a6 a6;rw[B]at E;cases E;refine⟨BZ d,BZ K,BZ F,λx L=>?_⟩;have⟨R,I,M⟩:=Z0 f F k (o:=1) (x:=x) (by rw[x_,hD a6,_r];exact L);rw[C]at I;cases I;exact M
variable{z:Nat}{o:Nat}{e:Nat}
abbrev AOj{ln l:Nat}(d:l<=ln)(f:ln<=c):lV z (.rsl b o ln c e) E0 (some (.c (iN l))) none none=some (.rsl b (o+l*z) (ln-l) (c-l) e):=by show Az (band (Nat.ble l ln) (Nat.ble ln c)) (CC (o+l*z) λa=>CC (ln-l) λg=>CC (c-l) λi=>some (.rsl b a g i e))=_;rw[show Nat.ble l ln=true by rw[_e];exact d,show Nat.ble ln c=true by rw[_e];exact f,BF,BF,BF];rfl
variable{LS:Bh}
abbrev AKx{l g:Nat}(h:El G H (.rsl b o n c e) z LS):El G H (.rsl b (o+l*z) (n-l) f g) z (LS.drop l):=by have⟨k,m⟩:=Vd _ _ (show Y1 G b z n o=some LS from h.2);rw[show n-l=(LS.drop l).length by simp[k]];refine AMx λi L d=>?_;rw[_r]at d;have:=m _ _ d;rwa [pp,<-G_]at this
abbrev El.tail{c:LV}(h:El G H v z (c::cs))(E:KS v):∃w,lV z v E0 (some (.c (iN 1))) none none=some w/\El G H w z cs/\w.CD=v.CD:=by
 have⟨F,q⟩:=h;cases v<;>try (cases q;done)
 .cases F
 .rename_i g f m p e;have u:=E.2.1 _ _ _ _ _ rfl;cases y:Nat.beq e z with
  |false=>have k:(Bool.rec (motive:=λ_=>aAs) none (BP H g z m f) (Nat.beq e z):aAs)=some (c::cs):=q;rw[y]at k;cases k
  |true=>
   have k:(Bool.rec (motive:=λ_=>aAs) none (BP H g z m f) (Nat.beq e z):aAs)=some (c::cs):=q;rw[y]at k;have k:BP H g z m f=some (c::cs):=k;have⟨C,A⟩:=NQ _ _ k;have B:e=z:=by simpa using y
   subst B;rw[j']at C;refine⟨.sl g (f+1) (m-1) (p-1) e,?_,⟨rfl,?_⟩,rfl⟩
   .show Az (Nat.beq e e) (Az (band (Nat.ble 1 m) (band (Nat.ble m p) (Nat.ble p p))) (f3 (f+1) (m-1) (p-1) λo d c=>.sl g o d c e))=_;rw[Bq,show Nat.ble 1 m=true by rw[_e];omega,show Nat.ble m p=true by rw[_e];exact u,show Nat.ble p p=true by rw[_e];exact ea _];show CC (f+1) (λa=>CC (m-1) λb=>CC (p-1) λc=>some (.sl g a b c e))=_;rw[BF,BF,BF]
   .show(Bool.rec (motive:=λ_=>aAs) none (BP H g e (m-1) (f+1)) (Nat.beq e e):aAs)=some cs;rw[Bq];exact Pu _ _ _ a6 λi x D=>by have:=A (i+1) x (by simpa using D);rwa [show f+(i+1)=f+1+i by omega]at this
 .rename_i g f m e;cases y:Nat.beq e z with
  |false=>have k:(Bool.rec (motive:=λ_=>aAs) none (BP H g z m f) (Nat.beq e z):aAs)=some (c::cs):=q;rw[y]at k;cases k
  |true=>
   have k:(Bool.rec (motive:=λ_=>aAs) none (BP H g z m f) (Nat.beq e z):aAs)=some (c::cs):=q;rw[y]at k;have k:BP H g z m f=some (c::cs):=k;have⟨C,A⟩:=NQ _ _ k;have B:e=z:=by simpa using y
   subst B;rw[j']at C;refine⟨.Hf g (f+1) (m-1) e,?_,⟨rfl,?_⟩,rfl⟩
   .show Az (Nat.beq e e) (Az (band (Nat.ble 1 m) (Nat.ble m m)) (f3 (f+1) (m-1) 0 λo d _=>.Hf g o d e))=_;rw[Bq,show Nat.ble 1 m=true by rw[_e];omega,show Nat.ble m m=true by rw[_e];exact ea _];show CC (f+1) (λa=>CC (m-1) λb=>CC 0 λ_=>some (.Hf g a b e))=_;rw[BF,BF,BF]
   .show(Bool.rec (motive:=λ_=>aAs) none (BP H g e (m-1) (f+1)) (Nat.beq e e):aAs)=some cs;rw[Bq];exact Pu _ _ _ a6 λi x D=>by have:=A (i+1) x (by simpa using D);rwa [show f+(i+1)=f+1+i by omega]at this
 .rename_i b o m p e;have u:=E.2.2 _ _ _ _ _ rfl;have⟨C,_⟩:=Vd _ _ (show Y1 G b z m o=some (c::cs)from q);rw[j']at C;exact⟨.rsl b (o+1*z) (m-1) (p-1) e,AOj (l:=1) a6 u,AKx (l:=1) (LS:=c::cs) ⟨F,q⟩,rfl⟩
variable{tb:Tab}
abbrev xw:∀{gs ps:aAv},dq tb gs ps=true->gs.length=ps.length
 |[],[],_=>rfl
 |[],_::_,h=>by cases h
 |_::_,[],h=>by cases h
 |a::l,p::ps,h=>by have h:(fitsT tb a p&&dq tb l ps)=true:=h;rw[ez]at h;rw[j',j',xw h.2]
abbrev AIb:∀{gs ps:aAv},dq tb gs ps=true->∀{i:Nat} {a p:Ty},gs[i]? =some a->ps[i]? =some p->fitsT tb a p=true
 |[],_,_,i,a,p,d,_=>by simp at d
 |_::_,[],h,_,_,_,_,_=>by cases h
 |a::l,q::ps,h,i,b,p,d,f=>by
  have h:(fitsT tb a q&&dq tb l ps)=true:=h;rw[ez]at h;cases i with
  |zero=>cases d;cases f;exact h.1
  |succ i=>exact AIb h.2 (i:=i) d f
variable{w:V}{u:V}
section
variable{G:AQ}{H:Heap}{n:Nat}{K:Kq}{M:Km}{vv:V}{all:Nat}{Γ:List BU}{k:KV}{B:Nat->Prop}
abbrev ATm{kind num:Nat}{own:St}{line col:Nat}{es:aAq}{m:Bk}(o:T1 G K)(h:au G H n K M vv all Γ)(hw:El G H w 11 cs)(P:∀d,w.CD=some d->d<n/\d≠K.b)
 (d4:DV G H B cs es) (hB:∀d,B d->d<n/\d≠K.b) (g8:∀e∈es,e.of.nm.ok) (hu:Ji G H n u m.ps) (S:dq K.tb (es.map Te.of) m.ps=true) (k0:es.length<=10000)
 (hk:∀H' n',Kb K.b H n H' n'->k (.CV []) H' n'):
 Runs F G TQ [.ptr K.kb 0,.agg (Mb kind num nm ty of own line col v),w,.agg (m.cells u)] H n k:=by
 refine tS (ep Ae G) ?_;delta TG;have d5:=d4.len;have d6:=xw S;rw[uc]at d6;have g9:=h.kn;have i0:=h.bn o;refine BE λH1 f1 g1=>?_;refine BE λH2 f2 g2=>?_;have Q:=f1.trans f2;have g1:=f2.get g1 a6;have i1:=hw.same (H':=H2) λd f=>Q.same d (P d f).1;have U:=i1.len;rw[d5]at U;refine AB U ?_;rw[AP,AJ];refine AB (AK (off:=0+2) g2 (v:=u) rfl) ?_;have i2:=hu.kp Q;have d7:=i2.el.len;rw[pw,<-d6]at d7;refine AB d7 (AB (A9 ..) ?_);rw[ui rfl,AP,AJ];refine AB (BV (off:=0+1) (m:=2) g1 a6 (by show 0+1+2<=11;omega)) ?_;refine L2 (K:=K) (Q.get h.g g9) a6 λH3 f3=>?_;rw[Bw,AJ];show AS (.bool false) _ _;rw[AZ];have d8:=Q.trans f3;have D:=(hw.same (H':=H3) λd f=>d8.same d (P d f).1).len;rw[d5]at D;refine AB D ?_;have g3:=f3.get g2 a6;refine BL (N:=es.length) (J:=λj q=>∃H' n',q=(.ptr K.kb 0,.ptr (n+1) 0,w,iN es.length,iN j,H',n')/\Kb K.b H n H' n'/\n+2<=n'/\T.get H' (n+1)=some (one (m.cells u))) ?_ ?_
  ⟨H3,n+1+1+1,rfl,d8.kb i0,a6,g3⟩
 .rintro I j q d0 ⟨H4,O,rfl,f4,i3,g4⟩ ih;show Dp lfp G (Runs F G) k I (.ptr K.kb 0) (.ptr (n+1) 0) w (iN es.length) (iN j) H4 O;delta Dp;have W:=eb d0;have A:=AIb S (i:=j) (a:=es[j].of) (p:=m.ps[j]'a6) (by rw[pe,W];rfl) (eb a6);have cU:=g8 _ (f_ d0);have X:=hu.ok _ (f_ (show j<m.ps.length by omega));have Y:(tys m.ps)[j]? =some (m.ps[j]'a6).cells:=tu a6;have⟨l,hl,d1⟩:=(DV.mono (H':=H4) (λ_ h=>h) (λd f=>f4.same d (hB d f).1 (hB d f).2) d4).at W;have⟨p,i4,i5⟩:=(hw.same (H':=H4) λd f=>f4.same d (P d f).1 (P d f).2).at hl;generalize es[j]=e at d1 A cU;generalize m.ps[j]'a6=t at A X Y;rw[D9,AJ,ui d0,Ah];refine AB i4 (AB (BZ i5) ?_);refine Ao rfl λH5 f5 g5=>?_;refine BX g5 rfl d1.len a6 λH6 g6 s6=>?_;have d2:Kp H4 O H6 (O+1):=⟨f5.le,λd f=>(s6 d a6).trans (f5.same d f)⟩;have f6:Kb K.b H n H6 (O+1):=f4.trans (d2.kb a6);have h6:=h.kb o f6;rw[BG,AJ,CZ,AJ];refine AB (AK (off:=0) h6.g (v:=.ptr K.t 0) rfl) ?_;cases d1 with
  |mk d3 d9 i6 i7 R f0 C E k1 k2 k3 k4=>
   rename_i v' k5 i8;have A:fitsT K.tb R t=true:=A;have cU:R.nm.ok:=cU;have Z:∀{H':Heap},T.get H' O=some (one (Mb d3 d9 i6 i7 R f0 C E v'))->AX 2 (.ptr O (0+1)) G H'=some (.agg [iN C,iN E]):=λg=>BV (off:=0+1) (m:=2) g a6 (by show 0+1+2<=11;omega);rw[AP,AJ];refine AB (BV (off:=0+8) (m:=2) g6 a6 (by show 0+8+2<=11;omega)) ?_;rw[AP,AJ];refine AB (AK (off:=0+2) (d2.get g4 a6) (v:=u) rfl) ?_;have wq:=hu.ke (f6.ke h.tab.seen);have⟨pt,i9,f9⟩:=wq.el.at Y;refine AB i9 (AB (BZ f9) ?_);rw[AP,AJ];refine AB (Z g6) ?_;refine AHs (x:=R) (y:=t) h6.tab (tw h6.kn o.n0) o.tl cU X λH7 n7 f7=>?_;rw[A];have YE:=f7.le;have g7:=f7.get g6 a6 a6;refine AB (Z g7) (Ba (by exact AGr (L:=[iN C,iN E]) λv hv=>by simp at hv;rcases hv with rfl|rfl<;>exact ABx ..) ?_);have h7:=h6.kb o f7;refine L2 (K:=K) h7.g h7.kn λH8 f8=>?_;rw[CA a6,AJ];have g0:Kb K.b H6 (O+1) H8 (n7+1):=f7.trans (f8.kb a6);exact ih _ ⟨H8,n7+1,rfl,f6.trans g0,a6,g0.get (d2.get g4 a6) a6 a6⟩
 .rintro I q ⟨H4,O,rfl,f4,i3,g4⟩;show Dp lfp G (Runs F G) k I (.ptr K.kb 0) (.ptr (n+1) 0) w (iN es.length) (iN es.length) H4 O;delta Dp;rw[D9,AJ,eg (m_ _),AZ];exact hk H4 O f4
end
variable{st:Bool}
abbrev ALe{n0 t:Nat}(m:TabAt G H n0 t a b fs)(d:n0<=n)(f:fs.length<=1000){c:St}{k:KV}
 (p:∀g i w,Kb b H n g i->gT G g n0 w ((Cq fs c s st).getD ((0,0),Sv)).2->k (.CV [((Cq fs c s st).getD ((0,0),Sv)).1.v,w,.bool (Cq fs c s st).isSome]) g i):
 Runs F G GX [.ptr t 0,c.v,s.v,.bool st] H n k:=AEO m f p d
abbrev UC(a b:Nat):Ak (.agg [iN a,iN b]) (.agg [iN a,iN b])=true:=
 AGr λv d=>by simp at d;rcases d with rfl|rfl<;>exact ABx ..
abbrev cT(line col:Nat):V:=.agg [iN line,iN col]
structure Xb(G:AQ)(H:Heap)(n m c:Nat)(K:Kq)(M:Km)(vv:V)(all:Nat)(Γ:List BU)(L:LV):Prop where
 ka:au G H m K M vv all Γ
 mc:m<=c
 cn:c<n
 g:T.get H c=some (one L)
variable{L:LV}
abbrev Xb.kb{all:Nat}{Γ:aAm}(o:T1 G K)(h:Xb G H n m c K M vv all Γ L)(f:Kb K.b H n H' n'):Xb G H' n' m c K M vv all Γ L:=by have d:=h.ka.bn o;have:=h.mc;have:=h.cn;exact⟨h.ka.kb o (f.low a6),h.mc,b_ h.cn f.le,f.get h.g h.cn a6⟩
abbrev Xb.kp{all:Nat}{Γ:aAm}(o:T1 G K)(h:Xb G H n m c K M vv all Γ L)(f:Kp H n H' n'):Xb G H' n' m c K M vv all Γ L:=by have d:=h.ka.bn o;have:=h.mc;have:=h.cn;exact h.kb o (f.kb a6)
abbrev Xb.bn{all:Nat}{Γ:aAm}(o:T1 G K)(h:Xb G H n m c K M vv all Γ L):K.b<c:=by have d:=h.ka.bn o;have:=h.mc;omega
abbrev Xb.tab{all:Nat}{Γ:aAm}(o:T1 G K)(h:Xb G H n m c K M vv all Γ L):TabAt G H n K.t K.a K.b K.tb:=
 h.ka.tab.up (by have:=h.ka.kn;have:=o.n0;have:=h.mc;have:=h.cn;omega)
abbrev Xb.kn{all:Nat}{Γ:aAm}(h:Xb G H n m c K M vv all Γ L):K.kb<c:=by have:=h.ka.kn;have:=h.mc;omega
abbrev au.lift{all:Nat}{Γ:aAm}(o:T1 G K)(h:au G H m K M vv all Γ)(d:m<=n):au G H n K M vv all Γ:=h.kb o ⟨d,λ_ _ _=>rfl,λh=>h⟩
variable{P:KV}
section
variable{G:AQ}{H:Heap}{n m c d:Nat}{K:Kq}{M:Km}{vv:V}{all:Nat}{Γ:List BU}{k:KV}{B:Nat->Prop}{kind num:Nat}{nm:St}{ty of t:Ty}{own ow:St}{line col:Nat}{v w:V}{C:Ty}
abbrev vO{d:Heap}(g:K.b≠c)(f:Kb K.b H n H' n')(s:∀id,id≠c->T.get d id=T.get H' id):oQ K.b c H n d n':=(f.bc c).trans (.box g s)
abbrev gO(g:T.get H c=some (one (Mb kind num nm ty of own line col v)))(f:∀d,(∀id,id≠c->T.get d id=T.get H id)->T.get d c=some (one (Mb kind num nm ty t own line col v))->P .undef d n):
 A1 2 (.ptr c (0+8)) t.v H n P:=
 FK (off:=0+8) (m:=2) (v:=t.v) g rfl rfl a6 (by show 0+8+2<=11;omega) λd i k=>f d k i
abbrev AIv(g:T.get H c=some (one (Mb kind num nm ty of own line col v)))(f:∀d,(∀id,id≠c->T.get d id=T.get H id)->T.get d c=some (one (Mb kind num nm ty of ow line col v))->P .undef d n):
 A1 1 (.ptr c (0+10)) ow.v H n P:=
 FK (off:=0+10) (m:=1) (v:=ow.v) g rfl rfl a6 (by show 0+10+1<=11;omega) λd i k=>f d k i
abbrev T4(g:T.get H' c=some (one (Mb kind num nm ty of own line col v))):AX 2 (.ptr c (0+1)) G H'=some (cT line col):=BV (off:=0+1) (m:=2) g a6 (by show 0+1+2<=11;omega)
abbrev zH(o:T1 G K)(h:Xb G H n m c K M vv all Γ (Mb kind num nm ty of own line col v))(L:C.nm.ok)(k:BD K.tb C=true)
 (N:∀B D,Kb K.b H n B D->P (.bool true) B D):
 Au (AY 2 1 [.str 0 0,.bool false] [(0,.c C.v)] E0) H n λp H n=>
  AD (AV (.ptr c 0)) λq=>AD (AG 1 q) λd=>AD (AX 2 d G H) λf=>Runs F G B6 [.ptr K.t 0,p] H n λu H n=>AD (AX 2 d G H) λv=>B7 (Ak v f) <|
  Runs F G A4 [.ptr K.kb 0,u,iN 23,f] H n P:=by have O:=h.bn o;have Q:=h.kn;have R:=h.cn;refine M1 (G:=G) (vs:=[C.v]) rfl a6 (λv E=>by simp at E;subst E;exact⟨rfl,rfl⟩) λW I _ w=>?_;have x:=h.kp o I;rw[BG,AJ,AP,AJ];refine AB (T4 x.g) ?_;refine bN (xs:=[C]) (x.tab o) ⟨w,λX y=>by cases y;omega,by unfold big;exact(by decide:1<9223372036854775808),λt S=>by rw[ff.1 S];exact L⟩ λT U J=>?_;have i:Kb K.b H n T U:=(I.kb a6).trans J;have A:=x.kb o J;rw[show[C].all (BD K.tb)=true by simp[k]];refine AB (T4 A.g) (Ba (UC ..) ?_);refine L2 (K:=K) A.ka.g (hN A.cn) λV f3=>?_;exact N V _ (i.trans (f3.kb (hN i.le)))
abbrev AIt(o:T1 G K)(h:Xb G H n m c K M vv all Γ (Mb kind num nm ty of own line col v))(E:AX 2 u G H=some C.v)(I:C.nm.ok)(i:BD K.tb C=true)
 (J:∀B D,Kb K.b H n B D->P (.bool true) B D):
 AD (AV (.ptr K.kb 0)) λk=>AD (AG 0 k) λp=>AD (AM p G H) λq=>AD (AX 2 u G H) λw=>Au (AY 2 1 [.str 0 0,.bool false] [(0,.c w)] E0) H n λx H n=>
  AD (AV (.ptr c 0)) λy=>AD (AG 1 y) λd=>AD (AX 2 d G H) λf=>Runs F G B6 [q,x] H n λA H n=>AD (AX 2 d G H) λv=>B7 (Ak v f) <|
  Runs F G A4 [.ptr K.kb 0,A,iN 23,f] H n P:=by rw[BG,AJ,CZ,AJ];refine AB (AK (off:=0) h.ka.g (v:=.ptr K.t 0) rfl) ?_;refine AB E ?_;exact zH o h I i J
abbrev AWP(o:T1 G K)(h:Xb G H n m c K M vv all Γ (Mb 7 num nm ty of own line col v))(S:c<d)(y:d<n)(J:T.get H d=some (one C.cells))(U:C.nm.ok)(A:BD K.tb C=true)(V:QU K.tb C.nm nm=some (ow,t))
 (W:∀B L,oQ K.b c H n B L->T.get B c=some (one (Mb 7 num nm ty t ow line col v))->k (.CV []) B L):CW lfp G (Runs F G) k (.ptr K.kb 0) (.ptr c 0) (.ptr d 0) w H n:=by delta CW;have X:=h.bn o;have Y:=h.kn;refine AIt o h (Be J) U A λZ n1 u=>?_;have f:=h.kb o u;have D:=u.get J y a6;have d0:=u.le;rw[Bw,AJ];show AS (.bool false) _ _;rw[AZ,BG,AJ,CZ,AJ];refine AB (AK (off:=0) f.g (v:=.int .i64 (.ofNat 7) 0) rfl) (AB (A9 ..) ?_);rw[ui rfl,Ah,BG,AJ,CZ,AJ];refine AB (AK (off:=0) f.ka.g (v:=.ptr K.t 0) rfl) ?_;rw[CZ,AJ];refine AB (AK (off:=0) D (v:=C.nm.v) rfl) ?_;rw[AJ,AP,AJ];refine AB (AK (off:=0+4) f.g (v:=nm.v) rfl) ?_;refine Ao rfl λH2 N g2=>?_;have O:=f.kp o N;refine AIh (c:=C.nm) (s:=nm) (O.tab o) o.tl λH3 n3 f3=>?_;rw[V];have h3:=O.kb o f3;have d1:=f3.le;rw[OC,AJ,N4,AJ,AHD,AJ];have g3:=f3.get g2 a6 a6;refine BX g3 rfl rfl a6 λH4 g4 P=>?_;have i:Kb K.b Z n1 H4 n3:=((N.kb a6).trans f3).trans ⟨ea _,λ_ _ _=>rfl,λh=>h⟩ |> λx=>⟨x.le,λp a b=>(P p a6).trans (x.same p a b),λhs=>(x.seen hs).same (P _ a6)⟩;have E:=f.kb o i;rw[AJ,AP,AJ];refine AB (T4 E.g) ?_;refine L2 (K:=K) E.ka.g a6 λH5 I=>?_;have h5:=E.kp o I;have Q:=I.get g4 a6;refine AB (Be (t:=t) Q) ?_;rw[AJ,AP,AJ];refine AIv (ow:=ow) h5.g λH6 R g6=>?_;refine AB (Be (t:=t) ((R _ a6).trans Q)) (Ba (FH t) ?_);rw[AJ,AP,AJ];refine gO (t:=t) g6 λH7 s7 g7=>?_;exact W H7 _ (vO a6 (u.trans (i.trans (I.kb a6))) λp q=>(s7 p q).trans (R p q)) g7
abbrev AMs{es:aAq}{s:Bk}(o:T1 G K)(h:Xb G H n m c K M vv all Γ (Mb kind num nm ty of own line col v))(h7:kind≠7)(d3:c<d)(U:d<n)(gd:T.get H d=some (one C.cells))(hC:C.nm.ok)(V:BD K.tb C=true)
 (hw:El G H w 11 cs) (p:∀f,w.CD=some f->f<n/\f≠c/\f≠K.b) (W:DV G H B cs es) (X:∀f,B f->f<n/\f≠c/\f≠K.b) (Y:∀e∈es,e.of.nm.ok) (Z:es.length<=10000)
 (hm:Cq K.tb C.nm nm (decide (kind=9))=some (ow,s)) (E:dq K.tb (es.map Te.of) s.ps=true)
 (hk:∀A n',oQ K.b c H n A n'->T.get A c=some (one (Mb kind num nm ty s.ret ow line col v))->k (.CV []) A n'):CW lfp G (Runs F G) k (.ptr K.kb 0) (.ptr c 0) (.ptr d 0) w H n:=by
 delta CW;have d4:=h.bn o;have d5:=h.kn;refine AIt o h (Be gd) hC V λH1 I Q=>?_;have D:=h.kb o Q;have d0:=Q.get gd U a6;have d6:=Q.le;rw[Bw,AJ];show AS (.bool false) _ _;rw[AZ,BG,AJ,CZ,AJ];refine AB (AK (off:=0) D.g (v:=.int .i64 (.ofNat kind) 0) rfl) (AB (A9 ..) ?_);rw[eg h7,AZ,BG,AJ,CZ,AJ];refine AB (AK (off:=0) D.ka.g (v:=.ptr K.t 0) rfl) ?_;rw[CZ,AJ];refine AB (AK (off:=0) d0 (v:=C.nm.v) rfl) ?_;rw[AJ,AP,AJ];refine AB (AK (off:=0+4) D.g (v:=nm.v) rfl) ?_;rw[AJ,CZ,AJ];refine AB (AK (off:=0) D.g (v:=.int .i64 (.ofNat kind) 0) rfl) (AB (A9 ..) ?_);refine Ao rfl λH2 f2 g2=>?_;have h2:=D.kp o f2;refine ALe (c:=C.nm) (s:=nm) h2.ka.tab (tw h2.ka.kn o.n0) o.tl λH3 n3 sv f3 J=>?_;rw[hm]at J⊢;obtain⟨u,rfl,q⟩:=J;have q:Ji G H3 K.n0 u s.ps:=q;have h3:=h2.kb o f3;have d7:=f3.le;rw[OC,AJ,N4,AJ,AHD,AJ];have g3:=f3.get g2 a6 a6;refine BX (L:=s.cells u) g3 rfl rfl a6 λH4 g4 s4=>?_;have N:Kb K.b H1 I H4 n3:=((f2.kb a6).trans f3) |> λx=>⟨x.le,λf a b=>(s4 f a6).trans (x.same f a b),λhs=>(x.seen hs).same (s4 _ a6)⟩;have h4:=D.kb o N;rw[AJ,AP,AJ];refine AB (T4 h4.g) ?_;refine L2 (K:=K) h4.ka.g a6 λH5 R=>?_;have O:=h4.kp o R;have g5:=R.get g4 a6;show AS (.bool true) _ _;rw[Ah,AJ];refine AB (As (m:=11) O.g a6 rfl) (AB (As (m:=5) g5 a6 rfl) ?_);have d1:Kb K.b H1 I H5 (n3+1):=N.trans (R.kb a6);have y:=Q.trans d1;have d8:=o.n0;have d2:Ji G H5 (n3+1) u s.ps:=⟨q.el.same λf i=>by have:=q.lo f i;exact(R.same f a6).trans (s4 f a6),λf i=>hN (q.lo f i),q.lt,q.ok⟩
 refine ATm (B:=B) o (O.ka.lift o (tw O.mc O.cn)) (hw.same λf i=>y.same f (p f i).1 (p f i).2.2) (λf i=>by have:=p f i;exact⟨a6,this.2.2⟩) (DV.mono (λ_ h=>h) (λf i=>y.same f (X f i).1 (X f i).2.2) W) (λf i=>by have:=X f i;exact⟨a6,this.2.2⟩) Y d2 E Z λH6 n6 S=>?_;have d9:=S.le;have h6:=O.kb o S;have g6:=S.get g5 a6 a6;delta EQ;have qr:∀{A:Heap},T.get A I=some (one (s.cells u))->AX 2 (.ptr I (0+3)) G A=some s.ret.v:=λg=>BV (off:=0+3) (m:=2) g a6 (by show 0+3+2<=5;omega);rw[AP,AJ];refine AB (qr g6) ?_;rw[BG,AJ,AP,AJ];refine AIv (ow:=ow) h6.g λH7 s7 g7=>?_;refine AB (qr ((s7 I a6).trans g6)) (Ba (FH s.ret) ?_);rw[AJ,AP,AJ];refine gO (t:=s.ret) g7 λH8 s8 g8=>?_;exact hk H8 _ (vO a6 (y.trans S) λf P=>(s8 f P).trans (s7 f P)) g8
end
variable{gs:List Ty}
abbrev su{x:Kx}{c:Ty}{gs:aAv}{p:Ty×St}(h:Pr x c nm st gs=some p):BD x.tb c=true/\∃s,Cq x.tb c.nm nm st=some (p.2,s)/\dq x.tb gs s.ps=true/\p.1=s.ret:=by
 unfold Pr at h;cases d:BD x.tb c with
 |false=>rw[d]at h;cases h
 |true=>
  rw[d]at h;refine⟨rfl,?_⟩;cases f:Cq x.tb c.nm nm st with
  |none=>rw[f]at h;cases h
  |some q=>
   have⟨ow,s⟩:=q;rw[f]at h;have⟨i,g⟩:=EH (show RT (dq x.tb gs s.ps) s.ret ow=some p from h);exact⟨s,by rw[g],i,by rw[g]⟩
abbrev AC3{x:Kx}{Γ:aAm}{ks:aAv}{p:Ty×St}(h:T9 x Γ 7 nm ty ks=some p):∃c,ks=[c]/\c.cls=true/\BD x.tb c=true/\QU x.tb c.nm nm=some (p.2,p.1):=by
 rcases ks with _|⟨c,_|⟨a,l⟩⟩
 .cases h
 .refine⟨c,rfl,?_⟩;have h:(bif c.cls&&BD x.tb c then(QU x.tb c.nm nm).map (λp=>(p.2,p.1))else none)=some p:=h;cases d:c.cls&&BD x.tb c with
  |false=>rw[d]at h;cases h
  |true=>
   rw[d]at h;rw[ez]at d;obtain⟨q,f,rfl⟩:=d_.1 (show(QU x.tb c.nm nm).map (λp=>(p.2,p.1))=some p from h);exact⟨d.1,d.2,f⟩
 .cases h
abbrev sX{x:Kx}{Γ:aAm}{ks:aAv}{p:Ty×St}(h:T9 x Γ 8 nm ty ks=some p):∃c gs,ks=c::gs/\c.cls=true/\Pr x c nm false gs=some p:=by
 rcases ks with _|⟨c,gs⟩
 .cases h
 .refine⟨c,gs,rfl,?_⟩;have h:(bif c.cls then Pr x c nm false gs else none)=some p:=h;cases d:c.cls with
  |false=>rw[d]at h;cases h
  |true=>rw[d]at h;exact⟨rfl,h⟩
section
variable{G:AQ}{H:Heap}{n m c:Nat}{K:Kq}{M:Km}{vv:V}{all:Nat}{Γ:List BU}{k:KV}{B:Nat->Prop}{kind num:Nat}{nm:St}{ty of t:Ty}{own ow:St}{line col:Nat}{v:V}{es:List Te}
abbrev AL2(o:T1 G K)(h:Xb G H n m c K M vv all Γ (Mb kind num nm ty of own line col v))(d9:Kt G H B v es)(D:∀q,B q->q<n/\q≠c/\q≠K.b)(V:∀e∈es,e.of.nm.ok)(d2:es.length<=10000)(A:dY kind=true)(f0:ty.nm.ok)
 (E:T9 (K.x M) Γ kind nm ty (es.map Te.of)=some (t,ow)) (hk:∀H' P,oQ K.b c H n H' P->T.get H' c=some (one (Mb kind num nm ty t ow line col v))->k (.CV []) H' P):
 Runs F G Qs [.ptr K.kb 0,.ptr c 0] H n k:=by
 refine go2 (Zh Ae G) ?_;delta Q4;have i2:=h.bn o;have i3:=h.kn;have d3:=h.cn;have⟨cs,e1,e2,e3,e4,e5,d4⟩:=d9;have W:Ak v v=true:=e2.1 |> λh=>by cases v<;>first|exact h|(cases e1.2;done)|(cases e1.1;done)
 rw[BG,AJ,AP,AJ];refine AB (BV (off:=0+5) (m:=2) h.g a6 (by show 0+5+2<=11;omega)) ?_;rw[AJ,AP,AJ];have X:∀{H':Heap},T.get H' c=some (one (Mb kind num nm ty of own line col v))->AM (.ptr c (0+7)) G H'=some v:=λg=>AK (off:=0+7) g rfl;refine AB (X h.g) ?_;refine Ao rfl λH1 f1 g1=>?_;refine BX (L:=ty.cells) g1 rfl rfl a6 λH2 g2 s2=>?_;have Y:Kp H n H2 (n+1):=⟨f1.le,λq d=>(s2 q a6).trans (f1.same q d)⟩;have Q:=h.kp o Y;have R:=e1.same (H':=H2) λq d=>Y.same q (D q (e5 q d)).1;refine AB (X Q.g) (Ba W ?_);rw[AJ,CZ,AJ];refine AB (AK (off:=0) Q.g (v:=.int .i64 (.ofNat kind) 0) rfl) (AB (zN ..) ?_);have f6:Kb K.b H n H2 (n+1):=Y.kb a6;by_cases h9:kind=9
 .subst h9;rw[show(!decide (9=9))=false from rfl,AZ];have⟨I,s,hm,hf,e⟩:=su (show Pr (K.x M) ty nm true (es.map Te.of)=some (t,ow)from E);obtain rfl:t=s.ret:=e;refine AMs (C:=ty) (B:=B) o Q a_ a6 (_p _) g2 f0 I R (λq d=>by have:=D q (e5 q d);exact⟨a6,this.2.1,this.2.2⟩) (DV.mono (λ_ h=>h) (λq d=>Y.same q (D q d).1) d4) (λq d=>by have:=D q d;exact⟨a6,this.2.1,this.2.2⟩) V d2 hm hf λH' P f g=>?_;exact hk H' P ((f6.bc c).trans f) g
 .rw[eg h9,show(!false)=true from rfl,Ah];obtain⟨C,gs,J,N⟩:∃C gs,es.map Te.of=C::gs/\C.cls=true:=by
   by_cases h7:kind=7
   .subst h7;have⟨c,h1,Q,_⟩:=AC3 E;exact⟨c,[],h1,Q⟩
   .by_cases Z:kind=8
    .subst Z;have⟨c,gs,h1,Q,_⟩:=sX E;exact⟨c,gs,h1,Q⟩
    .exfalso;unfold dY at A;rw[eg h7,eg Z,eg h9]at A;cases A
  cases es with
  |nil=>cases J
  |cons e rest=>
  rw[rl,_h]at J;obtain⟨rfl,i4⟩:=J;have u:=V e (u_ ..);cases d4 with
  |cons d5 f7=>
  rename_i l ls;have d6:=d5.mono (H':=H2) (λ_ h=>h) λq d=>Y.same q (D q d).1;have⟨p,q1,q8,q9,kd⟩:=Vx o.sub (i:=0) (l:=l) R rfl d6.len;cases d5 with
  |mk f8 g9 i5 i6 y i0 O S i7 i9 k0 k1=>
  rename_i v' k2 f9;have N:y.cls=true:=N;have u:y.nm.ok:=u;rw[AJ,AP,AJ];refine AB (X Q.g) (AB kd.ip (AB kd.i8 (AB (v:=y.v) (kd.ld H2 R).2.2.1 ?_)));rw[AJ,AP,AJ];refine AB (X Q.g) ?_;have⟨w,hw,g0,d7⟩:=El.tail R e2;refine AB hw ?_;refine BX (L:=y.cells) g2 rfl rfl a6 λH3 g3 s3=>?_;have f3:Kp H n H3 (n+1):=⟨Y.le,λq d=>(s3 q a6).trans (Y.same q d)⟩;have h3:=h.kp o f3;refine AB (X h3.g) (Ba W ?_);refine AB (Be g3) ?_;rw[AJ,AP,AJ];refine AB (X h3.g) ?_;have g4:=e1.same (H':=H3) λq d=>f3.same q (D q (e5 q d)).1;refine AB kd.ip (AB kd.i1 (AB (v:=cT O S) (kd.ld H3 g4).2.1 ?_));refine AFZ (t:=y) u λH4 n4 f4=>?_;have d0:=f3.trans f4;have k3:=f4.le;have h4:=h.kp o d0;have g6:=e1.same (H':=H4) λq d=>d0.same q (D q (e5 q d)).1;refine AB (X h4.g) (Ba W (AB (v:=cT O S) (kd.ld H4 g6).2.1 (Ba (UC ..) ?_)));rw[N];refine L2 (K:=K) h4.ka.g (hN h4.cn) λH5 f5=>?_;have d1:=d0.trans f5;have h5:=h.kp o d1;have g5:=f5.get (f4.get g3 a6) a6;rw[Bw,AJ];show AS (.bool false) _ _;rw[AZ];have d8:Kb K.b H n H5 (n4+1):=d1.kb a6;have U:∀H' P,oQ K.b c H5 (n4+1) H' P->T.get H' c=some (one (Mb kind num nm ty t ow line col v))->k (.CV []) H' P:=λH' P f g=>hk H' P ((d8.bc c).trans f) g;by_cases h7:kind=7
  .subst h7;have⟨C,hC,_,I,hf⟩:=AC3 E;rw[rl,_h]at hC;obtain⟨rfl,_⟩:=hC;exact AWP (C:=y) (w:=w) o h5 d3 a6 g5 u I hf U
  .have Z:kind=8:=by
    unfold dY at A;by_cases Z:kind=8
    .exact Z
    .rw[eg h7,eg Z,eg h9]at A;cases A
   subst Z;have⟨C,k4,hC,_,g7⟩:=sX E;rw[rl,_h]at hC;obtain⟨rfl,rfl⟩:=hC;have⟨I,s,hm,hf,e⟩:=su g7;obtain rfl:t=s.ret:=e;have g8:El G H5 w 11 ls:=g0.same λq d=>by rw[d7]at d;have:=D q (e5 q d);exact((f4.trans f5).same q a6).trans (s3 q a6)
   exact AMs (C:=y) (B:=B) o h5 a_ d3 a6 g5 u I g8 (λq d=>by rw[d7]at d;have:=D q (e5 q d);exact⟨a6,this.2.1,this.2.2⟩) (DV.mono (λ_ h=>h) (λq d=>d1.same q (D q d).1) f7) (λq d=>by have:=D q d;exact⟨a6,this.2.1,this.2.2⟩)
    (λx hx=>V x (c_ _ hx)) (by rw[j']at d2;omega) hm hf U
end
section
variable{G:AQ}{H:Heap}{n m c d:Nat}{K:Kq}{M:Km}{vv:V}{all:Nat}{Γ:List BU}{k:KV}{B:Nat->Prop}{kind num:Nat}{nm:St}{ty of t t1:Ty}{own ow:St}{line col:Nat}{v:V}{es:List Te}
abbrev ik{P:V->Prop}{A:Nat}(d:Bool)(p:AM (.ptr c 0) G H=some (iN kind))(h:P (.bool (d||decide (kind=A)))):
 Ax (.bool d) false (some (.ptr c 0)) λf=>Ax (.bool d) false (AV f) λg=>Ax (.bool d) false (AG 0 g) λi=>Ax (.bool d) false (AM i G H) λk=>Ax (.bool d) false (BM (.one .int) false k (iN A)) λm=>AD (BI (.bool d) (.bool true) m) P:=by
 cases d with
 |true=>exact QD (QD (QD (QD (QD (V1 h)))))
 |false=>exact S9 rfl (S9 (BG ..) (S9 (CZ ..) (S9 p (S9 (A9 ..) (ah h)))))
abbrev AIx(x y:St):BM (.one .str) false x.v y.v=some (.bool (decide (x=y))):=by show BM (.one .str) false (.str x.1 x.2) (.str y.1 y.2)=_;rw[cK];congr 2;rw[_s];exact⟨λh=>L_ h.1 h.2,λh=>by rw[h];exact⟨rfl,rfl⟩⟩
abbrev ALQ{P:V->Prop}{x:St}(d:Bool)(p:AM (.ptr c (0+4)) G H=some nm.v)(h:P (.bool (d||decide (nm=x)))):
 Ax (.bool d) false (some (.ptr c 0)) λf=>Ax (.bool d) false (AV f) λg=>Ax (.bool d) false (AG 4 g) λi=>Ax (.bool d) false (AM i G H) λk=>Ax (.bool d) false (BM (.one .str) false k x.v) λm=>AD (BI (.bool d) (.bool true) m) P:=by
 cases d with
 |true=>exact QD (QD (QD (QD (QD (V1 h)))))
 |false=>exact S9 rfl (S9 (BG ..) (S9 (AP ..) (S9 p (S9 (AIx ..) (ah h)))))
abbrev AHq{Q R:Nat}(o:T1 G K)(w:∀{H:Heap} {n:Nat} {P:KV},(∀i p,Kp H n i p->P t1.v i p)->Runs F G Q [] H n P)(y:∀{H:Heap} {n:Nat} {P:KV},(∀i p,Kp H n i p->P t.v i p)->Runs F G R [] H n P)
 (h:Xb G H n m c K M vv all Γ (Mb kind num nm ty of own line col v)) (A:Kt G H B v es) (C:∀d,B d->d<n/\d≠c/\d≠K.b) (q:∀e∈es,e.of=t1) (Y:es.length<=10000)
 (Z:∀i p,oQ K.b c H n i p->Xb G i p m c K M vv all Γ (Mb kind num nm ty t own line col v)->P .undef i p):
 AD (AV (.ptr c 0)) λv5=>AD (AG 7 v5) λS=>AD (AM S G H) λU=>Runs F G Q [] H n λv8 H n=>AD (AM S G H) λv=>B7 (Ak v U) <| Runs F G CO [.ptr K.kb 0,U,v8] H n λ_ H n=>
  Runs F G R [] H n λD H n=>AD (AV (.ptr c 0)) λE=>AD (AG 8 E) λI=>A1 2 I D H n P:=by
 have d0:=h.bn o;have d1:=h.kn;have d2:=h.cn;have⟨cs,J,e2,e3,e4,V,L⟩:=A;have N:Ak v v=true:=e2.1 |> λh=>by cases v<;>first|exact h|(cases J.2;done)|(cases J.1;done)
 have W:∀{i:Heap},T.get i c=some (one (Mb kind num nm ty of own line col v))->AM (.ptr c (0+7)) G i=some v:=λg=>AK (off:=0+7) g rfl;rw[BG,AJ,AP,AJ];refine AB (W h.g) ?_;refine w λH1 n1 u=>?_;have O:=h.kp o u;refine AB (W O.g) (Ba N ?_);refine sI (K:=K) O.ka.g (hN O.cn) (J.same λd k=>u.same d (C d (V d k)).1) V (DV.mono (λ_ h=>h) (λd k=>u.same d (C d k).1) L) (λd k=>tw (C d k) u.le) q a6 λH2 n2 x2=>?_;refine y λH3 n3 x3=>?_;have x:=u.trans (x2.trans x3);have h3:=h.kp o x;rw[AJ,AP,AJ];refine gO (t:=t) h3.g λH4 s4 g4=>?_;have f:=vO a6 (x.kb (b:=K.b) a6) s4;have X:=h.mc;exact Z H4 n3 f ⟨h.ka.kb o ((f.low X a6).low o_),X,hN x.le,g4⟩
abbrev aW{a b:Ty}(h:a.is b=true):a=b:=Ty.jF.1 h
abbrev AXD(o:T1 G K)(h:Xb G H n m c K M vv all Γ (Mb 14 num nm ty of own line col v))(u:Kt G H B v es)(y:∀p,B p->p<n/\p≠c/\p≠K.b)(w:es.length<=10000)
 (d:T9 (K.x M) Γ 14 nm ty (es.map Te.of)=some (t,ow)) (A:∀i q,oQ K.b c H n i q->T.get i c=some (one (Mb 14 num nm ty t own line col v))->k (.CV []) i q):
 Runs F G EA [.ptr K.kb 0,.ptr c 0] H n k:=by
 refine go2 (FE Ae G) ?_;delta ED;rw[BG,AJ,CZ,AJ];refine AB (AK (off:=0) h.g (v:=.int .i64 (.ofNat 14) 0) rfl) (AB (A9 ..) ?_);rw[show decide (14=14)=true from rfl,Ah];rcases es with _|⟨a,_|⟨b,l⟩⟩
 .cases d
 .obtain⟨C,D⟩:=EH (show RT (a.of.is BY) BY (0,0)=some (t,ow)from d);cases D;exact AHq o Hg Hg h u y (λe E=>by rw[ff.1 E];exact aW C) w λi q f x=>A i q f x.g
 .cases d
abbrev AY2(o:T1 G K)(h:Xb G H n m c K M vv all Γ (Mb kind num nm ty of own line col v))(q:kind=15∨kind=17∨kind=18)(E:Kt G H B v es)(J:∀A,B A->A<n/\A≠c/\A≠K.b)(I:es.length<=10000)
 (d:T9 (K.x M) Γ kind nm ty (es.map Te.of)=some (t,ow)) (L:∀u C,oQ K.b c H n u C->T.get u c=some (one (Mb kind num nm ty t own line col v))->k (.CV []) u C):
 Runs F G EA [.ptr K.kb 0,.ptr c 0] H n k:=by
 refine go2 (FE Ae G) ?_;delta ED;have D:AM (.ptr c 0) G H=some (iN kind):=AK (off:=0) h.g rfl;rw[BG,AJ,CZ,AJ];refine AB D (AB (A9 ..) ?_);rw[eg a6,AZ,AJ,CZ,AJ];refine AB D (AB (A9 ..) ?_);refine ik _ D (ik _ D ?_);have N:((decide (kind=15)||decide (kind=17))||decide (kind=18))=true:=by rcases q with rfl|rfl|rfl<;>rfl
 rw[N,Ah];have O:t=A3/\∀e∈es,e.of=A3:=by
  rcases q with rfl|rfl|rfl
  .rcases es with _|⟨a,_|⟨b,l⟩⟩
   .cases d
   .obtain⟨i,w⟩:=EH (show RT (a.of.is A3) A3 (0,0)=some (t,ow)from d);cases w;exact⟨rfl,λe p=>by rw[ff.1 p];exact aW i⟩
   .cases d
  .rcases es with _|⟨a,_|⟨b,_|⟨P,l⟩⟩⟩
   .cases d
   .cases d
   .obtain⟨i,w⟩:=EH (show RT (a.of.is A3&&b.of.is A3) A3 (0,0)=some (t,ow)from d);cases w;rw[ez]at i;exact⟨rfl,λe p=>by simp at p;rcases p with rfl|rfl;exact aW i.1;exact aW i.2⟩
   .cases d
  .rcases es with _|⟨a,_|⟨b,_|⟨P,l⟩⟩⟩
   .cases d
   .cases d
   .obtain⟨i,w⟩:=EH (show RT (a.of.is A3&&b.of.is A3) A3 (0,0)=some (t,ow)from d);cases w;rw[ez]at i;exact⟨rfl,λe p=>by simp at p;rcases p with rfl|rfl;exact aW i.1;exact aW i.2⟩
   .cases d
 obtain⟨rfl,y⟩:=O;exact AHq o Fw Fw h E J y I λu C f x=>L u C f x.g
abbrev AXs(o:T1 G K)(h:Xb G H n m c K M vv all Γ (Mb 16 num nm ty of own line col v))(f:nm≠T3/\nm≠Qx)(y:Kt G H B v es)(O:∀q,B q->q<n/\q≠c/\q≠K.b)(A:es.length<=10000)
 (d:T9 (K.x M) Γ 16 nm ty (es.map Te.of)=some (t,ow)) (E:∀i I,oQ K.b c H n i I->T.get i c=some (one (Mb 16 num nm ty t own line col v))->k (.CV []) i I):
 Runs F G EA [.ptr K.kb 0,.ptr c 0] H n k:=by
 refine go2 (FE Ae G) ?_;delta ED;have P:=h.bn o;have p:AM (.ptr c 0) G H=some (iN 16):=AK (off:=0) h.g rfl;have u:∀{i:Heap} {Q:Ty},T.get i c=some (one (Mb 16 num nm ty Q own line col v))->AM (.ptr c (0+4)) G i=some nm.v:=λg=>AK (off:=0+4) g rfl;rw[BG,AJ,CZ,AJ];refine AB p (AB (A9 ..) ?_);rw[show decide (16=14)=false from rfl,AZ,AJ,CZ,AJ];refine AB p (AB (A9 ..) ?_);refine ik _ p (ik _ p ?_);rw[show((decide (16=15)||decide (16=17))||decide (16=18))=false from rfl,AZ,BG,AJ,CZ,AJ];refine AB p (AB (A9 ..) ?_);refine ik _ p ?_;rw[show(decide (16=19)||decide (16=20))=false from rfl,AZ,AJ,AP,AJ];refine AB (u h.g) (AB (AIx nm T3) ?_);refine ALQ (x:=Qx) _ (u h.g) ?_;rw[eg f.1,eg f.2];show AS (.bool false) _ _;rw[AZ];rcases es with _|⟨a,_|⟨b,_|⟨c',l⟩⟩⟩
 .cases d
 .cases d
 .have d:(bif decide (nm=T3)||decide (nm=Qx)then RT (a.of.is b.of||(a.of.obj&&b.of.obj)) A3 (0,0)else RT (a.of.is BY&&b.of.is BY) (bif decide (nm=eh)||decide (nm=di)then A3 else BY) (0,0))=some (t,ow):=d;rw[eg f.1,eg f.2]at d;have⟨C,R⟩:=EH (show RT (a.of.is BY&&b.of.is BY) (bif decide (nm=eh)||decide (nm=di)then A3 else BY) (0,0)=some (t,ow)from d);cases R;rw[ez]at C;refine AHq (t:=BY) o Hg Hg h y O (λe J=>by simp at J;rcases J with rfl|rfl;exact aW C.1;exact aW C.2) A λS U D w=>?_;rw[AJ,AP,AJ];refine AB (u w.g) (AB (AIx nm eh) ?_);refine ALQ (x:=di) _ (u w.g) ?_;cases L:decide (nm=eh)||decide (nm=di)with
  |false=>
   rw[AZ];exact E S U D (by rw[L];exact w.g)
  |true=>
   rw[Ah];refine Fw λH2 V N=>?_;have W:=w.kp o N;rw[AJ,AP,AJ];refine gO (t:=A3) W.g λX Y Z=>?_;exact E X V (D.trans (vO a6 (N.kb (b:=K.b) (tw D.le h.cn)) Y)) (by rw[L];exact Z)
 .cases d
end
section
variable{G:AQ}{H:Heap}{n m c d:Nat}{K:Kq}{M:Km}{vv:V}{all:Nat}{Γ:List BU}{k:KV}{B:Nat->Prop}{kind num:Nat}{nm:St}{ty of t t1:Ty}{own ow:St}{line col:Nat}{v:V}{es:List Te}
abbrev AYx(o:T1 G K)(h:Xb G H n m c K M vv all Γ (Mb kind num nm ty of own line col v))(A:kind=19∨kind=20)(d1:Kt G H B v es)(hB:∀f,B f->f<n/\f≠c/\f≠K.b)(d2:∀e∈es,e.of.nm.ok)(d3:ty.nm.ok)
 (C:T9 (K.x M) Γ kind nm ty (es.map Te.of)=some (t,ow)) (hk:∀H' n',oQ K.b c H n H' n'->T.get H' c=some (one (Mb kind num nm ty t own line col v))->k (.CV []) H' n'):
 Runs F G EA [.ptr K.kb 0,.ptr c 0] H n k:=by
 refine go2 (FE Ae G) ?_;delta ED;have i5:=h.bn o;have i6:=h.kn;have i7:=h.cn;have D:∀{H':Heap} {t':Ty},T.get H' c=some (one (Mb kind num nm ty t' own line col v))->AM (.ptr c 0) G H'=some (iN kind):=λg=>AK (off:=0) g rfl;have Q:∀{H':Heap},T.get H' c=some (one (Mb kind num nm ty of own line col v))->AM (.ptr c (0+7)) G H'=some v:=λg=>AK (off:=0+7) g rfl;obtain⟨e,he,y,ht⟩:∃e,es=[e]/\((e.of.cls||e.of.is Ec)=true/\BD K.tb ty=true)/\t=bif decide (kind=20)then A3 else ty:=by
  rcases es with _|⟨a,_|⟨b,l⟩⟩
  .rcases A with rfl|rfl<;>cases C
  .refine⟨a,rfl,?_⟩;rcases A with rfl|rfl
   .obtain⟨R,S⟩:=EH (show RT ((a.of.cls||a.of.is Ec)&&BD K.tb ty) ty (0,0)=some (t,ow)from C);cases S;rw[ez]at R;exact⟨R,rfl⟩
   .obtain⟨R,S⟩:=EH (show RT ((a.of.cls||a.of.is Ec)&&BD K.tb ty) A3 (0,0)=some (t,ow)from C);cases S;rw[ez]at R;exact⟨R,rfl⟩
  .rcases A with rfl|rfl<;>cases C
 subst he;have cU:=d2 e (u_ ..);have⟨cs,E,e2,e3,e4,e5,d4⟩:=d1;have I:Ak v v=true:=e2.1 |> λh=>by cases v<;>first|exact h|(cases E.2;done)|(cases E.1;done)
 cases d4 with
 |cons U d5=>
 cases d5 with
 |nil=>
 rename_i l;have⟨p,q1,q8,q9,kd⟩:=Vx o.sub (i:=0) (l:=l) E rfl U.len;cases U with
 |mk d6 i3 i9 k0 q i4 d u k1 k2 k3 k4=>
 rename_i v' k5 d7;have cU:q.nm.ok:=cU;have y:(q.cls||q.is Ec)=true/\BD K.tb ty=true:=y;rw[BG,AJ,CZ,AJ];refine AB (D h.g) (AB (A9 ..) ?_);rw[eg a6,AZ,AJ,CZ,AJ];refine AB (D h.g) (AB (A9 ..) ?_);refine ik _ (D h.g) (ik _ (D h.g) ?_);rw[show((decide (kind=15)||decide (kind=17))||decide (kind=18))=false by rcases A with rfl|rfl<;>rfl,AZ,AJ,CZ,AJ];refine AB (D h.g) (AB (A9 ..) ?_);refine ik _ (D h.g) ?_;rw[show(decide (kind=19)||decide (kind=20))=true by rcases A with rfl|rfl<;>rfl,Ah,AJ,AP,AJ];refine AB (Q h.g) (AB kd.ip (AB kd.i8 (AB (v:=q.v) (kd.ld H E).2.2.1 ?_)));refine Ao rfl λH1 f1 g1=>?_;refine BX (L:=q.cells) g1 rfl rfl a6 λH2 g2 s2=>?_;have f2:Kp H n H2 (n+1):=⟨f1.le,λf w=>(s2 f a6).trans (f1.same f w)⟩;have S:=h.kp o f2;refine AB (Be g2) ?_;rw[AJ,AP,AJ];have d8:=E.same (H':=H2) λf w=>f2.same f (hB f (e5 f w)).1;refine AB (Q S.g) (AB kd.ip (AB kd.i1 (AB (v:=cT d u) (kd.ld H2 d8).2.1 ?_)));refine AFZ (t:=q) cU λH3 n3 f3=>?_;have T8:=f2.trans f3;have k6:=f3.le;have h3:=h.kp o T8;have V:=E.same (H':=H3) λf w=>T8.same f (hB f (e5 f w)).1;have g3:=f3.get g2 a6;refine AB (Q h3.g) (Ba I (AB (v:=cT d u) (kd.ld H3 V).2.1 (Ba (UC ..) ?_)));have rest:∀J W,Kp H n J W->Runs F G A4 [.ptr K.kb 0,.bool true,iN 24,cT d u] J W (λd9 H n=>AS d9 (AD (AV (.ptr K.kb 0)) λf0=>AD (AG 0 f0) λf7=>AD (AM f7 G H) λf9=>AD (AV (.ptr c 0)) λg0=>AD (AG 5 g0) λg4=>AD (AX 2 g4 G H) λg5=>
  Au (AY 2 1 [(.str 0 0),(.bool false)] [(0,.c g5)] E0) H n λg6 H n=>AD (AV (.ptr c 0)) λg8=>AD (AG 1 g8) λX=>AD (AX 2 X G H) λY=>Runs F G B6 [f9,g6] H n λi0 H n=>AD (AX 2 X G H) λv=>B7 (Ak v Y) <|
  Runs F G A4 [.ptr K.kb 0,i0,(iN 23),Y] H n λk7 H n=>C2 lfp G (Runs F G) k (.ptr c 0) H n) (C2 lfp G (Runs F G) k (.ptr c 0) H n)):=by
  intro J W P;have h4:=h.kp o P;have k8:=P.le;refine L2 (K:=K) h4.ka.g a6 λH5 f5=>?_;have h5:=h4.kp o f5;rw[Ah,BG,AJ,CZ,AJ];refine AB (AK (off:=0) h5.ka.g (v:=.ptr K.t 0) rfl) ?_;rw[BG,AJ,AP,AJ];refine AB (v:=ty.v) (BV (off:=0+5) (m:=2) h5.g a6 (by show 0+5+2<=11;omega)) ?_;refine zH o h5 d3 y.2 λH6 n6 f6=>?_;have h6:=h5.kb o f6;have mX:Kb K.b H n H6 n6:=(P.kb a6).trans ((f5.kb a6).trans f6);delta C2;rw[BG,AJ,AP,AJ];refine AB (v:=ty.v) (BV (off:=0+5) (m:=2) h6.g a6 (by show 0+5+2<=11;omega)) ?_;rw[AJ,AP,AJ];refine gO (t:=ty) h6.g λH7 s7 g7=>?_;rw[AJ,CZ,AJ];refine AB (D g7) (AB (A9 ..) ?_);have Z:=vO a6 mX s7;cases d0:decide (kind=20)with
  |false=>
   rw[AZ];rw[d0]at ht;obtain rfl:t=ty:=ht;exact hk H7 n6 Z g7
  |true=>
   rw[Ah];rw[d0]at ht;obtain rfl:t=A3:=ht;refine Fw λH8 n8 f8=>?_;rw[AJ,AP,AJ];have:=f6.le;refine gO (t:=A3) (f8.get g7 a6) λH9 s9 g9=>?_;exact hk H9 n8 (Z.trans (vO a6 (f8.kb (b:=K.b) a6) s9)) g9
 cases hc:q.cls with
 |true=>
  refine QD (AFB ?_);refine AB (Q h3.g) (Ba I (AB (v:=cT d u) (kd.ld H3 V).2.1 (Ba (UC ..) ?_)));refine AQ7 (QD (V1 ?_));exact rest H3 n3 T8
 |false=>
  have N:q.is Ec=true:=by have:=y.1;rw[hc]at this;exact this
  refine S9 (Be g3) (AFl ?_);refine jW λJ W P=>?_;have O:=T8.trans P;have h4:=h.kp o O;have i2:=E.same (H':=J) λf w=>O.same f (hB f (e5 f w)).1;refine AB (Q h4.g) (Ba I (AB (v:=cT d u) (kd.ld J i2).2.1 (Ba (UC ..) ?_)));refine AOP (Be (P.get g3 a6)) (FH _) (S9 (UX q Ec) (ah ?_));rw[N];exact rest J W O
abbrev AYq(o:T1 G K)(h:Xb G H n m c K M vv all Γ (Mb 16 num nm ty of own line col v))(P:(decide (nm=T3)||decide (nm=Qx))=true)(d0:Kt G H B v es)(hB:∀q,B q->q<n/\q≠c/\q≠K.b)(Q:∀e∈es,e.of.nm.ok)
 (f:T9 (K.x M) Γ 16 nm ty (es.map Te.of)=some (t,ow)) (hk:∀H' n',oQ K.b c H n H' n'->T.get H' c=some (one (Mb 16 num nm ty t own line col v))->k (.CV []) H' n'):
 Runs F G EA [.ptr K.kb 0,.ptr c 0] H n k:=by
 refine go2 (FE Ae G) ?_;delta ED;have d8:=h.bn o;have d9:=h.kn;have f0:=h.cn;have O:AM (.ptr c 0) G H=some (iN 16):=AK (off:=0) h.g rfl;have qn:AM (.ptr c (0+4)) G H=some nm.v:=AK (off:=0+4) h.g rfl;have qv:∀{H':Heap},T.get H' c=some (one (Mb 16 num nm ty of own line col v))->AM (.ptr c (0+7)) G H'=some v:=λg=>AK (off:=0+7) g rfl;obtain⟨e,D,he,d,ht⟩:∃e D,es=[e,D]/\(e.of.is D.of||(e.of.obj&&D.of.obj))=true/\t=A3:=by
  rcases es with _|⟨a,_|⟨b,_|⟨c',l⟩⟩⟩
  .cases f
  .cases f
  .have f:(bif decide (nm=T3)||decide (nm=Qx)then RT (a.of.is b.of||(a.of.obj&&b.of.obj)) A3 (0,0)else RT (a.of.is BY&&b.of.is BY) (bif decide (nm=eh)||decide (nm=di)then A3 else BY) (0,0))=some (t,ow):=f;rw[P]at f;have⟨h1,h2⟩:=EH (show RT (a.of.is b.of||(a.of.obj&&b.of.obj)) A3 (0,0)=some (t,ow)from f);cases h2;exact⟨a,b,rfl,h1,rfl⟩
  .cases f
 subst he ht;have w:=Q e (u_ ..);have A:=Q D o6;have⟨cs,E,e2,e3,e4,e5,d1⟩:=d0;have d2:Ak v v=true:=e2.1 |> λh=>by cases v<;>first|exact h|(cases E.2;done)|(cases E.1;done)
 cases d1 with
 |cons R I=>
 cases I with
 |cons C I=>
 cases I with
 |nil=>
 rename_i l Z;have⟨p,q1,q8,q9,kd⟩:=Vx o.sub (i:=0) (l:=l) E rfl R.len;have⟨r,r1,r8,r9,J⟩:=Vx o.sub (i:=1) (l:=Z) E rfl C.len;have e8:(l.drop 8).take 2=e.of.cells:=by cases R;rfl
 have S:(Z.drop 8).take 2=D.of.cells:=by cases C;rfl
 generalize e.of=x at w d e8;generalize D.of=y at A d S;have lx:∀H',El G H' v 11 [l,Z]->AX 2 q8 G H'=some x.v:=λH' h'=>by rw[(kd.ld H' h').2.2.1,e8];rfl
 have ly:∀H',El G H' v 11 [l,Z]->AX 2 r8 G H'=some y.v:=λH' h'=>by rw[(J.ld H' h').2.2.1,S];rfl
 rw[BG,AJ,CZ,AJ];refine AB O (AB (A9 ..) ?_);rw[show decide (16=14)=false from rfl,AZ,AJ,CZ,AJ];refine AB O (AB (A9 ..) ?_);refine ik _ O (ik _ O ?_);rw[show((decide (16=15)||decide (16=17))||decide (16=18))=false from rfl,AZ,AJ,CZ,AJ];refine AB O (AB (A9 ..) ?_);refine ik _ O ?_;rw[show(decide (16=19)||decide (16=20))=false from rfl,AZ,AJ,AP,AJ];refine AB qn (AB (AIx nm T3) ?_);refine ALQ (x:=Qx) _ qn ?_;rw[P,Ah,AJ,AP,AJ];refine AB (qv h.g) (AB kd.ip (AB kd.i8 (AB (lx H E) ?_)));rw[AJ,AP,AJ];refine AB (qv h.g) (AB J.ip (AB J.i8 (AB (ly H E) ?_)));refine Ao rfl λH1 f1 g1=>?_;refine Ao rfl λH2 f2 g2=>?_;refine BX (L:=x.cells) (f2.get g1 a6) rfl rfl a6 λH3 g3 s3=>?_;have f3:Kp H n H3 (n+1+1):=⟨a6,λq u=>(s3 q a6).trans ((f1.trans f2).same q u)⟩;have h3:=h.kp o f3;have d3:=E.same (H':=H3) λq u=>f3.same q (hB q (e5 q u)).1;refine AB (qv h3.g) (Ba d2 (AB (ly H3 d3) (Ba (FH y) ?_)));have d4:T.get H3 (n+1)=_:=(s3 (n+1) a6).trans g2;refine BX (L:=y.cells) d4 rfl rfl a6 λH4 g4 s4=>?_;have f4:Kp H n H4 (n+1+1):=⟨a6,λq u=>(s4 q a6).trans (f3.same q u)⟩;have h4:=h.kp o f4;have zt:T.get H4 n=_:=(s4 n a6).trans g3;refine AB (Be zt) (AB (Be g4) (AB (UX x y) ?_));have rest:∀H5 n5,Kp H n H5 n5->Runs F G A4 [.ptr K.kb 0,.bool true,iN 24,cT line col] H5 n5 (λd6 H n=>Runs F G CE [] H n λU H n=>AD (AV (.ptr c 0)) λV=>AD (AG 8 V) λW=>A1 2 W U H n λd7 H n=>k (.CV []) H n):=by intro H5 n5 N;have h5:=h.kp o N;have:=N.le;refine L2 (K:=K) h5.ka.g a6 λH6 f6=>Fw λH7 n7 f7=>?_;have X:=N.trans (f6.trans f7);have h7:=h.kp o X;rw[BG,AJ,AP,AJ];refine gO (t:=A3) h7.g λH8 s8 g8=>?_;exact hk H8 n7 (vO a6 (X.kb (b:=K.b) a6) s8) g8
 cases d5:x.is y with
 |true=>
  refine QD ?_;rw[AJ,AP,AJ];refine AB (T4 h4.g) (AFB (AB (T4 h4.g) (Ba (UC ..) ?_)));refine QD (AB8 (ANz (AB (T4 h4.g) (Ba (UC ..) ?_))));refine QD (V1 ?_);exact rest H4 _ f4
 |false=>
  rw[d5,_P,ez]at d;refine S9 (Be zt) ?_;rw[AJ,AP,AJ];refine AB (T4 h4.g) (AFl ?_);refine rv w λH5 n5 N=>?_;have Y:=f4.trans N;have h5:=h.kp o Y;have f8:=N.le;refine AB (T4 h5.g) (Ba (UC ..) ?_);rw[d.1];refine S9 rfl (MT (Be (N.get g4 a6)) (wi ?_));refine rv A λH6 n6 f6=>?_;have mX:=Y.trans f6;have h6:=h.kp o mX;refine AB (T4 h6.g) (Ba (UC ..) ?_);rw[d.2];refine S9 rfl (ah ?_);exact rest H6 n6 mX
end
abbrev ANX(h:okS s=true):s.ok:=by intro d;unfold okS at h;rw[ui d,k_,_P]at h;exact kh h
abbrev AFo:∀{fs:aAm},QM s fs=some t->∃f∈fs,f.ty=t
 |[],h=>by cases h
 |f::l,h=>by
  have h:(bif decide (f.nm.1=s.1/\f.nm.2=s.2)then some f.ty else QM s l)=some t:=h;cases d:decide (f.nm.1=s.1/\f.nm.2=s.2)with
  |true=>rw[d]at h;exact⟨f,u_ ..,e_ h⟩
  |false=>rw[d]at h;have⟨g,i,e⟩:=AFo (fs:=l) h;exact⟨g,c_ _ i,e⟩
abbrev ABo{m:Bk}:∀{ms:aAF},HP s ms=some m->m∈ms
 |[],h=>by cases h
 |f::l,h=>by
  have h:(bif decide (f.nm.1=s.1/\f.nm.2=s.2)then some f else HP s l)=some m:=h;cases d:decide (f.nm.1=s.1/\f.nm.2=s.2)with
  |true=>rw[d]at h;cases h;exact u_ ..
  |false=>rw[d]at h;exact c_ _ (ABo (ms:=l) h)
theorem ABb{tb:Tab}{s:St}{p:St×Ty}:∀{cs:List St},Xe tb s cs=some p->∃u c,DU tb u=some c/\∃f∈c.fs,f.ty=p.2
 |[],h=>by cases h
 |u::cs,h=>by
  have h:(match QM s ((DU tb u).getD Cf).fs with|some t=>some (u,t)|none=>Xe tb s cs)=some p:=h
  cases d:QM s ((DU tb u).getD Cf).fs with
  |none=>rw[d]at h;exact ABb (cs:=cs) h
  |some t=>
   rw[d]at h
   cases h
   cases g:DU tb u with
   |none=>rw[g]at d;cases d
   |some c=>rw[g]at d;exact⟨u,c,g,AFo d⟩
theorem xr{tb:Tab}{s:St}{st:Bool}{p:St×Bk}:∀{cs:List St},FP tb s st cs=some p->∃u c,DU tb u=some c/\p.2∈c.ms
 |[],h=>by cases h
 |u::cs,h=>by
  have h:(match Ht st s ((DU tb u).getD Cf).ms with|some m=>some (u,m)|none=>FP tb s st cs)=some p:=h
  cases d:Ht st s ((DU tb u).getD Cf).ms with
  |none=>rw[d]at h;exact xr (cs:=cs) h
  |some t=>
   rw[d]at h
   cases h
   unfold Ht at d
   cases f:HP s ((DU tb u).getD Cf).ms with
   |none=>rw[f]at d;cases d
   |some q=>
    rw[f]at d
    have k:q=t:=by
     cases i:q.st==st with
     |false=>simp only[i,cond_false]at d;cases d
     |true=>simp only[i,cond_true]at d;exact Option.some.inj d
    subst k
    cases g:DU tb u with
    |none=>rw[g]at f;cases f
    |some c=>rw[g]at f;exact⟨u,c,g,ABo f⟩
abbrev AFF:∀{Γ:aAm},Cg s Γ=some t->∃f∈Γ,f.ty=t
 |[],h=>by cases h
 |f::l,h=>by
  have h:(bif decide (f.nm=s)then some f.ty else Cg s l)=some t:=h;cases d:decide (f.nm=s)with
  |true=>rw[d]at h;exact⟨f,u_ ..,e_ h⟩
  |false=>rw[d]at h;have⟨g,i,e⟩:=AFF (Γ:=l) h;exact⟨g,c_ _ i,e⟩
section
variable{G:AQ}{K:Kq}{M:Km}{Γ:List BU}{nm:St}{ty:Ty}{p:Ty×St}
abbrev AFb(o:T1 G K){c:Ty}{gs:aAv}(h:Pr (K.x M) c nm st gs=some p):p.1.nm.ok/\gs.length<=1000:=by have⟨_,s,i,k,e⟩:=su h;have⟨u,f,g,d⟩:=xr i;have m:=(o.tn u f g).2 s d;have q:=o.ar u f g s d;have v:=xw k;exact⟨by rw[e];exact m,a6⟩
abbrev AJN(o:T1 G K)(q:∀f∈Γ,f.ty.nm.ok)(i:ty.nm.ok)(kind:Nat)(ks:aAv)(v:∀t∈ks,t.nm.ok)(h:T9 (K.x M) Γ kind nm ty ks=some p):p.1.nm.ok/\ks.length<=1001:=by
 have i0:BY.nm.ok:=by intro h;cases h
 have g:A3.nm.ok:=by intro h;cases h
 have d:∀{b:Bool} {t:Ty} {w:St},RT b t w=some p->t.nm.ok->p.1.nm.ok:=λh D=>by rw[(EH h).2];exact D
 match kind,h with
 |0,h=>cases h
 |1,h=>rcases ks with _|⟨a,l⟩;(cases h;exact⟨i0,j_ _⟩);cases h
 |2,h=>rcases ks with _|⟨a,l⟩;(cases h;exact⟨g,j_ _⟩);cases h
 |3,h=>rcases ks with _|⟨a,l⟩;(cases h;exact⟨g,j_ _⟩);cases h
 |4,h=>rcases ks with _|⟨a,l⟩;(cases h;exact⟨AOg,j_ _⟩);cases h
 |5,h=>rcases ks with _|⟨a,l⟩;exact⟨d h o.cls,j_ _⟩;cases h
 |6,h=>
  rcases ks with _|⟨a,l⟩
  .obtain⟨t,m,y⟩:=d_.1 (show(Cg nm Γ).map (λt=>(t,((0,0):St)))=some p from h);have⟨f,A,e⟩:=AFF m;rw[<-y,<-e];exact⟨q f A,j_ _⟩
  .cases h
 |7,h=>
  have⟨c,e,_,_,A⟩:=AC3 h;have⟨u,E,F,f,B,H⟩:=ABb A;have:=(o.tn u E F).1 f B;rw[H]at this;exact⟨this,by rw[e];show 1<=1001;omega⟩
 |8,h=>
  have⟨c,J,e,_,I⟩:=sX h;have⟨m,y⟩:=AFb o I;exact⟨m,by rw[e,j'];omega⟩
 |9,h=>
  have⟨m,y⟩:=AFb o (show Pr (K.x M) ty nm true ks=some p from h);exact⟨m,a6⟩
 |10,h=>rcases ks with _|⟨a,l⟩;exact⟨d h i,j_ _⟩;cases h
 |11,h=>rcases ks with _|⟨a,_|⟨b,l⟩⟩;cases h;exact⟨d h i,by show 1<=1001;omega⟩;cases h
 |12,h=>rcases ks with _|⟨a,_|⟨b,_|⟨c,l⟩⟩⟩;cases h;cases h;exact⟨d h (v a (u_ ..)),by show 2<=1001;omega⟩;cases h
 |13,h=>rcases ks with _|⟨a,_|⟨b,l⟩⟩;cases h;exact⟨d h i0,by show 1<=1001;omega⟩;cases h
 |14,h=>rcases ks with _|⟨a,_|⟨b,l⟩⟩;cases h;exact⟨d h i0,by show 1<=1001;omega⟩;cases h
 |15,h=>rcases ks with _|⟨a,_|⟨b,l⟩⟩;cases h;exact⟨d h g,by show 1<=1001;omega⟩;cases h
 |16,h=>
  rcases ks with _|⟨a,_|⟨b,_|⟨c,l⟩⟩⟩
  .cases h
  .cases h
  .have h:(bif decide (nm=T3)||decide (nm=Qx)then RT (a.is b||(a.obj&&b.obj)) A3 (0,0)else RT (a.is BY&&b.is BY) (bif decide (nm=eh)||decide (nm=di)then A3 else BY) (0,0))=some p:=h;refine⟨?_,by show 2<=1001;omega⟩;cases C:decide (nm=T3)||decide (nm=Qx)with
   |true=>rw[C]at h;exact d h g
   |false=>
    rw[C]at h;refine d (show RT (a.is BY&&b.is BY) (bif decide (nm=eh)||decide (nm=di)then A3 else BY) (0,0)=some p from h) ?_;cases decide (nm=eh)||decide (nm=di);exact i0;exact g
  .cases h
 |17,h=>rcases ks with _|⟨a,_|⟨b,_|⟨c,l⟩⟩⟩;cases h;cases h;exact⟨d h g,by show 2<=1001;omega⟩;cases h
 |18,h=>rcases ks with _|⟨a,_|⟨b,_|⟨c,l⟩⟩⟩;cases h;cases h;exact⟨d h g,by show 2<=1001;omega⟩;cases h
 |19,h=>rcases ks with _|⟨a,_|⟨b,l⟩⟩;cases h;exact⟨d h i,by show 1<=1001;omega⟩;cases h
 |20,h=>rcases ks with _|⟨a,_|⟨b,l⟩⟩;cases h;exact⟨d h g,by show 1<=1001;omega⟩;cases h
 |k+21,h=>cases h
mutual
theorem AT6(o:T1 G K)(hΓ:∀f∈Γ,f.ty.nm.ok):∀{e e':Te},Yx (K.x M) Γ e=some e'->e'.of.nm.ok
 |.mk kind num nm ty of own kids,e',h=>by obtain⟨ks,p,h1,h2,rfl,h0⟩:=uI h;unfold fW at h0;rw[ez,ez]at h0;exact(AJN o hΓ (ANX h0.1.1) kind _ (λt ht=>by obtain⟨e,he,rfl⟩:=_c.1 ht;exact ADQ o hΓ h1 e he) h2).1
theorem ADQ(o:T1 G K)(hΓ:∀f∈Γ,f.ty.nm.ok):∀{l l':aAq},jj (K.x M) Γ l=some l'->∀e∈l',e.of.nm.ok
 |[],l',h,e,he=>by rw[jj]at h;cases h;cases he
 |a::l,l',h,e,he=>by
  obtain⟨a',t,h1,h2,rfl⟩:=Vg h;rcases qk.1 he with rfl|he
  .exact AT6 o hΓ h1
  .exact ADQ o hΓ h2 e he
end
end
section
variable{G:AQ}{H:Heap}{n m c:Nat}{K:Kq}{M:Km}{vv:V}{all:Nat}{Γ:List BU}{k:KV}{B:Nat->Prop}{kind num:Nat}{nm:St}{ty of t:Ty}{own ow:St}{line col:Nat}{v:V}{es:List Te}
abbrev AYb(g:T.get H c=some (one (Mb kind num nm ty of own line col v)))(u:T.get H (c+1)=some (one xO))(f:Kt G H B v es)(p:∀id,B id->c+2<=id/\id<n)
 (w:∀i l,(∀id,id≠c+1->T.get i id=T.get H id)->C3 G i (Rg c n) l (.mk kind num nm ty of own es)->k (.agg l) i n):Av lfp G (Runs F G) k (.ptr c 0) (.ptr (c+1) 0) H n:=by delta Av;refine AB (As (m:=11) g a6 rfl) ?_;refine BX u rfl rfl a6 λx y q=>?_;rw[By (m:=11) y a6 rfl];simp only[go_sem];exact w x _ q (C3.of (f.mono (λid d=>by have:=p id d;exact⟨a6,this.2⟩) λid d=>q id (hN (p id d))))
abbrev AF3(o:T1 G K)(h:Xb G H n m c K M vv all Γ (Mb kind num nm ty of own line col v))(C:ty.nm.ok)(i:BD K.tb ty=true)
 (D:∀A B,Kb K.b H n A B->P (.bool true) A B):
 AD (AV (.ptr K.kb 0)) λk=>AD (AG 0 k) λp=>AD (AM p G H) λq=>AD (AG 5 (.ptr c 0)) λu=>AD (AX 2 u G H) λw=>Au (AY 2 1 [.str 0 0,.bool false] [(0,.c w)] E0) H n λx H n=>
  AD (AG 1 (.ptr c 0)) λd=>AD (AX 2 d G H) λf=>Runs F G B6 [q,x] H n λy H n=>AD (AX 2 d G H) λv=>B7 (Ak v f) <|
  Runs F G A4 [.ptr K.kb 0,y,iN 23,f] H n P:=by rw[BG,AJ,CZ,AJ];refine AB (AK (off:=0) h.ka.g (v:=.ptr K.t 0) rfl) ?_;rw[AP,AJ];refine AB (v:=ty.v) (BV (off:=0+5) (m:=2) h.g a6 (by show 0+5+2<=11;omega)) ?_;exact zH o h C i D
structure Left(G:AQ)(K:Kq)(M:Km)(Γ:List BU)(vv:V)(all:Nat)(m c:Nat)(kind num:Nat)(nm:St)(ty of t:Ty)(own ow:St)(line col:Nat)(v:V)(H:Heap)(n:Nat)(k:KV):Prop where
 h:Xb G H n m c K M vv all Γ (Mb kind num nm ty of own line col v)
 fin:∀H' n',oQ K.b c H n H' n'->T.get H' c=some (one (Mb kind num nm ty t ow line col v))->Av lfp G (Runs F G) k (.ptr c 0) (.ptr (c+1) 0) H' n'
abbrev Left.put(o:T1 G K)(w:Left G K M Γ vv all m c kind num nm ty of t own own line col v H n k)(f:Kb K.b H n H' n'):
 AD (AG 8 (.ptr c 0)) λp=>A1 2 p t.v H' n' λ_ H n=>Av lfp G (Runs F G) k (.ptr c 0) (.ptr (c+1) 0) H n:=by have d:=w.h.bn o;have i:=w.h.kb o f;rw[AP,AJ];exact gO (t:=t) i.g λq u x=>w.fin q n' (vO a6 f u) x
abbrev zq(o:T1 G K)(w:Left G K M Γ vv all m c kind num nm ty of t own ow line col v H n k)(i:Kt G H B v es)(C:∀d,B d->d<n/\d≠c/\d≠K.b)(p:∀e∈es,e.of.nm.ok)(q:es.length<=10000)(u:dY kind=true)(y:ty.nm.ok)
 (A:T9 (K.x M) Γ kind nm ty (es.map Te.of)=some (t,ow)) {D:V}:CL lfp G (Runs F G) k (.ptr K.kb 0) (.ptr c 0) (.ptr (c+1) 0) D (.bool true) H n:=by delta CL;rw[Ah];exact AL2 o w.h i C p q u y A λE I f g=>w.fin E I f g
abbrev AKQ(o:T1 G K)(w:Left G K M Γ vv all m c kind num nm ty of t own own line col v H n k)(d1:Kt G H B v es)(I:∀q,B q->q<n/\q≠c/\q≠K.b)(d2:∀e∈es,e.of.nm.ok)(V:es.length<=10000)(i0:10<=kind)(W:ty.nm.ok)
 (f:T9 (K.x M) Γ kind nm ty (es.map Te.of)=some (t,ow)):CL lfp G (Runs F G) k (.ptr K.kb 0) (.ptr c 0) (.ptr (c+1) 0) (iN kind) (.bool false) H n:=by
 delta CL;rw[AZ];have h:=w.h;have i2:=h.bn o;have i3:=h.kn;have i4:=h.cn;have S:∀{H':Heap},T.get H' c=some (one (Mb kind num nm ty of own line col v))->AM (.ptr c (0+7)) G H'=some v:=λg=>AK (off:=0+7) g rfl;have u:=d1;have⟨cs,N,e2,e3,e4,e5,X⟩:=d1;have d3:Ak v v=true:=e2.1 |> λh=>by cases v<;>first|exact h|(cases N.2;done)|(cases N.1;done)
 refine AB (A9 ..) ?_;by_cases d4:kind=10
 .subst d4;rw[show decide (10=10)=true from rfl,Ah];rcases es with _|⟨a,l⟩
  .obtain⟨J,L⟩:=EH (show RT (BD K.tb ty) ty (0,0)=some (t,ow)from f);cases L;refine AF3 o h W J λH1 n1 f1=>?_;have J:=h.kb o f1;rw[AP,AJ];refine AB (v:=ty.v) (BV (off:=0+5) (m:=2) J.g a6 (by show 0+5+2<=11;omega)) ?_;exact w.put o f1
  .cases f
 rw[eg d4,AZ];refine AB (A9 ..) ?_;by_cases d5:kind=11
 .subst d5;rw[show decide (11=11)=true from rfl,Ah];rcases es with _|⟨a,_|⟨b,l⟩⟩
  .cases f
  .obtain⟨J,L⟩:=EH (show RT (a.of.is BY&&BD K.tb ty) ⟨ty.nm,true⟩ (0,0)=some (t,ow)from f);cases L;rw[ez]at J;rw[AP,AJ];refine AB (S h.g) ?_;refine Hg λH1 n1 O=>?_;have C:=h.kp o O;refine AB (S C.g) (Ba d3 ?_);refine sI (K:=K) C.ka.g (hN C.cn) (N.same λq d=>O.same q (I q (e5 q d)).1) e5 (DV.mono (λ_ h=>h) (λq d=>O.same q (I q d).1) X) (λq d=>tw (I q d) O.le) (λe he=>by rw[ff.1 he];exact aW J.1) a6 λH2 n2 U=>?_;have L:=C.kp o U;rw[Ah];refine AF3 o L W J.2 λH3 n3 f3=>?_;have T8:Kb K.b H n H3 n3:=((O.trans U).kb a6).trans f3;have h3:=h.kb o T8;delta Fh;rw[AP,AJ,CZ,AJ];refine AB (AK (off:=0+5) h3.g (v:=ty.nm.v) rfl) ?_;refine AB (v:=Ty.v ⟨ty.nm,true⟩) rfl ?_;exact w.put o T8
  .cases f
 rw[eg d5,AZ];refine AB (A9 ..) ?_;by_cases d6:kind=12
 .subst d6;rw[show decide (12=12)=true from rfl,Ah];rcases es with _|⟨a,_|⟨b,_|⟨c',l⟩⟩⟩
  .cases f
  .cases f
  .obtain⟨J,L⟩:=EH (show RT (a.of.arr&&b.of.is BY) (AFd a.of) (0,0)=some (t,ow)from f);cases L;rw[ez]at J;cases X with
   |cons P d7=>
   rename_i l ls;have⟨p,q1,q8,q9,kd⟩:=Vx o.sub (i:=0) (l:=l) N rfl P.len;cases P with
   |mk Y d8 f5 f6 D d9 E Q f7 f8 f9 g0=>
   rename_i v' g1 Z;have R:D.arr=true:=J.1;rw[AP,AJ];refine AB (S h.g) (AB kd.ip (AB kd.i8 (AB kd.i9 (AB (v:=.bool D.arr) ((kd.ld H N).2.2.2 _ rfl) ?_))));rw[AJ];refine AB (S h.g) (AB kd.ip (AB kd.i1 (AB (v:=cT E Q) (kd.ld H N).2.1 ?_)));rw[R];refine L2 (K:=K) h.ka.g a6 λH1 O=>?_;have C:=h.kp o O;rw[Ah,AJ];refine AB (S C.g) ?_;have g2:=N.same (H':=H1) λq d=>O.same q (I q (e5 q d)).1;have⟨w',g3,g4,f0⟩:=El.tail g2 e2;refine AB g3 ?_;refine Hg λH2 n2 U=>?_;have L:=C.kp o U;have f2:=O.trans U;have i5:=U.le;refine AB (S L.g) (Ba d3 ?_);refine sI (K:=K) (A:=B) L.ka.g (hN L.cn) (g4.same λq d=>by rw[f0]at d;have:=I q (e5 q d);exact U.same q a6) (λq d=>by rw[f0]at d;exact e5 q d) (DV.mono (λ_ h=>h) (λq d=>f2.same q (I q d).1) d7) (λq d=>hN (I q d)) (λe he=>by rw[ff.1 he];exact aW J.2) (by show 1<=1000000;omega) λH3 n3 x3=>?_;have d0:=f2.trans x3;have h3:=h.kp o d0;delta Fi;rw[AP,AJ];have g5:=N.same (H':=H3) λq d=>d0.same q (I q (e5 q d)).1;refine AB (S h3.g) (AB kd.ip (AB kd.i8 (AB (v:=D.v) (kd.ld H3 g5).2.2.1 ?_)));refine ASY (t:=D) λH4 n4 x4=>?_;exact w.put o ((d0.trans x4).kb a6)
  .cases f
 rw[eg d6,AZ];refine AB (A9 ..) ?_;by_cases f4:kind=13
 .subst f4;rw[show decide (13=13)=true from rfl,Ah];rcases es with _|⟨a,_|⟨b,l⟩⟩
  .cases f
  .obtain⟨J,L⟩:=EH (show RT a.of.arr BY (0,0)=some (t,ow)from f);cases L;cases X with
   |cons P d7=>
   rename_i l ls;have⟨p,q1,q8,q9,kd⟩:=Vx o.sub (i:=0) (l:=l) N rfl P.len;cases P with
   |mk Y d8 f5 f6 D d9 E Q f7 f8 f9 g0=>
   rename_i v' g1 Z;have R:D.arr=true:=J;rw[AP,AJ];refine AB (S h.g) (AB kd.ip (AB kd.i8 (AB kd.i9 (AB (v:=.bool D.arr) ((kd.ld H N).2.2.2 _ rfl) ?_))));rw[AJ];refine AB (S h.g) (AB kd.ip (AB kd.i1 (AB (v:=cT E Q) (kd.ld H N).2.1 ?_)));rw[R];refine L2 (K:=K) h.ka.g a6 λH1 O=>?_;refine Hg λH2 n2 U=>?_;exact w.put o ((O.trans U).kb a6)
  .cases f
 rw[eg f4,AZ];have y:∀H' n',oQ K.b c H n H' n'->T.get H' c=some (one (Mb kind num nm ty t own line col v))->Av lfp G (Runs F G) k (.ptr c 0) (.ptr (c+1) 0) H' n':=w.fin;by_cases g6:kind=14
 .subst g6;exact AXD o h u I V f y
 by_cases g7:kind=15∨kind=17∨kind=18
 .exact AY2 o h g7 u I V f y
 by_cases g8:kind=19∨kind=20
 .exact AYx o h g8 u I d2 W f y
 by_cases g9:kind=16
 .subst g9;cases hb:decide (nm=T3)||decide (nm=Qx)with
  |true=>exact AYq o h hb u I d2 f y
  |false=>
   rw[Bool.or_eq_false_iff]at hb;exact AXs o h ⟨_w hb.1,_w hb.2⟩ u I V f y
 .exfalso;obtain⟨j,rfl⟩:∃j,kind=j+21:=⟨kind-21,a6⟩;cases f
end
section
variable{G:AQ}{K:Kq}{M:Km}{Γ:List BU}
abbrev map_nil{es:aAq}{x:Ty}{l:aAv}(h:es.map Te.of=x::l):es≠[]:=λe=>by rw[e]at h;cases h
abbrev AHP(o:T1 G K){kind num:Nat}{own:St}{kids:aAq}(hX:∀e∈kids,AFy G K M Γ e):AFy G K M Γ (.mk kind num nm ty of own kids):=by
 intro H n A l e' vv all k h ht hA d0 hk;refine go2 (eu Ae G) ?_;delta TA;obtain⟨ks,p,hL,d,rfl,X⟩:=uI d0;have⟨t,ow⟩:=p;unfold fW at X;rw[ez,ez]at X;have D:=ANX X.1.1;have x:=ADQ o h.ok hL;have T:=(AJN o h.ok D kind _ (λt ht=>by obtain⟨e,he,rfl⟩:=_c.1 ht;exact x e he) d).2;rw[uc]at T;have d6:=pN hL;have d7:=h.kn;have U:=h.bn o;cases ht with
 |mk _ _ _ _ _ _ line col J d1 V d2=>
 rename_i v cs;refine BE λH1 f1 g1=>?_;refine Ao rfl λH2 f2 g2=>?_;have E:=f1.trans f2;have g1:=f2.get g1 a6;have hv:Rb v=true/\At v=[v]:=by cases v<;>first|exact⟨rfl,rfl⟩|(cases J.2;done)|(cases J.1;done)
 have d3:Kt G H2 A v kids:=⟨cs,J.same λi f=>E.same i (hA i (V i f)).1,d1,hv.1,hv.2,V,DV.mono (λ_ h=>h) (λi f=>E.same i (hA i f).1) d2⟩;refine ATj (m:=n) o hX (h.kb o ((E.kb U).low o_)) o_ a6 hA g1 d3 a6 hL λY N v3 f3 Z y=>?_;have d8:=f3.le;rw[Bw,AJ];show AS (.bool false) _ _;rw[AZ];have T8:Kb K.b H n Y N:=⟨a6,λi F C=>(f3.same i a6 C a6).trans (E.same i F),λhs=>f3.seen (hs.same (E.same _ U))⟩;have O:Xb G Y N n n K M vv all Γ (Mb kind num nm ty of own line col v3):=⟨h.kb o (T8.low o_),ea _,a6,Z⟩;have P:∀i,Rg (n+1+1) N i->i<N/\i≠n/\i≠K.b:=λi f=>by have F:=f.1;have C:=f.2;omega
 have w:Left G K M Γ vv all n n kind num nm ty of t own ow line col v3 Y N k:=⟨O,λQ R u g4=>by have d4:=u.le;refine AYb g4 ((u.same (n+1) a6 a6 a6).trans ((f3.same (n+1) a6 a6 a6).trans g2)) (y.mono (B:=Rg (n+1+1) R) (λi f=>⟨f.1,b_ f.2 d4⟩) λi f=>u.same i f.2 (P i f).2.2 (P i f).2.1) (λi f=>f) λH5 l5 s5 uU=>?_;refine hk H5 R l5 ⟨a6,λi F C=>(s5 i a6).trans ((u.same i a6 C a6).trans (T8.same i F C)),λhs=>(u.seen (T8.seen hs)).same (s5 _ a6)⟩ uU⟩
 rw[CZ,AJ];refine AB (AK (off:=0) Z (v:=.int .i64 (.ofNat kind) 0) rfl) (AB (A9 ..) ?_);have q:dY kind=false->own=ow:=λhm=>by
  have F:=X.2;rw[hm,_P]at F;rcases AKs _ _ d with C|C
  .rw[hm]at C;cases C
  .rw[kh F];exact C.symm
 by_cases k1:kind=1
 .subst k1;rw[show decide (1=1)=true from rfl,Ah];cases q rfl;rcases ks with _|⟨a,l⟩
  .cases d;exact Hg λQ R u=>w.put o (u.kb a6)
  .cases d
 rw[eg k1,AZ];refine AB (A9 ..) ?_;by_cases k2:kind=2
 .subst k2;rw[show decide (2=2)=true from rfl,Ah];delta Ds;rw[Ah];cases q rfl;rcases ks with _|⟨a,l⟩
  .cases d;exact Fw λQ R u=>w.put o (u.kb a6)
  .cases d
 rw[eg k2,AZ];refine AB (A9 ..) ?_;delta Ds;by_cases k3:kind=3
 .subst k3;rw[show decide (3=3)=true from rfl,Ah];cases q rfl;rcases ks with _|⟨a,l⟩
  .cases d;exact Fw λQ R u=>w.put o (u.kb a6)
  .cases d
 rw[eg k3,AZ];refine AB (A9 ..) ?_;by_cases k4:kind=4
 .subst k4;rw[show decide (4=4)=true from rfl,Ah];cases q rfl;rcases ks with _|⟨a,l⟩
  .cases d;exact jW λQ R u=>w.put o (u.kb a6)
  .cases d
 rw[eg k4,AZ];refine AB (A9 ..) ?_;by_cases k5:kind=5
 .subst k5;rw[show decide (5=5)=true from rfl,Ah];cases q rfl;rcases ks with _|⟨a,l⟩
  .obtain⟨F,C⟩:=EH (show RT (!M.st) ⟨K.cls,false⟩ (0,0)=some (t,own)from d);cases C;rw[BG,AJ,AP,AJ,AP,AJ];refine AB (AK (off:=0+9+3) O.ka.g (v:=.bool M.st) rfl) ?_;rw[Bw,AJ,AP,AJ];refine AB (T4 Z) ?_;rw[F];refine L2 (K:=K) O.ka.g a6 λQ u=>?_;have h4:=O.kp o u;rw[AJ,AP,AJ,AP,AJ];refine AB (AK (off:=0+3+2) h4.ka.g (v:=K.cls.v) rfl) ?_;refine U0 (l:=K.cls.1) (c:=K.cls.2) λH5 n5 S=>?_;exact w.put o ((u.trans S).kb a6)
  .cases d
 rw[eg k5,AZ];refine AB (A9 ..) ?_;by_cases k6:kind=6
 .subst k6;rw[show decide (6=6)=true from rfl,Ah];cases q rfl;rcases ks with _|⟨a,l⟩
  .obtain⟨t',F,C⟩:=d_.1 (show(Cg nm Γ).map (λt=>(t,((0,0):St)))=some (t,own)from d);cases C;rw[BG,AJ,AP,AJ,AP,AJ];refine AB (AK (off:=0+4) Z (v:=nm.v) rfl) ?_;refine Ao rfl λQ u g4=>?_;have h4:=O.kp o u;refine AMQ (s:=nm) o (h4.ka.lift o a6) λH5 n5 S=>?_;have h5:=h4.kp o S;rw[F,OC,AJ,N4,AJ];have g5:=S.get g4 a6;have d9:=S.le;refine BX (L:=t.cells) g5 rfl rfl a6 λH6 g6 s6=>?_;have W:Kp Y N H6 n5:=⟨a6,λi f=>(s6 i a6).trans ((u.trans S).same i f)⟩;have h6:=O.kp o W;rw[AP,AJ];refine AB (T4 h6.g) ?_;refine L2 (K:=K) h6.ka.g a6 λH7 f7=>?_;refine AB (Be (f7.get g6 a6)) ?_;exact w.put o ((W.trans f7).kb a6)
  .cases d
 rw[eg k6,AZ];refine AB (A9 ..) ?_;have I:ks.length<=10000:=a6;by_cases k7:kind=7
 .subst k7;rw[show decide (7=7)=true from rfl,Ah];exact zq o w y P x I rfl D d
 rw[eg k7,AZ];refine AB (A9 ..) ?_;by_cases k8:kind=8
 .subst k8;rw[show decide (8=8)=true from rfl,Ah];exact zq o w y P x I rfl D d
 rw[eg k8,AZ];refine AB (A9 ..) ?_;by_cases k9:kind=9
 .subst k9;exact zq o w y P x I rfl D d
 rw[eg k9];have d5:dY kind=false:=by unfold dY;rw[eg k7,eg k8,eg k9];rfl
 cases q d5;by_cases k0:kind=0
 .subst k0;cases d
 exact AKQ o w y P x I a6 D d
mutual
theorem AM1(o:T1 G K):∀e,AFy G K M Γ e
 |.mk _ _ _ _ _ _ kids=>AHP o (AI4 o kids)
theorem AI4(o:T1 G K):∀es:aAq,∀e∈es,AFy G K M Γ e
 |[]=>λe h=>by cases h
 |a::l=>by
  have ha:=AM1 o a;have hl:=AI4 o l;intro e h;rcases qk.1 h with rfl|h
  .exact ha
  .exact hl e h
end
end
abbrev Sk.AYU{bs:Nat}{A:Nat->Prop}{c:LV}(h:Sk H z A v LS)(J:∀id,v.CD=some id->id<n)(K:0<z)(x:elems w G H z=some [c])(y:(LS.length+1)*bs<=140737488355328)
 (C:∀v' D,(∀B:Nat->Prop,B n->Sk D z B v' (LS++[c]))->(∀id,id<n->v.CD≠some id->T.get D id=T.get H id)->v'.CD=some n->P v' D (n+1)):Ey z bs v w G H n P:=by
 have k:∀{v':V} {i:Heap},Gr G i 0 z v' (LS++[c])->(∀id,v'.CD=some id->id=n)->v'.CD=some n/\∀B:Nat->Prop,B n->Sk i z B v' (LS++[c]):=by
  intro v' i f g;generalize hX:LS++[c]=X at f;cases f with
  |nil=>simp at hX
  |Hf q L E F=>
   have e:=g _ rfl;subst e;exact⟨rfl,λB M=>.Hf q L E M⟩
 cases h with
 |nil=>
  refine jc (m:=0) .nil a6 (λ_ h=>by cases h) x y ?_ (λh=>by cases h);intro v' i f d g;have⟨q1,q2⟩:=k (v':=v') f g;exact C v' i q2 (λid p u=>d id p u) q1
 |emp q N=>
  rename_i id t;refine ww (t:=t) K x (by simpa using y) ?_;intro v' i f d g;have⟨q1,q2⟩:=k (v':=v') f g;exact C v' i q2 (λid p u=>d id p) q1
 |Hf q I E N=>
  rename_i id O t;have F:=J id rfl;have f:Gr G H 0 z (.Hf id 0 LS.length z) LS:=.Hf q I E (j_ _);refine jc (m:=0) f a6 (λj h=>by cases h;omega) x y ?_ (λh=>by cases h);intro v' i f d g;have⟨q1,q2⟩:=k (v':=v') f g;exact C v' i q2 (λid p u=>d id p u) q1
structure Ks(K:Kq)(v:V)(H:Heap)(n:Nat)(H':Heap)(n':Nat):Prop where
 le:n<=n'
 same:∀id,id<n->id≠K.b->id≠K.kb->v.CD≠some id->T.get H' id=T.get H id
 seen:E1 H K.b->E1 H' K.b
abbrev Kb.ks(v:V)(f:Kb K.b H n H' n'):Ks K v H n H' n':=⟨f.le,λd h g _ _=>f.same d h g,f.seen⟩
abbrev Ks.refl(K:Kq)(v:V)(H:Heap)(n:Nat):Ks K v H n H n:=⟨ea _,λ_ _ _ _ _=>rfl,λh=>h⟩
abbrev Ks.trans{v':V}(x:Ks K v H n H' n')(y:Ks K v' H' n' d f)(h:Sd n v v'):Ks K v H n d f:=
 ⟨w_ x.le y.le,λi g k m p=>(y.same i (b_ g x.le) k m (by
  rcases h with h|h
  .rw[h];exact p
  .intro e;have:=h i e;omega)).trans (x.same i g k m p),λh=>y.seen (x.seen h)⟩
section
variable{G:AQ}{H:Heap}{n:Nat}{K:Kq}{M:Km}{vv:V}{all:Nat}{Γ:List BU}{k:KV}
abbrev AQu{x:BU}{p0 p1:V}(o:T1 G K)(h:au G H n K M vv all Γ)(hx:x.ty.nm.ok)(hn:Cg x.nm Γ=none)(ha:all<200)
 (hk:∀y Y u,Ks K vv H n y Y->au G y Y K M u (all+1) (Γ++[x])->Sd n vv u->k (.CV []) y Y):Runs F G OD [.ptr K.kb 0,.agg (RR x),.agg [p0,p1]] H n k:=by
 refine xN (iX Ae G) ?_;delta US;have Z:=h.kn;have C:=h.bn o;have d6:=o.n0;have D:=o.ba;refine BE λH1 f1 g1=>?_;refine BE λH2 f2 g2=>?_;rw[BG,AJ,AP,AJ,CZ,AJ];refine AB (AK (off:=0) (f2.get g1 a6) (v:=x.nm.v) rfl) ?_;refine Ao rfl λH3 f3 g3=>?_;have E:=(f1.trans f2).trans f3;have A:=h.kp o E;refine AMQ (s:=x.nm) o A λH4 n4 B=>?_;have h4:=A.kp o B;have d7:=B.le;rw[hn,OC,AJ,N4,AJ];have g4:=B.get g3 a6;refine BX (L:=IY.cells) g4 rfl rfl a6 λH5 g5 s5=>?_;have I:Kp H n H5 n4:=⟨a6,λd i=>(s5 d a6).trans ((E.trans B).same d i)⟩;have u4:T.get H5 (n+1)=some (one [p0,p1]):=(s5 (n+1) a6).trans (B.get (f3.get g2 a6) a6);have d0:T.get H5 n=some (one (RR x)):=(s5 n a6).trans (B.get (f3.get (f2.get g1 a6) a6) a6);rw[Bw,AJ];refine AB (As (m:=2) u4 a6 rfl) ?_;refine L2 (K:=K) (I.get h.g Z) a6 λH6 f6=>?_;have J:=I.trans f6;have h6:=h.kp o J;have d1:=f6.get u4 a6;rw[Bw,AJ];show Ax (.bool false) false _ _;refine S9 rfl (S9 rfl (S9 (BG ..) (S9 (AP ..) (S9 (AP ..) ?_))));refine S9 (AK (off:=0+1+1) h6.g (v:=.int .i64 (.ofNat all) 0) rfl) (S9 (D9 ..) ?_);rw[ui ha];refine S9 (As (m:=2) d1 a6 rfl) (AFl ?_);refine L2 (K:=K) h6.g a6 λH7 f7=>?_;have N:=J.trans f7;have h7:=h.kp o N;refine S9 (Bw ..) (ah ?_);show AS (.bool false) _ _;rw[AZ,AJ,AP,AJ,CZ,AJ];refine AB (AK (off:=0+1) h7.g (v:=vv) rfl) ?_;refine AB (As (m:=3) (f7.get (f6.get d0 a6) a6) a6 rfl) ?_;generalize YE:n4+1+1=n7 at*;refine M1 (G:=G) (vs:=[.agg (RR x)]) rfl a6 (λv hv=>by simp at hv;subst hv;exact⟨rfl,rfl⟩) λH8 f8 _ d2=>?_;have X:=h7.kp o f8;have w:=N.trans f8;have qa:∀{y:Heap} {v:V},T.get y K.kb=some (one (K.cells M v all))->AM (.ptr K.kb (0+1+1)) G y=some (iN all):=λg=>AK (off:=0+1+1) g rfl;rw[AJ,AP,AJ,AP,AJ];refine AB (qa X.g) ?_;rw[CA a6,AJ];have d5:=h.lt;refine X.sk.AYU (c:=RR x) (λd i=>(X.sk.own i).2) a6 d2.2 (by rw[uc];omega) λu H9 d3 ut O=>?_;have qo:∀d,vv.CD=some d->K.kb<d/\d<n:=λd i=>h.sk.own i;have g9:T.get H9 K.kb=_:=(ut K.kb a6 λe=>hN (qo _ e)).trans X.g;refine AB (qa g9) (Ba (ABx ..) ?_);have p:=d3 (λd=>K.kb<d/\d<n7+1+1) ⟨a6,a6⟩;rw[AJ,AP,AJ,CZ,AJ];refine FK (off:=0+1) (m:=1) (v:=u) g9 p.ok.1 (by rw[p.ok.2.1];rfl) a6 (by show 0+1+1<=20;omega) λd8 P Q=>?_;rw[p.ok.2.1]at P;rw[AJ,AP,AJ,AP,AJ];refine FK (off:=0+1+1) (m:=1) (v:=.int .i64 (.ofNat (all+1)) 0) P rfl rfl a6 (by show 0+1+1+1<=20;omega) λR d4 S=>?_;have q:∀d,d<n->d≠K.kb->vv.CD≠some d->T.get R d=T.get H d:=λd U h2 A=>(S d h2).trans ((Q d h2).trans ((ut d (hN w.le) A).trans (w.same d U)));have d9:=w.le;have vb:∀d,d<K.n0->vv.CD≠some d:=λd h e=>hN (qo d e);refine hk R _ u ⟨a6,λd U _ A h4=>q d U A h4,λhs=>hs.same (q _ C a6 (vb _ D))⟩ ⟨d4,?_,a6,?_,?_,a6,?_,h.ret⟩ (.inr λd i=>by rw[O]at i;cases i;omega)
 .exact h.tab.kb ⟨ea _,λd U _=>q d a6 a6 (vb d U),λhs=>hs.same (q _ C a6 (vb _ D))⟩
 .rw[wm];exact p.JO (λd i=>p.own i) λd i=>(S d (hN ((p.own i).1))).trans (Q d (hN ((p.own i).1)))
 .rw[uk];have:=h.la;exact Nat.succ_le_succ this
 .intro f W;rcases q_.1 W with W|W
  .exact h.ok f W
  .rw[ff.1 W];exact hx
end
def RA(A:Nat->Prop)(a b:Nat)(v:V):Nat->Prop:=λid=>A id∨Rv a b v id
def AD0(G:AQ)(K:Kq)(M:Km)(A:Nat->Prop)(H:Heap)(n:Nat)(vv:V)(g':Gs)(s':Tt)(k:KV):Prop:=
 ∀H' n' l' vv',Ks K vv H n H' n'->au G H' n' K M vv' g'.2 g'.1->Sd n vv vv'->Vy G H' (RA A n n' vv') l' s'->k (.agg l') H' n'
def AIY(G:AQ)(K:Kq)(M:Km)(s:Tt):Prop:=∀(H:Heap) (n:Nat) (A:Nat->Prop) (l:LV) (vv:V) (all:Nat) (Γ:aAm) (g':Gs) (s':Tt) (k:KV),au G H n K M vv all Γ->Vy G H A l s->(∀id,A id->id<K.kb/\id≠K.b)->Tq (K.x M) s (Γ,all)=some (s',g')->
 AD0 G K M A H n vv g' s' k->Runs F G TN [.ptr K.kb 0,.agg l] H n k
def fS(G:AQ)(K:Kq)(M:Km)(b:aAt):Prop:=b.length<=1000->∀(H:Heap) (n:Nat) (A:Nat->Prop) (v:V) (vv:V) (all:Nat) (Γ:aAm) (b':aAt) (all':Nat) (k:KV),au G H n K M vv all Γ->UH G H A v b->(∀id,A id->id<K.kb/\id≠K.b)->Xr (K.x M) b (Γ,all)=some (b',all')->
 (∀H' n' v' vv',Ks K vv H n H' n'->au G H' n' K M vv' all' Γ->Sd n vv vv'->UH G H' (RA A n n' vv') v' b'->k v' H' n')->Runs F G HZ [.ptr K.kb 0,v] H n k
section
variable{G:AQ}{H:Heap}{n m c:Nat}{K:Kq}{M:Km}{vv:V}{all:Nat}{Γ:List BU}{k:KV}{A R:Nat->Prop}{does:Nat}{nm:St}{ty:Ty}{line col:Nat}{ve vt vl:V}{es es':List Te}{th el:List Tt}
abbrev ANa(i:T.get H c=some (one (SB does line col nm ty ve vt vl)))(p:T.get H (c+1)=some (one il))(q:Kt G H R ve es)(u:UH G H R vt th)(v:UH G H R vl el)(f:∀id,R id->id≠c+1)
 (w:∀g l,(∀id,id≠c+1->T.get g id=T.get H id)->Vy G g R l (.mk does nm ty es th el)->k (.agg l) g n):BH lfp G (Runs F G) k (.ptr c 0) (.ptr (c+1) 0) H n:=by delta BH;refine AB (As (m:=9) i a6 rfl) ?_;refine BX p rfl rfl a6 λx y d=>?_;rw[By (m:=9) y a6 rfl];simp only[go_sem];exact w x _ d (Vy.of (q.mono (λ_ h=>h) λid h=>d id (f id h)) (u.mono (λ_ h=>h) λid h=>d id (f id h)) (v.mono (λ_ h=>h) λid h=>d id (f id h)))
abbrev ALa(o:T1 G K)(h:au G H m K M vv all Γ)(d9:m<=c)(d0:c<n)
 (Y:∀id,A id->id<K.kb/\id≠K.b) (gc:T.get H c=some (one (SB does line col nm ty ve vt vl))) (he:Kt G H A ve es) (i2:es.length<=10000) (d1:jj (K.x M) Γ es=some es')
 (hk:∀H' P v',oQ K.b c H n H' P->T.get H' c=some (one (SB does line col nm ty v' vt vl))->Kt G H' (Rg n P) v' es'->Dw lfp G (Runs F G) k (.ptr K.kb 0) (.ptr c 0) (.ptr (c+1) 0) H' P):
 AD (AG 6 (.ptr c 0)) λf0=>AD (AM f0 G H) λf5=>Runs F G Ca [f5] H n λf7 H n=>AD (AG 6 (.ptr c 0)) λf8=>A1 1 f8 f7 H n λi3 H n=>AD (AG 6 (.ptr c 0)) λd2=>AD (AM d2 G H) λQ=>AD (lenV Q) λd3=>
  lfp (V×V×V×V×V×V×Heap×Nat) (ER lfp G (Runs F G) k) (.ptr K.kb 0,.ptr c 0,.ptr (c+1) 0,Q,d3,iN 0,H,n):=by
 have i4:=h.kn;have i5:=h.bn o;obtain⟨cs,e1,-,-,-,e5,d4⟩:=he;have f9:=d4.len;rw[AP,AJ];refine AB (AK (off:=0+6) gc (v:=ve) rfl) ?_;refine AXw e1 (λid d=>hN (Y id (e5 id d))) a6 λv' H1 W f1 Z=>?_;have i6:=f1.le;rw[AJ];refine FK (off:=0+6) (m:=1) (v:=v') (f1.get gc d0) Z.ok.1 (by rw[Z.ok.2.1];rfl) a6 (by show 0+6+1<=9;omega) λH2 g2 s2=>?_;rw[Z.ok.2.1]at g2;have f2:oQ K.b c H n H2 W:=(f1.kb (b:=K.b) a6).bc c |>.trans (.box a6 s2);have Y3:Sk H2 11 (λid=>n<=id/\id<W) v' cs:=Z.mono (λ_ h=>h) λid h=>s2 id a6;rw[AJ];have q2:∀{H':Heap},T.get H' c=some (one (SB does line col nm ty v' vt vl))->AM (.ptr c (0+6)) G H'=some v':=λg=>AK (off:=0+6) g rfl;refine AB (q2 g2) ?_;have R:=(Y3.el (G:=G) a6).len;rw[f9]at R;refine AB R ?_;have i7:=pN d1;refine BL (N:=es.length) (J:=λj q=>∃H' P B,q=(.ptr K.kb 0,.ptr c 0,.ptr (c+1) 0,v',iN es.length,iN j,H',P)/\oQ K.b c H n H' P/\W<=P/\T.get H' c=some (one (SB does line col nm ty v' vt vl))/\
  Sk H' 11 (λid=>n<=id/\id<W) v' (B++cs.drop j)/\DV G H' (λid=>n<=id/\id<P/\v'.CD≠some id) B (es'.take j)/\B.length=j) ?_ ?_ ⟨H2,W,[],rfl,f2,ea _,g2,Y3,.nil,rfl⟩
 .rintro I j q d5 ⟨X,C,B,rfl,f3,g0,g3,f,D,E⟩ ih;show Dc lfp G (Runs F G) k I (.ptr K.kb 0) (.ptr c 0) (.ptr (c+1) 0) v' (iN es.length) (iN j) X C;delta Dc;have d6:=DV.mono (H':=X) (λ_ h=>h) (λid d=>f3.same id (hN (Y id d)) (Y id d).2 (hN (Y id d))) d4;have S:=eb d5;have⟨l,hl,L⟩:=d6.at S;have⟨e',g1,d7⟩:=AGF d1 S;generalize es[j]=e at L d7;have⟨p,g7,g8⟩:=(f.el (G:=G) a6).at (i:=j) (c:=l) (by rw[ACp E];exact hl);rw[D9,AJ,ui d5,Ah];refine AB g7 (AB (BZ g8) ?_);refine Ao rfl λH4 f4 g4=>?_;refine BX g4 rfl L.len a6 λH5 g5 s5=>?_;have u:Kp X C H5 (C+1):=⟨f4.le,λid d=>(s5 id a6).trans (f4.same id d)⟩;rw[AP,AJ];refine AB (q2 (u.get g3 a6)) (AB (As (m:=11) g5 a6 L.len) ?_);have g9:oQ K.b c H n H5 (C+1):=f3.trans ((u.kb (b:=K.b) a6).bc c);have h5:=h.kb o (g9.low d9 a6);have d8:C3 G H5 A l e:=L.mono (λ_ h=>h) λid d=>u.same id (hN (Y id d));refine AM1 (M:=M) (Γ:=Γ) o e H5 (C+1) A l e' vv all _ h5 d8 (λid d=>by have:=Y id d;exact⟨a6,this.2⟩) d7 λH6 n6 l' f6 U=>?_;have i8:=f6.le;have g6:T.get H6 c=_:=f6.get (u.get g3 a6) a6 a6;refine AB (q2 g6) (Ba Z.ok.2.2 ?_);have O:Kb K.b X C H6 n6:=(u.kb (b:=K.b) a6).trans f6;have i0:Sk H6 11 (λid=>n<=id/\id<W) v' (B++cs.drop j):=f.mono (λ_ h=>h) λid h=>O.same id a6 a6;have i1:j<(B++cs.drop j).length:=by rw[uk,_Q];omega
  refine i0.put (i:=j) (w:=.agg l') a6 i1 rfl U.len λH7 bj s7=>?_;rw[show At (.agg l')=l' from rfl,set_mid E hl]at bj;rw[CA a6,AJ];have y:∀id,id<n∨W<=id->v'.CD≠some id:=λid h e=>hN (Z.own e);refine ih _ ⟨H7,n6,B++[l'],rfl,?_,a6,(s7 c (y c (.inl d0))).trans g6,bj,?_,by rw[uk,E];rfl⟩
  .exact⟨hN f3.le,λid h1 h2 h3=>(s7 id (y id (.inl h1))).trans ((O.same id (hN f3.le) h2).trans (f3.same id h1 h2 h3)),λhs=>(O.seen (f3.seen hs)).same (s7 _ (y _ (.inl a6)))⟩
  .rw[take_snoc g1];refine(DV.mono (λid d=>⟨d.1,a6,d.2.2⟩) (λid d=>(s7 id d.2.2).trans (O.same id d.2.1 a6)) D).app (.cons (U.mono (λid d=>⟨hN d.1,d.2,y id (.inr (hN d.1))⟩) λid d=>s7 id (y id (.inr (hN d.1)))) .nil)
 .rintro I q ⟨X,C,B,rfl,f3,g0,g3,f,D,E⟩;show Dc lfp G (Runs F G) k I (.ptr K.kb 0) (.ptr c 0) (.ptr (c+1) 0) v' (iN es.length) (iN es.length) X C;delta Dc;rw[D9,AJ,eg (m_ _),AZ];rw[sw a6,qs]at f;rw[_d a6]at D;exact hk X C v' f3 g3 ⟨B,f.el a6,f.ks,f.ok.1,f.ok.2.1,λid d=>by have:=f.own d;exact⟨this.1,a6⟩,DV.mono (λid d=>⟨d.1,d.2.1⟩) (λ_ _=>rfl) D⟩
end
abbrev ii(h:Eo s=true):s.ok:=by intro d;have⟨l,c⟩:=s;have d:l=0:=d;subst d;exfalso;unfold Eo mS upper at h;simp at h
abbrev ABg(h:BD tb t=true):t.nm.ok:=by unfold BD at h;rw[ez]at h;exact ii h.1
variable{th:List Tt}{el:List Tt}{g:Gs}
abbrev AGu{x:Kx}{does:Nat}{es:aAq}{th el:aAt}{r:Tt×Gs}(h:Tq x (.mk does nm ty es th el) g=some r):sY does es=true:=by
 rw[Tq]at h;cases d:decide (does=1)&& !BD x.tb ty with
 |true=>rw[d]at h;cases h
 |false=>
  rw[d]at h;cases f:sY does es with
  |false=>rw[f]at h;cases h
  |true=>rfl
abbrev AYp{x:Kx}{does:Nat}{es:aAq}{th el:aAt}{r:Tt×Gs}(h:Tq x (.mk does nm ty es th el) g=some r):
 (does=1->BD x.tb ty=true)/\∃es' d,jj x g.1 es=some es'/\yb x does nm ty (es'.map Te.of) g=some d/\
  ((does=4∨does=5)/\(th.length<=1000/\el.length<=1000)/\(∃p q,Xr x th d=some p/\Xr x el (d.1,p.2)=some q/\r=(.mk does nm ty es' p.1 q.1,(d.1,q.2)))∨¬(does=4∨does=5)/\r=(.mk does nm ty es' th el,d)):=by
 have m:=AGu h;rw[Tq,m]at h;cases k:decide (does=1)&& !BD x.tb ty with
 |true=>rw[k]at h;cases h
 |false=>
  rw[k]at h;refine⟨λi=>?_,?_⟩
  .rw[ui i]at k;cases u:BD x.tb ty with
   |true=>rfl
   |false=>rw[u]at k;cases k
  .obtain⟨es',v,h⟩:=ee.1 h;have⟨d,w,h⟩:=ee.1 h;refine⟨es',d,v,w,?_⟩;cases i:decide (does=4)||decide (does=5)with
   |true=>
    rw[i]at h;have h:(bif szB th&&szB el then(Xr x th d).bind λp=>(Xr x el (d.1,p.2)).map λq=>(Tt.mk does nm ty es' p.1 q.1,(d.1,q.2))else none)=some r:=h;cases f:szB th&&szB el with
    |false=>rw[f]at h;cases h
    |true=>
     rw[f]at h;rw[ez]at f;have⟨p,y,h⟩:=ee.1 h;have⟨q,A,B⟩:=d_.1 h;refine .inl ⟨by simpa using i,⟨kh f.1,kh f.2⟩,p,q,y,A,B.symm⟩
   |false=>
    rw[i]at h;have h:(bif th.isEmpty&&el.isEmpty then some (Tt.mk does nm ty es' th el,d)else none)=some r:=h;cases f:th.isEmpty&&el.isEmpty with
    |false=>rw[f]at h;cases h
    |true=>
     rw[f]at h;exact .inr ⟨by simpa using i,(e_ h).symm⟩
abbrev ALk{x:Kx}{does:Nat}{es:aAq}{th el:aAt}{r:Tt×Gs}(h:Tq x (.mk does nm ty es th el) g=some r)(k:¬(does=4∨does=5)):th=[]/\el=[]:=by
 have d:=AGu h;rw[Tq,d]at h;cases f:decide (does=1)&& !BD x.tb ty with
 |true=>rw[f]at h;cases h
 |false=>
  rw[f]at h;have⟨es',p,h⟩:=ee.1 h;have⟨m,q,h⟩:=ee.1 h;rw[show(decide (does=4)||decide (does=5))=false by simpa using k]at h;have h:(bif th.isEmpty&&el.isEmpty then some (Tt.mk does nm ty es' th el,m)else none)=some r:=h;cases i:th.isEmpty&&el.isEmpty with
  |false=>rw[i]at h;cases h
  |true=>simpa using i
variable{q:Nat}
section
variable{G:AQ}{H H0:Heap}{n n0:Nat}{K:Kq}{M:Km}{vv:V}{all:Nat}{Γ:List BU}{k:KV}{A:Nat->Prop}{does:Nat}{nm:St}{ty:Ty}{line col:Nat}{ve v' vt vl:V}{es es':List Te}{th el:List Tt}
structure Sb(G:AQ)(H0:Heap)(n0:Nat)(H:Heap)(n:Nat)(K:Kq)(M:Km)(vv:V)(all:Nat)(Γ:List BU)(A:Nat->Prop)(does line col:Nat)(nm:St)(ty:Ty)(v' vt vl:V)(es':List Te)(th el:List Tt):Prop where
 ka:au G H0 n0 K M vv all Γ
 hA:∀id,A id->id<K.kb/\id≠K.b
 f:oQ K.b n0 H0 n0 H n
 le:n0+2<=n
 g:T.get H n0=some (one (SB does line col nm ty v' vt vl))
 g2:T.get H (n0+1)=some (one il)
 es:Kt G H (Rg (n0+2) n) v' es'
 th:UH G H0 A vt th
 el:UH G H0 A vl el
abbrev Sb.kb(o:T1 G K)(h:Sb G H0 n0 H n K M vv all Γ A does line col nm ty v' vt vl es' th el)(f:Kb K.b H n H' n'):Sb G H0 n0 H' n' K M vv all Γ A does line col nm ty v' vt vl es' th el:=by have m:=h.ka.bn o;have:=h.le;have k:∀i,Rg (n0+2) n i->i<n/\i≠K.b:=λi d=>tw d.1 d.2;exact⟨h.ka,h.hA,h.f.trans (f.bc n0),hN f.le,f.get h.g a6 a6,f.get h.g2 a6 a6,h.es.mono (λi d=>⟨d.1,b_ d.2 f.le⟩) λi d=>f.same i (k i d).1 (k i d).2,h.th,h.el⟩
abbrev Sb.kp(o:T1 G K)(h:Sb G H0 n0 H n K M vv all Γ A does line col nm ty v' vt vl es' th el)(f:Kp H n H' n'):Sb G H0 n0 H' n' K M vv all Γ A does line col nm ty v' vt vl es' th el:=by have d:=h.ka.bn o;have:=h.le;exact h.kb o (f.kb a6)
abbrev Sb.kk(o:T1 G K)(h:Sb G H0 n0 H n K M vv all Γ A does line col nm ty v' vt vl es' th el):au G H n K M vv all Γ:=
 h.ka.kb o (h.f.low o_ o_)
abbrev au.box(o:T1 G K)(h:au G H n K M vv all Γ)(f:∀id,id≠q->T.get H' id=T.get H id)(k:K.kb<q)(i:vv.CD≠some q):au G H' n K M vv all Γ:=by have:=o.n0;have:=o.ba;exact⟨(f _ a6).trans h.g,h.tab.kb ⟨ea _,λid m _=>f id a6,λx=>x.same (f _ a6)⟩,h.kn,h.sk.JO (λid d=>h.sk.own d) λid d=>f id λe=>i (e▸d),h.la,h.al,h.ok,h.ret⟩
theorem Sb.done{H':Heap}{n':Nat}{m:V}{g':Gs}(o:T1 G K)(h:Sb G H0 n0 H n K M vv all Γ A does line col nm ty v' vt vl es' th el)(f:Ks K vv H n H' n')(v:au G H' n' K M m g'.2 g'.1)(D:Sd n vv m)
 (J:AD0 G K M A H0 n0 vv g' (.mk does nm ty es' th el) k):BH lfp G (Runs F G) k (.ptr n0 0) (.ptr (n0+1) 0) H' n':=by
 have L:=h.ka.kn
 have N:=h.ka.bn o
 have O:=h.le
 have E:=f.le
 have P:=o.n0
 have Q:=o.ba
 have w:∀id,vv.CD=some id->K.kb<id/\id<n0:=λid d=>h.ka.sk.own d
 have p:∀id,m.CD=some id->id<n0∨n<=id:=λid d=>by
  rcases D with s|s
  ·exact .inl (w id (s.symm.trans d)).2
  ·exact .inr (s id d)
 have i:∀id,id<n->id≠K.b->id≠K.kb->(id<n0->vv.CD≠some id)->T.get H' id=T.get H id:=λid u q x y=>f.same id u q x λe=>by have:=w id e;exact y this.2 e
 have I:∀id,A id->T.get H' id=T.get H0 id:=λid d=>by
  have:=h.hA id d
  exact(i id a6 this.2 a6 λ_ e=>by have:=w id e;omega).trans (h.f.same id a6 this.2 a6)
 refine ANa (R:=λid=>A id∨Rv (n0+2) n' m id) ((i n0 a6 a6 a6 a6).trans h.g) ((i (n0+1) a6 a6 a6 a6).trans h.g2)
  (h.es.mono (λid d=>.inr ⟨d.1,by have:=d.2;omega,λe=>by have:=p id e;have:=d.1;have:=d.2;omega⟩) λid d=>by have u:=d.1;have q:=d.2;exact i id a6 a6 a6 a6)
  (h.th.mono (λ_ d=>.inl d) I) (h.el.mono (λ_ d=>.inl d) I) (λid d=>?_) λB l C S=>?_
 ·rcases d with d|d
  ·have:=h.hA id d;omega
  ·have:=d.1;omega
 ·refine J B n' l m ⟨a6,λid u q x y=>(C id a6).trans ((i id a6 q x λ_=>y).trans (h.f.same id u q a6)),λU=>(f.seen (h.f.seen U)).same (C _ a6)⟩ (v.box o C a6 λe=>by have:=p _ e;omega) ?_ (S.mono (λid d=>?_) λ_ _=>rfl)
  ·rcases D with s|s
   ·exact .inl s
   ·exact .inr λid d=>by have:=s id d;omega
  ·rcases d with d|d
   ·exact .inl d
   ·exact .inr ⟨by have:=d.1;omega,d.2⟩
abbrev Sb.AIK(o:T1 G K)(h:Sb G H0 n0 H n K M vv all Γ A does line col nm ty v' vt vl es' th el)(f:Kb K.b H n H' n')(d:AD0 G K M A H0 n0 vv (Γ,all) (.mk does nm ty es' th el) k):BH lfp G (Runs F G) k (.ptr n0 0) (.ptr (n0+1) 0) H' n':=
 h.done o (f.ks vv) (h.kk o |>.kb o f) (Sd.refl ..) d
structure Qb(H:Heap)(q:Nat)(t:Ty)(pl pc:Nat):Prop where
 of:∀{G:AQ},AX 2 (.ptr q (0+8)) G H=some t.v
 ps:∀{G:AQ},AX 2 (.ptr q (0+1)) G H=some (cT pl pc)
abbrev AVv{e:Te}{B:Nat->Prop}(d:C3 G H0 B l e):∃f i,∀{H:Heap},T.get H q=some (one l)->Qb H q e.of f i:=by
 cases d with
 |mk kind num nm ty of own line col k p u v=>
 exact⟨line,col,λg=>⟨BV (off:=0+8) (m:=2) g a6 (by show 0+8+2<=11;omega),BV (off:=0+1) (m:=2) g a6 (by show 0+1+2<=11;omega)⟩⟩
abbrev ABU{x y:Ty}{k:Nat}(o:T1 G K)(h:au G H n K M vv all Γ)(w:x.nm.ok)(A:y.nm.ok)(B:fitsT K.tb x y=true)(C:∀d f,Kb K.b H n d f->AX 2 u G d=some (cT i k))
 (D:∀d f,Kb K.b H n d f->P (.bool true) d f):
 Runs F G GE [.ptr K.t 0,x.v,y.v] H n λm H n=>AD (AX 2 u G H) λv=>B7 (Ak v (cT i k)) <| Runs F G A4 [.ptr K.kb 0,m,iN 24,cT i k] H n P:=by refine AHs (x:=x) (y:=y) h.tab (tw h.kn o.n0) o.tl w A λE I p=>?_;rw[B];have q:=h.kb o p;refine AB (C E I p) (Ba (UC ..) ?_);refine L2 (K:=K) q.g q.kn λJ L=>?_;exact D J _ (p.trans (L.kb (q.bn o)))
end
end Go.RL
