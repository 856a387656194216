/- Part of a proof; nothing is assumed. -/
import Derived.Test.YtlhlldpfafhpbaaGreatDoorConD
set_option linter.unusedVariables false
set_option linter.unusedSimpArgs false
noncomputable section
namespace Go.RL
open Go.BN
set_option maxRecDepth 100000
def Mg.st(s:Mg)(a nm:Nat)(vv:V):Mg:={s with at':=a,names:=nm,vv:=vv}
structure Fv(gp:Nat)(v:V)(H:Heap)(n:Nat)(H':Heap)(n':Nat):Prop where
 le:n<=n'
 same:∀id,id<n->id≠gp->v.CD≠some id->T.get H' id=T.get H id
def Sd(n:Nat)(v v':V):Prop:=v'.CD=v.CD∨∀id,v'.CD=some id->n<=id
abbrev Sd.refl(n:Nat)(v:V):Sd n v v:=.inl rfl
variable{n:Nat}{n':Nat}{v:V}{v':V}
abbrev Sd.trans{g:V}(h:Sd n v v')(f:Sd n' v' g)(k:n<=n'):Sd n v g:=by
 rcases f with f|f
 .rcases h with h|h
  .exact .inl (f.trans h)
  .exact .inr λi d=>h i (f.symm.trans d)
 .exact .inr λi d=>w_ k (f i d)
variable{gp:Nat}{H:Heap}{H':Heap}
abbrev Fv.trans{d:Heap}{f:Nat}(x:Fv gp v H n H' n')(y:Fv gp v' H' n' d f)(h:Sd n v v'):Fv gp v H n d f:=
 ⟨w_ x.le y.le,λi g k m=>(y.same i (b_ g x.le) k (by
  rcases h with h|h
  .rw[h];exact m
  .intro e;have:=h i e;omega)).trans (x.same i g k m)⟩
abbrev Fg.fv(v:V)(x:Fg gp H n H' n'):Fv gp v H n H' n':=⟨x.le,λd h f _=>x.same d h f⟩
variable{id:Nat}
abbrev Fv.get{b:LF}(x:Fv gp v H n H' n')(h:T.get H id=some b)(d:id<n)(f:id≠gp)(g:v.CD≠some id):T.get H' id=some b:=(x.same id d f g).trans h
structure Lw(H:Heap)(n gp:Nat)(v:V)(Γ:List BU):Prop where
 sk:Sk H 3 (λid=>id<n/\id≠gp) v (Γ.map RR)
 lt:Γ.length<=1000
variable{G:AQ}{Γ:List BU}
abbrev Lw.lv{Γ:aAm}(h:Lw H n gp v Γ):AKN G H n gp v Γ:=⟨h.sk.el a6,λ_ d=>h.sk.own d,h.lt⟩
abbrev Lw.fg{Γ:aAm}(h:Lw H n gp v Γ)(f:Fg gp H n H' n'):Lw H' n' gp v Γ:=
 ⟨h.sk.mono (λ_ d=>⟨b_ d.1 f.le,d.2⟩) λg d=>f.same g d.1 d.2,h.lt⟩
abbrev Lw.kp{Γ:aAm}(h:Lw H n gp v Γ)(f:Kp H n H' n'):Lw H' n' gp v Γ:=h.fg (.kp f)
structure Ms(G:AQ)(H:Heap)(n gp:Nat)(s:Mg)(Γ:List BU):Prop where
 m:PA G H gp s
 g:gp<n
 w:Lw H n gp s.vv Γ
 gam:Gam Γ s.names
 inn:s.inn=(0,0)∨s.inn=nA∨s.inn=nB
variable{s:Mg}
abbrev Ms.mk'{Γ:aAm}(h:Ms G H n gp s Γ):Mk G H n gp s Γ:=⟨h.m,h.g,h.w.lv,h.gam,h.inn⟩
variable{a:Nat}
abbrev Ms.fg{Γ:aAm}(h:Ms G H n gp s Γ)(f:Fg gp H n H' n')(m:PA G H' gp (s.to a)):Ms G H' n' gp (s.to a) Γ:=
 ⟨m,b_ h.g f.le,h.w.fg f,h.gam,h.inn⟩
abbrev Ms.kp{Γ:aAm}(h:Ms G H n gp s Γ)(f:Kp H n H' n'):Ms G H' n' gp s Γ:=
 ⟨⟨f.get h.m.g h.g,h.m.pk⟩,b_ h.g f.le,h.w.kp f,h.gam,h.inn⟩
def Rv(a b:Nat)(v:V):Nat->Prop:=λid=>a<=id/\id<b/\v.CD≠some id
def dD(G:AQ)(H:Heap)(n gp:Nat)(s:Mg)(Γ:aAm)(ret:Ty)(c kk:Nat)(k:KV):Prop:=
 ∀H' n' a nm vv ex l st,ex.length<=1->Fv gp s.vv H n H' n'->PA G H' gp (s.st a nm vv)->a<=s.at'+c->s.names<=nm->nm<=s.names+kk->Lw H' n' gp vv (Γ++ex)->Gam (Γ++ex) nm->Sd n s.vv vv->Vy G H' (Rv n n' vv) l st->pP s.inn ret Γ (Γ++ex) kk st->50*st.cz<=2200*kk+c->k (.agg l) H' n'
def AR1(G:AQ)(H:Heap)(A:Nat->Prop)(v:V)(sts:aAt):Prop:=∃cs,Sk H 9 A v cs/\FQ G H (λid=>A id/\v.CD≠some id) cs sts
variable{A:Nat->Prop}{LS:Bh}
abbrev Sk.ks{z:Nat}(h:Sk H z A v LS):KS v:=by
 cases h with
 |nil=>exact ACX
 |emp=>exact AA5 o_
 |Hf=>exact ATa ..
abbrev AR1.ss{d:aAt}(h:AR1 G H A v d):UH G H A v d:=by have⟨i,f,k⟩:=h;exact⟨i,f.el a6,f.ks,f.ok.1,f.ok.2.1,λ_ g=>f.own g,FQ.mono (λ_ h=>h.1) (λ_ _=>rfl) k⟩
abbrev GdQ.le{inn:St}{ret:Ty}{Γ d:aAm}{l:aAt}{k k':Nat}(h:GdQ inn ret Γ d k l)(q:k<=k'):GdQ inn ret Γ d k' l:=λx f g n u=>by have⟨i,m,p,v⟩:=h x f g n a6;exact⟨i,m,p,a6⟩
def AQ3(G:AQ)(H:Heap)(n gp:Nat)(s:Mg)(Γ:aAm)(ret:Ty)(c kk:Nat)(k:KV):Prop:=
 ∀H' n' a nm vv v sts ex,sts.length<=4->Fv gp s.vv H n H' n'->PA G H' gp (s.st a nm vv)->a<=s.at'+c->s.names<=nm->nm<=s.names+kk->Lw H' n' gp vv Γ->Gam Γ nm->Sd n s.vv vv->AR1 G H' (Rv n n' vv) v sts->GdQ s.inn ret Γ (Γ++ex) kk sts->50*F2 sts<=2200*kk+c->k v H' n'
def ek:Nat->Nat
 |0=>1
 |d+1=>4*ek d
def cS:Nat->Nat
 |0=>1500
 |d+1=>1500+4*cS d
def ANq(G:AQ)(gp d:Nat):Prop:=∀(ret:Ty) (H:Heap) (n:Nat) (s:Mg) (Γ:aAm) (k:KV),GW ret->Ms G H n gp s Γ->s.at'+cS d<100000000000->s.names+ek d<600->Γ.length+ek d<=1000->dD G H n gp s Γ ret (cS d) (ek d) k->
 Runs F G Q6 [.ptr gp 0,iN d,ret.v] H n k
def AAv(G:AQ)(gp d:Nat):Prop:=∀(m:Nat) (ret:Ty) (H:Heap) (n:Nat) (s:Mg) (Γ:aAm) (k:KV),m<=4->GW ret->Ms G H n gp s Γ->s.at'+m*cS d<100000000000->s.names+m*ek d<600->Γ.length+m*ek d<=1000->AQ3 G H n gp s Γ ret (m*cS d) (m*ek d) k->
 Runs F G B5 [.ptr gp 0,iN m,iN d,ret.v] H n k
structure Bs(H:Heap)(n b gp:Nat)(t:Ty):Prop where
 b1:T.get H b=some (one t.cells)
 b2:T.get H (b+1)=some (one ttZ)
 le:b+2<=n
 g:gp<b
variable{b:Nat}{t:Ty}
abbrev Bs.fg(h:Bs H n b gp t)(f:Fg gp H n H' n'):Bs H' n' b gp t:=by have:=h.le;have:=h.g;exact⟨f.get h.b1 a6 a6,f.get h.b2 a6 a6,w_ h.le f.le,h.g⟩
abbrev Bs.kp(h:Bs H n b gp t)(f:Kp H n H' n'):Bs H' n' b gp t:=h.fg (.kp f)
abbrev dA:∀d,1<=ek d
 |0=>ea _
 |d+1=>by have:=dA d;show 1<=4*ek d;omega
abbrev AMc:∀d,1500<=cS d
 |0=>ea _
 |d+1=>by show 1500<=1500+4*cS d;omega
variable{c:Nat}{kk:Nat}{vv:V}{i:Nat}{m:Nat}
section
variable{G:AQ}{H H0:Heap}{n gp b:Nat}{s:Mg}{Γ:List BU}{k:KV}{t:Ty}
abbrev ADj{ex:aAm}{nm:Nat}{l:LV}{st:Tt}(u:ex.length<=1)(C:dD G H0 b gp s Γ t c kk k)(B:Bs H n b gp t)(f:Fv gp s.vv H0 b H n)(m:PA G H gp (s.st a nm vv))(D:a<=s.at'+c)(E:s.names<=nm)(F:nm<=s.names+kk)
 (v:Lw H n gp vv (Γ++ex)) (p:Gam (Γ++ex) nm) (w:Sd b s.vv vv) (x:∀i,vv.CD=some i->i≠b+1) (y:Vy G H (Rv (b+2) n vv) l st) (I:pP s.inn t Γ (Γ++ex) kk st) (J:50*st.cz<=2200*kk+c:=by first|omega|(simp[Tt.cz,F2,czD,OG,Te.cz,pZ]<;>omega)):
 A1 9 (.ptr (b+1) 0) (.agg l) H n λ_ H n=>CR (Ay [.cn (.ptr (b+1) 0) 9] G H) λl=>k (Bb l) H n:=by
 have:=B.g;refine BX B.b2 rfl y.len a6 λK L q=>?_;rw[By (m:=9) L a6 y.len];simp only[go_sem];refine C K n a nm vv ex l st u ⟨f.le,λi d A x=>(q i a6).trans (f.same i d A x)⟩ ⟨(q gp a6).trans m.g,m.pk⟩ D E F ⟨v.sk.JO (λi d=>v.sk.own d) λi d=>q i (x i d),v.lt⟩ p w
  (y.mono (λi d=>⟨by have:=d.1;omega,d.2⟩) λi d=>q i (by have:=d.1;omega)) I J
abbrev ub{es:aAq}(C:dD G H0 b gp s Γ t c kk k)(u:Ms G H0 b gp s Γ)(x:Bs H n b gp t)(f:Fg gp H0 b H n)(A:PA G H gp (s.to a))(D:a<=s.at'+c)
 (y:Kt G H (Rg (b+2) n) (.sl id 0 m m 11) es) (E:pP s.inn t Γ Γ 0 (.mk i (0,0) IY es [] [])) (M:50*(OG es+czD i)<=2200*kk+c:=by first|omega|(simp[Tt.cz,F2,czD,OG,Te.cz,pZ]<;>omega)):
 Bl (.fn Aw [] []) [iN i,.sl id 0 m m 11] (Runs F G) H n λv H n=>A1 9 (.ptr (b+1) 0) v H n λ_ H n=>CR (Ay [.cn (.ptr (b+1) 0) 9] G H) λl=>k (Bb l) H n:=by
 show Runs F G Aw [iN i,.sl id 0 m m 11] H n _;have I:=x.g;have J:=x.le;refine ACO λN O p=>?_;have K:=p.le;have B:=f.trans (.kp (gp:=gp) p);have L:=u.w.fg B;have q:∀id,s.vv.CD=some id->id<b:=λid d=>(u.w.sk.own d).1;refine ADj (ex:=[]) (nm:=s.names) (vv:=s.vv) (st:=.mk i (0,0) IY es [] []) (j_ _) C (x.kp p) (B.fv _) ⟨p.get A.g a6,A.pk⟩ D o_ (Nat.le_add_right _ _) (by rw[qs];exact L) (by rw[qs];exact u.gam) (.inl rfl) (λid d=>by have:=q id d;omega) (Vy.of ?_ .nil .nil) ?_ (by simp only[Tt.cz,F2];omega)
 .refine y.mono (λid d=>⟨d.1,by have:=d.2;omega,λe=>?_⟩) λid d=>p.same id d.2;have:=q id e;have:=d.1;omega
 .rw[qs];exact E.le (j_ _)
abbrev xX(D:dD G H0 b gp s Γ t c kk k)(y:Ms G H0 b gp s Γ)(p:Bs H n b gp t)(f:Fg gp H0 b H n)(E:PA G H gp (s.to a))(P:a+400<=s.at'+c)(Q:s.at'+c<100000000000)(I:1500<=c)(J:1<=kk):
 B8 lfp G (Runs F G) k (.ptr gp 0) (.ptr (b+1) 0) (.fn Aw [] []) H n:=by delta B8;have K:=p.le;refine Hg λL M m=>?_;have N:=m.le;have q:=(y.mk'.fg f E).kp m;refine Jg 3 a6 BY L M (s.to a) Γ _ (.inl rfl) q (by show a+400+2<_;omega) λR S A l e u B d O v C=>?_;have w:=u.le;have d:A<=a+400:=d;have C:11*_<=804:=C;refine RD O w λT f3 x=>?_;exact ub D y ((p.kp m).fg u |>.kp f3) (((f.trans (.kp m)).trans u).trans (.kp f3)) ⟨f3.get B.g (by have:=p.g;omega),B.pk⟩ (a:=A) a6 (x.mono (λU i=>⟨by have:=i.1;omega,i.2⟩) λ_ _=>rfl) (pP.prt v.int)
end
abbrev AWl:∀a,a<26->AOu .u8 (iN a)=some (.int .u8 (.ofNat a) 0):=λa h=>
 match a,h with
 |0,_=>rfl|1,_=>rfl|2,_=>rfl|3,_=>rfl|4,_=>rfl|5,_=>rfl|6,_=>rfl|7,_=>rfl
 |8,_=>rfl|9,_=>rfl|10,_=>rfl|11,_=>rfl|12,_=>rfl|13,_=>rfl|14,_=>rfl|15,_=>rfl
 |16,_=>rfl|17,_=>rfl|18,_=>rfl|19,_=>rfl|20,_=>rfl|21,_=>rfl|22,_=>rfl|23,_=>rfl
 |24,_=>rfl|25,_=>rfl
 |n+26,h=>absurd h a6
abbrev AKr:∀a,a<26->B2.ev .add (.int .u8 (.ofNat 97) 0) (.int .u8 (.ofNat a) 0)=some (.int .u8 (.ofNat (97+a)) 0):=λa h=>
 match a,h with
 |0,_=>rfl|1,_=>rfl|2,_=>rfl|3,_=>rfl|4,_=>rfl|5,_=>rfl|6,_=>rfl|7,_=>rfl
 |8,_=>rfl|9,_=>rfl|10,_=>rfl|11,_=>rfl|12,_=>rfl|13,_=>rfl|14,_=>rfl|15,_=>rfl
 |16,_=>rfl|17,_=>rfl|18,_=>rfl|19,_=>rfl|20,_=>rfl|21,_=>rfl|22,_=>rfl|23,_=>rfl
 |24,_=>rfl|25,_=>rfl
 |n+26,h=>absurd h a6
abbrev AYD(u:Nat)(d:0<m):B2.ev .rem (iN u) (iN m)=some (iN (u%m)):=AJC (u:Int) d
abbrev AOr{x:Nat}(h:x<256):Go.BN.byteOf (.int .u8 (.ofNat x) 0)=some x:=by show Bool.rec (motive:=λ_=>aAG) none (some x) (band true (band (Nat.blt x 256) true))=_;rw[show Nat.blt x 256=true by rw[xi];exact h];rfl
def AAs:aAw->Nat
 |[]=>0
 |x::l=>x+256*AAs l
abbrev AIU:∀xs:aAw,(∀x∈xs,x<256)->mP (xs.map λx=>[V.int .u8 (.ofNat x) 0])=some (AAs xs)
 |[],_=>rfl
 |x::xs,h=>by show BB (Go.BN.byteOf (.int .u8 (.ofNat x) 0)) (λm=>BB (mP (xs.map λx=>[V.int .u8 (.ofNat x) 0])) λc=>some (m+256*c))=_;rw[AOr (h x (u_ ..)),Kl,AIU xs λy d=>h y (c_ _ d)];rfl
abbrev AQ4{xs:aAw}(h:El G H (.sl id 0 m m 1) 1 (xs.map λx=>[V.int .u8 (.ofNat x) 0]))(d:∀x∈xs,x<256):AUK (.sl id 0 m m 1) G H=some (.str xs.length (AAs xs)):=by show BB (elems (.sl id 0 m m 1) G H 1) (λl=>BB (mP l) λc=>f3 (len l) c 0 λn c _=>.str n c)=_;rw[h.2,Kl,AIU xs d,Kl];show CC (len _) (λa=>CC (AAs xs) λb=>CC 0 λ_=>some (.str a b))=_;rw[BF,BF,BF,len_eq,uc]
abbrev ATW(c:Nat):B2.ev .add (.str 1 118) (.str 2 c)=some (.str 3 (118+256*c)):=by show Az true (CC 3 λn=>CC (118+256^1*c) λe=>some (.str n e))=_;rw[BF,BF];rfl
abbrev ASI(c:Nat):B2.ev .add (.str 1 112) (.str 1 c)=some (.str 2 (112+256*c)):=by show Az true (CC 2 λn=>CC (112+256^1*c) λe=>some (.str n e))=_;rw[BF,BF];rfl
abbrev ATV(k:Nat):V.str 3 (118+256*AAs [97+k/26%26,97+k%26])=(nmV k).v:=by show V.str 3 (118+256*(97+k/26%26+256*(97+k%26+256*0)))=V.str 3 (118+256*(97+k/26%26)+65536*(97+k%26));congr 1;omega
variable{d:Nat}
section
variable{G:AQ}{H H0:Heap}{n gp b:Nat}{s:Mg}{Γ:List BU}{k:KV}{t:Ty}
abbrev ART{g0:V}(hp:dD G H0 b gp s Γ t c kk k)(L:Ms G H0 b gp s Γ)(hb:Bs H n b gp t)(f:Fg gp H0 b H n)(m1:PA G H gp (s.to a))(ha:a+200<=s.at'+c)(hs:s.at'+c<100000000000)(k6:1500<=c)(g1:1<=kk)(k7:s.names+1<600)(hl:Γ.length+1<=1000):
 Co lfp G (Runs F G) k (.ptr gp 0) (iN d) (.ptr b 0) (.ptr (b+1) 0) (.fn Aw [] []) g0 (.bool true) H n:=by
 delta Co;rw[Ah];have k8:=hb.le;have g5:=hb.g;have d0:=L.mk'.fg f m1;have i0:∀p,s.vv.CD=some p->p<b:=λp i=>(L.w.sk.own i).1;refine AVa d0 (by show a<_;omega) λH1 D a1 I M d1 f1 m1=>?_;have d1:a1<=a+1:=d1;have k9:=f1.le;refine Ao rfl λH2 f2 g2=>?_;refine BX g2 rfl rfl a6 λH3 g3 s3=>?_;have d2:Kp H1 D H3 (D+1):=⟨f2.le,λp i=>(s3 p a6).trans (f2.same p i)⟩;have N:=f1.trans (.kp (gp:=gp) d2);have i1:=d0.fg (a:=a1) N ⟨d2.get m1.g a6,m1.pk⟩;refine AB (As (m:=2) g3 a6 rfl) ?_;refine Jg 2 a6 I H3 (D+1) (s.to a1) Γ _ M i1 (by show a1+130+2<_;omega) λH4 n4 a2 l e f4 m4 d3 he i2 hz=>?_;have d3:a2<=a1+130:=d3;have hz:11*_<=264:=hz;have i3:=f4.le;have g4:=f4.get g3 a6 a6;refine RD he i3 λH5 f5 i4=>?_;show Runs F G Aw [iN 1,.sl n4 0 1 1 11] H5 (n4+1) _;refine ACO λH6 y f6=>?_;have m0:=f6.le;have d4:=f5.trans f6;have g6:=d4.get g4 a6;refine Ao rfl λH7 f7 g7=>?_;refine BX g7 rfl rfl a6 λE g8 s8=>?_;have O:Kp H6 y E (y+1):=⟨f7.le,λp i=>(s8 p a6).trans (f7.same p i)⟩;have P:=d4.trans O;have d5:Fg gp H0 b E (y+1):=((f.trans N).trans f4).trans (.kp P);have q8:=O.get g6 a6;have d6:Bs E (y+1) b gp t:=((hb.fg N).fg f4).kp P;have i5:Kt G E (Rg (b+2) y) (.sl n4 0 1 1 11) [e]:=i4.mono (λp i=>⟨by have:=i.1;omega,by have:=i.2;omega⟩) λp i=>(f6.trans O).same p i.2;have m8:T.get E gp=some (one (s.to a2).cells):=P.get m4.g a6;have q1:AM (.ptr gp 3) G E=some (iN s.names):=AK m8 rfl;simp only[go_sem,BG,Nat.reduceAdd,q1,CA (show s.names+1<9223372036854775808 by omega)];refine FK (off:=3) (m:=1) m8 rfl rfl a6 (by show 3+1<=5;omega) λH9 g9 s9=>?_;have m9:T.get H9 gp=some (one ({s.to a2 with names:=s.names+1}:Mg).cells):=g9;have q2:AM (.ptr gp 3) G H9=some (iN (s.names+1)):=AK m9 rfl;generalize hk1:s.names+1=kn at*;simp only[go_sem,BG,Nat.reduceAdd,q2,AU0 kn (show 0<26 by omega) a6,AYD _ (show 0<26 by omega),AWl _ (W0 _ (show 0<26 by omega)),AKr _ (W0 _ (show 0<26 by omega))];refine L6 (G:=G) (vs:=[.int .u8 (.ofNat (97+kn/26%26)) 0,.int .u8 (.ofNat (97+kn%26)) 0]) rfl a6 (λv hv=>by simp at hv;rcases hv with rfl|rfl<;>exact⟨rfl,rfl⟩) λQ d7 _ i6=>?_;have m2:97+kn/26%26<256:=a6;have m3:97+kn%26<256:=a6;refine AB (AQ4 (xs:=[97+kn/26%26,97+kn%26]) i6 (λx hx=>by simp at hx;rcases hx with rfl|rfl<;>assumption)) ?_;refine AB (ATW _) ?_;rw[ATV];have ut:∀p,p<y+1->p≠gp->T.get Q p=T.get E p:=λp i R=>(d7.same p i).trans (s9 p R);have i7:T.get Q y=_:=(ut y a6 a6).trans g8;have q10:T.get Q D=_:=(ut D a6 a6).trans q8;have i8:=d7.get m9 a6;refine FK (off:=3) (m:=1) (v:=(nmV kn).v) i7 rfl rfl a6 (by show 3+1<=9;omega) λi9 k0 S=>?_;have q11:T.get i9 D=_:=(S D a6).trans q10;refine AB (As (m:=2) q11 a6 rfl) ?_;refine FK (off:=4) (m:=2) (v:=.agg I.cells) k0 rfl rfl a6 (by show 4+2<=9;omega) λA d8 U=>?_;have q12:T.get A D=_:=(U D a6).trans q11;have d9:T.get A gp=_:=(U gp a6).trans ((S gp a6).trans i8);have q3:AM (.ptr gp 2) G A=some s.vv:=AK d9 rfl;have q4:AM (.ptr y 3) G A=some (nmV kn).v:=AK d8 rfl;have q5:AX 2 (.ptr D 0) G A=some (.agg I.cells):=As q12 a6 rfl;simp only[go_sem,BG,Nat.reduceAdd,q3,q4,q5];rw[show BT [.str 0 0,.str 0 0,.bool false] [(0,1,.c (nmV kn).v),(1,2,.c (.agg I.cells))]=some (.agg (RR ⟨nmV kn,I⟩))from rfl,AJ];have J:∀p,p<y->p≠gp->T.get A p=T.get E p:=λp i R=>(U p a6).trans ((S p a6).trans (ut p a6 R));have m5:Fg gp E y A (y+1+1):=⟨a6,J⟩;have f0:Lw A (y+1+1) gp s.vv Γ:=⟨L.w.sk.mono (λp i=>⟨a6,i.2⟩) λp i=>(J p a6 i.2).trans (d5.same p i.1 i.2),L.w.lt⟩;refine f0.sk.app (bs:=40) (c:=.agg (RR ⟨nmV kn,I⟩)) (m:=0) (λp i=>(f0.sk.own i).1) a6 rfl rfl (by rw[uc];omega) λv' W f3 B C=>?_;rw[show s.vv=s.vv from rfl]at B;have X:∀p,p<y+1+1->b<=p∨p=gp->T.get W p=T.get A p:=λp i k1=>B p i λe=>by
  rcases k1 with h|h
  .have:=i0 p e;omega
  .exact(L.w.sk.own e).2 h
 have k2:T.get W gp=_:=(X gp a6 (.inr rfl)).trans d9;have k3:T.get W y=_:=(X y a6 (.inl a6)).trans d8;have q:=f3 (λp=>p<y+1+1+2/\p≠gp) ⟨a6,a6⟩;refine FK (off:=2) (m:=1) (v:=v') k2 q.ok.1 (by rw[q.ok.2.1];rfl) a6 (by show 2+1<=5;omega) λY f8 K=>?_;rw[q.ok.2.1]at f8;have k4:T.get Y y=_:=(K y a6).trans k3;refine AB (As (m:=9) k4 a6 rfl) ?_;have Z:∀p,b<=p->p<y->T.get Y p=T.get E p:=λp h1 h2=>(K p a6).trans ((X p a6 (.inl h1)).trans (J p h2 a6));have k5:Bs Y (y+1+1+2) b gp t:=⟨(Z b a6 a6).trans d6.b1,(Z (b+1) a6 a6).trans d6.b2,a6,g5⟩;refine ADj (ex:=[⟨nmV kn,I⟩]) (vv:=v') (a:=a2) (nm:=kn) (l:=ttC 1 0 0 (nmV kn) I (.sl n4 0 1 1 11) .AT .AT) (st:=.mk 1 (nmV kn) I [e] [] []) o_ hp k5 ?_ ⟨f8,m1.pk⟩ a6 a6 a6 ⟨?_,by rw[uk];exact hl⟩ ?_ (.inr λp i=>?_) ?_ (Vy.of ?_ .nil .nil) ?_
 .refine⟨a6,λp h1 h2 h3=>?_⟩;exact(K p h2).trans ((B p a6 h3).trans ((J p a6 h2).trans (d5.same p h1 h2)))
 .rw[wm];exact q.JO (λp i=>q.own i) λp i=>K p (q.own i).2
 .rw[<-hk1];exact L.gam.add a6 M
 .rw[C]at i;cases i;omega
 .intro p i;rw[C]at i;cases i;omega
 .refine i5.mono (λp i=>⟨i.1,by have:=i.2;omega,λe=>?_⟩) λp i=>Z p (by have:=i.1;omega) i.2;rw[C]at e;cases e;have:=i.2;omega
 .obtain⟨u,r,hu,_⟩:=i2.ex;have f9:=L.gam.fresh (by omega:s.names+1<676);rw[hk1]at f9;exact(pP.lt M hu r (zo f9)).le g1
end
abbrev Rv.fv{g:Nat}(f:Sd b v v')(i:g<=a)(k:b<=n'):∀id,Rv a b v id->Rv g n' v' id:=λid d=>⟨w_ i d.1,b_ d.2.1 k,λe=>by
 rcases f with f|f
 .exact d.2.2 (f.symm.trans e)
 .have:=f id e;have:=d.2.1;omega⟩
abbrev UH.fv{w:V}{g:aAt}(h:UH G H (Rv a b v) w g)(f:Fv gp v H b H' n')(q:gp<a)(k:Sd b v v')(m:i<=a):UH G H' (Rv i n' v') w g:=
 h.mono (Rv.fv k m f.le) λp d=>f.same p d.2.1 (by have:=d.1;omega) d.2.2
abbrev KS.ok{d:aAt}(h:UH G H A v d):Rb v=true/\At v=[v]:=by have⟨i,_,_,f,g,_⟩:=h;exact⟨f,g⟩
section
variable{G:AQ}{H:Heap}{n gp b:Nat}{s:Mg}{Γ:List BU}{k:KV}{t:Ty}
abbrev ALf(E:AAv G gp d)(I:d<1000)(J:GW t)(q:Bs H n b gp t)(h:Ms G H n gp s Γ)(hs:s.at'+1+2*cS d<100000000000)(K:s.names+2*ek d<600)(hl:Γ.length+2*ek d<=1000)
 (L:AQ3 G H n gp s Γ t (1+2*cS d) (2*ek d) k):
 AD (B2.ev .sub (iN (d+1)) (iN 1)) λi=>AD (AX 2 (.ptr b 0) G H) λf=>Runs F G AU [.ptr gp 0,iN 3] H n λp H n=>AD (AX 2 (.ptr b 0) G H) λv=>B7 (Ak v f) <|
  Runs F G B5 [.ptr gp 0,p,i,f] H n k:=by have M:=q.le;have N:=q.g;rw[zQ d I,AJ];refine AB (Be q.b1) ?_;refine EY h.m a6 a6 a6 λB r u hr O P Q=>?_;have w:Fg gp H n B n:=⟨ea _,λR _ x=>Q R x⟩;refine AB (Be ((q.fg w).b1)) (Ba (FH t) ?_);have e1:r*cS d<=2*cS d:=hN _ a6;have S:r*ek d<=2*ek d:=hN _ a6;refine E r t B n (s.to u) Γ _ a6 J (h.fg w P) (by show u+_<_;omega) (by show s.names+_<_;omega) a6 ?_;intro T U a nm V v y ex W X Y C Z D x6 x7 x8 x9 A d0;have C:a<=u+r*cS d:=C;have D:nm<=s.names+r*ek d:=D;exact L T U a nm V v y ex W ((w.fv s.vv).trans X (Sd.refl ..)) Y a6 Z a6 x6 x7 x8 x9 (A.le S) a6
end
section
variable{G:AQ}{H H0:Heap}{n gp b:Nat}{s:Mg}{Γ:List BU}{k:KV}{t:Ty}
abbrev ATT{P:V->Prop}(hp:dD G H0 b gp s Γ t c kk k)(I:Ms G H0 b gp s Γ)(W:Bs H n b gp t)(f:Fg gp H0 b H n)(A:PA G H gp (s.to a))(ha:a+500<=s.at'+c)(hs:s.at'+c<100000000000)(Y:1500<=c)(Z:1<=kk):
 AD (AV (.ptr gp 0)) λd0=>AD (AG 2 d0) λd1=>AD (AM d1 G H) λd2=>AD (lenV d2) λd3=>AD (B2.ev .gtr d3 (iN 0)) λd4=>
 AS d4 (AD (AV (.ptr gp 0)) λd5=>AD (AG 2 d5) λK=>AD (AM K G H) λL=>AD (AV (.ptr gp 0)) λd6=>AD (AG 2 d6) λd7=>AD (AM d7 G H) λd8=>AD (lenV d8) λd9=>
  Au (Af 3 [[.str 0 0,.str 0 0,.bool false]] E0) H n λB H n=>Runs F G AU [.ptr gp 0,d9] H n λf0 H n=>AD (AM K G H) λv=>B7 (Ak v L) <|
  AD (Ai 3 L f0) λf2=>AD (AX 3 f2 G H) λf3=>A1 3 B f3 H n λi7 H n=>AD (AG 0 B) λf7=>AD (AM f7 G H) λf8=>AD (AG 1 B) λM=>AD (AX 2 M G H) λN=>
  Runs F G Ab [iN 6,f8,.AT] H n λf9 H n=>AD (AX 2 M G H) λv=>B7 (Ak v N) <|
  Runs F G Aa [.ptr gp 0,N,iN 3] H n λg0 H n=>Au (AY 11 2 xO [(0,.c f9),(1,.c g0)] E0) H n λg4 H n=>
  Bl (.fn Aw [] []) [iN 2,g4] (Runs F G) H n λg5 H n=>A1 9 (.ptr (b+1) 0) g5 H n λi8 H n=>CR (Ay [.cn (.ptr (b+1) 0) 9] G H) λl=>k (Bb l) H n)
  (B8 lfp G (Runs F G) k (.ptr gp 0) (.ptr (b+1) 0) (.fn Aw [] []) H n):=by
 have i9:=W.le;have k0:=W.g;have hw:=I.w.fg f;have hv:=hw.lv (G:=G);have g6:Ak s.vv s.vv=true:=hw.sk.ok.2.2;have q2:∀{O:Heap} {a':Nat},PA G O gp (s.to a')->AM (.ptr gp 2) G O=some s.vv:=λm=>AK m.g rfl;have q:=hv.el.len;rw[uc]at q;rw[BG,AJ,AP,AJ,t_,q2 A,AJ,q,AJ,cM,AJ];cases J:decide (0<Γ.length)with
 |false=>rw[AZ];exact xX hp I W f A a6 hs Y Z
 |true=>
 rw[Ah,AJ,AP,AJ,t_,q2 A,AJ,AJ,AP,AJ,t_,q2 A,AJ,q,AJ];have J:=kh J;refine Ao rfl λH1 f1 g1=>?_;have g7:PA G H1 gp (s.to a):=⟨f1.get A.g a6,A.pk⟩;refine EY g7 J (by have:=hw.lt;omega) (by show a<_;omega) λH2 r Q hr R m2 s2=>?_;have R:Q<=a+1:=R;refine AB (q2 m2) (Ba g6 ?_);have S:Fg gp H n H2 (n+1):=⟨a6,λC d D=>(s2 C D).trans (f1.same C d)⟩;have g8:=hv.fg S;have⟨p,g9,U⟩:=g8.el.at (i:=r) (c:=RR Γ[r]) (by simp[hr]);have y:Γ[r]∈Γ:=f_ hr;generalize Γ[r]=x at U y;refine AB g9 (AB (BZ U) ?_);have g2:T.get H2 n=_:=(s2 n a6).trans g1;refine BX g2 rfl rfl a6 λH3 g3 s3=>?_;rw[CZ,AJ];refine AB (AK (off:=0) g3 (v:=x.nm.v) rfl) ?_;rw[AP,AJ];have qt:∀{O:Heap},T.get O n=some (one (RR x))->AX 2 (.ptr n (0+1)) G O=some x.ty.v:=λg=>BV (off:=0+1) (m:=2) g a6 (by show 0+1+2<=3;omega);refine AB (qt g3) ?_;refine fN (kind:=6) (nm:=x.nm) (.inl rfl) λH4 n4 X=>?_;have k1:=X.le;refine AB (qt (X.get g3 a6)) (Ba (FH x.ty) ?_);have E:Fg gp H n H4 n4:=⟨a6,λC d D=>(X.same C a6).trans ((s3 C a6).trans (S.same C d D))⟩;have m4:PA G H4 gp (s.to Q):=⟨X.get ((s3 gp a6).trans m2.g) a6,A.pk⟩;have i0:GW x.ty:=I.gam.ty x y;have i1:=I.mk'.fg (f.trans E) m4;refine Jg 3 a6 x.ty H4 n4 (s.to Q) Γ _ i0 i1 (by show Q+400+2<_;omega) λH5 n5 a3 l e f5 m5 PW he i2 J=>?_;have PW:a3<=Q+400:=PW;have J:11*_<=804:=J;have k2:=f5.le;have i3:C3 G H5 (Rg (b+2) n5) (Mb 6 0 x.nm IY IY (0,0) 0 0 .AT) (.mk 6 0 x.nm IY IY (0,0) []):=C3.of .nil;have i4:C3 G H5 (Rg (b+2) n5) l e:=he.mono (λC d=>⟨by have:=d.1;omega,d.2⟩) λ_ _=>rfl;refine ZI i3 i4 a6 λH6 f6 i5=>?_;have⟨u,hu,i6,_⟩:=i2.ex;exact ub hp I (((W.fg E).fg f5).kp f6) ((f.trans E).trans (f5.trans (.kp f6))) ⟨f6.get m5.g a6,m5.pk⟩ (a:=a3) a6 i5 (pP.put (Gd.loc (tP I.gam.nd y)) i6 hu)
end
variable{P:KV}
section
variable{G:AQ}{H H0:Heap}{n gp b:Nat}{s:Mg}{Γ:List BU}{k:KV}{t:Ty}
abbrev ALl(Y:Ms G H0 b gp s Γ)(E:Bs H n b gp t)(f:Fg gp H0 b H n)(Z:PA G H gp (s.to a))(hs:a+200<100000000000)
 (hk:∀u B R c k e,Fg gp H0 b u B->Bs u B b gp t->PA G u gp (s.to R)->R<=a+130->b+2<=c->c<B->T.get u c=some (one (ttC i 0 0 (0,0) IY (.sl k 0 1 1 11) .AT .AT))->Kt G u (Rg (b+2) c) (.sl k 0 1 1 11) [e]->Gd s.inn Γ e A3->11*e.cz<=264->P (.ptr c 0) u B):
 Runs F G CE [] H n λv H n=>Runs F G Aa [.ptr gp 0,v,iN 2] H n λw H n=>Au (AY 11 1 xO [(0,.c w)] E0) H n λx H n=>
  Bl (.fn Aw [] []) [iN i,x] (Runs F G) H n λy H n=>Au (Af 9 [ttZ] E0) H n λm H n=>A1 9 m y H n λ_ H n=>P m H n:=by have d0:=E.le;have d1:=E.g;refine La λH1 n1 C=>?_;have d2:=C.le;have I:=(Y.mk'.fg f Z).kp C;refine Jg 2 a6 A3 H1 n1 (s.to a) Γ _ (.inr (.inl rfl)) I (by show a+130+2<_;omega) λH2 J S l e K U p he L M=>?_;have p:S<=a+130:=p;have M:11*_<=264:=M;have N:=K.le;refine RD he N λH3 f3 O=>?_;show Runs F G Aw [iN i,.sl J 0 1 1 11] H3 (J+1) _;refine ACO λH4 D V=>?_;have d3:=V.le;refine Ao rfl λH5 W g5=>?_;refine BX g5 rfl rfl a6 λX g6 s6=>?_;have Q:Kp H4 D X (D+1):=⟨W.le,λk d=>(s6 k a6).trans (W.same k d)⟩;have A:=V.trans Q;have q:=f3.trans A;refine hk X (D+1) S D J e (((f.trans (.kp C)).trans K).trans (.kp q)) (((E.kp C).fg K).kp q) ⟨q.get U.g a6,U.pk⟩ p a6 a6 g6 ?_ L.bool M;exact O.mono (λk d=>⟨by have:=d.1;omega,by have:=d.2;omega⟩) λk d=>A.same k d.2
abbrev ANi(f:Ms G H0 b gp s Γ):∀id,s.vv.CD=some id->id<b:=λid d=>(f.w.sk.own d).1
abbrev Bs.fv(h:Bs H n b gp t)(f:Fv gp v H n H' n')(d:∀id,v.CD=some id->id<b∨b+2<=id):Bs H' n' b gp t:=by have:=h.le;have:=h.g;exact⟨f.get h.b1 a6 a6 (λe=>by have:=d _ e;omega),f.get h.b2 a6 a6 (λe=>by have:=d _ e;omega),w_ h.le f.le,h.g⟩
abbrev AXm(hB:AAv G gp d)(hd:d<1000)(ht:GW t)(hp:dD G H0 b gp s Γ t c kk k)(h0:Ms G H0 b gp s Γ)(hb:Bs H n b gp t)(f:Fg gp H0 b H n)(m1:PA G H gp (s.to a))(ha:a+200+4*cS d<=s.at'+c)(hs:s.at'+c<100000000000)(k7:1500+4*cS d<=c)
 (k8:4*ek d<=kk) (k9:s.names+kk<600) (hl:Γ.length+2*ek d<=1000):
 Runs F G CE [] H n λd5 H n=>Runs F G Aa [.ptr gp 0,d5,iN 2] H n λd6 H n=>Au (AY 11 1 xO [(0,.c d6)] E0) H n λd7 H n=>
  Bl (.fn Aw [] []) [iN 4,d7] (Runs F G) H n λd8 H n=>Au (Af 9 [ttZ] E0) H n λy H n=>A1 9 y d8 H n λ_ H n=>
  AD (B2.ev .sub (iN (d+1)) (iN 1)) λd9=>AD (AX 2 (.ptr b 0) G H) λL=>Runs F G AU [.ptr gp 0,iN 3] H n λf0 H n=>AD (AX 2 (.ptr b 0) G H) λv=>B7 (Ak v L) <|
  Runs F G B5 [.ptr gp 0,f0,d9,L] H n λf3 H n=>AD (AG 7 y) λf5=>A1 1 f5 f3 H n λk4 H n=>
  AD (B2.ev .sub (iN (d+1)) (iN 1)) λf6=>AD (AX 2 (.ptr b 0) G H) λM=>Runs F G AU [.ptr gp 0,iN 3] H n λf7 H n=>AD (AX 2 (.ptr b 0) G H) λv=>B7 (Ak v M) <|
  Runs F G B5 [.ptr gp 0,f7,f6,M] H n λf8 H n=>AD (AG 8 y) λf9=>A1 1 f9 f8 H n λk5 H n=>AD (AX 9 y G H) λg0=>A1 9 (.ptr (b+1) 0) g0 H n λk6 H n=>CR (Ay [.cn (.ptr (b+1) 0) 9] G H) λl=>k (Bb l) H n:=by
 have g2:=hb.g;have E:=ANi h0;refine ALl h0 hb f m1 a6 λH1 D a1 q u e f1 g4 m1 m0 m3 g6 g1 i4 i5 m5=>?_;have P:Ms G H1 D gp (s.to a1) Γ:=h0.fg f1 m1;have m6:=dA d;refine ALf hB hd ht g4 P (by show a1+1+_<_;omega) (by show s.names+_<_;omega) hl ?_;intro H2 n2 a2 A w v2 th m7 z2 Q m2 g7 g8 g9 R S B I U m8;have I:=I.ss;have U:=U.blk;have g7:a2<=a1+(1+2*cS d):=g7;have g8:s.names<=A:=g8;have g9:A<=s.names+2*ek d:=g9;have Q:Fv gp s.vv H1 D H2 n2:=Q;have B:Sd D s.vv w:=B;have i6:=Q.le;have q2:T.get H2 q=_:=Q.get g1 g6 a6 λe=>by have:=E _ e;omega
 have V:=KS.ok I;rw[AP,AJ];refine FK (off:=0+7) (m:=1) (v:=v2) q2 V.1 (by rw[V.2];rfl) a6 (by show 0+7+1<=9;omega) λH3 g3 W=>?_;rw[V.2]at g3;have J:∀u,w.CD=some u->u<b∨D<=u:=λu p=>by
  rcases B with h|h
  .exact .inl (E u (h.symm.trans p))
  .exact .inr (h u p)
 have i0:Bs H3 n2 b gp t:=by have X:=g4.fv Q λu p=>.inl (E u p);exact⟨(W b a6).trans X.b1,(W (b+1) a6).trans X.b2,X.le,g2⟩
 have i7:Ms G H3 n2 gp ((s.to a1).st a2 A w) Γ:=⟨⟨(W gp a6).trans m2.g,m2.pk⟩,by have:=P.g;omega,⟨R.sk.JO (λu p=>R.sk.own p) λu p=>W u λe=>by subst e;have:=J _ p;omega,R.lt⟩,S,h0.inn⟩;have i8:UH G H3 (Rv D n2 w) v2 th:=I.mono (λ_ h=>h) λu p=>W u (by have:=p.1;omega);refine ALf hB hd ht i0 i7 (by show a2+1+_<_;omega) (by show A+_<_;omega) hl ?_;intro H4 n4 a4 Y x v4 el m9 z4 N m4 ji i1 i2 Z d0 C K d1 p0;have K:=K.ss;have d1:=d1.blk;have ji:a4<=a2+(1+2*cS d):=ji;have i1:A<=Y:=i1;have i2:Y<=A+2*ek d:=i2;have N:Fv gp w H3 n2 H4 n4:=N;have C:Sd n2 w x:=C;have p1:=N.le;have hq:∀u,u<D->b<=u->w.CD≠some u:=λu h1 h2 e=>by have:=J _ e;omega
 have q4:T.get H4 q=_:=N.get g3 a6 a6 (hq q g6 a6);have d2:=KS.ok K;rw[AP,AJ];refine FK (off:=0+8) (m:=1) (v:=v4) q4 d2.1 (by rw[d2.2];rfl) a6 (by show 0+8+1<=9;omega) λH5 g5 O=>?_;rw[d2.2]at g5;have d3:∀u,x.CD=some u->u<b∨D<=u:=λu p=>by
  rcases C with h|h
  .exact J u (h.symm.trans p)
  .have:=h u p;omega
 refine AB (As (m:=9) g5 a6 rfl) ?_;have i9:Sd D s.vv x:=B.trans C i6;have i3:Kt G H5 (Rv (b+2) n4 x) (.sl u 0 1 1 11) [e]:=by have x0:Kt G H3 (Rg (b+2) q) (.sl u 0 1 1 11) [e]:=i4.mono (λ_ h=>h) λi h=>(W i (by have:=h.2;omega)).trans (Q.same i (by have:=h.2;omega) (by have:=h.1;omega) λe=>by have:=E _ e;have:=h.1;omega);exact x0.mono (λi h=>⟨h.1,by have:=h.2;omega,λe=>by have:=d3 _ e;have:=h.1;have:=h.2;omega⟩) λi h=>(O i (by have:=h.2;omega)).trans (N.same i (by have:=h.2;omega) (by have:=h.1;omega) (hq i (by have:=h.2;omega) (by have:=h.1;omega)))
 have k0:UH G H5 (Rv (b+2) n4 x) v2 th:=(i8.fv N (by have:=P.g;omega) C (show D<=D from ea _)).mono (λi h=>⟨by have:=h.1;omega,h.2⟩) λi h=>O i (by have:=h.1;omega);have k1:UH G H5 (Rv (b+2) n4 x) v4 el:=K.mono (λi h=>⟨by have:=h.1;omega,h.2⟩) λi h=>O i (by have:=h.1;omega);have k2:Bs H5 n4 b gp t:=by have d4:=i0.fv N λu p=>(J u p).imp_right λh=>a6;exact⟨(O b a6).trans d4.b1,(O (b+1) a6).trans d4.b2,d4.le,g2⟩
 refine ADj (ex:=[]) (vv:=x) (nm:=Y) (a:=a4) (l:=ttC 4 0 0 (0,0) IY (.sl u 0 1 1 11) v2 v4) (st:=.mk 4 (0,0) IY [e] th el) (j_ _) hp k2 ?_ ⟨(O gp a6).trans m4.g,m4.pk⟩ a6 a6 a6 ?_ ?_ ?_ (λi hi=>by have:=d3 i hi;omega) (Vy.of i3 k0 k1) ?_
 .refine⟨by have:=f1.le;omega,λi h1 h2 h3=>?_⟩;have k3:w.CD≠some i:=λe=>by
   rcases B with h|h
   .exact h3 (h.symm.trans e)
   .have:=h i e;have:=f1.le;omega
  exact(O i a6).trans ((N.same i (by have:=f1.le;omega) h2 k3).trans ((W i a6).trans ((Q.same i (by have:=f1.le;omega) h2 h3).trans (f1.same i h1 h2))))
 .rw[qs];exact⟨Z.sk.JO (λu p=>Z.sk.own p) λu p=>O u λe=>by subst e;have:=d3 _ p;omega,Z.lt⟩
 .rw[qs];exact d0
 .rcases i9 with h|h
  .exact .inl h
  .exact .inr λi hi=>by have:=h i hi;omega
 .rw[qs];exact(pP.cond (.inl rfl) i5 U d1 a6 a6).le a6
end
section
variable{G:AQ}{H H0:Heap}{n gp b:Nat}{s:Mg}{Γ:List BU}{k:KV}{t:Ty}
abbrev AOS(hB:AAv G gp d)(hd:d<1000)(ht:GW t)(hp:dD G H0 b gp s Γ t c kk k)(h0:Ms G H0 b gp s Γ)(hb:Bs H n b gp t)(f:Fg gp H0 b H n)(m1:PA G H gp (s.to a))(ha:a+200+4*cS d<=s.at'+c)(hs:s.at'+c<100000000000)(f5:1500+4*cS d<=c)
 (f6:4*ek d<=kk) (f7:s.names+kk<600) (hl:Γ.length+2*ek d<=1000):
 Runs F G CE [] H n λP H n=>Runs F G Aa [.ptr gp 0,P,iN 2] H n λQ H n=>Au (AY 11 1 xO [(0,.c Q)] E0) H n λR H n=>
  Bl (.fn Aw [] []) [iN 5,R] (Runs F G) H n λS H n=>Au (Af 9 [ttZ] E0) H n λw H n=>A1 9 w S H n λ_ H n=>
  AD (B2.ev .sub (iN (d+1)) (iN 1)) λU=>AD (AX 2 (.ptr b 0) G H) λC=>Runs F G AU [.ptr gp 0,iN 3] H n λV H n=>AD (AX 2 (.ptr b 0) G H) λv=>B7 (Ak v C) <|
  Runs F G B5 [.ptr gp 0,V,U,C] H n λW H n=>AD (AG 7 w) λX=>A1 1 X W H n λf3 H n=>
  AD (AX 9 w G H) λY=>A1 9 (.ptr (b+1) 0) Y H n λf4 H n=>CR (Ay [.cn (.ptr (b+1) 0) 9] G H) λl=>k (Bb l) H n:=by
 have d4:=hb.g;have y:=ANi h0;refine ALl h0 hb f m1 a6 λH1 n1 a1 q u e f1 Z m1 f8 f9 d5 g1 d6 d7 g0=>?_;have d8:Ms G H1 n1 gp (s.to a1) Γ:=h0.fg f1 m1;have g2:=dA d;refine ALf hB hd ht Z d8 (by show a1+1+_<_;omega) (by show s.names+_<_;omega) hl ?_;intro H2 n2 a2 D x v2 th g4 z2 E m2 d0 d1 d2 I J A B K g5;have B:=B.ss;have K:=K.blk;have d0:a2<=a1+(1+2*cS d):=d0;have d1:s.names<=D:=d1;have d2:D<=s.names+2*ek d:=d2;have E:Fv gp s.vv H1 n1 H2 n2:=E;have A:Sd n1 s.vv x:=A;have g6:=E.le;have q2:T.get H2 q=_:=E.get g1 d5 a6 λe=>by have:=y _ e;omega
 have L:=KS.ok B;rw[AP,AJ];refine FK (off:=0+7) (m:=1) (v:=v2) q2 L.1 (by rw[L.2];rfl) a6 (by show 0+7+1<=9;omega) λH3 g3 M=>?_;rw[L.2]at g3;have N:∀u,x.CD=some u->u<b∨n1<=u:=λu p=>by
  rcases A with h|h
  .exact .inl (y u (h.symm.trans p))
  .exact .inr (h u p)
 refine AB (As (m:=9) g3 a6 rfl) ?_;have d9:Bs H3 n2 b gp t:=by have O:=Z.fv E λu p=>.inl (y u p);exact⟨(M b a6).trans O.b1,(M (b+1) a6).trans O.b2,O.le,d4⟩
 have f0:UH G H3 (Rv (b+2) n2 x) v2 th:=B.mono (λi h=>⟨by have:=h.1;omega,h.2⟩) λu p=>M u (by have:=p.1;omega);have d3:Kt G H3 (Rv (b+2) n2 x) (.sl u 0 1 1 11) [e]:=by have x0:Kt G H3 (Rg (b+2) q) (.sl u 0 1 1 11) [e]:=d6.mono (λ_ h=>h) λi h=>(M i (by have:=h.2;omega)).trans (E.same i (by have:=h.2;omega) (by have:=h.1;omega) λe=>by have:=y _ e;have:=h.1;omega);exact x0.mono (λi h=>⟨h.1,by have:=h.2;omega,λe=>by have:=N _ e;have:=h.1;have:=h.2;omega⟩) λ_ _=>rfl
 refine ADj (ex:=[]) (vv:=x) (nm:=D) (a:=a2) (l:=ttC 5 0 0 (0,0) IY (.sl u 0 1 1 11) v2 .AT) (st:=.mk 5 (0,0) IY [e] th []) (j_ _) hp d9 ?_ ⟨(M gp a6).trans m2.g,m2.pk⟩ a6 a6 a6 ?_ ?_ ?_ (λi hi=>by have:=N i hi;omega) (Vy.of d3 f0 .nil) ?_
 .refine⟨by have:=f1.le;omega,λi h1 h2 h3=>?_⟩;exact(M i a6).trans ((E.same i (by have:=f1.le;omega) h2 h3).trans (f1.same i h1 h2))
 .rw[qs];exact⟨I.sk.JO (λu p=>I.sk.own p) λu p=>M u λe=>by subst e;have:=N _ p;omega,I.lt⟩
 .rw[qs];exact J
 .rcases A with h|h
  .exact .inl h
  .exact .inr λi hi=>by have:=h i hi;omega
 .rw[qs];exact(pP.cond (k2:=0) (.inr rfl) d7 K .nil a6 (j_ _)).le a6
abbrev AHN{fn:St}{ft:Ty}(hd:d<3)(D:QM fn IK.fs=some ft)(E:fn≠Jd)(I:GW ft){tyc:Runs F G=Runs F G->KV->Heap->Nat->Prop}
 (J:∀{K:Heap} {L:Nat} {P:KV},(∀H' n',Kp K L H' n'->P ft.v H' n')->tyc rfl P K L)
 (hp:dD G H0 b gp s Γ t c kk k) (M:Ms G H0 b gp s Γ) (N:Bs H n b gp t) (f:Fg gp H0 b H n) (B:PA G H gp (s.to a)) (ha:a+200<=s.at'+c) (hs:s.at'+c<100000000000) (d6:1500<=c) (d7:1<=kk):
 Runs F G A2 [.ptr gp 0,.str 1 65,iN 1] H n λO H n=>Au (AY 11 1 xO [(0,.c O)] E0) H n λQ H n=>Runs F G Ab [iN 7,fn.v,Q] H n λR H n=>
  tyc rfl (λS H n=>Runs F G Aa [.ptr gp 0,S,iN d] H n λT H n=>Au (AY 11 2 xO [(0,.c R),(1,.c T)] E0) H n λU H n=>
  Bl (.fn Aw [] []) [iN 2,U] (Runs F G) H n λV H n=>A1 9 (.ptr (b+1) 0) V H n λd8 H n=>CR (Ay [.cn (.ptr (b+1) 0) 9] G H) λl=>k (Bb l) H n) H n:=by
 have d9:=N.le;have f0:=N.g;have f7:cst d<=130:=by match d,hd with|0,_=>decide|1,_=>decide|2,_=>decide
 refine iZ (cl:=nA) (Jg 1 a6) (.inl rfl) (M.mk'.fg f B) (by show a+40+2<_;omega) λK L p l e u W B q he hu X _ Y=>?_;have q:p<=a+40:=q;have Y:11*_<=84:=Y;have Z:=W.le;refine RD he Z λH2 f2 d0=>?_;refine SA (nm:=fn) (es:=[e]) d0 λH3 n3 l3 f3 d1=>?_;have f8:=f3.le;refine J λH4 n4 f4=>?_;have f9:=f4.le;have m:=f2.trans (f3.trans f4);have x:=(f.trans W).trans (.kp m);have d2:Mk G H4 n4 gp (s.to p) Γ:=M.mk'.fg x ⟨m.get B.g a6,B.pk⟩;refine Jg d a6 ft H4 n4 (s.to p) Γ _ I d2 (by show p+cst d+2<_;omega) λH5 n5 a5 l5 e5 C m5 y d3 d4 Y=>?_;have y:a5<=p+cst d:=y;have g0:=C.le;have h1:C3 G H5 (Rg (b+2) n5) l3 (.mk 7 0 fn IY IY (0,0) [e]):=((d1.kp' f4).fg a6 C).mono (λi h=>⟨by have:=h.1;omega,h.2⟩) λ_ _=>rfl;have h2:C3 G H5 (Rg (b+2) n5) l5 e5:=d3.mono (λi h=>⟨by have:=h.1;omega,h.2⟩) λ_ _=>rfl;refine ZI h1 h2 a6 λH6 f6 A=>?_;have⟨w,hw,d5,_⟩:=d4.ex;exact ub hp M ((((N.fg W).kp m).fg C).kp f6) ((x.trans C).trans (.kp f6)) ⟨f6.get m5.g a6,m5.pk⟩ (a:=a5) a6 A (pP.put (Gd.get hu X D E) d5 hw)
end
section
variable{G:AQ}{H H0:Heap}{n gp b:Nat}{s:Mg}{Γ:List BU}{k:KV}{t:Ty}
abbrev ATc(hp:dD G H0 b gp s Γ t c kk k)(M:Ms G H0 b gp s Γ)(S:Bs H n b gp t)(f:Fg gp H0 b H n)(m1:PA G H gp (s.to a))(ha:a+300<=s.at'+c)(hs:s.at'+c<100000000000)(d5:1500<=c)(d6:1<=kk):
 Runs F G Cm [] H n λp H n=>Runs F G Aa [.ptr gp 0,p,iN 1] H n λq H n=>Runs F G A4 [] H n λu H n=>Runs F G Aa [.ptr gp 0,u,iN 1] H n λv H n=>
  Au (AY 11 2 xO [(0,.c q),(1,.c v)] E0) H n λw H n=>Runs F G Ab [iN 12,.str 0 0,w] H n λx H n=>Runs F G A4 [] H n λy H n=>Runs F G Aa [.ptr gp 0,y,iN 2] H n λA H n=>
  Au (AY 11 2 xO [(0,.c x),(1,.c A)] E0) H n λB H n=>Bl (.fn Aw [] []) [iN 2,B] (Runs F G) H n λC H n=>A1 9 (.ptr (b+1) 0) C H n λd4 H n=>CR (Ay [.cn (.ptr (b+1) 0) 9] G H) λl=>k (Bb l) H n:=by have d7:=S.le;have d8:=S.g;refine oc λH1 T N=>?_;have d9:=N.le;refine Jg 1 a6 wN H1 T (s.to a) Γ _ (.inr (.inr (.inr (.inr rfl)))) ((M.mk'.fg f m1).kp N) (by show a+40+2<_;omega) λH2 n2 O l2 U V m2 D W X d=>?_;have D:O<=a+40:=D;have d:11*_<=84:=d;have f0:=V.le;refine Hg λH3 n3 f3=>?_;have g0:=f3.le;have E:=((f.trans (.kp N)).trans V).trans (.kp (gp:=gp) f3);refine Jg 1 a6 BY H3 n3 (s.to O) Γ _ (.inl rfl) (M.mk'.fg E ⟨f3.get m2.g a6,m2.pk⟩) (by show O+40+2<_;omega) λH4 n4 P l4 Y Q m4 ji Z d0 d=>?_;have ji:P<=O+40:=ji;have d:11*_<=84:=d;have g1:=Q.le;have x2:C3 G H4 (Rg T n4) l2 U:=(W.kp' f3).fg a6 Q;have x4:C3 G H4 (Rg T n4) l4 Y:=Z.mono (λi h=>⟨by have:=h.1;omega,h.2⟩) λ_ _=>rfl;refine ZI x2 x4 a6 λH5 f5 I=>?_;refine SA (nm:=(0,0)) (es:=[U,Y]) I λH6 n6 l6 f6 d1=>?_;have g2:=f6.le;refine Hg λH7 n7 f7=>?_;have g3:=f7.le;have m:=f5.trans (f6.trans f7);have J:=(E.trans Q).trans (.kp m);refine Jg 2 a6 BY H7 n7 (s.to P) Γ _ (.inl rfl) (M.mk'.fg J ⟨m.get m4.g a6,m4.pk⟩) (by show P+130+2<_;omega) λH8 n8 a8 l8 e8 R m8 K d2 d3 d=>?_;have K:a8<=P+130:=K;have d:11*_<=264:=d;have g4:=R.le;have y1:C3 G H8 (Rg (b+2) n8) l6 (.mk 12 0 (0,0) IY IY (0,0) [U,Y]):=((d1.kp' f7).fg a6 R).mono (λi h=>⟨by have:=h.1;omega,h.2⟩) λ_ _=>rfl;have y2:C3 G H8 (Rg (b+2) n8) l8 e8:=d2.mono (λi h=>⟨by have:=h.1;omega,h.2⟩) λ_ _=>rfl;refine ZI y1 y2 a6 λH9 f9 L=>?_;exact ub hp M (((((((S.kp N).fg V).kp f3).fg Q).kp m).fg R).kp f9) ((J.trans R).trans (.kp f9)) ⟨f9.get m8.g a6,m8.pk⟩ (a:=a8) a6 L (pP.put (Gd.elm X.is d0.int) d3.int (.same _))
abbrev AWd(M:GW t)(N:dD G H0 b gp s Γ t c kk k)(E:Ms G H0 b gp s Γ)(v:Bs H n b gp t)(f:Fg gp H0 b H n)(O:PA G H gp (s.to a))(U:a+300<=s.at'+c)(V:s.at'+c<100000000000)(P:1500<=c)(Q:1<=kk):
 AD (AX 2 (.ptr b 0) G H) λd=>Runs F G Aa [.ptr gp 0,d,iN 2] H n λm H n=>Au (AY 11 1 xO [(0,.c m)] E0) H n λp H n=>
  Bl (.fn Aw [] []) [iN 6,p] (Runs F G) H n λq H n=>A1 9 (.ptr (b+1) 0) q H n λI H n=>CR (Ay [.cn (.ptr (b+1) 0) 9] G H) λl=>k (Bb l) H n:=by have R:=v.le;have S:=v.g;refine AB (Be v.b1) ?_;refine Jg 2 a6 t H n (s.to a) Γ _ M (E.mk'.fg f O) (by show a+130+2<_;omega) λW X J Y Z x K u y A L=>?_;have u:J<=a+130:=u;have L:11*_<=264:=L;have B:=x.le;refine RD y B λH3 f3 C=>?_;have⟨w,T,D,_⟩:=A.ex;exact ub N E ((v.fg x).kp f3) ((f.trans x).trans (.kp f3)) ⟨f3.get K.g a6,K.pk⟩ (a:=J) a6 (C.mono (λi h=>⟨by have:=h.1;omega,h.2⟩) λ_ _=>rfl) (pP.rtn D T)
abbrev AYE(hp:dD G H0 b gp s Γ t c kk k)(L:Ms G H0 b gp s Γ)(M:Bs H n b gp t)(f:Fg gp H0 b H n)(J:PA G H gp (s.to a))(ha:a+300<=s.at'+c)(hs:s.at'+c<100000000000)(d0:1500<=c)(d1:1<=kk):
 Runs F G A2 [.ptr gp 0,.str 1 65,iN 2] H n λm H n=>Runs F G A4 [] H n λp H n=>Runs F G Aa [.ptr gp 0,p,iN 1] H n λq H n=>Au (AY 11 2 xO [(0,.c m),(1,.c q)] E0) H n λv H n=>
  Runs F G Ab [iN 8,.str 3 7628135,v] H n λw H n=>Au (AY 11 1 xO [(0,.c w)] E0) H n λx H n=>
  Bl (.fn Aw [] []) [iN 3,x] (Runs F G) H n λy H n=>A1 9 (.ptr (b+1) 0) y H n λS H n=>CR (Ay [.cn (.ptr (b+1) 0) 9] G H) λl=>k (Bb l) H n:=by have d2:=M.le;have d3:=M.g;refine iZ (cl:=nA) (Jg 2 a6) (.inl rfl) (L.mk'.fg f J) (by show a+130+2<_;omega) λH1 n1 K l e u N J A he hu O _ B=>?_;have A:K<=a+130:=A;have B:11*_<=264:=B;have d4:=N.le;refine Hg λH2 n2 C=>?_;have d5:=C.le;have D:=(f.trans N).trans (.kp (gp:=gp) C);refine Jg 1 a6 BY H2 n2 (s.to K) Γ _ (.inl rfl) (L.mk'.fg D ⟨C.get J.g a6,J.pk⟩) (by show K+40+2<_;omega) λT U V l3 W f3 X Y P Q B=>?_;have Y:V<=K+40:=Y;have B:11*_<=84:=B;have d6:=f3.le;have x1:C3 G T (Rg (b+2) U) l e:=((he.kp' C).fg a6 f3).mono (λi h=>⟨by have:=h.1;omega,h.2⟩) λ_ _=>rfl;have x3:C3 G T (Rg (b+2) U) l3 W:=P.mono (λi h=>⟨by have:=h.1;omega,h.2⟩) λ_ _=>rfl;refine ZI x1 x3 a6 λH4 f4 E=>?_;refine SA (nm:=VR) (es:=[e,W]) E λH5 n5 l5 Z R=>?_;have d7:=Z.le;refine RD R a6 λH6 f6 I=>?_;have d:=f4.trans (Z.trans f6);exact ub hp L ((((M.fg N).kp C).fg f3).kp d) ((D.trans f3).trans (.kp d)) ⟨d.get X.g a6,X.pk⟩ (a:=V) a6 I (pP.ask (Gd.AV5 hu O Q.int))
end
section
variable{G:AQ}{gp:Nat}
abbrev ALP(d:Nat)(hd:d<1000)(Q:∀R,d=R+1->AAv G gp R):ANq G gp d:=by
 intro t H n s Γ k M h hs Y hl p;refine xN (ak Ae G) ?_;delta RH;have N:=h.g;have A:=AMc d;have B:=dA d;refine BE λH1 S T=>?_;refine Ao rfl λU O V=>?_;have C:=S.trans O;have E:Bs U (n+1+1) n gp t:=⟨O.get T a6,V,a6,N⟩;refine EY (h.kp C).m a6 a6 a6 λL r a hr ha w W=>?_;have f3:Fg gp U (n+1+1) L (n+1+1):=⟨ea _,λD _ i=>W D i⟩;have f:=(Fg.kp (gp:=gp) C).trans f3;have u:=E.fg f3;clear S O T V C E W f3;generalize n+1+1=n3 at*;refine AB (A9 ..) ?_;cases r0:decide (r=0)with
 |true=>rw[Ah];exact ART p h u f w a6 a6 A B a6 a6
 |false=>
 rw[AZ];refine AB (A9 ..) ?_;cases r1:decide (r=1)with
 |true=>exact ART p h u f w a6 a6 A B a6 a6
 |false=>
 delta Co;rw[AZ];refine AB (A9 ..) ?_;cases r2:decide (r=2)with
 |true=>rw[Ah];exact ATT (P:=λ_=>True) p h u f w a6 a6 A B
 |false=>
 rw[AZ];refine AB (A9 ..) ?_;cases r3:decide (r=3)with
 |true=>
  rw[Ah];refine EY w a6 a6 (by show a<_;omega) λI q J X x y K=>?_;have x:J<=a+1:=x;have v:Fg gp L n3 I n3:=⟨ea _,λD _ i=>K D i⟩;refine AB (A9 ..) ?_;cases q0:decide (q=0)with
  |true=>rw[Ah];exact AHN (fn:=n_x) (ft:=BY) (d:=2) (tyc:=λ_ P H n=>Runs F G A4 [] H n P) a6 rfl a_ (.inl rfl) (λh=>Hg h) p h (u.fg v) (f.trans v) y a6 a6 a6 a6
  |false=>rw[AZ];exact AHN (fn:=my) (ft:=tA) (d:=1) (tyc:=λ_ P H n=>Runs F G CN [.str 1 65] H n P) a6 rfl a_ (.inr (.inr (.inl rfl))) (λh=>U0 (l:=1) (c:=65) h) p h (u.fg v) (f.trans v) y a6 a6 a6 a6
 |false=>
 rw[AZ];refine AB (A9 ..) ?_;cases r4:decide (r=4)with
 |true=>
  rw[Ah];refine EY w a6 a6 (by show a<_;omega) λI q J X x y K=>?_;have x:J<=a+1:=x;have v:Fg gp L n3 I n3:=⟨ea _,λD _ i=>K D i⟩;refine AB (A9 ..) ?_;cases q0:decide (q=0)with
  |true=>rw[Ah];exact AHN (fn:=AGj) (ft:=wN) (d:=1) (tyc:=λ_ P H n=>Runs F G Cm [] H n P) a6 rfl a_ (.inr (.inr (.inr (.inr rfl)))) (λh=>oc h) p h (u.fg v) (f.trans v) y a6 a6 a6 a6
  |false=>rw[AZ];exact ATc p h (u.fg v) (f.trans v) y a6 a6 a6 a6
 |false=>
 rw[AZ];refine AB (A9 ..) ?_;cases r5:decide (r=5)with
 |true=>
  rw[Ah];refine AB (cM ..) ?_;cases d with
  |zero=>rw[show decide (0<0)=false from rfl,AZ];exact xX p h u f w a6 a6 a6 a6
  |succ d=>
   rw[ui (show 0<d+1 by omega),Ah];have Z:cS (d+1)=1500+4*cS d:=rfl;have e2:ek (d+1)=4*ek d:=rfl;have:=dA d;exact AXm (Q d rfl) a6 M p h u f w a6 a6 a6 o_ a6 a6
 |false=>
 rw[AZ];refine AB (A9 ..) ?_;cases r6:decide (r=6)with
 |true=>
  rw[Ah];refine AB (cM ..) ?_;cases d with
  |zero=>rw[show decide (0<0)=false from rfl,AZ];exact xX p h u f w a6 a6 a6 a6
  |succ d=>
   rw[ui (show 0<d+1 by omega),Ah];have Z:cS (d+1)=1500+4*cS d:=rfl;have e2:ek (d+1)=4*ek d:=rfl;have:=dA d;exact AOS (Q d rfl) a6 M p h u f w a6 a6 a6 o_ a6 a6
 |false=>
 rw[AZ];refine AB (A9 ..) ?_;cases r7:decide (r=7)with
 |true=>
  rw[Ah];refine EY w a6 a6 (by show a<_;omega) λI q J X x y K=>?_;have x:J<=a+1:=x;have v:Fg gp L n3 I n3:=⟨ea _,λD _ i=>K D i⟩;refine AB (A9 ..) ?_;cases q0:decide (q=0)with
  |true=>rw[Ah];exact AWd M p h (u.fg v) (f.trans v) y a6 a6 a6 a6
  |false=>rw[AZ];exact AYE p h (u.fg v) (f.trans v) y a6 a6 a6 a6
 |false=>rw[AZ];exact xX p h u f w a6 a6 a6 a6
end
abbrev Sk.cut{z:Nat}{q:IntKind}(h:Sk H z A v LS)(hi:i<=LS.length):∃v',lV z v E0 none (some (.c (.int q (.ofNat i) 0))) none=some v'/\v'.CD=v.CD/\Sk H z A v' (LS.take i):=by
 cases h with
 |nil=>
  obtain rfl:i=0:=by simpa using hi
  exact⟨.AT,rfl,rfl,.nil⟩
 |emp k m=>
  rename_i f t;obtain rfl:i=0:=by simpa using hi
  refine⟨.sl f 0 0 0 z,?_,rfl,.emp k m⟩;show Az (Nat.beq z z) (Az (band (Nat.ble 0 0) (Nat.ble 0 0)) (f3 0 (0-0) (0-0) λo d e=>.sl f o d e z))=_;rw[Bq];rfl
 |Hf k w u m=>
  rename_i f c t;have p:(LS.take i).length=i:=by rw[xx];omega
  refine⟨.Hf f 0 i z,?_,rfl,?_⟩
  .show Az (Nat.beq z z) (Az (band (Nat.ble 0 i) (Nat.ble i LS.length)) (f3 0 (i-0) 0 λo d _=>.Hf f o d z))=_;rw[Bq,show Nat.ble 0 i=true by rw[_e];omega,show Nat.ble i LS.length=true by rw[_e];omega];show CC 0 (λa=>CC (i-0) λb=>CC 0 λ_=>some (.Hf f a b z))=_;rw[BF,BF,BF,aAd]
  .have:=Sk.Hf (z:=z) (LS:=LS.take i) k (by rw[p];omega) (λj L g=>u j L (by rw[x_]at g;split at g;exact g;cases g)) m;rw[p]at this;exact this
abbrev sB{z:Nat}{Z:LV}(i:0<z)(h:∀d,Kp H n d (n+1)->(∃t,T.get d n=some (.arr z 0 t))->P (.sl n 0 0 0 z) d (n+1)):Au (AY z 0 Z [] E0) H n P:=
 L6 (G:=λ_ _ _=>none) (vs:=[]) rfl i (λv k=>by cases k) λd f g _=>h d f g
def Rw(a b:Nat)(v w:V):Nat->Prop:=λid=>a<=id/\id<b/\v.CD≠some id/\w.CD≠some id
structure BJ(G:AQ)(gp d:Nat)(t:Ty)(H0:Heap)(n0:Nat)(s:Mg)(Γ:List BU)(j:Nat)(H:Heap)(n:Nat)(vo:V)(a nm:Nat)(vv:V)(ex:List BU)(cs:Bh)(sts:List Tt):Prop where
 f:Fv gp s.vv H0 n0 H n
 m:PA G H gp (s.st a nm vv)
 a:a<=s.at'+j*cS d
 n1:s.names<=nm
 n2:nm<=s.names+j*ek d
 w:Lw H n gp vv (Γ++ex)
 gam:Gam (Γ++ex) nm
 xl:ex.length<=j
 sd:Sd (n0+1) s.vv vv
 box:T.get H n0=some (one t.cells)
 lo:n0+1<=n
 sk:Sk H 9 (λid=>n0+1<=id/\id<n/\vv.CD≠some id) vo cs
 ts:FQ G H (Rw (n0+1) n vv vo) cs sts
 gd:GdQ s.inn t Γ (Γ++ex) (j*ek d) sts
 ln:sts.length=j
 cz:50*F2 sts<=2200*(j*ek d)+j*cS d
section
variable{G:AQ}{gp:Nat}
abbrev AI7(d:Nat)(hd:d<1000)(hS:ANq G gp d):AAv G gp d:=by
 intro m t H n s Γ k hm ht h hs g3 hl hp;refine go4 (YU Ae G) ?_;delta Pl;have g5:=h.g;have g6:=AMc d;have g7:=dA d;have d3:∀u,s.vv.CD=some u->u<n:=λu p=>(h.w.sk.own p).1;refine BE λH1 f1 g1=>?_;have Q:=h.kp f1;have V:=(Q.w.lv (G:=G)).el.len;rw[uc]at V;have q2:∀{H':Heap} {s':Mg},PA G H' gp s'->AM (.ptr gp 2) G H'=some s'.vv:=λm=>AK m.g rfl;rw[BG,AJ,AP,AJ,t_,q2 Q.m,AJ,V,AJ];refine sB a6 λH2 f2 g2=>?_;have⟨t2,g2⟩:=g2;have K:=Q.kp f2;refine BL (N:=m) (J:=λj q=>∃H' n' L a nm E ex cs M,q=(.ptr gp 0,iN m,iN d,.ptr n 0,iN Γ.length,L,iN j,H',n')/\BJ G gp d t H n s Γ j H' n' L a nm E ex cs M) ?_ ?_
  ⟨H2,n+1+1,_,s.at',s.names,s.vv,[],[],[],rfl,(Fg.kp (f1.trans f2)).fv _,K.m,a6,ea _,a6,by rw[qs];exact K.w,by rw[qs];exact h.gam,ea _,.inl rfl,f2.get g1 a6,a6,
   .emp g2 ⟨a6,a6,λe=>by have:=d3 _ e;omega⟩,.nil,by rw[qs,K'];exact .nil,rfl,j_ _⟩
 .rintro I j q X ⟨H3,R,L,a,nm,E,ex,cs,M,rfl,x⟩ ih;show C5 lfp G (Runs F G) k I (.ptr gp 0) (iN m) (iN d) (.ptr n 0) (iN Γ.length) L (iN j) H3 R;delta C5;have e1:(j+1)*cS d<=m*cS d:=hN _ X;have e2:(j+1)*ek d<=m*ek d:=hN _ X;rw[pp,_g]at e1 e2;have:=x.a;have:=x.n2;have:=x.n1;have g8:=x.xl;have d4:=x.lo;have e3:j<=j*ek d:=aAb _ a6;rw[D9,AJ,ui X,Ah];refine AB (Be x.box) ?_;have f3:Ms G H3 R gp (s.st a nm E) (Γ++ex):=⟨x.m,a6,x.w,x.gam,h.inn⟩;refine hS t H3 R (s.st a nm E) (Γ++ex) _ ht f3 (by show a+_<_;omega) (by show nm+_<_;omega) (by rw[uk];omega) ?_;intro H4 n4 a4 Y C f5 l st g9 Z m4 ji d5 d6 S d0 U d7 f6 i0;have Z:Fv gp E H3 R H4 n4:=Z;have U:Sd R E C:=U;have ji:a4<=a+cS d:=ji;have d5:nm<=Y:=d5;have d6:Y<=nm+ek d:=d6;have i1:=Z.le;have O:∀u,n+1<=u->u<R->E.CD≠some u->C.CD≠some u:=λu Q K h3 e=>by
   rcases U with h|h
   .exact h3 (h.symm.trans e)
   .have:=h u e;omega
  have d8:∀u,E.CD=some u->u<n∨n+1<=u:=λu p=>by
   rcases x.sd with h|h
   .exact .inl (d3 u (h.symm.trans p))
   .exact .inr (h u p)
  have A:Sk H4 9 (λu=>n+1<=u/\u<n4/\C.CD≠some u/\u<R) L cs:=x.sk.mono (λu p=>⟨p.1,a6,O u p.1 p.2.1 p.2.2,p.2.1⟩) λu p=>Z.same u p.2.1 a6 p.2.2;have d9:T.get H4 n=_:=Z.get x.box a6 a6 λe=>by have:=d8 _ e;omega
  have f0:=x.ts.len;have f7:=x.ln;refine A.app (bs:=136) (c:=.agg l) (m:=0) (λu p=>(A.own p).2.1) a6 rfl d7.len (by rw[f0];omega) λv' H5 f8 d1 W=>?_;rw[CA a6,AJ];have f9:L.CD≠some gp:=λe=>by have:=(A.own e).1;omega
  have d2:∀u,C.CD=some u->L.CD≠some u:=λu p e=>(A.own e).2.2.1 p;have P:∀u,C.CD=some u->u<n4:=λu p=>(S.sk.own p).1;have D:∀{u:Nat},u<n4->L.CD≠some u->T.get H5 u=T.get H4 u:=λQ K=>d1 _ Q K;refine ih _ ⟨H5,n4+2,v',a4,Y,C,ex++f5,cs++[l],M++[st],rfl,?_⟩;refine⟨?_,⟨(D a6 f9).trans m4.g,m4.pk⟩,?_,a6,?_,?_,?_,?_,?_,?_,a6,f8 _ ⟨a6,a6,λe=>by have:=P _ e;omega⟩,?_,?_,?_,?_⟩
  .refine⟨by have:=x.f.le;omega,λu Q K h3=>?_⟩;refine(D a6 λe=>by have:=(A.own e).1;omega).trans ((Z.same u a6 K λe=>?_).trans (x.f.same u Q K h3));rcases x.sd with h|h
   .exact h3 (h.symm.trans e)
   .have:=h u e;omega
  .rw[pp,_g];omega
  .rw[pp,_g];omega
  .rw[<-y_];exact⟨S.sk.JO (λu p=>⟨by have:=P u p;omega,(S.sk.own p).2⟩) λu p=>D (P u p) (d2 u p),S.lt⟩
  .rw[<-y_];exact d0
  .rw[uk];omega
  .exact x.sd.trans U a6
  .exact(D a6 λe=>by have:=(A.own e).1;omega).trans d9
  .refine FQ.app (FQ.mono (λu p=>?_) (λu p=>?_) x.ts) (.cons (d7.mono (λu p=>?_) λu p=>?_) .nil)
   .refine⟨p.1,by have:=p.2.1;omega,O u p.1 p.2.1 p.2.2.1,λe=>?_⟩;rw[W]at e;cases e;have:=p.2.1;omega
   .exact(D (by have:=p.2.1;omega) p.2.2.2).trans (Z.same u p.2.1 (by have:=p.1;omega) p.2.2.1)
   .refine⟨by have:=p.1;omega,by have:=p.2.1;omega,p.2.2,λe=>?_⟩;rw[W]at e;cases e;have:=p.2.1;omega
   .exact D p.2.1 λe=>by have:=(A.own e).2.2.2;have:=p.1;omega
  .rw[<-y_,pp,_g];exact x.gd.snoc f6
  .rw[uk,f7];rfl
  .have:=x.cz;rw[AEN,pp,pp,_g,_g];simp only[F2];omega
 .rintro I q ⟨H3,R,L,a,nm,E,ex,cs,M,rfl,x⟩;show C5 lfp G (Runs F G) k I (.ptr gp 0) (iN m) (iN d) (.ptr n 0) (iN Γ.length) L (iN m) H3 R;delta C5;rw[D9,AJ,e9 (m_ _),AZ];delta HL;have d4:=x.lo;rw[BG,AJ,AP,AJ,t_,q2 x.m,AJ];have⟨v',g0,B,y⟩:=x.w.sk.cut (i:=Γ.length) (q:=.i64) o6;rw[show(s.st a nm E).vv=E from rfl,g0,AJ,AJ,AP,AJ,t_];refine FK (off:=2) (m:=1) (v:=v') x.m.g y.ok.1 (by rw[y.ok.2.1];rfl) a6 (by show 2+1<=5;omega) λH4 g4 s4=>?_;rw[y.ok.2.1]at g4;have i2:∀u,E.CD=some u->u≠gp:=λu p=>(x.w.sk.own p).2;refine hp H4 R a nm v' L M ex (by have:=x.ln;omega) ⟨x.f.le,λu Q K h3=>(s4 u K).trans (x.f.same u Q K h3)⟩ ⟨g4,x.m.pk⟩ x.a x.n1 x.n2 ⟨?_,h.w.lt⟩ ⟨λf hf=>?_,h.gam.nd,h.gam.ty⟩ ?_ ⟨cs,x.sk.mono (λu p=>⟨a6,p.2.1,by rw[B];exact p.2.2⟩) λu p=>s4 u a6,?_⟩ x.gd x.cz
  .have:(List.map RR (Γ++ex)).take Γ.length=Γ.map RR:=by rw[wm,R1 o6]
   rw[this]at y;exact y.JO (λu p=>y.own p) λu p=>s4 u (y.own p).2
  .exact x.gam.nm f (n_ _ hf)
  .rw[Sd,B];rcases x.sd with h|h
   .exact .inl h
   .exact .inr λu p=>by have:=h u p;omega
  .refine FQ.mono (λu p=>⟨⟨by have:=p.1;omega,p.2.1,by rw[B];exact p.2.2.1⟩,p.2.2.2⟩) (λu p=>s4 u (by have:=p.1;omega)) x.ts
abbrev AEB:∀d,d<1000->ANq G gp d/\AAv G gp d
 |0,f=>by have h:=ALP (G:=G) (gp:=gp) 0 f λg e=>a6;exact⟨h,AI7 0 f h⟩
 |d+1,f=>by
  have i:=(AEB d a6).2;have h:=ALP (G:=G) (gp:=gp) (d+1) f λg e=>by have k:d=g:=a6;subst k;exact i
  exact⟨h,AI7 (d+1) f h⟩
end
abbrev AA2{s:St}(Δ:aAm):∀{Γ:aAm},Cg s Γ=some t->Cg s (Γ++Δ)=some t
 |[],h=>by cases h
 |f::l,h=>by
  have h:(bif decide (f.nm=s)then some f.ty else Cg s l)=some t:=h;show(bif decide (f.nm=s)then some f.ty else Cg s (l++Δ))=some t;cases d:decide (f.nm=s)with
  |true=>rw[d]at h;exact h
  |false=>rw[d]at h;exact AA2 Δ h
variable{x:Kx}{nm:St}{ty:Ty}
abbrev APP{Γ Δ:aAm}(kind:Nat)(h:kind≠6)(ks:aAv):T9 x Γ kind nm ty ks=T9 x Δ kind nm ty ks:=by
 match kind,h with
 |0,_=>rcases ks with _|⟨a,_|⟨b,_|⟨c,l⟩⟩⟩<;>rfl
 |1,_=>rcases ks with _|⟨a,_|⟨b,_|⟨c,l⟩⟩⟩<;>rfl
 |2,_=>rcases ks with _|⟨a,_|⟨b,_|⟨c,l⟩⟩⟩<;>rfl
 |3,_=>rcases ks with _|⟨a,_|⟨b,_|⟨c,l⟩⟩⟩<;>rfl
 |4,_=>rcases ks with _|⟨a,_|⟨b,_|⟨c,l⟩⟩⟩<;>rfl
 |5,_=>rcases ks with _|⟨a,_|⟨b,_|⟨c,l⟩⟩⟩<;>rfl
 |6,h=>exact absurd rfl h
 |7,_=>rcases ks with _|⟨a,_|⟨b,_|⟨c,l⟩⟩⟩<;>rfl
 |8,_=>rcases ks with _|⟨a,_|⟨b,_|⟨c,l⟩⟩⟩<;>rfl
 |9,_=>rcases ks with _|⟨a,_|⟨b,_|⟨c,l⟩⟩⟩<;>rfl
 |10,_=>rcases ks with _|⟨a,_|⟨b,_|⟨c,l⟩⟩⟩<;>rfl
 |11,_=>rcases ks with _|⟨a,_|⟨b,_|⟨c,l⟩⟩⟩<;>rfl
 |12,_=>rcases ks with _|⟨a,_|⟨b,_|⟨c,l⟩⟩⟩<;>rfl
 |13,_=>rcases ks with _|⟨a,_|⟨b,_|⟨c,l⟩⟩⟩<;>rfl
 |14,_=>rcases ks with _|⟨a,_|⟨b,_|⟨c,l⟩⟩⟩<;>rfl
 |15,_=>rcases ks with _|⟨a,_|⟨b,_|⟨c,l⟩⟩⟩<;>rfl
 |16,_=>rcases ks with _|⟨a,_|⟨b,_|⟨c,l⟩⟩⟩<;>rfl
 |17,_=>rcases ks with _|⟨a,_|⟨b,_|⟨c,l⟩⟩⟩<;>rfl
 |18,_=>rcases ks with _|⟨a,_|⟨b,_|⟨c,l⟩⟩⟩<;>rfl
 |19,_=>rcases ks with _|⟨a,_|⟨b,_|⟨c,l⟩⟩⟩<;>rfl
 |20,_=>rcases ks with _|⟨a,_|⟨b,_|⟨c,l⟩⟩⟩<;>rfl
 |k+21,_=>rcases ks with _|⟨a,_|⟨b,_|⟨c,l⟩⟩⟩<;>rfl
abbrev AJk{Γ:aAm}(Δ:aAm){kind:Nat}{ks:aAv}{p:Ty×St}(h:T9 x Γ kind nm ty ks=some p):T9 x (Γ++Δ) kind nm ty ks=some p:=by
 by_cases d:kind=6
 .subst d;cases ks with
  |nil=>
   have⟨t,f,g⟩:=d_.1 (show(Cg nm Γ).map (λt=>(t,((0,0):St)))=some p from h);show(Cg nm (Γ++Δ)).map (λt=>(t,((0,0):St)))=some p;rw[AA2 Δ f,<-g];rfl
  |cons a l=>cases h
 .rw[APP (Δ:=Γ) kind d];exact h
mutual
theorem AEE{x:Kx}{Γ:aAm}(Δ:aAm):∀{e e':Te},ckE x Γ e=some e'->ckE x (Γ++Δ) e=some e'
 |.mk kind num nm ty of own kids,e',h=>by obtain⟨ks,p,h1,h2,rfl,h0⟩:=uI h;exact AMR h0 (AEu Δ h1) (AJk Δ h2)
theorem AEu{x:Kx}{Γ:aAm}(Δ:aAm):∀{l l':aAq},jj x Γ l=some l'->jj x (Γ++Δ) l=some l'
 |[],l',h=>by rw[jj]at h⊢;exact h
 |e::l,l',h=>by obtain⟨e',t,h1,h2,rfl⟩:=Vg h;rw[jj,AEE Δ h1];show((jj x (Γ++Δ) l).map λl'=>e'::l')=_;rw[AEu Δ h2];rfl
end
abbrev Gd.more{inn:St}{Γ:aAm}{e:Te}(Δ:aAm)(h:Gd inn Γ e t):Gd inn (Γ++Δ) e t:=λx d=>by have⟨f,g,i⟩:=h x d;exact⟨f,AEE Δ g,i⟩
def L3:Nat->aAv->aAm
 |_,[]=>[]
 |i,t::l=>⟨nmP i,t⟩::L3 (i+1) l
abbrev Zc:∀(i:Nat) (ts:aAv),(L3 i ts).length=ts.length
 |_,[]=>rfl
 |i,_::l=>by show(L3 (i+1) l).length+1=_;rw[Zc (i+1) l];rfl
abbrev AEt:∀(i:Nat) (ts:aAv) (j:Nat) (t:Ty),ts[j]? =some t->(L3 i ts)[j]? =some ⟨nmP (i+j),t⟩
 |_,[],j,t,h=>by simp at h
 |i,a::l,0,t,h=>by cases h;rfl
 |i,a::l,j+1,t,h=>by have:=AEt (i+1) l j t (by simpa using h);rw[show i+(j+1)=i+1+j by omega];exact this
abbrev Zu:∀(i:Nat) (ts:aAv) (f:BU),f∈L3 i ts->(∃j,i<=j/\f.nm=nmP j)/\f.ty∈ts
 |_,[],f,h=>by cases h
 |i,a::l,f,h=>by
  rcases qk.1 (show f∈⟨nmP i,a⟩::L3 (i+1) l from h)with rfl|h
  .exact⟨⟨i,ea _,rfl⟩,u_ ..⟩
  .obtain⟨⟨j,k,d⟩,g⟩:=Zu (i+1) l f h;exact⟨⟨j,a6,d⟩,c_ _ g⟩
abbrev yX:∀(i:Nat) (ts:aAv),((L3 i ts).map BU.nm).Nodup
 |_,[]=>List.nodup_nil
 |i,a::l=>by show(nmP i::(L3 (i+1) l).map BU.nm).Nodup;rw[R_];refine⟨λh=>?_,yX (i+1) l⟩;have⟨f,g,k⟩:=_c.1 h;have⟨⟨j,m,d⟩,_⟩:=Zu (i+1) l f g;have:=AQR (k.symm.trans d);omega
abbrev AJ3{ts:aAv}(h:∀t∈ts,GW t)(m:Nat):Gam (L3 0 ts) m:=
 ⟨λf d=>by have⟨⟨j,_,g⟩,_⟩:=Zu 0 ts f d;exact .inl ⟨j,g⟩,yX 0 ts,λf d=>h _ (Zu 0 ts f d).2⟩
abbrev ARv(j:Nat):V.str 2 (112+256*AAs [97+j])=(nmP j).v:=rfl
abbrev take_snoc{d:Type}{l:List d}{j:Nat}{a:d}(h:l[j]? =some a):l.take (j+1)=l.take j++[a]:=by rw[List.take_add_one,h];rfl
abbrev tmZ:LV:=[iN 0,iN 0,.str 0 0,.bool false,.AT,.str 0 0,.bool false,.AT]
def Mg.md(s:Mg)(i:St)(vv:V):Mg:={s with inn:=i,vv:=vv}
structure Bm(H:Heap)(n b gp:Nat)(nm:St)(st:Bool)(ret:Ty)(vp vb:V):Prop where
 b1:T.get H b=some (one ret.cells)
 b2:T.get H (b+1)=some (one tmZ)
 b3:T.get H (b+2)=some (one (tmC 0 0 nm st vp ret vb))
 le:b+3<=n
 g:gp<b
def AHK(G:AQ)(H:Heap)(n gp:Nat)(s:Mg)(cls nm:St)(st:Bool)(ret:Ty)(ts:aAv)(k:KV):Prop:=
 ∀H' n' a nms l m,Fg gp H n H' n'->PA G H' gp ⟨s.vp,a,.AT,nms,bif st then(0,0)else cls⟩->a<=s.at'+100000->s.names<=nms->nms<=s.names+48->lQ G H' (Rg n n') l m->m.nm=nm->m.st=st->m.ret=ret->m.ps=L3 0 ts->GdM cls m->k (.agg l) H' n'
structure MJ(G:AQ)(gp b:Nat)(nm:St)(st:Bool)(ret:Ty)(H0:Heap)(s:Mg)(i:St)(ps:List BU)(H:Heap)(n:Nat)(vp vv:V):Prop where
 bx:Bm H n b gp nm st ret vp .AT
 old:∀id,id<b->id≠gp->T.get H id=T.get H0 id
 m:PA G H gp (s.md i vv)
 sp:Sk H 3 (λid=>b+3<=id/\id<n) vp (ps.map RR)
 sv:Sk H 3 (λid=>b+3<=id/\id<n/\vp.CD≠some id) vv (ps.map RR)
section
variable{G:AQ}{H0:Heap}{gp b:Nat}{s:Mg}{k:KV}{cls nm:St}{st:Bool}{ret:Ty}{ts:List Ty}
abbrev AHr{vp:V}(J:GW ret)(d5:∀t∈ts,GW t)(d6:ts.length<=3)(U:cls=nA∨cls=nB)(hs:s.at'+100000<10000000000)(i1:s.names+48<600)
 (hj:MJ G gp b nm st ret H0 s (bif st then(0,0)else cls) (L3 0 ts) H n vp vv) (hk:AHK G H0 b gp s cls nm st ret ts k):D1 lfp G (Runs F G) k (.ptr gp 0) (.ptr b 0) (.ptr (b+1) 0) (.ptr (b+2) 0) H n:=by
 delta D1;have⟨K,d7,m0,sp,sv⟩:=hj;have i2:=K.le;have hg:=K.g;generalize hi:(bif st then((0,0):St)else cls)=i at m0;have W:i=(0,0)∨i=nA∨i=nB:=by
  rw[<-hi];cases st
  .exact .inr U
  .exact .inl rfl
 have i3:(L3 0 ts).length<=3:=by rw[Zc];exact d6
 refine AB (Be K.b1) (AB (Be K.b1) ?_);refine EY m0 a6 a6 (by show s.at'<_;omega) λH1 r X hr Y m1 s1=>?_;have Y:X<=s.at'+1:=Y;have b1:T.get H1 b=_:=(s1 b a6).trans K.b1;refine AB (Be b1) (Ba (FH ret) (AB (Be b1) (Ba (FH ret) ?_)));rw[AWA (show 1+r<9223372036854775808 by omega),AJ];have L:∀d,vv.CD=some d->b+3<=d/\d<n/\vp.CD≠some d:=λd p=>sv.own p;have d8:Ms G H1 n gp ((s.md i vv).to X) (L3 0 ts):=⟨m1,a6,⟨sv.mono (λd h=>⟨h.2.1,a6⟩) λd h=>s1 d a6,a6⟩,AJ3 d5 _,W⟩;have M:cS 2=31500:=rfl;have x:ek 2=16:=rfl;refine(AEB (G:=G) (gp:=gp) 2 a6).2 (1+r) ret H1 n _ (L3 0 ts) _ a6 J d8 ?_ ?_ ?_ ?_
 .show X+(1+r)*cS 2<_;rw[M];omega
 .show s.names+(1+r)*ek 2<_;rw[x];omega
 .rw[x];omega
 intro Z n2 a2 A N vb d0 ex i4 f2 m2 O d1 P d9 Q R f0 f1 f5;have O:a2<=X+(1+r)*cS 2:=O;have d1:s.names<=A:=d1;have P:A<=s.names+(1+r)*ek 2:=P;rw[M]at O;rw[x]at P;have f2:Fv gp vv H1 n Z n2:=f2;have R:Sd n vv N:=R;have i5:=f2.le;have d2:∀d,d<b+3->d≠gp->T.get Z d=T.get H d:=λd S C=>(f2.same d a6 C λe=>by have:=L d e;omega).trans (s1 d C);have b2:=(d2 b a6 a6).trans K.b1;refine AB (Be b2) (Ba (FH ret) ?_);have f6:Ms G Z n2 gp (((s.md i vv).to X).st a2 A N) (L3 0 ts):=⟨m2,a6,d9,Q,W⟩;have e2:cst 2=130:=rfl;refine Jg 2 a6 ret Z n2 _ (L3 0 ts) _ J f6.mk' (by show a2+cst 2+2<_;omega) λH3 D a3 l e f3 m3 PW he f7 hz=>?_;have PW:a3<=a2+cst 2:=PW;have f8:=f3.le;refine RD he f8 λH4 f4 f9=>?_;rw[show BT ttZ [(0,1,.c (iN 6)),(6,1,.c (.sl D 0 1 1 11))]=some (.agg (ttC 6 0 0 (0,0) IY (.sl D 0 1 1 11) .AT .AT))from rfl,AJ];have E:Fg gp Z n2 H4 (D+1):=f3.trans (.kp f4);have⟨cs,g0,d3⟩:=f0;have i6:∀d,N.CD=some d->d<b∨b+3<=d:=λd p=>by
  rcases R with h|h
  .have:=L d (h.symm.trans p);omega
  .have:=h d p;omega
 have w:Sk H4 9 (λd=>n<=d/\d<n2) vb cs:=g0.mono (λd h=>⟨h.1,h.2.1⟩) λd h=>E.same d h.2.1 (by have:=h.1;omega);have g1:=d3.len;refine w.app (bs:=136) (c:=.agg (ttC 6 0 0 (0,0) IY (.sl D 0 1 1 11) .AT .AT)) (m:=0) (λd p=>by have:=(w.own p).2;omega) a6 rfl rfl (by rw[g1];omega) λv' H5 g2 q i0=>?_;have WS:∀d,d<b+3->d≠gp->T.get H5 d=T.get H d:=λd S C=>(q d a6 λe=>by have:=(w.own e).1;omega).trans ((E.same d a6 C).trans (d2 d S C));have m5:T.get H5 gp=_:=(q gp a6 λe=>by have:=(w.own e).1;omega).trans ((f4.same gp a6).trans m3.g);have g5:=(WS (b+2) a6 a6).trans K.b3;have f:=g2 (λd=>b+3<=d/\d<D+1+2) ⟨a6,a6⟩;rw[AP,AJ];refine FK (off:=0+7) (m:=1) (v:=v') g5 f.ok.1 (by rw[f.ok.2.1];rfl) a6 (by show 0+7+1<=8;omega) λH6 g6 s6=>?_;rw[f.ok.2.1]at g6;rw[BG,AJ,AP,AJ];have m6:T.get H6 gp=_:=(s6 gp a6).trans m5;refine FK (off:=0+2) (m:=1) (v:=.AT) m6 rfl rfl a6 (by show 0+2+1<=5;omega) λH7 g7 s7=>?_;have q7:T.get H7 (b+2)=_:=(s7 (b+2) a6).trans g6;refine AB (As (m:=8) q7 a6 rfl) ?_;have g3:T.get H7 (b+1)=some (one tmZ):=(s7 (b+1) a6).trans ((s6 (b+1) a6).trans ((WS (b+1) a6 a6).trans K.b2));refine BX g3 rfl rfl a6 λH8 g8 s8=>?_;rw[By (m:=8) g8 a6 rfl];simp only[go_sem];have I:∀d,b+3<=d->T.get H8 d=T.get H5 d:=λd h=>(s8 d a6).trans ((s7 d a6).trans (s6 d a6));refine hk H8 (D+1+2) a3 A _ ⟨nm,st,L3 0 ts,ret,d0++[.mk 6 (0,0) IY [e] [] []]⟩ ?_ (by rw[hi];exact⟨(s8 gp a6).trans g7,m3.pk⟩) a6 a6 a6 (.mk 0 0 (vp:=vp) (vb:=v') ?_ ?_) rfl rfl rfl rfl ?_
 .refine⟨a6,λd S C=>?_⟩;exact(s8 d a6).trans ((s7 d C).trans ((s6 d a6).trans ((WS d a6 C).trans (d7 d S C))))
 .have g4:∀d,vp.CD=some d->T.get H8 d=T.get H d:=λd p=>by have S:=sp.own p;refine(I d S.1).trans ((q d a6 λe=>by have:=(w.own e).1;omega).trans ((E.same d a6 a6).trans ((f2.same d a6 a6 λe=>?_).trans (s1 d a6))));exact(L d e).2.2 p
  have y:=sp.JO (B:=Rg b (D+1+2)) (H':=H8) (λd p=>by have:=sp.own p;exact⟨a6,a6⟩) g4;exact⟨y.el a6,y.ks,y.ok.1,y.ok.2.1,λd p=>y.own p⟩
 .refine⟨cs++[ttC 6 0 0 (0,0) IY (.sl D 0 1 1 11) .AT .AT],?_,f.ks,f.ok.1,f.ok.2.1,λd p=>by have:=f.own p;exact⟨a6,this.2⟩,FQ.app (FQ.mono (λd h=>?_) (λd h=>?_) d3) (.cons (Vy.of ?_ .nil .nil) .nil)⟩
  .exact(f.mono (B:=λd=>b+3<=d/\d<D+1+2) (λ_ h=>h) λd h=>I d h.1).el a6
  .exact⟨by have:=h.1.1;omega,by have:=h.1.2.1;omega⟩
  .exact(I d (by have:=h.1.1;omega)).trans ((q d (by have:=h.1.2.1;omega) h.2).trans (E.same d h.1.2.1 (by have:=h.1.1;omega)))
  .exact f9.mono (λd h=>⟨by have:=h.1;omega,by have:=h.2;omega⟩) λd h=>(I d (by have:=h.1;omega)).trans (q d h.2 λe=>by have:=(w.own e).2;have:=h.1;omega)
 .obtain⟨u,hu,g9,_⟩:=f7.ex;refine GdM.mk (k:=(1+r)*ek 2+0) (inn:=i) (yX 0 ts) (by rw[x];omega) (λd4=>?_) (f1.snoc (pP.rtn (g9.more ex) hu)).blk (by rw[uk];show d0.length+1<=1000;omega) (by rw[x,M]at f5;rw[e2]at hz;simp only[AEN,F2,Tt.cz,OG,czD];simp;omega);rw[<-hi]at d4⊢;cases st with
  |true=>exact absurd rfl d4
  |false=>exact⟨rfl,rfl⟩
end
section
variable{G:AQ}{H0:Heap}{gp b:Nat}{s:Mg}{k:KV}{cls nm:St}{st:Bool}{ret:Ty}{ts:List Ty}
abbrev yK{R v0:V}(d2:GW ret)(g0:∀t∈ts,GW t)(g2:ts.length<=3)(d3:cls=nA∨cls=nB)(hs:s.at'+100000<10000000000)(g8:s.names+48<600)
 (Y:Bm H n b gp nm st ret .AT .AT) (old:∀id,id<b->id≠gp->T.get H id=T.get H0 id) (m0:PA G H gp (s.md (bif st then(0,0)else cls) v0)) (d4:El G H R 2 (ts.map Ty.cells)) (d5:∀id,R.CD=some id->id<b/\id≠gp)
 (hk:AHK G H0 b gp s cls nm st ret ts k):Cu lfp G (Runs F G) k (.ptr gp 0) R (.ptr b 0) (.ptr (b+1) 0) (.ptr (b+2) 0) H n:=by
 delta Cu;have i6:=Y.le;have hg:=Y.g;rw[BG,AJ,AP,AJ];refine FK (off:=0+2) (m:=1) (v:=.AT) m0.g rfl rfl a6 (by show 0+2+1<=5;omega) λH1 g1 s1=>?_;have i0:El G H1 R 2 (ts.map Ty.cells):=d4.same λid d=>s1 id (d5 id d).2;have S:=i0.len;rw[uc]at S;rw[S,AJ];refine BL (N:=ts.length) (J:=λj q=>∃H' n' vp U,q=(.ptr gp 0,.ptr b 0,.ptr (b+1) 0,.ptr (b+2) 0,R,iN ts.length,iN j,H',n')/\MJ G gp b nm st ret H0 s (bif st then(0,0)else cls) ((L3 0 ts).take j) H' n' vp U) ?_ ?_
  ⟨H1,n,.AT,.AT,rfl,⟨(s1 b a6).trans Y.b1,(s1 (b+1) a6).trans Y.b2,(s1 (b+2) a6).trans Y.b3,Y.le,Y.g⟩,λid D E=>(s1 id E).trans (old id D E),⟨g1,m0.pk⟩,.nil,.nil⟩
 .rintro I j q Z ⟨H2,y,vp,U,rfl,⟨K,W,m2,sp,sv⟩⟩ ih;show Ct lfp G (Runs F G) k I (.ptr gp 0) (.ptr b 0) (.ptr (b+1) 0) (.ptr (b+2) 0) R (iN ts.length) (iN j) H2 y;delta Ct;have i5:=K.le;have d6:El G H2 R 2 (ts.map Ty.cells):=d4.same λid d=>by have h:=d5 id d;exact(W id h.1 h.2).trans (old id h.1 h.2).symm
  have⟨p,i1,d7⟩:=d6.at (i:=j) (c:=ts[j].cells) (by simp[Z]);have X:(L3 0 ts)[j]? =some ⟨nmP j,ts[j]⟩:=by have:=AEt 0 ts j ts[j] (eb Z);rwa [t_]at this
  have w:=take_snoc X;have d8:((L3 0 ts).take j).length<=3:=by rw[xx,Zc];omega
  generalize ts[j]=t at d7 X w;generalize(L3 0 ts).take j=ps at sp sv w d8;rw[D9,AJ,ui Z,Ah];refine AB i1 (AB (BZ d7) ?_);refine Ao rfl λH3 f3 g3=>?_;refine BX g3 rfl rfl a6 λH4 g4 s4=>?_;have d9:Kp H2 y H4 (y+1):=⟨f3.le,λid d=>(s4 id a6).trans (f3.same id d)⟩;refine AB (AWl j a6) (AB (AKr j a6) ?_);refine L6 (G:=G) (vs:=[.int .u8 (.ofNat (97+j)) 0]) rfl a6 (λv hv=>by simp at hv;subst hv;exact⟨rfl,rfl⟩) λH5 f5 _ f0=>?_;refine AB (AQ4 (xs:=[97+j]) f0 (λx hx=>by simp at hx;omega)) ?_;refine AB (ASI _) ?_;rw[ARv];have g5:=f5.get g4 a6;refine AB (As (m:=2) g5 a6 rfl) ?_;rw[show BT [.str 0 0,.str 0 0,.bool false] [(0,1,.c (nmP j).v),(1,2,.c (.agg t.cells))]=some (.agg (RR ⟨nmP j,t⟩))from rfl,AJ];refine Ao rfl λH6 f6 g6=>?_;refine BX g6 rfl rfl a6 λH7 g7 s7=>?_;have f1:Kp H5 (y+1+1) H7 (y+1+1+1):=⟨f6.le,λid d=>(s7 id a6).trans (f6.same id d)⟩;have A:=(d9.trans f5).trans f1;clear f3 g3 g4 s4 d9 f5 f0 g5 f6 g6 s7 f1;generalize hn7:y+1+1=n7 at*;have b3:=A.get K.b3 a6;rw[AP,AJ];refine AB (AK (off:=0+4) b3 (v:=vp) rfl) ?_;refine AB (As (m:=3) g7 a6 rfl) ?_;have d0:Sk H7 3 (λid=>b+3<=id/\id<y) vp (ps.map RR):=sp.mono (λ_ h=>h) λid h=>A.same id h.2;refine d0.app (bs:=40) (c:=.agg (RR ⟨nmP j,t⟩)) (m:=0) (λid d=>by have:=(d0.own d).2;omega) a6 rfl rfl (by rw[uc];omega) λL H8 i2 B C=>?_;have k8:∀id,id<n7+1->id<b+3∨y<=id->T.get H8 id=T.get H7 id:=λid D E=>B id D λe=>by have:=d0.own e;omega
  have u:=i2 (λid=>b+3<=id/\id<n7+1+2) ⟨a6,a6⟩;rw[AJ];refine FK (off:=0+4) (m:=1) (v:=L) ((k8 (b+2) a6 (.inl a6)).trans b3) u.ok.1 (by rw[u.ok.2.1];rfl) a6 (by show 0+4+1<=8;omega) λH9 g9 s9=>?_;rw[u.ok.2.1]at g9;rw[BG,AJ,AP,AJ];have m9:T.get H9 gp=_:=(s9 gp a6).trans ((k8 gp a6 (.inl a6)).trans (A.get m2.g a6));refine AB (AK (off:=0+2) m9 (v:=U) rfl) ?_;have q9:T.get H9 n7=_:=(s9 n7 a6).trans ((k8 n7 a6 (.inr a6)).trans g7);refine AB (As (m:=3) q9 a6 rfl) ?_;have i3:∀id,U.CD=some id->T.get H9 id=T.get H2 id:=λid d=>by have h:=sv.own d;exact(s9 id a6).trans ((B id a6 h.2.2).trans (A.same id h.2.1))
  have M:Sk H9 3 (λid=>b+3<=id/\id<y/\L.CD≠some id) U (ps.map RR):=sv.JO (λid d=>by have h:=sv.own d;exact⟨h.1,h.2.1,λe=>by rw[C]at e;cases e;omega⟩) i3
  refine M.app (bs:=40) (c:=.agg (RR ⟨nmP j,t⟩)) (m:=0) (λid d=>by have:=(M.own d).2.1;omega) a6 rfl rfl (by rw[uc];omega) λf2 i4 f4 O f9=>?_;have P:∀id,id<n7+1+2->U.CD≠some id->T.get i4 id=T.get H9 id:=λid D E=>O id D E;have f:=f4 (λid=>b+3<=id/\id<n7+1+2+2/\L.CD≠some id) ⟨a6,a6,λe=>by rw[C]at e;have:=e_ e;omega⟩;have qo:∀id,id<b+3->U.CD≠some id:=λid h e=>by have:=M.own e;omega
  rw[AJ,AP,AJ];refine FK (off:=0+2) (m:=1) (v:=f2) ((P gp a6 (qo gp a6)).trans m9) f.ok.1 (by rw[f.ok.2.1];rfl) a6 (by show 0+2+1<=5;omega) λf7 f8 Q=>?_;rw[f.ok.2.1]at f8;rw[CA a6,AJ];have d1:∀id,id<b+3->id≠gp->id≠b+2->T.get f7 id=T.get H2 id:=λid D E h3=>(Q id E).trans ((P id a6 (qo id D)).trans ((s9 id h3).trans ((k8 id a6 (.inl D)).trans (A.same id a6))));refine ih _ ⟨f7,n7+1+2+2,L,f2,rfl,⟨(d1 b a6 a6 a6).trans K.b1,(d1 (b+1) a6 a6 a6).trans K.b2,(Q (b+2) a6).trans ((P (b+2) a6 (qo _ a6)).trans g9),a6,hg⟩,
   λid D E=>(d1 id a6 E a6).trans (W id D E),⟨f8,m2.pk⟩,?_,?_⟩
  .rw[w,wm];exact u.JO (λid d=>by have:=u.own d;omega) λid d=>by have h:=u.own d;refine(Q id a6).trans ((P id h.2 λe=>?_).trans (s9 id a6));have:=(M.own e).2.2;exact this d
  .rw[w,wm];exact f.JO (λid d=>f.own d) λid d=>Q id (by have:=f.own d;omega)
 .rintro I q ⟨H2,y,vp,U,rfl,hj⟩;show Ct lfp G (Runs F G) k I (.ptr gp 0) (.ptr b 0) (.ptr (b+1) 0) (.ptr (b+2) 0) R (iN ts.length) (iN ts.length) H2 y;delta Ct;rw[D9,AJ,e9 (m_ _),AZ];rw[_d (by rw[Zc];exact ea _)]at hj;exact AHr d2 g0 g2 d3 hs g8 hj hk
abbrev AM2{M:V}(p:GW ret)(y:∀t∈ts,GW t)(A:ts.length<=3)(q:cls=nA∨cls=nB)(Q:s.at'+100000<10000000000)(B:s.names+48<600)
 (m:PA G H gp s) (w:gp<n) (C:El G H M 2 (ts.map Ty.cells)) (i:∀d,M.CD=some d->d<n/\d≠gp) (R:AHK G H n gp s cls nm st ret ts k):
 Runs F G CJ [.ptr gp 0,cls.v,nm.v,.bool st,ret.v,M] H n k:=by
 refine go6 (Wx Ae G) ?_;delta OP;refine BE λH1 X E=>?_;refine Ao rfl λH2 S Y=>?_;have E:=S.get E a6;refine AB (Be E) ?_;rw[show BT tmZ [(2,1,.c nm.v),(3,1,.c (.bool st)),(5,2,.c ret.v)]=some (.agg (tmC 0 0 nm st .AT ret .AT))from rfl,AJ];refine Ao rfl λH3 f3 Z=>?_;refine BX Z rfl rfl a6 λN g4 O=>?_;have D:Kp H n N (n+1+1+1):=(X.trans S).trans ⟨f3.le,λd f=>(O d a6).trans (f3.same d f)⟩;have b1:T.get N n=_:=(O n a6).trans (f3.get E a6);have b2:T.get N (n+1)=_:=(O (n+1) a6).trans (f3.get Y a6);have m4:=D.get m.g w;rw[BG,AJ,AP,AJ];refine FK (off:=0+4) (m:=1) (v:=cls.v) m4 rfl rfl a6 (by show 0+4+1<=5;omega) λU W I=>?_;have J:Bm U (n+1+1+1) n gp nm st ret .AT .AT:=⟨(I n a6).trans b1,(I (n+1) a6).trans b2,(I (n+1+1) a6).trans g4,a6,w⟩;have x:∀d,d<n->d≠gp->T.get U d=T.get H d:=λd P K=>(I d K).trans (D.same d P);cases st with
 |false=>
  rw[AZ];exact yK (v0:=s.vv) p y A q Q B J x ⟨W,m.pk⟩ (C.same λd f=>x d (i d f).1 (i d f).2) i R
 |true=>
  rw[Ah,AJ,AP,AJ];refine FK (off:=0+4) (m:=1) (v:=.str 0 0) W rfl rfl a6 (by show 0+4+1<=5;omega) λH6 g6 L=>?_;have u:∀d,d<n->d≠gp->T.get H6 d=T.get H d:=λd P K=>(L d K).trans (x d P K);exact yK (v0:=s.vv) p y A q Q B ⟨(L n a6).trans J.b1,(L (n+1) a6).trans J.b2,(L (n+2) a6).trans J.b3,a6,w⟩ u ⟨g6,m.pk⟩ (C.same λd f=>u d (i d f).1 (i d f).2) i R
end
structure Cl(G:AQ)(H:Heap)(n gp c:Nat)(D:Nat->Prop)(nm sup:St)(fs:List BU)(ms:List Tm):Prop where
 lt:∀id,D id->gp<id/\id<n
 dc:D c
 ex:∃vf vm cs,T.get H c=some (one (tcC 0 0 nm sup vf vm))/\AF7 G H (λid=>D id/\id≠c/\vm.CD≠some id) vf fs/\Sk H 8 (λid=>D id/\id≠c) vm cs/\JW G H (λid=>D id/\id≠c/\vm.CD≠some id) cs ms
variable{D:Nat->Prop}{fs:List BU}{ms:List Tm}
abbrev Cl.same{sup:St}{fs:aAm}{ms:aAz}(h:Cl G H n gp c D nm sup fs ms)(g:n<=n')(f:∀id,D id->T.get H' id=T.get H id):Cl G H' n' gp c D nm sup fs ms:=by have⟨i,k,m,p,q,u,v⟩:=h.ex;exact⟨λid d=>⟨(h.lt id d).1,b_ (h.lt id d).2 g⟩,h.dc,i,k,m,(f c h.dc).trans p,q.mono (λ_ h=>h) λid d=>f id d.1,u.mono (λ_ h=>h) λid d=>f id d.1,JW.mono (λ_ h=>h) (λid d=>f id d.1) v⟩
abbrev Cl.kp{sup:St}{fs:aAm}{ms:aAz}(h:Cl G H n gp c D nm sup fs ms)(f:Kp H n H' n'):Cl G H' n' gp c D nm sup fs ms:=
 h.same f.le λg d=>f.same g (h.lt g d).2
def Mg.z(vp:V)(a nms:Nat)(i:St):Mg:=⟨vp,a,.AT,nms,i⟩
structure jU(cls:St)(m:Tm)(q:Bk):Prop where
 nm:m.nm=q.nm
 st:m.st=q.st
 ret:m.ret=q.ret
 ps:m.ps=L3 0 q.ps
 gd:GdM cls m
def Shape(G:AQ)(SH:V->V->(V->V->Heap->Nat->Prop)->Heap->Nat->Prop)(q:Bk):Prop:=
 ∀(H:Heap) (n:Nat) (p w:V) (K:V->V->Heap->Nat->Prop),(∀H' n',Kp H n H' n'->AM p G H'=some w)->Ak w w=true->
  (∀H' n' v5,Kp H n H' n'->El G H' v5 2 (q.ps.map Ty.cells)->(∀id,v5.CD=some id->n<=id/\id<n')->K q.ret.v v5 H' n')->SH p w K H n
section
variable{G:AQ}
abbrev AV6(G:AQ):V->V->(V->V->Heap->Nat->Prop)->Heap->Nat->Prop:=λp w K H n=>
 Runs F G A4 [] H n λv15 H n=>AD (AM p G H) λv=>B7 (Ak v w) <| Runs F G A4 [] H n λv16 H n=>AD (AM p G H) λv=>B7 (Ak v w) <|
 Au (AY 2 1 [.str 0 0,.bool false] [(0,.c v16)] E0) H n λv17 H n=>K v15 v17 H n
abbrev AIm:Shape G (AV6 G) Hp:=λH n p w K k m u=>
 Hg λy A d=>AB (k _ _ d) (Ba m (Hg λB C f=>AB (k _ _ (d.trans f)) (Ba m (L6 (G:=G) (vs:=[BY.v]) rfl a6 (λv q=>by simp at q;subst q;exact⟨rfl,rfl⟩) λx f3 _ g=>
  u x _ _ ((d.trans f).trans f3) g λD i=>by cases i;have:=d.le;have:=f.le;omega))))
abbrev AUR(G:AQ):V->V->(V->V->Heap->Nat->Prop)->Heap->Nat->Prop:=λp w K H n=>
 Runs F G CN [.str 1 65] H n λv25 H n=>AD (AM p G H) λv=>B7 (Ak v w) <| K v25 .AT H n
abbrev ANT:Shape G (AUR G) TO:=λH n p w K g i k=>
 U0 (l:=1) (c:=65) λm q f=>AB (g _ _ f) (Ba i (k m q .AT f uG λu d=>by cases d))
abbrev AWt(G:AQ):V->V->(V->V->Heap->Nat->Prop)->Heap->Nat->Prop:=λp w K H n=>
 Runs F G A4 [] H n λv33 H n=>AD (AM p G H) λv=>B7 (Ak v w) <| Runs F G A4 [] H n λv34 H n=>AD (AM p G H) λv=>B7 (Ak v w) <|
 Runs F G CN [.str 1 65] H n λv35 H n=>AD (AM p G H) λv=>B7 (Ak v w) <| Au (AY 2 2 [.str 0 0,.bool false] [(0,.c v34),(1,.c v35)] E0) H n λv36 H n=>K v33 v36 H n
abbrev AIP:Shape G (AWt G) IB:=λH n p w K g i x=>
 Hg λA B d=>AB (g _ _ d) (Ba i (Hg λC D f=>AB (g _ _ (d.trans f)) (Ba i (U0 (l:=1) (c:=65) λE F k=>AB (g _ _ ((d.trans f).trans k)) (Ba i
  (L6 (G:=G) (vs:=[BY.v,tA.v]) rfl a6 (λv u=>by simp at u;rcases u with rfl|rfl<;>exact⟨rfl,rfl⟩) λy f3 _ m=>
  x y _ _ (((d.trans f).trans k).trans f3) m λI q=>by cases q;have:=d.le;have:=f.le;have:=k.le;omega))))))
abbrev ASZ(G:AQ):V->V->(V->V->Heap->Nat->Prop)->Heap->Nat->Prop:=λp w K H n=>
 Runs F G A4 [] H n λv33 H n=>AD (AM p G H) λv=>B7 (Ak v w) <| Runs F G A4 [] H n λv34 H n=>AD (AM p G H) λv=>B7 (Ak v w) <|
 Runs F G A4 [] H n λv35 H n=>AD (AM p G H) λv=>B7 (Ak v w) <| Au (AY 2 2 [.str 0 0,.bool false] [(0,.c v34),(1,.c v35)] E0) H n λv36 H n=>K v33 v36 H n
abbrev AN4:Shape G (ASZ G) Xo:=λH n p w K g i x=>
 Hg λA B d=>AB (g _ _ d) (Ba i (Hg λC D f=>AB (g _ _ (d.trans f)) (Ba i (Hg λE F k=>AB (g _ _ ((d.trans f).trans k)) (Ba i
  (L6 (G:=G) (vs:=[BY.v,BY.v]) rfl a6 (λv u=>by simp at u;subst u;exact⟨rfl,rfl⟩) λy f3 _ m=>
  x y _ _ (((d.trans f).trans k).trans f3) m λI q=>by cases q;have:=d.le;have:=f.le;have:=k.le;omega))))))
end
section
variable{G:AQ}{H:Heap}{n gp c:Nat}{D:Nat->Prop}{cls cnm sup:St}{fs:List BU}{ms:List Tm}{vp:V}{a nms:Nat}{i:St}
abbrev uL{SH:V->V->(V->V->Heap->Nat->Prop)->Heap->Nat->Prop}{q:Bk}{P:Heap->Nat->Prop}(Z:Shape G SH q)(E:GW q.ret)(d0:∀t∈q.ps,GW t)(d1:q.ps.length<=3)(I:cls=nA∨cls=nB)
 (hs:a+100000<10000000000) (d2:nms+48<600) (g5:ms.length<=100) (h:Cl G H n gp c D cnm sup fs ms) (m:PA G H gp (Mg.z vp a nms i)) (d3:gp<n)
 (hk:∀x J a' y i' S,n<=J->(∀id,id<n->id≠gp->¬D id->T.get x id=T.get H id)->Cl G x J gp c (λid=>D id∨(n<=id/\id<J)) cnm sup fs (ms++[S])->PA G x gp (Mg.z vp a' y i')->a'<=a+100000->y<=nms+48->jU cls S q->P x J):
 AD (AG 5 (.ptr c 0)) λA=>AD (AM A G H) λB=>SH A B (λd4 d5 H n=>Runs F G CJ [.ptr gp 0,cls.v,q.nm.v,.bool q.st,d4,d5] H n λd6 H n=>
  AD (AM A G H) λv=>B7 (Ak v B) <| Au (AY 8 1 tmZ [(0,.c d6)] E0) H n λd7 H n=>Ey 8 112 B d7 G H n λd8 H n=>AD (AG 5 (.ptr c 0)) λd9=>A1 1 d9 d8 H n λ_ H n=>P H n) H n:=by
 have⟨vf,C,cs,g0,f0,K,L⟩:=h.ex;have hc:=h.lt c h.dc;rw[AP,AJ];have q0:∀{x:Heap},T.get x c=some (one (tcC 0 0 cnm sup vf C))->AM (.ptr c (0+5)) G x=some C:=λg=>AK (off:=0+5) g rfl;refine AB (q0 g0) ?_;have M:=K.ok.2.2;refine Z H n _ _ _ (λx J f=>q0 (f.get g0 hc.2)) M λH1 n1 v5 U f3 f4=>?_;have g6:=U.le;refine AM2 (s:=Mg.z vp a nms i) E d0 d1 I hs d2 ⟨U.get m.g d3,m.pk⟩ a6 f3 (λid d=>by have:=f4 id d;omega) λH2 W a2 N l S f2 m2 f5 g1 O ht e1 e2 e3 e4 e5=>?_;have g7:=f2.le;have g2:=f2.get (U.get g0 hc.2) a6 a6;refine AB (q0 g2) (Ba M ?_);have Q:Fg gp H n H2 W:=(Fg.kp U).trans f2;have u:Sk H2 8 (λid=>D id/\id≠c) C cs:=K.mono (λ_ h=>h) λid d=>by have:=h.lt id d.1;exact Q.same id this.2 a6
 have f6:=L.len;refine u.app (bs:=112) (c:=.agg l) (m:=0) (λid d=>by have:=h.lt id (u.own d).1;omega) a6 rfl ht.len (by rw[f6];omega) λv' H3 f7 p R=>?_;have k:=f7 (λid=>(D id∨(n<=id/\id<W+2))/\id≠c) ⟨.inr ⟨a6,a6⟩,a6⟩;have f8:C.CD≠some c:=λe=>(u.own e).2 rfl;have g3:T.get H3 c=_:=(p c a6 f8).trans g2;rw[AJ];refine FK (off:=0+5) (m:=1) (v:=v') g3 k.ok.1 (by rw[k.ok.2.1];rfl) a6 (by show 0+5+1<=6;omega) λH4 g4 X=>?_;rw[k.ok.2.1]at g4;have f9:C.CD≠some gp:=λe=>by have:=h.lt gp (u.own e).1;omega
 have v'ne:∀id,id<W+1->v'.CD≠some id:=λid h e=>by rw[R]at e;have:=e_ e;omega
 have w:∀id,id<n->id≠gp->id≠c->C.CD≠some id->T.get H4 id=T.get H id:=λid h1 h2 Y h4=>(X id Y).trans ((p id a6 h4).trans (Q.same id h1 h2));refine hk H4 (W+2) a2 N _ S a6 (λid h1 h2 Y=>w id h1 h2 (λe=>Y (e▸h.dc)) λe=>Y (u.own e).1) ⟨λid d=>?_,.inl h.dc,vf,v',cs++[l],g4,?_,?_,JW.app (JW.mono (λid d=>?_) (λid d=>?_) L) (.cons (ht.mono (λid d=>?_) λid d=>?_) .nil)⟩
  ⟨(X gp a6).trans ((p gp a6 f9).trans m2.g),m2.pk⟩ f5 O ⟨e1,e2,e3,e4,e5⟩
 .rcases d with d|d
  .have:=h.lt id d;omega
  .omega
 .exact f0.mono (λid d=>⟨.inl d.1,d.2.1,v'ne id (by have:=h.lt id d.1;omega)⟩) λid d=>by have:=h.lt id d.1;exact w id this.2 a6 d.2.1 d.2.2
 .exact k.JO (λid d=>k.own d) λid d=>X id (k.own d).2
 .exact⟨.inl d.1,d.2.1,v'ne id (by have:=h.lt id d.1;omega)⟩
 .have:=h.lt id d.1;exact w id this.2 a6 d.2.1 d.2.2
 .exact⟨.inr ⟨by have:=d.1;omega,by have:=d.2;omega⟩,by have:=d.1;omega,v'ne id (by have:=d.2;omega)⟩
 .exact(X id (by have:=d.1;omega)).trans (p id d.2 λe=>by have:=h.lt id (u.own e).1;have:=d.1;omega)
end
def fsA:aAm:=[⟨n_x,BY⟩,⟨my,tA⟩,⟨AGj,wN⟩]
def fsB:aAm:=[⟨Jd,A3⟩]
inductive Made:Tc->Tc->Prop where
 |mk {m1 m2 m3 m4:Tm} {bg bs:List Tm} (g s:Bool) (h1:jU nA m1 Hp) (h2:jU nA m2 TO) (h3:jU nA m3 IB) (h4:jU nA m4 Xo) (hg:bif g then ∃m,bg=[m]/\jU nB m Hp else bg=[]) (hs:bif s then ∃m,bs=[m]/\jU nB m IB else bs=[]):
  Made ⟨nA,(0,0),fsA,[m1,m2,m3,m4]⟩ ⟨nB,nA,fsB,bg++bs⟩
abbrev Cl.tc{sup:St}{fs:aAm}{ms:aAz}(h:Cl G H n gp c D nm sup fs ms):∃l,T.get H c=some (one l)/\WP G H D l ⟨nm,sup,fs,ms⟩:=by have⟨p,q,g,i,k,d,m⟩:=h.ex;exact⟨_,i,.mk 0 0 (k.mono (λ_ h=>h.1) λ_ _=>rfl) ⟨g,d.el a6,d.ks,d.ok.1,d.ok.2.1,λu f=>(d.own f).1,JW.mono (λ_ h=>h.1) (λ_ _=>rfl) m⟩⟩
abbrev tcZ:LV:=[iN 0,iN 0,.str 0 0,.str 0 0,.AT,.AT]
abbrev tI:GW BY:=.inl rfl
abbrev tAm:GW tA:=.inr (.inr (.inl rfl))
variable{H0:Heap}{n0:Nat}{DA:Nat->Prop}{g:Bool}
section
variable{G:AQ}{vp:V}{k:KV}
def AGe(G:AQ)(H0:Heap)(n0:Nat)(k:KV):Prop:=∀H' n' v lA lB A B,Kp H0 n0 H' n'->El G H' v 6 [lA,lB]->KS v->Rb v=true->At v=[v]->(∀id,v.CD=some id->Rg n0 n' id)->WP G H' (Rg n0 n') lA A->WP G H' (Rg n0 n') lB B->Made A B->k v H' n'
structure Tw(G:AQ)(H0:Heap)(n0:Nat)(H:Heap)(n ca cb:Nat)(DA DB:Nat->Prop)(vp:V)(a nms:Nat)(i:St)(msA msB:List Tm):Prop where
 A:Cl G H n n0 ca DA nA (0,0) fsA msA
 B:Cl G H n n0 cb DB nB nA fsB msB
 ne:∀id,DA id->¬DB id
 m:PA G H n0 (Mg.z vp a nms i)
 le:n0+1<=n
 old:∀id,id<n0->T.get H id=T.get H0 id
abbrev AE4{J C nms:Nat}{K:Nat->Prop}{i:St}{L M N:Tm}{y bs:aAz}{s:Bool}(h:Tw G H0 n0 H n J C DA K vp a nms i [L,M,N] (y++bs))(ha:a<=600000)(hn:nms<=300)
 (V:jU nA L Hp) (W:jU nA M TO) (X:jU nA N IB) (Y:bif g then ∃m,y=[m]/\jU nB m Hp else y=[]) (Z:bif s then ∃m,bs=[m]/\jU nB m IB else bs=[]) (hk:AGe G H0 n0 k):
 EC lfp G (Runs F G) k (.ptr n0 0) (.ptr J 0) (.ptr C 0) H n:=by
 delta EC;refine uL (q:=Xo) (cls:=nA) (vp:=vp) (a:=a) (nms:=nms) (i:=i) (AN4 (G:=G)) tI (λt O=>by simp[Xo]at O;subst O;exact tI) a_ (.inl rfl) a6 a6 (by show 3<=100;omega) h.A h.m (by have:=h.le;omega) ?_;intro H1 P a1 Q i1 m4 D same p mm d0 R sg;have u:Cl G H1 P n0 C K nB nA fsB (y++bs):=h.B.same D λf d=>by have:=h.B.lt f d;exact same f this.2 a6 λe=>h.ne f e d
 have⟨S,gA,w⟩:=p.tc;have⟨T,gB,x⟩:=u.tc;refine AB (As (m:=6) gA a6 w.len) (AB (As (m:=6) gB a6 x.len) ?_);refine L6 (G:=G) (vs:=[.agg S,.agg T]) rfl a6 (λv U=>by simp at U;rcases U with rfl|rfl;exact⟨rfl,w.len⟩;exact⟨rfl,x.len⟩) λH2 E _ I=>?_;have d1:=h.le;refine hk H2 (P+1) _ S T _ _ ⟨a6,λf d=>?_⟩ I (AA5 o_) rfl rfl (λf d=>by cases d;exact⟨a6,a6⟩) (w.mono (λf d=>?_) λf d=>?_) (x.mono (λf d=>?_) λf d=>?_) (Made.mk g s V W X sg Y Z)
 .exact(E.same f a6).trans ((same f a6 a6 λe=>by have:=h.A.lt f e;omega).trans (h.old f d))
 .have:=p.lt f d;exact⟨a6,a6⟩
 .exact E.same f (p.lt f d).2
 .have:=u.lt f d;exact⟨a6,a6⟩
 .exact E.same f (u.lt f d).2
abbrev ADz{x y nms:Nat}{N:Nat->Prop}{i:St}{C D E:Tm}{u:aAz}(h:Tw G H0 n0 H n x y DA N vp a nms i [C,D,E] u)(ha:a<=480000)(hn:nms<=250)
 (O:jU nA C Hp) (P:jU nA D TO) (Q:jU nA E IB) (w:bif g then ∃m,u=[m]/\jU nB m Hp else u=[]) (R:AGe G H0 n0 k):
 EE lfp G (Runs F G) k (.ptr n0 0) (.ptr x 0) (.ptr y 0) H n:=by
 delta EE;have V:=h.le;refine EY h.m a6 a6 (by show a<_;omega) λW r I hr v J K=>?_;have v:I<=a+1:=v;have p:Tw G H0 n0 W n x y DA N vp I nms i [C,D,E] u:=⟨h.A.same o_ λf d=>K f (by have:=h.A.lt f d;omega),h.B.same o_ λf d=>K f (by have:=h.B.lt f d;omega),h.ne,J,h.le,λf d=>(K f a6).trans (h.old f d)⟩;refine AB (A9 ..) ?_;cases h0:decide (r=0)with
 |false=>
  rw[AZ];exact AE4 (bs:=[]) (s:=false) (by rw[qs];exact p) a6 a6 O P Q w rfl R
 |true=>
  rw[Ah];refine uL (q:=IB) (cls:=nB) (vp:=vp) (a:=I) (nms:=nms) (i:=i) (AIP (G:=G)) tI (λt S=>by simp[IB]at S;rcases S with rfl|rfl;exact tI;exact tAm) a_ (.inr rfl) a6 a6 ?_ p.B p.m a6 ?_
  .cases g
   .rw[show u=[]from w];exact j_ _
   .obtain⟨m,rfl,_⟩:=w;show 1<=100;omega
  intro H2 n2 a2 T i2 mB L same M X Y U Z;refine AE4 (bs:=[mB]) (s:=true) (DA:=DA) ⟨p.A.same L λf d=>by have:=p.A.lt f d;exact same f this.2 a6 (h.ne f d),M,λf d e=>?_,X,a6,λf d=>(same f a6 a6 λe=>by have:=p.B.lt f e;omega).trans (p.old f d)⟩ a6 a6 O P Q w ⟨mB,rfl,Z⟩ R;rcases e with e|e
  .exact h.ne f d e
  .have:=p.A.lt f d;omega
abbrev AJi(hp:AWi G vp)(f8:vp=.AT∨∃b o l c z,vp=.rsl b o l c z)(hk:AGe G H n k):Runs F G Um [vp] H n k:=by
 refine go1 (iU Ae G) ?_;delta Ut;have hb:BT [.AT,iN 0,.AT,iN 0,.str 0 0] [(0,1,.c vp)]=some (.agg (Mg.z vp 0 0 (0,0)).cells):=by rcases f8 with rfl|⟨b,o,l,c,z,rfl⟩<;>rfl
 rw[hb,AJ];refine BE λH1 f1 g1=>?_;refine Hg λH2 n2 f2=>?_;refine AB (v:=.agg (RR ⟨n_x,BY⟩)) rfl ?_;refine U0 (l:=1) (c:=65) λH3 n3 f3=>?_;refine AB (v:=.agg (RR ⟨my,tA⟩)) rfl ?_;refine oc λH4 E f4=>?_;refine AB (v:=.agg (RR ⟨AGj,wN⟩)) rfl ?_;have R:=(f2.trans f3).trans f4;have k9:=R.le;refine L6 (G:=G) (vs:=[.agg (RR ⟨n_x,BY⟩),.agg (RR ⟨my,tA⟩),.agg (RR ⟨AGj,wN⟩)]) rfl a6 (λv S=>by simp at S;rcases S with rfl|rfl|rfl<;>exact⟨rfl,rfl⟩) λH5 f5 _ f9=>?_;refine AB (v:=.agg (tcC 0 0 nA (0,0) (.sl E 0 3 3 3) .AT)) rfl ?_;refine Ao rfl λH6 f6 g6=>?_;refine BX g6 rfl rfl a6 λH7 g7 s7=>?_;have U:Kp H5 (E+1) H7 (E+1+1):=⟨f6.le,λf d=>(s7 f a6).trans (f6.same f d)⟩;have W:=(R.trans f5).trans U;have X:Cl G H7 (E+1+1) n (E+1) (λf=>E<=f/\f<E+1+1) nA (0,0) fsA []:=⟨λf d=>a6,a6,.sl E 0 3 3 3,.AT,[],g7,
  ⟨f9.same λf d=>by cases d;exact U.same _ a6,AA5 o_,rfl,rfl,λf d=>by cases d;exact⟨⟨a6,a6⟩,a6,by simp[V.CD]⟩⟩,.nil,.nil⟩
 have m7:PA G H7 n (Mg.z vp 0 0 (0,0)):=⟨W.get g1 a6,hp⟩;refine uL (q:=Hp) (cls:=nA) (vp:=vp) (a:=0) (nms:=0) (i:=(0,0)) (AIm (G:=G)) tI (λt C=>by simp[Hp]at C;subst C;exact tI) a_ (.inl rfl) a6 a6 a_ X m7 a6 ?_;intro H8 n8 a8 g0 i8 m1 m0 J Y g2 m4 k2 Z;refine uL (q:=TO) (cls:=nA) (vp:=vp) (a:=a8) (nms:=g0) (i:=i8) (ANT (G:=G)) tAm (λt C=>by simp[TO]at C) a_ (.inl rfl) a6 a6 (by show 1<=100;omega) Y g2 a6 ?_;intro H9 n9 a9 g3 i9 m2 m5 ut d0 g4 m6 k3 d1;refine uL (q:=IB) (cls:=nA) (vp:=vp) (a:=a9) (nms:=g3) (i:=i9) (AIP (G:=G)) tI (λt C=>by simp[IB]at C;rcases C with rfl|rfl;exact tI;exact tAm) a_ (.inl rfl) a6 a6 (by show 2<=100;omega) d0 g4 a6 ?_;intro g5 m8 K x L m3 k4 I y d2 k5 g8 d3;have g9:∀f,f<n->T.get g5 f=T.get H f:=λf d=>
  (I f a6 a6 λe=>by have:=d0.lt f e;omega).trans ((ut f a6 a6 λe=>by have:=Y.lt f e;omega).trans ((J f a6 a6 λe=>by have:=X.lt f e;omega).trans ((W.same f a6).trans (f1.same f d))))
 refine La λm9 p d4=>?_;have k6:=d4.le;refine AB (v:=.agg (RR ⟨Jd,A3⟩)) rfl ?_;refine L6 (G:=G) (vs:=[.agg (RR ⟨Jd,A3⟩)]) rfl a6 (λv S=>by simp at S;subst S;exact⟨rfl,rfl⟩) λi0 i1 _ M=>?_;refine AB (v:=.agg (tcC 0 0 nB nA (.sl p 0 1 1 3) .AT)) rfl ?_;refine Ao rfl λp0 d5 i2=>?_;refine BX i2 rfl rfl a6 λN i3 i4=>?_;have d6:Kp i0 (p+1) N (p+1+1):=⟨d5.le,λf d=>(i4 f a6).trans (d5.same f d)⟩;have u:=(d4.trans i1).trans d6;have i5:Cl G N (p+1+1) n (p+1) (λf=>p<=f/\f<p+1+1) nB nA fsB []:=⟨λf d=>a6,a6,.sl p 0 1 1 3,.AT,[],i3,
  ⟨M.same λf d=>by cases d;exact d6.same _ a6,AA5 o_,rfl,rfl,λf d=>by cases d;exact⟨⟨a6,a6⟩,a6,by simp[V.CD]⟩⟩,.nil,.nil⟩
 have i6:PA G N n (Mg.z vp K x L):=⟨u.get d2.g a6,hp⟩;refine EY i6 a6 a6 (by show K<_;omega) λd7 r O hr d8 i7 P=>?_;have d8:O<=K+1:=d8;have Q:=(y.kp u).same (H':=d7) o_ λf d=>P f (by have:=y.lt f d;omega);have D:Tw G H n d7 (p+1+1) (E+1) (p+1) _ _ vp O x L [m1,m2,m3] []:=⟨Q,i5.same o_ λf d=>P f a6,λf d=>by have:=y.lt f d;omega,i7,a6,
  λf d=>(P f a6).trans ((u.same f a6).trans (g9 f d))⟩
 refine AB (cM ..) ?_;cases h0:decide (0<r)with
 |false=>rw[AZ];exact ADz (g:=false) D a6 a6 Z d1 d3 rfl hk
 |true=>
  rw[Ah];refine uL (q:=Hp) (cls:=nB) (vp:=vp) (a:=O) (nms:=x) (i:=L) (AIm (G:=G)) tI (λt C=>by simp[Hp]at C;subst C;exact tI) a_ (.inr rfl) a6 a6 a_ D.B D.m a6 ?_;intro p1 p2 p3 k7 p4 mB d9 w f0 f7 k8 k0 k1;refine ADz (g:=true) ⟨D.A.same d9 λf d=>by have:=D.A.lt f d;exact w f this.2 a6 (D.ne f d),f0,λf d e=>?_,f7,a6,λf d=>(w f a6 a6 λe=>by have:=D.B.lt f e;omega).trans (D.old f d)⟩ a6 a6 Z d1 d3 ⟨mB,rfl,k1⟩ hk;rcases e with e|e
  .exact D.ne f d e
  .have:=D.A.lt f d;omega
end
end Go.RL
