/- Part of a proof; nothing is assumed. -/
import Derived.Test.YtlhlldpfafhpbaaGreatDoorConD
set_option linter.unusedVariables false
set_option linter.unusedSimpArgs false
noncomputable section
namespace Go.RL
open Go.BN
set_option maxRecDepth 100000
def Mg.st(s:Mg)(a nm:Nat)(vv:V):Mg:={s with at':=a,names:=nm,vv:=vv}
structure Fv(gp:Nat)(v:V)(H:Heap)(n:Nat)(H':Heap)(n':Nat):Prop where
 le:n<=n'
 same:∀id,id<n->id≠gp->v.CD≠some id->T.get H' id=T.get H id
def Sd(n:Nat)(v v':V):Prop:=v'.CD=v.CD∨∀id,v'.CD=some id->n<=id
abbrev Sd.refl(n:Nat)(v:V):Sd n v v:=.inl rfl
variable{n:Nat}{n':Nat}{v:V}{v':V}
abbrev Sd.trans{g:V}(h:Sd n v v')(f:Sd n' v' g)(k:n<=n'):Sd n v g:=by
 rcases f with f|f
 .rcases h with h|h
  .exact .inl (f.trans h)
  .exact .inr λi d=>h i (f.symm.trans d)
 .exact .inr λi d=>w_ k (f i d)
variable{gp:Nat}{H:Heap}{H':Heap}
abbrev Fv.trans{d:Heap}{f:Nat}(x:Fv gp v H n H' n')(y:Fv gp v' H' n' d f)(h:Sd n v v'):Fv gp v H n d f:=
 ⟨w_ x.le y.le,λi g k m=>(y.same i (b_ g x.le) k (by
  rcases h with h|h
  .rw[h];exact m
  .intro e;have:=h i e;omega)).trans (x.same i g k m)⟩
abbrev Fg.fv(v:V)(x:Fg gp H n H' n'):Fv gp v H n H' n':=⟨x.le,λd h f _=>x.same d h f⟩
variable{id:Nat}
abbrev Fv.get{b:LF}(x:Fv gp v H n H' n')(h:T.get H id=some b)(d:id<n)(f:id≠gp)(g:v.CD≠some id):T.get H' id=some b:=(x.same id d f g).trans h
structure Lw(H:Heap)(n gp:Nat)(v:V)(Γ:List BU):Prop where
 sk:Sk H 3 (λid=>id<n/\id≠gp) v (Γ.map RR)
 lt:Γ.length<=1000
variable{G:AQ}{Γ:List BU}
abbrev Lw.lv{Γ:aAm}(h:Lw H n gp v Γ):AKN G H n gp v Γ:=⟨h.sk.el a6,λ_ d=>h.sk.own d,h.lt⟩
abbrev Lw.fg{Γ:aAm}(h:Lw H n gp v Γ)(f:Fg gp H n H' n'):Lw H' n' gp v Γ:=
 ⟨h.sk.mono (λ_ d=>⟨b_ d.1 f.le,d.2⟩) λg d=>f.same g d.1 d.2,h.lt⟩
abbrev Lw.kp{Γ:aAm}(h:Lw H n gp v Γ)(f:Kp H n H' n'):Lw H' n' gp v Γ:=h.fg (.kp f)
structure Ms(G:AQ)(H:Heap)(n gp:Nat)(s:Mg)(Γ:List BU):Prop where
 m:PA G H gp s
 g:gp<n
 w:Lw H n gp s.vv Γ
 UZ:Zf Γ s.names
 inn:s.inn=(0,0)∨s.inn=nA∨s.inn=nB
variable{s:Mg}
abbrev Ms.mk'{Γ:aAm}(h:Ms G H n gp s Γ):Mk G H n gp s Γ:=⟨h.m,h.g,h.w.lv,h.UZ,h.inn⟩
variable{a:Nat}
abbrev Ms.fg{Γ:aAm}(h:Ms G H n gp s Γ)(f:Fg gp H n H' n')(m:PA G H' gp (s.to a)):Ms G H' n' gp (s.to a) Γ:=
 ⟨m,b_ h.g f.le,h.w.fg f,h.UZ,h.inn⟩
abbrev Ms.kp{Γ:aAm}(h:Ms G H n gp s Γ)(f:Kp H n H' n'):Ms G H' n' gp s Γ:=
 ⟨⟨f.get h.m.g h.g,h.m.pk⟩,b_ h.g f.le,h.w.kp f,h.UZ,h.inn⟩
def Rv(a b:Nat)(v:V):Nat->Prop:=λid=>a<=id/\id<b/\v.CD≠some id
def dD(G:AQ)(H:Heap)(n gp:Nat)(s:Mg)(Γ:aAm)(ret:Ty)(c kk:Nat)(k:KV):Prop:=
 ∀H' n' a nm vv ex l st,ex.length<=1->Fv gp s.vv H n H' n'->PA G H' gp (s.st a nm vv)->a<=s.at'+c->s.names<=nm->nm<=s.names+kk->Lw H' n' gp vv (Γ++ex)->Zf (Γ++ex) nm->Sd n s.vv vv->Vy G H' (Rv n n' vv) l st->pP s.inn ret Γ (Γ++ex) kk st->50*st.cz<=2200*kk+c->k (.agg l) H' n'
def AR1(G:AQ)(H:Heap)(A:Nat->Prop)(v:V)(sts:aAt):Prop:=∃cs,Sk H 9 A v cs/\FQ G H (λid=>A id/\v.CD≠some id) cs sts
variable{A:Nat->Prop}{LS:Bh}
abbrev Sk.ks{z:Nat}(h:Sk H z A v LS):KS v:=by
 cases h with
 |nil=>exact ACX
 |emp=>exact AA5 o_
 |Hf=>exact ATa ..
abbrev AR1.ss{d:aAt}(h:AR1 G H A v d):UH G H A v d:=by have⟨i,f,k⟩:=h;exact⟨i,f.el a6,f.ks,f.ok.1,f.ok.2.1,λ_ g=>f.own g,FQ.mono (λ_ h=>h.1) (λ_ _=>rfl) k⟩
abbrev aT.le{inn:St}{ret:Ty}{Γ d:aAm}{l:aAt}{k k':Nat}(h:aT inn ret Γ d k l)(q:k<=k'):aT inn ret Γ d k' l:=λx f g n u=>by have⟨i,m,p,v⟩:=h x f g n a6;exact⟨i,m,p,a6⟩
def AQ3(G:AQ)(H:Heap)(n gp:Nat)(s:Mg)(Γ:aAm)(ret:Ty)(c kk:Nat)(k:KV):Prop:=
 ∀H' n' a nm vv v sts ex,sts.length<=4->Fv gp s.vv H n H' n'->PA G H' gp (s.st a nm vv)->a<=s.at'+c->s.names<=nm->nm<=s.names+kk->Lw H' n' gp vv Γ->Zf Γ nm->Sd n s.vv vv->AR1 G H' (Rv n n' vv) v sts->aT s.inn ret Γ (Γ++ex) kk sts->50*F2 sts<=2200*kk+c->k v H' n'
def ek:Nat->Nat
 |0=>1
 |d+1=>4*ek d
def cS:Nat->Nat
 |0=>1500
 |d+1=>1500+4*cS d
def ANq(G:AQ)(gp d:Nat):Prop:=∀(ret:Ty) (H:Heap) (n:Nat) (s:Mg) (Γ:aAm) (k:KV),GW ret->Ms G H n gp s Γ->s.at'+cS d<100000000000->s.names+ek d<600->Γ.length+ek d<=1000->dD G H n gp s Γ ret (cS d) (ek d) k->
 Runs F G Q6 [.ptr gp 0,iN d,ret.v] H n k
def AAv(G:AQ)(gp d:Nat):Prop:=∀(m:Nat) (ret:Ty) (H:Heap) (n:Nat) (s:Mg) (Γ:aAm) (k:KV),m<=4->GW ret->Ms G H n gp s Γ->s.at'+m*cS d<100000000000->s.names+m*ek d<600->Γ.length+m*ek d<=1000->AQ3 G H n gp s Γ ret (m*cS d) (m*ek d) k->
 Runs F G B5 [.ptr gp 0,iN m,iN d,ret.v] H n k
structure Bs(H:Heap)(n b gp:Nat)(t:Ty):Prop where
 b1:T.get H b=some (one t.cells)
 b2:T.get H (b+1)=some (one il)
 le:b+2<=n
 g:gp<b
variable{b:Nat}{t:Ty}
abbrev Bs.fg(h:Bs H n b gp t)(f:Fg gp H n H' n'):Bs H' n' b gp t:=by have:=h.le;have:=h.g;exact⟨f.get h.b1 a6 a6,f.get h.b2 a6 a6,w_ h.le f.le,h.g⟩
abbrev Bs.kp(h:Bs H n b gp t)(f:Kp H n H' n'):Bs H' n' b gp t:=h.fg (.kp f)
abbrev dA:∀d,1<=ek d
 |0=>ea _
 |d+1=>by have:=dA d;show 1<=4*ek d;omega
abbrev AMc:∀d,1500<=cS d
 |0=>ea _
 |d+1=>by show 1500<=1500+4*cS d;omega
variable{c:Nat}{kk:Nat}{vv:V}{i:Nat}{m:Nat}
section
variable{G:AQ}{H H0:Heap}{n gp b:Nat}{s:Mg}{Γ:List BU}{k:KV}{t:Ty}
abbrev ADj{ex:aAm}{nm:Nat}{l:LV}{st:Tt}(u:ex.length<=1)(C:dD G H0 b gp s Γ t c kk k)(B:Bs H n b gp t)(f:Fv gp s.vv H0 b H n)(m:PA G H gp (s.st a nm vv))(D:a<=s.at'+c)(E:s.names<=nm)(F:nm<=s.names+kk)
 (v:Lw H n gp vv (Γ++ex)) (p:Zf (Γ++ex) nm) (w:Sd b s.vv vv) (x:∀i,vv.CD=some i->i≠b+1) (y:Vy G H (Rv (b+2) n vv) l st) (I:pP s.inn t Γ (Γ++ex) kk st) (J:50*st.cz<=2200*kk+c:=by first|omega|(simp[Tt.cz,F2,bF,OG,Te.cz,pZ]<;>omega)):
 A1 9 (.ptr (b+1) 0) (.agg l) H n λ_ H n=>CR (Ay [.cn (.ptr (b+1) 0) 9] G H) λl=>k (Bb l) H n:=by
 have:=B.g;refine BX B.b2 rfl y.len a6 λK L q=>?_;rw[By (m:=9) L a6 y.len];simp only[go_sem];refine C K n a nm vv ex l st u ⟨f.le,λi d A x=>(q i a6).trans (f.same i d A x)⟩ ⟨(q gp a6).trans m.g,m.pk⟩ D E F ⟨v.sk.JO (λi d=>v.sk.own d) λi d=>q i (x i d),v.lt⟩ p w
  (y.mono (λi d=>⟨hN d.1,d.2⟩) λi d=>q i (hN d.1)) I J
abbrev ub{es:aAq}(C:dD G H0 b gp s Γ t c kk k)(u:Ms G H0 b gp s Γ)(x:Bs H n b gp t)(f:Fg gp H0 b H n)(A:PA G H gp (s.to a))(D:a<=s.at'+c)
 (y:Kt G H (Rg (b+2) n) (.sl id 0 m m 11) es) (E:pP s.inn t Γ Γ 0 (.mk i (0,0) IY es [] [])) (M:50*(OG es+bF i)<=2200*kk+c:=by first|omega|(simp[Tt.cz,F2,bF,OG,Te.cz,pZ]<;>omega)):
 DN (.fn Aw [] []) [iN i,.sl id 0 m m 11] (Runs F G) H n λv H n=>A1 9 (.ptr (b+1) 0) v H n λ_ H n=>CR (Ay [.cn (.ptr (b+1) 0) 9] G H) λl=>k (Bb l) H n:=by
 show Runs F G Aw [iN i,.sl id 0 m m 11] H n _;have I:=x.g;have J:=x.le;refine ACO λN O p=>?_;have K:=p.le;have B:=f.trans (.kp (gp:=gp) p);have L:=u.w.fg B;have q:∀id,s.vv.CD=some id->id<b:=λid d=>(u.w.sk.own d).1;refine ADj (ex:=[]) (nm:=s.names) (vv:=s.vv) (st:=.mk i (0,0) IY es [] []) (j_ _) C (x.kp p) (B.fv _) ⟨p.get A.g a6,A.pk⟩ D o_ (Nat.le_add_right _ _) (by rw[qs];exact L) (by rw[qs];exact u.UZ) (.inl rfl) (λid d=>hN (q id d)) (Vy.of ?_ .nil .nil) ?_ (by simp only[Tt.cz,F2];omega)
 .refine y.mono (λid d=>⟨d.1,hN d.2,λe=>?_⟩) λid d=>p.same id d.2;have:=q id e;have:=d.1;omega
 .rw[qs];exact E.le (j_ _)
abbrev xX(D:dD G H0 b gp s Γ t c kk k)(y:Ms G H0 b gp s Γ)(p:Bs H n b gp t)(f:Fg gp H0 b H n)(E:PA G H gp (s.to a))(P:a+400<=s.at'+c)(Q:s.at'+c<100000000000)(I:1500<=c)(J:1<=kk):
 B8 lfp G (Runs F G) k (.ptr gp 0) (.ptr (b+1) 0) (.fn Aw [] []) H n:=by delta B8;have K:=p.le;refine Hg λL M m=>?_;have N:=m.le;have q:=(y.mk'.fg f E).kp m;refine Jg 3 a6 BY L M (s.to a) Γ _ (.inl rfl) q (by show a+400+2<_;omega) λR S A l e u B d O v C=>?_;have w:=u.le;have d:A<=a+400:=d;have C:11*_<=804:=C;refine RD O w λT f3 x=>?_;exact ub D y ((p.kp m).fg u |>.kp f3) (((f.trans (.kp m)).trans u).trans (.kp f3)) ⟨f3.get B.g (hN p.g),B.pk⟩ (a:=A) a6 (x.mono (λU i=>⟨hN i.1,i.2⟩) λ_ _=>rfl) (pP.prt v.int)
end
abbrev AWl:∀a,a<26->AOu .u8 (iN a)=some (.int .u8 (.ofNat a) 0):=λa h=>
 match a,h with
 |0,_=>rfl|1,_=>rfl|2,_=>rfl|3,_=>rfl|4,_=>rfl|5,_=>rfl|6,_=>rfl|7,_=>rfl
 |8,_=>rfl|9,_=>rfl|10,_=>rfl|11,_=>rfl|12,_=>rfl|13,_=>rfl|14,_=>rfl|15,_=>rfl
 |16,_=>rfl|17,_=>rfl|18,_=>rfl|19,_=>rfl|20,_=>rfl|21,_=>rfl|22,_=>rfl|23,_=>rfl
 |24,_=>rfl|25,_=>rfl
 |n+26,h=>absurd h a6
abbrev AKr:∀a,a<26->B2.ev .add (.int .u8 (.ofNat 97) 0) (.int .u8 (.ofNat a) 0)=some (.int .u8 (.ofNat (97+a)) 0):=λa h=>
 match a,h with
 |0,_=>rfl|1,_=>rfl|2,_=>rfl|3,_=>rfl|4,_=>rfl|5,_=>rfl|6,_=>rfl|7,_=>rfl
 |8,_=>rfl|9,_=>rfl|10,_=>rfl|11,_=>rfl|12,_=>rfl|13,_=>rfl|14,_=>rfl|15,_=>rfl
 |16,_=>rfl|17,_=>rfl|18,_=>rfl|19,_=>rfl|20,_=>rfl|21,_=>rfl|22,_=>rfl|23,_=>rfl
 |24,_=>rfl|25,_=>rfl
 |n+26,h=>absurd h a6
abbrev AYD(u:Nat)(d:0<m):B2.ev .rem (iN u) (iN m)=some (iN (u%m)):=AJC (u:Int) d
abbrev AOr{x:Nat}(h:x<256):Go.BN.byteOf (.int .u8 (.ofNat x) 0)=some x:=by show Bool.rec (motive:=λ_=>aAG) none (some x) (band true (band (Nat.blt x 256) true))=_;rw[show Nat.blt x 256=true by rw[xi];exact h];rfl
def AAs:aAw->Nat
 |[]=>0
 |x::l=>x+256*AAs l
abbrev AIU:∀xs:aAw,(∀x∈xs,x<256)->mP (xs.map λx=>[V.int .u8 (.ofNat x) 0])=some (AAs xs)
 |[],_=>rfl
 |x::xs,h=>by show BB (Go.BN.byteOf (.int .u8 (.ofNat x) 0)) (λm=>BB (mP (xs.map λx=>[V.int .u8 (.ofNat x) 0])) λc=>some (m+256*c))=_;rw[AOr (h x (u_ ..)),Kl,AIU xs λy d=>h y (c_ _ d)];rfl
abbrev AQ4{xs:aAw}(h:El G H (.sl id 0 m m 1) 1 (xs.map λx=>[V.int .u8 (.ofNat x) 0]))(d:∀x∈xs,x<256):AUK (.sl id 0 m m 1) G H=some (.str xs.length (AAs xs)):=by show BB (elems (.sl id 0 m m 1) G H 1) (λl=>BB (mP l) λc=>f3 (len l) c 0 λn c _=>.str n c)=_;rw[h.2,Kl,AIU xs d,Kl];show CC (len _) (λa=>CC (AAs xs) λb=>CC 0 λ_=>some (.str a b))=_;rw[BF,BF,BF,len_eq,uc]
abbrev ATW(c:Nat):B2.ev .add (.str 1 118) (.str 2 c)=some (.str 3 (118+256*c)):=by show Az true (CC 3 λn=>CC (118+256^1*c) λe=>some (.str n e))=_;rw[BF,BF];rfl
abbrev ASI(c:Nat):B2.ev .add (.str 1 112) (.str 1 c)=some (.str 2 (112+256*c)):=by show Az true (CC 2 λn=>CC (112+256^1*c) λe=>some (.str n e))=_;rw[BF,BF];rfl
abbrev ATV(k:Nat):V.str 3 (118+256*AAs [97+k/26%26,97+k%26])=(Wf k).v:=by show V.str 3 (118+256*(97+k/26%26+256*(97+k%26+256*0)))=V.str 3 (118+256*(97+k/26%26)+65536*(97+k%26));congr 1;omega
variable{d:Nat}
section
variable{G:AQ}{H H0:Heap}{n gp b:Nat}{s:Mg}{Γ:List BU}{k:KV}{t:Ty}
abbrev ART{g0:V}(hp:dD G H0 b gp s Γ t c kk k)(L:Ms G H0 b gp s Γ)(hb:Bs H n b gp t)(f:Fg gp H0 b H n)(m1:PA G H gp (s.to a))(ha:a+200<=s.at'+c)(hs:s.at'+c<100000000000)(k6:1500<=c)(g1:1<=kk)(k7:s.names+1<600)(hl:Γ.length+1<=1000):
 Co lfp G (Runs F G) k (.ptr gp 0) (iN d) (.ptr b 0) (.ptr (b+1) 0) (.fn Aw [] []) g0 (.bool true) H n:=by
 delta Co;rw[Ah];have k8:=hb.le;have g5:=hb.g;have d0:=L.mk'.fg f m1;have i0:∀p,s.vv.CD=some p->p<b:=λp i=>(L.w.sk.own i).1;refine AVa d0 (by show a<_;omega) λH1 D a1 I M d1 f1 m1=>?_;have d1:a1<=a+1:=d1;have k9:=f1.le;refine Ao rfl λH2 f2 g2=>?_;refine BX g2 rfl rfl a6 λH3 g3 s3=>?_;have d2:Kp H1 D H3 (D+1):=⟨f2.le,λp i=>(s3 p a6).trans (f2.same p i)⟩;have N:=f1.trans (.kp (gp:=gp) d2);have i1:=d0.fg (a:=a1) N ⟨d2.get m1.g a6,m1.pk⟩;refine AB (As (m:=2) g3 a6 rfl) ?_;refine Jg 2 a6 I H3 (D+1) (s.to a1) Γ _ M i1 (by show a1+130+2<_;omega) λH4 n4 a2 l e f4 m4 d3 he i2 hz=>?_;have d3:a2<=a1+130:=d3;have hz:11*_<=264:=hz;have i3:=f4.le;have g4:=f4.get g3 a6 a6;refine RD he i3 λH5 f5 i4=>?_;show Runs F G Aw [iN 1,.sl n4 0 1 1 11] H5 (n4+1) _;refine ACO λH6 y f6=>?_;have m0:=f6.le;have d4:=f5.trans f6;have g6:=d4.get g4 a6;refine Ao rfl λH7 f7 g7=>?_;refine BX g7 rfl rfl a6 λE g8 s8=>?_;have O:Kp H6 y E (y+1):=⟨f7.le,λp i=>(s8 p a6).trans (f7.same p i)⟩;have P:=d4.trans O;have d5:Fg gp H0 b E (y+1):=((f.trans N).trans f4).trans (.kp P);have q8:=O.get g6 a6;have d6:Bs E (y+1) b gp t:=((hb.fg N).fg f4).kp P;have i5:Kt G E (Rg (b+2) y) (.sl n4 0 1 1 11) [e]:=i4.mono (λp i=>⟨hN i.1,hN i.2⟩) λp i=>(f6.trans O).same p i.2;have m8:T.get E gp=some (one (s.to a2).cells):=P.get m4.g a6;have q1:AM (.ptr gp 3) G E=some (iN s.names):=AK m8 rfl;simp only[go_sem,BG,Nat.reduceAdd,q1,CA (show s.names+1<9223372036854775808 by omega)];refine FK (off:=3) (m:=1) m8 rfl rfl a6 (by show 3+1<=5;omega) λH9 g9 s9=>?_;have m9:T.get H9 gp=some (one ({s.to a2 with names:=s.names+1}:Mg).cells):=g9;have q2:AM (.ptr gp 3) G H9=some (iN (s.names+1)):=AK m9 rfl;generalize hk1:s.names+1=kn at*;simp only[go_sem,BG,Nat.reduceAdd,q2,AU0 kn (show 0<26 by omega) a6,AYD _ (show 0<26 by omega),AWl _ (W0 _ (show 0<26 by omega)),AKr _ (W0 _ (show 0<26 by omega))];refine M1 (G:=G) (vs:=[.int .u8 (.ofNat (97+kn/26%26)) 0,.int .u8 (.ofNat (97+kn%26)) 0]) rfl a6 (λv hv=>by simp at hv;rcases hv with rfl|rfl<;>exact⟨rfl,rfl⟩) λQ d7 _ i6=>?_;have m2:97+kn/26%26<256:=a6;have m3:97+kn%26<256:=a6;refine AB (AQ4 (xs:=[97+kn/26%26,97+kn%26]) i6 (λx hx=>by simp at hx;rcases hx with rfl|rfl<;>assumption)) ?_;refine AB (ATW _) ?_;rw[ATV];have ut:∀p,p<y+1->p≠gp->T.get Q p=T.get E p:=λp i R=>(d7.same p i).trans (s9 p R);have i7:T.get Q y=_:=(ut y a6 a6).trans g8;have q10:T.get Q D=_:=(ut D a6 a6).trans q8;have i8:=d7.get m9 a6;refine FK (off:=3) (m:=1) (v:=(Wf kn).v) i7 rfl rfl a6 (by show 3+1<=9;omega) λi9 k0 S=>?_;have q11:T.get i9 D=_:=(S D a6).trans q10;refine AB (As (m:=2) q11 a6 rfl) ?_;refine FK (off:=4) (m:=2) (v:=.agg I.cells) k0 rfl rfl a6 (by show 4+2<=9;omega) λA d8 U=>?_;have q12:T.get A D=_:=(U D a6).trans q11;have d9:T.get A gp=_:=(U gp a6).trans ((S gp a6).trans i8);have q3:AM (.ptr gp 2) G A=some s.vv:=AK d9 rfl;have q4:AM (.ptr y 3) G A=some (Wf kn).v:=AK d8 rfl;have q5:AX 2 (.ptr D 0) G A=some (.agg I.cells):=As q12 a6 rfl;simp only[go_sem,BG,Nat.reduceAdd,q3,q4,q5];rw[show BT [.str 0 0,.str 0 0,.bool false] [(0,1,.c (Wf kn).v),(1,2,.c (.agg I.cells))]=some (.agg (RR ⟨Wf kn,I⟩))from rfl,AJ];have J:∀p,p<y->p≠gp->T.get A p=T.get E p:=λp i R=>(U p a6).trans ((S p a6).trans (ut p a6 R));have m5:Fg gp E y A (y+1+1):=⟨a6,J⟩;have f0:Lw A (y+1+1) gp s.vv Γ:=⟨L.w.sk.mono (λp i=>⟨a6,i.2⟩) λp i=>(J p a6 i.2).trans (d5.same p i.1 i.2),L.w.lt⟩;refine f0.sk.app (bs:=40) (c:=.agg (RR ⟨Wf kn,I⟩)) (m:=0) (λp i=>(f0.sk.own i).1) a6 rfl rfl (by rw[uc];omega) λv' W f3 B C=>?_;rw[show s.vv=s.vv from rfl]at B;have X:∀p,p<y+1+1->b<=p∨p=gp->T.get W p=T.get A p:=λp i k1=>B p i λe=>by
  rcases k1 with h|h
  .have:=i0 p e;omega
  .exact(L.w.sk.own e).2 h
 have k2:T.get W gp=_:=(X gp a6 (.inr rfl)).trans d9;have k3:T.get W y=_:=(X y a6 (.inl a6)).trans d8;have q:=f3 (λp=>p<y+1+1+2/\p≠gp) ⟨a6,a6⟩;refine FK (off:=2) (m:=1) (v:=v') k2 q.ok.1 (by rw[q.ok.2.1];rfl) a6 (by show 2+1<=5;omega) λY f8 K=>?_;rw[q.ok.2.1]at f8;have k4:T.get Y y=_:=(K y a6).trans k3;refine AB (As (m:=9) k4 a6 rfl) ?_;have Z:∀p,b<=p->p<y->T.get Y p=T.get E p:=λp h1 h2=>(K p a6).trans ((X p a6 (.inl h1)).trans (J p h2 a6));have k5:Bs Y (y+1+1+2) b gp t:=⟨(Z b a6 a6).trans d6.b1,(Z (b+1) a6 a6).trans d6.b2,a6,g5⟩;refine ADj (ex:=[⟨Wf kn,I⟩]) (vv:=v') (a:=a2) (nm:=kn) (l:=SB 1 0 0 (Wf kn) I (.sl n4 0 1 1 11) .AT .AT) (st:=.mk 1 (Wf kn) I [e] [] []) o_ hp k5 ?_ ⟨f8,m1.pk⟩ a6 a6 a6 ⟨?_,by rw[uk];exact hl⟩ ?_ (.inr λp i=>?_) ?_ (Vy.of ?_ .nil .nil) ?_
 .refine⟨a6,λp h1 h2 h3=>?_⟩;exact(K p h2).trans ((B p a6 h3).trans ((J p a6 h2).trans (d5.same p h1 h2)))
 .rw[wm];exact q.JO (λp i=>q.own i) λp i=>K p (q.own i).2
 .rw[<-hk1];exact L.UZ.add a6 M
 .rw[C]at i;cases i;omega
 .intro p i;rw[C]at i;cases i;omega
 .refine i5.mono (λp i=>⟨i.1,hN i.2,λe=>?_⟩) λp i=>Z p (hN i.1) i.2;rw[C]at e;cases e;have:=i.2;omega
 .obtain⟨u,r,hu,_⟩:=i2.ex;have f9:=L.UZ.fresh (by omega:s.names+1<676);rw[hk1]at f9;exact(pP.lt M hu r (zo f9)).le g1
end
abbrev Rv.fv{g:Nat}(f:Sd b v v')(i:g<=a)(k:b<=n'):∀id,Rv a b v id->Rv g n' v' id:=λid d=>⟨w_ i d.1,b_ d.2.1 k,λe=>by
 rcases f with f|f
 .exact d.2.2 (f.symm.trans e)
 .have:=f id e;have:=d.2.1;omega⟩
abbrev UH.fv{w:V}{g:aAt}(h:UH G H (Rv a b v) w g)(f:Fv gp v H b H' n')(q:gp<a)(k:Sd b v v')(m:i<=a):UH G H' (Rv i n' v') w g:=
 h.mono (Rv.fv k m f.le) λp d=>f.same p d.2.1 (hN d.1) d.2.2
abbrev KS.ok{d:aAt}(h:UH G H A v d):Rb v=true/\At v=[v]:=by have⟨i,_,_,f,g,_⟩:=h;exact⟨f,g⟩
section
variable{G:AQ}{H:Heap}{n gp b:Nat}{s:Mg}{Γ:List BU}{k:KV}{t:Ty}
abbrev ALf(E:AAv G gp d)(I:d<1000)(J:GW t)(q:Bs H n b gp t)(h:Ms G H n gp s Γ)(hs:s.at'+1+2*cS d<100000000000)(K:s.names+2*ek d<600)(hl:Γ.length+2*ek d<=1000)
 (L:AQ3 G H n gp s Γ t (1+2*cS d) (2*ek d) k):
 AD (B2.ev .sub (iN (d+1)) (iN 1)) λi=>AD (AX 2 (.ptr b 0) G H) λf=>Runs F G AU [.ptr gp 0,iN 3] H n λp H n=>AD (AX 2 (.ptr b 0) G H) λv=>B7 (Ak v f) <|
  Runs F G B5 [.ptr gp 0,p,i,f] H n k:=by have M:=q.le;have N:=q.g;rw[zQ d I,AJ];refine AB (Be q.b1) ?_;refine EY h.m a6 a6 a6 λB r u hr O P Q=>?_;have w:Fg gp H n B n:=⟨ea _,λR _ x=>Q R x⟩;refine AB (Be ((q.fg w).b1)) (Ba (FH t) ?_);have e1:r*cS d<=2*cS d:=z8 _ a6;have S:r*ek d<=2*ek d:=z8 _ a6;refine E r t B n (s.to u) Γ _ a6 J (h.fg w P) (by show u+_<_;omega) (by show s.names+_<_;omega) a6 ?_;intro T U a nm V v y ex W X Y C Z D x6 x7 x8 x9 A d0;have C:a<=u+r*cS d:=C;have D:nm<=s.names+r*ek d:=D;exact L T U a nm V v y ex W ((w.fv s.vv).trans X (Sd.refl ..)) Y a6 Z a6 x6 x7 x8 x9 (A.le S) a6
end
section
variable{G:AQ}{H H0:Heap}{n gp b:Nat}{s:Mg}{Γ:List BU}{k:KV}{t:Ty}
abbrev ATT{P:V->Prop}(hp:dD G H0 b gp s Γ t c kk k)(E:Ms G H0 b gp s Γ)(S:Bs H n b gp t)(f:Fg gp H0 b H n)(A:PA G H gp (s.to a))(ha:a+500<=s.at'+c)(hs:s.at'+c<100000000000)(W:1500<=c)(X:1<=kk):
 AD (AV (.ptr gp 0)) λY=>AD (AG 2 Y) λZ=>AD (AM Z G H) λd0=>AD (lenV d0) λd1=>AD (B2.ev .gtr d1 (iN 0)) λd2=>
 AS d2 (AD (AV (.ptr gp 0)) λd3=>AD (AG 2 d3) λJ=>AD (AM J G H) λK=>AD (AV (.ptr gp 0)) λd4=>AD (AG 2 d4) λd5=>AD (AM d5 G H) λd6=>AD (lenV d6) λd7=>
  Au (Af 3 [[.str 0 0,.str 0 0,.bool false]] E0) H n λB H n=>Runs F G AU [.ptr gp 0,d7] H n λd8 H n=>AD (AM J G H) λv=>B7 (Ak v K) <|
  AD (Ai 3 K d8) λd9=>AD (AX 3 d9 G H) λf0=>A1 3 B f0 H n λi5 H n=>AD (AG 0 B) λf2=>AD (AM f2 G H) λf3=>AD (AG 1 B) λL=>AD (AX 2 L G H) λM=>
  Runs F G Ab [iN 6,f3,.AT] H n λf7 H n=>AD (AX 2 L G H) λv=>B7 (Ak v M) <|
  Runs F G Aa [.ptr gp 0,M,iN 3] H n λf8 H n=>Au (AY 11 2 xO [(0,.c f7),(1,.c f8)] E0) H n λf9 H n=>
  DN (.fn Aw [] []) [iN 2,f9] (Runs F G) H n λg0 H n=>A1 9 (.ptr (b+1) 0) g0 H n λi6 H n=>CR (Ay [.cn (.ptr (b+1) 0) 9] G H) λl=>k (Bb l) H n)
  (B8 lfp G (Runs F G) k (.ptr gp 0) (.ptr (b+1) 0) (.fn Aw [] []) H n):=by
 have i7:=S.le;have i8:=S.g;have hw:=E.w.fg f;have hv:=hw.lv (G:=G);have g4:Ak s.vv s.vv=true:=hw.sk.ok.2.2;have q2:∀{N:Heap} {a':Nat},PA G N gp (s.to a')->AM (.ptr gp 2) G N=some s.vv:=λm=>AK m.g rfl;have q:=hv.el.len;rw[uc]at q;rw[BG,AJ,AP,AJ,t_,q2 A,AJ,q,AJ,cM,AJ];cases I:decide (0<Γ.length)with
 |false=>rw[AZ];exact xX hp E S f A a6 hs W X
 |true=>
 rw[Ah,AJ,AP,AJ,t_,q2 A,AJ,AJ,AP,AJ,t_,q2 A,AJ,q,AJ];have I:=kh I;refine Ao rfl λH1 f1 g1=>?_;have g5:PA G H1 gp (s.to a):=⟨f1.get A.g a6,A.pk⟩;refine EY g5 I (hN hw.lt) (by show a<_;omega) λH2 r O hr Q m2 s2=>?_;have Q:O<=a+1:=Q;refine AB (q2 m2) (Ba g4 ?_);have aQ:Fg gp H n H2 (n+1):=⟨a6,λC d D=>(s2 C D).trans (f1.same C d)⟩;have g6:=hv.fg aQ;have⟨p,g7,R⟩:=g6.el.at (i:=r) (c:=RR Γ[r]) (by simp[hr]);have y:Γ[r]∈Γ:=f_ hr;generalize Γ[r]=x at R y;refine AB g7 (AB (BZ R) ?_);have g2:T.get H2 n=_:=(s2 n a6).trans g1;refine BX g2 rfl rfl a6 λH3 g3 s3=>?_;rw[CZ,AJ];refine AB (AK (off:=0) g3 (v:=x.nm.v) rfl) ?_;rw[AP,AJ];have qt:∀{N:Heap},T.get N n=some (one (RR x))->AX 2 (.ptr n (0+1)) G N=some x.ty.v:=λg=>BV (off:=0+1) (m:=2) g a6 (by show 0+1+2<=3;omega);refine AB (qt g3) ?_;refine fN (kind:=6) (nm:=x.nm) (.inl rfl) λH4 n4 U=>?_;have i9:=U.le;refine AB (qt (U.get g3 a6)) (Ba (FH x.ty) ?_);have od:Fg gp H n H4 n4:=⟨a6,λC d D=>(U.same C a6).trans ((s3 C a6).trans (aQ.same C d D))⟩;have m4:PA G H4 gp (s.to O):=⟨U.get ((s3 gp a6).trans m2.g) a6,A.pk⟩;have g8:GW x.ty:=E.UZ.ty x y;have g9:=E.mk'.fg (f.trans od) m4;refine Jg 3 a6 x.ty H4 n4 (s.to O) Γ _ g8 g9 (by show O+400+2<_;omega) λH5 n5 a3 l e f5 m5 PW he i0 I=>?_;have PW:a3<=O+400:=PW;have I:11*_<=804:=I;have k0:=f5.le;have i1:C3 G H5 (Rg (b+2) n5) (Mb 6 0 x.nm IY IY (0,0) 0 0 .AT) (.mk 6 0 x.nm IY IY (0,0) []):=C3.of .nil;have i2:C3 G H5 (Rg (b+2) n5) l e:=he.mono (λC d=>⟨hN d.1,d.2⟩) λ_ _=>rfl;refine ZI i1 i2 a6 λH6 f6 i3=>?_;have⟨u,hu,i4,_⟩:=i0.ex;exact ub hp E (((S.fg od).fg f5).kp f6) ((f.trans od).trans (f5.trans (.kp f6))) ⟨f6.get m5.g a6,m5.pk⟩ (a:=a3) a6 i3 (pP.put (Gd.loc (tP E.UZ.nd y)) i4 hu)
end
variable{P:KV}
section
variable{G:AQ}{H H0:Heap}{n gp b:Nat}{s:Mg}{Γ:List BU}{k:KV}{t:Ty}
abbrev ALl(Y:Ms G H0 b gp s Γ)(E:Bs H n b gp t)(f:Fg gp H0 b H n)(Z:PA G H gp (s.to a))(hs:a+200<100000000000)
 (hk:∀u B R c k e,Fg gp H0 b u B->Bs u B b gp t->PA G u gp (s.to R)->R<=a+130->b+2<=c->c<B->T.get u c=some (one (SB i 0 0 (0,0) IY (.sl k 0 1 1 11) .AT .AT))->Kt G u (Rg (b+2) c) (.sl k 0 1 1 11) [e]->Gd s.inn Γ e A3->11*e.cz<=264->P (.ptr c 0) u B):
 Runs F G CE [] H n λv H n=>Runs F G Aa [.ptr gp 0,v,iN 2] H n λw H n=>Au (AY 11 1 xO [(0,.c w)] E0) H n λx H n=>
  DN (.fn Aw [] []) [iN i,x] (Runs F G) H n λy H n=>Au (Af 9 [il] E0) H n λm H n=>A1 9 m y H n λ_ H n=>P m H n:=by have d0:=E.le;have d1:=E.g;refine Fw λH1 n1 C=>?_;have d2:=C.le;have I:=(Y.mk'.fg f Z).kp C;refine Jg 2 a6 A3 H1 n1 (s.to a) Γ _ (.inr (.inl rfl)) I (by show a+130+2<_;omega) λH2 J S l e K U p he L M=>?_;have p:S<=a+130:=p;have M:11*_<=264:=M;have N:=K.le;refine RD he N λH3 f3 O=>?_;show Runs F G Aw [iN i,.sl J 0 1 1 11] H3 (J+1) _;refine ACO λH4 D V=>?_;have d3:=V.le;refine Ao rfl λH5 W g5=>?_;refine BX g5 rfl rfl a6 λX g6 s6=>?_;have Q:Kp H4 D X (D+1):=⟨W.le,λk d=>(s6 k a6).trans (W.same k d)⟩;have A:=V.trans Q;have q:=f3.trans A;refine hk X (D+1) S D J e (((f.trans (.kp C)).trans K).trans (.kp q)) (((E.kp C).fg K).kp q) ⟨q.get U.g a6,U.pk⟩ p a6 a6 g6 ?_ L.bool M;exact O.mono (λk d=>⟨hN d.1,hN d.2⟩) λk d=>A.same k d.2
abbrev ANi(f:Ms G H0 b gp s Γ):∀id,s.vv.CD=some id->id<b:=λid d=>(f.w.sk.own d).1
abbrev Bs.fv(h:Bs H n b gp t)(f:Fv gp v H n H' n')(d:∀id,v.CD=some id->id<b∨b+2<=id):Bs H' n' b gp t:=by have:=h.le;have:=h.g;exact⟨f.get h.b1 a6 a6 (λe=>hN (d _ e)),f.get h.b2 a6 a6 (λe=>hN (d _ e)),w_ h.le f.le,h.g⟩
abbrev AXm(hB:AAv G gp d)(hd:d<1000)(ht:GW t)(hp:dD G H0 b gp s Γ t c kk k)(h0:Ms G H0 b gp s Γ)(hb:Bs H n b gp t)(f:Fg gp H0 b H n)(m1:PA G H gp (s.to a))(ha:a+200+4*cS d<=s.at'+c)(hs:s.at'+c<100000000000)(k4:1500+4*cS d<=c)
 (k5:4*ek d<=kk) (k6:s.names+kk<600) (hl:Γ.length+2*ek d<=1000):
 Runs F G CE [] H n λd3 H n=>Runs F G Aa [.ptr gp 0,d3,iN 2] H n λd4 H n=>Au (AY 11 1 xO [(0,.c d4)] E0) H n λd5 H n=>
  DN (.fn Aw [] []) [iN 4,d5] (Runs F G) H n λd6 H n=>Au (Af 9 [il] E0) H n λy H n=>A1 9 y d6 H n λ_ H n=>
  AD (B2.ev .sub (iN (d+1)) (iN 1)) λd7=>AD (AX 2 (.ptr b 0) G H) λJ=>Runs F G AU [.ptr gp 0,iN 3] H n λd8 H n=>AD (AX 2 (.ptr b 0) G H) λv=>B7 (Ak v J) <|
  Runs F G B5 [.ptr gp 0,d8,d7,J] H n λd9 H n=>AD (AG 7 y) λf0=>A1 1 f0 d9 H n λk1 H n=>
  AD (B2.ev .sub (iN (d+1)) (iN 1)) λf3=>AD (AX 2 (.ptr b 0) G H) λK=>Runs F G AU [.ptr gp 0,iN 3] H n λf5 H n=>AD (AX 2 (.ptr b 0) G H) λv=>B7 (Ak v K) <|
  Runs F G B5 [.ptr gp 0,f5,f3,K] H n λf6 H n=>AD (AG 8 y) λf7=>A1 1 f7 f6 H n λk2 H n=>AD (AX 9 y G H) λf8=>A1 9 (.ptr (b+1) 0) f8 H n λk3 H n=>CR (Ay [.cn (.ptr (b+1) 0) 9] G H) λl=>k (Bb l) H n:=by
 have f9:=hb.g;have D:=ANi h0;refine ALl h0 hb f m1 a6 λH1 C a1 q u e f1 g0 m1 k7 k8 g2 g1 i2 i3 k9=>?_;have N:Ms G H1 C gp (s.to a1) Γ:=h0.fg f1 m1;have m0:=dA d;refine ALf hB hd ht g0 N (by show a1+1+_<_;omega) (by show s.names+_<_;omega) hl ?_;intro H2 n2 a2 A w v2 th vH z2 O m2 g4 g6 g7 P Q B E R m3;have E:=E.ss;have R:=R.blk;have g4:a2<=a1+(1+2*cS d):=g4;have g6:s.names<=A:=g6;have g7:A<=s.names+2*ek d:=g7;have O:Fv gp s.vv H1 C H2 n2:=O;have B:Sd C s.vv w:=B;have i4:=O.le;have q2:T.get H2 q=_:=O.get g1 g2 a6 λe=>hN (D _ e);have S:=KS.ok E;rw[AP,AJ];refine FK (off:=0+7) (m:=1) (v:=v2) q2 S.1 (by rw[S.2];rfl) a6 (by show 0+7+1<=9;omega) λH3 g3 U=>?_;rw[S.2]at g3;have I:∀u,w.CD=some u->u<b∨C<=u:=λu p=>by
  rcases B with h|h
  .exact .inl (D u (h.symm.trans p))
  .exact .inr (h u p)
 have g8:Bs H3 n2 b gp t:=by have V:=g0.fv O λu p=>.inl (D u p);exact⟨(U b a6).trans V.b1,(U (b+1) a6).trans V.b2,V.le,f9⟩
 have i5:Ms G H3 n2 gp ((s.to a1).st a2 A w) Γ:=⟨⟨(U gp a6).trans m2.g,m2.pk⟩,hN N.g,⟨P.sk.JO (λu p=>P.sk.own p) λu p=>U u λe=>by subst e;have:=I _ p;omega,P.lt⟩,Q,h0.inn⟩;have i6:UH G H3 (Rv C n2 w) v2 th:=E.mono (λ_ h=>h) λu p=>U u (hN p.1);refine ALf hB hd ht g8 i5 (by show a2+1+_<_;omega) (by show A+_<_;omega) hl ?_;intro H4 n4 a4 W x v4 el m5 z4 L m4 ji g9 i0 X Y bC dW Z m6;have dW:=dW.ss;have Z:=Z.blk;have ji:a4<=a2+(1+2*cS d):=ji;have g9:A<=W:=g9;have i0:W<=A+2*ek d:=i0;have L:Fv gp w H3 n2 H4 n4:=L;have bC:Sd n2 w x:=bC;have m7:=L.le;have hq:∀u,u<C->b<=u->w.CD≠some u:=λu h1 h2 e=>hN (I _ e);have q4:T.get H4 q=_:=L.get g3 a6 a6 (hq q g2 a6);have d0:=KS.ok dW;rw[AP,AJ];refine FK (off:=0+8) (m:=1) (v:=v4) q4 d0.1 (by rw[d0.2];rfl) a6 (by show 0+8+1<=9;omega) λH5 g5 M=>?_;rw[d0.2]at g5;have d1:∀u,x.CD=some u->u<b∨C<=u:=λu p=>by
  rcases bC with h|h
  .exact I u (h.symm.trans p)
  .have:=h u p;omega
 refine AB (As (m:=9) g5 a6 rfl) ?_;have i7:Sd C s.vv x:=B.trans bC i4;have i1:Kt G H5 (Rv (b+2) n4 x) (.sl u 0 1 1 11) [e]:=by have x0:Kt G H3 (Rg (b+2) q) (.sl u 0 1 1 11) [e]:=i2.mono (λ_ h=>h) λi h=>(U i (hN h.2)).trans (O.same i (hN h.2) (hN h.1) λe=>tw (D _ e) h.1);exact x0.mono (λi h=>⟨h.1,hN h.2,λe=>ef (d1 _ e) h.1 h.2⟩) λi h=>(M i (hN h.2)).trans (L.same i (hN h.2) (hN h.1) (hq i (hN h.2) (hN h.1)))
 have uU:UH G H5 (Rv (b+2) n4 x) v2 th:=(i6.fv L (hN N.g) bC (show C<=C from ea _)).mono (λi h=>⟨hN h.1,h.2⟩) λi h=>M i (hN h.1);have i8:UH G H5 (Rv (b+2) n4 x) v4 el:=dW.mono (λi h=>⟨hN h.1,h.2⟩) λi h=>M i (hN h.1);have i9:Bs H5 n4 b gp t:=by have d2:=g8.fv L λu p=>(I u p).imp_right λh=>a6;exact⟨(M b a6).trans d2.b1,(M (b+1) a6).trans d2.b2,d2.le,f9⟩
 refine ADj (ex:=[]) (vv:=x) (nm:=W) (a:=a4) (l:=SB 4 0 0 (0,0) IY (.sl u 0 1 1 11) v2 v4) (st:=.mk 4 (0,0) IY [e] th el) (j_ _) hp i9 ?_ ⟨(M gp a6).trans m4.g,m4.pk⟩ a6 a6 a6 ?_ ?_ ?_ (λi hi=>hN (d1 i hi)) (Vy.of i1 uU i8) ?_
 .refine⟨hN f1.le,λi h1 h2 h3=>?_⟩;have k0:w.CD≠some i:=λe=>by
   rcases B with h|h
   .exact h3 (h.symm.trans e)
   .have:=h i e;have:=f1.le;omega
  exact(M i a6).trans ((L.same i (hN f1.le) h2 k0).trans ((U i a6).trans ((O.same i (hN f1.le) h2 h3).trans (f1.same i h1 h2))))
 .rw[qs];exact⟨X.sk.JO (λu p=>X.sk.own p) λu p=>M u λe=>by subst e;have:=d1 _ p;omega,X.lt⟩
 .rw[qs];exact Y
 .rcases i7 with h|h
  .exact .inl h
  .exact .inr λi hi=>hN (h i hi)
 .rw[qs];exact(pP.cond (.inl rfl) i3 R Z a6 a6).le a6
end
section
variable{G:AQ}{H H0:Heap}{n gp b:Nat}{s:Mg}{Γ:List BU}{k:KV}{t:Ty}
abbrev AOS(hB:AAv G gp d)(hd:d<1000)(ht:GW t)(hp:dD G H0 b gp s Γ t c kk k)(h0:Ms G H0 b gp s Γ)(hb:Bs H n b gp t)(f:Fg gp H0 b H n)(m1:PA G H gp (s.to a))(ha:a+200+4*cS d<=s.at'+c)(hs:s.at'+c<100000000000)(f5:1500+4*cS d<=c)
 (f6:4*ek d<=kk) (f7:s.names+kk<600) (hl:Γ.length+2*ek d<=1000):
 Runs F G CE [] H n λP H n=>Runs F G Aa [.ptr gp 0,P,iN 2] H n λQ H n=>Au (AY 11 1 xO [(0,.c Q)] E0) H n λR H n=>
  DN (.fn Aw [] []) [iN 5,R] (Runs F G) H n λS H n=>Au (Af 9 [il] E0) H n λw H n=>A1 9 w S H n λ_ H n=>
  AD (B2.ev .sub (iN (d+1)) (iN 1)) λU=>AD (AX 2 (.ptr b 0) G H) λC=>Runs F G AU [.ptr gp 0,iN 3] H n λV H n=>AD (AX 2 (.ptr b 0) G H) λv=>B7 (Ak v C) <|
  Runs F G B5 [.ptr gp 0,V,U,C] H n λW H n=>AD (AG 7 w) λX=>A1 1 X W H n λf3 H n=>
  AD (AX 9 w G H) λY=>A1 9 (.ptr (b+1) 0) Y H n λf4 H n=>CR (Ay [.cn (.ptr (b+1) 0) 9] G H) λl=>k (Bb l) H n:=by
 have d4:=hb.g;have y:=ANi h0;refine ALl h0 hb f m1 a6 λH1 n1 a1 q u e f1 Z m1 f8 f9 d5 g1 d6 d7 g0=>?_;have d8:Ms G H1 n1 gp (s.to a1) Γ:=h0.fg f1 m1;have g2:=dA d;refine ALf hB hd ht Z d8 (by show a1+1+_<_;omega) (by show s.names+_<_;omega) hl ?_;intro H2 n2 a2 D x v2 th vH z2 E m2 d0 d1 d2 I J A B K g4;have B:=B.ss;have K:=K.blk;have d0:a2<=a1+(1+2*cS d):=d0;have d1:s.names<=D:=d1;have d2:D<=s.names+2*ek d:=d2;have E:Fv gp s.vv H1 n1 H2 n2:=E;have A:Sd n1 s.vv x:=A;have g5:=E.le;have q2:T.get H2 q=_:=E.get g1 d5 a6 λe=>hN (y _ e);have L:=KS.ok B;rw[AP,AJ];refine FK (off:=0+7) (m:=1) (v:=v2) q2 L.1 (by rw[L.2];rfl) a6 (by show 0+7+1<=9;omega) λH3 g3 M=>?_;rw[L.2]at g3;have N:∀u,x.CD=some u->u<b∨n1<=u:=λu p=>by
  rcases A with h|h
  .exact .inl (y u (h.symm.trans p))
  .exact .inr (h u p)
 refine AB (As (m:=9) g3 a6 rfl) ?_;have d9:Bs H3 n2 b gp t:=by have O:=Z.fv E λu p=>.inl (y u p);exact⟨(M b a6).trans O.b1,(M (b+1) a6).trans O.b2,O.le,d4⟩
 have f0:UH G H3 (Rv (b+2) n2 x) v2 th:=B.mono (λi h=>⟨hN h.1,h.2⟩) λu p=>M u (hN p.1);have d3:Kt G H3 (Rv (b+2) n2 x) (.sl u 0 1 1 11) [e]:=by have x0:Kt G H3 (Rg (b+2) q) (.sl u 0 1 1 11) [e]:=d6.mono (λ_ h=>h) λi h=>(M i (hN h.2)).trans (E.same i (hN h.2) (hN h.1) λe=>tw (y _ e) h.1);exact x0.mono (λi h=>⟨h.1,hN h.2,λe=>ef (N _ e) h.1 h.2⟩) λ_ _=>rfl
 refine ADj (ex:=[]) (vv:=x) (nm:=D) (a:=a2) (l:=SB 5 0 0 (0,0) IY (.sl u 0 1 1 11) v2 .AT) (st:=.mk 5 (0,0) IY [e] th []) (j_ _) hp d9 ?_ ⟨(M gp a6).trans m2.g,m2.pk⟩ a6 a6 a6 ?_ ?_ ?_ (λi hi=>hN (N i hi)) (Vy.of d3 f0 .nil) ?_
 .refine⟨hN f1.le,λi h1 h2 h3=>?_⟩;exact(M i a6).trans ((E.same i (hN f1.le) h2 h3).trans (f1.same i h1 h2))
 .rw[qs];exact⟨I.sk.JO (λu p=>I.sk.own p) λu p=>M u λe=>by subst e;have:=N _ p;omega,I.lt⟩
 .rw[qs];exact J
 .rcases A with h|h
  .exact .inl h
  .exact .inr λi hi=>hN (h i hi)
 .rw[qs];exact(pP.cond (k2:=0) (.inr rfl) d7 K .nil a6 (j_ _)).le a6
abbrev AHN{fn:St}{ft:Ty}(hd:d<3)(B:QM fn IK.fs=some ft)(C:fn≠Jd)(Tr:GW ft){tyc:Runs F G=Runs F G->KV->Heap->Nat->Prop}
 (D:∀{E:Heap} {I:Nat} {P:KV},(∀H' n',Kp E I H' n'->P ft.v H' n')->tyc rfl P E I)
 (hp:dD G H0 b gp s Γ t c kk k) (J:Ms G H0 b gp s Γ) (K:Bs H n b gp t) (f:Fg gp H0 b H n) (y:PA G H gp (s.to a)) (ha:a+200<=s.at'+c) (hs:s.at'+c<100000000000) (d3:1500<=c) (d4:1<=kk):
 Runs F G A2 [.ptr gp 0,.str 1 65,iN 1] H n λL H n=>Au (AY 11 1 xO [(0,.c L)] E0) H n λM H n=>Runs F G Ab [iN 7,fn.v,M] H n λN H n=>
  tyc rfl (λO H n=>Runs F G Aa [.ptr gp 0,O,iN d] H n λQ H n=>Au (AY 11 2 xO [(0,.c N),(1,.c Q)] E0) H n λR H n=>
  DN (.fn Aw [] []) [iN 2,R] (Runs F G) H n λS H n=>A1 9 (.ptr (b+1) 0) S H n λd5 H n=>CR (Ay [.cn (.ptr (b+1) 0) 9] G H) λl=>k (Bb l) H n) H n:=by
 have d6:=K.le;have d7:=K.g;have d8:cst d<=130:=by match d,hd with|0,_=>decide|1,_=>decide|2,_=>decide
 refine iZ (cl:=nA) (Jg 1 a6) (.inl rfl) (J.mk'.fg f y) (by show a+40+2<_;omega) λE I p l e u T y q he hu U _ V=>?_;have q:p<=a+40:=q;have V:11*_<=84:=V;have W:=T.le;refine RD he W λH2 f2 X=>?_;refine SA (nm:=fn) (es:=[e]) X λH3 n3 l3 f3 Y=>?_;have d9:=f3.le;refine D λH4 n4 Z=>?_;have f0:=Z.le;have m:=f2.trans (f3.trans Z);have od:=(f.trans T).trans (.kp m);have d0:Mk G H4 n4 gp (s.to p) Γ:=J.mk'.fg od ⟨m.get y.g a6,y.pk⟩;refine Jg d a6 ft H4 n4 (s.to p) Γ _ Tr d0 (by show p+cst d+2<_;omega) λH5 n5 a5 l5 e5 A m5 lI rp d1 V=>?_;have lI:a5<=p+cst d:=lI;have f7:=A.le;have h1:C3 G H5 (Rg (b+2) n5) l3 (.mk 7 0 fn IY IY (0,0) [e]):=((Y.kp' Z).fg a6 A).mono (λi h=>⟨hN h.1,h.2⟩) λ_ _=>rfl;have h2:C3 G H5 (Rg (b+2) n5) l5 e5:=rp.mono (λi h=>⟨hN h.1,h.2⟩) λ_ _=>rfl;refine ZI h1 h2 a6 λH6 f6 x=>?_;have⟨w,hw,d2,_⟩:=d1.ex;exact ub hp J ((((K.fg T).kp m).fg A).kp f6) ((od.trans A).trans (.kp f6)) ⟨f6.get m5.g a6,m5.pk⟩ (a:=a5) a6 x (pP.put (Gd.get hu U B C) d2 hw)
end
section
variable{G:AQ}{H H0:Heap}{n gp b:Nat}{s:Mg}{Γ:List BU}{k:KV}{t:Ty}
abbrev ATc(hp:dD G H0 b gp s Γ t c kk k)(M:Ms G H0 b gp s Γ)(S:Bs H n b gp t)(f:Fg gp H0 b H n)(m1:PA G H gp (s.to a))(ha:a+300<=s.at'+c)(hs:s.at'+c<100000000000)(d5:1500<=c)(d6:1<=kk):
 Runs F G Cm [] H n λp H n=>Runs F G Aa [.ptr gp 0,p,iN 1] H n λq H n=>Runs F G A7 [] H n λu H n=>Runs F G Aa [.ptr gp 0,u,iN 1] H n λv H n=>
  Au (AY 11 2 xO [(0,.c q),(1,.c v)] E0) H n λw H n=>Runs F G Ab [iN 12,.str 0 0,w] H n λx H n=>Runs F G A7 [] H n λy H n=>Runs F G Aa [.ptr gp 0,y,iN 2] H n λA H n=>
  Au (AY 11 2 xO [(0,.c x),(1,.c A)] E0) H n λB H n=>DN (.fn Aw [] []) [iN 2,B] (Runs F G) H n λC H n=>A1 9 (.ptr (b+1) 0) C H n λd4 H n=>CR (Ay [.cn (.ptr (b+1) 0) 9] G H) λl=>k (Bb l) H n:=by have d7:=S.le;have d8:=S.g;refine oc λH1 T N=>?_;have d9:=N.le;refine Jg 1 a6 wN H1 T (s.to a) Γ _ (.inr (.inr (.inr (.inr rfl)))) ((M.mk'.fg f m1).kp N) (by show a+40+2<_;omega) λH2 n2 O l2 U V m2 D W X d=>?_;have D:O<=a+40:=D;have d:11*_<=84:=d;have f0:=V.le;refine Hg λH3 n3 f3=>?_;have g0:=f3.le;have E:=((f.trans (.kp N)).trans V).trans (.kp (gp:=gp) f3);refine Jg 1 a6 BY H3 n3 (s.to O) Γ _ (.inl rfl) (M.mk'.fg E ⟨f3.get m2.g a6,m2.pk⟩) (by show O+40+2<_;omega) λH4 n4 P l4 Y Q m4 ji Z d0 d=>?_;have ji:P<=O+40:=ji;have d:11*_<=84:=d;have g1:=Q.le;have x2:C3 G H4 (Rg T n4) l2 U:=(W.kp' f3).fg a6 Q;have x4:C3 G H4 (Rg T n4) l4 Y:=Z.mono (λi h=>⟨hN h.1,h.2⟩) λ_ _=>rfl;refine ZI x2 x4 a6 λH5 f5 I=>?_;refine SA (nm:=(0,0)) (es:=[U,Y]) I λH6 n6 l6 f6 d1=>?_;have g2:=f6.le;refine Hg λH7 n7 f7=>?_;have YE:=f7.le;have m:=f5.trans (f6.trans f7);have J:=(E.trans Q).trans (.kp m);refine Jg 2 a6 BY H7 n7 (s.to P) Γ _ (.inl rfl) (M.mk'.fg J ⟨m.get m4.g a6,m4.pk⟩) (by show P+130+2<_;omega) λH8 n8 a8 l8 e8 R m8 K d2 d3 d=>?_;have K:a8<=P+130:=K;have d:11*_<=264:=d;have g3:=R.le;have y1:C3 G H8 (Rg (b+2) n8) l6 (.mk 12 0 (0,0) IY IY (0,0) [U,Y]):=((d1.kp' f7).fg a6 R).mono (λi h=>⟨hN h.1,h.2⟩) λ_ _=>rfl;have y2:C3 G H8 (Rg (b+2) n8) l8 e8:=d2.mono (λi h=>⟨hN h.1,h.2⟩) λ_ _=>rfl;refine ZI y1 y2 a6 λH9 f9 L=>?_;exact ub hp M (((((((S.kp N).fg V).kp f3).fg Q).kp m).fg R).kp f9) ((J.trans R).trans (.kp f9)) ⟨f9.get m8.g a6,m8.pk⟩ (a:=a8) a6 L (pP.put (Gd.elm X.is d0.int) d3.int (.same _))
abbrev AWd(M:GW t)(N:dD G H0 b gp s Γ t c kk k)(E:Ms G H0 b gp s Γ)(v:Bs H n b gp t)(f:Fg gp H0 b H n)(O:PA G H gp (s.to a))(U:a+300<=s.at'+c)(V:s.at'+c<100000000000)(P:1500<=c)(Q:1<=kk):
 AD (AX 2 (.ptr b 0) G H) λd=>Runs F G Aa [.ptr gp 0,d,iN 2] H n λm H n=>Au (AY 11 1 xO [(0,.c m)] E0) H n λp H n=>
  DN (.fn Aw [] []) [iN 6,p] (Runs F G) H n λq H n=>A1 9 (.ptr (b+1) 0) q H n λI H n=>CR (Ay [.cn (.ptr (b+1) 0) 9] G H) λl=>k (Bb l) H n:=by have R:=v.le;have S:=v.g;refine AB (Be v.b1) ?_;refine Jg 2 a6 t H n (s.to a) Γ _ M (E.mk'.fg f O) (by show a+130+2<_;omega) λW X J Y Z x K u y A L=>?_;have u:J<=a+130:=u;have L:11*_<=264:=L;have B:=x.le;refine RD y B λH3 f3 C=>?_;have⟨w,T,D,_⟩:=A.ex;exact ub N E ((v.fg x).kp f3) ((f.trans x).trans (.kp f3)) ⟨f3.get K.g a6,K.pk⟩ (a:=J) a6 (C.mono (λi h=>⟨hN h.1,h.2⟩) λ_ _=>rfl) (pP.rtn D T)
abbrev AYE(Z:dD G H0 b gp s Γ t c kk k)(K:Ms G H0 b gp s Γ)(L:Bs H n b gp t)(f:Fg gp H0 b H n)(I:PA G H gp (s.to a))(ha:a+300<=s.at'+c)(hs:s.at'+c<100000000000)(d0:1500<=c)(d1:1<=kk):
 Runs F G A2 [.ptr gp 0,.str 1 65,iN 2] H n λm H n=>Runs F G A7 [] H n λp H n=>Runs F G Aa [.ptr gp 0,p,iN 1] H n λq H n=>Au (AY 11 2 xO [(0,.c m),(1,.c q)] E0) H n λv H n=>
  Runs F G Ab [iN 8,.str 3 7628135,v] H n λw H n=>Au (AY 11 1 xO [(0,.c w)] E0) H n λx H n=>
  DN (.fn Aw [] []) [iN 3,x] (Runs F G) H n λy H n=>A1 9 (.ptr (b+1) 0) y H n λQ H n=>CR (Ay [.cn (.ptr (b+1) 0) 9] G H) λl=>k (Bb l) H n:=by have d2:=L.le;have d3:=L.g;refine iZ (cl:=nA) (Jg 2 a6) (.inl rfl) (K.mk'.fg f I) (by show a+130+2<_;omega) λH1 n1 J l e u M I A he hu N _ B=>?_;have A:J<=a+130:=A;have B:11*_<=264:=B;have d4:=M.le;refine Hg λH2 n2 C=>?_;have d5:=C.le;have R:=(f.trans M).trans (.kp (gp:=gp) C);refine Jg 1 a6 BY H2 n2 (s.to J) Γ _ (.inl rfl) (K.mk'.fg R ⟨C.get I.g a6,I.pk⟩) (by show J+40+2<_;omega) λS T U l3 V f3 W X O P B=>?_;have X:U<=J+40:=X;have B:11*_<=84:=B;have d6:=f3.le;have x1:C3 G S (Rg (b+2) T) l e:=((he.kp' C).fg a6 f3).mono (λi h=>⟨hN h.1,h.2⟩) λ_ _=>rfl;have x3:C3 G S (Rg (b+2) T) l3 V:=O.mono (λi h=>⟨hN h.1,h.2⟩) λ_ _=>rfl;refine ZI x1 x3 a6 λH4 f4 D=>?_;refine SA (nm:=VR) (es:=[e,V]) D λH5 n5 l5 Y rp=>?_;have d7:=Y.le;refine RD rp a6 λH6 f6 E=>?_;have d:=f4.trans (Y.trans f6);exact ub Z K ((((L.fg M).kp C).fg f3).kp d) ((R.trans f3).trans (.kp d)) ⟨d.get W.g a6,W.pk⟩ (a:=U) a6 E (pP.ask (Gd.AV5 hu N P.int))
end
section
variable{G:AQ}{gp:Nat}
abbrev ALP(d:Nat)(hd:d<1000)(Q:∀R,d=R+1->AAv G gp R):ANq G gp d:=by
 intro t H n s Γ k M h hs Y hl p;refine xN (ak Ae G) ?_;delta RH;have N:=h.g;have A:=AMc d;have B:=dA d;refine BE λH1 S T=>?_;refine Ao rfl λU O V=>?_;have C:=S.trans O;have E:Bs U (n+1+1) n gp t:=⟨O.get T a6,V,a6,N⟩;refine EY (h.kp C).m a6 a6 a6 λL r a hr ha w W=>?_;have f3:Fg gp U (n+1+1) L (n+1+1):=⟨ea _,λD _ i=>W D i⟩;have f:=(Fg.kp (gp:=gp) C).trans f3;have u:=E.fg f3;clear S O T V C E W f3;generalize n+1+1=n3 at*;refine AB (A9 ..) ?_;cases r0:decide (r=0)with
 |true=>rw[Ah];exact ART p h u f w a6 a6 A B a6 a6
 |false=>
 rw[AZ];refine AB (A9 ..) ?_;cases r1:decide (r=1)with
 |true=>exact ART p h u f w a6 a6 A B a6 a6
 |false=>
 delta Co;rw[AZ];refine AB (A9 ..) ?_;cases r2:decide (r=2)with
 |true=>rw[Ah];exact ATT (P:=λ_=>True) p h u f w a6 a6 A B
 |false=>
 rw[AZ];refine AB (A9 ..) ?_;cases r3:decide (r=3)with
 |true=>
  rw[Ah];refine EY w a6 a6 (by show a<_;omega) λI q J X x y K=>?_;have x:J<=a+1:=x;have v:Fg gp L n3 I n3:=⟨ea _,λD _ i=>K D i⟩;refine AB (A9 ..) ?_;cases q0:decide (q=0)with
  |true=>rw[Ah];exact AHN (fn:=pu) (ft:=BY) (d:=2) (tyc:=λ_ P H n=>Runs F G A7 [] H n P) a6 rfl a_ (.inl rfl) (λh=>Hg h) p h (u.fg v) (f.trans v) y a6 a6 a6 a6
  |false=>rw[AZ];exact AHN (fn:=my) (ft:=tA) (d:=1) (tyc:=λ_ P H n=>Runs F G CN [.str 1 65] H n P) a6 rfl a_ (.inr (.inr (.inl rfl))) (λh=>U0 (l:=1) (c:=65) h) p h (u.fg v) (f.trans v) y a6 a6 a6 a6
 |false=>
 rw[AZ];refine AB (A9 ..) ?_;cases r4:decide (r=4)with
 |true=>
  rw[Ah];refine EY w a6 a6 (by show a<_;omega) λI q J X x y K=>?_;have x:J<=a+1:=x;have v:Fg gp L n3 I n3:=⟨ea _,λD _ i=>K D i⟩;refine AB (A9 ..) ?_;cases q0:decide (q=0)with
  |true=>rw[Ah];exact AHN (fn:=AGj) (ft:=wN) (d:=1) (tyc:=λ_ P H n=>Runs F G Cm [] H n P) a6 rfl a_ (.inr (.inr (.inr (.inr rfl)))) (λh=>oc h) p h (u.fg v) (f.trans v) y a6 a6 a6 a6
  |false=>rw[AZ];exact ATc p h (u.fg v) (f.trans v) y a6 a6 a6 a6
 |false=>
 rw[AZ];refine AB (A9 ..) ?_;cases r5:decide (r=5)with
 |true=>
  rw[Ah];refine AB (cM ..) ?_;cases d with
  |zero=>rw[show decide (0<0)=false from rfl,AZ];exact xX p h u f w a6 a6 a6 a6
  |succ d=>
   rw[ui (show 0<d+1 by omega),Ah];have Z:cS (d+1)=1500+4*cS d:=rfl;have e2:ek (d+1)=4*ek d:=rfl;have:=dA d;exact AXm (Q d rfl) a6 M p h u f w a6 a6 a6 o_ a6 a6
 |false=>
 rw[AZ];refine AB (A9 ..) ?_;cases r6:decide (r=6)with
 |true=>
  rw[Ah];refine AB (cM ..) ?_;cases d with
  |zero=>rw[show decide (0<0)=false from rfl,AZ];exact xX p h u f w a6 a6 a6 a6
  |succ d=>
   rw[ui (show 0<d+1 by omega),Ah];have Z:cS (d+1)=1500+4*cS d:=rfl;have e2:ek (d+1)=4*ek d:=rfl;have:=dA d;exact AOS (Q d rfl) a6 M p h u f w a6 a6 a6 o_ a6 a6
 |false=>
 rw[AZ];refine AB (A9 ..) ?_;cases r7:decide (r=7)with
 |true=>
  rw[Ah];refine EY w a6 a6 (by show a<_;omega) λI q J X x y K=>?_;have x:J<=a+1:=x;have v:Fg gp L n3 I n3:=⟨ea _,λD _ i=>K D i⟩;refine AB (A9 ..) ?_;cases q0:decide (q=0)with
  |true=>rw[Ah];exact AWd M p h (u.fg v) (f.trans v) y a6 a6 a6 a6
  |false=>rw[AZ];exact AYE p h (u.fg v) (f.trans v) y a6 a6 a6 a6
 |false=>rw[AZ];exact xX p h u f w a6 a6 a6 a6
end
abbrev Sk.cut{z:Nat}{q:IntKind}(h:Sk H z A v LS)(hi:i<=LS.length):∃v',lV z v E0 none (some (.c (.int q (.ofNat i) 0))) none=some v'/\v'.CD=v.CD/\Sk H z A v' (LS.take i):=by
 cases h with
 |nil=>
  obtain rfl:i=0:=by simpa using hi
  exact⟨.AT,rfl,rfl,.nil⟩
 |emp k m=>
  rename_i f t;obtain rfl:i=0:=by simpa using hi
  refine⟨.sl f 0 0 0 z,?_,rfl,.emp k m⟩;show Az (Nat.beq z z) (Az (band (Nat.ble 0 0) (Nat.ble 0 0)) (f3 0 (0-0) (0-0) λo d e=>.sl f o d e z))=_;rw[Bq];rfl
 |Hf k w u m=>
  rename_i f c t;have p:(LS.take i).length=i:=by rw[xx];omega
  refine⟨.Hf f 0 i z,?_,rfl,?_⟩
  .show Az (Nat.beq z z) (Az (band (Nat.ble 0 i) (Nat.ble i LS.length)) (f3 0 (i-0) 0 λo d _=>.Hf f o d z))=_;rw[Bq,show Nat.ble 0 i=true by rw[_e];omega,show Nat.ble i LS.length=true by rw[_e];omega];show CC 0 (λa=>CC (i-0) λb=>CC 0 λ_=>some (.Hf f a b z))=_;rw[BF,BF,BF,aAd]
  .have:=Sk.Hf (z:=z) (LS:=LS.take i) k (by rw[p];omega) (λj L g=>u j L (by rw[x_]at g;split at g;exact g;cases g)) m;rw[p]at this;exact this
abbrev AYs{z:Nat}{Z:LV}(i:0<z)(h:∀d,Kp H n d (n+1)->(∃t,T.get d n=some (.arr z 0 t))->P (.sl n 0 0 0 z) d (n+1)):Au (AY z 0 Z [] E0) H n P:=
 M1 (G:=λ_ _ _=>none) (vs:=[]) rfl i (λv k=>by cases k) λd f g _=>h d f g
def Rw(a b:Nat)(v w:V):Nat->Prop:=λid=>a<=id/\id<b/\v.CD≠some id/\w.CD≠some id
structure BJ(G:AQ)(gp d:Nat)(t:Ty)(H0:Heap)(n0:Nat)(s:Mg)(Γ:List BU)(j:Nat)(H:Heap)(n:Nat)(vo:V)(a nm:Nat)(vv:V)(ex:List BU)(cs:Bh)(sts:List Tt):Prop where
 f:Fv gp s.vv H0 n0 H n
 m:PA G H gp (s.st a nm vv)
 a:a<=s.at'+j*cS d
 n1:s.names<=nm
 n2:nm<=s.names+j*ek d
 w:Lw H n gp vv (Γ++ex)
 UZ:Zf (Γ++ex) nm
 xl:ex.length<=j
 sd:Sd (n0+1) s.vv vv
 box:T.get H n0=some (one t.cells)
 lo:n0+1<=n
 sk:Sk H 9 (λid=>n0+1<=id/\id<n/\vv.CD≠some id) vo cs
 ts:FQ G H (Rw (n0+1) n vv vo) cs sts
 gd:aT s.inn t Γ (Γ++ex) (j*ek d) sts
 ln:sts.length=j
 cz:50*F2 sts<=2200*(j*ek d)+j*cS d
section
variable{G:AQ}{gp:Nat}
abbrev AI7(d:Nat)(hd:d<1000)(hS:ANq G gp d):AAv G gp d:=by
 intro m t H n s Γ k hm ht h hs f9 hl hp;refine tS (YU Ae G) ?_;delta Pl;have g0:=h.g;have g3:=AMc d;have g5:=dA d;have d2:∀u,s.vv.CD=some u->u<n:=λu p=>(h.w.sk.own p).1;refine BE λH1 f1 g1=>?_;have P:=h.kp f1;have S:=(P.w.lv (G:=G)).el.len;rw[uc]at S;have q2:∀{H':Heap} {s':Mg},PA G H' gp s'->AM (.ptr gp 2) G H'=some s'.vv:=λm=>AK m.g rfl;rw[BG,AJ,AP,AJ,t_,q2 P.m,AJ,S,AJ];refine AYs a6 λH2 f2 g2=>?_;have⟨t2,g2⟩:=g2;have E:=P.kp f2;refine BL (N:=m) (J:=λj q=>∃H' n' K a nm D ex cs L,q=(.ptr gp 0,iN m,iN d,.ptr n 0,iN Γ.length,K,iN j,H',n')/\BJ G gp d t H n s Γ j H' n' K a nm D ex cs L) ?_ ?_
  ⟨H2,n+1+1,_,s.at',s.names,s.vv,[],[],[],rfl,(Fg.kp (f1.trans f2)).fv _,E.m,a6,ea _,a6,by rw[qs];exact E.w,by rw[qs];exact h.UZ,ea _,.inl rfl,f2.get g1 a6,a6,
   .emp g2 ⟨a6,a6,λe=>hN (d2 _ e)⟩,.nil,by rw[qs,K'];exact .nil,rfl,j_ _⟩
 .rintro I j q V ⟨H3,Q,K,a,nm,D,ex,cs,L,rfl,x⟩ ih;show C5 lfp G (Runs F G) k I (.ptr gp 0) (iN m) (iN d) (.ptr n 0) (iN Γ.length) K (iN j) H3 Q;delta C5;have e1:(j+1)*cS d<=m*cS d:=z8 _ V;have e2:(j+1)*ek d<=m*ek d:=z8 _ V;rw[pp,_g]at e1 e2;have:=x.a;have:=x.n2;have:=x.n1;have g6:=x.xl;have d3:=x.lo;have e3:j<=j*ek d:=aAb _ a6;rw[D9,AJ,ui V,Ah];refine AB (Be x.box) ?_;have d9:Ms G H3 Q gp (s.st a nm D) (Γ++ex):=⟨x.m,a6,x.w,x.UZ,h.inn⟩;refine hS t H3 Q (s.st a nm D) (Γ++ex) _ ht d9 (by show a+_<_;omega) (by show nm+_<_;omega) (by rw[uk];omega) ?_;intro H4 n4 a4 W B f0 l st g7 X m4 ji d4 d5 R Y bC dW f3 g8;have X:Fv gp D H3 Q H4 n4:=X;have bC:Sd Q D B:=bC;have ji:a4<=a+cS d:=ji;have d4:nm<=W:=d4;have d5:W<=nm+ek d:=d5;have g9:=X.le;have M:∀u,n+1<=u->u<Q->D.CD≠some u->B.CD≠some u:=λu P E h3 e=>by
   rcases bC with h|h
   .exact h3 (h.symm.trans e)
   .have:=h u e;omega
  have d6:∀u,D.CD=some u->u<n∨n+1<=u:=λu p=>by
   rcases x.sd with h|h
   .exact .inl (d2 u (h.symm.trans p))
   .exact .inr (h u p)
  have Z:Sk H4 9 (λu=>n+1<=u/\u<n4/\B.CD≠some u/\u<Q) K cs:=x.sk.mono (λu p=>⟨p.1,a6,M u p.1 p.2.1 p.2.2,p.2.1⟩) λu p=>X.same u p.2.1 a6 p.2.2;have d7:T.get H4 n=_:=X.get x.box a6 a6 λe=>hN (d6 _ e);have d8:=x.ts.len;have f5:=x.ln;refine Z.app (bs:=136) (c:=.agg l) (m:=0) (λu p=>(Z.own p).2.1) a6 rfl dW.len (by rw[d8];omega) λv' H5 f6 d0 U=>?_;rw[CA a6,AJ];have f7:K.CD≠some gp:=λe=>hN ((Z.own e).1);have d1:∀u,B.CD=some u->K.CD≠some u:=λu p e=>(Z.own e).2.2.1 p;have O:∀u,B.CD=some u->u<n4:=λu p=>(R.sk.own p).1;have C:∀{u:Nat},u<n4->K.CD≠some u->T.get H5 u=T.get H4 u:=λP E=>d0 _ P E;refine ih _ ⟨H5,n4+2,v',a4,W,B,ex++f0,cs++[l],L++[st],rfl,?_⟩;refine⟨?_,⟨(C a6 f7).trans m4.g,m4.pk⟩,?_,a6,?_,?_,?_,?_,?_,?_,a6,f6 _ ⟨a6,a6,λe=>hN (O _ e)⟩,?_,?_,?_,?_⟩
  .refine⟨hN x.f.le,λu P E h3=>?_⟩;refine(C a6 λe=>hN ((Z.own e).1)).trans ((X.same u a6 E λe=>?_).trans (x.f.same u P E h3));rcases x.sd with h|h
   .exact h3 (h.symm.trans e)
   .have:=h u e;omega
  .rw[pp,_g];omega
  .rw[pp,_g];omega
  .rw[<-y_];exact⟨R.sk.JO (λu p=>⟨hN (O u p),(R.sk.own p).2⟩) λu p=>C (O u p) (d1 u p),R.lt⟩
  .rw[<-y_];exact Y
  .rw[uk];omega
  .exact x.sd.trans bC a6
  .exact(C a6 λe=>hN ((Z.own e).1)).trans d7
  .refine FQ.app (FQ.mono (λu p=>?_) (λu p=>?_) x.ts) (.cons (dW.mono (λu p=>?_) λu p=>?_) .nil)
   .refine⟨p.1,hN p.2.1,M u p.1 p.2.1 p.2.2.1,λe=>?_⟩;rw[U]at e;cases e;have:=p.2.1;omega
   .exact(C (hN p.2.1) p.2.2.2).trans (X.same u p.2.1 (hN p.1) p.2.2.1)
   .refine⟨hN p.1,hN p.2.1,p.2.2,λe=>?_⟩;rw[U]at e;cases e;have:=p.2.1;omega
   .exact C p.2.1 λe=>tw ((Z.own e).2.2.2) p.1
  .rw[<-y_,pp,_g];exact x.gd.snoc f3
  .rw[uk,f5];rfl
  .have:=x.cz;rw[AEN,pp,pp,_g,_g];simp only[F2];omega
 .rintro I q ⟨H3,Q,K,a,nm,D,ex,cs,L,rfl,x⟩;show C5 lfp G (Runs F G) k I (.ptr gp 0) (iN m) (iN d) (.ptr n 0) (iN Γ.length) K (iN m) H3 Q;delta C5;rw[D9,AJ,eg (m_ _),AZ];delta HL;have d3:=x.lo;rw[BG,AJ,AP,AJ,t_,q2 x.m,AJ];have⟨v',f8,A,y⟩:=x.w.sk.cut (i:=Γ.length) (q:=.i64) o6;rw[show(s.st a nm D).vv=D from rfl,f8,AJ,AJ,AP,AJ,t_];refine FK (off:=2) (m:=1) (v:=v') x.m.g y.ok.1 (by rw[y.ok.2.1];rfl) a6 (by show 2+1<=5;omega) λH4 g4 s4=>?_;rw[y.ok.2.1]at g4;have i0:∀u,D.CD=some u->u≠gp:=λu p=>(x.w.sk.own p).2;refine hp H4 Q a nm v' K L ex (hN x.ln) ⟨x.f.le,λu P E h3=>(s4 u E).trans (x.f.same u P E h3)⟩ ⟨g4,x.m.pk⟩ x.a x.n1 x.n2 ⟨?_,h.w.lt⟩ ⟨λf hf=>?_,h.UZ.nd,h.UZ.ty⟩ ?_ ⟨cs,x.sk.mono (λu p=>⟨a6,p.2.1,by rw[A];exact p.2.2⟩) λu p=>s4 u a6,?_⟩ x.gd x.cz
  .have:(List.map RR (Γ++ex)).take Γ.length=Γ.map RR:=by rw[wm,R1 o6]
   rw[this]at y;exact y.JO (λu p=>y.own p) λu p=>s4 u (y.own p).2
  .exact x.UZ.nm f (n_ _ hf)
  .rw[Sd,A];rcases x.sd with h|h
   .exact .inl h
   .exact .inr λu p=>hN (h u p)
  .refine FQ.mono (λu p=>⟨⟨hN p.1,p.2.1,by rw[A];exact p.2.2.1⟩,p.2.2.2⟩) (λu p=>s4 u (hN p.1)) x.ts
abbrev AEB:∀d,d<1000->ANq G gp d/\AAv G gp d
 |0,f=>by have h:=ALP (G:=G) (gp:=gp) 0 f λg e=>a6;exact⟨h,AI7 0 f h⟩
 |d+1,f=>by
  have i:=(AEB d a6).2;have h:=ALP (G:=G) (gp:=gp) (d+1) f λg e=>by have k:d=g:=a6;subst k;exact i
  exact⟨h,AI7 (d+1) f h⟩
end
abbrev AA2{s:St}(Δ:aAm):∀{Γ:aAm},Cg s Γ=some t->Cg s (Γ++Δ)=some t
 |[],h=>by cases h
 |f::l,h=>by
  have h:(bif decide (f.nm=s)then some f.ty else Cg s l)=some t:=h;show(bif decide (f.nm=s)then some f.ty else Cg s (l++Δ))=some t;cases d:decide (f.nm=s)with
  |true=>rw[d]at h;exact h
  |false=>rw[d]at h;exact AA2 Δ h
variable{x:Kx}{nm:St}{ty:Ty}
abbrev APP{Γ Δ:aAm}(kind:Nat)(h:kind≠6)(ks:aAv):T9 x Γ kind nm ty ks=T9 x Δ kind nm ty ks:=by
 match kind,h with
 |0,_=>rcases ks with _|⟨a,_|⟨b,_|⟨c,l⟩⟩⟩<;>rfl
 |1,_=>rcases ks with _|⟨a,_|⟨b,_|⟨c,l⟩⟩⟩<;>rfl
 |2,_=>rcases ks with _|⟨a,_|⟨b,_|⟨c,l⟩⟩⟩<;>rfl
 |3,_=>rcases ks with _|⟨a,_|⟨b,_|⟨c,l⟩⟩⟩<;>rfl
 |4,_=>rcases ks with _|⟨a,_|⟨b,_|⟨c,l⟩⟩⟩<;>rfl
 |5,_=>rcases ks with _|⟨a,_|⟨b,_|⟨c,l⟩⟩⟩<;>rfl
 |6,h=>exact absurd rfl h
 |7,_=>rcases ks with _|⟨a,_|⟨b,_|⟨c,l⟩⟩⟩<;>rfl
 |8,_=>rcases ks with _|⟨a,_|⟨b,_|⟨c,l⟩⟩⟩<;>rfl
 |9,_=>rcases ks with _|⟨a,_|⟨b,_|⟨c,l⟩⟩⟩<;>rfl
 |10,_=>rcases ks with _|⟨a,_|⟨b,_|⟨c,l⟩⟩⟩<;>rfl
 |11,_=>rcases ks with _|⟨a,_|⟨b,_|⟨c,l⟩⟩⟩<;>rfl
 |12,_=>rcases ks with _|⟨a,_|⟨b,_|⟨c,l⟩⟩⟩<;>rfl
 |13,_=>rcases ks with _|⟨a,_|⟨b,_|⟨c,l⟩⟩⟩<;>rfl
 |14,_=>rcases ks with _|⟨a,_|⟨b,_|⟨c,l⟩⟩⟩<;>rfl
 |15,_=>rcases ks with _|⟨a,_|⟨b,_|⟨c,l⟩⟩⟩<;>rfl
 |16,_=>rcases ks with _|⟨a,_|⟨b,_|⟨c,l⟩⟩⟩<;>rfl
 |17,_=>rcases ks with _|⟨a,_|⟨b,_|⟨c,l⟩⟩⟩<;>rfl
 |18,_=>rcases ks with _|⟨a,_|⟨b,_|⟨c,l⟩⟩⟩<;>rfl
 |19,_=>rcases ks with _|⟨a,_|⟨b,_|⟨c,l⟩⟩⟩<;>rfl
 |20,_=>rcases ks with _|⟨a,_|⟨b,_|⟨c,l⟩⟩⟩<;>rfl
 |k+21,_=>rcases ks with _|⟨a,_|⟨b,_|⟨c,l⟩⟩⟩<;>rfl
abbrev AJk{Γ:aAm}(Δ:aAm){kind:Nat}{ks:aAv}{p:Ty×St}(h:T9 x Γ kind nm ty ks=some p):T9 x (Γ++Δ) kind nm ty ks=some p:=by
 by_cases d:kind=6
 .subst d;cases ks with
  |nil=>
   have⟨t,f,g⟩:=d_.1 (show(Cg nm Γ).map (λt=>(t,((0,0):St)))=some p from h);show(Cg nm (Γ++Δ)).map (λt=>(t,((0,0):St)))=some p;rw[AA2 Δ f,<-g];rfl
  |cons a l=>cases h
 .rw[APP (Δ:=Γ) kind d];exact h
mutual
theorem AEE{x:Kx}{Γ:aAm}(Δ:aAm):∀{e e':Te},Yx x Γ e=some e'->Yx x (Γ++Δ) e=some e'
 |.mk kind num nm ty of own kids,e',h=>by obtain⟨ks,p,h1,h2,rfl,h0⟩:=uI h;exact AMR h0 (AEu Δ h1) (AJk Δ h2)
theorem AEu{x:Kx}{Γ:aAm}(Δ:aAm):∀{l l':aAq},jj x Γ l=some l'->jj x (Γ++Δ) l=some l'
 |[],l',h=>by rw[jj]at h⊢;exact h
 |e::l,l',h=>by obtain⟨e',t,h1,h2,rfl⟩:=Vg h;rw[jj,AEE Δ h1];show((jj x (Γ++Δ) l).map λl'=>e'::l')=_;rw[AEu Δ h2];rfl
end
abbrev Gd.more{inn:St}{Γ:aAm}{e:Te}(Δ:aAm)(h:Gd inn Γ e t):Gd inn (Γ++Δ) e t:=λx d=>by have⟨f,g,i⟩:=h x d;exact⟨f,AEE Δ g,i⟩
def L3:Nat->aAv->aAm
 |_,[]=>[]
 |i,t::l=>⟨Wp i,t⟩::L3 (i+1) l
abbrev Zc:∀(i:Nat) (ts:aAv),(L3 i ts).length=ts.length
 |_,[]=>rfl
 |i,_::l=>by show(L3 (i+1) l).length+1=_;rw[Zc (i+1) l];rfl
abbrev AEt:∀(i:Nat) (ts:aAv) (j:Nat) (t:Ty),ts[j]? =some t->(L3 i ts)[j]? =some ⟨Wp (i+j),t⟩
 |_,[],j,t,h=>by simp at h
 |i,a::l,0,t,h=>by cases h;rfl
 |i,a::l,j+1,t,h=>by have:=AEt (i+1) l j t (by simpa using h);rw[show i+(j+1)=i+1+j by omega];exact this
abbrev Zu:∀(i:Nat) (ts:aAv) (f:BU),f∈L3 i ts->(∃j,i<=j/\f.nm=Wp j)/\f.ty∈ts
 |_,[],f,h=>by cases h
 |i,a::l,f,h=>by
  rcases qk.1 (show f∈⟨Wp i,a⟩::L3 (i+1) l from h)with rfl|h
  .exact⟨⟨i,ea _,rfl⟩,u_ ..⟩
  .obtain⟨⟨j,k,d⟩,g⟩:=Zu (i+1) l f h;exact⟨⟨j,a6,d⟩,c_ _ g⟩
abbrev yX:∀(i:Nat) (ts:aAv),((L3 i ts).map BU.nm).Nodup
 |_,[]=>List.nodup_nil
 |i,a::l=>by show(Wp i::(L3 (i+1) l).map BU.nm).Nodup;rw[R_];refine⟨λh=>?_,yX (i+1) l⟩;have⟨f,g,k⟩:=_c.1 h;have⟨⟨j,m,d⟩,_⟩:=Zu (i+1) l f g;have:=AQR (k.symm.trans d);omega
abbrev AJ3{ts:aAv}(h:∀t∈ts,GW t)(m:Nat):Zf (L3 0 ts) m:=
 ⟨λf d=>by have⟨⟨j,_,g⟩,_⟩:=Zu 0 ts f d;exact .inl ⟨j,g⟩,yX 0 ts,λf d=>h _ (Zu 0 ts f d).2⟩
abbrev ARv(j:Nat):V.str 2 (112+256*AAs [97+j])=(Wp j).v:=rfl
abbrev take_snoc{d:Type}{l:List d}{j:Nat}{a:d}(h:l[j]? =some a):l.take (j+1)=l.take j++[a]:=by rw[List.take_add_one,h];rfl
abbrev sG:LV:=[iN 0,iN 0,.str 0 0,.bool false,.AT,.str 0 0,.bool false,.AT]
def Mg.md(s:Mg)(i:St)(vv:V):Mg:={s with inn:=i,vv:=vv}
structure Bm(H:Heap)(n b gp:Nat)(nm:St)(st:Bool)(ret:Ty)(vp vb:V):Prop where
 b1:T.get H b=some (one ret.cells)
 b2:T.get H (b+1)=some (one sG)
 b3:T.get H (b+2)=some (one (xW 0 0 nm st vp ret vb))
 le:b+3<=n
 g:gp<b
def AHK(G:AQ)(H:Heap)(n gp:Nat)(s:Mg)(cls nm:St)(st:Bool)(ret:Ty)(ts:aAv)(k:KV):Prop:=
 ∀H' n' a nms l m,Fg gp H n H' n'->PA G H' gp ⟨s.vp,a,.AT,nms,bif st then(0,0)else cls⟩->a<=s.at'+100000->s.names<=nms->nms<=s.names+48->lQ G H' (Rg n n') l m->m.nm=nm->m.st=st->m.ret=ret->m.ps=L3 0 ts->bf cls m->k (.agg l) H' n'
structure MJ(G:AQ)(gp b:Nat)(nm:St)(st:Bool)(ret:Ty)(H0:Heap)(s:Mg)(i:St)(ps:List BU)(H:Heap)(n:Nat)(vp vv:V):Prop where
 bx:Bm H n b gp nm st ret vp .AT
 old:∀id,id<b->id≠gp->T.get H id=T.get H0 id
 m:PA G H gp (s.md i vv)
 sp:Sk H 3 (λid=>b+3<=id/\id<n) vp (ps.map RR)
 sv:Sk H 3 (λid=>b+3<=id/\id<n/\vp.CD≠some id) vv (ps.map RR)
section
variable{G:AQ}{H0:Heap}{gp b:Nat}{s:Mg}{k:KV}{cls nm:St}{st:Bool}{ret:Ty}{ts:List Ty}
abbrev AHr{vp:V}(I:GW ret)(Tr:∀t∈ts,GW t)(d5:ts.length<=3)(S:cls=nA∨cls=nB)(hs:s.at'+100000<10000000000)(i0:s.names+48<600)
 (hj:MJ G gp b nm st ret H0 s (bif st then(0,0)else cls) (L3 0 ts) H n vp vv) (hk:AHK G H0 b gp s cls nm st ret ts k):D1 lfp G (Runs F G) k (.ptr gp 0) (.ptr b 0) (.ptr (b+1) 0) (.ptr (b+2) 0) H n:=by
 delta D1;have⟨J,d6,m0,sp,sv⟩:=hj;have i1:=J.le;have hg:=J.g;generalize hi:(bif st then((0,0):St)else cls)=i at m0;have U:i=(0,0)∨i=nA∨i=nB:=by
  rw[<-hi];cases st
  .exact .inr S
  .exact .inl rfl
 have i2:(L3 0 ts).length<=3:=by rw[Zc];exact d5
 refine AB (Be J.b1) (AB (Be J.b1) ?_);refine EY m0 a6 a6 (by show s.at'<_;omega) λH1 r W hr X m1 s1=>?_;have X:W<=s.at'+1:=X;have b1:T.get H1 b=_:=(s1 b a6).trans J.b1;refine AB (Be b1) (Ba (FH ret) (AB (Be b1) (Ba (FH ret) ?_)));rw[AWA (show 1+r<9223372036854775808 by omega),AJ];have z7:∀d,vv.CD=some d->b+3<=d/\d<n/\vp.CD≠some d:=λd p=>sv.own p;have d7:Ms G H1 n gp ((s.md i vv).to W) (L3 0 ts):=⟨m1,a6,⟨sv.mono (λd h=>⟨h.2.1,a6⟩) λd h=>s1 d a6,a6⟩,AJ3 Tr _,U⟩;have K:cS 2=31500:=rfl;have w:ek 2=16:=rfl;refine(AEB (G:=G) (gp:=gp) 2 a6).2 (1+r) ret H1 n _ (L3 0 ts) _ a6 I d7 ?_ ?_ ?_ ?_
 .show W+(1+r)*cS 2<_;rw[K];omega
 .show s.names+(1+r)*ek 2<_;rw[w];omega
 .rw[w];omega
 intro Y Z a2 y L vb d0 ex i3 f2 m2 M d1 N d8 O P d9 f0 f1;have M:a2<=W+(1+r)*cS 2:=M;have d1:s.names<=y:=d1;have N:y<=s.names+(1+r)*ek 2:=N;rw[K]at M;rw[w]at N;have f2:Fv gp vv H1 n Y Z:=f2;have P:Sd n vv L:=P;have i4:=f2.le;have d2:∀d,d<b+3->d≠gp->T.get Y d=T.get H d:=λd Q A=>(f2.same d a6 A λe=>hN (z7 d e)).trans (s1 d A);have b2:=(d2 b a6 a6).trans J.b1;refine AB (Be b2) (Ba (FH ret) ?_);have f5:Ms G Y Z gp (((s.md i vv).to W).st a2 y L) (L3 0 ts):=⟨m2,a6,d8,O,U⟩;have e2:cst 2=130:=rfl;refine Jg 2 a6 ret Y Z _ (L3 0 ts) _ I f5.mk' (by show a2+cst 2+2<_;omega) λH3 C a3 l e f3 m3 PW he f6 hz=>?_;have PW:a3<=a2+cst 2:=PW;have f7:=f3.le;refine RD he f7 λH4 f4 f8=>?_;rw[show BT il [(0,1,.c (iN 6)),(6,1,.c (.sl C 0 1 1 11))]=some (.agg (SB 6 0 0 (0,0) IY (.sl C 0 1 1 11) .AT .AT))from rfl,AJ];have D:Fg gp Y Z H4 (C+1):=f3.trans (.kp f4);have⟨cs,f9,d3⟩:=d9;have i5:∀d,L.CD=some d->d<b∨b+3<=d:=λd p=>by
  rcases P with h|h
  .have:=z7 d (h.symm.trans p);omega
  .have:=h d p;omega
 have R:Sk H4 9 (λd=>n<=d/\d<Z) vb cs:=f9.mono (λd h=>⟨h.1,h.2.1⟩) λd h=>D.same d h.2.1 (hN h.1);have g0:=d3.len;refine R.app (bs:=136) (c:=.agg (SB 6 0 0 (0,0) IY (.sl C 0 1 1 11) .AT .AT)) (m:=0) (λd p=>hN ((R.own p).2)) a6 rfl rfl (by rw[g0];omega) λv' H5 g1 q g9=>?_;have WS:∀d,d<b+3->d≠gp->T.get H5 d=T.get H d:=λd Q A=>(q d a6 λe=>hN ((R.own e).1)).trans ((D.same d a6 A).trans (d2 d Q A));have m5:T.get H5 gp=_:=(q gp a6 λe=>hN ((R.own e).1)).trans ((f4.same gp a6).trans m3.g);have g5:=(WS (b+2) a6 a6).trans J.b3;have f:=g1 (λd=>b+3<=d/\d<C+1+2) ⟨a6,a6⟩;rw[AP,AJ];refine FK (off:=0+7) (m:=1) (v:=v') g5 f.ok.1 (by rw[f.ok.2.1];rfl) a6 (by show 0+7+1<=8;omega) λH6 g6 s6=>?_;rw[f.ok.2.1]at g6;rw[BG,AJ,AP,AJ];have m6:T.get H6 gp=_:=(s6 gp a6).trans m5;refine FK (off:=0+2) (m:=1) (v:=.AT) m6 rfl rfl a6 (by show 0+2+1<=5;omega) λH7 g7 s7=>?_;have q7:T.get H7 (b+2)=_:=(s7 (b+2) a6).trans g6;refine AB (As (m:=8) q7 a6 rfl) ?_;have g2:T.get H7 (b+1)=some (one sG):=(s7 (b+1) a6).trans ((s6 (b+1) a6).trans ((WS (b+1) a6 a6).trans J.b2));refine BX g2 rfl rfl a6 λH8 g8 s8=>?_;rw[By (m:=8) g8 a6 rfl];simp only[go_sem];have E:∀d,b+3<=d->T.get H8 d=T.get H5 d:=λd h=>(s8 d a6).trans ((s7 d a6).trans (s6 d a6));refine hk H8 (C+1+2) a3 y _ ⟨nm,st,L3 0 ts,ret,d0++[.mk 6 (0,0) IY [e] [] []]⟩ ?_ (by rw[hi];exact⟨(s8 gp a6).trans g7,m3.pk⟩) a6 a6 a6 (.mk 0 0 (vp:=vp) (vb:=v') ?_ ?_) rfl rfl rfl rfl ?_
 .refine⟨a6,λd Q A=>?_⟩;exact(s8 d a6).trans ((s7 d A).trans ((s6 d a6).trans ((WS d a6 A).trans (d6 d Q A))))
 .have g3:∀d,vp.CD=some d->T.get H8 d=T.get H d:=λd p=>by have Q:=sp.own p;refine(E d Q.1).trans ((q d a6 λe=>hN ((R.own e).1)).trans ((D.same d a6 a6).trans ((f2.same d a6 a6 λe=>?_).trans (s1 d a6))));exact(z7 d e).2.2 p
  have x:=sp.JO (B:=Rg b (C+1+2)) (H':=H8) (λd p=>by have:=sp.own p;exact⟨a6,a6⟩) g3;exact⟨x.el a6,x.ks,x.ok.1,x.ok.2.1,λd p=>x.own p⟩
 .refine⟨cs++[SB 6 0 0 (0,0) IY (.sl C 0 1 1 11) .AT .AT],?_,f.ks,f.ok.1,f.ok.2.1,λd p=>by have:=f.own p;exact⟨a6,this.2⟩,FQ.app (FQ.mono (λd h=>?_) (λd h=>?_) d3) (.cons (Vy.of ?_ .nil .nil) .nil)⟩
  .exact(f.mono (B:=λd=>b+3<=d/\d<C+1+2) (λ_ h=>h) λd h=>E d h.1).el a6
  .exact⟨hN h.1.1,hN h.1.2.1⟩
  .exact(E d (hN h.1.1)).trans ((q d (hN h.1.2.1) h.2).trans (D.same d h.1.2.1 (hN h.1.1)))
  .exact f8.mono (λd h=>⟨hN h.1,hN h.2⟩) λd h=>(E d (hN h.1)).trans (q d h.2 λe=>tw ((R.own e).2) h.1)
 .obtain⟨u,hu,g4,_⟩:=f6.ex;refine bf.mk (k:=(1+r)*ek 2+0) (inn:=i) (yX 0 ts) (by rw[w];omega) (λd4=>?_) (f0.snoc (pP.rtn (g4.more ex) hu)).blk (by rw[uk];show d0.length+1<=1000;omega) (by rw[w,K]at f1;rw[e2]at hz;simp only[AEN,F2,Tt.cz,OG,bF];simp;omega);rw[<-hi]at d4⊢;cases st with
  |true=>exact absurd rfl d4
  |false=>exact⟨rfl,rfl⟩
end
section
variable{G:AQ}{H0:Heap}{gp b:Nat}{s:Mg}{k:KV}{cls nm:St}{st:Bool}{ret:Ty}{ts:List Ty}
abbrev yK{R v0:V}(d2:GW ret)(Tr:∀t∈ts,GW t)(g0:ts.length<=3)(d3:cls=nA∨cls=nB)(hs:s.at'+100000<10000000000)(g2:s.names+48<600)
 (Y:Bm H n b gp nm st ret .AT .AT) (old:∀id,id<b->id≠gp->T.get H id=T.get H0 id) (m0:PA G H gp (s.md (bif st then(0,0)else cls) v0)) (d4:El G H R 2 (ts.map Ty.cells)) (d5:∀id,R.CD=some id->id<b/\id≠gp)
 (hk:AHK G H0 b gp s cls nm st ret ts k):Cu lfp G (Runs F G) k (.ptr gp 0) R (.ptr b 0) (.ptr (b+1) 0) (.ptr (b+2) 0) H n:=by
 delta Cu;have i5:=Y.le;have hg:=Y.g;rw[BG,AJ,AP,AJ];refine FK (off:=0+2) (m:=1) (v:=.AT) m0.g rfl rfl a6 (by show 0+2+1<=5;omega) λH1 g1 s1=>?_;have g8:El G H1 R 2 (ts.map Ty.cells):=d4.same λid d=>s1 id (d5 id d).2;have S:=g8.len;rw[uc]at S;rw[S,AJ];refine BL (N:=ts.length) (J:=λj q=>∃H' n' vp U,q=(.ptr gp 0,.ptr b 0,.ptr (b+1) 0,.ptr (b+2) 0,R,iN ts.length,iN j,H',n')/\MJ G gp b nm st ret H0 s (bif st then(0,0)else cls) ((L3 0 ts).take j) H' n' vp U) ?_ ?_
  ⟨H1,n,.AT,.AT,rfl,⟨(s1 b a6).trans Y.b1,(s1 (b+1) a6).trans Y.b2,(s1 (b+2) a6).trans Y.b3,Y.le,Y.g⟩,λid D E=>(s1 id E).trans (old id D E),⟨g1,m0.pk⟩,.nil,.nil⟩
 .rintro I j q Z ⟨H2,y,vp,U,rfl,⟨K,W,m2,sp,sv⟩⟩ ih;show Ct lfp G (Runs F G) k I (.ptr gp 0) (.ptr b 0) (.ptr (b+1) 0) (.ptr (b+2) 0) R (iN ts.length) (iN j) H2 y;delta Ct;have i4:=K.le;have d6:El G H2 R 2 (ts.map Ty.cells):=d4.same λid d=>by have h:=d5 id d;exact(W id h.1 h.2).trans (old id h.1 h.2).symm
  have⟨p,i0,d7⟩:=d6.at (i:=j) (c:=ts[j].cells) (by simp[Z]);have X:(L3 0 ts)[j]? =some ⟨Wp j,ts[j]⟩:=by have:=AEt 0 ts j ts[j] (eb Z);rwa [t_]at this
  have w:=take_snoc X;have d8:((L3 0 ts).take j).length<=3:=by rw[xx,Zc];omega
  generalize ts[j]=t at d7 X w;generalize(L3 0 ts).take j=ps at sp sv w d8;rw[D9,AJ,ui Z,Ah];refine AB i0 (AB (BZ d7) ?_);refine Ao rfl λH3 f3 g3=>?_;refine BX g3 rfl rfl a6 λH4 g4 s4=>?_;have d9:Kp H2 y H4 (y+1):=⟨f3.le,λid d=>(s4 id a6).trans (f3.same id d)⟩;refine AB (AWl j a6) (AB (AKr j a6) ?_);refine M1 (G:=G) (vs:=[.int .u8 (.ofNat (97+j)) 0]) rfl a6 (λv hv=>by simp at hv;subst hv;exact⟨rfl,rfl⟩) λH5 f5 _ f0=>?_;refine AB (AQ4 (xs:=[97+j]) f0 (λx hx=>by simp at hx;omega)) ?_;refine AB (ASI _) ?_;rw[ARv];have g5:=f5.get g4 a6;refine AB (As (m:=2) g5 a6 rfl) ?_;rw[show BT [.str 0 0,.str 0 0,.bool false] [(0,1,.c (Wp j).v),(1,2,.c (.agg t.cells))]=some (.agg (RR ⟨Wp j,t⟩))from rfl,AJ];refine Ao rfl λH6 f6 g6=>?_;refine BX g6 rfl rfl a6 λH7 g7 s7=>?_;have f1:Kp H5 (y+1+1) H7 (y+1+1+1):=⟨f6.le,λid d=>(s7 id a6).trans (f6.same id d)⟩;have A:=(d9.trans f5).trans f1;clear f3 g3 g4 s4 d9 f5 f0 g5 f6 g6 s7 f1;generalize YE:y+1+1=n7 at*;have b3:=A.get K.b3 a6;rw[AP,AJ];refine AB (AK (off:=0+4) b3 (v:=vp) rfl) ?_;refine AB (As (m:=3) g7 a6 rfl) ?_;have d0:Sk H7 3 (λid=>b+3<=id/\id<y) vp (ps.map RR):=sp.mono (λ_ h=>h) λid h=>A.same id h.2;refine d0.app (bs:=40) (c:=.agg (RR ⟨Wp j,t⟩)) (m:=0) (λid d=>hN ((d0.own d).2)) a6 rfl rfl (by rw[uc];omega) λL H8 i1 B C=>?_;have k8:∀id,id<n7+1->id<b+3∨y<=id->T.get H8 id=T.get H7 id:=λid D E=>B id D λe=>hN (d0.own e);have u:=i1 (λid=>b+3<=id/\id<n7+1+2) ⟨a6,a6⟩;rw[AJ];refine FK (off:=0+4) (m:=1) (v:=L) ((k8 (b+2) a6 (.inl a6)).trans b3) u.ok.1 (by rw[u.ok.2.1];rfl) a6 (by show 0+4+1<=8;omega) λH9 g9 s9=>?_;rw[u.ok.2.1]at g9;rw[BG,AJ,AP,AJ];have m9:T.get H9 gp=_:=(s9 gp a6).trans ((k8 gp a6 (.inl a6)).trans (A.get m2.g a6));refine AB (AK (off:=0+2) m9 (v:=U) rfl) ?_;have q9:T.get H9 n7=_:=(s9 n7 a6).trans ((k8 n7 a6 (.inr a6)).trans g7);refine AB (As (m:=3) q9 a6 rfl) ?_;have i2:∀id,U.CD=some id->T.get H9 id=T.get H2 id:=λid d=>by have h:=sv.own d;exact(s9 id a6).trans ((B id a6 h.2.2).trans (A.same id h.2.1))
  have M:Sk H9 3 (λid=>b+3<=id/\id<y/\L.CD≠some id) U (ps.map RR):=sv.JO (λid d=>by have h:=sv.own d;exact⟨h.1,h.2.1,λe=>by rw[C]at e;cases e;omega⟩) i2
  refine M.app (bs:=40) (c:=.agg (RR ⟨Wp j,t⟩)) (m:=0) (λid d=>hN ((M.own d).2.1)) a6 rfl rfl (by rw[uc];omega) λf2 i3 f4 O f9=>?_;have P:∀id,id<n7+1+2->U.CD≠some id->T.get i3 id=T.get H9 id:=λid D E=>O id D E;have f:=f4 (λid=>b+3<=id/\id<n7+1+2+2/\L.CD≠some id) ⟨a6,a6,λe=>by rw[C]at e;have:=e_ e;omega⟩;have qo:∀id,id<b+3->U.CD≠some id:=λid h e=>hN (M.own e);rw[AJ,AP,AJ];refine FK (off:=0+2) (m:=1) (v:=f2) ((P gp a6 (qo gp a6)).trans m9) f.ok.1 (by rw[f.ok.2.1];rfl) a6 (by show 0+2+1<=5;omega) λf7 f8 Q=>?_;rw[f.ok.2.1]at f8;rw[CA a6,AJ];have d1:∀id,id<b+3->id≠gp->id≠b+2->T.get f7 id=T.get H2 id:=λid D E h3=>(Q id E).trans ((P id a6 (qo id D)).trans ((s9 id h3).trans ((k8 id a6 (.inl D)).trans (A.same id a6))));refine ih _ ⟨f7,n7+1+2+2,L,f2,rfl,⟨(d1 b a6 a6 a6).trans K.b1,(d1 (b+1) a6 a6 a6).trans K.b2,(Q (b+2) a6).trans ((P (b+2) a6 (qo _ a6)).trans g9),a6,hg⟩,
   λid D E=>(d1 id a6 E a6).trans (W id D E),⟨f8,m2.pk⟩,?_,?_⟩
  .rw[w,wm];exact u.JO (λid d=>hN (u.own d)) λid d=>by have h:=u.own d;refine(Q id a6).trans ((P id h.2 λe=>?_).trans (s9 id a6));have:=(M.own e).2.2;exact this d
  .rw[w,wm];exact f.JO (λid d=>f.own d) λid d=>Q id (hN (f.own d))
 .rintro I q ⟨H2,y,vp,U,rfl,hj⟩;show Ct lfp G (Runs F G) k I (.ptr gp 0) (.ptr b 0) (.ptr (b+1) 0) (.ptr (b+2) 0) R (iN ts.length) (iN ts.length) H2 y;delta Ct;rw[D9,AJ,eg (m_ _),AZ];rw[_d (by rw[Zc];exact ea _)]at hj;exact AHr d2 Tr g0 d3 hs g2 hj hk
abbrev AM2{L:V}(p:GW ret)(P:∀t∈ts,GW t)(y:ts.length<=3)(q:cls=nA∨cls=nB)(Q:s.at'+100000<10000000000)(A:s.names+48<600)
 (m:PA G H gp s) (w:gp<n) (B:El G H L 2 (ts.map Ty.cells)) (i:∀d,L.CD=some d->d<n/\d≠gp) (R:AHK G H n gp s cls nm st ret ts k):
 Runs F G CJ [.ptr gp 0,cls.v,nm.v,.bool st,ret.v,L] H n k:=by
 refine go6 (Wx Ae G) ?_;delta OP;refine BE λH1 X D=>?_;refine Ao rfl λH2 S Y=>?_;have D:=S.get D a6;refine AB (Be D) ?_;rw[show BT sG [(2,1,.c nm.v),(3,1,.c (.bool st)),(5,2,.c ret.v)]=some (.agg (xW 0 0 nm st .AT ret .AT))from rfl,AJ];refine Ao rfl λH3 f3 Z=>?_;refine BX Z rfl rfl a6 λM g4 N=>?_;have C:Kp H n M (n+1+1+1):=(X.trans S).trans ⟨f3.le,λd f=>(N d a6).trans (f3.same d f)⟩;have b1:T.get M n=_:=(N n a6).trans (f3.get D a6);have b2:T.get M (n+1)=_:=(N (n+1) a6).trans (f3.get Y a6);have m4:=C.get m.g w;rw[BG,AJ,AP,AJ];refine FK (off:=0+4) (m:=1) (v:=cls.v) m4 rfl rfl a6 (by show 0+4+1<=5;omega) λU W E=>?_;have I:Bm U (n+1+1+1) n gp nm st ret .AT .AT:=⟨(E n a6).trans b1,(E (n+1) a6).trans b2,(E (n+1+1) a6).trans g4,a6,w⟩;have x:∀d,d<n->d≠gp->T.get U d=T.get H d:=λd O J=>(E d J).trans (C.same d O);cases st with
 |false=>
  rw[AZ];exact yK (v0:=s.vv) p P y q Q A I x ⟨W,m.pk⟩ (B.same λd f=>x d (i d f).1 (i d f).2) i R
 |true=>
  rw[Ah,AJ,AP,AJ];refine FK (off:=0+4) (m:=1) (v:=.str 0 0) W rfl rfl a6 (by show 0+4+1<=5;omega) λH6 g6 K=>?_;have u:∀d,d<n->d≠gp->T.get H6 d=T.get H d:=λd O J=>(K d J).trans (x d O J);exact yK (v0:=s.vv) p P y q Q A ⟨(K n a6).trans I.b1,(K (n+1) a6).trans I.b2,(K (n+2) a6).trans I.b3,a6,w⟩ u ⟨g6,m.pk⟩ (B.same λd f=>u d (i d f).1 (i d f).2) i R
end
structure Cl(G:AQ)(H:Heap)(n gp c:Nat)(D:Nat->Prop)(nm sup:St)(fs:List BU)(ms:List Tm):Prop where
 lt:∀id,D id->gp<id/\id<n
 dc:D c
 ex:∃vf vm cs,T.get H c=some (one (bm 0 0 nm sup vf vm))/\AF7 G H (λid=>D id/\id≠c/\vm.CD≠some id) vf fs/\Sk H 8 (λid=>D id/\id≠c) vm cs/\JW G H (λid=>D id/\id≠c/\vm.CD≠some id) cs ms
variable{D:Nat->Prop}{fs:List BU}{ms:List Tm}
abbrev Cl.same{sup:St}{fs:aAm}{ms:aAz}(h:Cl G H n gp c D nm sup fs ms)(g:n<=n')(f:∀id,D id->T.get H' id=T.get H id):Cl G H' n' gp c D nm sup fs ms:=by have⟨i,k,m,p,q,u,v⟩:=h.ex;exact⟨λid d=>⟨(h.lt id d).1,b_ (h.lt id d).2 g⟩,h.dc,i,k,m,(f c h.dc).trans p,q.mono (λ_ h=>h) λid d=>f id d.1,u.mono (λ_ h=>h) λid d=>f id d.1,JW.mono (λ_ h=>h) (λid d=>f id d.1) v⟩
abbrev Cl.kp{sup:St}{fs:aAm}{ms:aAz}(h:Cl G H n gp c D nm sup fs ms)(f:Kp H n H' n'):Cl G H' n' gp c D nm sup fs ms:=
 h.same f.le λg d=>f.same g (h.lt g d).2
def Mg.z(vp:V)(a nms:Nat)(i:St):Mg:=⟨vp,a,.AT,nms,i⟩
structure jU(cls:St)(m:Tm)(q:Bk):Prop where
 nm:m.nm=q.nm
 st:m.st=q.st
 ret:m.ret=q.ret
 ps:m.ps=L3 0 q.ps
 gd:bf cls m
def Shape(G:AQ)(SH:V->V->(V->V->Heap->Nat->Prop)->Heap->Nat->Prop)(q:Bk):Prop:=
 ∀(H:Heap) (n:Nat) (p w:V) (K:V->V->Heap->Nat->Prop),(∀H' n',Kp H n H' n'->AM p G H'=some w)->Ak w w=true->
  (∀H' n' v5,Kp H n H' n'->El G H' v5 2 (q.ps.map Ty.cells)->(∀id,v5.CD=some id->n<=id/\id<n')->K q.ret.v v5 H' n')->SH p w K H n
section
variable{G:AQ}
abbrev AV6(G:AQ):V->V->(V->V->Heap->Nat->Prop)->Heap->Nat->Prop:=λp w K H n=>
 Runs F G A7 [] H n λv15 H n=>AD (AM p G H) λv=>B7 (Ak v w) <| Runs F G A7 [] H n λv16 H n=>AD (AM p G H) λv=>B7 (Ak v w) <|
 Au (AY 2 1 [.str 0 0,.bool false] [(0,.c v16)] E0) H n λv17 H n=>K v15 v17 H n
abbrev AIm:Shape G (AV6 G) Hp:=λH n p w K k m u=>
 Hg λy A d=>AB (k _ _ d) (Ba m (Hg λB C f=>AB (k _ _ (d.trans f)) (Ba m (M1 (G:=G) (vs:=[BY.v]) rfl a6 (λv q=>by simp at q;subst q;exact⟨rfl,rfl⟩) λx f3 _ g=>
  u x _ _ ((d.trans f).trans f3) g λD i=>by cases i;have:=d.le;have:=f.le;omega))))
abbrev AUR(G:AQ):V->V->(V->V->Heap->Nat->Prop)->Heap->Nat->Prop:=λp w K H n=>
 Runs F G CN [.str 1 65] H n λv25 H n=>AD (AM p G H) λv=>B7 (Ak v w) <| K v25 .AT H n
abbrev ANT:Shape G (AUR G) TO:=λH n p w K g i k=>
 U0 (l:=1) (c:=65) λm q f=>AB (g _ _ f) (Ba i (k m q .AT f uG λu d=>by cases d))
abbrev AWt(G:AQ):V->V->(V->V->Heap->Nat->Prop)->Heap->Nat->Prop:=λp w K H n=>
 Runs F G A7 [] H n λv33 H n=>AD (AM p G H) λv=>B7 (Ak v w) <| Runs F G A7 [] H n λv34 H n=>AD (AM p G H) λv=>B7 (Ak v w) <|
 Runs F G CN [.str 1 65] H n λv35 H n=>AD (AM p G H) λv=>B7 (Ak v w) <| Au (AY 2 2 [.str 0 0,.bool false] [(0,.c v34),(1,.c v35)] E0) H n λv36 H n=>K v33 v36 H n
abbrev AIP:Shape G (AWt G) IB:=λH n p w K g i x=>
 Hg λA B d=>AB (g _ _ d) (Ba i (Hg λC D f=>AB (g _ _ (d.trans f)) (Ba i (U0 (l:=1) (c:=65) λE F k=>AB (g _ _ ((d.trans f).trans k)) (Ba i
  (M1 (G:=G) (vs:=[BY.v,tA.v]) rfl a6 (λv u=>by simp at u;rcases u with rfl|rfl<;>exact⟨rfl,rfl⟩) λy f3 _ m=>
  x y _ _ (((d.trans f).trans k).trans f3) m λI q=>by cases q;have:=d.le;have:=f.le;have:=k.le;omega))))))
abbrev ASZ(G:AQ):V->V->(V->V->Heap->Nat->Prop)->Heap->Nat->Prop:=λp w K H n=>
 Runs F G A7 [] H n λv33 H n=>AD (AM p G H) λv=>B7 (Ak v w) <| Runs F G A7 [] H n λv34 H n=>AD (AM p G H) λv=>B7 (Ak v w) <|
 Runs F G A7 [] H n λv35 H n=>AD (AM p G H) λv=>B7 (Ak v w) <| Au (AY 2 2 [.str 0 0,.bool false] [(0,.c v34),(1,.c v35)] E0) H n λv36 H n=>K v33 v36 H n
abbrev AN4:Shape G (ASZ G) Xo:=λH n p w K g i x=>
 Hg λA B d=>AB (g _ _ d) (Ba i (Hg λC D f=>AB (g _ _ (d.trans f)) (Ba i (Hg λE F k=>AB (g _ _ ((d.trans f).trans k)) (Ba i
  (M1 (G:=G) (vs:=[BY.v,BY.v]) rfl a6 (λv u=>by simp at u;subst u;exact⟨rfl,rfl⟩) λy f3 _ m=>
  x y _ _ (((d.trans f).trans k).trans f3) m λI q=>by cases q;have:=d.le;have:=f.le;have:=k.le;omega))))))
end
section
variable{G:AQ}{H:Heap}{n gp c:Nat}{D:Nat->Prop}{cls cnm sup:St}{fs:List BU}{ms:List Tm}{vp:V}{a nms:Nat}{i:St}
abbrev uL{SH:V->V->(V->V->Heap->Nat->Prop)->Heap->Nat->Prop}{q:Bk}{P:Heap->Nat->Prop}(Z:Shape G SH q)(E:GW q.ret)(Tr:∀t∈q.ps,GW t)(d0:q.ps.length<=3)(I:cls=nA∨cls=nB)
 (hs:a+100000<10000000000) (d1:nms+48<600) (g1:ms.length<=100) (h:Cl G H n gp c D cnm sup fs ms) (m:PA G H gp (Mg.z vp a nms i)) (d2:gp<n)
 (hk:∀w J a' x i' S,n<=J->(∀id,id<n->id≠gp->¬D id->T.get w id=T.get H id)->Cl G w J gp c (λid=>D id∨(n<=id/\id<J)) cnm sup fs (ms++[S])->PA G w gp (Mg.z vp a' x i')->a'<=a+100000->x<=nms+48->jU cls S q->P w J):
 AD (AG 5 (.ptr c 0)) λy=>AD (AM y G H) λA=>SH y A (λd3 d4 H n=>Runs F G CJ [.ptr gp 0,cls.v,q.nm.v,.bool q.st,d3,d4] H n λd5 H n=>
  AD (AM y G H) λv=>B7 (Ak v A) <| Au (AY 8 1 sG [(0,.c d5)] E0) H n λd6 H n=>Ey 8 112 A d6 G H n λd7 H n=>AD (AG 5 (.ptr c 0)) λd8=>A1 1 d8 d7 H n λ_ H n=>P H n) H n:=by
 have⟨vf,B,cs,g0,d9,K,L⟩:=h.ex;have hc:=h.lt c h.dc;rw[AP,AJ];have q0:∀{w:Heap},T.get w c=some (one (bm 0 0 cnm sup vf B))->AM (.ptr c (0+5)) G w=some B:=λg=>AK (off:=0+5) g rfl;refine AB (q0 g0) ?_;have M:=K.ok.2.2;refine Z H n _ _ _ (λw J f=>q0 (f.get g0 hc.2)) M λH1 n1 v5 U f0 f3=>?_;have g5:=U.le;refine AM2 (s:=Mg.z vp a nms i) E Tr d0 I hs d1 ⟨U.get m.g d2,m.pk⟩ a6 f0 (λid d=>hN (f3 id d)) λH2 W a2 N l S f2 m2 f4 f9 O ht e1 e2 e3 e4 e5=>?_;have g6:=f2.le;have g2:=f2.get (U.get g0 hc.2) a6 a6;refine AB (q0 g2) (Ba M ?_);have Q:Fg gp H n H2 W:=(Fg.kp U).trans f2;have C:Sk H2 8 (λid=>D id/\id≠c) B cs:=K.mono (λ_ h=>h) λid d=>by have:=h.lt id d.1;exact Q.same id this.2 a6
 have f5:=L.len;refine C.app (bs:=112) (c:=.agg l) (m:=0) (λid d=>hN (h.lt id (C.own d).1)) a6 rfl ht.len (by rw[f5];omega) λv' H3 f6 p R=>?_;have k:=f6 (λid=>(D id∨(n<=id/\id<W+2))/\id≠c) ⟨.inr ⟨a6,a6⟩,a6⟩;have f7:B.CD≠some c:=λe=>(C.own e).2 rfl;have g3:T.get H3 c=_:=(p c a6 f7).trans g2;rw[AJ];refine FK (off:=0+5) (m:=1) (v:=v') g3 k.ok.1 (by rw[k.ok.2.1];rfl) a6 (by show 0+5+1<=6;omega) λH4 g4 X=>?_;rw[k.ok.2.1]at g4;have f8:B.CD≠some gp:=λe=>hN (h.lt gp (C.own e).1);have v'ne:∀id,id<W+1->v'.CD≠some id:=λid h e=>by rw[R]at e;have:=e_ e;omega
 have u:∀id,id<n->id≠gp->id≠c->B.CD≠some id->T.get H4 id=T.get H id:=λid h1 h2 Y h4=>(X id Y).trans ((p id a6 h4).trans (Q.same id h1 h2));refine hk H4 (W+2) a2 N _ S a6 (λid h1 h2 Y=>u id h1 h2 (λe=>Y (e▸h.dc)) λe=>Y (C.own e).1) ⟨λid d=>?_,.inl h.dc,vf,v',cs++[l],g4,?_,?_,JW.app (JW.mono (λid d=>?_) (λid d=>?_) L) (.cons (ht.mono (λid d=>?_) λid d=>?_) .nil)⟩
  ⟨(X gp a6).trans ((p gp a6 f8).trans m2.g),m2.pk⟩ f4 O ⟨e1,e2,e3,e4,e5⟩
 .rcases d with d|d
  .have:=h.lt id d;omega
  .omega
 .exact d9.mono (λid d=>⟨.inl d.1,d.2.1,v'ne id (hN (h.lt id d.1))⟩) λid d=>by have:=h.lt id d.1;exact u id this.2 a6 d.2.1 d.2.2
 .exact k.JO (λid d=>k.own d) λid d=>X id (k.own d).2
 .exact⟨.inl d.1,d.2.1,v'ne id (hN (h.lt id d.1))⟩
 .have:=h.lt id d.1;exact u id this.2 a6 d.2.1 d.2.2
 .exact⟨.inr ⟨hN d.1,hN d.2⟩,hN d.1,v'ne id (hN d.2)⟩
 .exact(X id (hN d.1)).trans (p id d.2 λe=>tw (h.lt id (C.own e).1) d.1)
end
def rR:aAm:=[⟨pu,BY⟩,⟨my,tA⟩,⟨AGj,wN⟩]
def eR:aAm:=[⟨Jd,A3⟩]
inductive Made:Tc->Tc->Prop where
 |mk {m1 m2 m3 m4:Tm} {bg bs:List Tm} (g s:Bool) (h1:jU nA m1 Hp) (h2:jU nA m2 TO) (h3:jU nA m3 IB) (h4:jU nA m4 Xo) (hg:bif g then ∃m,bg=[m]/\jU nB m Hp else bg=[]) (hs:bif s then ∃m,bs=[m]/\jU nB m IB else bs=[]):
  Made ⟨nA,(0,0),rR,[m1,m2,m3,m4]⟩ ⟨nB,nA,eR,bg++bs⟩
abbrev Cl.tc{sup:St}{fs:aAm}{ms:aAz}(h:Cl G H n gp c D nm sup fs ms):∃l,T.get H c=some (one l)/\WP G H D l ⟨nm,sup,fs,ms⟩:=by have⟨p,q,g,i,k,d,m⟩:=h.ex;exact⟨_,i,.mk 0 0 (k.mono (λ_ h=>h.1) λ_ _=>rfl) ⟨g,d.el a6,d.ks,d.ok.1,d.ok.2.1,λu f=>(d.own f).1,JW.mono (λ_ h=>h.1) (λ_ _=>rfl) m⟩⟩
abbrev tcZ:LV:=[iN 0,iN 0,.str 0 0,.str 0 0,.AT,.AT]
abbrev tI:GW BY:=.inl rfl
abbrev tAm:GW tA:=.inr (.inr (.inl rfl))
variable{H0:Heap}{n0:Nat}{DA:Nat->Prop}{g:Bool}
section
variable{G:AQ}{vp:V}{k:KV}
def AGe(G:AQ)(H0:Heap)(n0:Nat)(k:KV):Prop:=∀H' n' v lA lB A B,Kp H0 n0 H' n'->El G H' v 6 [lA,lB]->KS v->Rb v=true->At v=[v]->(∀id,v.CD=some id->Rg n0 n' id)->WP G H' (Rg n0 n') lA A->WP G H' (Rg n0 n') lB B->Made A B->k v H' n'
structure Tw(G:AQ)(H0:Heap)(n0:Nat)(H:Heap)(n ca cb:Nat)(DA DB:Nat->Prop)(vp:V)(a nms:Nat)(i:St)(msA msB:List Tm):Prop where
 A:Cl G H n n0 ca DA nA (0,0) rR msA
 B:Cl G H n n0 cb DB nB nA eR msB
 ne:∀id,DA id->¬DB id
 m:PA G H n0 (Mg.z vp a nms i)
 le:n0+1<=n
 old:∀id,id<n0->T.get H id=T.get H0 id
abbrev AE4{J C nms:Nat}{K:Nat->Prop}{i:St}{L M N:Tm}{y bs:aAz}{s:Bool}(h:Tw G H0 n0 H n J C DA K vp a nms i [L,M,N] (y++bs))(ha:a<=600000)(hn:nms<=300)
 (V:jU nA L Hp) (W:jU nA M TO) (X:jU nA N IB) (Y:bif g then ∃m,y=[m]/\jU nB m Hp else y=[]) (Z:bif s then ∃m,bs=[m]/\jU nB m IB else bs=[]) (hk:AGe G H0 n0 k):
 EC lfp G (Runs F G) k (.ptr n0 0) (.ptr J 0) (.ptr C 0) H n:=by
 delta EC;refine uL (q:=Xo) (cls:=nA) (vp:=vp) (a:=a) (nms:=nms) (i:=i) (AN4 (G:=G)) tI (λt O=>by simp[Xo]at O;subst O;exact tI) a_ (.inl rfl) a6 a6 (by show 3<=100;omega) h.A h.m (hN h.le) ?_;intro H1 P a1 Q i1 m4 D same p mm d0 R sg;have u:Cl G H1 P n0 C K nB nA eR (y++bs):=h.B.same D λf d=>by have:=h.B.lt f d;exact same f this.2 a6 λe=>h.ne f e d
 have⟨S,gA,w⟩:=p.tc;have⟨T,gB,x⟩:=u.tc;refine AB (As (m:=6) gA a6 w.len) (AB (As (m:=6) gB a6 x.len) ?_);refine M1 (G:=G) (vs:=[.agg S,.agg T]) rfl a6 (λv U=>by simp at U;rcases U with rfl|rfl;exact⟨rfl,w.len⟩;exact⟨rfl,x.len⟩) λH2 E _ I=>?_;have d1:=h.le;refine hk H2 (P+1) _ S T _ _ ⟨a6,λf d=>?_⟩ I (AA5 o_) rfl rfl (λf d=>by cases d;exact⟨a6,a6⟩) (w.mono (λf d=>?_) λf d=>?_) (x.mono (λf d=>?_) λf d=>?_) (Made.mk g s V W X sg Y Z)
 .exact(E.same f a6).trans ((same f a6 a6 λe=>hN (h.A.lt f e)).trans (h.old f d))
 .have:=p.lt f d;exact⟨a6,a6⟩
 .exact E.same f (p.lt f d).2
 .have:=u.lt f d;exact⟨a6,a6⟩
 .exact E.same f (u.lt f d).2
abbrev ADz{x y nms:Nat}{N:Nat->Prop}{i:St}{C D E:Tm}{u:aAz}(h:Tw G H0 n0 H n x y DA N vp a nms i [C,D,E] u)(ha:a<=480000)(hn:nms<=250)
 (O:jU nA C Hp) (P:jU nA D TO) (Q:jU nA E IB) (w:bif g then ∃m,u=[m]/\jU nB m Hp else u=[]) (R:AGe G H0 n0 k):
 EE lfp G (Runs F G) k (.ptr n0 0) (.ptr x 0) (.ptr y 0) H n:=by
 delta EE;have V:=h.le;refine EY h.m a6 a6 (by show a<_;omega) λW r I hr v J K=>?_;have v:I<=a+1:=v;have p:Tw G H0 n0 W n x y DA N vp I nms i [C,D,E] u:=⟨h.A.same o_ λf d=>K f (hN (h.A.lt f d)),h.B.same o_ λf d=>K f (hN (h.B.lt f d)),h.ne,J,h.le,λf d=>(K f a6).trans (h.old f d)⟩;refine AB (A9 ..) ?_;cases h0:decide (r=0)with
 |false=>
  rw[AZ];exact AE4 (bs:=[]) (s:=false) (by rw[qs];exact p) a6 a6 O P Q w rfl R
 |true=>
  rw[Ah];refine uL (q:=IB) (cls:=nB) (vp:=vp) (a:=I) (nms:=nms) (i:=i) (AIP (G:=G)) tI (λt S=>by simp[IB]at S;rcases S with rfl|rfl;exact tI;exact tAm) a_ (.inr rfl) a6 a6 ?_ p.B p.m a6 ?_
  .cases g
   .rw[show u=[]from w];exact j_ _
   .obtain⟨m,rfl,_⟩:=w;show 1<=100;omega
  intro H2 n2 a2 T i2 mB L same M X Y U Z;refine AE4 (bs:=[mB]) (s:=true) (DA:=DA) ⟨p.A.same L λf d=>by have:=p.A.lt f d;exact same f this.2 a6 (h.ne f d),M,λf d e=>?_,X,a6,λf d=>(same f a6 a6 λe=>hN (p.B.lt f e)).trans (p.old f d)⟩ a6 a6 O P Q w ⟨mB,rfl,Z⟩ R;rcases e with e|e
  .exact h.ne f d e
  .have:=p.A.lt f d;omega
abbrev AJi(hp:AWi G vp)(f8:vp=.AT∨∃b o l c z,vp=.rsl b o l c z)(hk:AGe G H n k):Runs F G Um [vp] H n k:=by
 refine go1 (iU Ae G) ?_;delta Ut;have hb:BT [.AT,iN 0,.AT,iN 0,.str 0 0] [(0,1,.c vp)]=some (.agg (Mg.z vp 0 0 (0,0)).cells):=by rcases f8 with rfl|⟨b,o,l,c,z,rfl⟩<;>rfl
 rw[hb,AJ];refine BE λH1 f1 g1=>?_;refine Hg λH2 n2 f2=>?_;refine AB (v:=.agg (RR ⟨pu,BY⟩)) rfl ?_;refine U0 (l:=1) (c:=65) λH3 n3 f3=>?_;refine AB (v:=.agg (RR ⟨my,tA⟩)) rfl ?_;refine oc λH4 E f4=>?_;refine AB (v:=.agg (RR ⟨AGj,wN⟩)) rfl ?_;have R:=(f2.trans f3).trans f4;have k9:=R.le;refine M1 (G:=G) (vs:=[.agg (RR ⟨pu,BY⟩),.agg (RR ⟨my,tA⟩),.agg (RR ⟨AGj,wN⟩)]) rfl a6 (λv S=>by simp at S;rcases S with rfl|rfl|rfl<;>exact⟨rfl,rfl⟩) λH5 f5 _ f9=>?_;refine AB (v:=.agg (bm 0 0 nA (0,0) (.sl E 0 3 3 3) .AT)) rfl ?_;refine Ao rfl λH6 f6 g6=>?_;refine BX g6 rfl rfl a6 λH7 g7 s7=>?_;have U:Kp H5 (E+1) H7 (E+1+1):=⟨f6.le,λf d=>(s7 f a6).trans (f6.same f d)⟩;have W:=(R.trans f5).trans U;have X:Cl G H7 (E+1+1) n (E+1) (λf=>E<=f/\f<E+1+1) nA (0,0) rR []:=⟨λf d=>a6,a6,.sl E 0 3 3 3,.AT,[],g7,
  ⟨f9.same λf d=>by cases d;exact U.same _ a6,AA5 o_,rfl,rfl,λf d=>by cases d;exact⟨⟨a6,a6⟩,a6,by simp[V.CD]⟩⟩,.nil,.nil⟩
 have m7:PA G H7 n (Mg.z vp 0 0 (0,0)):=⟨W.get g1 a6,hp⟩;refine uL (q:=Hp) (cls:=nA) (vp:=vp) (a:=0) (nms:=0) (i:=(0,0)) (AIm (G:=G)) tI (λt C=>by simp[Hp]at C;subst C;exact tI) a_ (.inl rfl) a6 a6 a_ X m7 a6 ?_;intro H8 n8 a8 g0 i8 m1 m0 J Y g2 m4 k2 Z;refine uL (q:=TO) (cls:=nA) (vp:=vp) (a:=a8) (nms:=g0) (i:=i8) (ANT (G:=G)) tAm (λt C=>by simp[TO]at C) a_ (.inl rfl) a6 a6 (by show 1<=100;omega) Y g2 a6 ?_;intro H9 n9 a9 g3 i9 m2 m5 ut d0 g4 m6 k3 d1;refine uL (q:=IB) (cls:=nA) (vp:=vp) (a:=a9) (nms:=g3) (i:=i9) (AIP (G:=G)) tI (λt C=>by simp[IB]at C;rcases C with rfl|rfl;exact tI;exact tAm) a_ (.inl rfl) a6 a6 (by show 2<=100;omega) d0 g4 a6 ?_;intro g5 m8 K x L m3 k4 I y d2 k5 g8 d3;have g9:∀f,f<n->T.get g5 f=T.get H f:=λf d=>
  (I f a6 a6 λe=>hN (d0.lt f e)).trans ((ut f a6 a6 λe=>hN (Y.lt f e)).trans ((J f a6 a6 λe=>hN (X.lt f e)).trans ((W.same f a6).trans (f1.same f d))))
 refine Fw λm9 p d4=>?_;have k6:=d4.le;refine AB (v:=.agg (RR ⟨Jd,A3⟩)) rfl ?_;refine M1 (G:=G) (vs:=[.agg (RR ⟨Jd,A3⟩)]) rfl a6 (λv S=>by simp at S;subst S;exact⟨rfl,rfl⟩) λi0 i1 _ M=>?_;refine AB (v:=.agg (bm 0 0 nB nA (.sl p 0 1 1 3) .AT)) rfl ?_;refine Ao rfl λp0 d5 i2=>?_;refine BX i2 rfl rfl a6 λN i3 i4=>?_;have d6:Kp i0 (p+1) N (p+1+1):=⟨d5.le,λf d=>(i4 f a6).trans (d5.same f d)⟩;have u:=(d4.trans i1).trans d6;have i5:Cl G N (p+1+1) n (p+1) (λf=>p<=f/\f<p+1+1) nB nA eR []:=⟨λf d=>a6,a6,.sl p 0 1 1 3,.AT,[],i3,
  ⟨M.same λf d=>by cases d;exact d6.same _ a6,AA5 o_,rfl,rfl,λf d=>by cases d;exact⟨⟨a6,a6⟩,a6,by simp[V.CD]⟩⟩,.nil,.nil⟩
 have i6:PA G N n (Mg.z vp K x L):=⟨u.get d2.g a6,hp⟩;refine EY i6 a6 a6 (by show K<_;omega) λd7 r O hr d8 i7 P=>?_;have d8:O<=K+1:=d8;have Q:=(y.kp u).same (H':=d7) o_ λf d=>P f (hN (y.lt f d));have D:Tw G H n d7 (p+1+1) (E+1) (p+1) _ _ vp O x L [m1,m2,m3] []:=⟨Q,i5.same o_ λf d=>P f a6,λf d=>hN (y.lt f d),i7,a6,
  λf d=>(P f a6).trans ((u.same f a6).trans (g9 f d))⟩
 refine AB (cM ..) ?_;cases h0:decide (0<r)with
 |false=>rw[AZ];exact ADz (g:=false) D a6 a6 Z d1 d3 rfl hk
 |true=>
  rw[Ah];refine uL (q:=Hp) (cls:=nB) (vp:=vp) (a:=O) (nms:=x) (i:=L) (AIm (G:=G)) tI (λt C=>by simp[Hp]at C;subst C;exact tI) a_ (.inr rfl) a6 a6 a_ D.B D.m a6 ?_;intro p1 p2 p3 k7 p4 mB d9 w f0 f7 k8 k0 k1;refine ADz (g:=true) ⟨D.A.same d9 λf d=>by have:=D.A.lt f d;exact w f this.2 a6 (D.ne f d),f0,λf d e=>?_,f7,a6,λf d=>(w f a6 a6 λe=>hN (D.B.lt f e)).trans (D.old f d)⟩ a6 a6 Z d1 d3 ⟨mB,rfl,k1⟩ hk;rcases e with e|e
  .exact D.ne f d e
  .have:=D.A.lt f d;omega
end
end Go.RL
