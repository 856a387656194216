/- Part of a proof; nothing is assumed. -/
import Derived.Test.YtlhlldpfafhpbaaGreatDoorConG
set_option linter.unusedVariables false
set_option linter.unusedSimpArgs false
namespace Go.RL
open Go.BN
set_option maxRecDepth 100000
section
variable{G:AQ}{H H0:Heap}{n n0 q:Nat}{K:Kq}{M:Km}{vv:V}{all:Nat}{Γ:List BU}{k:KV}{A:Nat->Prop}{does:Nat}{nm:St}{ty:Ty}{line col:Nat}{v' vt vl:V}{es':List Te}{th el:List Tt}{g':Gs}
abbrev AWo(o:T1 G K)(h:Sb G H0 n0 H n K M vv all Γ A does line col nm ty v' vt vl es' th el)(hd:does=4∨does=5){a:Te}{th' el':aAt}{a1 a2:Nat}(he:es'=[a])(ha:a.of=A3)
 (ht:fS G K M th) (hl:fS G K M el) (hz:th.length<=1000/\el.length<=1000) (c1:Xr (K.x M) th (Γ,all)=some (th',a1)) (c2:Xr (K.x M) el (Γ,a1)=some (el',a2)) (hk:AD0 G K M A H0 n0 vv (Γ,a2) (.mk does nm ty es' th' el') k) {v6:V}:
 Bt lfp G (Runs F G) k (.ptr K.kb 0) (.ptr n0 0) (.ptr (n0+1) 0) (.ptr q 0) v6 (.bool true) H n:=by
 delta Bt;rw[Ah];have f7:=h.ka.kn;have f8:=h.ka.bn o;have f9:=h.le;have g0:=o.n0;have g1:=o.ba;have qo:∀id,vv.CD=some id->K.kb<id/\id<n0:=λid d=>h.ka.sk.own d;rw[AP,AJ];have qv:∀{H':Heap} {vt vl:V},T.get H' n0=some (one (SB does line col nm ty v' vt vl))->AM (.ptr n0 (0+6)) G H'=some v':=λg=>AK (off:=0+6) g rfl;refine AB (qv h.g) ?_;have d4:Ak v' v'=true:=by obtain⟨cs,e1,e2,-⟩:=h.es;have:=e2.1;cases v'<;>first|exact this|(cases e1.2;done)|(cases e1.1;done)
 refine Fw λH1 n1 f1=>?_;have p:=h.kp o f1;refine AB (qv p.g) (Ba d4 ?_);obtain⟨cs,e1,-,-,-,e5,d5⟩:=p.es;refine sI (K:=K) (A:=Rg (n0+2) n1) (p.kk o).g (p.kk o).kn e1 e5 d5 (λid d=>d.2) (λe C=>by rw[he,ff]at C;rw[C];exact ha) (by rw[he];show 1<=1000000;omega) λH2 D f2=>?_;have i:=p.kp o f2;rw[AP,AJ];refine AB (AK (off:=0+7) i.g (v:=vt) rfl) ?_;have Y:∀id,A id->T.get H2 id=T.get H0 id:=λid d=>by have:=i.hA id d;exact i.f.same id a6 this.2 a6
 refine ht hz.1 H2 D A vt vv all Γ th' a1 _ (i.kk o) (i.th.mono (λ_ h=>h) Y) i.hA c1 λH3 n3 v3 w f3 E I Z=>?_;have g7:=i.le;have d6:=f3.le;have J:∀id,w.CD=some id->id<n0∨D<=id:=λid d=>by
  rcases I with s|s
  .exact .inl (qo id (s.symm.trans d)).2
  .exact .inr (s id d)
 have y:∀id,id<D->id≠K.b->id≠K.kb->(id<n0->vv.CD≠some id)->T.get H3 id=T.get H2 id:=λid p i U W=>f3.same id p i U λe=>by have:=qo id e;exact W this.2 e
 have g3:=(y n0 a6 a6 a6 a6).trans i.g;have L:=KS.ok Z;rw[AJ];refine FK (off:=0+7) (m:=1) (v:=v3) g3 L.1 (by rw[L.2];rfl) a6 (by show 0+7+1<=9;omega) λH4 g4 N=>?_;rw[L.2]at g4;have j7:au G H4 n3 K M w a1 Γ:=E.box o N a6 λe=>hN (J _ e);have d0:∀id,A id->T.get H4 id=T.get H0 id:=λid d=>by have:=i.hA id d;exact(N id a6).trans ((y id a6 this.2 a6 λ_ e=>hN (qo id e)).trans (Y id d))
 rw[AP,AJ];refine AB (AK (off:=0+8) g4 (v:=vl) rfl) ?_;refine hl hz.2 H4 n3 A vl w a1 Γ el' a2 _ j7 (i.el.mono (λ_ h=>h) d0) i.hA c2 λH5 n5 v5 u f5 d7 O d1=>?_;have g8:=f5.le;have P:∀id,u.CD=some id->id<n0∨D<=id:=λid d=>by
  rcases O with s|s
  .exact J id (s.symm.trans d)
  .have:=s id d;omega
 have X:∀id,id<n3->id≠K.b->id≠K.kb->w.CD≠some id->T.get H5 id=T.get H4 id:=λid p i U W=>f5.same id p i U W;have d2:∀id,n0<=id->id<D->w.CD≠some id:=λid p i e=>hN (J id e);have g5:=(X n0 a6 a6 a6 (d2 n0 o_ a6)).trans g4;have Q:=KS.ok d1;rw[AJ];refine FK (off:=0+8) (m:=1) (v:=v5) g5 Q.1 (by rw[Q.2];rfl) a6 (by show 0+8+1<=9;omega) λH6 g6 B=>?_;rw[Q.2]at g6;have d8:au G H6 n5 K M u a2 Γ:=d7.box o B a6 λe=>hN (P _ e);have d3:∀id,n0<id->id<D->T.get H6 id=T.get H2 id:=λid p i=>
  (B id a6).trans ((X id a6 a6 a6 (d2 id a6 i)).trans ((N id a6).trans (y id i a6 a6 a6)))
 have d9:=(d3 (n0+1) a6 a6).trans i.g2;have g9:∀id,A id->T.get H6 id=T.get H0 id:=λid d=>by have:=i.hA id d;exact(B id a6).trans ((X id a6 this.2 a6 λe=>hN ((E.sk.own e).1)).trans (d0 id d))
 have f0:∀id,n0<=id->id<D->u.CD≠some id:=λid p i e=>hN (P id e);have f4:Sd D vv u:=I.trans O d6;refine ANa (R:=λid=>A id∨Rv (n0+2) n5 u id) g6 d9 (i.es.mono (λid d=>.inr ⟨d.1,hN d.2,f0 id (hN d.1) d.2⟩) λid d=>d3 id (hN d.1) d.2)
  (Z.mono (λid d=>?_) λid d=>?_) (d1.mono (λid d=>?_) λid d=>?_) (λid d=>?_) λH7 l s7 f6=>?_
 .rcases d with d|d
  .exact .inl d
  .refine .inr ⟨hN d.1,hN d.2.1,λe=>?_⟩;rcases O with s|s
   .exact d.2.2 (s.symm.trans e)
   .have:=s id e;have:=d.2.1;omega
 .rcases d with d|d
  .have:=i.hA id d;exact(B id a6).trans ((X id a6 this.2 a6 λe=>hN ((E.sk.own e).1)).trans (N id a6))
  .have a1:=d.1;have a2:=d.2.1;exact(B id a6).trans ((X id a2 a6 a6 d.2.2).trans (N id a6))
 .rcases d with d|d
  .exact .inl d
  .exact .inr ⟨hN d.1,d.2⟩
 .rcases d with d|d
  .have:=i.hA id d;exact B id a6
  .have:=d.1;exact B id a6
 .rcases d with d|d
  .have:=i.hA id d;omega
  .have:=d.1;omega
 .refine hk H7 n5 l u ⟨a6,λid p S U W=>?_,λhs=>?_⟩ (d8.box o s7 a6 λe=>hN (P _ e)) ?_ (f6.mono (λid d=>?_) λ_ _=>rfl)
  .refine(s7 id a6).trans ((B id a6).trans ((X id a6 S U λe=>?_).trans ((N id a6).trans ((y id a6 S U λ_=>W).trans (i.f.same id p S a6)))));rcases I with s|s
   .exact W (s.symm.trans e)
   .have:=s id e;omega
  .exact(((f5.seen ((f3.seen (i.f.seen hs)).same (N _ a6))).same (B _ a6))).same (s7 _ a6)
  .rcases f4 with s|s
   .exact .inl s
   .exact .inr λid d=>hN (s id d)
  .rcases d with d|d
   .exact .inl d
   .exact .inr ⟨hN d.1,d.2⟩
end
variable{x:Kx}{nm:St}{ty:Ty}{g:Gs}
abbrev rP{does:Nat}{i:aAv}{k:Gs}(h:yb x does nm ty i g=some k):
 (does=1/\∃a,i=[a]/\fitsT x.tb a ty=true/\Cg nm g.1=none/\g.2<200/\k=(g.1++[⟨nm,ty⟩],g.2+1))∨
 (k=g/\((does=2/\∃a b,i=[a,b]/\fitsT x.tb b a=true)∨(does=3/\∃a,i=[a])∨((does=4∨does=5)/\i=[A3])∨(does=6/\∃a,i=[a]/\fitsT x.tb a x.ret=true)∨(does=7/\i=[BY]))):=by
 match does,h with
 |0,h=>cases h
 |1,h=>
  rcases i with _|⟨a,_|⟨b,l⟩⟩
  .cases h
  .have h:(bif fitsT x.tb a ty then ql ⟨nm,ty⟩ g else none)=some k:=h;cases f:fitsT x.tb a ty with
   |false=>rw[f]at h;cases h
   |true=>
    rw[f]at h;have h:(bif (Cg nm g.1).isNone&&decide (g.2<200)then some (g.1++[⟨nm,ty⟩],g.2+1)else none)=some k:=h;cases m:(Cg nm g.1).isNone&&decide (g.2<200)with
    |false=>rw[m]at h;cases h
    |true=>
     rw[m]at h;rw[ez]at m;exact .inl ⟨rfl,a,rfl,f,W_.1 m.1,kh m.2,(e_ h).symm⟩
  .cases h
 |2,h=>
  rcases i with _|⟨a,_|⟨b,_|⟨c,l⟩⟩⟩
  .cases h
  .cases h
  .have h:(bif fitsT x.tb b a then some g else none)=some k:=h;cases f:fitsT x.tb b a with
   |false=>rw[f]at h;cases h
   |true=>rw[f]at h;exact .inr ⟨(e_ h).symm,.inl ⟨rfl,a,b,rfl,f⟩⟩
  .cases h
 |3,h=>
  rcases i with _|⟨a,_|⟨b,l⟩⟩
  .cases h
  .exact .inr ⟨(e_ h).symm,.inr (.inl ⟨rfl,a,rfl⟩)⟩
  .cases h
 |4,h=>
  rcases i with _|⟨a,_|⟨b,l⟩⟩
  .cases h
  .have h:(bif a.is A3 then some g else none)=some k:=h;cases f:a.is A3 with
   |false=>rw[f]at h;cases h
   |true=>rw[f]at h;exact .inr ⟨(e_ h).symm,.inr (.inr (.inl ⟨.inl rfl,by rw[aW f]⟩))⟩
  .cases h
 |5,h=>
  rcases i with _|⟨a,_|⟨b,l⟩⟩
  .cases h
  .have h:(bif a.is A3 then some g else none)=some k:=h;cases f:a.is A3 with
   |false=>rw[f]at h;cases h
   |true=>rw[f]at h;exact .inr ⟨(e_ h).symm,.inr (.inr (.inl ⟨.inr rfl,by rw[aW f]⟩))⟩
  .cases h
 |6,h=>
  rcases i with _|⟨a,_|⟨b,l⟩⟩
  .cases h
  .have h:(bif fitsT x.tb a x.ret then some g else none)=some k:=h;cases f:fitsT x.tb a x.ret with
   |false=>rw[f]at h;cases h
   |true=>rw[f]at h;exact .inr ⟨(e_ h).symm,.inr (.inr (.inr (.inl ⟨rfl,a,rfl,f⟩)))⟩
  .cases h
 |7,h=>
  rcases i with _|⟨a,_|⟨b,l⟩⟩
  .cases h
  .have h:(bif a.is BY then some g else none)=some k:=h;cases f:a.is BY with
   |false=>rw[f]at h;cases h
   |true=>rw[f]at h;exact .inr ⟨(e_ h).symm,.inr (.inr (.inr (.inr ⟨rfl,by rw[aW f]⟩)))⟩
  .cases h
 |d+8,h=>rcases i with _|⟨a,_|⟨b,_|⟨c,l⟩⟩⟩<;>cases h
variable{H:Heap}{n:Nat}{k:KV}{th:List Tt}{el:List Tt}
section
variable{G:AQ}{K:Kq}{M:Km}
abbrev AK6{H0:Heap}{n0:Nat}{vv:V}{all:Nat}{Γ:aAm}{A:Nat->Prop}{does:Nat}{line col:Nat}{v' vt vl:V}{es':aAq}{th el:aAt}{g1:Gs}{r:Tt×Gs}(o:T1 G K)
 (h:Sb G H0 n0 H n K M vv all Γ A does line col nm ty v' vt vl es' th el) (d1:∀e∈es',e.of.nm.ok) (d9:does=1->BD K.tb ty=true) (d2:yb (K.x M) does nm ty (es'.map Te.of) (Γ,all)=some g1)
 (hr:(does=4∨does=5)/\(th.length<=1000/\el.length<=1000)/\(∃p q,Xr (K.x M) th g1=some p/\Xr (K.x M) el (g1.1,p.2)=some q/\r=(.mk does nm ty es' p.1 q.1,(g1.1,q.2)))∨¬(does=4∨does=5)/\r=(.mk does nm ty es' th el,g1))
 (ht:fS G K M th) (hl:fS G K M el) (hk:AD0 G K M A H0 n0 vv r.2 r.1 k):Dw lfp G (Runs F G) k (.ptr K.kb 0) (.ptr n0 0) (.ptr (n0+1) 0) H n:=by
 delta Dw;have g7:=h.ka.bn o;have g8:=h.le;have f0:=h.kk o;rw[BG,AJ,AP,AJ,CZ,AJ];refine AB (AK (off:=0+17) f0.g (v:=.int .i64 (.ofNat 0) 0) rfl) (AB (zN ..) ?_);show AS (.bool false) _ _;rw[AZ,AP,AJ];have qv:∀{H':Heap},T.get H' n0=some (one (SB does line col nm ty v' vt vl))->AM (.ptr n0 (0+6)) G H'=some v':=λg=>AK (off:=0+6) g rfl;have qd:∀{H':Heap},T.get H' n0=some (one (SB does line col nm ty v' vt vl))->AM (.ptr n0 0) G H'=some (iN does):=λg=>AK (off:=0) g rfl;refine AB (qv h.g) ?_;have f5:es'≠[]:=by rcases rP d2 with⟨_,a,e,_⟩|⟨_,⟨_,a,b,e,_⟩|⟨_,a,e⟩|⟨_,e⟩|⟨_,a,e,_⟩|⟨_,e⟩⟩<;>exact map_nil e
 obtain⟨e0,rest,rfl⟩:=List.exists_cons_of_ne_nil f5;have⟨cs,e1,e2,e3,e4,e5,f6⟩:=h.es;have d3:Ak v' v'=true:=by have:=e2.1;cases v'<;>first|exact this|(cases e1.2;done)|(cases e1.1;done)
 cases f6 with
 |cons U d4=>
 rename_i l ls;have⟨pl,pc,hq⟩:=AVv (q:=n) U;have I:=d1 e0 (u_ ..);have⟨p,q1,q8,q9,kd⟩:=Vx o.sub (i:=0) (l:=l) e1 rfl U.len;refine AB kd.ip (AB (kd.ld H e1).1 ?_);refine Ao rfl λH1 f1 f7=>?_;refine BX f7 rfl U.len a6 λH2 g2 s2=>?_;have f2:Kp H n H2 (n+1):=⟨f1.le,λO w=>(s2 O a6).trans (f1.same O w)⟩;have E:=h.kp o f2;have B:=E.kk o;have qb:=hq g2;have qq:∀{H':Heap} {n':Nat},Kb K.b H2 (n+1) H' n'->Qb H' n e0.of pl pc:=λf=>hq (f.get g2 a6 a6);rw[CZ,AJ];refine AB (qd E.g) (AB (A9 ..) ?_);have qt:AM (.ptr K.kb 0) G H2=some (.ptr K.t 0):=AK (off:=0) B.g rfl;rcases rP d2 with⟨rfl,a,d,R,f8,d5,rfl⟩|⟨rfl,N⟩
 ·
   rw[show decide (1=1)=true from rfl,Ah,AJ,CZ,AJ];rw[rl,_h]at d;obtain⟨rfl,-⟩:=d;have d6:=ABg (d9 rfl);refine AB qt ?_;rw[AP,AJ];refine AB qb.of ?_;rw[AP,AJ];refine AB (v:=ty.v) (BV (off:=0+4) (m:=2) E.g a6 (by show 0+4+2<=9;omega)) ?_;rw[AP,AJ];refine AB qb.ps ?_;refine ABU o B I d6 R (λH' n' f=>(qq f).ps) λH3 n3 f3=>?_;have u:=E.kb o f3;rw[Ah,AP,AJ];refine AB (AK (off:=0+3) u.g (v:=nm.v) rfl) ?_;rw[AP,AJ];refine AB (v:=ty.v) (BV (off:=0+4) (m:=2) u.g a6 (by show 0+4+2<=9;omega)) ?_;refine AB (v:=.agg (RR ⟨nm,ty⟩)) rfl ?_;rw[AJ];refine AB (v:=cT line col) (BV (off:=0+1) (m:=2) u.g a6 (by show 0+1+2<=9;omega)) ?_;refine AQu (x:=⟨nm,ty⟩) o (u.kk o) d6 f8 d5 λH4 n4 g9 f4 j7 bC=>?_;rcases hr with⟨N,_⟩|⟨_,rfl⟩
   .omega
   .exact u.done o f4 j7 bC hk
 .have f9:does≠1:=a6;rw[eg f9,AZ];refine AB (A9 ..) ?_;rcases N with⟨rfl,a,b,d,R⟩|⟨rfl,a,d⟩|⟨N,d⟩|⟨rfl,a,d,R⟩|⟨rfl,d⟩
  ·
    rw[show decide (2=2)=true from rfl,Ah,AJ,CZ,AJ];refine AB qt ?_;rcases rest with _|⟨J,rest⟩
    .cases d
    rw[rl,rl,_h,_h]at d;obtain⟨rfl,rfl,-⟩:=d;have d7:=d1 J o6;cases d4 with
    |cons L d4=>
    rename_i l' g0;have W:=e1.same (H':=H2) λO w=>f2.same O (e5 O w).2;have⟨p',r1,r8,r9,D⟩:=Vx o.sub (i:=1) (l:=l') e1 rfl L.len;have g3:(l'.drop 8).take 2=J.of.cells:=by cases L;rfl
    obtain⟨X,Y,g4⟩:∃X Y,(l'.drop 1).take 2=[V.int .i64 (.ofNat X) 0,iN Y]:=by
     cases L with
     |mk _ _ _ _ _ _ Z d8 _ _ _ _=>exact⟨Z,d8,rfl⟩
    have lp:∀{H'},El G H' v' 11 (l::l'::g0)->AX 2 r1 G H'=some (cT X Y):=λh'=>by rw[(D.ld _ h').2.1,g4]
    rw[AJ];refine AB (qv E.g) (AB D.ip (AB D.i8 (AB (v:=J.of.v) (by rw[(D.ld H2 W).2.2.1,g3];rfl) ?_)));rw[AP,AJ];refine AB qb.of ?_;rw[AJ];refine AB (qv E.g) (AB D.ip (AB D.i1 (AB (lp W) ?_)));refine AHs (x:=J.of) (y:=e0.of) B.tab (tw B.kn o.n0) o.tl d7 I λH3 n3 f3=>?_;have R:fitsT K.tb J.of e0.of=true:=R;rw[R];have u:=E.kb o f3;have g5:=W.same (H':=H3) λO w=>by have:=e5 O w;exact f3.same O (hN this.2) (hN this.1)
    refine AB (qv u.g) (Ba d3 (AB (lp g5) (Ba (UC ..) ?_)));refine L2 (K:=K) (u.kk o).g (u.kk o).kn λH4 f4=>?_;have h4:=u.kp o f4;rcases hr with⟨N,_⟩|⟨_,rfl⟩
    .omega
    .exact h4.AIK o (Kb.refl ..) hk
  ·
    rw[show decide (3=2)=false from rfl,AZ];refine AB (A9 ..) ?_;rw[show decide (3=4)=false from rfl,AZ];refine AB (A9 ..) ?_;delta Bt;rw[show decide (3=5)=false from rfl,AZ];refine AB (A9 ..) ?_;rw[show decide (3=6)=false from rfl,AZ];refine AB (A9 ..) ?_;rw[show decide (3=7)=false from rfl,AZ];rcases hr with⟨N,_⟩|⟨_,rfl⟩
    .omega
    .exact E.AIK o (Kb.refl ..) hk
  ·
    rcases hr with⟨_,hz,P,Q,c1,c2,rfl⟩|⟨hn,_⟩
    .rw[rl,_h]at d;have⟨d0,C⟩:=d;have:rest=[]:=List.map_eq_nil_iff.1 C;subst this;have key:∀v6,Bt lfp G (Runs F G) k (.ptr K.kb 0) (.ptr n0 0) (.ptr (n0+1) 0) (.ptr n 0) v6 (.bool true) H2 (n+1):=λv6=>
      AWo (th':=P.1) (el':=Q.1) (a1:=P.2) (a2:=Q.2) (a:=e0) o E N rfl d0 ht hl hz c1 c2 hk
     rcases N with rfl|rfl
     .rw[show decide (4=2)=false from rfl,AZ];refine AB (A9 ..) ?_;rw[show decide (4=4)=true from rfl,Ah];exact key _
     .rw[show decide (5=2)=false from rfl,AZ];refine AB (A9 ..) ?_;rw[show decide (5=4)=false from rfl,AZ];refine AB (A9 ..) ?_;rw[show decide (5=5)=true from rfl];exact key _
    .exact absurd N hn
  ·
    rw[show decide (6=2)=false from rfl,AZ];refine AB (A9 ..) ?_;rw[show decide (6=4)=false from rfl,AZ];refine AB (A9 ..) ?_;delta Bt;rw[show decide (6=5)=false from rfl,AZ];refine AB (A9 ..) ?_;rw[show decide (6=6)=true from rfl,Ah,BG,AJ,CZ,AJ];refine AB qt ?_;rw[rl,_h]at d;obtain⟨rfl,-⟩:=d;rw[AP,AJ];refine AB qb.of ?_;rw[AJ,AP,AJ,AP,AJ];refine AB (v:=M.ret.v) (BV (off:=0+9+5) (m:=2) B.g a6 (by show 0+9+5+2<=20;omega)) ?_;rw[AP,AJ];refine AB qb.ps ?_;have R:fitsT K.tb e0.of M.ret=true:=R;refine ABU o B I B.ret R (λH' n' f=>(qq f).ps) λH3 n3 f3=>?_;have u:=E.kb o f3;rcases hr with⟨N,_⟩|⟨_,rfl⟩
    .omega
    .exact u.AIK o (Kb.refl ..) hk
  ·
    rw[show decide (7=2)=false from rfl,AZ];refine AB (A9 ..) ?_;rw[show decide (7=4)=false from rfl,AZ];refine AB (A9 ..) ?_;delta Bt;rw[show decide (7=5)=false from rfl,AZ];refine AB (A9 ..) ?_;rw[show decide (7=6)=false from rfl,AZ];refine AB (A9 ..) ?_;rw[show decide (7=7)=true from rfl,Ah,AP,AJ];refine AB (qv E.g) ?_;refine Hg λH3 n3 f3=>?_;have u:=E.kp o f3;refine AB (qv u.g) (Ba d3 ?_);rw[rl,_h]at d;have⟨d0,C⟩:=d;have:rest=[]:=List.map_eq_nil_iff.1 C;subst this;obtain⟨i0,x1,-,-,-,x5,g6⟩:=u.es;refine sI (K:=K) (A:=Rg (n0+2) n3) (u.kk o).g (u.kk o).kn x1 x5 g6 (λO w=>w.2) (λe S=>by rw[ff]at S;rw[S];exact d0) (by show 1<=1000000;omega) λH4 n4 f4=>?_;have h4:=u.kp o f4;rcases hr with⟨N,_⟩|⟨_,rfl⟩
    .omega
    .exact h4.AIK o (Kb.refl ..) hk
end
section
variable{G:AQ}{K:Kq}{M:Km}
abbrev AHd(o:T1 G K){does:Nat}{es:aAq}{th el:aAt}(X:fS G K M th)(hl:fS G K M el):AIY G K M (.mk does nm ty es th el):=by
 intro H n A l vv all Γ g' s' k h Y R Z hk;refine go2 (dv Ae G) ?_;delta TX;have⟨q,es',g1,hL,E,hr⟩:=AYp Z;have I:=ADQ o h.ok hL;have g5:=pN hL;have g6:=h.kn;have d0:=h.bn o;have g3:es'.length<=2:=by
  have u:(es'.map Te.of).length<=2:=by rcases rP E with⟨_,a,e,_⟩|⟨_,⟨_,a,b,e,_⟩|⟨_,a,e⟩|⟨_,e⟩|⟨_,a,e,_⟩|⟨_,e⟩⟩<;>rw[e]<;>simp
  rwa [uc]at u
 cases Y with
 |mk _ _ _ line col he y d1 d2 d3 B d4 d5 d6=>
 rename_i ve vt vl ct cl;have S:∀{v:V} {z:Nat} {LS:Bh},El G H v z LS->Rb v=true/\At v=[v]:=λ{v z LS} J=>by cases v<;>first|exact⟨rfl,rfl⟩|(cases J.2;done)|(cases J.1;done)
 have d7:UH G H A vt th:=⟨ct,y,d1,(S y).1,(S y).2,d2,d3⟩;have d8:UH G H A vl el:=⟨cl,B,d4,(S B).1,(S B).2,d5,d6⟩;refine BE λH1 f1 f=>?_;refine Ao rfl λH2 f2 g2=>?_;have C:=f1.trans f2;have f:=f2.get f a6;have u:=h.kp o C;rw[BG,AJ,AP,AJ,CZ,AJ];refine AB (AK (off:=0+17) u.g (v:=.int .i64 (.ofNat 0) 0) rfl) (AB (zN ..) ?_);show AS (.bool false) _ _;rw[AZ,CZ,AJ];refine AB (AK (off:=0) f (v:=.int .i64 (.ofNat does) 0) rfl) (AB (A9 ..) ?_);have d9:Kt G H2 A ve es:=he.mono (λ_ h=>h) λi d=>C.same i (hN (R i d));have rest:∀D U,Kb K.b H2 (n+1+1) D U->AD (AG 6 (.ptr n 0)) (λf0=>AD (AM f0 G D) λf6=>Runs F G Ca [f6] D U λf7 H n'=>AD (AG 6 (.ptr n 0)) λf8=>A1 1 f8 f7 H n' λg7 H n'=>AD (AG 6 (.ptr n 0)) λL=>AD (AM L G H) λw=>AD (lenV w) λN=>
  lfp (V×V×V×V×V×V×Heap×Nat) (ER lfp G (Runs F G) k) (.ptr K.kb 0,.ptr n 0,.ptr (n+1) 0,w,N,iN 0,H,n')):=by intro D U f3;have g8:=f3.le;have T8:Kb K.b H n D U:=(C.kb d0).trans f3;refine ALa (m:=n) o (h.kb o (T8.low o_)) o_ a6 R (f3.get f a6 a6) (d9.mono (λ_ h=>h) λi d=>by have:=R i d;exact f3.same i a6 this.2) a6 hL λH4 n4 v4 p g4 O=>?_;have f9:=p.le;refine AK6 (r:=(s',g')) o ⟨h,R,⟨a6,λi h1 u W=>(p.same i a6 u W).trans (T8.same i h1 u),λY=>p.seen (T8.seen Y)⟩,a6,g4,(p.same (n+1) a6 a6 a6).trans (f3.get g2 a6 a6),O.mono (λi d=>⟨hN d.1,d.2⟩) (λ_ _=>rfl),d7,d8⟩ I q E hr X hl hk
 cases hd:decide (does=1)with
 |false=>
  repeat (first|with_reducible refine Wq ?_|with_reducible refine jL ?_|with_reducible refine ARH ?_|with_reducible refine ah ?_)
  rw[AZ];exact rest H2 _ (Kb.refl ..)
 |true=>
  have x:=q (kh hd);have g0:=ABg x;refine MT rfl (MT rfl (MT (BG ..) (MT (CZ ..) (MT (AK (off:=0) u.g (v:=.ptr K.t 0) rfl) (MT (AP ..) ?_)))));refine MT (a:=ty.v) (BV (off:=0+4) (m:=2) f a6 (by show 0+4+2<=9;omega)) (wi ?_);refine M1 (G:=G) (vs:=[ty.v]) rfl a6 (λv hv=>by simp at hv;subst hv;exact⟨rfl,rfl⟩) λD f3 _ P=>?_;have Q:=f3.get f a6;have qp:∀{H':Heap},T.get H' n=some (one (SB does line col nm ty ve vt vl))->AX 2 (.ptr n (0+1)) G H'=some (cT line col):=λg=>BV (off:=0+1) (m:=2) g a6 (by show 0+1+2<=9;omega);refine MT (AP ..) (MT (qp Q) (wi ?_));have W:=u.kp o f3;refine bN (xs:=[ty]) (W.up o) ⟨P,λi d=>by cases d;omega,by unfold big;exact(by decide:1<9223372036854775808),λt X=>by rw[ff.1 X];exact g0⟩ λH4 n4 p=>?_;have f9:=p.le;rw[show[ty].all (BD K.tb)=true by have:BD K.tb ty=true:=x;simp[this]];refine AWr (qp (p.get Q a6 a6)) (UC ..) (wi ?_);have h4:=W.kb o p;refine L2 (K:=K) h4.g h4.kn λH5 f5=>?_;refine MT (Bw ..) (V1 ?_);show AS (.bool false) _ _;rw[AZ];exact rest H5 _ ((f3.kb a6).trans (p.trans (f5.kb a6)))
abbrev yf{s:Tt}{l d:aAt}{a:Nat}(h:Xr x (s::l) g=some (d,a)):∃f i k,Tq x s g=some (f,i)/\Xr x l i=some (k,a)/\d=f::k:=by rw[Xr]at h;have⟨p,m,h⟩:=ee.1 h;have⟨q,u,v⟩:=d_.1 h;cases v;exact⟨p.1,p.2,q.1,m,u,rfl⟩
abbrev AOe:∀{s f:Tt} {g g':Gs},Tq x s g=some (f,g')->∃Δ,g'.1=g.1++Δ
 |.mk does nm ty es th el,f,g,g',h=>by
  have⟨_,es',k,_,d,m⟩:=AYp h;have i:∃Δ,k.1=g.1++Δ:=by
   rcases rP d with⟨_,a,_,_,_,_,rfl⟩|⟨rfl,_⟩
   .exact⟨_,rfl⟩
   .exact⟨[],(qs _).symm⟩
  rcases m with⟨_,_,p,q,_,_,e⟩|⟨_,e⟩
  .cases e;exact i
  .cases e;exact i
theorem mg(o:T1 G K):∀{b:aAt},(∀s∈b,AIY G K M s)->fS G K M b:=by
 intro b hS i2 H n A v vv all Γ b' d8 k h hs hA i3 hk
 refine go2 (bX Ae G) ?_
 delta SM
 have k6:=h.kn
 have k7:=h.bn o
 have k8:=o.n0
 have k9:=o.ba
 have qv:∀{H':Heap} {w:V} {a':Nat},T.get H' K.kb=some (one (K.cells M w a'))->AM (.ptr K.kb (0+1)) G H'=some w:=λg=>AK (off:=0+1) g rfl
 rw[BG,AJ,AP,AJ,CZ,AJ]
 refine AB (qv h.g) ?_
 have d3:=(h.sk.el (G:=G) a6).len
 rw[uc]at d3
 refine AB d3 ?_
 obtain⟨cs,e1,-,-,-,e5,d9⟩:=hs
 have i4:=d9.len
 have f0:=e1.len
 rw[i4]at f0
 refine AB f0 ?_
 refine BL (N:=b.length) (J:=λj q=>∃H' n' P w a' d5 ds b1,q=(.ptr K.kb 0,iN Γ.length,P,v,iN b.length,iN j,H',n')/\Ks K vv H n H' n'/\au G H' n' K M w a' d5/\Sd n vv w/\(∃Δ,d5=Γ++Δ)/\
  Sk H' 9 (λid=>n<=id/\id<n'/\w.CD≠some id) P ds/\FQ G H' (λid=>A id∨(Rv n n' w id/\P.CD≠some id)) ds b1/\(∃b2,Xr (K.x M) (b.drop j) (d5,a')=some (b2,d8)/\b'=b1++b2)/\b1.length=j) ?_ ?_
  ⟨H,n,.AT,vv,all,Γ,[],[],rfl,Ks.refl ..,h,Sd.refl ..,⟨[],(qs _).symm⟩,.nil,.nil,⟨b',i3,rfl⟩,rfl⟩
 ·rintro I j q U ⟨H3,O,P,Q,a3,f1,ds,b1,rfl,f3,C,W,⟨Δ,d6⟩,D,X,⟨b2,R,Y⟩,f2⟩ ih
  show Db lfp G (Runs F G) k I (.ptr K.kb 0) (iN Γ.length) P v (iN b.length) (iN j) H3 O
  delta Db
  have f5:=f3.le
  have qo:∀id,vv.CD=some id->K.kb<id/\id<n:=λid d=>h.sk.own d
  have f8:∀id,A id->T.get H3 id=T.get H id:=λid d=>by
   have:=hA id d
   exact f3.same id a6 this.2 a6 λe=>by have:=qo id e;omega
  have f9:=FQ.mono (H':=H3) (λ_ h=>h) f8 d9
  obtain⟨l,hl,Z⟩:=f9.at (eb U)
  obtain⟨p,i5,i6⟩:=(e1.same (H':=H3) λid d=>f8 id (e5 id d)).at hl
  have g0:=hS _ (f_ U)
  rw[uv U]at R
  obtain⟨s',g1,l',d7,i7,rfl⟩:=yf R
  generalize b[j]=s at Z g0 d7
  rw[D9,AJ,ui U,Ah]
  refine AB i5 (AB (BZ i6) ?_)
  refine Ao rfl λH4 f4 g4=>?_
  refine BX g4 rfl Z.len a6 λH5 g5 s5=>?_
  have d0:Kp H3 O H5 (O+1):=⟨f4.le,λid d=>(s5 id a6).trans (f4.same id d)⟩
  refine AB (As (m:=9) g5 a6 Z.len) ?_
  have h5:=C.kp o d0
  refine g0 H5 (O+1) A l Q a3 f1 g1 s' _ h5 (Z.mono (λ_ h=>h) λid d=>d0.same id (by have:=hA id d;omega)) hA d7 ?_
  intro H6 n6 l6 E f6 S g2 g3
  have m0:=f6.le
  have i8:∀id,Q.CD=some id->K.kb<id/\id<O:=λid d=>C.sk.own d
  have d4:∀id,E.CD=some id->Q.CD=some id∨O+1<=id:=λid d=>by
   rcases g2 with s|s
   ·exact .inl (s.symm.trans d)
   ·exact .inr (s id d)
  have d1:∀id,id<O->id≠K.b->id≠K.kb->Q.CD≠some id->T.get H6 id=T.get H3 id:=λid h1 h2 C h4=>(f6.same id a6 h2 C h4).trans (d0.same id h1)
  have d2:Sk H6 9 (λid=>n<=id/\id<O/\E.CD≠some id) P ds:=D.mono (λid d=>⟨d.1,d.2.1,λe=>by
   rcases d4 id e with e|e
   ·exact d.2.2 e
   ·omega⟩) λid d=>d1 id d.2.1 a6 a6 d.2.2
  have i9:=X.len
  refine d2.app (bs:=136) (c:=.agg l6) (m:=0) (λid d=>by have:=d2.own d;omega) a6 rfl g3.len (by rw[i9];omega) λg6 H7 k0 f g7=>?_
  have y:∀id,id<n∨O<=id->P.CD≠some id:=λid h e=>by have:=d2.own e;omega
  have vo'n:∀id,id<n6+1->g6.CD≠some id:=λid h e=>by rw[g7]at e;have:=e_ e;omega
  have g8:∀id,E.CD=some id->id<n6:=λid d=>(S.sk.own d).2
  have k1:∀id,E.CD=some id->P.CD≠some id:=λid d e=>(d2.own e).2.2 d
  rw[CA a6,AJ]
  have h7:au G H7 (n6+2) K M E g1.2 g1.1:=⟨(f _ (by have:=S.kn;omega) (y _ (.inl a6))).trans S.g,S.tab.kb ⟨ea _,λid h1 _=>f id a6 (y _ (.inl a6)),λx=>x.same (f _ a6 (y _ (.inl a6)))⟩,by have:=S.kn;omega,
   S.sk.JO (λid d=>by have:=S.sk.own d;omega) λid d=>f id (g8 id d) (k1 id d),S.la,S.al,S.ok,S.ret⟩
  have g9:Sd n vv E:=W.trans g2 a6
  have f7:Ks K vv H n H7 (n6+2):=⟨a6,λid h1 h2 C h4=>(f id a6 (y _ (.inl h1))).trans ((d1 id a6 h2 C λe=>by
   rcases W with s|s
   ·exact h4 (s.symm.trans e)
   ·have:=s id e;omega).trans (f3.same id h1 h2 C h4)),λhs=>(f6.seen ((f3.seen hs).same (d0.same _ a6))).same (f _ a6 (y _ (.inl a6)))⟩
  obtain⟨k2,i0⟩:=AOe d7
  refine ih _ ⟨H7,n6+2,g6,E,g1.2,g1.1,ds++[l6],b1++[s'],rfl,f7,h7,g9,⟨Δ++k2,by rw[i0,d6,y_]⟩,k0 _ ⟨a6,a6,λe=>by have:=g8 _ e;omega⟩,?_,⟨l',i7,by rw[Y,y_];rfl⟩,by rw[uk,f2];rfl⟩
  refine(FQ.mono (λid d=>?_) (λid d=>?_) X).app (.cons (g3.mono (λid d=>?_) λid d=>?_) .nil)
  ·rcases d with d|d
   ·exact .inl d
   ·refine .inr ⟨⟨d.1.1,by have:=d.1.2.1;omega,λe=>?_⟩,vo'n id (by have:=d.1.2.1;omega)⟩
    rcases d4 id e with e|e
    ·exact d.1.2.2 e
    ·have:=d.1.2.1;omega
  ·rcases d with d|d
   ·have:=hA id d
    exact(f id a6 (y _ (.inl a6))).trans (d1 id a6 this.2 a6 λe=>by have:=i8 id e;omega)
   ·exact(f id (by have:=d.1.2.1;omega) d.2).trans (d1 id d.1.2.1 (by have:=d.1.1;omega) (by have:=d.1.1;omega) d.1.2.2)
  ·rcases d with d|d
   ·exact .inl d
   ·exact .inr ⟨⟨by have:=d.1;omega,by have:=d.2.1;omega,d.2.2⟩,vo'n id (by have:=d.2.1;omega)⟩
  ·rcases d with d|d
   ·have:=hA id d
    exact f id a6 (y _ (.inl a6))
   ·exact f id d.2.1 (y _ (.inr (by have:=d.1;omega)))
 ·rintro I q ⟨H3,O,P,Q,a3,f1,ds,b1,rfl,f3,C,W,⟨Δ,d6⟩,D,X,⟨b2,R,Y⟩,f2⟩
  show Db lfp G (Runs F G) k I (.ptr K.kb 0) (iN Γ.length) P v (iN b.length) (iN b.length) H3 O
  delta Db
  rw[D9,AJ,eg (m_ _),AZ]
  delta Im
  rw[sw o_,Xr]at R
  cases R
  rw[qs]at Y
  subst Y
  subst d6
  obtain⟨w,k3,L,u⟩:=C.sk.cut (i:=Γ.length) (q:=.i64) o6
  rw[BG,AJ,AP,AJ,CZ,AJ]
  refine AB (qv C.g) (AB k3 ?_)
  rw[AJ,AP,AJ,CZ,AJ]
  have f5:=f3.le
  refine FK (off:=0+1) (m:=1) (v:=w) C.g u.ok.1 (by rw[u.ok.2.1];rfl) a6 (by show 0+1+1<=20;omega) λH4 g4 s4=>?_
  rw[u.ok.2.1]at g4
  have k4:(List.map RR (Γ++Δ)).take Γ.length=Γ.map RR:=by rw[wm,R1 o6]
  rw[k4]at u
  have k5:=C.la
  rw[uk]at k5
  refine hk H4 O P w ⟨f5,λid h1 h2 i1 h4=>(s4 id i1).trans (f3.same id h1 h2 i1 h4),λhs=>(f3.seen hs).same (s4 _ a6)⟩
   ⟨g4,C.tab.kb ⟨ea _,λid h1 _=>s4 id a6,λx=>x.same (s4 _ a6)⟩,C.kn,u.JO (λid d=>u.own d) (λid d=>s4 id (by have:=(u.own d).1;omega)),a6,C.al,h.ok,h.ret⟩ ?_
   ⟨ds,(D.mono (B:=λ_=>True) (λ_ _=>trivial) λid d=>s4 id a6).el a6,D.ks,D.ok.1,D.ok.2.1,λid d=>?_,FQ.mono (λid d=>?_) (λid d=>?_) X⟩
  ·rw[Sd,L];exact W
  ·have:=D.own d
   exact .inr ⟨this.1,this.2.1,by rw[L];exact this.2.2⟩
  ·rcases d with d|d
   ·exact .inl d
   ·exact .inr ⟨d.1.1,d.1.2.1,by rw[L];exact d.1.2.2⟩
  ·rcases d with d|d
   ·exact s4 id (by have:=hA id d;omega)
   ·exact s4 id (by have:=d.1.1;omega)
mutual
theorem AOW(o:T1 G K):∀s,AIY G K M s
 |.mk _ _ _ _ th el=>AHd o (mg o (qC o th)) (mg o (qC o el))
theorem qC(o:T1 G K):∀b:aAt,∀s∈b,AIY G K M s
 |[]=>λs h=>by cases h
 |a::l=>by
  have ha:=AOW o a;have hl:=qC o l;intro s h;rcases qk.1 h with rfl|h
  .exact ha
  .exact hl s h
end
abbrev APp(o:T1 G K)(b:aAt):fS G K M b:=mg o (qC o b)
end
abbrev ANM{v:BU}{f:Gs}(h:ql v g=some f):Cg v.nm g.1=none/\g.2<200/\f=(g.1++[v],g.2+1):=by
 unfold ql at h;cases d:(Cg v.nm g.1).isNone&&decide (g.2<200)with
 |false=>rw[d]at h;cases h
 |true=>
  rw[d]at h;rw[ez]at d;exact⟨W_.1 d.1,kh d.2,(e_ h).symm⟩
variable{tb:Tab}{m:Tm}
abbrev APq{cls:St}{m':Tm}(h:YZ tb cls m=some m'):m.body.length<=1000/\∃g q,qu m.ps ([],0)=some g/\Xr ⟨tb,cls,m.st,m.ret⟩ m.body g=some q/\m'={m with body:=q.1}:=by
 unfold YZ at h;cases d:szB m.body with
 |false=>rw[d]at h;cases h
 |true=>
  rw[d]at h;have⟨g,f,h⟩:=ee.1 h;have⟨q,i,k⟩:=d_.1 h;exact⟨kh d,g,q,f,i,k.symm⟩
def ANJ(H:Heap)(K:Kq):Prop:=∃M vv all,T.get H K.kb=some (one (K.cells M vv all))
structure Kn(K:Kq)(H:Heap)(n:Nat)(H':Heap)(n':Nat):Prop where
 le:n<=n'
 same:∀id,id<n->id≠K.b->id≠K.kb->T.get H' id=T.get H id
 seen:E1 H K.b->E1 H' K.b
section
variable{G:AQ}{H:Heap}{n:Nat}{K:Kq}{k:KV}{A:Nat->Prop}{l:LV}{m m':Tm}
abbrev AJh(o:T1 G K)(hb:ANJ H K)(ht:TabAt G H K.n0 K.t K.a K.b K.tb)(g0:K.kb<n)(hm:lQ G H A l m)(hA:∀id,A id->id<K.kb/\id≠K.b)(Z:ADR m)(g5:YZ K.tb K.cls m=some m')
 (hk:∀O n' l',Kn K H n O n'->ANJ O K->lQ G O (λid=>A id∨(n<=id/\id<n')) l' m'->k (.agg l') O n'):Runs F G Qh [.ptr K.kb 0,.agg l] H n k:=by
 refine go2 (aO Ae G) ?_;delta Q5;have k6:=o.n0;have k7:=o.ba;obtain⟨hz,gs,q,D,d0,rfl⟩:=APq g5;have⟨M0,k8,k5,gk⟩:=hb;cases hm with
 |mk line col hp g9=>
 rename_i nm st ty C bd S vb;have d6:ty.nm.ok:=Z.ret;have i0:∀f∈C,f.ty.nm.ok:=Z.ps;have k9:C.length<=1000:=Z.ln;have D:qu C ([],0)=some gs:=D;have d0:Xr ⟨K.tb,K.cls,st,ty⟩ bd gs=some q:=d0;have hz:bd.length<=1000:=hz;refine BE λH1 f1 g1=>?_;refine Ao rfl λH2 f2 g2=>?_;have B:=f1.trans f2;have g1:=f2.get g1 a6;refine AB (As (m:=8) g1 a6 rfl) ?_;refine AB (v:=.agg [.AT,iN 0]) rfl ?_;rw[BG,AJ,AP,AJ];refine FK (off:=0+9) (m:=8) (v:=.agg (xW line col nm st S ty vb)) (B.get gk g0) rfl rfl a6 (by show 0+9+8<=20;omega) λH3 g3 s3=>?_;rw[AJ,AP,AJ];refine FK (off:=0+1) (m:=2) (v:=.agg [.AT,iN 0]) g3 rfl rfl a6 (by show 0+1+2<=20;omega) λE g4 s4=>?_;have y:∀id,id≠K.kb->T.get E id=T.get H2 id:=λid h=>(s4 id h).trans (s3 id h);have g4:T.get E K.kb=some (one (K.cells ⟨line,col,nm,st,S,ty,vb⟩ .AT 0)):=g4;generalize hM:(⟨line,col,nm,st,S,ty,vb⟩:Km)=M at g4;have i1:M.st=st:=by rw[<-hM]
 have d7:M.ret=ty:=by rw[<-hM]
 have dW:TabAt G E K.n0 K.t K.a K.b K.tb:=ht.kb ⟨ea _,λid h1 _=>(y id a6).trans (B.same id a6),λhs=>hs.same ((y _ a6).trans (B.same _ a6))⟩;have j7:au G E (n+1+1) K M .AT 0 []:=⟨g4,dW,a6,.nil,ea _,j_ _,λf hf=>(by cases hf),by rw[d7];exact d6⟩;have d1:T.get E n=_:=(y n a6).trans g1;have i2:T.get E (n+1)=some (one sG):=(y (n+1) a6).trans g2;rw[AP,AJ];refine AB (AK (off:=0+4) d1 (v:=S) rfl) ?_;have d8:∀id,A id->T.get E id=T.get H id:=λid d=>by have:=hA id d;exact(y id a6).trans (B.same id a6)
 have d2:=hp.mono (H':=E) (λ_ h=>h) d8;have U:=d2.1.len;rw[uc]at U;refine AB U ?_;refine BL (N:=C.length) (J:=λj q=>∃O n' vv a Γ,q=(.ptr K.kb 0,.ptr n 0,.ptr (n+1) 0,S,iN C.length,iN j,O,n')/\Ks K .AT E (n+1+1) O n'/\au G O n' K M vv a Γ/\Sd (n+2) .AT vv/\qu (C.drop j) (Γ,a)=some gs) ?_ ?_
  ⟨E,n+1+1,.AT,0,[],rfl,Ks.refl ..,j7,Sd.refl ..,D⟩
 .rintro I j q' Q ⟨P,W,vv,a,Γ,rfl,X,d3,L,u⟩ ih;show DS lfp G (Runs F G) k I (.ptr K.kb 0) (.ptr n 0) (.ptr (n+1) 0) S (iN C.length) (iN j) P W;delta DS;have i3:=X.le;have qo:∀id,vv.CD=some id->n+2<=id:=λid d=>by
   rcases L with s|s
   .rw[s]at d;cases d
   .exact s id d
  have i4:=d2.1.same (H':=P) λid d=>by have:=hA id (d2.2.2.2.2 id d);exact X.same id a6 this.2 a6 (by simp[V.CD])
  have⟨p,i5,d9⟩:=i4.at (i:=j) (c:=RR C[j]) (by simp[Q]);have f0:=i0 _ (f_ Q);rw[uv Q]at u;generalize C[j]=x at d9 f0 u;have⟨ga,h1,Y⟩:=ee.1 (show(ql x (Γ,a)).bind (qu (C.drop (j+1)))=some gs from u);obtain⟨e1,e2,rfl⟩:=ANM h1;rw[D9,AJ,ui Q,Ah];refine AB i5 (AB (BZ d9) ?_);refine Ao rfl λH6 f6 g6=>?_;refine BX g6 rfl rfl a6 λH7 g7 R=>?_;have d4:Kp P W H7 (W+1):=⟨f6.le,λid d=>(R id a6).trans (f6.same id d)⟩;refine AB (As (m:=3) g7 a6 rfl) ?_;have i6:T.get H7 n=_:=(d4.same n a6).trans ((X.same n a6 a6 a6 (by simp[V.CD])).trans d1);rw[CZ,AJ];refine AB (v:=cT line col) (BV (off:=0) (m:=2) i6 a6 (by show 0+2<=8;omega)) ?_;refine AQu (x:=x) o (d3.kp o d4) f0 e1 e2 λH8 n8 f3 f8 i7 i8=>?_;rw[CA a6,AJ];have i9:Ks K vv P W H8 n8:=((d4.kb (b:=K.b) a6).ks vv).trans f8 (Sd.refl ..);exact ih _ ⟨H8,n8,f3,a+1,Γ++[x],rfl,X.trans i9 L,i7,L.trans (show Sd (W+1) vv f3 from i8) a6,Y⟩
 .rintro I q' ⟨P,W,vv,a,Γ,rfl,X,d3,L,u⟩;show DS lfp G (Runs F G) k I (.ptr K.kb 0) (.ptr n 0) (.ptr (n+1) 0) S (iN C.length) (iN C.length) P W;delta DS;rw[D9,AJ,eg (m_ _),AZ];rw[sw o_]at u;obtain rfl:(Γ,a)=gs:=e_ u;delta HD;have i3:=X.le;have nn:∀id:Nat,V.AT.CD≠some id:=λid h=>by cases h
  have WS:∀id,id<n+2->id≠K.b->id≠K.kb->T.get P id=T.get E id:=λid h1 Y h3=>X.same id h1 Y h3 (nn id);have f4:=(WS n a6 a6 a6).trans d1;rw[AP,AJ];refine AB (AK (off:=0+7) f4 (v:=vb) rfl) ?_;have f7:∀id,A id->T.get P id=T.get H id:=λid d=>by have:=hA id d;exact(WS id a6 this.2 a6).trans (d8 id d)
  refine APp (M:=M) o bd hz P W A vb vv a Γ q.1 q.2 _ d3 (g9.mono (λ_ h=>h) f7) hA (by rw[show K.x M=⟨K.tb,K.cls,st,ty⟩by unfold Kq.x;rw[i1,d7]];exact d0) λH6 n6 v6 k0 f6 k1 m0 f9=>?_;have m1:=f6.le;have qo:∀id,vv.CD=some id->n+2<=id:=λid d=>by
   rcases L with s|s
   .rw[s]at d;cases d
   .exact s id d
  have w:∀id,id<n+2->id≠K.b->id≠K.kb->T.get H6 id=T.get P id:=λid h1 Y h3=>f6.same id a6 Y h3 λe=>hN (qo id e);have k2:=(w n a6 a6 a6).trans f4;have d5:=KS.ok f9;rw[AJ];refine FK (off:=0+7) (m:=1) (v:=v6) k2 d5.1 (by rw[d5.2];rfl) a6 (by show 0+7+1<=8;omega) λH7 g7 R=>?_;rw[d5.2]at g7;refine AB (As (m:=8) g7 a6 rfl) ?_;have k3:T.get H7 (n+1)=some (one sG):=(R (n+1) a6).trans ((w (n+1) a6 a6 a6).trans ((WS (n+1) a6 a6 a6).trans i2));refine BX k3 rfl rfl a6 λH8 g8 s8=>?_;rw[By (m:=8) g8 a6 rfl];simp only[go_sem];have k4:∀id,A id->T.get H8 id=T.get H id:=λid d=>by have:=hA id d;exact(s8 id a6).trans ((R id a6).trans ((w id a6 this.2 a6).trans (f7 id d)))
  refine hk H8 n6 (xW line col nm st S ty v6) ⟨a6,λid h1 Y h3=>?_,λhs=>?_⟩ ⟨M,k0,q.2,(s8 _ a6).trans ((R _ a6).trans k1.g)⟩ (.mk line col (hp.mono (λ_ h=>.inl h) k4) (f9.mono (λid d=>?_) λid d=>?_))
  .exact(s8 id a6).trans ((R id a6).trans ((w id a6 Y h3).trans ((WS id a6 Y h3).trans ((y id h3).trans (B.same id h1)))))
  .exact((f6.seen (X.seen (hs.same ((y _ a6).trans (B.same _ a6))))).same (R _ a6)).same (s8 _ a6)
  .rcases d with d|d
   .exact .inl d
   .exact .inr ⟨hN d.1,d.2.1⟩
  .rcases d with d|d
   .have:=hA id d;exact(s8 id a6).trans (R id a6)
   .have:=d.1;exact(s8 id a6).trans (R id a6)
end
abbrev ks(s:St):CK.eq .str s.v s.v=some true:=by rw[ADv];simp
abbrev kb(b:Bool):CK.eq .bool (.bool b) (.bool b)=some true:=by rw[AMZ];simp
abbrev ASR{k:CK}{ks:aAE}{x:V}{xs:LV}(h:k.eq x x=some true)(d:ANf ks xs xs=some true):ANf (k::ks) (x::xs) (x::xs)=some true:=(HA (q:=CK.eq)).2 ⟨true,true,h,d,rfl⟩
abbrev ne_self{ks:aAE}{L:LV}(h:ANf ks L L=some true):BM (.agg ks) true (.agg L) (.agg L)=some (.bool false):=by show Ux (K8 (ANf ks L L) λb=>some (Lf b))=_;rw[h];rfl
abbrev AUL(f:BU):BM (.agg [.str,.str,.bool]) true (.agg f.cells) (.agg f.cells)=some (.bool false):=ne_self (ASR (ks _) (ASR (ks _) (ASR (kb _) rfl)))
variable{G:AQ}{v:V}
abbrev ALF{w:V}{fs:aAm}(h:O3 G H n v fs)(u:O3 G H n w fs)(x:k (.bool true) H n):
 Runs F G JY [v,w] H n k:=by
 refine go2 (Rf Ae G) ?_;delta JZ;have f:=h.lt;simp only[go_sem,h.len,u.len,AEi];refine BL (N:=fs.length) (J:=λj q=>q=(v,w,iN fs.length,iN j,H,n)) ?_ ?_ rfl
 .rintro I j q d rfl y;show CT lfp G (Runs F G) k I v w (iN fs.length) (iN j) H n;delta CT;have⟨p,A,i⟩:=h.at d;have⟨B,m,g⟩:=u.at d;simp only[go_sem,Bf,d,_b,A,m,BZ i,BZ g,AUL,CA (show j+1<9223372036854775808 by unfold big at f;omega)];exact y _ rfl
 .rintro I q rfl;show CT lfp G (Runs F G) k I v w (iN fs.length) (iN fs.length) H n;delta CT;simp only[go_sem,Bf,m_,v_];delta EN;exact x
abbrev vD:∀l:aAv,Ze l l=true
 |[]=>rfl
 |a::l=>by unfold Ze Ty.is;rw[vD l];simp
abbrev AG8(m:Bk):m.same m=true:=by unfold Bk.same Ty.is;rw[vD];simp
abbrev AN7{w:V}{ms:aAF}{ws R:aAo}(h:IW G H n v ms ws)(L:IW G H n w ms R)(S:∀A B,Kp H n A B->k (.bool true) A B):
 Runs F G Cw [v,w,.fn En [] []] H n k:=by
 refine xN (Fz Ae G) ?_;delta Cs;have C:=h.lt;simp only[go_sem,h.len',L.len',AEi];refine BL (N:=ms.length) (J:=λj q=>∃A B,q=(w,.fn En [] [],v,iN ms.length,iN j,A,B)/\Kp H n A B) ?_ ?_ ⟨_,_,rfl,Kp.refl _ _⟩
 .rintro I j q g ⟨i,d,rfl,f3⟩ U;show A5 lfp G (Runs F G) k I w (.fn En [] []) v (iN ms.length) (iN j) i d;delta A5;have⟨p,x,W,u,M⟩:=(h.kp f3).at g;obtain⟨m,O⟩:∃m,m=ms[j]:=⟨_,rfl⟩;rw[<-O]at u M;unfold Bk.cells at u;simp only[go_sem,Bf,g,_b,W,BZ u,Nat.reduceAdd];rw[T.set_set];have D:Kp i d (T.set i d (one [m.nm.v,.bool m.st,x,m.ret.nm.v,.bool m.ret.arr])) (d+1):=(Kp.refl _ _).new _ o_ a6;have P:=T.B4 i d (one [m.nm.v,.bool m.st,x,m.ret.nm.v,.bool m.ret.arr]);generalize T.set i d (one [m.nm.v,.bool m.st,x,m.ret.nm.v,.bool m.ret.arr])=H4 at D P;have⟨Z,y,K,f,Q⟩:=((L.kp f3).kp D).at g;rw[<-O]at f Q;unfold Bk.cells at f;simp only[go_sem,K,BZ f,Nat.reduceAdd];rw[T.set_set];have E:Kp H4 (d+1) (T.set H4 (d+1) (one [m.nm.v,.bool m.st,y,m.ret.nm.v,.bool m.ret.arr])) (d+1+1):=(Kp.refl _ _).new _ o_ a6;have X:=T.B4 H4 (d+1) (one [m.nm.v,.bool m.st,y,m.ret.nm.v,.bool m.ret.arr]);generalize T.set H4 (d+1) (one [m.nm.v,.bool m.st,y,m.ret.nm.v,.bool m.ret.arr])=H5 at E X;rw[As (m:=5) P a6 rfl,AJ];show Runs F G En [.agg [m.nm.v,.bool m.st,x,m.ret.nm.v,.bool m.ret.arr],.agg [m.nm.v,.bool m.st,y,m.ret.nm.v,.bool m.ret.arr]] H5 (d+1+1) _;refine uZ (a:=m) (b:=m) ⟨x,rfl,(M.kp D).kp E⟩ ⟨y,rfl,Q.kp E⟩ λH6 n6 Y=>?_;rw[AG8];simp only[go_sem,Bw,k_,CA (show j+1<9223372036854775808 by unfold big at C;omega)];exact U _ ⟨_,_,rfl,f3.trans (D.trans (E.trans Y))⟩
 .rintro I q ⟨i,d,rfl,f3⟩;show A5 lfp G (Runs F G) k I w (.fn En [] []) v (iN ms.length) (iN ms.length) i d;delta A5;simp only[go_sem,Bf,m_,v_];delta Bu;exact S _ _ f3
abbrev AGl{w:V}{c:Fc}(h:Jz G H n v c)(f:Jz G H n w c)(q:∀i m,Kp H n i m->k (.bool true) i m):
 Runs F G ZC [v,w] H n k:=by
 refine go2 (rB Ae G) ?_;delta Z9;obtain⟨u,x,I,h,rfl⟩:=h;obtain⟨y,A,J,f,rfl⟩:=f;refine BE λK B d=>?_;refine BE λL p g=>?_;have d:=p.get d a6;have f3:=B.trans p;have C:BM (.one .str) false c.nm.v c.nm.v=some (.bool true):=by show BM (.one .str) false (.str c.nm.1 c.nm.2) (.str c.nm.1 c.nm.2)=_;rw[cK];simp
 have D:BM (.one .str) false c.sup.v c.sup.v=some (.bool true):=by show BM (.one .str) false (.str c.sup.1 c.sup.2) (.str c.sup.1 c.sup.2)=_;rw[cK];simp
 simp only[go_sem,Nat.reduceAdd,AK (off:=0) d (v:=c.nm.v) rfl,AK (off:=0) g (v:=c.nm.v) rfl,AK (off:=1) d (v:=c.sup.v) rfl,AK (off:=1) g (v:=c.sup.v) rfl,
  AK (off:=2) d (v:=u) rfl,AK (off:=2) g (v:=y) rfl,C,D]
 refine ALF (h.fs.kp f3) (f.fs.kp f3) ?_;simp only[go_sem,Nat.reduceAdd,AK (off:=3) d (v:=x) rfl,AK (off:=3) g (v:=A) rfl];refine AN7 (h.ms.kp f3) (f.ms.kp f3) λM N E=>?_;exact q _ _ (f3.trans E)
abbrev ARC{z:Nat}{LS:Bh}(h:El G H v z LS):Eh v v=true:=by
 have⟨d,f⟩:=h;cases v<;>try (cases f;done)
 .cases d
 .rfl
 .exact ARh ..
 .exact AL4 ..
 .simp[Eh,AFO,A6,V.el]
abbrev AAy{cls:St}{l ms:aAz}(h:lE tb cls (m::l)=some ms):∃m' d,YZ tb cls m=some m'/\lE tb cls l=some d/\ms=m'::d:=by unfold lE at h;have⟨m',f,h⟩:=ee.1 h;have⟨d,g,i⟩:=d_.1 h;exact⟨m',d,f,g,i.symm⟩
abbrev AFg{cls:St}:∀{l d:aAz},lE tb cls l=some d->d.length=l.length
 |[],d,h=>by cases h;rfl
 |m::l,d,h=>by obtain⟨m',t,_,f,rfl⟩:=AAy h;simp[AFg f]
abbrev AIf{cls:St}:∀{l d:aAz} {i:Nat} {m:Tm},lE tb cls l=some d->l[i]? =some m->∃m',d[i]? =some m'/\YZ tb cls m=some m'
 |[],d,i,m,h,f=>by simp at f
 |a::l,d,i,m,h,f=>by
  obtain⟨m',t,g,k,rfl⟩:=AAy h;cases i with
  |zero=>cases f;exact⟨m',rfl,g⟩
  |succ i=>exact AIf (i:=i) k f
structure io(tb:Tab):Prop where
 tl:tb.length<=1000
 ar:∀s c,DU tb s=some c->∀m∈c.ms,m.ps.length<=1000
 tn:∀s c,DU tb s=some c->(∀f∈c.fs,f.ty.nm.ok)/\∀m∈c.ms,m.ret.nm.ok
section
variable{G:AQ}{H:Heap}{n t a b:Nat}{tb:Tab}{k:KV}{A:Nat->Prop}{l:LV}{c c':Tc}
abbrev ADH(hG:RN G)(h:TabAt G H n t a b tb)(hF:io tb)(hc:WP G H A l c)(R:∀id,A id->id<n/\id≠b)(d4:ASc c)(hl:DU tb c.nm=some (Ar c))(i0:Cj tb c.nm=0)(p4:Yy tb c=some c')
 (hk:∀H' n' l',Kb b H n H' n'->WP G H' (λid=>A id∨(n<=id/\id<n')) l' c'->k (.CV [.agg l',.agg [iN 0,iN 0,iN 0]]) H' n'):
 Runs F G mR [.ptr t 0,.agg l] H n k:=by
 refine go2 (yS Ae G) ?_;delta mN;obtain⟨k6,d5,rfl⟩:=d_.1 (show(lE tb c.nm c.ms).map (λS=>({c with ms:=S}:Tc))=some c' from p4);have i1:=h.bn;cases hc with
 |mk line col hf hm=>
 rename_i nm u fs S vf vm;have hl:DU tb nm=some (Ar ⟨nm,u,fs,S⟩):=hl;have i0:Cj tb nm=0:=i0;have d5:lE tb nm S=some k6:=d5;refine BE λH1 f1 g1=>?_;refine Ao rfl λH2 f2 g2=>?_;refine Ao rfl λH3 f3 g3=>?_;have T8:=(f1.trans f2).trans f3;have g1:=f3.get (f2.get g1 a6) a6;have g2:=f3.get g2 a6;have k7:TabAt G H3 n t a b tb:=h.kb ((T8.kb i1).low o_);rw[AP,AJ];refine AB (AK (off:=0+2) g1 (v:=nm.v) rfl) ?_;refine fV (s:=nm) k7 a6 λH4 n4 v f4 hv=>?_;rw[hl]at hv⊢;have hv:Jz G H4 n v (Ar ⟨nm,u,fs,S⟩):=hv;have u4:=f4.le;rw[OC,AJ,N4,AJ];obtain⟨uf,um,ws,i2,rfl⟩:=hv;have hv:Jz G H4 n (.agg [nm.v,u.v,uf,um]) (Ar ⟨nm,u,fs,S⟩):=⟨uf,um,ws,i2,rfl⟩;refine Ao rfl λH5 f5 g5=>?_;refine BX (L:=[nm.v,u.v,uf,um]) g5 rfl rfl a6 λH6 g6 s6=>?_;have k8:Kp H4 n4 H6 (n4+1):=⟨f5.le,λid d=>(s6 id a6).trans (f5.same id d)⟩;have b3:∀{H':Heap} {n':Nat},Kb b H3 (n+1+1+1) H' n'->T.get H' n=some (one (bm line col nm u vf vm))/\T.get H' (n+1)=some (one tcZ)/\T.get H' (n+2)=some (one [iN 0,iN 0,iN 0]):=
  λf=>⟨f.get g1 a6 a6,f.get g2 a6 a6,f.get g3 a6 a6⟩
 have i3:Kb b H3 (n+1+1+1) H6 (n4+1):=f4.trans (k8.kb a6);have mX:Kb b H n H6 (n4+1):=(T8.kb i1).trans i3;rw[Bw,AJ];show Ax (.bool false) false _ _;refine S9 (As (m:=4) g6 a6 rfl) (S9 (As (m:=6) (b3 i3).1 a6 rfl) (AFl ?_));have p5:WP G H6 A (bm line col nm u vf vm) ⟨nm,u,fs,S⟩:=.mk line col (hf.mono (λ_ h=>h) λid d=>mX.same id (R id d).1 (R id d).2) (hm.mono (λ_ h=>h) λid d=>mX.same id (R id d).1 (R id d).2);refine ATs p5.fc (λid d=>hN (R id d)) d4 λH7 n7 w f7 hw=>?_;have YE:=f7.le;have p6:=k8.trans f7;have p7:Ak (.agg [nm.v,u.v,uf,um]) (.agg [nm.v,u.v,uf,um])=true:=AGr λv hv=>by
  simp at hv;rcases hv with rfl|rfl|rfl|rfl
  .exact xf ..
  .exact xf ..
  .exact ARC i2.fs.el
  .exact ARC i2.ms.el
 refine AOP (As (m:=4) (f7.get g6 a6) a6 rfl) p7 (AFl ?_);have p8:Jz G H7 n7 (.agg [nm.v,u.v,uf,um]) (Ar ⟨nm,u,fs,S⟩):=(hv.ke (p6.ke.low a6)).up a6;refine AGl p8 (hw H7 n7 (λ_ _=>rfl) λid d=>d.2) λH8 n8 f8=>?_;refine S9 (Bw ..) (ah ?_);show AS (.bool false) _ _;rw[AZ];have u5:=f8.le;have i4:Kb b H3 (n+1+1+1) H8 n8:=i3.trans ((f7.trans f8).kb a6);have p9:TabAt G H8 n8 t a b tb:=(k7.kb (i4.AWh a6));rw[AJ];refine AB (AK (off:=0+2) (b3 i4).1 (v:=nm.v) rfl) ?_;refine APk (s:=nm) hG p9 hF.tl (λs c h m hm=>w_ (hF.ar s c h m hm) a6) λH9 U f9=>?_;rw[i0];have u6:=f9.le;refine AB (AGf .i64 0 0) ?_;show AS (.bool false) _ _;rw[AZ];have k9:=i4.trans f9;refine AB (As (m:=6) (b3 k9).1 a6 rfl) ?_;refine AB (v:=.agg (Kq.cells ⟨U,n,t,a,b,tb,line,col,nm,u,vf,vm⟩ ⟨0,0,(0,0),false,.AT,IY,.AT⟩ .AT 0)) rfl ?_;refine BE λd6 q0 i5=>?_;generalize hK:(⟨U,n,t,a,b,tb,line,col,nm,u,vf,vm⟩:Kq)=K at i5;have qy:K.kb=U:=by rw[<-hK]
 have i6:K.n0=n:=by rw[<-hK]
 have kt:K.t=t:=by rw[<-hK]
 have ka:K.a=a:=by rw[<-hK]
 have Z:K.b=b:=by rw[<-hK]
 have j8:K.tb=tb:=by rw[<-hK]
 have m0:K.cls=nm:=by rw[<-hK]
 have o:T1 G K:=⟨a6,by rw[kt,i6];exact h.tn,by rw[ka,i6];exact h.an,a6,by rw[j8];exact hF.ar,by rw[j8];exact hF.tn,by rw[j8];exact hF.tl,by rw[m0];exact d4.nm,hG⟩;have eX:Kb b H3 (n+1+1+1) d6 (U+1):=k9.trans (q0.kb a6);have i7:Kb b H n d6 (U+1):=(T8.kb i1).trans eX;have u7:ANJ d6 K:=⟨_,_,_,by rw[qy];exact i5⟩;obtain⟨cs,e1,-,-,-,e5,m1⟩:=hm;have q1:=m1.len;rw[AP,AJ];refine AB (AK (off:=0+5) (b3 eX).1 (v:=vm) rfl) ?_;have u8:S.length<20:=d4.lm;refine mG (e1.same (H':=d6) λid d=>i7.same id (R id (e5 id d)).1 (R id (e5 id d)).2) (λid d=>hN (R id (e5 id d))) a6 λv' q2 O d0 sk=>?_;have u1:=d0.le;have i8:Kb b H3 (n+1+1+1) q2 O:=eX.trans (d0.kb a6);rw[AJ];refine FK (off:=0+5) (m:=1) (v:=v') (b3 i8).1 sk.ok.1 (by rw[sk.ok.2.1];rfl) a6 (by show 0+5+1<=6;omega) λd7 d1 Y=>?_;rw[sk.ok.2.1]at d1;have d1:T.get d7 n=some (one (bm line col nm u vf v')):=d1;have m2:Sk d7 8 (λid=>U+1<=id/\id<O) v' cs:=sk.mono (λ_ h=>h) λid h=>Y id a6;rw[AJ];have q5:∀{H':Heap},T.get H' n=some (one (bm line col nm u vf v'))->AM (.ptr n (0+5)) G H'=some v':=λg=>AK (off:=0+5) g rfl;refine AB (q5 d1) ?_;have g0:=(m2.el (G:=G) a6).len;rw[q1]at g0;refine AB g0 ?_;have u2:=AFg d5;have q3:Kb b H n d7 O:=⟨a6,λid h1 h2=>(Y id a6).trans ((d0.same id a6).trans (i7.same id h1 h2)),λhs=>((i7.seen hs).same (d0.same _ a6)).same (Y _ a6)⟩;refine BL (N:=S.length) (J:=λj q=>∃H' n' ds,q=(.ptr n 0,.ptr (n+1) 0,.ptr (n+2) 0,.ptr U 0,v',iN S.length,iN j,H',n')/\Kb b H n H' n'/\ANJ H' K/\O<=n'/\
  T.get H' n=some (one (bm line col nm u vf v'))/\T.get H' (n+1)=some (one tcZ)/\T.get H' (n+2)=some (one [iN 0,iN 0,iN 0])/\
  Sk H' 8 (λid=>U+1<=id/\id<O) v' (ds++cs.drop j)/\JW G H' (λid=>A id∨(U+1<=id/\id<n'/\v'.CD≠some id)) ds (k6.take j)/\ds.length=j) ?_ ?_
  ⟨d7,O,[],rfl,q3,⟨_,_,_,by rw[qy];exact(Y U a6).trans (d0.get i5 a6)⟩,ea _,d1,(Y _ a6).trans (b3 i8).2.1,(Y _ a6).trans (b3 i8).2.2,m2,.nil,rfl⟩
 .rintro I j q i9 ⟨W,P,ds,rfl,E,d2,m3,x1,x2,x3,x,d8,d9⟩ ih;show IC lfp G (Runs F G) k I (.ptr n 0) (.ptr (n+1) 0) (.ptr (n+2) 0) (.ptr U 0) v' (iN S.length) (iN j) W P;delta IC;have k0:=JW.mono (H':=W) (λ_ h=>h) (λid d=>E.same id (R id d).1 (R id d).2) m1;have g4:=eb i9;have⟨lm,m4,f0⟩:=k0.at g4;have⟨m',q4,m5⟩:=AIf d5 g4;have m6:=d4.ms _ (f_ i9);generalize S[j]=m at f0 m5 m6;have⟨p,q6,q7⟩:=(x.el (G:=G) a6).at (i:=j) (c:=lm) (by rw[ACp d9];exact m4);rw[D9,AJ,ui i9,Ah];refine AB q6 (AB (BZ q7) ?_);refine Ao rfl λq8 m7 k1=>?_;refine BX k1 rfl f0.len a6 λQ k2 f6=>?_;have d3:Kp W P Q (P+1):=⟨m7.le,λid d=>(f6 id a6).trans (m7.same id d)⟩;rw[AP,AJ];refine AB (q5 (d3.get x1 a6)) (AB (As (m:=8) k2 a6 f0.len) ?_);have g7:Kb b H n Q (P+1):=E.trans (d3.kb a6);have k3:ANJ Q K:=by have⟨M,vv,all,g⟩:=d2;exact⟨M,vv,all,d3.get g a6⟩
  have m8:TabAt G Q K.n0 K.t K.a K.b K.tb:=by rw[i6,kt,ka,Z,j8];exact h.kb (g7.low o_)
  rw[show V.ptr U 0=.ptr K.kb 0 by rw[qy]];refine AJh (A:=A) o k3 m8 a6 (f0.mono (λ_ h=>h) λid d=>d3.same id (hN (R id d))) (λid d=>by have:=R id d;rw[Z];exact⟨a6,this.2⟩) m6 (by rw[j8,m0];exact m5) λm9 q9 l' k4 p0 g8=>?_;have u3:=k4.le;have X:∀id,id<P->id≠b->id≠U->T.get m9 id=T.get W id:=λid h1 h2 h3=>(k4.same id a6 (by rw[Z];exact h2) (by rw[qy];exact h3)).trans (d3.same id h1);have y1:=(X n a6 a6 a6).trans x1;refine AB (q5 y1) (Ba sk.ok.2.2 ?_);have p1:Sk m9 8 (λid=>U+1<=id/\id<O) v' (ds++cs.drop j):=x.mono (λ_ h=>h) λid h=>X id a6 a6 a6;have u0:j<(ds++cs.drop j).length:=by rw[uk,_Q];omega
  refine p1.put (i:=j) (w:=.agg l') a6 u0 rfl g8.len λp2 g9 y=>?_;rw[show At (.agg l')=l' from rfl,set_mid d9 m4]at g9;rw[CA a6,AJ];have C:∀id,id<U+1∨O<=id->v'.CD≠some id:=λid h e=>hN (sk.own e);have k5:E1 H b->E1 p2 b:=λhs=>by
   have z1:E1 Q K.b:=by rw[Z];exact g7.seen hs
   have z2:=k4.seen z1;rw[Z]at z2;exact z2.same (y _ (C _ (.inl a6)))
  rw[qy];refine ih _ ⟨p2,q9,ds++[l'],rfl,⟨hN E.le,λid h1 h2=>(y id (C id (.inl a6))).trans ((X id a6 h2 a6).trans (E.same id h1 h2)),k5⟩,?_,a6,(y _ (C _ (.inl a6))).trans y1,
   (y _ (C _ (.inl a6))).trans ((X _ a6 a6 a6).trans x2),(y _ (C _ (.inl a6))).trans ((X _ a6 a6 a6).trans x3),g9,?_,by rw[uk,d9];rfl⟩
  .obtain⟨M,vv,all,g⟩:=p0;exact⟨M,vv,all,(y _ (C _ (.inl a6))).trans g⟩
  .rw[take_snoc q4];refine(JW.mono (λid d=>?_) (λid d=>?_) d8).app (.cons (g8.mono (λid d=>?_) λid d=>?_) .nil)
   .rcases d with d|d
    .exact .inl d
    .exact .inr ⟨d.1,a6,d.2.2⟩
   .rcases d with d|d
    .have:=R id d;exact(y id (C id (.inl a6))).trans (X id a6 this.2 a6)
    .exact(y id d.2.2).trans (X id d.2.1 a6 a6)
   .rcases d with d|d
    .exact .inl d
    .exact .inr ⟨a6,d.2,C id (.inr a6)⟩
   .rcases d with d|d
    .have:=R id d;exact y id (C id (.inl a6))
    .exact y id (C id (.inr a6))
 .rintro I q ⟨W,P,ds,rfl,E,d2,m3,x1,x2,x3,x,d8,d9⟩;show IC lfp G (Runs F G) k I (.ptr n 0) (.ptr (n+1) 0) (.ptr (n+2) 0) (.ptr U 0) v' (iN S.length) (iN S.length) W P;delta IC;rw[D9,AJ,eg (m_ _),AZ];delta RB;have⟨M,vv,all,gk⟩:=d2;rw[qy]at gk;rw[BG,AJ,AP,AJ,CZ,AJ];refine AB (AK (off:=0+17) gk (v:=.int .i64 (.ofNat 0) 0) rfl) (AB (zN ..) ?_);show AS (.bool false) _ _;rw[AZ];refine AB (As (m:=6) x1 a6 rfl) ?_;refine AB (v:=.agg [iN 0,iN 0,iN 0]) rfl ?_;refine BX x2 rfl rfl a6 λq8 k1 p3=>?_;refine BX ((p3 (n+2) a6).trans x3) rfl rfl a6 λQ k2 f6=>?_;rw[By (m:=6) ((f6 (n+1) a6).trans k1) a6 rfl,By (m:=3) k2 a6 rfl];simp only[go_sem];rw[sw a6,qs]at x;rw[_d a6]at d8;have D:∀id,id≠n+1->id≠n+2->T.get Q id=T.get W id:=λid h1 h2=>(f6 id h2).trans (p3 id h1);refine hk Q P (bm line col nm u vf v') ⟨E.le,λid h1 h2=>(D id a6 a6).trans (E.same id h1 h2),λhs=>(E.seen hs).same (D _ a6 a6)⟩
   (.mk line col (hf.mono (λ_ h=>.inl h) λid d=>by have:=R id d;exact(D id a6 a6).trans (E.same id this.1 this.2)) ⟨ds,?_,x.ks,x.ok.1,x.ok.2.1,λid d=>?_,JW.mono (λid d=>?_) (λid d=>?_) d8⟩)
  .exact(x.mono (B:=λ_=>True) (λ_ _=>trivial) λid d=>D id a6 a6).el a6
  .have:=x.own d;exact .inr ⟨a6,a6⟩
  .rcases d with d|d
   .exact .inl d
   .exact .inr ⟨a6,d.2.1⟩
  .rcases d with d|d
   .have:=R id d;exact D id a6 a6
   .exact D id a6 a6
end
instance decOk(s:St):Decidable s.ok:=by unfold St.ok;infer_instance
abbrev AEL:∀(i:Nat) (d:aAv),(L3 i d).map BU.ty=d
 |_,[]=>rfl
 |i,t::l=>by show t::(L3 (i+1) l).map BU.ty=_;rw[AEL (i+1) l]
variable{q:Bk}
abbrev jU.sig{cls:St}(h:jU cls m q):Ip m=q:=by have⟨d,f,g,i,_⟩:=h;unfold Ip;rw[d,f,g,i,AEL]
abbrev jU.ok{cls:St}(h:jU cls m q)(i:q.nm.ok)(k:q.ret.nm.ok)(p:∀t∈q.ps,t.nm.ok)(u:q.ps.length<=1000):ADR m:=by have⟨v,x,w,d,_⟩:=h;refine⟨by rw[v];exact i,by rw[w];exact k,λf g=>?_,by rw[d,Zc];exact u⟩;rw[d]at g;exact p _ (Zu _ _ _ g).2
abbrev isA:GI (eZ BU.nm) rR=IK.fs:=o5
abbrev AYW:GI (eZ Bk.nm) [Hp,TO,IB,Xo]=IK.ms:=o5
abbrev AYV:GI (eZ Bk.nm) [Hp,IB]=[Hp,IB]:=o5
structure zZ(A B:Tc):Prop where
 fa:Ar A=IK
 fb:∃g s,Ar B=JJ g s
 na:A.nm=nA
 nb:B.nm=nB
 oa:ASc A
 ob:ASc B
 ga:∀m∈A.ms,bf nA m
 gb:∀m∈B.ms,bf nB m
abbrev sgG{cls:St}(h:jU cls m Hp):ADR m:=h.ok a_ a_ a_ a_
abbrev sgS{cls:St}(h:jU cls m TO):ADR m:=h.ok a_ a_ a_ a_
abbrev sgU{cls:St}(h:jU cls m IB):ADR m:=h.ok a_ a_ a_ a_
abbrev sgM{cls:St}(h:jU cls m Xo):ADR m:=h.ok a_ a_ a_ a_
variable{A:Tc}{B:Tc}
abbrev Made.w(h:Made A B):zZ A B:=by
 cases h with
 |mk g s C D E F p u=>
 rename_i H I J K d i;have L:∃g s,Ar ⟨nB,nA,eR,d++i⟩=JJ g s:=by
  refine⟨g,s,?_⟩;unfold Ar;cases g<;>cases s
  .obtain rfl:d=[]:=p;obtain rfl:i=[]:=u;rfl
  .obtain rfl:d=[]:=p;obtain⟨m,rfl,q⟩:=(show ∃m,i=[m]/\jU nB m IB from u);show(⟨nB,nA,eR,[Ip m]⟩:Fc)=_;rw[q.sig];rfl
  .obtain⟨m,rfl,q⟩:=(show ∃m,d=[m]/\jU nB m Hp from p);obtain rfl:i=[]:=u;show(⟨nB,nA,eR,[Ip m]⟩:Fc)=_;rw[q.sig];rfl
  .obtain⟨m,rfl,q⟩:=(show ∃m,d=[m]/\jU nB m Hp from p);obtain⟨m',rfl,M⟩:=(show ∃m,i=[m]/\jU nB m IB from u);show(⟨nB,nA,eR,GI (eZ Bk.nm) [Ip m,Ip m']⟩:Fc)=_;rw[q.sig,M.sig,AYV];rfl
 have v:∀m∈d++i,ADR m/\bf nB m:=by
  intro m k;rcases q_.1 k with k|k
  .cases g
   .obtain rfl:d=[]:=p;cases k
   .obtain⟨x,rfl,q⟩:=(show ∃m,d=[m]/\jU nB m Hp from p);cases ff.1 k;exact⟨sgG q,q.gd⟩
  .cases s
   .obtain rfl:i=[]:=u;cases k
   .obtain⟨x,rfl,q⟩:=(show ∃m,i=[m]/\jU nB m IB from u);cases ff.1 k;exact⟨sgU q,q.gd⟩
 have G:(d++i).length<20:=by
  rw[uk];have N:d.length<=1:=by
   cases g
   .obtain rfl:d=[]:=p;exact j_ _
   .obtain⟨x,rfl,q⟩:=(show ∃m,d=[m]/\jU nB m Hp from p);exact ea _
  have O:i.length<=1:=by
   cases s
   .obtain rfl:i=[]:=u;exact j_ _
   .obtain⟨x,rfl,q⟩:=(show ∃m,i=[m]/\jU nB m IB from u);exact ea _
  omega
 have y:∀m∈[H,I,J,K],ADR m/\bf nA m:=by
  intro m k;simp only[qk,_3,aAj]at k;rcases k with rfl|rfl|rfl|rfl
  .exact⟨sgG C,C.gd⟩
  .exact⟨sgS D,D.gd⟩
  .exact⟨sgU E,E.gd⟩
  .exact⟨sgM F,F.gd⟩
 refine⟨?_,L,rfl,rfl,⟨by show nA.ok;decide,by show St.ok (0,0);decide,by show ∀f∈rR,f.nm.ok/\f.ty.nm.ok;decide,λm h=>(y m h).1,by show 3<20;decide,by show 4<20;decide⟩,⟨by show nB.ok;decide,by show nA.ok;decide,by show ∀f∈eR,f.nm.ok/\f.ty.nm.ok;decide,λm h=>(v m h).1,by show 1<20;decide,G⟩,λm h=>(y m h).2,λm h=>(v m h).2⟩;show(⟨nA,(0,0),GI (eZ BU.nm) rR,GI (eZ Bk.nm) [Ip H,Ip I,Ip J,Ip K]⟩:Fc)=IK;rw[C.sig,D.sig,E.sig,F.sig,isA,AYW];rfl
abbrev AFh{f:Type}(s:Nat×Nat)(v:f):∀l:List ((Nat×Nat)×f),l.length<=(Sr s v l).length/\(Sr s v l).length<=l.length+1/\(DU l s=none->(Sr s v l).length=l.length+1)
 |[]=>⟨j_ _,ea _,λ_=>rfl⟩
 |p::l=>by
  have g:=AFh s v l;unfold Sr;by_cases e:p.1=s
  .have d:DU (p::l) s=some p.2:=by unfold DU;simp[e]
   rw[d];simp[e]
  .have d:DU (p::l) s=DU l s:=by unfold DU;simp[e]
   rw[d];rw[g_ e,j',j'];refine⟨a6,a6,λh=>by rw[g.2.2 h]⟩
abbrev io.mk'(i:tb.length<=1000)(h:∀s c,DU tb s=some c->(∀m∈c.ms,m.ps.length<=1000/\m.ret.nm.ok)/\∀f∈c.fs,f.ty.nm.ok):io tb:=⟨i,λs c d m g=>((h s c d).1 m g).1,λs c d=>⟨(h s c d).2,λm g=>((h s c d).1 m g).2⟩⟩
abbrev ASc.face{c:Tc}(h:ASc c):(∀m∈(Ar c).ms,m.ps.length<=1000/\m.ret.nm.ok)/\∀f∈(Ar c).fs,f.ty.nm.ok:=by
 refine⟨λm d=>?_,λf g=>?_⟩
 .have d:=Pa d;obtain⟨x,i,rfl⟩:=_c.1 d;have:=h.ms x i;exact⟨by show(x.ps.map BU.ty).length<=1000;rw[uc];exact this.ln,this.ret⟩
 .exact(h.fs f (Pa g)).2
abbrev AA9(h:zZ A B):TI (Ef ([A,B].map Ar))/\io (Ef ([A,B].map Ar))/\DU (Ef ([A,B].map Ar)) nA=some (Ar A)/\DU (Ef ([A,B].map Ar)) nB=some (Ar B):=by
 have f:(Ar A).nm=nA:=h.na;have i:(Ar B).nm=nB:=h.nb;have e:∀s,DU (Ef ([A,B].map Ar)) s=if nB=s then some (Ar B)else if nA=s then some (Ar A)else none:=by intro s;show DU (Sr (Ar B).nm (Ar B) (Sr (Ar A).nm (Ar A) [])) s=_;rw[AUi,AUi,f,i];rfl
 have v:(Ef ([A,B].map Ar)).length=2:=by show(Sr (Ar B).nm (Ar B) (Sr (Ar A).nm (Ar A) [])).length=2;rw[(AFh _ _ _).2.2 (by rw[AUi,f,i];rfl)];rfl
 have k:DU (Ef ([A,B].map Ar)) nA=some (Ar A):=by rw[e];rfl
 have m:DU (Ef ([A,B].map Ar)) nB=some (Ar B):=by rw[e];rfl
 refine⟨⟨by rw[k,h.fa],?_,a6⟩,io.mk' a6 λs c d=>?_,k,m⟩
 .obtain⟨g,s,u⟩:=h.fb;exact⟨g,s,by rw[m,u]⟩
 .rw[e]at d;by_cases p:nB=s
  .rw[hD p]at d;cases d;exact h.ob.face
  .rw[g_ p]at d;by_cases q:nA=s
   .rw[hD q]at d;cases d;exact h.oa.face
   .rw[g_ q]at d;cases d
section
variable{tb:Tab}(h:TI tb)
include h
abbrev TI.kn{t:Ty}(d:t=BY∨t=A3∨t=wN∨t=tA):BD tb t=true:=by
 rcases d with rfl|rfl|rfl|rfl
 .exact jX a_ a_
 .exact jX a_ a_
 .exact jX a_ a_
 .exact h.kA
abbrev TI.kms(d:q=Hp∨q=TO∨q=IB∨q=Xo):(q.ret::q.ps).all (BD tb)=true:=by rw[_A];intro t f;refine h.kn ?_;rcases d with rfl|rfl|rfl|rfl<;>(simp[Hp,TO,IB,Xo]at f;grind)
abbrev TI.AVO:ABt tb (0,0) q=false:=by unfold ABt Cq above;obtain⟨m,d⟩:∃m,tb.length=m+1:=⟨tb.length-1,hN h.two⟩;rw[d,pd];rfl
abbrev TI.AWX(d:q=Hp∨q=IB):ABt tb nA q=false:=by
 unfold ABt;rcases d with rfl|rfl
 .rw[h.AW6 (f:=Hp.nm) (st:=false) (m:=Hp) rfl];show(!Hp.st&& !Hp.same Hp)=false;decide
 .have:Cq tb nA IB.nm false=none:=by unfold Cq;rw[h.wZ];show(match Ht false IB.nm ((DU tb nA).getD Cf).ms with|some m=>some (nA,m)|none=>FP tb IB.nm false [])=none;rw[h.a];rfl
  rw[this]
abbrev TI.AX2:Cj tb nA=0:=by
 unfold Cj;rw[h.a,h.wZ];show(bif twice IK then(6:Int)else mO tb (0,0) (OB tb (0,0) IK.ms) IK.fs)=0;rw[show twice IK=false by decide];have g:OB tb (0,0) IK.ms=0:=by
  have p:∀l:aAF,(∀q∈l,q=Hp∨q=TO∨q=IB∨q=Xo)->OB tb (0,0) l=0:=by
   intro l;induction l with
   |nil=>intro _;rfl
   |cons q l i=>
    intro d;unfold OB;rw[h.kms (d q (u_ ..)),h.AVO,i λx k=>d x (c_ _ k)];rfl
  exact p _ λq d=>by simpa[IK]using(show q=Hp∨q=Xo∨q=TO∨q=IB by simpa[IK]using d) |>.elim .inl λh=>.inr (h.elim (λh=>.inr (.inr h)) λh=>h.elim .inl λh=>.inr (.inl h))
 have u:∀l:aAm,(∀f∈l,f.ty=BY∨f.ty=A3∨f.ty=wN∨f.ty=tA)->mO tb (0,0) 0 l=0:=by
  intro l;induction l with
  |nil=>intro _;rfl
  |cons q l i=>
   intro d;unfold mO;have v:[q.ty].all (BD tb)=true:=by show(BD tb q.ty&&true)=true;rw[h.kn (d q (u_ ..))];rfl
   have w:(QU tb (0,0) q.nm).isSome=false:=by unfold QU above;obtain⟨m,g⟩:∃m,tb.length=m+1:=⟨tb.length-1,hN h.two⟩;rw[g,pd];rfl
   rw[v,w,i λx k=>d x (c_ _ k)];rfl
 rw[g];exact u _ λf h=>by simp[IK]at h;rcases h with rfl|rfl|rfl<;>simp
abbrev TI.AYi:Cj tb nB=0:=by
 have⟨g,s,f⟩:=h.b;unfold Cj;rw[f,h.wb];show(bif twice (JJ g s)then(6:Int)else mO tb nA (OB tb nA (JJ g s).ms) (JJ g s).fs)=0;rw[show twice (JJ g s)=false by clear f;revert g s;decide];have i:OB tb nA (JJ g s).ms=0:=by
  have k:∀l:aAF,(∀q∈l,q=Hp∨q=IB)->OB tb nA l=0:=by
   intro l;induction l with
   |nil=>intro _;rfl
   |cons q l m=>
    intro d;unfold OB;rw[h.kms (by rcases d q (u_ ..)with h|h;exact .inl h;exact .inr (.inr (.inl h))),h.AWX (d q (u_ ..)),m λx p=>d x (c_ _ p)];rfl
  refine k _ λq d=>?_;clear f;cases g<;>cases s<;>simp[JJ]at d<;>simp[d]
 rw[i];show(bif !([A3].all (BD tb))then(23:Int)else bif (QU tb nA Jd).isSome then 6 else mO tb nA 0 [])=0;have u:[A3].all (BD tb)=true:=by show(BD tb A3&&true)=true;rw[h.kn (.inr (.inl rfl))];rfl
 have v:(QU tb nA Jd).isSome=false:=by unfold QU;rw[h.wZ];show(match QM Jd ((DU tb nA).getD Cf).fs with|some t=>some (nA,t)|none=>Xe tb Jd []).isSome=false;rw[h.a];rfl
 rw[u,v];rfl
abbrev TI.ck(w:zZ A B):(∃c,Yy tb A=some c)/\∃c,Yy tb B=some c:=by
 have⟨d,f⟩:=xv h w.ga;have⟨g,i⟩:=xv h w.gb;refine⟨⟨{A with ms:=d},?_⟩,⟨{B with ms:=g},?_⟩⟩
 .unfold Yy;rw[w.na,f];rfl
 .unfold Yy;rw[w.nb,i];rfl
end
end Go.RL
