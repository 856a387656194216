/- Part of a proof; nothing is assumed. -/
import Derived.Test.YtlhlldpfafhpbaaGreatDoorConJ
set_option linter.unusedVariables false
set_option linter.unusedSimpArgs false
namespace Go.RL
open Go.BN
set_option maxRecDepth 100000
def vz(G:AQ)(s:Tt):Prop:=∀(M:Gc) (W:Gw) (H:Heap) (n:Nat) (g g':Gn) (k:KV) (A:Nat->Prop) (l:LV) (th:Bool) (Γ:aAm),Gm M W G H n g->Vy G H A l s->Oa M W n A->s.cz<=20000->gy M.fs th Γ s->AQf M.fs s->vX M.fs s g=some g'->Oc M W G H n k g'->Runs F G db [.ptr M.bb 0,.agg l] H n k
def BSS(G:AQ)(s:aAt):Prop:=∀(M:Gc) (W:Gw) (H:Heap) (n:Nat) (g g':Gn) (k:KV) (A:Nat->Prop) (v:V) (cs:Bh) (th:Bool) (Γ:aAm),Gm M W G H n g->El G H v 9 cs->(∀id,v.CD=some id->A id)->FQ G H A cs s->Oa M W n A->F2 s<=20000->Rz M.fs th Γ s->ue M.fs s->FN M.fs s g=some g'->Oc M W G H n k (EB g.vars.length g')->Runs F G FM [.ptr M.bb 0,v] H n k
variable{tb:Tab}{th:Bool}{Γ:List BU}
abbrev AYI{Γ:aAm}:∀{s:Tt},gy tb th Γ s->1<=s.cz
 |.mk d nm ty es t el,h=>by
  have f:=wx es;simp only[Tt.cz];rcases h.2 with⟨_,h,_⟩|⟨_,h,_⟩|⟨_,h,_⟩
  .cases es with
   |nil=>exact h.elim
   |cons a l=>simp only[j']at f;omega
  .omega
  .omega
abbrev AJS:∀{l:aAt} {Γ:aAm},Rz tb th Γ l->l.length<=F2 l
 |[],_,_=>j_ _
 |s::l,_,h=>by have:=AYI h.1;have:=AJS h.2;simp only[F2,j'];omega
variable{M:Gc}{W:Gw}{W':Gw}{G:AQ}{H:Heap}{H':Heap}{n:Nat}{n':Nat}{A:Nat->Prop}
abbrev FQ.kg{cs:Bh}{es:aAt}(h:FQ G H A cs es)(f:Oa M W n A)(x:Kg M W H n W' H' n'):FQ G H' A cs es:=h.mono (λ_ h=>h) λ_ d=>f.same x d
variable{es:List Te}
abbrev ALo{Γ:aAm}{es:aAq}(h:qL tb Γ th es):∃kind num nm ty of own ks w,es=[.mk kind num nm ty of own ks,w]/\(kind=6∨kind=7∨kind=12):=by
 match es,h with
 |[.mk 6 _ _ _ _ _ _,_],_=>exact⟨_,_,_,_,_,_,_,_,rfl,.inl rfl⟩
 |[.mk 7 _ _ _ _ _ _,_],_=>exact⟨_,_,_,_,_,_,_,_,rfl,.inr (.inl rfl)⟩
 |[.mk 12 _ _ _ _ _ _,_],_=>exact⟨_,_,_,_,_,_,_,_,rfl,.inr (.inr rfl)⟩
section
variable{M:Gc}{W W' W'':Gw}{G:AQ}{H H' H'':Heap}{n n' n'':Nat}{p:Pool}{g g':Gn}{k:KV}{A:Nat->Prop}
abbrev ADn{s:aAt}(hx:∀e∈s,vz G e):BSS G s:=by
 intro M W H n g Y k A v cs Z Γ h he R L S D p d u hk;refine go2 (rQ Ae G) ?_;delta aS;have d0:=AJS p;have T:=(M5 jH p d _ _ u).2;refine AB (A0 ..) (AB (AP ..) (AB (h.uO (i:=4) rfl) ?_));refine AB (v:=nI g.vars.length) (by rw[(h.y.vr.el (G:=G) a6).len,uc]) ?_;refine AB (v:=nI s.length) (by rw[he.len,L.len]) ?_;refine BL (N:=s.length) (J:=λi q=>∃W' H' n' E w,q=(.ptr M.bb 0,nI g.vars.length,v,nI s.length,nI i,H',n')/\Gm M W' G H' n' E/\Kg M W H n W' H' n'/\FN M.fs (s.drop i) E=some Y/\Rz M.fs Z w (s.drop i)/\ue M.fs (s.drop i)/\F2 (s.drop i)<=20000) ?_ ?_ ⟨W,H,n,g,Γ,rfl,h,Kg.refl,u,p,d,D⟩
 .rintro I i q x ⟨W3,O,P,E,w,rfl,U,K,u,p,d,D⟩ ih;show Fo lfp G (Runs F G) k I (.ptr M.bb 0) (nI g.vars.length) v (nI s.length) (nI i) O P;delta Fo;have B:=eb x;have C:=f_ x;rw[uv x]at u p d D;generalize s[i]=e at B C u p d D;simp only[F2]at D;have⟨g2,p1,p2⟩:=ee.1 (show((vX M.fs e E).bind (FN M.fs (s.drop (i+1))))=some Y from u);have⟨l,l1,le⟩:=(L.kg S K).at B;have⟨r,hr,V⟩:=(he.same (H':=O) λQ f=>S.same K (R Q f)).at l1;rw[Bf,AJ,ui x,Ah];refine AB hr (AB (BZ V) ?_);refine Ao rfl λH4 f4 g4=>?_;refine BX g4 rfl le.len a6 λH5 g5 s5=>?_;refine AB (As (m:=9) g5 a6 le.len) ?_;have⟨h5,X⟩:=U.kp (H':=H5) (n':=P+1) ⟨f4.le,λQ f=>(s5 Q a6).trans (f4.same Q f)⟩;have PW:=S.kg K;refine hx e C M W3 H5 _ E g2 _ A l Z w h5 (le.mono (λ_ h=>h) λ_ f=>PW.same X f) (PW.kg X) a6 p.1 d.1 p1 λW6 H6 n6 h6 k6=>?_;rw[CA a6,AJ];exact ih _ ⟨W6,H6,n6,g2,_,rfl,h6,(K.trans X).trans k6,p2,p.2,d.2,a6⟩
 .rintro I q ⟨W3,O,P,E,w,rfl,U,K,u,p,d,D⟩;show Fo lfp G (Runs F G) k I (.ptr M.bb 0) (nI g.vars.length) v (nI s.length) (nI s.length) O P;delta Fo;rw[Bf,AJ,eg (m_ _),AZ];rw[sw o_]at u;cases u;exact ATJ U T (hk.kg K)
abbrev ASr(hG:RN G){f:Nat}{nm:St}{ty:Ty}{es:aAq}{t el:aAt}(ht:BSS G t)(f0:BSS G el):vz G (.mk f nm ty es t el):=by
 intro M W H n g g' k A l th Γ h hl ha hz hw f2 p hk;cases hl with
 |mk _ _ _ i0 i1 f3 e1 kt a1 st e2 kl a2 sl=>
 rename_i ve vt vl ct cl;have⟨ce,he,hv,_,_,f4,f5⟩:=f3;refine go2 (uB Ae G) ?_;delta dC;have kn:=h.a.kn;have i2:=h.bk;have d1:OG es+F2 t+F2 el<=20000:=by simp only[Tt.cz]at hz;omega
 have⟨d6,R,cU⟩:=(show xp M.fs es/\ue M.fs t/\ue M.fs el from f2);have S:=rG d6;refine BE λJ f1 b1=>?_;have⟨h1,k1⟩:=h.kp f1;have N:n<n+1/\W.o n=0/\n≠M.b:=⟨a6,h.a.hi _ a6,a6⟩;have d2:=he.same (H':=J) λid T=>ha.same k1 (f4 id T);have U:=f5.kg ha k1;have d7:=ha.kg k1;have E:=hk.kg k1;refine AB (A0 ..) (AB (AP ..) (AB (AP ..) (AB (h1.uO (i:=3) rfl) ?_)));refine AB (v:=nI g.code.length) (by rw[(h1.y.cd.el (G:=G) a6).len,uc]) ?_;refine AB (AP ..) (AB (AK (off:=0+0) b1 (v:=nI f) rfl) ?_);have⟨_,hw⟩:=(show OG es<=900/\_ from hw);have d8:∀{C:Gw} {u:Heap} {x:Nat} {gi gj:Gn} {K:KV},Rz M.fs th Γ t->Gm M C G u x gi->Kg M W J (n+1) C u x->FN M.fs t gi=some gj->Oc M C G u x K (EB gi.vars.length gj)->AD (AG 7 (.ptr n 0)) λv=>AD (AM v G u) λv=>Runs F G FM [.ptr M.bb 0,v] u x K:=λwt D q p hk=>by refine AB (AP ..) (AB (AK (off:=0+7) (q.get b1 N.1 N.2.1 N.2.2) (v:=vt) rfl) ?_);have I:=k1.trans q;exact ht M _ _ _ _ _ _ A vt ct th Γ D (e1.same λid T=>ha.same I (a1 id T)) a1 (st.kg ha I) (ha.kg I) a6 wt R p hk
 have f6:∀{C:Gw} {u:Heap} {x:Nat} {gi gj:Gn} {K:KV},Rz M.fs th Γ el->Gm M C G u x gi->Kg M W J (n+1) C u x->FN M.fs el gi=some gj->Oc M C G u x K (EB gi.vars.length gj)->AD (AG 8 (.ptr n 0)) λv=>AD (AM v G u) λv=>Runs F G FM [.ptr M.bb 0,v] u x K:=λwt D q p hk=>by refine AB (AP ..) (AB (AK (off:=0+8) (q.get b1 N.1 N.2.1 N.2.2) (v:=vl) rfl) ?_);have I:=k1.trans q;exact f0 M _ _ _ _ _ _ A vl cl th Γ D (e2.same λid T=>ha.same I (a2 id T)) a2 (sl.kg ha I) (ha.kg I) a6 wt cU p hk
 have one:∀{e:Te} {B:Gn} {Q:V->Heap->Nat->Prop},es=[e]->B9 M.fs e g=some B->(∀C u x,Gm M C G u x B->Kg M W J (n+1) C u x->Q (nI f) u x)->
  AD (AG 6 (.ptr n 0)) λv=>AD (AM v G J) λv=>AD (Ai 11 v (iN 0)) λv=>AD (AX 11 v G J) λv=>Runs F G DT [.ptr M.bb 0,v] J (n+1) λ_ H n'=>AD (AG 0 (.ptr n 0)) λv=>AD (AM v G H) λv=>Q v H n':=λ{e B Q} e0 f7 hq=>by subst e0;have⟨l0,l1,le⟩:=U.at (i:=0) rfl;have⟨r,hr,d3⟩:=d2.at l1;refine AB (AP ..) (AB (AK (off:=0+6) b1 (v:=ve) rfl) (AB hr (AB (BZ d3) ?_)));refine AJR hG e M W J _ g B _ A l0 h1 le d7 (by simp only[OG]at d1;omega) (S e o6) f7 λC u x D q=>?_;exact AB (AP ..) (AB (AK (off:=0+0) (q.get b1 N.1 N.2.1 N.2.2) (v:=nI f) rfl) (hq C u x D q))
 rcases(show(f=2/\qL M.fs Γ th es/\t=[]/\el=[])∨((f=1∨f=3∨f=6∨f=7)/\es.length=1/\UJ M.fs Γ th es/\t=[]/\el=[])∨((f=4∨f=5)/\es.length=1/\UJ M.fs Γ th es/\Rz M.fs th Γ t/\Rz M.fs th Γ el)from hw)with⟨rfl,f8,_,_⟩|⟨hd,hn,_,_,_⟩|⟨hd,hn,_,wt,we⟩
 .refine Ci ?_;have go:∀{kind num:Nat} {d0:St} {d4 of:Ty} {own:St} {ks:aAq} {w:Te},es=[.mk kind num d0 d4 of own ks,w]->(kind=6∨kind=7∨kind=12)->gx M.fs kind d0 of own ks w g=some g'->
   AD (AG 6 (.ptr n 0)) λv=>AD (AM v G J) λv=>AD (Ai 11 v (iN 0)) λv=>AD (AX 11 v G J) λf9=>AD (AG 6 (.ptr n 0)) λv=>AD (AM v G J) λv=>AD (Ai 11 v (iN 1)) λv=>AD (AX 11 v G J) λg0=>Runs F G Su [.ptr M.bb 0,f9,g0] J (n+1) λ_ H n=>k (.CV []) H n:=by intro kind num d0 d4 of own ks w e0 d5 g6;subst e0;have⟨l0,l1,le⟩:=U.at (i:=0) rfl;have⟨r,hr,d3⟩:=d2.at l1;have⟨i3,g7,g8⟩:=U.at (i:=1) rfl;have⟨r',g9,d9⟩:=d2.at g7;refine AB (AP ..) (AB (AK (off:=0+6) b1 (v:=ve) rfl) (AB hr (AB (BZ d3) ?_)));refine AB (AP ..) (AB (AK (off:=0+6) b1 (v:=ve) rfl) (AB g9 (AB (BZ d9) ?_)));exact AOJ hG h1 le g8 d7 (S _ o6) (S _ o6) (by simp only[OG,Te.cz]at d1;omega) (by simp only[OG]at d1;omega) d5 g6 E
  have⟨kind,num,d0,d4,of,own,ks,w,e0,d5⟩:=ALo f8;refine go e0 d5 ?_;subst e0;exact p
 .refine Bn a6 ?_;obtain⟨e,rfl⟩:=List.length_eq_one_iff.1 hn;rcases hd with rfl|rfl|rfl|rfl
  .obtain⟨B,X,p⟩:=ee.1 (show((B9 M.fs e g).bind λg=>(bE ⟨nm,ty⟩ g).bind λB=>BA 4 g.loc 0 1 B)=some g' from p);have⟨g2,L,p3⟩:=ee.1 p;refine one rfl X λC u x D q=>Ci ?_;have b3:=q.get b1 N.1 N.2.1 N.2.2;refine AB (AP ..) (AB (AK (off:=0+3) b3 (v:=nm.v) rfl) (AB (AP ..) ?_));refine AB (BV (m:=2) (off:=0+4) b3 a6 (by show 0+4+2<=9;omega)) ?_;refine AB (v:=.agg (RR ⟨nm,ty⟩)) rfl ?_;refine AMX D L λW4 H4 n4 h4 k4=>?_;exact Ge (d:=.negSucc 0) h4 p3 a_ rfl λW5 H5 n5 Y O=>E W5 H5 n5 Y ((q.trans k4).trans O)
  .obtain⟨B,X,L⟩:=ee.1 (show((B9 M.fs e g).bind (BA 31 0 0 1))=some g' from p);refine one rfl X λC u x D q=>Bn a_ (Ci ?_);exact Ge (d:=.negSucc 0) D L a_ rfl λW5 H5 n5 Y O=>E W5 H5 n5 Y (q.trans O)
  .obtain⟨B,X,L⟩:=ee.1 (show((B9 M.fs e g).bind (BA 29 0 0 1))=some g' from p);refine one rfl X λC u x D q=>Bn a_ (Bn a_ (Bn a_ (Ci ?_)));exact Ge (d:=.negSucc 0) D L a_ rfl λW5 H5 n5 Y O=>E W5 H5 n5 Y (q.trans O)
  .obtain⟨B,X,L⟩:=ee.1 (show((B9 M.fs e g).bind (BA 30 0 0 1))=some g' from p);refine one rfl X λC u x D q=>Bn a_ (Bn a_ (Ci ?_));exact Ge (d:=.negSucc 0) D L a_ rfl λW5 H5 n5 Y O=>E W5 H5 n5 Y (q.trans O)
 .refine Bn a6 ?_;obtain⟨e,rfl⟩:=List.length_eq_one_iff.1 hn;rcases hd with rfl|rfl
  .obtain⟨B,X,p⟩:=ee.1 (show((B9 M.fs e g).bind λg=>(BA 28 0 0 1 g).bind λB=>(FN M.fs t B).bind λg2=>(BA 27 0 0 0 (EB B.vars.length g2)).bind λP=>(FN M.fs el (DP g.code.length P)).bind λZ=>some (DP g2.code.length (EB P.vars.length Z)))=some g' from p);have⟨g2,L,p⟩:=ee.1 p;have⟨P,p3,p⟩:=ee.1 p;have⟨Z,p4,p⟩:=ee.1 p;have⟨g5,p5,p⟩:=ee.1 p;cases p;have c2:=jq L;have c3:=(M5 jH wt R _ _ p3).1;have c4:Z.code.length=P.code.length+1:=jq (g:=EB g2.vars.length P) p4;have c5:=(M5 jH we cU _ _ p5).1;have c5:(TJ Z.code B.code.length Z.code.length).length<=g5.code.length:=c5;have c6:(TJ Z.code B.code.length Z.code.length).length=Z.code.length:=H_;refine one rfl X λC u x D q=>?_;iterate 5 refine Bn a_ ?_
   refine Ci ?_;refine nS (d:=.negSucc 0) D L a_ rfl λW4 H4 n4 h4 k4=>?_;refine d8 wt h4 (q.trans k4) p3 λW5 H5 n5 Y O=>?_;refine nS (d:=0) Y p4 a_ rfl λW6 H6 n6 h6 k6=>?_;refine px h6 a6 λH7 h7 k7=>?_;refine f6 we h7 (((q.trans k4).trans (O.trans k6)).trans k7) p5 λW8 H8 n8 h8 k8=>?_;refine px (i:=P.code.length) h8 (by show P.code.length<g5.code.length;omega) λH9 h9 k9=>?_;exact E W8 H9 n8 h9 ((((q.trans k4).trans (O.trans k6)).trans (k7.trans k8)).trans k9)
  .obtain⟨B,X,p⟩:=ee.1 (show((B9 M.fs e g).bind λg'=>(BA 28 0 0 1 g').bind λB=>(FN M.fs t B).bind λg2=>(BA 27 g.code.length 0 0 (EB B.vars.length g2)).bind λP=>some (DP g'.code.length P))=some g' from p);have⟨g2,L,p⟩:=ee.1 p;have⟨P,p3,p⟩:=ee.1 p;have⟨Z,p4,p⟩:=ee.1 p;cases p;have c2:=jq L;have c3:=(M5 jH wt R _ _ p3).1;have c4:Z.code.length=P.code.length+1:=jq (g:=EB g2.vars.length P) p4;refine one rfl X λC u x D q=>?_;iterate 4 refine Bn a_ ?_
   refine Ci ?_;refine nS (d:=.negSucc 0) D L a_ rfl λW4 H4 n4 h4 k4=>?_;refine d8 wt h4 (q.trans k4) p3 λW5 H5 n5 Y O=>?_;refine nS (d:=0) Y p4 a_ rfl λW6 H6 n6 h6 k6=>?_;refine px h6 a6 λH7 h7 k7=>?_;exact E W6 H7 n6 h7 (((q.trans k4).trans (O.trans k6)).trans k7)
mutual
theorem AVg(hG:RN G):∀s:Tt,vz G s
 |.mk _ _ _ _ t el=>ASr hG (ADn (AB0 hG t)) (ADn (AB0 hG el))
theorem AB0(hG:RN G):∀l:aAt,∀e∈l,vz G e
 |[],_,he=>by cases he
 |x::l,e,he=>(qk.1 he).elim (λq=>q▸AVg hG x) λq=>AB0 hG l e q
end
end
abbrev B0:Gb:=⟨.AT,.AT,.AT⟩
structure cP(M:Gc)(o:Nat->Nat)(P:Gp)(G:AQ)(H:Heap)(n:Nat)(p:Pool):Prop where
 a:Ga M o G H n
 k:Gk M o P G H n p
 nt:∀id,o id≠2/\o id<9
variable{d:Gc}
abbrev Ga.to{o:Nat->Nat}(h:Ga M o G H n)(e:d.kb=M.kb/\d.t=M.t/\d.a=M.a/\d.b=M.b/\d.fs=M.fs):Ga d o G H n:=by have⟨f,i,k,m,g⟩:=e;exact⟨by rw[f];exact h.kn,by rw[f];exact h.lo,h.hi,by rw[f,i,k,m,g];exact h.tab,by rw[g];exact h.fl⟩
abbrev Gk.to{o:Nat->Nat}{P:Gp}{p:Pool}(h:Gk M o P G H n p)(e:d.kb=M.kb/\d.mb=M.mb/\d.mc P=M.mc P):Gk d o P G H n p:=by have⟨g,f,i⟩:=e;exact⟨by rw[f];exact h.mb,by rw[f,i];exact h.box,h.s0,h.s1,h.s2,h.s3,h.s4,h.wl,by rw[g];exact h.wt,h.sz⟩
variable{v:V}{l:LV}
section
variable{M:Gc}{W W' W'':Gw}{o:Nat->Nat}{P:Gp}{G:AQ}{H H' H'':Heap}{n n' n'':Nat}{p p':Pool}{g g':Gn}{k:KV}{A:Nat->Prop}
abbrev ASd{ps:aAm}{v1 v2:V}{B:Gn}(h:Gm M W G H n g)(Q:El G H v 3 (ps.map RR))(D:∀id,v.CD=some id->A id)(R:Oa M W n A)(hl:ps.length<=1000)(d:dE ps g=some B)
 (S:∀W' H' n',Gm M W' G H' n' B->Kg M W H n W' H' n'->HV lfp G (Runs F G) k v1 v2 (.ptr M.bb 0) H' n'):
 lfp (V×V×V×V×V×V×Heap×Nat) (Jc lfp G (Runs F G) k) (v1,v2,.ptr M.bb 0,v,nI ps.length,nI 0,H,n):=by
 refine BL (N:=ps.length) (J:=λi q=>∃W' H' n' w,q=(v1,v2,.ptr M.bb 0,v,nI ps.length,nI i,H',n')/\Gm M W' G H' n' w/\Kg M W H n W' H' n'/\dE (ps.drop i) w=some B) ?_ ?_ ⟨W,H,n,g,rfl,h,Kg.refl,d⟩
 .rintro I i q p ⟨O,x,y,w,rfl,E,C,d⟩ T;show EX lfp G (Runs F G) k I v1 v2 (.ptr M.bb 0) v (nI ps.length) (nI i) x y;delta EX;have f:=eb p;rw[uv p]at d;generalize ps[i]=e at f d;have⟨U,X,Y⟩:=ee.1 (show((bE e w).bind (dE (ps.drop (i+1))))=some B from d);have⟨r,Z,K⟩:=(Q.same (H':=x) λid u=>R.same C (D id u)).at (i:=i) (c:=RR e) (by rw[pe,f];rfl);rw[Bf,AJ,ui p,Ah];refine AB Z (AB (BZ K) ?_);refine Ao rfl λH4 P g4=>?_;refine BX g4 rfl rfl a6 λH5 g5 s5=>?_;refine AB (As (m:=3) (L:=RR e) g5 a6 rfl) ?_;have⟨h5,k5⟩:=E.kp (H':=H5) (n':=y+1) ⟨P.le,λid u=>(s5 id a6).trans (P.same id u)⟩;refine AMX h5 X λW6 H6 n6 h6 k6=>?_;rw[CA a6,AJ];exact T _ ⟨W6,H6,n6,U,rfl,h6,(C.trans k5).trans k6,Y⟩
 .rintro I q ⟨O,x,y,w,rfl,E,C,d⟩;show EX lfp G (Runs F G) k I v1 v2 (.ptr M.bb 0) v (nI ps.length) (nI ps.length) x y;delta EX;rw[Bf,AJ,eg (m_ _),AZ];rw[sw o_]at d;cases d;exact S O x y E C
abbrev AUC(hG:RN G){m:Tm}{b:Bd}(h:cP M o P G H n p)(hl:lQ G H A l m)(ha:Oa M ⟨o,P,B0⟩ n A)(hw:Rz M.fs (!m.st) m.ps m.body)(ho:ue M.fs m.body)(hz:F2 m.body<=20000)(d1:m.ps.length<=1000)(R:U8 M.fs m p=some (b,p'))
 (hk:∀C P' H' n' vc,cP M C P' G H' n' p'->Kg M ⟨o,P,B0⟩ H n ⟨C,P',B0⟩ H' n'->Sk H' 2 (λid=>n<=id/\id<n'/\C id=0) vc (b.code.map Ins.cells)->b.code.length<=20000->k (.agg (b.cells vc)) H' n'):Runs F G Ve [.ptr M.mb 0,.agg l] H n k:=by
 cases hl with
 |mk d5 d6 K d2=>
 rename_i nm st ty ps bd vp vb;have⟨cb,he,_,_,_,U,d3⟩:=d2;refine go2 (lj Ae G) ?_;delta VX;have kn:=h.a.kn;have d7:M.b<M.kb:=h.a.tab.bn;unfold U8 at R;have⟨g1,p1,R⟩:=ee.1 R;have⟨g2,p2,R⟩:=ee.1 R;have⟨g3,p3,R⟩:=d_.1 R;cases R;refine BE λH1 f1 S=>?_;refine Ao rfl λH2 f2 b2=>?_;have S:=f2.get S a6;refine AB (AP ..) (AB (BV (m:=2) (off:=0+5) S a6 (by show 0+5+2<=8;omega)) ?_);refine AB (v:=.agg [.ptr M.mb 0,nI 0,nI 0,.AT,.AT,.AT,nI 0,ty.nm.v,.bool ty.arr]) rfl ?_;refine BE λE f3 b3=>?_;have S:=f3.get S a6;have b2:=f3.get b2 a6;have N:Kp H n E (n+1+1+1):=f1.trans (f2.trans f3);obtain⟨f,hM⟩:∃f:Gc,f={M with bb:=n+1+1,ret:=ty}:=⟨_,rfl⟩;obtain⟨u,hW⟩:∃u:Gw,u=⟨λid=>if id=n+1+1 then 2 else o id,P,B0⟩:=⟨_,rfl⟩;have o1:u.o (n+1+1)=2:=by rw[hW];exact hD rfl
 have Z:∀id,id≠n+1+1->u.o id=o id:=λid q=>by rw[hW];exact g_ q
 have wP:u.P=P:=by rw[hW]
 have wB:u.B=B0:=by rw[hW]
 have m1:f.bb=n+1+1/\f.ret=ty/\f.mb=M.mb/\f.kb=M.kb/\f.fs=M.fs/\f.b=M.b/\f.t=M.t/\f.a=M.a/\f.mc=M.mc:=by rw[hM];exact⟨rfl,rfl,rfl,rfl,rfl,rfl,rfl,rfl,rfl⟩
 have⟨m1,m2,m3,m4,m5,W,m7,m8,m9⟩:=m1;have X:Kb M.b H n E (n+1+1+1):=N.kb a6;have h0:Gm f u G E (n+1+1+1) ⟨p,[],0,0,0,[],[]⟩:=by
  refine⟨(h.a.mono (o':=u.o) a6 (λid d=>Z id a6) (λid d=>(Z id a6).trans (h.a.hi id a6)) (X.low kn)).to ⟨m4,m7,m8,W,m5⟩,?_,?_⟩
  .rw[wP];exact(h.k.mono (o':=u.o) a6 (λid d=>Z id a6) ((X.low kn).ke h.a.seen) λid h1 _ _ _=>N.same id h1).to ⟨m4,m3,by rw[m9]⟩
  .rw[wB];refine⟨by rw[m1];exact⟨a6,o1⟩,?_,.nil,.nil,.nil,rfl,j_ _,j_ _,j_ _,ea _,ea _⟩;rw[m1,b3];unfold Gc.bc;rw[m2,m3]
 have k0:Kg M ⟨o,P,B0⟩ H n u E (n+1+1+1):=⟨a6,λid d=>Z id a6,λid h1 _ h3=>N.same id h1,X.seen⟩;have D:n<n+1+1+1/\u.o n=0/\n≠f.b:=⟨a6,(Z _ a6).trans (h.a.hi _ a6),by rw[W];omega⟩;have I:n+1<n+1+1+1/\u.o (n+1)=0/\n+1≠f.b:=⟨a6,(Z _ a6).trans (h.a.hi _ a6),by rw[W];omega⟩;have cv:∀{W':Gw} {H':Heap} {n':Nat},Kg f u E (n+1+1+1) W' H' n'->Kg M u E (n+1+1+1) W' H' n':=λx=>⟨x.le,x.own,by have:=x.zero;rw[W]at this;exact this,by have:=x.seen;rw[W]at this;exact this⟩;have PW:Oa f u (n+1+1+1) A:=λid d=>by have⟨q1,q2,q3⟩:=ha.kg k0 id d;exact⟨q1,q2,by rw[W];exact q3⟩
 have w:∀id,A id->T.get E id=T.get H id:=λid d=>N.same id (ha id d).1;have rest:∀{W1:Gw} {H4:Heap} {n4:Nat} {gi:Gn},Gm f W1 G H4 n4 gi->Kg f u E (n+1+1+1) W1 H4 n4->dE ps gi=some g1->FA lfp G (Runs F G) k (.ptr n 0) (.ptr (n+1) 0) (.ptr (n+1+1) 0) H4 n4:=by
  intro W1 H4 n4 gi h4 k4 q1;delta FA;refine AB (AP ..) (AB (AK (off:=0+4) (k4.get S D.1 D.2.1 D.2.2) (v:=vp) rfl) ?_);have ev:=(K.1.same (H':=E) λid d=>w id (K.2.2.2.2 id d)).same (H':=H4) λid d=>PW.same k4 (K.2.2.2.2 id d);refine AB (v:=nI ps.length) (by rw[ev.len,uc]) ?_;rw[<-m1];refine ASd h4 ev (λid d=>K.2.2.2.2 id d) (PW.kg k4) d1 q1 λW5 H5 n5 h5 k5=>?_;have J:=k4.trans k5;delta HV;refine AB (AP ..) (AB (AK (off:=0+7) (J.get S D.1 D.2.1 D.2.2) (v:=vb) rfl) ?_);refine ADn (AB0 hG bd) f W5 H5 n5 g1 g2 _ A vb cb (!st) ps h5 ((he.same (H':=E) λid d=>w id (U id d)).same (H':=H5) λid d=>PW.same J (U id d)) U ((d3.mono (H':=E) (λ_ h=>h) w).kg PW J) (PW.kg J) hz (by rw[m5];exact hw) (by rw[m5];exact ho) (by rw[m5];exact p2) λW6 H6 n6 h6 k6=>?_;refine AWg h6 (by rw[m2];exact p3) λg H7 n7 h7 k7=>?_;have O:=(J.trans k6).trans k7;have d4:=O.get b2 I.1 I.2.1 I.2.2;have d8:=O.le;refine AB (A0 ..) (AB (AP ..) (AB (BV (m:=3) (off:=0+1) h7.y.box a6 (by show 0+1+3<=9;omega)) ?_));refine BX (L:=[nI g3.loc,nI g3.stk,g.B.vc]) d4 rfl rfl a6 λH8 b8 s8=>?_;have ob:g.o (n+1)=0:=(O.own _ I.1).trans I.2.1;have h8:=h7.AH3 (i:=n+1) ob (by rw[m4];omega) s8;rw[By (m:=3) b8 a6 rfl];show k (.agg [nI g3.loc,nI g3.stk,g.B.vc]) H8 n7;have k8:=(k0.trans (cv O)).AH3 (i:=n+1) a6 a6 s8;obtain⟨C,Y⟩:∃C:Nat->Nat,C=λid=>if id<n then o id else if 3<=g.o id/\g.o id<=7 then g.o id else 0:=⟨_,rfl⟩
  have x1:∀id,id<n->C id=o id:=λid d=>by rw[Y];exact hD d
  have x2:∀id,n<=id->3<=g.o id->g.o id<=7->C id=g.o id:=λid h1 h2 h3=>by rw[Y];show(if _ then _ else if _ then _ else _)=_;rw[g_ a6,hD ⟨h2,h3⟩]
  have x3:∀id,n<=id->¬(3<=g.o id/\g.o id<=7)->C id=0:=λid h1 h2=>by rw[Y];show(if _ then _ else if _ then _ else _)=_;rw[g_ a6,g_ h2]
  have x4:∀id,id<n->g.o id=o id:=λid d=>k8.own id d;have hA:∀j,3<=j->j<=7->∀id,id<n7/\g.o id=j->id<n7/\C id=j:=λj h1 h2 id d=>⟨d.1,by
   by_cases q:id<n
   .rw[x1 id q,<-x4 id q];exact d.2
   .rw[x2 id a6 a6 a6];exact d.2⟩
  have d0:=h.k.mb;have q:=h8.k;have gs:cP M C g.P G H8 n7 g3.p:=by
   refine⟨⟨a6,λid d=>(x1 id a6).trans (h.a.lo id d),λid d=>x3 id a6 (by rw[h8.a.hi id d];omega),by have:=h8.a.tab;rw[m4,m5,W,m7,m8]at this;exact this,h.a.fl⟩,?_,λid=>?_⟩
   .refine⟨⟨a6,(x1 _ d0.1).trans d0.2⟩,by have:=q.box;rw[m3,m9]at this;exact this,q.s0.mono (hA 3 a6 a6) λ_ _=>rfl,q.s1.mono (hA 4 a6 a6) λ_ _=>rfl,q.s2.mono (hA 5 a6 a6) λ_ _=>rfl,q.s3.mono (hA 6 a6 a6) λ_ _=>rfl,q.s4.mono (hA 7 a6 a6) λ_ _=>rfl,q.wl,by have:=q.wt;rw[m4]at this;exact this,q.sz⟩
   .by_cases q:id<n
    .rw[x1 id q];exact h.nt id
    .by_cases q2:3<=g.o id/\g.o id<=7
     .rw[x2 id a6 q2.1 q2.2];omega
     .rw[x3 id a6 q2];omega
  refine hk C g.P H8 n7 g.B.vc gs ⟨k8.le,x1,k8.zero,k8.seen⟩ (h8.y.cd.mono (λid d=>?_) λ_ _=>rfl) h8.y.sz.1;have hn:n<=id:=by
   rcases _O id n with q|q
   .have:=x4 id q;have:=(h.nt id).2;omega
   .exact q
  exact⟨hn,d.1,x3 id hn a6⟩
 refine AB (AP ..) (AB (AK (off:=0+3) S (v:=.bool st) rfl) ?_);cases st with
 |true=>
  rw[Bw,AJ];exact rest h0 Kg.refl p1
 |false=>
  rw[Bw,AJ];refine(show ∀P Q:Prop,P->AS (.bool (!false)) P Q from λP Q h=>h) _ _ ?_;refine AB (A0 ..) (AB (AP ..) (AB (AP ..) ?_));rw[show V.ptr (n+1+1) (0+1+0)=.ptr f.bb (0+1+0)by rw[m1]];refine h0.zb (i:=0+1+0) (v:=nI 1) (g':=⟨p,[],0,1,0,[],[]⟩) ⟨rfl,rfl,rfl,rfl⟩ rfl rfl a_ rfl ⟨show 1<=20000 by decide,j_ _,j_ _⟩ λH4 h4 k4=>?_;exact rest h4 k4 p1
end
structure Mx where
 a:V
 b:V
 c:V
 d:V
 e:V
 f:V
 g:V
def cC(p:Tm×Mx):LV:=[p.2.a,p.2.b,p.1.nm.v,p.2.c,p.2.d,p.2.e,p.2.f,p.2.g]
def cD(p:Tm×Mx):St:=p.1.nm
variable{k:KV}
section
variable{G:AQ}
abbrev ALE{x y:Tm×Mx}(f:∀H' n',Kp H n H' n'->k (.int .i64 (lY (cD x) (cD y)) 0) H' n'):Runs F G Y4 [.agg (cC x),.agg (cC y)] H n k:=by refine go2 (z0 Ae G) ?_;delta mL;refine BE λp g i=>?_;refine BE λq d m=>?_;rw[AP,AJ];refine AB (AK (off:=0+2) (d.get i a6) (v:=(cD x).v) rfl) ?_;rw[AP,AJ];refine AB (AK (off:=0+2) m (v:=(cD y).v) rfl) ?_;exact sR (f _ _ (g.trans d))
abbrev AJ8{xs:List (Tm×Mx)}(h:Sk H 8 A v (xs.map cC))(d:∀id,v.CD=some id->id<n)(g:xs.length<20)
 (i:∀H' n',n<=n'->Sk H' 8 A v ((GI (eZ cD) xs).map cC)->(∀id,id<n->v.CD≠some id->T.get H' id=T.get H id)->k (.CV []) H' n'):
 Runs F G D2 [v,.fn Y4 [] []] H n k:=by refine go2 (Ic Ae G) ?_;delta D4;exact ACz (nm:=cD) (cl:=cC) (f:=.fn Y4 [] []) a_ (λ_=>rfl) (λ_ _ _ _ _ h=>ALE h) (Ky Ae G) (O8 Ae G) h d g i
end
abbrev AMM:∀{cs:Bh} {ms:aAz},JW G H A cs ms->∃xs:List (Tm×Mx),xs.map cC=cs/\xs.map Prod.fst=ms/\∀p∈xs,lQ G H A (cC p) p.1
 |_,_,.nil=>⟨[],rfl,rfl,λ_ h=>by cases h⟩
 |_,_,.cons h t=>by
  have⟨xs,k,m,q⟩:=AMM t;cases h with
  |mk d g u w=>
   rename_i x st i y B C D;refine⟨(⟨x,st,y,i,B⟩,⟨nI d,nI g,.bool st,C,i.nm.v,.bool i.arr,D⟩)::xs,by rw[rl,k];rfl,by rw[rl,m],λp f=>?_⟩;rcases qk.1 f with rfl|f
   .exact .mk d g u w
   .exact q p f
abbrev Kg.to(x:Kg M W H n W' H' n')(e:d.b=M.b):Kg d W H n W' H' n':=⟨x.le,x.own,by rw[e];exact x.zero,by rw[e];exact x.seen⟩
abbrev uY{s:St}(h:Ia s=true):s.ok:=by unfold Ia at h;rw[ez]at h;have d:=h.1;unfold upper at d;rw[ez]at d;intro e;have:=kh d.1;omega
abbrev ASS{m:PM}(h:bO tb m):m.m.nm.ok/\m.m.ret.nm.ok/\m.own.ok:=by have⟨⟨d,g⟩,_⟩:=h;unfold gH at d;rw[ez]at d;refine⟨g,?_,uY d.1⟩;have f:=d.2;unfold ABV Oo at f;simp only[ez]at f;exact ii f.2.2.1
abbrev AT3{f:PF}(h:sJ tb f):f.f.nm.ok/\f.f.ty.nm.ok/\f.own.ok:=by have⟨⟨d,g⟩,_⟩:=h;refine⟨g,ii (AI9 d),?_⟩;unfold xh at d;rw[ez]at d;exact uY d.1
variable{ws:List V}{q:Nat}{f:Fl}{n0:Nat}{R:Nat->Prop}{r:Nat}{ns:Nat}
section
variable{M:Gc}{o:Nat->Nat}{P:Gp}{G:AQ}{H H':Heap}{n n':Nat}{p:Pool}{k:KV}{A:Nat->Prop}
abbrev Gk.ATg(h:Gk M o P G H n p)(kn:M.kb<=n)(u:pR M.fs p):Kr G H n p P.v0 P.v1 P.v2 P.v3 P.v4 P.ws:=by
 have k:=h.sz;unfold SW at k;have q:∀{x:Nat},x<=20000->x<big:=λh=>by unfold big;omega
 refine⟨h.s0.el a6,λv d=>(h.s0.own d).1,q k.1,h.s1.el a6,λv d=>(h.s1.own d).1,q k.2.1,λs g=>uY (u.c s g).1,⟨h.s2.el a6,λv d=>(h.s2.own d).1,q k.2.2.1,λt g=>ii (Jv (u.t t g))⟩,
  h.s3.el a6,λv d=>(h.s3.own d).1,q k.2.2.2.1,λf g=>AT3 (u.f f g),h.s4.el a6,λv d=>(h.s4.own d).1,q k.2.2.2.2,h.wl,λi m w a b=>(h.wt i m w a b).kp ⟨kn,λ_ _=>rfl⟩,λm g=>ASS (u.m m g)⟩
structure kf(G:AQ)(H:Heap)(n q:Nat)(o:Nat->Nat)(vb:V)(bs:List Bd)(ws:List V):Prop where
 sk:Sk H 3 (λid=>q<=id/\id<n/\o id=0) vb (List.zipWith Bd.cells bs ws)
 ln:ws.length=bs.length
 cd:∀(i:Nat) (b:Bd) (w:V),bs[i]? =some b->ws[i]? =some w->El G H w 2 (b.code.map Ins.cells)/\(∀id,w.CD=some id->q<=id/\id<n/\o id=0/\vb.CD≠some id)/\b.code.length<=20000
abbrev kf.mono{o':Nat->Nat}{vb:V}{bs:List Bd}{ws:aAo}(h:kf G H n q o vb bs ws)(x:n<=n')(f:∀id,id<n->o' id=o id)(e:∀id,id<n->o id=0->q<=id->T.get H' id=T.get H id):kf G H' n' q o' vb bs ws:=
 ⟨h.sk.mono (λid d=>⟨d.1,a6,(f id d.2.1).trans d.2.2⟩) λid d=>e id d.2.1 d.2.2 d.1,h.ln,λi b w g k=>by
  have⟨q1,q2,q3⟩:=h.cd i b w g k;exact⟨q1.same λid d=>e id (q2 id d).2.1 (q2 id d).2.2.1 (q2 id d).1,λid d=>by have⟨m,p,u,v⟩:=q2 id d;exact⟨m,a6,(f id p).trans u,v⟩,q3⟩⟩
abbrev Gc.fc(M:Gc)(P:Gp):LV:=[M.f0,M.f1,M.f2,M.f3,P.v0,P.v1,P.v2,P.v3,P.v4,M.vb]
abbrev AIl{ws:aAo}(h:Gk M o P G H n f.pool)(kn:M.kb<=n)(k:kf G H n q o M.vb f.bodies ws)(y:pR M.fs f.pool)(L:f.bodies.length<=1000)(m:Jz G H n (.agg [M.f0,M.f1,M.f2,M.f3]) f.face):∃ms,tg G H n (M.fc P) f M.f2 M.f3 P.v0 P.v1 P.v2 P.v3 P.v4 M.vb ms P.ws ws:=by
 have d:∀{x:Nat},x<=20000->x<big:=λh=>by unfold big;omega
 have A:OY G H n M.vb f.bodies ws:=⟨k.sk.el a6,λu g=>(k.sk.own g).2.1,d a6,k.ln,λi b w B C=>by have⟨q1,q2,q3⟩:=k.cd i b w B C;exact⟨q1,λu g=>(q2 u g).2.1,d q3⟩⟩
 have⟨D,E,ms,p,e⟩:=m;have e:=congrArg (λv=>match v with|V.agg l=>l|_=>[]) e;have e:[M.f0,M.f1,M.f2,M.f3]=[f.face.nm.v,f.face.sup.v,D,E]:=e;simp only[_h,and_true]at e;have⟨F,I,J,K⟩:=e;refine⟨ms,by unfold Gc.fc;rw[F,I],by rw[J,K];exact p,h.ATg kn y,A⟩
def vj(G:AQ)(H:Heap)(n0:Nat)(R:Nat->Prop)(v:V)(f:Fl):Prop:=∀H' n',Ke G H n0 H' n0->n0<=n'->(∀id,R id->T.get H' id=T.get H id)->(∀id,R id->id<n')->sH G H' n' v f
abbrev vj.mono{R':Nat->Prop}(h:vj G H n0 R v f)(ke:Ke G H n0 H' n0)(g:∀id,R id->R' id)(i:∀id,R id->T.get H' id=T.get H id):vj G H' n0 R' v f:=
 λH'' n'' k m p q=>h H'' n'' (ke.trans k) m (λid d=>(p id (g id d)).trans (i id d)) λid d=>q id (g id d)
abbrev APs(hO:dZ G){ws:aAo}(h:cP M o P G H n f.pool)(d0:r<q)(C:∀id,id<ns->o id=0)(d1:ns<=q/\ns<=r)(X:kf G H n q o M.vb f.bodies ws)(Y:pR M.fs f.pool)(D:bq f=true)(Z:f.bodies.length<=1000)
 (i:mU G H R (.agg [M.f0,M.f1,M.f2,M.f3]) f.face) (p:∀id,R id->ns<=id/\id<n/\id≠r) (u:r<n/\o r=0/\M.kb<=r) (E:∃L,L.length=10/\T.get H r=some (one L))
 (hk:∀H' n' v,n<=n'->(∀id,id<n->id≠r->T.get H' id=T.get H id)->vj G H' M.kb (λid=>ns<=id/\id<n') v f->k (.CV [v,iN 0]) H' n'):Oy lfp G (Runs F G) k (.ptr r 0) (.ptr M.mb 0) H n:=by
 delta Oy;have kn:=h.a.kn;have⟨ms,I⟩:=AIl h.k kn X Y Z (i H n (λ_ _=>rfl) λid d=>(p id d).2.1);have rd:∀{H':Heap},T.get H' M.mb=some (one (M.mc P))->AX 10 (.ptr M.mb (0+0)) G H'=some (.agg (M.fc P)):=λg=>BV (m:=10) (off:=0+0) g a6 (by show 0+0+10<=11;omega);have J:=h.k.mb;refine AB (A0 ..) (AB (AP ..) (AB (rd h.k.box) ?_));refine AFj hO I λH1 x w=>?_;rw[D,Bw,AJ];refine(show ∀P Q:Prop,Q->AS (.bool (!true)) P Q from λP Q h=>h) _ _ ?_;refine AB (A0 ..) (AB (AP ..) (AB (rd (w.get h.k.box J.1)) ?_));have⟨L,hL,E⟩:=E;refine BX (L:=M.fc P) (w.get E u.1) hL rfl a6 λy g2 s2=>?_;rw[By (m:=10) g2 a6 rfl];show k (.CV [.agg (M.fc P),iN 0]) y x;have K:∀id,id<n->id≠r->T.get y id=T.get H id:=λid N O=>(s2 id O).trans (w.same id N);refine hk y x _ w.le K λA B k1 d2 N O=>?_;have d3:=w.le;have d4:x<=B:=by have:=O (x-1) ⟨a6,a6⟩;omega
 have S:∀id,ns<=id->id<n->id≠r->T.get A id=T.get H id:=λid q1 q2 q3=>(N id ⟨q1,a6⟩).trans (K id q2 q3);have ne:∀id,o id≠0->ns<=id/\id≠r:=λid q=>⟨by rcases _O id ns with U|U;exact absurd (C id U) q;exact U,λe=>q (by rw[e];exact u.2.1)⟩;have k2:=h.k.mono (H':=A) (n':=B) (o':=o) a6 (λ_ _=>rfl) ((Kp.ke ⟨ea _,λid d=>K id a6 a6⟩:Ke G H M.kb y M.kb).trans k1) λid q1 q2 _ _=>S id (ne id a6).1 q1 (ne id a6).2;have b2:=X.mono (H':=A) (n':=B) (o':=o) a6 (λ_ _=>rfl) λid q1 _ q3=>S id a6 q1 a6;have⟨d5,W⟩:=AIl k2 a6 b2 Y Z (i A B (λid d=>S id (p id d).1 (p id d).2.1 (p id d).2.2) λid d=>hN (p id d));exact⟨_,_,_,_,_,_,_,_,_,_,_,_,W,rfl⟩
abbrev AM7(hG:RN G)(hO:dZ G){xs:List (Tm×Mx)}(h:cP M o P G H n zg)(f7:∀id,id<ns->o id=0)(f8:ns<=n/\ns<=r)(f9:M.vb=.AT)(he:Sk H 8 (λid=>id<n/\o id=0/\id≠M.b) v (xs.map cC))(hx:∀p∈xs,lQ G H A (cC p) p.1)(ha:Oa M ⟨o,P,B0⟩ n A)(hl:xs.length<=1000)
 (g0:∀p∈xs,RgM M.fs p.1) (hm:V4 M.fs (xs.map Prod.fst) zg=some (f.bodies,f.pool)) (hr:pR M.fs f.pool) (g1:bq f=true)
 (g2:mU G H R (.agg [M.f0,M.f1,M.f2,M.f3]) f.face) (hR:∀id,R id->id<n/\id≠r/\o id=0/\id≠M.b/\ns<=id) (Q:r<n/\o r=0/\M.kb<=r) (gr:∃L,L.length=10/\T.get H r=some (one L)) (g3:f.bodies.length<=1000)
 (hk:∀H' n' w,n<=n'->(∀id,id<n->o id=0->id≠r->id≠M.b->T.get H' id=T.get H id)->(E1 H M.b->E1 H' M.b)->vj G H' M.kb (λid=>ns<=id/\id<n') w f->k (.CV [w,iN 0]) H' n'):
 lfp (V×V×V×V×V×Heap×Nat) (Sf lfp G (Runs F G) k) (.ptr r 0,.ptr M.mb 0,v,nI xs.length,nI 0,H,n):=by
 have g6:M.b<M.kb:=h.a.tab.bn;refine BL (N:=xs.length) (J:=λi s=>∃o' P' H' n' u bs W ws pi,s=(.ptr r 0,.ptr M.mb 0,v,nI xs.length,nI i,H',n')/\cP {M with vb:=u} o' P' G H' n' pi/\Kg M ⟨o,P,B0⟩ H n ⟨o',P',B0⟩ H' n'/\kf G H' n' n o' u bs ws/\
  V4 M.fs ((xs.drop i).map Prod.fst) pi=some (W,f.pool)/\bs++W=f.bodies) ?_ ?_ ⟨o,P,H,n,.AT,[],f.bodies,[],zg,rfl,⟨h.a.to ⟨rfl,rfl,rfl,rfl,rfl⟩,h.k.to ⟨rfl,rfl,by unfold Gc.mc;rw[f9]⟩,h.nt⟩,Kg.refl,⟨.nil,rfl,λi b w h=>by simp at h⟩,hm,rfl⟩
 .rintro I i s d3 ⟨o3,P3,H3,D,u,bs,W,ws,p3,rfl,E,X,b3,hm,Y⟩ ih;show LB lfp G (Runs F G) k I (.ptr r 0) (.ptr M.mb 0) v (nI xs.length) (nI i) H3 D;delta LB;have d4:=eb d3;have Z:=f_ d3;rw[uv d3,rl]at hm;generalize xs[i]=e at d4 Z hm;have⟨q1,m1,m2⟩:=ee.1 (show((U8 M.fs e.1 p3).bind λq=>(V4 M.fs ((xs.drop (i+1)).map Prod.fst) q.2).map λr=>(q.1::r.1,r.2))=some (W,f.pool)from hm);have⟨⟨d6,p4⟩,m4,m3⟩:=d_.1 m2;cases m3;have⟨b,p1⟩:=q1;have rg:=g0 e Z;have d7:M.kb<=D:=E.a.kn;have i2:=X.le;have kn:M.kb<=n:=h.a.kn;have⟨a,hp,g7⟩:=((he.mono (H':=H3) (B:=λ_=>True) (λ_ _=>trivial) λid d=>X.zero id d.1 d.2.1 d.2.2).el (G:=G) a6).at (i:=i) (c:=cC e) (by rw[pe,d4];rfl);rw[Bf,AJ,ui d3,Ah];refine AB hp (AB (BZ g7) ?_);refine Ao rfl λH4 f4 g4=>?_;refine BX g4 rfl rfl a6 λH5 g5 s5=>?_;have d0:Kp H3 D H5 (D+1):=⟨f4.le,λid d=>(s5 id a6).trans (f4.same id d)⟩;have d1:Kb M.b H3 D H5 (D+1):=d0.kb a6;have h5:cP {M with vb:=u} o3 P3 G H5 (D+1) p3:=⟨E.a.mono a6 (λ_ _=>rfl) (λid d=>E.a.hi id a6) (d1.low d7),E.k.mono a6 (λ_ _=>rfl) ((d1.low d7).ke E.a.seen) λid g _ _ _=>d0.same id g,E.nt⟩;have k5:Kg M ⟨o,P,B0⟩ H n ⟨o3,P3,B0⟩ H5 (D+1):=X.trans ⟨d0.le,λ_ _=>rfl,λid g _ E=>d0.same id g,d1.seen⟩;have d8:∀{o':Nat->Nat} {P':Gp} {H':Heap} {n':Nat} {p':Pool},cP {M with vb:=u} o' P' G H' n' p'->AM (.ptr M.mb (0+9)) G H'=some u:=λh=>AK (off:=0+9) h.k.box rfl;refine AB (A0 ..) (AB (AP ..) (AB (AP ..) (AB (d8 h5) ?_)));refine AB (As (m:=8) (L:=cC e) g5 a6 rfl) ?_;have lI:Oa {M with vb:=u} ⟨o3,P3,B0⟩ (D+1) A:=ha.kg k5;refine AUC (M:={M with vb:=u}) hG h5 ((hx e Z).mono (λ_ h=>h) λid d=>ha.same k5 d) lI rg.wf rg.ok (hN rg.cz) (hN rg.lt) m1 λK P6 H6 S vc U k6 sc lc=>?_;have k6:Kg M ⟨o3,P3,B0⟩ H5 (D+1) ⟨K,P6,B0⟩ H6 S:=k6.to rfl;have g9:=k6.le;have b6:kf G H6 S n K u bs ws:=(b3.mono (H':=H5) (n':=D+1) (o':=o3) a6 (λ_ _=>rfl) λid g _ _=>d0.same id g).mono g9 (λid d=>k6.own id d) λid g y E=>k6.zero id g y a6;refine AB (d8 U) (Ba b6.sk.ok.2.2 ?_);have i1:bs.length+(d6.length+1)=f.bodies.length:=by rw[<-Y,uk];rfl
  refine b6.sk.app (G:=G) (m:=0) (c:=.agg (b.cells vc)) (λid d=>(b6.sk.own d).2.1) a6 rfl rfl (by rw[_x,b6.ln];omega) λv' H7 d9 s7 O=>?_;have d2:=(d9 (λ_=>True) trivial).ok;have C:M.mb<S/\K M.mb=1:=U.k.mb;have e7:∀id,id<S->(K id≠0∨id<n)->T.get H7 id=T.get H6 id:=λid g y=>s7 id g λe=>by have:=b6.sk.own e;omega
  refine AB (A0 ..) (AB (AP ..) (AB (AP ..) ?_));refine uu ((e7 _ C.1 a6).trans U.k.box) d2.1 (by rw[d2.2.1];rfl) a6 (by show 0+9+1<=11;omega) λH8 g8 s8=>?_;rw[d2.2.1]at g8;have e8:∀id,id<S->id≠M.mb->(K id≠0∨id<n)->T.get H8 id=T.get H6 id:=λid g y E=>(s8 id y).trans (e7 id g E);have f5:∀id,id<n->K id=o id:=λid d=>(k6.own id (by show id<D+1;omega)).trans (k5.own id d);have d5:Kb M.b H6 M.kb H8 M.kb:=⟨ea _,λid g _=>e8 id a6 (λe=>by have:=U.a.lo id g;rw[e,C.2]at this;omega) (.inr a6),λq=>q.same (e8 _ a6 (λe=>by have:=U.a.lo _ g6;rw[e,C.2]at this;omega) (.inr a6))⟩;have h8:cP {M with vb:=v'} K P6 G H8 (S+2) p1:=by have q:=U.k;have sk:∀{z j:Nat} {v:V} {LS:Bh},3<=j->Sk H6 z (λid=>id<S/\K id=j) v LS->Sk H8 z (λid=>id<S+2/\K id=j) v LS:=λhj h=>h.mono (λid d=>⟨a6,d.2⟩) λid d=>e8 id d.1 (λe=>by rw[e,C.2]at d;omega) (.inl a6);exact⟨(U.a.mono (o':=K) a6 (λ_ _=>rfl) (λid d=>U.a.hi id a6) d5).to ⟨rfl,rfl,rfl,rfl,rfl⟩,⟨⟨by show M.mb<S+2;omega,C.2⟩,g8,sk a6 q.s0,sk a6 q.s1,sk a6 q.s2,sk a6 q.s3,sk a6 q.s4,q.wl,λi m w a b=>(q.wt i m w a b).ke (d5.ke U.a.seen),q.sz⟩,U.nt⟩
  have k8:Kg M ⟨o,P,B0⟩ H n ⟨K,P6,B0⟩ H8 (S+2):=by have f6:=k5.trans k6;exact⟨a6,f5,λid g y E=>(e8 id a6 (λe=>by have:=f5 id g;rw[e,C.2]at this;have y:o id=0:=y;rw[e]at y;omega) (.inr g)).trans (f6.zero id g y E),λq=>d5.seen (f6.seen q)⟩
  rw[CA a6,AJ];refine ih _ ⟨K,P6,H8,S+2,v',bs++[b],d6,ws++[vc],p1,rfl,h8,k8,?_,m4,by rw[y_];exact Y⟩;refine⟨?_,by rw[uk,uk,b6.ln];rfl,λi b' w' g y=>?_⟩
  .rw[List.zipWith_append b6.ln.symm];refine(d9 (λid=>n<=id/\id<S+2/\K id=0) ⟨a6,a6,U.a.hi _ a6⟩).JO (λid d=>?_) λid d=>?_
   .rw[O]at d;cases d;exact⟨a6,a6,U.a.hi _ a6⟩
   .rw[O]at d;cases d;exact s8 _ a6
  .have key:∀id,id<S->K id=0->n<=id->u.CD≠some id->T.get H8 id=T.get H6 id:=λid q1 q2 q3 q4=>(s8 id λe=>by rw[e,C.2]at q2;omega).trans (s7 id q1 q4);by_cases hi:i<bs.length
   .rw[qi hi]at g;rw[qi (hN b6.ln)]at y;have⟨q1,q2,q3⟩:=b6.cd i b' w' g y;refine⟨q1.same λid d=>?_,λid d=>?_,q3⟩
    .obtain⟨x1,x2,x3,x4⟩:=q2 id d;exact key id x2 x3 x1 x4
    .obtain⟨x1,x2,x3,x4⟩:=q2 id d;exact⟨x1,a6,x3,by rw[O];intro e;cases e;omega⟩
   .have i0:=b6.ln;rw[i_ a6]at g;rw[i_ a6,i0]at y;have hz:=(us.1 g).1;have hz:i-bs.length=0:=by simp at hz;omega
    rw[hz]at g y;cases g;cases y;have nv:∀id,vc.CD=some id->u.CD≠some id:=λid d e=>by have:=sc.own d;have x:=(b3.sk.own e).2.1;omega
    refine⟨(sc.el a6).same λid d=>?_,λid d=>?_,lc⟩
    .obtain⟨x1,x2,x3⟩:=sc.own d;exact key id x2 x3 a6 (nv id d)
    .obtain⟨x1,x2,x3⟩:=sc.own d;exact⟨a6,a6,x3,by rw[O];intro e;cases e;omega⟩
 .rintro I s ⟨o3,P3,H3,D,u,bs,W,ws,p3,rfl,E,X,b3,hm,Y⟩;show LB lfp G (Runs F G) k I (.ptr r 0) (.ptr M.mb 0) v (nI xs.length) (nI xs.length) H3 D;delta LB;rw[Bf,AJ,eg (m_ _),AZ];rw[sw o_]at hm;cases hm;rw[qs]at Y;subst Y;have nn:=X.le;refine APs (M:={M with vb:=u}) hO E (q:=n) (r:=r) (ns:=ns) Q.1 (λid d=>(X.own id a6).trans (f7 id d)) f8 b3 hr g1 g3 (g2.mono (R':=R) (λ_ h=>h) λid d=>?_) (λid d=>?_) ⟨a6,(X.own r Q.1).trans Q.2.1,Q.2.2⟩ ?_ λH4 n4 w i3 s4 hw=>hk H4 n4 w a6 (λid q1 q2 q3 q4=>(s4 id a6 q3).trans (X.zero id q1 q2 q4)) (λq=>(X.seen q).same (s4 _ a6 a6)) hw
  .obtain⟨x1,x2,x3,x4,x5⟩:=hR id d;exact X.zero id x1 x3 x4
  .obtain⟨x1,x2,x3,x4,x5⟩:=hR id d;exact⟨x5,a6,x2⟩
  .obtain⟨L,l1,l2⟩:=gr;exact⟨L,l1,(X.zero r Q.1 Q.2.1 a6).trans l2⟩
end
abbrev flZ:LV:=[.str 0 0,.str 0 0,.AT,.AT,.AT,.AT,.AT,.AT,.AT,.AT]
section
variable{G:AQ}{H:Heap}{n:Nat}{k:KV}{A:Nat->Prop}
abbrev APO(hG:RN G)(hO:dZ G){t a b:Nat}{fs:Tab}{c:Tc}(ht:TabAt G H n0 t a b fs)(O:n0<=n)(d6:fs.length<=1000)(hc:WP G H A l c)(J:∀d,A d->d<n/\d≠b)(Q:ASc c)(S:cO fs c)(K:fT fs c f)
 (hk:∀H' n' w,Kb b H n H' n'->vj G H' n0 (λd=>n<=d/\d<n') w f->k (.CV [w,iN 0]) H' n'):Runs F G vW [.ptr t 0,.agg l] H n k:=by
 refine go2 (ACD Ae G) ?_;delta AX6;have d7:b<n:=b_ ht.bn O;refine BE λH1 f1 L=>?_;refine Ao rfl λH2 f2 b2=>?_;replace L:=f2.get L a6;have U:=f1.trans f2;refine AB (As (m:=6) L a6 hc.len) ?_;have d8:WP G H2 A l c:=hc.mono (λ_ h=>h) λd g=>U.same d (J d g).1;refine ATs d8.fc (λd g=>hN (J d g)) Q λH3 x v4 f3 V=>?_;have g0:=f3.le;obtain⟨vf,vm,ms,g1,rfl⟩:=V H3 x (λ_ _=>rfl) λd g=>g.2;refine AB (v:=.agg [(Ar c).nm.v,(Ar c).sup.v,vf,vm,.AT,.AT,.AT,.AT,.AT,.AT]) rfl ?_;refine AB (v:=.agg [(Ar c).nm.v,(Ar c).sup.v,vf,vm,.AT,.AT,.AT,.AT,.AT,.AT,.ptr t 0]) rfl ?_;refine BE λH4 f4 b4=>?_;have D:=f3.trans f4;replace L:=D.get L a6;replace b2:=D.get b2 a6;have W:=U.trans D;have d9:WP G H4 A l c:=hc.mono (λ_ h=>h) λd g=>W.same d (J d g).1;cases d9 with
 |mk f9 g2 g3 f6=>
 rename_i X y B u g4 f7;have⟨cs,he,_,_,_,f8,Y⟩:=f6;refine AB (AP ..) (AB (AK (off:=0+5) L (v:=f7) rfl) ?_);have⟨N,x1,x2,x3⟩:=AMM Y;have Z:u.length<=4:=S.ln;have g5:N.length<=4:=by rw[<-x2,uc]at Z;exact Z
 refine mG he (λd g=>hN (J d (f8 d g))) (by rw[Y.len];omega) λg6 H5 n5 f5 ZV=>?_;have g7:=f5.le;rw[<-x1]at ZV;refine AJ8 ZV (λd g=>(ZV.own g).2) a6 λH6 n6 g8 d0 s6=>?_;have e6:∀d,d<x+1->T.get H6 d=T.get H4 d:=λd g=>(s6 d a6 λe=>hN ((ZV.own e).1)).trans (f5.same d g);have d1:(GI (eZ cD) N).length=N.length:=VN _;refine AB (v:=nI (GI (eZ cD) N).length) (by rw[(d0.el (G:=G) a6).len,uc]) ?_;obtain⟨M,hM⟩:∃M:Gc,M=⟨n0,x,0,t,a,b,fs,(Ar ⟨X,y,B,u⟩).nm.v,(Ar ⟨X,y,B,u⟩).sup.v,vf,vm,.AT,BY⟩:=⟨_,rfl⟩;obtain⟨o,ho⟩:∃o:Nat->Nat,o=λd=>if d=x then 1 else 0:=⟨_,rfl⟩
 have o1:o x=1:=by rw[ho];exact hD rfl
 have C:∀d,d≠x->o d=0:=λd q=>by rw[ho];exact g_ q
 have E:∀d,d<n->T.get H6 d=T.get H d:=λd g=>(e6 d a6).trans (W.same d g);have d2:Kb b H n H6 n6:=⟨a6,λd I _=>E d I,λq=>q.same (E _ d7)⟩;have h6:cP M o ⟨.AT,.AT,.AT,.AT,.AT,[]⟩ G H6 n6 zg:=by
  subst hM;refine⟨⟨by show n0<=n6;omega,λd g=>C d (by have:d<n0:=g;omega),λd g=>C d a6,ht.kb (d2.low O),d6⟩,⟨⟨by show x<n6;omega,o1⟩,(e6 x a6).trans b4,.nil,.nil,.nil,.nil,.nil,rfl,λi m w h _=>by simp[zg]at h,by unfold SW;decide⟩,λd=>?_⟩;by_cases q:d=x
  .rw[q,o1];decide
  .rw[C d q];decide
 have mv:M.vb=.AT/\M.mb=x/\M.kb=n0/\M.b=b/\M.fs=fs/\([M.f0,M.f1,M.f2,M.f3]:LV)=[(Ar ⟨X,y,B,u⟩).nm.v,(Ar ⟨X,y,B,u⟩).sup.v,vf,vm]:=by subst hM;exact⟨rfl,rfl,rfl,rfl,rfl,rfl⟩
 have⟨m1,m2,m3,m4,m5,m6⟩:=mv;rw[<-m2];have d3:(GI (eZ cD) N).map Prod.fst=wC ⟨X,y,B,u⟩:=by rw[sV (lt:=eZ cD) (lt':=eZ Tm.nm) (f:=Prod.fst) (λ_ _=>rfl),x2];rfl
 have d4:∀p∈GI (eZ cD) N,p.1∈u:=λp hp=>by rw[<-x2];exact _2 (Pa hp)
 have⟨q,q1,q2⟩:=d_.1 K.is;have q3:q=(f.bodies,f.pool):=by rw[<-q2]
 refine AM7 (P:=⟨.AT,.AT,.AT,.AT,.AT,[]⟩) (f:=f) (R:=λd=>n+1+1<=d/\d<x) (A:=A) (o:=o) hG hO h6 (ns:=n) (λd g=>C d a6) ⟨a6,a6⟩ m1 (d0.mono (λd g=>⟨a6,C d a6,by rw[m4];omega⟩) λ_ _=>rfl) (λp hp=>(x3 p (Pa hp)).mono (λ_ h=>h) λd g=>e6 d (hN (J d g))) (λd g=>?_) a6 (λp hp=>by rw[m5];exact S.ms _ (d4 p hp)) (by rw[d3,m5,<-q3];exact q1) (by rw[m5];exact K.pr) K.ok ?_ (λd g=>⟨a6,a6,C d a6,by rw[m4];omega,a6⟩) ⟨a6,C _ a6,by rw[m3];omega⟩ ⟨flZ,rfl,(e6 (n+1) a6).trans b2⟩ ?_ λH7 n7 w YE s7 d5 hw=>hk H7 n7 w ?_ (by rw[m3]at hw;exact hw)
 .have:=J d g;exact⟨by show d<n6;omega,C d a6,by rw[m4];exact this.2⟩
 .rw[m6,K.face];exact V.mono (λ_ h=>h) λd g=>(e6 d a6).trans (f4.same d g.2)
 .have I:=K.ok;unfold bq at I;simp only[ez,_v]at I;rw[I.2.2.1,K.face,<-AIE,uc,<-d3,uc,d1];omega
 .rw[m4]at s7 d5;exact⟨a6,λd I h2=>(s7 d a6 (C d a6) a6 h2).trans (E d I),λq=>d5 (d2.seen q)⟩
end
end Go.RL
