/- Part of a proof; nothing is assumed. -/
import Derived.Test.YtldgkimnlbkddaaGreatDoorConC
import Derived.Test.YtldgkimnlbkddaaGreatDoorConB
set_option linter.unusedVariables false
set_option linter.unusedSimpArgs false
namespace Go.RL
open Go.Bf
set_option maxRecDepth 100000
section
variable{K:eU}{W:Wv}{G:AY}{H H' H'':Heap}{n n' n'' N:Nat}{g:Uf}{td:List Nat}{k:KV}
theorem AU6(hE:K.En G H)(hw:jO K W H N g td)(f1:N<=n){d:Nat}{old s:CP}{vs:V}{c0:Bool}(hg:g[d]? =some (some old))(f6:Sv G H (λQ=>K.kb<Q/\Q<N/\W.own Q=0) vs s.loc)(m:old.loc.length=s.loc.length)(f7:∀t∈s.loc,t.nm.ok)(S:s.loc.length<=100000)
 (h1:∀H' n',Kf K W N H n H' n'->jO K W H' N (g.set d (some ⟨Dq K.fs old.loc s.loc,old.stk⟩)) td->Eu lfp G (Runs F G) k (.ptr K.kb 0) (.int .i64 (.ofNat d) 0) (.bool (c0|| !Fj (Dq K.fs old.loc s.loc) old.loc)) H' n'):
 lfp _ (Jl lfp G (Runs F G) k) (.ptr K.kb 0,.int .i64 (.ofNat d) 0,.ptr (W.q d) 0,.bool c0,vs,.int .i64 (.ofNat s.loc.length) 0,.int .i64 (.ofNat 0) 0,H,n):=by
 have hb:K.b<K.kb:=hE.img.tab.bn
 have hk:=hw.kn
 have L:d<g.length:=(List.getElem?_eq_some_iff.1 hg).1
 obtain⟨ol,os,g5,obs⟩:=hw.ok d old hg
 have u:=m
 have g7:=S
 refine BN (N:=s.loc.length) (J:=λi st=>∃H' n',st=(.ptr K.kb 0,.int .i64 (.ofNat d) 0,.ptr (W.q d) 0,.bool (c0|| !Fj (upTo K.fs old.loc s.loc i) old.loc),vs,.int .i64 (.ofNat s.loc.length) 0,.int .i64 (.ofNat i) 0,H',n')/\
  Kf K W N H n H' n'/\jO K W H' N (g.set d (some ⟨upTo K.fs old.loc s.loc i,old.stk⟩)) td/\i<=s.loc.length) ?_ ?_ ⟨H,n,?_,.refl,?_,Nat.zero_le _⟩
 ·rintro I i st hi ⟨T,E,rfl,R,w,f8⟩ ih
  show Ey lfp G (Runs F G) k I (.ptr K.kb 0) (.int .i64 (.ofNat d) 0) (.ptr (W.q d) 0) (.bool (c0|| !Fj (upTo K.fs old.loc s.loc i) old.loc)) vs (.int .i64 (.ofNat s.loc.length) 0) (.int .i64 (.ofNat i) 0) T E
  delta Ey
  have g8:=R.le
  have f9:=hE.kb' (R.kb (by omega))
  have U:=f6.kf R f1 hb
  have A:i<old.loc.length:=by omega
  have X:i<s.loc.length:=by omega
  obtain⟨p,hp,M⟩:=U.el.at (Tj X)
  have M:=Bj M
  simp only[go_sem,BR,hi,decide_true,hp,M]
  show Bz 2 (.ptr E 0) (.agg (s.loc[i]).cells) _ _ _
  refine Yb rfl rfl (by omega) λH3 f3 g3=>?_
  have Y:=w.kb (f3.kb (b:=K.b) (by omega)) (by omega) hb
  have B:(g.set d (some (⟨upTo K.fs old.loc s.loc i,old.stk⟩:CP)))[d]? =some (some ⟨upTo K.fs old.loc s.loc i,old.stk⟩):=List.getElem?_set_self L
  obtain⟨gq,hq,g0,-⟩:=Y.st d _ B
  have Z:(upTo K.fs old.loc s.loc i)[i]? =some old.loc[i]:=by rw[dJ u (by omega),if_neg (by omega),List.getElem?_eq_getElem A]
  obtain⟨p2,g1,C⟩:=(g0.el (G:=G) (by omega)).at (i:=i) (c:=(old.loc[i]).cells) (by unfold tys;rw[List.getElem?_map,Z];rfl)
  have C:=Bj C
  simp only[go_sem,Nat.reduceAdd,AU (off:=0) Y.box (v:=.ptr K.i 0) rfl,AU (off:=0) gq (v:=W.vl d) rfl,g1,C,BD g3]
  refine run_set λH4 f4 g4=>?_
  have d0:(old.loc[i]).nm.ok:=ol _ (List.getElem_mem A)
  have d1:(s.loc[i]).nm.ok:=f7 _ (List.getElem_mem X)
  have d2:Kb K.b T E H4 (E+1+1):=(f3.trans f4).kb (by omega)
  have d3:=f9.kb' (d2.low (by omega))
  refine AXG (x:=old.loc[i]) (y:=s.loc[i]) d3.img (by omega) d3.small d0 d1 λH5 n5 f5=>?_
  have g9:=f5.le
  simp only[go_sem]
  show Bz 2 (.ptr (E+1) 0) (.agg (Ed K.fs old.loc[i] s.loc[i]).1.cells) _ _ _
  refine Rn (f5.get g4 (by omega) (by omega)) rfl rfl (by omega) λH6 g6 s6=>?_
  have d4:Kb K.b T E H6 n5:=(d2.trans f5).trans' (λQ i0=>s6 _ (by omega)) (Nat.le_refl _) (by omega)
  have d5:=w.kb d4 (by omega) hb
  obtain⟨d6,i1,d7,-⟩:=d5.st d _ B
  obtain⟨p3,d8,D⟩:=(d7.el (G:=G) (by omega)).at (i:=i) (c:=(old.loc[i]).cells) (by unfold tys;rw[List.getElem?_map,Z];rfl)
  have D:Aj 2 p3 G H6=some (Ty.v old.loc[i]):=Bj D
  have O:=ANL (fs:=K.fs) u A
  have P:=AHf (fs:=K.fs) u A
  have g2:(Ed K.fs old.loc[i] s.loc[i]).1=jn K.fs old.loc[i] s.loc[i]:=rfl
  have d9:=AUT (λs c hl=>AWH hE.img.tab hl) d0 d1
  rw[g2]at g6
  have fin:∀fl:Bool,fl=(c0|| !Fj (upTo K.fs old.loc s.loc (i+1)) old.loc)->(AL (Ai 2 (W.vl d) (.int .i64 (.ofNat i) 0)) λv=>Bz 2 v (jn K.fs old.loc[i] s.loc[i]).v H6 n5 λ_ H n=>AL (B2.ev .add (.int .i64 (.ofNat i) 0) (.int .i64 (.ofNat 1) 0)) λv=>
   I (.ptr K.kb 0,.int .i64 (.ofNat d) 0,.ptr (W.q d) 0,.bool fl,vs,.int .i64 (.ofNat s.loc.length) 0,v,H,n)):=by
   rintro fl rfl
   refine d5.Acb B (i:=i) (by show i<(upTo K.fs old.loc s.loc i).length;rw[ALe u (by omega)];exact A) d9 λH7 f0 s7=>?_
   rw[DI (show i+1<9223372036854775808 by omega),AP]
   refine ih _ ⟨H7,n5,rfl,(R.trans d4.kf).trans ⟨Nat.le_refl _,λQ h1 h2 h3=>s7 Q λh=>by omega,λhs=>hs.same (s7 _ λh=>by omega)⟩,?_,by omega⟩
   ·rw[P]
    rw[List.set_set]at f0
    exact f0
  rw[O]at fin
  cases i2:(c0|| !Fj (upTo K.fs old.loc s.loc i) old.loc)with
  |false=>
   have f:=fin (!(jn K.fs old.loc[i] s.loc[i]).is old.loc[i]) (by cases c0<;>cases h5:Fj (upTo K.fs old.loc s.loc i) old.loc<;>simp_all)
   rw[d8]at f
   simp only[go_sem,Nat.reduceAdd,BD g6,AU (off:=0) d6 (v:=W.vl d) rfl,d8,D,ALZ]
   simpa only[go_sem]using f
  |true=>
   have f:=fin true (by cases c0<;>cases h5:Fj (upTo K.fs old.loc s.loc i) old.loc<;>simp_all)
   simp only[go_sem,Nat.reduceAdd,BD g6,AU (off:=0) d6 (v:=W.vl d) rfl]
   exact f
 ·rintro I st ⟨T,E,rfl,R,w,f8⟩
  show Ey lfp G (Runs F G) k I (.ptr K.kb 0) (.int .i64 (.ofNat d) 0) (.ptr (W.q d) 0) (.bool (c0|| !Fj (upTo K.fs old.loc s.loc s.loc.length) old.loc)) vs (.int .i64 (.ofNat s.loc.length) 0) (.int .i64 (.ofNat s.loc.length) 0) T E
  delta Ey
  simp only[go_sem,BR,Nat.lt_irrefl,decide_false]
  have e1:upTo K.fs old.loc s.loc s.loc.length=Dq K.fs old.loc s.loc:=by
   have:=AM0 (fs:=K.fs) u
   rw[m]at this
   rw[this,AHo _ _ _ m]
  rw[e1]at w
  rw[e1]
  exact h1 _ _ R w
 ·rw[AAz,show Fj old.loc old.loc=true from PW.2 rfl];cases c0<;>rfl
 ·rw[AAz]
  have:g.set d (some ⟨old.loc,old.stk⟩)=g:=by
   have e:g[d]=some old:=by rw[List.getElem?_eq_getElem L]at hg;exact Option.some.inj hg
   show g.set d (some old)=g
   rw[<-e];exact List.set_getElem_self L
  rw[this];exact hw
end
section
variable{K:eU}{W:Wv}{G:AY}{H H' H'':Heap}{n n' n'' N:Nat}{g:Uf}{td:List Nat}{k:KV}
def atV(W:Wv)(i:Nat):Option CP->V
 |none=>.Bo
 |some _=>.ptr (W.q i) 0
theorem Abh(i:jO K W H n g td){d:Nat}{o:Option CP}(k:g[d]? =some o):Ai 1 (K.vat W) (.int .i64 (.ofNat d) 0)=some (.ptr W.ab (d*1))/\AX (.ptr W.ab (d*1)) G H=some (atV W d o):=by
 have f:d<K.code.length:=by rw[<-i.gl];exact(List.getElem?_eq_some_iff.1 k).1
 obtain⟨q,m,p⟩:=i.ats
 refine⟨(AMV f).trans (by rw[Nat.zero_add]),Jv ?_⟩
 show mY H W.ab (d*1) 1=_
 rw[bI m (by omega) f]
 have:=p d o k
 cases o<;>exact this
theorem AU9(C:K.En G H)(J:jO K W H N g td)(u:N<=n){d D:Nat}{old s:CP}{L vs:V}(E:g[d]? =some (some old))(M:Sv G H (λid=>K.kb<id/\id<N/\W.own id=0) L s.loc)(O:Sv G H (λid=>K.kb<id/\id<N/\W.own id=0) vs s.stk.reverse)
 (P:T.get H D=some (one [L,vs])) (f:N<=D/\D<n) (w:old.stk.length=s.stk.length) (Q:∀t∈s.loc,t.nm.ok) (R:∀t∈s.stk,t.nm.ok) (S:s.loc.length=K.nl) (ht:td.length<1099511627776)
 (h0:∀H' n',Kf K W N H n H' n'->T.get H' K.kb=some (one (K.cells (K.vat W) W.td))->FY K.fs g d s=none->k (.bool false) H' n')
 (h1:∀I H' n' g' ch,FY K.fs g d s=some (g',ch)->jO K I H' n' g' (bif ch then d::td else td)->(∀id,id<N->I.own id=W.own id)->Kf K W N H n H' n'->k (.bool true) H' n'):
 lfp _ (Gl lfp G (Runs F G) k) (.ptr K.kb 0,.int .i64 (.ofNat d) 0,.ptr D 0,.ptr (W.q d) 0,.bool false,vs,.int .i64 (.ofNat s.stk.length) 0,.int .i64 (.ofNat 0) 0,H,n):=by
 have hb:K.b<K.kb:=C.img.tab.bn
 have hk:=J.kn
 obtain⟨ol,os,U,obs⟩:=J.ok d old E
 have X:d<g.length:=(List.getElem?_eq_some_iff.1 E).1
 have i:FY K.fs g d s=(Ip K.fs old.stk s.stk).map λk=>(g.set d (some ⟨Dq K.fs old.loc s.loc,k⟩),!(Fj k old.stk&&Fj (Dq K.fs old.loc s.loc) old.loc)):=by
  unfold FY;rw[E]
 refine AU7 C J u E O w R (λH2 n2 p gb e=>h0 _ _ p gb (by rw[i,e];rfl)) λH2 n2 x p e Y=>?_
 have d1:=p.le
 delta Hg
 have m:=M.kf p u hb
 simp only[go_sem,Nat.reduceAdd,AU (off:=0) (p.get P f.1 f.2 (by omega)) (v:=L) rfl,m.el.len,EP]
 have y:(g.set d (some (⟨old.loc,x⟩:CP)))[d]? =some (some ⟨old.loc,x⟩):=List.getElem?_set_self X
 have A:=C.kb' (p.kb (by omega))
 have d0:=C.nl
 refine AU6 A Y (by omega) y m (by rw[S];exact U) Q (by omega) λH3 n3 f3 B=>?_
 rw[List.set_set]at B
 have d2:=f3.le
 refine Afv (A.kb' (f3.kb (by omega))) B (by omega) ht λI H' n' Z ho f4=>?_
 refine h1 I H' n' _ _ (by rw[i,e];rfl) ?_ ho ((p.trans f3).trans f4)
 rw[show(!(Fj x old.stk&&Fj (Dq K.fs old.loc s.loc) old.loc))=(!Fj x old.stk|| !Fj (Dq K.fs old.loc s.loc) old.loc)by cases Fj x old.stk<;>rfl]
 exact Z
theorem jO.new{s:CP}{f q ti:Nat}{v w td':V}(h:jO K W H n g td)(P:g[f]? =some none)(O:n<=n')
 (e:∀id,K.kb<id->id<n->W.own id≠0->id≠W.ab->W.own id≠3->T.get H' id=T.get H id)
 (B:T.get H' K.kb=some (one (K.cells (K.vat W) td'))) (F:∀C,T.get H W.ab=some (.arr 1 K.code.length C)->T.get H' W.ab=some (.arr 1 K.code.length (T.set C f [.ptr q 0])))
 (Q:T.get H' q=some (one [v,w])) (G:n<=q/\q<n') (D:Sk H' 2 (λid=>n<=id/\id<n'/\id≠q/\id≠ti) v (tys s.loc)) (E:Sk H' 2 (λid=>n<=id/\id<n'/\id≠q/\id≠ti) w (tys s.stk.reverse)) (hd:∀id,v.XZ=some id->w.XZ≠some id)
 (I:Sk H' 1 (λid=>id=ti) td' (nums (f::td).reverse)) (R:n<=ti/\ti<n'/\ti≠q) (S:td.length<1099511627776)
 (J:(∀t∈s.loc,t.nm.ok)/\(∀t∈s.stk,t.nm.ok)/\s.loc.length=K.nl/\s.stk.length<=100000):
 ∃W',jO K W' H' n' (g.set f (some s)) (f::td)/\∀id,id<n->W'.own id=W.own id:=by
 have L:f<g.length:=(List.getElem?_eq_some_iff.1 P).1
 have U:=h.kn
 let own:Nat->Nat:=λid=>if id<n then W.own id else if id=q then 4+3*f else if id=ti then 3 else if v.XZ=some id then 5+3*f else if w.XZ=some id then 6+3*f else 0
 have k:∀id,id<n->own id=W.own id:=λid d=>if_pos d
 have X:own q=4+3*f:=by show(if q<n then _ else _)=_;rw[if_neg (by omega),if_pos rfl]
 have Y:own ti=3:=by show(if ti<n then _ else _)=_;rw[if_neg (by omega),if_neg (by omega),if_pos rfl]
 have Z:∀id,v.XZ=some id->own id=5+3*f:=λid d=>by
  have:=D.own d
  show(if id<n then _ else _)=_;rw[if_neg (by omega),if_neg (by omega),if_neg (by omega),if_pos d]
 have ow:∀id,w.XZ=some id->own id=6+3*f:=λid d=>by
  have:=E.own d
  show(if id<n then _ else _)=_;rw[if_neg (by omega),if_neg (by omega),if_neg (by omega),if_neg (λe=>hd id e d),if_pos d]
 have look:∀(i:Nat) (o:Option CP),(g.set f (some s))[i]? =some o->(i=f/\o=some s)∨(i≠f/\g[i]? =some o):=by
  intro i o m
  by_cases e:i=f
  ·subst e
   rw[List.getElem?_set_self L]at m
   exact .inl ⟨rfl,(Option.some.inj m).symm⟩
  ·rw[List.getElem?_set_ne (Ne.symm e)]at m
   exact .inr ⟨e,m⟩
 refine⟨⟨W.ab,own,λi=>if i=f then q else W.q i,λi=>if i=f then v else W.vl i,λi=>if i=f then w else W.vs i,td'⟩,⟨by omega,(k _ U).trans h.ko,B,by rw[List.length_set];exact h.gl,⟨h.abn.1,Nat.lt_of_lt_of_le h.abn.2 O⟩,(k _ h.abn.2).trans h.abo,?_,λi x m=>?_,λi x m=>?_,?_,by show td.length+1<=_;omega⟩,k⟩
 ·obtain⟨C,M,ht⟩:=h.ats
  refine⟨_,F C M,λi o m=>?_⟩
  rcases look i o m with⟨rfl,rfl⟩|⟨u,m⟩
  ·rw[T.Ag];show _=some [V.ptr (if i=i then q else W.q i) 0];rw[if_pos rfl]
  ·rw[T.Ac _ _ (Ne.symm u),ht i o m]
   cases o with
   |none=>rfl
   |some y=>show _=some [V.ptr (if i=f then q else W.q i) 0];rw[if_neg u]
 ·rcases look i _ m with⟨rfl,N⟩|⟨u,m⟩
  ·cases N
   simp only[if_pos]
   exact⟨Q,⟨by omega,G.2,X⟩,D.AHu (λid d=>⟨by have:=D.own d;omega,(D.own d).2.1,Z id d⟩) λ_ _=>rfl,E.AHu (λid d=>⟨by have:=E.own d;omega,(E.own d).2.1,ow id d⟩) λ_ _=>rfl⟩
  ·simp only[if_neg u]
   obtain⟨M,p,hl,hs⟩:=h.st i x m
   have A:=h.abo
   refine⟨(e _ p.1 p.2.1 (by omega) (λe=>by rw[e,A]at p;omega) (by omega)).trans M,⟨p.1,Nat.lt_of_lt_of_le p.2.1 O,(k _ p.2.1).trans p.2.2⟩,
    hl.mono (λid h=>⟨h.1,by omega,(k _ h.2.1).trans h.2.2⟩) (λid h=>e id h.1 h.2.1 (by omega) (λe=>by rw[e,A]at h;omega) (by omega)),hs.mono (λid h=>⟨h.1,by omega,(k _ h.2.1).trans h.2.2⟩) λid h=>e id h.1 h.2.1 (by omega) (λe=>by rw[e,A]at h;omega) (by omega)⟩
 ·rcases look i _ m with⟨rfl,N⟩|⟨u,m⟩
  ·cases N;exact J
  ·exact h.ok i x m
 ·exact I.mono (λid d=>⟨by omega,by omega,by rw[d];exact Y⟩) λ_ _=>rfl
theorem ASx(hE:K.En G H)(y:jO K W H n g td){p:Nat}{s:CP}{vl vs:V}(f0:Sv G H (λid=>K.kb<id/\id<n/\W.own id=0) vl s.loc)(f4:Sv G H (λid=>K.kb<id/\id<n/\W.own id=0) vs s.stk.reverse)
 (Z:∀t∈s.loc,t.nm.ok) (d0:∀t∈s.stk,t.nm.ok) (d1:s.loc.length=K.nl) (f5:s.stk.length<=100000) (ht:td.length<1099511627776)
 (h0:∀H' n',Kf K W n H n H' n'->T.get H' K.kb=some (one (K.cells (K.vat W) W.td))->FY K.fs g p s=none->k (.bool false) H' n')
 (E:∀S H' n' U ch,FY K.fs g p s=some (U,ch)->jO K S H' n' U (bif ch then p::td else td)->(∀id,id<n->S.own id=W.own id)->Kf K W n H n H' n'->k (.bool true) H' n'):
 Runs F G EH [.ptr K.kb 0,.int .i64 (.ofNat p) 0,.agg [vl,vs]] H n k:=by
 refine go3 (rP BF G) ?_
 delta Xt
 have hb:K.b<K.kb:=hE.img.tab.bn
 have hk:=y.kn
 have i0:=hE.cl
 refine FT λX f1 g1=>?_
 have d:=y.kb (f1.kb (b:=K.b) (by omega)) (Nat.le_refl _) hb
 have A:Kf K W n H n X (n+1):=Kb.kf (f1.kb (b:=K.b) (by omega))
 have d2:=hE.kb' (A.kb (by omega))
 have L:=f0.mono (H':=X) (λid h=>h) λid h=>f1.same id h.2.1
 have C:=f4.mono (H':=X) (λid h=>h) λid h=>f1.same id h.2.1
 have ANq:lenV K.vc=some (.int .i64 (.ofNat K.code.length) 0):=by rw[d2.code.el.len,List.length_map]
 simp only[go_sem,Nat.reduceAdd,AU (off:=13) d.box (v:=K.vc) rfl,ANq,ASL]
 by_cases I:K.code.length<=p
 ·simp only[I,decide_true,go_sem]
  exact h0 _ _ A d.box (by unfold FY;rw[List.getElem?_eq_none (by rw[y.gl];exact I)])
 have i1:p<g.length:=by rw[y.gl];omega
 cases M:g[p]? with
 |none=>rw[List.getElem?_eq_none_iff]at M;omega
 |some o=>
 obtain⟨O,x⟩:=Abh (G:=G) d M
 cases o with
 |some J=>
  have x:AX (.ptr W.ab (p*1)) G X=some (.ptr (W.q p) 0):=x
  obtain⟨gq,hq,-,f6⟩:=d.st p J M
  have f7:lenV (W.vs p)=some (.int .i64 (.ofNat J.stk.length) 0):=by rw[(f6.el (G:=G) (by omega)).len,EP,List.length_reverse]
  have d3:lenV vs=some (.int .i64 (.ofNat s.stk.length) 0):=by rw[C.el.len,EP,List.length_reverse]
  simp only[I,decide_false,go_sem,Nat.reduceAdd,AU (off:=19) d.box (v:=K.vat W) rfl,O,x,AUj,AU (off:=1) gq (v:=W.vs p) rfl,AU (off:=1) g1 (v:=vs) rfl,f7,d3,AAI]
  by_cases hl:J.stk.length=s.stk.length
  ·simp only[hl,decide_true,Bool.not_true,go_sem]
   exact AU9 d2 d (by omega) M L C g1 ⟨by omega,by omega⟩ hl Z d0 d1 ht (λH' n' f gb e=>h0 _ _ (A.trans f) gb e) λS H' n' U ch e P ho f=>E S H' n' U ch e P ho (A.trans f)
  ·simp only[hl,decide_false,Bool.not_false,go_sem]
   exact h0 _ _ A d.box (by unfold FY;rw[M];show(Ip K.fs J.stk s.stk).map _=none;rw[AFo _ _ _ hl];rfl)
 |none=>
  have x:AX (.ptr W.ab (p*1)) G X=some .Bo:=x
  simp only[I,decide_false,go_sem,Nat.reduceAdd,AU (off:=19) d.box (v:=K.vat W) rfl,O,x,show CU (.one .ptr) false .Bo .Bo=some (.bool true)from rfl,CG (m:=2) g1 (by omega) rfl]
  have g9:=hE.nl
  refine AUd (n:=n+1) L C (λid h=>by omega) (by omega) (by rw[List.length_reverse];omega) λH2 D v w f2 hv P hd=>?_
  have i2:=f2.le
  show Bz 2 (.ptr D 0) (.agg [v,w]) _ _ _
  refine Yb rfl rfl (by omega) λY f3 g3=>?_
  have d4:Kp X (n+1) Y (D+1):=f2.trans f3
  have i:=d.kb (d4.kb (b:=K.b) (by omega)) (by omega) hb
  simp only[go_sem,Nat.reduceAdd,AU (off:=19) i.box (v:=K.vat W) rfl,AU (off:=20) i.box (v:=W.td) rfl]
  have f8:=hv.mono (B:=λid=>n+1<=id/\id<D) (H':=Y) (λid h=>h) λid h=>f3.same id h.2
  have d5:=P.mono (B:=λid=>n+1<=id/\id<D) (H':=Y) (λid h=>h) λid h=>f3.same id h.2
  refine i.todo.app (m:=0) (c:=.int .i64 (.ofNat p) 0) (λid Q=>by have:=i.todo.own Q;omega) (by omega) rfl rfl (by unfold nums;rw[List.length_map,List.length_reverse];omega) λv' H4 d6 u Q=>?_
  have R:=(d6 (λ_=>True) trivial).ok
  have e4:∀id,id<D+1->(n<=id∨W.own id≠3)->T.get H4 id=T.get Y id:=λid E h2=>u id E λe=>by have:=i.todo.own e;omega
  have g4:=(e4 _ (by omega) (.inr (by rw[y.ko];omega))).trans i.box
  rw[AU (off:=19) g4 (v:=K.vat W) rfl,AP,show Es (K.vat W) (K.vat W)=true from AXj ..,X5,O,AP]
  obtain⟨ta,ga,f9⟩:=i.ats
  have g0:=(e4 _ (by have:=y.abn;omega) (.inr (by rw[y.abo];omega))).trans ga
  refine APq g0 (by omega) (by omega) (f9 p none M) rfl rfl λH5 g5 s5=>?_
  have N:K.kb≠W.ab:=by have:=y.abn;omega
  refine vC ((s5 _ N).trans g4) R.1 (by rw[R.2.1];rfl) (by omega) (by show 20+1<=21;omega) λH6 g6 s6=>?_
  rw[R.2.1,AK2]at g6
  have e6:∀id,id≠K.kb->id≠W.ab->id<D+1->(n<=id∨W.own id≠3)->T.get H6 id=T.get Y id:=λid E h2 h3 h4=>by rw[s6 _ E,s5 _ h2,e4 _ h3 h4]
  have g2:=y.abn
  have e0:∀id,id<n->T.get Y id=T.get H id:=λid h=>by rw[d4.same _ (by omega),f1.same _ h]
  obtain⟨S,g7,d7⟩:=y.new (H':=H6) (n':=D+1+2) (s:=s) (q:=D) (ti:=D+1+1) (v:=v) (w:=w) (td':=v') M (by omega) (λid E h2 h3 h4 h5=>by rw[e6 id (by omega) h4 (by omega) (.inr h5),e0 id h2]) g6
   (λg8 U=>by
    have:some (Nu.arr 1 K.code.length g8)=some (Nu.arr 1 K.code.length ta):=by rw[<-U,<-ga,e0 _ g2.2]
    cases this
    rw[s6 _ (Ne.symm N)];exact g5)
   ((e6 D (by omega) (by omega) (by omega) (.inl (by omega))).trans g3) ⟨by omega,by omega⟩
   (f8.mono (λid h=>⟨by omega,by omega,by omega,by omega⟩) λid h=>e6 id (by omega) (by omega) (by omega) (.inl (by omega)))
   (d5.mono (λid h=>⟨by omega,by omega,by omega,by omega⟩) λid h=>e6 id (by omega) (by omega) (by omega) (.inl (by omega))) hd
   (by
    have e:nums (p::td).reverse=nums td.reverse++[A8 (.int .i64 (.ofNat p) 0)]:=by
     rw[List.reverse_cons];exact List.map_append
    rw[e]
    exact(d6 (λid=>id=D+1+1) rfl).mono (λ_ h=>h) λid Q=>by rw[s6 _ (by omega),s5 _ (by omega)])
   ⟨by omega,by omega,by omega⟩ ht ⟨Z,d0,d1,f5⟩
  refine E S H6 _ _ true (by unfold FY;rw[M]) g7 d7 ⟨by omega,λid E h2 h3=>?_,λhs=>hs.same ?_⟩
  ·have d8:id≠W.ab:=λe=>by rw[e,y.abo]at h3;omega
   have d9:id≠K.kb:=λe=>by rw[e,y.ko]at h3;omega
   by_cases h:W.own id=3
   ·rw[s6 _ d9,s5 _ d8,u id (by omega) (λe=>by have:=i.todo.own e;omega),e0 id E]
   ·rw[e6 id d9 d8 (by omega) (.inr h),e0 id E]
  ·rw[s6 _ (by omega),s5 _ (by omega),u _ (by omega) (λe=>by have:=i.todo.own e;omega),e0 _ (by omega)]
end
theorem AdV{G:AY}{c:Nat}{H:Heap}{n:Nat}{k:KV}(d:k (.bool (decide (c=27)||decide (c=29))) H n):Runs F G XF [.int .i64 (.ofNat c) 0] H n k:=by
 refine go1 (AIv BF G) ?_
 delta y7
 rw[lW,AP]
 cases h:decide (c=27)with
 |true=>rw[h]at d;simp only[go_sem];exact d
 |false=>rw[h]at d;simp only[go_sem,lW];exact d
section
variable{K:eU}{W:Wv}{G:AY}{H H' H'':Heap}{n n' n'' N:Nat}{g:Uf}{td:List Nat}{k:KV}
theorem AUt{vat f:V}(m:K.En G H)(p:T.get H K.kb=some (one (K.cells vat f))){i g:Nat}(d:k (.int .i64 (.ofNat (Zj K.code.length i g)) 0) H n):
 Runs F G Ei [.ptr K.kb 0,.int .i64 (.ofNat i) 0,.int .i64 (.ofNat g) 0] H n k:=by
 refine go3 (pX BF G) ?_
 delta Wj
 have ANq:lenV K.vc=some (.int .i64 (.ofNat K.code.length) 0):=by rw[m.code.el.len,List.length_map]
 simp only[go_sem,Nat.reduceAdd,AU (off:=13) p (v:=K.vc) rfl,ANq,ASL]
 unfold Zj at d
 by_cases h:K.code.length<=g
 ·rw[decide_eq_true h]at d;simp only[h,decide_true,go_sem];exact d
 ·rw[decide_eq_false h]at d;simp only[h,decide_false,go_sem];exact d
theorem jO.Aer{td':V}{d:List Nat}(h:jO K W H N g td)(u:T.get H' K.kb=some (one (K.cells (K.vat W) td')))(f:∀id,id≠K.kb->T.get H' id=T.get H id)(v:Sk H 1 (λid=>K.kb<id/\id<N/\W.own id=3) td' (nums d.reverse))(k:d.length<=td.length):
 jO K {W with td:=td'} H' N g d:=by
 refine⟨h.kn,h.ko,u,h.gl,h.abn,h.abo,?_,λi s w=>?_,h.ok,v.mono (λ_ h=>h) λid h=>f id (by omega),Nat.le_trans k h.tl⟩
 ·obtain⟨x,m,p⟩:=h.ats
  exact⟨x,(f _ (by have:=h.abn;show W.ab≠_;omega)).trans m,p⟩
 ·obtain⟨m,y,k,A⟩:=h.st i s w
  exact⟨(f _ (by show W.q i≠_;omega)).trans m,y,k.mono (λ_ h=>h) λid h=>f id (by omega),A.mono (λ_ h=>h) λid h=>f id (by omega)⟩
theorem jO.last{i:Nat}(h:jO K W H N g (i::td)):lenV W.td=some (.int .i64 (.ofNat (td.length+1)) 0)/\(∃p,Ai 1 W.td (.int .i64 (.ofNat td.length) 0)=some p/\AX p G H=some (.int .i64 (.ofNat i) 0))/\
 ∃v',wB 1 W.td E0 none (some (.c (.int .i64 (.ofNat td.length) 0))) none=some v'/\Zp v'=true/\A8 v'=[v']/\Sk H 1 (λid=>K.kb<id/\id<N/\W.own id=3) v' (nums td.reverse):=by
 have e:nums (i::td).reverse=nums td.reverse++[[.int .i64 (.ofNat i) 0]]:=by rw[List.reverse_cons];exact List.map_append
 have d:(nums td.reverse).length=td.length:=by unfold nums;rw[List.length_map,List.length_reverse]
 have f:=h.todo
 rw[e]at f
 refine⟨?_,?_,?_⟩
 ·rw[(f.el (G:=G) (by omega)).len,List.length_append,d];rfl
 ·obtain⟨p,u,m⟩:=(f.el (G:=G) (by omega)).at (i:=td.length) (c:=[.int .i64 (.ofNat i) 0]) (by rw[List.getElem?_append_right (by omega),d,Nat.sub_self];rfl)
  exact⟨p,u,Jv m⟩
 ·obtain⟨v',v,w,k⟩:=f.pop (i:=td.length) (q:=.i64) (by rw[List.length_append,d];show td.length<td.length+1;omega)
  rw[List.take_left' d]at k
  exact⟨v',v,k.ok.1,k.ok.2.1,k⟩
end
def AO5(K:eU):Prop:=∀x∈K.code,∃c i:Nat,x=⟨.ofNat c,.ofNat i⟩/\AGS K.pool K.nl c i
section
variable{K:eU}{W:Wv}{G:AY}{H H' H'':Heap}{n n' n'' N:Nat}{g:Uf}{td:List Nat}{k:KV}
theorem AXl{fs:Tab}{a b:Uf}{d:Nat}{s:CP}{f:Bool}(h:FY fs a d s=some (b,f)):d<a.length/\∃x,b=a.set d (some x):=by
 unfold FY at h
 cases e:a[d]? with
 |none=>rw[e]at h;cases h
 |some o=>
  refine⟨(List.getElem?_eq_some_iff.1 e).1,?_⟩
  rw[e]at h
  cases o with
  |none=>cases h;exact⟨_,rfl⟩
  |some g=>
   obtain⟨k,-,i⟩:=Option.map_eq_some_iff.1 h
   cases i;exact⟨_,rfl⟩
theorem AUc{fs:Tab}{a b:Uf}{d:Nat}{s:CP}{g:Bool}{td:List Nat}{N:Nat}(h:FY fs a d s=some (b,g))(u:a.length=N)(m:∀i∈td,i<N/\∃s,a[i]? =some (some s)):
 ∀i∈(bif g then d::td else td),i<N/\∃s,b[i]? =some (some s):=by
 obtain⟨k,x,rfl⟩:=AXl h
 intro i f
 have f:i=d∨i∈td:=by
  cases g with
  |true=>exact List.mem_cons.1 f
  |false=>exact .inr f
 by_cases e:i=d
 ·subst e;exact⟨by omega,x,List.getElem?_set_self k⟩
 ·obtain⟨p,y,q⟩:=m i (f.resolve_left e)
  exact⟨p,y,by rw[List.getElem?_set_ne (Ne.symm e)];exact q⟩
theorem AW4(b:Bool)(i:Nat)(td:List Nat):(bif b then[i]else[])++td=(bif b then i::td else td):=by cases b<;>rfl
def AWX(c:Cx)(m i:Nat)(x:Ins)(t:CP)(a:Uf)(td:List Nat):Option Int:=
 match(bif ends x then some (a,false)else FY c.fs a (i+1) t)with|none=>some ((Zj c.code.length i (i+1):Nat):Int)|some (a2,b2)=>runT c m a2 ((bif b2 then[i+1]else[])++td)
def AcK(c:Cx)(m i:Nat)(x:Ins)(t:CP)(a:Uf)(td:List Nat):Option Int:=
 match(bif jumps x then FY c.fs a x.arg.toNat t else some (a,false))with|none=>some ((Zj c.code.length i x.arg.toNat:Nat):Int)|some (a1,b1)=>AWX c m i x t a1 (bif b1 then x.arg.toNat::td else td)
theorem AY0{c:Cx}{m i:Nat}{x:Ins}{s t:CP}{g:Uf}{d:List Nat}(e:stepT c s x=some t):
 (match Wh c g i x s with|.inl j=>some (j:Int)|.inr (b,ps)=>runT c m b (ps++d))=AcK c m i x t g d:=by
 unfold Wh AcK AWX
 rw[e]
 dsimp only
 cases(bif jumps x then FY c.fs g x.arg.toNat t else some (g,false))with
 |none=>rfl
 |some p=>
  obtain⟨f,k⟩:=p
  dsimp only
  cases(bif ends x then some (f,false)else FY c.fs f (i+1) t)with
  |none=>rfl
  |some p=>
   obtain⟨q,u⟩:=p
   dsimp only
   rw[List.append_assoc,AW4 k]
theorem AVt(hG:Vz G)(hI:AO5 K){H0:Heap}{fuel:Nat}{r:Int}(hE:K.En G H0)(hw:jO K W H0 n g td)(E:runT K.cx fuel g td=some r)(hf:td.length+2*fuel<1099511627776)(ht:∀i∈td,i<K.code.length/\∃s,g[i]? =some (some s))
 (hk:∀H' n',n<=n'->Kb K.b H0 K.kb H' K.kb->k (.int .i64 r 0) H' n'):lfp _ (KC lfp G (Runs F G) k) (.ptr K.kb 0,H0,n):=by
 have hb:K.b<K.kb:=hE.img.tab.bn
 refine IY (J:=λm st=>∃H' n' W g td,st=(.ptr K.kb 0,H',n')/\n<=n'/\Kb K.b H0 K.kb H' K.kb/\jO K W H' n' g td/\runT K.cx m g td=some r/\td.length+2*m<1099511627776/\(∀i∈td,i<K.code.length/\∃s,g[i]? =some (some s))) ?_ (m:=fuel)
  ⟨H0,n,W,g,td,rfl,Nat.le_refl _,.refl ..,hw,E,hf,ht⟩
 rintro I m st ⟨H,C,W,g,td,rfl,m6,f0,hw,E,hf,ht⟩ ih
 show LX lfp G (Runs F G) k I (.ptr K.kb 0) H C
 delta LX
 have d7:=hE.kb' f0
 have v4:=hw.kn
 cases m with
 |zero=>cases E
 |succ m=>
 cases td with
 |nil=>
  have Q:lenV W.td=some (.int .i64 (.ofNat 0) 0):=by rw[(hw.todo.el (G:=G) (by omega)).len];rfl
  simp only[go_sem,Nat.reduceAdd,AU (off:=20) hw.box (v:=W.td) rfl,Q,ALA,Nat.lt_irrefl,decide_false]
  delta LZ
  have e:r= -1:=(Option.some.inj E).symm
  rw[e]at hk
  exact hk _ _ m6 f0
 |cons i u=>
  obtain⟨d8,s,d9⟩:=ht i (List.mem_cons_self ..)
  obtain⟨Q,⟨p,hp,m7⟩,v',m8,ok1,k6,m9⟩:=hw.last (G:=G)
  have p0:u.length+1<9223372036854775808:=by simp only[List.length_cons]at hf;omega
  simp only[go_sem,Nat.reduceAdd,AU (off:=20) hw.box (v:=W.td) rfl,Q,ALA,show decide (0<u.length+1)=true by rw[decide_eq_true_eq];omega,AKY (show 1<=u.length+1 by omega) p0,Nat.add_sub_cancel,hp,m7,m8]
  refine vC hw.box ok1 (by rw[k6];rfl) (by omega) (by show 20+1<=21;omega) λH1 g1 s1=>?_
  rw[k6,AK2]at g1
  have p1:=hw.Aer g1 s1 m9 (by simp)
  have f1:Kb K.b H K.kb H1 K.kb:=⟨Nat.le_refl _,λd h1 _=>s1 d (by omega),λhs=>hs.same (s1 _ (by omega))⟩
  have d7:=d7.kb' f1
  have v5:i<(K.code.map Ins.cells).length:=by rw[List.length_map];exact d8
  obtain⟨p2,p3,N⟩:=d7.code.el.at (i:=i) (c:=(K.code[i]).cells) (by simp[d8])
  obtain⟨c,j,hx,k7⟩:=hI K.code[i] (List.getElem_mem d8)
  have p4:K.cx.at i=K.code[i]:=by
   show(K.code[i]?).getD xZ=_
   rw[List.getElem?_eq_getElem d8];rfl
  rw[hx]at N
  have N:=Bj N
  simp only[go_sem,Nat.reduceAdd,AU (off:=13) g1 (v:=K.vc) rfl,p3,N]
  show Bz 2 (.ptr C 0) (.agg (Ins.cells ⟨.ofNat c,.ofNat j⟩)) _ _ _
  refine Yb rfl rfl (by omega) λH2 f2 g2=>?_
  have i1:=f2.kb (b:=K.b) (by omega)
  have R:=(p1.kb i1 (Nat.le_refl _) hb).raise (own:=λd=>if d<C then W.own d else 0) (n:=C+1) (by omega) λd k8=>if_pos k8
  have p5:=d7.kb' (i1.low (by omega))
  obtain⟨i2,S⟩:=Abh (G:=G) R d9
  have S:AX (.ptr W.ab (i*1)) G H2=some (.ptr (W.q i) 0):=S
  obtain⟨gq,hq,p6,p7⟩:=R.st i s d9
  have gq:T.get H2 (W.q i)=some (one [W.vl i,W.vs i]):=gq
  obtain⟨ol,os,k9,obs⟩:=R.ok i s d9
  have v2:=hE.nl
  have i2:Ai 1 (K.vat W) (.int .i64 (.ofNat i) 0)=some (.ptr W.ab (i*1)):=i2
  have i3:T.get H2 K.kb=some (one (K.cells (K.vat W) v')):=R.box
  simp only[go_sem,Nat.reduceAdd,AU (off:=19) i3 (v:=K.vat W) rfl,i2,S,CG (m:=2) gq (by omega) rfl]
  have p8:=(p6.sv (G:=G)).mono (B:=λd=>d<C+1) (λd h=>h.2.1) λ_ _=>rfl
  have p9:=(p7.sv (G:=G)).mono (B:=λd=>d<C+1) (λd h=>h.2.1) λ_ _=>rfl
  refine AUd p8 p9 (λd h=>h) (by omega) (by rw[List.length_reverse];omega) λH3 n3 v w f3 hv q0 hd=>?_
  have q1:=f3.le
  show Bz 2 (.ptr n3 0) (.agg [v,w]) _ _ _
  refine Yb rfl rfl (by omega) λH4 f4 g4=>?_
  have f8:=f3.trans f4
  have m0:=f8.get g2 (by omega)
  have m1:=R.kb (f8.kb (b:=K.b) (by omega)) (Nat.le_refl _) hb
  have q2:=p5.kb' ((f8.kb (b:=K.b) (by omega)).low (by omega))
  have q3:IZ H4 (C+1) (n3+1) n3 s:=⟨q1,by omega,⟨v,w,g4,hv.mono (λd h=>⟨h.1,by omega,by omega⟩) (λd h=>f4.same d h.2),q0.mono (λd h=>⟨h.1,by omega,by omega⟩) (λd h=>f4.same d h.2),hd⟩,ol,os,by omega,obs⟩
  simp only[CG (m:=2) m0 (by omega) rfl,AP]
  have hA:K.At G H4 (C+1) (K.vat W) v':=q2.at' m1.box (by omega)
  have wk:runT K.cx (m+1) g (i::u)=match Wh K.cx g i ⟨.ofNat c,.ofNat j⟩ s with|.inl j=>some (j:Int)|.inr (b,ps)=>runT K.cx m b (ps++u):=by
   show(match Wh K.cx g i (K.cx.at i) (Uf.st g i)with|.inl j=>some (j:Int)|.inr (b,ps)=>runT K.cx m b (ps++u))=_
   rw[p4,hx,show Uf.st g i=s by unfold Uf.st;rw[d9];rfl]
  rw[wk]at E
  have m2:∀{H':Heap} {n':Nat},Kw K.b (C+1) H4 (n3+1) H' n'->Kb K.b H0 K.kb H' K.kb:=λf=>((f0.trans f1).trans ((i1.low (by omega)).trans ((f8.kb (b:=K.b) (by omega)).low (by omega)))).trans (f.kb.low (by omega))
  refine Acu hG hA q3 (by omega) (by rw[k9];exact k7) ⟨λH5 n5 f5 e=>?_,λH5 n5 U f5 e A=>?_⟩
  ·simp only[BZ,Bool.not_false,go_sem]
   unfold Wh at E
   rw[e]at E
   have e:r=(i:Int):=(Option.some.inj E).symm
   rw[e]at hk
   exact hk _ _ (by have:=f5.le;omega) (m2 f5)
  ·have v6:=f5.le
   obtain⟨i4,i5,i6,q4,q5,v7⟩:=A.is
   have L:=f5.kb.get m0 (by omega) (by omega)
   have i7:=(m1.mono (H':=H5) (Nat.le_refl _) λd h1 h2 _=>f5.kb.same d (by omega) (by omega)).raise (own:=λd=>if d<C then W.own d else 0) (n:=n5) (by omega) λd k8=>rfl
   have o0:∀d,C<=d->(if d<C then W.own d else 0)=0:=λd h=>if_neg (by omega)
   have i8:Sv G H5 (λd=>K.kb<d/\d<n5/\(if d<C then W.own d else 0)=0) i4 U.loc:=(q4.sv (G:=G)).mono (λd h=>⟨by omega,h.2.1,o0 d (by omega)⟩) λ_ _=>rfl
   have i9:Sv G H5 (λd=>K.kb<d/\d<n5/\(if d<C then W.own d else 0)=0) i5 U.stk.reverse:=(q5.sv (G:=G)).mono (λd h=>⟨by omega,h.2.1,o0 d (by omega)⟩) λ_ _=>rfl
   have g8:U.loc.length=K.nl:=(AO3 e).trans k9
   have f9:=m2 f5
   have q6:=hE.kb' f9
   rw[AY0 e]at E
   have m3:∀i∈u,i<K.code.length/\∃s,g[i]? =some (some s):=λi hi=>ht i (List.mem_cons_of_mem _ hi)
   simp only[List.length_cons]at hf
   have O:∀(W6:Wv) (H6:Heap) (n6:Nat) (g6:Uf) (D:List Nat),Kb K.b H0 K.kb H6 K.kb->n<=n6->n3<n6->jO K W6 H6 n6 g6 D->T.get H6 C=some (one (Ins.cells ⟨.ofNat c,.ofNat j⟩))->T.get H6 n3=some (one [i4,i5])->
    Sv G H6 (λd=>K.kb<d/\d<n6/\W6.own d=0) i4 U.loc->Sv G H6 (λd=>K.kb<d/\d<n6/\W6.own d=0) i5 U.stk.reverse->D.length<=u.length+1->(∀i∈D,i<K.code.length/\∃s,g6[i]? =some (some s))->
    AWX K.cx m i ⟨.ofNat c,.ofNat j⟩ U g6 D=some r->
    (AL (AX (.ptr C 0) G H6) λk0=>Runs F G XF [k0] H6 n6 λk1 H n=>AL (FK k1) λx=>Ak x true (some (.ptr K.kb 0)) λV=>Ak x true (some (.int .i64 (.ofNat i) 0)) λX=>Ak x true (B2.ev .add X (.int .i64 (.ofNat 1) 0)) λY=>
     Ak x true (Aj 2 (.ptr n3 0) G H) λZ=>DY x true (Runs F G EH [V,Y,Z] H n) H n λd0 H n=>Ak x true (FK d0) λd1=>AL (Aw x d1 (.bool false)) λd2=>
      AZ d2 true (AL (B2.ev .add (.int .i64 (.ofNat i) 0) (.int .i64 (.ofNat 1) 0)) λd3=>Runs F G Ei [.ptr K.kb 0,.int .i64 (.ofNat i) 0,d3] H n λd4 H n=>k d4 H n) (I (.ptr K.kb 0,H,n))):=by
    intro W6 H6 n6 g6 D f6 q7 v3 d5 q8 q9 u0 u1 v8 g9 y
    rw[AU (off:=0) q8 (v:=.int .i64 (.ofNat c) 0) rfl,AP]
    refine AdV ?_
    have k2:ends ⟨.ofNat c,.ofNat j⟩=(decide (c=27)||decide (c=29)):=by
     show(decide (Int.ofNat c=27)||decide (Int.ofNat c=29))=_
     rw[show decide (Int.ofNat c=27)=decide (c=27)by rw[decide_eq_decide];show(c:Int)=27↔_;omega,show decide (Int.ofNat c=29)=decide (c=29)by rw[decide_eq_decide];show(c:Int)=29↔_;omega]
    unfold AWX at y
    rw[k2]at y
    cases m4:decide (c=27)||decide (c=29)with
    |true=>
     rw[m4]at y
     simp only[BZ,Bool.not_true,go_sem]
     have u2:=hE.cl
     exact ih m _ (by omega) ⟨H6,n6,W6,g6,D,rfl,q7,f6,d5,y,by omega,g9⟩
    |false=>
     rw[m4]at y
     have u2:=hE.cl
     have u3:=hE.kb' f6
     simp only[BZ,Bool.not_false,go_sem,DI (show i+1<9223372036854775808 by omega),CG (m:=2) q9 (by omega) rfl]
     refine ASx u3 d5 u0 u1 A.ol A.os g8 A.bs (by omega) (λH7 n7 M gb e7=>?_) λW7 H7 n7 g7 ch e7 k3 k4 M=>?_
     ·rw[cond_false,show FY K.cx.fs g6 (i+1) U=none from e7]at y
      have e8:r=(Zj K.code.length i (i+1):Nat):=(Option.some.inj y).symm
      rw[e8]at hk
      simp only[BZ,Bool.not_false,go_sem]
      have g0:=f6.trans (M.kb (by have:=d5.kn;omega))
      exact AUt (hE.kb' g0) gb (hk _ _ (by have:=M.le;omega) g0)
     ·rw[cond_false,show FY K.cx.fs g6 (i+1) U=some (g7,ch)from e7]at y
      simp only[BZ,Bool.not_true,go_sem]
      have g0:=f6.trans (M.kb (by have:=d5.kn;omega))
      have y:runT K.cx m g7 ((bif ch then[i+1]else[])++D)=some r:=y
      rw[AW4]at y
      have hl:(bif ch then(i+1)::D else D).length<=D.length+1:=by cases ch<;>simp
      exact ih m _ (by omega) ⟨H7,n7,W7,g7,_,rfl,by have:=M.le;omega,g0,k3,y,by omega,AUc e7 d5.gl g9⟩
   have g3:jumps ⟨.ofNat c,.ofNat j⟩=(decide (c=27)||decide (c=28)):=by
    show(decide (Int.ofNat c=27)||decide (Int.ofNat c=28))=_
    rw[show decide (Int.ofNat c=27)=decide (c=27)by rw[decide_eq_decide];show(c:Int)=27↔_;omega,show decide (Int.ofNat c=28)=decide (c=28)by rw[decide_eq_decide];show(c:Int)=28↔_;omega]
   unfold AcK at E
   rw[g3]at E
   have P:(decide (c=27)||decide (c=28))=true->(AL (AX (.ptr C 1) G H5) λu4=>AL (Aj 2 (.ptr n3 0) G H5) λu5=>Runs F G EH [.ptr K.kb 0,u4,u5] H5 n5 λu6 H n=>AL (FK u6) λu7=>
    AZ u7 true (AL (AX (.ptr C 1) G H) λu8=>Runs F G Ei [.ptr K.kb 0,.int .i64 (.ofNat i) 0,u8] H n λu9 H n=>k u9 H n)
     (AL (AX (.ptr C 0) G H) λk0=>Runs F G XF [k0] H n λk1 H n=>AL (FK k1) λx=>Ak x true (some (.ptr K.kb 0)) λV=>Ak x true (some (.int .i64 (.ofNat i) 0)) λX=>Ak x true (B2.ev .add X (.int .i64 (.ofNat 1) 0)) λY=>
      Ak x true (Aj 2 (.ptr n3 0) G H) λZ=>DY x true (Runs F G EH [V,Y,Z] H n) H n λd0 H n=>Ak x true (FK d0) λd1=>AL (Aw x d1 (.bool false)) λd2=>
       AZ d2 true (AL (B2.ev .add (.int .i64 (.ofNat i) 0) (.int .i64 (.ofNat 1) 0)) λd3=>Runs F G Ei [.ptr K.kb 0,.int .i64 (.ofNat i) 0,d3] H n λd4 H n=>k d4 H n) (I (.ptr K.kb 0,H,n)))):=by
    intro hj
    rw[hj]at E
    rw[AU (off:=1) L (v:=.int .i64 (.ofNat j) 0) rfl,AP,CG (m:=2) i6 (by omega) rfl,AP]
    refine ASx q6 i7 i8 i9 A.ol A.os g8 A.bs (by omega) (λH7 n7 M gb e7=>?_) λW7 H7 n7 g7 ch e7 k3 k4 M=>?_
    ·have e7:FY K.cx.fs g (Int.ofNat j).toNat U=none:=e7
     rw[cond_true,e7]at E
     have e8:r=(Zj K.code.length i j:Nat):=(Option.some.inj E).symm
     rw[e8]at hk
     have g5:=f9.trans (M.kb (by omega))
     have v0:=(M.same C (by omega) (by omega) (.inr (.inr (o0 _ (Nat.le_refl _))))).trans L
     simp only[BZ,Bool.not_false,go_sem]
     rw[AU (off:=1) v0 (v:=.int .i64 (.ofNat j) 0) rfl,AP]
     exact AUt (hE.kb' g5) gb (hk _ _ (by have:=M.le;omega) g5)
    ·have v1:FY K.cx.fs g (Int.ofNat j).toNat U=some (g7,ch):=e7
     rw[cond_true,v1]at E
     have g5:=f9.trans (M.kb (by omega))
     have v9:=M.le
     have i0:∀d,d<n5->C<=d->T.get H7 d=T.get H5 d:=λd h1 h2=>M.same d h1 (by omega) (.inr (.inr (o0 d h2)))
     simp only[BZ,Bool.not_true,go_sem]
     have hl:(bif ch then j::u else u).length<=u.length+1:=by cases ch<;>simp
     refine O W7 H7 n7 g7 _ g5 (by omega) (by omega) k3 ((i0 C (by omega) (Nat.le_refl _)).trans L) ((i0 n3 (by omega) (by omega)).trans i6)
      (i8.mono (λd h=>⟨h.1,by omega,(k4 d h.2.1).trans h.2.2⟩) λd h=>M.same d h.2.1 (by omega) (.inr (.inr h.2.2))) (i9.mono (λd h=>⟨h.1,by omega,(k4 d h.2.1).trans h.2.2⟩) λd h=>M.same d h.2.1 (by omega) (.inr (.inr h.2.2))) hl (AUc e7 i7.gl m3) ?_
     exact E
   cases hj:decide (c=27)||decide (c=28)with
   |true=>
    have P:=P hj
    by_cases d6:c=27
    ·simp only[BZ,Bool.not_true,go_sem,Nat.reduceAdd,AU (off:=0) L (v:=.int .i64 (.ofNat c) 0) rfl,lW,decide_eq_true d6]
     exact P
    ·have k5:c=28:=by rw[decide_eq_false d6]at hj;exact of_decide_eq_true hj
     simp only[BZ,Bool.not_true,go_sem,Nat.reduceAdd,AU (off:=0) L (v:=.int .i64 (.ofNat c) 0) rfl,lW,decide_eq_false d6,decide_eq_true k5]
     exact P
   |false=>
    rw[hj]at E
    have d6:decide (c=27)=false:=by cases h:decide (c=27)<;>simp_all
    have k5:decide (c=28)=false:=by cases h:decide (c=28)<;>simp_all
    simp only[BZ,Bool.not_true,go_sem,Nat.reduceAdd,AU (off:=0) L (v:=.int .i64 (.ofNat c) 0) rfl,lW,d6,k5]
    have E:AWX K.cx m i ⟨.ofNat c,.ofNat j⟩ U g u=some r:=E
    have m5:=O _ H5 n5 g u f9 (by omega) (by omega) i7 L i6 i8 i9 (by omega) m3 E
    rw[AU (off:=0) L (v:=.int .i64 (.ofNat c) 0) rfl,AP]at m5
    exact m5
end
theorem AaG{z d m:Nat}{Z:LV}{H:Heap}{n:Nat}{P:KV}(f:d*m<=281474976710656)(h:∀H',Kp H n H' (n+1)->(∃t,T.get H' n=some (.arr z m t)/\∀i,i<m->T.get t i=some Z)->P (.sl n 0 m m z) H' (n+1)):
 Bc (I5 z d Z (.c (.int .i64 (.ofNat m) 0)) (.c (.int .i64 (.ofNat m) 0)) E0) H n P:=by
 show Ji (band (Nat.ble m m) (Nat.ble (Nat.mul d m) 281474976710656)) (DT n λn=>P (.sl n 0 m m z) (T.set H n (.arr z m (AGU Z m .e))) (Nat.succ n))
 rw[show Nat.ble m m=true by rw[Nat.ble_eq];omega,show Nat.ble (Nat.mul d m) 281474976710656=true by rw[Nat.ble_eq];exact f]
 show DT n λn=>P (.sl n 0 m m z) (T.set H n (.arr z m (AGU Z m .e))) (Nat.succ n)
 rw[BL]
 exact h _ ((Kp.refl H n).new _ (Nat.le_refl _) (by omega)) ⟨_,T.Ag ..,λi g=>by rw[AJn,if_pos g]⟩
theorem AdZ{z id m l:Nat}(h:l<=m):wB z (.sl id 0 m m z) E0 (some (.c (.int .i64 (.ofNat l) 0))) none none=some (.sl id l (m-l) (m-l) z):=by
 show BI (Nat.beq z z) (BI (band (Nat.ble l m) (band (Nat.ble m m) (Nat.ble m m))) (f3 (0+l) (m-l) (m-l) λo d c=>.sl id o d c z))=_
 rw[Cm,show Nat.ble l m=true by rw[Nat.ble_eq];exact h,show Nat.ble m m=true by rw[Nat.ble_eq];omega]
 show Dx (0+l) (λa=>Dx (m-l) λb=>Dx (m-l) λc=>some (.sl id a b c z))=_
 rw[Bv,Bv,Bv,Nat.zero_add]
theorem AWq{G:AY}{z id o ln c d:Nat}{w:V}{LS:EL}{t:T LV}{H:Heap}{n:Nat}{P:KV}(f:elems w G H z=some LS)(g:T.get H id=some (.arr z d t))(i:LS.length<=ln)(k:o+LS.length<=d)
 (h:∀H',T.get H' id=some (.arr z d (Et LS o t))->(∀j,j≠id->T.get H' j=T.get H j)->P (.int .i64 (.ofNat LS.length) 0) H' n):copyV z (.sl id o ln c z) w G H n P:=by
 unfold copyV
 rw[f,V8]
 show Ji (Nat.beq z z) (Gu (T.get H id) λb=>AXJ id o z (aK ln LS) H n P b)
 rw[Cm,X5,g,V8,gQ,List.take_of_length_le i]
 show Ji (band (Nat.beq z z) (Nat.ble (Nat.add o (len LS)) d)) (DT (len LS) λm=>P (.int .i64 (.ofNat m) 0) (T.set H id (.arr z d (Et LS o t))) n)
 rw[Cm,len_eq,show Nat.ble (Nat.add o LS.length) d=true by rw[Nat.ble_eq];exact k]
 show DT LS.length (λm=>P (.int .i64 (.ofNat m) 0) (T.set H id (.arr z d (Et LS o t))) n)
 rw[BL]
 exact h _ (T.Ag ..) λj p=>T.Ac _ _ (Ne.symm p)
section
variable{K:eU}{G:AY}{H:Heap}{n:Nat}{k:KV}
def xW(K:eU):List Ty:=bif K.st then[]else[⟨K.nm,false⟩]
def AIc(K:eU):CP:=⟨xW K++K.ps++List.replicate (K.nl-(xW K).length-K.ps.length) BU,[]⟩
theorem AK3(h:(xW K).length+K.ps.length<=K.nl):(AIc K).loc.length=K.nl:=by
 show(xW K++K.ps++List.replicate _ BU).length=K.nl
 simp only[List.length_append,List.length_replicate];omega
theorem AXg(hG:Vz G)(hI:AO5 K){H0:Heap}{n0 fuel y q:Nat}{r:Int}{t0:T LV}(u:K.En G H)(w:T.get H K.kb=some (one (K.cells .Ad .Ad)))(U:K.kb<n)(p:(xW K).length+K.ps.length<=K.nl)(V:0<K.code.length)
 (D:T.get H y=some (one [.sl q 0 K.nl K.nl 2,.Ad])) (Q:K.kb<y/\y<n) (W:T.get H q=some (.arr 2 K.nl t0)) (A:K.kb<q/\q<n/\q≠y) (X:∀i,i<K.nl->T.get t0 i=(((xW K)++List.replicate (K.nl-(xW K).length) BU)[i]?).map Ty.cells)
 (hr:runT K.cx fuel (at0 K.code.length (AIc K)) [0]=some r) (hf:2*fuel+1<1099511627776) (d8:n0<=n) (f0:Kb K.b H0 K.kb H K.kb)
 (hk:∀H' n',n0<=n'->Kb K.b H0 K.kb H' K.kb->k (.int .i64 r 0) H' n'):Fq lfp G (Runs F G) k (.ptr K.kb 0) (.ptr y 0) (.int .i64 (.ofNat (xW K).length) 0) H n:=by
 delta Fq
 have hb:K.b<K.kb:=u.img.tab.bn
 have d7:=u.nl
 have d9:=u.cl
 simp only[go_sem,Nat.reduceAdd,AU (off:=0) D (v:=.sl q 0 K.nl K.nl 2) rfl,AdZ (z:=2) (id:=q) (show(xW K).length<=K.nl by omega),AU (off:=16) w (v:=K.vp) rfl]
 refine AWq (LS:=tys K.ps) u.ps.el.2 W (by rw[EP];omega) (by rw[EP];omega) λH1 g1 R=>?_
 have E:=(R K.kb (by omega)).trans w
 have Y:=(R y (by omega)).trans D
 have f1:Kb K.b H K.kb H1 K.kb:=⟨Nat.le_refl _,λd h _=>R d (by omega),λZ=>Z.same (R _ (by omega))⟩
 have d0:=u.kb' f1
 have ANq:lenV K.vc=some (.int .i64 (.ofNat K.code.length) 0):=by rw[d0.code.el.len,List.length_map]
 simp only[go_sem,Nat.reduceAdd,AU (off:=13) E (v:=K.vc) rfl,ANq]
 refine AaG (by omega) λH2 I ⟨ta,g2,d1⟩=>?_
 refine vC (I.get E (by omega)) rfl rfl (by omega) (by show 19+1<=21;omega) λC g3 J=>?_
 have g3:T.get C K.kb=some (one (K.cells (.sl n 0 K.code.length K.code.length 1) .Ad)):=g3
 have d2:=(J y (by omega)).trans (I.get Y (by omega))
 have d3:=(J q (by omega)).trans (I.get g1 (by omega))
 have f3:Kb K.b H K.kb C K.kb:=f1.trans ⟨Nat.le_refl _,λd h _=>by rw[J d (by omega),I.same d (by omega)],λZ=>Z.same (by rw[J _ (by omega),I.same _ (by omega)])⟩
 have L:=u.kb' f3
 let S:Wv:=⟨n,λd=>if d=K.kb then 1 else if d=n then 2 else 0,λ_=>0,λ_=>.Ad,λ_=>.Ad,.Ad⟩
 have B:∀(i:Nat) (o:Option CP),(List.replicate K.code.length (none:Option CP))[i]? =some o->o=none/\i<K.code.length:=λi o h=>by
  obtain⟨Q,A⟩:=List.getElem?_eq_some_iff.1 h
  rw[List.getElem_replicate]at A
  rw[List.length_replicate]at Q
  exact⟨A.symm,Q⟩
 have hw:jO K S C (n+1) (List.replicate K.code.length none) []:=by
  refine⟨by omega,if_pos rfl,g3,List.length_replicate ..,⟨U,Nat.lt_succ_self n⟩,?_,⟨ta,(J n (by omega)).trans g2,λi o g=>?_⟩,λi s g=>?_,λi s g=>?_,.nil,by show 0<=_;omega⟩
  ·show(if n=K.kb then 1 else if n=n then 2 else 0)=2
   rw[if_neg (by omega),if_pos rfl]
  ·obtain⟨rfl,h⟩:=B i o g;exact d1 i h
  ·cases(B i _ g).1
  ·cases(B i _ g).1
 have ASe:∀d,K.kb<d->d<n->S.own d=0:=λd Q A=>by show(if d=K.kb then 1 else if d=n then 2 else 0)=0;rw[if_neg (by omega),if_neg (by omega)]
 have d4:Sv G C (λd=>K.kb<d/\d<n+1/\S.own d=0) (.sl q 0 K.nl K.nl 2) (AIc K).loc:=by
  refine⟨⟨rfl,?_⟩,(λd h=>by cases h;exact⟨A.1,by omega,ASe _ A.1 A.2.1⟩),.inr rfl,⟨rfl,rfl,AXj ..⟩,rfl⟩
  show(Bool.rec (motive:=λ_=>Option EL) none (CQ C q 2 K.nl 0) (Nat.beq 2 2):Option EL)=_
  rw[Cm]
  refine bW _ _ _ (by rw[EP,AK3 p]) λi c g=>?_
  have M:i<K.nl:=by have:=(List.getElem?_eq_some_iff.1 g).1;rw[EP,AK3 p]at this;exact this
  rw[Nat.zero_add,bI d3 (by omega) M,Ef,EP]
  unfold tys at*
  rw[List.getElem?_map]at g
  have g:((xW K++K.ps++List.replicate (K.nl-(xW K).length-K.ps.length) BU)[i]?).map Ty.cells=some c:=g
  rw[<-g]
  by_cases hc:(xW K).length<=i/\i<(xW K).length+K.ps.length
  ·rw[if_pos hc,List.getElem?_append_left (by rw[List.length_append];omega),List.getElem?_append_right (by omega),List.getElem?_map]
  ·rw[if_neg hc,X i M]
   by_cases hp:i<(xW K).length
   ·rw[List.getElem?_append_left hp,List.getElem?_append_left (by rw[List.length_append];omega),List.getElem?_append_left hp]
   ·rw[List.getElem?_append_right (by omega),List.getElem?_append_right (by rw[List.length_append];omega),List.length_append,List.getElem?_replicate,List.getElem?_replicate,if_pos (by omega),if_pos (by omega)]
 have d5:Sv G C (λd=>K.kb<d/\d<n+1/\S.own d=0) .Ad (AIc K).stk.reverse:=⟨APM,(λd h=>by cases h),.inl ⟨rfl,rfl⟩,⟨rfl,rfl,rfl⟩,rfl⟩
 simp only[CG (m:=2) d2 (by omega) rfl,AP]
 have N:FY K.fs (List.replicate K.code.length none) 0 (AIc K)=some (at0 K.code.length (AIc K),true):=by
  unfold FY at0
  rw[List.getElem?_replicate,if_pos V]
 refine ASx L hw d4 d5 (λx f=>?_) (λx f=>by cases f) (AK3 p) (by show 0<=_;omega) (by show 0<_;omega) (λH4 n4 f4 gb e=>?_) λW4 H4 n4 g4 ch e d6 ho f4=>?_
 ·rcases List.mem_append.1 f with f|f
  ·rcases List.mem_append.1 f with f|f
   ·unfold xW at f
    cases O:K.st with
    |true=>rw[O]at f;cases f
    |false=>rw[O]at f;rw[List.mem_singleton.1 f];exact u.nok
   ·exact u.ps.ok x f
  ·rw[List.eq_of_mem_replicate f];exact λ_=>rfl
 ·rw[N]at e;cases e
 ·rw[N]at e
  cases e
  have P:=f4.kb (by omega)
  have f5:=f4.le
  refine AVt hG hI (L.kb' P) d6 (td:=[0]) hr (by show 1+2*fuel<_;omega) (λi g=>?_) λH' n' f6 f'=>hk H' n' (by omega) (((f0.trans f3).trans P).trans f')
  rw[List.mem_singleton.1 g]
  exact⟨V,AIc K,by unfold at0;rw[List.getElem?_set_self (by rw[List.length_replicate];exact V)]⟩
end
section
variable{K:eU}{G:AY}{H:Heap}{n:Nat}{k:KV}
theorem AWi{a b c d e:Nat}:BH [.Ad,.Ad] [(0,1,.c (.sl a b c d e))]=some (.agg [.sl a b c d e,.Ad]):=rfl
theorem Aec(L:Vz G)(M:AO5 K){fuel:Nat}{r:Int}(A:K.En G H)(g:T.get H K.kb=some (one (K.cells .Ad .Ad)))(W:K.kb<n)(m:(xW K).length+K.ps.length<=K.nl)(N:0<K.code.length)
 (O:runT K.cx fuel (at0 K.code.length (AIc K)) [0]=some r) (P:2*fuel+1<1099511627776)
 (Q:∀H' n',n<=n'->Kb K.b H K.kb H' K.kb->k (.int .i64 r 0) H' n'):Runs F G RZ [.ptr K.kb 0] H n k:=by
 refine go1 (xu BF G) ?_
 delta Y6
 have hb:K.b<K.kb:=A.img.tab.bn
 have R:=A.nl
 simp only[go_sem,Nat.reduceAdd,AU (off:=11) g (v:=.int .i64 (.ofNat K.nl) 0) rfl]
 refine AaG (by omega) λH1 X ⟨t0,Y,p⟩=>?_
 rw[AWi,AP]
 show Bz 2 (.ptr (n+1) 0) (.agg [.sl n 0 K.nl K.nl 2,.Ad]) _ _ _
 refine Yb rfl rfl (by omega) λZ S D=>?_
 have q:=X.trans S
 have f:=q.get g (by omega)
 have u:=S.get Y (by omega)
 have E:Kb K.b H K.kb Z K.kb:=(q.kb (b:=K.b) (by omega)).low (by omega)
 have I:=A.kb' E
 simp only[go_sem,Nat.reduceAdd,AU (off:=15) f (v:=.bool K.st) rfl,BZ]
 have d:xW K=bif K.st then[]else[⟨K.nm,false⟩]:=rfl
 cases w:K.st with
 |true=>
  rw[w,cond_true]at d
  simp only[Bool.not_true,go_sem]
  have key:=AXg L M (n0:=n) (H0:=H) (k:=k) (n:=n+1+1) I f (by omega) m N D ⟨by omega,by omega⟩ u ⟨by omega,by omega,by omega⟩ (λi B=>?_) O P (by omega) E Q
  ·rw[d]at key;exact key
  ·rw[p i B,d,List.nil_append,List.getElem?_replicate,if_pos (by simpa using B)];rfl
 |false=>
  rw[w,cond_false]at d
  have J:(xW K).length=1:=by rw[d];rfl
  simp only[Bool.not_false,go_sem,Nat.reduceAdd,AU (off:=0) D (v:=.sl n 0 K.nl K.nl 2) rfl,AU (off:=1) f (v:=K.nm.v) rfl]
  refine AFA λH3 U f3=>?_
  have d0:=f3.le
  have V:=f3.get D (by omega)
  rw[AU (off:=0) V (v:=.sl n 0 K.nl K.nl 2) rfl,AP,AXj,X5]
  refine ANt (AMV (by omega)) ?_
  rw[Nat.zero_add]
  show Bz 2 (.ptr n (0*2)) (Ty.v ⟨K.nm,false⟩) H3 U _
  refine APq (f3.get u (by omega)) (by omega) (by omega) (p 0 (by omega)) rfl rfl λH4 g4 C=>?_
  have x:Kb K.b H K.kb H4 K.kb:=E.trans (((f3.kb (b:=K.b) (by omega)).low (by omega)).trans ⟨Nat.le_refl _,λid h _=>C id (by omega),λhs=>hs.same (C _ (by omega))⟩)
  have key:=AXg L M (n0:=n) (H0:=H) (k:=k) (n:=U) (A.kb' x) ((C _ (by omega)).trans (f3.get f (by omega))) (by omega) m N ((C _ (by omega)).trans V) ⟨by omega,by omega⟩ g4 ⟨by omega,by omega,by omega⟩ (λi B=>?_) O P (by omega) x Q
  ·rw[J]at key;exact key
  ·rw[d]
   by_cases y:i=0
   ·subst y
    rw[T.Ag];rfl
   ·rw[T.Ac _ _ (Ne.symm y),p i B,List.getElem?_append_right (by show 1<=i;omega),List.getElem?_replicate,if_pos (by show i-1<K.nl-1;omega)];rfl
end
theorem AAZ{p:Pool}{b:Bd}{x:Ins}(h:Xm (mny p b) x=true):∃c i:Nat,x=⟨.ofNat c,.ofNat i⟩/\AGS p b.locals.toNat c i:=by
 unfold Xm at h
 rw[Bool.and_eq_true]at h
 obtain⟨g,d⟩:=h
 have w:=g
 unfold known at g
 rw[Bool.and_eq_true,decide_eq_true_eq,decide_eq_true_eq]at g
 obtain⟨k,m⟩:=x
 have y:0<=m:=by
  cases v:decide (AIP k=0)with
  |true=>simp only[v,cond_true,decide_eq_true_eq]at d;omega
  |false=>simp only[v,cond_false,Bool.and_eq_true,decide_eq_true_eq]at d;exact d.1
 obtain⟨c,rfl⟩:∃c:Nat,k=.ofNat c:=⟨k.toNat,by show k=(k.toNat:Int);have:=g.1;simp only at this;omega⟩
 obtain⟨i,rfl⟩:∃i:Nat,m=.ofNat i:=⟨m.toNat,by show m=(m.toNat:Int);omega⟩
 have q:1<=c:=by have:(1:Int)<=(c:Int):=g.1;omega
 have u:c<=32:=by have:(c:Int)<=32:=g.2;omega
 refine⟨c,i,rfl,q,u,?_,?_,?_,?_,?_⟩
 ·intro e
  have d:(bif decide (AIP (Int.ofNat c)=0)then decide (Int.ofNat i=0)else(decide (0<=Int.ofNat i)&&decide (Int.ofNat i<mny p b (AIP (Int.ofNat c)))))=true:=d
  rcases e with rfl|rfl<;>(have f:=(Bool.and_eq_true ..▸(show(decide (0<=Int.ofNat i)&&decide (Int.ofNat i<b.locals))=true from d)).2;have:(i:Int)<b.locals:=of_decide_eq_true f;omega)
 ·intro e
  rcases e with rfl|rfl|rfl<;>(have f:=(Bool.and_eq_true ..▸(show(decide (0<=Int.ofNat i)&&decide (Int.ofNat i<(p.names.length:Int)))=true from d)).2;have:(i:Int)<p.names.length:=of_decide_eq_true f;omega)
 ·intro e
  rcases e with rfl|rfl|rfl<;>(have f:=(Bool.and_eq_true ..▸(show(decide (0<=Int.ofNat i)&&decide (Int.ofNat i<(p.types.length:Int)))=true from d)).2;have:(i:Int)<p.types.length:=of_decide_eq_true f;omega)
 ·intro e
  rcases e with rfl|rfl<;>(have f:=(Bool.and_eq_true ..▸(show(decide (0<=Int.ofNat i)&&decide (Int.ofNat i<(p.fields.length:Int)))=true from d)).2;have:(i:Int)<p.fields.length:=of_decide_eq_true f;omega)
 ·intro e
  rcases e with rfl|rfl<;>(have f:=(Bool.and_eq_true ..▸(show(decide (0<=Int.ofNat i)&&decide (Int.ofNat i<(p.Bg.length:Int)))=true from d)).2;have:(i:Int)<p.Bg.length:=of_decide_eq_true f;omega)
def mkK(kb i t a b fm:Nat)(vn:V)(fs:Tab)(f:Fl)(vf vm v0 v1 v2 v3 v4 vb:V)(ws:List V)(m:Cb)(w:V)(bd:Bd)(wc:V):eU:=
 ⟨kb,i,t,a,b,fm,vn,fs,f.face.nm,f.face.sup,vf,vm,v0,v1,v2,v3,v4,vb,f.pool,ws,bd.locals.toNat,bd.stack,wc,bd.code,m.nm,m.st,w,m.ps,m.ret⟩
structure SI(p:Pool)(m:Cb)(b:Bd):Prop where
 lo:(least m:Int)<=b.locals
 hi:b.locals<=401
 s0:0<=b.stack
 s1:b.stack<=1000
 c0:1<=b.code.length
 c1:b.code.length<=16384
 ins:∀x∈b.code,Xm (mny p b) x=true
theorem ASH{p:Pool}{m:Cb}{b:Bd}(h:ADr p m b=true):SI p m b:=by
 unfold ADr at h
 simp only[Bool.and_eq_true,Bool.not_eq_true',decide_eq_false_iff_not,List.all_eq_true]at h
 obtain⟨f,g,i,k,q,u,d⟩:=h
 exact⟨by omega,by omega,by omega,by omega,by omega,by omega,d⟩
theorem Aap{kb i t a b fm:Nat}{vn:V}{fs:Tab}{f:Fl}{g k p q u v y A:V}{ws:List V}{m:Cb}{w:V}{d:Bd}{B:V}(h:SI f.pool m d):AO5 (mkK kb i t a b fm vn fs f g k p q u v y A ws m w d B):=
 λx C=>AAZ (h.ins x C)
theorem Aft{G:AY}{H:Heap}{n0 kb i t a b fm:Nat}{vn:V}{fs:Tab}{L:LV}{f:Fl}{x y A B C D E F:V}{k ws p:List V}{m:Cb}{w:V}{g:Bd}{I:V}(hi:NQ G H n0 i t a b fm vn fs)(q:fs.length<=1000)
 (J:lN G H n0 L f x y A B C D E F k ws p) (d:n0<=kb) (K:GY G H n0 w m.ps) (M:m.ret.nm.ok) (u:O1 G H n0 I g.code) (v:SI f.pool m g):
 (mkK kb i t a b fm vn fs f x y A B C D E F ws m w g I).En G H:=by
 have e:Ke G H n0 H kb:=⟨d,λ_ _ _ _ h=>h⟩
 have N:=hi.tab.bn
 have O:=hi.iN
 exact⟨by show kb≠b;omega,by show kb≠i;omega,hi.kb ⟨d,λ_ _ _=>rfl,λh=>h⟩,q,J.pool.ke e,⟨u.el,u.lo.mono d,u.lt⟩,K.ke e,M,J.face.ok.1,v.s1,by have:=v.hi;show g.locals.toNat<=401;omega,v.c1⟩
theorem AYi{kb i t a b fm:Nat}{vn:V}{fs:Tab}{f:Fl}{g k p q u x y A:V}{ws:List V}{m:Cb}{w:V}{d:Bd}{B:V}(h:0<=d.locals):
 BH [.Bo,.str 0 0,.str 0 0,.Ad,.Ad,.Ad,.Ad,.Ad,.Ad,.Ad,.Ad,.int .i64 (.ofNat 0) 0,.int .i64 (.ofNat 0) 0,.Ad,.str 0 0,.bool false,.Ad,.str 0 0,.bool false,.Ad,.Ad]
  [(0,1,.c (.ptr i 0)),(1,10,.c (.agg [f.face.nm.v,f.face.sup.v,g,k,p,q,u,x,y,A])),(11,3,.c (.agg (d.cells B))),(14,5,.c (.agg (m.cells w)))]=some (.agg ((mkK kb i t a b fm vn fs f g k p q u x y A ws m w d B).cells .Ad .Ad)):=by
 unfold eU.cells mkK
 simp only
 rw[show Int.ofNat d.locals.toNat=d.locals from Int.toNat_of_nonneg h]
 rfl
def mg(fs:Tab)(f:Fl)(m:Cb)(b:Bd):Cx:=⟨fs,f.pool,b.stack,m.ret,b.code⟩
def AGg(c:St)(m:Cb):List Ty:=bif m.st then[]else[⟨c,false⟩]
def ZH(c:St)(m:Cb)(b:Bd):CP:=⟨AGg c m++m.ps++List.replicate (b.locals.toNat-(AGg c m).length-m.ps.length) BU,[]⟩
def AH8(c:Cx)(init:CP)(r:Int):Prop:=∃fuel,runT c fuel (at0 c.code.length init) [0]=some r/\2*fuel+1<1099511627776
def firstM(R:Nat->Int):List Cb->Nat->Option (St×Int)
 |[],_=>none
 |m::ms,j=>bif decide (0<=R j)then some (m.nm,R j)else firstM R ms (j+1)
theorem ANW(c:St)(m:Cb):(AGg c m).length+m.ps.length=least m:=by
 unfold AGg least
 cases m.st with
 |true=>simp
 |false=>simp;omega
section
variable{G:AY}{H:Heap}{n:Nat}{k:KV}
theorem AcM(Z:Vz G){n0 i t a b fm:Nat}{vn:V}{fs:Tab}{L:LV}{f:Fl}{y A B C D E I J:V}{p ws q:List V}{m:Cb}{w:V}{d:Bd}{P:V}{r:Int}(hi:NQ G H n0 i t a b fm vn fs)(Q:fs.length<=1000)(T:n0<=n)
 (hf:lN G H n0 L f y A B C D E I J p ws q) (hw:GY G H n0 w m.ps) (hr:m.ret.nm.ok) (K:O1 G H n0 P d.code) (M:SI f.pool m d) (hR:AH8 (mg fs f m d) (ZH f.face.nm m d) r)
 (hk:∀H' n',Kb b H n H' n'->k (.int .i64 r 0) H' n'):
 Bc (EM (.agg ((mkK n i t a b fm vn fs f y A B C D E I J ws m w d P).cells .Ad .Ad))) H n λv H n=>Runs F G RZ [v] H n k:=by
 refine FT λN U g1=>?_
 obtain⟨W,u,R⟩:=hR
 have d0:=hi.tab.bn
 have x:=U.kb (b:=b) (by omega)
 have g:Kb b H n0 N n0:=x.low T
 have e:=g.ke (G:=G) hi.tab.seen
 have S:lN G N n0 L f y A B C D E I J p ws q:=hf.ke e
 have hE:(mkK n i t a b fm vn fs f y A B C D E I J ws m w d P).En G N:=Aft (hi.kb g) Q S T (hw.ke e) hr ⟨K.el.ke K.lo e,K.lo,K.lt⟩ M
 have d1:=M.lo
 refine Aec Z (Aap M) hE g1 (Nat.lt_succ_self n) ?_ (by have:=M.c0;show 0<d.code.length;omega) u R λH' n' d2 O=>hk H' n' ?_
 ·show(AGg f.face.nm m).length+m.ps.length<=d.locals.toNat
  rw[ANW];omega
 ·have O:Kb b N n H' n:=O
  exact⟨by omega,λX Y h2=>(O.same X Y h2).trans (U.same X Y),λhs=>O.seen (x.seen hs)⟩
theorem AWA{n0:Nat}{g:V}{d:List Bd}{ws:List V}(h:Jk G H n0 g d ws){j:Nat}(f:j<d.length):∃p w,Ai 3 g (.int .i64 (.ofNat j) 0)=some p/\ldP p G H 3=some (d[j].cells w)/\O1 G H n0 w d[j].code:=by
 have k:j<ws.length:=by rw[h.len];exact f
 obtain⟨p,m,q⟩:=h.el.at (i:=j) (c:=d[j].cells ws[j]) (by rw[List.getElem?_zipWith];simp[f,k])
 exact⟨p,ws[j],m,q,h.at' j _ _ (List.getElem?_eq_getElem f) (List.getElem?_eq_getElem k)⟩
theorem Adp(r:Int):B2.ev .geq (.int .i64 r 0) (.int .i64 (.ofNat 0) 0)=some (.bool (decide (0<=r))):=AUF r
theorem AaQ(hG:Vz G){n0 i t a b fm y A:Nat}{vn E K M:V}{I7:V×V×V×V×V×Heap×Nat->Prop}{fs:Tab}{L W0:LV}{f:Fl}{vf O v0 v1 v2 v3 v4 vb:V}{d3 ws d4:List V}{d:St}{R:Nat->Int}(hi:NQ G H n0 i t a b fm vn fs)(d5:fs.length<=1000)(hn:n0<=n)
 (hf:lN G H n0 L f vf O v0 v1 v2 v3 v4 vb d3 ws d4) (f7:f.bodies.length=f.face.ms.length) (hB:∀(j:Nat) (m:Cb) (P:Bd),f.face.ms[j]? =some m->f.bodies[j]? =some P->SI f.pool m P/\AH8 (mg fs f m P) (ZH f.face.nm m P) (R j))
 (g5:T.get H A=some (one L)) (h5:n0<=A/\A<n) (g2:T.get H y=some (one W0)) (hW:W0.length=4) (h2:n0<=y/\y<n)
 (k1:∀H' n',Kb b H n H' n'->firstM R f.face.ms 0=none->QY lfp G (Runs F G) k I7 (.ptr i 0) (.ptr y 0) E K M H' n')
 (k2:∀H' n' s r,Kb b H n0 H' n'->firstM R f.face.ms 0=some (s,r)->k (.agg [.int .i64 (.ofNat 31) 0,d.v,s.v,.int .i64 r 0]) H' n'):
 lfp _ (Ti lfp G (Runs F G) k I7) (.ptr i 0,.ptr y 0,d.v,.ptr A 0,E,K,M,O,.int .i64 (.ofNat f.face.ms.length) 0,.int .i64 (.ofNat 0) 0,H,n):=by
 have d6:=hi.tab.bn
 refine BN (N:=f.face.ms.length) (J:=λj st=>∃H' n',st=(.ptr i 0,.ptr y 0,d.v,.ptr A 0,E,K,M,O,.int .i64 (.ofNat f.face.ms.length) 0,.int .i64 (.ofNat j) 0,H',n')/\Kb b H n H' n'/\firstM R f.face.ms 0=firstM R (f.face.ms.drop j) j) ?_ ?_ ⟨H,n,rfl,.refl ..,rfl⟩
 ·rintro I j st Q ⟨H1,S,rfl,D,x⟩ ih
  show Jo lfp G (Runs F G) k I7 I (.ptr i 0) (.ptr y 0) d.v (.ptr A 0) E K M O (.int .i64 (.ofNat f.face.ms.length) 0) (.int .i64 (.ofNat j) 0) H1 S
  delta Jo
  have f8:=D.le
  have e1:=(D.low hn).ke (G:=G) hi.tab.seen
  have g:=hf.ke e1
  have U:=hi.kb (D.low hn)
  obtain⟨p,w,d7,q,d8⟩:=g.face.ms.at Q
  have W:j<f.bodies.length:=by omega
  obtain⟨X,Y⟩:=hB j f.face.ms[j] f.bodies[j] (List.getElem?_eq_getElem Q) (List.getElem?_eq_getElem W)
  have Z:=(g.face.ms.ok _ (List.getElem_mem Q)).2
  have d9:=g.face.ms.lt
  unfold big at d9
  rw[List.drop_eq_getElem_cons Q]at x
  have x:firstM R f.face.ms 0=bif decide (0<=R j)then some (f.face.ms[j].nm,R j)else firstM R (f.face.ms.drop (j+1)) (j+1):=x
  have q:=Bj q
  generalize f.face.ms[j]=m at*
  simp only[go_sem,BR,Q,decide_true,d7,q]
  show Bz 5 (.ptr S 0) (.agg (m.cells w)) _ _ _
  refine Yb rfl rfl (by omega) λH2 f2 d0=>?_
  have B:=f2.kb (b:=b) (by omega)
  have d1:=D.trans B
  have d2:T.get H2 A=some (one L):=d1.get g5 h5.2 (by omega)
  have hL:=hf.is
  subst hL
  have e2:=(B.low (m:=n0) (by omega)).ke (G:=G) U.tab.seen
  have f0:=U.kb (B.low (m:=n0) (by omega))
  obtain⟨pb,wc,f4,u,f5⟩:=AWA (g.ke e2).bodies W
  have u:=Bj u
  generalize f.bodies[j]=P at*
  simp only[CG (m:=10) d2 (by omega) rfl,AP,go_sem,Nat.reduceAdd,AU (off:=9) d2 (v:=vb) rfl,f4,u,CG (m:=5) d0 (by omega) rfl]
  rw[AYi (kb:=S+1) (i:=i) (t:=t) (a:=a) (b:=b) (fm:=fm) (vn:=vn) (fs:=fs) (ws:=ws) (by have:=X.lo;omega),AP]
  refine AcM hG f0 d5 (by omega) (g.ke e2) (d8.ke e2) Z f5 X Y λH3 n3 f3=>?_
  have C:=d1.trans f3
  rw[Adp,AP]
  cases hr:decide (0<=R j)with
  |false=>
   rw[hr,cond_false]at x
   simp only[go_sem,DI (show j+1<9223372036854775808 by omega)]
   exact ih _ ⟨H3,n3,rfl,C,x⟩
  |true=>
   rw[hr,cond_true]at x
   have f6:=f3.get d0 (by omega) (by omega)
   simp only[go_sem,Nat.reduceAdd,AU (off:=0) f6 (v:=m.nm.v) rfl]
   rw[show BH [.int .i64 (.ofNat 0) 0,.str 0 0,.str 0 0,.int .i64 (.ofNat 0) 0] [(0,1,.c (.int .i64 (.ofNat 31) 0)),(1,1,.c d.v),(2,1,.c m.nm.v),(3,1,.c (.int .i64 (R j) 0))]=some (.agg [.int .i64 (.ofNat 31) 0,d.v,m.nm.v,.int .i64 (R j) 0])from rfl,AP,
    FU (m:=4) (C.get g2 h2.2 (by omega)) (by omega) hW rfl,EN (m:=4) (T.Ag ..) (by omega) rfl]
   exact k2 _ _ _ _ ((C.AcG hn).trans' (λid f9=>T.Ac _ _ (by omega)) (Nat.le_refl _) d6) x
 ·rintro I st ⟨H1,S,rfl,D,x⟩
  show Jo lfp G (Runs F G) k I7 I (.ptr i 0) (.ptr y 0) d.v (.ptr A 0) E K M O (.int .i64 (.ofNat f.face.ms.length) 0) (.int .i64 (.ofNat f.face.ms.length) 0) H1 S
  delta Jo
  rw[List.drop_eq_nil_of_le (Nat.le_refl _)]at x
  simp only[go_sem,BR,Nat.lt_irrefl,decide_false]
  exact k1 _ _ D x
end
def UC(R:Fl->Nat->Int)(ff:List (St×Fl)):List St->Option (St×St×Int)
 |[]=>none
 |s::ss=>match CY ff s with
  |none=>UC R ff ss
  |some f=>match firstM (R f) f.face.ms 0 with
   |some p=>some (s,p.1,p.2)
   |none=>UC R ff ss
def AFH:Option (St×St×Int)->LV
 |none=>[.int .i64 (.ofNat 0) 0,.str 0 0,.str 0 0,.int .i64 (.ofNat 0) 0]
 |some (s,x,r)=>[.int .i64 (.ofNat 31) 0,s.v,x.v,.int .i64 r 0]
section
variable{G:AY}{H:Heap}{n:Nat}{k:KV}
theorem AYT(hG:Vz G){i t a b fm:Nat}{vn:V}{fs:Tab}{g:List (St×Fl)}{d:List St}{R:Fl->Nat->Int}(hi:NQ G H n i t a b fm vn fs)(Y:fs.length<=1000)(Z:FV G H n fm g)(d0:fm<n)(d1:fm≠b)
 (d2:El G H vn 1 (strs d)) (d3:Lo vn n) (d4:d.length<=1000) (C:∀s∈d,∃f,CY g s=some f)
 (hF:∀s f,CY g s=some f->f.bodies.length=f.face.ms.length/\∀(j:Nat) (m:Cb) (S:Bd),f.face.ms[j]? =some m->f.bodies[j]? =some S->SI f.pool m S/\AH8 (mg fs f m S) (ZH f.face.nm m S) (R f j))
 (U:∀H' n',Kb b H n H' n'->k (.agg (AFH (UC R g d))) H' n'):Runs F G dG [.ptr i 0] H n k:=by
 refine go1 (AI4 BF G) ?_
 delta AAD
 have D:=hi.tab.bn
 refine Di rfl λH1 f1 g1=>?_
 have y:=f1.kb (b:=b) D
 refine Aai (hi.kb y) (d2.ke d3 (y.ke hi.tab.seen)) d4 λv H2 n2 f2 E d5=>?_
 have g3:=f2.le
 have A:=y.trans (f2.kb (by omega))
 have g2:=f2.get g1 (by omega)
 simp only[go_sem,E.len,JH]
 refine BN (N:=d.length) (J:=λj st=>∃H' n',st=(.ptr i 0,.ptr n 0,v,.int .i64 (.ofNat d.length) 0,.int .i64 (.ofNat j) 0,H',n')/\Kb b H2 n2 H' n'/\UC R g d=UC R g (d.drop j)) ?_ ?_ ⟨H2,n2,rfl,.refl ..,rfl⟩
 ·rintro I j st W ⟨X,n3,rfl,f3,q⟩ ih
  show Kt lfp G (Runs F G) k I (.ptr i 0) (.ptr n 0) v (.int .i64 (.ofNat d.length) 0) (.int .i64 (.ofNat j) 0) X n3
  delta Kt
  have d6:=f3.le
  have B:=A.trans f3
  have g4:=hi.kb (B.low (Nat.le_refl _))
  have K:=E.ke d5 (f3.ke (A.seen hi.tab.seen))
  obtain⟨p,d7,d8⟩:=K.at (Sz W)
  obtain⟨f,hf⟩:=C d[j] (List.getElem_mem W)
  have M:FV G X n fm g:=Z.ke ((B.low (Nat.le_refl _)).ke hi.tab.seen) (B.same fm d0 d1)
  obtain⟨O,hB⟩:=hF _ f hf
  rw[List.drop_eq_getElem_cons W]at q
  have q:UC R g d=match CY g d[j]with
   |none=>UC R g (d.drop (j+1))
   |some f=>match firstM (R f) f.face.ms 0 with
    |some p=>some (d[j],p.1,p.2)
    |none=>UC R g (d.drop (j+1)):=q
  rw[hf]at q
  have q:UC R g d=match firstM (R f) f.face.ms 0 with
   |some p=>some (d[j],p.1,p.2)
   |none=>UC R g (d.drop (j+1)):=q
  generalize d[j]=nm at*
  simp only[go_sem,BR,W,decide_true,d7,Jv d8]
  refine ASO (s:=nm) (hi.kb B) M (by omega) (by omega) λH4 n4 L f4 hL d9 _=>?_
  have g6:=f4.le
  obtain⟨L2,vf,vm,v0,v1,v2,v3,v4,vb,g7,ws,g8,f0,f7⟩:=d9 f hf
  cases f7
  simp only[go_sem]
  show Bz 10 (.ptr n4 0) (.agg L) _ _ _
  refine Yb rfl hL (by omega) λH5 f5 g5=>?_
  have f8:=f4.trans f5
  have u:=f8.kb (b:=b) (by omega)
  have P:=B.trans u
  have f9:=hi.kb (P.low (Nat.le_refl _))
  have e5:=(((f5.kb (b:=b) (by omega)).low (m:=n) (by omega))).ke (G:=G) (((B.trans (f4.kb (b:=b) (by omega))).seen hi.tab.seen))
  have w:=f0.ke e5
  have Q:=w.is
  subst Q
  simp only[go_sem,Nat.reduceAdd,AU (off:=3) g5 (v:=vm) rfl,w.face.ms.len']
  have g0:=u.get (f3.get g2 (by omega) (by omega)) (by omega) (by omega)
  refine AaQ hG f9 Y (by omega) w O hB g5 ⟨by omega,by omega⟩ g0 rfl ⟨Nat.le_refl _,by omega⟩ (λH6 n6 f6 e=>?_) λH6 n6 x r f6 e=>?_
  ·delta QY
   simp only[go_sem,DI (show j+1<9223372036854775808 by omega)]
   rw[e]at q
   exact ih _ ⟨H6,n6,rfl,(f3.trans u).trans f6,q⟩
  ·rw[e]at q
   rw[q]at U
   exact U _ _ ((P.low (Nat.le_refl _)).trans f6)
 ·rintro I st ⟨X,n3,rfl,f3,q⟩
  show Kt lfp G (Runs F G) k I (.ptr i 0) (.ptr n 0) v (.int .i64 (.ofNat d.length) 0) (.int .i64 (.ofNat d.length) 0) X n3
  delta Kt
  have d6:=f3.le
  rw[List.drop_eq_nil_of_le (Nat.le_refl _)]at q
  rw[q]at U
  simp only[go_sem,BR,Nat.lt_irrefl,decide_false]
  delta WU
  rw[show BH [.int .i64 (.ofNat 0) 0,.str 0 0,.str 0 0,.int .i64 (.ofNat 0) 0] []=some (.agg [.int .i64 (.ofNat 0) 0,.str 0 0,.str 0 0,.int .i64 (.ofNat 0) 0])from rfl,AP,
   FU (m:=4) (f3.get g2 (by omega) (by omega)) (by omega) rfl rfl,EN (m:=4) (T.Ag ..) (by omega) rfl]
  exact U _ _ ((A.trans f3).trans' (λid g9=>T.Ac _ _ (by omega)) (Nat.le_refl _) D)
end
theorem ACz:∀(cs:List Fl) (fs:List (St×Fl)) (s:St) (c:Fl),CY (VQ fs cs) s=some c->(c∈cs/\c.face.nm=s)∨CY fs s=some c
 |[],_,_,_,h=>.inr h
 |d::cs,fs,s,c,h=>by
  rcases ACz cs _ s c h with h|h
  ·exact .inl ⟨List.mem_cons_of_mem _ h.1,h.2⟩
  ·rw[RQ]at h
   split at h
   ·rename_i e;cases h;exact .inl ⟨List.mem_cons_self ..,e⟩
   ·exact .inr h
theorem AMl{d:List Fl}{s:St}{f:Fl}(h:CY (OD d) s=some f):f∈d/\f.face.nm=s:=by
 rcases ACz d [] s f h with h|h
 ·exact h
 ·cases h
theorem AAw:∀(cs:List Fl) (fs:List (St×Fl)) (s:St),(CY fs s).isSome=true∨s∈Oa cs->(CY (VQ fs cs) s).isSome=true
 |[],_,_,h=>h.resolve_right List.not_mem_nil
 |d::cs,fs,s,h=>AAw cs _ s (by
  rw[RQ]
  by_cases e:d.face.nm=s
  ·rw[if_pos e];exact .inl rfl
  ·rw[if_neg e]
   rcases h with h|h
   ·exact .inl h
   ·exact .inr ((List.mem_cons.1 h).resolve_left (Ne.symm e)))
theorem ASu{d:List Fl}{s:St}(h:s∈Oa d):∃f,CY (OD d) s=some f:=Option.isSome_iff_exists.1 (AAw d [] s (.inr h))
theorem ANX{p:Pool}:∀{d:List Cb} {f:List Bd} (j:Nat) (m:Cb) (b:Bd),Yl p d f=true->d[j]? =some m->f[j]? =some b->ADr p m b=true
 |[],_,_,_,_,_,h,_=>by simp at h
 |_::_,[],_,_,_,_,_,h=>by simp at h
 |x::d,y::f,0,m,b,h,g,i=>by
  simp only[List.getElem?_cons_zero,Option.some.injEq]at g i
  subst g;subst i
  unfold Yl at h
  exact(Bool.and_eq_true .. ▸h).1
 |x::d,y::f,j+1,m,b,h,g,i=>by
  unfold Yl at h
  exact ANX j m b (Bool.and_eq_true .. ▸h).2 (by simpa using g) (by simpa using i)
theorem YE{f:Fl}(h:P9 f=true):f.bodies.length=f.face.ms.length/\∀(j:Nat) (m:Cb) (d:Bd),f.face.ms[j]? =some m->f.bodies[j]? =some d->SI f.pool m d:=by
 unfold P9 at h
 simp only[Bool.and_eq_true,decide_eq_true_eq]at h
 exact⟨h.2.2.1,λj m d g i=>ASH (ANX j m d h.2.2.2 g i)⟩
theorem AZw{fs:Tab}{K:Nat}(a:Uf)(h:∀o∈a,AP5 fs K o<=K):allH fs K a<=a.length*K:=by
 unfold allH
 induction a with
 |nil=>simp
 |cons o a d=>
  have g:=h o (List.mem_cons_self ..)
  have i:=d λx f=>h x (List.mem_cons_of_mem _ f)
  simp only[List.map_cons,List.sum_cons,List.length_cons,Nat.add_mul,Nat.one_mul];omega
theorem Ack{fs:Tab}{f:Fl}{m:Cb}{d:Bd}{c:St}(y:Whole fs)(A:Upper fs)(B:fs.length<=200)(h:SI f.pool m d):∃r,AH8 (mg fs f m d) (ZH c m d) r:=by
 have k:0<d.code.length:=by have:=h.c0;omega
 have g:(ZH c m d).loc.length=d.locals.toNat:=by
  have v:=ANW c m
  have w:=h.lo
  show(AGg c m++m.ps++List.replicate _ BU).length=_
  simp only[List.length_append,List.length_replicate];omega
 have inv:Inv2 d.locals.toNat d.stack.toNat (at0 d.code.length (ZH c m d)):=by
  refine⟨λi s q=>?_,λi s q=>?_⟩
  ·rw[(AFw k q).2];exact g
  ·rw[(AFw k q).2];exact Nat.zero_le _
 have x:(at0 d.code.length (ZH c m d)).length=d.code.length:=ANg
 have u:2*allH fs (Md fs d.locals.toNat d.stack.toNat) (at0 d.code.length (ZH c m d))+[0].length<20000000000:=by
  have v:=AZw (fs:=fs) (K:=Md fs d.locals.toNat d.stack.toNat) (at0 d.code.length (ZH c m d)) λo C=>by
   obtain⟨i,p⟩:=List.getElem?_of_mem C
   cases o with
   |none=>exact Nat.le_refl _
   |some s=>exact Nat.le_of_lt (ATa (inv.loc i s p) (inv.stk i s p))
  rw[x]at v
  have w:Md fs d.locals.toNat d.stack.toNat<=287206:=by
   unfold Md
   have E:=h.hi
   have F:=h.s1
   have:(d.locals.toNat+d.stack.toNat)*(fs.length+5)<=1401*205:=Nat.mul_le_mul (by omega) (by omega)
   omega
  have G:d.code.length*Md fs d.locals.toNat d.stack.toNat<=16384*287206:=Nat.mul_le_mul h.c1 w
  show 2*_+1<_
  omega
 obtain⟨r,D⟩:=AMW (c:=mg fs f m d) y A (L:=d.locals.toNat) 20000000000 (at0 d.code.length (ZH c m d)) [0] u x inv (λi p=>by rw[List.mem_singleton.1 p];exact⟨k,_,ASm k⟩)
 exact⟨r,20000000000,D,by omega⟩
theorem AOf{d:List Fl}(h:TB d=0):(EW (Bh d)).length<=200:=by
 have f:=AAE (Bh d) []
 have g:=(DW h).1
 unfold EW
 rw[List.length_map]at f
 simp only[List.length_nil,Nat.zero_add]at f
 omega
def AO6(fls:List Fl)(R:Fl->Nat->Int):Prop:=∀f∈fls,∀(j:Nat) (m:Cb) (bd:Bd),f.face.ms[j]? =some m->f.bodies[j]? =some bd->AH8 (mg (EW (Bh fls)) f m bd) (ZH f.face.nm m bd) (R f j)
theorem AYI{g:List Fl}(h:TB g=0):∃R,AO6 g R:=by
 classical
 refine⟨λf j=>if q:∃r,∃m d,f.face.ms[j]? =some m/\f.bodies[j]? =some d/\AH8 (mg (EW (Bh g)) f m d) (ZH f.face.nm m d) r then q.choose else 0,λf w j m d i k=>?_⟩
 have x:=(YE (NH _ _ (DW h).2.1 f w)).2 j m d i k
 obtain⟨r,y⟩:=Ack (c:=f.face.nm) (ADw h) (AC3 h) (AOf h) x
 have q:∃r,∃m d,f.face.ms[j]? =some m/\f.bodies[j]? =some d/\AH8 (mg (EW (Bh g)) f m d) (ZH f.face.nm m d) r:=⟨r,m,d,i,k,y⟩
 simp only[dif_pos q]
 obtain⟨B,A,u,v,p⟩:=q.choose_spec
 rw[i]at u;rw[k]at v
 cases u;cases v
 exact p
theorem AX0{G:AY}(D:Vz G){H:Heap}{n m i:Nat}{d:List Fl}(x:TB d=0){R:Fl->Nat->Int}(E:AO6 d R)(hi:Aa7 G H n m i d){k:KV}
 (I:∀H' n' b,m<=b->Kb b H n H' n'->Aa7 G H' n' m i d->k (.agg (AFH (UC R (OD d) (Oa d)))) H' n'):Runs F G dG [.ptr i 0] H n k:=by
 obtain⟨t,a,b,J,K,p,y,q,u,A,v,L,M,N,g,w⟩:=hi.is
 have O:=DW x
 refine AYT (R:=R) D p (by have:=AOf x;omega) y q u A v (by rw[List.length_map];omega) (λs P=>ASu P) (λs f Q=>?_) λH' n' f=>?_
 ·obtain⟨B,-⟩:=AMl Q
  obtain⟨S,T⟩:=YE (NH _ _ O.2.1 f B)
  exact⟨S,λj m C q1 q2=>⟨T j m C q1 q2,E f B j m C q1 q2⟩⟩
 ·have e:=f.ke (G:=G) p.tab.seen
  refine I H' n' b g f ⟨t,a,b,J,K,p.kb f,y.ke e (f.same _ q u),Nat.lt_of_lt_of_le q f.le,u,A.ke v e,v.mono f.le,L,M,N,g,w⟩
theorem AZE{c:Cx}{d:CP}{r:Int}(i:Whole c.fs)(k:Upper c.fs)(m:0<c.code.length)(h:AH8 c d r):(r<0↔∃A,Post c d A):=by
 obtain⟨f,g,-⟩:=h
 obtain⟨p,q⟩:=AZR i k m g
 rw[<-p]
 constructor
 ·intro g
  by_cases e:r= -1
  ·exact e
  ·obtain⟨j,u,-⟩:=q e;omega
 ·intro e;omega
section
variable{a b:Tab}
end
def mX(cs:List Fc)(s:St):Option Fc:=cs.find? λc=>decide (c.nm=s)
theorem AQQ{cs:List Fc}{s:St}(h:s∉cs.map (λc=>c.nm)):mX cs s=none:=by
 unfold mX
 rw[List.find?_eq_none]
 intro c d hd
 exact h (List.mem_map.2 ⟨c,d,of_decide_eq_true hd⟩)
theorem AIJ:∀(cs:List Fc) (fs:Tab) (s:St),(cs.map λc=>c.nm).Nodup->CY (YS fs cs) s=(match mX cs s with|some c=>some c|none=>CY fs s)
 |[],_,_,_=>rfl
 |c::cs,fs,s,h=>by
  rw[List.map_cons,List.nodup_cons]at h
  show CY (YS (XD c.nm c fs) cs) s=_
  rw[AIJ cs _ s h.2,RQ]
  unfold mX
  rw[List.find?_cons]
  by_cases e:c.nm=s
  ·subst e
   have:=AQQ h.1
   unfold mX at this
   rw[this]
   simp
  ·simp[e]
theorem AVp{cs:List Fc}(h:(cs.map λc=>c.nm).Nodup)(s:St):CY (EW cs) s=mX cs s:=by
 unfold EW;rw[AIJ cs [] s h];cases mX cs s<;>rfl
theorem APh{cs:List Fc}(h:(cs.map λc=>c.nm).Nodup){s:St}{c:Fc}:mX cs s=some c↔c∈cs/\c.nm=s:=by
 induction cs with
 |nil=>simp[mX]
 |cons d cs g=>
  rw[List.map_cons,List.nodup_cons]at h
  have g:=g h.2
  unfold mX at g⊢
  rw[List.find?_cons]
  by_cases e:d.nm=s
  ·simp only[e,decide_true,Option.some.injEq,List.mem_cons]
   constructor
   ·rintro rfl;exact⟨.inl rfl,e⟩
   ·rintro⟨rfl|k,f⟩
    ·rfl
    ·exact absurd (List.mem_map.2 ⟨c,k,f.trans e.symm⟩) h.1
  ·simp only[e,decide_false,List.mem_cons]
   rw[g]
   constructor
   ·rintro⟨i,f⟩;exact⟨.inr i,f⟩
   ·rintro⟨rfl|i,f⟩
    ·exact absurd f e
    ·exact⟨i,f⟩
theorem AKh:∀(i:List Fl) (d:List (St×Fl)),Xy d i=0↔(∀f∈i,P9 f=true)/\(Oa i).Nodup/\∀f∈i,CY d f.face.nm=none
 |[],_=>by simp[Xy]
 |f::fs,d=>by
  unfold Xy
  have w:=AKh fs (XD f.face.nm f d)
  cases u:P9 f with
  |false=>
   simp only[Bool.not_false,cond_true]
   constructor
   ·intro h;cases h
   ·intro h;have:=h.1 f (List.mem_cons_self ..);rw[u]at this;cases this
  |true=>
   simp only[Bool.not_true,cond_false]
   cases v:CY d f.face.nm with
   |some x=>
    simp only[Option.isSome_some,cond_true]
    constructor
    ·intro h;cases h
    ·intro h;have:=h.2.2 f (List.mem_cons_self ..);rw[v]at this;cases this
   |none=>
    simp only[Option.isSome_none,cond_false]
    rw[w]
    simp only[Oa,List.map_cons,List.nodup_cons,List.mem_cons,forall_eq_or_imp,RQ]
    constructor
    ·rintro⟨p,q,m⟩
     refine⟨⟨u,p⟩,⟨?_,q⟩,v,λg k=>?_⟩
     ·intro y
      obtain⟨g,k,e⟩:=List.mem_map.1 y
      have:=m g k
      rw[if_pos e.symm]at this;cases this
     ·have:=m g k
      split at this
      ·cases this
      ·exact this
    ·rintro⟨⟨_,p⟩,⟨A,q⟩,_,m⟩
     refine⟨p,q,λg k=>?_⟩
     rw[if_neg]
     ·exact m g k
     ·intro e;exact A (List.mem_map.2 ⟨g,k,e.symm⟩)
theorem AUD(f d g i:Nat):AI3 (f+1) d g 0 i=false:=rfl
theorem AZW(f d g i:Nat):AI3 (f+1) 0 d (g+1) i=true:=rfl
theorem ATe(f i d k g:Nat):AI3 (f+1) (i+1) d (k+1) g=if d%256=g%256 then AI3 f i (d/256) k (g/256)else decide (d%256<g%256):=by
 show Bool.rec (motive:=λ_=>Bool) (Nat.blt (d%256) (g%256)) (AI3 f i (d/256) k (g/256)) (Nat.beq (d%256) (g%256))=_
 by_cases h:d%256=g%256
 ·rw[if_pos h,show Nat.beq (d%256) (g%256)=true by simp[h]]
 ·rw[if_neg h,show Nat.beq (d%256) (g%256)=false by rw[Bool.eq_false_iff];simp[h]]
  show Nat.blt (d%256) (g%256)=_
  rw[Bool.eq_iff_iff,Nat.blt_eq];simp
theorem AH4:∀(f l c:Nat),AI3 f l c l c=false
 |0,_,_=>rfl
 |f+1,0,c=>rfl
 |f+1,l+1,c=>by rw[ATe,if_pos rfl];exact AH4 f l _
theorem AKX:∀(f g h v p u i q k:Nat),u<f->q<g->q<h->AI3 f v p u i=true->AI3 g u i q k=true->AI3 h v p q k=true
 |0,_,_,_,_,_,_,_,_,h,_,_,_,_=>by omega
 |_,0,_,_,_,_,_,_,_,_,h,_,_,_=>by omega
 |_,_,0,_,_,_,_,_,_,_,_,h,_,_=>by omega
 |f+1,g+1,h+1,v,p,0,i,q,k,_,_,_,m,_=>by rw[AUD]at m;cases m
 |f+1,g+1,h+1,v,p,u+1,i,0,k,_,_,_,_,d=>by rw[AUD]at d;cases d
 |f+1,g+1,h+1,0,p,u+1,i,q+1,k,_,_,_,_,_=>AZW ..
 |f+1,g+1,h+1,v+1,p,u+1,i,q+1,k,y,A,B,m,d=>by
  rw[ATe]at m d⊢
  by_cases x:p%256=i%256
  ·rw[if_pos x]at m
   by_cases w:i%256=k%256
   ·rw[if_pos w]at d
    rw[if_pos (x.trans w)]
    exact AKX f g h _ _ _ _ _ _ (by omega) (by omega) (by omega) m d
   ·rw[if_neg w]at d
    have:=of_decide_eq_true d
    rw[if_neg (by omega)];exact decide_eq_true (by omega)
  ·rw[if_neg x]at m
   have:=of_decide_eq_true m
   by_cases w:i%256=k%256
   ·rw[if_neg (by omega)];exact decide_eq_true (by omega)
   ·rw[if_neg w]at d
    have:=of_decide_eq_true d
    rw[if_neg (by omega)];exact decide_eq_true (by omega)
def ltS(a b:St):Prop:=slt a.1 a.2 b.1 b.2=true
theorem ASC(a:St):¬ltS a a:=by unfold ltS slt;rw[AH4];simp
theorem AVs{a b c:St}(h:ltS a b)(d:ltS b c):ltS a c:=AKX _ _ _ _ _ _ _ _ _ (Nat.lt_succ_self _) (Nat.lt_succ_self _) (Nat.lt_succ_self _) h d
theorem AZC{a b:St}(h:(!leS a b)=true):ltS b a:=by
 unfold leS at h
 show slt b.1 b.2 a.1 a.2=true
 cases d:slt b.1 b.2 a.1 a.2 with
 |true=>rfl
 |false=>rw[d]at h;cases h
theorem ALH:∀(d:List Cb) (a:St),MB a d=true->∀m∈d,ltS a m.nm
 |[],_,_,m,h=>by cases h
 |x::d,a,h,m,f=>by
  unfold MB at h
  simp only[Bool.and_eq_true]at h
  have g:=AZC h.1
  rcases List.mem_cons.1 f with rfl|f
  ·exact g
  ·exact AVs g (ALH d x.nm h.2.2.2.2.2 m f)
theorem AEy:∀(d:List Cb) (a:St),MB a d=true->∀m∈d,Ju m.nm d=some m
 |[],_,_,m,h=>by cases h
 |x::d,a,h,m,g=>by
  unfold MB at h
  simp only[Bool.and_eq_true]at h
  unfold Ju
  rcases List.mem_cons.1 g with rfl|g
  ·simp
  ·have f:=ALH d x.nm h.2.2.2.2.2 m g
   have i:¬(x.nm.1=m.nm.1/\x.nm.2=m.nm.2):=λe=>by
    have e:x.nm=m.nm:=Prod.ext e.1 e.2
    rw[e]at f;exact ASC _ f
   rw[decide_eq_false i]
   exact AEy d x.nm h.2.2.2.2.2 m g
theorem AKa:∀l:List Ty,oW l l=true
 |[]=>rfl
 |a::l=>by unfold oW Ty.is;rw[AKa l];simp
theorem AVQ(m:Cb):m.same m=true:=by unfold Cb.same Ty.is;rw[AKa];simp
theorem ALP:∀(m:Nat) (fs:Tab) (out:List St) (s:St),∃r,(G7 m fs out s).1=out++r
 |0,_,out,_=>⟨[],by simp[G7]⟩
 |m+1,fs,out,s=>by
  unfold G7
  cases decide (s.1=0/\s.2=0)with
  |true=>exact⟨[],by simp⟩
  |false=>
   simp only[cond_false]
   cases CY fs s with
   |none=>exact⟨[],by simp⟩
   |some c=>
    show ∃r,(bif tN s out then(out,false)else G7 m fs (out++[s]) c.sup).1=out++r
    cases tN s out with
    |true=>exact⟨[],by simp⟩
    |false=>
     obtain⟨r,h⟩:=ALP m fs (out++[s]) c.sup
     exact⟨s::r,by simp only[cond_false];rw[h];simp⟩
theorem AJl{fs:Tab}{s:St}{c:Fc}(h:CY fs s=some c)(d:¬(s.1=0/\s.2=0)):∃r,(above fs s).1=s::r:=by
 unfold above G7
 rw[decide_eq_false d,h]
 show ∃r,(G7 fs.length fs [s] c.sup).1=s::r
 obtain⟨r,h⟩:=ALP fs.length fs [s] c.sup
 exact⟨r,h⟩
theorem VU{f:Fl}(h:P9 f=true):U3 f.face=true:=by unfold P9 at h;rw[Bool.and_eq_true]at h;exact h.1
theorem ANb{c:Fc}(h:U3 c=true):¬(c.nm.1=0/\c.nm.2=0):=by
 unfold U3 at h
 simp only[Bool.and_eq_true]at h
 have:=h.1
 unfold zy upper at this
 simp at this
 omega
theorem AMY{c:Fc}(h:U3 c=true):MB (0,0) c.ms=true:=by
 unfold U3 at h
 simp only[Bool.and_eq_true]at h
 exact h.2.2.2.2.2.2.2
end Go.RL
