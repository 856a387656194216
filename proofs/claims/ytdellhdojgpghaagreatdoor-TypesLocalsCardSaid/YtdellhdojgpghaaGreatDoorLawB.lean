/- Part of a proof; nothing is assumed. -/
import Derived.Test.YtdellhdojgpghaaGreatDoorConB
import Derived.Test.YtdellhdojgpghaaGreatDoorWalk
import Derived.Test.YtdellhdojgpghaaGreatDoorLawA
import Derived.Test.YtdellhdojgpghaaGreatDoorConF
import Derived.Test.YtdellhdojgpghaaGreatDoorConG
import Derived.Test.YtdellhdojgpghaaGreatDoorEngE
set_option linter.unusedVariables false
set_option linter.unusedSimpArgs false
namespace Go.RL
open Go.Bj
set_option maxRecDepth 100000
theorem ks(s:St):CK.eq .str s.v s.v=some true:=by rw[AWD];simp
theorem kb(b:Bool):CK.eq .bool (.bool b) (.bool b)=some true:=by rw[AWI];simp
theorem AYl{k:CK}{ks:List CK}{x:V}{xs:LV}(h:k.eq x x=some true)(h2:ARx ks xs xs=some true):ARx (k::ks) (x::xs) (x::xs)=some true:=(RD (q:=CK.eq)).2 ⟨true,true,h,h2,rfl⟩
theorem ne_self{ks:List CK}{L:LV}(h:ARx ks L L=some true):Dw (.agg ks) true (.agg L) (.agg L)=some (.bool false):=by
 show ofB (Qg (ARx ks L L) λb=>some (QD b))=_
 rw[h];rfl
theorem AYw(f:ER):Dw (.agg [.str,.str,.bool]) true (.agg f.cells) (.agg f.cells)=some (.bool false):=ne_self (AYl (ks _) (AYl (ks _) (AYl (kb _) rfl)))
theorem ASJ{G:AV}{v w:V}{fs:List ER}{H:Heap}{n:Nat}{k:KV}(h:VJ G H n v fs)(h2:VJ G H n w fs)(hk:k (.bool true) H n):
 Runs F G OZ [v,w] H n k:=by
 refine go2 (Vb Aq G) ?_
 delta Oa
 have hbig:=h.lt
 simp only[go_sem,h.len,h2.len,ALR]
 refine CG (N:=fs.length) (J:=λj q=>q=(v,w,.int .i64 (.ofNat fs.length) 0,.int .i64 (.ofNat j) 0,H,n)) ?_ ?_ rfl
 ·rintro I j q hlt rfl ih
  show Dp lfp G (Runs F G) k I v w (.int .i64 (.ofNat fs.length) 0) (.int .i64 (.ofNat j) 0) H n
  delta Dp
  obtain⟨p,hp,hld⟩:=h.at hlt
  obtain⟨p2,hp2,hld2⟩:=h2.at hlt
  simp only[go_sem,FP,hlt,decide_true,hp,hp2,EM hld,EM hld2,AYw,GV (show j+1<9223372036854775808 by unfold big at hbig;omega)]
  exact ih _ rfl
 ·rintro I q rfl
  show Dp lfp G (Runs F G) k I v w (.int .i64 (.ofNat fs.length) 0) (.int .i64 (.ofNat fs.length) 0) H n
  delta Dp
  simp only[go_sem,FP,Nat.lt_irrefl,decide_false]
  delta Gq
  exact hk
theorem ADG:∀l:List Ty,qg l l=true
 |[]=>rfl
 |a::l=>by unfold qg Ty.is;rw[ADG l];simp
theorem ANa(m:FN):m.same m=true:=by unfold FN.same Ty.is;rw[ADG];simp
theorem ATk{G:AV}{v w:V}{ms:List FN}{ws us:List V}{H:Heap}{n:Nat}{k:KV}(h:QT G H n v ms ws)(h2:QT G H n w ms us)(hk:∀H' n',Kp H n H' n'->k (.bool true) H' n'):
 Runs F G EW [v,w,.fn Jd [] []] H n k:=by
 refine go3 (JO Aq G) ?_
 delta EP
 have hbig:=h.lt
 simp only[go_sem,h.len',h2.len',ALR]
 refine CG (N:=ms.length) (J:=λj q=>∃H' n',q=(w,.fn Jd [] [],v,.int .i64 (.ofNat ms.length) 0,.int .i64 (.ofNat j) 0,H',n')/\Kp H n H' n') ?_ ?_ ⟨_,_,rfl,Kp.refl _ _⟩
 ·rintro I j q hlt ⟨H3,n3,rfl,f3⟩ ih
  show BQ lfp G (Runs F G) k I w (.fn Jd [] []) v (.int .i64 (.ofNat ms.length) 0) (.int .i64 (.ofNat j) 0) H3 n3
  delta BQ
  obtain⟨p,x,hp,hld,hx⟩:=(h.kp f3).at hlt
  obtain⟨m,hm⟩:∃m,m=ms[j]:=⟨_,rfl⟩
  rw[<-hm]at hld hx
  unfold FN.cells at hld
  simp only[go_sem,FP,hlt,decide_true,hp,EM hld,Nat.reduceAdd]
  rw[T.set_set]
  have f4:Kp H3 n3 (T.set H3 n3 (one [m.nm.v,.bool m.st,x,m.ret.nm.v,.bool m.ret.arr])) (n3+1):=(Kp.refl _ _).new _ (Nat.le_refl _) (by omega)
  have g4:=T.Au H3 n3 (one [m.nm.v,.bool m.st,x,m.ret.nm.v,.bool m.ret.arr])
  generalize T.set H3 n3 (one [m.nm.v,.bool m.st,x,m.ret.nm.v,.bool m.ret.arr])=H4 at f4 g4
  obtain⟨p2,y,hp2,hld2,hy⟩:=((h2.kp f3).kp f4).at hlt
  rw[<-hm]at hld2 hy
  unfold FN.cells at hld2
  simp only[go_sem,hp2,EM hld2,Nat.reduceAdd]
  rw[T.set_set]
  have f5:Kp H4 (n3+1) (T.set H4 (n3+1) (one [m.nm.v,.bool m.st,y,m.ret.nm.v,.bool m.ret.arr])) (n3+1+1):=(Kp.refl _ _).new _ (Nat.le_refl _) (by omega)
  have g5:=T.Au H4 (n3+1) (one [m.nm.v,.bool m.st,y,m.ret.nm.v,.bool m.ret.arr])
  generalize T.set H4 (n3+1) (one [m.nm.v,.bool m.st,y,m.ret.nm.v,.bool m.ret.arr])=H5 at f5 g5
  rw[Aw (m:=5) g4 (by omega) rfl,AU]
  show Runs F G Jd [.agg [m.nm.v,.bool m.st,x,m.ret.nm.v,.bool m.ret.arr],.agg [m.nm.v,.bool m.st,y,m.ret.nm.v,.bool m.ret.arr]] H5 (n3+1+1) _
  refine AHn (a:=m) (b:=m) ⟨x,rfl,(hx.kp f4).kp f5⟩ ⟨y,rfl,hy.kp f5⟩ λH6 n6 f6=>?_
  rw[ANa]
  simp only[go_sem,Du,Bool.not_true,GV (show j+1<9223372036854775808 by unfold big at hbig;omega)]
  exact ih _ ⟨_,_,rfl,f3.trans (f4.trans (f5.trans f6))⟩
 ·rintro I q ⟨H3,n3,rfl,f3⟩
  show BQ lfp G (Runs F G) k I w (.fn Jd [] []) v (.int .i64 (.ofNat ms.length) 0) (.int .i64 (.ofNat ms.length) 0) H3 n3
  delta BQ
  simp only[go_sem,FP,Nat.lt_irrefl,decide_false]
  delta Ce
  exact hk _ _ f3
theorem AMb{G:AV}{v w:V}{c:Fc}{H:Heap}{n:Nat}{k:KV}(h:PK G H n v c)(h2:PK G H n w c)(hk:∀H' n',Kp H n H' n'->k (.bool true) H' n'):
 Runs F G fP [v,w] H n k:=by
 refine go2 (AA8 Aq G) ?_
 delta gB
 obtain⟨vf,vm,ws,h,rfl⟩:=h
 obtain⟨wf,wm,us,h2,rfl⟩:=h2
 refine Ei λH1 f1 g1=>?_
 refine Ei λH2 f2 g2=>?_
 have g1:=f2.get g1 (by omega)
 have f3:=f1.trans f2
 have e1:Dw (.one .str) false c.nm.v c.nm.v=some (.bool true):=by show Dw (.one .str) false (.str c.nm.1 c.nm.2) (.str c.nm.1 c.nm.2)=_;rw[ACl];simp
 have e2:Dw (.one .str) false c.sup.v c.sup.v=some (.bool true):=by show Dw (.one .str) false (.str c.sup.1 c.sup.2) (.str c.sup.1 c.sup.2)=_;rw[ACl];simp
 simp only[go_sem,Nat.reduceAdd,AX (off:=0) g1 (v:=c.nm.v) rfl,AX (off:=0) g2 (v:=c.nm.v) rfl,AX (off:=1) g1 (v:=c.sup.v) rfl,AX (off:=1) g2 (v:=c.sup.v) rfl,
  AX (off:=2) g1 (v:=vf) rfl,AX (off:=2) g2 (v:=wf) rfl,e1,e2]
 refine ASJ (h.fs.kp f3) (h2.fs.kp f3) ?_
 simp only[go_sem,Nat.reduceAdd,AX (off:=3) g1 (v:=vm) rfl,AX (off:=3) g2 (v:=wm) rfl]
 refine ATk (h.ms.kp f3) (h2.ms.kp f3) λH4 n4 f4=>?_
 exact hk _ _ (f3.trans f4)
theorem AWk{G:AV}{H:Heap}{v:V}{z:Nat}{LS:CJ}(h:El G H v z LS):EU v v=true:=by
 obtain⟨h1,h2⟩:=h
 cases v<;>try (cases h2;done)
 ·cases h1
 ·rfl
 ·exact AKt ..
 ·exact AFf ..
 ·simp[EU,AO5,BO]
theorem AHw{tb:Tab}{cls:St}{m:Tm}{l ms:List Tm}(h:AFV tb cls (m::l)=some ms):∃m' l',ckM tb cls m=some m'/\AFV tb cls l=some l'/\ms=m'::l':=by
 unfold AFV at h
 obtain⟨m',h1,h⟩:=Option.bind_eq_some_iff.1 h
 obtain⟨l',h2,h3⟩:=Option.map_eq_some_iff.1 h
 exact⟨m',l',h1,h2,h3.symm⟩
theorem AKa{tb:Tab}{cls:St}:∀{l l':List Tm},AFV tb cls l=some l'->l'.length=l.length
 |[],l',h=>by cases h;rfl
 |m::l,l',h=>by
  obtain⟨m',t,_,h2,rfl⟩:=AHw h
  simp[AKa h2]
theorem AOo{tb:Tab}{cls:St}:∀{l l':List Tm} {i:Nat} {m:Tm},AFV tb cls l=some l'->l[i]? =some m->∃m',l'[i]? =some m'/\ckM tb cls m=some m'
 |[],l',i,m,h,hm=>by simp at hm
 |a::l,l',i,m,h,hm=>by
  obtain⟨m',t,h1,h2,rfl⟩:=AHw h
  cases i with
  |zero=>cases hm;exact⟨m',rfl,h1⟩
  |succ i=>exact AOo (i:=i) h2 hm
structure TbF(tb:Tab):Prop where
 tl:tb.length<=1000
 ar:∀s c,JV tb s=some c->∀m∈c.ms,m.ps.length<=1000
 tn:∀s c,JV tb s=some c->(∀f∈c.fs,f.ty.nm.ok)/\∀m∈c.ms,m.ret.nm.ok
section
variable{G:AV}{H:Heap}{n t a b:Nat}{tb:Tab}{k:KV}{A:Nat->Prop}{l:LV}{c c':Tc}
theorem AHR(hG:ACs G)(h:TabAt G H n t a b tb)(hF:TbF tb){line col:Nat}{nm sup:St}{fs:List ER}{ms:List Tm}{vf vm:V}(hf:lF G H A vf fs)(hm:AG4 G H A vm ms)(hA:∀id,A id->id<n/\id≠b)(hco:AP9 ⟨nm,sup,fs,ms⟩)(hl:JV tb nm=some (Py ⟨nm,sup,fs,ms⟩))(hch:ACB tb nm=0)
 (hk:∀K n9 H12 n11 v' cs,K.kb=n9->K.n0=n->K.t=t->K.a=a->K.b=b->K.tb=tb->K.cls=nm->Ry G K->n+3<=n9->n9+1<=n11->Kb b H n H12 n11->AIE H12 K->T.get H12 n=some (one (tcC line col nm sup vf v'))->T.get H12 (n+1)=some (one tcZ)->T.get H12 (n+2)=some (one [.int .i64 (.ofNat 0) 0,.int .i64 (.ofNat 0) 0,.int .i64 (.ofNat 0) 0])->
  Sk H12 8 (λid=>n9+1<=id/\id<n11) v' cs->PW G H A cs ms->
  lfp (V×V×V×V×V×V×V×Heap×Nat) (TN lfp G (Runs F G) k) (.ptr n 0,.ptr (n+1) 0,.ptr (n+2) 0,.ptr n9 0,v',.int .i64 (.ofNat ms.length) 0,.int .i64 (.ofNat 0) 0,H12,n11)):Runs F G Sv [.ptr t 0,.agg (tcC line col nm sup vf vm)] H n k:=by
 refine go2 (AEw Aq G) ?_
 delta yH
 have hbn:=h.bn
 refine Ei λH1 f1 g1=>?_
 refine Ar rfl λH2 f2 g2=>?_
 refine Ar rfl λH3 f3 g3=>?_
 have f03:=(f1.trans f2).trans f3
 have g1:=f3.get (f2.get g1 (by omega)) (by omega)
 have g2:=f3.get g2 (by omega)
 have ht3:TabAt G H3 n t a b tb:=h.kb ((f03.kb hbn).low (Nat.le_refl _))
 rw[AY,AU]
 refine AB (AX (off:=0+2) g1 (v:=nm.v) rfl) ?_
 refine rZ (s:=nm) ht3 (by omega) λH4 n4 v f4 hv=>?_
 rw[hl]at hv⊢
 have hv:PK G H4 n v (Py ⟨nm,sup,fs,ms⟩):=hv
 have hn4:=f4.le
 rw[ZF,AU,ZN,AU]
 obtain⟨uf,um,ws,hfa,rfl⟩:=hv
 have hv:PK G H4 n (.agg [nm.v,sup.v,uf,um]) (Py ⟨nm,sup,fs,ms⟩):=⟨uf,um,ws,hfa,rfl⟩
 refine Ar rfl λH5 f5 g5=>?_
 refine Bf (L:=[nm.v,sup.v,uf,um]) g5 rfl rfl (by omega) λH6 g6 s6=>?_
 have f46:Kp H4 n4 H6 (n4+1):=⟨f5.le,λid hid=>(s6 id (by omega)).trans (f5.same id hid)⟩
 have b3:∀{H':Heap} {n':Nat},Kb b H3 (n+1+1+1) H' n'->T.get H' n=some (one (tcC line col nm sup vf vm))/\T.get H' (n+1)=some (one tcZ)/\T.get H' (n+2)=some (one [.int .i64 (.ofNat 0) 0,.int .i64 (.ofNat 0) 0,.int .i64 (.ofNat 0) 0]):=
  λf=>⟨f.get g1 (by omega) (by omega),f.get g2 (by omega) (by omega),f.get g3 (by omega) (by omega)⟩
 have f36:Kb b H3 (n+1+1+1) H6 (n4+1):=f4.trans (f46.kb (by omega))
 have f06:Kb b H n H6 (n4+1):=(f03.kb hbn).trans f36
 rw[Du,AU]
 show BX (.bool false) false _ _
 refine o9 (Aw (m:=4) g6 (by omega) rfl) (o9 (Aw (m:=6) (b3 f36).1 (by omega) rfl) (APw ?_))
 have AdB:jC G H6 A (tcC line col nm sup vf vm) ⟨nm,sup,fs,ms⟩:=.mk line col (hf.mono (λ_ h=>h) λid hid=>f06.same id (hA id hid).1 (hA id hid).2) (hm.mono (λ_ h=>h) λid hid=>f06.same id (hA id hid).1 (hA id hid).2)
 refine AbQ AdB.fc (λid hid=>by have:=hA id hid;omega) hco λH7 n7 w f7 hw=>?_
 have hn7:=f7.le
 have f47:=f46.trans f7
 have hvs:BH (.agg [nm.v,sup.v,uf,um]) (.agg [nm.v,sup.v,uf,um])=true:=dF λv hv=>by
  simp at hv
  rcases hv with rfl|rfl|rfl|rfl
  ·exact jH ..
  ·exact jH ..
  ·exact AWk hfa.fs.el
  ·exact AWk hfa.ms.el
 refine AXX (Aw (m:=4) (f7.get g6 (by omega)) (by omega) rfl) hvs (APw ?_)
 have hv7:PK G H7 n7 (.agg [nm.v,sup.v,uf,um]) (Py ⟨nm,sup,fs,ms⟩):=(hv.ke (f47.ke.low (by omega))).up (by omega)
 refine AMb hv7 (hw H7 n7 (λ_ _=>rfl) λid hid=>hid.2) λH8 n8 f8=>?_
 refine o9 (Du ..) (xP ?_)
 show Ac (.bool false) true _ _
 rw[Ak]
 have hn8:=f8.le
 have f38:Kb b H3 (n+1+1+1) H8 n8:=f36.trans ((f7.trans f8).kb (by omega))
 have ht8:TabAt G H8 n8 t a b tb:=(ht3.kb (f38.AZ9 (by omega)))
 rw[AU]
 refine AB (AX (off:=0+2) (b3 f38).1 (v:=nm.v) rfl) ?_
 refine AUZ (s:=nm) hG ht8 hF.tl (λs c h m hm=>Nat.le_trans (hF.ar s c h m hm) (by omega)) λH9 n9 f9=>?_
 rw[hch]
 have hn9:=f9.le
 refine AB (ATZ .i64 0 0) ?_
 show Ac (.bool false) true _ _
 rw[Ak]
 have f39:=f38.trans f9
 refine AB (Aw (m:=6) (b3 f39).1 (by omega) rfl) ?_
 refine AB (v:=.agg (Kq.cells ⟨n9,n,t,a,b,tb,line,col,nm,sup,vf,vm⟩ ⟨0,0,(0,0),false,.Af,tyN,.Af⟩ .Af 0)) rfl ?_
 refine Ei λH10 f10 g10=>?_
 generalize hK:(⟨n9,n,t,a,b,tb,line,col,nm,sup,vf,vm⟩:Kq)=K at g10
 have kkb:K.kb=n9:=by rw[<-hK]
 have kn0:K.n0=n:=by rw[<-hK]
 have kt:K.t=t:=by rw[<-hK]
 have ka:K.a=a:=by rw[<-hK]
 have kb':K.b=b:=by rw[<-hK]
 have ktb:K.tb=tb:=by rw[<-hK]
 have APu:K.cls=nm:=by rw[<-hK]
 have o:Ry G K:=⟨by omega,by rw[kt,kn0];exact h.tn,by rw[ka,kn0];exact h.an,by omega,by rw[ktb];exact hF.ar,by rw[ktb];exact hF.tn,by rw[ktb];exact hF.tl,by rw[APu];exact hco.nm,hG⟩
 have f3a:Kb b H3 (n+1+1+1) H10 (n9+1):=f39.trans (f10.kb (by omega))
 have f0a:Kb b H n H10 (n9+1):=(f03.kb hbn).trans f3a
 have hbx:AIE H10 K:=⟨_,_,_,by rw[kkb];exact g10⟩
 obtain⟨cs,e1,-,-,-,e5,hts⟩:=hm
 have hcl:=hts.len
 rw[AY,AU]
 refine AB (AX (off:=0+5) (b3 f3a).1 (v:=vm) rfl) ?_
 have hlm:ms.length<20:=hco.lm
 refine AGb (e1.same (H':=H10) λid hid=>f0a.same id (hA id (e5 id hid)).1 (hA id (e5 id hid)).2) (λid hid=>by have:=hA id (e5 id hid);omega) (by omega) λv' H11 n11 f11 sk=>?_
 have hn11:=f11.le
 have f3b:Kb b H3 (n+1+1+1) H11 n11:=f3a.trans (f11.kb (by omega))
 rw[AU]
 refine UE (off:=0+5) (m:=1) (v:=v') (b3 f3b).1 sk.ok.1 (by rw[sk.ok.2.1];rfl) (by omega) (by show 0+5+1<=6;omega) λH12 g12 s12=>?_
 rw[sk.ok.2.1]at g12
 have g12:T.get H12 n=some (one (tcC line col nm sup vf v')):=g12
 have AF9:Sk H12 8 (λid=>n9+1<=id/\id<n11) v' cs:=sk.mono (λ_ h=>h) λid h=>s12 id (by omega)
 rw[AU]
 have q5:∀{H':Heap},T.get H' n=some (one (tcC line col nm sup vf v'))->Aa (.ptr n (0+5)) G H'=some v':=λg=>AX (off:=0+5) g rfl
 refine AB (q5 g12) ?_
 have hlen:=(AF9.el (G:=G) (by omega)).len
 rw[hcl]at hlen
 refine AB hlen ?_
 have f0c:Kb b H n H12 n11:=⟨by omega,λid h1 h2=>(s12 id (by omega)).trans ((f11.same id (by omega)).trans (f0a.same id h1 h2)),λhs=>((f0a.seen hs).same (f11.same _ (by omega))).same (s12 _ (by omega))⟩
 exact hk K n9 H12 n11 v' cs kkb kn0 kt ka kb' ktb APu o (by omega) hn11 f0c ⟨_,_,_,by rw[kkb];exact(s12 n9 (by omega)).trans (f11.get g10 (by omega))⟩ g12 ((s12 _ (by omega)).trans (b3 f3b).2.1) ((s12 _ (by omega)).trans (b3 f3b).2.2) AF9 hts
theorem AJe(hG:ACs G)(h:TabAt G H n t a b tb)(hF:TbF tb)(hc:jC G H A l c)(hA:∀id,A id->id<n/\id≠b)(hco:AP9 c)(hl:JV tb c.nm=some (Py c))(hch:ACB tb c.nm=0)(hck:ckC tb c=some c')
 (hk:∀H' n' l',Kb b H n H' n'->jC G H' (λid=>A id∨(n<=id/\id<n')) l' c'->k (.EI [.agg l',.agg [.int .i64 (.ofNat 0) 0,.int .i64 (.ofNat 0) 0,.int .i64 (.ofNat 0) 0]]) H' n'):
 Runs F G Sv [.ptr t 0,.agg l] H n k:=by
 obtain⟨ms',hms,rfl⟩:=Option.map_eq_some_iff.1 (show(AFV tb c.nm c.ms).map (λms=>({c with ms:=ms}:Tc))=some c' from hck)
 have hbn:=h.bn
 cases hc with
 |mk line col hf hm=>
 rename_i nm sup fs ms vf vm
 have hms:AFV tb nm ms=some ms':=hms
 have hmsl:=AKa hms
 have hlm:ms.length<20:=hco.lm
 refine AHR hG h hF hf hm hA hco hl hch λK n9 H12 n11 v' cs kkb kn0 kt ka kb' ktb APu o hn9 hn11 f0c hbx g12 g12b g12c AF9 hts=>?_
 have hcl:=hts.len
 have q5:∀{H':Heap},T.get H' n=some (one (tcC line col nm sup vf v'))->Aa (.ptr n (0+5)) G H'=some v':=λg=>AX (off:=0+5) g rfl
 refine CG (N:=ms.length) (J:=λj q=>∃H' n' ds,q=(.ptr n 0,.ptr (n+1) 0,.ptr (n+2) 0,.ptr n9 0,v',.int .i64 (.ofNat ms.length) 0,.int .i64 (.ofNat j) 0,H',n')/\Kb b H n H' n'/\AIE H' K/\n11<=n'/\
  T.get H' n=some (one (tcC line col nm sup vf v'))/\T.get H' (n+1)=some (one tcZ)/\T.get H' (n+2)=some (one [.int .i64 (.ofNat 0) 0,.int .i64 (.ofNat 0) 0,.int .i64 (.ofNat 0) 0])/\
  Sk H' 8 (λid=>n9+1<=id/\id<n11) v' (ds++cs.drop j)/\PW G H' (λid=>A id∨(n9+1<=id/\id<n'/\v'.Dl≠some id)) ds (ms'.take j)/\ds.length=j) ?_ ?_
  ⟨H12,n11,[],rfl,f0c,hbx,Nat.le_refl _,g12,g12b,g12c,AF9,.nil,rfl⟩
 ·rintro I j q hlt ⟨H13,n13,ds,rfl,f13,hb13,hn13,x1,x2,x3,sk13,hds,hdl⟩ ih
  show Et lfp G (Runs F G) k I (.ptr n 0) (.ptr (n+1) 0) (.ptr (n+2) 0) (.ptr n9 0) v' (.int .i64 (.ofNat ms.length) 0) (.int .i64 (.ofNat j) 0) H13 n13
  delta Et
  have hts13:=PW.mono (H':=H13) (λ_ h=>h) (λid hid=>f13.same id (hA id hid).1 (hA id hid).2) hts
  have hget:=List.getElem?_eq_getElem hlt
  obtain⟨lm,hl1,hmt⟩:=hts13.at hget
  obtain⟨m',hm',hce⟩:=AOo hms hget
  have hmo:=hco.ms _ (List.getElem_mem hlt)
  generalize ms[j]=m at hmt hce hmo
  obtain⟨p,hpp,hld⟩:=(sk13.el (G:=G) (by omega)).at (i:=j) (c:=lm) (by rw[AJq hdl];exact hl1)
  rw[FM,AU,decide_eq_true hlt,A8]
  refine AB hpp (AB (EM hld) ?_)
  refine Ar rfl λH14 f14 g14=>?_
  refine Bf g14 rfl hmt.len (by omega) λH15 g15 s15=>?_
  have f35:Kp H13 n13 H15 (n13+1):=⟨f14.le,λid hid=>(s15 id (by omega)).trans (f14.same id hid)⟩
  rw[AY,AU]
  refine AB (q5 (f35.get x1 (by omega))) (AB (Aw (m:=8) g15 (by omega) hmt.len) ?_)
  have f015:Kb b H n H15 (n13+1):=f13.trans (f35.kb (by omega))
  have hbx15:AIE H15 K:=by
   obtain⟨M,vv,all,g⟩:=hb13
   exact⟨M,vv,all,f35.get g (by omega)⟩
  have ht15:TabAt G H15 K.n0 K.t K.a K.b K.tb:=by
   rw[kn0,kt,ka,kb',ktb];exact h.kb (f015.low (Nat.le_refl _))
  rw[show V.ptr n9 0=.ptr K.kb 0 by rw[kkb]]
  refine AQF (A:=A) o hbx15 ht15 (by omega) (hmt.mono (λ_ h=>h) λid hid=>f35.same id (by have:=hA id hid;omega)) (λid hid=>by have:=hA id hid;rw[kb'];exact⟨by omega,this.2⟩) hmo (by rw[ktb,APu];exact hce) λH16 n16 l' f16 hb16 hm16=>?_
  have hn16:=f16.le
  have k16:∀id,id<n13->id≠b->id≠n9->T.get H16 id=T.get H13 id:=λid h1 h2 h3=>(f16.same id (by omega) (by rw[kb'];exact h2) (by rw[kkb];exact h3)).trans (f35.same id h1)
  have y1:=(k16 n (by omega) (by omega) (by omega)).trans x1
  refine AB (q5 y1) (CX AF9.ok.2.2 ?_)
  have sk16:Sk H16 8 (λid=>n9+1<=id/\id<n11) v' (ds++cs.drop j):=sk13.mono (λ_ h=>h) λid h=>k16 id (by omega) (by omega) (by omega)
  have hlj:j<(ds++cs.drop j).length:=by rw[List.length_append,List.length_drop];omega
  refine sk16.put (i:=j) (w:=.agg l') (by omega) hlj rfl hm16.len λH17 sk17 s17=>?_
  rw[show BA (.agg l')=l' from rfl,set_mid hdl hl1]at sk17
  rw[GV (by omega),AU]
  have vne:∀id,id<n9+1∨n11<=id->v'.Dl≠some id:=λid h e=>by have:=AF9.own e;omega
  have hseen:Lj H b->Lj H17 b:=λhs=>by
   have z1:Lj H15 K.b:=by rw[kb'];exact f015.seen hs
   have z2:=f16.seen z1
   rw[kb']at z2
   exact z2.same (s17 _ (vne _ (.inl (by omega))))
  rw[kkb]
  refine ih _ ⟨H17,n16,ds++[l'],rfl,⟨by have:=f13.le;omega,λid h1 h2=>(s17 id (vne id (.inl (by omega)))).trans ((k16 id (by omega) h2 (by omega)).trans (f13.same id h1 h2)),hseen⟩,?_,by omega,(s17 _ (vne _ (.inl (by omega)))).trans y1,
   (s17 _ (vne _ (.inl (by omega)))).trans ((k16 _ (by omega) (by omega) (by omega)).trans x2),(s17 _ (vne _ (.inl (by omega)))).trans ((k16 _ (by omega) (by omega) (by omega)).trans x3),sk17,?_,by rw[List.length_append,hdl];rfl⟩
  ·obtain⟨M,vv,all,g⟩:=hb16
   exact⟨M,vv,all,(s17 _ (vne _ (.inl (by omega)))).trans g⟩
  ·rw[take_snoc hm']
   refine(PW.mono (λid hid=>?_) (λid hid=>?_) hds).app (.cons (hm16.mono (λid hid=>?_) λid hid=>?_) .nil)
   ·rcases hid with hid|hid
    ·exact .inl hid
    ·exact .inr ⟨hid.1,by omega,hid.2.2⟩
   ·rcases hid with hid|hid
    ·have:=hA id hid
     exact(s17 id (vne id (.inl (by omega)))).trans (k16 id (by omega) this.2 (by omega))
    ·exact(s17 id hid.2.2).trans (k16 id hid.2.1 (by omega) (by omega))
   ·rcases hid with hid|hid
    ·exact .inl hid
    ·exact .inr ⟨by omega,hid.2,vne id (.inr (by omega))⟩
   ·rcases hid with hid|hid
    ·have:=hA id hid;exact s17 id (vne id (.inl (by omega)))
    ·exact s17 id (vne id (.inr (by omega)))
 ·rintro I q ⟨H13,n13,ds,rfl,f13,hb13,hn13,x1,x2,x3,sk13,hds,hdl⟩
  show Et lfp G (Runs F G) k I (.ptr n 0) (.ptr (n+1) 0) (.ptr (n+2) 0) (.ptr n9 0) v' (.int .i64 (.ofNat ms.length) 0) (.int .i64 (.ofNat ms.length) 0) H13 n13
  delta Et
  rw[FM,AU,decide_eq_false (Nat.lt_irrefl _),Ak]
  delta QF
  obtain⟨M,vv,all,gk⟩:=hb13
  rw[kkb]at gk
  rw[Bz,AU,AY,AU,DK,AU]
  refine AB (AX (off:=0+17) gk (v:=.int .i64 (.ofNat 0) 0) rfl) (AB (ADX ..) ?_)
  show Ac (.bool false) true _ _
  rw[Ak]
  refine AB (Aw (m:=6) x1 (by omega) rfl) ?_
  refine AB (v:=.agg [.int .i64 (.ofNat 0) 0,.int .i64 (.ofNat 0) 0,.int .i64 (.ofNat 0) 0]) rfl ?_
  refine Bf x2 rfl rfl (by omega) λH14 g14 s14=>?_
  refine Bf ((s14 (n+2) (by omega)).trans x3) rfl rfl (by omega) λH15 g15 s15=>?_
  rw[BU (m:=6) ((s15 (n+1) (by omega)).trans g14) (by omega) rfl,BU (m:=3) g15 (by omega) rfl]
  simp only[go_sem]
  rw[List.drop_eq_nil_of_le (by omega),List.append_nil]at sk13
  rw[List.take_of_length_le (by omega)]at hds
  have keep:∀id,id≠n+1->id≠n+2->T.get H15 id=T.get H13 id:=λid h1 h2=>(s15 id h2).trans (s14 id h1)
  refine hk H15 n13 (tcC line col nm sup vf v') ⟨f13.le,λid h1 h2=>(keep id (by omega) (by omega)).trans (f13.same id h1 h2),λhs=>(f13.seen hs).same (keep _ (by omega) (by omega))⟩
   (.mk line col (hf.mono (λ_ h=>.inl h) λid hid=>by have:=hA id hid;exact(keep id (by omega) (by omega)).trans (f13.same id this.1 this.2)) ⟨ds,?_,sk13.ks,sk13.ok.1,sk13.ok.2.1,λid hid=>?_,PW.mono (λid hid=>?_) (λid hid=>?_) hds⟩)
  ·exact(sk13.mono (B:=λ_=>True) (λ_ _=>trivial) λid hid=>keep id (by omega) (by omega)).el (by omega)
  ·have:=sk13.own hid;exact .inr ⟨by omega,by omega⟩
  ·rcases hid with hid|hid
   ·exact .inl hid
   ·exact .inr ⟨by omega,hid.2.1⟩
  ·rcases hid with hid|hid
   ·have:=hA id hid;exact keep id (by omega) (by omega)
   ·exact keep id (by omega) (by omega)
end
section
variable{G:AV}{H:Heap}{n t a b:Nat}{tb:Tab}{k:KV}{A:Nat->Prop}{l:LV}
theorem APs(hG:ACs G)(h:TabAt G H n t a b tb)(hF:TbF tb){nm sup:St}{fs:List ER}{m:Tm}(hc:jC G H A l ⟨nm,sup,fs,[m]⟩)(hA:∀id,A id->id<n/\id≠b)(hco:AP9 ⟨nm,sup,fs,[m]⟩)(hl:JV tb nm=some (Py ⟨nm,sup,fs,[m]⟩))(hch:ACB tb nm=0)
 {gs:Gs} (hadd:AEt m.ps ([],0)=some gs)
 (hbb:∀K M H n v vv k,K.tb=tb->K.cls=nm->Ry G K->M.st=m.st->M.ret=m.ret->(∀id,A id->id<K.kb/\id≠K.b)->XC G H n K M vv gs.2 gs.1->Oc G H A v m.body->ALH G K M H n vv gs.1 isO k->Runs F G C9 [.ptr K.kb 0,v] H n k)
 (hk:∀H' n' p q,(∀id,id<n->id≠b->T.get H' id=T.get H id)->k (.EI [.agg tcZ,.agg [.int .i64 (.ofNat 4) 0,.int .i64 (.ofNat p) 0,.int .i64 (.ofNat q) 0]]) H' n'):
 Runs F G Sv [.ptr t 0,.agg l] H n k:=by
 have hbn:=h.bn
 cases hc with
 |mk line col hf hm=>
 rename_i vf vm
 refine AHR hG h hF hf hm hA hco hl hch λK n9 H12 n11 v' cs kkb kn0 kt ka kb' ktb APu o hn9 hn11 f0c hbx g12 g12b g12c AF9 hts=>?_
 have q5:∀{H':Heap},T.get H' n=some (one (tcC line col nm sup vf v'))->Aa (.ptr n (0+5)) G H'=some v':=λg=>AX (off:=0+5) g rfl
 refine CG (N:=1) (J:=λj q=>∃H' n',q=(.ptr n 0,.ptr (n+1) 0,.ptr (n+2) 0,.ptr n9 0,v',.int .i64 (.ofNat 1) 0,.int .i64 (.ofNat j) 0,H',n')/\
  (j=0->H'=H12/\n'=n11)/\(j=1->AaC H' K/\T.get H' (n+1)=some (one tcZ)/\T.get H' (n+2)=some (one [.int .i64 (.ofNat 0) 0,.int .i64 (.ofNat 0) 0,.int .i64 (.ofNat 0) 0])/\n9<n'/\∀id,id<n->id≠b->T.get H' id=T.get H id)) ?_ ?_
  ⟨H12,n11,rfl,λ_=>⟨rfl,rfl⟩,λh=>by cases h⟩
 ·rintro I j q hlt ⟨H13,n13,rfl,hj0,-⟩ ih
  obtain rfl:j=0:=by omega
  obtain⟨rfl,rfl⟩:=hj0 rfl
  show Et lfp G (Runs F G) k I (.ptr n 0) (.ptr (n+1) 0) (.ptr (n+2) 0) (.ptr n9 0) v' (.int .i64 (.ofNat 1) 0) (.int .i64 (.ofNat 0) 0) H13 n13
  delta Et
  have hts13:=PW.mono (H':=H13) (λ_ h=>h) (λid hid=>f0c.same id (hA id hid).1 (hA id hid).2) hts
  cases hts13 with
  |cons hmt htr=>
  cases htr with
  |nil=>
  rename_i lm
  have hmo:=hco.ms m (List.mem_cons_self ..)
  obtain⟨p,hpp,hld⟩:=(AF9.el (G:=G) (by omega)).at (i:=0) (c:=lm) rfl
  rw[FM,AU,decide_eq_true hlt,A8]
  refine AB hpp (AB (EM hld) ?_)
  refine Ar rfl λH14 f14 g14=>?_
  refine Bf g14 rfl hmt.len (by omega) λH15 g15 s15=>?_
  have f35:Kp H13 n13 H15 (n13+1):=⟨f14.le,λid hid=>(s15 id (by omega)).trans (f14.same id hid)⟩
  rw[AY,AU]
  refine AB (q5 (f35.get g12 (by omega))) (AB (Aw (m:=8) g15 (by omega) hmt.len) ?_)
  have f015:Kb b H n H15 (n13+1):=f0c.trans (f35.kb (by omega))
  have hbx15:AIE H15 K:=by
   obtain⟨M,vv,all,g⟩:=hbx
   exact⟨M,vv,all,f35.get g (by omega)⟩
  have ht15:TabAt G H15 K.n0 K.t K.a K.b K.tb:=by
   rw[kn0,kt,ka,kb',ktb];exact h.kb (f015.low (Nat.le_refl _))
  rw[show V.ptr n9 0=.ptr K.kb 0 by rw[kkb]]
  have hmt15:=hmt.mono (H':=H15) (B:=A) (λ_ h=>h) λid hid=>f35.same id (by have:=hA id hid;omega)
  have hA':∀id,A id->id<K.kb/\id≠K.b:=λid hid=>by have:=hA id hid;rw[kb'];exact⟨by omega,this.2⟩
  cases hmt15 with
  |mk line' col' hp hbd=>
  refine AN0 (A:=A) o hbx15 ht15 (by omega) hp hbd hA' hmo hadd (λM H n v vv k e1 e2 h1 h2 h3=>hbb K M H n v vv k ktb APu o e1 e2 hA' h1 h2 h3) λH16 n16 l' f16 hb16 hl16=>?_
  have hn16:=f16.le
  have k16:∀id,id<n13->id≠b->id≠n9->T.get H16 id=T.get H13 id:=λid h1 h2 h3=>(f16.same id (by omega) (by rw[kb'];exact h2) (by rw[kkb];exact h3)).trans (f35.same id h1)
  have y1:=(k16 n (by omega) (by omega) (by omega)).trans g12
  refine AB (q5 y1) (CX AF9.ok.2.2 ?_)
  have sk16:Sk H16 8 (λid=>n9+1<=id/\id<n13) v' [_]:=AF9.mono (λ_ h=>h) λid h=>k16 id (by omega) (by omega) (by omega)
  refine sk16.put (i:=0) (w:=.agg l') (by omega) (by show 0<1;omega) rfl hl16 λH17 sk17 s17=>?_
  rw[GV (by omega),AU]
  have vne:∀id,id<n9+1∨n13<=id->v'.Dl≠some id:=λid h e=>by have:=AF9.own e;omega
  rw[kkb]
  refine ih _ ⟨H17,n16,rfl,λh=>(by cases h),λ_=>⟨?_,(s17 _ (vne _ (.inl (by omega)))).trans ((k16 _ (by omega) (by omega) (by omega)).trans g12b),(s17 _ (vne _ (.inl (by omega)))).trans ((k16 _ (by omega) (by omega) (by omega)).trans g12c),by omega,λid h1 h2=>(s17 _ (vne _ (.inl (by omega)))).trans ((k16 _ (by omega) h2 (by omega)).trans (f0c.same id h1 h2))⟩⟩
  obtain⟨M,vv,all,p,q,g⟩:=hb16
  exact⟨M,vv,all,p,q,(s17 _ (vne _ (.inl (by omega)))).trans g⟩
 ·rintro I q ⟨H13,n13,rfl,-,hj1⟩
  obtain⟨⟨M,vv,all,p,q,gk⟩,x2,x3,hn13,keep⟩:=hj1 rfl
  show Et lfp G (Runs F G) k I (.ptr n 0) (.ptr (n+1) 0) (.ptr (n+2) 0) (.ptr n9 0) v' (.int .i64 (.ofNat 1) 0) (.int .i64 (.ofNat 1) 0) H13 n13
  delta Et
  rw[FM,AU,decide_eq_false (Nat.lt_irrefl _),Ak]
  delta QF
  rw[kkb]at gk
  rw[Bz,AU,AY,AU,DK,AU]
  refine AB (AX (off:=0+17) gk (v:=.int .i64 (.ofNat 4) 0) rfl) (AB (ADX ..) ?_)
  show Ac (.bool true) true _ _
  rw[A8]
  refine AB (v:=.agg tcZ) rfl ?_
  rw[AU,AY,AU]
  have ql:∀{H':Heap},T.get H' n9=some (one (K.bad M vv all p q))->Ah 3 (.ptr n9 (0+17)) G H'=some (.agg [.int .i64 (.ofNat 4) 0,.int .i64 (.ofNat p) 0,.int .i64 (.ofNat q) 0]):=λg=>Dz (off:=0+17) (m:=3) g (by omega) (by show 0+17+3<=20;omega)
  refine AB (ql gk) ?_
  refine Bf x2 rfl rfl (by omega) λH14 g14 s14=>?_
  refine AB (ql ((s14 n9 (by omega)).trans gk)) (CX (dF λv hv=>?_) ?_)
  ·simp at hv;rcases hv with rfl|rfl|rfl<;>exact Xv ..
  refine Bf ((s14 (n+2) (by omega)).trans x3) rfl rfl (by omega) λH15 g15 s15=>?_
  rw[BU (m:=6) ((s15 (n+1) (by omega)).trans g14) (by omega) rfl,BU (m:=3) g15 (by omega) rfl]
  simp only[go_sem]
  exact hk _ _ _ _ λid h1 h2=>(s15 id (by omega)).trans ((s14 id (by omega)).trans (keep id h1 h2))
end
def psN(p:Nat):List ER:=(PQ.pVs 0 p).map vaN
def AE2(n p:Nat):Tm:=⟨(1,109),false,psN p,DZ,List.replicate n (ifN t0 t0)++[wC t0]⟩
def AG0(n p:Nat):Tc:=⟨(1,65),(0,0),[],[AE2 n p]⟩
theorem AUY(n p:Nat):clN (PQ.AY0 n p)=AG0 n p:=by
 show(⟨nmN [65],nmN [],[],[⟨nmN [109],false,psN p,tyP ⟨PQ.G5,false⟩,AII (PQ.AH2 n)⟩]⟩:Tc)=_
 rw[AUF];rfl
noncomputable def tbN(p:Nat):Tab:=ALM [Py (AG0 0 p)]
theorem AMu:∀(k i:Nat),∀f∈(PQ.pVs i k).map vaN,f.nm.1=3/\f.ty=DZ
 |0,_,f,h=>by cases h
 |k+1,i,f,h=>by
  rcases List.mem_cons.1 (show f∈vaN (PQ.pV i)::(PQ.pVs (i+1) k).map vaN from h)with rfl|h
  ·exact⟨rfl,rfl⟩
  ·exact AMu k (i+1) f h
theorem AMo:∀(k i:Nat),((PQ.pVs i k).map vaN).length=k
 |0,_=>rfl
 |k+1,i=>by show((PQ.pVs (i+1) k).map vaN).length+1=_;rw[AMo k (i+1)]
theorem AZT(p:Nat):JF nQ (psN p)=none:=by
 have:∀l:List ER,(∀f∈l,f.nm.1=3)->JF nQ l=none:=by
  intro l
  induction l with
  |nil=>intro _;rfl
  |cons f l ih=>
   intro h
   show(bif decide (f.nm=nQ)then some f.ty else JF nQ l)=none
   rw[show decide (f.nm=nQ)=false from decide_eq_false λe=>by have:=h f (List.mem_cons_self ..);rw[e]at this;cases this]
   exact ih λg hg=>h g (List.mem_cons_of_mem _ hg)
 exact this _ λf hf=>(AMu p 0 f hf).1
theorem AJj:DZ.nm.ok:=λh=>absurd h (by decide)
theorem ATI(p:Nat):∀f∈psN p,f.ty.nm.ok:=λf hf=>by rw[(AMu p 0 f hf).2];exact AJj
theorem AVA{n p:Nat}(hp:p<32):AT9 (AE2 n p):=⟨λh=>absurd h (by show ¬1=0;decide),AJj,ATI p,by show(psN p).length<=1000;rw[psN,AMo];omega⟩
theorem AIs{n p:Nat}(hp:p<32):AP9 (AG0 n p):=⟨λh=>absurd h (by show ¬1=0;decide),λ_=>rfl,λf h=>absurd h List.not_mem_nil,λm h=>(by rw[List.mem_singleton.1 h];exact AVA hp),by show 0<20;omega,by show 1<20;omega⟩
theorem ARg(n p:Nat):JV (tbN p) (1,65)=some (Py (AG0 n p)):=rfl
theorem AOb{p:Nat}{s:St}{c:Fc}(h:JV (tbN p) s=some c):c=Py (AG0 0 p):=by
 have h:JV [((1,65),Py (AG0 0 p))] s=some c:=h
 unfold JV at h
 rw[List.find?_cons]at h
 cases hd:decide ((((1,65):St))=s)with
 |true=>simp only[hd]at h;exact(Option.some.inj h).symm
 |false=>simp only[hd]at h;cases h
theorem AWq{p:Nat}{m:FN}(h:m∈(Py (AG0 0 p)).ms):m=AEb (AE2 0 p):=by
 have h:m∈[AEb (AE2 0 p)]:=h
 exact List.mem_singleton.1 h
theorem tbF{p:Nat}(hp:p<32):TbF (tbN p)where
 tl:=by show 1<=1000;omega
 ar:=λs c h m hm=>by
  rw[AOb h]at hm
  rw[AWq hm]
  show((psN p).map ER.ty).length<=1000
  rw[List.length_map,psN,AMo];omega
 tn:=λs c h=>by
  rw[AOb h]
  exact⟨λf hf=>absurd (show f∈([]:List ER)from hf) List.not_mem_nil,λm hm=>(by rw[AWq hm];exact AJj)⟩
theorem AOi:∀p,p<32->ACB (tbN p) (1,65)=0
 |0,_=>by kernel_rfl
 |1,_=>by kernel_rfl
 |2,_=>by kernel_rfl
 |3,_=>by kernel_rfl
 |4,_=>by kernel_rfl
 |5,_=>by kernel_rfl
 |6,_=>by kernel_rfl
 |7,_=>by kernel_rfl
 |8,_=>by kernel_rfl
 |9,_=>by kernel_rfl
 |10,_=>by kernel_rfl
 |11,_=>by kernel_rfl
 |12,_=>by kernel_rfl
 |13,_=>by kernel_rfl
 |14,_=>by kernel_rfl
 |15,_=>by kernel_rfl
 |16,_=>by kernel_rfl
 |17,_=>by kernel_rfl
 |18,_=>by kernel_rfl
 |19,_=>by kernel_rfl
 |20,_=>by kernel_rfl
 |21,_=>by kernel_rfl
 |22,_=>by kernel_rfl
 |23,_=>by kernel_rfl
 |24,_=>by kernel_rfl
 |25,_=>by kernel_rfl
 |26,_=>by kernel_rfl
 |27,_=>by kernel_rfl
 |28,_=>by kernel_rfl
 |29,_=>by kernel_rfl
 |30,_=>by kernel_rfl
 |31,_=>by kernel_rfl
 |p+32,h=>absurd h (by omega)
theorem AOB:∀p,p<32->AEt (psN p) ([],0)=some (psN p,p)
 |0,_=>by kernel_rfl
 |1,_=>by kernel_rfl
 |2,_=>by kernel_rfl
 |3,_=>by kernel_rfl
 |4,_=>by kernel_rfl
 |5,_=>by kernel_rfl
 |6,_=>by kernel_rfl
 |7,_=>by kernel_rfl
 |8,_=>by kernel_rfl
 |9,_=>by kernel_rfl
 |10,_=>by kernel_rfl
 |11,_=>by kernel_rfl
 |12,_=>by kernel_rfl
 |13,_=>by kernel_rfl
 |14,_=>by kernel_rfl
 |15,_=>by kernel_rfl
 |16,_=>by kernel_rfl
 |17,_=>by kernel_rfl
 |18,_=>by kernel_rfl
 |19,_=>by kernel_rfl
 |20,_=>by kernel_rfl
 |21,_=>by kernel_rfl
 |22,_=>by kernel_rfl
 |23,_=>by kernel_rfl
 |24,_=>by kernel_rfl
 |25,_=>by kernel_rfl
 |26,_=>by kernel_rfl
 |27,_=>by kernel_rfl
 |28,_=>by kernel_rfl
 |29,_=>by kernel_rfl
 |30,_=>by kernel_rfl
 |31,_=>by kernel_rfl
 |p+32,h=>absurd h (by omega)
theorem AJX(p:Nat):DR (tbN p) DZ=true:=rfl
theorem AJR(p:Nat):fitsT (tbN p) DZ DZ=true:=rfl
theorem AXc{n p:Nat}(hp:p<32)(h:n+p<=200):∃c',ckC (tbN p) (AG0 n p)=some c':=by
 have hb:=APE (x:=⟨tbN p,(1,65),false,DZ⟩) (Γ:=psN p) (AJX p) (AJR p) (AJR p) (AZT p) n p (by omega)
 have hm:ckM (tbN p) (1,65) (AE2 n p)=some {AE2 n p with body:=List.replicate n (ifN Df DZ)++[wC DZ]}:=by
  unfold ckM
  rw[show szB (AE2 n p).body=true by unfold szB;rw[decide_eq_true_eq];show(List.replicate n (ifN t0 t0)++[wC t0]).length<=1000;simp;omega]
  show((AEt (psN p) ([],0)).bind λg=>_)=_
  rw[AOB p hp]
  show((uU ⟨tbN p,(1,65),false,DZ⟩ (List.replicate n (ifN t0 t0)++[wC t0]) (psN p,p)).map λq=>_)=_
  rw[hb];rfl
 refine⟨⟨(1,65),(0,0),[],[{AE2 n p with body:=List.replicate n (ifN Df DZ)++[wC DZ]}]⟩,?_⟩
 show(AFV (tbN p) (1,65) [AE2 n p]).map _=_
 unfold AFV
 rw[hm];rfl
section
variable{G:AV}{K:Kq}{M:Km}{p:Nat}
theorem AVN(o:Ry G K)(ht:K.tb=tbN p):AU1 G K M (psN p) (ALY t0):=
 AKp (e0:=AQL 1 DZ) o (ATI p) (by rw[ckL,AMQ,ckL];rfl) (λ_=>by rw[ht];exact AJX p) (.inl ⟨rfl,by rw[ht];exact AJX p,by rw[ht];exact AJR p,AZT p⟩)
theorem AVS(o:Ry G K)(ht:K.tb=tbN p):AU1 G K M (psN p) (ifN t0 t0):=by
 refine AKp (e0:=AMB Df) o (ATI p) (by rw[ckL,APQ,ckL];rfl) (λh=>by cases h) (.inr ⟨rfl,rfl,λH n A v vv k h hs hA hk=>?_⟩)
 exact ACI (j:=0) (a0:=200) o (by show 1<=1000;omega) (by show 0<1;omega) rfl (λs _=>AId o s) (λi s h=>absurd h (by omega)) (λs h=>by cases h;exact AVN o ht) h hs hA hk
theorem ATL{n:Nat}(o:Ry G K)(ht:K.tb=tbN p)(hp:p<32)(hn:n<1000)(h:200<n+p){H:Heap}{m:Nat}{A:Nat->Prop}{v vv:V}{k:KV}(hK:XC G H m K M vv p (psN p))(hs:Oc G H A v (AE2 n p).body)(hA:∀id,A id->id<K.kb/\id≠K.b)
 (hk:ALH G K M H m vv (psN p) isO k):Runs F G C9 [.ptr K.kb 0,v] H m k:=by
 have hl:(List.replicate n (ifN t0 t0)++[wC t0]).length=n+1:=by simp
 have hat:∀i s,i<n->(List.replicate n (ifN t0 t0)++[wC t0])[i]? =some s->s=ifN t0 t0:=λi s hi h=>by
  rw[List.getElem?_append_left (by simpa using hi),List.getElem?_replicate,if_pos hi]at h
  exact(Option.some.inj h).symm
 refine ACI (b:=List.replicate n (ifN t0 t0)++[wC t0]) (j:=200-p) (a0:=p) o (by rw[hl];omega) (by rw[hl];omega) (by omega) (λs _=>AId o s) (λi s hi he=>?_) (λs he=>?_) hK hs hA hk
 ·rw[hat i s (by omega) he]
  exact⟨_,AW9 (by show DR K.tb DZ=true;rw[ht];exact AJX p) (by show fitsT K.tb DZ DZ=true;rw[ht];exact AJR p) (AZT p) (by omega)⟩
 ·rw[hat _ s (by omega) he]
  exact AVS o ht
end
theorem APd{G:AV}{H:Heap}{m t a b n p:Nat}{A:Nat->Prop}{l:LV}{k:KV}(hG:ACs G)(h:TabAt G H m t a b (tbN p))(hp:p<32)(hn:n<1000)(hc:jC G H A l (AG0 n p))(hA:∀id,A id->id<m/\id≠b)
 (hk:∀H' n' l' x y,(∀id,id<m->id≠b->T.get H' id=T.get H id)->l'.length=6->k (.EI [.agg l',.agg [.int .i64 (.ofNat (if n+p<=200 then 0 else 4)) 0,x,y]]) H' n'):Runs F G Sv [.ptr t 0,.agg l] H m k:=by
 by_cases hs:n+p<=200
 ·obtain⟨c',hck⟩:=AXc hp hs
  refine AJe hG h (tbF hp) hc hA (AIs hp) (ARg n p) (AOi p hp) hck λH' n' l' f hl=>?_
  have:=hk H' n' l' (.int .i64 (.ofNat 0) 0) (.int .i64 (.ofNat 0) 0) f.same hl.len
  rw[if_pos hs]at this
  exact this
 ·refine APs (m:=AE2 n p) hG h (tbF hp) hc hA (AIs hp) (ARg n p) (AOi p hp) (AOB p hp) (λK M H m v vv k e1 e2 o e3 e4 hA' h1 h2 h3=>ATL o e1 hp hn (by omega) h1 h2 hA' h3) λH' n' x y hs'=>?_
  have:=hk H' n' tcZ (.int .i64 (.ofNat x) 0) (.int .i64 (.ofNat y) 0) hs' rfl
  rw[if_neg hs]at this
  exact this
end Go.RL
namespace Go.PQ
open Go.RL
theorem APi{n p:Nat}(hn:n<1000)(hp:p<=32):AEv 2000 (APb n p)=some (some (AY0 n p),0):=by
 unfold AEv
 rw[AUJ (AT5 hp) (AU7 (by omega) hp),decide_eq_true rfl]
 show((AJB 2000 (AYj n p)).bind λp=>some (bif decide (p.2=0)then(some p.1,0)else(none,p.2)))=_
 rw[AQT hn (by omega)];rfl
end Go.PQ
namespace Go.RL
open Go.Bj
set_option maxRecDepth 100000
section
variable{G:AV}{H:Heap}{n:Nat}{k:KV}
theorem AcI(hM:PQ.Ur G){s:PQ.Bs}{f:Nat}{cl:PQ.Cl}(hcl:PQ.AEv f s=some (some cl,0)){id:Nat}(hel:El G H (.sl id 0 1 1 1) 1 [[sB s]])(hid:id<n)
 (hk:∀H' n' w c,Kp H n H' n'->Sk H' 6 (λid=>n<=id/\id<n') w [c]->jC G H' (λid=>n<=id/\id<n'/\w.Dl≠some id) c (clN cl)->k (.EI [w,.bool true]) H' n'):Runs F G uw [.sl id 0 1 1 1] H n k:=by
 refine go1 (AD0 Aq G) ?_
 delta qA
 refine AOw (by omega) λH1 f1 g1=>?_
 obtain⟨t1,g1⟩:=g1
 have lo:∀{H':Heap} {n':Nat},Kp H n H' n'->El G H' (.sl id 0 1 1 1) 1 [[sB s]]:=λf=>hel.same λi hi=>f.same i (by cases hi;exact hid)
 refine AB (lo f1).len ?_
 refine CG (N:=1) (J:=λj q=>∃H' n' w ls,q=(w,.sl id 0 1 1 1,.int .i64 (.ofNat 1) 0,.int .i64 (.ofNat j) 0,H',n')/\Kp H n H' n'/\Sk H' 6 (λid=>n<=id/\id<n') w ls/\ls.length=j/\(j=1->∃c,ls=[c]/\jC G H' (λid=>n<=id/\id<n'/\w.Dl≠some id) c (clN cl))) ?_ ?_
  ⟨H1,n+1,_,[],rfl,f1,.emp g1 ⟨Nat.le_refl _,by omega⟩,rfl,λh=>by cases h⟩
 ·rintro I j q hlt ⟨H2,n2,w,ls,rfl,f2,sk,hls,-⟩ ih
  obtain rfl:j=0:=by omega
  obtain rfl:ls=[]:=List.eq_nil_of_length_eq_zero hls
  show MN lfp G (Runs F G) k I w (.sl id 0 1 1 1) (.int .i64 (.ofNat 1) 0) (.int .i64 (.ofNat 0) 0) H2 n2
  delta MN
  have hn2:=f2.le
  obtain⟨p,hp,hld⟩:=(lo f2).at (i:=0) (c:=[sB s]) rfl
  rw[FM,AU,decide_eq_true hlt,A8]
  refine AB hp (AB (Zz hld) ?_)
  refine PQ.ABM hM hcl λH3 n3 c ft f3 hc hft=>?_
  obtain⟨hc,-⟩:=hc
  obtain⟨line,col,rfl,-,hz⟩:=hft
  obtain⟨rfl,rfl⟩:=hz rfl
  have hn3:=f3.le
  rw[ZF,AU,ZN,AU]
  refine Ar rfl λH4 f4 g4=>?_
  refine Ar rfl λH5 f5 g5=>?_
  have g4:=f5.get g4 (by omega)
  refine Bf g4 rfl hc.len (by omega) λH6 g6 s6=>?_
  refine Bf ((s6 _ (by omega)).trans g5) rfl rfl (by omega) λH7 g7 s7=>?_
  have g6:=(s7 n3 (by omega)).trans g6
  refine AB (v:=.ptr (n3+1) 0) (by rw[AY]) (AB (AX (off:=0) g7 (v:=.int .i64 (.ofNat 0) 0) rfl) ?_)
  rw[ADX,AU,decide_eq_true rfl,Bool.not_true,Ak]
  refine AB (Aw (m:=6) g6 (by omega) hc.len) ?_
  have f37:Kp H3 n3 H7 (n3+1+1):=⟨by omega,λi hi=>(s7 i (by omega)).trans ((s6 i (by omega)).trans ((f4.trans f5).same i hi))⟩
  have f27:=f3.trans f37
  have sk7:Sk H7 6 (λid=>n<=id/\id<n2) w []:=sk.mono (λ_ h=>h) λi h=>f27.same i h.2
  have hc7:=PQ.AD9.mono (H':=H7) (λ_ h=>h) (λi h=>f37.same i h.2) hc
  refine sk7.app (bs:=96) (c:=.agg c) (m:=0) (λi hi=>by have:=sk7.own hi;omega) (by omega) rfl hc.len (by show 1*96<=_;omega) λw' H8 hs8 same8 hsid=>?_
  rw[GV (by omega),AU]
  refine ih _ ⟨H8,n3+1+1+2,w',_,rfl,⟨by omega,λi hi=>(same8 i (by omega) λe=>by have:=sk7.own e;omega).trans ((f27.same i (by omega)).trans (f2.same i hi))⟩,hs8 _ ⟨by omega,by omega⟩,rfl,λ_=>⟨c,rfl,?_⟩⟩
  refine Aaa (PQ.AD9.mono (λi h=>⟨by have:=h.1;omega,by have:=h.2;omega,λe=>?_⟩) (λi h=>same8 i (by have:=h.2;omega) λe=>?_) hc7)
  ·rw[hsid]at e;have:=Option.some.inj e;have:=h.2;omega
  ·have:=sk7.own e;have:=h.1;omega
 ·rintro I q ⟨H2,n2,w,ls,rfl,f2,sk,hls,hj⟩
  obtain⟨c,rfl,hc⟩:=hj rfl
  show MN lfp G (Runs F G) k I w (.sl id 0 1 1 1) (.int .i64 (.ofNat 1) 0) (.int .i64 (.ofNat 1) 0) H2 n2
  delta MN
  rw[FM,AU,decide_eq_false (Nat.lt_irrefl _),Ak]
  exact hk H2 n2 w c f2 sk hc
end
noncomputable def Gx(G:AV):AV:=λb o z=>Bool.rec (motive:=λ_=>Option LV) (G b o z) (some (PQ.Eu.map sB)) (band (Nat.beq b 0) (band (Nat.beq o 0) (Nat.beq z 22)))
theorem Aa8{G:AV}(h:PQ.Ur G):Gx G=G:=by
 funext b o z
 show(Bool.rec (motive:=λ_=>Option LV) (G b o z) (some (PQ.Eu.map sB)) (band (Nat.beq b 0) (band (Nat.beq o 0) (Nat.beq z 22))):Option LV)=_
 cases hb:band (Nat.beq b 0) (band (Nat.beq o 0) (Nat.beq z 22))with
 |false=>rfl
 |true=>
  rw[BO,BO,Bool.and_eq_true,Bool.and_eq_true,Nat.beq_eq,Nat.beq_eq,Nat.beq_eq]at hb
  obtain⟨rfl,rfl,rfl⟩:=hb
  exact h.symm
set_option maxHeartbeats 0 in
theorem AMM(G:AV):run F (Gx G) 100 100 Wh [] .e 0 WZ=True:=by kernel_rfl
theorem ATn{G:AV}{k:KV}(hM:PQ.Ur G)(hk:∀H n,k (.bool true) H n):Runs F G Wh [] .e 0 k:=by
 have h:=of_eq_true (AMM G)
 rw[Aa8 hM]at h
 exact APj (λv H n hv=>by have:=AUL hv;subst this;exact hk H n) ⟨100,h⟩
end Go.RL
namespace Go.PQ
theorem AWx:∀(k i:Nat),psB i (k+1)=psB i k++(cmB (i+k)++p1B (i+k))
 |0,i=>by show cmB i++(p1B i++[])=_;rw[List.append_nil];rfl
 |k+1,i=>by
  show cmB i++(p1B i++psB (i+1) (k+1))=(cmB i++(p1B i++psB (i+1) k))++_
  rw[AWx k (i+1),show i+1+k=i+(k+1)by omega]
  simp only[List.append_assoc]
end Go.PQ
namespace Go.RL
open Go.Bj
set_option maxRecDepth 100000
theorem AZs(u:Nat)(h:u<256):B2.ev .quo (.int .i64 (.ofNat u) 0) (.int .i64 (.ofNat 16) 0)=some (.int .i64 (.ofNat (u/16)) 0):=by
 show BF true (mkI .i64 (Int.tdiv (.ofNat u) (.ofNat 16)) 0)=_
 show mkI .i64 (Int.tdiv (.ofNat u) (.ofNat 16)) 0=_
 rw[AKw]
 have e:Int.tdiv (Int.ofNat u) (Int.ofNat 16)=Int.ofNat (u/16):=rfl
 rw[e,RG (by show(-9223372036854775808:Int)<=((u/16:Nat):Int);omega) (by show((u/16:Nat):Int)<9223372036854775808;omega)]
theorem to8:∀a,a<16->AS5 .u8 (.int .i64 (.ofNat a) 0)=some (.int .u8 (.ofNat a) 0):=λa h=>
 match a,h with
 |0,_=>rfl|1,_=>rfl|2,_=>rfl|3,_=>rfl|4,_=>rfl|5,_=>rfl|6,_=>rfl|7,_=>rfl
 |8,_=>rfl|9,_=>rfl|10,_=>rfl|11,_=>rfl|12,_=>rfl|13,_=>rfl|14,_=>rfl|15,_=>rfl
 |n+16,h=>absurd h (by omega)
theorem AWF:∀a,a<16->B2.ev .add (.int .u8 (.ofNat 97) 0) (.int .u8 (.ofNat a) 0)=some (.int .u8 (.ofNat (97+a)) 0):=λa h=>
 match a,h with
 |0,_=>rfl|1,_=>rfl|2,_=>rfl|3,_=>rfl|4,_=>rfl|5,_=>rfl|6,_=>rfl|7,_=>rfl
 |8,_=>rfl|9,_=>rfl|10,_=>rfl|11,_=>rfl|12,_=>rfl|13,_=>rfl|14,_=>rfl|15,_=>rfl
 |n+16,h=>absurd h (by omega)
def AVQ(j:Nat):PQ.Bs:=[UInt8.ofNat (97+j/16),UInt8.ofNat (97+j%16)]
theorem Aaw:∀j,j<32->(UInt8.ofNat (97+j/16)).toNat=97+j/16/\(UInt8.ofNat (97+j%16)).toNat=97+j%16:=by decide
section
variable{G:AV}{A:Nat->Prop}
theorem jC.vs{H:Heap}{l:LV}{c:Tc}(h:jC G H A l c):BH (.agg l) (.agg l)=true:=by
 cases h with
 |mk line col hf hm=>
  obtain⟨_,_,k2,_⟩:=hm
  refine dF λv hv=>?_
  simp only[tcC,List.mem_cons,List.not_mem_nil,or_false]at hv
  rcases hv with rfl|rfl|rfl|rfl|rfl|rfl<;>first|exact Xv .. |exact jH .. |exact hf.2.1.1|exact k2.1
theorem AcV(hG:ACs G)(hM:PQ.Ur G){N P:Nat}(hN:N<256)(hP:P<32){H:Heap}{n:Nat}{k:KV}(hk:∀H' n',k (.bool true) H' n'):
 G7 lfp G (Runs F G) k (.int .i64 (.ofNat N) 0) (.int .i64 (.ofNat P) 0) (sB (PQ.psB 0 P)) (sB (PQ.pW N PQ.ifB)) H n:=by
 delta G7
 have l1:=PQ.AEM P 0
 have l2:=PQ.AFE N PQ.ifB
 have l3:PQ.ifB.length=27:=rfl
 rw[l3]at l2
 have e1:PQ.ALg.length=23:=rfl
 have e2:PQ.AHC.length=4:=rfl
 have e3:PQ.ADY.length=14:=rfl
 refine AB (AC8 (a:=PQ.ALg) (by omega)) ?_
 refine AB (AC8 (b:=PQ.AHC) (by simp only[List.length_append];omega)) ?_
 refine AB (AC8 (by simp only[List.length_append];omega)) ?_
 refine AB (AC8 (b:=PQ.ADY) (by simp only[List.length_append];omega)) ?_
 rw[show((PQ.ALg++PQ.psB 0 P++PQ.AHC)++PQ.pW N PQ.ifB)++PQ.ADY=PQ.APb N P by unfold PQ.APb;simp only[List.append_assoc]]
 refine ARy (G:=G) rfl rfl λH1 f1 hel=>?_
 refine AcI hM (PQ.APi (n:=N) (p:=P) (by omega) (by omega)) ⟨rfl,hel⟩ (by omega) λH2 n2 w c f2 sk hc=>?_
 rw[AUY]at hc
 have hn2:=f2.le
 rw[ZF,AU,ZN,AU]
 refine AB (Du ..) ?_
 show Ac (.bool false) true _ _
 rw[Ak]
 obtain⟨p,hpp,hld⟩:=(sk.el (G:=G) (by omega)).at (i:=0) (c:=c) rfl
 refine AB hpp (AB (EM hld) ?_)
 refine Ar rfl λH3 f3 g3=>?_
 refine Ar rfl λH4 f4 g4=>?_
 have g3:=f4.get g3 (by omega)
 have f24:=f3.trans f4
 have hc4:=hc.mono (H':=H4) (λ_ h=>h) λid h=>f24.same id h.2.1
 have sk4:=sk.mono (H':=H4) (λ_ h=>h) λid h=>f24.same id h.2
 refine AUt (cs:=[AG0 N P]) (ls:=[c]) (sk4.el (by omega)) (λid hid=>by have:=sk4.own hid;omega) (.cons hc4.fc .nil) (λid hid=>by have:=hid.2.1;omega) (λx hx=>by rw[List.mem_singleton.1 hx];exact AIs hP) (by show 1<=100;omega) λH5 n5 t a b f5 hb ht=>?_
 have hn5:=f5.le
 have sk5:=sk4.mono (H':=H5) (λ_ h=>h) λid h=>f5.same id (by have:=h.2;omega)
 obtain⟨p',hpp',hld'⟩:=(sk5.el (G:=G) (by omega)).at (i:=0) (c:=c) rfl
 rw[hpp]at hpp'
 obtain rfl:=Option.some.inj hpp'
 refine AB (EM hld') (CX hc.vs ?_)
 have hc5:=hc4.mono (H':=H5) (λ_ h=>h) λid h=>f5.same id (by have:=h.2.1;omega)
 refine APd (n:=N) (p:=P) hG ht hP (by omega) hc5 (λid h=>by have:=h.2.1;omega) λH6 n6 l' x y hs hl=>?_
 have g3:=(hs _ (by omega) (by omega)).trans (f5.get g3 (by omega))
 have g4:=(hs _ (by omega) (by omega)).trans (f5.get g4 (by omega))
 rw[ZF,AU,ZN,AU]
 refine Bf g3 rfl hl (by omega) λH7 g7 s7=>?_
 refine Bf ((s7 _ (by omega)).trans g4) rfl rfl (by omega) λH8 g8 s8=>?_
 have q:Aa (.ptr (n2+1) 0) G H8=some (.int .i64 (.ofNat (if N+P<=200 then 0 else 4)) 0):=AX (off:=0) g8 rfl
 refine AB (DK ..) (AB q (AB (Dy ..) ?_))
 refine AB (Vu (by omega)) (AB (AMY ..) ?_)
 by_cases h:N+P<=200
 ·rw[if_pos h]at q
  rw[if_pos h,decide_eq_true h,decide_eq_true rfl,ASo,AU]
  show BX (.bool true) true _ _
  simp only[go_sem,DK,q,Dy,decide_true]
  exact hk _ _
 ·rw[if_neg h]at q
  rw[if_neg h,decide_eq_false h,show decide (4=0)=false from rfl,ASo,AU,show(false==false)=true from rfl]
  have z1:Dw (.one .int) false (.int .i64 (.ofNat 4) 0) (.int .i64 (.ofNat 0) 0)=some (.bool false):=(Dy ..).trans rfl
  have z2:Dw (.one .int) false (.int .i64 (.ofNat 4) 0) (.int .i64 (.ofNat 4) 0)=some (.bool true):=(Dy ..).trans rfl
  simp only[go_sem,DK,q,z1,z2]
  exact hk _ _
theorem AGu(hG:ACs G)(hM:PQ.Ur G){a b:Int}{k:KV}(hk:∀H' n',k (.bool true) H' n'):Runs F G fE [.int .i64 a 0,.int .i64 b 0] .e 0 k:=by
 refine go2 (dY Aq G) ?_
 delta UG
 refine ATn hM λH0 n0=>?_
 refine AB (Du ..) ?_
 show Ac (.bool false) true _ _
 rw[Ak]
 refine AB (ATg a (m:=255) (by omega)) (AB (ATg b (m:=31) (by omega)) ?_)
 have hN:=(ACQ a (m:=255) (by omega)).2
 have hP:=(ACQ b (m:=31) (by omega)).2
 generalize AGo a 255=N at hN
 generalize AGo b 31=P at hP
 have l3:PQ.ifB.length=27:=rfl
 refine CG (N:=P) (J:=λj q=>∃H' n',q=(.int .i64 (.ofNat N) 0,.int .i64 (.ofNat P) 0,sB (PQ.psB 0 j),.int .i64 (.ofNat j) 0,H',n')) ?_ ?_ ⟨H0,n0,rfl⟩
 ·rintro I j q hlt ⟨H1,n1,rfl⟩ ih
  show En lfp G (Runs F G) k I (.int .i64 (.ofNat N) 0) (.int .i64 (.ofNat P) 0) (sB (PQ.psB 0 j)) (.int .i64 (.ofNat j) 0) H1 n1
  delta En
  have l1:=PQ.AEM j 0
  have hq:j/16<16:=by omega
  have hm:j%16<16:=by omega
  obtain⟨t1,t2⟩:=Aaw j (by omega)
  rw[FM,AU,decide_eq_true hlt,A8]
  have go:Eo lfp G (Runs F G) k I (.int .i64 (.ofNat N) 0) (.int .i64 (.ofNat P) 0) (sB (PQ.psB 0 j++PQ.cmB j)) (.int .i64 (.ofNat j) 0) H1 n1:=by
   delta Eo
   have l2:(PQ.cmB j).length<=2:=by unfold PQ.cmB;cases decide (0<j)<;>simp
   refine AB (AC8 (b:=[105,110,116,32,112]) (by simp only[List.length_append,List.length_cons,List.length_nil];omega)) ?_
   refine AB (AZs j (by omega)) (AB (to8 _ hq) (AB (AWF _ hq) ?_))
   refine AB (AW6 j (m:=16) (by omega)) (AB (to8 _ hm) (AB (AWF _ hm) ?_))
   refine Ld (G:=G) (vs:=[.int .u8 (.ofNat (97+j/16)) 0,.int .u8 (.ofNat (97+j%16)) 0]) rfl (by omega) (λv hv=>by simp at hv;rcases hv with rfl|rfl<;>exact⟨rfl,rfl⟩) λH2 f2 _ hel=>?_
   have hcv:AYu (.sl n1 0 2 2 1) G H2=some (sB (AVQ j)):=by
    rw[AaD (xs:=[97+j/16,97+j%16]) hel (λx hx=>by simp at hx;omega)]
    show some (V.str 2 (97+j/16+256*(97+j%16+256*0)))=some (V.str 2 ((UInt8.ofNat (97+j/16)).toNat+256*((UInt8.ofNat (97+j%16)).toNat+256*0)))
    rw[t1,t2]
   have l4:(AVQ j).length=2:=rfl
   refine AB hcv (AB (AC8 (b:=AVQ j) (by simp only[List.length_append,List.length_cons,List.length_nil];omega)) (AB (GV (by omega)) ?_))
   refine ih _ ⟨H2,n1+1,?_⟩
   rw[PQ.AWx j 0,Nat.zero_add]
   show(_,_,sB (((PQ.psB 0 j++PQ.cmB j)++[105,110,116,32,112])++AVQ j),_,_,_)=_
   simp only[List.append_assoc];rfl
  rw[ANW,AU]
  cases h0:decide (0<j)with
  |true=>
   rw[A8]
   refine AB (AC8 (b:=[44,32]) (by simp only[List.length_cons,List.length_nil];omega)) ?_
   unfold PQ.cmB at go
   rw[h0]at go;exact go
  |false=>
   rw[Ak]
   unfold PQ.cmB at go
   rw[h0]at go
   rw[show PQ.psB 0 j++(bif false then[44,32]else[])=PQ.psB 0 j from List.append_nil _]at go
   exact go
 ·rintro I q ⟨H1,n1,rfl⟩
  show En lfp G (Runs F G) k I (.int .i64 (.ofNat N) 0) (.int .i64 (.ofNat P) 0) (sB (PQ.psB 0 P)) (.int .i64 (.ofNat P) 0) H1 n1
  delta En
  rw[FM,AU,decide_eq_false (Nat.lt_irrefl _),Ak]
  delta Ko
  refine CG (N:=N) (J:=λj q=>∃H' n',q=(.int .i64 (.ofNat N) 0,.int .i64 (.ofNat P) 0,sB (PQ.psB 0 P),sB (PQ.pW j PQ.ifB),.int .i64 (.ofNat j) 0,H',n')) ?_ ?_ ⟨H1,n1,rfl⟩
  ·rintro I j q hlt ⟨H2,n2,rfl⟩ ih
   show Ej lfp G (Runs F G) k I (.int .i64 (.ofNat N) 0) (.int .i64 (.ofNat P) 0) (sB (PQ.psB 0 P)) (sB (PQ.pW j PQ.ifB)) (.int .i64 (.ofNat j) 0) H2 n2
   delta Ej
   have l1:=PQ.AFE j PQ.ifB
   rw[l3]at l1
   rw[FM,AU,decide_eq_true hlt,A8]
   refine AB (AC8 (b:=PQ.ifB) (by omega)) (AB (GV (by omega)) ?_)
   exact ih _ ⟨H2,n2,by rw[PQ.AXJ]⟩
  ·rintro I q ⟨H2,n2,rfl⟩
   show Ej lfp G (Runs F G) k I (.int .i64 (.ofNat N) 0) (.int .i64 (.ofNat P) 0) (sB (PQ.psB 0 P)) (sB (PQ.pW N PQ.ifB)) (.int .i64 (.ofNat N) 0) H2 n2
   delta Ej
   rw[FM,AU,decide_eq_false (Nat.lt_irrefl _),Ak]
   exact AcV hG hM (by omega) (by omega) hk
end
end Go.RL
