/- Part of a proof: texts VXA VXB VXC VXD VXE VXF VXG VXH VXI of the engine and what is proved with it; nothing is assumed. -/
import Derived.Test.YtibbhhkcjjeclaaDoorConD
import Derived.Test.YtibbhhkcjjeclaaDoorWalk
set_option linter.unusedVariables false
set_option linter.unusedSimpArgs false
namespace Go.RL
open Go.CS
set_option maxRecDepth 100000
theorem ANb{t:Ty}(h:t.arr=false):t.is Ba=decide (t.nm.1=4/\t.nm.2=1819047278):=by
 unfold Ty.is
 rw[h]
 show(decide _&&(false==false))=_
 rw[show(false==false)=true from rfl,Bool.and_true];rfl
theorem AAb{G:AQ}{t:Ty}{H:Heap}{n:Nat}{k:KV}(hk:∀H' n',Kp H n H' n'->k (.bool (t.is Ba)) H' n'):Runs F G NG [t.v] H n k:=by
 refine BN (s:=KL (Fq lfp G)) Ll (by obtain⟨h,o⟩:=RQ BO G;rw[Ll]at h;cases h;exact o) ?_
 show Fq lfp G (Runs F G) t.v H n k
 delta Fq
 refine F9 λH1 f1 g1=>?_
 rw[Aj g1,AV,show BX [.str 0 0,.bool false] [(0,1,.c (.str 4 1819047278))]=some Ba.v from rfl,AV,gI,AV]
 exact hk _ _ f1
theorem AI6{G:AQ}{t:Ty}(hl:t.nm.ok){H:Heap}{n:Nat}{k:KV}(hk:∀H' n',Kp H n H' n'->k (.bool t.obj) H' n'):Runs F G TK [t.v] H n k:=by
 refine BN (s:=KL (F6 lfp G)) Ls (by obtain⟨h,o⟩:=Ri BO G;rw[Ls]at h;cases h;exact o) ?_
 show F6 lfp G (Runs F G) t.v H n k
 delta F6
 refine F9 λH1 f1 g1=>?_
 unfold Ty.obj at hk
 simp only[go_sem,Nat.reduceAdd,AU (off:=1) g1 (v:=.bool t.arr) rfl]
 cases h1:t.arr with
 |true=>
  rw[h1]at hk
  simp only[go_sem]
  exact hk _ _ f1
 |false=>
  rw[h1]at hk
  have e:=ANb h1
  simp only[go_sem,Nat.reduceAdd,AU (off:=0) g1 (v:=.str t.nm.1 t.nm.2) rfl,yL,<-e]
  cases h2:t.is Ba with
  |true=>
   rw[h2]at hk
   simp only[go_sem]
   have:(false||(t.cls||true))=true:=by cases t.cls<;>rfl
   rw[this]at hk
   exact hk _ _ f1
  |false=>
   rw[h2]at hk
   simp only[go_sem,Aj g1]
   refine uJ hl λH2 n2 f2=>?_
   have:(false||(t.cls||false))=t.cls:=by cases t.cls<;>rfl
   rw[this]at hk
   exact hk _ _ (f1.trans f2)
theorem AH0{G:AQ}{y:Ty}{c:Bool}{p:V}{H:Heap}{n:Nat}{P:V->Heap->Nat->Prop}(hy:y.nm.ok)(hld:Af 2 p G H=some y.v)(h:∀H' n',Kp H n H' n'->P (.bool (c&&y.obj)) H' n'):
 Ak (.bool c) true (some (.fn TK [] [])) λf=>Ak (.bool c) true (Af 2 p G H) λv=>Dx (.bool c) true (BQ f [v] (Runs F G) H n) H n λw H n=>AL (Aw (.bool c) w (.bool false)) λu=>P u H n:=by
 cases c with
 |false=>simp only[go_sem];exact h _ _ (Kp.refl _ _)
 |true=>
  simp only[go_sem,hld]
  exact AI6 hy λH' n' f=>h _ _ f
theorem ALx{G:AQ}{H:Heap}{n n0 kb i t a b fm:Nat}{vn:V}{L:LV}{fs:Tab}(h:QU G H n0 i t a b fm vn fs)(hn:n0<=n)(hfs:fs.length<=1000)(hkb:kb<n)(hkb':kb≠b)(g:T.get H kb=some (one L))(h0:L[0]? =some (.ptr i 0)){x y:Ty}(hx:x.nm.ok)(hy:y.nm.ok){k:KV}
 (hk:∀H' n',Kb b H n H' n'->k (.Fh [(Cm fs x y).1.v,.bool (Cm fs x y).2]) H' n'):Runs F G Pn [.ptr kb 0,x.v,y.v] H n k:=by
 refine BN (s:=ar3 (Hf lfp G)) Nw (by obtain⟨h,o⟩:=U0 BO G;rw[Nw]at h;cases h;exact o) ?_
 show Hf lfp G (Runs F G) (.ptr kb 0) x.v y.v H n k
 delta Hf
 have h:=h.kb (f:=⟨hn,λ_ _ _=>rfl,λh=>h⟩)
 have hbn:=h.tab.bn
 unfold Cm at hk
 refine F9 λH1 f1 g1=>?_
 refine F9 λH2 f2 g2=>?_
 refine EJ rfl λH3 f3 g3=>?_
 have f:=((f1.trans f2).trans f3).kb (b:=b) hbn
 have g1:=(f2.trans f3).get g1 (by omega)
 have g2:=f3.get g2 (by omega)
 have out:∀(H':Heap) (n':Nat) (L:LV) (r:Ty) (ok:Bool),Kb b H n H' n'->n+2<n'->T.get H' (n+2)=some (one L)->L.length=2->(∀H' n',Kb b H n H' n'->k (.Fh [r.v,.bool ok]) H' n')->
  Bg 2 (.ptr (n+2) 0) r.v H' n' λ_ H n1=>II (CB [.cn (.ptr (n+2) 0) 2,.t (.bool ok)] G H) λl=>k (JX l) H n1:=by
  intro H' n' L r ok f hn g hL hk
  show Bg 2 (.ptr (n+2) 0) (.agg r.cells) H' n' _
  rw[ED (m:=2) g (by omega) hL rfl,CW (m:=2) (T.Ag ..) (by omega) rfl]
  exact hk _ _ (f.trans' (m:=n') (λid hid=>T.Ac _ _ (by omega)) (Nat.le_refl _) hbn)
 have fin2:∀(H':Heap) (n':Nat),Kb b H n H' n'->n+2<n'->T.get H' (n+2)=some (one [.str 0 0,.bool false])->(∀H' n',Kb b H n H' n'->k (.Fh [BI.v,.bool false]) H' n')->FB lfp G (Runs F G) k (.ptr (n+2) 0) H' n':=by
  intro H' n' f hn g hk
  delta FB
  rw[aZ,AV]
  exact out _ _ _ BI _ f hn g rfl hk
 simp only[Aj g1,Aj g2,gI,AV]
 cases h1:x.is y with
 |true=>
  rw[h1]at hk
  simp only[go_sem]
  exact out _ _ _ _ _ f (by omega) g3 rfl hk
 |false=>
  rw[h1]at hk
  rw[BZ]
  show Runs F G NG [x.v] H3 _ _
  refine AAb λH4 n4 f4=>?_
  have f:=f.trans (f4.kb (by omega))
  have g1:=f4.get g1 (by omega)
  have g2:=f4.get g2 (by omega)
  have g3:=f4.get g3 (by omega)
  have hn4:=f4.le
  refine AH0 hy (Aj g2) λH5 n5 f5=>?_
  have f:=f.trans (f5.kb (by omega))
  have g1:=f5.get g1 (by omega)
  have g2:=f5.get g2 (by omega)
  have g3:=f5.get g3 (by omega)
  have hn5:=f5.le
  cases h2:x.is Ba&&y.obj with
  |true=>
   rw[h2]at hk
   simp only[go_sem,Aj g2]
   exact out _ _ _ _ _ f (by omega) g3 rfl hk
  |false=>
  rw[h2]at hk
  rw[BZ,Aj g2,AV]
  show Runs F G NG [y.v] H5 _ _
  refine AAb λH6 n6 f6=>?_
  have f:=f.trans (f6.kb (by omega))
  have g1:=f6.get g1 (by omega)
  have g2:=f6.get g2 (by omega)
  have g3:=f6.get g3 (by omega)
  have hn6:=f6.le
  refine AH0 hx (Aj g1) λH7 n7 f7=>?_
  have f:=f.trans (f7.kb (by omega))
  have g1:=f7.get g1 (by omega)
  have g2:=f7.get g2 (by omega)
  have g3:=f7.get g3 (by omega)
  have hn7:=f7.le
  cases h3:y.is Ba&&x.obj with
  |true=>
   rw[h3]at hk
   simp only[go_sem,Aj g1]
   exact out _ _ _ _ _ f (by omega) g3 rfl hk
  |false=>
  rw[h3]at hk
  rw[BZ,Aj g1,AV]
  refine uJ hx λH8 n8 f8=>?_
  have f:=f.trans (f8.kb (by omega))
  have g1:=f8.get g1 (by omega)
  have g2:=f8.get g2 (by omega)
  have g3:=f8.get g3 (by omega)
  have hn8:=f8.le
  refine ALb hy (Aj g2) λH9 n9 f9=>?_
  have f:=f.trans (f9.kb (by omega))
  have g1:=f9.get g1 (by omega)
  have g2:=f9.get g2 (by omega)
  have g3:=f9.get g3 (by omega)
  have hn9:=f9.le
  cases h4:x.cls&&y.cls with
  |false=>
   rw[h4]at hk
   simp only[go_sem]
   exact fin2 _ _ f (by omega) g3 hk
  |true=>
  rw[h4]at hk
  have hi:=h.kb f
  have gk:=f.get g hkb hkb'
  simp only[go_sem,Nat.reduceAdd,AU (off:=0) gk (v:=.ptr i 0) h0,AU (off:=0) hi.at' (v:=.ptr t 0) rfl,AU (off:=0) g1 (v:=x.nm.v) rfl]
  refine dR hi.tab hfs λH7 n7 v f7 ho hlen=>?_
  have f:=f.trans f7
  have g2:=f7.get g2 (by omega) (by omega)
  have g3:=f7.get g3 (by omega) (by omega)
  have gk:=f7.get gk (by omega) hkb'
  have hn7:=f7.le
  have hne:∀z∈(above fs x.nm).1,z≠(0,0):=λz hz=>by
   rcases wO _ _ _ _ _ hz with h|h
   ·exact absurd h List.not_mem_nil
   ·exact h
  have hi:=hi.kb f7
  unfold Eu at hk
  generalize(above fs x.nm).1=cs at ho hk hlen hne
  simp only[go_sem,(ho.el (by omega)).len,JE]
  have h2n:=f7.le
  refine Bc (N:=cs.length) (J:=λj st=>∃H' n',st=(.ptr kb 0,.ptr (n+1) 0,.ptr (n+2) 0,v,.int .i64 (.ofNat cs.length) 0,.int .i64 (.ofNat j) 0,H',n')/\Kb b H7 n7 H' n'/\Own G H' n9 n' 1 v (strs cs)/\EC fs y.nm (cs.drop j)=EC fs y.nm cs) ?_ ?_ ⟨H7,n7,rfl,Kb.refl ..,ho,rfl⟩
  ·rintro I j st hlt ⟨H8,n8,rfl,f8,ho,hcm⟩ ih
   show Ew lfp G (Runs F G) k I (.ptr kb 0) (.ptr (n+1) 0) (.ptr (n+2) 0) v (.int .i64 (.ofNat cs.length) 0) (.int .i64 (.ofNat j) 0) H8 n8
   delta Ew
   obtain⟨q,hp,hld⟩:=(ho.el (by omega)).at (Ro hlt)
   have hlt':=List.getElem?_eq_getElem hlt
   have hdrop:=hcm
   rw[List.drop_eq_getElem_cons hlt,show EC fs y.nm (cs[j]::cs.drop (j+1))=bif Gy fs y.nm cs[j]then cs[j]else EC fs y.nm (cs.drop (j+1))from rfl]at hdrop
   have hn8:=f8.le
   have hi8:=hi.kb f8
   have gk8:=f8.get gk (by omega) hkb'
   have g28:=f8.get g2 (by omega) (by omega)
   have g38:=f8.get g3 (by omega) (by omega)
   have hmne:=hne _ (List.getElem_mem hlt)
   generalize cs[j]=m at hld hdrop hmne hlt'
   simp only[go_sem,Nat.reduceAdd,UJ,hlt,decide_true,hp,QL hld,AU (off:=0) gk8 (v:=.ptr i 0) h0,AU (off:=0) hi8.at' (v:=.ptr t 0) rfl,AU (off:=0) g28 (v:=y.nm.v) rfl]
   refine ADC hi8.tab (Nat.le_refl _) hfs λH10 n10 f10=>?_
   have f80:=f8.trans f10
   cases hbl:Gy fs y.nm m with
   |true=>
    rw[hbl]at hdrop
    have hdrop:m=EC fs y.nm cs:=hdrop
    rw[<-hdrop]at hk
    rw[show(!decide (m=(0,0)))=true by simp[hmne]]at hk
    rw[Bz,show BX [.str 0 0,.bool false] [(0,1,.c m.v)]=some (⟨m,false⟩:Ty).v from rfl,AV]
    exact out _ _ _ ⟨m,false⟩ true (f.trans f80) (by have:=f10.le;omega) (f10.get g38 (by omega) (by omega)) rfl hk
   |false=>
    rw[hbl]at hdrop
    rw[BZ,Dl (show j+1<9223372036854775808 by omega),AV]
    exact ih _ ⟨H10,n10,rfl,f80,ho.kb f10 (by omega),hdrop⟩
  ·rintro I st ⟨H8,n8,rfl,f8,ho,hcm⟩
   show Ew lfp G (Runs F G) k I (.ptr kb 0) (.ptr (n+1) 0) (.ptr (n+2) 0) v (.int .i64 (.ofNat cs.length) 0) (.int .i64 (.ofNat cs.length) 0) H8 n8
   delta Ew
   rw[UJ,decide_eq_false (Nat.lt_irrefl _),AV,BZ]
   rw[List.drop_length]at hcm
   rw[<-hcm]at hk
   have hn8:=f8.le
   exact fin2 _ _ (f.trans f8) (by omega) (f8.get g3 (by omega) (by omega)) hk
def O6.Wi(K:O6)(at':V)(bad more:Bool):LV:=[.ptr K.i 0,K.nm.v,K.sup.v,K.vf,K.vm,K.v0,K.v1,K.v2,K.v3,K.v4,K.vb,.int .i64 (.ofNat K.nl) 0,.int .i64 K.mx 0,K.vc,K.mn.v,.bool K.st,K.vp,K.ret.nm.v,.bool K.ret.arr,at',.bool bad,.bool more]
def O6.pat(K:O6)(W:Wv):V:=.sl W.ab 0 K.code.length K.code.length 3
def knV(W:Wv)(i:Nat):Option CG->LV
 |none=>[.bool false,.Ae,.Ae]
 |some _=>[.bool true,W.vl i,W.vs i]
structure Qe(K:O6)(W:Wv)(H:Heap)(n:Nat)(g:JU)(bad more:Bool):Prop where
 kn:K.kb<n
 ko:W.own K.kb=1
 box:T.get H K.kb=some (one (K.Wi (K.pat W) bad more))
 gl:g.length=K.code.length
 Xm:K.kb<W.ab/\W.ab<n
 vV:W.own W.ab=2
 ats:∃ta,T.get H W.ab=some (.arr 3 K.code.length ta)/\∀(i:Nat) (o:Option CG),g[i]? =some o->T.get ta i=some (knV W i o)
 st:∀(i:Nat) (s:CG),g[i]? =some (some s)->Sk H 2 (λid=>K.kb<id/\id<n/\W.own id=5+3*i) (W.vl i) (tys s.loc)/\Sk H 2 (λid=>K.kb<id/\id<n/\W.own id=6+3*i) (W.vs i) (tys s.stk.reverse)
 ok:∀(i:Nat) (s:CG),g[i]? =some (some s)->(∀t∈s.loc,t.nm.ok)/\(∀t∈s.stk,t.nm.ok)/\s.loc.length=K.nl/\s.stk.length<=100000
section
variable{K:O6}{W:Wv}{G:AQ}{H H':Heap}{n n' N:Nat}{g:JU}{bad more:Bool}
theorem Qe.mono(h:Qe K W H n g bad more)(hn:n<=n')(e:∀id,K.kb<=id->id<n->W.own id≠0->T.get H' id=T.get H id):Qe K W H' n' g bad more:=by
 refine⟨by have:=h.kn;omega,h.ko,(e _ (Nat.le_refl _) h.kn (by rw[h.ko];omega)).trans h.box,h.gl,⟨h.Xm.1,by have:=h.Xm.2;omega⟩,h.vV,?_,λi s hi=>?_,h.ok⟩
 ·obtain⟨ta,g,ht⟩:=h.ats
  exact⟨ta,(e _ (by have:=h.Xm;omega) h.Xm.2 (by rw[h.vV];omega)).trans g,ht⟩
 ·obtain⟨hl,hs⟩:=h.st i s hi
  exact⟨hl.mono (λid h=>⟨h.1,by omega,h.2.2⟩) (λid h=>e id (by omega) h.2.1 (by omega)),hs.mono (λid h=>⟨h.1,by omega,h.2.2⟩) λid h=>e id (by omega) h.2.1 (by omega)⟩
theorem Qe.kb(h:Qe K W H N g bad more)(f:Kb K.b H n H' n')(hn:N<=n)(hb:K.b<K.kb):Qe K W H' N g bad more:=h.mono (Nat.le_refl _) λid h1 h2 _=>f.same id (by omega) (by omega)
theorem Qe.AJo{b' m':Bool}(h:Qe K W H n g bad more)(gb:T.get H' K.kb=some (one (K.Wi (K.pat W) b' m')))(e:∀id,id≠K.kb->T.get H' id=T.get H id):Qe K W H' n g b' m':=by
 have e':∀id,K.kb<id->T.get H' id=T.get H id:=λid hid=>e id (by omega)
 refine⟨h.kn,h.ko,gb,h.gl,h.Xm,h.vV,?_,λi s hi=>?_,h.ok⟩
 ·obtain⟨ta,g,ht⟩:=h.ats
  exact⟨ta,(e' _ h.Xm.1).trans g,ht⟩
 ·obtain⟨hl,hs⟩:=h.st i s hi
  exact⟨hl.mono (λid h=>h) (λid h=>e' id h.1),hs.mono (λid h=>h) λid h=>e' id h.1⟩
theorem AGk(K:O6)(a:V)(b m b':Bool):(K.Wi a b m).take 20++([.bool b']++(K.Wi a b m).drop (20+1))=K.Wi a b' m:=rfl
theorem AFL(K:O6)(a:V)(b m m':Bool):(K.Wi a b m).take 21++([.bool m']++(K.Wi a b m).drop (21+1))=K.Wi a b m':=rfl
theorem Qe.AKZ{P:KV}(h:Qe K W H N g bad more)(hk:∀H',Qe K W H' N g true more->(∀id,id≠K.kb->T.get H' id=T.get H id)->P .undef H' n):Bg 1 (.ptr K.kb 20) (.bool true) H n P:=by
 refine Y4 h.box rfl rfl (by omega) (by show 20+1<=22;omega) λH1 g1 s1=>?_
 rw[show Az (.bool true)=[.bool true]from rfl,AGk]at g1
 exact hk H1 (h.AJo g1 s1) s1
theorem Qe.AD7{P:KV}{m':Bool}(h:Qe K W H N g bad more)(hk:∀H',Qe K W H' N g bad m'->(∀id,id≠K.kb->T.get H' id=T.get H id)->P .undef H' n):Bg 1 (.ptr K.kb 21) (.bool m') H n P:=by
 refine Y4 h.box rfl rfl (by omega) (by show 21+1<=22;omega) λH1 g1 s1=>?_
 rw[show Az (.bool m')=[.bool m']from rfl,AFL]at g1
 exact hk H1 (h.AJo g1 s1) s1
theorem Qe.lN{H1:Heap}(hb:K.b<K.kb)(h:Qe K W H N g bad more)(hN:N<=n)(e:∀id,id≠K.kb->T.get H1 id=T.get H id):Kf K W N H n H1 n:=
 ⟨Nat.le_refl _,λid h1 h2 h3=>e id λe=>by
  subst e
  have:=h.kn
  rw[h.ko]at h3
  omega,λhs=>hs.same (e _ (by omega))⟩
theorem Qe.ABc(hG:Oh G)(hw:Qe K W H n g bad more){to:Nat}{o:Option CG}(hg:g[to]? =some o):Ai 3 (K.pat W) (.int .i64 (.ofNat to) 0)=some (.ptr W.ab (to*3))/\
 AY (.ptr W.ab (to*3+0)) G H=some (.bool o.isSome)/\(o.isSome=true->AY (.ptr W.ab (to*3+1)) G H=some (W.vl to)/\AY (.ptr W.ab (to*3+2)) G H=some (W.vs to)):=by
 have hlt:to<K.code.length:=by rw[<-hw.gl];exact(List.getElem?_eq_some_iff.1 hg).1
 obtain⟨ta,g1,ht⟩:=hw.ats
 have hl:lX (.ptr W.ab (to*3)) G H 3=some (knV W to o):=by
  show Zz H W.ab (to*3) 3=_
  rw[dI g1 (by omega) hlt];exact ht to o hg
 have key:∀(j:Nat) (x:V),(knV W to o)[j]? =some x->AY (.ptr W.ab (to*3+j)) G H=some x:=λj x hx=>by
  obtain⟨p,hp,hp2⟩:=Um hG (o:=j) (x:=x) hl (by cases o<;>rfl) hx
  rw[BG]at hp
  cases hp;exact hp2
 refine⟨(AHf hlt).trans (by rw[Nat.zero_add]),key 0 _ (by cases o<;>rfl),λho=>?_⟩
 cases o with
 |none=>cases ho
 |some s=>exact⟨key 1 _ rfl,key 2 _ rfl⟩
theorem Qe.look{to:Nat}{s s':CG}(hlt:to<g.length):∀(i:Nat) (o:Option CG),(g.set to (some s'))[i]? =some o->(i=to/\o=some s')∨(i≠to/\g[i]? =some o):=by
 intro i o hi
 by_cases e:i=to
 ·subst e
  rw[List.getElem?_set_self hlt]at hi
  exact .inl ⟨rfl,(Option.some.inj hi).symm⟩
 ·rw[List.getElem?_set_ne (Ne.symm e)]at hi
  exact .inr ⟨e,hi⟩
theorem Qe.upd{to:Nat}{s s':CG}(h:Qe K W H n g bad more)(hg:g[to]? =some (some s))
 (e:∀id,K.kb<=id->id<n->W.own id≠0->W.own id≠5+3*to->W.own id≠6+3*to->T.get H' id=T.get H id)
 (hl:Sk H' 2 (λid=>K.kb<id/\id<n/\W.own id=5+3*to) (W.vl to) (tys s'.loc)) (hs:Sk H' 2 (λid=>K.kb<id/\id<n/\W.own id=6+3*to) (W.vs to) (tys s'.stk.reverse))
 (hok:(∀t∈s'.loc,t.nm.ok)/\(∀t∈s'.stk,t.nm.ok)/\s'.loc.length=K.nl/\s'.stk.length<=100000):Qe K W H' n (g.set to (some s')) bad more:=by
 have hlt:to<g.length:=(List.getElem?_eq_some_iff.1 hg).1
 have look:=Qe.look (s:=s) (s':=s') hlt
 refine⟨h.kn,h.ko,(e _ (Nat.le_refl _) h.kn (by rw[h.ko];omega) (by rw[h.ko];omega) (by rw[h.ko];omega)).trans h.box,by rw[List.length_set];exact h.gl,h.Xm,h.vV,?_,λi x hi=>?_,λi x hi=>?_⟩
 ·obtain⟨ta,g1,ht⟩:=h.ats
  refine⟨ta,(e _ (by have:=h.Xm;omega) h.Xm.2 (by rw[h.vV];omega) (by rw[h.vV];omega) (by rw[h.vV];omega)).trans g1,λi o hi=>?_⟩
  rcases look i o hi with⟨rfl,rfl⟩|⟨_,hi⟩
  ·have h0:=ht _ _ hg
   exact h0
  ·exact ht i o hi
 ·rcases look i _ hi with⟨rfl,hx⟩|⟨hne,hi⟩
  ·cases hx
   exact⟨hl,hs⟩
  ·obtain⟨h1,h2⟩:=h.st i x hi
   exact⟨h1.mono (λid h=>h) (λid h=>e id (by omega) h.2.1 (by omega) (by omega) (by omega)),h2.mono (λid h=>h) λid h=>e id (by omega) h.2.1 (by omega) (by omega) (by omega)⟩
 ·rcases look i _ hi with⟨rfl,hx⟩|⟨hne,hi⟩
  ·cases hx;exact hok
  ·exact h.ok i x hi
theorem Qe.AGJ{q':IntKind}{to i:Nat}{s:CG}{t:Ty}{P:KV}(h:Qe K W H N g bad more)(hg:g[to]? =some (some s))(hi:i<s.stk.length)(ht:t.nm.ok)
 (hk:∀H',Qe K W H' N (g.set to (some ⟨s.loc,(s.stk.reverse.set i t).reverse⟩)) bad more->(∀id,¬(K.kb<id/\id<N/\W.own id=6+3*to)->T.get H' id=T.get H id)->P .undef H' n):
 AL (Ai 2 (W.vs to) (.int q' (.ofNat i) 0)) λp=>Bg 2 p t.v H n P:=by
 obtain⟨hl,hs⟩:=h.st to s hg
 obtain⟨o1,o2,o3,o4⟩:=h.ok to s hg
 refine hs.put (w:=t.v) (by omega) (by rw[Cb,List.length_reverse];exact hi) rfl rfl λH' hs' s'=>?_
 have e:(tys s.stk.reverse).set i (Az t.v)=tys (s.stk.reverse.set i t):=by rw[show Az t.v=t.cells from rfl];exact(List.map_set ..).symm
 rw[e]at hs'
 have hsame:∀id,¬(K.kb<id/\id<N/\W.own id=6+3*to)->T.get H' id=T.get H id:=λid hid=>s' id λe=>hid (hs.own e)
 refine hk H' (h.upd hg (λid _ _ _ _ h6=>hsame id λh=>h6 h.2.2) (hl.mono (λ_ h=>h) λid h=>hsame id (by omega)) (by rw[List.reverse_reverse];exact hs') ⟨o1,λx hx=>?_,o3,?_⟩) hsame
 ·rcases List.mem_or_eq_of_mem_set (List.mem_reverse.1 hx)with hx|rfl
  ·exact o2 x (List.mem_reverse.1 hx)
  ·exact ht
 ·show((s.stk.reverse.set i t).reverse).length<=100000
  rw[List.length_reverse,List.length_set,List.length_reverse];exact o4
theorem Qe.AAo{q':IntKind}{to i:Nat}{s:CG}{t:Ty}{P:KV}(h:Qe K W H N g bad more)(hg:g[to]? =some (some s))(hi:i<s.loc.length)(ht:t.nm.ok)
 (hk:∀H',Qe K W H' N (g.set to (some ⟨s.loc.set i t,s.stk⟩)) bad more->(∀id,¬(K.kb<id/\id<N/\W.own id=5+3*to)->T.get H' id=T.get H id)->P .undef H' n):
 AL (Ai 2 (W.vl to) (.int q' (.ofNat i) 0)) λp=>Bg 2 p t.v H n P:=by
 obtain⟨hl,hs⟩:=h.st to s hg
 obtain⟨o1,o2,o3,o4⟩:=h.ok to s hg
 refine hl.put (w:=t.v) (by omega) (by rw[Cb];exact hi) rfl rfl λH' hl' s'=>?_
 have e:(tys s.loc).set i (Az t.v)=tys (s.loc.set i t):=by rw[show Az t.v=t.cells from rfl];exact(List.map_set ..).symm
 rw[e]at hl'
 have hsame:∀id,¬(K.kb<id/\id<N/\W.own id=5+3*to)->T.get H' id=T.get H id:=λid hid=>s' id λe=>hid (hl.own e)
 refine hk H' (h.upd hg (λid _ _ _ h5 _=>hsame id λh=>h5 h.2.2) hl' (hs.mono (λ_ h=>h) λid h=>hsame id (by omega)) ⟨λx hx=>?_,o2,?_,o4⟩) hsame
 ·rcases List.mem_or_eq_of_mem_set hx with hx|rfl
  ·exact o1 x hx
  ·exact ht
 ·show(s.loc.set i t).length=K.nl
  rw[List.length_set];exact o3
theorem Qe.new{s:CG}{to:Nat}{v w:V}(h:Qe K W H n g bad more)(hg:g[to]? =some none)(hn:n<=n')
 (e:∀id,K.kb<=id->id<n->W.own id≠0->id≠W.ab->T.get H' id=T.get H id)
 (hab:∀ta,T.get H W.ab=some (.arr 3 K.code.length ta)->T.get H' W.ab=some (.arr 3 K.code.length (T.set ta to [.bool true,v,w])))
 (hv:Sk H' 2 (λid=>n<=id/\id<n') v (tys s.loc)) (hw:Sk H' 2 (λid=>n<=id/\id<n') w (tys s.stk.reverse)) (hd:∀id,v.Xb=some id->w.Xb≠some id)
 (hok:(∀t∈s.loc,t.nm.ok)/\(∀t∈s.stk,t.nm.ok)/\s.loc.length=K.nl/\s.stk.length<=100000):
 ∃W',W'.ab=W.ab/\Qe K W' H' n' (g.set to (some s)) bad more/\∀id,id<n->W'.own id=W.own id:=by
 have hlt:to<g.length:=(List.getElem?_eq_some_iff.1 hg).1
 have hk:=h.kn
 let own:Nat->Nat:=λid=>if id<n then W.own id else if v.Xb=some id then 5+3*to else if w.Xb=some id then 6+3*to else 0
 have hown:∀id,id<n->own id=W.own id:=λid hid=>if_pos hid
 have ov:∀id,v.Xb=some id->own id=5+3*to:=λid hid=>by
  have:=hv.own hid
  show(if id<n then _ else _)=_;rw[if_neg (by omega),if_pos hid]
 have ow:∀id,w.Xb=some id->own id=6+3*to:=λid hid=>by
  have:=hw.own hid
  show(if id<n then _ else _)=_;rw[if_neg (by omega),if_neg (λe=>hd id e hid),if_pos hid]
 have look:=Qe.look (s:=s) (s':=s) hlt
 refine⟨⟨W.ab,own,W.q,λi=>if i=to then v else W.vl i,λi=>if i=to then w else W.vs i,W.td⟩,rfl,⟨by omega,(hown _ hk).trans h.ko,(e _ (Nat.le_refl _) hk (by rw[h.ko];omega) (by have:=h.Xm;omega)).trans h.box,by rw[List.length_set];exact h.gl,⟨h.Xm.1,Nat.lt_of_lt_of_le h.Xm.2 hn⟩,(hown _ h.Xm.2).trans h.vV,?_,λi x hi=>?_,λi x hi=>?_⟩,hown⟩
 ·obtain⟨ta,g1,ht⟩:=h.ats
  refine⟨_,hab ta g1,λi o hi=>?_⟩
  rcases look i o hi with⟨rfl,rfl⟩|⟨hne,hi⟩
  ·rw[T.Ag];show _=some [V.bool true,(if i=i then v else W.vl i),(if i=i then w else W.vs i)];rw[if_pos rfl,if_pos rfl]
  ·rw[T.Ac _ _ (Ne.symm hne),ht i o hi]
   cases o with
   |none=>rfl
   |some y=>show _=some [V.bool true,(if i=to then v else W.vl i),(if i=to then w else W.vs i)];rw[if_neg hne,if_neg hne];rfl
 ·rcases look i _ hi with⟨rfl,hx⟩|⟨hne,hi⟩
  ·cases hx
   simp only[if_pos]
   exact⟨hv.su (λid hid=>⟨by have:=hv.own hid;omega,(hv.own hid).2,ov id hid⟩) λ_ _=>rfl,hw.su (λid hid=>⟨by have:=hw.own hid;omega,(hw.own hid).2,ow id hid⟩) λ_ _=>rfl⟩
  ·simp only[if_neg hne]
   obtain⟨hl,hs⟩:=h.st i x hi
   have hab2:=h.vV
   refine⟨hl.mono (λid h=>⟨h.1,by omega,(hown _ h.2.1).trans h.2.2⟩) (λid h=>e id (by omega) h.2.1 (by omega) (λe=>by rw[e,hab2]at h;omega)),hs.mono (λid h=>⟨h.1,by omega,(hown _ h.2.1).trans h.2.2⟩) λid h=>e id (by omega) h.2.1 (by omega) (λe=>by rw[e,hab2]at h;omega)⟩
 ·rcases look i _ hi with⟨rfl,hx⟩|⟨hne,hi⟩
  ·cases hx;exact hok
  ·exact h.ok i x hi
end
section
variable{K:O6}{W:Wv}{G:AQ}{H H' H'':Heap}{n n' n'' N:Nat}{g:JU}{k:KV}{b0 m0:Bool}
theorem AI2(hG:Oh G)(hE:K.En G H)(hw:Qe K W H N g b0 m0)(hNn:N<=n){to:Nat}{old s:CG}{vl vs:V}(hg:g[to]? =some (some old))(hvs:Sv G H (λid=>K.kb<id/\id<N/\W.own id=0) vs s.stk.reverse)(hlen:old.stk.length=s.stk.length)(hok:∀t∈s.stk,t.nm.ok)
 (h0:∀H' n' g' m',Kf K W N H n H' n'->Qe K W H' N g' true m'->Es K.fs old.stk s.stk=none->k (.Fh []) H' n')
 (h1:∀H' n' ks,Kf K W N H n H' n'->Es K.fs old.stk s.stk=some ks->Qe K W H' N (g.set to (some ⟨old.loc,ks⟩)) b0 (m0|| !CZ ks old.stk)->FI lfp G (Runs F G) k (.ptr K.kb 0) vl (.ptr W.ab (to*3)) H' n'):
 lfp _ (Jy lfp G (Runs F G) k) (.ptr K.kb 0,vl,vs,.ptr W.ab (to*3),.int .i64 (.ofNat s.stk.length) 0,.int .i64 (.ofNat 0) 0,H,n):=by
 have hb:K.b<K.kb:=hE.img.tab.bn
 have hk:=hw.kn
 have hlt:to<g.length:=(List.getElem?_eq_some_iff.1 hg).1
 obtain⟨ol,os,onl,obs⟩:=hw.ok to old hg
 have hlr:old.stk.reverse.length=s.stk.reverse.length:=by simp[hlen]
 refine Bc (N:=s.stk.length) (J:=λi st=>∃H' n',st=(.ptr K.kb 0,vl,vs,.ptr W.ab (to*3),.int .i64 (.ofNat s.stk.length) 0,.int .i64 (.ofNat i) 0,H',n')/\
  Kf K W N H n H' n'/\Qe K W H' N (g.set to (some ⟨old.loc,(upTo K.fs old.stk.reverse s.stk.reverse i).reverse⟩)) b0 (m0|| !CZ (upTo K.fs old.stk.reverse s.stk.reverse i) old.stk.reverse)/\i<=s.stk.length/\
  (∀(j:Nat) (a b:Ty),j<i->old.stk.reverse[j]? =some a->s.stk.reverse[j]? =some b->(Cm K.fs a b).2=true)) ?_ ?_ ⟨H,n,rfl,.refl,?_,Nat.zero_le _,λ_ _ _ h=>absurd h (Nat.not_lt_zero _)⟩
 ·rintro I i st hi ⟨H2,n2,rfl,f2,hw2,hle,hall⟩ ih
  show E5 lfp G (Runs F G) k I (.ptr K.kb 0) vl vs (.ptr W.ab (to*3)) (.int .i64 (.ofNat s.stk.length) 0) (.int .i64 (.ofNat i) 0) H2 n2
  delta E5
  have hn2:=f2.le
  have hE2:=hE.bV (f2.kb (by omega))
  have hvs2:=hvs.kf f2 hNn hb
  have hi1:i<old.stk.reverse.length:=by rw[List.length_reverse];omega
  have hi2:i<s.stk.reverse.length:=by rw[List.length_reverse];omega
  obtain⟨p,hp,hld⟩:=hvs2.el.at (NT hi2)
  have hld:Af 2 p G H2=some (s.stk.reverse[i]).v:=Bl hld
  have hset:(g.set to (some (⟨old.loc,(upTo K.fs old.stk.reverse s.stk.reverse i).reverse⟩:CG)))[to]? =some (some ⟨old.loc,(upTo K.fs old.stk.reverse s.stk.reverse i).reverse⟩):=List.getElem?_set_self hlt
  obtain⟨-,hsk⟩:=hw2.st to _ hset
  rw[List.reverse_reverse]at hsk
  have hgi:(upTo K.fs old.stk.reverse s.stk.reverse i)[i]? =some old.stk.reverse[i]:=by rw[UA hlr (by omega),if_neg (by omega),List.getElem?_eq_getElem hi1]
  obtain⟨p2,hp2,hld2⟩:=(hsk.el (G:=G) (by omega)).at (i:=i) (c:=(old.stk.reverse[i]).cells) (by unfold tys;rw[List.getElem?_map,hgi];rfl)
  have hld2:Af 2 p2 G H2=some (old.stk.reverse[i]).v:=Bl hld2
  obtain⟨-,-,hvv⟩:=hw2.ABc hG hset
  obtain⟨-,hvs0⟩:=hvv rfl
  rw[UJ,decide_eq_true hi,AV,Bz,EM,AV,BG,AV,hvs0,AV,hp2,AV,hld2,AV,hp,AV,hld,AV]
  refine EJ rfl λH4 f4 g4=>?_
  have hx1:(old.stk.reverse[i]).nm.ok:=os _ (List.mem_reverse.1 (List.getElem_mem hi1))
  have hx2:(s.stk.reverse[i]).nm.ok:=hok _ (List.mem_reverse.1 (List.getElem_mem hi2))
  have f24:Kb K.b H2 n2 H4 (n2+1):=f4.kb (by omega)
  have hE4:=hE2.bV (f24.low (by omega))
  have hw4:=hw2.kb f24 (by omega) hb
  refine ALx (x:=old.stk.reverse[i]) (y:=s.stk.reverse[i]) hE4.img (by omega) hE4.small (by omega) (by omega) hw4.box rfl hx1 hx2 λH5 n5 f5=>?_
  have hn5:=f5.le
  rw[AAw,AV,AAG,AV]
  show Bg 2 (.ptr n2 0) (.agg (Cm K.fs old.stk.reverse[i] s.stk.reverse[i]).1.cells) _ _ _
  refine nV (f5.get g4 (by omega) (by omega)) rfl rfl (by omega) λH6 g6 s6=>?_
  have f26:Kb K.b H2 n2 H6 n5:=(f24.trans f5).trans' (λid hid=>s6 _ (by omega)) (Nat.le_refl _) (by omega)
  have hw6:=hw2.kb f26 (by omega) hb
  rw[BL,AV]
  cases hj:(Cm K.fs old.stk.reverse[i] s.stk.reverse[i]).2 with
  |false=>
   rw[Bool.not_false,Bz,EM,AV,BG,AV]
   refine hw6.AKZ λH7 hw7 s7=>?_
   refine h0 _ _ _ _ ((f2.trans f26.kf).trans (hw6.lN hb (by omega) s7)) hw7 (jE _ _ _ (old.stk.length-1-i) _ _ ?_ ?_ hj)
   ·rw[<-List.getElem?_reverse (by omega),List.getElem?_eq_getElem hi1]
   ·rw[hlen,<-List.getElem?_reverse (by omega),List.getElem?_eq_getElem hi2]
  |true=>
   obtain⟨-,hsk6⟩:=hw6.st to _ hset
   rw[List.reverse_reverse]at hsk6
   obtain⟨p3,hp3,hld3⟩:=(hsk6.el (G:=G) (by omega)).at (i:=i) (c:=(old.stk.reverse[i]).cells) (by unfold tys;rw[List.getElem?_map,hgi];rfl)
   have hld3:Af 2 p3 G H6=some (Ty.v old.stk.reverse[i]):=Bl hld3
   obtain⟨-,-,hvv6⟩:=hw6.ABc hG hset
   obtain⟨-,hvs6⟩:=hvv6 rfl
   have hflag:=lG (fs:=K.fs) hlr hi1
   have hsucc:=bM (fs:=K.fs) hlr hi1
   have hjn:(Cm K.fs old.stk.reverse[i] s.stk.reverse[i]).1=jn K.fs old.stk.reverse[i] s.stk.reverse[i]:=rfl
   have hjok:=y7 (λs c hl=>ADl hE.img.tab hl) hx1 hx2
   rw[hjn]at g6
   have fin:∀fl:Bool,fl=(m0|| !CZ (upTo K.fs old.stk.reverse s.stk.reverse (i+1)) old.stk.reverse)->(AL (Ah (.ptr K.kb 0)) λv108=>AL (AP 21 v108) λv109=>Bg 1 v109 (.bool fl) H6 n5 λv110 H n=>
    AL (Ah (.ptr W.ab (to*3))) λv111=>AL (AP 2 v111) λv112=>AL (AY v112 G H) λv113=>AL (Af 2 (.ptr n2 0) G H) λv114=>AL (Ai 2 v113 (.int .i64 (.ofNat i) 0)) λv115=>Bg 2 v115 v114 H n λv116 H n=>
    AL (B2.ev .add (.int .i64 (.ofNat i) 0) (.int .i64 (.ofNat 1) 0)) λv117=>I (.ptr K.kb 0,vl,vs,.ptr W.ab (to*3),.int .i64 (.ofNat s.stk.length) 0,v117,H,n)):=by
    rintro fl rfl
    rw[EM,AV,BG,AV]
    refine hw6.AD7 (m':=m0|| !CZ (upTo K.fs old.stk.reverse s.stk.reverse (i+1)) old.stk.reverse) λH7 hw7 s7=>?_
    obtain⟨-,-,hvv7⟩:=hw7.ABc hG hset
    obtain⟨-,hvs7⟩:=hvv7 rfl
    rw[EM,AV,BG,AV,hvs7,AV,Aj ((s7 _ (by omega)).trans g6),AV]
    refine hw7.AGJ hset (i:=i) (by show i<((upTo K.fs old.stk.reverse s.stk.reverse i).reverse).length;rw[List.length_reverse,jk hlr (by omega)];exact hi1) hjok λH8 hw8 s8=>?_
    rw[Dl (show i+1<9223372036854775808 by omega),AV]
    refine ih _ ⟨H8,n5,rfl,((f2.trans f26.kf).trans (hw6.lN hb (by omega) s7)).trans ⟨Nat.le_refl _,λid h1 h2 h3=>s8 id λh=>by omega,λhs=>hs.same (s8 _ λh=>by omega)⟩,?_,by omega,?_⟩
    ·rw[hsucc]
     rw[List.set_set]at hw8
     have e:(upTo K.fs old.stk.reverse s.stk.reverse i).reverse.reverse=upTo K.fs old.stk.reverse s.stk.reverse i:=List.reverse_reverse ..
     have hw8:Qe K W H8 N (g.set to (some ⟨old.loc,((upTo K.fs old.stk.reverse s.stk.reverse i).reverse.reverse.set i (jn K.fs old.stk.reverse[i] s.stk.reverse[i])).reverse⟩)) b0 (m0|| !CZ (upTo K.fs old.stk.reverse s.stk.reverse (i+1)) old.stk.reverse):=hw8
     rw[e]at hw8
     rw[hsucc]at hw8
     exact hw8
    ·intro j a b hji ha hb'
     rcases Nat.lt_or_ge j i with h|h
     ·exact hall j a b h ha hb'
     ·have:j=i:=by omega
      subst this
      rw[List.getElem?_eq_getElem hi1]at ha
      rw[List.getElem?_eq_getElem hi2]at hb'
      cases ha;cases hb';exact hj
   rw[hflag]at fin
   rw[Bool.not_true,BZ,EM,AV,BG,AV,AU (off:=0+21) hw6.box (v:=.bool (m0|| !CZ (upTo K.fs old.stk.reverse s.stk.reverse i) old.stk.reverse)) rfl,AV]
   have hfl:∀b:Bool,(m0|| !CZ (upTo K.fs old.stk.reverse s.stk.reverse i) old.stk.reverse)=b->(m0|| !(CZ (upTo K.fs old.stk.reverse s.stk.reverse i) old.stk.reverse&&(jn K.fs old.stk.reverse[i] s.stk.reverse[i]).is old.stk.reverse[i]))=(b|| !(jn K.fs old.stk.reverse[i] s.stk.reverse[i]).is old.stk.reverse[i]):=by
    rintro b rfl
    cases m0<;>cases CZ (upTo K.fs old.stk.reverse s.stk.reverse i) old.stk.reverse<;>rfl
   cases hc:(m0|| !CZ (upTo K.fs old.stk.reverse s.stk.reverse i) old.stk.reverse)with
   |false=>
    rw[hfl false hc]at fin
    simp only[go_sem,Nat.reduceAdd,Aj g6,hvs6,hp3,hld3,fQ]
    have:=fin _ rfl
    simpa only[go_sem,Nat.reduceAdd,Bool.false_or]using this
   |true=>
    rw[hfl true hc]at fin
    repeat (first|with_reducible refine ABY ?_|with_reducible refine ABe ?_)
    exact fin _ rfl
 ·rintro I st ⟨H2,n2,rfl,f2,hw2,hle,hall⟩
  show E5 lfp G (Runs F G) k I (.ptr K.kb 0) vl vs (.ptr W.ab (to*3)) (.int .i64 (.ofNat s.stk.length) 0) (.int .i64 (.ofNat s.stk.length) 0) H2 n2
  delta E5
  rw[UJ,decide_eq_false (Nat.lt_irrefl _),AV,BZ]
  have e1:upTo K.fs old.stk.reverse s.stk.reverse s.stk.length=List.zipWith (jn K.fs) old.stk.reverse s.stk.reverse:=by
   have:=lQ (fs:=K.fs) hlr
   rw[List.length_reverse,hlen]at this;exact this
  have e2:(List.zipWith (jn K.fs) old.stk s.stk).reverse=List.zipWith (jn K.fs) old.stk.reverse s.stk.reverse:=List.reverse_zipWith hlen
  rw[e1,<-e2,ACm]at hw2
  rw[List.reverse_reverse]at hw2
  refine h1 _ _ _ f2 (dQ _ _ _ hlen λj a b ha hb'=>?_) hw2
  have hj:j<old.stk.length:=(List.getElem?_eq_some_iff.1 ha).1
  refine hall (old.stk.length-1-j) a b (by omega) ?_ ?_
  ·rw[List.getElem?_reverse (by omega),show old.stk.length-1-(old.stk.length-1-j)=j by omega];exact ha
  ·rw[List.getElem?_reverse (by omega),show s.stk.length-1-(old.stk.length-1-j)=j by omega];exact hb'
 ·rw[Xo,List.reverse_reverse,show CZ old.stk.reverse old.stk.reverse=true from KR.2 rfl]
  have:g.set to (some ⟨old.loc,old.stk⟩)=g:=by
   have e:g[to]=some old:=by rw[List.getElem?_eq_getElem hlt]at hg;exact Option.some.inj hg
   show g.set to (some old)=g
   rw[<-e];exact List.set_getElem_self hlt
  rw[this,show(m0|| !true)=m0 by cases m0<;>rfl];exact hw
end
section
variable{K:O6}{W:Wv}{G:AQ}{H H' H'':Heap}{n n' n'' N:Nat}{g:JU}{k:KV}{b0 m0:Bool}
theorem AIe(hG:Oh G)(hE:K.En G H)(hw:Qe K W H N g b0 m0)(hNn:N<=n){to:Nat}{old s:CG}{vl:V}(hg:g[to]? =some (some old))(hvs:Sv G H (λid=>K.kb<id/\id<N/\W.own id=0) vl s.loc)(hlen:old.loc.length=s.loc.length)(hok:∀t∈s.loc,t.nm.ok)(hbig:s.loc.length<=100000)
 (h1:∀H' n',Kf K W N H n H' n'->Qe K W H' N (g.set to (some ⟨CX K.fs old.loc s.loc,old.stk⟩)) b0 (m0|| !CZ (CX K.fs old.loc s.loc) old.loc)->k (.Fh []) H' n'):
 FI lfp G (Runs F G) k (.ptr K.kb 0) vl (.ptr W.ab (to*3)) H n:=by
 delta FI
 rw[hvs.el.len,Cb,AV]
 have hb:K.b<K.kb:=hE.img.tab.bn
 have hk:=hw.kn
 have hlt:to<g.length:=(List.getElem?_eq_some_iff.1 hg).1
 obtain⟨ol,os,onl,obs⟩:=hw.ok to old hg
 have hlr:=hlen
 refine Bc (N:=s.loc.length) (J:=λi st=>∃H' n',st=(.ptr K.kb 0,vl,.ptr W.ab (to*3),.int .i64 (.ofNat s.loc.length) 0,.int .i64 (.ofNat i) 0,H',n')/\
  Kf K W N H n H' n'/\Qe K W H' N (g.set to (some ⟨upTo K.fs old.loc s.loc i,old.stk⟩)) b0 (m0|| !CZ (upTo K.fs old.loc s.loc i) old.loc)/\i<=s.loc.length) ?_ ?_ ⟨H,n,rfl,.refl,?_,Nat.zero_le _⟩
 ·rintro I i st hi ⟨H2,n2,rfl,f2,hw2,hle⟩ ih
  show Ez lfp G (Runs F G) k I (.ptr K.kb 0) vl (.ptr W.ab (to*3)) (.int .i64 (.ofNat s.loc.length) 0) (.int .i64 (.ofNat i) 0) H2 n2
  delta Ez
  have hn2:=f2.le
  have hE2:=hE.bV (f2.kb (by omega))
  have hvs2:=hvs.kf f2 hNn hb
  have hi1:i<old.loc.length:=by omega
  have hi2:i<s.loc.length:=by omega
  obtain⟨p,hp,hld⟩:=hvs2.el.at (NT hi2)
  have hld:Af 2 p G H2=some (s.loc[i]).v:=Bl hld
  have hset:(g.set to (some (⟨upTo K.fs old.loc s.loc i,old.stk⟩:CG)))[to]? =some (some ⟨upTo K.fs old.loc s.loc i,old.stk⟩):=List.getElem?_set_self hlt
  obtain⟨hsk,-⟩:=hw2.st to _ hset
  have hgi:(upTo K.fs old.loc s.loc i)[i]? =some old.loc[i]:=by rw[UA hlr (by omega),if_neg (by omega),List.getElem?_eq_getElem hi1]
  obtain⟨p2,hp2,hld2⟩:=(hsk.el (G:=G) (by omega)).at (i:=i) (c:=(old.loc[i]).cells) (by unfold tys;rw[List.getElem?_map,hgi];rfl)
  have hld2:Af 2 p2 G H2=some (old.loc[i]).v:=Bl hld2
  obtain⟨-,-,hvv⟩:=hw2.ABc hG hset
  obtain⟨hvs0,-⟩:=hvv rfl
  rw[UJ,decide_eq_true hi,AV,Bz,EM,AV,BG,AV,hvs0,AV,hp2,AV,hld2,AV,hp,AV,hld,AV]
  refine EJ rfl λH4 f4 g4=>?_
  have hx1:(old.loc[i]).nm.ok:=ol _ (List.getElem_mem hi1)
  have hx2:(s.loc[i]).nm.ok:=hok _ (List.getElem_mem hi2)
  have f24:Kb K.b H2 n2 H4 (n2+1):=f4.kb (by omega)
  have hE4:=hE2.bV (f24.low (by omega))
  have hw4:=hw2.kb f24 (by omega) hb
  refine ALx (x:=old.loc[i]) (y:=s.loc[i]) hE4.img (by omega) hE4.small (by omega) (by omega) hw4.box rfl hx1 hx2 λH5 n5 f5=>?_
  have hn5:=f5.le
  rw[AAw,AV,AAG,AV]
  show Bg 2 (.ptr n2 0) (.agg (Cm K.fs old.loc[i] s.loc[i]).1.cells) _ _ _
  refine nV (f5.get g4 (by omega) (by omega)) rfl rfl (by omega) λH6 g6 s6=>?_
  have f26:Kb K.b H2 n2 H6 n5:=(f24.trans f5).trans' (λid hid=>s6 _ (by omega)) (Nat.le_refl _) (by omega)
  have hw6:=hw2.kb f26 (by omega) hb
  obtain⟨hsk6,-⟩:=hw6.st to _ hset
  obtain⟨p3,hp3,hld3⟩:=(hsk6.el (G:=G) (by omega)).at (i:=i) (c:=(old.loc[i]).cells) (by unfold tys;rw[List.getElem?_map,hgi];rfl)
  have hld3:Af 2 p3 G H6=some (Ty.v old.loc[i]):=Bl hld3
  obtain⟨-,-,hvv6⟩:=hw6.ABc hG hset
  obtain⟨hvs6,-⟩:=hvv6 rfl
  have hflag:=lG (fs:=K.fs) hlr hi1
  have hsucc:=bM (fs:=K.fs) hlr hi1
  have hjn:(Cm K.fs old.loc[i] s.loc[i]).1=jn K.fs old.loc[i] s.loc[i]:=rfl
  have hjok:=y7 (λs c hl=>ADl hE.img.tab hl) hx1 hx2
  rw[hjn]at g6
  have fin:∀fl:Bool,fl=(m0|| !CZ (upTo K.fs old.loc s.loc (i+1)) old.loc)->(AL (Ah (.ptr K.kb 0)) λv108=>AL (AP 21 v108) λv109=>Bg 1 v109 (.bool fl) H6 n5 λv110 H n=>
   AL (Ah (.ptr W.ab (to*3))) λv111=>AL (AP 1 v111) λv112=>AL (AY v112 G H) λv113=>AL (Af 2 (.ptr n2 0) G H) λv114=>AL (Ai 2 v113 (.int .i64 (.ofNat i) 0)) λv115=>Bg 2 v115 v114 H n λv116 H n=>
   AL (B2.ev .add (.int .i64 (.ofNat i) 0) (.int .i64 (.ofNat 1) 0)) λv117=>I (.ptr K.kb 0,vl,.ptr W.ab (to*3),.int .i64 (.ofNat s.loc.length) 0,v117,H,n)):=by
   rintro fl rfl
   rw[EM,AV,BG,AV]
   refine hw6.AD7 (m':=m0|| !CZ (upTo K.fs old.loc s.loc (i+1)) old.loc) λH7 hw7 s7=>?_
   obtain⟨-,-,hvv7⟩:=hw7.ABc hG hset
   obtain⟨hvs7,-⟩:=hvv7 rfl
   rw[EM,AV,BG,AV,hvs7,AV,Aj ((s7 _ (by omega)).trans g6),AV]
   refine hw7.AAo hset (i:=i) (by show i<(upTo K.fs old.loc s.loc i).length;rw[jk hlr (by omega)];exact hi1) hjok λH8 hw8 s8=>?_
   rw[Dl (show i+1<9223372036854775808 by omega),AV]
   refine ih _ ⟨H8,n5,rfl,((f2.trans f26.kf).trans (hw6.lN hb (by omega) s7)).trans ⟨Nat.le_refl _,λid h1 h2 h3=>s8 id λh=>by omega,λhs=>hs.same (s8 _ λh=>by omega)⟩,?_,by omega⟩
   rw[hsucc]
   rw[List.set_set,hsucc]at hw8
   exact hw8
  rw[hflag]at fin
  rw[EM,AV,BG,AV,AU (off:=0+21) hw6.box (v:=.bool (m0|| !CZ (upTo K.fs old.loc s.loc i) old.loc)) rfl,AV]
  have hfl:∀b:Bool,(m0|| !CZ (upTo K.fs old.loc s.loc i) old.loc)=b->(m0|| !(CZ (upTo K.fs old.loc s.loc i) old.loc&&(jn K.fs old.loc[i] s.loc[i]).is old.loc[i]))=(b|| !(jn K.fs old.loc[i] s.loc[i]).is old.loc[i]):=by
   rintro b rfl
   cases m0<;>cases CZ (upTo K.fs old.loc s.loc i) old.loc<;>rfl
  cases hc:(m0|| !CZ (upTo K.fs old.loc s.loc i) old.loc)with
  |false=>
   rw[hfl false hc]at fin
   simp only[go_sem,Nat.reduceAdd,Aj g6,hvs6,hp3,hld3,fQ]
   have:=fin _ rfl
   simpa only[go_sem,Nat.reduceAdd,Bool.false_or]using this
  |true=>
   rw[hfl true hc]at fin
   repeat (first|with_reducible refine ABY ?_|with_reducible refine ABe ?_)
   exact fin _ rfl
 ·rintro I st ⟨H2,n2,rfl,f2,hw2,hle⟩
  show Ez lfp G (Runs F G) k I (.ptr K.kb 0) vl (.ptr W.ab (to*3)) (.int .i64 (.ofNat s.loc.length) 0) (.int .i64 (.ofNat s.loc.length) 0) H2 n2
  delta Ez
  rw[UJ,decide_eq_false (Nat.lt_irrefl _),AV,BZ]
  have e1:upTo K.fs old.loc s.loc s.loc.length=CX K.fs old.loc s.loc:=by
   have:=lQ (fs:=K.fs) hlr
   rw[hlr]at this
   rw[this,jm _ _ _ hlr]
  rw[e1]at hw2
  exact h1 _ _ f2 hw2
 ·rw[Xo,show CZ old.loc old.loc=true from KR.2 rfl]
  have:g.set to (some ⟨old.loc,old.stk⟩)=g:=by
   have e:g[to]=some old:=by rw[List.getElem?_eq_getElem hlt]at hg;exact Option.some.inj hg
   show g.set to (some old)=g
   rw[<-e];exact List.set_getElem_self hlt
  rw[this,show(m0|| !true)=m0 by cases m0<;>rfl];exact hw
theorem AHe{A:Nat->Prop}{v:V}{ts:List Ty}{P:KV}(h:Sv G H A v ts)(hA:∀id,A id->id<n)(hb:ts.length<=100000)
 (hk:∀v' H' n',Kp H n H' n'->Sk H' 2 (λid=>n<=id/\id<n') v' (tys ts)->P v' H' n'):
 Bo (BF 2 0 [.str 0 0,.bool false] [] E0) H n λw H n=>Va 2 24 w v G H n P:=by
 rw[ADt]
 have he:=h.el.kp (n:=n) (n':=n+1) (H':=T.set H n (.arr 2 0 .e)) (λid hid=>hA id (h.own id hid)) ((Kp.refl H n).new _ (Nat.le_refl _) (by omega))
 have hb:(tys ts).length<=100000:=by rw[Cb];exact hb
 generalize tys ts=LS at*
 cases LS with
 |nil=>exact zx (T.Ag ..) he.2 λH' hs=>hk _ _ _ ((Kp.refl H n).trans ⟨by omega,λid hid=>by rw[hs,T.Ac _ _ (by omega)]⟩) (.emp ((hs _).trans (T.Ag ..)) ⟨Nat.le_refl _,by omega⟩)
 |cons a NS=>
  refine yc (t:=.e) (by omega) he.2 (by omega) λv' H' hgr hsame hlo=>?_
  refine hk _ _ _ ⟨by omega,λid hid=>(hsame id (by omega)).trans (T.Ac _ _ (by omega))⟩ ?_
  generalize hX:a::NS=X at hgr
  cases hgr with
  |nil=>cases hX
  |Ol hg hc ht hid=>
   have e:=hlo _ rfl
   exact .Ol hg hc ht ⟨by omega,by omega⟩
theorem AI4{H H':Heap}{z z':Nat}{A B:Nat->Prop}{v w:V}{LS MS:EW}(h:Sk H z A v LS)(h':Sk H' z' B w MS):BX [.bool false,.Ae,.Ae] [(0,1,.c (.bool true)),(1,1,.c v),(2,1,.c w)]=some (.agg [.bool true,v,w]):=by
 cases h<;>cases h'<;>rfl
theorem AG1(hG:Oh G)(hE:K.En G H)(hw:Qe K W H n g b0 m0){to:Nat}{s:CG}{vl vs:V}(hvl:Sv G H (λid=>K.kb<id/\id<n/\W.own id=0) vl s.loc)(hvs:Sv G H (λid=>K.kb<id/\id<n/\W.own id=0) vs s.stk.reverse)
 (hol:∀t∈s.loc,t.nm.ok) (hos:∀t∈s.stk,t.nm.ok) (hnl:s.loc.length=K.nl) (hbs:s.stk.length<=100000)
 (h0:∀W' H' n' g' m',Kf K W n H n H' n'->Qe K W' H' n' g' true m'->(∀id,id<n->W'.own id=W.own id)->DK K.fs g to s=none->k (.Fh []) H' n')
 (h1:∀W' H' n' g' ch,DK K.fs g to s=some (g',ch)->Qe K W' H' n' g' b0 (m0||ch)->(∀id,id<n->W'.own id=W.own id)->Kf K W n H n H' n'->k (.Fh []) H' n'):
 Runs F G FU [.ptr K.kb 0,.int .i64 (.ofNat to) 0,vl,vs] H n k:=by
 refine BN (s:=ar4 (He lfp G)) Nz (by obtain⟨h,o⟩:=Uz BO G;rw[Nz]at h;cases h;exact o) ?_
 show He lfp G (Runs F G) (.ptr K.kb 0) (.int .i64 (.ofNat to) 0) vl vs H n k
 delta He
 have hb:K.b<K.kb:=hE.img.tab.bn
 have hk:=hw.kn
 have hcl:=hE.cl
 have hKnl:=hE.nl
 have wL:lenV K.vc=some (.int .i64 (.ofNat K.code.length) 0):=by rw[hE.code.el.len,List.length_map]
 have raise:∀{H' n' g' b m},Kf K W n H n H' n'->Qe K W H' n g' b m->∃W',Qe K W' H' n' g' b m/\∀id,id<n->W'.own id=W.own id:=by
  intro H' n' g' b m f h
  have hn':=f.le
  let own:Nat->Nat:=λid=>if id<n then W.own id else 0
  have ho:∀id,id<n->own id=W.own id:=λid hid=>if_pos hid
  refine⟨{W with own:=own},⟨by omega,(ho _ h.kn).trans h.ko,h.box,h.gl,⟨h.Xm.1,Nat.lt_of_lt_of_le h.Xm.2 hn'⟩,(ho _ h.Xm.2).trans h.vV,?_,λi s hi=>?_,h.ok⟩,ho⟩
  ·obtain⟨ta,g1,ht⟩:=h.ats
   exact⟨ta,g1,λi o hi=>by rw[ht i o hi];cases o<;>rfl⟩
  ·obtain⟨hl,hs⟩:=h.st i s hi
   exact⟨hl.mono (λid h=>⟨h.1,by omega,(ho _ h.2.1).trans h.2.2⟩) λ_ _=>rfl,hs.mono (λid h=>⟨h.1,by omega,(ho _ h.2.1).trans h.2.2⟩) λ_ _=>rfl⟩
 have fail:DK K.fs g to s=none->Bg 1 (.ptr K.kb 20) (.bool true) H n λ_ H n=>k (.Fh []) H n:=λe=>
  hw.AKZ λH1 hw1 s1=>h0 W H1 n g m0 (hw.lN hb (Nat.le_refl _) s1) hw1 (λ_ _=>rfl) e
 rw[EM,AV,BG,AV,BG,AV,AU (off:=0+11+2) hw.box (v:=K.vc) rfl,AV,wL,AV,AF4,AV]
 by_cases hto:K.code.length<=to
 ·rw[decide_eq_true hto,Bz,AV,BG,AV]
  exact fail (by unfold DK;rw[List.getElem?_eq_none (by rw[hw.gl];exact hto)])
 have hlt:to<g.length:=by rw[hw.gl];omega
 rw[decide_eq_false hto,BZ]
 cases hg:g[to]? with
 |none=>rw[List.getElem?_eq_none_iff]at hg;omega
 |some o=>
 obtain⟨hia,hth,hvv⟩:=hw.ABc hG hg
 rw[AV,BG,AV,AU (off:=0+19) hw.box (v:=K.pat W) rfl,AV,hia,AV,EM,AV,BG,AV,hth,AV,BL,AV]
 cases o with
 |some old=>
  obtain⟨hvl0,hvs0⟩:=hvv rfl
  obtain⟨-,hsk⟩:=hw.st to old hg
  have hsl:lenV (W.vs to)=some (.int .i64 (.ofNat old.stk.length) 0):=by rw[(hsk.el (G:=G) (by omega)).len,Cb,List.length_reverse]
  have hvl':lenV vs=some (.int .i64 (.ofNat s.stk.length) 0):=by rw[hvs.el.len,Cb,List.length_reverse]
  rw[show(!(some old:Option CG).isSome)=false from rfl,BZ,AV,BG,AV,hvs0,AV,hsl,AV,hvl',AV,AEh,AV]
  have come:DK K.fs g to s=(Es K.fs old.stk s.stk).map λk=>(g.set to (some ⟨CX K.fs old.loc s.loc,k⟩),!(CZ k old.stk&&CZ (CX K.fs old.loc s.loc) old.loc)):=by
   unfold DK;rw[hg]
  by_cases hl:old.stk.length=s.stk.length
  ·rw[decide_eq_true hl,Bool.not_true,BZ,AV]
   obtain⟨ol,os,onl,obs⟩:=hw.ok to old hg
   refine AI2 hG hE hw (Nat.le_refl _) hg hvs hl hos (λH' n' g' m' f hp e=>?_) λH2 n2 ks f2 e hw2=>?_
   ·obtain⟨W',hp',ho⟩:=raise f hp
    exact h0 W' _ _ _ _ f hp' ho (by rw[come,e];rfl)
   ·have hn2:=f2.le
    have hset:(g.set to (some (⟨old.loc,ks⟩:CG)))[to]? =some (some ⟨old.loc,ks⟩):=List.getElem?_set_self hlt
    have hE2:=hE.bV (f2.kb (by omega))
    refine AIe hG hE2 hw2 (by omega) hset (hvl.kf f2 (Nat.le_refl _) hb) (by rw[hnl];exact onl) hol (by omega) λH3 n3 f3 hw3=>?_
    rw[List.set_set]at hw3
    obtain⟨W',hp',ho⟩:=raise (f2.trans f3) hw3
    refine h1 W' _ _ _ _ (by rw[come,e];rfl) ?_ ho (f2.trans f3)
    rw[show(m0|| !(CZ ks old.stk&&CZ (CX K.fs old.loc s.loc) old.loc))=(m0|| !CZ ks old.stk|| !CZ (CX K.fs old.loc s.loc) old.loc)by cases m0<;>cases CZ ks old.stk<;>rfl]
    exact hp'
  ·rw[decide_eq_false hl,Bool.not_false,Bz,AV,BG,AV]
   exact fail (by rw[come,eH _ _ _ hl];rfl)
 |none=>
  rw[show(!(none:Option CG).isSome)=true from rfl,Bz]
  refine AHe hvl (λid h=>h.2.1) (by omega) λv H2 n2 f2 hv=>?_
  have hn2:=f2.le
  have hvs2:=hvs.mono (B:=λid=>id<n) (H':=H2) (λid h=>h.2.1) λid h=>f2.same id h.2.1
  refine AHe hvs2 (λid h=>by omega) (by rw[List.length_reverse];omega) λw H3 n3 f3 hw'=>?_
  have hn3:=f3.le
  have f23:=f2.trans f3
  have hv3:=hv.mono (B:=λid=>n<=id/\id<n2) (H':=H3) (λid h=>h) λid h=>f3.same id h.2
  rw[AI4 hv3 hw',AV,AV]
  have hw3:=hw.kb (f23.kb (b:=K.b) (by omega)) (Nat.le_refl _) hb
  obtain⟨ta,ga,hta⟩:=hw3.ats
  refine AFZ ga (by omega) (by omega) (hta to none hg) rfl rfl λH5 g5 s5=>?_
  have Xm:=hw.Xm
  have e0:∀id,id<n->id≠W.ab->T.get H5 id=T.get H id:=λid h hne=>by rw[s5 _ hne,f23.same _ h]
  obtain⟨W',hab',hW',hown⟩:=hw.new (H':=H5) (n':=n3) (s:=s) (v:=v) (w:=w) hg (by omega) (λid h1 h2 h3 h4=>e0 id h2 h4)
   (λta' g'=>by
    have:some (Oj.arr 3 K.code.length ta')=some (Oj.arr 3 K.code.length ta):=by rw[<-g',<-ga,f23.same _ Xm.2]
    cases this
    exact g5)
   (hv3.mono (λid h=>⟨h.1,by omega⟩) λid h=>s5 _ (by omega)) (hw'.mono (λid h=>⟨by omega,h.2⟩) λid h=>s5 _ (by omega))
   (λid h1 h2=>by have:=(hv3.own h1).2;have:=(hw'.own h2).1;omega) ⟨hol,hos,hnl,hbs⟩
  rw[AV,BG,AV]
  refine hW'.AD7 (m':=true) λH6 hw6 s6=>?_
  refine h1 W' H6 n3 _ true (by unfold DK;rw[hg]) (by rw[show(m0||true)=true by cases m0<;>rfl];exact hw6) hown ⟨by omega,λid h1 h2 h3=>?_,λhs=>hs.same ?_⟩
  ·have hab:id≠W.ab:=λe=>by rw[e,hw.vV]at h3;omega
   have hkb:id≠K.kb:=λe=>by rw[e,hw.ko]at h3;omega
   rw[s6 _ hkb,e0 _ h1 hab]
  ·rw[s6 _ (by omega),e0 _ (by omega) (by omega)]
end
theorem AJn(a b:Nat):Fe (.ptr a b) (.ptr a b)=true:=by
 show QI (.ptr a b) (.ptr a b)=true
 simp[QI,AHp,BP]
abbrev mg:=List Ty×Bool
def I5:mg->Ty×mg
 |([],_)=>(BI,[],true)
 |(t::k,b)=>(t,k,b)
def RX(fs:Tab)(w:Ty)(p:mg):mg:=((I5 p).2.1,(I5 p).2.2|| !fitsT fs (I5 p).1 w)
def ay(mx:Int)(t:Ty)(p:mg):mg:=(t::p.1,p.2||decide (mx<((p.1.length+1:Nat):Int)))
theorem any_ok{s:List Ty}{b:Bool}(h:∀t∈s,t.nm.ok):(I5 (s,b)).1.nm.ok/\∀t∈(I5 (s,b)).2.1,t.nm.ok:=by
 cases s with
 |nil=>exact⟨λ_=>rfl,λt ht=>by cases ht⟩
 |cons a s=>exact⟨h a (List.mem_cons_self ..),λt ht=>h t (List.mem_cons_of_mem _ ht)⟩
theorem AHg(p:mg):(I5 p).2.1.length<=p.1.length:=by
 obtain⟨s,b⟩:=p
 cases s<;>simp[I5]
theorem AMb{s:List Ty}:(I5 (s,true)).2.2=true:=by cases s<;>rfl
structure Gs(K:O6)(W:Wv)(N:Nat)(g:JU)(Pr:Nat->Prop)(pb sb:Nat)(H:Heap)(n:Nat)(p:mg)(more:Bool):Prop where
 w:Qe K W H N g p.2 more
 hN:N<=n
 Wl:T.get H pb=some (one [.ptr K.kb 0])
 ABq:∃v,T.get H sb=some (one [v])/\Sk H 2 (λid=>N<=id/\id<n/\¬Pr id) v (tys p.1.reverse)
 pp:Pr pb
 ps:Pr sb
 pr:∀id,Pr id->N<=id/\id<n
 ne:pb≠sb
 ok:∀t∈p.1,t.nm.ok
structure Kg(K:O6)(W:Wv)(N:Nat)(Pr:Nat->Prop)(sb:Nat)(H:Heap)(n:Nat)(H':Heap)(n':Nat):Prop where
 le:n<=n'
 low:∀id,id<N->id≠K.b->(id<K.kb∨W.own id=0)->T.get H' id=T.get H id
 pr:∀id,Pr id->id≠sb->T.get H' id=T.get H id
 seen:Jd H K.b->Jd H' K.b
section
variable{K:O6}{W:Wv}{G:AQ}{H H' H'':Heap}{n n' n'' N pb sb:Nat}{g:JU}{Pr:Nat->Prop}{p:mg}{more:Bool}{k:KV}
theorem Kg.trans(x:Kg K W N Pr sb H n H' n')(y:Kg K W N Pr sb H' n' H'' n''):Kg K W N Pr sb H n H'' n'':=
 ⟨Nat.le_trans x.le y.le,λid h1 h2 h3=>(y.low id h1 h2 h3).trans (x.low id h1 h2 h3),λid h1 h2=>(y.pr id h1 h2).trans (x.pr id h1 h2),λh=>y.seen (x.seen h)⟩
theorem Kg.refl:Kg K W N Pr sb H n H n:=⟨Nat.le_refl _,λ_ _ _ _=>rfl,λ_ _ _=>rfl,λh=>h⟩
theorem Kg.kb(x:Kg K W N Pr sb H n H' n')(h:K.kb<=N):Kb K.b H K.kb H' K.kb:=⟨Nat.le_refl _,λid h1 h2=>x.low id (by omega) h2 (.inl h1),x.seen⟩
theorem Gs.kb(h:Gs K W N g Pr pb sb H n p more)(hb:K.b<K.kb)(f:Kb K.b H n H' n'):Gs K W N g Pr pb sb H' n' p more/\Kg K W N Pr sb H n H' n':=by
 have hN:=h.hN
 have hle:=f.le
 have kn:=h.w.kn
 have e:∀id,N<=id->id<n->T.get H' id=T.get H id:=λid h1 h2=>f.same id h2 (by omega)
 obtain⟨v,g1,sk⟩:=h.ABq
 exact⟨⟨h.w.kb f hN hb,by omega,(e _ (h.pr _ h.pp).1 (h.pr _ h.pp).2).trans h.Wl,⟨v,(e _ (h.pr _ h.ps).1 (h.pr _ h.ps).2).trans g1,sk.mono (λid h=>⟨h.1,by omega,h.2.2⟩) λid h=>e id h.1 h.2.1⟩,h.pp,h.ps,λid hid=>⟨(h.pr id hid).1,by have:=(h.pr id hid).2;omega⟩,h.ne,h.ok⟩,
  ⟨hle,λid h1 h2 _=>f.same id (by omega) h2,λid h1 _=>e id (h.pr id h1).1 (h.pr id h1).2,f.seen⟩⟩
theorem Gs.bad{P:KV}(h:Gs K W N g Pr pb sb H n p more)(hb:K.b<K.kb)(hk:∀H',Gs K W N g Pr pb sb H' n (p.1,true) more->Kg K W N Pr sb H n H' n->(∀id,id≠K.kb->T.get H' id=T.get H id)->P .undef H' n):Bg 1 (.ptr K.kb 20) (.bool true) H n P:=by
 have kn:=h.w.kn
 refine h.w.AKZ λH1 w1 s1=>?_
 have e:∀id,N<=id->T.get H1 id=T.get H id:=λid h1=>s1 id (by omega)
 obtain⟨v,g1,sk⟩:=h.ABq
 refine hk H1 ⟨w1,h.hN,(e _ (h.pr _ h.pp).1).trans h.Wl,⟨v,(e _ (h.pr _ h.ps).1).trans g1,sk.mono (λid h=>h) λid h=>e id h.1⟩,h.pp,h.ps,h.pr,h.ne,h.ok⟩ ⟨Nat.le_refl _,λid h1 h2 h3=>s1 id λe=>?_,λid h1 _=>e id (h.pr id h1).1,λhs=>hs.same (s1 _ (by omega))⟩ s1
 rw[e,h.w.ko]at h3
 omega
theorem Gs.put{v':V}{s':List Ty}{P:KV}(h:Gs K W N g Pr pb sb H n p more)(hb:K.b<K.kb)(hsk:Sk H 2 (λid=>N<=id/\id<n/\¬Pr id) v' (tys s'.reverse))(hok:∀t∈s',t.nm.ok)
 (hk:∀H',Gs K W N g Pr pb sb H' n (s',p.2) more->Kg K W N Pr sb H n H' n->T.get H' sb=some (one [v'])->(∀id,id≠sb->T.get H' id=T.get H id)->P .undef H' n):Bg 1 (.ptr sb 0) v' H n P:=by
 have kn:=h.w.kn
 obtain⟨v,g1,sk⟩:=h.ABq
 have hs:=h.pr _ h.ps
 refine Y4 g1 hsk.ok.1 (by rw[hsk.ok.2.1];rfl) (by omega) (by show 0+1<=1;omega) λH1 g2 s2=>?_
 rw[hsk.ok.2.1]at g2
 have g2:T.get H1 sb=some (one [v']):=g2
 refine hk H1 ⟨h.w.mono (Nat.le_refl _) λid h1 h2 _=>s2 id (by omega),h.hN,(s2 _ h.ne).trans h.Wl,⟨v',g2,hsk.mono (λid h=>h) λid hid=>s2 id λe=>hid.2.2 (by rw[e];exact h.ps)⟩,h.pp,h.ps,h.pr,h.ne,hok⟩
  ⟨Nat.le_refl _,λid h1 h2 h3=>s2 id (by omega),λid h1 h2=>s2 id h2,λhs=>hs.same (s2 _ (by omega))⟩ g2 s2
theorem AAB(t:Ty)(s:List Ty):tys (t::s).reverse=tys s.reverse++[t.cells]:=by
 rw[List.reverse_cons];exact List.map_append
theorem AOw(h:Gs K W N g Pr pb sb H n p more)(hb:K.b<K.kb)(hlen:p.1.length<=1000000)
 (hk:∀H' n',Gs K W N g Pr pb sb H' n' (I5 p).2 more->Kg K W N Pr sb H n H' n'->k (I5 p).1.v H' n'):Runs F G Df [.ptr sb 0,.ptr pb 0] H n k:=by
 refine BN (s:=RP (Gh lfp G)) Nl (by obtain⟨h,o⟩:=TJ BO G;rw[Nl]at h;cases h;exact o) ?_
 show Gh lfp G (Runs F G) (.ptr sb 0) (.ptr pb 0) H n k
 delta Gh
 obtain⟨v,gs0,sk0⟩:=h.ABq
 have hpr:=h.pr
 have hsn:=h.pr _ h.ps
 have hpn:=h.pr _ h.pp
 have hNn:=h.hN
 have kn:=h.w.kn
 refine EJ rfl λH1 f1 g1=>?_
 obtain⟨h1,kg1⟩:=h.kb hb (f1.kb (b:=K.b) (by omega))
 have gs1:=(f1.same _ hsn.2).trans gs0
 have sk1:Sk H1 2 (λid=>N<=id/\id<n/\¬Pr id) v (tys p.1.reverse):=sk0.mono (λ_ h=>h) λid h=>f1.same id h.2.1
 have out:∀{H' n' t L q v'},T.get H' n=some (one L)->L.length=2->Gs K W N g Pr pb sb H' n' q more->Kg K W N Pr sb H n H' n'->n<n'->T.get H' sb=some (one [v'])->Sk H' 2 (λid=>N<=id/\id<n/\¬Pr id) v' (tys q.1.reverse)->
  (∀H' n',Gs K W N g Pr pb sb H' n' q more->Kg K W N Pr sb H n H' n'->k (Ty.v t) H' n')->Bg 2 (.ptr n 0) t.v H' n' λ_ H m=>II (CB [.cn (.ptr n 0) 2] G H) λl=>k (JX l) H m:=by
  intro H' n' t L q v' g' hL hg' kg' hn gsb hsk hk
  show Bg 2 (.ptr n 0) (.agg t.cells) H' n' _
  rw[ED (m:=2) g' (by omega) hL rfl,CW (m:=2) (T.Ag ..) (by omega) rfl]
  have e:∀id,id≠n->T.get (T.set H' n (one t.cells)) id=T.get H' id:=λid hid=>T.Ac _ _ (Ne.symm hid)
  have ep:∀id,Pr id->T.get (T.set H' n (one t.cells)) id=T.get H' id:=λid hid=>e id (by have:=(hpr id hid).2;omega)
  exact hk _ _ ⟨hg'.w.mono (Nat.le_refl _) λid _ h2 _=>e id (by omega),hg'.hN,(ep _ hg'.pp).trans hg'.Wl,⟨v',(ep _ hg'.ps).trans gsb,hsk.mono (λid h=>⟨h.1,by omega,h.2.2⟩) λid h=>e id (by omega)⟩,hg'.pp,hg'.ps,hg'.pr,hg'.ne,hg'.ok⟩
   (kg'.trans ⟨Nat.le_refl _,λid h1 _ _=>e id (by omega),λid h1 _=>ep id h1,λhs=>hs.same (e _ (by omega))⟩)
 have hl:lenV v=some (.int .i64 (.ofNat p.1.length) 0):=by rw[(sk1.el (G:=G) (by omega)).len,Cb,List.length_reverse]
 rw[AU (off:=0) gs1 (v:=v) rfl,AV,hl,AV,Fa,AV]
 obtain⟨s,bd⟩:=p
 cases s with
 |nil=>
  rw[show decide (([]:List Ty).length=0)=true from rfl,Bz,AU (off:=0) h1.Wl (v:=.ptr K.kb 0) rfl,AV,EM,AV,BG,AV]
  refine h1.bad hb λH2 h2 kg2 s2=>?_
  rw[aZ,AV]
  exact out ((s2 _ (by omega)).trans g1) rfl h2 (kg1.trans kg2) (by omega) ((s2 _ (by omega)).trans gs1) (sk1.mono (λ_ h=>h) λid h=>s2 id (by omega)) hk
 |cons t s=>
  have hle:s.length+1<=1000000:=hlen
  rw[show decide ((t::s).length=0)=false from decide_eq_false (by simp),BZ,AV,AV,hl,AV,AGG (by show 1<=s.length+1;omega) (by show s.length+1<_;omega),AV,show(t::s).length-1=s.length from rfl]
  obtain⟨p,hp,hld⟩:=(sk1.el (G:=G) (by omega)).at (i:=s.length) (c:=t.cells) (by
   show(tys (t::s).reverse)[s.length]? =_
   rw[AAB,List.getElem?_append_right (by rw[Cb,List.length_reverse];omega),Cb,List.length_reverse,Nat.sub_self];rfl)
  have hld:Af 2 p G H1=some t.v:=Bl hld
  rw[hp,AV,hld,AV]
  refine EJ rfl λH2 f2 g2=>?_
  show Bg 2 (.ptr (n+1) 0) (.agg t.cells) _ _ _
  rw[ED (m:=2) g2 (by omega) rfl rfl]
  have g3:=T.Ag H2 (n+1) (one t.cells)
  have f3:Kp H1 (n+1) (T.set H2 (n+1) (one t.cells)) (n+1+1):=⟨by omega,λid hid=>by rw[T.Ac _ _ (by omega),f2.same _ hid]⟩
  generalize T.set H2 (n+1) (one t.cells)=H3 at g3 f3
  obtain⟨h3,kg3⟩:=h1.kb hb (f3.kb (b:=K.b) (by omega))
  have gs3:=(f3.same _ (by omega)).trans gs1
  have sk3:Sk H3 2 (λid=>N<=id/\id<n/\¬Pr id) v (tys (t::s).reverse):=sk1.mono (λ_ h=>h) λid h=>f3.same id (by omega)
  obtain⟨v',hs1,hs2,hs3⟩:=sk3.pop (i:=s.length) (q:=.i64) (by rw[Cb,List.length_reverse];show s.length<s.length+1;omega)
  have e3:(tys (t::s).reverse).take s.length=tys s.reverse:=by
   rw[AAB];exact List.take_left' (by rw[Cb,List.length_reverse])
  rw[e3]at hs3
  rw[AU (off:=0) gs3 (v:=v) rfl,AV,AV,hl,AV,AGG (by show 1<=s.length+1;omega) (by show s.length+1<_;omega),AV,show(t::s).length-1=s.length from rfl,hs1,AV]
  refine h3.put hb (hs3.mono (λid h=>⟨h.1,by omega,h.2.2⟩) λ_ _=>rfl) (λx hx=>h.ok x (List.mem_cons_of_mem _ hx)) λH4 h4 kg4 gs4 s4=>?_
  rw[Aj ((s4 _ (by omega)).trans g3),AV]
  exact out ((s4 _ (by omega)).trans ((f3.same _ (by omega)).trans g1)) rfl h4 ((kg1.trans kg3).trans kg4) (by omega) gs4 (hs3.mono (λ_ h=>h) λid hid=>s4 id λe=>hid.2.2 (by rw[e];exact h.ps)) hk
end
section
variable{K:O6}{W:Wv}{G:AQ}{H H' H'':Heap}{n n' n'' N pb sb:Nat}{g:JU}{Pr:Nat->Prop}{p:mg}{more:Bool}{k:KV}
theorem Gs.box(h:Gs K W N g Pr pb sb H n p more)(hb:K.b<K.kb)(f:Kp H n H' (n+1)):Gs K W N g (λid=>Pr id∨id=n) pb sb H' (n+1) p more/\Kg K W N Pr sb H n H' (n+1):=by
 have hpr:=h.pr
 have hN:=h.hN
 have kn:=h.w.kn
 obtain⟨v,gs0,sk0⟩:=h.ABq
 obtain⟨h1,k1⟩:=h.kb hb (f.kb (b:=K.b) (by omega))
 refine⟨⟨h1.w,h1.hN,h1.Wl,⟨v,(f.same _ (hpr _ h.ps).2).trans gs0,sk0.mono (λid h=>⟨h.1,by omega,λhp=>?_⟩) λid h=>f.same id h.2.1⟩,.inl h.pp,.inl h.ps,λid hid=>?_,h.ne,h.ok⟩,k1⟩
 ·rcases hp with hp|hp
  ·exact h.2.2 hp
  ·omega
 ·rcases hid with hid|hid
  ·have:=hpr id hid;omega
  ·omega
theorem Gs.weak{Pr':Nat->Prop}(h:Gs K W N g Pr' pb sb H n p more)(hp:∀id,Pr id->Pr' id)(h1:Pr pb)(h2:Pr sb):Gs K W N g Pr pb sb H n p more:=
 ⟨h.w,h.hN,h.Wl,by obtain⟨v,g1,sk⟩:=h.ABq;exact⟨v,g1,sk.mono (λid h=>⟨h.1,h.2.1,λe=>h.2.2 (hp id e)⟩) λ_ _=>rfl⟩,h1,h2,λid hid=>h.pr id (hp id hid),h.ne,h.ok⟩
theorem Kg.weak{Pr':Nat->Prop}(h:Kg K W N Pr' sb H n H' n')(hp:∀id,Pr id->Pr' id):Kg K W N Pr sb H n H' n':=⟨h.le,h.low,λid h1 h2=>h.pr id (hp id h1) h2,h.seen⟩
theorem ANh{ab:Nat}{t:Ty}(h:Gs K W N g Pr pb sb H n p more)(hE:K.En G H)(hlen:p.1.length<=1000000)(ht:t.nm.ok)(hab:T.get H ab=some (one [.fn Df [] [.ptr sb 0,.ptr pb 0]]))(hpa:Pr ab)(hne:ab≠sb)
 (hk:∀H' n',Gs K W N g Pr pb sb H' n' (RX K.fs t p) more->Kg K W N Pr sb H n H' n'->k (.Fh []) H' n'):Runs F G BU [t.v,.ptr pb 0,.ptr ab 0] H n k:=by
 refine BN (s:=ar3 (GU lfp G)) NW (by obtain⟨h,o⟩:=TI BO G;rw[NW]at h;cases h;exact o) ?_
 show GU lfp G (Runs F G) t.v (.ptr pb 0) (.ptr ab 0) H n k
 delta GU
 have hb:K.b<K.kb:=hE.img.tab.bn
 have hpr:=h.pr
 have hNn:=h.hN
 have kn:=h.w.kn
 have pp:=h.pp
 have ps:=h.ps
 refine F9 λH1 f1 g1=>?_
 obtain⟨h1,kg1⟩:=h.box hb f1
 have hE1:=hE.bV (kg1.kb (by omega))
 have gb1:=(f1.same _ (hpr _ hpa).2).trans hab
 rw[AU (off:=0) h1.Wl (v:=.ptr K.kb 0) rfl,AV,EM,AV,BG,AV,AU (off:=0+0) h1.w.box (v:=.ptr K.i 0) rfl,AV,EM,AV,BG,AV,AU (off:=0+0) hE1.img.at' (v:=.ptr K.t 0) rfl,AV,
  AU (off:=0) gb1 (v:=.fn Df [] [.ptr sb 0,.ptr pb 0]) rfl,AV,Aj g1,AV]
 show Runs F G Df [.ptr sb 0,.ptr pb 0] H1 (n+1) _
 refine AOw h1 hb hlen λH2 n2 h2 kg2=>?_
 have hn2:=kg2.le
 have g2:=(kg2.pr n (.inr rfl) (by have:=(hpr _ ps).2;omega)).trans g1
 have kg12:=kg1.trans (kg2.weak (Pr:=Pr) λ_ h=>.inl h)
 have hE2:=hE.bV (kg12.kb (by omega))
 obtain⟨hok1,hok2⟩:=any_ok (b:=p.2) h.ok
 have hw2:Gs K W N g Pr pb sb H2 n2 (I5 p).2 more:=h2.weak (λ_ h=>.inl h) pp ps
 rw[AU (off:=0) h2.Wl (v:=.ptr K.kb 0) rfl,AV,AJn,Qa,AU (off:=0+0) h2.w.box (v:=.ptr K.i 0) rfl,AV,AJn,Qa,AU (off:=0+0) hE2.img.at' (v:=.ptr K.t 0) rfl,AV,AJn,Qa,Aj g2,AV,NU,Qa]
 refine AKK hE2.img.tab (by omega) hE2.small hok1 ht λH3 n3 f3=>?_
 obtain⟨h3,kg3⟩:=hw2.kb hb f3
 have kg13:=kg12.trans kg3
 rw[BL,AV]
 unfold RX at hk
 cases hf:fitsT K.fs (I5 p).1 t with
 |true=>
  rw[hf,show((I5 p).2.2|| !true)=(I5 p).2.2 by cases(I5 p).2.2<;>rfl]at hk
  rw[Bool.not_true,BZ]
  exact hk _ _ h3 kg13
 |false=>
  rw[hf,show((I5 p).2.2|| !false)=true by cases(I5 p).2.2<;>rfl]at hk
  rw[Bool.not_false,Bz,AU (off:=0) h3.Wl (v:=.ptr K.kb 0) rfl,AV,EM,AV,BG,AV]
  exact h3.bad hb λH4 h4 kg4 _=>hk _ _ h4 (kg13.trans kg4)
theorem AM0{t:Ty}(h:Gs K W N g Pr pb sb H n p more)(hb:K.b<K.kb)(hlen:p.1.length<=1000000)(ht:t.nm.ok)
 (hk:∀H' n',Gs K W N g Pr pb sb H' n' (ay K.mx t p) more->Kg K W N Pr sb H n H' n'->k (.Fh []) H' n'):Runs F G Ap [t.v,.ptr sb 0,.ptr pb 0] H n k:=by
 refine BN (s:=ar3 (GR lfp G)) NC (by obtain⟨h,o⟩:=TG BO G;rw[NC]at h;cases h;exact o) ?_
 show GR lfp G (Runs F G) t.v (.ptr sb 0) (.ptr pb 0) H n k
 delta GR
 have hpr:=h.pr
 have hNn:=h.hN
 have kn:=h.w.kn
 have ps:=h.ps
 refine F9 λH1 f1 g1=>?_
 obtain⟨h1,kg1⟩:=h.kb hb (f1.kb (b:=K.b) (by omega))
 obtain⟨v,gs1,sk1⟩:=h1.ABq
 rw[AU (off:=0) gs1 (v:=v) rfl,AV,Aj g1,AV]
 refine sk1.app (m:=0) (c:=t.v) (λid hid=>(sk1.own hid).2.1) (by omega) rfl rfl (by rw[Cb,List.length_reverse];omega) λv' H2 hv' s2 hid=>?_
 have e2:∀id,id<n+1->(id<N∨Pr id)->T.get H2 id=T.get H1 id:=λid h1 h2=>s2 id h1 λe=>by
  have:=sk1.own e
  rcases h2 with h2|h2
  ·omega
  ·exact this.2.2 h2
 have hv2:=(hv' (λid=>N<=id/\id<n+1+2/\¬Pr id) ⟨by omega,by omega,λe=>by have:=(hpr _ e).2;omega⟩)
 have hve:=hv2.ok
 refine Y4 ((e2 _ (by have:=(hpr _ ps).2;omega) (.inr ps)).trans gs1) hve.1 (by rw[hve.2.1];rfl) (by omega) (by show 0+1<=1;omega) λH3 g3 s3=>?_
 rw[hve.2.1]at g3
 have g3:T.get H3 sb=some (one [v']):=g3
 have hsb:=hpr _ ps
 have hpb:=hpr _ h.pp
 have e3:∀id,id<n+1->(id<N∨Pr id)->id≠sb->T.get H3 id=T.get H1 id:=λid q1 q2 q3=>(s3 id q3).trans (e2 id q1 q2)
 have h3:Gs K W N g Pr pb sb H3 (n+1+2) (t::p.1,p.2) more:=by
  refine⟨h1.w.mono (Nat.le_refl _) λid q1 q2 _=>e3 id (by omega) (.inl q2) (by omega),by omega,(e3 _ (by omega) (.inr h.pp) h.ne).trans h1.Wl,⟨v',g3,?_⟩,h.pp,ps,λid hid=>by have:=hpr id hid;omega,h.ne,λx hx=>?_⟩
  ·rw[AAB]
   exact hv2.mono (λ_ h=>h) λid hid=>s3 id λe=>hid.2.2 (by rw[e];exact ps)
  ·rcases List.mem_cons.1 hx with rfl|hx
   ·exact ht
   ·exact h.ok x hx
 have kg3:Kg K W N Pr sb H n H3 (n+1+2):=kg1.trans ⟨by omega,λid q1 _ _=>e3 id (by omega) (.inl q1) (by omega),λid q1 q2=>e3 id (by have:=(hpr id q1).2;omega) (.inr q1) q2,λhs=>hs.same (e3 _ (by omega) (.inl (by omega)) (by omega))⟩
 have hl3:lenV v'=some (.int .i64 (.ofNat (p.1.length+1)) 0):=by rw[(hv2.el (G:=G) (by omega)).len,List.length_append,Cb,List.length_reverse];rfl
 rw[AU (off:=0) g3 (v:=v') rfl,AV,hl3,AV,AU (off:=0) h3.Wl (v:=.ptr K.kb 0) rfl,AV,EM,AV,BG,AV,BG,AV,AU (off:=0+11+1) h3.w.box (v:=.int .i64 K.mx 0) rfl,AV,AHz,AV]
 unfold ay at hk
 have e:(Int.ofNat (p.1.length+1))=((p.1.length+1:Nat):Int):=rfl
 rw[e]
 cases hm:decide (K.mx<((p.1.length+1:Nat):Int))with
 |false=>
  rw[hm,show(p.2||false)=p.2 by cases p.2<;>rfl]at hk
  rw[BZ]
  exact hk _ _ h3 kg3
 |true=>
  rw[hm,show(p.2||true)=true by cases p.2<;>rfl]at hk
  rw[Bz,AV,EM,AV,BG,AV]
  exact h3.bad hb λH4 h4 kg4 _=>hk _ _ h4 (kg3.trans kg4)
theorem AP7{xb i:Nat}{c:Int}(h:Gs K W N g Pr pb sb H n p more)(hE:K.En G H)(hx:T.get H xb=some (one [.int .i64 c 0,.int .i64 (.ofNat i) 0]))(hpx:Pr xb)(hne:xb≠sb)(hi:i<K.pool.types.length)
 (hk:∀H' n',Gs K W N g Pr pb sb H' n' (p.1,p.2|| !(K.cx.ty (.ofNat i)).arr) more->Kg K W N Pr sb H n H' n'->k (K.cx.ty (.ofNat i)).v H' n'):Runs F G BR [.ptr pb 0,.ptr xb 0] H n k:=by
 refine BN (s:=RP (Gf lfp G)) NI (by obtain⟨h,o⟩:=TY BO G;rw[NI]at h;cases h;exact o) ?_
 show Gf lfp G (Runs F G) (.ptr pb 0) (.ptr xb 0) H n k
 delta Gf
 have hb:K.b<K.kb:=hE.img.tab.bn
 have hpr:=h.pr
 have hNn:=h.hN
 have kn:=h.w.kn
 have pp:=h.pp
 have ps:=h.ps
 have hty:K.cx.ty (.ofNat i)=K.pool.types[i]:=by
  show K.pool.types.getD i BI=_
  rw[List.getD_eq_getElem?_getD,List.getElem?_eq_getElem hi];rfl
 rw[hty]at hk
 refine EJ rfl λH1 f1 g1=>?_
 obtain⟨h1,kg1⟩:=h.box hb f1
 have hE1:=hE.bV (kg1.kb (by omega))
 have gx1:=(f1.same _ (hpr _ hpx).2).trans hx
 obtain⟨q,hq,hld⟩:=hE1.pool.t2.el.at (NT hi)
 have hld:Af 2 q G H1=some (K.pool.types[i]).v:=Bl hld
 rw[AU (off:=0) h1.Wl (v:=.ptr K.kb 0) rfl,AV,EM,AV,BG,AV,BG,AV,BG,AV,AU (off:=0+1+4+2) h1.w.box (v:=K.v2) rfl,AV,BG,AV,AU (off:=0+1) gx1 (v:=.int .i64 (.ofNat i) 0) rfl,AV,hq,AV,hld,AV]
 generalize K.pool.types[i]=t at hk
 refine EJ rfl λH2 f2 g2=>?_
 show Bg 2 (.ptr (n+1) 0) (.agg t.cells) _ _ _
 rw[ED (m:=2) g2 (by omega) rfl rfl]
 have g3:=T.Ag H2 (n+1) (one t.cells)
 have f3:Kp H1 (n+1) (T.set H2 (n+1) (one t.cells)) (n+1+1):=⟨by omega,λid hid=>by rw[T.Ac _ _ (by omega),f2.same _ hid]⟩
 generalize T.set H2 (n+1) (one t.cells)=H3 at g3 f3
 obtain⟨h3,kg3⟩:=h1.box hb f3
 have g13:=(f3.same n (by omega)).trans g1
 rw[BG,AV,AU (off:=0+1) g3 (v:=.bool t.arr) rfl,AV,BL,AV]
 have fin:∀{H':Heap} {n':Nat} {b:Bool},Gs K W N g (λid=>(Pr id∨id=n)∨id=n+1) pb sb H' n' (p.1,b) more->Kg K W N (λid=>(Pr id∨id=n)∨id=n+1) sb H3 (n+1+1) H' n'->b=(p.2|| !t.arr)->Eh lfp G (Runs F G) k (.ptr n 0) (.ptr (n+1) 0) H' n':=by
  rintro H' n' b h' kg' rfl
  delta Eh
  have hsb:=hpr _ ps
  rw[Aj ((kg'.pr _ (.inr rfl) (by omega)).trans g3),AV]
  show Bg 2 (.ptr n 0) (.agg t.cells) H' n' _
  rw[ED (m:=2) ((kg'.pr _ (.inl (.inr rfl)) (by omega)).trans g13) (by omega) rfl rfl,CW (m:=2) (T.Ag ..) (by omega) rfl]
  have hn':=kg'.le
  have e:∀id,id≠n->T.get (T.set H' n (one t.cells)) id=T.get H' id:=λid hid=>T.Ac _ _ (Ne.symm hid)
  have ep:∀id,Pr id->T.get (T.set H' n (one t.cells)) id=T.get H' id:=λid hid=>e id (by have:=(hpr id hid).2;omega)
  obtain⟨v,gs,sk⟩:=h'.ABq
  refine hk _ _ ⟨h'.w.mono (Nat.le_refl _) λid _ h2 _=>e id (by omega),h'.hN,(ep _ pp).trans h'.Wl,⟨v,(ep _ ps).trans gs,sk.mono (λid h=>⟨h.1,by omega,λhp=>h.2.2 (.inl (.inl hp))⟩) λid h=>e id λe=>h.2.2 (.inl (.inr e))⟩,pp,ps,λid hid=>by have:=hpr id hid;omega,h'.ne,h'.ok⟩
   (((kg1.trans (kg3.weak (Pr:=Pr) λ_ h=>.inl h)).trans (kg'.weak (Pr:=Pr) λ_ h=>.inl (.inl h))).trans ⟨Nat.le_refl _,λid h1 _ _=>e id (by omega),λid h1 _=>ep id h1,λhs=>hs.same (e _ (by omega))⟩)
 cases ha:t.arr with
 |true=>
  rw[Bool.not_true,BZ]
  exact fin h3 .refl (by rw[ha];cases p.2<;>rfl)
 |false=>
  rw[Bool.not_false,Bz,AU (off:=0) h3.Wl (v:=.ptr K.kb 0) rfl,AV,EM,AV,BG,AV]
  exact h3.bad hb λH4 h4 kg4 _=>fin h4 kg4 (by rw[ha];cases p.2<;>rfl)
end
structure Gn where
 N:Nat
 pb:Nat
 sb:Nat
 xb:Nat
 ab:Nat
 nb:Nat
 yb:Nat
 lv:V
 Pr:Nat->Prop
def kM(D:Gn):V:=.fn Df [] [.ptr D.sb 0,.ptr D.pb 0]
def Lh(D:Gn):V:=.fn BU [] [.ptr D.pb 0,.ptr D.ab 0]
def Ep(D:Gn):V:=.fn Ap [] [.ptr D.sb 0,.ptr D.pb 0]
def tJ(D:Gn):V:=.fn BR [] [.ptr D.pb 0,.ptr D.xb 0]
structure Go(K:O6)(W:Wv)(D:Gn)(G:AQ)(H0 H:Heap)(n:Nat)(g:JU)(c a:Nat)(loc:List Ty)(p:mg)(more:Bool):Prop where
 gs:Gs K W D.N g D.Pr D.pb D.sb H n p more
 en:K.En G H
 x:T.get H D.xb=some (one [.int .i64 (.ofNat c) 0,.int .i64 (.ofNat a) 0])
 a:T.get H D.ab=some (one [kM D])
 num:T.get H D.nb=some (one CY.cells)
 yes:T.get H D.yb=some (one Dh.cells)
 px:D.Pr D.xb/\D.xb≠D.sb
 pa:D.Pr D.ab/\D.ab≠D.sb
 pn:D.Pr D.nb/\D.nb≠D.sb
 py:D.Pr D.yb/\D.yb≠D.sb
 lv:Sk H 2 (λid=>D.Pr id/\id≠D.sb/\id≠D.pb/\id≠D.xb/\id≠D.ab/\id≠D.nb/\id≠D.yb) D.lv (tys loc)
 okl:∀t∈loc,t.nm.ok
 low:∀id,id<D.N->id≠K.b->(id<K.kb∨W.own id=0)->T.get H id=T.get H0 id
 seen:Jd H0 K.b->Jd H K.b
section
variable{K:O6}{W:Wv}{D:Gn}{G:AQ}{H0 H H' H'':Heap}{n n' n'' i:Nat}{g:JU}{c a:Nat}{loc:List Ty}{p p':mg}{more:Bool}{k:KV}
theorem Go.step(o:Go K W D G H0 H n g c a loc p more)(h:Gs K W D.N g D.Pr D.pb D.sb H' n' p' more)(f:Kg K W D.N D.Pr D.sb H n H' n'):Go K W D G H0 H' n' g c a loc p' more:=by
 have kn:=o.gs.w.kn
 exact⟨h,o.en.bV (f.kb (by omega)),(f.pr _ o.px.1 o.px.2).trans o.x,(f.pr _ o.pa.1 o.pa.2).trans o.a,(f.pr _ o.pn.1 o.pn.2).trans o.num,(f.pr _ o.py.1 o.py.2).trans o.yes,o.px,o.pa,o.pn,o.py,
  o.lv.mono (λ_ h=>h) λid h=>f.pr id h.1 h.2.1,o.okl,λid h1 h2 h3=>(f.low id h1 h2 h3).trans (o.low id h1 h2 h3),λhs=>f.seen (o.seen hs)⟩
theorem Go.any(o:Go K W D G H0 H n g c a loc p more)(hl:p.1.length<=1000000)(hk:∀H' n',Go K W D G H0 H' n' g c a loc (I5 p).2 more->Kg K W D.N D.Pr D.sb H n H' n'->k (I5 p).1.v H' n'):BQ (kM D) [] (Runs F G) H n k:=by
 show Runs F G Df [.ptr D.sb 0,.ptr D.pb 0] H n k
 exact AOw o.gs o.en.img.tab.bn hl λH' n' h f=>hk H' n' (o.step h f) f
theorem Go.take{t:Ty}(o:Go K W D G H0 H n g c a loc p more)(hl:p.1.length<=1000000)(ht:t.nm.ok)(hk:∀H' n',Go K W D G H0 H' n' g c a loc (RX K.fs t p) more->Kg K W D.N D.Pr D.sb H n H' n'->k (.Fh []) H' n'):BQ (Lh D) [t.v] (Runs F G) H n k:=by
 show Runs F G BU [t.v,.ptr D.pb 0,.ptr D.ab 0] H n k
 exact ANh o.gs o.en hl ht o.a o.pa.1 o.pa.2 λH' n' h f=>hk H' n' (o.step h f) f
theorem Go.give{t:Ty}(o:Go K W D G H0 H n g c a loc p more)(hl:p.1.length<=1000000)(ht:t.nm.ok)(hk:∀H' n',Go K W D G H0 H' n' g c a loc (ay K.mx t p) more->Kg K W D.N D.Pr D.sb H n H' n'->k (.Fh []) H' n'):BQ (Ep D) [t.v] (Runs F G) H n k:=by
 show Runs F G Ap [t.v,.ptr D.sb 0,.ptr D.pb 0] H n k
 exact AM0 o.gs o.en.img.tab.bn hl ht λH' n' h f=>hk H' n' (o.step h f) f
theorem Go.arr(o:Go K W D G H0 H n g c a loc p more)(hi:a<K.pool.types.length)(hk:∀H' n',Go K W D G H0 H' n' g c a loc (p.1,p.2|| !(K.cx.ty (.ofNat a)).arr) more->Kg K W D.N D.Pr D.sb H n H' n'->k (K.cx.ty (.ofNat a)).v H' n'):BQ (tJ D) [] (Runs F G) H n k:=by
 show Runs F G BR [.ptr D.pb 0,.ptr D.xb 0] H n k
 exact AP7 o.gs o.en o.x o.px.1 o.px.2 hi λH' n' h f=>hk H' n' (o.step h f) f
theorem Go.bad{P:KV}(o:Go K W D G H0 H n g c a loc p more)(hk:∀H',Go K W D G H0 H' n g c a loc (p.1,true) more->Kg K W D.N D.Pr D.sb H n H' n->P .undef H' n):Bg 1 (.ptr K.kb 20) (.bool true) H n P:=
 o.gs.bad o.en.img.tab.bn λH' h f _=>hk H' (o.step h f) f
theorem Qe.raise{N:Nat}{b m:Bool}(h:Qe K W H N g b m)(hn:N<=n):Qe K {W with own:=λid=>if id<N then W.own id else 0} H n g b m:=by
 have ho:∀id,id<N->(if id<N then W.own id else 0)=W.own id:=λid hid=>if_pos hid
 refine⟨Nat.lt_of_lt_of_le h.kn hn,(ho _ h.kn).trans h.ko,h.box,h.gl,⟨h.Xm.1,Nat.lt_of_lt_of_le h.Xm.2 hn⟩,(ho _ h.Xm.2).trans h.vV,?_,λi s hi=>?_,h.ok⟩
 ·obtain⟨ta,g1,ht⟩:=h.ats
  exact⟨ta,g1,λi o hi=>by rw[ht i o hi];cases o<;>rfl⟩
 ·obtain⟨hl,hs⟩:=h.st i s hi
  exact⟨hl.mono (λid h=>⟨h.1,by omega,(ho _ h.2.1).trans h.2.2⟩) λ_ _=>rfl,hs.mono (λid h=>⟨h.1,by omega,(ho _ h.2.1).trans h.2.2⟩) λ_ _=>rfl⟩
theorem Kf.of_low(hle:D.N<=n)(hl:∀id,id<D.N->id≠K.b->(id<K.kb∨W.own id=0)->T.get H id=T.get H0 id)(hs:Jd H0 K.b->Jd H K.b):Kf K W D.N H0 D.N H n:=
 ⟨hle,λid h1 h2 h3=>hl id h1 h2 (by rcases h3 with h|h|h;exact .inl h;omega;exact .inr h),hs⟩
theorem ATI(hG:Oh G)(o:Go K W D G H0 H n g c a loc p more){x:Ins}{s:CG}(hx:x.code=.ofNat c/\x.arg=.ofNat a)(hi:i<=16384)(hnl:loc.length=K.nl)(hb1:p.2=false->p.1.length<=100000)
 (hst:(bif p.2 then none else some (⟨loc,p.1⟩:CG))=stepT K.cx s x)
 (h0:∀W' H' n' g' m' j,Qe K W' H' n' g' true m'->(∀id,id<D.N->W'.own id=W.own id)->Kf K W D.N H0 D.N H' n'->Gj K.cx g i x s=.inl j->k (.Fh []) H' n')
 (h1:∀W' H' n' g' ps,Gj K.cx g i x s=.inr (g',ps)->Qe K W' H' n' g' false (more|| !ps.isEmpty)->(∀id,id<D.N->W'.own id=W.own id)->Kf K W D.N H0 D.N H' n'->k (.Fh []) H' n'):
 Ad lfp G (Runs F G) k (.int .i64 (.ofNat i) 0) (.ptr D.pb 0) (.ptr D.xb 0) D.lv (.ptr D.sb 0) H n:=by
 delta Ad
 have hb:K.b<K.kb:=o.en.img.tab.bn
 have kn:=o.gs.w.kn
 have hN:=o.gs.hN
 rw[AU (off:=0) o.gs.Wl (v:=.ptr K.kb 0) rfl,AV,EM,AV,BG,AV,AU (off:=0+20) o.gs.w.box (v:=.bool p.2) rfl,AV]
 obtain⟨stk,bd⟩:=p
 cases bd with
 |true=>
  rw[Bz]
  have hst:none=stepT K.cx s x:=hst
  exact h0 _ _ _ _ _ i (o.gs.w.raise hN) (λid hid=>if_pos hid) (.of_low hN o.low o.seen) (by unfold Gj;rw[<-hst])
 |false=>
 have hst:some (⟨loc,stk⟩:CG)=stepT K.cx s x:=hst
 have hlen:stk.length<=100000:=hb1 rfl
 rw[BZ]
 have hpr:=o.gs.pr
 obtain⟨vs,gsb,sks⟩:=o.gs.ABq
 let W1:Wv:={W with own:=λid=>if id<D.N then W.own id else 0}
 have AKd:∀id,D.N<=id->W1.own id=0:=λid hid=>if_neg (by omega)
 have AN6:∀id,id<D.N->W1.own id=W.own id:=λid hid=>if_pos hid
 have hw1:Qe K W1 H n g false more:=o.gs.w.raise hN
 have svl:Sv G H (λid=>K.kb<id/\id<n/\W1.own id=0) D.lv loc:=(o.lv.mono (B:=λid=>K.kb<id/\id<n/\W1.own id=0) (λid h=>by have:=hpr id h.1;exact⟨by omega,by omega,AKd id (by omega)⟩) λ_ _=>rfl).sv
 have svs:Sv G H (λid=>K.kb<id/\id<n/\W1.own id=0) vs stk.reverse:=(sks.mono (B:=λid=>K.kb<id/\id<n/\W1.own id=0) (λid h=>⟨by omega,by omega,AKd id (by omega)⟩) λ_ _=>rfl).sv
 have toN:∀{H' n'},Kf K W1 n H n H' n'->Kf K W D.N H0 D.N H' n':=λ{H' n'} f=>.of_low (by have:=f.le;omega)
  (λid h1 h2 h3=>by
   rw[f.same id (by omega) h2 (by rcases h3 with h|h;exact .inl h;exact .inr (.inr (by rw[AN6 id h1];exact h)))]
   exact o.low id h1 h2 h3) λhs=>f.seen (o.seen hs)
 have keep:∀{H' n'},Kf K W1 n H n H' n'->∀id,D.Pr id->T.get H' id=T.get H id:=λf id hid=>by
  have:=hpr id hid
  exact f.same id (by omega) (by omega) (.inr (.inr (AKd id (by omega))))
 have hj:jumps x=(decide (c=27)||decide (c=28)):=by
  unfold jumps
  rw[hx.1]
  congr 1<;>(rw[decide_eq_decide];show(c:Int)=_↔_;omega)
 have he:ends x=(decide (c=27)||decide (c=29)):=by
  unfold ends
  rw[hx.1]
  congr 1<;>(rw[decide_eq_decide];show(c:Int)=_↔_;omega)
 have ha:x.arg.toNat=a:=by rw[hx.2];rfl
 have j44:∀{W2:Wv} {H2:Heap} {n2:Nat} {g2:JU} {b m2:Bool},Qe K W2 H2 n2 g2 b m2->(∀id,id<n->W2.own id=W1.own id)->Kf K W1 n H n H2 n2->(ends x=true->k (.Fh []) H2 n2)->
  (ends x=false->∀(W3:Wv) (H3:Heap) (n3:Nat) (g3:JU) (m3:Bool),Qe K W3 H3 n3 g3 true m3->(∀id,id<D.N->W3.own id=W.own id)->Kf K W D.N H0 D.N H3 n3->DK K.fs g2 (i+1) ⟨loc,stk⟩=none->k (.Fh []) H3 n3)->
  (ends x=false->∀(W3:Wv) (H3:Heap) (n3:Nat) (g3:JU) (ch:Bool),DK K.fs g2 (i+1) ⟨loc,stk⟩=some (g3,ch)->Qe K W3 H3 n3 g3 b (m2||ch)->(∀id,id<D.N->W3.own id=W.own id)->Kf K W D.N H0 D.N H3 n3->k (.Fh []) H3 n3)->
  DJ lfp G (Runs F G) k (.int .i64 (.ofNat i) 0) (.ptr D.pb 0) (.ptr D.xb 0) D.lv (.ptr D.sb 0) H2 n2:=by
  intro W2 H2 n2 g2 b m2 hw2 ho2 f2 last e0 e1
  delta DJ
  have hn2:=f2.le
  have gx2:=(keep f2 _ o.px.1).trans o.x
  have gp2:=(keep f2 _ o.gs.pp).trans o.gs.Wl
  have gs2:=(keep f2 _ o.gs.ps).trans gsb
  have hE2:=o.en.bV (f2.kb (by omega))
  have ho:∀id,id<D.N->W2.own id=W.own id:=λid hid=>(ho2 id (by omega)).trans (AN6 id hid)
  have svl2:Sv G H2 (λid=>K.kb<id/\id<n2/\W2.own id=0) D.lv loc:=svl.mono (λid h=>⟨h.1,by omega,(ho2 id h.2.1).trans h.2.2⟩) λid h=>f2.same id h.2.1 (by omega) (.inr (.inr h.2.2))
  have svs2:Sv G H2 (λid=>K.kb<id/\id<n2/\W2.own id=0) vs stk.reverse:=svs.mono (λid h=>⟨h.1,by omega,(ho2 id h.2.1).trans h.2.2⟩) λid h=>f2.same id h.2.1 (by omega) (.inr (.inr h.2.2))
  have next:ends x=false->AL (AY (.ptr D.pb 0) G H2) λv52=>AL (B2.ev .add (.int .i64 (.ofNat i) 0) (.int .i64 (.ofNat 1) 0)) λv53=>AL (AY (.ptr D.sb 0) G H2) λv54=>Runs F G FU [v52,v53,D.lv,v54] H2 n2 λv55 H n=>k (.Fh []) H n:=λe=>by
   rw[AU (off:=0) gp2 (v:=.ptr K.kb 0) rfl,AV,Dl (by omega),AV,AU (off:=0) gs2 (v:=vs) rfl,AV]
   have fin:∀{W3:Wv} {H3:Heap} {n3:Nat},Kf K W2 n2 H2 n2 H3 n3->(∀id,id<n2->W3.own id=W2.own id)->(∀id,id<D.N->W3.own id=W.own id)/\Kf K W D.N H0 D.N H3 n3:=λf3 ho3=>by
    refine⟨λid hid=>(ho3 id (by omega)).trans (ho id hid),.of_low (by have:=f3.le;omega) (λid q1 q2 q3=>?_) λhs=>f3.seen ((toN f2).seen hs)⟩
    rw[f3.same id (by omega) q2 (by rcases q3 with h|h;exact .inl h;exact .inr (.inr (by rw[ho id q1];exact h))),(toN f2).same id q1 q2 (by rcases q3 with h|h;exact .inl h;exact .inr (.inr h))]
   refine AG1 (s:=⟨loc,stk⟩) hG hE2 hw2 svl2 svs2 o.okl o.gs.ok hnl hlen (λW3 H3 n3 g3 m3 f3 hw3 ho3 hc=>?_) λW3 H3 n3 g3 ch hc hw3 ho3 f3=>?_
   ·obtain⟨q1,q2⟩:=fin f3 ho3
    exact e0 e W3 H3 n3 g3 m3 hw3 q1 q2 hc
   ·obtain⟨q1,q2⟩:=fin f3 ho3
    exact e1 e W3 H3 n3 g3 ch hc hw3 q1 q2
  rw[BG,AV,AU (off:=0+0) gx2 (v:=.int .i64 (.ofNat c) 0) rfl,AV,AEh,AV]
  cases h27:decide (c=27)with
  |true=>
   rw[Bool.not_true]
   repeat (first|with_reducible refine APn ?_|with_reducible refine AQW ?_)
   rw[BZ]
   exact last (by rw[he,h27];rfl)
  |false=>
   rw[Bool.not_false]
   simp only[go_sem,Nat.reduceAdd,AU (off:=0) gx2 (v:=.int .i64 (.ofNat c) 0) rfl,AEh]
   cases h29:decide (c=29)with
   |true=>
    rw[Bool.not_true,BZ]
    exact last (by rw[he,h27,h29];rfl)
   |false=>
    rw[Bool.not_false,Bz]
    exact next (by rw[he,h27,h29];rfl)
 have good:∀{W2:Wv} {H2:Heap} {n2:Nat} {g2:JU} {b1:Bool},Qe K W2 H2 n2 g2 false (more||b1)->(∀id,id<n->W2.own id=W1.own id)->Kf K W1 n H n H2 n2->
  (bif jumps x then DK K.fs g x.arg.toNat ⟨loc,stk⟩else some (g,false))=some (g2,b1)->DJ lfp G (Runs F G) k (.int .i64 (.ofNat i) 0) (.ptr D.pb 0) (.ptr D.xb 0) D.lv (.ptr D.sb 0) H2 n2:=by
  intro W2 H2 n2 g2 b1 hw2 ho2 f2 rY
  have ho:∀id,id<D.N->W2.own id=W.own id:=λid hid=>(ho2 id (by omega)).trans (AN6 id hid)
  refine j44 hw2 ho2 f2 (λe=>?_) (λe W3 H3 n3 g3 m3 hw3 q1 q2 hc=>?_) λe W3 H3 n3 g3 ch hc hw3 q1 q2=>?_
  ·refine h1 W2 H2 n2 g2 (bif b1 then[x.arg.toNat]else[]) ?_ ?_ ho (toN f2)
   ·unfold Gj
    rw[<-hst]
    show(match(bif jumps x then DK K.fs g x.arg.toNat ⟨loc,stk⟩else some (g,false))with|none=>_|some (a1,b1)=>_)=_
    rw[rY]
    simp only[e,cond_true]
    rfl
   ·rw[show(more|| !(bif b1 then[x.arg.toNat]else[]).isEmpty)=(more||b1)by cases b1<;>rfl]
    exact hw2
  ·refine h0 W3 H3 n3 g3 m3 (UW K.cx.code.length i (i+1)) hw3 q1 q2 ?_
   unfold Gj
   rw[<-hst]
   show(match(bif jumps x then DK K.fs g x.arg.toNat ⟨loc,stk⟩else some (g,false))with|none=>_|some (a1,b1)=>_)=_
   rw[rY]
   simp only[e,cond_false]
   show(match DK K.fs g2 (i+1) ⟨loc,stk⟩with|none=>_|some (a2,b2)=>_)=_
   rw[hc]
  ·refine h1 W3 H3 n3 g3 ((bif ch then[i+1]else[])++(bif b1 then[x.arg.toNat]else[])) ?_ ?_ q1 q2
   ·unfold Gj
    rw[<-hst]
    show(match(bif jumps x then DK K.fs g x.arg.toNat ⟨loc,stk⟩else some (g,false))with|none=>_|some (a1,b1)=>_)=_
    rw[rY]
    simp only[e,cond_false]
    show(match DK K.fs g2 (i+1) ⟨loc,stk⟩with|none=>_|some (a2,b2)=>_)=_
    rw[hc]
   ·rw[show(more|| !((bif ch then[i+1]else[])++(bif b1 then[x.arg.toNat]else[])).isEmpty)=(more||b1||ch)by cases more<;>cases b1<;>cases ch<;>rfl]
    exact hw3
 have jump:jumps x=true->AL (AY (.ptr D.xb 1) G H) λv65=>AL (AY (.ptr D.sb 0) G H) λv66=>Runs F G FU [.ptr K.kb 0,v65,D.lv,v66] H n λv67 H n=>DJ lfp G (Runs F G) k (.int .i64 (.ofNat i) 0) (.ptr D.pb 0) (.ptr D.xb 0) D.lv (.ptr D.sb 0) H n:=λe=>by
  rw[AU (off:=1) o.x (v:=.int .i64 (.ofNat a) 0) rfl,AV,AU (off:=0) gsb (v:=vs) rfl,AV]
  refine AG1 (s:=⟨loc,stk⟩) hG o.en hw1 svl svs o.okl o.gs.ok hnl hlen (λW3 H3 n3 g3 m3 f3 hw3 ho3 hc=>?_) λW3 H3 n3 g3 ch hc hw3 ho3 f3=>?_
  ·have hwork:Gj K.cx g i x s=.inl (UW K.cx.code.length i x.arg.toNat):=by
    unfold Gj
    rw[<-hst]
    show(match(bif jumps x then DK K.fs g x.arg.toNat ⟨loc,stk⟩else some (g,false))with|none=>_|some (a1,b1)=>_)=_
    rw[e,cond_true,ha,hc]
   have ho:∀id,id<D.N->W3.own id=W.own id:=λid hid=>(ho3 id (by omega)).trans (AN6 id hid)
   exact j44 hw3 ho3 f3 (λ_=>h0 W3 H3 n3 g3 m3 _ hw3 ho (toN f3) hwork) (λ_ W4 H4 n4 g4 m4 hw4 q1 q2 _=>h0 W4 H4 n4 g4 m4 _ hw4 q1 q2 hwork) λ_ W4 H4 n4 g4 ch _ hw4 q1 q2=>h0 W4 H4 n4 g4 _ _ hw4 q1 q2 hwork
  ·exact good hw3 ho3 f3 (by rw[e,cond_true,ha];exact hc)
 have AQM:jumps x=false->DJ lfp G (Runs F G) k (.int .i64 (.ofNat i) 0) (.ptr D.pb 0) (.ptr D.xb 0) D.lv (.ptr D.sb 0) H n:=λe=>
  good (b1:=false) (by rw[show(more||false)=more by cases more<;>rfl];exact hw1) (λ_ _=>rfl) .refl (by rw[e,cond_false])
 rw[BG,AV,AU (off:=0+0) o.x (v:=.int .i64 (.ofNat c) 0) rfl,AV,Fa,AV]
 cases h27:decide (c=27)with
 |true=>
  repeat (first|with_reducible refine ABY ?_|with_reducible refine ABe ?_)
  rw[Bz,AV,BG,AV]
  exact jump (by rw[hj,h27];rfl)
 |false=>
  simp only[go_sem,Nat.reduceAdd,AU (off:=0) o.x (v:=.int .i64 (.ofNat c) 0) rfl,Fa]
  cases h28:decide (c=28)with
  |true=>
   rw[Bz]
   exact jump (by rw[hj,h27,h28];rfl)
  |false=>
   rw[BZ]
   exact AQM (by rw[hj,h27,h28];rfl)
end
def VW(p:mg):Option (List Ty):=bif p.2 then none else some p.1
theorem AJU(fs:Tab)(w:Ty)(p:mg):VW (RX fs w p)=(VW p).bind (EG fs [w]):=by
 obtain⟨s,b⟩:=p
 cases b with
 |true=>cases s<;>rfl
 |false=>
  cases s with
  |nil=>rfl
  |cons t s=>
   show(bif (false|| !fitsT fs t w)then none else some s)=EG fs [w] (t::s)
   unfold EG
   cases fitsT fs t w<;>rfl
theorem kN(mx:Int)(t:Ty)(p:mg):VW (ay mx t p)=(VW p).bind (C9 mx t):=by
 obtain⟨s,b⟩:=p
 cases b with
 |true=>rfl
 |false=>
  show(bif (false||decide (mx<((s.length+1:Nat):Int)))then none else some (t::s))=C9 mx t s
  unfold C9
  by_cases h:mx<((s.length+1:Nat):Int)
  ·rw[decide_eq_true h,decide_eq_false (by omega)];rfl
  ·rw[decide_eq_false h,decide_eq_true (by omega)];rfl
def VX(fs:Tab):List Ty->mg->mg
 |[],p=>p
 |w::ws,p=>VX fs ws (RX fs w p)
theorem wR(fs:Tab):∀(ws:List Ty) (p:mg),VW (VX fs ws p)=(VW p).bind (EG fs ws)
 |[],p=>by
  show VW p=_
  cases VW p<;>rfl
 |w::ws,p=>by
  show VW (VX fs ws (RX fs w p))=_
  rw[wR fs ws,AJU]
  cases VW p with
  |none=>rfl
  |some s=>
   show(EG fs [w] s).bind (EG fs ws)=EG fs ([w]++ws) s
   rw[AA6]
theorem vF(fs:Tab):∀(a b:List Ty) (p:mg),VX fs (a++b) p=VX fs b (VX fs a p)
 |[],_,_=>rfl
 |w::a,b,p=>vF fs a b (RX fs w p)
def stS(loc:List Ty)(q:Option (List Ty)):Option CG:=q.map λk=>⟨loc,k⟩
def ABG(c:Cx)(s:CG)(e:Option (List Ty×Option Ty)):Option CG:=e.bind λe=>(EG c.fs e.1 s.stk).bind λk=>(AEU c.max e.2 k).map λk=>⟨s.loc,k⟩
theorem MX{c:Cx}{s:CG}{ws:List Ty}{t:Ty}:stS s.loc (VW (ay c.max t (VX c.fs ws (s.stk,false))))=ABG c s (some (ws,some t)):=by
 rw[kN,wR]
 show stS s.loc ((EG c.fs ws s.stk).bind (C9 c.max t))=(EG c.fs ws s.stk).bind λk=>(C9 c.max t k).map λk=>(⟨s.loc,k⟩:CG)
 cases EG c.fs ws s.stk<;>rfl
theorem aY{c:Cx}{s:CG}{ws:List Ty}:stS s.loc (VW (VX c.fs ws (s.stk,false)))=ABG c s (some (ws,none)):=by
 rw[wR]
 show stS s.loc (EG c.fs ws s.stk)=(EG c.fs ws s.stk).bind λk=>(some k).map λk=>(⟨s.loc,k⟩:CG)
 cases EG c.fs ws s.stk<;>rfl
structure Gl(K:O6)(W:Wv)(D:Gn)(G:AQ)(H0 H:Heap)(n:Nat)(g:JU)(c a:Nat)(loc:List Ty)(p:mg)(more:Bool):Prop where
 o:Go K W D G H0 H n g c a loc p more
 len:p.1.length<=100000
def Fin(K:O6)(W:Wv)(D:Gn)(G:AQ)(H0:Heap)(g:JU)(c a:Nat)(more:Bool)(k:KV)(i L:Nat)(s:CG):Prop:=
 ∀H' n' loc' p',Go K W D G H0 H' n' g c a loc' p' more->loc'.length=L->stS loc' (VW p')=stepT K.cx s ⟨.ofNat c,.ofNat a⟩->
  Ad lfp G (Runs F G) k (.int .i64 (.ofNat i) 0) (.ptr D.pb 0) (.ptr D.xb 0) D.lv (.ptr D.sb 0) H' n'
def Gt(t:Ty):Prop:=t.nm≠(0,0)/\(t.obj=true∨t=CY∨t=Dh)
section
variable{K:O6}{W:Wv}{D:Gn}{G:AQ}{H0 H H' H'':Heap}{n n' n'' i:Nat}{g:JU}{c a:Nat}{loc:List Ty}{p p':mg}{more:Bool}{k:KV}{s:CG}
theorem Gl.any(o:Gl K W D G H0 H n g c a loc p more)(hk:∀H' n',Gl K W D G H0 H' n' g c a loc (I5 p).2 more->Kg K W D.N D.Pr D.sb H n H' n'->k (I5 p).1.v H' n'):BQ (kM D) [] (Runs F G) H n k:=
 o.o.any (by have:=o.len;omega) λH' n' o' kg=>hk H' n' ⟨o',Nat.le_trans (AHg p) o.len⟩ kg
theorem Gl.take{t:Ty}(o:Gl K W D G H0 H n g c a loc p more)(ht:t.nm.ok)(hk:∀H' n',Gl K W D G H0 H' n' g c a loc (RX K.fs t p) more->Kg K W D.N D.Pr D.sb H n H' n'->k (.Fh []) H' n'):BQ (Lh D) [t.v] (Runs F G) H n k:=
 o.o.take (by have:=o.len;omega) ht λH' n' o' kg=>hk H' n' ⟨o',Nat.le_trans (AHg p) o.len⟩ kg
theorem Gl.give{t:Ty}(o:Gl K W D G H0 H n g c a loc p more)(ht:t.nm.ok)(hk:∀H' n',Go K W D G H0 H' n' g c a loc (ay K.mx t p) more->Kg K W D.N D.Pr D.sb H n H' n'->k (.Fh []) H' n'):BQ (Ep D) [t.v] (Runs F G) H n k:=
 o.o.give (by have:=o.len;omega) ht hk
theorem Gl.arr(o:Gl K W D G H0 H n g c a loc p more)(hi:a<K.pool.types.length)(hk:∀H' n',Gl K W D G H0 H' n' g c a loc (p.1,p.2|| !(K.cx.ty (.ofNat a)).arr) more->Kg K W D.N D.Pr D.sb H n H' n'->k (K.cx.ty (.ofNat a)).v H' n'):BQ (tJ D) [] (Runs F G) H n k:=
 o.o.arr hi λH' n' o' kg=>hk H' n' ⟨o',o.len⟩ kg
theorem Gl.kb(o:Gl K W D G H0 H n g c a loc p more)(f:Kb K.b H n H' n'):Gl K W D G H0 H' n' g c a loc p more:=by
 obtain⟨h,kg⟩:=o.o.gs.kb o.o.en.img.tab.bn f
 exact⟨o.o.step h kg,o.len⟩
theorem Gl.kp(o:Gl K W D G H0 H n g c a loc p more)(f:Kp H n H' n'):Gl K W D G H0 H' n' g c a loc p more:=
 o.kb (f.kb (b:=K.b) (by have:=o.o.en.img.tab.bn;have:=o.o.gs.w.kn;have:=o.o.gs.hN;omega))
theorem APG(o:Gl K W D G H0 H n g c a s.loc (s.stk,false) more)(hc:5<=c/\c<=9)(f:Fin K W D G H0 g c a more k i s.loc.length s){v:V}:
 BD lfp G (Runs F G) k (.int .i64 (.ofNat i) 0) (.ptr D.pb 0) (.ptr D.xb 0) D.lv (.ptr D.sb 0) (.ptr D.ab 0) (Lh D) (Ep D) (.ptr D.nb 0) (.ptr D.yb 0) (tJ D) v (.bool true) H n:=by
 delta BD
 rw[Bz,Aj o.o.num,AV]
 refine o.take FN λH1 n1 o _=>?_
 rw[Aj o.o.num,AV]
 refine o.take FN λH2 n2 o _=>?_
 rw[Aj o.o.num,AV]
 refine o.give FN λH3 n3 o _=>f _ _ _ _ o rfl ?_
 have e:=MX (c:=K.cx) (s:=s) (ws:=[CY,CY]) (t:=CY)
 obtain rfl|rfl|rfl|rfl|rfl:c=5∨c=6∨c=7∨c=8∨c=9:=by omega
 all_goals exact e
theorem AQX(o:Gl K W D G H0 H n g c a s.loc (s.stk,false) more)(hc:c=10∨c=11)(f:Fin K W D G H0 g c a more k i s.loc.length s){v:V}:
 DR lfp G (Runs F G) k (.int .i64 (.ofNat i) 0) (.ptr D.pb 0) (.ptr D.xb 0) D.lv (.ptr D.sb 0) (.ptr D.ab 0) (Lh D) (Ep D) (.ptr D.nb 0) (.ptr D.yb 0) (tJ D) v (.bool true) H n:=by
 delta DR
 rw[Bz,Aj o.o.num,AV]
 refine o.take FN λH1 n1 o _=>?_
 rw[Aj o.o.num,AV]
 refine o.take FN λH2 n2 o _=>?_
 rw[Aj o.o.yes,AV]
 refine o.give J7 λH3 n3 o _=>f _ _ _ _ o rfl ?_
 have e:=MX (c:=K.cx) (s:=s) (ws:=[CY,CY]) (t:=Dh)
 obtain rfl|rfl:=hc
 all_goals exact e
end
abbrev Gn.more(D:Gn)(x:Nat):Gn:={D with Pr:=λid=>D.Pr id∨id=x}
section
variable{K:O6}{W:Wv}{D:Gn}{G:AQ}{H0 H H' H'':Heap}{n n' n'' i x:Nat}{g:JU}{c a:Nat}{loc loc':List Ty}{p p':mg}{more:Bool}{k:KV}{s:CG}
theorem Go.box(o:Go K W D G H0 H n g c a loc p more)(f:Kp H n H' (n+1)):Go K W (D.more n) G H0 H' (n+1) g c a loc p more:=by
 obtain⟨h,kg⟩:=o.gs.box o.en.img.tab.bn f
 have kn:=o.gs.w.kn
 exact⟨h,o.en.bV (kg.kb (by omega)),(kg.pr _ o.px.1 o.px.2).trans o.x,(kg.pr _ o.pa.1 o.pa.2).trans o.a,(kg.pr _ o.pn.1 o.pn.2).trans o.num,(kg.pr _ o.py.1 o.py.2).trans o.yes,⟨.inl o.px.1,o.px.2⟩,⟨.inl o.pa.1,o.pa.2⟩,⟨.inl o.pn.1,o.pn.2⟩,⟨.inl o.py.1,o.py.2⟩,
  o.lv.mono (λid h=>⟨.inl h.1,h.2⟩) λid h=>kg.pr id h.1 h.2.1,o.okl,λid h1 h2 h3=>(kg.low id h1 h2 h3).trans (o.low id h1 h2 h3),λhs=>kg.seen (o.seen hs)⟩
theorem Go.weak(o0:Go K W D G H0 H n g c a loc p more)(o:Go K W (D.more x) G H0 H' n' g c a loc' p' more):Go K W D G H0 H' n' g c a loc' p' more:=
 ⟨o.gs.weak (λ_ h=>.inl h) o0.gs.pp o0.gs.ps,o.en,o.x,o.a,o.num,o.yes,o0.px,o0.pa,o0.pn,o0.py,o.lv.su (λid hid=>o0.lv.own hid) λ_ _=>rfl,o.okl,o.low,o.seen⟩
theorem Gl.box(o:Gl K W D G H0 H n g c a loc p more)(f:Kp H n H' (n+1)):Gl K W (D.more n) G H0 H' (n+1) g c a loc p more:=⟨o.o.box f,o.len⟩
theorem Gl.lay{t:Ty}{P:V->KV}(o:Gl K W D G H0 H n g c a loc p more)(hk:∀H',Gl K W (D.more n) G H0 H' (n+1) g c a loc p more->T.get H' n=some (one t.cells)->Kp H n H' (n+1)->P (.ptr n 0) .undef H' (n+1)):
 Bo (Am 2 [[.str 0 0,.bool false]] E0) H n λv H n=>Bg 2 v t.v H n (P v):=by
 refine EJ rfl λH1 f1 g1=>?_
 show Bg 2 (.ptr n 0) (.agg t.cells) _ _ _
 rw[ED (m:=2) g1 (by omega) rfl rfl]
 have f:Kp H n (T.set H1 n (one t.cells)) (n+1):=⟨by omega,λid hid=>by rw[T.Ac _ _ (by omega),f1.same _ hid]⟩
 exact hk _ (o.box f) (T.Ag ..) f
theorem Go.AVB{P:Heap->Nat->Prop}(o:Go K W D G H0 H n g c a loc p more)(hk:∀H',Go K W D G H0 H' n g c a loc (p.1,true) more->Kg K W D.N D.Pr D.sb H n H' n->P H' n):
 AL (AY (.ptr D.pb 0) G H) λv=>AL (Ah v) λw=>AL (AP 20 w) λu=>Bg 1 u (.bool true) H n λ_ H n=>P H n:=by
 rw[AU (off:=0) o.gs.Wl (v:=.ptr K.kb 0) rfl,AV,EM,AV,BG,AV]
 exact o.bad λH' o' kg=>hk H' o' kg
theorem Gl.tst{b:Bool}{P:Heap->Nat->Prop}(o:Gl K W D G H0 H n g c a loc p more)(hk:∀H',Gl K W D G H0 H' n g c a loc (p.1,p.2||b) more->Kg K W D.N D.Pr D.sb H n H' n->P H' n):
 AZ (.bool b) true (AL (AY (.ptr D.pb 0) G H) λv=>AL (Ah v) λw=>AL (AP 20 w) λu=>Bg 1 u (.bool true) H n λ_ H n=>P H n) (P H n):=by
 cases b with
 |true=>
  rw[Bz]
  exact o.o.AVB λH' o' kg=>hk H' ⟨by rw[show(p.2||true)=true by cases p.2<;>rfl];exact o',o.len⟩ kg
 |false=>
  rw[BZ]
  exact hk H (by rw[show(p.2||false)=p.2 by cases p.2<;>rfl];exact o) .refl
theorem AUe(D:Gn)(x:Nat):kM (D.more x)=kM D:=rfl
theorem AKn{t:Ty}(h:Gt t):(!t.obj)=(t.is CY||t.is Dh):=by
 rcases h.2 with h|rfl|rfl
 ·rw[h]
  have e:∀u:Ty,u.obj=false->t.is u=false:=λu hu=>by
   rw[Bool.eq_false_iff]
   intro e
   rw[Ty.QX]at e
   subst e
   rw[h]at hu;cases hu
  rw[e CY rfl,e Dh rfl];rfl
 ·rfl
 ·rfl
theorem same_eq{s:CG}{cx:Cx}{c a:Nat}(hg:∀t∈s.stk,Gt t)(hc:c=12∨c=13){b:Bool}
 (hb:b=bif decide (c=12)then(!(I5 (s.stk,false)).1.is (I5 (I5 (s.stk,false)).2).1||(!(I5 (s.stk,false)).1.is CY&& !(I5 (s.stk,false)).1.is Dh))else(!(I5 (s.stk,false)).1.obj|| !(I5 (I5 (s.stk,false)).2).1.obj)):
 stS s.loc (VW (ay cx.max Dh ((I5 (I5 (s.stk,false)).2).2.1,(I5 (I5 (s.stk,false)).2).2.2||b)))=stepT cx s ⟨.ofNat c,.ofNat a⟩:=by
 rw[kN]
 obtain⟨loc,stk⟩:=s
 cases stk with
 |nil=>rcases hc with rfl|rfl<;>rfl
 |cons x r=>
  cases r with
  |nil=>rcases hc with rfl|rfl<;>rfl
  |cons y r=>
   have hb:b=bif decide (c=12)then(!x.is y||(!x.is CY&& !x.is Dh))else(!x.obj|| !y.obj):=hb
   have hx:=AKn (hg x (List.mem_cons_self ..))
   show stS loc ((VW (r,false||b)).bind (C9 cx.max Dh))=_
   rcases hc with rfl|rfl
   ·have e:stepT cx ⟨loc,x::y::r⟩ ⟨.ofNat 12,.ofNat a⟩=bif x.is y&& !x.obj then(C9 cx.max Dh r).map λk=>⟨loc,k⟩else none:=rfl
    rw[e,hx,hb]
    show stS loc ((VW (r,false||(!x.is y||(!x.is CY&& !x.is Dh)))).bind _)=_
    cases x.is y<;>cases x.is CY<;>cases x.is Dh<;>rfl
   ·have e:stepT cx ⟨loc,x::y::r⟩ ⟨.ofNat 13,.ofNat a⟩=bif x.obj&&y.obj then(C9 cx.max Dh r).map λk=>⟨loc,k⟩else none:=rfl
    rw[e,hb]
    show stS loc ((VW (r,false||(!x.obj|| !y.obj))).bind _)=_
    cases x.obj<;>cases y.obj<;>rfl
theorem APB(o:Gl K W D G H0 H n g c a s.loc (s.stk,false) more)(hc:c=12∨c=13)(hgood:∀t∈s.stk,Gt t)(f:Fin K W D G H0 g c a more k i s.loc.length s){v:V}:
 Ce lfp G (Runs F G) k (.int .i64 (.ofNat i) 0) (.ptr D.pb 0) (.ptr D.xb 0) D.lv (.ptr D.sb 0) (.ptr D.ab 0) (Lh D) (Ep D) (.ptr D.nb 0) (.ptr D.yb 0) (tJ D) v (.bool true) H n:=by
 delta Ce
 have o0:=o.o
 have hok:=o.o.gs.ok
 have key:=same_eq (cx:=K.cx) (a:=a) hgood hc rfl
 obtain⟨hok1,hok1'⟩:=any_ok (b:=false) hok
 obtain⟨hok2,hok2'⟩:=any_ok (b:=(I5 (s.stk,false)).2.2) hok1'
 rw[Bz,AU (off:=0) o.o.a (v:=kM D) rfl,AV]
 refine o.any λH1 n1 o _=>?_
 have oD:=o.o
 refine o.lay λH2 o g2 _=>?_
 have oE:=o.o
 have hsb:n1≠D.sb:=by have:=(oD.gs.pr _ oD.gs.ps).2;omega
 rw[AU (off:=0) o.o.a (v:=kM D) rfl,AV,<-AUe D n1]
 refine o.any λH3 n3 o kg3=>?_
 have hn3:=kg3.le
 have g3:=(kg3.pr n1 (.inr rfl) hsb).trans g2
 refine o.lay λH4 o g4 f4=>?_
 have g3:=(f4.same n1 (by omega)).trans g3
 have gx:T.get H4 D.xb=_:=o.o.x
 generalize(I5 (s.stk,false)).1=ta at*
 generalize(I5 (I5 (s.stk,false)).2).1=tb at*
 have fin:∀{b:Bool} {H' n'},Gl K W ((D.more n1).more n3) G H0 H' n' g c a s.loc (I5 (I5 (s.stk,false)).2).2 more->b=(bif decide (c=12)then(!ta.is tb||(!ta.is CY&& !ta.is Dh))else(!ta.obj|| !tb.obj))->
  AZ (.bool b) true (AL (AY (.ptr D.pb 0) G H') λv=>AL (Ah v) λw=>AL (AP 20 w) λu=>Bg 1 u (.bool true) H' n' λ_ H n=>DX lfp G (Runs F G) k (.int .i64 (.ofNat i) 0) (.ptr D.pb 0) (.ptr D.xb 0) D.lv (.ptr D.sb 0) (Ep D) (.ptr D.yb 0) H n)
   (DX lfp G (Runs F G) k (.int .i64 (.ofNat i) 0) (.ptr D.pb 0) (.ptr D.xb 0) D.lv (.ptr D.sb 0) (Ep D) (.ptr D.yb 0) H' n'):=by
  rintro b H' n' o hb
  refine o.tst (P:=λH n=>DX lfp G (Runs F G) k (.int .i64 (.ofNat i) 0) (.ptr D.pb 0) (.ptr D.xb 0) D.lv (.ptr D.sb 0) (Ep D) (.ptr D.yb 0) H n) λH5 o _=>?_
  delta DX
  rw[Aj o.o.yes,AV]
  refine o.give (D:=(D.more n1).more n3) J7 λH6 n6 o _=>f _ _ _ _ (o0.weak (oE.weak o)) rfl ?_
  rw[hb];exact key
 rw[BG,AV,AU (off:=0+0) gx (v:=.int .i64 (.ofNat c) 0) rfl,AV,Fa,AV]
 have gn:=Aj (G:=G) o.o.num
 have gy:=Aj (G:=G) o.o.yes
 have gA:=Aj (G:=G) g3
 have gB:=Aj (G:=G) g4
 rcases hc with rfl|rfl
 ·rw[show decide (12=12)=true from rfl]at fin⊢
  simp only[go_sem,gA,gB,fQ]
  cases h1:ta.is tb with
  |false=>
   rw[h1]at fin
   simp only[Bool.not_false,go_sem]
   exact fin o rfl
  |true=>
   rw[h1]at fin
   simp only[Bool.not_true,go_sem,gA,gn,fQ]
   cases h2:ta.is CY with
   |true=>
    rw[h2]at fin
    simp only[Bool.not_true,go_sem,Nat.reduceAdd,AU (off:=0) gx (v:=.int .i64 (.ofNat 12) 0) rfl,Fa,show decide (12=13)=false from rfl]
    exact fin o rfl
   |false=>
    rw[h2]at fin
    simp only[Bool.not_false,go_sem,gA,gy,fQ]
    cases h3:ta.is Dh with
    |true=>
     rw[h3]at fin
     simp only[Bool.not_true,go_sem,Nat.reduceAdd,AU (off:=0) gx (v:=.int .i64 (.ofNat 12) 0) rfl,Fa,show decide (12=13)=false from rfl]
     exact fin o rfl
    |false=>
     rw[h3]at fin
     simp only[Bool.not_false,go_sem]
     exact fin o rfl
 ·rw[show decide (13=12)=false from rfl]at fin⊢
  simp only[go_sem,Nat.reduceAdd,AU (off:=0) gx (v:=.int .i64 (.ofNat 13) 0) rfl,Fa,show decide (13=13)=true from rfl,gA]
  refine Vx hok1 λH5 n5 f5=>?_
  have o5:=o.kp f5
  have g45:=f5.get g4 (by omega)
  cases h1:ta.obj with
  |false=>
   rw[h1]at fin
   simp only[BL,Bool.not_false,go_sem]
   exact fin o5 rfl
  |true=>
   rw[h1]at fin
   simp only[BL,Bool.not_true,go_sem,Aj g45]
   refine Vx hok2 λH6 n6 f6=>?_
   simp only[BL,go_sem]
   exact fin (o5.kp f6) rfl
end
end Go.RL
