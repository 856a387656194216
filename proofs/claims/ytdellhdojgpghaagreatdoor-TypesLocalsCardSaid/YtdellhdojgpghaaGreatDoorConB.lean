/- Part of a proof; nothing is assumed. -/
import Derived.Test.YtdellhdojgpghaaGreatDoorConA
import Derived.Test.YtdellhdojgpghaaGreatDoorWalk
import Derived.Test.YtdellhdojgpghaaGreatDoorEngE
set_option linter.unusedVariables false
set_option linter.unusedSimpArgs false
namespace Go.RL
open Go.Bj
set_option maxRecDepth 100000
def DR(fs:Tab)(t:Ty):Bool:=AOR t.nm&&(!upper t.nm.1 t.nm.2||(JV fs t.nm).isSome)
theorem kK{G:AV}{H:Heap}{n t a b:Nat}{fs:Tab}(h:TabAt G H n t a b fs){v:V}{xs:List Ty}(hx:Y8 G H n v xs){k:KV}
 (hk:∀H' n',Kb b H n H' n'->k (.bool (xs.all (DR fs))) H' n'):Runs F G DF [.ptr t 0,v] H n k:=by
 refine go2 (wK Aq G) ?_
 delta Zp
 have hbn:=h.bn
 have hbig:=hx.lt
 rw[hx.len,AU]
 refine CG (N:=xs.length) (J:=λi st=>∃H' n',st=(.ptr t 0,v,.int .i64 (.ofNat xs.length) 0,.int .i64 (.ofNat i) 0,H',n')/\Kb b H n H' n'/\
  (∀H' n',Kb b H n H' n'->k (.bool ((xs.drop i).all (DR fs))) H' n')) ?_ ?_ ⟨H,n,rfl,Kb.refl _ _ _,hk⟩
 ·rintro I i st hlt ⟨H3,n3,rfl,f3,hk⟩ ih
  show Ig lfp G (Runs F G) k I (.ptr t 0) v (.int .i64 (.ofNat xs.length) 0) (.int .i64 (.ofNat i) 0) H3 n3
  delta Ig
  have h3:=h.kb f3
  have hx3:=hx.ke (f3.ke h.seen)
  obtain⟨q,hp,hld⟩:=hx3.el.at (AJT hlt)
  have hok:=hx.ok _ (List.getElem_mem hlt)
  rw[List.drop_eq_getElem_cons hlt,List.all_cons]at hk
  generalize xs[i]=m at hok hld hk
  unfold Ty.cells at hld
  unfold DR at hk
  have h3n:=f3.le
  simp only[go_sem,FP,hlt,decide_true,hp,EM hld,Nat.reduceAdd]
  rw[T.set_set]
  refine run_set λH4 f4 g4=>?_
  have f5:=f3.trans (f4.kb (b:=b) (by omega))
  refine AY7 hok λH6 n6 f6=>?_
  have f7:=f5.trans (f6.kb (b:=b) (by omega))
  have g6:=f6.get g4 (by omega)
  have h6n:=f6.le
  simp only[Du,go_sem]
  cases h1:AOR m.nm with
  |false=>
   rw[show AH5 m.nm.1 m.nm.2=false from h1]
   simp only[h1,Bool.false_and]at hk
   simp only[Bool.not_false,go_sem]
   exact hk _ _ f7
  |true=>
   rw[show AH5 m.nm.1 m.nm.2=true from h1]
   simp only[h1,Bool.true_and]at hk
   simp only[Bool.not_true,go_sem,Nat.reduceAdd,AX (off:=0) g6 (v:=m.nm.v) rfl]
   refine AXK λH8 n8 f8=>?_
   refine ABM hok λH9 n9 f9=>?_
   have f10:=f7.trans ((f8.trans f9).kb (b:=b) (by omega))
   have g9:=(f8.trans f9).get g6 (by omega)
   have h9n:=(f8.trans f9).le
   rw[show isClass m.nm.1 m.nm.2 false=upper m.nm.1 m.nm.2 by simp[isClass]]
   have go:∀H' n',Kb b H n H' n'->(∀H' n',Kb b H n H' n'->k (.bool ((xs.drop (i+1)).all (DR fs))) H' n')->Ic lfp G (Runs F G) k I (.ptr t 0) v (.int .i64 (.ofNat xs.length) 0) (.int .i64 (.ofNat i) 0) H' n':=by
    intro H' n' f hk
    delta Ic
    simp only[go_sem,GV (show i+1<9223372036854775808 by unfold big at hbig;omega)]
    exact ih _ ⟨_,_,rfl,f,hk⟩
   cases h2:upper m.nm.1 m.nm.2 with
   |false=>
    simp only[h2,Bool.not_false,Bool.true_or,Bool.true_and]at hk
    simp only[go_sem]
    exact go _ _ f10 hk
   |true=>
    simp only[h2,Bool.not_true,Bool.false_or]at hk
    simp only[go_sem,Nat.reduceAdd,AX (off:=0) g9 (v:=m.nm.v) rfl]
    refine rZ (s:=m.nm) (h.kb f10) (Nat.le_refl _) λH11 n11 w f11 hw=>?_
    obtain⟨vf,vm,ws,hw,rfl⟩:=hw
    have f12:=f10.trans f11
    have h12n:=f12.le
    simp only[go_sem,Nat.reduceAdd,Du]
    rw[T.set_set]
    have f13:Kp H11 n11 (T.set H11 n11 (one [((JV fs m.nm).getD GU).nm.v,((JV fs m.nm).getD GU).sup.v,vf,vm])) (n11+1):=(Kp.refl _ _).new _ (Nat.le_refl _) (by omega)
    have f14:=f12.trans (f13.kb (b:=b) (by omega))
    cases h3:(JV fs m.nm).isSome with
    |false=>
     simp only[h3,Bool.false_and]at hk
     simp only[Bool.not_false,go_sem]
     exact hk _ _ f14
    |true=>
     simp only[h3,Bool.true_and]at hk
     simp only[Bool.not_true,go_sem]
     exact go _ _ f14 hk
 ·rintro I st ⟨H3,n3,rfl,f3,hk⟩
  show Ig lfp G (Runs F G) k I (.ptr t 0) v (.int .i64 (.ofNat xs.length) 0) (.int .i64 (.ofNat xs.length) 0) H3 n3
  delta Ig
  rw[List.drop_eq_nil_of_le (Nat.le_refl _)]at hk
  simp only[go_sem,FP,Nat.lt_irrefl,decide_false]
  delta QB
  exact hk _ _ f3
def ADm(fs:Tab)(s:St):List St->Option (St×Ty)
 |[]=>none
 |c::cs=>match AD2 s ((JV fs c).getD GU).fs with
  |some t=>some (c,t)
  |none=>ADm fs s cs
def ACO(fs:Tab)(c s:St):Option (St×Ty):=ADm fs s (above fs c).1
theorem AOy{G:AV}{H:Heap}{n t a b:Nat}{fs:Tab}(h:TabAt G H n t a b fs)(hfs:fs.length<=1000){c s:St}{k:KV}
 (hk:∀H' n',Kb b H n H' n'->k (.EI [((ACO fs c s).getD ((0,0),fK)).1.v,((ACO fs c s).getD ((0,0),fK)).2.v,.bool (ACO fs c s).isSome]) H' n'):Runs F G TI [.ptr t 0,c.v,s.v] H n k:=by
 refine go3 (wz Aq G) ?_
 delta Zi
 have hbn:=h.bn
 unfold ACO at hk
 refine Ar rfl λH1 f1 g1=>?_
 have f1:=f1.kb (b:=b) hbn
 refine ABl (h.kb f1) hfs λH2 n2 v f2 ho hlen=>?_
 generalize(above fs c).1=cs at ho hk hlen
 have f3:=f1.trans f2
 have g2:=f2.get g1 (by omega) (by omega)
 have h2n:=f2.le
 simp only[go_sem,(ho.el (by omega)).len,iL]
 refine CG (N:=cs.length) (J:=λi st=>∃H' n',st=(.ptr t 0,s.v,.ptr n 0,v,.int .i64 (.ofNat cs.length) 0,.int .i64 (.ofNat i) 0,H',n')/\Kb b H n H' n'/\n<n'/\Own G H' (n+1) n' 1 v (strs cs)/\T.get H' n=some (one [.str 0 0,.bool false])/\
  (∀H' n',Kb b H n H' n'->k (.EI [((ADm fs s (cs.drop i)).getD ((0,0),fK)).1.v,((ADm fs s (cs.drop i)).getD ((0,0),fK)).2.v,.bool (ADm fs s (cs.drop i)).isSome]) H' n')) ?_ ?_ ⟨H2,n2,rfl,f3,by omega,ho,g2,hk⟩
 ·rintro I i st hlt ⟨H3,n3,rfl,f3,hn3,ho,g3,hk⟩ ih
  show Ik lfp G (Runs F G) k I (.ptr t 0) s.v (.ptr n 0) v (.int .i64 (.ofNat cs.length) 0) (.int .i64 (.ofNat i) 0) H3 n3
  delta Ik
  obtain⟨q,hp,hld⟩:=(ho.el (by omega)).at (ABy hlt)
  rw[List.drop_eq_getElem_cons hlt]at hk
  unfold ADm at hk
  generalize cs[i]=m at hld hk
  simp only[go_sem,FP,hlt,decide_true,hp,Zz hld]
  refine rZ (s:=m) (h.kb f3) (Nat.le_refl _) λH4 n4 w f4 hw=>?_
  obtain⟨vf,vm,ws,hw,rfl⟩:=hw
  have f5:=f3.trans f4
  have h5n:=f4.le
  simp only[go_sem,Nat.reduceAdd]
  rw[T.set_set]
  refine run_set λH6 f6 g6=>?_
  have f6':=f6.kb (b:=b) (by omega)
  have f7:=f5.trans f6'
  refine AKh (s:=s) (n:=n4+1) (v:=.agg [((JV fs m).getD GU).nm.v,((JV fs m).getD GU).sup.v,vf,vm]) (c:=(JV fs m).getD GU) ⟨vf,vm,ws,hw.ke ⟨by omega,λv z LS hl he=>(f6.ke).el v z LS (hl.mono f4.le) he⟩,rfl⟩ λH8 n8 f8=>?_
  have f8':=f8.kb (b:=b) (by omega)
  have f9:=f7.trans f8'
  have h9n:=f8.le
  have f10:=f4.trans (f6'.trans f8')
  have ho:=ho.kb f10 (by omega)
  have g10:=f10.get g3 hn3 (by omega)
  unfold Ty.v Ty.cells
  simp only[go_sem,Nat.reduceAdd]
  rw[T.set_set]
  cases h1:AD2 s ((JV fs m).getD GU).fs with
  |some ty=>
   rw[h1]at hk
   simp only[Option.isSome_some,go_sem,Option.getD_some]
   rw[IY (m:=2) ((T.Ad _ _ (by omega)).trans g10) (by omega) rfl rfl]
   rw[BU (m:=2) (T.Au ..) (by omega) rfl]
   simp only[go_sem]
   refine hk _ _ (f9.trans' (m:=n8+1) (λid hid=>?_) (by omega) hbn)
   rw[T.Ad _ _ (by omega),T.Ad _ _ (by omega)]
  |none=>
   rw[h1]at hk
   simp only[Option.isSome_none,go_sem,Option.getD_none]
   simp only[go_sem,GV (show i+1<9223372036854775808 by omega)]
   refine ih _ ⟨_,_,rfl,f9.trans' (m:=n8+1) (λid hid=>?_) (by omega) hbn,by omega,ho.kp ((Kp.refl _ _).new _ (Nat.le_refl _) (by omega)),(T.Ad _ _ (by omega)).trans g10,hk⟩
   rw[T.Ad _ _ (by omega)]
 ·rintro I st ⟨H3,n3,rfl,f3,hn3,ho,g3,hk⟩
  show Ik lfp G (Runs F G) k I (.ptr t 0) s.v (.ptr n 0) v (.int .i64 (.ofNat cs.length) 0) (.int .i64 (.ofNat cs.length) 0) H3 n3
  delta Ik
  rw[List.drop_eq_nil_of_le (Nat.le_refl _)]at hk
  simp only[go_sem,FP,Nat.lt_irrefl,decide_false]
  delta P7
  simp only[rQ,AU]
  rw[IY (m:=2) g3 (by omega) rfl rfl,AED,BU (m:=2) (T.Au ..) (by omega) rfl]
  simp only[go_sem]
  refine hk _ _ (f3.trans' (m:=n3) (λid hid=>?_) (by omega) hbn)
  rw[T.Ad _ _ (by omega)]
def AHS(st:Bool)(s:St)(ms:List FN):Option FN:=match WC s ms with
 |some m=>bif m.st==st then some m else none
 |none=>none
def Pm(fs:Tab)(s:St)(st:Bool):List St->Option (St×FN)
 |[]=>none
 |c::cs=>match AHS st s ((JV fs c).getD GU).ms with
  |some m=>some (c,m)
  |none=>Pm fs s st cs
def Xr(fs:Tab)(c s:St)(st:Bool):Option (St×FN):=Pm fs s st (above fs c).1
theorem AEg{G:AV}{H:Heap}{n t a b:Nat}{fs:Tab}(h:TabAt G H n t a b fs)(hfs:fs.length<=1000){c s:St}{st:Bool}{k:KV}
 (hk:∀H' n' w,Kb b H n H' n'->uG G H' n w ((Xr fs c s st).getD ((0,0),WR)).2->k (.EI [((Xr fs c s st).getD ((0,0),WR)).1.v,w,.bool (Xr fs c s st).isSome]) H' n'):
 Runs F G Nv [.ptr t 0,c.v,s.v,.bool st] H n k:=by
 refine go4 (XF Aq G) ?_
 delta Rq
 have hbn:=h.bn
 unfold Xr at hk
 refine Ar rfl λH1 f1 g1=>?_
 have f1:=f1.kb (b:=b) hbn
 refine ABl (h.kb f1) hfs λH2 n2 v f2 ho hlen=>?_
 generalize(above fs c).1=cs at ho hk hlen
 have f3:=f1.trans f2
 have g2:=f2.get g1 (by omega) (by omega)
 have h2n:=f2.le
 simp only[go_sem,(ho.el (by omega)).len,iL]
 refine CG (N:=cs.length) (J:=λi q=>∃H' n',q=(.ptr t 0,s.v,.bool st,.ptr n 0,v,.int .i64 (.ofNat cs.length) 0,.int .i64 (.ofNat i) 0,H',n')/\Kb b H n H' n'/\n<n'/\Own G H' (n+1) n' 1 v (strs cs)/\T.get H' n=some (one (WR.cells .Af))/\
  (∀H' n' w,Kb b H n H' n'->uG G H' n w ((Pm fs s st (cs.drop i)).getD ((0,0),WR)).2->k (.EI [((Pm fs s st (cs.drop i)).getD ((0,0),WR)).1.v,w,.bool (Pm fs s st (cs.drop i)).isSome]) H' n')) ?_ ?_ ⟨H2,n2,rfl,f3,by omega,ho,g2,hk⟩
 ·rintro I i q hlt ⟨H3,n3,rfl,f3,hn3,ho,g3,hk⟩ ih
  show DV lfp G (Runs F G) k I (.ptr t 0) s.v (.bool st) (.ptr n 0) v (.int .i64 (.ofNat cs.length) 0) (.int .i64 (.ofNat i) 0) H3 n3
  delta DV
  obtain⟨q,hp,hld⟩:=(ho.el (by omega)).at (ABy hlt)
  rw[List.drop_eq_getElem_cons hlt]at hk
  unfold Pm at hk
  generalize cs[i]=m at hld hk
  simp only[go_sem,FP,hlt,decide_true,hp,Zz hld]
  refine rZ (s:=m) (n0:=n) (h.kb (f3.low (Nat.le_refl _))) (by omega) λH4 n4 w f4 hw=>?_
  obtain⟨vf,vm,ws,hw,rfl⟩:=hw
  have f5:=f3.trans f4
  have h5n:=f4.le
  simp only[go_sem,Nat.reduceAdd]
  rw[T.set_set]
  refine run_set λH6 f6 g6=>?_
  have f6':=f6.kb (b:=b) (by omega)
  have f7:=f5.trans f6'
  refine ABq (s:=s) (n:=n4+1) (n0:=n) (v:=.agg [((JV fs m).getD GU).nm.v,((JV fs m).getD GU).sup.v,vf,vm]) (c:=(JV fs m).getD GU) ⟨vf,vm,ws,hw.ke ((f6.ke).low (by omega)),rfl⟩ (by omega) λH8 n8 w f8 hw=>?_
  have f8':=f8.kb (b:=b) (by omega)
  have f9:=f7.trans f8'
  have h9n:=f8.le
  have f10:=f4.trans (f6'.trans f8')
  have ho:=ho.kb f10 (by omega)
  have g10:=f10.get g3 hn3 (by omega)
  obtain⟨x,rfl,hx⟩:=hw
  unfold AHS at hk
  have g11:T.get (T.set H8 n8 (one (((WC s ((JV fs m).getD GU).ms).getD WR).cells x))) n8=_:=T.Au ..
  have g12:T.get (T.set H8 n8 (one (((WC s ((JV fs m).getD GU).ms).getD WR).cells x))) n=_:=(T.Ad _ _ (by omega)).trans g10
  unfold FN.cells at g11 g12⊢
  simp only[go_sem,Nat.reduceAdd]
  rw[T.set_set]
  have no:(∀H' n' w,Kb b H n H' n'->uG G H' n w ((Pm fs s st (cs.drop (i+1))).getD ((0,0),WR)).2->k (.EI [((Pm fs s st (cs.drop (i+1))).getD ((0,0),WR)).1.v,w,.bool (Pm fs s st (cs.drop (i+1))).isSome]) H' n')->
   I (.ptr t 0,s.v,.bool st,.ptr n 0,v,.int .i64 (.ofNat cs.length) 0,.int .i64 (.ofNat (i+1)) 0,T.set H8 n8 (one (((WC s ((JV fs m).getD GU).ms).getD WR).cells x)),n8+1):=λhk=>by
   refine ih _ ⟨_,_,rfl,f9.trans' (m:=n8+1) (λid hid=>T.Ad _ _ (by omega)) (by omega) hbn,by omega,ho.kp ((Kp.refl _ _).new _ (Nat.le_refl _) (by omega)),(T.Ad _ _ (by omega)).trans g10,hk⟩
  unfold FN.cells at no
  cases h1:WC s ((JV fs m).getD GU).ms with
  |none=>
   rw[h1]at hk g11 g12 no
   simp only[Option.isSome_none,go_sem,Option.getD_none,GV (show i+1<9223372036854775808 by omega)]
   exact no hk
  |some o=>
   rw[h1]at hk g11 g12 no hx
   simp only[Option.getD_some]at g11 g12 no hx
   simp only[Option.isSome_some,go_sem,Option.getD_some,Nat.reduceAdd,AX (off:=1) g11 rfl,ASo]
   cases h2:o.st==st with
   |false=>
    simp only[h2,cond_false]at hk
    simp only[go_sem,GV (show i+1<9223372036854775808 by omega)]
    exact no hk
   |true=>
    simp only[h2,cond_true]at hk
    simp only[go_sem]
    rw[IY (m:=5) g12 (by omega) rfl rfl]
    rw[BU (m:=5) (T.Au ..) (by omega) rfl]
    simp only[go_sem]
    have f11:∀id,id<n->T.get (T.set (T.set H8 n8 (one [o.nm.v,.bool o.st,x,o.ret.nm.v,.bool o.ret.arr])) n (one [o.nm.v,.bool o.st,x,o.ret.nm.v,.bool o.ret.arr])) id=T.get H8 id:=λid hid=>by
     rw[T.Ad _ _ (by omega),T.Ad _ _ (by omega)]
    exact hk _ _ _ (f9.trans' (m:=n8+1) f11 (by omega) hbn) ⟨x,rfl,hx.ke ((Kp.ke (n:=n) (n':=n) ⟨Nat.le_refl _,f11⟩))⟩
 ·rintro I q ⟨H3,n3,rfl,f3,hn3,ho,g3,hk⟩
  show DV lfp G (Runs F G) k I (.ptr t 0) s.v (.bool st) (.ptr n 0) v (.int .i64 (.ofNat cs.length) 0) (.int .i64 (.ofNat cs.length) 0) H3 n3
  delta DV
  rw[List.drop_eq_nil_of_le (Nat.le_refl _)]at hk
  simp only[go_sem,FP,Nat.lt_irrefl,decide_false]
  delta Jv
  simp only[rQ,AU]
  rw[IY (m:=5) g3 (by omega) rfl rfl,AED,BU (m:=5) (T.Au ..) (by omega) rfl]
  simp only[go_sem]
  refine hk _ _ _ (f3.trans' (m:=n3) (λid hid=>?_) (by omega) hbn) AMy
  rw[T.Ad _ _ (by omega)]
def twin(a:Option St):List St->Bool
 |[]=>false
 |x::xs=>(match a with|some y=>decide (y.1=x.1/\y.2=x.2)|none=>false)||twin (some x) xs
abbrev ALl(fs:List ER):List St:=fs.map λf=>f.nm
abbrev AGc(fs:List FN):List St:=fs.map λf=>f.nm
def twice(c:Fc):Bool:=twin none (ALl c.fs)||twin none (AGc c.ms)
theorem Aae(a b:St):Dw (.one .str) false a.v b.v=some (.bool (decide (a.1=b.1/\a.2=b.2))):=ACl ..
theorem AaU(i:Nat):B2.ev .gtr (.int .i64 (.ofNat i) 0) (.int .i64 (.ofNat 0) 0)=some (.bool (decide (0<i))):=AAs ..
theorem AVn{G:AV}(hG:ACs G){H:Heap}{n:Nat}{v:V}{c:Fc}(h:PK G H n v c){k:KV}(hk:∀H' n',Kp H n H' n'->k (.bool (twice c)) H' n'):Runs F G ABx [v] H n k:=by
 refine go1 (AGj Aq G) ?_
 obtain⟨vf,vm,ws,h,rfl⟩:=h
 delta ABN
 unfold twice at hk
 refine Ei λH1 f1 g1=>?_
 have hf:=h.fs.kp f1
 have hm:=h.ms.kp f1
 have l2:Aa (.ptr n 2) G H1=some vf:=AX g1 rfl
 have l3:Aa (.ptr n 3) G H1=some vm:=AX g1 rfl
 have hbf:=hf.lt
 have hbm:=hm.lt
 simp only[go_sem,Nat.reduceAdd,l2,h.fs.len]
 have AXC:(∀H' n',Kp H n H' n'->k (.bool (twin none (AGc c.ms))) H' n')->TD lfp G (Runs F G) k (.ptr n 0) H1 (n+1):=by
  intro hk
  delta TD
  simp only[go_sem,Nat.reduceAdd,l3,h.ms.len']
  refine CG (N:=c.ms.length) (J:=λi q=>q=(.ptr n 0,.int .i64 (.ofNat c.ms.length) 0,.int .i64 (.ofNat i) 0,H1,n+1)/\
   (k (.bool (twin (match i with|0=>none|i+1=>(AGc c.ms)[i]?) ((AGc c.ms).drop i))) H1 (n+1))) ?_ ?_ ⟨rfl,hk _ _ f1⟩
  ·rintro I i q hlt ⟨rfl,hk⟩ ih
   show PL lfp G (Runs F G) k I (.ptr n 0) (.int .i64 (.ofNat c.ms.length) 0) (.int .i64 (.ofNat i) 0) H1 (n+1)
   delta PL
   have hlt':i<(AGc c.ms).length:=by simpa using hlt
   rw[List.drop_eq_getElem_cons hlt',List.getElem_map]at hk
   unfold twin at hk
   obtain⟨q,w,hp,hld,-⟩:=hm.at hlt
   obtain⟨q',hp',hld'⟩:=pR hG hld rfl (o:=0) (x:=c.ms[i].nm.v) rfl
   simp only[go_sem,FP,hlt,decide_true,AaU]
   have next:(k (.bool (twin (some c.ms[i].nm) ((AGc c.ms).drop (i+1)))) H1 (n+1))->I (.ptr n 0,.int .i64 (.ofNat c.ms.length) 0,.int .i64 (.ofNat (i+1)) 0,H1,n+1):=λhk=>by
    refine ih _ ⟨rfl,?_⟩
    show k (.bool (twin ((AGc c.ms)[i]?) _)) H1 (n+1)
    rw[List.getElem?_eq_getElem hlt',List.getElem_map];exact hk
   cases i with
   |zero=>
    simp only[Nat.lt_irrefl,decide_false,go_sem,GV (show 0+1<9223372036854775808 by omega)]
    exact next hk
   |succ i=>
    have hlt2:i<c.ms.length:=by omega
    obtain⟨r,w2,hr,hldr,-⟩:=hm.at hlt2
    obtain⟨r',hr',hldr'⟩:=pR hG hldr rfl (o:=0) (x:=c.ms[i].nm.v) rfl
    simp only[Nat.zero_lt_succ,decide_true,go_sem,Nat.reduceAdd,l3,AJN (show i+1<9223372036854775808 by unfold big at hbm;omega),hr,hr',hldr',hp,hp',hld',Aae]
    have hk:k (.bool (decide (c.ms[i].nm.1=c.ms[i+1].nm.1/\c.ms[i].nm.2=c.ms[i+1].nm.2)||twin (some c.ms[i+1].nm) ((AGc c.ms).drop (i+1+1)))) H1 (n+1):=by
     have e:(AGc c.ms)[i]? =some c.ms[i].nm:=by rw[List.getElem?_map,List.getElem?_eq_getElem hlt2];rfl
     simp only[e]at hk;exact hk
    cases e:decide (c.ms[i].nm.1=c.ms[i+1].nm.1/\c.ms[i].nm.2=c.ms[i+1].nm.2)with
    |true=>rw[e]at hk;simp only[go_sem];exact hk
    |false=>
     rw[e]at hk
     simp only[go_sem,GV (show i+1+1<9223372036854775808 by unfold big at hbm;omega)]
     exact next hk
  ·rintro I q ⟨rfl,hk⟩
   show PL lfp G (Runs F G) k I (.ptr n 0) (.int .i64 (.ofNat c.ms.length) 0) (.int .i64 (.ofNat c.ms.length) 0) H1 (n+1)
   delta PL
   rw[List.drop_eq_nil_of_le (by simp)]at hk
   simp only[go_sem,FP,Nat.lt_irrefl,decide_false]
   delta X0
   exact hk
 generalize twin none (AGc c.ms)=B at hk AXC
 refine CG (N:=c.fs.length) (J:=λi q=>q=(.ptr n 0,.int .i64 (.ofNat c.fs.length) 0,.int .i64 (.ofNat i) 0,H1,n+1)/\
  (∀H' n',Kp H n H' n'->k (.bool (twin (match i with|0=>none|i+1=>(ALl c.fs)[i]?) ((ALl c.fs).drop i)||B)) H' n')) ?_ ?_ ⟨rfl,hk⟩
 ·rintro I i q hlt ⟨rfl,hk⟩ ih
  show OE lfp G (Runs F G) k I (.ptr n 0) (.int .i64 (.ofNat c.fs.length) 0) (.int .i64 (.ofNat i) 0) H1 (n+1)
  delta OE
  have hlt':i<(ALl c.fs).length:=by simpa using hlt
  rw[List.drop_eq_getElem_cons hlt',List.getElem_map]at hk
  unfold twin at hk
  obtain⟨q,hp,hld⟩:=hf.at hlt
  obtain⟨q',hp',hld'⟩:=pR hG hld rfl (o:=0) (x:=c.fs[i].nm.v) rfl
  simp only[go_sem,FP,hlt,decide_true,AaU]
  have next:(∀H' n',Kp H n H' n'->k (.bool (twin (some c.fs[i].nm) ((ALl c.fs).drop (i+1))||B)) H' n')->I (.ptr n 0,.int .i64 (.ofNat c.fs.length) 0,.int .i64 (.ofNat (i+1)) 0,H1,n+1):=λhk=>by
   refine ih _ ⟨rfl,?_⟩
   show ∀H' n',Kp H n H' n'->k (.bool (twin ((ALl c.fs)[i]?) _||_)) H' n'
   rw[List.getElem?_eq_getElem hlt',List.getElem_map];exact hk
  cases i with
  |zero=>
   simp only[Nat.lt_irrefl,decide_false,go_sem,GV (show 0+1<9223372036854775808 by omega)]
   simp only[Bool.false_or]at hk
   exact next hk
  |succ i=>
   have hlt2:i<c.fs.length:=by omega
   obtain⟨r,hr,hldr⟩:=hf.at hlt2
   obtain⟨r',hr',hldr'⟩:=pR hG hldr rfl (o:=0) (x:=c.fs[i].nm.v) rfl
   simp only[Nat.zero_lt_succ,decide_true,go_sem,Nat.reduceAdd,l2,AJN (show i+1<9223372036854775808 by unfold big at hbf;omega),hr,hr',hldr',hp,hp',hld',Aae]
   have hk:∀H' n',Kp H n H' n'->k (.bool ((decide (c.fs[i].nm.1=c.fs[i+1].nm.1/\c.fs[i].nm.2=c.fs[i+1].nm.2)||twin (some c.fs[i+1].nm) ((ALl c.fs).drop (i+1+1)))||B)) H' n':=by
    have e:(ALl c.fs)[i]? =some c.fs[i].nm:=by rw[List.getElem?_map,List.getElem?_eq_getElem hlt2];rfl
    simp only[e]at hk;exact hk
   cases e:decide (c.fs[i].nm.1=c.fs[i+1].nm.1/\c.fs[i].nm.2=c.fs[i+1].nm.2)with
   |true=>rw[e]at hk;simp only[go_sem];exact hk _ _ f1
   |false=>
    rw[e]at hk
    simp only[go_sem,GV (show i+1+1<9223372036854775808 by unfold big at hbf;omega)]
    exact next hk
 ·rintro I q ⟨rfl,hk⟩
  show OE lfp G (Runs F G) k I (.ptr n 0) (.int .i64 (.ofNat c.fs.length) 0) (.int .i64 (.ofNat c.fs.length) 0) H1 (n+1)
  delta OE
  rw[List.drop_eq_nil_of_le (by simp)]at hk
  simp only[go_sem,FP,Nat.lt_irrefl,decide_false]
  exact AXC hk
structure AZG(G:AV)(H:Heap)(n m:Nat)(v:V)(cs:List Fc):Prop where
 is:∃LS:CJ,El G H v 4 LS/\LS.length=cs.length/\∀(i:Nat) (L:LV) (c:Fc),LS[i]? =some L->cs[i]? =some c->PK G H m (.agg L) c
 lo:Lo v n
 lt:cs.length<=1000
 mn:m<=n
def AEH(fs:Tab):List Fc->Tab
 |[]=>fs
 |c::cs=>AEH (Zl c.nm c fs) cs
def ALM(cs:List Fc):Tab:=AEH [] cs
theorem vJ.put{G:AV}{H H':Heap}{n a:Nat}{fs:Tab}{v:V}{c:Fc}{ps:List (St×V)}(hm:ABr H a ps)(hkey:keyed ps fs)(hv:∀s v c,JV ps s=some v->JV fs s=some c->PK G H' n v c)(h1:ABr H' a (Zl c.nm v ps))(hc:PK G H' n v c):
 vJ G H' n a (Zl c.nm c fs):=
 ⟨_,h1,AH6 _ _ _ hkey,λs w d h2 h3=>by
  rw[ALJ]at h2 h3
  by_cases e:c.nm=s
  ·rw[if_pos e]at h2 h3;cases h2;cases h3;exact hc
  ·rw[if_neg e]at h2 h3;exact hv _ _ _ h2 h3⟩
theorem PK.up{G:AV}{H:Heap}{n n':Nat}{v:V}{c:Fc}(h:PK G H n v c)(hn:n<=n'):PK G H n' v c:=h.ke ⟨hn,λ_ _ _ _ h=>h⟩
theorem Aa2{G:AV}{H:Heap}{n m:Nat}{v:V}{cs:List Fc}(h:AZG G H n m v cs){k:KV}
 (hk:∀H' n' t a b,Kp H n H' n'->T.get H' t=some (one [.map a,.map b])->vJ G H' m a (ALM cs)->Lj H' b->n<=a->a<b->b<t->t<n'->k (.ptr t 0) H' n'):Runs F G AE3 [v] H n k:=by
 refine go1 (ALc Aq G) ?_
 delta AF6
 obtain⟨⟨LS,hel,hlen,hfv⟩,hlo,hlt,hmn⟩:=h
 simp only[AUh,go_sem,Nat.reduceAdd,show BN [V.ALE,.ALE] [(0,1,.c (.map n)),(1,1,.c (.map (n+1)))]=some (.agg [.map n,.map (n+1)])from rfl,hel.len,hlen]
 have f1:Kp H n (T.set (T.set (T.set H n (.map [] 0)) (n+1) (.map [] 0)) (n+1+1) (one [.map n,.map (n+1)])) (n+1+1+1):=((((Kp.refl H n).new (m:=n+1) _ (Nat.le_refl _) (by omega)).new (m:=n+1+1) _ (by omega) (by omega)).new _ (by omega) (by omega))
 refine CG (N:=cs.length) (J:=λi q=>∃H' n' fs,q=(.ptr (n+1+1) 0,v,.int .i64 (.ofNat cs.length) 0,.int .i64 (.ofNat i) 0,H',n')/\Kp H n H' n'/\n+1+1<n'/\T.get H' (n+1+1)=some (one [.map n,.map (n+1)])/\vJ G H' m n fs/\Lj H' (n+1)/\
  AEH fs (cs.drop i)=ALM cs) ?_ ?_ ⟨_,_,[],rfl,f1,by omega,T.Au ..,⟨[],⟨[],0,by rw[T.Ad _ _ (by omega),T.Ad _ _ (by omega),T.Au],rfl⟩,rfl,λs v c h=>by cases h⟩,⟨[],[],0,by rw[T.Ad _ _ (by omega),T.Au],rfl⟩,rfl⟩
 ·rintro I i q hi ⟨H3,n3,fs,rfl,f3,hn3,g3,hfa,hs,htab⟩ ih
  show SV lfp G (Runs F G) k I (.ptr (n+1+1) 0) v (.int .i64 (.ofNat cs.length) 0) (.int .i64 (.ofNat i) 0) H3 n3
  delta SV
  obtain⟨q,hp,hld⟩:=(hel.kp hlo f3).at (i:=i) (c:=LS[i]'(by omega)) (List.getElem?_eq_getElem _)
  have hf:=hfv i _ _ (List.getElem?_eq_getElem (by omega)) (List.getElem?_eq_getElem hi)
  rw[List.drop_eq_getElem_cons hi]at htab
  unfold AEH at htab
  generalize cs[i]=fc at hf htab
  obtain⟨vf,vm,ws,hf,e⟩:=hf
  have e':LS[i]'(by omega)=[fc.nm.v,fc.sup.v,vf,vm]:=by injection e
  rw[e']at hld
  simp only[go_sem,FP,hi,decide_true,hp,EM hld,Nat.reduceAdd]
  rw[T.set_set]
  rw[show Aa (.ptr (n+1+1) 0) G (T.set H3 n3 (one [fc.nm.v,fc.sup.v,vf,vm]))=some (.map n)from AX ((T.Ad _ _ (by omega)).trans g3) rfl]
  obtain⟨ps,hps,hkey,hval⟩:=hfa.is
  simp only[go_sem]
  refine APJ (AFR hps (T.Ad _ _ (by omega))) fc.nm _ λH4 hm4 hs4=>?_
  simp only[go_sem,GV (show i+1<9223372036854775808 by omega)]
  have f4:Kp H n H4 (n3+1):=⟨by omega,λid hid=>by rw[hs4 id (by omega),T.Ad _ _ (by omega)];exact f3.same id hid⟩
  have f5:Kp H3 n H4 n:=⟨Nat.le_refl _,λid hid=>by rw[hs4 id (by omega),T.Ad _ _ (by omega)]⟩
  refine ih _ ⟨H4,_,Zl fc.nm fc fs,rfl,f4,by omega,?_,vJ.put hps hkey (λs v c x y=>(hval s v c x y).ke (f5.ke.low hmn)) hm4 ⟨vf,vm,ws,hf.ke ((f4.ke).low hmn),rfl⟩,?_,htab⟩
  ·rw[hs4 _ (by omega),T.Ad _ _ (by omega)];exact g3
  ·exact hs.same (by rw[hs4 _ (by omega),T.Ad _ _ (by omega)])
 ·rintro I q ⟨H3,n3,fs,rfl,f3,hn3,g3,hfa,hs,htab⟩
  show SV lfp G (Runs F G) k I (.ptr (n+1+1) 0) v (.int .i64 (.ofNat cs.length) 0) (.int .i64 (.ofNat cs.length) 0) H3 n3
  delta SV
  simp only[go_sem,FP,Nat.lt_irrefl,decide_false]
  delta dD
  rw[List.drop_eq_nil_of_le (Nat.le_refl _)]at htab
  have htab:fs=ALM cs:=htab
  subst htab
  exact hk _ _ _ n (n+1) f3 g3 hfa hs (by omega) (by omega) (by omega) (by omega)
def AXA(fs:Tab)(sup:St)(m:FN):Bool:=match Xr fs sup m.nm false with
 |some o=> !m.st&& !m.same o.2
 |none=>false
def qF(fs:Tab)(sup:St):List FN->Int
 |[]=>0
 |m::ms=>bif !((m.ret::m.ps).all (DR fs))then 23 else bif AXA fs sup m then 27 else qF fs sup ms
def AKn(fs:Tab)(sup:St)(r:Int):List ER->Int
 |[]=>r
 |f::l=>bif !([f.ty].all (DR fs))then 23 else bif (ACO fs sup f.nm).isSome then 6 else AKn fs sup r l
structure APD(G:AV)(H0:Heap)(n0:Nat)(H:Heap)(n t a b e:Nat)(fs:Tab)(c:Fc)(vf vm:V)(ws:List V):Prop where
 f:Kb b H0 n0 H n
 en:e<n
 e0:n0<=e
 g:T.get H e=some (one [c.nm.v,c.sup.v,vf,vm])
theorem AIL{G:AV}{H0 H:Heap}{n0 n t a b e:Nat}{fs:Tab}(h:TabAt G H0 n0 t a b fs)(hfs:fs.length<=1000){c:Fc}{vf vm:V}{ws:List V}(hc:APD G H0 n0 H n t a b e fs c vf vm ws)
 (hf:AB8 G H0 n0 [c.nm.v,c.sup.v,vf,vm] c vf vm ws) (hps:∀m∈c.ms,m.ps.length<=100000) {k:KV} (hk:∀H' n',Kb b H0 n0 H' n'->k (.int .i64 (qF fs c.sup c.ms) 0) H' n'):
 KD lfp G (Runs F G) k (.ptr t 0) (.ptr e 0) H n:=by
 delta KD
 have hbig:=hf.ms.lt
 have hbn:=h.bn
 simp only[go_sem,Nat.reduceAdd,AX (off:=3) hc.g (v:=vm) rfl,hf.ms.len']
 refine CG (N:=c.ms.length) (J:=λi q=>∃H' n',q=(.ptr t 0,.ptr e 0,vm,.int .i64 (.ofNat c.ms.length) 0,.int .i64 (.ofNat i) 0,H',n')/\APD G H0 n0 H' n' t a b e fs c vf vm ws/\
  (∀H' n',Kb b H0 n0 H' n'->k (.int .i64 (qF fs c.sup (c.ms.drop i)) 0) H' n')) ?_ ?_ ⟨H,n,rfl,hc,hk⟩
 ·rintro I i q hlt ⟨H3,n3,rfl,hc,hk⟩ ih
  show He lfp G (Runs F G) k I (.ptr t 0) (.ptr e 0) vm (.int .i64 (.ofNat c.ms.length) 0) (.int .i64 (.ofNat i) 0) H3 n3
  delta He
  have f3:=hc.f
  have hen:=hc.en
  have he0:=hc.e0
  have hm3:QT G H3 n0 vm c.ms ws:=hf.ms.ke ((f3.ke h.seen).low (Nat.le_refl _))
  obtain⟨q,w,hp,hld,hw⟩:=hm3.at hlt
  have hps:=hps _ (List.getElem_mem hlt)
  have hok:=hf.ms.ok _ (List.getElem_mem hlt)
  rw[List.drop_eq_getElem_cons hlt]at hk
  unfold qF at hk
  generalize c.ms[i]=m at hld hk hw hps hok
  unfold FN.cells at hld
  simp only[go_sem,FP,hlt,decide_true,hp,EM hld,Nat.reduceAdd]
  rw[T.set_set]
  have g4:=T.Au H3 n3 (one [m.nm.v,.bool m.st,w,m.ret.nm.v,.bool m.ret.arr])
  have f4:Kp H3 n3 (T.set H3 n3 (one [m.nm.v,.bool m.st,w,m.ret.nm.v,.bool m.ret.arr])) (n3+1):=(Kp.refl _ _).new _ (Nat.le_refl _) (by omega)
  generalize T.set H3 n3 (one [m.nm.v,.bool m.st,w,m.ret.nm.v,.bool m.ret.arr])=H4 at f4 g4
  rw[show Ah 2 (.ptr n3 3) G H4=some (.agg m.ret.cells)from Dz g4 (by omega) (by show 5<=5;omega)]
  simp only[go_sem,Nat.reduceAdd]
  rw[ARU (z:=2) (L:=m.ret.cells) rfl]
  have hcap:=T.Au H4 (n3+1) (.arr 2 1 (T.set (T.set .e 0 [.str 0 0,.bool false]) 0 m.ret.cells))
  have f5:Kp H4 (n3+1) (T.set H4 (n3+1) (.arr 2 1 (T.set (T.set .e 0 [.str 0 0,.bool false]) 0 m.ret.cells))) (n3+1+1):=(Kp.refl _ _).new _ (Nat.le_refl _) (by omega)
  generalize T.set H4 (n3+1) (.arr 2 1 (T.set (T.set .e 0 [.str 0 0,.bool false]) 0 m.ret.cells))=H5 at f5 hcap
  have g5:=f5.get g4 (by omega)
  have hel:=AIh (G:=G) (by omega) (show m.ret.cells.length=2 from rfl) hcap
  have fb5:=f3.trans ((f4.trans f5).kb (b:=b) (by omega))
  have hw5:=hw.ke (((f4.trans f5).ke).low (m:=n0) (by omega))
  simp only[go_sem,AX (off:=2) g5 (v:=w) rfl]
  refine AU0 (by omega) hcap (by omega) hel.2 hw5.el.2 (by rw[AEN];omega) λv6 H6 n6 hel6 hs6 hn6 hlo6=>?_
  have f6:Kp H5 (n3+1+1) H6 n6:=⟨hn6,hs6⟩
  have fb6:=fb5.trans (f6.kb (b:=b) (by omega))
  have g6:=f6.get g5 (by omega)
  refine kK (xs:=m.ret::m.ps) (h.kb fb6) ⟨hel6,hlo6,by simp[big];omega,?_⟩ λH7 n7 f7=>?_
  ·intro x hx
   rcases List.mem_cons.1 hx with rfl|hx
   ·exact hok.2
   ·exact hw.ok _ hx
  have fb7:=fb6.trans f7
  have h7n:=f7.le
  have g7:=f7.get g6 (by omega) (by omega)
  simp only[go_sem,Nat.reduceAdd,Du]
  cases h1:(m.ret::m.ps).all (DR fs)with
  |false=>
   rw[h1]at hk
   simp only[Bool.not_false,cond_true]at hk
   simp only[Bool.not_false,go_sem]
   exact hk _ _ fb7
  |true=>
   rw[h1]at hk
   simp only[Bool.not_true,cond_false]at hk
   have fe:Kb b H3 n3 H7 n7:=((f4.trans (f5.trans f6)).kb (b:=b) (by omega)).trans f7
   have ge:T.get H7 e=some (one [c.nm.v,c.sup.v,vf,vm]):=fe.get hc.g hen (by omega)
   simp only[Bool.not_true,go_sem,Nat.reduceAdd,AX (off:=1) ge (v:=c.sup.v) rfl,AX (off:=0) g7 (v:=m.nm.v) rfl]
   refine AEg (c:=c.sup) (s:=m.nm) (st:=false) (h.kb fb7) hfs λH8 n8 x f8 hx=>?_
   have fb8:=fb7.trans f8
   have h8n:=f8.le
   have g8:=f8.get g7 (by omega) (by omega)
   have hw8:uG G H8 n7 (.agg (m.cells w)) m:=⟨w,rfl,(hw.ke (((fe.trans f8).ke (f3.seen h.seen)).low (m:=n0) (by omega))).ke ⟨by omega,λ_ _ _ _ h=>h⟩⟩
   obtain⟨y,rfl,hy⟩:=hx
   unfold AXA at hk
   have next:∀H' n',Kb b H8 n8 H' n'->(∀H' n',Kb b H0 n0 H' n'->k (.int .i64 (qF fs c.sup (c.ms.drop (i+1))) 0) H' n')->I (.ptr t 0,.ptr e 0,vm,.int .i64 (.ofNat c.ms.length) 0,.int .i64 (.ofNat (i+1)) 0,H',n'):=λH' n' f hk=>
    ih _ ⟨_,_,rfl,⟨fb8.trans f,by have:=f.le;omega,he0,f.get (f8.get ge (by omega) (by omega)) (by omega) (by omega)⟩,hk⟩
   simp only[go_sem,Nat.reduceAdd]
   have g9:=T.Au H8 n8 (one (((Xr fs c.sup m.nm false).getD ((0,0),WR)).2.cells y))
   have f9:Kp H8 n8 (T.set H8 n8 (one (((Xr fs c.sup m.nm false).getD ((0,0),WR)).2.cells y))) (n8+1):=(Kp.refl _ _).new _ (Nat.le_refl _) (by omega)
   unfold FN.cells at g9 f9⊢
   simp only[go_sem,Nat.reduceAdd]
   rw[T.set_set]
   cases h2:Xr fs c.sup m.nm false with
   |none=>
    rw[h2]at hk f9
    simp only[cond_false]at hk
    simp only[Option.isSome_none,go_sem,GV (show i+1<9223372036854775808 by unfold big at hbig;omega)]
    exact next _ _ (f9.kb (by omega)) hk
   |some o=>
    rw[h2]at hk f9 g9 hy
    simp only[Option.getD_some]at f9 g9 hy
    simp only[Option.isSome_some,Option.getD_some]
    generalize T.set H8 n8 (one [o.2.nm.v,.bool o.2.st,y,o.2.ret.nm.v,.bool o.2.ret.arr])=H9 at f9 g9
    have gm:=f9.get g8 (by omega)
    simp only[go_sem,Nat.reduceAdd,AX (off:=1) gm (v:=.bool m.st) rfl,Du]
    cases h3:m.st with
    |true=>
     rw[h3]at hk
     simp only[Bool.not_true,Bool.false_and,cond_false]at hk
     simp only[Bool.not_true,go_sem,GV (show i+1<9223372036854775808 by unfold big at hbig;omega)]
     exact next _ _ (f9.kb (by omega)) hk
    |false=>
     rw[h3]at hk
     simp only[Bool.not_false,Bool.true_and]at hk
     simp only[Bool.not_false,go_sem,Aw (m:=5) gm (by omega) rfl,Aw (m:=5) g9 (by omega) rfl]
     have hwS:uG G H9 (n8+1) (.agg [m.nm.v,.bool m.st,w,m.ret.nm.v,.bool m.ret.arr]) m:=hw8.ke ⟨by omega,λv z LS hl he=>(f9.ke).el v z LS (hl.mono (by omega)) he⟩
     have hyS:uG G H9 (n8+1) (.agg [o.2.nm.v,.bool o.2.st,y,o.2.ret.nm.v,.bool o.2.ret.arr]) o.2:=⟨y,rfl,hy.ke ⟨by omega,λv z LS hl he=>(f9.ke).el v z LS (hl.mono (by omega)) he⟩⟩
     refine AHn hwS hyS λH10 n10 f10=>?_
     have f11:=(f9.trans f10).kb (b:=b) (by omega)
     simp only[go_sem,Du]
     cases h4:m.same o.2 with
     |false=>
      rw[h4]at hk
      simp only[Bool.not_false,cond_true]at hk
      simp only[Bool.not_false,go_sem]
      exact hk _ _ (fb8.trans f11)
     |true=>
      rw[h4]at hk
      simp only[Bool.not_true,cond_false]at hk
      simp only[Bool.not_true,go_sem,GV (show i+1<9223372036854775808 by unfold big at hbig;omega)]
      exact next _ _ f11 hk
 ·rintro I q ⟨H3,n3,rfl,hc,hk⟩
  show He lfp G (Runs F G) k I (.ptr t 0) (.ptr e 0) vm (.int .i64 (.ofNat c.ms.length) 0) (.int .i64 (.ofNat c.ms.length) 0) H3 n3
  delta He
  rw[List.drop_eq_nil_of_le (Nat.le_refl _)]at hk
  simp only[go_sem,FP,Nat.lt_irrefl,decide_false]
  delta Oi
  exact hk _ _ hc.f
theorem AK6{G:AV}{H0 H:Heap}{n0 n t a b e:Nat}{fs:Tab}(h:TabAt G H0 n0 t a b fs)(hfs:fs.length<=1000){c:Fc}{vf vm:V}{ws:List V}(hc:APD G H0 n0 H n t a b e fs c vf vm ws)
 (hf:AB8 G H0 n0 [c.nm.v,c.sup.v,vf,vm] c vf vm ws) (hps:∀m∈c.ms,m.ps.length<=100000) {k:KV} (hk:∀H' n',Kb b H0 n0 H' n'->k (.int .i64 (AKn fs c.sup (qF fs c.sup c.ms) c.fs) 0) H' n'):
 lfp (V×V×V×V×V×Heap×Nat) (OB lfp G (Runs F G) k) (.ptr t 0,.ptr e 0,vf,.int .i64 (.ofNat c.fs.length) 0,.int .i64 (.ofNat 0) 0,H,n):=by
 have hbig:=hf.fs.lt
 have hbn:=h.bn
 refine CG (N:=c.fs.length) (J:=λi q=>∃H' n',q=(.ptr t 0,.ptr e 0,vf,.int .i64 (.ofNat c.fs.length) 0,.int .i64 (.ofNat i) 0,H',n')/\APD G H0 n0 H' n' t a b e fs c vf vm ws/\
  (∀H' n',Kb b H0 n0 H' n'->k (.int .i64 (AKn fs c.sup (qF fs c.sup c.ms) (c.fs.drop i)) 0) H' n')) ?_ ?_ ⟨H,n,rfl,hc,hk⟩
 ·rintro I i q hlt ⟨H3,n3,rfl,hc,hk⟩ ih
  show Hy lfp G (Runs F G) k I (.ptr t 0) (.ptr e 0) vf (.int .i64 (.ofNat c.fs.length) 0) (.int .i64 (.ofNat i) 0) H3 n3
  delta Hy
  have f3:=hc.f
  have hen:=hc.en
  have he0:=hc.e0
  have hm3:VJ G H3 n0 vf c.fs:=hf.fs.ke ((f3.ke h.seen).low (Nat.le_refl _))
  obtain⟨q,hp,hld⟩:=hm3.at hlt
  have hok:=hf.fs.ok _ (List.getElem_mem hlt)
  rw[List.drop_eq_getElem_cons hlt]at hk
  unfold AKn at hk
  generalize c.fs[i]=m at hld hk hok
  unfold ER.cells at hld
  simp only[go_sem,FP,hlt,decide_true,hp,EM hld,Nat.reduceAdd]
  rw[T.set_set]
  have g4:=T.Au H3 n3 (one [m.nm.v,m.ty.nm.v,.bool m.ty.arr])
  have f4:Kp H3 n3 (T.set H3 n3 (one [m.nm.v,m.ty.nm.v,.bool m.ty.arr])) (n3+1):=(Kp.refl _ _).new _ (Nat.le_refl _) (by omega)
  generalize T.set H3 n3 (one [m.nm.v,m.ty.nm.v,.bool m.ty.arr])=H4 at f4 g4
  rw[show Ah 2 (.ptr n3 1) G H4=some (.agg m.ty.cells)from Dz g4 (by omega) (by show 3<=3;omega)]
  simp only[go_sem,Nat.reduceAdd]
  rw[ARU (z:=2) (L:=m.ty.cells) rfl]
  have hcap:=T.Au H4 (n3+1) (.arr 2 1 (T.set (T.set .e 0 [.str 0 0,.bool false]) 0 m.ty.cells))
  have f5:Kp H4 (n3+1) (T.set H4 (n3+1) (.arr 2 1 (T.set (T.set .e 0 [.str 0 0,.bool false]) 0 m.ty.cells))) (n3+1+1):=(Kp.refl _ _).new _ (Nat.le_refl _) (by omega)
  generalize T.set H4 (n3+1) (.arr 2 1 (T.set (T.set .e 0 [.str 0 0,.bool false]) 0 m.ty.cells))=H5 at f5 hcap
  have g5:=f5.get g4 (by omega)
  have hel:=AIh (G:=G) (by omega) (show m.ty.cells.length=2 from rfl) hcap
  have fb5:=f3.trans ((f4.trans f5).kb (b:=b) (by omega))
  refine kK (xs:=[m.ty]) (h.kb fb5) ⟨hel,λid hid=>by cases hid;omega,by show 1<big;decide,?_⟩ λH7 n7 f7=>?_
  ·intro x hx;simp at hx;subst hx;exact hok.2
  have fb7:=fb5.trans f7
  have h7n:=f7.le
  have g7:=f7.get g5 (by omega) (by omega)
  simp only[go_sem,Nat.reduceAdd,Du]
  cases h1:[m.ty].all (DR fs)with
  |false=>
   rw[h1]at hk
   simp only[Bool.not_false,cond_true]at hk
   simp only[Bool.not_false,go_sem]
   exact hk _ _ fb7
  |true=>
   rw[h1]at hk
   simp only[Bool.not_true,cond_false]at hk
   have fe:Kb b H3 n3 H7 n7:=((f4.trans f5).kb (b:=b) (by omega)).trans f7
   have ge:T.get H7 e=some (one [c.nm.v,c.sup.v,vf,vm]):=fe.get hc.g hen (by omega)
   simp only[Bool.not_true,go_sem,Nat.reduceAdd,AX (off:=1) ge (v:=c.sup.v) rfl,AX (off:=0) g7 (v:=m.nm.v) rfl]
   refine AOy (c:=c.sup) (s:=m.nm) (h.kb fb7) hfs λH8 n8 f8=>?_
   have fb8:=fb7.trans f8
   have h8n:=f8.le
   unfold Ty.v Ty.cells
   simp only[go_sem,Nat.reduceAdd]
   rw[T.set_set]
   have f9:Kp H8 n8 (T.set H8 n8 (one [((ACO fs c.sup m.nm).getD ((0,0),fK)).2.nm.v,.bool ((ACO fs c.sup m.nm).getD ((0,0),fK)).2.arr])) (n8+1):=(Kp.refl _ _).new _ (Nat.le_refl _) (by omega)
   have fb9:=fb8.trans (f9.kb (b:=b) (by omega))
   cases h2:(ACO fs c.sup m.nm).isSome with
   |true=>
    rw[h2]at hk
    simp only[cond_true]at hk
    simp only[go_sem]
    exact hk _ _ fb9
   |false=>
    rw[h2]at hk
    simp only[cond_false]at hk
    simp only[go_sem,GV (show i+1<9223372036854775808 by unfold big at hbig;omega)]
    exact ih _ ⟨_,_,rfl,⟨fb9,by omega,he0,f9.get (f8.get ge (by omega) (by omega)) (by omega)⟩,hk⟩
 ·rintro I q ⟨H3,n3,rfl,hc,hk⟩
  show Hy lfp G (Runs F G) k I (.ptr t 0) (.ptr e 0) vf (.int .i64 (.ofNat c.fs.length) 0) (.int .i64 (.ofNat c.fs.length) 0) H3 n3
  delta Hy
  rw[List.drop_eq_nil_of_le (Nat.le_refl _)]at hk
  simp only[go_sem,FP,Nat.lt_irrefl,decide_false]
  exact AIL h hfs hc hf hps hk
theorem AHc:∀(m:Nat) (fs:Tab) (out:List St) (s:St),out.length<=(ZW m fs out s).1.length
 |0,_,_,_=>Nat.le_refl _
 |m+1,fs,out,s=>by
  unfold ZW
  cases decide (s.1=0/\s.2=0)with
  |true=>exact Nat.le_refl _
  |false=>
   simp only[cond_false]
   cases JV fs s with
   |none=>exact Nat.le_refl _
   |some c=>
    show _<=(bif AD4 s out then(out,false)else ZW m fs (out++[s]) c.sup).1.length
    cases AD4 s out with
    |true=>exact Nat.le_refl _
    |false=>have:=AHc m fs (out++[s]) c.sup;simp only[List.length_append,List.length_singleton]at this;simp only[cond_false];omega
theorem APe{fs:Tab}{s:St}{c:Fc}(h:JV fs s=some c)(h0:¬(s.1=0/\s.2=0)):1<=(above fs s).1.length:=by
 unfold above ZW
 rw[decide_eq_false h0,h]
 show 1<=(ZW fs.length fs [s] c.sup).1.length
 exact AHc fs.length fs [s] c.sup
def lastOf(xs:List St):St:=(xs[xs.length-1]?).getD (0,0)
def ACB(fs:Tab)(s:St):Int:=match JV fs s with
 |none=>23
 |some c=>bif decide (s.1=0/\s.2=0)then 23 else
  bif !(above fs s).2&& !AD4 ((JV fs (lastOf (above fs s).1)).getD GU).sup (above fs s).1 then 23 else
  bif !(above fs s).2 then 26 else bif twice c then 6 else AKn fs c.sup (qF fs c.sup c.ms) c.fs
theorem AUZ{G:AV}(hG:ACs G){H:Heap}{n t a b:Nat}{fs:Tab}(h:TabAt G H n t a b fs)(hfs:fs.length<=1000)(hps:∀s c,JV fs s=some c->∀m∈c.ms,m.ps.length<=100000){s:St}{k:KV}
 (hk:∀H' n',Kb b H n H' n'->k (.int .i64 (ACB fs s) 0) H' n'):Runs F G Zb [.ptr t 0,s.v] H n k:=by
 refine go2 (wR Aq G) ?_
 delta Zn
 have hbn:=h.bn
 unfold ACB at hk
 refine rZ (s:=s) h (Nat.le_refl _) λH1 n1 w f1 hw=>?_
 obtain⟨vf,vm,ws,hw,rfl⟩:=hw
 have h1n:=f1.le
 simp only[go_sem,Nat.reduceAdd,Du]
 rw[T.set_set]
 have g2:=T.Au H1 n1 (one [((JV fs s).getD GU).nm.v,((JV fs s).getD GU).sup.v,vf,vm])
 have f2:Kp H1 n1 (T.set H1 n1 (one [((JV fs s).getD GU).nm.v,((JV fs s).getD GU).sup.v,vf,vm])) (n1+1):=(Kp.refl _ _).new _ (Nat.le_refl _) (by omega)
 have fb2:=f1.trans (f2.kb (b:=b) (by omega))
 cases hl:JV fs s with
 |none=>
  rw[hl]at hk fb2
  simp only[Option.isSome_none,Bool.not_false,go_sem]
  exact hk _ _ fb2
 |some c=>
  rw[hl]at hk fb2 g2 f2 hw
  simp only[Option.getD_some]at hk fb2 g2 f2 hw
  simp only[Option.isSome_some,Bool.not_true,go_sem,Option.getD_some,show Dw (.one .str) false s.v (.str 0 0)=some (.bool (decide (s.1=0/\s.2=0)))from ACl ..]
  cases h0:decide (s.1=0/\s.2=0)with
  |true=>
   rw[h0]at hk
   simp only[go_sem]
   exact hk _ _ fb2
  |false=>
   rw[h0]at hk
   simp only[cond_false]at hk
   simp only[go_sem]
   generalize T.set H1 n1 (one [c.nm.v,c.sup.v,vf,vm])=H2 at fb2 g2 f2
   refine ABl (s:=s) (h.kb fb2) hfs λH3 n3 v f3 ho hlen=>?_
   have hpos:=APe hl (of_decide_eq_false h0)
   generalize(above fs s).1=up at ho hlen hpos hk
   generalize(above fs s).2=whole at hk
   have fb3:=fb2.trans f3
   have h3n:=f3.le
   have g3:=f3.get g2 (by omega) (by omega)
   have hel:=ho.el (by omega)
   obtain⟨m,hm⟩:∃m,up.length=m+1:=⟨up.length-1,by omega⟩
   have hlt:m<up.length:=by omega
   obtain⟨q,hp,hld⟩:=hel.at (ABy hlt)
   have hlast:lastOf up=up[m]:=by unfold lastOf;rw[show up.length-1=m by omega,List.getElem?_eq_getElem hlt];rfl
   simp only[go_sem,hel.len,iL,hm,AJN (show m+1<9223372036854775808 by omega),hp,Zz hld]
   rw[<-hlast]
   refine rZ (s:=lastOf up) (h.kb fb3) (Nat.le_refl _) λH4 n4 w f4 hw4=>?_
   obtain⟨vf4,vm4,ws4,hw4,rfl⟩:=hw4
   have fb4:=fb3.trans f4
   have h4n:=f4.le
   have g4:=f4.get g3 (by omega) (by omega)
   have ho4:=ho.kb f4 (by omega)
   simp only[go_sem,Nat.reduceAdd,Du]
   rw[T.set_set]
   generalize(JV fs (lastOf up)).getD GU=lc at hw4 hk
   have g5:=T.Au H4 n4 (one [lc.nm.v,lc.sup.v,vf4,vm4])
   have f5:Kp H4 n4 (T.set H4 n4 (one [lc.nm.v,lc.sup.v,vf4,vm4])) (n4+1):=(Kp.refl _ _).new _ (Nat.le_refl _) (by omega)
   generalize T.set H4 n4 (one [lc.nm.v,lc.sup.v,vf4,vm4])=H5 at g5 f5
   have fb5:=fb4.trans (f5.kb (b:=b) (by omega))
   have ge:=f5.get g4 (by omega)
   cases whole with
   |false=>
    simp only[Bool.not_false,Bool.true_and]at hk
    simp only[Bool.not_false,go_sem,Nat.reduceAdd,AX (off:=1) g5 (v:=lc.sup.v) rfl]
    refine AAR (s:=lc.sup) (xs:=up) ((ho4.kp f5).el (by omega)) (by omega) ?_
    simp only[go_sem,Du]
    cases h6:AD4 lc.sup up with
    |false=>
     rw[h6]at hk
     simp only[Bool.not_false,cond_true]at hk
     simp only[Bool.not_false,go_sem]
     exact hk _ _ fb5
    |true=>
     rw[h6]at hk
     simp only[Bool.not_true,cond_false,cond_true]at hk
     simp only[Bool.not_true,go_sem]
     exact hk _ _ fb5
   |true=>
    simp only[Bool.not_true,Bool.false_and,cond_false]at hk
    have fe:Kb b H1 n1 H5 (n4+1):=(f2.kb (by omega)).trans (f3.trans (f4.trans (f5.kb (by omega))))
    simp only[Bool.not_true,go_sem]
    rw[Aw (m:=4) ge (by omega) rfl,AU]
    have hwf:PK G H5 (n4+1) (.agg [c.nm.v,c.sup.v,vf,vm]) c:=⟨vf,vm,ws,(hw.ke ((fe.ke (f1.seen h.seen)).low h1n)).ke ⟨by omega,λ_ _ _ _ h=>h⟩,rfl⟩
    refine AVn hG hwf λH6 n6 f6=>?_
    have fb6:=fb5.trans (f6.kb (b:=b) (by omega))
    have h6n:=f6.le
    cases h7:twice c with
    |true=>
     rw[h7]at hk
     simp only[cond_true]at hk
     simp only[go_sem]
     exact hk _ _ fb6
    |false=>
     rw[h7]at hk
     simp only[cond_false]at hk
     have ge6:=f6.get ge (by omega)
     simp only[go_sem,Nat.reduceAdd,AX (off:=2) ge6 (v:=vf) rfl,hw.fs.len]
     exact AK6 (h.kb (f1.low (Nat.le_refl _))) hfs ⟨(fe.trans (f6.kb (by omega))).AZ9 h1n,by omega,h1n,ge6⟩ hw (hps s c hl) λH' n' f=>hk _ _ ((f1.low (Nat.le_refl _)).trans f)
end Go.RL
namespace Go.RL
open Go.Bj
set_option maxRecDepth 100000
section
variable{G:AV}{H0 H:Heap}{n0 n i t a b fm e:Nat}{vn:V}{fs:Tab}{p:Pool}{v0 v1 v2 v3 v4:V}{ws:List V}{k:KV}
end
end Go.RL
namespace Go.RL
open Go.Bj
set_option maxRecDepth 100000
end Go.RL
namespace Go.RL
open Go.Bj
set_option maxRecDepth 100000
theorem Vu{a b:Nat}(h:a+b<9223372036854775808):B2.ev .add (.int .i64 (.ofNat a) 0) (.int .i64 (.ofNat b) 0)=some (.int .i64 (.ofNat (a+b)) 0):=by
 show some (V.int .i64 (YP .i64 (AFv (.ofNat a) (.ofNat b))) 0)=_
 rw[Qn,kH,RG (by simp;omega) (by simp;omega)];rfl
def small(fs:Tab):Prop:=∀s c,JV fs s=some c->c.fs.length<=200
theorem ATg(t:Int){m:Nat}(hm:m<9223372036854775808):B2.ev .and (.int .i64 t 0) (.int .i64 (.ofNat m) 0)=some (.int .i64 (.ofNat (AGo t m)) 0):=by
 show BF true (Oo (AR4 .i64 t (.ofNat m)) λm=>some (.int .i64 m 0))=_
 rw[AHe t hm];rfl
theorem AW6(u:Nat){m:Nat}(hm:0<m):B2.ev .rem (.int .i64 (.ofNat u) 0) (.int .i64 (.ofNat m) 0)=some (.int .i64 (.ofNat (u%m)) 0):=by
 show BF (band true (band true (QD (ieq (.ofNat m) 0)))) (mkN .i64 (Int.tmod (.ofNat u) (.ofNat m)) 0)=_
 have:ieq (.ofNat m) 0=false:=by rw[WU];simp;omega
 rw[this]
 show Oo (Int.tmod (.ofNat u) (.ofNat m)) (λm=>some (.int .i64 m 0))=_
 rw[TP];rfl
theorem AMT{z:Nat}{Z:LV}{H:Heap}{n:Nat}{P:KV}:CB (Aj z 0 Z [] E0) H n P=P (.sl n 0 0 0 z) (T.set H n (.arr z 0 .e)) (n+1):=by
 show EJ (band true true) (DU n λn=>P (.sl n 0 0 0 z) (T.set H n (.arr z 0 .e)) (Nat.succ n))=_
 rw[BL];rfl
inductive Te where
 |mk (kind num:Nat) (nm:St) (ty of:Ty) (own:St) (kids:List Te)
inductive Tt where
 |mk (does:Nat) (nm:St) (ty:Ty) (es:List Te) (th el:List Tt)
structure Tm where
 nm:St
 st:Bool
 ps:List ER
 ret:Ty
 body:List Tt
structure Tc where
 nm:St
 sup:St
 fs:List ER
 ms:List Tm
def Te.kind:Te->Nat|.mk k _ _ _ _ _ _=>k
def Te.of:Te->Ty|.mk _ _ _ _ of _ _=>of
def Te.own:Te->St|.mk _ _ _ _ _ w _=>w
def KS(v:V):Prop:=EU v v=true/\(∀id o m c e,v=.sl id o m c e->m<=c)/\∀b o m c e,v=.rsl b o m c e->m<=c
theorem Xv(q:IntKind)(a:Int):EU (.int q a 0) (.int q a 0)=true:=by simp[EU,ALV,BO,NP,WU]
theorem jH(l c:Nat):EU (.str l c) (.str l c)=true:=by simp[EU,AKu,BO]
theorem AIl(b:Bool):EU (.bool b) (.bool b)=true:=by cases b<;>rfl
theorem AKt(a b c d e:Nat):EU (.sl a b c d e) (.sl a b c d e)=true:=by simp[EU,APl,BO]
theorem AFf(a b c d:Nat):EU (.G6 a b c d) (.G6 a b c d)=true:=by simp[EU,AFr,BO]
theorem aT{a b c d e:Nat}(h:c<=d):KS (.sl a b c d e):=⟨AKt ..,λ_ _ _ _ _ h'=>(by cases h';exact h),by simp⟩
theorem AFX(a b c d:Nat):KS (.G6 a b c d):=⟨AFf ..,λ_ _ _ _ _ h=>(by cases h),by simp⟩
theorem vK:KS .Af:=⟨rfl,λ_ _ _ _ _ h=>(by cases h),by simp⟩
theorem vsL:∀L:LV,(∀v∈L,EU v v=true)->uD L L=true
 |[],_=>rfl
 |v::L,h=>by
  show band (EU v v) (uD L L)=true
  rw[h v (List.mem_cons_self ..),vsL L λw hw=>h w (List.mem_cons_of_mem _ hw)];rfl
theorem dF{L:LV}(h:∀v∈L,EU v v=true):BH (.agg L) (.agg L)=true:=vsL L h
def Zv(kind num:Nat)(nm:St)(ty of:Ty)(own:St)(line col:Nat)(v:V):LV:=
 [.int .i64 (.ofNat kind) 0,.int .i64 (.ofNat line) 0,.int .i64 (.ofNat col) 0,.int .i64 (.ofNat num) 0,nm.v,ty.nm.v,.bool ty.arr,v,of.nm.v,.bool of.arr,own.v]
mutual
inductive jE(G:AV)(H:Heap)(A:Nat->Prop):LV->Te->Prop where
 |mk (kind num:Nat) (nm:St) (ty of:Ty) (own:St) (line col:Nat) {v:V} {cs:CJ} {kids:List Te} (he:El G H v 11 cs) (hv:KS v) (ha:∀id,v.Dl=some id->A id) (hc:G9 G H A cs kids):
  jE G H A (Zv kind num nm ty of own line col v) (.mk kind num nm ty of own kids)
inductive G9(G:AV)(H:Heap)(A:Nat->Prop):CJ->List Te->Prop where
 |nil:G9 G H A [] []
 |cons {c:LV} {e:Te} {cs:CJ} {es:List Te} (h:jE G H A c e) (t:G9 G H A cs es):G9 G H A (c::cs) (e::es)
end
mutual
theorem jE.mono{G:AV}{H H':Heap}{A B:Nat->Prop}(hA:∀id,A id->B id)(hs:∀id,A id->T.get H' id=T.get H id):∀{c:LV} {e:Te},jE G H A c e->jE G H' B c e
 |_,_,.mk kind num nm ty of own line col he hv ha hc=>.mk kind num nm ty of own line col (he.same λid hid=>hs id (ha id hid)) hv (λid hid=>hA id (ha id hid)) (G9.mono hA hs hc)
theorem G9.mono{G:AV}{H H':Heap}{A B:Nat->Prop}(hA:∀id,A id->B id)(hs:∀id,A id->T.get H' id=T.get H id):∀{cs:CJ} {es:List Te},G9 G H A cs es->G9 G H' B cs es
 |_,_,.nil=>.nil
 |_,_,.cons h t=>.cons (jE.mono hA hs h) (G9.mono hA hs t)
end
theorem G9.app{G:AV}{H:Heap}{A:Nat->Prop}:∀{cs:CJ} {es:List Te} {cs':CJ} {es':List Te},G9 G H A cs es->G9 G H A cs' es'->G9 G H A (cs++cs') (es++es')
 |_,_,_,_,.nil,h=>h
 |_,_,_,_,.cons h t,h'=>.cons h (t.app h')
theorem G9.len{G:AV}{H:Heap}{A:Nat->Prop}:∀{cs:CJ} {es:List Te},G9 G H A cs es->cs.length=es.length
 |_,_,.nil=>rfl
 |_,_,.cons h t=>by simp[t.len]
theorem G9.at{G:AV}{H:Heap}{A:Nat->Prop}:∀{cs:CJ} {es:List Te},G9 G H A cs es->∀{i:Nat} {e:Te},es[i]? =some e->∃c,cs[i]? =some c/\jE G H A c e
 |_,_,.nil,i,e,h=>by simp at h
 |_,_,.cons h t,0,e,he=>by cases he;exact⟨_,rfl,h⟩
 |_,_,.cons h t,i+1,e,he=>by obtain⟨c,h1,h2⟩:=t.at (i:=i) he;exact⟨c,h1,h2⟩
section
variable{G:AV}{H:Heap}{A:Nat->Prop}{c:LV}{e:Te}
theorem jE.len(h:jE G H A c e):c.length=11:=by cases h;rfl
end
def Ob(G:AV)(H:Heap)(A:Nat->Prop)(v:V)(es:List Te):Prop:=∃cs,El G H v 11 cs/\KS v/\Wi v=true/\BA v=[v]/\(∀id,v.Dl=some id->A id)/\G9 G H A cs es
theorem Ob.mono{G:AV}{H H':Heap}{A B:Nat->Prop}{v:V}{es:List Te}(h:Ob G H A v es)(hA:∀id,A id->B id)(hs:∀id,A id->T.get H' id=T.get H id):Ob G H' B v es:=by
 obtain⟨cs,h1,h2,h3,h4,h5,h6⟩:=h
 exact⟨cs,h1.same λid hid=>hs id (h5 id hid),h2,h3,h4,λid hid=>hA id (h5 id hid),h6.mono hA hs⟩
theorem jE.of{G:AV}{H:Heap}{A:Nat->Prop}{kind num:Nat}{nm:St}{ty of:Ty}{own:St}{line col:Nat}{v:V}{kids:List Te}(h:Ob G H A v kids):jE G H A (Zv kind num nm ty of own line col v) (.mk kind num nm ty of own kids):=by
 obtain⟨cs,h1,h2,_,_,h3,h4⟩:=h
 exact .mk kind num nm ty of own line col h1 h2 h3 h4
def ttC(does:Nat)(line col:Nat)(nm:St)(ty:Ty)(ve vt vl:V):LV:=
 [.int .i64 (.ofNat does) 0,.int .i64 (.ofNat line) 0,.int .i64 (.ofNat col) 0,nm.v,ty.nm.v,.bool ty.arr,ve,vt,vl]
mutual
inductive oZ(G:AV)(H:Heap)(A:Nat->Prop):LV->Tt->Prop where
 |mk (does:Nat) (nm:St) (ty:Ty) (line col:Nat) {ve vt vl:V} {es:List Te} {th el:List Tt} {ct cl:CJ} (he:Ob G H A ve es) (ht:El G H vt 9 ct) (kt:KS vt) (at':∀id,vt.Dl=some id->A id) (st:Oh G H A ct th)
  (hl:El G H vl 9 cl) (kl:KS vl) (al:∀id,vl.Dl=some id->A id) (sl:Oh G H A cl el):oZ G H A (ttC does line col nm ty ve vt vl) (.mk does nm ty es th el)
inductive Oh(G:AV)(H:Heap)(A:Nat->Prop):CJ->List Tt->Prop where
 |nil:Oh G H A [] []
 |cons {c:LV} {e:Tt} {cs:CJ} {es:List Tt} (h:oZ G H A c e) (t:Oh G H A cs es):Oh G H A (c::cs) (e::es)
end
mutual
theorem oZ.mono{G:AV}{H H':Heap}{A B:Nat->Prop}(hA:∀id,A id->B id)(hs:∀id,A id->T.get H' id=T.get H id):∀{c:LV} {e:Tt},oZ G H A c e->oZ G H' B c e
 |_,_,.mk does nm ty line col he ht kt a1 st hl kl a2 sl=>.mk does nm ty line col (he.mono hA hs) (ht.same λid hid=>hs id (a1 id hid)) kt (λid hid=>hA id (a1 id hid)) (Oh.mono hA hs st)
  (hl.same λid hid=>hs id (a2 id hid)) kl (λid hid=>hA id (a2 id hid)) (Oh.mono hA hs sl)
theorem Oh.mono{G:AV}{H H':Heap}{A B:Nat->Prop}(hA:∀id,A id->B id)(hs:∀id,A id->T.get H' id=T.get H id):∀{cs:CJ} {es:List Tt},Oh G H A cs es->Oh G H' B cs es
 |_,_,.nil=>.nil
 |_,_,.cons h t=>.cons (oZ.mono hA hs h) (Oh.mono hA hs t)
end
theorem Oh.app{G:AV}{H:Heap}{A:Nat->Prop}:∀{cs:CJ} {es:List Tt} {cs':CJ} {es':List Tt},Oh G H A cs es->Oh G H A cs' es'->Oh G H A (cs++cs') (es++es')
 |_,_,_,_,.nil,h=>h
 |_,_,_,_,.cons h t,h'=>.cons h (t.app h')
theorem Oh.len{G:AV}{H:Heap}{A:Nat->Prop}:∀{cs:CJ} {es:List Tt},Oh G H A cs es->cs.length=es.length
 |_,_,.nil=>rfl
 |_,_,.cons h t=>by simp[t.len]
theorem Oh.at{G:AV}{H:Heap}{A:Nat->Prop}:∀{cs:CJ} {es:List Tt},Oh G H A cs es->∀{i:Nat} {e:Tt},es[i]? =some e->∃c,cs[i]? =some c/\oZ G H A c e
 |_,_,.nil,i,e,h=>by simp at h
 |_,_,.cons h t,0,e,he=>by cases he;exact⟨_,rfl,h⟩
 |_,_,.cons h t,i+1,e,he=>by obtain⟨c,h1,h2⟩:=t.at (i:=i) he;exact⟨c,h1,h2⟩
theorem oZ.len{G:AV}{H:Heap}{A:Nat->Prop}{c:LV}{e:Tt}(h:oZ G H A c e):c.length=9:=by cases h;rfl
def Oc(G:AV)(H:Heap)(A:Nat->Prop)(v:V)(sts:List Tt):Prop:=∃cs,El G H v 9 cs/\KS v/\Wi v=true/\BA v=[v]/\(∀id,v.Dl=some id->A id)/\Oh G H A cs sts
theorem Oc.mono{G:AV}{H H':Heap}{A B:Nat->Prop}{v:V}{es:List Tt}(h:Oc G H A v es)(hA:∀id,A id->B id)(hs:∀id,A id->T.get H' id=T.get H id):Oc G H' B v es:=by
 obtain⟨cs,h1,h2,h3,h4,h5,h6⟩:=h
 exact⟨cs,h1.same λid hid=>hs id (h5 id hid),h2,h3,h4,λid hid=>hA id (h5 id hid),h6.mono hA hs⟩
theorem Oc.nil{G:AV}{H:Heap}{A:Nat->Prop}:Oc G H A .Af []:=⟨[],AAY,vK,rfl,rfl,(λ_ h=>by cases h),.nil⟩
theorem oZ.of{G:AV}{H:Heap}{A:Nat->Prop}{does line col:Nat}{nm:St}{ty:Ty}{ve vt vl:V}{es:List Te}{th el:List Tt}(he:Ob G H A ve es)(ht:Oc G H A vt th)(hl:Oc G H A vl el):oZ G H A (ttC does line col nm ty ve vt vl) (.mk does nm ty es th el):=by
 obtain⟨ct,h1,h0,_,_,h2,h3⟩:=ht
 obtain⟨cl,k1,k0,_,_,k2,k3⟩:=hl
 exact .mk does nm ty line col he h1 h0 h2 h3 k1 k0 k2 k3
def Yy(x:ER):LV:=[x.nm.v,x.ty.nm.v,.bool x.ty.arr]
def lF(G:AV)(H:Heap)(A:Nat->Prop)(v:V)(xs:List ER):Prop:=El G H v 3 (xs.map Yy)/\KS v/\Wi v=true/\BA v=[v]/\(∀id,v.Dl=some id->A id)
theorem lF.mono{G:AV}{H H':Heap}{A B:Nat->Prop}{v:V}{xs:List ER}(h:lF G H A v xs)(hA:∀id,A id->B id)(hs:∀id,A id->T.get H' id=T.get H id):lF G H' B v xs:=
 ⟨h.1.same λid hid=>hs id (h.2.2.2.2 id hid),h.2.1,h.2.2.1,h.2.2.2.1,λid hid=>hA id (h.2.2.2.2 id hid)⟩
def tmC(line col:Nat)(nm:St)(st:Bool)(vp:V)(ty:Ty)(vb:V):LV:=[.int .i64 (.ofNat line) 0,.int .i64 (.ofNat col) 0,nm.v,.bool st,vp,ty.nm.v,.bool ty.arr,vb]
inductive ABs(G:AV)(H:Heap)(A:Nat->Prop):LV->Tm->Prop where
 |mk (line col:Nat) {nm:St} {st:Bool} {ty:Ty} {ps:List ER} {bd:List Tt} {vp vb:V} (hp:lF G H A vp ps) (hb:Oc G H A vb bd):ABs G H A (tmC line col nm st vp ty vb) ⟨nm,st,ps,ty,bd⟩
theorem ABs.mono{G:AV}{H H':Heap}{A B:Nat->Prop}{c:LV}{m:Tm}(hA:∀id,A id->B id)(hs:∀id,A id->T.get H' id=T.get H id)(h:ABs G H A c m):ABs G H' B c m:=by
 cases h with
 |mk line col hp hb=>exact .mk line col (hp.mono hA hs) (hb.mono hA hs)
theorem ABs.len{G:AV}{H:Heap}{A:Nat->Prop}{c:LV}{m:Tm}(h:ABs G H A c m):c.length=8:=by cases h;rfl
inductive PW(G:AV)(H:Heap)(A:Nat->Prop):CJ->List Tm->Prop where
 |nil:PW G H A [] []
 |cons {c:LV} {e:Tm} {cs:CJ} {es:List Tm} (h:ABs G H A c e) (t:PW G H A cs es):PW G H A (c::cs) (e::es)
theorem PW.mono{G:AV}{H H':Heap}{A B:Nat->Prop}(hA:∀id,A id->B id)(hs:∀id,A id->T.get H' id=T.get H id):∀{cs:CJ} {es:List Tm},PW G H A cs es->PW G H' B cs es
 |_,_,.nil=>.nil
 |_,_,.cons h t=>.cons (h.mono hA hs) (t.mono hA hs)
theorem PW.app{G:AV}{H:Heap}{A:Nat->Prop}:∀{cs:CJ} {es:List Tm} {cs':CJ} {es':List Tm},PW G H A cs es->PW G H A cs' es'->PW G H A (cs++cs') (es++es')
 |_,_,_,_,.nil,h=>h
 |_,_,_,_,.cons h t,h'=>.cons h (t.app h')
theorem PW.len{G:AV}{H:Heap}{A:Nat->Prop}:∀{cs:CJ} {es:List Tm},PW G H A cs es->cs.length=es.length
 |_,_,.nil=>rfl
 |_,_,.cons h t=>by simp[t.len]
theorem PW.at{G:AV}{H:Heap}{A:Nat->Prop}:∀{cs:CJ} {es:List Tm},PW G H A cs es->∀{i:Nat} {e:Tm},es[i]? =some e->∃c,cs[i]? =some c/\ABs G H A c e
 |_,_,.nil,i,e,h=>by simp at h
 |_,_,.cons h t,0,e,he=>by cases he;exact⟨_,rfl,h⟩
 |_,_,.cons h t,i+1,e,he=>by obtain⟨c,h1,h2⟩:=t.at (i:=i) he;exact⟨c,h1,h2⟩
def AG4(G:AV)(H:Heap)(A:Nat->Prop)(v:V)(ms:List Tm):Prop:=∃cs,El G H v 8 cs/\KS v/\Wi v=true/\BA v=[v]/\(∀id,v.Dl=some id->A id)/\PW G H A cs ms
theorem AG4.mono{G:AV}{H H':Heap}{A B:Nat->Prop}{v:V}{es:List Tm}(h:AG4 G H A v es)(hA:∀id,A id->B id)(hs:∀id,A id->T.get H' id=T.get H id):AG4 G H' B v es:=by
 obtain⟨cs,h1,h2,h3,h4,h5,h6⟩:=h
 exact⟨cs,h1.same λid hid=>hs id (h5 id hid),h2,h3,h4,λid hid=>hA id (h5 id hid),h6.mono hA hs⟩
def tcC(line col:Nat)(nm sup:St)(vf vm:V):LV:=[.int .i64 (.ofNat line) 0,.int .i64 (.ofNat col) 0,nm.v,sup.v,vf,vm]
inductive jC(G:AV)(H:Heap)(A:Nat->Prop):LV->Tc->Prop where
 |mk (line col:Nat) {nm sup:St} {fs:List ER} {ms:List Tm} {vf vm:V} (hf:lF G H A vf fs) (hm:AG4 G H A vm ms):jC G H A (tcC line col nm sup vf vm) ⟨nm,sup,fs,ms⟩
theorem jC.mono{G:AV}{H H':Heap}{A B:Nat->Prop}{c:LV}{m:Tc}(hA:∀id,A id->B id)(hs:∀id,A id->T.get H' id=T.get H id)(h:jC G H A c m):jC G H' B c m:=by
 cases h with
 |mk line col hf hm=>exact .mk line col (hf.mono hA hs) (hm.mono hA hs)
theorem jC.len{G:AV}{H:Heap}{A:Nat->Prop}{c:LV}{m:Tc}(h:jC G H A c m):c.length=6:=by cases h;rfl
theorem AMY(q:IntKind)(a b:Nat):B2.ev .leq (.int q (.ofNat a) 0) (.int q (.ofNat b) 0)=some (.bool (decide (a<=b))):=by
 show BF (band (keq q q) true) (mkB (ile (.ofNat a) (.ofNat b)))=_
 rw[TL,ACa,show band (keq q q) true=true by simp[NP],show decide (Int.ofNat a<=Int.ofNat b)=decide (a<=b)by rw[decide_eq_decide];show(a:Int)<=b↔_;omega];rfl
theorem ANW(q:IntKind)(a b:Nat):B2.ev .gtr (.int q (.ofNat a) 0) (.int q (.ofNat b) 0)=some (.bool (decide (b<a))):=by
 show BF (band (keq q q) true) (mkB (ilt (.ofNat b) (.ofNat a)))=_
 rw[TL,WS,show band (keq q q) true=true by simp[NP],show decide (Int.ofNat b<Int.ofNat a)=decide (b<a)by rw[decide_eq_decide];show(b:Int)<a↔_;omega];rfl
theorem AYv(q:IntKind)(x y:Int):Dw (.one .int) false (.int q x 0) (.int q y 0)=some (.bool (decide (x=y))):=by
 have e:Dw (.one .int) false (.int q x 0) (.int q y 0)=ofB (Qg (some (ieq x y)) λb=>some b):=by cases q<;>rfl
 rw[e,WU,show(x==y)=decide (x=y)by rw[Bool.eq_iff_iff];simp];cases decide (x=y)<;>rfl
theorem ATZ(q:IntKind)(x y:Int):Dw (.one .int) true (.int q x 0) (.int q y 0)=some (.bool (!decide (x=y))):=by
 have e:Dw (.one .int) true (.int q x 0) (.int q y 0)=ofB (Qg (some (ieq x y)) λb=>some (QD b)):=by cases q<;>rfl
 rw[e,WU,show(x==y)=decide (x=y)by rw[Bool.eq_iff_iff];simp];cases decide (x=y)<;>rfl
theorem Dy(q:IntKind)(x y:Nat):Dw (.one .int) false (.int q (.ofNat x) 0) (.int q (.ofNat y) 0)=some (.bool (decide (x=y))):=by
 rw[AYv];congr 2;rw[decide_eq_decide];show(x:Int)=y↔_;omega
theorem ADX(q:IntKind)(x y:Nat):Dw (.one .int) true (.int q (.ofNat x) 0) (.int q (.ofNat y) 0)=some (.bool (!decide (x=y))):=by
 rw[ATZ];congr 3;rw[decide_eq_decide];show(x:Int)=y↔_;omega
theorem AX7{a b:Nat}(hb:b<=a)(h:a<9223372036854775808):B2.ev .sub (.int .i64 (.ofNat a) 0) (.int .i64 (.ofNat b) 0)=some (.int .i64 (.ofNat (a-b)) 0):=by
 show some (V.int .i64 (YP .i64 (AFv (.ofNat a) (Int.neg (.ofNat b)))) 0)=_
 rw[Qn,kH]
 have e:Int.ofNat a+Int.neg (Int.ofNat b)=Int.ofNat (a-b):=by show(a:Int)+ -(b:Int)=((a-b:Nat):Int);omega
 rw[e,RG (by show(-9223372036854775808:Int)<=((a-b:Nat):Int);omega) (by show((a-b:Nat):Int)<9223372036854775808;omega)]
theorem AF5(q:IntKind)(a b:Nat):B2.ev .lss (.int q (.ofNat a) 0) (.int q (.ofNat b) 0)=some (.bool (decide (a<b))):=by
 show BF (band (keq q q) true) (mkB (ilt (.ofNat a) (.ofNat b)))=_
 rw[TL,WS,show band (keq q q) true=true by simp[NP],show decide (Int.ofNat a<Int.ofNat b)=decide (a<b)by rw[decide_eq_decide];show(a:Int)<b↔_;omega];rfl
def iP:Nat->List V->List (Nat×X)
 |_,[]=>[]
 |i,v::vs=>(i,.c v)::iP (i+1) vs
theorem ZJ{z m:Nat}:∀(vs:List V) (i:Nat),i+vs.length<=m->(∀v∈vs,Wi v=true/\(BA v).length=z)->TF (iP i vs) E0 z m=true
 |[],_,_,_=>rfl
 |v::vs,i,h,hv=>by
  show band (band (Wi v) (band (Nat.blt i m) (Nat.beq (len (BA v)) z))) (TF (iP (i+1) vs) E0 z m)=true
  obtain⟨h1,h2⟩:=hv v (List.mem_cons_self ..)
  rw[h1,len_eq,h2,show Nat.blt i m=true by rw[Nat.blt_eq];simp at h;omega,CQ,ZJ vs (i+1) (by simp at h;omega) λw hw=>hv w (List.mem_cons_of_mem _ hw)];rfl
theorem gZ:∀(vs:List V) (i:Nat) (t:T LV) (j:Nat),T.get (X8 (iP i vs) E0 t) j=if i<=j/\j<i+vs.length then(vs[j-i]?).map BA else T.get t j
 |[],i,t,j=>by rw[if_neg (by simp)];rfl
 |v::vs,i,t,j=>by
  show T.get (X8 (iP (i+1) vs) E0 (T.set t i (BA v))) j=_
  rw[gZ vs (i+1)]
  by_cases h1:i+1<=j/\j<i+1+vs.length
  ·rw[if_pos h1,if_pos (by rw[List.length_cons];omega)]
   rw[show j-i=(j-(i+1))+1 by omega,List.getElem?_cons_succ]
  ·rw[if_neg h1,T.KT]
   by_cases h2:i=j
   ·subst h2;rw[if_pos (by simp)];simp
   ·rw[if_neg h2,if_neg (by rw[List.length_cons];omega)]
theorem Ld{G:AV}{z m:Nat}{Z:LV}{vs:List V}{H:Heap}{n:Nat}{P:KV}(hm:vs.length=m)(hz:0<z)(hv:∀v∈vs,Wi v=true/\(BA v).length=z)
 (h:∀H',Kp H n H' (n+1)->(∃t,T.get H' n=some (.arr z m t))->El G H' (.sl n 0 m m z) z (vs.map BA)->P (.sl n 0 m m z) H' (n+1)):CB (Aj z m Z (iP 0 vs) E0) H n P:=by
 show EJ (TF (iP 0 vs) E0 z m) (DU n λn=>P (.sl n 0 m m z) (T.set H n (.arr z m (X8 (iP 0 vs) E0 (AL1 Z m .e)))) (Nat.succ n))
 rw[ZJ vs 0 (by omega) hv,UF,BL]
 refine h _ ((Kp.refl H n).new _ (Nat.le_refl _) (by omega)) ⟨_,T.Au ..⟩ ⟨rfl,?_⟩
 show(Bool.rec (motive:=λ_=>Option CJ) none (BZ _ n z m 0) (Nat.beq z z):Option CJ)=_
 rw[CQ]
 refine WY _ _ _ (by simp[hm]) λi c hc=>?_
 have hlt:i<m:=by have:=(List.getElem?_eq_some_iff.1 hc).1;simp at this;omega
 rw[Nat.zero_add,ABp (T.Au ..) hz hlt,gZ,if_pos ⟨by omega,by omega⟩,Nat.sub_zero]
 simpa using hc
theorem AN6{G:AV}{H:Heap}{id o m z:Nat}{LS:CJ}(h:BZ H id z m o=some LS):El G H (.G6 id o m z) z LS:=by
 refine⟨rfl,?_⟩
 show(Bool.rec (motive:=λ_=>Option CJ) none (BZ H id z m o) (Nat.beq z z):Option CJ)=some LS
 rw[CQ];exact h
theorem AUK{H:Heap}{id e c i:Nat}{t:T LV}{L new:LV}(hg:T.get H id=some (.arr e c t))(he:0<e)(hi:i<c)(ht:T.get t i=some L):stH H id (i*e) e new=some (T.set H id (.arr e c (T.set t i new))):=by
 unfold stH
 rw[hg]
 show Bl (stB e c t (i*e) e new) _=_
 unfold stB
 have hd:Nat.div (i*e) e=i:=Nat.mul_div_cancel i he
 have hm:Nat.mod (i*e) e=0:=Nat.mul_mod_left i e
 rw[hd,show Nat.blt i c=true by rw[Nat.blt_eq];exact hi]
 show Bl (Bl (T.get t i) (stC new e c t (i*e) e)) _=_
 rw[ht,QJ]
 unfold stC
 rw[hd,hm,CQ]
 rfl
theorem AZ1{H:Heap}{id e c i n:Nat}{t:T LV}{L:LV}{v:V}{P:KV}(hg:T.get H id=some (.arr e c t))(he:0<e)(hi:i<c)(ht:T.get t i=some L)(hv:Wi v=true)(hn:(BA v).length=e)
 (h:∀H',T.get H' id=some (.arr e c (T.set t i (BA v)))->(∀j,j≠id->T.get H' j=T.get H j)->P .undef H' n):Bd e (.ptr id (i*e)) v H n P:=by
 unfold Bd
 rw[hv,len_eq,hn,CQ,show stP (.ptr id (i*e)) H e (BA v)=stH H id (i*e) e (BA v)from rfl,AUK hg he hi ht]
 exact h _ (T.Au ..) λj hj=>T.Ad _ _ (Ne.symm hj)
theorem AZH{id o m z i:Nat}{q:IntKind}(h:i<m):BJ z (.G6 id o m z) (.int q (.ofNat i) 0)=some (.ptr id ((o+i)*z)):=by
 show BF (band (Nat.beq z z) (Nat.blt i m)) (CW (Nat.mul (Nat.add o i) z) λo=>some (.ptr id o))=_
 rw[CQ,show Nat.blt i m=true by rw[Nat.blt_eq];exact h,BP];rfl
theorem AFG{G:AV}{H:Heap}{n id m z bs:Nat}{t:T LV}{w:V}{LS NS:CJ}{k:KV}(hz:0<z)(hb:T.get H id=some (.arr z m t))(hid:id<n)(h:elems (.sl id 0 m m z) G H z=some LS)
 (hw:elems w G H z=some NS) (hr:(m+NS.length)*bs<=140737488355328)
 (hk:∀v' H' n',El G H' v' z (LS++NS)->(∀j,j<n->T.get H' j=T.get H j)->n<=n'->((∃l,v'=.sl id 0 l m z)∨∃l,v'=.G6 n 0 l z/\n<n')->k v' H' n'):Oq z bs (.sl id 0 m m z) w G H n k:=by
 unfold Oq
 rw[hw,Qe]
 have h2:(Bool.rec (motive:=λ_=>Option CJ) none (BZ H id z m 0) (Nat.beq z z):Option CJ)=some LS:=h
 rw[CQ]at h2
 have h2:BZ H id z m 0=some LS:=h2
 obtain⟨hl,hat⟩:=Kr _ _ h2
 have e0:AGA (.sl id 0 m m z) G z bs NS H n k=Bool.rec (motive:=λ_=>Prop) (EN (BZ H id z m 0) λOS=>Gv z bs OS NS H n k) (EN (T.get H id) λb=>YS id 0 m m z (m+NS.length) NS H n k b) (Nat.ble (m+NS.length) m):=by
  show EJ (Nat.beq z z) (DU (Nat.add m (len NS)) λneed=>Bool.rec (motive:=λ_=>Prop) (EN (BZ H id z m 0) λOS=>Gv z bs OS NS H n k) (EN (T.get H id) λb=>YS id 0 m m z need NS H n k b) (Nat.ble need m))=_
  rw[CQ,UF,BL,len_eq];rfl
 rw[e0]
 by_cases hN:NS.length=0
 ·have:NS=[]:=List.length_eq_zero_iff.1 hN
  subst this
  rw[show Nat.ble (m+([]:CJ).length) m=true by rw[Nat.ble_eq];exact Nat.le_refl _]
  show EN (T.get H id) (λb=>YS id 0 m m z (m+0) [] H n k b)
  rw[hb,Qe]
  show EJ (band (Nat.beq z z) (Nat.ble (Nat.add 0 (m+0)) m)) (k (.sl id 0 (m+0) m z) (T.set H id (.arr z m t)) n)
  rw[CQ,show Nat.ble (Nat.add 0 (m+0)) m=true by rw[Nat.ble_eq];show 0+m<=m;omega]
  have hs:∀j,T.get (T.set H id (.arr z m t)) j=T.get H j:=λj=>by
   rw[T.KT];split
   ·rename_i e;subst e;exact hb.symm
   ·rfl
  rw[List.append_nil]at hk
  exact hk _ _ _ ((show El G H (.sl id 0 m m z) z LS from⟨rfl,h⟩).same λj _=>hs j) (λj _=>hs j) (Nat.le_refl _) (.inl ⟨_,rfl⟩)
 ·rw[show Nat.ble (m+NS.length) m=false by rw[Bool.eq_false_iff];intro hc;rw[Nat.ble_eq]at hc;omega]
  show EN (BZ H id z m 0) (λOS=>Gv z bs OS NS H n k)
  rw[h2,Qe]
  show DU (Nat.add (len LS) (len NS)) (λneed=>EJ (Lm need bs) (DU n λn=>k (.G6 n 0 need z) (T.set H n (.arr z need (Ew NS (len LS) (Ew LS 0 .e)))) (Nat.succ n)))
  rw[BL,BL,len_eq,len_eq,show Lm (Nat.add LS.length NS.length) bs=true from Pj (by rw[hl];exact hr),UF]
  have e:Nat.add LS.length NS.length=(LS++NS).length:=by rw[List.length_append];rfl
  rw[e]
  refine hk _ _ _ (Gr.el (m:=n) (.G6 (LS:=LS++NS) (T.Au ..) (Nat.le_refl _) (λi L hi=>?_) (Nat.le_refl _)) hz) (λj hj=>T.Ad _ _ (by omega)) (by omega) (.inr ⟨_,rfl,by omega⟩)
  rw[D9,D9]
  by_cases hlt:i<LS.length
  ·rw[if_neg (by omega),if_pos ⟨Nat.zero_le _,by omega⟩]
   rw[List.getElem?_append_left hlt]at hi
   exact hi
  ·rw[List.getElem?_append_right (by omega)]at hi
   have hlt2:=(List.getElem?_eq_some_iff.1 hi).1
   rw[if_pos ⟨by omega,by omega⟩];exact hi
theorem aP{G:AV}{H:Heap}{m n z bs:Nat}{v w:V}{LS NS:CJ}{k:KV}(h:Gr G H m z v LS)(hm:m<=n)(hn:∀id,v.Dl=some id->id<n)(hw:elems w G H z=some NS)
 (hb:(LS.length+NS.length)*bs<=140737488355328)
 (hk:∀v' H',Gr G H' m z v' (LS++NS)->(∀id,id<n->v.Dl≠some id->T.get H' id=T.get H id)->(∀id,v'.Dl=some id->id=n)->k v' H' (n+1))
 (hk0:NS=[]->k v H n):Oq z bs v w G H n k:=by
 unfold Oq
 rw[hw,Qe]
 cases h with
 |nil=>
  cases NS with
  |nil=>exact hk0 rfl
  |cons a NS=>
   show Gv z bs [] (a::NS) H n k
   unfold Gv
   rw[BL,BL,len_eq,len_eq,show Lm (Nat.add ([]:CJ).length (a::NS).length) bs=true from Pj hb,UF]
   have e:Nat.add ([]:CJ).length (a::NS).length=(a::NS).length:=Nat.zero_add _
   rw[e]
   refine hk _ _ ?_ (λid hid _=>T.Ad _ _ (by omega)) (λid hid=>by cases hid;rfl)
   refine .G6 (LS:=a::NS) (T.Au ..) (Nat.le_refl _) (λi L hi=>?_) hm
   show T.get (Ew (a::NS) 0 .e) i=some L
   have hlt:=(List.getElem?_eq_some_iff.1 hi).1
   rw[D9,if_pos ⟨Nat.zero_le _,by omega⟩];exact hi
 |G6 hg hc ht hid=>
  rename_i id c t
  show EJ (Nat.beq z z) _
  rw[CQ,UF]
  cases NS with
  |nil=>exact hk0 rfl
  |cons a NS=>
   show EN (T.get H id) (λb=>Yx id 0 LS.length z bs (a::NS) H n k b)
   rw[hg,Qe]
   rw[AEo (Pj hb) hc,show LS.length+(a::NS).length=(LS++a::NS).length by rw[List.length_append]]
   refine hk _ _ ?_ (λj hj hne=>?_) (λj hj=>by cases hj;rfl)
   ·refine .G6 (LS:=LS++a::NS) (T.Au ..) (Nat.le_refl _) (λi L hi=>?_) hm
    rw[D9]
    by_cases hlt:i<LS.length
    ·rw[if_neg (by omega)]
     rw[List.getElem?_append_left hlt]at hi
     exact ht i L hi
    ·rw[List.getElem?_append_right (by omega)]at hi
     have hlt2:=(List.getElem?_eq_some_iff.1 hi).1
     rw[if_pos ⟨by omega,by omega⟩];exact hi
   ·rw[T.Ad _ _ (by omega),T.Ad _ _ (by intro e;subst e;exact hne rfl)]
theorem Ph{G:AV}{H:Heap}{m z:Nat}{v:V}{LS:CJ}(h:Gr G H m z v LS):EU v v=true/\Wi v=true/\BA v=[v]:=by
 cases h with
 |nil=>exact⟨rfl,rfl,rfl⟩
 |G6=>exact⟨by simp[EU,AFr,BO],rfl,rfl⟩
theorem AB{e:Option V}{v:V}{P:V->Prop}(h:e=some v)(hp:P v):AP e P:=by rw[h];exact hp
theorem CX{v:V}{P:Prop}(h:BH v v=true)(hp:P):EJ (BH v v) P:=by rw[h];exact hp
theorem Aco{e:Option V}{a:V}{P:Prop}(h:e=some a)(hv:BH a a=true)(hp:P):AJw (.bool true) true e a P:=by
 subst h
 show EJ (BH a a) P
 rw[hv];exact hp
theorem AXX{e:Option V}{a:V}{P:Prop}(h:e=some a)(hv:BH a a=true)(hp:P):AJw (.bool false) false e a P:=by
 subst h
 show EJ (BH a a) P
 rw[hv];exact hp
theorem xW{e:Option V}{a:V}{P:V->Prop}(h:e=some a)(hp:P a):BX (.bool true) true e P:=by rw[AWP];exact AB h hp
theorem o9{e:Option V}{a:V}{P:V->Prop}(h:e=some a)(hp:P a):BX (.bool false) false e P:=by rw[AWu];exact AB h hp
theorem AQO{t:KV->Prop}{H:Heap}{n:Nat}{Q:KV}(hp:t Q):Le (.bool true) true t H n Q:=hp
theorem APw{t:KV->Prop}{H:Heap}{n:Nat}{Q:KV}(hp:t Q):Le (.bool false) false t H n Q:=hp
theorem Bf{H:Heap}{n m b:Nat}{L0 L:LV}{P:KV}(g:T.get H b=some (one L0))(h0:L0.length=m)(h1:L.length=m)(hm:0<m)(h:∀H',T.get H' b=some (one L)->(∀j,j≠b->T.get H' j=T.get H j)->P .undef H' n):
 Bd m (.ptr b 0) (.agg L) H n P:=by
 rw[IY g hm h0 h1];exact h _ (T.Au ..) λj hj=>T.Ad _ _ (Ne.symm hj)
theorem Acx(a b c d e:Nat):BH (.sl a b c d e) (.sl a b c d e)=true:=by
 show EU (.sl a b c d e) (.sl a b c d e)=true
 simp[EU,APl,BO]
theorem Aa7(a b c d:Nat):BH (.G6 a b c d) (.G6 a b c d)=true:=by
 show EU (.G6 a b c d) (.G6 a b c d)=true
 simp[EU,AFr,BO]
theorem ABE{G:AV}{H:Heap}{n id z bs:Nat}{t:T LV}{w:V}{a:LV}{NS:CJ}{k:KV}(hz:0<z)(hw:elems w G H z=some (a::NS))(hr:(a::NS).length*bs<=140737488355328)
 (hk:∀v' H',Gr G H' 0 z v' (a::NS)->(∀j,j<n->T.get H' j=T.get H j)->(∀i,v'.Dl=some i->i=n)->k v' H' (n+1)):Oq z bs (.sl id 0 0 0 z) w G H n k:=by
 unfold Oq
 rw[hw,Qe]
 have e0:AGA (.sl id 0 0 0 z) G z bs (a::NS) H n k=Bool.rec (motive:=λ_=>Prop) (EN (BZ H id z 0 0) λOS=>Gv z bs OS (a::NS) H n k) (EN (T.get H id) λb=>YS id 0 0 0 z (0+(a::NS).length) (a::NS) H n k b) (Nat.ble (0+(a::NS).length) 0):=by
  show EJ (Nat.beq z z) (DU (Nat.add 0 (len (a::NS))) λneed=>Bool.rec (motive:=λ_=>Prop) (EN (BZ H id z 0 0) λOS=>Gv z bs OS (a::NS) H n k) (EN (T.get H id) λb=>YS id 0 0 0 z need (a::NS) H n k b) (Nat.ble need 0))=_
  rw[CQ,UF,BL,len_eq];rfl
 rw[e0,show Nat.ble (0+(a::NS).length) 0=false by rw[Bool.eq_false_iff];intro hc;rw[Nat.ble_eq]at hc;simp at hc]
 show EN (some []) (λOS=>Gv z bs OS (a::NS) H n k)
 rw[Qe]
 unfold Gv
 rw[BL,BL,len_eq,len_eq,show Lm (Nat.add ([]:CJ).length (a::NS).length) bs=true from Pj (by rw[show Nat.add ([]:CJ).length (a::NS).length=(a::NS).length from Nat.zero_add _];exact hr),UF]
 have e:Nat.add ([]:CJ).length (a::NS).length=(a::NS).length:=Nat.zero_add _
 rw[e]
 refine hk _ _ ?_ (λj hj=>T.Ad _ _ (by omega)) (λi hi=>by cases hi;rfl)
 refine .G6 (LS:=a::NS) (T.Au ..) (Nat.le_refl _) (λi L hi=>?_) (Nat.zero_le _)
 show T.get (Ew (a::NS) 0 .e) i=some L
 have hlt:=(List.getElem?_eq_some_iff.1 hi).1
 rw[D9,if_pos ⟨Nat.zero_le _,by omega⟩];exact hi
inductive Sk(H:Heap)(z:Nat)(A:Nat->Prop):V->CJ->Prop where
 |nil:Sk H z A .Af []
 |emp {id:Nat} {t:T LV} (hg:T.get H id=some (.arr z 0 t)) (ha:A id):Sk H z A (.sl id 0 0 0 z) []
 |G6 {id c:Nat} {t:T LV} {LS:CJ} (hg:T.get H id=some (.arr z c t)) (hc:LS.length<=c) (ht:∀i L,LS[i]? =some L->T.get t i=some L) (ha:A id):Sk H z A (.G6 id 0 LS.length z) LS
section
variable{G:AV}{H H':Heap}{z n:Nat}{A B:Nat->Prop}{v:V}{LS:CJ}
theorem Sk.own(h:Sk H z A v LS){id:Nat}(hid:v.Dl=some id):A id:=by cases h<;>cases hid<;>assumption
theorem Sk.mono(h:Sk H z A v LS)(hA:∀id,A id->B id)(hs:∀id,A id->T.get H' id=T.get H id):Sk H' z B v LS:=by
 cases h with
 |nil=>exact .nil
 |emp hg ha=>exact .emp ((hs _ ha).trans hg) (hA _ ha)
 |G6 hg hc ht ha=>exact .G6 ((hs _ ha).trans hg) hc ht (hA _ ha)
theorem Sk.aJ(h:Sk H z A v LS)(hA:∀id,v.Dl=some id->B id)(hs:∀id,v.Dl=some id->T.get H' id=T.get H id):Sk H' z B v LS:=by
 cases h with
 |nil=>exact .nil
 |emp hg ha=>exact .emp ((hs _ rfl).trans hg) (hA _ rfl)
 |G6 hg hc ht ha=>exact .G6 ((hs _ rfl).trans hg) hc ht (hA _ rfl)
theorem Sk.el(h:Sk H z A v LS)(hz:0<z):El G H v z LS:=by
 cases h with
 |nil=>exact⟨rfl,rfl⟩
 |emp hg ha=>
  refine⟨rfl,?_⟩
  show(Bool.rec (motive:=λ_=>Option CJ) none (BZ H _ z 0 0) (Nat.beq z z):Option CJ)=some []
  rw[CQ];rfl
 |G6 hg hc ht ha=>exact AN6 (WY _ _ _ rfl λi c hi=>by
  have hlt:=(List.getElem?_eq_some_iff.1 hi).1
  rw[Nat.zero_add,ABp hg hz (by omega)];exact ht i c hi)
theorem Sk.ok(h:Sk H z A v LS):Wi v=true/\BA v=[v]/\BH v v=true:=by
 cases h with
 |nil=>exact⟨rfl,rfl,rfl⟩
 |emp=>exact⟨rfl,rfl,Acx ..⟩
 |G6=>exact⟨rfl,rfl,Aa7 ..⟩
theorem Sk.put{i:Nat}{q:IntKind}{w:V}{P:KV}(h:Sk H z A v LS)(hz:0<z)(hi:i<LS.length)(hw:Wi w=true)(hn:(BA w).length=z)
 (hk:∀H',Sk H' z A v (LS.set i (BA w))->(∀j,v.Dl≠some j->T.get H' j=T.get H j)->P .undef H' n):AP (BJ z v (.int q (.ofNat i) 0)) λp=>Bd z p w H n P:=by
 cases h with
 |nil=>simp at hi
 |emp=>simp at hi
 |G6 hg hc ht ha=>
  rename_i id c t
  refine AB (AZH hi) ?_
  rw[Nat.zero_add]
  refine AZ1 hg hz (by omega) (ht i _ (List.getElem?_eq_getElem hi)) hw hn λH' g s=>?_
  refine hk H' ?_ λj hj=>s j λe=>hj (by rw[e];rfl)
  have hl:(LS.set i (BA w)).length=LS.length:=by simp
  rw[<-hl]
  refine .G6 g (by rw[hl];exact hc) (λj L hj=>?_) ha
  by_cases e:i=j
  ·subst e
   rw[List.getElem?_set_self hi]at hj
   rw[T.Au];exact hj
  ·rw[List.getElem?_set_ne e]at hj
   rw[T.Ad _ _ e];exact ht j L hj
theorem Sk.app{bs m:Nat}{c:V}{P:KV}{Z:LV}(h:Sk H z A v LS)(hn:∀id,v.Dl=some id->id<n)(hz:0<z)(hok:Wi c=true)(hc:(BA c).length=z)(hb:(LS.length+1)*bs<=140737488355328)
 (hk:∀v' H',(∀B:Nat->Prop,B (n+1)->Sk H' z B v' (LS++[BA c]))->(∀id,id<n->v.Dl≠some id->T.get H' id=T.get H id)->v'.Dl=some (n+1)->P v' H' (n+2)):
 CB (Aj z 1 Z [(0,.c c)] E0) H n λw H n=>Oq z bs v w G H n P:=by
 refine Ld (G:=G) (vs:=[c]) rfl hz (λv hv=>by simp at hv;subst hv;exact⟨hok,hc⟩) λH6 f6 _ hel=>?_
 have fin:∀{v':V} {H7:Heap},Gr G H7 0 z v' (LS++[BA c])->(∀id,v'.Dl=some id->id=n+1)->v'.Dl=some (n+1)/\∀B:Nat->Prop,B (n+1)->Sk H7 z B v' (LS++[BA c]):=by
  intro v' H7 hgr hlo
  generalize hX:LS++[BA c]=X at hgr
  cases hgr with
  |nil=>simp at hX
  |G6 hg hc ht hid=>
   have e:=hlo _ rfl
   subst e
   exact⟨rfl,λB hB=>.G6 hg hc ht hB⟩
 cases h with
 |nil=>
  refine aP (m:=0) .nil (by omega) (λ_ h=>by cases h) hel.2 hb ?_ (λh=>by cases h)
  intro v' H7 hgr hsame hlo
  obtain⟨q1,q2⟩:=fin (v':=v') hgr hlo
  exact hk v' H7 q2 (λid h1 h2=>(hsame id (by omega) h2).trans (f6.same id h1)) q1
 |emp hg ha=>
  rename_i id t
  have hid:=hn id rfl
  refine ABE (t:=t) hz hel.2 (by simpa using hb) ?_
  intro v' H7 hgr hsame hlo
  obtain⟨q1,q2⟩:=fin (v':=v') hgr hlo
  exact hk v' H7 q2 (λid h1 h2=>(hsame id (by omega)).trans (f6.same id h1)) q1
 |G6 hg hc' ht ha=>
  rename_i id c' t
  have hid:=hn id rfl
  have hgr:Gr G H6 0 z (.G6 id 0 LS.length z) LS:=.G6 ((f6.same id hid).trans hg) hc' ht (Nat.zero_le _)
  refine aP (m:=0) hgr (by omega) (λj h=>by cases h;omega) hel.2 hb ?_ (λh=>by cases h)
  intro v' H7 hgr hsame hlo
  obtain⟨q1,q2⟩:=fin (v':=v') hgr hlo
  exact hk v' H7 q2 (λid h1 h2=>(hsame id (by omega) h2).trans (f6.same id h1)) q1
end
theorem Ty.ASZ{a b:Ty}:a.is b=true↔a=b:=by
 cases a with
 |mk n r=>
 cases b with
 |mk m s=>
 simp only[Ty.is,Bool.and_eq_true,decide_eq_true_eq,beq_iff_eq,Ty.mk.injEq]
 constructor
 ·rintro⟨⟨h1,h2⟩,h3⟩;exact⟨Prod.ext h1 h2,h3⟩
 ·rintro⟨rfl,rfl⟩;exact⟨⟨rfl,rfl⟩,rfl⟩
theorem Ty.AUq(a:Ty):a.is a=true:=Ty.ASZ.2 rfl
def Aab:Ty:=⟨(0,0),false⟩
def DZ:Ty:=⟨(3,7630441),false⟩
def Df:Ty:=⟨(4,1819242338),false⟩
def bP:Ty:=⟨(4,1819047278),false⟩
def Ty.cls(t:Ty):Bool:=isClass t.nm.1 t.nm.2 t.arr
def Ty.obj(t:Ty):Bool:=t.arr||(t.cls||t.is bP)
def ASP(fs:Tab)(a b:St):Bool:=AD4 b (above fs a).1
def fitsT(fs:Tab)(a b:Ty):Bool:=bif a.is b then true else bif a.is bP then b.obj else a.cls&&(b.cls&&ASP fs a.nm b.nm)
def Whole(fs:Tab):Prop:=∀s c,JV fs s=some c->(above fs s).2=true
section
variable{fs:Tab}(hw:Whole fs)
include hw
end
def Upper(fs:Tab):Prop:=∀s c,JV fs s=some c->upper s.1 s.2=true
section
variable{fs:Tab}(hw:Whole fs)
include hw
variable(hu:Upper fs)
include hu
end
structure Sta where
 loc:List Ty
 stk:List Ty
def AOH(t:Ty):Ty:=⟨t.nm,false⟩
inductive Le2(R:Ty->Ty->Prop):List Ty->List Ty->Prop
 |nil:Le2 R [] []
 |cons {a b:Ty} {l m:List Ty} (h:R a b) (t:Le2 R l m):Le2 R (a::l) (b::m)
def Acb(fs:Tab)(a b:Ty):Prop:=fitsT fs a b=true
def AdK(fs:Tab)(a b:Ty):Prop:=b=Aab∨fitsT fs a b=true
def Sta.le(fs:Tab)(s t:Sta):Prop:=Le2 (AdK fs) s.loc t.loc/\Le2 (Acb fs) s.stk t.stk
section
variable{fs:Tab}(hw:Whole fs)
include hw
end
theorem vO{G:AV}{H:Heap}{n:Nat}{k:KV}(hk:∀H' n',Kp H n H' n'->k bP.v H' n'):Runs F G SK [] H n k:=by
 refine go0 (AFx Aq G) ?_
 delta yG
 simp only[go_sem,Nat.reduceAdd,show BN [.str 0 0,.bool false] [(0,1,.c (.str 4 1819047278))]=some (.agg [.str 4 1819047278,.bool false])from rfl]
 exact hk _ _ (((Kp.refl H n).new (m:=n+1) _ (Nat.le_refl _) (by omega)).new _ (Nat.le_refl _) (Nat.le_refl _))
theorem ABX{G:AV}{H:Heap}{n:Nat}{k:KV}(hk:∀H' n',Kp H n H' n'->k DZ.v H' n'):Runs F G Lp [] H n k:=by
 refine go0 (AFO Aq G) ?_
 delta AB9
 simp only[go_sem,Nat.reduceAdd,show BN [.str 0 0,.bool false] [(0,1,.c (.str 3 7630441))]=some (.agg [.str 3 7630441,.bool false])from rfl]
 exact hk _ _ (((Kp.refl H n).new (m:=n+1) _ (Nat.le_refl _) (by omega)).new _ (Nat.le_refl _) (Nat.le_refl _))
theorem jw{G:AV}{H:Heap}{n:Nat}{k:KV}(hk:∀H' n',Kp H n H' n'->k Df.v H' n'):Runs F G KO [] H n k:=by
 refine go0 (ADc Aq G) ?_
 delta zJ
 simp only[go_sem,Nat.reduceAdd,show BN [.str 0 0,.bool false] [(0,1,.c (.str 4 1819242338))]=some (.agg [.str 4 1819242338,.bool false])from rfl]
 exact hk _ _ (((Kp.refl H n).new (m:=n+1) _ (Nat.le_refl _) (by omega)).new _ (Nat.le_refl _) (Nat.le_refl _))
theorem Gp{G:AV}{H:Heap}{i:Nat}{t:Ty}(h:T.get H i=some (one t.cells)):Ah 2 (.ptr i 0) G H=some t.v:=Aw h (by omega) rfl
theorem DK(i o:Nat):AQ 0 (.ptr i o)=some (.ptr i o):=by simp only[go_sem];rfl
theorem AZL{G:AV}{t:Ty}{H:Heap}{n:Nat}{k:KV}(hk:∀H' n',Kp H n H' n'->k (AOH t).v H' n'):Runs F G lZ [t.v] H n k:=by
 refine go1 (ACW Aq G) ?_
 delta lW
 refine Ei λH1 f1 g1=>?_
 refine Ar rfl λH2 f2 g2=>?_
 have g1':=f2.get g1 (by omega)
 simp only[go_sem,Nat.reduceAdd,AX (off:=0) g1' (v:=t.nm.v) rfl,show BN [.str 0 0,.bool false] [(0,1,.c t.nm.v)]=some (.agg (AOH t).cells)from rfl]
 rw[IY (m:=2) g2 (by omega) rfl rfl,BU (m:=2) (T.Au ..) (by omega) rfl]
 exact hk _ _ ((f1.trans f2).new _ (by omega) (Nat.le_refl _))
theorem AKI{G:AV}{t:Ty}(hl:t.nm.ok){H:Heap}{n:Nat}{k:KV}(hk:∀H' n',Kp H n H' n'->k (.bool t.cls) H' n'):Runs F G EF [t.v] H n k:=ABM hl hk
theorem iK(t:Ty):BH t.v t.v=true:=by
 show band (band (Nat.beq t.nm.1 t.nm.1) (Nat.beq t.nm.2 t.nm.2)) (band (AF1 (.bool t.arr) t.arr) true)=true
 obtain⟨⟨l,c⟩,r⟩:=t
 cases r<;>simp[AF1,BO]<;>rfl
theorem AU6:bP.nm.ok:=by intro h;cases h
theorem AE9{G:AV}{t:Ty}(hl:t.nm.ok){H:Heap}{n:Nat}{k:KV}(hk:∀H' n',Kp H n H' n'->k (.bool t.obj) H' n'):Runs F G QH [t.v] H n k:=by
 refine go1 (zk Aq G) ?_
 delta aV
 refine Ei λH1 f1 g1=>?_
 unfold Ty.obj at hk
 simp only[go_sem,Nat.reduceAdd,AX (off:=1) g1 (v:=.bool t.arr) rfl]
 cases h1:t.arr with
 |true=>
  rw[h1]at hk
  simp only[go_sem]
  exact hk _ _ f1
 |false=>
  rw[h1]at hk
  simp only[go_sem,Gp g1]
  refine AKI hl λH2 n2 f2=>?_
  have f3:=f1.trans f2
  have g2:=f2.get g1 (by omega)
  cases h2:t.cls with
  |true=>
   rw[h2]at hk
   simp only[go_sem]
   exact hk _ _ f3
  |false=>
   rw[h2]at hk
   simp only[go_sem,Gp g2]
   refine vO λH4 n4 f4=>?_
   have f5:=f3.trans f4
   have g4:=f4.get g2 (by have:=f2.le;omega)
   refine AXX (Gp g4) (iK t) ?_
   simp only[go_sem,AFj]
   exact hk _ _ f5
theorem AUO{G:AV}{H:Heap}{n n0 t a b:Nat}{fs:Tab}(h:TabAt G H n0 t a b fs)(hn:n0<=n)(hfs:fs.length<=1000){x y:St}{k:KV}
 (hk:∀H' n',Kb b H n H' n'->k (.bool (ASP fs x y)) H' n'):Runs F G Zo [.ptr t 0,x.v,y.v] H n k:=by
 refine go3 (xq Aq G) ?_
 delta Z4
 have h:=h.kb (f:=⟨hn,λ_ _ _=>rfl,λh=>h⟩)
 refine ABl h hfs λH2 n2 v f2 ho hlen=>?_
 simp only[go_sem]
 refine AAR (ho.el (by omega)) (by omega) ?_
 exact hk _ _ f2
theorem AMa{G:AV}{H:Heap}{n n0 t a b:Nat}{fs:Tab}(h:TabAt G H n0 t a b fs)(hn:n0<=n)(hfs:fs.length<=1000){x y:Ty}(hx:x.nm.ok)(hy:y.nm.ok){k:KV}
 (hk:∀H' n',Kb b H n H' n'->k (.bool (fitsT fs x y)) H' n'):Runs F G Jb [.ptr t 0,x.v,y.v] H n k:=by
 refine go3 (AAb Aq G) ?_
 delta bD
 have h:=h.kb (f:=⟨hn,λ_ _ _=>rfl,λh=>h⟩)
 have hbn:=h.bn
 unfold fitsT at hk
 refine Ei λH1 f1 g1=>?_
 refine Ei λH2 f2 g2=>?_
 have f3:=(f1.trans f2).kb (b:=b) hbn
 have g1:=f2.get g1 (by omega)
 simp only[go_sem,Gp g1,Gp g2,AFj]
 cases h1:x.is y with
 |true=>
  rw[h1]at hk
  simp only[go_sem]
  exact hk _ _ f3
 |false=>
  rw[h1]at hk
  simp only[go_sem,Gp g1]
  refine vO λH4 n4 f4=>?_
  have f5:=f3.trans (f4.kb (by omega))
  have g1:=f4.get g1 (by omega)
  have g2:=f4.get g2 (by omega)
  have hn4:=f4.le
  rw[Gp g1,AU,iK,UF]
  simp only[go_sem,AFj]
  cases h2:x.is bP with
  |true=>
   rw[h2]at hk
   simp only[go_sem,Gp g2]
   refine AE9 hy λH6 n6 f6=>?_
   exact hk _ _ (f5.trans (f6.kb (by omega)))
  |false=>
   rw[h2]at hk
   simp only[go_sem,Gp g1]
   refine AKI hx λH6 n6 f6=>?_
   have f7:=f5.trans (f6.kb (by omega))
   have g1:=f6.get g1 (by omega)
   have g2:=f6.get g2 (by omega)
   have hn6:=f6.le
   cases h3:x.cls with
   |false=>
    rw[h3]at hk
    simp only[go_sem]
    exact hk _ _ f7
   |true=>
    rw[h3]at hk
    simp only[go_sem,Gp g2]
    refine AKI hy λH8 n8 f8=>?_
    have f9:=f7.trans (f8.kb (by omega))
    have g1:=f8.get g1 (by omega)
    have g2:=f8.get g2 (by omega)
    have hn8:=f8.le
    cases h4:y.cls with
    |false=>
     rw[h4]at hk
     simp only[go_sem]
     exact hk _ _ f9
    |true=>
     rw[h4]at hk
     simp only[go_sem,Nat.reduceAdd,AX (off:=0) g1 (v:=x.nm.v) rfl,AX (off:=0) g2 (v:=y.nm.v) rfl]
     refine AUO (h.kb f9) (Nat.le_refl _) hfs λH10 n10 f10=>?_
     exact hk _ _ (f9.trans f10)
def ACF:St:=(2,15677)
def ACA:St:=(2,15649)
def AGE:St:=(1,60)
def AEe:St:=(2,15676)
def JF(s:St):List ER->Option Ty
 |[]=>none
 |f::l=>bif decide (f.nm=s)then some f.ty else JF s l
structure Kx where
 tb:Tab
 cls:St
 st:Bool
 ret:Ty
def AGi(tb:Tab):List Ty->List Ty->Bool
 |[],[]=>true
 |a::l,p::ps=>fitsT tb a p&&AGi tb l ps
 |_,_=>false
def iY(b:Bool)(t:Ty)(w:St):Option (Ty×St):=bif b then some (t,w)else none
def ABT(x:Kx)(c:Ty)(nm:St)(st:Bool)(args:List Ty):Option (Ty×St):=
 bif DR x.tb c then
  match Xr x.tb c.nm nm st with
  |some (o,s)=>iY (AGi x.tb args s.ps) s.ret o
  |none=>none
 else none
def yw(x:Kx)(Γ:List ER)(kind:Nat)(nm:St)(ty:Ty)(ks:List Ty):Option (Ty×St):=
 match kind,ks with
 |1,[]=>some (DZ,(0,0))
 |2,[]=>some (Df,(0,0))
 |3,[]=>some (Df,(0,0))
 |4,[]=>some (bP,(0,0))
 |5,[]=>iY (!x.st) ⟨x.cls,false⟩ (0,0)
 |6,[]=>(JF nm Γ).map λt=>(t,(0,0))
 |7,[c]=>bif c.cls&&DR x.tb c then(ACO x.tb c.nm nm).map λp=>(p.2,p.1)else none
 |8,c::gs=>bif c.cls then ABT x c nm false gs else none
 |9,gs=>ABT x ty nm true gs
 |10,[]=>iY (DR x.tb ty) ty (0,0)
 |11,[k]=>iY (k.is DZ&&DR x.tb ty) ⟨ty.nm,true⟩ (0,0)
 |12,[a,i]=>iY (a.arr&&i.is DZ) (AOH a) (0,0)
 |13,[a]=>iY a.arr DZ (0,0)
 |14,[a]=>iY (a.is DZ) DZ (0,0)
 |15,[a]=>iY (a.is Df) Df (0,0)
 |16,[a,b]=>
  bif decide (nm=ACF)||decide (nm=ACA)then iY (a.is b||(a.obj&&b.obj)) Df (0,0)
  else iY (a.is DZ&&b.is DZ) (bif decide (nm=AGE)||decide (nm=AEe)then Df else DZ) (0,0)
 |17,[a,b]=>iY (a.is Df&&b.is Df) Df (0,0)
 |18,[a,b]=>iY (a.is Df&&b.is Df) Df (0,0)
 |19,[a]=>iY ((a.cls||a.is bP)&&DR x.tb ty) ty (0,0)
 |20,[a]=>iY ((a.cls||a.is bP)&&DR x.tb ty) Df (0,0)
 |_,_=>none
def okS(s:St):Bool:= !(decide (s.1=0))||decide (s.2=0)
def mbr(kind:Nat):Bool:=decide (kind=7)||(decide (kind=8)||decide (kind=9))
def gdE(kind:Nat)(ty:Ty)(own:St):Bool:=okS ty.nm&&(mbr kind||decide (own=(0,0)))
mutual
def ckE(x:Kx)(Γ:List ER):Te->Option Te
 |.mk kind num nm ty _ own kids=>bif gdE kind ty own then(ckL x Γ kids).bind λks=>(yw x Γ kind nm ty (ks.map Te.of)).map λp=>.mk kind num nm ty p.1 p.2 ks else none
def ckL(x:Kx)(Γ:List ER):List Te->Option (List Te)
 |[]=>some []
 |e::l=>(ckE x Γ e).bind λe'=>(ckL x Γ l).map λl'=>e'::l'
end
abbrev Gs:=List ER×Nat
def AMN(v:ER)(g:Gs):Option Gs:=bif (JF v.nm g.1).isNone&&decide (g.2<200)then some (g.1++[v],g.2+1)else none
def AGl(x:Kx)(does:Nat)(nm:St)(ty:Ty)(es:List Ty)(g:Gs):Option Gs:=
 match does,es with
 |1,[a]=>bif fitsT x.tb a ty then AMN ⟨nm,ty⟩ g else none
 |2,[a,b]=>bif fitsT x.tb b a then some g else none
 |3,[_]=>some g
 |4,[a]=>bif a.is Df then some g else none
 |5,[a]=>bif a.is Df then some g else none
 |6,[a]=>bif fitsT x.tb a x.ret then some g else none
 |7,[a]=>bif a.is DZ then some g else none
 |_,_=>none
def szB(l:List Tt):Bool:=decide (l.length<=1000)
mutual
def ckS(x:Kx):Tt->Gs->Option (Tt×Gs)
 |.mk does nm ty es th el,g=>
  bif decide (does=1)&& !DR x.tb ty then none else
  (ckL x g.1 es).bind λes'=>(AGl x does nm ty (es'.map Te.of) g).bind λg1=>
   bif decide (does=4)||decide (does=5)then bif szB th&&szB el then(uU x th g1).bind λp=>(uU x el (g1.1,p.2)).map λq=>(.mk does nm ty es' p.1 q.1,(g1.1,q.2))else none
   else bif th.isEmpty&&el.isEmpty then some (.mk does nm ty es' th el,g1)else none
def uU(x:Kx):List Tt->Gs->Option (List Tt×Nat)
 |[],g=>some ([],g.2)
 |s::l,g=>(ckS x s g).bind λp=>(uU x l p.2).map λq=>(p.1::q.1,q.2)
end
def AEt:List ER->Gs->Option Gs
 |[],g=>some g
 |v::l,g=>(AMN v g).bind (AEt l)
def ckM(tb:Tab)(cls:St)(m:Tm):Option Tm:=
 bif szB m.body then(AEt m.ps ([],0)).bind λg=>(uU ⟨tb,cls,m.st,m.ret⟩ m.body g).map λq=>{m with body:=q.1}else none
def AFV(tb:Tab)(cls:St):List Tm->Option (List Tm)
 |[]=>some []
 |m::l=>(ckM tb cls m).bind λm'=>(AFV tb cls l).map λl'=>m'::l'
def ckC(tb:Tab)(c:Tc):Option Tc:=(AFV tb c.nm c.ms).map λms=>{c with ms:=ms}
theorem ATY{x:Kx}{Γ:List ER}{kind num:Nat}{nm:St}{ty of:Ty}{own:St}{kids:List Te}{e':Te}(h:ckE x Γ (.mk kind num nm ty of own kids)=some e'):
 ∃ks p,ckL x Γ kids=some ks/\yw x Γ kind nm ty (ks.map Te.of)=some p/\e'=.mk kind num nm ty p.1 p.2 ks/\gdE kind ty own=true:=by
 rw[ckE]at h
 cases hg:gdE kind ty own with
 |false=>rw[hg]at h;cases h
 |true=>
  rw[hg]at h
  obtain⟨ks,h1,h⟩:=Option.bind_eq_some_iff.1 (show((ckL x Γ kids).bind λks=>(yw x Γ kind nm ty (ks.map Te.of)).map λp=>Te.mk kind num nm ty p.1 p.2 ks)=some e' from h)
  obtain⟨p,h2,rfl⟩:=Option.map_eq_some_iff.1 h
  exact⟨ks,p,h1,h2,rfl,rfl⟩
theorem Nq{b:Bool}{t:Ty}{w:St}{p:Ty×St}(h:iY b t w=some p):b=true/\p=(t,w):=by
 cases b
 ·cases h
 ·cases h;exact⟨rfl,rfl⟩
theorem AQ9{x:Kx}{Γ:List ER}{nm:St}{ty:Ty}{p:Ty×St}(kind:Nat)(ks:List Ty)(h:yw x Γ kind nm ty ks=some p):mbr kind=true∨p.2=(0,0):=by
 have ok:∀{b:Bool} {t:Ty},iY b t (0,0)=some p->p.2=(0,0):=λh=>by rw[(Nq h).2]
 match kind,h with
 |0,h=>cases h
 |1,h=>rcases ks with _|⟨a,_|⟨b,_|⟨c,l⟩⟩⟩<;>first|(cases h;done)|exact .inr (ok h)|(cases h;exact .inr rfl)
 |2,h=>rcases ks with _|⟨a,_|⟨b,_|⟨c,l⟩⟩⟩<;>first|(cases h;done)|exact .inr (ok h)|(cases h;exact .inr rfl)
 |3,h=>rcases ks with _|⟨a,_|⟨b,_|⟨c,l⟩⟩⟩<;>first|(cases h;done)|exact .inr (ok h)|(cases h;exact .inr rfl)
 |4,h=>rcases ks with _|⟨a,_|⟨b,_|⟨c,l⟩⟩⟩<;>first|(cases h;done)|exact .inr (ok h)|(cases h;exact .inr rfl)
 |5,h=>rcases ks with _|⟨a,_|⟨b,_|⟨c,l⟩⟩⟩<;>first|(cases h;done)|exact .inr (ok h)|(cases h;exact .inr rfl)
 |10,h=>rcases ks with _|⟨a,_|⟨b,_|⟨c,l⟩⟩⟩<;>first|(cases h;done)|exact .inr (ok h)|(cases h;exact .inr rfl)
 |11,h=>rcases ks with _|⟨a,_|⟨b,_|⟨c,l⟩⟩⟩<;>first|(cases h;done)|exact .inr (ok h)|(cases h;exact .inr rfl)
 |12,h=>rcases ks with _|⟨a,_|⟨b,_|⟨c,l⟩⟩⟩<;>first|(cases h;done)|exact .inr (ok h)|(cases h;exact .inr rfl)
 |13,h=>rcases ks with _|⟨a,_|⟨b,_|⟨c,l⟩⟩⟩<;>first|(cases h;done)|exact .inr (ok h)|(cases h;exact .inr rfl)
 |14,h=>rcases ks with _|⟨a,_|⟨b,_|⟨c,l⟩⟩⟩<;>first|(cases h;done)|exact .inr (ok h)|(cases h;exact .inr rfl)
 |15,h=>rcases ks with _|⟨a,_|⟨b,_|⟨c,l⟩⟩⟩<;>first|(cases h;done)|exact .inr (ok h)|(cases h;exact .inr rfl)
 |17,h=>rcases ks with _|⟨a,_|⟨b,_|⟨c,l⟩⟩⟩<;>first|(cases h;done)|exact .inr (ok h)|(cases h;exact .inr rfl)
 |18,h=>rcases ks with _|⟨a,_|⟨b,_|⟨c,l⟩⟩⟩<;>first|(cases h;done)|exact .inr (ok h)|(cases h;exact .inr rfl)
 |19,h=>rcases ks with _|⟨a,_|⟨b,_|⟨c,l⟩⟩⟩<;>first|(cases h;done)|exact .inr (ok h)|(cases h;exact .inr rfl)
 |20,h=>rcases ks with _|⟨a,_|⟨b,_|⟨c,l⟩⟩⟩<;>first|(cases h;done)|exact .inr (ok h)|(cases h;exact .inr rfl)
 |6,h=>
  rcases ks with _|⟨a,l⟩
  ·obtain⟨t,_,rfl⟩:=Option.map_eq_some_iff.1 (show(JF nm Γ).map (λt=>(t,((0,0):St)))=some p from h);exact .inr rfl
  ·cases h
 |7,h=>exact .inl rfl
 |8,h=>exact .inl rfl
 |9,h=>exact .inl rfl
 |16,h=>
  rcases ks with _|⟨a,_|⟨b,_|⟨c,l⟩⟩⟩<;>try (cases h;done)
  have h:(bif decide (nm=ACF)||decide (nm=ACA)then iY (a.is b||(a.obj&&b.obj)) Df (0,0)else iY (a.is DZ&&b.is DZ) (bif decide (nm=AGE)||decide (nm=AEe)then Df else DZ) (0,0))=some p:=h
  cases hb:decide (nm=ACF)||decide (nm=ACA)with
  |true=>rw[hb]at h;exact .inr (ok h)
  |false=>rw[hb]at h;exact .inr (ok h)
 |k+21,h=>cases h
theorem AGY{x:Kx}{Γ:List ER}{e:Te}{l l':List Te}(h:ckL x Γ (e::l)=some l'):∃e' t,ckE x Γ e=some e'/\ckL x Γ l=some t/\l'=e'::t:=by
 rw[ckL]at h
 obtain⟨e',h1,h⟩:=Option.bind_eq_some_iff.1 h
 obtain⟨t,h2,rfl⟩:=Option.map_eq_some_iff.1 h
 exact⟨e',t,h1,h2,rfl⟩
theorem AAq{x:Kx}{Γ:List ER}:∀{l l':List Te},ckL x Γ l=some l'->l'.length=l.length
 |[],l',h=>by rw[ckL]at h;cases h;rfl
 |e::l,l',h=>by
  obtain⟨e',t,_,h2,rfl⟩:=AGY h
  simp[AAq h2]
theorem AML{x:Kx}{Γ:List ER}:∀{l l':List Te} {i:Nat} {e:Te},ckL x Γ l=some l'->l[i]? =some e->∃e',l'[i]? =some e'/\ckE x Γ e=some e'
 |[],l',i,e,h,he=>by simp at he
 |a::l,l',i,e,h,he=>by
  obtain⟨e',t,h1,h2,rfl⟩:=AGY h
  cases i with
  |zero=>cases he;exact⟨e',rfl,h1⟩
  |succ i=>exact AML (i:=i) h2 he
end Go.RL
