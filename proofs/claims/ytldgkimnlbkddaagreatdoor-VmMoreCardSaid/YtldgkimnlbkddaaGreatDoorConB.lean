/- Part of a proof; nothing is assumed. -/
import Derived.Test.YtldgkimnlbkddaaGreatDoorConA
import Derived.Test.YtldgkimnlbkddaaGreatDoorWalk
set_option linter.unusedVariables false
set_option linter.unusedSimpArgs false
namespace Go.RL
open Go.Bf
set_option maxRecDepth 100000
structure NQ(G:AY)(H:Heap)(n i t a b fm:Nat)(vn:V)(fs:Tab):Prop where
 iN:i<n
 ib:i≠b
 at':T.get H i=some (one [.ptr t 0,.map fm,vn])
 tab:TabAt G H n t a b fs
theorem NQ.kb{G:AY}{H H':Heap}{n n' i t a b fm:Nat}{vn:V}{fs:Tab}(h:NQ G H n i t a b fm vn fs)(f:Kb b H n H' n'):NQ G H' n' i t a b fm vn fs:=
 ⟨Nat.lt_of_lt_of_le h.iN f.le,h.ib,f.get h.at' h.iN h.ib,h.tab.kb f⟩
def PMV(G:AY)(H:Heap)(n:Nat)(v:V)(p:PM):Prop:=∃w,v=.agg (p.cells w)/\GY G H n w p.m.ps
def GR(fs:Tab)(p:PM):List St->Option St
 |[]=>none
 |c::cs=>match Ju p.m.nm ((CY fs c).getD CJ).ms with
  |some o=>bif o.same p.m then some c else GR fs p cs
  |none=>GR fs p cs
def Qv(fs:Tab)(p:PM):Option St:=GR fs p (above fs p.own).1
theorem AXt{G:AY}{H:Heap}{n i t a b fm:Nat}{vn:V}{fs:Tab}(h:NQ G H n i t a b fm vn fs)(d0:fs.length<=1000){v:V}{p:PM}(hp:PMV G H n v p){k:KV}
 (d:∀g u,Kb b H n g u->k (.Dl [((Qv fs p).getD (0,0)).v,.bool (Qv fs p).isSome]) g u):Runs F G WS [.ptr i 0,v] H n k:=by
 refine go2 (ADn BF G) ?_
 obtain⟨w,rfl,hw⟩:=hp
 delta kL
 have d1:=h.tab.bn
 unfold Qv at d
 refine FT λH1 f1 g1=>?_
 have O:=f1.kb (b:=b) d1
 have P:=h.kb O
 unfold PM.cells at g1
 simp only[go_sem,Nat.reduceAdd,AU (off:=0) P.at' (v:=.ptr t 0) rfl,AU (off:=5) g1 (v:=p.own.v) rfl]
 refine tu (s:=p.own) P.tab d0 λH2 n2 x f2 K Q=>?_
 generalize(above fs p.own).1=cs at K d Q
 have f3:=O.trans f2
 have g2:=f2.get g1 (by omega) (by omega)
 have d5:=f2.le
 simp only[go_sem,(K.el (by omega)).len,JH]
 refine BN (N:=cs.length) (J:=λj q=>∃g u,q=(.ptr i 0,.ptr n 0,x,.int .i64 (.ofNat cs.length) 0,.int .i64 (.ofNat j) 0,g,u)/\Kb b H n g u/\n<u/\Own G g (n+1) u 1 x (strs cs)/\T.get g n=some (one [p.m.nm.v,.bool p.m.st,w,p.m.ret.nm.v,.bool p.m.ret.arr,p.own.v])/\
  (∀g u,Kb b H n g u->k (.Dl [((GR fs p (cs.drop j)).getD (0,0)).v,.bool (GR fs p (cs.drop j)).isSome]) g u)) ?_ ?_ ⟨H2,n2,rfl,f3,by omega,K,g2,d⟩
 ·rintro I j q L ⟨Y,Z,rfl,f3,D,K,g3,d⟩ ih
  show Hu lfp G (Runs F G) k I (.ptr i 0) (.ptr n 0) x (.int .i64 (.ofNat cs.length) 0) (.int .i64 (.ofNat j) 0) Y Z
  delta Hu
  have h3:=h.kb f3
  obtain⟨q,hp,R⟩:=(K.el (by omega)).at (Sz L)
  rw[List.drop_eq_getElem_cons L]at d
  unfold GR at d
  generalize cs[j]=m at R d
  simp only[go_sem,BR,L,decide_true,hp,Jv R,Nat.reduceAdd,AU (off:=0) h3.at' (v:=.ptr t 0) rfl]
  refine sU (s:=m) (n0:=n) (h.tab.kb (f3.low (Nat.le_refl _))) (by omega) λH4 S y f4 U=>?_
  obtain⟨vf,vm,ws,U,rfl⟩:=U
  have f5:=f3.trans f4
  have d6:=f4.le
  simp only[go_sem,Nat.reduceAdd]
  rw[T.set_set]
  have f6:Kp H4 S (T.set H4 S (one [((CY fs m).getD CJ).nm.v,((CY fs m).getD CJ).sup.v,vf,vm])) (S+1):=(Kp.refl _ _).new _ (Nat.le_refl _) (by omega)
  generalize T.set H4 S (one [((CY fs m).getD CJ).nm.v,((CY fs m).getD CJ).sup.v,vf,vm])=H6 at f6
  have W:=f6.kb (b:=b) (by omega)
  have g6:=W.get (f4.get g3 D (by omega)) (by omega) (by omega)
  rw[show AX (.ptr n 0) G H6=some p.m.nm.v from AU g6 rfl,AP]
  refine AGM (s:=p.m.nm) (n:=S+1) (n0:=n) (v:=.agg [((CY fs m).getD CJ).nm.v,((CY fs m).getD CJ).sup.v,vf,vm]) (c:=(CY fs m).getD CJ) ⟨vf,vm,ws,U.ke ((f6.ke).low (by omega)),rfl⟩ (by omega) λH8 M y f8 U=>?_
  have d2:=f8.kb (b:=b) (by omega)
  have E:=f4.trans (W.trans d2)
  have f9:=f3.trans E
  have d7:=f8.le
  have K:=K.kb E (by omega)
  have d3:=E.get g3 D (by omega)
  obtain⟨z,rfl,hz⟩:=U
  have C:=T.Ag H8 M (one (((Ju p.m.nm ((CY fs m).getD CJ).ms).getD ZW).cells z))
  have A:Kp H8 M (T.set H8 M (one (((Ju p.m.nm ((CY fs m).getD CJ).ms).getD ZW).cells z))) (M+1):=(Kp.refl _ _).new _ (Nat.le_refl _) (by omega)
  unfold Cb.cells at C A⊢
  simp only[go_sem,Nat.reduceAdd]
  rw[T.set_set]
  have B:=E.trans (A.kb (b:=b) (by omega))
  have next:∀g u,Kb b Y Z g u->(∀g u,Kb b H n g u->k (.Dl [((GR fs p (cs.drop (j+1))).getD (0,0)).v,.bool (GR fs p (cs.drop (j+1))).isSome]) g u)->I (.ptr i 0,.ptr n 0,x,.int .i64 (.ofNat cs.length) 0,.int .i64 (.ofNat (j+1)) 0,g,u):=λg u f d=>
   ih _ ⟨_,_,rfl,f3.trans f,by have:=f.le;omega,Own.kb (by assumption) f (by omega),f.get g3 D (by omega),d⟩
  cases P:Ju p.m.nm ((CY fs m).getD CJ).ms with
  |none=>
   rw[P]at d B
   simp only[Option.isSome_none,go_sem,DI (show j+1<9223372036854775808 by omega)]
   exact next _ _ B d
  |some o=>
   rw[P]at d A B C hz
   simp only[Option.getD_some]at A B C hz
   simp only[Option.isSome_some,Option.getD_some]
   generalize T.set H8 M (one [o.nm.v,.bool o.st,z,o.ret.nm.v,.bool o.ret.arr])=H12 at A B C
   have gp:=A.get d3 (by omega)
   simp only[go_sem,Nat.reduceAdd,CG (m:=5) C (by omega) rfl,show Aj 5 (.ptr n 0) G H12=some (.agg [p.m.nm.v,.bool p.m.st,w,p.m.ret.nm.v,.bool p.m.ret.arr])from GH gp (by omega) (by show 5<=6;omega)]
   have s1:ACO G H12 (M+1) (.agg [o.nm.v,.bool o.st,z,o.ret.nm.v,.bool o.ret.arr]) o:=⟨z,rfl,(hz.ke ((A.ke).low (by omega))).ke ⟨by omega,λ_ _ _ _ h=>h⟩⟩
   have s2:ACO G H12 (M+1) (.agg [p.m.nm.v,.bool p.m.st,w,p.m.ret.nm.v,.bool p.m.ret.arr]) p.m:=⟨w,rfl,(hw.ke (((f3.trans B).ke h.tab.seen).low (Nat.le_refl _))).ke ⟨by omega,λ_ _ _ _ h=>h⟩⟩
   refine ANH s1 s2 λd8 d9 d4=>?_
   have X:=B.trans (d4.kb (b:=b) (by omega))
   cases h2:o.same p.m with
   |true=>
    simp only[h2,cond_true]at d
    simp only[go_sem]
    exact d _ _ (f3.trans X)
   |false=>
    simp only[h2,cond_false]at d
    simp only[go_sem,DI (show j+1<9223372036854775808 by omega)]
    exact next _ _ X d
 ·rintro I q ⟨Y,Z,rfl,f3,D,K,g3,d⟩
  show Hu lfp G (Runs F G) k I (.ptr i 0) (.ptr n 0) x (.int .i64 (.ofNat cs.length) 0) (.int .i64 (.ofNat cs.length) 0) Y Z
  delta Hu
  rw[List.drop_eq_nil_of_le (Nat.le_refl _)]at d
  simp only[go_sem,BR,Nat.lt_irrefl,decide_false]
  delta QF
  exact d _ _ f3
def rU(fs:Tab)(f:PF):Bool:=match dn fs f.own f.f.nm with
 |none=>false
 |some o=>o.2.is f.f.ty
def AAb(fs:Tab)(p:Pool):Bool:=p.names.all (λc=>[(⟨c,false⟩:Ty)].all (Um fs))&&(p.types.all (Um fs)&&(p.fields.all (rU fs)&&p.Bg.all λm=>(Qv fs m).isSome))
section
variable{G:AY}{H0 H:Heap}{n0 n i t a b fm e:Nat}{vn:V}{fs:Tab}{p:Pool}{v0 v1 v2 v3 v4:V}{ws:List V}{k:KV}
structure ARj(G:AY)(H0:Heap)(n0:Nat)(H:Heap)(n b e:Nat)(v0 v1 v2 v3 v4:V):Prop where
 f:Kb b H0 n0 H n
 en:e<n
 e0:n0<=e
 g:T.get H e=some (one [v0,v1,v2,v3,v4])
theorem ARj.kb{H':Heap}{n':Nat}(h:ARj G H0 n0 H n b e v0 v1 v2 v3 v4)(d:b<n0)(f:Kb b H n H' n'):ARj G H0 n0 H' n' b e v0 v1 v2 v3 v4:=
 ⟨h.f.trans f,Nat.lt_of_lt_of_le h.en f.le,h.e0,f.get h.g h.en (by have:=h.e0;omega)⟩
theorem AVo(h:NQ G H0 n0 i t a b fm vn fs)(K:fs.length<=1000)(hp:Fh G H0 n0 p v0 v1 v2 v3 v4 ws)(P:ARj G H0 n0 H n b e v0 v1 v2 v3 v4)
 (d:∀y A,Kb b H0 n0 y A->k (.bool (p.Bg.all λm=>(Qv fs m).isSome)) y A):J3 lfp G (Runs F G) k (.ptr i 0) (.ptr e 0) H n:=by
 delta J3
 have U:=h.tab.bn
 have C:=hp.b4
 have V:lenV v4=some (.int .i64 (.ofNat p.Bg.length) 0):=by rw[hp.e4.len,List.length_zipWith,hp.AHO,Nat.min_self]
 simp only[go_sem,Nat.reduceAdd,AU (off:=4) P.g (v:=v4) rfl,V]
 refine BN (N:=p.Bg.length) (J:=λj q=>∃y A,q=(.ptr i 0,v4,.int .i64 (.ofNat p.Bg.length) 0,.int .i64 (.ofNat j) 0,y,A)/\Kb b H0 n0 y A/\
  (∀y A,Kb b H0 n0 y A->k (.bool ((p.Bg.drop j).all λm=>(Qv fs m).isSome)) y A)) ?_ ?_ ⟨H,n,rfl,P.f,d⟩
 ·rintro I j q u ⟨L,M,rfl,f3,d⟩ W
  show Ho lfp G (Runs F G) k I (.ptr i 0) v4 (.int .i64 (.ofNat p.Bg.length) 0) (.int .i64 (.ofNat j) 0) L M
  delta Ho
  have hw:j<ws.length:=by rw[hp.AHO];exact u
  have D:=hp.ke (f3.ke h.tab.seen)
  have X:=f3.le
  obtain⟨q,O,x⟩:=D.e4.at (i:=j) (c:=p.Bg[j].cells ws[j]) (by rw[List.getElem?_zipWith];simp[u,hw])
  have B:=D.at4 j _ _ (List.getElem?_eq_getElem u) (List.getElem?_eq_getElem hw)
  rw[List.drop_eq_getElem_cons u,List.all_cons]at d
  generalize p.Bg[j]=m at x B d
  generalize ws[j]=w at x B
  unfold PM.cells at x
  simp only[go_sem,Nat.reduceAdd,BR,u,decide_true,O,Bj x]
  rw[T.set_set]
  refine run_set λZ Q g4=>?_
  have E:=Q.kb (b:=b) (by omega)
  refine AXt (p:=m) (h.kb (f3.trans E)) K ⟨w,rfl,B.kp Q⟩ λH5 n5 Y=>?_
  have R:=f3.trans (E.trans Y)
  simp only[go_sem,BZ]
  cases S:(Qv fs m).isSome with
  |false=>simp only[S,Bool.false_and]at d;simp only[Bool.not_false,go_sem];exact d _ _ R
  |true=>
   simp only[S,Bool.true_and]at d
   simp only[Bool.not_true,go_sem,DI (show j+1<9223372036854775808 by unfold big at C;omega)]
   exact W _ ⟨_,_,rfl,R,d⟩
 ·rintro I q ⟨L,M,rfl,f3,d⟩
  show Ho lfp G (Runs F G) k I (.ptr i 0) v4 (.int .i64 (.ofNat p.Bg.length) 0) (.int .i64 (.ofNat p.Bg.length) 0) L M
  delta Ho
  rw[List.drop_eq_nil_of_le (Nat.le_refl _)]at d
  simp only[go_sem,BR,Nat.lt_irrefl,decide_false]
  delta QW
  exact d _ _ f3
theorem AYR(h:NQ G H0 n0 i t a b fm vn fs)(C:fs.length<=1000)(hp:Fh G H0 n0 p v0 v1 v2 v3 v4 ws)(B:ARj G H0 n0 H n b e v0 v1 v2 v3 v4)
 (d:∀u w,Kb b H0 n0 u w->k (.bool (p.fields.all (rU fs)&&p.Bg.all λm=>(Qv fs m).isSome)) u w):
 lfp (V×V×V×V×V×Heap×Nat) (Oh lfp G (Runs F G) k) (.ptr i 0,.ptr e 0,v3,.int .i64 (.ofNat p.fields.length) 0,.int .i64 (.ofNat 0) 0,H,n):=by
 have S:=h.tab.bn
 have D:=hp.b3
 refine BN (N:=p.fields.length) (J:=λj q=>∃u w,q=(.ptr i 0,.ptr e 0,v3,.int .i64 (.ofNat p.fields.length) 0,.int .i64 (.ofNat j) 0,u,w)/\ARj G H0 n0 u w b e v0 v1 v2 v3 v4/\
  (∀u w,Kb b H0 n0 u w->k (.bool ((p.fields.drop j).all (rU fs)&&p.Bg.all λm=>(Qv fs m).isSome)) u w)) ?_ ?_ ⟨H,n,rfl,B,d⟩
 ·rintro I j q y ⟨x,g,rfl,B,d⟩ ih
  show Hy lfp G (Runs F G) k I (.ptr i 0) (.ptr e 0) v3 (.int .i64 (.ofNat p.fields.length) 0) (.int .i64 (.ofNat j) 0) x g
  delta Hy
  have f3:=B.f
  have U:=hp.ke (f3.ke h.tab.seen)
  have d1:=f3.le
  obtain⟨q,W,A⟩:=U.e3.at (i:=j) (c:=p.fields[j].cells) (by simp[y])
  rw[List.drop_eq_getElem_cons y,List.all_cons]at d
  generalize p.fields[j]=m at A d
  unfold PF.cells at A
  simp only[go_sem,Nat.reduceAdd,BR,y,decide_true,W,Bj A]
  rw[T.set_set]
  have M:=T.Ag x g (one [m.f.nm.v,m.f.ty.nm.v,.bool m.f.ty.arr,m.own.v])
  have f4:Kp x g (T.set x g (one [m.f.nm.v,m.f.ty.nm.v,.bool m.f.ty.arr,m.own.v])) (g+1):=(Kp.refl _ _).new _ (Nat.le_refl _) (by omega)
  generalize T.set x g (one [m.f.nm.v,m.f.ty.nm.v,.bool m.f.ty.arr,m.own.v])=H4 at M f4
  have E:=f4.kb (b:=b) (by omega)
  have X:=h.kb (f3.trans E)
  simp only[go_sem,Nat.reduceAdd,AU (off:=0) X.at' (v:=.ptr t 0) rfl,AU (off:=3) M (v:=m.own.v) rfl,AU (off:=0) M (v:=m.f.nm.v) rfl]
  refine run_set λH5 f5 g5=>?_
  have Y:=f5.kb (b:=b) (by omega)
  have K:=E.trans Y
  refine AO4 (c:=m.own) (s:=m.f.nm) (h.tab.kb (f3.trans K)) C λO n6 P=>?_
  have Z:=K.trans P
  have d2:=P.le
  have g6:=P.get g5 (by omega) (by omega)
  have d0:=P.get (f5.get M (by omega)) (by omega) (by omega)
  unfold Ty.v Ty.cells
  simp only[go_sem]
  rw[FU (m:=2) g6 (by omega) rfl rfl]
  have Q:Kb b x g (T.set O (g+1) (one [((dn fs m.own m.f.nm).getD ((0,0),tyZ)).2.nm.v,.bool ((dn fs m.own m.f.nm).getD ((0,0),tyZ)).2.arr])) n6:=
   Z.trans' (λid d3=>T.Ac _ _ (by omega)) (Nat.le_refl _) (by omega)
  have R:=T.Ag O (g+1) (one [((dn fs m.own m.f.nm).getD ((0,0),tyZ)).2.nm.v,.bool ((dn fs m.own m.f.nm).getD ((0,0),tyZ)).2.arr])
  have L:T.get (T.set O (g+1) (one [((dn fs m.own m.f.nm).getD ((0,0),tyZ)).2.nm.v,.bool ((dn fs m.own m.f.nm).getD ((0,0),tyZ)).2.arr])) g=_:=(T.Ac _ _ (by omega)).trans d0
  generalize T.set O (g+1) (one [((dn fs m.own m.f.nm).getD ((0,0),tyZ)).2.nm.v,.bool ((dn fs m.own m.f.nm).getD ((0,0),tyZ)).2.arr])=H7 at Q R L
  simp only[BZ,go_sem]
  unfold rU at d
  cases h1:dn fs m.own m.f.nm with
  |none=>rw[h1]at d;simp only[Option.isSome_none,Bool.not_false,go_sem];exact d _ _ (f3.trans Q)
  |some o=>
   rw[h1]at d R
   simp only[Option.getD_some]at R d
   have e1:CU (.agg [.str,.bool]) true (.agg [o.2.nm.v,.bool o.2.arr]) (.agg [m.f.ty.nm.v,.bool m.f.ty.arr])=_:=ALZ o.2 m.f.ty
   simp only[Option.isSome_some,Bool.not_true,go_sem,Nat.reduceAdd,CG (m:=2) R (by omega) rfl,show Aj 2 (.ptr g 1) G H7=some (.agg [m.f.ty.nm.v,.bool m.f.ty.arr])from GH L (by omega) (by show 3<=4;omega),e1]
   cases h2:o.2.is m.f.ty with
   |false=>simp only[h2,Bool.false_and]at d;simp only[Bool.not_false,go_sem];exact d _ _ (f3.trans Q)
   |true=>
    simp only[h2,Bool.true_and]at d
    simp only[Bool.not_true,go_sem,DI (show j+1<9223372036854775808 by unfold big at D;omega)]
    exact ih _ ⟨_,_,rfl,B.kb (G:=G) S Q,d⟩
 ·rintro I q ⟨x,g,rfl,B,d⟩
  show Hy lfp G (Runs F G) k I (.ptr i 0) (.ptr e 0) v3 (.int .i64 (.ofNat p.fields.length) 0) (.int .i64 (.ofNat p.fields.length) 0) x g
  delta Hy
  rw[List.drop_eq_nil_of_le (Nat.le_refl _)]at d
  simp only[go_sem,BR,Nat.lt_irrefl,decide_false]
  exact AVo h C hp B d
theorem Aa1(i:Nat):Es (.ptr i 0) (.ptr i 0)=true:=by
 show band (Nat.beq i i) (Nat.beq 0 0)=true
 simp
theorem AcC(h:NQ G H n i t a b fm vn fs)(T:fs.length<=1000)(hp:Fh G H n p v0 v1 v2 v3 v4 ws)
 (d:∀y A,Kb b H n y A->k (.bool (AAb fs p)) y A):Runs F G kV [.ptr i 0,.agg [v0,v1,v2,v3,v4]] H n k:=by
 refine go2 (AE0 BF G) ?_
 delta jT
 have C:=h.tab.bn
 have K:=hp.b1
 unfold AAb at d
 refine FT λH1 f1 g1=>?_
 have U:=f1.kb (b:=b) C
 simp only[go_sem,Nat.reduceAdd,AU (off:=1) g1 (v:=v1) rfl,hp.e1.len,JH]
 have B:ARj G H n H1 (n+1) b n v0 v1 v2 v3 v4:=⟨U,by omega,Nat.le_refl _,g1⟩
 refine BN (N:=p.names.length) (J:=λj q=>∃y A,q=(.ptr i 0,.ptr n 0,v1,.int .i64 (.ofNat p.names.length) 0,.int .i64 (.ofNat j) 0,y,A)/\ARj G H n y A b n v0 v1 v2 v3 v4/\
  (∀y A,Kb b H n y A->k (.bool ((p.names.drop j).all (λc=>[(⟨c,false⟩:Ty)].all (Um fs))&&(p.types.all (Um fs)&&(p.fields.all (rU fs)&&p.Bg.all λm=>(Qv fs m).isSome)))) y A)) ?_ ?_ ⟨H1,n+1,rfl,B,d⟩
 ·rintro I j q u ⟨V,W,rfl,B,d⟩ ih
  show IC lfp G (Runs F G) k I (.ptr i 0) (.ptr n 0) v1 (.int .i64 (.ofNat p.names.length) 0) (.int .i64 (.ofNat j) 0) V W
  delta IC
  have f3:=B.f
  have D:=hp.ke (f3.ke h.tab.seen)
  have d0:=f3.le
  have w:=h.kb f3
  obtain⟨q,X,M⟩:=D.e1.at (Sz u)
  have O:=hp.o1 _ (List.getElem_mem u)
  rw[List.drop_eq_getElem_cons u,List.all_cons]at d
  generalize p.names[j]=m at M d O
  simp only[go_sem,Nat.reduceAdd,BR,u,decide_true,X,Jv M,AU (off:=0) w.at' (v:=.ptr t 0) rfl]
  refine AFA λH4 n4 f4=>?_
  have E:=f4.kb (b:=b) (by omega)
  have Y:=h.kb (f3.trans E)
  have d1:=f4.le
  simp only[go_sem,Nat.reduceAdd,AU (off:=0) Y.at' (v:=.ptr t 0) rfl,Aa1]
  rw[AGm (z:=2) (L:=[.str m.1 m.2,.bool false]) rfl]
  refine run_set λH5 f5 g5=>?_
  have P:=f5.kb (b:=b) (by omega)
  refine tX (xs:=[(⟨m,false⟩:Ty)]) (h.tab.kb (f3.trans (E.trans P))) ⟨rJ (by omega) rfl g5,λid Z=>by cases Z;omega,by show 1<big;decide,λx hx=>by simp at hx;subst hx;exact O⟩ λH6 n6 S=>?_
  have f7:=E.trans (P.trans S)
  simp only[go_sem,BZ]
  cases Q:[(⟨m,false⟩:Ty)].all (Um fs)with
  |false=>simp only[Q,Bool.false_and]at d;simp only[Bool.not_false,go_sem];exact d _ _ (f3.trans f7)
  |true=>
   simp only[Q,Bool.true_and]at d
   simp only[Bool.not_true,go_sem,DI (show j+1<9223372036854775808 by unfold big at K;omega)]
   exact ih _ ⟨_,_,rfl,B.kb (G:=G) C f7,d⟩
 ·rintro I q ⟨V,W,rfl,B,d⟩
  show IC lfp G (Runs F G) k I (.ptr i 0) (.ptr n 0) v1 (.int .i64 (.ofNat p.names.length) 0) (.int .i64 (.ofNat p.names.length) 0) V W
  delta IC
  rw[List.drop_eq_nil_of_le (Nat.le_refl _)]at d
  simp only[List.all_nil,Bool.true_and]at d
  simp only[go_sem,BR,Nat.lt_irrefl,decide_false]
  delta Qu
  have f3:=B.f
  have w:=h.kb f3
  have D:=hp.ke (f3.ke h.tab.seen)
  simp only[go_sem,Nat.reduceAdd,AU (off:=0) w.at' (v:=.ptr t 0) rfl,AU (off:=2) B.g (v:=v2) rfl]
  refine tX (xs:=p.types) w.tab D.t2 λH6 n6 S=>?_
  have R:=B.kb (G:=G) C S
  have l3:lenV v3=some (.int .i64 (.ofNat p.fields.length) 0):=by rw[hp.e3.len,List.length_map]
  simp only[BZ,go_sem]
  cases Q:p.types.all (Um fs)with
  |false=>simp only[Q,Bool.false_and]at d;simp only[Bool.not_false,go_sem];exact d _ _ (f3.trans S)
  |true=>
   simp only[Q,Bool.true_and]at d
   simp only[Bool.not_true,go_sem,Nat.reduceAdd,AU (off:=3) R.g (v:=v3) rfl,l3]
   exact AYR h T hp R d
end
structure WI(G:AY)(H:Heap)(n:Nat)(v:V)(fls:List Fl):Prop where
 is:∃LS:EL,El G H v 10 LS/\LS.length=fls.length/\∀(i:Nat) (L:LV) (f:Fl),LS[i]? =some L->fls[i]? =some f->X7 G H n (.agg L) f
 lo:Lo v n
 lt:fls.length<big
theorem WI.ke{G:AY}{H H':Heap}{n n':Nat}{v:V}{d:List Fl}(h:WI G H n v d)(f:Ke G H n H' n'):WI G H' n' v d:=by
 obtain⟨⟨k,m,p,q⟩,g,u⟩:=h
 exact⟨⟨k,m.ke g f,p,λi L c x y=>(q i L c x y).ke f⟩,g.mono f.le,u⟩
theorem WI.len{G:AY}{H:Heap}{n:Nat}{v:V}{d:List Fl}(h:WI G H n v d):lenV v=some (.int .i64 (.ofNat d.length) 0):=by
 obtain⟨⟨i,f,g,k⟩,m,p⟩:=h;rw[f.len,g]
theorem WI.at{G:AY}{H:Heap}{n:Nat}{v:V}{d:List Fl}(h:WI G H n v d){i:Nat}(hi:i<d.length):∃p k m v0 v1 v2 v3 v4 q f ws g,Ai 10 v (.int .i64 (.ofNat i) 0)=some p/\
 ldP p G H 10=some [d[i].face.nm.v,d[i].face.sup.v,k,m,v0,v1,v2,v3,v4,q]/\lN G H n [d[i].face.nm.v,d[i].face.sup.v,k,m,v0,v1,v2,v3,v4,q] d[i] k m v0 v1 v2 v3 v4 q f ws g:=by
 obtain⟨⟨w,y,D,A⟩,E,F⟩:=h
 obtain⟨p,B,u⟩:=y.at (i:=i) (c:=w[i]'(by omega)) (List.getElem?_eq_getElem _)
 obtain⟨L,k,m,v0,v1,v2,v3,v4,q,f,ws,g,x,e⟩:=A i _ _ (List.getElem?_eq_getElem (by omega)) (List.getElem?_eq_getElem hi)
 have C:w[i]'(by omega)=L:=by injection e
 have:=x.is
 subst this
 rw[C]at u
 exact⟨p,k,m,v0,v1,v2,v3,v4,q,f,ws,g,B,u,x⟩
structure FV(G:AY)(H:Heap)(n a:Nat)(fs:List (St×Fl)):Prop where
 is:∃ps,AAd H a ps/\keyed ps fs/\∀s v c,CY ps s=some v->CY fs s=some c->X7 G H n v c
theorem FV.ke{G:AY}{H H':Heap}{n n' a:Nat}{fs:List (St×Fl)}(h:FV G H n a fs)(f:Ke G H n H' n')(e:T.get H' a=T.get H a):FV G H' n' a fs:=by
 obtain⟨d,g,i,k⟩:=h.is
 exact⟨d,rY g e,i,λs v c x y=>(k s v c x y).ke f⟩
theorem FV.put{G:AY}{H':Heap}{n a:Nat}{fs:List (St×Fl)}{v:V}{s:St}{c:Fl}{ps:List (St×V)}(f:keyed ps fs)(k:∀s v c,CY ps s=some v->CY fs s=some c->X7 G H' n v c)(m:AAd H' a (XD s v ps))(p:X7 G H' n v c):
 FV G H' n a (XD s c fs):=
 ⟨_,m,AHi _ _ _ f,λt w d g i=>by
  rw[RQ]at g i
  by_cases e:s=t
  ·rw[if_pos e]at g i;cases g;cases i;exact p
  ·rw[if_neg e]at g i;exact k _ _ _ g i⟩
def VQ(fs:List (St×Fl)):List Fl->List (St×Fl)
 |[]=>fs
 |c::cs=>VQ (XD c.face.nm c fs) cs
abbrev OD(fls:List Fl):=VQ [] fls
noncomputable def Xy:List (St×Fl)->List Fl->Int
 |_,[]=>0
 |acc,f::fs=>bif !P9 f then 2 else bif (CY acc f.face.nm).isSome then 6 else Xy (XD f.face.nm f acc) fs
def link2(t:Tab):List Fl->Int
 |[]=>0
 |f::fs=>bif !(Ul t f.face.nm==0)then Ul t f.face.nm else bif !AAb t f.pool then 30 else link2 t fs
abbrev Bh(fls:List Fl):List Fc:=fls.map λf=>f.face
abbrev Oa(fls:List Fl):List St:=fls.map λf=>f.face.nm
noncomputable def TB(fls:List Fl):Int:=bif decide (200<fls.length)then 4 else bif !(Xy [] fls==0)then Xy [] fls else link2 (EW (Bh fls)) fls
theorem AAE:∀(cs:List Fc) (fs:Tab),(YS fs cs).length<=fs.length+cs.length
 |[],_=>Nat.le_refl _
 |c::cs,fs=>by
  have d:∀(fs:Tab),(XD c.nm c fs).length<=fs.length+1:=by
   intro fs
   induction fs with
   |nil=>exact Nat.le_refl _
   |cons p f g=>unfold XD;split<;>simp only[List.length_cons]<;>omega
  have:=AAE cs (XD c.nm c fs)
  have:=d fs
  simp only[YS,List.length_cons];omega
theorem AIm:∀(cs:List Fc) (fs:Tab) (s:St) (c:Fc),CY (YS fs cs) s=some c->c∈cs∨CY fs s=some c
 |[],_,_,_,h=>.inr h
 |d::cs,fs,s,c,h=>by
  rcases AIm cs _ s c h with h|h
  ·exact .inl (List.mem_cons_of_mem _ h)
  ·rw[RQ]at h
   split at h
   ·cases h;exact .inl (List.mem_cons_self ..)
   ·exact .inr h
theorem AMj{cs:List Fc}{s:St}{c:Fc}(h:CY (EW cs) s=some c):c∈cs:=by
 rcases AIm cs [] s c h with h|h
 ·exact h
 ·cases h
structure Aa7(G:AY)(H:Heap)(n m i:Nat)(fls:List Fl):Prop where
 is:∃t a b fm vn,NQ G H n i t a b fm vn (EW (Bh fls))/\FV G H n fm (OD fls)/\fm<n/\fm≠b/\El G H vn 1 (strs (Oa fls))/\Lo vn n/\m<=i/\m<=t/\m<=a/\m<=b/\m<=fm
theorem Gr.ok{G:AY}{H:Heap}{m z:Nat}{v:V}{LS:EL}(h:Gr G H m z v LS):Zp v=true/\A8 v=[v]:=by cases h<;>exact⟨rfl,rfl⟩
theorem AUv{G:AY}(hG:Vz G){H0:Heap}{n0 i t a b fm:Nat}{vn v:V}{d:List Fl}(C:(EW (Bh d)).length<=1000)(O:∀s c,CY (EW (Bh d)) s=some c->∀m∈c.ms,m.ps.length<=100000)
 (h:NQ G H0 n0 i t a b fm vn (EW (Bh d))) (Y:WI G H0 n0 v d) {k:KV}
 (D:link2 (EW (Bh d)) d=0->∀w x,Kb b H0 n0 w x->k (.Dl [.ptr i 0,.int .i64 (.ofNat 0) 0]) w x)
 (y:link2 (EW (Bh d)) d≠0->∀w x,Kb b H0 n0 w x->k (.Dl [.Bo,.int .i64 (link2 (EW (Bh d)) d) 0]) w x):
 lfp (V×V×V×V×Heap×Nat) (YM lfp G (Runs F G) k) (.ptr i 0,v,.int .i64 (.ofNat d.length) 0,.int .i64 (.ofNat 0) 0,H0,n0):=by
 generalize hT:EW (Bh d)=tb at*
 have d0:=h.tab.bn
 obtain⟨R,Z⟩:∃R,R=link2 tb d:=⟨_,rfl⟩
 rw[<-Z]at D y
 have E:=Y.lt
 refine BN (N:=d.length) (J:=λj q=>∃w x,q=(.ptr i 0,v,.int .i64 (.ofNat d.length) 0,.int .i64 (.ofNat j) 0,w,x)/\Kb b H0 n0 w x/\link2 tb (d.drop j)=R) ?_ ?_ ⟨H0,n0,rfl,Kb.refl _ _ _,Z.symm⟩
 ·rintro I j q A ⟨B,u,rfl,f3,f⟩ ih
  show PN lfp G (Runs F G) k I (.ptr i 0) v (.int .i64 (.ofNat d.length) 0) (.int .i64 (.ofNat j) 0) B u
  delta PN
  have d1:=f3.le
  obtain⟨q,P,Q,v0,v1,v2,v3,v4,S,d2,ws,d3,hp,H,g⟩:=(Y.ke (f3.ke h.tab.seen)).at A
  rw[List.drop_eq_getElem_cons A]at f
  unfold link2 at f
  generalize d[j]=m at H f g
  simp only[go_sem,Nat.reduceAdd,BR,A,decide_true,hp,Bj H]
  rw[T.set_set]
  have U:=T.Ag B u (one [m.face.nm.v,m.face.sup.v,P,Q,v0,v1,v2,v3,v4,S])
  have f4:Kp B u (T.set B u (one [m.face.nm.v,m.face.sup.v,P,Q,v0,v1,v2,v3,v4,S])) (u+1):=(Kp.refl _ _).new _ (Nat.le_refl _) (by omega)
  generalize T.set B u (one [m.face.nm.v,m.face.sup.v,P,Q,v0,v1,v2,v3,v4,S])=H4 at U f4
  have K:=f4.kb (b:=b) (by omega)
  have L:=h.kb (f3.trans K)
  simp only[go_sem,Nat.reduceAdd,AU (off:=0) L.at' (v:=.ptr t 0) rfl,AU (off:=0) U (v:=m.face.nm.v) rfl]
  refine AZi hG (s:=m.face.nm) L.tab C O λH5 n5 W=>?_
  have M:=K.trans W
  have d4:=W.le
  have g5:=W.get U (by omega) (by omega)
  simp only[AYQ,go_sem]
  rw[show(Ul tb m.face.nm==Int.ofNat 0)=(Ul tb m.face.nm==0)from rfl]
  cases X:Ul tb m.face.nm==0 with
  |false=>
   rw[X]at f
   simp only[Bool.not_false,cond_true]at f
   simp only[Bool.not_false,go_sem]
   rw[f]
   refine y ?_ _ _ (f3.trans M)
   rw[<-f];simpa using X
  |true=>
   rw[X]at f
   simp only[Bool.not_true,cond_false]at f
   simp only[Bool.not_true,go_sem,Nat.reduceAdd,show Aj 5 (.ptr u 4) G H5=some (.agg [v0,v1,v2,v3,v4])from GH g5 (by omega) (by show 9<=10;omega)]
   refine AcC (h.kb (f3.trans M)) C (p:=m.pool) (g.pool.ke ((M.ke (f3.seen h.tab.seen)))) λH7 n7 f7=>?_
   have f8:=f3.trans (M.trans f7)
   simp only[BZ,go_sem]
   cases h2:AAb tb m.pool with
   |false=>
    rw[h2]at f
    simp only[Bool.not_false,cond_true]at f
    simp only[Bool.not_false,go_sem]
    have:=y (by rw[<-f];decide) _ _ f8
    rw[<-f]at this;exact this
   |true=>
    rw[h2]at f
    simp only[Bool.not_true,cond_false]at f
    simp only[Bool.not_true,go_sem,DI (show j+1<9223372036854775808 by unfold big at E;omega)]
    exact ih _ ⟨_,_,rfl,f8,f⟩
 ·rintro I q ⟨B,u,rfl,f3,f⟩
  show PN lfp G (Runs F G) k I (.ptr i 0) v (.int .i64 (.ofNat d.length) 0) (.int .i64 (.ofNat d.length) 0) B u
  delta PN
  rw[List.drop_eq_nil_of_le (Nat.le_refl _)]at f
  simp only[go_sem,BR,Nat.lt_irrefl,decide_false]
  delta ZQ
  exact D f.symm _ _ f3
theorem Ty.Jr{a b:Ty}:a.is b=true↔a=b:=by
 cases a with
 |mk n r=>
 cases b with
 |mk m s=>
 simp only[Ty.is,Bool.and_eq_true,decide_eq_true_eq,beq_iff_eq,Ty.mk.injEq]
 constructor
 ·rintro⟨⟨d,f⟩,g⟩;exact⟨Prod.ext d f,g⟩
 ·rintro⟨rfl,rfl⟩;exact⟨⟨rfl,rfl⟩,rfl⟩
theorem Ty.AJP(a:Ty):a.is a=true:=Ty.Jr.2 rfl
theorem Ty.Y2{a b:Ty}:a.is b=false↔a≠b:=by rw[<-Bool.not_eq_true,Ty.Jr]
def BU:Ty:=⟨(0,0),false⟩
def C9:Ty:=⟨(3,7630441),false⟩
def Ew:Ty:=⟨(4,1819242338),false⟩
def CZ:Ty:=⟨(4,1819047278),false⟩
def Ty.cls(t:Ty):Bool:=isClass t.nm.1 t.nm.2 t.arr
def Ty.obj(t:Ty):Bool:=t.arr||(t.cls||t.is CZ)
def Dk(fs:Tab)(a b:St):Bool:=tN b (above fs a).1
def I4(fs:Tab)(b:St):List St->St
 |[]=>(0,0)
 |c::cs=>bif Dk fs b c then c else I4 fs b cs
def Ir(fs:Tab)(a b:St):St:=I4 fs b (above fs a).1
def fitsT(fs:Tab)(a b:Ty):Bool:=bif a.is b then true else bif a.is CZ then b.obj else a.cls&&(b.cls&&Dk fs a.nm b.nm)
def Ed(fs:Tab)(a b:Ty):Ty×Bool:=
 bif a.is b then(a,true)else bif a.is CZ&&b.obj then(b,true)else bif b.is CZ&&a.obj then(a,true)else
 bif (a.cls&&b.cls)&& !decide (Ir fs a.nm b.nm=(0,0))then(⟨Ir fs a.nm b.nm,false⟩,true)else(BU,false)
theorem Ot:CZ.cls=false:=by decide
theorem rQ:BU.cls=false:=by decide
theorem ANm:BU.obj=false:=by decide
theorem AMi:∀(m:Nat) (fs:Tab) (out:List St) (s x:St),x∈(G7 m fs out s).1->x∈out∨x≠(0,0)
 |0,_,_,_,_,h=>.inl h
 |m+1,fs,out,s,x,h=>by
  unfold G7 at h
  cases d:decide (s.1=0/\s.2=0)with
  |true=>rw[d]at h;exact .inl h
  |false=>
   rw[d,cond_false]at h
   cases f:CY fs s with
   |none=>rw[f]at h;exact .inl h
   |some c=>
    rw[f]at h
    cases hh:tN s out with
    |true=>simp only[hh,cond_true]at h;exact .inl h
    |false=>
     simp only[hh,cond_false]at h
     rcases AMi m fs _ _ x h with h|h
     ·rcases List.mem_append.1 h with h|h
      ·exact .inl h
      ·rw[List.mem_singleton.1 h];exact .inr λe=>by rw[e]at d;simp at d
     ·exact .inr h
def Whole(fs:Tab):Prop:=∀s c,CY fs s=some c->(above fs s).2=true
inductive Chain(fs:Tab):St->List St->Prop
 |nil:Chain fs (0,0) []
 |cons {s:St} {c:Fc} {l:List St} (h0:s≠(0,0)) (hl:CY fs s=some c) (t:Chain fs c.sup l):Chain fs s (s::l)
theorem AGB:∀(m:Nat) (fs:Tab) (out:List St) (s:St) (r:List St),G7 m fs out s=(r,true)->∃l,r=out++l/\Chain fs s l
 |0,_,_,_,_,h=>by simp[G7]at h
 |m+1,fs,out,s,r,h=>by
  unfold G7 at h
  cases d:decide (s.1=0/\s.2=0)with
  |true=>
   rw[d]at h
   have e:s=(0,0):=by have:=of_decide_eq_true d;exact Prod.ext this.1 this.2
   subst e
   cases h
   exact⟨[],by simp,.nil⟩
  |false=>
   rw[d,cond_false]at h
   cases f:CY fs s with
   |none=>rw[f]at h;cases h
   |some c=>
    rw[f]at h
    cases g:tN s out with
    |true=>simp only[g,cond_true]at h;cases h
    |false=>
     simp only[g,cond_false]at h
     obtain⟨l,rfl,i⟩:=AGB m fs _ _ r h
     exact⟨s::l,by simp,.cons (λe=>by rw[e]at d;simp at d) f i⟩
theorem Chain.det{fs:Tab}:∀{s:St} {l m:List St},Chain fs s l->Chain fs s m->l=m
 |_,_,_,.nil,.nil=>rfl
 |_,_,_,.nil,.cons h _ _=>absurd rfl h
 |_,_,_,.cons h _ _,.nil=>absurd rfl h
 |_,_,_,.cons _ f g,.cons _ d i=>by
  rw[f]at d;cases d
  rw[g.det i]
theorem EG{fs:Tab}{s:St}(h:(above fs s).2=true):Chain fs s (above fs s).1:=by
 obtain⟨l,d,f⟩:=AGB _ fs [] s (above fs s).1 (by rw[<-h];rfl)
 rw[List.nil_append]at d
 rw[d];exact f
theorem Chain.suffix{fs:Tab}:∀{s x:St} {l:List St},Chain fs s l->x∈l->∃p m,l=p++m/\Chain fs x m
 |_,_,_,.nil,h=>by cases h
 |s,x,_,.cons (l:=l) d f t,h=>by
  rcases List.mem_cons.1 h with rfl|h
  ·exact⟨[],_,rfl,.cons d f t⟩
  ·obtain⟨p,m,e,g⟩:=t.suffix h
   exact⟨s::p,m,by rw[e];rfl,g⟩
theorem Chain.known{fs:Tab}:∀{s x:St} {l:List St},Chain fs s l->x∈l->∃c,CY fs x=some c
 |_,_,_,.nil,h=>by cases h
 |s,x,_,.cons f d t,h=>by
  rcases List.mem_cons.1 h with rfl|h
  ·exact⟨_,d⟩
  ·exact t.known h
theorem Chain.hd{fs:Tab}{s:St}{l:List St}(h:Chain fs s l)(d:s≠(0,0)):s∈l:=by
 cases h with
 |nil=>exact absurd rfl d
 |cons=>exact List.mem_cons_self ..
section
variable{fs:Tab}(hw:Whole fs)
include hw
omit hw in
theorem Jf{a x:St}(h:x∈(above fs a).1):∃c,CY fs a=some c:=by
 unfold above G7 at h
 cases d:decide (a.1=0/\a.2=0)with
 |true=>rw[d]at h;cases h
 |false=>
  rw[d,cond_false]at h
  cases f:CY fs a with
  |none=>rw[f]at h;cases h
  |some c=>exact⟨c,rfl⟩
theorem O0{a b:St}(h:b∈(above fs a).1):∃p,(above fs a).1=p++(above fs b).1/\b∈(above fs b).1:=by
 obtain⟨c,i⟩:=Jf h
 have f:=EG (hw a c i)
 obtain⟨p,m,e,k⟩:=f.suffix h
 obtain⟨d,hd⟩:=f.known h
 have g:=EG (hw b d hd)
 have:=k.det g
 subst this
 have q:b≠(0,0):=by
  rcases AMi _ _ _ _ _ h with h|h
  ·cases h
  ·exact h
 exact⟨p,e,g.hd q⟩
theorem AIE{a b c:St}(d:Dk fs a b=true)(f:Dk fs b c=true):Dk fs a c=true:=by
 unfold Dk at*
 rw[ND]at*
 obtain⟨p,e,_⟩:=O0 hw d
 rw[e];exact List.mem_append_right _ f
theorem AMT{b:St}:∀{l:List St} {a:St},Chain fs a l->∀u,u∈l->Dk fs b u=true->I4 fs b l≠(0,0)/\I4 fs b l∈l/\Dk fs b (I4 fs b l)=true/\Dk fs (I4 fs b l) u=true
 |_,_,.nil,u,h,_=>by cases h
 |_,_,.cons (s:=s) (l:=l) f g t,u,h,hu=>by
  unfold I4
  cases d:Dk fs b s with
  |true=>
   refine⟨f,List.mem_cons_self ..,d,?_⟩
   have i:=EG (hw s _ g)
   have e:=(Chain.cons f g t).det i
   unfold Dk
   rw[ND]
   show u∈(above fs s).1
   rw[<-e];exact h
  |false=>
   rcases List.mem_cons.1 h with rfl|h
   ·rw[hu]at d;cases d
   ·obtain⟨k,m,p,q⟩:=AMT t u h hu
    exact⟨k,List.mem_cons_of_mem _ m,p,q⟩
omit hw in
theorem AIM{b:St}:∀{l:List St},I4 fs b l≠(0,0)->I4 fs b l∈l/\Dk fs b (I4 fs b l)=true
 |[],h=>absurd rfl h
 |c::l,h=>by
  unfold I4 at*
  cases d:Dk fs b c with
  |true=>exact⟨List.mem_cons_self ..,d⟩
  |false=>
   rw[d,cond_false]at h
   obtain⟨f,g⟩:=AIM h
   exact⟨List.mem_cons_of_mem _ f,g⟩
end
def Upper(fs:Tab):Prop:=∀s c,CY fs s=some c->upper s.1 s.2=true
theorem FP{fs:Tab}{a b:Ty}:fitsT fs a b=true↔a=b∨(a=CZ/\b.obj=true)∨(a.cls=true/\b.cls=true/\Dk fs a.nm b.nm=true):=by
 unfold fitsT
 cases h:a.is b with
 |true=>simp[Ty.Jr.1 h]
 |false=>
  have d:=Ty.Y2.1 h
  cases g:a.is CZ with
  |true=>
   have e:=Ty.Jr.1 g
   subst e
   have:=Ot
   simp[d,this]
  |false=>
   have f:=Ty.Y2.1 g
   simp[d,f,Bool.and_eq_true]
theorem Jh(fs:Tab)(a:Ty):fitsT fs a a=true:=FP.2 (.inl rfl)
theorem APF{a:Ty}(h:a.cls=true):a.obj=true:=by unfold Ty.obj;rw[h];simp
theorem ALT:CZ.obj=true:=by decide
theorem AQq{a:Ty}(h:a.cls=true):a≠CZ:=λe=>by rw[e,Ot]at h;cases h
section
variable{fs:Tab}(hw:Whole fs)
include hw
theorem AD1{a b c:Ty}(f:fitsT fs a b=true)(g:fitsT fs b c=true):fitsT fs a c=true:=by
 rw[FP]at*
 rcases f with rfl|⟨rfl,f⟩|⟨f,d,k⟩
 ·exact g
 ·rcases g with rfl|⟨rfl,g⟩|⟨m,i,_⟩
  ·exact .inr (.inl ⟨rfl,f⟩)
  ·exact .inr (.inl ⟨rfl,g⟩)
  ·exact .inr (.inl ⟨rfl,APF i⟩)
 ·rcases g with rfl|⟨rfl,g⟩|⟨m,i,p⟩
  ·exact .inr (.inr ⟨f,d,k⟩)
  ·rw[Ot]at d;cases d
  ·exact .inr (.inr ⟨f,i,AIE hw k p⟩)
omit hw in
theorem fG{a b:Ty}(h:fitsT fs a b=true)(f:b.obj=true):a.obj=true:=by
 rw[FP]at h
 rcases h with rfl|⟨rfl,d⟩|⟨d,_,_⟩
 ·exact f
 ·exact ALT
 ·exact APF d
omit hw in
theorem AK0{a b:Ty}(h:fitsT fs a b=true)(f:b.obj=false):a=b:=by
 rw[FP]at h
 rcases h with rfl|⟨rfl,d⟩|⟨_,d,_⟩
 ·rfl
 ·rw[f]at d;cases d
 ·rw[APF d]at f;cases f
variable(hu:Upper fs)
include hu
theorem APQ{a b j:Ty}(h:Ed fs a b=(j,true)):fitsT fs a j=true/\fitsT fs b j=true:=by
 unfold Ed at h
 cases m:a.is b with
 |true=>
  rw[m]at h;cases h
  have:=Ty.Jr.1 m;subst this
  exact⟨Jh ..,Jh ..⟩
 |false=>
  rw[m,cond_false]at h
  cases f:a.is CZ&&b.obj with
  |true=>
   rw[f]at h;cases h
   rw[Bool.and_eq_true]at f
   exact⟨FP.2 (.inr (.inl ⟨Ty.Jr.1 f.1,f.2⟩)),Jh ..⟩
  |false=>
   rw[f,cond_false]at h
   cases g:b.is CZ&&a.obj with
   |true=>
    rw[g]at h;cases h
    rw[Bool.and_eq_true]at g
    exact⟨Jh ..,FP.2 (.inr (.inl ⟨Ty.Jr.1 g.1,g.2⟩))⟩
   |false=>
    rw[g,cond_false]at h
    cases k:(a.cls&&b.cls)&& !decide (Ir fs a.nm b.nm=(0,0))with
    |false=>rw[k]at h;cases h
    |true=>
     rw[k]at h;cases h
     simp only[Bool.and_eq_true,Bool.not_eq_true',decide_eq_false_iff_not]at k
     obtain⟨⟨v,w⟩,p⟩:=k
     obtain⟨u,x⟩:=AIM (fs:=fs) p
     have q:∃c,CY fs (Ir fs a.nm b.nm)=some c:=by
      have i:Ir fs a.nm b.nm∈(above fs a.nm).1:=u
      obtain⟨c,p⟩:=Jf i
      exact(EG (hw _ _ p)).known i
     obtain⟨c,q⟩:=q
     have d:(⟨Ir fs a.nm b.nm,false⟩:Ty).cls=true:=by
      show(!false&&upper _ _)=true
      rw[hu _ _ q];rfl
     exact⟨FP.2 (.inr (.inr ⟨v,d,by unfold Dk;rw[ND];exact u⟩)),FP.2 (.inr (.inr ⟨w,d,x⟩))⟩
omit hw hu in
theorem ABJ{a:Ty}(h:a.cls=true):a.arr=false:=by
 unfold Ty.cls isClass at h
 cases d:a.arr with
 |true=>rw[d]at h;cases h
 |false=>rfl
theorem AQ1{a b u:Ty}(i:fitsT fs a u=true)(k:fitsT fs b u=true):∃j,Ed fs a b=(j,true)/\fitsT fs j u=true:=by
 unfold Ed
 cases K:a.is b with
 |true=>exact⟨a,rfl,i⟩
 |false=>
  have B:=Ty.Y2.1 K
  rw[cond_false]
  cases q:a.is CZ&&b.obj with
  |true=>exact⟨b,rfl,k⟩
  |false=>
   rw[cond_false]
   cases v:b.is CZ&&a.obj with
   |true=>exact⟨a,rfl,i⟩
   |false=>
    rw[cond_false]
    have L:a≠CZ:=λe=>by
     subst e
     rw[Ty.AJP,Bool.true_and]at q
     rcases FP.1 i with rfl|⟨_,g⟩|⟨h,_,_⟩
     ·have:=fG k ALT;rw[this]at q;cases q
     ·have:=fG k g;rw[this]at q;cases q
     ·rw[Ot]at h;cases h
    have H:b≠CZ:=λe=>by
     subst e
     rw[Ty.AJP,Bool.true_and]at v
     rcases FP.1 k with rfl|⟨_,g⟩|⟨h,_,_⟩
     ·have:=fG i ALT;rw[this]at v;cases v
     ·have:=fG i g;rw[this]at v;cases v
     ·rw[Ot]at h;cases h
    have fin:∀{x y:St},a.cls=true->b.cls=true->u.cls=true->u.nm∈(above fs a.nm).1->Dk fs b.nm u.nm=true->∃j,(bif (a.cls&&b.cls)&& !decide (Ir fs a.nm b.nm=(0,0))then((⟨Ir fs a.nm b.nm,false⟩:Ty),true)else(BU,false))=(j,true)/\fitsT fs j u=true:=by
     intro _ _ M N O f C
     obtain⟨c,w⟩:=Jf f
     obtain⟨q1,q2,q3,q4⟩:=AMT hw (b:=b.nm) (EG (hw _ _ w)) u.nm f C
     rw[M,N,show Ir fs a.nm b.nm=I4 fs b.nm (above fs a.nm).1 from rfl,decide_eq_false q1]
     refine⟨_,rfl,FP.2 (.inr (.inr ⟨?_,O,q4⟩))⟩
     obtain⟨d,hd⟩:=(EG (hw _ _ w)).known q2
     show(!false&&upper _ _)=true
     rw[hu _ _ hd];rfl
    have I:∀{x:Ty},x.cls=true->(∃y,y∈(above fs x.nm).1)->x.nm∈(above fs x.nm).1:=λ{x} D ⟨y,P⟩=>by
     obtain⟨c,w⟩:=Jf P
     refine(EG (hw _ _ w)).hd λe=>?_
     unfold Ty.cls isClass upper at D
     rw[e]at D
     simp at D
    rcases FP.1 i with rfl|⟨h,_⟩|⟨J,E,m⟩
    ·rcases FP.1 k with rfl|⟨h,_⟩|⟨F,G,p⟩
     ·exact absurd rfl B
     ·exact absurd h H
     ·have f:a.nm∈(above fs a.nm).1:=by
       have A:a.nm∈(above fs b.nm).1:=by unfold Dk at p;rw[ND]at p;exact p
       exact(O0 hw A).elim λ_ h=>h.2
      exact fin (x:=(0,0)) (y:=(0,0)) G F G f p
    ·exact absurd h L
    ·rcases FP.1 k with rfl|⟨h,_⟩|⟨F,G,p⟩
     ·have A:b.nm∈(above fs a.nm).1:=by unfold Dk at m;rw[ND]at m;exact m
      have Q:b.nm∈(above fs b.nm).1:=(O0 hw A).elim λ_ h=>h.2
      exact fin (x:=(0,0)) (y:=(0,0)) J E E A (by unfold Dk;rw[ND];exact Q)
     ·exact absurd h H
     ·exact fin (x:=(0,0)) (y:=(0,0)) J F E (by unfold Dk at m;rw[ND]at m;exact m) p
end
structure CP where
 loc:List Ty
 stk:List Ty
structure Cx where
 fs:Tab
 pool:Pool
 max:Int
 ret:Ty
 code:List Ins
def Dv(fs:Tab):List Ty->List Ty->Option (List Ty)
 |[],s=>some s
 |_::_,[]=>none
 |w::ws,t::s=>bif fitsT fs t w then Dv fs ws s else none
def Cc(mx:Int)(t:Ty)(s:List Ty):Option (List Ty):=bif decide (((s.length+1:Nat):Int)<=mx)then some (t::s)else none
def Cx.cl(c:Cx)(i:Int):Ty:=⟨c.pool.names.getD i.toNat (0,0),false⟩
def Cx.ty(c:Cx)(i:Int):Ty:=c.pool.types.getD i.toNat BU
def fZ:PF:=⟨⟨(0,0),BU⟩,(0,0)⟩
def mZ:PM:=⟨⟨(0,0),false,[],BU⟩,(0,0)⟩
def Cx.fl(c:Cx)(i:Int):PF:=c.pool.fields.getD i.toNat fZ
def Cx.me(c:Cx)(i:Int):PM:=c.pool.Bg.getD i.toNat mZ
def Xr(t:Ty):Ty:=⟨t.nm,false⟩
def Ab0(c:Cx)(x:Ins):Option (List Ty×Option Ty):=match x.code with
 |1=>some ([],some C9)|2=>some ([],some CZ)|32=>some ([],some Ew)
 |5=>some ([C9,C9],some C9)|6=>some ([C9,C9],some C9)|7=>some ([C9,C9],some C9)|8=>some ([C9,C9],some C9)|9=>some ([C9,C9],some C9)
 |10=>some ([C9,C9],some Ew)|11=>some ([C9,C9],some Ew)
 |14=>some ([C9],some C9)|15=>some ([Ew],some Ew)
 |16=>some ([⟨(c.fl x.arg).own,false⟩],some (c.fl x.arg).f.ty)
 |17=>some ([(c.fl x.arg).f.ty,⟨(c.fl x.arg).own,false⟩],none)
 |18=>some ([],some (c.cl x.arg))
 |19=>bif (c.ty x.arg).arr then some ([C9],some (c.ty x.arg))else none
 |20=>bif (c.ty x.arg).arr then some ([C9,c.ty x.arg],some (Xr (c.ty x.arg)))else none
 |21=>bif (c.ty x.arg).arr then some ([Xr (c.ty x.arg),C9,c.ty x.arg],none)else none
 |25=>bif (c.me x.arg).m.st then none else some ((c.me x.arg).m.ps.reverse++[⟨(c.me x.arg).own,false⟩],some (c.me x.arg).m.ret)
 |26=>bif (c.me x.arg).m.st then some ((c.me x.arg).m.ps.reverse,some (c.me x.arg).m.ret)else none
 |27=>some ([],none)|28=>some ([Ew],none)|29=>some ([c.ret],none)|30=>some ([C9],none)
 |_=>none
def aZ(mx:Int):Option Ty->List Ty->Option (List Ty)
 |none,s=>some s
 |some t,s=>Cc mx t s
def stepT(c:Cx)(s:CP)(x:Ins):Option CP:=match x.code with
 |3=>bif (s.loc.getD x.arg.toNat BU).is BU then none else(Cc c.max (s.loc.getD x.arg.toNat BU) s.stk).map λk=>⟨s.loc,k⟩
 |4=>match s.stk with|[]=>none|t::k=>some ⟨s.loc.set x.arg.toNat t,k⟩
 |12=>match s.stk with|a::b::k=>bif a.is b&& !a.obj then(Cc c.max Ew k).map λk=>⟨s.loc,k⟩else none|_=>none
 |13=>match s.stk with|a::b::k=>bif a.obj&&b.obj then(Cc c.max Ew k).map λk=>⟨s.loc,k⟩else none|_=>none
 |31=>match s.stk with|[]=>none|_::k=>some ⟨s.loc,k⟩
 |23=>match s.stk with|[]=>none|t::k=>bif t.cls||t.is CZ then(Cc c.max (c.cl x.arg) k).map λk=>⟨s.loc,k⟩else none
 |24=>match s.stk with|[]=>none|t::k=>bif t.cls||t.is CZ then(Cc c.max Ew k).map λk=>⟨s.loc,k⟩else none
 |22=>match s.stk with|[]=>none|t::k=>bif t.arr||t.is CZ then(Cc c.max C9 k).map λk=>⟨s.loc,k⟩else none
 |_=>(Ab0 c x).bind λe=>(Dv c.fs e.1 s.stk).bind λk=>(aZ c.max e.2 k).map λk=>⟨s.loc,k⟩
inductive iR(R:Ty->Ty->Prop):List Ty->List Ty->Prop
 |nil:iR R [] []
 |cons {a b:Ty} {l m:List Ty} (h:R a b) (t:iR R l m):iR R (a::l) (b::m)
theorem iR.len{R:Ty->Ty->Prop}:∀{l m:List Ty},iR R l m->l.length=m.length
 |_,_,.nil=>rfl
 |_,_,.cons _ t=>by simp[t.len]
theorem iR.refl{R:Ty->Ty->Prop}(h:∀a,R a a):∀l,iR R l l
 |[]=>.nil
 |a::l=>.cons (h a) (iR.refl h l)
theorem iR.trans{R:Ty->Ty->Prop}(h:∀a b c,R a b->R b c->R a c):∀{l m k:List Ty},iR R l m->iR R m k->iR R l k
 |_,_,_,.nil,.nil=>.nil
 |_,_,_,.cons d f,.cons g i=>.cons (h _ _ _ d g) (f.trans h i)
theorem iR.getD{R:Ty->Ty->Prop}(d:∀a,R a a):∀{l m:List Ty} (i:Nat) (z:Ty),iR R l m->R (l.getD i z) (m.getD i z)
 |_,_,i,z,.nil=>by simpa using d z
 |_,_,0,z,.cons h _=>by simpa using h
 |_,_,i+1,z,.cons _ t=>by simpa using t.getD d i z
theorem iR.set{R:Ty->Ty->Prop}{a b:Ty}(h:R a b):∀{l m:List Ty} (i:Nat),iR R l m->iR R (l.set i a) (m.set i b)
 |_,_,_,.nil=>.nil
 |_,_,0,.cons _ t=>.cons h t
 |_,_,i+1,.cons d t=>.cons d (t.set h i)
theorem AFK:BU≠CZ:=λh=>by have:=Ty.Jr.2 h;revert this;decide
def zT(fs:Tab)(a b:Ty):Prop:=fitsT fs a b=true
def xQ(fs:Tab)(a b:Ty):Prop:=b=BU∨fitsT fs a b=true
def CP.le(fs:Tab)(s t:CP):Prop:=iR (xQ fs) s.loc t.loc/\iR (zT fs) s.stk t.stk
theorem CP.le_refl(fs:Tab)(s:CP):CP.le fs s s:=⟨iR.refl (λa=>.inr (Jh fs a)) _,iR.refl (Jh fs) _⟩
section
variable{fs:Tab}(hw:Whole fs)
include hw
theorem ATO{a b c:Ty}(f:xQ fs a b)(d:xQ fs b c):xQ fs a c:=by
 rcases d with d|d
 ·exact .inl d
 ·rcases f with rfl|f
  ·rcases FP.1 d with rfl|⟨h,_⟩|⟨h,_,_⟩
   ·exact .inl rfl
   ·exact absurd h AFK
   ·rw[rQ]at h;cases h
  ·exact .inr (AD1 hw f d)
theorem CP.le_trans{a b c:CP}(d:CP.le fs a b)(f:CP.le fs b c):CP.le fs a c:=
 ⟨iR.trans (R:=xQ fs) (λ_ _ _ a b=>ATO hw a b) d.1 f.1,iR.trans (R:=zT fs) (λ_ _ _ a b=>AD1 hw a b) d.2 f.2⟩
theorem AQY:∀(ws:List Ty) {s t r:List Ty},iR (zT fs) s t->Dv fs ws t=some r->∃q,Dv fs ws s=some q/\iR (zT fs) q r
 |[],_,_,_,h,e=>by cases e;exact⟨_,rfl,h⟩
 |w::ws,_,_,_,.nil,e=>by cases e
 |w::ws,_,_,r,.cons (a:=a) (b:=b) h t,e=>by
  have e:(bif fitsT fs b w then Dv fs ws _ else none)=some r:=e
  cases d:fitsT fs b w with
  |false=>rw[d]at e;cases e
  |true=>
   rw[d,cond_true]at e
   obtain⟨q,f,g⟩:=AQY ws t e
   refine⟨q,?_,g⟩
   show(bif fitsT fs a w then Dv fs ws _ else none)=some q
   rw[AD1 hw h d];exact f
end
theorem AVR{fs:Tab}{mx:Int}{a b:Ty}{s t r:List Ty}(d:zT fs a b)(h:iR (zT fs) s t)(e:Cc mx b t=some r):∃q,Cc mx a s=some q/\iR (zT fs) q r:=by
 unfold Cc at*
 rw[h.len]
 cases hd:decide (((t.length+1:Nat):Int)<=mx)with
 |false=>rw[hd]at e;cases e
 |true=>rw[hd]at e;cases e;exact⟨_,rfl,.cons d h⟩
theorem U1{fs:Tab}{mx:Int}{a b:Ty}{l m:List Ty}{s t:List Ty}{r:CP}(d:zT fs a b)(f:iR (xQ fs) l m)(h:iR (zT fs) s t)(e:(Cc mx b t).map (λk=>(⟨m,k⟩:CP))=some r):
 ∃q,(Cc mx a s).map (λk=>(⟨l,k⟩:CP))=some q/\CP.le fs q r:=by
 obtain⟨k,g,i⟩:=Option.map_eq_some_iff.1 e
 subst i
 obtain⟨q,p,u⟩:=AVR d h g
 exact⟨⟨l,q⟩,by rw[p];rfl,f,u⟩
theorem AU1{c:Cx}(hw:Whole c.fs){x:Ins}{s t r:CP}(h:CP.le c.fs s t)(e:stepT c t x=some r):∃q,stepT c s x=some q/\CP.le c.fs q r:=by
 obtain⟨p,F⟩:=s
 obtain⟨w,H⟩:=t
 obtain⟨g,i⟩:=h
 have g:iR (xQ c.fs) p w:=g
 have i:iR (zT c.fs) F H:=i
 unfold stepT at*
 split at e
 ·
  cases y:(w.getD x.arg.toNat BU).is BU with
  |true=>simp only[y,cond_true]at e;cases e
  |false=>
   simp only[y,cond_false]at e
   have B:zT c.fs (p.getD x.arg.toNat BU) (w.getD x.arg.toNat BU):=by
    rcases g.getD (λa=>.inr (Jh _ a)) x.arg.toNat BU with h|h
    ·rw[h]at y;cases y
    ·exact h
   have C:(p.getD x.arg.toNat BU).is BU=false:=by
    rw[Ty.Y2];intro I
    rw[I]at B
    rcases FP.1 B with h|⟨h,_⟩|⟨h,_,_⟩
    ·rw[<-h]at y;cases y
    ·exact absurd h AFK
    ·rw[rQ]at h;cases h
   simp only[C,cond_false]
   exact U1 B g i e
 ·cases i with
  |nil=>cases e
  |cons h t=>cases e;exact⟨_,rfl,g.set (.inr h) _,t⟩
 ·cases i with
  |nil=>cases e
  | @cons a a' _ _ h t=>
   cases t with
   |nil=>cases e
   | @cons b A k v D t=>
    have e:(bif a'.is A&& !a'.obj then(Cc c.max Ew v).map λk=>(⟨w,k⟩:CP)else none)=some r:=e
    cases d:a'.is A&& !a'.obj with
    |false=>rw[d]at e;cases e
    |true=>
     rw[d,cond_true]at e
     simp only[Bool.and_eq_true,Bool.not_eq_true']at d
     have E:=Ty.Jr.1 d.1
     have J:=AK0 h d.2
     have K:=AK0 D (E▸d.2)
     show ∃q,(bif a.is b&& !a.obj then(Cc c.max Ew k).map λk=>(⟨p,k⟩:CP)else none)=some q/\_
     rw[J,K,d.1,d.2]
     exact U1 (Jh ..) g t e
 ·cases i with
  |nil=>cases e
  | @cons a a' _ _ h t=>
   cases t with
   |nil=>cases e
   | @cons b A k v D t=>
    have e:(bif a'.obj&&A.obj then(Cc c.max Ew v).map λk=>(⟨w,k⟩:CP)else none)=some r:=e
    cases d:a'.obj&&A.obj with
    |false=>rw[d]at e;cases e
    |true=>
     rw[d,cond_true]at e
     simp only[Bool.and_eq_true]at d
     show ∃q,(bif a.obj&&b.obj then(Cc c.max Ew k).map λk=>(⟨p,k⟩:CP)else none)=some q/\_
     rw[fG h d.1,fG D d.2]
     exact U1 (Jh ..) g t e
 ·cases i with
  |nil=>cases e
  |cons h t=>cases e;exact⟨_,rfl,g,t⟩
 ·cases i with
  |nil=>cases e
  | @cons a a' k v h t=>
   have e:(bif a'.cls||a'.is CZ then(Cc c.max (c.cl x.arg) v).map λk=>(⟨w,k⟩:CP)else none)=some r:=e
   cases d:a'.cls||a'.is CZ with
   |false=>rw[d]at e;cases e
   |true=>
    rw[d,cond_true]at e
    have m:(a.cls||a.is CZ)=true:=by
     simp only[Bool.or_eq_true,Ty.Jr]at*
     rcases FP.1 h with rfl|⟨h,_⟩|⟨h,_,_⟩
     ·exact d
     ·exact .inr h
     ·exact .inl h
    show ∃q,(bif a.cls||a.is CZ then(Cc c.max (c.cl x.arg) k).map λk=>(⟨p,k⟩:CP)else none)=some q/\_
    rw[m]
    exact U1 (Jh ..) g t e
 ·cases i with
  |nil=>cases e
  | @cons a a' k v h t=>
   have e:(bif a'.cls||a'.is CZ then(Cc c.max Ew v).map λk=>(⟨w,k⟩:CP)else none)=some r:=e
   cases d:a'.cls||a'.is CZ with
   |false=>rw[d]at e;cases e
   |true=>
    rw[d,cond_true]at e
    have m:(a.cls||a.is CZ)=true:=by
     simp only[Bool.or_eq_true,Ty.Jr]at*
     rcases FP.1 h with rfl|⟨h,_⟩|⟨h,_,_⟩
     ·exact d
     ·exact .inr h
     ·exact .inl h
    show ∃q,(bif a.cls||a.is CZ then(Cc c.max Ew k).map λk=>(⟨p,k⟩:CP)else none)=some q/\_
    rw[m]
    exact U1 (Jh ..) g t e
 ·cases i with
  |nil=>cases e
  | @cons a a' k v h t=>
   have e:(bif a'.arr||a'.is CZ then(Cc c.max C9 v).map λk=>(⟨w,k⟩:CP)else none)=some r:=e
   cases d:a'.arr||a'.is CZ with
   |false=>rw[d]at e;cases e
   |true=>
    rw[d,cond_true]at e
    have m:(a.arr||a.is CZ)=true:=by
     simp only[Bool.or_eq_true,Ty.Jr]at*
     rcases FP.1 h with rfl|⟨h,_⟩|⟨_,h,_⟩
     ·exact d
     ·exact .inr h
     ·unfold Ty.cls isClass at h
      rcases d with d|d
      ·rw[d]at h;cases h
      ·rw[d]at h;exact absurd h (by decide)
    show ∃q,(bif a.arr||a.is CZ then(Cc c.max C9 k).map λk=>(⟨p,k⟩:CP)else none)=some q/\_
    rw[m]
    exact U1 (Jh ..) g t e
 ·obtain⟨f,L,e⟩:=Option.bind_eq_some_iff.1 e
  obtain⟨k,M,e⟩:=Option.bind_eq_some_iff.1 e
  obtain⟨q,N,G⟩:=AQY hw _ i M
  rw[L]
  show ∃q,((Dv c.fs f.1 F).bind λk=>(aZ c.max f.2 k).map λk=>(⟨p,k⟩:CP))=some q/\_
  rw[N]
  obtain⟨O,o⟩:=f
  cases o with
  |none=>cases e;exact⟨_,rfl,g,G⟩
  |some u=>exact U1 (Jh ..) g G e
def Ip(fs:Tab):List Ty->List Ty->Option (List Ty)
 |[],[]=>some []
 |a::l,b::m=>bif (Ed fs a b).2 then(Ip fs l m).map λk=>(Ed fs a b).1::k else none
 |_,_=>none
def Dq(fs:Tab):List Ty->List Ty->List Ty
 |a::l,b::m=>(Ed fs a b).1::Dq fs l m
 |l,_=>l
def Fj:List Ty->List Ty->Bool
 |[],[]=>true
 |a::l,b::m=>a.is b&&Fj l m
 |_,_=>false
theorem PW:∀{l m:List Ty},Fj l m=true↔l=m
 |[],[]=>by simp[Fj]
 |[],_::_=>by simp[Fj]
 |_::_,[]=>by simp[Fj]
 |a::l,b::m=>by simp[Fj,Ty.Jr,PW]
abbrev Uf:=List (Option CP)
def FY(fs:Tab)(at':Uf)(to:Nat)(s:CP):Option (Uf×Bool):=match at'[to]? with
 |none=>none
 |some none=>some (at'.set to (some s),true)
 |some (some old)=>(Ip fs old.stk s.stk).map λk=>(at'.set to (some ⟨Dq fs old.loc s.loc,k⟩),!(Fj k old.stk&&Fj (Dq fs old.loc s.loc) old.loc))
def jumps(x:Ins):Bool:=decide (x.code=27)||decide (x.code=28)
def ends(x:Ins):Bool:=decide (x.code=27)||decide (x.code=29)
def Zj(n i to:Nat):Nat:=bif decide (n<=to)then i else to
def Wh(c:Cx)(at':Uf)(i:Nat)(x:Ins)(s:CP):Nat ⊕ (Uf×List Nat):=match stepT c s x with
 |none=>.inl i
 |some t=>match(bif jumps x then FY c.fs at' x.arg.toNat t else some (at',false))with
  |none=>.inl (Zj c.code.length i x.arg.toNat)
  |some (a1,b1)=>match(bif ends x then some (a1,false)else FY c.fs a1 (i+1) t)with
   |none=>.inl (Zj c.code.length i (i+1))
   |some (a2,b2)=>.inr (a2,(bif b2 then[i+1]else[])++(bif b1 then[x.arg.toNat]else[]))
def xZ:Ins:=⟨0,0⟩
def sZ:CP:=⟨[],[]⟩
def Uf.st(a:Uf)(i:Nat):CP:=((a[i]?).getD none).getD sZ
def Cx.at(c:Cx)(i:Nat):Ins:=(c.code[i]?).getD xZ
def runT(c:Cx):Nat->Uf->List Nat->Option Int
 |0,_,_=>none
 |_+1,_,[]=>some (-1)
 |f+1,a,i::todo=>match Wh c a i (c.at i) (Uf.st a i)with
  |.inl j=>some j
  |.inr (b,ps)=>runT c f b (ps++todo)
def nT(x:Ins)(i:Nat):List Nat:=(bif jumps x then[x.arg.toNat]else[])++(bif ends x then[]else[i+1])
structure Post(c:Cx)(init:CP)(A:Nat->Option CP):Prop where
 init:∃s,A 0=some s/\CP.le c.fs init s
 step:∀i s,i<c.code.length->A i=some s->∃t,stepT c s (c.at i)=some t/\∀j∈nT (c.at i) i,j<c.code.length/\∃u,A j=some u/\CP.le c.fs t u
theorem AHl{fs:Tab}{a b:Ty}(h:(Ed fs a b).2=false):(Ed fs a b).1=BU:=by
 unfold Ed at*
 cases d:a.is b<;>cases f:a.is CZ&&b.obj<;>cases g:b.is CZ&&a.obj<;>cases i:(a.cls&&b.cls)&& !decide (Ir fs a.nm b.nm=(0,0))<;>simp_all
section
variable{fs:Tab}(hw:Whole fs)(hu:Upper fs)
include hw hu
theorem ALN:∀{l m k:List Ty},Ip fs l m=some k->iR (zT fs) l k/\iR (zT fs) m k
 |[],[],_,h=>by cases h;exact⟨.nil,.nil⟩
 |[],_::_,_,h=>by cases h
 |_::_,[],_,h=>by cases h
 |a::l,b::m,k,h=>by
  have h:(bif (Ed fs a b).2 then(Ip fs l m).map λk=>(Ed fs a b).1::k else none)=some k:=h
  cases d:(Ed fs a b).2 with
  |false=>rw[d]at h;cases h
  |true=>
   rw[d,cond_true]at h
   obtain⟨q,f,rfl⟩:=Option.map_eq_some_iff.1 h
   obtain⟨g,i⟩:=ALN f
   obtain⟨p,u⟩:=APQ hw hu (a:=a) (b:=b) (j:=(Ed fs a b).1) (Prod.ext rfl d)
   exact⟨.cons p g,.cons u i⟩
theorem AHq:∀{l m u:List Ty},iR (zT fs) l u->iR (zT fs) m u->∃k,Ip fs l m=some k/\iR (zT fs) k u
 |_,_,_,.nil,.nil=>⟨[],rfl,.nil⟩
 |_,_,_,@iR.cons _ a c l n h t,@iR.cons _ b _ m _ d f=>by
  obtain⟨k,g,i⟩:=AHq t f
  obtain⟨j,p,q⟩:=AQ1 hw hu h d
  refine⟨j::k,?_,.cons q i⟩
  show(bif (Ed fs a b).2 then(Ip fs l m).map λk=>(Ed fs a b).1::k else none)=_
  rw[p,g];rfl
theorem AQE{a b:Ty}:xQ fs a (Ed fs a b).1/\xQ fs b (Ed fs a b).1:=by
 cases d:(Ed fs a b).2 with
 |true=>
  obtain⟨f,g⟩:=APQ hw hu (a:=a) (b:=b) (j:=(Ed fs a b).1) (Prod.ext rfl d)
  exact⟨.inr f,.inr g⟩
 |false=>exact⟨.inl (AHl d),.inl (AHl d)⟩
theorem AP7{a b u:Ty}(d:xQ fs a u)(f:xQ fs b u):xQ fs (Ed fs a b).1 u:=by
 rcases d with d|d
 ·exact .inl d
 ·rcases f with f|f
  ·exact .inl f
  ·obtain⟨j,g,i⟩:=AQ1 hw hu d f
   rw[g];exact .inr i
theorem AJr:∀{l m:List Ty},l.length=m.length->iR (xQ fs) l (Dq fs l m)/\iR (xQ fs) m (Dq fs l m)
 |[],[],_=>⟨.nil,.nil⟩
 |[],_::_,h=>by simp at h
 |_::_,[],h=>by simp at h
 |a::l,b::m,h=>by
  obtain⟨d,f⟩:=AJr (l:=l) (m:=m) (by simpa using h)
  obtain⟨g,i⟩:=AQE hw hu (a:=a) (b:=b)
  exact⟨.cons g d,.cons i f⟩
theorem AIT:∀{l m u:List Ty},iR (xQ fs) l u->iR (xQ fs) m u->iR (xQ fs) (Dq fs l m) u
 |_,_,_,.nil,.nil=>.nil
 |_,_,_,.cons h t,.cons d f=>.cons (AP7 hw hu h d) (AIT t f)
structure Came(a:Uf)(to:Nat)(s:CP)(b:Uf)(ch:Bool):Prop where
 lt:to<a.length
 len:b.length=a.length
 other:∀j,j≠to->b[j]? =a[j]?
 here:∃u,b[to]? =some (some u)/\CP.le fs s u/\u.loc.length=s.loc.length/\∀old,a[to]? =some (some old)->CP.le fs old u
 same:ch=false->b=a
theorem AOx{a b:Uf}{g:Nat}{s:CP}{u:Bool}(h:FY fs a g s=some (b,u))(w:∀d,a[g]? =some (some d)->d.loc.length=s.loc.length):Came (fs:=fs) a g s b u:=by
 unfold FY at h
 cases e:a[g]? with
 |none=>rw[e]at h;cases h
 |some o=>
  have f:=(List.getElem?_eq_some_iff.1 e).1
  rw[e]at h
  cases o with
  |none=>
   cases h
   exact⟨f,by simp,λj m=>by rw[List.getElem?_set_ne (Ne.symm m)],⟨s,by rw[List.getElem?_set_self f],CP.le_refl ..,rfl,λd i=>by rw[e]at i;cases i⟩,λh=>by cases h⟩
  |some d=>
   obtain⟨k,x,y⟩:=Option.map_eq_some_iff.1 h
   cases y
   obtain⟨A,B⟩:=ALN hw hu x
   have p:=w d e
   obtain⟨C,v⟩:=AJr hw hu p
   refine⟨f,by simp,λj m=>by rw[List.getElem?_set_ne (Ne.symm m)],⟨⟨Dq fs d.loc s.loc,k⟩,by rw[List.getElem?_set_self f],⟨v,B⟩,by show(Dq fs d.loc s.loc).length=_;rw[<-v.len],λo i=>?_⟩,λq=>?_⟩
   ·rw[e]at i;cases i;exact⟨C,A⟩
   ·simp only[Bool.not_eq_false',Bool.and_eq_true,PW]at q
    rw[q.1,q.2]
    have:a[g]=some ⟨d.loc,d.stk⟩:=by
     have:=(List.getElem?_eq_some_iff.1 e).2
     rw[this]
    rw[<-this];exact List.set_getElem_self f
def Under(a:Uf)(A:Nat->Option CP):Prop:=∀j s,a[j]? =some (some s)->∃t,A j=some t/\CP.le fs s t
theorem AQs{a:Uf}{f:Nat}{s t:CP}{A:Nat->Option CP}(g:Under (fs:=fs) a A)(q:A f=some t)(hs:CP.le fs s t)(p:f<a.length):∃b w,FY fs a f s=some (b,w)/\Under (fs:=fs) b A/\b.length=a.length:=by
 unfold FY
 cases e:a[f]? with
 |none=>rw[List.getElem?_eq_none_iff]at e;omega
 |some o=>
  have put:∀x:CP,CP.le fs x t->Under (fs:=fs) (a.set f (some x)) A:=λx B j y m=>by
   by_cases u:j=f
   ·subst u
    rw[List.getElem?_set_self p]at m
    cases m
    exact⟨t,q,B⟩
   ·rw[List.getElem?_set_ne (Ne.symm u)]at m
    exact g j y m
  cases o with
  |none=>exact⟨_,_,rfl,put s hs,by simp⟩
  |some d=>
   obtain⟨E,i,v⟩:=g f d e
   rw[q]at i;cases i
   obtain⟨k,C,D⟩:=AHq hw hu v.2 hs.2
   refine⟨a.set f (some ⟨Dq fs d.loc s.loc,k⟩),!(Fj k d.stk&&Fj (Dq fs d.loc s.loc) d.loc),?_,put _ ⟨AIT hw hu v.1 hs.1,D⟩,by simp⟩
   show(Ip fs d.stk s.stk).map _=_
   rw[C];rfl
end
def AMP(L:Nat)(a:Uf):Prop:=∀(i:Nat) (s:CP),a[i]? =some (some s)->s.loc.length=L
def Grow(fs:Tab)(a b:Uf):Prop:=∀(j:Nat) (s:CP),a[j]? =some (some s)->∃t:CP,b[j]? =some (some t)/\CP.le fs s t
theorem AO3{c:Cx}{s t:CP}{x:Ins}(h:stepT c s x=some t):t.loc.length=s.loc.length:=by
 have key:∀{o:Option (List Ty)} {r:CP},o.map (λk=>(⟨s.loc,k⟩:CP))=some r->r.loc.length=s.loc.length:=λh=>by
  obtain⟨k,_,rfl⟩:=Option.map_eq_some_iff.1 h;rfl
 unfold stepT at h
 split at h
 ·cases d:(s.loc.getD x.arg.toNat BU).is BU with
  |true=>rw[d]at h;cases h
  |false=>rw[d]at h;exact key h
 ·split at h
  ·cases h
  ·cases h;simp
 ·split at h
  ·rename_i a b k _
   cases d:a.is b&& !a.obj with
   |true=>rw[d]at h;exact key h
   |false=>rw[d]at h;cases h
  ·cases h
 ·split at h
  ·rename_i a b k _
   cases d:a.obj&&b.obj with
   |true=>rw[d]at h;exact key h
   |false=>rw[d]at h;cases h
  ·cases h
 ·split at h
  ·cases h
  ·cases h;rfl
 ·split at h
  ·cases h
  ·rename_i a k _
   cases d:a.cls||a.is CZ with
   |true=>rw[d]at h;exact key h
   |false=>rw[d]at h;cases h
 ·split at h
  ·cases h
  ·rename_i a k _
   cases d:a.cls||a.is CZ with
   |true=>rw[d]at h;exact key h
   |false=>rw[d]at h;cases h
 ·split at h
  ·cases h
  ·rename_i a k _
   cases d:a.arr||a.is CZ with
   |true=>rw[d]at h;exact key h
   |false=>rw[d]at h;cases h
 ·obtain⟨e,_,h⟩:=Option.bind_eq_some_iff.1 h
  obtain⟨k,_,h⟩:=Option.bind_eq_some_iff.1 h
  exact key h
theorem Grow.refl{fs:Tab}(a:Uf):Grow fs a a:=λ_ s h=>⟨s,h,CP.le_refl ..⟩
section
variable{c:Cx}(hw:Whole c.fs)(hu:Upper c.fs)
include hw
theorem Grow.trans{a b d:Uf}(f:Grow c.fs a b)(g:Grow c.fs b d):Grow c.fs a d:=λj s h=>by
 obtain⟨t,i,k⟩:=f j s h
 obtain⟨u,hu,m⟩:=g j t i
 exact⟨u,hu,CP.le_trans hw k m⟩
omit hw in
theorem Came.grow{a b:Uf}{d:Nat}{s:CP}{g:Bool}(h:Came (fs:=c.fs) a d s b g):Grow c.fs a b:=λj x f=>by
 by_cases e:j=d
 ·subst e
  obtain⟨u,i,_,_,k⟩:=h.here
  exact⟨u,i,k x f⟩
 ·exact⟨x,by rw[h.other j e];exact f,CP.le_refl ..⟩
omit hw in
theorem Came.inv{L:Nat}{a b:Uf}{f:Nat}{s:CP}{g:Bool}(h:Came (fs:=c.fs) a f s b g)(hi:AMP L a)(hs:s.loc.length=L):AMP L b:=λj x d=>by
 by_cases e:j=f
 ·subst e
  obtain⟨u,i,_,k,_⟩:=h.here
  rw[i]at d;cases d;omega
 ·rw[h.other j e]at d;exact hi j x d
include hu
structure Work(c:Cx)(L:Nat)(a:Uf)(i:Nat)(x:Ins)(s:CP)(b:Uf)(ps:List Nat):Prop where
 len:b.length=a.length
 grow:Grow c.fs a b
 same:∀j,j∉ps->b[j]? =a[j]?
 inv:AMP L b
 mem:∀j∈ps,j<a.length/\∃u,b[j]? =some (some u)
 flow:∃t,stepT c s x=some t/\∀j∈nT x i,j<a.length/\∃u,b[j]? =some (some u)/\CP.le c.fs t u
 nil:ps=[]->b=a
theorem AOJ{L:Nat}{a b:Uf}{i:Nat}{x:Ins}{s:CP}{ps:List Nat}(hi:AMP L a)(hs:s.loc.length=L)(h:Wh c a i x s=.inr (b,ps)):Work c L a i x s b ps:=by
 unfold Wh at h
 cases w:stepT c s x with
 |none=>rw[w]at h;cases h
 |some t=>
  have A:t.loc.length=L:=(AO3 w).trans hs
  rw[w]at h
  have h:(match(bif jumps x then FY c.fs a x.arg.toNat t else some (a,false))with
   |none=>.inl (Zj c.code.length i x.arg.toNat)
   |some (f,B)=>match(bif ends x then some (f,false)else FY c.fs f (i+1) t)with
    |none=>.inl (Zj c.code.length i (i+1))
    |some (N,C)=>.inr (N,(bif C then[i+1]else[])++(bif B then[x.arg.toNat]else[])))=Sum.inr (α:=Nat) (b,ps):=h
  cases E:(bif jumps x then FY c.fs a x.arg.toNat t else some (a,false))with
  |none=>rw[E]at h;cases h
  |some r=>
   obtain⟨f,B⟩:=r
   rw[E]at h
   cases F:(bif ends x then some (f,false)else FY c.fs f (i+1) t)with
   |none=>simp only[F]at h;cases h
   |some r=>
    obtain⟨N,C⟩:=r
    simp only[F]at h
    cases h
    have O:f.length=a.length/\Grow c.fs a f/\AMP L f/\(B=false->f=a)/\(∀j,(B=true->j≠x.arg.toNat)->f[j]? =a[j]?)/\(B=true->x.arg.toNat<a.length/\∃u,f[x.arg.toNat]? =some (some u))/\
     (jumps x=true->x.arg.toNat<a.length/\∃u,f[x.arg.toNat]? =some (some u)/\CP.le c.fs t u):=by
     cases k:jumps x with
     |false=>
      rw[k]at E;cases E
      exact⟨rfl,Grow.refl a,hi,λ_=>rfl,λ_ _=>rfl,λh=>(by cases h),λh=>(by cases h)⟩
     |true=>
      rw[k]at E
      have g:=AOx hw hu (show FY c.fs a x.arg.toNat t=some (f,B)from E) λI J=>(hi _ _ J).trans A.symm
      obtain⟨u,m,D,_,_⟩:=g.here
      refine⟨g.len,g.grow,g.inv hi A,g.same,λj k=>?_,λ_=>⟨g.lt,u,m⟩,λ_=>⟨g.lt,u,m,D⟩⟩
      cases d:B with
      |true=>exact g.other j (k d)
      |false=>rw[g.same d]
    obtain⟨P,Q,K,R,S,T,U⟩:=O
    have V:b.length=f.length/\Grow c.fs f b/\AMP L b/\(C=false->b=f)/\(∀j,(C=true->j≠i+1)->b[j]? =f[j]?)/\(C=true->i+1<f.length/\∃u,b[i+1]? =some (some u))/\
     (ends x=false->i+1<f.length/\∃u,b[i+1]? =some (some u)/\CP.le c.fs t u):=by
     cases k:ends x with
     |true=>
      rw[k]at F;cases F
      exact⟨rfl,Grow.refl _,K,λ_=>rfl,λ_ _=>rfl,λh=>(by cases h),λh=>(by cases h)⟩
     |false=>
      rw[k]at F
      have g:=AOx hw hu (show FY c.fs f (i+1) t=some (b,C)from F) λI J=>(K _ _ J).trans A.symm
      obtain⟨u,m,D,_,_⟩:=g.here
      refine⟨g.len,g.grow,g.inv K A,g.same,λj k=>?_,λ_=>⟨g.lt,u,m⟩,λ_=>⟨g.lt,u,m,D⟩⟩
      cases d:C with
      |true=>exact g.other j (k d)
      |false=>rw[g.same d]
    obtain⟨W,M,X,Y,Z,m2,w2⟩:=V
    refine⟨W.trans P,Q.trans hw M,λj k=>?_,X,λj k=>?_,⟨t,w,λj k=>?_⟩,λH=>?_⟩
    ·rw[Z j λd=>λe=>k (by rw[d,e];simp),S j λd=>λe=>k (by rw[d,e];simp)]
    ·rcases List.mem_append.1 k with h|h
     ·cases d:C with
      |false=>rw[d]at h;cases h
      |true=>
       rw[d]at h
       rw[List.mem_singleton.1 h]
       obtain⟨p,u,q⟩:=m2 d
       exact⟨by omega,u,q⟩
     ·cases d:B with
      |false=>rw[d]at h;cases h
      |true=>
       rw[d]at h
       rw[List.mem_singleton.1 h]
       obtain⟨p,u,q⟩:=T d
       obtain⟨v,r,_⟩:=M _ _ q
       exact⟨p,v,r⟩
    ·unfold nT at k
     rcases List.mem_append.1 k with h|h
     ·cases d:jumps x with
      |false=>rw[d]at h;cases h
      |true=>
       rw[d]at h
       rw[List.mem_singleton.1 h]
       obtain⟨p,u,q,r⟩:=U d
       obtain⟨v,y,z⟩:=M _ _ q
       exact⟨p,v,y,CP.le_trans hw r z⟩
     ·cases d:ends x with
      |true=>rw[d]at h;cases h
      |false=>
       rw[d]at h
       rw[List.mem_singleton.1 h]
       obtain⟨p,u,q,r⟩:=w2 d
       exact⟨by omega,u,q,r⟩
    ·cases d:C with
     |true=>rw[d]at H;simp at H
     |false=>
      cases G:B with
      |true=>rw[d,G]at H;simp at H
      |false=>rw[Y d,R G]
theorem AYE{a:Uf}{i:Nat}{s m:CP}{A:Nat->Option CP}(hp:Post c m A)(k:Under (fs:=c.fs) a A)(w:i<c.code.length)(M:a.length=c.code.length)(hs:a[i]? =some (some s)):
 ∃b ps,Wh c a i (c.at i) s=.inr (b,ps)/\Under (fs:=c.fs) b A/\b.length=a.length:=by
 obtain⟨K,y,B⟩:=k i s hs
 obtain⟨N,C,d⟩:=hp.step i K w y
 obtain⟨t,L,p⟩:=AU1 hw B C
 unfold Wh
 rw[L]
 generalize c.at i=x at*
 have D:∃f E,(bif jumps x then FY c.fs a x.arg.toNat t else some (a,false))=some (f,E)/\Under (fs:=c.fs) f A/\f.length=a.length:=by
  cases F:jumps x with
  |false=>exact⟨a,false,rfl,k,rfl⟩
  |true=>
   obtain⟨q1,u,q2,q3⟩:=d x.arg.toNat (by unfold nT;rw[F];simp)
   exact AQs hw hu k q2 (CP.le_trans hw p q3) (by omega)
 obtain⟨f,E,D,g,G⟩:=D
 have H:∃q I,(bif ends x then some (f,false)else FY c.fs f (i+1) t)=some (q,I)/\Under (fs:=c.fs) q A/\q.length=f.length:=by
  cases F:ends x with
  |true=>exact⟨f,false,rfl,g,rfl⟩
  |false=>
   obtain⟨q1,u,q2,q3⟩:=d (i+1) (by unfold nT;rw[F];simp)
   exact AQs hw hu g q2 (CP.le_trans hw p q3) (by omega)
 obtain⟨q,I,H,v,J⟩:=H
 refine⟨q,(bif I then[i+1]else[])++(bif E then[x.arg.toNat]else[]),?_,v,J.trans G⟩
 simp only[D,H]
end
def AVB(c:Cx)(b:Uf)(i:Nat)(s:CP):Prop:=∃t,stepT c s (c.at i)=some t/\∀j∈nT (c.at i) i,j<c.code.length/\∃u,b[j]? =some (some u)/\CP.le c.fs t u
def Done(c:Cx)(b:Uf):Prop:=∀(i:Nat) (s:CP),b[i]? =some (some s)->AVB c b i s
theorem AQw{n i d:Nat}(h:i<n):Zj n i d<n:=by
 unfold Zj
 cases hd:decide (n<=d)with
 |true=>exact h
 |false=>have:=of_decide_eq_false hd;show d<n;omega
theorem AWl{a:Uf}{i:Nat}{s:CP}(h:a[i]? =some (some s)):Uf.st a i=s:=by unfold Uf.st;rw[h];rfl
theorem AS1{c:Cx}{a:Uf}{i:Nat}{x:Ins}{s:CP}{j:Nat}(hi:i<c.code.length)(h:Wh c a i x s=.inl j):j<c.code.length:=by
 unfold Wh at h
 cases d:stepT c s x with
 |none=>rw[d]at h;cases h;exact hi
 |some t=>
  simp only[d]at h
  cases f:(bif jumps x then FY c.fs a x.arg.toNat t else some (a,false))with
  |none=>simp only[f]at h;cases h;exact AQw hi
  |some r=>
   obtain⟨g,m⟩:=r
   simp only[f]at h
   cases k:(bif ends x then some (g,false)else FY c.fs g (i+1) t)with
   |none=>simp only[k]at h;cases h;exact AQw hi
   |some r=>obtain⟨p,q⟩:=r;simp only[k]at h;cases h
section
variable{c:Cx}(hw:Whole c.fs)(hu:Upper c.fs)
include hw
theorem AVB.grow{a b:Uf}{i:Nat}{s:CP}(h:AVB c a i s)(g:Grow c.fs a b):AVB c b i s:=by
 obtain⟨t,d,f⟩:=h
 refine⟨t,d,λj k=>?_⟩
 obtain⟨q1,u,q2,q3⟩:=f j k
 obtain⟨v,q4,q5⟩:=g j u q2
 exact⟨q1,v,q4,CP.le_trans hw q3 q5⟩
include hu
theorem AMw{L:Nat}:∀(f:Nat) (a:Uf) (k:List Nat) (r:Int),runT c f a k=some r->a.length=c.code.length->AMP L a->(∀i∈k,i<c.code.length/\∃s,a[i]? =some (some s))->(∀i s,a[i]? =some (some s)->i∈k∨AVB c a i s)->
 (r= -1/\∃b,Grow c.fs a b/\Done c b)∨∃j:Nat,r=j/\j<c.code.length
 |0,_,_,_,h,_,_,_,_=>by cases h
 |f+1,a,[],r,h,_,_,_,hs=>by
  cases h
  refine .inl ⟨rfl,a,Grow.refl a,λi s hi=>?_⟩
  rcases hs i s hi with h|h
  ·cases h
  ·exact h
 |f+1,a,i::k,r,h,E,hi,D,hs=>by
  obtain⟨B,s,q⟩:=D i (List.mem_cons_self ..)
  have h:(match Wh c a i (c.at i) (Uf.st a i)with|.inl j=>some (j:Int)|.inr (b,u)=>runT c f b (u++k))=some r:=h
  rw[AWl q]at h
  cases y:Wh c a i (c.at i) s with
  |inl j=>
   rw[y]at h;cases h
   exact .inr ⟨j,rfl,AS1 B y⟩
  |inr p=>
   obtain⟨b,u⟩:=p
   rw[y]at h
   have w:=AOJ hw hu hi (hi _ _ q) y
   have C:b.length=c.code.length:=w.len.trans E
   have F:∀j∈u++k,j<c.code.length/\∃s,b[j]? =some (some s):=λj v=>by
    rcases List.mem_append.1 v with h|h
    ·obtain⟨q1,q2⟩:=w.mem j h;exact⟨by omega,q2⟩
    ·obtain⟨q1,q2,q3⟩:=D j (List.mem_cons_of_mem _ h)
     obtain⟨t,q4,_⟩:=w.grow j q2 q3
     exact⟨q1,t,q4⟩
   have G:∀j A,b[j]? =some (some A)->j∈u++k∨AVB c b j A:=λj A v=>by
    by_cases x:j∈u
    ·exact .inl (List.mem_append_left _ x)
    ·rw[w.same j x]at v
     rcases hs j A v with h|h
     ·rcases List.mem_cons.1 h with rfl|h
      ·rw[q]at v;cases v
       obtain⟨t,q1,q2⟩:=w.flow
       refine .inr ⟨t,q1,λm H=>?_⟩
       obtain⟨q3,q4⟩:=q2 m H
       exact⟨by omega,q4⟩
      ·exact .inl (List.mem_append_right _ h)
     ·exact .inr (h.grow hw w.grow)
   rcases AMw f b (u++k) r h C w.inv F G with⟨e,d,g,hd⟩|h
   ·exact .inl ⟨e,d,Grow.trans hw w.grow g,hd⟩
   ·exact .inr h
theorem AGT{k:CP}{A:Nat->Option CP}(hp:Post c k A):∀(f:Nat) (a:Uf) (d:List Nat) (r:Int),runT c f a d=some r->a.length=c.code.length->Under (fs:=c.fs) a A->(∀i∈d,i<c.code.length/\∃s,a[i]? =some (some s))->
 ∀L,AMP L a->r= -1
 |0,_,_,_,h,_,_,_,_,_=>by cases h
 |f+1,a,[],r,h,_,_,_,_,_=>by cases h;rfl
 |f+1,a,i::d,r,h,x,p,y,L,B=>by
  obtain⟨q,s,g⟩:=y i (List.mem_cons_self ..)
  have h:(match Wh c a i (c.at i) (Uf.st a i)with|.inl j=>some (j:Int)|.inr (b,u)=>runT c f b (u++d))=some r:=h
  rw[AWl g]at h
  obtain⟨b,u,C,m,v⟩:=AYE hw hu hp p q x g
  rw[C]at h
  have w:=AOJ hw hu B (B _ _ g) C
  refine AGT hp f b (u++d) r h (v.trans x) m (λj D=>?_) L w.inv
  rcases List.mem_append.1 D with h|h
  ·obtain⟨q1,q2⟩:=w.mem j h;exact⟨by omega,q2⟩
  ·obtain⟨q1,q2,q3⟩:=y j (List.mem_cons_of_mem _ h)
   obtain⟨t,q4,_⟩:=w.grow j q2 q3
   exact⟨q1,t,q4⟩
def at0(n:Nat)(init:CP):Uf:=(List.replicate n none).set 0 (some init)
omit hw hu in
theorem AFw{n:Nat}{d:CP}(g:0<n){i:Nat}{s:CP}(h:(at0 n d)[i]? =some (some s)):i=0/\s=d:=by
 unfold at0 at h
 by_cases f:i=0
 ·subst f
  rw[List.getElem?_set_self (by simpa using g)]at h
  cases h;exact⟨rfl,rfl⟩
 ·rw[List.getElem?_set_ne (Ne.symm f)]at h
  have:=List.getElem?_replicate (a:=(none:Option CP)) (n:=n) (i:=i)
  rw[this]at h
  split at h<;>cases h
omit hw hu in
theorem ASm{n:Nat}{d:CP}(f:0<n):(at0 n d)[0]? =some (some d):=by unfold at0;rw[List.getElem?_set_self (by simpa using f)]
omit hw hu in
theorem ANg{n:Nat}{d:CP}:(at0 n d).length=n:=by unfold at0;simp
omit hw hu in
theorem AaY{d:CP}{b:Uf}(k:0<c.code.length)(g:Grow c.fs (at0 c.code.length d) b)(hd:Done c b):Post c d λi=>(b[i]?).getD none:=by
 have get:∀{j:Nat} {s:CP},(b[j]?).getD none=some s->b[j]? =some (some s):=λ{j s} h=>by
  cases f:b[j]? with
  |none=>rw[f]at h;cases h
  |some o=>rw[f]at h;rw[show o=some s from h]
 obtain⟨s,m,p⟩:=g 0 d (ASm k)
 refine⟨⟨s,by rw[m];rfl,p⟩,λi s _ q=>?_⟩
 obtain⟨t,q1,q2⟩:=hd i s (get q)
 refine⟨t,q1,λj v=>?_⟩
 obtain⟨q3,u,q4,q5⟩:=q2 j v
 exact⟨q3,u,by rw[q4];rfl,q5⟩
theorem AZR{d:CP}{f:Nat}{r:Int}(m:0<c.code.length)(h:runT c f (at0 c.code.length d) [0]=some r):(r= -1↔∃A,Post c d A)/\(r≠ -1->∃j:Nat,r=j/\j<c.code.length):=by
 have p:AMP d.loc.length (at0 c.code.length d):=λi s k=>by rw[(AFw m k).2]
 have u:∀i∈[0],i<c.code.length/\∃s,(at0 c.code.length d)[i]? =some (some s):=λi p=>by
  rw[List.mem_singleton.1 p];exact⟨m,d,ASm m⟩
 have k:=AMw hw hu f _ _ r h ANg p u λi s k=>.inl (by rw[(AFw m k).1];simp)
 refine⟨⟨λe=>?_,λ⟨A,v⟩=>?_⟩,λq=>?_⟩
 ·rcases k with⟨_,b,g,hd⟩|⟨j,w,_⟩
  ·exact⟨_,AaY m g hd⟩
  ·rw[w]at e;omega
 ·refine AGT hw hu v f _ _ r h ANg (λi s k=>?_) u _ p
  obtain⟨rfl,rfl⟩:=AFw m k
  exact v.init
 ·rcases k with⟨e,_⟩|h
  ·exact absurd e q
  ·exact h
end
def htT(fs:Tab)(a:Ty):Nat:=bif a.is BU then 0 else bif a.is CZ then fs.length+5 else bif a.cls then 2+(above fs a.nm).1.length else 1
theorem AJp:∀(m:Nat) (fs:Tab) (out:List St) (s:St),(G7 m fs out s).1.length<=out.length+m
 |0,_,_,_=>Nat.le_refl _
 |m+1,fs,out,s=>by
  unfold G7
  cases decide (s.1=0/\s.2=0)with
  |true=>show out.length<=_;omega
  |false=>
   rw[cond_false]
   cases CY fs s with
   |none=>show out.length<=_;omega
   |some c=>
    cases hh:tN s out with
    |true=>simp only[hh,cond_true];omega
    |false=>
     simp only[hh,cond_false]
     have:=AJp m fs (out++[s]) c.sup
     simp only[List.length_append,List.length_cons,List.length_nil]at this
     omega
theorem AM9(fs:Tab)(s:St):(above fs s).1.length<=fs.length+1:=by
 have:=AJp (fs.length+1) fs [] s
 unfold above;simpa using this
theorem Afd(fs:Tab)(a:Ty):htT fs a<=fs.length+5:=by
 unfold htT
 have:=AM9 fs a.nm
 cases a.is BU<;>cases a.is CZ<;>cases a.cls<;>simp<;>omega
theorem AbC(fs:Tab):htT fs BU=0:=by unfold htT;rw[Ty.AJP];rfl
theorem Acs{fs:Tab}{a:Ty}(h:a≠BU):1<=htT fs a:=by
 unfold htT
 rw[Ty.Y2.2 h]
 cases a.is CZ<;>cases a.cls<;>simp
 omega
theorem Chain.head{fs:Tab}{s:St}{l:List St}(h:Chain fs s l)(d:l≠[]):l.head?=some s:=by
 cases h with
 |nil=>exact absurd rfl d
 |cons=>rfl
section
variable{fs:Tab}(hw:Whole fs)(hu:Upper fs)
include hw hu
theorem ATr{a b:Ty}:(Ed fs a b).1=a∨htT fs (Ed fs a b).1<htT fs a:=by
 cases u:(Ed fs a b).2 with
 |false=>
  rw[AHl u]
  by_cases h:a=BU
  ·exact .inl h.symm
  ·have:=Acs (fs:=fs) h;rw[AbC];exact .inr this
 |true=>
  obtain⟨v,_⟩:=APQ hw hu (a:=a) (b:=b) (j:=(Ed fs a b).1) (Prod.ext rfl u)
  generalize(Ed fs a b).1=j at v
  rcases FP.1 v with h|⟨h,G⟩|⟨w,y,f⟩
  ·exact .inl h.symm
  ·by_cases g:j=CZ
   ·exact .inl (g.trans h.symm)
   ·refine .inr ?_
    rw[h]
    have e:htT fs CZ=fs.length+5:=by
     unfold htT;rw[Ty.AJP,show CZ.is BU=false by decide];rfl
    rw[e]
    unfold htT
    rw[Ty.Y2.2 g]
    have:=AM9 fs j.nm
    cases j.is BU<;>cases j.cls<;>simp<;>omega
  ·by_cases g:j.nm=a.nm
   ·refine .inl ?_
    have A:=ABJ w
    have B:=ABJ y
    cases a;cases j
    simp only at g A B
    subst g A B;rfl
   ·refine .inr ?_
    have C:∀{x:Ty},x.cls=true->htT fs x=2+(above fs x.nm).1.length:=λ{x} k=>by
     unfold htT
     rw[Ty.Y2.2 (AQq k),Ty.Y2.2 (λe=>by rw[e,rQ]at k;cases k),k];rfl
    rw[C w,C y]
    unfold Dk at f
    rw[ND]at f
    obtain⟨p,e,_⟩:=O0 hw f
    obtain⟨c,F⟩:=Jf f
    have D:=EG (hw _ _ F)
    have E:0<p.length:=by
     cases p with
     |cons _ _=>simp
     |nil=>
      rw[List.nil_append]at e
      exfalso
      have i:=D.head (λm=>by rw[m]at f;cases f)
      obtain⟨d,hd⟩:=D.known f
      have q:=(EG (hw _ _ hd)).head (λm=>by rw[e,m]at f;cases f)
      rw[e,q]at i
      exact g (Option.some.inj i)
    rw[e,List.length_append];omega
theorem ALq:∀{l m k:List Ty},Ip fs l m=some k->k.length=l.length/\(k=l∨(k.map (htT fs)).sum<(l.map (htT fs)).sum)
 |[],[],_,h=>by cases h;exact⟨rfl,.inl rfl⟩
 |[],_::_,_,h=>by cases h
 |_::_,[],_,h=>by cases h
 |a::l,b::m,k,h=>by
  have h:(bif (Ed fs a b).2 then(Ip fs l m).map λk=>(Ed fs a b).1::k else none)=some k:=h
  cases d:(Ed fs a b).2 with
  |false=>rw[d]at h;cases h
  |true=>
   rw[d,cond_true]at h
   obtain⟨q,f,rfl⟩:=Option.map_eq_some_iff.1 h
   obtain⟨g,i⟩:=ALq f
   refine⟨by simp[g],?_⟩
   simp only[List.map_cons,List.sum_cons,List.cons.injEq]
   rcases ATr hw hu (a:=a) (b:=b)with e|e<;>rcases i with e2|e2
   ·exact .inl ⟨e,e2⟩
   ·rw[e];exact .inr (by omega)
   ·rw[e2];exact .inr (by omega)
   ·exact .inr (by omega)
theorem AKL:∀{l m:List Ty},(Dq fs l m).length=l.length/\(Dq fs l m=l∨((Dq fs l m).map (htT fs)).sum<(l.map (htT fs)).sum)
 |[],m=>by cases m<;>exact⟨rfl,.inl rfl⟩
 |_::_,[]=>⟨rfl,.inl rfl⟩
 |a::l,b::m=>by
  obtain⟨d,f⟩:=AKL (l:=l) (m:=m)
  refine⟨by show(Dq fs l m).length+1=_;rw[d];rfl,?_⟩
  show((Ed fs a b).1::Dq fs l m)=a::l∨(((Ed fs a b).1::Dq fs l m).map (htT fs)).sum<((a::l).map (htT fs)).sum
  simp only[List.map_cons,List.sum_cons,List.cons.injEq]
  rcases ATr hw hu (a:=a) (b:=b)with e|e<;>rcases f with e2|e2
  ·exact .inl ⟨e,e2⟩
  ·rw[e];exact .inr (by omega)
  ·rw[e2];exact .inr (by omega)
  ·exact .inr (by omega)
end
def AZy(fs:Tab)(s:CP):Nat:=(s.loc.map (htT fs)).sum+(s.stk.map (htT fs)).sum
def AP5(fs:Tab)(K:Nat):Option CP->Nat
 |none=>K
 |some s=>AZy fs s
def allH(fs:Tab)(K:Nat)(a:Uf):Nat:=(a.map (AP5 fs K)).sum
theorem AXQ{l:List Ty}{fs:Tab}:(l.map (htT fs)).sum<=l.length*(fs.length+5):=by
 induction l with
 |nil=>simp
 |cons a l d=>have:=Afd fs a;simp only[List.map_cons,List.sum_cons,List.length_cons,Nat.add_mul,Nat.one_mul];omega
def Md(fs:Tab)(L B:Nat):Nat:=(L+B)*(fs.length+5)+1
theorem ATa{fs:Tab}{L B:Nat}{s:CP}(d:s.loc.length=L)(f:s.stk.length<=B):AZy fs s<Md fs L B:=by
 have g:=AXQ (l:=s.loc) (fs:=fs)
 have i:=AXQ (l:=s.stk) (fs:=fs)
 have k:s.stk.length*(fs.length+5)<=B*(fs.length+5):=Nat.mul_le_mul_right _ f
 rw[d]at g
 unfold AZy Md
 rw[Nat.add_mul];omega
theorem APL{f:Option CP->Nat}:∀{a:Uf} {i:Nat} {o n:Option CP},a[i]? =some o->((a.set i n).map f).sum+f o=(a.map f).sum+f n
 |[],_,_,_,h=>by simp at h
 |x::a,0,o,n,h=>by simp at h;subst h;simp only[List.set_cons_zero,List.map_cons,List.sum_cons];omega
 |x::a,i+1,o,n,h=>by
  have:=APL (f:=f) (a:=a) (i:=i) (o:=o) (n:=n) (by simpa using h)
  simp only[List.set_cons_succ,List.map_cons,List.sum_cons];omega
structure Inv2(L B:Nat)(a:Uf):Prop where
 loc:AMP L a
 stk:∀(i:Nat) (s:CP),a[i]? =some (some s)->s.stk.length<=B
theorem AUJ{fs:Tab}:∀{ws s r:List Ty},Dv fs ws s=some r->r.length<=s.length
 |[],_,_,h=>by cases h;exact Nat.le_refl _
 |_::_,[],_,h=>by cases h
 |w::ws,t::s,r,h=>by
  have h:(bif fitsT fs t w then Dv fs ws s else none)=some r:=h
  cases d:fitsT fs t w with
  |false=>rw[d]at h;cases h
  |true=>rw[d]at h;have:=AUJ (ws:=ws) (s:=s) (r:=r) h;simp;omega
theorem AQr{mx:Int}{t:Ty}{s r:List Ty}(h:Cc mx t s=some r):r.length<=mx.toNat:=by
 unfold Cc at h
 cases hd:decide (((s.length+1:Nat):Int)<=mx)with
 |false=>rw[hd]at h;cases h
 |true=>rw[hd]at h;cases h;have:=of_decide_eq_true hd;simp;omega
theorem AWe{c:Cx}{s t:CP}{x:Ins}(h:stepT c s x=some t)(hs:s.stk.length<=c.max.toNat):t.stk.length<=c.max.toNat:=by
 have key:∀{u:Ty} {k:List Ty} {r:CP},(Cc c.max u k).map (λk=>(⟨s.loc,k⟩:CP))=some r->r.stk.length<=c.max.toNat:=λh=>by
  obtain⟨k,g,rfl⟩:=Option.map_eq_some_iff.1 h;exact AQr g
 unfold stepT at h
 split at h
 ·cases d:(s.loc.getD x.arg.toNat BU).is BU with
  |true=>rw[d]at h;cases h
  |false=>rw[d]at h;exact key h
 ·split at h
  ·cases h
  ·rename_i e;cases h;rw[e]at hs;simp at hs⊢;omega
 ·split at h
  ·rename_i a b k _
   cases d:a.is b&& !a.obj with
   |true=>rw[d]at h;exact key h
   |false=>rw[d]at h;cases h
  ·cases h
 ·split at h
  ·rename_i a b k _
   cases d:a.obj&&b.obj with
   |true=>rw[d]at h;exact key h
   |false=>rw[d]at h;cases h
  ·cases h
 ·split at h
  ·cases h
  ·rename_i e;cases h;rw[e]at hs;simp at hs⊢;omega
 ·split at h
  ·cases h
  ·rename_i a k _
   cases d:a.cls||a.is CZ with
   |true=>rw[d]at h;exact key h
   |false=>rw[d]at h;cases h
 ·split at h
  ·cases h
  ·rename_i a k _
   cases d:a.cls||a.is CZ with
   |true=>rw[d]at h;exact key h
   |false=>rw[d]at h;cases h
 ·split at h
  ·cases h
  ·rename_i a k _
   cases d:a.arr||a.is CZ with
   |true=>rw[d]at h;exact key h
   |false=>rw[d]at h;cases h
 ·obtain⟨e,_,h⟩:=Option.bind_eq_some_iff.1 h
  obtain⟨k,i,h⟩:=Option.bind_eq_some_iff.1 h
  obtain⟨q,f,rfl⟩:=Option.map_eq_some_iff.1 h
  have:=AUJ i
  obtain⟨m,o⟩:=e
  cases o with
  |none=>cases f;show k.length<=_;omega
  |some u=>exact AQr f
section
variable{fs:Tab}(hw:Whole fs)(hu:Upper fs)
include hw hu
theorem AYL{L B y:Nat}{a b:Uf}{s:CP}{G:Bool}(hi:Inv2 L B a)(D:s.loc.length=L)(H:s.stk.length<=B)(h:FY fs a y s=some (b,G)):
 allH fs (Md fs L B) b+(if G then 1 else 0)<=allH fs (Md fs L B) a/\Inv2 L B b:=by
 have I:=AOx hw hu h λd K=>(hi.loc _ _ K).trans D.symm
 have g:=I.inv (c:=⟨fs,⟨[],[],[],[],[]⟩,0,BU,[]⟩) hi.loc D
 unfold FY at h
 cases e:a[y]? with
 |none=>rw[e]at h;cases h
 |some o=>
  have w:=(List.getElem?_eq_some_iff.1 e).1
  rw[e]at h
  cases o with
  |none=>
   cases h
   refine⟨?_,g,λi x u=>?_⟩
   ·have:=APL (f:=AP5 fs (Md fs L B)) (n:=some s) e
    have w:=ATa (fs:=fs) D H
    show allH fs (Md fs L B) (a.set y (some s))+1<=allH fs (Md fs L B) a
    unfold allH
    have E:AP5 fs (Md fs L B) none=Md fs L B:=rfl
    have F:AP5 fs (Md fs L B) (some s)=AZy fs s:=rfl
    rw[E,F]at this;omega
   ·by_cases p:i=y
    ·subst p;rw[List.getElem?_set_self w]at u;cases u;exact H
    ·rw[List.getElem?_set_ne (Ne.symm p)]at u;exact hi.stk i x u
  |some d=>
   obtain⟨k,M,N⟩:=Option.map_eq_some_iff.1 h
   cases N
   obtain⟨O,A⟩:=ALq hw hu M
   obtain⟨R,C⟩:=AKL hw hu (l:=d.loc) (m:=s.loc)
   refine⟨?_,g,λi x u=>?_⟩
   ·have:=APL (f:=AP5 fs (Md fs L B)) (n:=some ⟨Dq fs d.loc s.loc,k⟩) e
    show allH fs (Md fs L B) (a.set y (some ⟨Dq fs d.loc s.loc,k⟩))+_<=allH fs (Md fs L B) a
    unfold allH
    have E:AP5 fs (Md fs L B) (some d)=(d.loc.map (htT fs)).sum+(d.stk.map (htT fs)).sum:=rfl
    have F:AP5 fs (Md fs L B) (some ⟨Dq fs d.loc s.loc,k⟩)=((Dq fs d.loc s.loc).map (htT fs)).sum+(k.map (htT fs)).sum:=rfl
    rw[E,F]at this
    have P:(k.map (htT fs)).sum<=(d.stk.map (htT fs)).sum:=by
     rcases A with h|h
     ·rw[h];exact Nat.le_refl _
     ·omega
    have Q:((Dq fs d.loc s.loc).map (htT fs)).sum<=(d.loc.map (htT fs)).sum:=by
     rcases C with h|h
     ·rw[h];exact Nat.le_refl _
     ·omega
    have v:(!(Fj k d.stk&&Fj (Dq fs d.loc s.loc) d.loc))=true->(k.map (htT fs)).sum+((Dq fs d.loc s.loc).map (htT fs)).sum<(d.stk.map (htT fs)).sum+(d.loc.map (htT fs)).sum:=by
     intro J
     rw[Bool.not_eq_true',Bool.and_eq_false_iff]at J
     rcases J with h|h
     ·rcases A with A|A
      ·rw[PW.2 A]at h;cases h
      ·omega
     ·rcases C with C|C
      ·rw[PW.2 C]at h;cases h
      ·omega
    clear g I h A C
    generalize(!(Fj k d.stk&&Fj (Dq fs d.loc s.loc) d.loc))=q at v
    cases q with
    |true=>have:=v rfl;simp only[if_true];omega
    |false=>simp only[Bool.false_eq_true,if_false];omega
   ·by_cases p:i=y
    ·subst p;rw[List.getElem?_set_self w]at u;cases u
     show k.length<=B
     rw[O];exact hi.stk _ _ e
    ·rw[List.getElem?_set_ne (Ne.symm p)]at u;exact hi.stk i x u
end
section
variable{c:Cx}(hw:Whole c.fs)(hu:Upper c.fs)
include hw hu
theorem Ach{L i:Nat}{a b:Uf}{x:Ins}{s:CP}{ps:List Nat}(hi:Inv2 L c.max.toNat a)(f:s.loc.length=L)(g:s.stk.length<=c.max.toNat)(h:Wh c a i x s=.inr (b,ps)):
 allH c.fs (Md c.fs L c.max.toNat) b+ps.length<=allH c.fs (Md c.fs L c.max.toNat) a/\Inv2 L c.max.toNat b:=by
 unfold Wh at h
 cases d:stepT c s x with
 |none=>rw[d]at h;cases h
 |some t=>
  have k:t.loc.length=L:=(AO3 d).trans f
  have m:=AWe d g
  simp only[d]at h
  cases f:(bif jumps x then FY c.fs a x.arg.toNat t else some (a,false))with
  |none=>simp only[f]at h;cases h
  |some r=>
   obtain⟨p,u⟩:=r
   simp only[f]at h
   cases g:(bif ends x then some (p,false)else FY c.fs p (i+1) t)with
   |none=>simp only[g]at h;cases h
   |some r=>
    obtain⟨v,w⟩:=r
    simp only[g]at h
    have B:v=b/\(bif w then[i+1]else[])++(bif u then[x.arg.toNat]else[])=ps:=by cases h;exact⟨rfl,rfl⟩
    obtain⟨rfl,rfl⟩:=B
    have y:allH c.fs (Md c.fs L c.max.toNat) p+(if u then 1 else 0)<=allH c.fs (Md c.fs L c.max.toNat) a/\Inv2 L c.max.toNat p:=by
     cases q:jumps x with
     |false=>rw[q]at f;cases f;exact⟨Nat.le_refl _,hi⟩
     |true=>rw[q]at f;exact AYL hw hu hi k m f
    have A:allH c.fs (Md c.fs L c.max.toNat) v+(if w then 1 else 0)<=allH c.fs (Md c.fs L c.max.toNat) p/\Inv2 L c.max.toNat v:=by
     cases q:ends x with
     |true=>rw[q]at g;cases g;exact⟨Nat.le_refl _,y.2⟩
     |false=>rw[q]at g;exact AYL hw hu y.2 k m g
    refine⟨?_,A.2⟩
    have:=y.1;have:=A.1
    cases u<;>cases w<;>simp at* <;>omega
theorem AMW{L:Nat}:∀(f:Nat) (a:Uf) (d:List Nat),2*allH c.fs (Md c.fs L c.max.toNat) a+d.length<f->a.length=c.code.length->Inv2 L c.max.toNat a->(∀i∈d,i<c.code.length/\∃s,a[i]? =some (some s))->∃r,runT c f a d=some r
 |0,_,_,h,_,_,_=>by omega
 |f+1,a,[],_,_,_,_=>⟨_,rfl⟩
 |f+1,a,i::d,h,u,hi,m=>by
  obtain⟨v,s,g⟩:=m i (List.mem_cons_self ..)
  show ∃r,(match Wh c a i (c.at i) (Uf.st a i)with|.inl j=>some (j:Int)|.inr (b,k)=>runT c f b (k++d))=some r
  rw[AWl g]
  cases q:Wh c a i (c.at i) s with
  |inl j=>exact⟨_,rfl⟩
  |inr p=>
   obtain⟨b,k⟩:=p
   have w:=AOJ hw hu hi.loc (hi.loc _ _ g) q
   obtain⟨A,x⟩:=Ach hw hu hi (hi.loc _ _ g) (hi.stk _ _ g) q
   refine AMW f b (k++d) (by simp only[List.length_append,List.length_cons]at*;omega) (w.len.trans u) x λj y=>?_
   rcases List.mem_append.1 y with h|h
   ·obtain⟨q1,q2⟩:=w.mem j h;exact⟨by omega,q2⟩
   ·obtain⟨q1,q2,q3⟩:=m j (List.mem_cons_of_mem _ h)
    obtain⟨t,q4,_⟩:=w.grow j q2 q3
    exact⟨q1,t,q4⟩
end
end Go.RL
namespace Go.RL
open Go.Bf
set_option maxRecDepth 100000
theorem ALO:∀(cs:List Fc) (fs:Tab) (s:St) (c:Fc),(∀s c,CY fs s=some c->c.nm=s)->CY (YS fs cs) s=some c->c.nm=s
 |[],_,_,_,h,e=>h _ _ e
 |d::cs,fs,s,c,h,e=>ALO cs (XD d.nm d fs) s c (λs c e=>by
  rw[RQ]at e
  by_cases hd:d.nm=s
  ·rw[if_pos hd]at e;cases e;exact hd
  ·rw[if_neg hd]at e;exact h s c e) e
theorem AXe{cs:List Fc}{s:St}{c:Fc}(e:CY (EW cs) s=some c):c.nm=s:=ALO cs [] s c (λ_ _ h=>by cases h) e
theorem NH:∀(d:List Fl) (i:List (St×Fl)),Xy i d=0->∀f∈d,P9 f=true
 |[],_,_,_,h=>by cases h
 |g::d,i,e,f,h=>by
  unfold Xy at e
  cases k:P9 g with
  |false=>rw[k]at e;simp at e
  |true=>
   rw[k]at e
   cases m:(CY i g.face.nm).isSome with
   |true=>rw[m]at e;simp at e
   |false=>
    rw[m]at e
    rcases List.mem_cons.1 h with rfl|h
    ·exact k
    ·exact NH d _ e f h
theorem ALV(t:Tab):∀(d:List Fl),link2 t d=0->∀f∈d,Ul t f.face.nm=0
 |[],_,_,h=>by cases h
 |g::d,e,f,h=>by
  unfold link2 at e
  cases i:Ul t g.face.nm==0 with
  |false=>
   rw[i]at e
   have e:Ul t g.face.nm=0:=e
   rw[e]at i;cases i
  |true=>
   rw[i]at e
   cases k:AAb t g.pool with
   |false=>rw[k]at e;simp at e
   |true=>
    rw[k]at e
    rcases List.mem_cons.1 h with rfl|h
    ·exact eq_of_beq i
    ·exact ALV t d e f h
theorem APa{t:Tab}{s:St}(h:Ul t s=0):(above t s).2=true:=by
 unfold Ul at h
 cases d:CY t s with
 |none=>rw[d]at h;simp at h
 |some c=>
  rw[d]at h
  cases f:(above t s).2 with
  |true=>rfl
  |false=>
   simp only[f]at h
   cases g:decide (s.1=0/\s.2=0)<;>rw[g]at h<;>try (simp at h;done)
   cases i:tN ((CY t (lastOf (above t s).1)).getD CJ).sup (above t s).1<;>rw[i]at h<;>simp at h
theorem DW{d:List Fl}(h:TB d=0):d.length<=200/\Xy [] d=0/\link2 (EW (Bh d)) d=0:=by
 unfold TB at h
 cases g:decide (200<d.length)with
 |true=>rw[g]at h;simp at h
 |false=>
  rw[g]at h
  have g:=of_decide_eq_false g
  cases f:Xy [] d==0 with
  |false=>
   rw[f]at h
   have h:Xy [] d=0:=h
   rw[h]at f;cases f
  |true=>
   rw[f]at h
   exact⟨by omega,eq_of_beq f,h⟩
theorem nZ{d:List Fl}{s:St}{c:Fc}(e:CY (EW (Bh d)) s=some c):∃f∈d,f.face=c/\c.nm=s:=by
 obtain⟨f,g,rfl⟩:=List.mem_map.1 (AMj e)
 exact⟨f,g,rfl,AXe e⟩
theorem ADw{d:List Fl}(h:TB d=0):Whole (EW (Bh d)):=λs c e=>by
 obtain⟨-,-,g⟩:=DW h
 obtain⟨f,i,rfl,rfl⟩:=nZ e
 exact APa (ALV _ _ g f i)
theorem AC3{d:List Fl}(h:TB d=0):Upper (EW (Bh d)):=λs c e=>by
 obtain⟨-,g,-⟩:=DW h
 obtain⟨f,i,rfl,rfl⟩:=nZ e
 have:=NH _ _ g f i
 unfold P9 U3 at this
 simp only[Bool.and_eq_true]at this
 exact this.1.1
abbrev ANP:LV:=[.str 0 0,.str 0 0,.Ad,.Ad,.Ad,.Ad,.Ad,.Ad,.Ad,.Ad]
theorem X7.cells{G:AY}{H:Heap}{n:Nat}{v:V}{f:Fl}(h:X7 G H n v f):∃L:LV,v=.agg L/\L.length=10:=by
 obtain⟨L,k,m,v0,v1,v2,v3,v4,p,d,ws,g,h,i⟩:=h
 exact⟨L,i,by rw[h.is];rfl⟩
theorem FV.look{G:AY}{H:Heap}{n a:Nat}{fs:List (St×Fl)}(h:FV G H n a fs)(s:St):∃L:LV,ACi .str true (.agg ANP) (.map a) s.v H=some (.Dl [.agg L,.bool (CY fs s).isSome])/\L.length=10/\∀f,CY fs s=some f->X7 G H n (.agg L) f:=by
 obtain⟨m,p,q,u⟩:=h.is
 have d:=qH q s
 rw[show s.v=.str s.1 s.2 from rfl,AK9 p]
 cases i:CY m s with
 |none=>
  rw[i]at d
  cases g:CY fs s with
  |none=>exact⟨ANP,rfl,rfl,λf h=>by cases h⟩
  |some x=>rw[g]at d;cases d
 |some v=>
  rw[i]at d
  cases g:CY fs s with
  |none=>rw[g]at d;cases d
  |some x=>
   have k:=u _ _ _ i g
   obtain⟨L,rfl,w⟩:=k.cells
   exact⟨L,rfl,w,λf h=>by cases h;exact k⟩
theorem FV.up{G:AY}{H:Heap}{n n' a:Nat}{fs:List (St×Fl)}(h:FV G H n a fs)(d:n<=n'):FV G H n' a fs:=h.ke ⟨d,λ_ _ _ _ h=>h⟩ rfl
theorem ACt{α d:Type}(g:α->d)(l:List α){j:Nat}(h:j<l.length):(l.take (j+1)).map g=(l.take j).map g++[g l[j]]:=by
 rw[List.take_add_one,List.getElem?_eq_getElem h,List.map_append];rfl
theorem AdJ{G:AY}(hG:Vz G)(hO:zX G){H:Heap}{n:Nat}{v:V}{p:List Fl}(hf:WI G H n v p){k:KV}
 (Y:TB p=0->∀C E i,Kp H n C E->Aa7 G C E n i p->k (.Dl [.ptr i 0,.int .i64 (.ofNat 0) 0]) C E)
 (D:TB p≠0->∀C E,Kp H n C E->k (.Dl [.Bo,.int .i64 (TB p) 0]) C E):Runs F G AIh [v] H n k:=by
 refine go1 (ANd BF G) ?_
 delta AHp
 simp only[hf.len,go_sem,IL]
 unfold TB at Y D
 obtain⟨R,hR⟩:∃R,R=Xy [] p:=⟨_,rfl⟩
 rw[<-hR]at Y D
 obtain⟨Q,hQ⟩:∃Q,Q=OD p:=⟨_,rfl⟩
 cases g0:decide (200<p.length)with
 |true=>rw[g0]at D;simp only[go_sem];exact D (show(4:Int)≠0 by decide) _ _ (Kp.refl _ _)
 |false=>
 have g0:=of_decide_eq_false g0
 rw[show decide (200<p.length)=false from decide_eq_false g0]at Y D
 simp only[cond_false]at Y D
 simp only[go_sem,AOF,Nat.reduceAdd,show BH [V.Bo,.AL6,.Ad] [(1,1,.c (.map n))]=some (.agg [.Bo,.map n,.Ad])from rfl]
 have f1:Kp H n (T.set (T.set H n (.map [] 0)) (n+1) (one [.Bo,.map n,.Ad])) (n+1+1):=((Kp.refl H n).new (m:=n+1) _ (Nat.le_refl _) (by omega)).new _ (by omega) (by omega)
 refine BN (N:=p.length) (J:=λj q=>∃C E va vn S,∃Z:EL,q=(v,va,.ptr (n+1) 0,v,.int .i64 (.ofNat p.length) 0,.int .i64 (.ofNat j) 0,C,E)/\Kp H n C E/\n+1<E/\T.get C (n+1)=some (one [.Bo,.map n,vn])/\
  FV G C n n S/\Own G C (n+2) E 1 vn (strs (Oa (p.take j)))/\Own G C (n+2) E 4 va Z/\Z.length=j/\(∀(i:Nat) (L:LV) (c:Fc),Z[i]? =some L->(Bh (p.take j))[i]? =some c->WB G C n (.agg L) c)/\
  Xy S (p.drop j)=R/\VQ S (p.drop j)=Q/\(∀f∈p.take j,P9 f=true)) ?_ ?_
  ⟨_,_,.Ad,.Ad,[],[],rfl,f1,by omega,T.Ag ..,⟨[],⟨[],0,by rw[T.Ac _ _ (by omega),T.Ag],rfl⟩,rfl,λs v c h=>by cases h⟩,⟨.nil,AD7⟩,⟨.nil,AD7⟩,rfl,λi L c h=>by simp at h,hR.symm,hQ.symm,λf h=>by simp at h⟩
 ·rintro I j q d4 ⟨H3,O,va,vn,S,Z,rfl,f3,q2,g3,d2,B,K,d7,g1,A,U,g2⟩ ih
  show PV lfp G (Runs F G) k I v va (.ptr (n+1) 0) v (.int .i64 (.ofNat p.length) 0) (.int .i64 (.ofNat j) 0) H3 O
  delta PV
  obtain⟨q,vf,vm,v0,v1,v2,v3,v4,vb,m3,ws,q3,hp,m4,W⟩:=(hf.ke (f3.ke.low (Nat.le_refl _))).at d4
  have i8:=ACt (λf:Fl=>f.face.nm) p d4
  have m5:=ACt (λf:Fl=>f.face) p d4
  have i9:=List.take_add_one (l:=p) (i:=j)
  rw[List.getElem?_eq_getElem d4]at i9
  rw[List.drop_eq_getElem_cons d4]at A U
  unfold Xy at A
  unfold VQ at U
  generalize p[j]=m at m4 A U W i8 m5 i9
  simp only[go_sem,Nat.reduceAdd,BR,d4,decide_true,hp,Bj m4]
  rw[T.set_set]
  have g4:=T.Ag H3 O (one [m.face.nm.v,m.face.sup.v,vf,vm,v0,v1,v2,v3,v4,vb])
  have f4:Kp H3 O (T.set H3 O (one [m.face.nm.v,m.face.sup.v,vf,vm,v0,v1,v2,v3,v4,vb])) (O+1):=(Kp.refl _ _).new _ (Nat.le_refl _) (by omega)
  generalize T.set H3 O (one [m.face.nm.v,m.face.sup.v,vf,vm,v0,v1,v2,v3,v4,vb])=H4 at g4 f4
  obtain⟨L,k0,hL,-⟩:=(d2.ke ((f4.ke).low (by omega)) (f4.same n (by omega))).look m.face.nm
  simp only[go_sem,Nat.reduceAdd,AU (off:=1) (f4.get g3 (by omega)) (v:=.map n) rfl,AU (off:=0) g4 (v:=m.face.nm.v) rfl,k0]
  rw[AJt (m:=10) rfl (by omega) hL,T.set_set]
  have f5:Kp H4 (O+1) (T.set H4 (O+1) (one L)) (O+1+1):=(Kp.refl _ _).new _ (Nat.le_refl _) (by omega)
  generalize T.set H4 (O+1) (one L)=H5 at f5
  have g5:=f5.get g4 (by omega)
  have m6:=f4.trans f5
  rw[CG (m:=10) g5 (by omega) rfl,AP]
  refine AQP hO (f:=m) ((W.ke ((m6.ke).low (by omega))).ke ⟨by omega,λ_ _ _ _ h=>h⟩) λH6 n6 f6=>?_
  have X:=m6.trans f6
  have u3:=f6.le
  have g6:=f6.get g5 (by omega)
  have gb:=X.get g3 (by omega)
  simp only[BZ,go_sem]
  cases h1:P9 m with
  |false=>
   rw[h1]at A
   simp only[Bool.not_false,cond_true]at A
   rw[<-A]at D
   simp only[Bool.not_false,go_sem]
   exact D (show(2:Int)≠0 by decide) _ _ (f3.trans X)
  |true=>
  rw[h1]at A
  simp only[Bool.not_true,cond_false]at A
  simp only[Bool.not_true,go_sem]
  cases h2:(CY S m.face.nm).isSome with
  |true=>
   rw[h2]at A
   simp only[cond_true]at A
   rw[<-A]at D
   simp only[go_sem]
   exact D (show(6:Int)≠0 by decide) _ _ (f3.trans X)
  |false=>
  rw[h2]at A
  simp only[cond_false]at A
  simp only[go_sem,Nat.reduceAdd,AU (off:=1) gb (v:=.map n) rfl,AU (off:=0) g6 (v:=m.face.nm.v) rfl,CG (m:=10) g6 (by omega) rfl]
  obtain⟨ps,k1,d8,d9⟩:=(d2.ke ((X.ke).low (by omega)) (X.same n (by omega))).is
  refine APO k1 m.face.nm _ λH7 q4 f0=>?_
  have f7:Kp H6 n H7 n:=⟨Nat.le_refl _,λg u=>f0 g (by omega)⟩
  have g7:=(f0 O (by omega)).trans g6
  have m7:=(f0 (n+1) (by omega)).trans gb
  have k2:FV G H7 n n (XD m.face.nm m S):=FV.put d8 (λs v c x y=>(d9 s v c x y).ke f7.ke) q4 ⟨_,vf,vm,v0,v1,v2,v3,v4,vb,m3,ws,q3,(W.ke ((X.ke).low (by omega))).ke f7.ke,rfl⟩
  simp only[go_sem,Nat.reduceAdd,AU (off:=2) m7 (v:=vn) rfl,AU (off:=0) g7 (v:=m.face.nm.v) rfl]
  refine AXK (G:=G) (w:=m.face.nm.v) rfl rfl λH8 f8 e8=>?_
  have m8:∀g,g<n6->g≠n->T.get H8 g=T.get H6 g:=λg h q5=>(f8.same g h).trans (f0 g q5)
  have i1:Own G H8 (n+2) (n6+1) 1 vn (strs (Oa (p.take j))):=⟨B.gr.mono λg u=>(m8 g (by have:=B.lo g u;omega) (by have:=(B.gr.lo u).1;omega)).trans (X.same g (B.lo g u)),λg u=>by have:=B.lo g u;omega⟩
  have k4:(Oa (p.take j)).length=j:=by simp;omega
  refine i1.gr.app (by omega) i1.lo e8 ?_ ?_ ?_
  ·rw[JH,k4];simp;omega
  ·intro d5 H9 g8 i0 i2
   have f2:∀g,vn.XZ=some g->n+2<=g:=λg u=>(B.gr.lo u).1
   have q6:T.get H9 (n+1)=some (one [.Bo,.map n,vn]):=(i0 (n+1) (by omega) (λh=>by have:=f2 _ h;omega)).trans ((f8.same (n+1) (by omega)).trans m7)
   obtain⟨m9,i3⟩:=Gr.ok g8
   rw[AJe (m:=1) q6 m9 (by rw[i3];rfl) (by omega) (by show 2+1<=3;omega),i3]
   rw[show List.take 2 [V.Bo,.map n,vn]++([d5]++List.drop (2+1) [V.Bo,.map n,vn])=[.Bo,.map n,d5]from rfl]
   have g9:T.get H9 O=_:=(i0 O (by omega) (λh=>by have:=B.lo _ h;omega)).trans ((f8.same O (by omega)).trans g7)
   have P:∀g,g≠n+1->T.get (T.set H9 (n+1) (one [.Bo,.map n,d5])) g=T.get H9 g:=λg h=>T.Ac _ _ (Ne.symm h)
   have i4:=T.Ag H9 (n+1) (one [.Bo,.map n,d5])
   generalize T.set H9 (n+1) (one [.Bo,.map n,d5])=H10 at P i4
   have q7:T.get H10 O=_:=(P O (by omega)).trans g9
   rw[show Aj 4 (.ptr O 0) G H10=some (.agg [m.face.nm.v,m.face.sup.v,vf,vm])from GH q7 (by omega) (by show 4<=10;omega),AP]
   rw[AGm (z:=4) (L:=[m.face.nm.v,m.face.sup.v,vf,vm]) rfl]
   have d6:Kp H10 (n6+1+1) (T.set H10 (n6+1+1) (.arr 4 1 (T.set (T.set .e 0 [.str 0 0,.str 0 0,.Ad,.Ad]) 0 [m.face.nm.v,m.face.sup.v,vf,vm]))) (n6+1+1+1):=(Kp.refl _ _).new _ (Nat.le_refl _) (by omega)
   have p0:=rJ (G:=G) (z:=4) (by omega) rfl (T.Ag H10 (n6+1+1) (.arr 4 1 (T.set (T.set .e 0 [.str 0 0,.str 0 0,.Ad,.Ad]) 0 [m.face.nm.v,m.face.sup.v,vf,vm])))
   generalize T.set H10 (n6+1+1) (.arr 4 1 (T.set (T.set .e 0 [.str 0 0,.str 0 0,.Ad,.Ad]) 0 [m.face.nm.v,m.face.sup.v,vf,vm]))=H11 at d6 p0
   have i5:∀g,g<O->g≠n->g≠n+1->vn.XZ≠some g->T.get H11 g=T.get H3 g:=λg a b c d=>
    (d6.same g (by omega)).trans ((P g c).trans ((i0 g (by omega) d).trans ((m8 g (by omega) b).trans (X.same g a))))
   have p1:∀g,va.XZ=some g->vn.XZ≠some g:=λg u p2=>by
    obtain⟨_,c,t,e1⟩:=K.gr.lo u
    obtain⟨_,c',t',e2⟩:=B.gr.lo p2
    rw[e1]at e2;cases e2
   have d0:Own G H11 (n+2) (n6+1+1+1) 4 va Z:=⟨K.gr.mono λg u=>i5 g (K.lo g u) (by have:=(K.gr.lo u).1;omega) (by have:=(K.gr.lo u).1;omega) (p1 g u),λg u=>by have:=K.lo g u;omega⟩
   refine d0.gr.app (by omega) d0.lo p0.2 ?_ ?_ ?_
   ·rw[d7];simp;omega
   ·intro q8 f9 p3 d3 k6
    simp only[go_sem,DI (show j+1<9223372036854775808 by omega)]
    have d1:∀g,va.XZ=some g->n+2<=g:=λg u=>(K.gr.lo u).1
    have k8:∀g,g<n->T.get f9 g=T.get H3 g:=λg u=>(d3 g (by omega) (λh=>by have:=d1 _ h;omega)).trans (i5 g (by omega) (by omega) (by omega) (λh=>by have:=f2 _ h;omega))
    have k3:Kp H3 n f9 n:=⟨Nat.le_refl _,k8⟩
    have k7:Kp H7 n f9 n:=⟨Nat.le_refl _,λg u=>by rw[k8 g u,f0 g (by omega)];exact(X.same g (by omega)).symm⟩
    have p4:T.get f9 n=T.get H7 n:=(d3 n (by omega) (λh=>by have:=d1 _ h;omega)).trans ((d6.same n (by omega)).trans ((P n (by omega)).trans ((i0 n (by omega) (λh=>by have:=f2 _ h;omega)).trans (f8.same n (by omega)))))
    refine ih _ ⟨f9,_,q8,d5,XD m.face.nm m S,Z++[[m.face.nm.v,m.face.sup.v,vf,vm]],rfl,⟨by omega,λg u=>(k8 g u).trans (f3.same g u)⟩,by omega,?_,k2.ke k7.ke p4,?_,⟨p3,k6⟩,by simp[d7],?_,A,U,?_⟩
    ·exact(d3 (n+1) (by omega) (λh=>by have:=d1 _ h;omega)).trans ((d6.same (n+1) (by omega)).trans i4)
    ·refine⟨?_,λg u=>by have:=i2 g u;omega⟩
     rw[show Oa (p.take (j+1))=Oa (p.take j)++[m.face.nm]from i8,strs,List.map_append]
     refine g8.mono λg u=>?_
     have h9:=i2 g u
     have u4:n+2<=g:=(g8.lo u).1
     refine(d3 g (by omega) λh=>?_).trans ((d6.same g (by omega)).trans (P g (by omega)))
     obtain⟨_,c,t,e1⟩:=g8.lo u
     obtain⟨_,c',t',e2⟩:=d0.gr.lo h
     rw[d6.same g (by omega),P g (by omega),e1]at e2;cases e2
    ·intro i L c hi hc
     rw[show Bh (p.take (j+1))=Bh (p.take j)++[m.face]from m5]at hc
     have q9:(Bh (p.take j)).length=j:=by simp;omega
     by_cases u5:i<j
     ·rw[List.getElem?_append_left (by omega)]at hi hc
      exact(g1 i L c hi hc).ke k3.ke
     ·rw[List.getElem?_append_right (by omega)]at hi hc
      have:i=j:=by have:=(List.getElem?_eq_some_iff.1 hi).1;simp at this;omega
      subst this
      rw[d7,Nat.sub_self]at hi
      rw[q9,Nat.sub_self]at hc
      simp at hi hc
      subst hi;subst hc
      exact⟨vf,vm,m3,W.face.ke k3.ke,rfl⟩
    ·intro f p5
     rw[i9]at p5
     rcases List.mem_append.1 p5 with h|h
     ·exact g2 f h
     ·simp at h;subst h;exact h1
   ·intro h;cases h
  ·intro h;cases h
 ·rintro I q ⟨H3,O,va,vn,S,Z,rfl,f3,q2,g3,d2,B,K,d7,g1,A,U,g2⟩
  show PV lfp G (Runs F G) k I v va (.ptr (n+1) 0) v (.int .i64 (.ofNat p.length) 0) (.int .i64 (.ofNat p.length) 0) H3 O
  delta PV
  rw[List.drop_eq_nil_of_le (Nat.le_refl _)]at A U
  rw[List.take_of_length_le (Nat.le_refl _)]at B g1 g2
  have U:S=OD p:=Eq.trans U hQ
  subst U
  have A:(0:Int)=R:=A
  rw[<-A]at Y D
  simp only[go_sem,BR,Nat.lt_irrefl,decide_false]
  delta iJ
  refine Afa (m:=n) (cs:=Bh p) ⟨⟨Z,K.el (by omega),by simp[d7],g1⟩,K.lo,by simp;omega,by omega⟩ λH4 n4 t a b f4 gt u0 p6 ha u6 u7 i8=>?_
  have gb:=f4.get g3 (by omega)
  have u8:=f4.le
  simp only[go_sem,Nat.reduceAdd]
  rw[AJe (m:=1) gb rfl rfl (by omega) (by show 0+1<=3;omega)]
  rw[show List.take 0 [V.Bo,.map n,vn]++(A8 (.ptr t 0)++List.drop (0+1) [V.Bo,.map n,vn])=[.ptr t 0,.map n,vn]from rfl]
  have M:∀g,g≠n+1->T.get (T.set H4 (n+1) (one [.ptr t 0,.map n,vn])) g=T.get H4 g:=λg h=>T.Ac _ _ (Ne.symm h)
  have p7:=T.Ag H4 (n+1) (one [.ptr t 0,.map n,vn])
  generalize T.set H4 (n+1) (one [.ptr t 0,.map n,vn])=H5 at M p7
  have k5:∀g,g<n->T.get H5 g=T.get H g:=λg u=>(M g (by omega)).trans ((f4.same g (by omega)).trans (f3.same g u))
  have f5:Kp H n H5 n4:=⟨by omega,k5⟩
  have k9:∀s c,CY (EW (Bh p)) s=some c->∃f∈p,f.face=c:=λs c h=>by
   have:=AMj h
   obtain⟨f,h1,h2⟩:=List.mem_map.1 this
   exact⟨f,h1,h2⟩
  have m0:=AAE (Bh p) []
  have k1:∀s c,CY (EW (Bh p)) s=some c->∀m∈c.ms,m.ps.length<=100000:=λs c h m hm=>by
   obtain⟨f,u1,rfl⟩:=k9 s c h
   have h1:=g2 f u1
   unfold P9 at h1
   rw[Bool.and_eq_true]at h1
   have:=AC5 h1.1 m hm
   omega
  have Y:link2 (EW (Bh p)) p=0->∀C E i,Kp H n C E->Aa7 G C E n i p->k (.Dl [.ptr i 0,.int .i64 (.ofNat 0) 0]) C E:=Y
  have D:link2 (EW (Bh p)) p≠0->∀C E,Kp H n C E->k (.Dl [.Bo,.int .i64 (link2 (EW (Bh p)) p) 0]) C E:=D
  obtain⟨ps,p8,d8,d9⟩:=u0.is
  have u2:Kp H4 n H5 n:=⟨Nat.le_refl _,λg u=>M g (by omega)⟩
  have m1:TabAt G H5 n4 t a b (EW (Bh p)):=⟨by omega,by omega,by omega,by omega,by omega,(M t (by omega)).trans gt,⟨ps,rY p8 (M a (by omega)),d8,λs v c x y=>((d9 s v c x y).ke u2.ke).up (by omega)⟩,p6.same (M b (by omega))⟩
  have i6:NQ G H5 n4 (n+1) t a b n vn (EW (Bh p)):=⟨by omega,by omega,p7,m1⟩
  have p9:WI G H5 n4 v p:=(hf.ke (f5.ke))
  have q0:Own G H5 (n+2) n4 1 vn (strs (Oa p)):=⟨B.gr.mono λg u=>(M g (by have:=(B.gr.lo u).1;omega)).trans (f4.same g (B.lo g u)),λg u=>by have:=B.lo g u;omega⟩
  have m2:FV G H5 n n (OD p):=d2.ke (H':=H5) (n':=n) ((Kp.ke (n':=n) ⟨Nat.le_refl _,λg u=>(M g (by omega)).trans (f4.same g (by omega))⟩)) ((M n (by omega)).trans (f4.same n (by omega)))
  have q1:∀C E,Kb b H5 n4 C E->Kp H n C E:=λC E f=>⟨by have:=f.le;omega,λg u=>by
   have h1:g<n4:=by omega
   have h2:g≠b:=by omega
   exact(f.same g h1 h2).trans (k5 g u)⟩
  simp only[go_sem,hf.len]
  refine AUv hG (by simp at m0;unfold EW;omega) k1 i6 p9 (λh0 C E f=>?_) (λh0 C E f=>D h0 _ _ (q1 _ _ f))
  have u9:=f.le
  have i7:Own G C (n+2) E 1 vn (strs (Oa p)):=⟨q0.gr.mono λg u=>f.same g (by have:=B.lo g u;omega) (by have:=B.lo g u;omega),λg u=>by have:=B.lo g u;omega⟩
  refine Y h0 _ _ _ (q1 _ _ f) ⟨t,a,b,n,vn,i6.kb f,?_,by omega,by omega,i7.el (by omega),i7.lo,by omega,by omega,by omega,by omega,by omega⟩
  refine(m2.ke ((f.ke (p6.same (M b (by omega)))).low (by omega)) (f.same n (by omega) (by omega))).up (by omega)
theorem AQD{a b:Nat}(h:a+b<9223372036854775808):B2.ev .add (.int .i64 (.ofNat a) 0) (.int .i64 (.ofNat b) 0)=some (.int .i64 (.ofNat (a+b)) 0):=by
 show some (V.int .i64 (Z7 .i64 (AHI (.ofNat a) (.ofNat b))) 0)=_
 rw[UM,jv,YF (by simp;omega) (by simp;omega)];rfl
def fU(fs:Tab):List St->Nat
 |[]=>0
 |c::cs=>((CY fs c).getD CJ).fs.length+fU fs cs
def sizeT(fs:Tab)(s:St):Nat:=fU fs (above fs s).1
def small(fs:Tab):Prop:=∀s c,CY fs s=some c->c.fs.length<=200
theorem AHE{fs:Tab}(h:small fs)(s:St):((CY fs s).getD CJ).fs.length<=200:=by
 cases d:CY fs s with
 |none=>exact Nat.zero_le _
 |some c=>exact h s c d
theorem ANG{fs:Tab}(h:small fs):∀cs,fU fs cs<=200*cs.length
 |[]=>Nat.zero_le _
 |c::cs=>by have:=AHE h c;have:=ANG h cs;unfold fU;rw[List.length_cons];omega
theorem AXS{G:AY}{H:Heap}{n i t a b fm:Nat}{vn:V}{fs:Tab}(h:NQ G H n i t a b fm vn fs)(L:fs.length<=1000)(A:small fs){s:St}{k:KV}
 (M:sizeT fs s<=1000000->∀u w,Kb b H n u w->k (.int .i64 (.ofNat (sizeT fs s)) 0) u w):Runs F G WA [.ptr i 0,s.v] H n k:=by
 refine go2 (AE4 BF G) ?_
 delta ji
 have O:=h.tab.bn
 unfold sizeT at M
 simp only[go_sem,Nat.reduceAdd,AU (off:=0) h.at' (v:=.ptr t 0) rfl]
 refine tu (s:=s) h.tab L λH2 n2 x f2 g B=>?_
 generalize(above fs s).1=cs at g M B
 simp only[go_sem,(g.el (by omega)).len,JH]
 have Y:=ANG A cs
 refine BN (N:=cs.length) (J:=λj q=>∃u w f,q=(.ptr i 0,.int .i64 (.ofNat f) 0,x,.int .i64 (.ofNat cs.length) 0,.int .i64 (.ofNat j) 0,u,w)/\Kb b H n u w/\Own G u n w 1 x (strs cs)/\f+fU fs (cs.drop j)=fU fs cs) ?_ ?_
  ⟨H2,n2,0,rfl,f2,g,by simp⟩
 ·rintro I j q p ⟨P,Q,f,rfl,f3,g,d⟩ ih
  show Ia lfp G (Runs F G) k I (.ptr i 0) (.int .i64 (.ofNat f) 0) x (.int .i64 (.ofNat cs.length) 0) (.int .i64 (.ofNat j) 0) P Q
  delta Ia
  have h3:=h.kb f3
  obtain⟨q,hp,C⟩:=(g.el (by omega)).at (Sz p)
  rw[List.drop_eq_getElem_cons p,show fU fs (cs[j]::cs.drop (j+1))=((CY fs cs[j]).getD CJ).fs.length+fU fs (cs.drop (j+1))from rfl]at d
  generalize cs[j]=m at C d
  simp only[go_sem,BR,p,decide_true,hp,Jv C,Nat.reduceAdd,AU (off:=0) h3.at' (v:=.ptr t 0) rfl]
  have d0:=f3.le
  refine sU (s:=m) (n0:=n) (h.tab.kb (f3.low (Nat.le_refl _))) (by omega) λE D y R S=>?_
  obtain⟨K,U,ws,S,rfl⟩:=S
  have f5:=f3.trans R
  have d1:=R.le
  simp only[go_sem,Nat.reduceAdd]
  rw[T.set_set]
  have W:Kp E D (T.set E D (one [((CY fs m).getD CJ).nm.v,((CY fs m).getD CJ).sup.v,K,U])) (D+1):=(Kp.refl _ _).new _ (Nat.le_refl _) (by omega)
  have Z:=T.Ag E D (one [((CY fs m).getD CJ).nm.v,((CY fs m).getD CJ).sup.v,K,U])
  generalize T.set E D (one [((CY fs m).getD CJ).nm.v,((CY fs m).getD CJ).sup.v,K,U])=H6 at W Z
  have X:=W.kb (b:=b) (by omega)
  have hs:=AHE A m
  simp only[go_sem,Nat.reduceAdd,AU (off:=2) Z (v:=K) rfl,S.fs.len,AQD (show f+((CY fs m).getD CJ).fs.length<9223372036854775808 by omega),DI (show j+1<9223372036854775808 by omega)]
  exact ih _ ⟨_,_,_,rfl,f5.trans X,(g.kb R O).kp W,by omega⟩
 ·rintro I q ⟨P,Q,f,rfl,f3,g,d⟩
  show Ia lfp G (Runs F G) k I (.ptr i 0) (.int .i64 (.ofNat f) 0) x (.int .i64 (.ofNat cs.length) 0) (.int .i64 (.ofNat cs.length) 0) P Q
  delta Ia
  rw[List.drop_eq_nil_of_le (Nat.le_refl _)]at d
  have d:f=fU fs cs:=d
  subst d
  simp only[go_sem,BR,Nat.lt_irrefl,decide_false]
  delta Ry
  exact M (by omega) _ _ f3
def ADo(s:St)(m:Nat):List Fld->Nat->Int
 |[],_=>.negSucc 0
 |f::fs,j=>bif decide (f.nm.1=s.1/\f.nm.2=s.2)then .ofNat (m+j)else ADo s m fs (j+1)
def APN(fs:Tab)(c s:St):Fc:=(CY fs ((dn fs c s).getD ((0,0),tyZ)).1).getD CJ
def AKC(fs:Tab)(c s:St):Int:=ADo s (sizeT fs (APN fs c s).sup) (APN fs c s).fs 0
theorem AcL{G:AY}{H:Heap}{n i t a b fm:Nat}{vn:V}{fs:Tab}(h:NQ G H n i t a b fm vn fs)(B:fs.length<=1000)(C:small fs){c s:St}{k:KV}
 (d:∀f g,Kb b H n f g->k (.int .i64 (AKC fs c s) 0) f g):Runs F G jQ [.ptr i 0,c.v,s.v] H n k:=by
 refine go3 (ADZ BF G) ?_
 delta iV
 have d1:=h.tab.bn
 unfold AKC APN at d
 simp only[go_sem,Nat.reduceAdd,AU (off:=0) h.at' (v:=.ptr t 0) rfl]
 refine AO4 (c:=c) (s:=s) h.tab B λW Q f1=>?_
 generalize(dn fs c s).getD ((0,0),tyZ)=o at d⊢
 have d2:=f1.le
 unfold Ty.v Ty.cells
 simp only[go_sem,Nat.reduceAdd]
 rw[T.set_set]
 have f2:Kp W Q (T.set W Q (one [o.2.nm.v,.bool o.2.arr])) (Q+1):=(Kp.refl _ _).new _ (Nat.le_refl _) (by omega)
 generalize T.set W Q (one [o.2.nm.v,.bool o.2.arr])=H2 at f2
 have D:=f1.trans (f2.kb (b:=b) (by omega))
 have X:=h.kb D
 simp only[go_sem,Nat.reduceAdd,AU (off:=0) X.at' (v:=.ptr t 0) rfl]
 refine sU (s:=o.1) X.tab (Nat.le_refl _) λR E y f3 S=>?_
 obtain⟨p,Y,ws,S,rfl⟩:=S
 have K:=AHE C o.1
 generalize(CY fs o.1).getD CJ=fc at d S K⊢
 have Z:=f3.le
 simp only[go_sem,Nat.reduceAdd]
 rw[T.set_set]
 have f4:Kp R E (T.set R E (one [fc.nm.v,fc.sup.v,p,Y])) (E+1):=(Kp.refl _ _).new _ (Nat.le_refl _) (by omega)
 have g4:=T.Ag R E (one [fc.nm.v,fc.sup.v,p,Y])
 generalize T.set R E (one [fc.nm.v,fc.sup.v,p,Y])=H4 at f4 g4
 have L:=D.trans (f3.trans (f4.kb (b:=b) (by omega)))
 refine AXS (s:=fc.sup) (h.kb L) B C λd0 H5 n5 U=>?_
 have d3:=U.le
 generalize sizeT fs fc.sup=sz at d d0⊢
 have g5:=U.get g4 (by omega) (by omega)
 have M:=L.trans U
 have u:VD G H5 n5 p fc.fs:=by
  have:=S.fs.ke ((((f4.kb (b:=b) (by omega)).trans U).low Z).ke (f3.seen X.tab.seen))
  exact⟨this.el,this.lo.mono (by omega),this.lt,this.ok⟩
 simp only[go_sem,Nat.reduceAdd,AU (off:=2) g5 (v:=p) rfl,u.len]
 have O:=u.lt
 refine BN (N:=fc.fs.length) (J:=λj q=>∃f g,q=(s.v,.int .i64 (.ofNat sz) 0,p,.int .i64 (.ofNat fc.fs.length) 0,.int .i64 (.ofNat j) 0,f,g)/\Kp H5 n5 f g/\
  (∀f g,Kb b H n f g->k (.int .i64 (ADo s sz (fc.fs.drop j) j) 0) f g)) ?_ ?_ ⟨H5,n5,rfl,Kp.refl _ _,d⟩
 ·rintro I j q w ⟨H6,P,rfl,A,d⟩ ih
  show Hr lfp G (Runs F G) k I s.v (.int .i64 (.ofNat sz) 0) p (.int .i64 (.ofNat fc.fs.length) 0) (.int .i64 (.ofNat j) 0) H6 P
  delta Hr
  obtain⟨q,hp,x⟩:=(u.kp A).at w
  rw[List.drop_eq_getElem_cons w]at d
  unfold ADo at d
  generalize fc.fs[j]=m at x d
  unfold Fld.cells at x
  have d4:=A.le
  simp only[go_sem,BR,w,decide_true,hp,Bj x,Nat.reduceAdd,show CU (.one .str) false m.nm.v s.v=_ from AKu ..]
  rw[T.set_set]
  have f7:=A.new (m:=P+1) (id:=P) (one [m.nm.v,m.ty.nm.v,.bool m.ty.arr]) A.le (by omega)
  cases h1:decide (m.nm.1=s.1/\m.nm.2=s.2)with
  |true=>
   simp only[h1,cond_true]at d
   simp only[go_sem,AQD (show sz+j<9223372036854775808 by omega)]
   exact d _ _ (M.trans (f7.kb (by omega)))
  |false=>
   simp only[h1,cond_false]at d
   simp only[go_sem,DI (show j+1<9223372036854775808 by unfold big at O;omega)]
   exact ih _ ⟨_,_,rfl,f7,d⟩
 ·rintro I q ⟨H6,P,rfl,A,d⟩
  show Hr lfp G (Runs F G) k I s.v (.int .i64 (.ofNat sz) 0) p (.int .i64 (.ofNat fc.fs.length) 0) (.int .i64 (.ofNat fc.fs.length) 0) H6 P
  delta Hr
  rw[List.drop_eq_nil_of_le (Nat.le_refl _)]at d
  simp only[go_sem,BR,Nat.lt_irrefl,decide_false]
  delta Po
  exact d _ _ (M.trans (A.kb (by omega)))
theorem FV.Aeo{G:AY}{H:Heap}{n a:Nat}{fs:List (St×Fl)}(h:FV G H n a fs)(s:St):∃L:LV,ACi .str true (.agg ANP) (.map a) s.v H=some (.Dl [.agg L,.bool (CY fs s).isSome])/\L.length=10/\
 (∀f,CY fs s=some f->X7 G H n (.agg L) f)/\(CY fs s=none->L=ANP):=by
 obtain⟨m,p,q,u⟩:=h.is
 have d:=qH q s
 rw[show s.v=.str s.1 s.2 from rfl,AK9 p]
 cases i:CY m s with
 |none=>
  rw[i]at d
  cases g:CY fs s with
  |none=>exact⟨ANP,rfl,rfl,λf h=>(by cases h),λ_=>rfl⟩
  |some x=>rw[g]at d;cases d
 |some v=>
  rw[i]at d
  cases g:CY fs s with
  |none=>rw[g]at d;cases d
  |some x=>
   have k:=u _ _ _ i g
   obtain⟨L,rfl,w⟩:=k.cells
   exact⟨L,rfl,w,λf h=>(by cases h;exact k),λh=>by cases h⟩
theorem ASO{G:AY}{H:Heap}{n n0 i t a b fm:Nat}{vn:V}{fs:Tab}{u:List (St×Fl)}(h:NQ G H n i t a b fm vn fs)(A:FV G H n0 fm u)(I:n0<=n)(B:fm<n){s:St}{k:KV}
 (J:∀C D L,Kp H n C D->L.length=10->(∀f,CY u s=some f->X7 G C n0 (.agg L) f)->(CY u s=none->L=ANP)->k (.Dl [.agg L,.bool (CY u s).isSome]) C D):Runs F G Qj [.ptr i 0,s.v] H n k:=by
 refine go2 (ADQ BF G) ?_
 delta kE
 refine Di rfl λw x K=>?_
 have M:=h.kb (x.kb h.tab.bn)
 obtain⟨L,d,q,g,p⟩:=(A.ke ((x.ke).low I) (x.same fm B)).Aeo s
 simp only[AUj,go_sem,Nat.reduceAdd,AU (off:=1) M.at' (v:=.map fm) rfl,d]
 rw[AJt (m:=10) rfl (by omega) q,T.set_set]
 have y:Kp w (n+1) (T.set w (n+1) (one L)) (n+1+1):=(Kp.refl _ _).new _ (Nat.le_refl _) (by omega)
 have E:=T.Ag w (n+1) (one L)
 generalize T.set w (n+1) (one L)=H2 at y E
 rw[CG (m:=10) E (by omega) q,AP,FU (m:=10) (y.get K (by omega)) (by omega) rfl q,EN (m:=10) (T.Ag ..) (by omega) q]
 simp only[go_sem]
 have f3:Kp H n (T.set H2 n (one L)) (n+1+1):=(x.trans y).set _ (Nat.le_refl _)
 refine J _ _ _ f3 q (λf A=>(g f A).ke ?_) p
 exact(Kp.ke (n:=n0) (n':=n0) ⟨Nat.le_refl _,λN O=>(T.Ac _ _ (by omega)).trans (y.same N (by omega))⟩)
def ZN(s:St):List Cb->Nat->Option Nat
 |[],_=>none
 |m::ms,j=>bif decide (m.nm.1=s.1/\m.nm.2=s.2)then some j else ZN s ms (j+1)
abbrev Aew:LV:=[.int .i64 (.ofNat 0) 0,.int .i64 (.ofNat 0) 0,.Ad]
theorem Abw{G:AY}{H:Heap}{n n0 i t a b fm:Nat}{vn:V}{fs:Tab}{ff:List (St×Fl)}(h:NQ G H n i t a b fm vn fs)(hf:FV G H n0 fm ff)(hn:n0<=n)(d9:fm<n){s nm:St}
 (d3:∀f,CY ff s=some f->f.bodies.length=f.face.ms.length) {k:KV}
 (f0:(∀f,CY ff s=some f->ZN nm f.face.ms 0=none)->∀M Q,Kp H n M Q->k (.Dl [.agg Aew,.bool false]) M Q)
 (f6:∀f j bd w,CY ff s=some f->ZN nm f.face.ms 0=some j->f.bodies[j]? =some bd->∀M Q,Kp H n M Q->O1 G M n0 w bd.code->k (.Dl [.agg (bd.cells w),.bool true]) M Q):
 Runs F G kP [.ptr i 0,s.v,nm.v] H n k:=by
 refine go3 (ADa BF G) ?_
 delta kM
 refine Di rfl λH1 f1 g1=>?_
 refine ASO (h.kb (f1.kb h.tab.bn)) (hf.ke ((f1.ke).low hn) (f1.same fm d9)) (by omega) (by omega) λH2 A L f2 hL X Y=>?_
 have g4:=f2.le
 simp only[go_sem]
 rw[AJt (m:=10) rfl (by omega) hL,T.set_set]
 have f3:Kp H2 A (T.set H2 A (one L)) (A+1):=(Kp.refl _ _).new _ (Nat.le_refl _) (by omega)
 have g3:=T.Ag H2 A (one L)
 generalize T.set H2 A (one L)=H3 at f3 g3
 have d4:=f1.trans (f2.trans f3)
 have g1:=f3.get (f2.get g1 (by omega)) (by omega)
 have S:∀U K,Kp H3 (A+1) U K->(∀f,CY ff s=some f->ZN nm f.face.ms 0=none)->KL lfp G (Runs F G) k (.ptr n 0) U K:=by
  intro U K O f7
  delta KL
  rw[zk,AP,FU (m:=3) (O.get g1 (by omega)) (by omega) rfl rfl,EN (m:=3) (T.Ag ..) (by omega) rfl]
  simp only[go_sem]
  exact f0 f7 _ _ ((d4.trans O).set _ (Nat.le_refl _))
 cases hl:CY ff s with
 |none=>
  have:=Y hl
  subst this
  simp only[go_sem,Nat.reduceAdd,AU (off:=3) g3 (v:=.Ad) rfl]
  rw[show lenV .Ad=some (.int .i64 (.ofNat 0) 0)from rfl,AP]
  refine BN (N:=0) (J:=λj q=>q=(nm.v,V.ptr n 0,V.ptr A 0,V.Ad,V.int .i64 (.ofNat 0) 0,V.int .i64 (.ofNat j) 0,H3,A+1)) (λI j q B=>absurd B (Nat.not_lt_zero _)) ?_ rfl
  rintro I q rfl
  show EJ lfp G (Runs F G) k I nm.v (.ptr n 0) (.ptr A 0) .Ad (.int .i64 (.ofNat 0) 0) (.int .i64 (.ofNat 0) 0) H3 (A+1)
  delta EJ
  simp only[go_sem,BR,Nat.lt_irrefl,decide_false]
  exact S _ _ (Kp.refl _ _) λf hf=>by rw[hl]at hf;cases hf
 |some f=>
  obtain⟨L',vf,vm,v0,v1,v2,v3,v4,vb,f8,ws,P,Z,e⟩:=X f hl
  have e:L=L':=by injection e
  subst e
  obtain⟨rfl,d,f9,W⟩:=Z.ke ((f3.ke).low (by omega))
  have d0:J5 G H3 (A+1) vm f.face.ms f8:=⟨d.ms.el,d.ms.lo.mono (by omega),d.ms.lt,d.ms.len,λi m w x y=>(d.ms.at' i m w x y).ke ⟨by omega,λ_ _ _ _ h=>h⟩,d.ms.ok⟩
  have d5:Jk G H3 (A+1) vb f.bodies P:=W.ke ⟨by omega,λ_ _ _ _ h=>h⟩
  have g5:=d3 f hl
  have d6:=d0.lt
  obtain⟨R,hR⟩:∃R,R=ZN nm f.face.ms 0:=⟨_,rfl⟩
  simp only[go_sem,Nat.reduceAdd,AU (off:=3) g3 (v:=vm) rfl,d0.len']
  refine BN (N:=f.face.ms.length) (J:=λj q=>∃M Q,q=(nm.v,V.ptr n 0,V.ptr A 0,vm,V.int .i64 (.ofNat f.face.ms.length) 0,V.int .i64 (.ofNat j) 0,M,Q)/\Kp H3 (A+1) M Q/\ZN nm (f.face.ms.drop j) j=R) ?_ ?_ ⟨_,_,rfl,Kp.refl _ _,hR.symm⟩
  ·rintro I j q B ⟨U,K,rfl,O,u⟩ ih
   show EJ lfp G (Runs F G) k I nm.v (.ptr n 0) (.ptr A 0) vm (.int .i64 (.ofNat f.face.ms.length) 0) (.int .i64 (.ofNat j) 0) U K
   delta EJ
   have g6:=O.le
   obtain⟨p,w,hp,d1,hw⟩:=(d0.kp O).at B
   rw[List.drop_eq_getElem_cons B]at u
   unfold ZN at u
   generalize f.face.ms[j]=m at d1 hw u
   unfold Cb.cells at d1
   simp only[go_sem,BR,B,decide_true,hp,Bj d1,Nat.reduceAdd,show CU (.one .str) false m.nm.v nm.v=_ from AKu ..]
   rw[T.set_set]
   have f5:=O.new (m:=K+1) (id:=K) (one [m.nm.v,.bool m.st,w,m.ret.nm.v,.bool m.ret.arr]) O.le (by omega)
   generalize T.set U K (one [m.nm.v,.bool m.st,w,m.ret.nm.v,.bool m.ret.arr])=H5 at f5
   cases hd:decide (m.nm.1=nm.1/\m.nm.2=nm.2)with
   |true=>
    rw[hd]at u
    have u:ZN nm f.face.ms 0=some j:=hR.symm.trans u.symm
    have C:j<f.bodies.length:=by omega
    have d2:j<P.length:=by rw[d5.len];exact C
    have d7:=d5.kp f5
    obtain⟨p2,g0,D⟩:=d7.el.at (i:=j) (c:=f.bodies[j].cells P[j]) (by rw[List.getElem?_zipWith];simp[C,d2])
    have hc:=d7.at' j _ _ (List.getElem?_eq_getElem C) (List.getElem?_eq_getElem d2)
    have d8:=List.getElem?_eq_getElem C
    have E:=W.at' j _ _ (List.getElem?_eq_getElem C) (List.getElem?_eq_getElem d2)
    generalize f.bodies[j]=bd at D hc d8 E
    generalize P[j]=w2 at D hc E
    simp only[go_sem,Nat.reduceAdd,AU (off:=9) (f5.get g3 (by omega)) (v:=vb) rfl,g0,Bj D]
    rw[FU (m:=3) (f5.get g1 (by omega)) (by omega) rfl rfl,EN (m:=3) (T.Ag ..) (by omega) rfl]
    simp only[go_sem]
    exact f6 f j bd w2 hl u d8 _ _ ((d4.trans f5).set _ (Nat.le_refl _)) ⟨hc.el.same λid g2=>T.Ac _ _ (by have:=E.lo id g2;omega),E.lo,E.lt⟩
   |false=>
    rw[hd]at u
    simp only[go_sem,DI (show j+1<9223372036854775808 by unfold big at d6;omega)]
    exact ih _ ⟨_,_,rfl,f5,u⟩
  ·rintro I q ⟨U,K,rfl,O,u⟩
   show EJ lfp G (Runs F G) k I nm.v (.ptr n 0) (.ptr A 0) vm (.int .i64 (.ofNat f.face.ms.length) 0) (.int .i64 (.ofNat f.face.ms.length) 0) U K
   delta EJ
   rw[List.drop_eq_nil_of_le (Nat.le_refl _)]at u
   simp only[go_sem,BR,Nat.lt_irrefl,decide_false]
   exact S _ _ O λg hg=>by rw[hl]at hg;cases hg;exact hR.symm.trans u.symm
theorem eq_i(x y:Int):CU (.one .int) false (.int .i64 x 0) (.int .i64 y 0)=some (.bool (x==y)):=by
 have h:=AYQ x y
 show ofB (Ld (some (ieq x y)) λb=>some b)=_
 rw[U4]
 cases d:decide (x=y)with
 |true=>have:=of_decide_eq_true d;subst this;simp[Ld,ofB]
 |false=>
  have:=of_decide_eq_false d
  have:(x==y)=false:=by simpa using this
  rw[this];rfl
theorem AWT{z:Nat}{Z:LV}{H:Heap}{n:Nat}{P:KV}:Bc (Ar z 0 Z [] E0) H n P=P (.sl n 0 0 0 z) (T.set H n (.arr z 0 .e)) (n+1):=by
 show Ji (band true true) (DT n λn=>P (.sl n 0 0 0 z) (T.set H n (.arr z 0 .e)) (Nat.succ n))=_
 rw[BL];rfl
theorem Aai{G:AY}{H:Heap}{n i t a b fm:Nat}{vn:V}{fs:Tab}{f:List St}(h:NQ G H n i t a b fm vn fs)(y:El G H vn 1 (strs f))(hs:f.length<=1000){k:KV}
 (w:∀v g p,Kp H n g p->El G g v 1 (strs f)->Lo v p->k v g p):Runs F G gV [.ptr i 0] H n k:=by
 refine go1 (ABY BF G) ?_
 delta eX
 simp only[AUj,go_sem,Nat.reduceAdd,AU (off:=2) h.at' (v:=vn) rfl]
 refine(Gr.nil (G:=G) (H:=H) (m:=n) (z:=1)).app (Nat.le_refl _) (λx h=>by cases h) y.2 (by rw[JH];simp;omega) ?_ ?_
 ·intro B g A d q
  exact w _ _ _ ⟨by omega,λx u=>d x u (λh=>by cases h)⟩ (A.el (by omega)) q
 ·intro e
  have:f=[]:=by simpa[strs]using e
  subst this
  exact w _ _ _ (Kp.refl _ _) ⟨rfl,rfl⟩ AD7
end Go.RL
