/- Part of a proof; nothing is assumed. -/
import Derived.Test.YtlhlldpfafhpbaaGreatDoorConI
set_option linter.unusedVariables false
set_option linter.unusedSimpArgs false
noncomputable section
namespace Go.RL
open Go.BN
set_option maxRecDepth 100000
abbrev nI(i:Nat):V:=.int .i64 (.ofNat i) 0
structure Gc where
 kb:Nat
 mb:Nat
 bb:Nat
 t:Nat
 a:Nat
 b:Nat
 fs:Tab
 f0:V
 f1:V
 f2:V
 f3:V
 vb:V
 ret:Ty
structure Gp where
 v0:V
 v1:V
 v2:V
 v3:V
 v4:V
 ws:List V
structure Gb where
 vc:V
 vv:V
 vs:V
def Gc.mc(M:Gc)(P:Gp):LV:=[M.f0,M.f1,M.f2,M.f3,P.v0,P.v1,P.v2,P.v3,P.v4,M.vb,.ptr M.t 0]
def Gc.bc(M:Gc)(B:Gb)(g:Gn):LV:=[.ptr M.mb 0,nI g.loc,nI g.stk,B.vc,B.vv,B.vs,nI g.hi,M.ret.nm.v,.bool M.ret.arr]
structure Ga(M:Gc)(o:Nat->Nat)(G:AQ)(H:Heap)(n:Nat):Prop where
 kn:M.kb<=n
 lo:∀id,id<M.kb->o id=0
 hi:∀id,n<=id->o id=0
 tab:TabAt G H M.kb M.t M.a M.b M.fs
 fl:M.fs.length<=1000
structure Gk(M:Gc)(o:Nat->Nat)(P:Gp)(G:AQ)(H:Heap)(n:Nat)(p:Pool):Prop where
 mb:M.mb<n/\o M.mb=1
 box:T.get H M.mb=some (one (M.mc P))
 s0:Sk H 1 (λid=>id<n/\o id=3) P.v0 (p.nums.map λa=>[.int .i64 a 0])
 s1:Sk H 1 (λid=>id<n/\o id=4) P.v1 (strs p.names)
 s2:Sk H 2 (λid=>id<n/\o id=5) P.v2 (p.types.map Ty.cells)
 s3:Sk H 4 (λid=>id<n/\o id=6) P.v3 (p.fields.map PF.cells)
 s4:Sk H 6 (λid=>id<n/\o id=7) P.v4 (List.zipWith PM.cells p.BS P.ws)
 wl:P.ws.length=p.BS.length
 wt:∀(i:Nat) (m:PM) (w:V),p.BS[i]? =some m->P.ws[i]? =some w->Ji G H M.kb w m.m.ps
 sz:SW p 20000
structure Gy(M:Gc)(o:Nat->Nat)(B:Gb)(H:Heap)(n:Nat)(g:Gn):Prop where
 bb:M.bb<n/\o M.bb=2
 box:T.get H M.bb=some (one (M.bc B g))
 cd:Sk H 2 (λid=>id<n/\o id=9) B.vc (g.code.map Ins.cells)
 vr:Sk H 3 (λid=>id<n/\o id=10) B.vv (g.vars.map RR)
 sl:Sk H 1 (λid=>id<n/\o id=11) B.vs (g.slots.map λi=>[nI i])
 ln:g.slots.length=g.vars.length
 sz:g.code.length<=20000/\g.vars.length<=1000/\g.loc<=20000/\g.hi<=g.code.length/\g.stk<=g.code.length
structure Gw where
 o:Nat->Nat
 P:Gp
 B:Gb
structure Gm(M:Gc)(W:Gw)(G:AQ)(H:Heap)(n:Nat)(g:Gn):Prop where
 a:Ga M W.o G H n
 k:Gk M W.o W.P G H n g.p
 y:Gy M W.o W.B H n g
structure Kg(M:Gc)(W:Gw)(H:Heap)(n:Nat)(W':Gw)(H':Heap)(n':Nat):Prop where
 le:n<=n'
 own:∀id,id<n->W'.o id=W.o id
 zero:∀id,id<n->W.o id=0->id≠M.b->T.get H' id=T.get H id
 seen:E1 H M.b->E1 H' M.b
variable{i:Nat}{id:Nat}{Q:KV}{v:V}
section
variable{M:Gc}{W W' W'':Gw}{o o':Nat->Nat}{P:Gp}{B:Gb}{G:AQ}{H H' H'':Heap}{n n' n'':Nat}{p:Pool}{g g':Gn}
abbrev Kg.refl:Kg M W H n W H n:=⟨ea _,λ_ _=>rfl,λ_ _ _ _=>rfl,λh=>h⟩
abbrev Kg.trans(x:Kg M W H n W' H' n')(y:Kg M W' H' n' W'' H'' n''):Kg M W H n W'' H'' n'':=
 ⟨w_ x.le y.le,λd h=>(y.own d (hN x.le)).trans (x.own d h),λd f g i=>(y.zero d (hN x.le) ((x.own d f).trans g) i).trans (x.zero d f g i),λh=>y.seen (x.seen h)⟩
abbrev Ga.seen(h:Ga M o G H n):E1 H M.b:=h.tab.seen
abbrev Ga.mono(h:Ga M o G H n)(k:n<=n')(g:∀id,id<n->o' id=o id)(i:∀id,n'<=id->o' id=0)(f:Kb M.b H M.kb H' M.kb):Ga M o' G H' n':=
 ⟨hN h.kn,λid d=>(g id (hN h.kn)).trans (h.lo id d),i,h.tab.kb f,h.fl⟩
abbrev Gk.mono(h:Gk M o P G H n p)(q:n<=n')(g:∀id,id<n->o' id=o id)(ke:Ke G H M.kb H' M.kb)(e:∀id,id<n->1<=o id->o id<=7->o id≠2->T.get H' id=T.get H id):Gk M o' P G H' n' p:=by
 have d:∀j,∀id,id<n/\o id=j->id<n'/\o' id=j:=λj id f=>⟨a6,(g id f.1).trans f.2⟩;have⟨k,u⟩:=h.mb;exact⟨d 1 _ h.mb,(e _ k a6 a6 a6).trans h.box,h.s0.mono (d 3) λid i=>e id i.1 a6 a6 a6,h.s1.mono (d 4) λid i=>e id i.1 a6 a6 a6,
  h.s2.mono (d 5) λid i=>e id i.1 a6 a6 a6,h.s3.mono (d 6) λid i=>e id i.1 a6 a6 a6,h.s4.mono (d 7) λid i=>e id i.1 a6 a6 a6,h.wl,λi m w a b=>(h.wt i m w a b).ke ke,h.sz⟩
abbrev Gy.mono(h:Gy M o B H n g)(q:n<=n')(k:∀id,id<n->o' id=o id)(e:∀id,id<n->(o id=2∨9<=o id)->T.get H' id=T.get H id):Gy M o' B H' n' g:=by have f:∀j,∀id,id<n/\o id=j->id<n'/\o' id=j:=λj id d=>⟨a6,(k id d.1).trans d.2⟩;have⟨m,p⟩:=h.bb;exact⟨f 2 _ h.bb,(e _ m (.inl p)).trans h.box,h.cd.mono (f 9) λid i=>e id i.1 a6,h.vr.mono (f 10) λid i=>e id i.1 a6,h.sl.mono (f 11) λid i=>e id i.1 a6,h.ln,h.sz⟩
abbrev Gm.bk(h:Gm M W G H n g):M.b<M.kb:=h.a.tab.bn
abbrev Gm.seen(h:Gm M W G H n g):E1 H M.b:=h.a.seen
abbrev Gm.kb(h:Gm M W G H n g)(f:Kb M.b H n H' n'):Gm M W G H' n' g/\Kg M W H n W H' n':=by
 have u:=h.bk;have kn:=h.a.kn;have e:∀d,d<n->W.o d≠0->T.get H' d=T.get H d:=λd i m=>f.same d i λq=>m (by rw[q];exact h.a.lo _ u);exact⟨⟨h.a.mono f.le (λ_ _=>rfl) (λd p=>h.a.hi d (w_ f.le p)) (f.low kn),h.k.mono f.le (λ_ _=>rfl) ((f.low kn).ke h.seen) λd i m _ _=>e d i a6,h.y.mono f.le (λ_ _=>rfl) λd i m=>e d i a6⟩,
  f.le,λ_ _=>rfl,λd i _ v=>f.same d i v,f.seen⟩
abbrev Gm.kp(h:Gm M W G H n g)(f:Kp H n H' n'):Gm M W G H' n' g/\Kg M W H n W H' n':=h.kb (f.kb (b:=M.b) (tw h.bk h.a.kn))
abbrev Gm.AH3(h:Gm M W G H n g)(hi:W.o i=0)(p:M.kb<=i)(e:∀id,id≠i->T.get H' id=T.get H id):Gm M W G H' n g:=by have u:=h.bk;have kb:Kb M.b H M.kb H' M.kb:=⟨ea _,λid f _=>e id a6,λq=>q.same (e _ a6)⟩;have m:∀id,W.o id≠0->T.get H' id=T.get H id:=λid d=>e id λq=>d (by rw[q];exact hi);exact⟨h.a.mono o_ (λ_ _=>rfl) h.a.hi kb,h.k.mono o_ (λ_ _=>rfl) (kb.ke h.seen) λid f d _ _=>m id a6,h.y.mono o_ (λ_ _=>rfl) λid f d=>m id a6⟩
abbrev Kg.AH3(x:Kg M W H n W' H' n')(hi:n<=i)(d:i≠M.b)(e:∀id,id≠i->T.get H'' id=T.get H' id):Kg M W H n W' H'' n':=
 ⟨x.le,x.own,λid f g k=>(e id a6).trans (x.zero id f g k),λq=>(x.seen q).same (e _ (C_ d))⟩
abbrev Kg.get{b:LF}(x:Kg M W H n W' H' n')(h:T.get H id=some b)(hi:id<n)(d:W.o id=0)(f:id≠M.b):T.get H' id=some b:=(x.zero id hi d f).trans h
abbrev Kg.ke(x:Kg M W H n W' H' n')(h:Gm M W G H n g):Ke G H M.kb H' M.kb:=by have:=h.a.kn;exact(show Kb M.b H M.kb H' M.kb from⟨ea _,λd f i=>x.zero d a6 (h.a.lo d f) i,x.seen⟩).ke h.seen
abbrev Gm.kbx(h:Gm M W G H n g)(e:∀id,id<n->W.o id=0->T.get H' id=T.get H id):Kb M.b H M.kb H' M.kb:=
 ⟨ea _,λid d _=>e id (hN h.a.kn) (h.a.lo id d),λq=>q.same (e _ (tw h.bk h.a.kn) (h.a.lo _ h.bk))⟩
abbrev Gm.body(h:Gm M W G H n g)(f:n<=n')(q:W'.P=W.P)(i:∀id,id<n->W'.o id=W.o id)(u:∀id,n'<=id->W'.o id=0)(v:g'.p=g.p)(e:∀id,id<n->W.o id≠2->W.o id<9->T.get H' id=T.get H id)(w:Gy M W'.o W'.B H' n' g'):
 Gm M W' G H' n' g'/\Kg M W H n W' H' n':=by have kb:=h.kbx λid d m=>e id d a6 a6;refine⟨⟨h.a.mono f i u kb,?_,w⟩,f,i,λid d m _=>e id d a6 a6,kb.seen⟩;rw[q,v];exact h.k.mono f i (kb.ke h.seen) λid d m y x=>e id d x a6
abbrev Gm.pool(h:Gm M W G H n g)(i:n<=n')(m:W'.B=W.B)(k:∀id,id<n->W'.o id=W.o id)(u:∀id,n'<=id->W'.o id=0)(e:∀id,id<n->(W.o id=0∨W.o id=2∨9<=W.o id)->T.get H' id=T.get H id)(v:Ke G H M.kb H' M.kb->Gk M W'.o W'.P G H' n' p):
 Gm M W' G H' n' {g with p:=p}/\Kg M W H n W' H' n':=by have kb:=h.kbx λid d f=>e id d (.inl f);refine⟨⟨h.a.mono i k u kb,v (kb.ke h.seen),?_⟩,i,k,λid d f _=>e id d (.inl f),kb.seen⟩;rw[m];have q:=h.y.mono (H':=H') i k λid d f=>e id d (.inr f);exact⟨q.bb,q.box,q.cd,q.vr,q.sl,q.ln,q.sz⟩
abbrev Gm.zb(h:Gm M W G H n g)(C:g'.p=g.p/\g'.code=g.code/\g'.vars=g.vars/\g'.slots=g.slots)(D:Rb v=true)(f:At v=[v])(hi:i<9)(E:(M.bc W.B g).take i++([v]++(M.bc W.B g).drop (i+1))=M.bc W.B g')
 (O:g'.loc<=20000/\g'.hi<=g.code.length/\g'.stk<=g.code.length)
 (F:∀H',Gm M W G H' n g'->Kg M W H n W H' n->Q .undef H' n):A1 1 (.ptr M.bb i) v H n Q:=by
 have⟨I,w,k,x⟩:=C;have⟨P,J⟩:=h.y.bb;refine uu h.y.box D (by rw[f];rfl) a6 (by show i+1<=9;omega) λm A K=>?_;rw[f,E]at A;have e:∀d,d<n->W.o d≠2->T.get m d=T.get H d:=λd _ u=>K d λq=>u (by rw[q];exact J);have L:=h.y.sz;have⟨q1,q2⟩:=h.body (W':=W) (H':=m) (g':=g') o_ rfl (λ_ _=>rfl) h.a.hi I (λd N u _=>e d N u)
  ⟨h.y.bb,A,by rw[w];exact h.y.cd.mono (λ_ h=>h) (λd i=>e d i.1 a6),by rw[k];exact h.y.vr.mono (λ_ h=>h) (λd i=>e d i.1 a6),by rw[x];exact h.y.sl.mono (λ_ h=>h) (λd i=>e d i.1 a6),by rw[k,x];exact h.y.ln,by rw[w,k];omega⟩
 exact F m q1 q2
abbrev Gm.uO(h:Gm M W G H n g)(d:(M.bc W.B g)[i]? =some v):AM (.ptr M.bb i) G H=some v:=AK h.y.box d
abbrev Gm.WD(h:Gm M W G H n g)(d:(M.mc W.P)[i]? =some v):AM (.ptr M.mb i) G H=some v:=AK h.k.box d
end
variable{c:Nat}{a:Nat}{up:Nat}{dn:Nat}
abbrev jd{g g':Gn}(h:BA c a up dn g=some g'):dn<=g.hi+up/\g.code.length<20000/\g'={g with code:=g.code++[⟨c,a⟩],hi:=g.hi+up-dn,stk:=max g.stk (g.hi+up-dn)}:=by
 unfold BA at h;cases d:decide (dn<=g.hi+up/\g.code.length<20000)with
 |false=>rw[d]at h;cases h
 |true=>rw[d]at h;cases h;exact⟨(kh d).1,(kh d).2,rfl⟩
abbrev AIa{a b c:Int}(h:a+b=c)(d: -9223372036854775808<=c)(f:c<9223372036854775808):B2.ev .add (.int .i64 a 0) (.int .i64 b 0)=some (.int .i64 c 0):=by show some (V.int .i64 (V9 .i64 (wh a b)) 0)=_;rw[NB,cr,h,NX d f]
abbrev ARR{a b c:Int}(h:a-b=c)(d: -9223372036854775808<=c)(f:c<9223372036854775808):B2.ev .sub (.int .i64 a 0) (.int .i64 b 0)=some (.int .i64 c 0):=by show some (V.int .i64 (V9 .i64 (wh a (Int.neg b))) 0)=_;rw[NB,cr,show a+Int.neg b=c by show a+ -b=c;omega,NX d f]
abbrev ARk{a c:Int}(h: -a=c)(d: -9223372036854775808<=c)(f:c<9223372036854775808):AUS (.int .i64 a 0)=some (.int .i64 c 0):=by show some (V.int .i64 (V9 .i64 (Int.neg a)) 0)=_;rw[NB,show Int.neg a=c from h,NX d f]
abbrev ARf{a b:Int}:AHF (.int .i64 a 0) (.int .i64 b 0)=some (.int .i64 (max a b) 0):=by
 show Az (band (keq .i64 .i64) true) (some (V.int .i64 (Bool.rec a b (UG a b)) 0))=_;rw[Sm,show band (keq .i64 .i64) true=true by simp[Hm]];by_cases h:a<b
 .rw[ui h,show max a b=b by omega];rfl
 .rw[eg h,show max a b=a by omega];rfl
variable{b:Nat}
abbrev AHe:AHF (nI a) (nI b)=some (nI (max a b)):=by
 rw[ARf];have:max (Int.ofNat a) (Int.ofNat b)=Int.ofNat (max a b):=by show max (a:Int) (b:Int)=((max a b:Nat):Int);omega
 rw[this]
variable{G:AQ}{H:Heap}{n:Nat}{z:Nat}{bs:Nat}{A:Nat->Prop}{w:V}{LS:Bh}{L:LV}{P:KV}
abbrev Sk.app1(h:Sk H z A v LS)(J:∀id,v.CD=some id->id<n)(y:elems w G H z=some [L])(C:(LS.length+1)*bs<=140737488355328)
 (D:∀i H',(∀B:Nat->Prop,B n->Sk H' z B i (LS++[L]))->(∀id,id<n->v.CD≠some id->T.get H' id=T.get H id)->P i H' (n+1)) (K:0<z):Ey z bs v w G H n P:=by
 have p:∀{i:V} {k:Heap},Gr G k 0 z i (LS++[L])->(∀id,i.CD=some id->id=n)->∀B:Nat->Prop,B n->Sk k z B i (LS++[L]):=by
  intro i k f g;generalize hX:LS++[L]=X at f;cases f with
  |nil=>simp at hX
  |Hf u M E F=>
   have e:=g _ rfl;subst e;exact λB N=>.Hf u M E N
 cases h with
 |nil=>exact jc (m:=0) .nil a6 (λ_ h=>by cases h) y C (λi k f d g=>D i k (p f g) λid q x=>d id q x) (λh=>by cases h)
 |emp u O=>
  rename_i id t;exact ww (t:=t) K y (by simpa using C) λi k f d g=>D i k (p f g) λid q x=>d id q
 |Hf u I E O=>
  rename_i id Q t;have F:=J id rfl;exact jc (m:=0) (.Hf u I E (j_ _)) a6 (λj h=>by cases h;omega) y C (λi k f d g=>D i k (p f g) λid q x=>d id q x) (λh=>by cases h)
variable{o:Nat}
abbrev ASm{e:Nat}{t:T LV}(g:T.get H id=some (.arr e c t))(y:1<e)(d:o<e)(hi:i<c)(k:T.get t i=some L)(A:L.length=e)(m:Rb v=true)(p:At v=[v])
 (h:∀H',T.get H' id=some (.arr e c (T.set t i (L.set o v)))->(∀j,j≠id->T.get H' j=T.get H j)->P .undef H' n):A1 1 (.ptr id (i*e+o)) v H n P:=by
 have f:(i*e+o)/e=i:=by rw[F_,Nat.mul_add_div a6,N_ d,_Y]
 have u:(i*e+o)%e=o:=by rw[F_,Nat.mul_add_mod,_I d]
 have w:cJ H id (i*e+o) 1 [v]=some (T.set H id (.arr e c (T.set t i (L.set o v)))):=by unfold cJ;rw[g];show BB (stB e c t (i*e+o) 1 [v]) _=_;unfold stB;rw[show Nat.div (i*e+o) e=i from f,show Nat.blt i c=true by rw[xi];exact hi];show BB (BB (T.get t i) (gE [v] e c t (i*e+o) 1)) _=_;rw[k,Kl];unfold gE;rw[show Nat.div (i*e+o) e=i from f,show Nat.mod (i*e+o) e=o from u,show Nat.beq 1 e=false by rw[_q];intro q;rw[beq_iff]at q;omega];show BB (Bool.rec none (some (LF.arr e c (T.set t i (AEW [v] o L)))) (Nat.ble (o+1) e):aAC) _=_;rw[show Nat.ble (o+1) e=true by rw[_e];omega,wv];show some _=some _;rw[List.set_eq_take_append_cons_drop,hD a6];rfl
 unfold A1;rw[m,p,len_eq];show B7 (band true (Nat.beq 1 1)) (CR (cJ H id (i*e+o) 1 [v]) λH=>P .undef H n);rw[w];exact h _ (T.B4 ..) λj x=>T.Ac _ _ (C_ x)
abbrev Sk.AYg{q:IntKind}(h:Sk H z A v LS)(x:1<z)(y:o<z)(hi:LS[i]? =some L)(B:L.length=z)(C:Rb w=true)(D:At w=[w])
 (E:∀H',Sk H' z A v (LS.set i (L.set o w))->(∀j,v.CD≠some j->T.get H' j=T.get H j)->P .undef H' n):AD (Ai z v (.int q (.ofNat i) 0)) λp=>AD (AG o p) λp=>A1 1 p w H n P:=by
 have d:=(us.1 hi).1;cases h with
 |nil=>simp at d
 |emp=>simp at d
 |Hf F k m G=>
  rename_i J c t;refine AB (AMU d) ?_;rw[AP,AJ,t_];refine ASm F x y a6 (m i _ hi) B C D λH' g s=>?_;refine E H' ?_ λj f=>s j λe=>f (by rw[e];rfl);have u:(LS.set i (L.set o w)).length=LS.length:=o6;rw[<-u];refine .Hf g (by rw[u];exact k) (λj I f=>?_) G;by_cases e:i=j
  .subst e;rw[e9 d]at f;rw[T.B4];exact f
  .rw[D_ e]at f;rw[T.Ac _ _ e];exact m j I f
variable{Z:LV}{d:Int}
section
variable{M:Gc}{W W' W'':Gw}{G:AQ}{H H' H'':Heap}{n n' n'':Nat}{p:Pool}{g g':Gn}{k:KV}
abbrev Gm.AYC{x:Ins}(h:Gm M W G H n g)(hl:g.code.length<20000)(hi:i=3)
 (S:∀W' H' n',Gm M W' G H' n' {g with code:=g.code++[x]}->Kg M W H n W' H' n'->Q .undef H' n'):
 Au (AY 2 1 Z [(0,.c (.agg x.cells))] E0) H n λw H n=>Ey 2 16 W.B.vc w G H n λv H n=>AD (AV (.ptr M.bb 0)) λU=>AD (AG 1 U) λV=>AD (AG 2 V) λF=>A1 1 F v H n Q:=by
 subst hi;refine h.y.cd.app (G:=G) (m:=0) (λd f=>(h.y.cd.own f).1) a6 rfl rfl (by rw[uc];omega) λI X A Y C=>?_;have⟨b1,b2⟩:=h.y.bb;have kn:=h.a.kn;have N:∀d,d<n->W.o d≠9->T.get X d=T.get H d:=λd q1 q2=>Y d q1 λe=>q2 (h.y.cd.own e).2;have u:=(A (λ_=>True) trivial).ok;rw[A0,AJ,AP,AJ,AP,AJ];refine uu ((N _ b1 a6).trans h.y.box) u.1 (by rw[u.2.1];rfl) a6 (by show 0+1+2+1<=9;omega) λE O R=>?_;rw[u.2.1]at O;obtain⟨k,p⟩:∃k:Gw,k=⟨λd=>if d=n+1 then 9 else W.o d,W.P,{W.B with vc:=I}⟩:=⟨_,rfl⟩;have o1:k.o (n+1)=9:=by rw[p];exact hD rfl
 have J:∀d,d≠n+1->k.o d=W.o d:=λd q=>by rw[p];exact g_ q
 have ob:k.B={W.B with vc:=I}:=by rw[p]
 have op:k.P=W.P:=by rw[p]
 have K:∀d,d<n->W.o d≠2->W.o d≠9->T.get E d=T.get H d:=λd q1 q2 q3=>(R d λe=>q2 (by rw[e];exact b2)).trans (N d q1 q3);have L:∀j,∀d,d<n/\W.o d=j->d<n+2/\k.o d=j:=λj d f=>⟨a6,(J d a6).trans f.2⟩;have d0:=h.y.sz;have D:(g.code++[x]).length=g.code.length+1:=by rw[uk];rfl
 have⟨q1,q2⟩:=h.body (W':=k) (H':=E) (n':=n+2) (g':={g with code:=g.code++[x]}) a6 op (λd q=>J d a6) (λd q=>(J d a6).trans (h.a.hi d a6)) rfl (λd q1 q2 q3=>K d q1 q2 a6) (by
  rw[ob];refine⟨L 2 _ h.y.bb,O,?_,h.y.vr.mono (L 10) λd i=>K d i.1 a6 a6,h.y.sl.mono (L 11) λd i=>K d i.1 a6 a6,h.y.ln,?_⟩
  .show Sk E 2 _ I ((g.code++[x]).map Ins.cells);rw[wm];have:=A (λd=>d<n+2/\k.o d=9) ⟨a6,o1⟩;exact this.JO (λd f=>this.own f) λd f=>R d λe=>by rw[C]at f;cases f;omega
  .show(g.code++[x]).length<=20000/\g.vars.length<=1000/\g.loc<=20000/\g.hi<=(g.code++[x]).length/\g.stk<=(g.code++[x]).length;rw[D];omega)
 exact S k E _ q1 q2
abbrev nS(h:Gm M W G H n g)(x:BA c a up dn g=some g')(A:up<=1)(N:d=(up:Int)-dn)
 (B:∀W' H' n',Gm M W' G H' n' g'->Kg M W H n W' H' n'->k (nI g.code.length) H' n'):Runs F G Aj [.ptr M.bb 0,nI c,nI a,.int .i64 d 0] H n k:=by
 refine tS (wJ Ae G) ?_;delta iS;obtain⟨O,C,rfl⟩:=jd x;have D:=h.y.sz;rw[A0,AJ,AP,AJ,AP,AJ];refine AB (h.uO (i:=3) rfl) ?_;refine AB (v:=.agg (Ins.cells ⟨c,a⟩)) rfl ?_;refine h.AYC C rfl λW1 P Q m E=>?_;generalize hg1:({g with code:=g.code++[⟨c,a⟩]}:Gn)=g1 at m;have p:g1.hi=g.hi/\g1.code=g.code++[⟨c,a⟩]/\g1.stk=g.stk/\g1.loc=g.loc:=by subst hg1;exact⟨rfl,rfl,rfl,rfl⟩
 have⟨p,I,R,S⟩:=p;have w:g1.code.length=g.code.length+1:=by rw[I,uk];rfl
 have f:=m.y.sz;refine AB (A0 ..) (AB (AP ..) (AB (m.uO (i:=6) rfl) ?_));refine AB (AIa (c:=((g.hi+up-dn:Nat):Int)) (by show((g1.hi:Nat):Int)+d=_;rw[p];omega) a6 a6) ?_;refine AB (A0 ..) (AB (AP ..) ?_);refine m.zb (g':={g1 with hi:=g.hi+up-dn}) ⟨rfl,rfl,rfl,rfl⟩ rfl rfl a_ rfl ⟨f.2.2.1,by show g.hi+up-dn<=_;omega,f.2.2.2.2⟩ λT q J=>?_;refine AB (A0 ..) (AB (AP ..) (AB (AP ..) (AB (q.uO (i:=2) rfl) ?_)));refine AB (A0 ..) (AB (AP ..) (AB (q.uO (i:=6) rfl) ?_));refine AB (AHe (a:=g1.stk) (b:=g.hi+up-dn)) ?_;refine AB (A0 ..) (AB (AP ..) (AB (AP ..) ?_));refine q.zb (g':={g1 with hi:=g.hi+up-dn,stk:=max g1.stk (g.hi+up-dn)}) ⟨rfl,rfl,rfl,rfl⟩ rfl rfl a_ rfl ⟨f.2.2.1,by show g.hi+up-dn<=g1.code.length;omega,by show max g1.stk _<=g1.code.length;omega⟩ λK u L=>?_;refine AB (A0 ..) (AB (AP ..) (AB (AP ..) (AB (u.uO (i:=3) rfl) ?_)));refine AB (v:=nI g1.code.length) (by rw[(u.y.cd.el (G:=G) a6).len,uc]) ?_;refine AB (zF a6 a6) ?_;rw[show g1.code.length-1=g.code.length by omega];refine B W1 K _ ?_ ((E.trans J).trans L);subst hg1;exact u
abbrev px(h:Gm M W G H n g)(hi:i<g.code.length)
 (w:∀H',Gm M W G H' n (DP i g)->Kg M W H n W H' n->k (.CV []) H' n):Runs F G Hq [.ptr M.bb 0,nI i] H n k:=by
 refine go2 (sM Ae G) ?_;delta dV;have m:=h.y.sz;refine AB (A0 ..) (AB (AP ..) (AB (AP ..) (AB (h.uO (i:=3) rfl) ?_)));refine AB (A0 ..) (AB (AP ..) (AB (AP ..) (AB (h.uO (i:=3) rfl) ?_)));refine AB (v:=nI g.code.length) (by rw[(h.y.cd.el (G:=G) a6).len,uc]) ?_;have p:=eb hi;generalize g.code[i]=x at p;refine h.y.cd.AYg (i:=i) (o:=1) (L:=x.cells) a6 a6 (by rw[pe,p];rfl) rfl rfl rfl λq u A=>?_;have B:(g.code.map Ins.cells).set i (x.cells.set 1 (nI g.code.length))=(DP i g).code.map Ins.cells:=by show _=(TJ g.code i g.code.length).map Ins.cells;unfold TJ;rw[U_,W2,p];rfl
 rw[B]at u;have f:∀d,d<n->W.o d≠9->T.get q d=T.get H d:=λd q1 q2=>A d λe=>q2 (h.y.cd.own e).2;have C:(DP i g).code.length=g.code.length:=H_;have b:=h.y.bb;have⟨q1,q2⟩:=h.body (W':=W) (H':=q) (g':=DP i g) o_ rfl (λ_ _=>rfl) h.a.hi rfl (λd q1 _ q3=>f d q1 a6)
  ⟨h.y.bb,(f _ b.1 a6).trans h.y.box,u,h.y.vr.mono (λ_ h=>h) (λd i=>f d i.1 a6),h.y.sl.mono (λ_ h=>h) (λd i=>f d i.1 a6),h.y.ln,by rw[C];exact m⟩
 exact w q q1 q2
end
section
variable{M:Gc}{W W' W'':Gw}{G:AQ}{H H' H'':Heap}{n n' n'':Nat}{p:Pool}{g g':Gn}{k:KV}
abbrev AIp{s:St}(h:Gm M W G H n g)(d:∀H' n',Kp H n H' n'->k (nI (Uz s g.vars g.slots)) H' n'):Runs F G UK [.ptr M.bb 0,s.v] H n k:=by
 refine go2 (uQ Ae G) ?_;delta dL;have U:=h.y.sz;have V:=h.y.ln;refine AB (A0 ..) (AB (AP ..) (AB (h.uO (i:=4) rfl) ?_));refine AB (v:=nI g.vars.length) (by rw[(h.y.vr.el (G:=G) a6).len,uc]) ?_;refine BL (N:=g.vars.length) (J:=λi q=>∃H' n',q=(.ptr M.bb 0,s.v,W.B.vv,nI g.vars.length,nI i,H',n')/\Kp H n H' n'/\(∀H' n',Kp H n H' n'->k (nI (Uz s (g.vars.drop i) (g.slots.drop i))) H' n')) ?_ ?_ ⟨H,n,rfl,Kp.refl _ _,d⟩
 .rintro I i q m ⟨x,u,rfl,f3,d⟩ X;show HI lfp G (Runs F G) k I (.ptr M.bb 0) s.v W.B.vv (nI g.vars.length) (nI i) x u;delta HI;have⟨A,_⟩:=h.kp f3;have f:i<g.slots.length:=a6;have L:=eb m;have C:=eb f;rw[uv m,uv f]at d;generalize g.vars[i]=v at L d;generalize g.slots[i]=r at C d;have⟨q,Y,D⟩:=(A.y.vr.el (G:=G) a6).at (i:=i) (c:=RR v) (by rw[pe,L];rfl);have⟨q2,Z,O⟩:=(A.y.sl.el (G:=G) a6).at (i:=i) (c:=[nI r]) (by rw[pe,C];rfl);rw[Bf,AJ,ui m,Ah];refine AB Y (AB (BZ D) ?_);refine Ao rfl λH4 P g4=>?_;refine BX g4 rfl rfl a6 λQ g5 s5=>?_;have p:Kp x u Q (u+1):=⟨P.le,λR E=>(s5 R a6).trans (P.same R E)⟩;have⟨S,_⟩:=A.kp p;rw[AP,AJ];refine AB (AK (off:=0+0) g5 (v:=v.nm.v) rfl) ?_;rw[show v.nm.v=.str v.nm.1 v.nm.2 from rfl,show s.v=.str s.1 s.2 from rfl,cK,AJ];have d:∀H' n',Kp H n H' n'->k (nI (bif stA v.nm s then r else Uz s (g.vars.drop (i+1)) (g.slots.drop (i+1)))) H' n':=d;unfold stA at d;cases T:decide (v.nm.1=s.1/\v.nm.2=s.2)with
  |true=>
   rw[T]at d;rw[Ah];refine AB (A0 ..) (AB (AP ..) (AB (S.uO (i:=5) rfl) ?_));have⟨q3,K,w⟩:=(S.y.sl.el (G:=G) a6).at (i:=i) (c:=[nI r]) (by rw[pe,C];rfl);exact AB K (AB (OE w) (d _ _ (f3.trans p)))
  |false=>
   rw[T]at d;rw[AZ,CA a6,AJ];exact X _ ⟨Q,u+1,rfl,f3.trans p,d⟩
 .rintro I q ⟨x,u,rfl,f3,d⟩;show HI lfp G (Runs F G) k I (.ptr M.bb 0) s.v W.B.vv (nI g.vars.length) (nI g.vars.length) x u;delta HI;rw[Bf,AJ,eg (m_ _),AZ];delta PP;rw[sw o_]at d;exact d _ _ f3
abbrev AKy{v:BU}(h:bE v g=some g'):(g.vars.length<1000/\g.loc<20000)/\g'={g with vars:=g.vars++[v],slots:=g.slots++[g.loc],loc:=g.loc+1}:=by
 unfold bE at h;cases d:decide (g.vars.length<1000/\g.loc<20000)with
 |false=>rw[d]at h;cases h
 |true=>rw[d]at h;cases h;exact⟨kh d,rfl⟩
abbrev AMX{v:BU}(h:Gm M W G H n g)(ha:bE v g=some g')
 (hk:∀W' H' n',Gm M W' G H' n' g'->Kg M W H n W' H' n'->k (nI g.loc) H' n'):Runs F G WR [.ptr M.bb 0,.agg (RR v)] H n k:=by
 refine go2 (vx Ae G) ?_;delta iq;obtain⟨⟨a1,a2⟩,rfl⟩:=AKy ha;have I:=h.y.sz;have d0:=h.y.ln;refine BE λH1 f1 g1=>?_;have⟨h1,k1⟩:=h.kp f1;refine AB (A0 ..) (AB (AP ..) (AB (h1.uO (i:=4) rfl) ?_));refine AB (As (m:=3) (L:=RR v) g1 a6 rfl) ?_;refine M1 (G:=G) (vs:=[.agg (RR v)]) rfl a6 (λx J=>by simp at J;subst J;exact⟨rfl,rfl⟩) λH2 f2 _ D=>?_;have⟨U,k2⟩:=h1.kp f2;refine AB (A0 ..) (AB (AP ..) (AB (U.uO (i:=5) rfl) ?_));refine AB (A0 ..) (AB (AP ..) (AB (AP ..) (AB (U.uO (i:=1) rfl) ?_)));refine M1 (G:=G) (vs:=[nI g.loc]) rfl a6 (λx J=>by simp at J;subst J;exact⟨rfl,rfl⟩) λR f3 _ E=>?_;have⟨u,k3⟩:=U.kp f3;have D:=D.same (H':=R) λd f=>f3.same d (by cases f;omega);have kn:=h.a.kn;have⟨b1,b2⟩:=u.y.bb;refine u.y.vr.app1 (G:=G) (λd f=>(u.y.vr.own f).1) D.2 (by rw[uc];omega) (λV X Un s4=>?_) a6;have S:∀d,d<n+1+1+1->W.o d≠10->T.get X d=T.get R d:=λd q1 q2=>s4 d q1 λe=>q2 (u.y.vr.own e).2;have C:=(S _ b1 a6).trans u.y.box;refine AB (AK (off:=0+5) C (v:=W.B.vs) rfl) (Ba u.y.sl.ok.2.2 ?_);refine AB (AK (off:=0+1+0) C (v:=nI g.loc) rfl) (Ba (sr ..) ?_);have E:=E.same (H':=X) λd f=>S d (by cases f;omega) (by cases f;rw[h.a.hi _ a6];omega);have A:=u.y.sl.mono (H':=X) (B:=λd=>d<n+1+1+1/\W.o d=11) (λ_ q=>q) λd i=>S d i.1 a6;refine A.app1 (G:=G) (λd f=>hN ((A.own f).1)) E.2 (by rw[uc];omega) (λY H5 ZV s5=>?_) a6;have e5:∀d,d<n+1+1+1->W.o d≠10->W.o d≠11->T.get H5 d=T.get R d:=λd q1 q2 q3=>(s5 d a6 λe=>q3 (A.own e).2).trans (S d q1 q2);have K:=Un (λd=>d=n+1+1+1) rfl;have N:=ZV (λd=>d=n+1+1+1+1) rfl;have O:=(e5 _ b1 a6 a6).trans u.y.box;refine AB (A0 ..) (AB (AP ..) ?_);refine uu O K.ok.1 (by rw[K.ok.2.1];rfl) a6 (by show 0+4+1<=9;omega) λH6 g6 s6=>?_;rw[K.ok.2.1]at g6;refine AB (A0 ..) (AB (AP ..) ?_);refine uu g6 N.ok.1 (by rw[N.ok.2.1];rfl) a6 (by show 0+5+1<=9;omega) λQ g7 s7=>?_;rw[N.ok.2.1]at g7;obtain⟨p,w⟩:∃p:Gw,p=⟨λd=>if d=n+1+1+1 then 10 else if d=n+1+1+1+1 then 11 else W.o d,W.P,{W.B with vv:=V,vs:=Y}⟩:=⟨_,rfl⟩;have p1:p.o (n+1+1+1)=10:=by rw[w];exact hD rfl
 have p2:p.o (n+1+1+1+1)=11:=by rw[w];show(if _ then _ else _)=_;rw[g_ a6,hD rfl]
 have Z:∀d,d≠n+1+1+1->d≠n+1+1+1+1->p.o d=W.o d:=λd q1 q2=>by rw[w];show(if _ then _ else _)=_;rw[g_ q1,g_ q2]
 have ob:p.B={W.B with vv:=V,vs:=Y}:=by rw[w]
 have op:p.P=W.P:=by rw[w]
 have e7:∀d,d≠M.bb->T.get Q d=T.get H5 d:=λd q=>(s7 d q).trans (s6 d q);have e8:∀d,d<n+1+1+1->W.o d≠2->W.o d≠10->W.o d≠11->T.get Q d=T.get R d:=λd q1 q2 q3 q4=>(e7 d λe=>q2 (by rw[e];exact b2)).trans (e5 d q1 q3 q4);have hA:∀j,∀d,d<n+1+1+1/\W.o d=j->d<n+1+1+1+1+1/\p.o d=j:=λj d f=>⟨a6,(Z d a6 a6).trans f.2⟩;have d1:(g.vars++[v]).length=g.vars.length+1:=by rw[uk];rfl
 have d2:(g.slots++[g.loc]).length=g.slots.length+1:=by rw[uk];rfl
 have⟨h7,k7⟩:=u.body (W':=p) (H':=Q) (n':=n+1+1+1+1+1) (g':={g with vars:=g.vars++[v],slots:=g.slots++[g.loc]}) a6 op (λd q=>Z d a6 a6) (λd q=>(Z d a6 a6).trans (h.a.hi d a6)) rfl (λd q1 q2 q3=>e8 d q1 q2 a6 a6) (by
  rw[ob];refine⟨hA 2 _ u.y.bb,g7,u.y.cd.mono (hA 9) λd i=>e8 d i.1 a6 a6 a6,?_,?_,by show(g.slots++[g.loc]).length=(g.vars++[v]).length;omega,?_⟩
  .show Sk Q 3 _ V ((g.vars++[v]).map RR);rw[wm];refine(Un (λd=>d<n+1+1+1+1+1/\p.o d=10) ⟨a6,p1⟩).JO (λd f=>by have:=K.own f;subst this;exact⟨a6,p1⟩) λd f=>?_;have:=K.own f;subst this;exact(e7 _ a6).trans (s5 _ a6 λe=>hN ((A.own e).1))
  .show Sk Q 1 _ Y ((g.slots++[g.loc]).map λi=>[nI i]);rw[wm];refine(ZV (λd=>d<n+1+1+1+1+1/\p.o d=11) ⟨a6,p2⟩).JO (λd f=>by have:=N.own f;subst this;exact⟨a6,p2⟩) λd f=>?_;have:=N.own f;subst this;exact e7 _ a6
  .show g.code.length<=20000/\(g.vars++[v]).length<=1000/\g.loc<=20000/\g.hi<=g.code.length/\g.stk<=g.code.length;omega)
 refine AB (A0 ..) (AB (AP ..) (AB (AP ..) (AB (h7.uO (i:=1) rfl) ?_)));refine AB (CA (i:=g.loc) a6) (AB (A0 ..) (AB (AP ..) (AB (AP ..) ?_)));refine h7.zb (g':={g with vars:=g.vars++[v],slots:=g.slots++[g.loc],loc:=g.loc+1}) ⟨rfl,rfl,rfl,rfl⟩ rfl rfl a_ rfl ⟨by show g.loc+1<=20000;omega,I.2.2.2.1,I.2.2.2.2⟩ λH8 h8 k8=>?_;refine AB (A0 ..) (AB (AP ..) (AB (AP ..) (AB (h8.uO (i:=1) rfl) ?_)));refine AB (zF (a:=g.loc+1) a6 a6) ?_;rw[show g.loc+1-1=g.loc by omega];exact hk p H8 _ h8 ((((k1.trans k2).trans k3).trans k7).trans k8)
end
def nO:aAG->V
 |some i=>nI i
 |none=>.int .i64 (.negSucc 0) 0
abbrev AT9(a b:PF):(EK.agg [.str,.str,.bool,.str]).eq (.agg a.cells) (.agg b.cells)=some (cR a b):=
 show kQ CK.eq [.str,.str,.bool,.str] a.cells b.cells=_ from HA.2 ⟨_,_,ADv _ _,HA.2 ⟨_,_,ADv _ _,HA.2 ⟨_,_,AMZ _ _,HA.2 ⟨_,true,ADv _ _,rfl,rfl⟩,rfl⟩,rfl⟩,by simp[cR,stA,Ty.is,Bool.and_assoc]⟩
abbrev AW7(a b:PF):BM (.agg [.str,.str,.bool,.str]) false (.agg a.cells) (.agg b.cells)=some (.bool (cR a b)):=by show Ux (K8 ((EK.agg [.str,.str,.bool,.str]).eq (.agg a.cells) (.agg b.cells)) λb=>some b)=_;rw[AT9];cases cR a b<;>rfl
abbrev AJa{d f:Type}{q:d->Bool}:∀{l:List d} {w:List f} {i:Nat},w.length=l.length->xe (λp:d×f=>q p.1) (l.zip w) i=xe q l i
 |[],_,_,_=>rfl
 |_::_,[],_,h=>by cases h
 |a::l,b::w,i,h=>by show(bif q a then some i else xe (λp:d×f=>q p.1) (l.zip w) (i+1))=_;rw[AJa (by simpa using h)];rfl
abbrev AJ2(l:List PM)(w:aAo):(l.zip w).map (λp=>p.1.cells p.2)=List.zipWith PM.cells l w:=by rw[List.zip,List.map_zipWith]
variable{x:PM}{u:V}
section
variable{M:Gc}{W W' W'':Gw}{G:AQ}{H H' H'':Heap}{n n' n'':Nat}{p:Pool}{g g':Gn}{k:KV}
abbrev Gm.AK4{j:Nat}{c:V}{p':Pool}{mkP:V->Gp}(h:Gm M W G H n g)(S:j<5)(C:Sk H z (λd=>d<n/\W.o d=j+3) v LS)(U:0<z)(u:Rb c=true)(X:(At c).length=z)(Y:(LS.length+1)*bs<=140737488355328)
 (hm:∀x,(M.mc W.P).take (j+4)++([x]++(M.mc W.P).drop (j+4+1))=M.mc (mkP x))
 (J:∀x o' H' n',M.mb<n'/\o' M.mb=1->T.get H' M.mb=some (one (M.mc (mkP x)))->Sk H' z (λd=>d<n'/\o' d=j+3) x (LS++[At c])->(∀i z v LS,i≠j->i<5->Sk H z (λd=>d<n/\W.o d=i+3) v LS->Sk H' z (λd=>d<n'/\o' d=i+3) v LS)->Ke G H M.kb H' M.kb->Gk M o' (mkP x) G H' n' p')
 (hk:∀W' H' n',Gm M W' G H' n' {g with p:=p'}->Kg M W H n W' H' n'->Q .undef H' n'):
 Au (AY z 1 Z [(0,.c c)] E0) H n λw H n=>Ey z bs v w G H n λv H n=>AD (AV (.ptr M.mb (j+4))) λq=>A1 1 q v H n Q:=by
 refine C.app (G:=G) (m:=0) (λd f=>(C.own f).1) U u X Y λx H1 D s1 E=>?_;have⟨b1,K⟩:=h.k.mb;have kn:=h.a.kn;have L:∀d,d<n->W.o d≠j+3->T.get H1 d=T.get H d:=λd q1 q2=>s1 d q1 λe=>q2 (C.own e).2;have u:=(D (λ_=>True) trivial).ok;rw[A0,AJ];refine uu ((L _ b1 a6).trans h.k.box) u.1 (by rw[u.2.1];rfl) a6 (by show j+4+1<=11;omega) λF N O=>?_;rw[u.2.1,hm]at N;obtain⟨y,A⟩:∃y:Gw,y=⟨λd=>if d=n+1 then j+3 else W.o d,mkP x,W.B⟩:=⟨_,rfl⟩;have o1:y.o (n+1)=j+3:=by rw[A];exact hD rfl
 have I:∀d,d≠n+1->y.o d=W.o d:=λd q=>by rw[A];exact g_ q
 have ob:y.B=W.B:=by rw[A]
 have op:y.P=mkP x:=by rw[A]
 have R:∀d,d<n->W.o d≠1->W.o d≠j+3->T.get F d=T.get H d:=λd q1 q2 q3=>(O d λe=>q2 (by rw[e];exact K)).trans (L d q1 q3);have⟨q1,q2⟩:=h.pool (W':=y) (H':=F) (n':=n+2) (p:=p') a6 ob (λd q=>I d a6) (λd q=>(I d a6).trans (h.a.hi d a6)) (λd q1 q2=>R d q1 a6 a6) λke=>by rw[op];refine J x y.o F (n+2) ⟨a6,(I _ a6).trans K⟩ N ?_ (λi z v LS hi h5 C=>C.mono (λd f=>⟨a6,(I d a6).trans f.2⟩) λd f=>R d f.1 a6 a6) ke;have:=D (λd=>d<n+2/\y.o d=j+3) ⟨a6,o1⟩;exact this.JO (λd f=>this.own f) λd f=>O d λe=>by rw[E]at f;cases f;omega
 exact hk y F _ q1 q2
abbrev AUz{y:PM}(q:Ji G H n u x.m.ps)(A:Ji G H n w y.m.ps)(d:∀H' n',Kp H n H' n'->k (.bool (bV x y)) H' n'):Runs F G JA [.agg (x.cells u),.agg (y.cells w)] H n k:=by
 refine go2 (iO Ae G) ?_;delta Ui;refine BE λD B f=>?_;refine BE λE g i=>?_;have f:=g.get f a6;have f3:=B.trans g;rw[AP,AJ];refine AB (AK (off:=0+5) f (v:=x.own.v) rfl) ?_;rw[AP,AJ];refine AB (AK (off:=0+5) i (v:=y.own.v) rfl) ?_;rw[show BM (.one .str) false x.own.v y.own.v=_ from cK ..,AJ];unfold bV stA at d;cases p:decide (x.own.1=y.own.1/\x.own.2=y.own.2)with
 |false=>
  rw[p]at d;refine Wq (Wq (Wq (Wq (jL (ah ?_)))));exact d _ _ f3
 |true=>
  rw[p]at d;refine MT (AP ..) (MT (BV (m:=5) (off:=0+0) f a6 (by show 0+0+5<=6;omega)) (MT (AP ..) (MT (BV (m:=5) (off:=0+0) i a6 (by show 0+0+5<=6;omega)) (wi ?_))));refine uZ (a:=x.m) (b:=y.m) ⟨u,rfl,q.kp f3⟩ ⟨w,rfl,A.kp f3⟩ λI J C=>V1 ?_;exact d _ _ (f3.trans C)
end
section
variable{M:Gc}{W W' W'':Gw}{G:AQ}{H H' H'':Heap}{n n' n'':Nat}{p:Pool}{g g':Gn}{k:KV}
def uA(z:Nat)(ld:V->AQ->Heap->(V->Prop)->Prop)(G:AQ)(c:Am)(k:KV)(ih:V×V×V×V×Heap×Nat->Prop)(a0 a1 a7 a8:V)(H:Heap)(n:Nat):Prop:=
 AD (B2.ev .lss a8 a7) λv4=>AS v4 (AD (Ai z a0 a8) λv5=>ld v5 G H λv6=>DN a1 [v6] c H n λv7 H n=>AS v7 (k a8 H n) (AD (B2.ev .add a8 (nI 1)) λv8=>ih (a0,a1,a7,v8,H,n))) (k (.int .i64 (.negSucc 0) 0) H n)
def ia(z:Nat)(ld:V->AQ->Heap->(V->Prop)->Prop):Ma->AQ->Am->V->V->Heap->Nat->KV->Prop:=λlp G c a0 a1 H n k=>
 AD (lenV a0) λv2=>lp (V×V×V×V×Heap×Nat) (λih s=>uA z ld G c k ih s.1 s.2.1 s.2.2.1 s.2.2.2.1 s.2.2.2.2.1 s.2.2.2.2.2) (a0,a1,v2,nI 0,H,n)
def mY(z:Nat)(v:V)(G:AQ)(H:Heap)(k:V->Prop):Prop:=AD (AX z v G H) k
def ATK(v:V)(G:AQ)(H:Heap)(k:V->Prop):Prop:=AD (AM v G H) k
abbrev AFw{y:Type}{ld:V->AQ->Heap->(V->Prop)->Prop}{xs:List y}{cl:y->LV}{va:y->V}{f:V}{q:y->Bool}(M:∀r H x (k:V->Prop),lG r G H z=some (cl x)->k (va x)->ld r G H k)(E:El G H v z (xs.map cl))(B:∀u,v.CD=some u->u<n)(T:xs.length<9223372036854775807)
 (O:∀x∈xs,∀(H':Heap) (n':Nat) (k:KV),Kp H n H' n'->(∀H'' n'',Kp H' n' H'' n''->k (.bool (q x)) H'' n'')->DN f [va x] (Runs F G) H' n' k)
 (d:∀H' n',Kp H n H' n'->k (nO (xe q xs 0)) H' n'):ia z ld lfp G (Runs F G) v f H n k:=by
 unfold ia;refine AB (v:=nI xs.length) (by rw[E.len,uc]) ?_;refine BL (N:=xs.length) (J:=λi s=>∃H' n',s=(v,f,nI xs.length,nI i,H',n')/\Kp H n H' n'/\(∀H' n',Kp H n H' n'->k (nO (xe q (xs.drop i) i)) H' n')) ?_ ?_ ⟨H,n,rfl,Kp.refl _ _,d⟩
 .rintro I i s g ⟨w,A,rfl,f3,d⟩ P;show uA z ld G (Runs F G) k I v f (nI xs.length) (nI i) w A;unfold uA;have m:=eb g;have p:=f_ g;rw[uv g]at d;generalize xs[i]=x at m d p;have⟨r,Q,C⟩:=(E.same (H':=w) λu D=>f3.same u (B u D)).at (i:=i) (c:=cl x) (by rw[pe,m];rfl);rw[Bf,AJ,ui g,Ah];refine AB Q (M _ _ x _ C ?_);refine O x p w A _ f3 λR S K=>?_;have d:∀H' n',Kp H n H' n'->k (nO (bif q x then some i else xe q (xs.drop (i+1)) (i+1))) H' n':=d;cases L:q x with
  |true=>rw[L]at d;rw[Ah];exact d _ _ (f3.trans K)
  |false=>
   rw[L]at d;rw[AZ,CA a6,AJ];exact P _ ⟨R,S,rfl,f3.trans K,d⟩
 .rintro I s ⟨w,A,rfl,f3,d⟩;show uA z ld G (Runs F G) k I v f (nI xs.length) (nI xs.length) w A;unfold uA;rw[Bf,AJ,eg (m_ _),AZ];rw[sw o_]at d;exact d _ _ f3
abbrev AL8{d:Type}{va:d->V}:∀r H x (k:V->Prop),lG r G H 1=some [va x]->k (va x)->ATK r G H k:=λ_ _ _ _ h k=>AB (OE h) k
abbrev ALx{d:Type}{cl:d->LV}:∀r H x (k:V->Prop),lG r G H z=some (cl x)->k (.agg (cl x))->mY z r G H k:=λ_ _ _ _ h k=>AB (BZ h) k
abbrev ALU{x:Int}(h:Gm M W G H n g)(u:rU g=true)
 (A:∀W' H' n',Gm M W' G H' n' (WL x g).2->Kg M W H n W' H' n'->k (nI (WL x g).1) H' n'):Runs F G PT [.ptr M.mb 4,.int .i64 x 0,.fn Ql [] []] H n k:=by
 refine xN (lM Ae G) ?_;delta WC;have u:=kh u;have kn:=h.a.kn;refine rc rfl λH1 S f=>?_;refine rc rfl λH2 N I=>?_;have f:=N.get f a6;have⟨B,O⟩:=h.kp (S.trans N);refine AB (A0 ..) (AB (B.WD (i:=4) rfl) ?_);refine go2 (RZ Ae G) ?_;rw[show Jh=ia 1 ATK from rfl];refine AFw (AL8 (va:=λx=>V.int .i64 x 0)) (xs:=g.p.nums) (q:=λy=>decide (y=x)) (B.k.s0.el a6) (λid J=>(B.k.s0.own J).1) a6 (λy hy C D K f3 T=>?_) λC D f3=>?_
 .have f:=f3.get f a6;have I:=f3.get I a6;show Runs F G TV [.int .i64 y 0,.ptr (n+1) 0,.ptr n 0] C D K;refine xN (eS Ae G) ?_;delta TE;refine AB (AK (off:=0) I (v:=.fn Ql [] []) rfl) (AB (AK (off:=0) f (v:=.int .i64 x 0) rfl) ?_);show Runs F G Ql [.int .i64 x 0,.int .i64 y 0] C D K;refine go2 (pF Ae G) ?_;delta XZ;refine AB (AMy .i64 x y) ?_;rw[show decide (x=y)=decide (y=x)by rw[_s];exact eq_comm];exact T _ _ (Kp.refl _ _)
 .obtain⟨d,Q⟩:=B.kp f3;have f:=f3.get f a6;unfold WL nY at A;cases R:xe (λy=>decide (y=x)) g.p.nums 0 with
  |some i=>
   rw[R]at A;show AD (B2.ev .lss (nI i) (nI 0)) _;rw[Bf,AJ,eg (_8 _),AZ];exact A W C D d (O.trans Q)
  |none=>
   rw[R]at A;show AD (B2.ev .lss (.int .i64 (.negSucc 0) 0) (nI 0)) _;rw[ACn,AJ,show decide (Int.negSucc 0<Int.ofNat 0)=true from rfl,Ah];refine AB (A0 ..) (AB (d.WD (i:=4) rfl) ?_);refine AB (v:=nI g.p.nums.length) (by rw[(d.k.s0.el (G:=G) a6).len,uc]) ?_;refine AB (A0 ..) (AB (d.WD (i:=4) rfl) ?_);refine AB (AK (off:=0) f (v:=.int .i64 x 0) rfl) ?_;refine d.AK4 (j:=0) (bs:=8) (c:=.int .i64 x 0) (mkP:=λL=>{W.P with v0:=L}) (p':={g.p with nums:=g.p.nums++[x]}) a_ d.k.s0 a_ rfl rfl (by rw[uc];omega) (λ_=>rfl) (λL o' H' n' U X Y E ke=>⟨U,X,(by show Sk H' 1 _ L ((g.p.nums++[x]).map _);rw[wm];exact Y),(E 1 _ _ _ a_ a_ d.k.s1),(E 2 _ _ _ a_ a_ d.k.s2),(E 3 _ _ _ a_ a_ d.k.s3),(E 4 _ _ _ a_ a_ d.k.s4),(d.k.wl),(λi m w a b=>(d.k.wt i m w a b).ke ke),(by have:=d.k.sz;unfold SW at this⊢;have hl:(g.p.nums++[x]).length=g.p.nums.length+1:=o6;show(g.p.nums++[x]).length<=20000/\g.p.names.length<=20000/\g.p.types.length<=20000/\g.p.fields.length<=20000/\g.p.BS.length<=20000;omega)⟩) λZ H5 n5 h5 k5=>?_;exact A Z H5 n5 h5 ((O.trans Q).trans k5)
abbrev ATH{x:St}(h:Gm M W G H n g)(u:rU g=true)
 (A:∀W' H' n',Gm M W' G H' n' (VT x g).2->Kg M W H n W' H' n'->k (nI (VT x g).1) H' n'):Runs F G Uo [.ptr M.mb 5,St.v x,.fn PJ [] []] H n k:=by
 refine xN (iH Ae G) ?_;delta Uv;have u:=kh u;have kn:=h.a.kn;refine rc rfl λH1 S f=>?_;refine rc rfl λH2 N I=>?_;have f:=N.get f a6;have⟨B,O⟩:=h.kp (S.trans N);refine AB (A0 ..) (AB (B.WD (i:=5) rfl) ?_);refine go2 (QN Ae G) ?_;rw[show Hz=ia 1 ATK from rfl];refine AFw (AL8 (va:=St.v)) (xs:=g.p.names) (q:=λy=>stA x y) (by have:=B.k.s1.el (G:=G) a6;exact this) (λid J=>(B.k.s1.own J).1) a6 (λy hy C D K f3 T=>?_) λC D f3=>?_
 .have f:=f3.get f a6;have I:=f3.get I a6;show Runs F G SS [St.v y,.ptr (n+1) 0,.ptr n 0] C D K;refine xN (bS Ae G) ?_;delta SP;refine AB (AK (off:=0) I (v:=.fn PJ [] []) rfl) (AB (AK (off:=0) f (v:=St.v x) rfl) ?_);show Runs F G PJ [St.v x,St.v y] C D K;refine go2 (kJ Ae G) ?_;delta Wb;refine AB (show BM (.one .str) false x.v y.v=some (.bool (stA x y))from cK ..) ?_;exact T _ _ (Kp.refl _ _)
 .obtain⟨d,Q⟩:=B.kp f3;have f:=f3.get f a6;unfold VT nY at A;cases R:xe (λy=>stA x y) g.p.names 0 with
  |some i=>
   rw[R]at A;show AD (B2.ev .lss (nI i) (nI 0)) _;rw[Bf,AJ,eg (_8 _),AZ];exact A W C D d (O.trans Q)
  |none=>
   rw[R]at A;show AD (B2.ev .lss (.int .i64 (.negSucc 0) 0) (nI 0)) _;rw[ACn,AJ,show decide (Int.negSucc 0<Int.ofNat 0)=true from rfl,Ah];refine AB (A0 ..) (AB (d.WD (i:=5) rfl) ?_);refine AB (v:=nI g.p.names.length) (by rw[(d.k.s1.el (G:=G) a6).len,Mo]) ?_;refine AB (A0 ..) (AB (d.WD (i:=5) rfl) ?_);refine AB (AK (off:=0) f (v:=St.v x) rfl) ?_;refine d.AK4 (j:=1) (bs:=16) (c:=St.v x) (mkP:=λL=>{W.P with v1:=L}) (p':={g.p with names:=g.p.names++[x]}) a_ d.k.s1 a_ rfl rfl (by rw[Mo];omega) (λ_=>rfl) (λL o' H' n' U V X E ke=>⟨U,V,(E 0 _ _ _ a_ a_ d.k.s0),(by show Sk H' 1 _ L (strs (g.p.names++[x]));rw[strs,wm];exact X),(E 2 _ _ _ a_ a_ d.k.s2),(E 3 _ _ _ a_ a_ d.k.s3),(E 4 _ _ _ a_ a_ d.k.s4),(d.k.wl),(λi m w a b=>(d.k.wt i m w a b).ke ke),(by have:=d.k.sz;unfold SW at this⊢;have hl:(g.p.names++[x]).length=g.p.names.length+1:=o6;show g.p.nums.length<=20000/\(g.p.names++[x]).length<=20000/\g.p.types.length<=20000/\g.p.fields.length<=20000/\g.p.BS.length<=20000;omega)⟩) λY Z n5 h5 k5=>?_;exact A Y Z n5 h5 ((O.trans Q).trans k5)
abbrev AGU{x:Ty}(h:Gm M W G H n g)(u:rU g=true)
 (A:∀W' H' n',Gm M W' G H' n' (M8 x g).2->Kg M W H n W' H' n'->k (nI (M8 x g).1) H' n'):Runs F G HY [.ptr M.mb 6,.agg (Ty.cells x),.fn Mn [] []] H n k:=by
 refine xN (cm Ae G) ?_;delta SV;have u:=kh u;have kn:=h.a.kn;refine BE λH1 X f=>?_;refine rc rfl λH2 Q E=>?_;have f:=Q.get f a6;have⟨B,R⟩:=h.kp (X.trans Q);refine AB (A0 ..) (AB (B.WD (i:=6) rfl) ?_);refine go2 (F9 Ae G) ?_;rw[show Dg=ia 2 (mY 2)from rfl];refine AFw (ALx (cl:=Ty.cells)) (xs:=g.p.types) (q:=λy=>x.is y) (B.k.s2.el a6) (λid I=>(B.k.s2.own I).1) a6 (λy hy J C K f3 Y=>?_) λJ C f3=>?_
 .have f:=f3.get f a6;have E:=f3.get E a6;show Runs F G Pk [.agg (Ty.cells y),.ptr (n+1) 0,.ptr n 0] J C K;refine xN (YM Ae G) ?_;delta Pv;refine BE λZ N g4=>?_;refine AB (AK (off:=0) (N.get E (hN f3.le)) (v:=.fn Mn [] []) rfl) (AB (As (m:=2) (L:=Ty.cells x) (N.get f (hN f3.le)) a6 rfl) (AB (As (m:=2) g4 a6 rfl) ?_));show Runs F G Mn [.agg (Ty.cells x),.agg (Ty.cells y)] Z (C+1) K;refine go2 (dy Ae G) ?_;delta Tx;refine BE λS f5 g5=>?_;refine BE λH6 T g6=>?_;refine AB (As (m:=2) (L:=Ty.cells x) (T.get g5 a6) a6 rfl) (AB (As (m:=2) g6 a6 rfl) ?_);refine AB (UX x y) ?_;exact Y _ _ (N.trans (f5.trans T))
 .obtain⟨d,U⟩:=B.kp f3;have f:=f3.get f a6;unfold M8 nY at A;cases V:xe (λy=>x.is y) g.p.types 0 with
  |some i=>
   rw[V]at A;show AD (B2.ev .lss (nI i) (nI 0)) _;rw[Bf,AJ,eg (_8 _),AZ];exact A W J C d (R.trans U)
  |none=>
   rw[V]at A;show AD (B2.ev .lss (.int .i64 (.negSucc 0) 0) (nI 0)) _;rw[ACn,AJ,show decide (Int.negSucc 0<Int.ofNat 0)=true from rfl,Ah];refine AB (A0 ..) (AB (d.WD (i:=6) rfl) ?_);refine AB (v:=nI g.p.types.length) (by rw[(d.k.s2.el (G:=G) a6).len,uc]) ?_;refine AB (A0 ..) (AB (d.WD (i:=6) rfl) ?_);refine AB (As (m:=2) (L:=Ty.cells x) f a6 rfl) ?_;refine d.AK4 (j:=2) (bs:=24) (c:=.agg (Ty.cells x)) (mkP:=λO=>{W.P with v2:=O}) (p':={g.p with types:=g.p.types++[x]}) a_ d.k.s2 a_ rfl rfl (by rw[uc];omega) (λ_=>rfl) (λO o' H' n' hm hb hs D ke=>⟨hm,hb,(D 0 _ _ _ a_ a_ d.k.s0),(D 1 _ _ _ a_ a_ d.k.s1),(by show Sk H' 2 _ O ((g.p.types++[x]).map _);rw[wm];exact hs),(D 3 _ _ _ a_ a_ d.k.s3),(D 4 _ _ _ a_ a_ d.k.s4),(d.k.wl),(λi m w a b=>(d.k.wt i m w a b).ke ke),(by have:=d.k.sz;unfold SW at this⊢;have hl:(g.p.types++[x]).length=g.p.types.length+1:=o6;show g.p.nums.length<=20000/\g.p.names.length<=20000/\(g.p.types++[x]).length<=20000/\g.p.fields.length<=20000/\g.p.BS.length<=20000;omega)⟩) λW5 S n5 h5 k5=>?_;exact A W5 S n5 h5 ((R.trans U).trans k5)
abbrev AT7{x:PF}(h:Gm M W G H n g)(u:rU g=true)
 (A:∀W' H' n',Gm M W' G H' n' (HU x g).2->Kg M W H n W' H' n'->k (nI (HU x g).1) H' n'):Runs F G OT [.ptr M.mb 7,.agg (PF.cells x),.fn JR [] []] H n k:=by
 refine xN (XB Ae G) ?_;delta OQ;have u:=kh u;have kn:=h.a.kn;refine BE λH1 X f=>?_;refine rc rfl λH2 Q E=>?_;have f:=Q.get f a6;have⟨B,R⟩:=h.kp (X.trans Q);refine AB (A0 ..) (AB (B.WD (i:=7) rfl) ?_);refine go2 (Jt Ae G) ?_;rw[show Ei=ia 4 (mY 4)from rfl];refine AFw (ALx (cl:=PF.cells)) (xs:=g.p.fields) (q:=λy=>cR x y) (B.k.s3.el a6) (λid I=>(B.k.s3.own I).1) a6 (λy hy J C K f3 Y=>?_) λJ C f3=>?_
 .have f:=f3.get f a6;have E:=f3.get E a6;show Runs F G NL [.agg (PF.cells y),.ptr (n+1) 0,.ptr n 0] J C K;refine xN (VK Ae G) ?_;delta NH;refine BE λZ N g4=>?_;refine AB (AK (off:=0) (N.get E (hN f3.le)) (v:=.fn JR [] []) rfl) (AB (As (m:=4) (L:=PF.cells x) (N.get f (hN f3.le)) a6 rfl) (AB (As (m:=4) g4 a6 rfl) ?_));show Runs F G JR [.agg (PF.cells x),.agg (PF.cells y)] Z (C+1) K;refine go2 (Yj Ae G) ?_;delta Pt;refine BE λS f5 g5=>?_;refine BE λH6 T g6=>?_;refine AB (As (m:=4) (L:=PF.cells x) (T.get g5 a6) a6 rfl) (AB (As (m:=4) g6 a6 rfl) ?_);refine AB (AW7 x y) ?_;exact Y _ _ (N.trans (f5.trans T))
 .obtain⟨d,U⟩:=B.kp f3;have f:=f3.get f a6;unfold HU nY at A;cases V:xe (λy=>cR x y) g.p.fields 0 with
  |some i=>
   rw[V]at A;show AD (B2.ev .lss (nI i) (nI 0)) _;rw[Bf,AJ,eg (_8 _),AZ];exact A W J C d (R.trans U)
  |none=>
   rw[V]at A;show AD (B2.ev .lss (.int .i64 (.negSucc 0) 0) (nI 0)) _;rw[ACn,AJ,show decide (Int.negSucc 0<Int.ofNat 0)=true from rfl,Ah];refine AB (A0 ..) (AB (d.WD (i:=7) rfl) ?_);refine AB (v:=nI g.p.fields.length) (by rw[(d.k.s3.el (G:=G) a6).len,uc]) ?_;refine AB (A0 ..) (AB (d.WD (i:=7) rfl) ?_);refine AB (As (m:=4) (L:=PF.cells x) f a6 rfl) ?_;refine d.AK4 (j:=3) (bs:=56) (c:=.agg (PF.cells x)) (mkP:=λO=>{W.P with v3:=O}) (p':={g.p with fields:=g.p.fields++[x]}) a_ d.k.s3 a_ rfl rfl (by rw[uc];omega) (λ_=>rfl) (λO o' H' n' hm hb hs D ke=>⟨hm,hb,(D 0 _ _ _ a_ a_ d.k.s0),(D 1 _ _ _ a_ a_ d.k.s1),(D 2 _ _ _ a_ a_ d.k.s2),(by show Sk H' 4 _ O ((g.p.fields++[x]).map _);rw[wm];exact hs),(D 4 _ _ _ a_ a_ d.k.s4),(d.k.wl),(λi m w a b=>(d.k.wt i m w a b).ke ke),(by have:=d.k.sz;unfold SW at this⊢;have hl:(g.p.fields++[x]).length=g.p.fields.length+1:=o6;show g.p.nums.length<=20000/\g.p.names.length<=20000/\g.p.types.length<=20000/\(g.p.fields++[x]).length<=20000/\g.p.BS.length<=20000;omega)⟩) λW5 S n5 h5 k5=>?_;exact A W5 S n5 h5 ((R.trans U).trans k5)
abbrev AS7(Y:Ji G H M.kb u x.m.ps)(h:Gm M W G H n g)(B:rU g=true)
 (C:∀W' H' n',Gm M W' G H' n' (Ih x g).2->Kg M W H n W' H' n'->k (nI (Ih x g).1) H' n'):Runs F G Nx [.ptr M.mb 8,.agg (PM.cells x u),.fn JA [] []] H n k:=by
 refine xN (Wi Ae G) ?_;delta TU;have B:=kh B;have kn:=h.a.kn;refine BE λH1 f1 f=>?_;refine rc rfl λH2 Z O=>?_;have f:=Z.get f a6;have⟨A,I⟩:=h.kp (f1.trans Z);refine AB (A0 ..) (AB (A.WD (i:=8) rfl) ?_);refine go2 (Ix Ae G) ?_;rw[show EG=ia 6 (mY 6)from rfl];refine AFw ALx (cl:=λp:PM×V=>p.1.cells p.2) (xs:=g.p.BS.zip W.P.ws) (q:=λp=>bV x p.1) (by rw[AJ2];exact A.k.s4.el a6) (λid Q=>(A.k.s4.own Q).1) (by rw[List.length_zip];omega) (λy hy R D K f3 hK=>?_) λR D f3=>?_
 .have f:=f3.get f a6;have O:=f3.get O a6;show Runs F G MO [.agg (PM.cells y.1 y.2),.ptr (n+1) 0,.ptr n 0] R D K;refine xN (T7 Ae G) ?_;delta MH;refine BE λS J g4=>?_;refine AB (AK (off:=0) (J.get O (hN f3.le)) (v:=.fn JA [] []) rfl) (AB (As (m:=6) (L:=PM.cells x u) (J.get f (hN f3.le)) a6 rfl) (AB (As (m:=6) g4 a6 rfl) ?_));show Runs F G JA [.agg (PM.cells x u),.agg (PM.cells y.1 y.2)] S (D+1) K;have⟨i,T⟩:=_m.1 hy;have⟨q1,q2⟩:=(List.getElem?_zip_eq_some (z:=y)).1 T;have⟨d,E⟩:=A.kp (f3.trans J);have up:∀{v:V} {l:aAv},Ji G S M.kb v l->Ji G S (D+1) v l:=λt=>t.kp ⟨hN f3.le,λ_ _=>rfl⟩;refine AUz (up (Y.ke ((I.trans E).ke h))) (up (d.k.wt i y.1 y.2 q1 q2)) λH5 n5 f5=>?_;exact hK _ _ (J.trans f5)
 .obtain⟨d,E⟩:=A.kp f3;have f:=f3.get f a6;rw[AJa (q:=λy=>bV x y) A.k.wl];unfold Ih nY at C;cases hr:xe (λy=>bV x y) g.p.BS 0 with
  |some i=>
   rw[hr]at C;show AD (B2.ev .lss (nI i) (nI 0)) _;rw[Bf,AJ,eg (_8 _),AZ];exact C W R D d (I.trans E)
  |none=>
   rw[hr]at C;show AD (B2.ev .lss (.int .i64 (.negSucc 0) 0) (nI 0)) _;rw[ACn,AJ,show decide (Int.negSucc 0<Int.ofNat 0)=true from rfl,Ah];refine AB (A0 ..) (AB (d.WD (i:=8) rfl) ?_);refine AB (v:=nI g.p.BS.length) (by rw[(d.k.s4.el (G:=G) a6).len,_x,d.k.wl,_4]) ?_;refine AB (A0 ..) (AB (d.WD (i:=8) rfl) ?_);refine AB (As (m:=6) (L:=PM.cells x u) f a6 rfl) ?_;refine d.AK4 (j:=4) (bs:=88) (c:=.agg (PM.cells x u)) (mkP:=λU=>{W.P with v4:=U,ws:=W.P.ws++[u]}) (p':={g.p with BS:=g.p.BS++[x]}) a_ d.k.s4 a_ rfl rfl (by rw[_x,d.k.wl,_4];omega) (λ_=>rfl) (λU o' H' n' hm hb hs N ke=>⟨hm,hb,(N 0 _ _ _ a_ a_ d.k.s0),(N 1 _ _ _ a_ a_ d.k.s1),(N 2 _ _ _ a_ a_ d.k.s2),(N 3 _ _ _ a_ a_ d.k.s3),(by show Sk H' 6 _ U (List.zipWith PM.cells (g.p.BS++[x]) (W.P.ws++[u]));rw[List.zipWith_append d.k.wl.symm];exact hs),(by show(W.P.ws++[u]).length=(g.p.BS++[x]).length;rw[uk,uk,d.k.wl];rfl),(λi m w a b=>by
    have a:(g.p.BS++[x])[i]? =some m:=a;have b:(W.P.ws++[u])[i]? =some w:=b;have hw:=d.k.wl;by_cases T:i<g.p.BS.length
    .rw[qi T]at a;rw[qi a6]at b;exact(d.k.wt i m w a b).ke ke
    .rw[i_ a6]at a;rw[i_ a6,hw]at b;have X:=(us.1 a).1;have X:i-g.p.BS.length=0:=by simp at X;omega
     rw[X]at a b;cases a;cases b;exact(Y.ke ((I.trans E).ke h)).ke ke),(by have:=d.k.sz;unfold SW at this⊢;have hl:(g.p.BS++[x]).length=g.p.BS.length+1:=o6;show g.p.nums.length<=20000/\g.p.names.length<=20000/\g.p.types.length<=20000/\g.p.fields.length<=20000/\(g.p.BS++[x]).length<=20000;omega)⟩) λW5 H5 n5 h5 k5=>?_
   exact C W5 H5 n5 h5 ((I.trans E).trans k5)
end
abbrev AT5(h:El G H v z LS):Ak v v=true:=by
 have⟨d,h⟩:=h;cases v<;>try (cases h;done)
 all_goals first
  |rfl
  |exact AWK ..
  |exact ARZ ..
  |(cases d;done)
  |(show Eh _ _=true;simp[Eh,AFO,A6,V.el];done)
  |trivial
variable{nm:St}{ty:Ty}{of:Ty}{f:Nat}{q:Nat}{D:Nat}{p:Nat}{cs:Bh}{l:LV}
section
variable{M:Gc}{W W' W'':Gw}{G:AQ}{H H' H'':Heap}{n n' n'':Nat}{p:Pool}{g g':Gn}{k:KV}
abbrev ym{t:Ty}(h:Gm M W G H n g)(d:rU g=true)
 (m:∀W' H' n',Gm M W' G H' n' (VT t.nm g).2->Kg M W H n W' H' n'->k (nI (VT t.nm g).1) H' n'):Runs F G NZ [.ptr M.bb 0,.agg t.cells] H n k:=by refine go2 (qM Ae G) ?_;delta Z1;refine BE λD p q=>?_;have⟨f,u⟩:=h.kp p;refine AB (A0 ..) (AB (AP ..) (AB (f.uO (i:=0) rfl) (AB (A0 ..) (AB (AP ..) (AB (AP ..) (AB (AP ..) (AB (AP ..) ?_)))))));refine AB (AK (off:=0+0) q (v:=t.nm.v) rfl) ?_;exact ATH (x:=t.nm) f d λw y A B C=>m w y A B (u.trans C)
abbrev AEs{kind num:Nat}{own:St}{d:Nat}(h:Gm M W G H n g)(p:rU g=true)
 (w:∀W' H' n',Gm M W' G H' n' (HU ⟨⟨nm,of⟩,own⟩ g).2->Kg M W H n W' H' n'->k (nI (HU ⟨⟨nm,of⟩,own⟩ g).1) H' n'):Runs F G Sw [.ptr M.bb 0,.agg (Mb kind num nm ty of own d f v)] H n k:=by refine go2 (pj Ae G) ?_;delta Zb;refine BE λJ y q=>?_;have⟨u,A⟩:=h.kp y;refine AB (A0 ..) (AB (AP ..) (AB (u.uO (i:=0) rfl) (AB (A0 ..) (AB (AP ..) (AB (AP ..) (AB (AP ..) (AB (AP ..) ?_)))))));refine AB (AK (off:=0+4) q (v:=nm.v) rfl) (AB (AP ..) ?_);refine AB (BV (m:=2) (off:=0+8) q a6 (by show 0+8+2<=11;omega)) ?_;refine AB (v:=.agg (BU.cells ⟨nm,of⟩)) rfl (AB (AP ..) ?_);refine AB (AK (off:=0+10) q (v:=own.v) rfl) ?_;refine AB (v:=.agg (PF.cells ⟨⟨nm,of⟩,own⟩)) rfl ?_;exact AT7 (x:=⟨⟨nm,of⟩,own⟩) u p λB C D E I=>w B C D E (A.trans I)
abbrev AAi{st:Bool}{num:Nat}{own:St}{o:St}{s:Bk}{kind:Nat}(h:Gm M W G H n g)(E:rU g=true)(I:decide (kind=9)=st)(hm:Cq M.fs own nm st=some (o,s))
 (hk:∀W' H' n',Gm M W' G H' n' (Ih ⟨s,own⟩ g).2->Kg M W H n W' H' n'->k (.CV [nI (Ih ⟨s,own⟩ g).1,nI s.ps.length]) H' n'):Runs F G XX [.ptr M.bb 0,.agg (Mb kind num nm ty of own q D v)] H n k:=by refine go2 (oC Ae G) ?_;delta Xk;have kn:=h.a.kn;have d0:=h.bk;refine BE λH1 f1 f=>?_;have⟨J,k1⟩:=h.kp f1;refine AB (A0 ..) (AB (AP ..) (AB (J.uO (i:=0) rfl) (AB (A0 ..) (AB (AP ..) (AB (J.WD (i:=10) rfl) (AB (AP ..) ?_))))));refine AB (AK (off:=0+10) f (v:=own.v) rfl) (AB (AP ..) ?_);refine AB (AK (off:=0+4) f (v:=nm.v) rfl) (AB (AP ..) ?_);refine AB (AK (off:=0+0) f (v:=nI kind) rfl) (AB (A9 ..) ?_);rw[I];refine Ao rfl λH2 S K=>?_;have⟨N,k2⟩:=J.kp S;refine AEO N.a.tab N.a.fl (λH3 U w f3 X=>?_) a6;rw[hm]at X⊢;obtain⟨u,rfl,hu⟩:=(show ∃u,w=.agg (s.cells u)/\Ji G H3 M.kb u s.ps from X);have⟨h3,k3⟩:=N.kb f3;have d1:=f3.le;have f:=f3.get (S.get f a6) a6 a6;have K:=f3.get K a6 a6;rw[OC,AJ,N4,AJ];refine AB (v:=.bool true) rfl ?_;refine BX K rfl rfl a6 λY Z C=>?_;have y:W.o (n+1)=0:=h.a.hi _ a6;have d2:W.o n=0:=h.a.hi _ a6;have k4:=((k1.trans k2).trans k3).AH3 (i:=n+1) a6 a6 C;have h4:=h3.AH3 y a6 C;have f:=(C n a6).trans f;have O:Ji G Y M.kb u s.ps:=hu.ke (Kp.ke ⟨ea _,λd p=>C d a6⟩);refine AB (As (m:=5) (L:=s.cells u) Z a6 rfl) (AB (AP ..) ?_);refine AB (AK (off:=0+10) f (v:=own.v) rfl) ?_;refine AB (v:=.agg (PM.cells ⟨s,own⟩ u)) rfl ?_;refine Ao rfl λH5 f5 g5=>?_;have⟨h5,k5⟩:=h4.kp f5;refine BX g5 rfl rfl a6 λH6 g6 P=>?_;have k6:=(k4.trans k5).AH3 (i:=U) a6 a6 P;have h6:=h5.AH3 (h.a.hi _ a6) a6 P;have A:∀d,d<U->T.get H6 d=T.get Y d:=λd p=>(P d a6).trans (f5.same d p);have Q:Ji G H6 M.kb u s.ps:=O.ke (Kp.ke ⟨ea _,λd p=>A d a6⟩);refine AB (A0 ..) (AB (AP ..) (AB (h6.uO (i:=0) rfl) (AB (A0 ..) (AB (AP ..) (AB (AP ..) (AB (AP ..) ?_))))));refine AB (As (m:=6) (L:=PM.cells ⟨s,own⟩ u) g6 a6 rfl) (AB (AP ..) ?_);have B:=(A (n+1) a6).trans Z;refine AB (AK (off:=0+2) B (v:=u) rfl) ?_;refine AB (v:=nI s.ps.length) (by rw[Q.el.len,tys,uc]) ?_;refine AS7 (x:=⟨s,own⟩) (u:=u) Q h6 E λW7 H7 n7 h7 k7=>?_;have R:=k7.get B a6 y a6;refine AB (AK (off:=0+2) R (v:=u) rfl) (Ba (AT5 Q.el) ?_);exact hk W7 H7 n7 h7 (k6.trans k7)
def Oc(M:Gc)(W:Gw)(G:AQ)(H:Heap)(n:Nat)(k:KV)(g':Gn):Prop:=∀W' H' n',Gm M W' G H' n' g'->Kg M W H n W' H' n'->k (.CV []) H' n'
abbrev Oc.kg(h:Oc M W G H n k g)(x:Kg M W H n W' H' n'):Oc M W' G H' n' k g:=λd f i m p=>h d f i m (x.trans p)
abbrev Ge{P:Heap->Nat->Prop}(h:Gm M W G H n g)(i:BA c a up dn g=some g')(f:up<=1)(k:d=(up:Int)-dn)
 (m:∀W' H' n',Gm M W' G H' n' g'->Kg M W H n W' H' n'->P H' n'):Runs F G Aj [.ptr M.bb 0,nI c,nI a,.int .i64 d 0] H n λ_ H n=>P H n:=nS h i f k m
def AGJ:List St:=[(1,43),(1,45),(1,42),(1,47),(1,37),(1,60),(2,15676)]
theorem AFI(s:St):∀(xs:List St) (i:Nat),nO (xe (λx=>stA s x) xs i)=.int .i64 (pn s xs i) 0
 |[],_=>rfl
 |x::xs,i=>by
  show nO (bif stA s x then some i else xe (λx=>stA s x) xs (i+1))=.int .i64 (bif stA s x then .ofNat i else pn s xs (i+1)) 0
  cases stA s x with
  |true=>rfl
  |false=>exact AFI s xs (i+1)
abbrev AUB(nm:St):∃d,AHF (nI 0) (.int .i64 (pn nm AGJ 0) 0)=some d/\B2.ev .add (nI 5) d=some (nI (yF nm)):=by
 rw[<-AFI];have f:∀r:aAG,r=none∨(∃i,r=some i/\i<7)->∃d,AHF (nI 0) (nO r)=some d/\B2.ev .add (nI 5) d=some (nI (5+r.getD 0)):=by
  intro r g;rcases g with rfl|⟨i,rfl,k⟩
  .refine⟨nI 0,ARf.trans rfl,AIa rfl a_ a_⟩
  .refine⟨nI (max 0 i),AHe,AIa (c:=((5+i:Nat):Int)) (show(5:Int)+((max 0 i:Nat):Int)=((5+i:Nat):Int)by omega) a6 a6⟩
 have e:5+(xe (λx=>stA nm x) AGJ 0).getD 0=yF nm/\(xe (λx=>stA nm x) AGJ 0=none∨∃i,xe (λx=>stA nm x) AGJ 0=some i/\i<7):=by have e:xe (λx=>stA nm x) AGJ 0=(bif stA nm ABJ then some 0 else bif stA nm ABp then some 1 else bif stA nm ABD then some 2 else bif stA nm ABR then some 3 else bif stA nm AA3 then some 4 else bif stA nm eh then some 5 else bif stA nm di then some 6 else none):=rfl;rw[e];unfold yF;cases stA nm ABJ<;>cases stA nm ABp<;>cases stA nm ABD<;>cases stA nm ABR<;>cases stA nm AA3<;>cases stA nm eh<;>cases stA nm di<;>simp
 rw[<-e.1];exact f _ e.2
abbrev AMj{kind num:Nat}{own:St}{m:Nat}(h:Gm M W G H n g)(A:T.get H b=some (one (Mb kind num nm ty of own f m v)))(p:b<n/\W.o b=0/\b≠M.b)
 (B:((BA c 0 0 1 g).bind λg=>bif stA nm Qx then BA 15 0 0 0 g else some g)=some g') (w:Oc M W G H n k g'):IL lfp G (Runs F G) k (.ptr M.bb 0) (.ptr b 0) (nI c) H n:=by
 delta IL;have⟨O,C,i⟩:=ee.1 B;refine Ge (d:=.negSucc 0) h C a_ rfl λW1 D E x q=>?_;have u:=q.get A p.1 p.2.1 p.2.2;refine AB (AP ..) (AB (AK (off:=0+4) u (v:=nm.v) rfl) (AB (show BM (.one .str) false nm.v (St.v Qx)=some (.bool (stA nm Qx))from cK ..) ?_));cases y:stA nm Qx with
 |true=>
  rw[y]at i;rw[Ah];refine Ge (d:=0) x i a_ rfl λI J K L N=>?_;delta IE;exact w I J K L (q.trans N)
 |false=>
  rw[y]at i;cases i;rw[AZ];delta IE;exact w W1 D E x q
abbrev AVb(Z:RN G){kind num:Nat}{own:St}{p:Nat}{a:Ty}(h:Gm M W G H n g)(he:El G H v 11 cs)(E:∀i,v.CD=some i->i<n/\W.o i=0/\i≠M.b)(hl:cs[0]? =some l)(I:l.length=11)(ha:(l.drop 8).take 2=a.cells)(J:a.nm.ok)
 (f:AEm nm a g=some g') (L:Oc M W G H n k g'):Runs F G iV [.ptr M.bb 0,.agg (Mb kind num nm ty of own p D v)] H n k:=by
 refine go2 (wW Ae G) ?_;delta iD;have kn:=h.a.kn;have d0:=h.bk;refine BE λN S A=>?_;have⟨T,O⟩:=h.kp S;refine AB (AP ..) (AB (AK (off:=0+4) A (v:=nm.v) rfl) (AB (show BM (.one .str) false nm.v (St.v T3)=some (.bool (stA nm T3))from cK ..) ?_));have hb:n<n+1/\W.o n=0/\n≠M.b:=⟨a6,h.a.hi _ o_,a6⟩;have q:=he.same (H':=N) λi P=>S.same i (E i P).1;unfold AEm at f;have u:(stA nm T3||stA nm Qx)=true->GK lfp G (Runs F G) k (.ptr M.bb 0) (.ptr n 0) (.bool true) N (n+1):=λe=>by
  rw[e]at f;have f:((BA (bif a.obj then 13 else 12) 0 0 1 g).bind λg=>bif stA nm Qx then BA 15 0 0 0 g else some g)=some g':=f;delta GK;have⟨q0,q1,q8,q9,K⟩:=Vx Z q hl I;rw[Ah];refine AB (AP ..) (AB (AK (off:=0+7) A (v:=v) rfl) (AB K.ip (AB K.i8 (AB (K.ld N q).2.2.1 ?_))));rw[ha];refine rv (t:=a) J λH2 n2 m=>?_;have⟨B,C⟩:=T.kp m;have U:=m.get A a6;have w:n<n2/\W.o n=0/\n≠M.b:=⟨hN m.le,hb.2⟩;cases X:a.obj with
  |true=>
   rw[X]at f;rw[Ah];exact AMj (c:=13) B U w f (L.kg (O.trans C))
  |false=>
   rw[X]at f;rw[AZ];exact AMj (c:=12) B U w f (L.kg (O.trans C))
 cases Q:stA nm T3 with
 |true=>rw[Ah];exact u (by rw[Q];rfl)
 |false=>
  rw[AZ];refine AB (show BM (.one .str) false nm.v (St.v Qx)=some (.bool (stA nm Qx))from cK ..) ?_;cases Y:stA nm Qx with
  |true=>exact u (by rw[Q,Y];rfl)
  |false=>
   rw[Q,Y]at f;have f:BA (yF nm) 0 0 1 g=some g':=f;delta GK;rw[AZ];refine M1 (G:=G) (vs:=AGJ.map St.v) rfl a6 (λx hx=>by obtain⟨y,_,rfl⟩:=_c.1 hx;exact⟨rfl,rfl⟩) λH2 m _ R=>?_;have⟨B,C⟩:=T.kp m;refine AB (AP ..) (AB (AK (off:=0+4) (m.get A a6) (v:=nm.v) rfl) ?_);refine AI8 (xs:=AGJ) R a_ ?_;have⟨d1,m1,m2⟩:=AUB nm;refine AB m1 (AB m2 ?_);exact Ge (d:=.negSucc 0) B f a_ rfl λW3 H3 n3 h3 k3=>L W3 H3 n3 h3 ((O.trans C).trans k3)
end
abbrev Bn{P Q:V->Prop}(h:a≠b)(d:Q (.bool false)):AD (BM (.one .int) false (nI a) (nI b)) λv=>AS v (P v) (Q v):=by rw[A9,AJ,eg h,AZ];exact d
abbrev Ci{P Q:V->Prop}(d:P (.bool true)):AD (BM (.one .int) false (nI a) (nI a)) λv=>AS v (P v) (Q v):=by rw[A9,AJ,ui rfl,Ah];exact d
variable{es:List Te}
section
variable{M:Gc}{W W' W'':Gw}{G:AQ}{H H' H'':Heap}{n n' n'':Nat}{p:Pool}{g g':Gn}{k:KV}{A:Nat->Prop}
def Oa(M:Gc)(W:Gw)(n:Nat)(A:Nat->Prop):Prop:=∀id,A id->id<n/\W.o id=0/\id≠M.b
abbrev Oa.kg(h:Oa M W n A)(x:Kg M W H n W' H' n'):Oa M W' n' A:=λf d=>by have⟨g,i,k⟩:=h f d;exact⟨hN x.le,(x.own f g).trans i,k⟩
abbrev Oa.same(h:Oa M W n A)(x:Kg M W H n W' H' n')(d:A id):T.get H' id=T.get H id:=x.zero id (h id d).1 (h id d).2.1 (h id d).2.2
abbrev ASQ{a:Te}{es:aAq}(h:DV G H A cs (a::es)):∃l,cs[0]? =some l/\l.length=11/\(l.drop 8).take 2=a.of.cells:=by have⟨l,f,d⟩:=h.at (i:=0) rfl;refine⟨l,f,d.len,?_⟩;cases d;rfl
abbrev AY8(hG:RN G){kind num:Nat}{own:St}{N R:Nat}{kids:aAq}(h:Gm M W G H n g)(p:T.get H b=some (one (Mb kind num nm ty of own N R v)))(hb:b<n/\W.o b=0/\b≠M.b)(he:El G H v 11 cs)
 (d0:∀id,v.CD=some id->id<n/\W.o id=0/\id≠M.b) (O:DV G H A cs kids) (S:iz M.fs kind nm ty of own (kids.map Te.of)) (f:fY M.fs kind num nm ty of own (kids.map Te.of) g=some g') (J:Oc M W G H n k g'):
 GS lfp G (Runs F G) k (.ptr M.bb 0) (.ptr b 0) H n:=by
 unfold fY at f;cases U:rU g with
 |false=>rw[U]at f;cases f
 |true=>
 rw[U]at f;delta GS;refine AB (AP ..) (AB (AK (off:=0+0) p (v:=nI kind) rfl) ?_);match kind,S,f,p with
 |0,_,f,_=>cases f
 |1,_,f,p=>
  refine Ci ?_;refine AB (A0 ..) (AB (AP ..) (AB (h.uO (i:=0) rfl) (AB (A0 ..) (AB (AP ..) (AB (AP ..) (AB (AP ..) (AB (AP ..) ?_)))))));refine AB (AK (off:=0+3) p (v:=nI num) rfl) ?_;refine ALU (x:=num) h U λW1 X Y u w=>?_;exact Ge (d:=1) u f a_ rfl λB C D E I=>J B C D E (w.trans I)
 |2,_,f,_=>
  refine Bn a_ (Ci ?_);exact Ge (d:=1) h f a_ rfl J
 |3,_,f,_=>
  refine Bn a_ (Bn a_ (Ci ?_));exact Ge (d:=1) h f a_ rfl J
 |4,_,f,_=>
  refine Bn a_ (Bn a_ (Bn a_ (Ci ?_)));exact Ge (d:=1) h f a_ rfl J
 |5,_,f,_=>
  refine Bn a_ (Bn a_ (Bn a_ (Bn a_ (Ci ?_))));exact Ge (d:=1) h f a_ rfl J
 |6,_,f,p=>
  refine Bn a_ (Bn a_ (Bn a_ (Bn a_ (Bn a_ (Ci ?_)))));refine AB (AP ..) (AB (AK (off:=0+4) p (v:=nm.v) rfl) ?_);refine AIp h λX Y f1=>?_;have⟨u,w⟩:=h.kp f1;exact Ge (d:=1) u f a_ rfl λB C D E I=>J B C D E (w.trans I)
 |7,_,f,p=>
  iterate 6 refine Bn a_ ?_
  refine Ci ?_;refine AB (As (m:=11) (L:=Mb 7 num nm ty of own N R v) p a6 rfl) ?_;refine AEs h U λW1 X Y u w=>?_;exact Ge (d:=0) u f a_ rfl λB C D E I=>J B C D E (w.trans I)
 |8,_,f,p=>
  have f:(match Cq M.fs own nm false with|some (_,s)=>BA 25 (Ih ⟨s,own⟩ g).1 0 s.ps.length (Ih ⟨s,own⟩ g).2|none=>none)=some g':=f;cases Z:Cq M.fs own nm false with
  |none=>rw[Z]at f;cases f
  |some q=>
   have⟨o,s⟩:=q;rw[Z]at f;iterate 7 refine Bn a_ ?_
   refine Ci ?_;delta BW;rw[Ah];refine AB (As (m:=11) (L:=Mb 8 num nm ty of own N R v) p a6 rfl) ?_;refine AAi (st:=false) h U rfl Z λW1 X Y u w=>?_;rw[OC,AJ,N4,AJ];refine AB (AP ..) (AB (AK (off:=0+0) (w.get p hb.1 hb.2.1 hb.2.2) (v:=nI 8) rfl) (Bn a_ ?_));have⟨p1,p2,_⟩:=jd f;have d1:=u.y.sz;have p1:s.ps.length<=(Ih ⟨s,own⟩ g).2.hi+0:=p1;refine AB (ARk (c:=(0:Int)-(s.ps.length:Nat)) (by show-((s.ps.length:Nat):Int)=_;omega) a6 a6) ?_;exact Ge u f a_ rfl λB C D E I=>J B C D E (w.trans I)
 |9,_,f,p=>
  have f:(match Cq M.fs own nm true with|some (_,s)=>BA 26 (Ih ⟨s,own⟩ g).1 1 s.ps.length (Ih ⟨s,own⟩ g).2|none=>none)=some g':=f;cases Z:Cq M.fs own nm true with
  |none=>rw[Z]at f;cases f
  |some q=>
   have⟨o,s⟩:=q;rw[Z]at f;iterate 8 refine Bn a_ ?_
   refine AB (A9 ..) ?_;delta BW;refine(show ∀P Q:Prop,P->AS (.bool (decide (9=9))) P Q from λP Q h=>h) _ _ ?_;refine AB (As (m:=11) (L:=Mb 9 num nm ty of own N R v) p a6 rfl) ?_;refine AAi (st:=true) h U rfl Z λW1 X Y u w=>?_;rw[OC,AJ,N4,AJ];refine AB (AP ..) (AB (AK (off:=0+0) (w.get p hb.1 hb.2.1 hb.2.2) (v:=nI 9) rfl) (Ci ?_));have⟨p1,p2,_⟩:=jd f;have d1:=u.y.sz;have p1:s.ps.length<=(Ih ⟨s,own⟩ g).2.hi+1:=p1;refine AB (ARR (c:=(1:Int)-(s.ps.length:Nat)) rfl a6 a6) ?_;exact Ge u f a_ rfl λB C D E I=>J B C D E (w.trans I)
 |10,_,f,p=>
  iterate 8 refine Bn a_ ?_
  refine AB (A9 ..) ?_;delta BW;refine(show ∀P Q:Prop,Q->AS (.bool (decide (10=9))) P Q from λP Q h=>h) _ _ ?_;refine Ci ?_;refine AB (AP ..) (AB (BV (m:=2) (off:=0+5) p a6 (by show 0+5+2<=11;omega)) ?_);refine ym (t:=ty) h U λW1 X Y u w=>?_;exact Ge (d:=1) u f a_ rfl λB C D E I=>J B C D E (w.trans I)
 |11,_,f,p=>
  iterate 8 refine Bn a_ ?_
  refine AB (A9 ..) ?_;delta BW;refine(show ∀P Q:Prop,Q->AS (.bool (decide (11=9))) P Q from λP Q h=>h) _ _ ?_;refine Bn a_ (Ci ?_);refine AB (A0 ..) (AB (AP ..) (AB (h.uO (i:=0) rfl) (AB (A0 ..) (AB (AP ..) (AB (AP ..) (AB (AP ..) (AB (AP ..) ?_)))))));refine AB (BV (m:=2) (off:=0+8) p a6 (by show 0+8+2<=11;omega)) ?_;refine AGU (x:=of) h U λW1 X Y u w=>?_;exact Ge (d:=0) u f a_ rfl λB C D E I=>J B C D E (w.trans I)
 |12,_,f,p=>
  iterate 8 refine Bn a_ ?_
  refine AB (A9 ..) ?_;delta BW;refine(show ∀P Q:Prop,Q->AS (.bool (decide (12=9))) P Q from λP Q h=>h) _ _ ?_;iterate 2 refine Bn a_ ?_
  refine Ci ?_;match kids,O,f with
  |[],_,f=>cases f
  |a::es,O,f=>
   have f:BA 20 (M8 a.of g).1 0 1 (M8 a.of g).2=some g':=f;have⟨l,l1,l2,l3⟩:=ASQ O;have⟨q0,q1,q8,q9,K⟩:=Vx hG he l1 l2;refine AB (A0 ..) (AB (AP ..) (AB (h.uO (i:=0) rfl) (AB (A0 ..) (AB (AP ..) (AB (AP ..) (AB (AP ..) (AB (AP ..) ?_)))))));refine AB (AK (off:=0+7) p (v:=v) rfl) (AB K.ip (AB K.i8 (AB (K.ld H he).2.2.1 ?_)));rw[l3];refine AGU (x:=a.of) h U λW1 X Y u w=>?_;exact Ge (d:=.negSucc 0) u f a_ rfl λB C D E I=>J B C D E (w.trans I)
 |13,_,f,_=>
  iterate 8 refine Bn a_ ?_
  refine AB (A9 ..) ?_;delta BW;refine(show ∀P Q:Prop,Q->AS (.bool (decide (13=9))) P Q from λP Q h=>h) _ _ ?_;iterate 3 refine Bn a_ ?_
  refine Ci ?_;exact Ge (d:=0) h f a_ rfl J
 |14,_,f,_=>
  iterate 8 refine Bn a_ ?_
  refine AB (A9 ..) ?_;delta BW;refine(show ∀P Q:Prop,Q->AS (.bool (decide (14=9))) P Q from λP Q h=>h) _ _ ?_;iterate 4 refine Bn a_ ?_
  refine Ci ?_;exact Ge (d:=0) h f a_ rfl J
 |15,_,f,_=>
  iterate 8 refine Bn a_ ?_
  refine AB (A9 ..) ?_;delta BW;refine(show ∀P Q:Prop,Q->AS (.bool (decide (15=9))) P Q from λP Q h=>h) _ _ ?_;iterate 5 refine Bn a_ ?_
  refine Ci ?_;exact Ge (d:=0) h f a_ rfl J
 |16,S,f,p=>
  iterate 8 refine Bn a_ ?_
  refine AB (A9 ..) ?_;delta BW;refine(show ∀P Q:Prop,Q->AS (.bool (decide (16=9))) P Q from λP Q h=>h) _ _ ?_;iterate 8 refine Bn a_ ?_
  refine Ci ?_;match kids,O,f,S with
  |[],_,f,_=>cases f
  |a::es,O,f,S=>
   have f:AEm nm a.of g=some g':=f;have⟨l,l1,l2,l3⟩:=ASQ O;refine AB (As (m:=11) (L:=Mb 16 num nm ty of own N R v) p a6 rfl) ?_;exact AVb hG h he d0 l1 l2 l3 ((show ∀a' l',a.of::es.map Te.of=a'::l'->a'.nm.ok from S) a.of _ rfl) f J
 |17,_,f,_=>cases f
 |18,_,f,_=>cases f
 |19,_,f,p=>
  iterate 8 refine Bn a_ ?_
  refine AB (A9 ..) ?_;delta BW;refine(show ∀P Q:Prop,Q->AS (.bool (decide (19=9))) P Q from λP Q h=>h) _ _ ?_;iterate 6 refine Bn a_ ?_
  refine Ci ?_;refine AB (AP ..) (AB (BV (m:=2) (off:=0+5) p a6 (by show 0+5+2<=11;omega)) ?_);refine ym (t:=ty) h U λW1 X Y u w=>?_;exact Ge (d:=0) u f a_ rfl λB C D E I=>J B C D E (w.trans I)
 |20,_,f,p=>
  iterate 8 refine Bn a_ ?_
  refine AB (A9 ..) ?_;delta BW;refine(show ∀P Q:Prop,Q->AS (.bool (decide (20=9))) P Q from λP Q h=>h) _ _ ?_;iterate 7 refine Bn a_ ?_
  refine Ci ?_;refine AB (AP ..) (AB (BV (m:=2) (off:=0+5) p a6 (by show 0+5+2<=11;omega)) ?_);refine ym (t:=ty) h U λW1 X Y u w=>?_;exact Ge (d:=0) u f a_ rfl λB C D E I=>J B C D E (w.trans I)
 |q+21,_,f,_=>cases f
end
def XS(G:AQ)(e:Te):Prop:=∀(M:Gc) (W:Gw) (H:Heap) (n:Nat) (g g':Gn) (k:KV) (A:Nat->Prop) (l:LV),Gm M W G H n g->C3 G H A l e->Oa M W n A->e.cz<=20000->lq M.fs e->B9 M.fs e g=some g'->Oc M W G H n k g'->Runs F G DT [.ptr M.bb 0,.agg l] H n k
abbrev ASa(e:Te):1<=e.cz:=by
 cases e with
 |mk k _ _ _ _ _ d=>
  simp only[Te.cz];have:1<=pZ k:=by unfold pZ;split<;>(try split)<;>(try split)<;>omega
  omega
abbrev wx:∀es:aAq,es.length<=OG es
 |[]=>j_ _
 |e::es=>by have:=wx es;have:=ASa e;simp only[OG,j'];omega
abbrev ADb:∀{es:aAq} {e:Te},e∈es->e.cz<=OG es
 |a::es,e,h=>by
  simp only[OG];rcases qk.1 h with rfl|h
  .omega
  .have:=ADb h;omega
def AOR(tb:Tab)(kind:Nat)(b:Te)(g:Gn):aAD:=bif decide (kind=17)then B9 tb b g else BA 32 1 1 0 g
def AQg(tb:Tab)(kind:Nat)(b:Te)(g:Gn):aAD:=bif decide (kind=17)then BA 32 0 1 0 g else B9 tb b g
variable{tb:Tab}
section
variable{M:Gc}{W W' W'':Gw}{G:AQ}{H H' H'':Heap}{n n' n'':Nat}{p:Pool}{g g':Gn}{k:KV}{A:Nat->Prop}
abbrev C3.kg{e:Te}(h:C3 G H A l e)(f:Oa M W n A)(x:Kg M W H n W' H' n'):C3 G H' A l e:=h.mono (λ_ h=>h) λ_ d=>f.same x d
abbrev DV.kg{es:aAq}(h:DV G H A cs es)(f:Oa M W n A)(x:Kg M W H n W' H' n'):DV G H' A cs es:=h.mono (λ_ h=>h) λ_ d=>f.same x d
structure tq(M:Gc)(W:Gw)(H:Heap)(n:Nat)(p q:Nat)(l:LV):Prop where
 p1:p<n/\W.o p=0/\p≠M.b
 q1:q<n/\W.o q=0/\q≠M.b
 gp:T.get H p=some (one [.ptr M.bb 0])
 gq:T.get H q=some (one l)
abbrev tq.kg{p:Nat}(h:tq M W H n p q l)(x:Kg M W H n W' H' n'):tq M W' H' n' p q l:=
 ⟨⟨tw x.le h.p1.1,(x.own _ h.p1.1).trans h.p1.2.1,h.p1.2.2⟩,⟨tw x.le h.q1.1,(x.own _ h.q1.1).trans h.q1.2.1,h.q1.2.2⟩,x.get h.gp h.p1.1 h.p1.2.1 h.p1.2.2,x.get h.gq h.q1.1 h.q1.2.1 h.q1.2.2⟩
abbrev AEa{kind num:Nat}{own:St}{u x:Nat}{b:Te}{p:Nat}(h:Gm M W G H n g)(m:tq M W H n p q (Mb kind num nm ty of own u x v))(D:El G H v 11 cs)(E:cs[1]? =some l)(I:C3 G H A l b)(J:Oa M W n A)(y:lq M.fs b)(L:b.cz<=20000)(N:XS G b)(w:kind=17∨kind=18):
 (AOR M.fs kind b g=some g'->Oc M W G H n k g'->Runs F G N5 [.ptr q 0,.ptr p 0] H n k)/\(AQg M.fs kind b g=some g'->Oc M W G H n k g'->Runs F G OA [.ptr q 0,.ptr p 0] H n k):=by
 have C:∀{K:KV},B9 M.fs b g=some g'->Oc M W G H n K g'->AD (AM (.ptr p 0) G H) λO=>AD (AG 7 (.ptr q 0)) λP=>AD (AM P G H) λQ=>AD (Ai 11 Q (iN 1)) λR=>AD (AX 11 R G H) λS=>Runs F G DT [O,S] H n K:=λf i=>by refine AB (AK (off:=0) m.gp (v:=.ptr M.bb 0) rfl) (AB (AP ..) (AB (AK (off:=0+7) m.gq (v:=v) rfl) ?_));have⟨r,T,B⟩:=D.at E;exact AB T (AB (BZ B) (N M W H n g g' _ A l h I J L y f i))
 constructor
 .intro f i;refine go2 (jA Ae G) ?_;delta UW;refine AB (AP ..) (AB (AK (off:=0+0) m.gq (v:=nI kind) rfl) ?_);rcases w with rfl|rfl
  .exact Ci (C f i)
  .refine Bn a_ (AB (AK (off:=0) m.gp (v:=.ptr M.bb 0) rfl) ?_);exact Ge (d:=1) h f a_ rfl i
 .intro f i;refine go2 (fj Ae G) ?_;delta UU;refine AB (AP ..) (AB (AK (off:=0+0) m.gq (v:=nI kind) rfl) ?_);rcases w with rfl|rfl
  .refine Ci (AB (AK (off:=0) m.gp (v:=.ptr M.bb 0) rfl) ?_);exact Ge (d:=1) h f a_ rfl i
  .exact Bn a_ (C f i)
abbrev ATr{kind:Nat}{b:Te}(f:lq tb b)(d:AOR tb kind b g=some g'):w7 g g':=by
 unfold AOR at d;cases i:decide (kind=17)with
 |true=>rw[i]at d;exact PV jH f _ _ d
 |false=>rw[i]at d;exact(jH (tb:=tb)).pt d
abbrev ASh{kind:Nat}{b:Te}(f:lq tb b)(d:AQg tb kind b g=some g'):w7 g g':=by
 unfold AQg at d;cases i:decide (kind=17)with
 |true=>rw[i]at d;exact(jH (tb:=tb)).pt d
 |false=>rw[i]at d;exact PV jH f _ _ d
abbrev jq(h:BA c a up dn g=some g'):g'.code.length=g.code.length+1:=by obtain⟨_,_,rfl⟩:=jd h;show(_++[_]).length=_;rw[uk];rfl
abbrev ANW{kind num:Nat}{own:St}{x C:Nat}{a b:Te}{es:aAq}(h:Gm M W G H n g)(he:El G H v 11 cs)(y:∀id,v.CD=some id->A id)(R:DV G H A cs (a::b::es))(S:Oa M W n A)(ok1:lq M.fs a)(q:lq M.fs b)(z1:a.cz<=20000)(z2:b.cz<=20000)(s1:XS G a)(s2:XS G b)(D:kind=17∨kind=18)
 (m:((B9 M.fs a g).bind λg=>(BA 28 0 0 1 g).bind λg1=>(AOR M.fs kind b g1).bind λT=>(BA 27 0 0 1 T).bind λP=>(AQg M.fs kind b (DP g.code.length P)).bind λg4=>some (DP T.code.length g4))=some g') (hk:Oc M W G H n k g'):
 Runs F G Qr [.ptr M.bb 0,.agg (Mb kind num nm ty of own x C v)] H n k:=by refine go2 (nV Ae G) ?_;delta X8;have kn:=h.a.kn;have d0:=h.bk;have⟨g0,p0,m⟩:=ee.1 m;have⟨g1,p1,m⟩:=ee.1 m;have⟨T,p2,m⟩:=ee.1 m;have⟨P,p3,m⟩:=ee.1 m;have⟨g4,p4,m⟩:=ee.1 m;cases m;refine rc rfl λH1 f1 b1=>?_;refine BE λU f2 b2=>?_;have⟨h2,Q⟩:=h.kp (f1.trans f2);have X:tq M W U (n+1+1) n (n+1) (Mb kind num nm ty of own x C v):=⟨⟨a6,h.a.hi _ a6,a6⟩,⟨a6,h.a.hi _ a6,a6⟩,f2.get b1 a6,b2⟩;have B:=he.same (H':=U) λid p=>S.same Q (y id p);have E:=R.kg S Q;have f:=S.kg Q;refine AB (AK (off:=0) X.gp (v:=.ptr M.bb 0) rfl) (AB (AP ..) (AB (AK (off:=0+7) X.gq (v:=v) rfl) ?_));have⟨l,l1,la⟩:=E.at (i:=0) rfl;have⟨r,hr,Y⟩:=B.at l1;refine AB hr (AB (BZ Y) ?_);refine s1 M W U _ g g0 _ A l h2 la f z1 ok1 p0 λW3 H3 n3 h3 k3=>?_;have I:=X.kg k3;refine AB (AK (off:=0) I.gp (v:=.ptr M.bb 0) rfl) ?_;refine nS (d:=.negSucc 0) h3 p1 a_ rfl λW4 H4 n4 h4 k4=>?_;have u:=k3.trans k4;have J:=I.kg k4;have ji:=f.kg u;have⟨lb,l2,K⟩:=E.at (i:=1) rfl;show Runs F G N5 [.ptr (n+1) 0,.ptr n 0] H4 n4 _;refine(AEa h4 J (B.same (H':=H4) λid p=>f.same u (y id p)) l2 (K.kg f u) ji q z2 s2 D).1 p2 λW5 H5 n5 h5 k5=>?_;have L:=J.kg k5;refine AB (AK (off:=0) L.gp (v:=.ptr M.bb 0) rfl) ?_;refine nS (d:=.negSucc 0) h5 p3 a_ rfl λW6 H6 n6 h6 k6=>?_;have N:=L.kg k6;have e1:=jq p1;have e2:=(ATr q p2).1;have e3:=jq p3;refine AB (AK (off:=0) N.gp (v:=.ptr M.bb 0) rfl) ?_;refine px h6 a6 λH7 h7 k7=>?_;have O:=N.kg k7;have w:=(u.trans k5).trans (k6.trans k7);have e4:=(ASh q p4).1;have e5:(DP g0.code.length P).code.length=P.code.length:=H_;show Runs F G OA [.ptr (n+1) 0,.ptr n 0] H7 n6 _;refine(AEa h7 O (B.same (H':=H7) λid p=>f.same w (y id p)) l2 (K.kg f w) (f.kg w) q z2 s2 D).2 p4 λW8 H8 n8 h8 k8=>?_;have Z:=O.kg k8;refine AB (AK (off:=0) Z.gp (v:=.ptr M.bb 0) rfl) ?_;refine px h8 a6 λH9 h9 k9=>?_;exact hk W8 H9 n8 h9 ((Q.trans w).trans (k8.trans k9))
abbrev AO2{es:aAq}{E:Gn}(hx:∀e∈es,XS G e)(K:∀e∈es,lq M.fs e)(h:Gm M W G H n g)(he:El G H v 11 cs)(O:∀id,v.CD=some id->A id)(P:DV G H A cs es)(Q:Oa M W n A)(hl:OG es<=20000)(gb:T.get H b=some (one L))(hb:b<n/\W.o b=0/\b≠M.b)(p:Pq M.fs es g=some E)
 (hk:∀W' H' n',Gm M W' G H' n' E->Kg M W H n W' H' n'->GS lfp G (Runs F G) k (.ptr M.bb 0) (.ptr b 0) H' n'):
 lfp (V×V×V×V×V×Heap×Nat) (LJ lfp G (Runs F G) k) (.ptr M.bb 0,.ptr b 0,v,nI es.length,nI 0,H,n):=by
 have d0:=wx es;refine BL (N:=es.length) (J:=λi q=>∃W' H' n' x,q=(.ptr M.bb 0,.ptr b 0,v,nI es.length,nI i,H',n')/\Gm M W' G H' n' x/\Kg M W H n W' H' n'/\Pq M.fs (es.drop i) x=some E) ?_ ?_ ⟨W,H,n,g,rfl,h,Kg.refl,p⟩
 .rintro I i q f ⟨R,B,C,x,rfl,D,y,p⟩ ih;show Fs lfp G (Runs F G) k I (.ptr M.bb 0) (.ptr b 0) v (nI es.length) (nI i) B C;delta Fs;have u:=eb f;have d:=f_ f;rw[uv f]at p;generalize es[i]=e at u d p;have⟨X,p1,p2⟩:=ee.1 (show((B9 M.fs e x).bind (Pq M.fs (es.drop (i+1))))=some E from p);have⟨l,l1,le⟩:=(P.kg Q y).at u;have⟨r,hr,S⟩:=(he.same (H':=B) λid w=>Q.same y (O id w)).at l1;have kn:=D.a.kn;have d1:=D.bk;rw[Bf,AJ,ui f,Ah];refine AB hr (AB (BZ S) ?_);refine Ao rfl λH4 Y g4=>?_;refine BX g4 rfl le.len a6 λZ g5 s5=>?_;refine AB (As (m:=11) g5 a6 le.len) ?_;have⟨h5,U⟩:=D.kp (H':=Z) (n':=C+1) ⟨Y.le,λid w=>(s5 id a6).trans (Y.same id w)⟩;have PW:=Q.kg y;refine hx e d M R Z _ x X _ A l h5 (le.kg PW U) (PW.kg U) (hN (ADb d)) (K e d) p1 λW6 H6 n6 h6 k6=>?_;rw[CA a6,AJ];exact ih _ ⟨W6,H6,n6,X,rfl,h6,(y.trans U).trans k6,p2⟩
 .rintro I q ⟨R,B,C,x,rfl,D,y,p⟩;show Fs lfp G (Runs F G) k I (.ptr M.bb 0) (.ptr b 0) v (nI es.length) (nI es.length) B C;delta Fs;rw[Bf,AJ,eg (m_ _),AZ];rw[sw o_]at p;cases p;exact hk R B C D y
abbrev AWE{kind num kd:Nat}{own:St}{es:aAq}{P:Prop}(e:kind=kd)(d:kd=17∨kd=18)(f:es.length<2)(i:B9 tb (.mk kind num nm ty of own es) g=some g'):P:=by
 exfalso;rw[B9]at i
 .obtain⟨m,q1,q2⟩:=ee.1 i;unfold fY at q2;subst e;cases k:rU m with
  |false=>rw[k]at q2;cases q2
  |true=>rw[k]at q2;rcases d with rfl|rfl<;>cases q2
 .intro a b l _ e;subst e;simp at f;omega
 .intro a b l _ e;subst e;simp at f;omega
abbrev rG:∀{es:aAq},xp tb es->∀e∈es,lq tb e
 |[],_,_,d=>by cases d
 |x::l,h,e,d=>(qk.1 d).elim (λq=>q▸h.1) λq=>rG (es:=l) h.2 e q
abbrev ASy(hG:RN G){kind num:Nat}{own:St}{es:aAq}(J:∀e∈es,XS G e)(R:∀tb,xp tb es->∀e∈es,lq tb e):XS G (.mk kind num nm ty of own es):=by
 intro M W H n g g' k A l h hl S B T q hk;have B:OG es<=20000:=by simp only[Te.cz]at B;omega
 cases hl with
 |mk _ _ _ _ _ _ K U he hv f N=>
 rename_i v cs;refine go2 (sL Ae G) ?_;delta dd;have kn:=h.a.kn;have d0:=h.bk;have⟨V,O⟩:=(show iz M.fs kind nm ty of own (es.map Te.of)/\xp M.fs es from T);have P:=R _ O;refine BE λX f1 E=>?_;have⟨h1,Q⟩:=h.kp f1;have C:n<n+1/\W.o n=0/\n≠M.b:=⟨a6,h.a.hi _ a6,a6⟩;have u:=he.same (H':=X) λI i=>S.same Q (f I i);have d:=N.kg S Q;have p:=S.kg Q;refine AB (AP ..) (AB (AK (off:=0+0) E (v:=nI kind) rfl) (AB (A9 ..) ?_));have two:∀{kd:Nat},kind=kd->(kd=17∨kd=18)->AD (AX 11 (.ptr n 0) G X) λv9=>Runs F G Qr [.ptr M.bb 0,v9] X (n+1) λ_ H n=>k (.CV []) H n:=λ{kd} e w=>by
  refine AB (As (m:=11) (L:=Mb kind num nm ty of own K U v) E a6 rfl) ?_;have e0:=e;subst e;match es,d,P,J,q,B with
  |a::b::es,d,P,J,q,B=>
   refine ANW h1 u f d p (P a o6) (P b o6) (by simp only[OG]at B;omega) (by simp only[OG]at B;omega) (J a o6) (J b o6) w ?_ (hk.kg Q);rcases w with rfl|rfl<;>exact q
  |[],_,_,_,q,_=>
   exact AWE e0 w o6 q
  |[a],_,_,_,q,_=>
   exact AWE e0 w o6 q
 by_cases x:kind=17
 .rw[ui x];refine QD (QD (QD (V1 ?_)));rw[Ah];exact two x (.inl rfl)
 .rw[eg x];refine S9 (AP ..) (S9 (AK (off:=0+0) E (v:=nI kind) rfl) (S9 (A9 ..) (ah ?_)));by_cases y:kind=18
  .rw[ui y,Ah];exact two y (.inr rfl)
  .rw[eg y,AZ];rw[B9]at q
   .obtain⟨g1,q1,q2⟩:=ee.1 q;refine AB (AP ..) (AB (AK (off:=0+7) E (v:=v) rfl) ?_);have Y:cs.length=es.length:=N.len;refine AB (v:=nI es.length) (by rw[u.len,Y]) ?_;refine AO2 J P h1 u f d p B E C q1 λW2 H2 n2 h2 D=>?_;have Z:=p.kg D;exact AY8 hG h2 (D.get E C.1 C.2.1 C.2.2) ⟨hN D.le,(D.own _ C.1).trans C.2.1,C.2.2⟩ (u.same (H':=H2) λI i=>p.same D (f I i)) (λI i=>Z I (f I i)) (d.kg p D) V q2 (hk.kg (Q.trans D))
   .intro a b l e;exact absurd e x
   .intro a b l e;exact absurd e y
mutual
theorem AJR(hG:RN G):∀e:Te,XS G e
 |.mk _ _ _ _ _ _ es=>ASy hG (AK0 hG es) λ_ h=>rG h
theorem AK0(hG:RN G):∀es:aAq,∀e∈es,XS G e
 |[],_,he=>by cases he
 |x::l,e,he=>(qk.1 he).elim (λq=>q▸AJR hG x) λq=>AK0 hG l e q
end
end
abbrev Sk.back(h:Sk H z A v LS)(hi:i<=LS.length):∃v2,lV z v E0 none (some (.c (nI i))) none=some v2/\Sk H z A v2 (LS.take i):=by
 cases h with
 |nil=>
  have:i=0:=by simpa using hi
  subst this;exact⟨.AT,rfl,.nil⟩
 |emp k m=>
  rename_i f t;have:i=0:=by simpa using hi
  subst this;refine⟨.sl f 0 0 0 z,?_,.emp k m⟩;show Az (Nat.beq z z) _=_;rw[Bq];rfl
 |Hf k u q m=>
  rename_i f c t;have p:(LS.take i).length=i:=by rw[xx];omega
  refine⟨.Hf f 0 i z,?_,?_⟩
  .show Az (Nat.beq z z) (Az (band (Nat.ble 0 i) (Nat.ble i LS.length)) (f3 0 (i-0) 0 λo d _=>.Hf f o d z))=_;rw[Bq,show Nat.ble 0 i=true by rw[_e];omega,show Nat.ble i LS.length=true by rw[_e];omega];show CC 0 (λa=>CC (i-0) λb=>CC 0 λ_=>some (.Hf f a b z))=_;rw[BF,BF,BF,aAd]
  .have:=Sk.Hf (z:=z) (LS:=LS.take i) k (by rw[p];omega) (λj L g=>q j L (by rw[x_]at g;split at g;exact g;cases g)) m;rw[p]at this;exact this
def AM4(ks:aAq)(g:Gn):aAD:=match ks with
 |a::_=>BA 21 (M8 a.of g).1 0 3 (M8 a.of g).2
 |[]=>none
section
variable{M:Gc}{W W' W'':Gw}{G:AQ}{H H' H'':Heap}{n n' n'':Nat}{p:Pool}{g g':Gn}{k:KV}{A:Nat->Prop}
abbrev ATJ(h:Gm M W G H n g)(hi:i<=g.vars.length)(D:Oc M W G H n k (EB i g)):JD lfp G (Runs F G) k (.ptr M.bb 0) (nI i) H n:=by
 delta JD;have u:=h.y.ln;have⟨E,I,m⟩:=h.y.vr.back (i:=i) (by rw[uc];exact hi);have⟨v,w,f⟩:=h.y.sl.back (i:=i) (by rw[uc];omega);refine AB (A0 ..) (AB (AP ..) (AB (h.uO (i:=4) rfl) (AB I ?_)));refine AB (A0 ..) (AB (AP ..) (AB (h.uO (i:=5) rfl) (AB w ?_)));have⟨O,J⟩:=h.y.bb;refine AB (A0 ..) (AB (AP ..) ?_);refine uu h.y.box m.ok.1 (by rw[m.ok.2.1];rfl) a6 (by show 0+4+1<=9;omega) λQ A K=>?_;rw[m.ok.2.1]at A;refine AB (A0 ..) (AB (AP ..) ?_);refine uu A f.ok.1 (by rw[f.ok.2.1];rfl) a6 (by show 0+5+1<=9;omega) λx C L=>?_;rw[f.ok.2.1]at C;have p:∀d,W.o d≠2->T.get x d=T.get H d:=λd q=>by have:d≠M.bb:=λe=>q (by rw[e];exact J);exact(L d this).trans (K d this)
 have N:=h.y.sz;have⟨q1,q2⟩:=h.body (W':=⟨W.o,W.P,{W.B with vv:=E,vs:=v}⟩) (H':=x) (g':=EB i g) o_ rfl (λ_ _=>rfl) h.a.hi rfl (λd _ q _=>p d q)
  ⟨h.y.bb,C,h.y.cd.mono (λ_ h=>h) (λd i=>p d a6),by
   have:(g.vars.map RR).take i=(g.vars.take i).map RR:=List.map_take.symm;rw[this]at m;exact m.mono (λ_ h=>h) (λd i=>p d a6),by
   have:(g.slots.map λi=>[nI i]).take i=(g.slots.take i).map λi=>[nI i]:=List.map_take.symm;rw[this]at f;exact f.mono (λ_ h=>h) (λd i=>p d a6),by show(g.slots.take i).length=(g.vars.take i).length;rw[xx,xx,u],
   by show g.code.length<=20000/\(g.vars.take i).length<=1000/\g.loc<=20000/\g.hi<=g.code.length/\g.stk<=g.code.length;rw[xx];omega⟩
 exact D _ x n q1 q2
abbrev AOV{es:aAq}{D:Gn}(Z:RN G)(E:∀e∈es,lq M.fs e)(h:Gm M W G H n g)(he:El G H v 11 cs)(K:∀id,v.CD=some id->A id)(L:DV G H A cs es)(O:Oa M W n A)(hl:OG es<=20000)(p:Pq M.fs es g=some D)
 (hk:∀W' H' n',Gm M W' G H' n' D->Kg M W H n W' H' n'->Df lfp G (Runs F G) k (.ptr M.bb 0) (.ptr b 0) (.ptr c 0) H' n'):
 lfp (V×V×V×V×V×V×Heap×Nat) (Lj lfp G (Runs F G) k) (.ptr M.bb 0,.ptr b 0,.ptr c 0,v,nI es.length,nI 0,H,n):=by
 have d0:=wx es;refine BL (N:=es.length) (J:=λi q=>∃W' H' n' x,q=(.ptr M.bb 0,.ptr b 0,.ptr c 0,v,nI es.length,nI i,H',n')/\Gm M W' G H' n' x/\Kg M W H n W' H' n'/\Pq M.fs (es.drop i) x=some D) ?_ ?_ ⟨W,H,n,g,rfl,h,Kg.refl,p⟩
 .rintro I i q f ⟨P,B,C,x,rfl,Q,y,p⟩ ih;show Ft lfp G (Runs F G) k I (.ptr M.bb 0) (.ptr b 0) (.ptr c 0) v (nI es.length) (nI i) B C;delta Ft;have u:=eb f;have d:=f_ f;rw[uv f]at p;generalize es[i]=e at u d p;have⟨T,p1,p2⟩:=ee.1 (show((B9 M.fs e x).bind (Pq M.fs (es.drop (i+1))))=some D from p);have⟨l,l1,le⟩:=(L.kg O y).at u;have⟨r,hr,R⟩:=(he.same (H':=B) λid w=>O.same y (K id w)).at l1;rw[Bf,AJ,ui f,Ah];refine AB hr (AB (BZ R) ?_);refine Ao rfl λH4 U g4=>?_;refine BX g4 rfl le.len a6 λX g5 s5=>?_;refine AB (As (m:=11) g5 a6 le.len) ?_;have⟨h5,S⟩:=Q.kp (H':=X) (n':=C+1) ⟨U.le,λid w=>(s5 id a6).trans (U.same id w)⟩;have Y:=O.kg y;refine AJR Z e M P X _ x T _ A l h5 (le.kg Y S) (Y.kg S) (hN (ADb d)) (E e d) p1 λW6 H6 n6 h6 k6=>?_;rw[CA a6,AJ];exact ih _ ⟨W6,H6,n6,T,rfl,h6,(y.trans S).trans k6,p2⟩
 .rintro I q ⟨P,B,C,x,rfl,Q,y,p⟩;show Ft lfp G (Runs F G) k I (.ptr M.bb 0) (.ptr b 0) (.ptr c 0) v (nI es.length) (nI es.length) B C;delta Ft;rw[Bf,AJ,eg (m_ _),AZ];rw[sw o_]at p;cases p;exact hk P B C Q y
abbrev AOJ(hG:RN G){kind num:Nat}{own:St}{ks:aAq}{w:Te}{l2:LV}(h:Gm M W G H n g)(hl:C3 G H A l (.mk kind num nm ty of own ks))(X:C3 G H A l2 w)(ha:Oa M W n A)(d4:lq M.fs (.mk kind num nm ty of own ks))(Y:lq M.fs w)(hz:OG ks<=20000)(d5:w.cz<=20000)(d6:kind=6∨kind=7∨kind=12)
 (y:gx M.fs kind nm of own ks w g=some g') (hk:Oc M W G H n k g'):Runs F G Su [.ptr M.bb 0,.agg l,.agg l2] H n k:=by
 cases hl with
 |mk _ _ _ _ _ _ Z d7 he hv D d0=>
 rename_i v cs;refine xN (pK Ae G) ?_;delta Y8;have kn:=h.a.kn;have f4:=h.bk;have⟨f6,d1⟩:=(show iz M.fs kind nm ty of own (ks.map Te.of)/\xp M.fs ks from d4);have cU:=rG d1;refine BE λH1 f1 b1=>?_;refine BE λH2 f2 b2=>?_;have⟨h2,k2⟩:=h.kp (f1.trans f2);have b1:=f2.get b1 a6;have E:n<n+1+1/\W.o n=0/\n≠M.b:=⟨a6,h.a.hi _ a6,a6⟩;have I:n+1<n+1+1/\W.o (n+1)=0/\n+1≠M.b:=⟨a6,h.a.hi _ a6,a6⟩;have J:=he.same (H':=H2) λid N=>ha.same k2 (D id N);have q:=d0.kg ha k2;have B:=ha.kg k2;have d8:=X.kg ha k2;have d9:=hk.kg k2;have d2:∀{g1:Gn} {W3:Gw} {T:Heap} {U:Nat},Gm M W3 G T U g1->Kg M W H2 (n+1+1) W3 T U->(∃f,B9 M.fs w g1=some f/\(bif decide (kind=6)then BA 4 (Uz nm f.vars f.slots) 0 1 f else bif rU f then bif decide (kind=7)then BA 17 (HU ⟨⟨nm,of⟩,own⟩ f).1 0 2 (HU ⟨⟨nm,of⟩,own⟩ f).2 else AM4 ks f else none)=some g')->
  Df lfp G (Runs F G) k (.ptr M.bb 0) (.ptr n 0) (.ptr (n+1) 0) T U:=by
  intro g1 W3 T U h3 V y;have⟨f,p1,p⟩:=y;delta Df;have f0:=V.get b2 I.1 I.2.1 I.2.2;refine AB (As (m:=11) f0 a6 X.len) ?_;refine AJR hG w M W3 T U g1 f _ A l2 h3 (d8.kg B V) (B.kg V) d5 Y p1 λW4 H4 n4 h4 k4=>?_;have O:=V.trans k4;have C:=O.get b1 E.1 E.2.1 E.2.2;have R:=d9.kg O;refine AB (AP ..) (AB (AK (off:=0+0) C (v:=nI kind) rfl) ?_);rcases d6 with rfl|rfl|rfl
  .have p:BA 4 (Uz nm f.vars f.slots) 0 1 f=some g':=p;refine Ci (AB (AP ..) (AB (AK (off:=0+4) C (v:=nm.v) rfl) ?_));refine AIp h4 λH5 n5 f5=>?_;have⟨h5,k5⟩:=h4.kp f5;exact Ge (d:=.negSucc 0) h5 p a_ rfl λW6 H6 n6 u k6=>R W6 H6 n6 u (k5.trans k6)
  .have p:(bif rU f then BA 17 (HU ⟨⟨nm,of⟩,own⟩ f).1 0 2 (HU ⟨⟨nm,of⟩,own⟩ f).2 else none)=some g':=p;cases S:rU f with
   |false=>rw[S]at p;cases p
   |true=>
    rw[S]at p;refine Bn a_ (Ci (AB (As (m:=11) (L:=Mb 7 num nm ty of own Z d7 v) C a6 rfl) ?_));refine AEs h4 S λW5 H5 n5 h5 k5=>?_;exact Ge (d:=.negSucc 1) h5 p a_ rfl λW6 H6 n6 u k6=>R W6 H6 n6 u (k5.trans k6)
  .have p:(bif rU f then AM4 ks f else none)=some g':=p;cases S:rU f with
   |false=>rw[S]at p;cases p
   |true=>
    rw[S]at p;refine Bn a_ (Bn a_ ?_);match ks,q,p with
    |[],_,p=>cases p
    |a::es,q,p=>
     have p:BA 21 (M8 a.of f).1 0 3 (M8 a.of f).2=some g':=p;have⟨l0,l1,f3,l3⟩:=ASQ q;have d3:=J.same (H':=H4) λid N=>B.same O (D id N);have⟨q0,q1,q8,q9,K⟩:=Vx hG d3 l1 f3;refine AB (A0 ..) (AB (AP ..) (AB (h4.uO (i:=0) rfl) (AB (A0 ..) (AB (AP ..) (AB (AP ..) (AB (AP ..) (AB (AP ..) ?_)))))));refine AB (AK (off:=0+7) C (v:=v) rfl) (AB K.ip (AB K.i8 (AB (K.ld H4 d3).2.2.1 ?_)));rw[l3];refine AGU (x:=a.of) h4 S λW5 H5 n5 h5 k5=>?_;exact Ge (d:=.negSucc 2) h5 p a_ rfl λW6 H6 n6 u k6=>R W6 H6 n6 u (k5.trans k6)
 refine AB (AP ..) (AB (AK (off:=0+0) b1 (v:=nI kind) rfl) (AB (zN ..) ?_));unfold gx at y;cases u:decide (kind=6)with
 |true=>
  rw[u]at y;show Df lfp G (Runs F G) k (.ptr M.bb 0) (.ptr n 0) (.ptr (n+1) 0) H2 (n+1+1);have⟨f,p1,p⟩:=ee.1 (show((B9 M.fs w g).bind λg=>BA 4 (Uz nm g.vars g.slots) 0 1 g)=some g' from y);exact d2 h2 Kg.refl ⟨f,p1,by rw[u];exact p⟩
 |false=>
  rw[u]at y;have⟨g1,p0,y⟩:=ee.1 (show((Pq M.fs ks g).bind λg=>(B9 M.fs w g).bind λg=>bif rU g then bif decide (kind=7)then BA 17 (HU ⟨⟨nm,of⟩,own⟩ g).1 0 2 (HU ⟨⟨nm,of⟩,own⟩ g).2 else AM4 ks g else none)=some g' from y);have⟨f,p1,p⟩:=ee.1 y;refine(show ∀P Q:Prop,P->AS (.bool (!false)) P Q from λP Q h=>h) _ _ ?_;refine AB (AP ..) (AB (AK (off:=0+7) b1 (v:=v) rfl) ?_);refine AB (v:=nI ks.length) (by rw[J.len,d0.len]) ?_;exact AOV hG cU h2 J D q B hz p0 λW3 T U h3 V=>d2 h3 V ⟨f,p1,by rw[u];exact p⟩
abbrev AWg(h:Gm M W G H n g)(C:AEg M.ret g=some g')(U:Oc M W G H n k g'):Runs F G ir [.ptr M.bb 0] H n k:=by
 refine go1 (wa Ae G) ?_;delta gN;unfold AEg at C;cases K:rU g with
 |false=>rw[K]at C;cases C
 |true=>
 rw[K]at C;have⟨V,q,X⟩:=ee.1 (show((bif M.ret.is BY then BA 1 (WL 0 g).1 1 0 (WL 0 g).2 else bif M.ret.is A3 then BA 32 0 1 0 g else BA 2 0 1 0 g).bind (BA 29 0 0 1))=some g' from C);have f:∀{W1:Gw} {u:Heap} {A:Nat},Gm M W1 G u A V->Kg M W H n W1 u A->GD lfp G (Runs F G) k (.ptr M.bb 0) u A:=λp D=>by delta GD;exact Ge (d:=.negSucc 0) p X a_ rfl λO L N w B=>U O L N w (D.trans B)
 have J:∀{W1:Gw} {u:Heap} {A:Nat},Gm M W1 G u A g->AX 2 (.ptr M.bb (0+7)) G u=some M.ret.v:=λp=>BV (m:=2) (off:=0+7) p.y.box a6 (by show 0+7+2<=9;omega);refine AB (A0 ..) (AB (AP ..) (AB (J h) ?_));refine Hg λu A Y=>?_;have⟨p,D⟩:=h.kp Y;refine AB (J p) (Ba (FH _) (AB (UX M.ret BY) ?_));cases P:M.ret.is BY with
 |true=>
  rw[P]at q;rw[Ah];refine AB (A0 ..) (AB (AP ..) (AB (p.uO (i:=0) rfl) (AB (A0 ..) (AB (AP ..) (AB (AP ..) (AB (AP ..) ?_))))));refine ALU (x:=0) p K λO L N w B=>?_;exact Ge (d:=1) w q a_ rfl λQ R S E I=>f E ((D.trans B).trans I)
 |false=>
  rw[P]at q;rw[AZ];refine AB (A0 ..) (AB (AP ..) (AB (J p) ?_));refine Fw λL N Z=>?_;have⟨w,B⟩:=p.kp Z;refine AB (J w) (Ba (FH _) (AB (UX M.ret A3) ?_));cases T:M.ret.is A3 with
  |true=>
   rw[T]at q;rw[Ah];exact Ge (d:=1) w q a_ rfl λQ R S E I=>f E ((D.trans B).trans I)
  |false=>
   rw[T]at q;rw[AZ];exact Ge (d:=1) w q a_ rfl λQ R S E I=>f E ((D.trans B).trans I)
end
end Go.RL
