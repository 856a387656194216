/- Part of a proof; nothing is assumed. -/
import Derived.Test.YtldgkimnlbkddaaGreatDoorConF
import Derived.Test.YtldgkimnlbkddaaGreatDoorConC
import Derived.Test.YtldgkimnlbkddaaGreatDoorConA
import Derived.Test.YtldgkimnlbkddaaGreatDoorConE
import Derived.Test.YtldgkimnlbkddaaGreatDoorConB
set_option linter.unusedVariables false
set_option linter.unusedSimpArgs false
namespace Go.RL
open Go.Bf
set_option maxRecDepth 100000
section
variable{M:Mv}{W W' W'':Vw}{G:AY}{H H' H'':Heap}{n n' n'':Nat}{s s':Vs}{f f':Fr}{r:List Fr}{c c':Cf}{cr:List Cf}{fb:Nat}{k:KV}{E:Ev}
theorem AVO{g:List Cv×Fr->Option Vs}(h:(f.pop 1).bind g=some s'):∃o,f.pop 1=some ([o],{f with stk:=f.stk.drop 1})/\g ([o],{f with stk:=f.stk.drop 1})=some s':=by
 obtain⟨⟨d,p⟩,i,k⟩:=Option.bind_eq_some_iff.1 h
 obtain⟨a,b,rfl⟩:=pop_inv i
 have m:d.length=1:=by rw[b,List.length_reverse,List.length_take];omega
 match d,m with
 |[o],_=>exact⟨o,i,k⟩
theorem AUE(h:Vm M W G H n (s.top r f))(hp:W.fv=.F9 fb 0 (r.length+1) 16){i:Nat}(hi:i<f.fl.pool.names.length):∃d,AX (.ptr fb (r.length*16+0+4+1)) G H=some d/\∃p,Ai 1 d (.int .i64 (.ofNat i) 0)=some p/\AX p G H=some (f.fl.pool.names.getD i (0,0)).v:=by
 obtain⟨c,cr,t⟩:=h.tf2 hp
 obtain⟨m,d,q,u,w,x,g,-,k,-⟩:=t.at'.pool
 exact⟨d,t.ld (o:=5) (t.at'.ATf k),AfC g hi⟩
theorem AT4(D:Wd M G E){q i b:Nat}{d2:V}(h:Vm M W G H n (s.top r f))(hp:W.fv=.F9 fb 0 (r.length+1) 16)(gd:Gd (s.top r f))(hq:q=23∨q=24)(hi:i<f.fl.pool.names.length)(hb:b<n/\W.own b=0/\M.kb<b)(gb:T.get H b=some (one (Ins.cells ⟨.ofNat q,.ofNat i⟩)))
 (hs:Jd E ⟨.ofNat q,.ofNat i⟩ s r f=some s') (hk:Oc M W G H n k s'):EU lfp G (Runs F G) k (.ptr M.kb 0) (.ptr fb (r.length*16)) (.ptr b 0) d2 (.bool true) H n:=by
 delta EU
 rw[BP]
 obtain⟨g8,d3⟩:=gd.fr f (List.mem_cons_self ..)
 have key:∃o,f.pop 1=some ([o],{f with stk:=f.stk.drop 1})/\
  ((q=24/\((match o.th s with|none=>((({f with stk:=f.stk.drop 1}:Fr).push (XL false)).map (s.top r))|some th=>(({f with stk:=f.stk.drop 1}:Fr).push (XL (Dk E.fs th.cls (f.nm (.ofNat i))))).map (s.top r))=some s'))∨
   (q=23/\((match o.th s with|none=>((({f with stk:=f.stk.drop 1}:Fr).push o).map (s.top r))|some th=>bif Dk E.fs th.cls (f.nm (.ofNat i))then(({f with stk:=f.stk.drop 1}:Fr).push o).map (s.top r)else some ((s.top r {f with stk:=f.stk.drop 1}).stop 4))=some s'))):=by
  rcases hq with rfl|rfl
  ·obtain⟨o,Q,R⟩:=AVO (g:=λp=>match(hd0 p.1).th s with|none=>(p.2.push (hd0 p.1)).map (s.top r)|some th=>bif Dk E.fs th.cls (f.nm (.ofNat i))then(p.2.push (hd0 p.1)).map (s.top r)else some ((s.top r p.2).stop 4)) hs
   exact⟨o,Q,.inr ⟨rfl,R⟩⟩
  ·obtain⟨o,Q,R⟩:=AVO (g:=λp=>match(hd0 p.1).th s with|none=>(p.2.push (XL false)).map (s.top r)|some th=>(p.2.push (XL (Dk E.fs th.cls (f.nm (.ofNat i))))).map (s.top r)) hs
   exact⟨o,Q,.inl ⟨rfl,R⟩⟩
 obtain⟨o,I,d⟩:=key
 clear hs
 obtain⟨d4,-,-⟩:=AEf I d3
 have d5:o.o<=s.hp.length:=d4 o (List.mem_cons_self ..)
 have g9:=h.bk
 have kn:=h.kn
 refine Wy h hp I λC H1 B v h1 m w1 d6 _ S i0=>?_
 rw[<-d6]at S
 have w:=w1.trans hp
 have d7:=(m.zero b hb.1 hb.2.1 (by omega)).trans gb
 have d8:b<B/\C.own b=0:=⟨by have:=m.le;omega,(m.own b hb.1).trans hb.2.1⟩
 have U:=hk.kz m
 clear hk m
 obtain⟨p,a1,a2,-,-⟩:=iF (u:=.i64) D.g S (i:=0) (x:=o) rfl
 rw[a1,AP,a2,AP]
 refine Di rfl λH2 f2 g2=>?_
 refine Rn g2 rfl rfl (by omega) λY g3 s3=>?_
 have f3:Kp H1 B Y (B+1):=⟨by omega,λid d9=>by rw[s3 _ (by omega),f2.same _ d9]⟩
 obtain⟨J,Z⟩:=h1.kp f3
 have K:=(f3.same b d8.1).trans d7
 have L:=U.kz Z
 clear U Z
 have la:AX (.ptr B (0+1)) G Y=some (adr C.ob o.o):=AU (off:=0+1) g3 rfl
 have lw:Aj 2 (.ptr B 0) G Y=some (wv C.ob o):=CG g3 (by omega) rfl
 have lq:AX (.ptr b (0+0)) G Y=some (.int .i64 (.ofNat q) 0):=AU (off:=0+0) K rfl
 rw[Ah,AP,la,AP,ASS,AP]
 have d0:∀{W4:Vw} {N:Heap} {O:Nat} {y:Bool} {X:Prop},Vm M W4 G N O (s.top r {f with stk:=f.stk.drop 1})->W4.fv=.F9 fb 0 (r.length+1) 16->Oc M W4 G N O k s'->q=24->(({f with stk:=f.stk.drop 1}:Fr).push (XL y)).map (s.top r)=some s'->
  AZ (.bool (decide (q=24))) true (Runs F G VP [.bool y] N O λf0 H n=>Bc (Ar 2 1 [(.int .i64 (.ofNat 0) 0),.Bo] [(0,.c f0)] E0) H n λf1 H n=>Runs F G Aq [.ptr M.kb 0,.ptr fb (r.length*16),f1] H n λi1 H n=>k (.Dl []) H n) X:=by
  intro W4 N O y X h4 f5 A e hs
  rw[decide_eq_true e,BP]
  exact AJj h4 f5 hs A
 by_cases P:o.o=0
 ·have hn:o.th s=none:=by unfold Cv.th;rw[decide_eq_true P];rfl
  rw[decide_eq_true P,Bool.not_true]
  repeat (first|with_reducible refine AB2 ?_|with_reducible refine AUI ?_|with_reducible refine pz ?_)
  rw[Ah,AP,lq,AP,ER,AP]
  rw[hn]at d
  rcases d with⟨e,hs⟩|⟨e,hs⟩
  ·exact d0 J w L e hs
  ·rw[decide_eq_false (by omega),BG,AP,la,AP,ASS,AP,decide_eq_true P,Bool.not_true]
   repeat (first|with_reducible refine AB2 ?_|with_reducible refine pz ?_)
   rw[BG,lw,AP]
   exact ALX J w hs L
 ·obtain⟨j,th,Q,R,e3⟩:=AT5 P d5
  have f6:adr C.ob o.o=.ptr (C.ob j) 0:=by rw[Q];rfl
  obtain⟨v1,x1,p2,x2,x3⟩:=AUE J w (i:=i) hi
  rw[decide_eq_false P,Bool.not_false]
  rw[e3]at d
  have f7:AX (.ptr B (0+1)) G Y=some (.ptr (C.ob j) 0):=by rw[<-f6];exact la
  refine iQ rfl (iQ (DV ..) (iQ (Ah ..) (iQ (AU (off:=0+0) J.box (v:=.ptr M.i 0) rfl) (iQ (DV ..) (iQ (Ah ..) (iQ (AU (off:=0+0) J.ASf.at' (v:=.ptr M.t 0) rfl) (iQ rfl (iQ f7 (iQ (DV ..) (iQ (Ah ..) (iQ (J.obj (i:=j) (th:=th) R).1
   (iQ rfl (iQ (DV ..) (iQ (Ah ..) (iQ (Ah ..) (iQ (Ah ..) (iQ x1 (iQ rfl (iQ (AU (off:=0+1) K (v:=.int .i64 (.ofNat i) 0) rfl) (iQ x2 (iQ x3 (AYP ?_))))))))))))))))))))))
  refine ANz J.ASf.tab (Nat.le_refl _) D.len λN O f4=>?_
  obtain⟨h4,f8⟩:=J.kb f4
  have f9:b<B+1:=by omega
  have g0:=(f4.same b f9 (by omega)).trans K
  have g4:=(f4.same B (by omega) (by have:=h1.kn;omega)).trans g3
  have A:=L.kz f8
  have g1:AX (.ptr B (0+1)) G N=some (adr C.ob o.o):=AU (off:=0+1) g4 rfl
  have g5:Aj 2 (.ptr B 0) G N=some (wv C.ob o):=CG g4 (by omega) rfl
  have g6:f.nm (.ofNat i)=f.fl.pool.names.getD i (0,0):=rfl
  rw[g6,D.fs]at d
  refine mQ ?_
  rw[Ah,AP,AU (off:=0+0) g0 (v:=.int .i64 (.ofNat q) 0) rfl,AP,ER,AP]
  rcases d with⟨e,hs⟩|⟨e,hs⟩
  ·exact d0 h4 w A e hs
  ·rw[decide_eq_false (by omega),BG,AP,g1,AP,ASS,AP,decide_eq_false P,Bool.not_false]
   refine iQ rfl (iQ (BZ _) (mQ ?_))
   have hs:(bif Dk M.fs th.cls (f.fl.pool.names.getD i (0,0))then(({f with stk:=f.stk.drop 1}:Fr).push o).map (s.top r)else some ((s.top r {f with stk:=f.stk.drop 1}).stop 4))=some s':=hs
   cases d1:Dk M.fs th.cls (f.fl.pool.names.getD i (0,0))with
   |true=>
    rw[d1]at hs
    show AZ (.bool false) true _ _
    rw[BG,g5,AP]
    exact ALX h4 w hs A
   |false=>
    rw[d1]at hs
    have hs:some ((s.top r {f with stk:=f.stk.drop 1}).stop 4)=some s':=hs
    cases hs
    show AZ (.bool true) true _ _
    rw[BP]
    exact ZV h4 λH5 h5 g7=>A C H5 O h5 g7
end
section
variable{M:Mv}{W W' W'':Vw}{G:AY}{H H' H'':Heap}{n n' n'':Nat}{s s':Vs}{f f':Fr}{r:List Fr}{c c':Cf}{cr:List Cf}{fb:Nat}{k:KV}{E:Ev}
theorem Ab1{q:Nat}{g:List Cv×Fr->Option Vs}(h:(f.pop q).bind g=some s'):∃ws,f.pop q=some (ws,{f with stk:=f.stk.drop q})/\ws.length=q/\g (ws,{f with stk:=f.stk.drop q})=some s':=by
 obtain⟨⟨ws,k⟩,d,i⟩:=Option.bind_eq_some_iff.1 h
 obtain⟨a,b,rfl⟩:=pop_inv d
 exact⟨ws,d,by rw[b,List.length_reverse,List.length_take];omega,i⟩
theorem AQ7(D:Wd M G E){b:Nat}{p:PM}{w v:V}{ws:List Cv}(h:Vm M W G H n s)(g:T.get H b=some (one (p.cells w)))(i:GY G H n w p.m.ps)(q:El G H v 2 (wls W.ob ws))(f:∀d,v.XZ=some d->d<n/\W.own d=0/\d≠M.b)
 (hs:JZ E p ws s=some s') (u:Oc M W G H n k s'):F6 lfp G (Runs F G) k (.ptr M.kb 0) (.ptr b 0) v H n:=by
 delta F6
 rw[CG (m:=6) g (by omega) rfl,AP]
 exact AQ4 D h i q f hs u
theorem ATq(D:Wd M G E){q i b:Nat}{d3:V}(h:Vm M W G H n (s.top r f))(hp:W.fv=.F9 fb 0 (r.length+1) 16)(gd:Gd (s.top r f))(hq:q=25∨q=26)(hi:i<f.fl.pool.Bg.length)(hb:b<n/\W.own b=0/\M.kb<b)(gb:T.get H b=some (one (Ins.cells ⟨.ofNat q,.ofNat i⟩)))
 (hs:Jd E ⟨.ofNat q,.ofNat i⟩ s r f=some s') (hk:Oc M W G H n k s'):EX lfp G (Runs F G) k (.ptr M.kb 0) (.ptr fb (r.length*16)) (.ptr b 0) d3 (.bool true) H n:=by
 delta EX
 rw[BP]
 obtain⟨f7,d4⟩:=gd.fr f (List.mem_cons_self ..)
 obtain⟨c,cr,t⟩:=h.tf2 hp
 obtain⟨v0,v1,v2,v3,v4,vs,po,-,-,-,-,c8⟩:=t.at'.pool
 obtain⟨p,w,x1,x2,x3,x4⟩:=AfS po hi
 have f8:=h.bk
 have kn:=h.kn
 have d5:GY G H M.kb w (f.fl.pool.Bg.getD i mZ).m.ps:=po.at4 i _ _ x4 x3
 have d6:f.me (.ofNat i)=f.fl.pool.Bg.getD i mZ:=rfl
 rw[DV,AP,Ah,AP,Ah,AP,Ah,AP,show AX (.ptr fb (r.length*16+0+4+4)) G H=some v4 from t.ld (o:=8) (t.at'.ATf c8),AP,Ah,AP,AU (off:=0+1) gb (v:=.int .i64 (.ofNat i) 0) rfl,AP,x1,AP,x2,AP]
 have d7:q=25->(f.pop ((f.fl.pool.Bg.getD i mZ).m.ps.length+1)).bind (λp=>match(hd0 p.1).th s with|none=>some ((s.top r p.2).stop 1)|some th=>JZ E ⟨(f.fl.pool.Bg.getD i mZ).m,th.cls⟩ p.1 (s.top r p.2))=some s':=λe=>by subst e;exact hs
 have d8:q=26->(f.pop (f.fl.pool.Bg.getD i mZ).m.ps.length).bind (λp=>JZ E (f.fl.pool.Bg.getD i mZ) p.1 (s.top r p.2))=some s':=λe=>by subst e;exact hs
 clear hs x1 x2 x3 x4 d6
 generalize f.fl.pool.Bg.getD i mZ=pm at*
 refine Di rfl λH2 f2 g2=>?_
 refine Rn g2 rfl rfl (by omega) λH3 g3 s3=>?_
 have f3:Kp H n H3 (n+1):=⟨by omega,λI B=>by rw[s3 _ (by omega),f2.same _ B]⟩
 obtain⟨X,J⟩:=h.kp f3
 have L:=(f3.same b hb.1).trans gb
 have N:GY G H3 M.kb w pm.m.ps:=d5.ke ((J.kb h).ke h.seen)
 have hl:lenV w=some (.int .i64 (.ofNat pm.m.ps.length) 0):=by rw[N.el.len,EP]
 have lq:AX (.ptr b (0+0)) G H3=some (.int .i64 (.ofNat q) 0):=AU (off:=0+0) L rfl
 rw[Ah,AP,Ah,AP,AU (off:=0+0+2) g3 (v:=w) rfl,AP,hl,AP,Ah,AP,lq,AP,ER,AP]
 have O:W.own n=0:=h.hi n (Nat.le_refl _)
 rcases hq with rfl|rfl
 ·obtain⟨Y,y,d9,hs⟩:=Ab1 (d7 rfl)
  have d0:pm.m.ps.length+1<9223372036854775808:=by have:=(pop_inv y).1;have:=t.at'.sm.1;omega
  rw[decide_eq_true rfl,BP,DI d0,AP]
  delta F7
  refine Wy X hp y λZ H4 n4 v h4 d w4 P _ C K=>?_
  rw[<-P]at C
  have Q:=(d.zero b (by omega) hb.2.1 (by omega)).trans L
  have g4:=(d.zero n (by omega) O (by omega)).trans g3
  have x:GY G H4 M.kb w pm.m.ps:=N.ke ((d.kb X).ke X.seen)
  have f0:=d.le
  have R:Z.own n=0:=(d.own n (by omega)).trans O
  have A:=J.trans d
  clear J d
  rw[Ah,AP,AU (off:=0+0) Q (v:=.int .i64 (.ofNat 25) 0) rfl,AP,ER,AP,decide_eq_true rfl,BP]
  obtain⟨f1,-,-⟩:=AEf y d4
  obtain⟨o,S⟩:∃o,Y[0]? =some o:=⟨_,List.getElem?_eq_getElem (by omega)⟩
  have f4:o.o<=s.hp.length:=f1 o (List.mem_of_getElem? S)
  have hd:hd0 Y=o:=by unfold hd0;rw[List.getD_eq_getElem?_getD,S];rfl
  obtain⟨p,a1,-,-,q1,a2,a3⟩:=iF (u:=.i64) D.g C S
  have hs:(match(hd0 Y).th s with|none=>some ((s.top r {f with stk:=f.stk.drop (pm.m.ps.length+1)}).stop 1)|some th=>JZ E ⟨pm.m,th.cls⟩ Y (s.top r {f with stk:=f.stk.drop (pm.m.ps.length+1)}))=some s':=hs
  rw[hd]at hs
  rw[a1,AP,a2,AP,a3,AP,ATE,AP]
  cases h0:decide (o.o=0)with
  |true=>
   have h0:=of_decide_eq_true h0
   have hn:o.th s=none:=by unfold Cv.th;rw[decide_eq_true h0];rfl
   rw[hn]at hs
   have hs:some ((s.top r {f with stk:=f.stk.drop (pm.m.ps.length+1)}).stop 1)=some s':=hs
   cases hs
   rw[BP]
   exact ZV h4 λH5 h5 f5=>hk Z H5 n4 h5 (A.trans f5)
  |false=>
   have h0:=of_decide_eq_false h0
   obtain⟨j,th,e1,e2,e3⟩:=AT5 h0 f4
   have f6:adr Z.ob o.o=.ptr (Z.ob j) 0:=by rw[e1];rfl
   rw[e3]at hs
   have hs:JZ E ⟨pm.m,th.cls⟩ Y (s.top r {f with stk:=f.stk.drop (pm.m.ps.length+1)})=some s':=hs
   rw[BG,AP,a2,AP,a3,AP,f6,DV,AP,Ah,AP,(h4.obj (i:=j) (th:=th) e2).1,AP,Ah,AP]
   refine vC g4 rfl rfl (by omega) (by show 0+5+1<=6;omega) λH5 g5 s5=>?_
   have h5:=h4.ASe R (by omega) s5
   have d1:Kb M.b H4 M.kb H5 M.kb:=⟨Nat.le_refl _,λI q _=>s5 I (by omega),λq=>q.same (s5 _ (by omega))⟩
   have d2:GY G H5 n4 w pm.m.ps:=by
    have:=x.ke (d1.ke h4.seen)
    exact⟨this.el,this.lo.mono (by omega),this.lt,this.ok⟩
   refine AQ7 D (p:=⟨pm.m,th.cls⟩) (w:=w) h5 g5 d2 (C.same λI B=>s5 I (by have:=K I B;omega)) (λI B=>by have:=K I B;exact⟨by omega,this.2.2,by omega⟩) hs λW6 H6 n6 h6 U=>hk W6 H6 n6 h6 ((⟨A.le,A.own,λI q1 q2 q3=>(s5 I (by omega)).trans (A.zero I q1 q2 q3),λq=>(A.seen q).same (s5 _ (by omega))⟩:Kz M W H n Z H5 n4).trans U)
 ·obtain⟨Y,y,d9,hs⟩:=Ab1 (d8 rfl)
  rw[decide_eq_false (by decide),BG]
  delta F7
  refine Wy X hp y λZ H4 n4 v h4 d w4 P _ C K=>?_
  rw[<-P]at C
  have Q:=(d.zero b (by omega) hb.2.1 (by omega)).trans L
  have g4:=(d.zero n (by omega) O (by omega)).trans g3
  have x:GY G H4 M.kb w pm.m.ps:=N.ke ((d.kb X).ke X.seen)
  have f0:=d.le
  rw[Ah,AP,AU (off:=0+0) Q (v:=.int .i64 (.ofNat 26) 0) rfl,AP,ER,AP,decide_eq_false (by decide),BG]
  exact AQ7 D (p:=pm) (w:=w) h4 g4 ⟨x.el,x.lo.mono (by omega),x.lt,x.ok⟩ C (λI B=>by have:=K I B;exact⟨by omega,this.2.2,by omega⟩) hs λW6 H6 n6 h6 U=>hk W6 H6 n6 h6 ((J.trans d).trans U)
theorem AVj(D:Wd M G E){q i nl:Nat}(h:Vm M W G H n (s.top r f))(hp:W.fv=.F9 fb 0 (r.length+1) 16)(O:Gd (s.top r f))(hq:16<=q/\q<=26)(y:AGS f.fl.pool nl q i)
 (hs:Jd E ⟨.ofNat q,.ofNat i⟩ s r f=some s') (hk:Oc M W G H n k s'):Runs F G aX [.ptr M.kb 0,.ptr fb (r.length*16),.agg (Ins.cells ⟨.ofNat q,.ofNat i⟩)] H n k:=by
 refine go3 (yL BF G) ?_
 delta Zu
 have f0:=h.bk
 have kn:=h.kn
 obtain⟨d4,T⟩:=O.fr f (List.mem_cons_self ..)
 have d5:W.own n=0:=h.hi n (Nat.le_refl _)
 refine FT λH1 f1 P=>?_
 obtain⟨A,U⟩:=h.kp f1
 have d:=hk.kz U
 have I:n<n+1/\W.own n=0/\M.kb<n:=⟨by omega,d5,kn⟩
 clear hk U
 rw[Ah,AP,AU (off:=0+0) P (v:=.int .i64 (.ofNat q) 0) rfl,AP,ER,AP]
 by_cases V:q=18
 ·subst V
  have hi:=y.nm (.inl rfl)
  obtain⟨v1,x1,p2,x2,x3⟩:=AUE A hp (i:=i) hi
  rw[decide_eq_true rfl,BP,DV,AP,Ah,AP,Ah,AP,Ah,AP,x1,AP,Ah,AP,AU (off:=0+1) P (v:=.int .i64 (.ofNat i) 0) rfl,AP,x2,AP,x3,AP,DV,AP,Ah,AP,AU (off:=0+0) A.box (v:=.ptr M.i 0) rfl,AP]
  refine AXS A.ASf D.len D.sm λ_ H2 n2 f2=>?_
  obtain⟨Q,B⟩:=A.kb f2
  have hs:XC s r f (sizeT E.fs (f.fl.pool.names.getD i (0,0)):Nat) (λvs=>⟨f.fl.pool.names.getD i (0,0),false,BU,[],vs⟩)=some s':=hs
  rw[D.fs]at hs
  exact AP6 Q hp O hs (λ_=>⟨rfl,rfl⟩) (d.kz B)
 rw[decide_eq_false V,BG,ER,AP]
 by_cases X:q=19
 ·subst X
  obtain⟨o,w,hs⟩:=AVO (g:=λp=>XC s r p.2 (hd0 p.1).n λvs=>⟨(0,0),true,f.fl.pool.types.getD i BU,[],vs⟩) hs
  rw[decide_eq_true rfl,BP]
  refine Wy A hp w λY H2 n2 v Q B w2 R _ C d6=>?_
  rw[<-R]at C
  obtain⟨p,a1,-,⟨q1,a2,a3⟩,-⟩:=iF (u:=.i64) D.g C (i:=0) (x:=o) rfl
  obtain⟨Z,d0,d1⟩:=AEf w T
  rw[a1,AP,a2,AP,a3,AP]
  exact AP6 (cls:=(0,0)) Q (w2.trans hp) (O.top (by rw[d1];exact d4) d0) hs (λ_=>⟨rfl,rfl⟩) (d.kz B)
 rw[decide_eq_false X,BG,ER,AP]
 by_cases J:q=23
 ·rw[decide_eq_true J,BP]
  exact AT4 D A hp O (.inl J) (y.nm (.inr (.inl J))) I P hs d
 rw[decide_eq_false J,BG,ER,AP]
 by_cases K:q=24
 ·rw[decide_eq_true K]
  exact AT4 D A hp O (.inr K) (y.nm (.inr (.inr K))) I P hs d
 rw[decide_eq_false K]
 delta EU
 rw[BG,ER,AP]
 by_cases L:q=25
 ·rw[decide_eq_true L,BP]
  exact ATq D A hp O (.inl L) (y.me (.inl L)) I P hs d
 rw[decide_eq_false L,BG,ER,AP]
 by_cases N:q=26
 ·rw[decide_eq_true N]
  exact ATq D A hp O (.inr N) (y.me (.inr N)) I P hs d
 rw[decide_eq_false N]
 delta EX
 rw[BG,ER,AP]
 by_cases d2:q=22
 ·subst d2
  obtain⟨o,w,hs⟩:=AVO (g:=λp=>match(hd0 p.1).th s with|none=>some ((s.top r p.2).stop 1)|some th=>(p.2.push ⟨(th.vals.length:Nat),0⟩).map (s.top r)) hs
  rw[decide_eq_true rfl,BP]
  refine Wy A hp w λY H2 n2 v Q B w2 R _ C d6=>?_
  rw[<-R]at C
  obtain⟨p,a1,-,-,q1,a2,a3⟩:=iF (u:=.i64) D.g C (i:=0) (x:=o) rfl
  obtain⟨Z,d0,d1⟩:=AEf w T
  have d7:o.o<=s.hp.length:=Z o (List.mem_cons_self ..)
  have hs:(match o.th s with|none=>some ((s.top r {f with stk:=f.stk.drop 1}).stop 1)|some th=>(({f with stk:=f.stk.drop 1}:Fr).push ⟨(th.vals.length:Nat),0⟩).map (s.top r))=some s':=hs
  have d3:=d.kz B
  rw[a1,AP,a2,AP,a3,AP,ATE,AP]
  cases S:decide (o.o=0)with
  |true=>
   have S:=of_decide_eq_true S
   have hn:o.th s=none:=by unfold Cv.th;rw[decide_eq_true S];rfl
   rw[hn]at hs
   have hs:some ((s.top r {f with stk:=f.stk.drop 1}).stop 1)=some s':=hs
   cases hs
   rw[BP]
   exact ZV Q λH5 h5 d8=>d3 Y H5 n2 h5 d8
  |false=>
   have S:=of_decide_eq_false S
   obtain⟨j,th,e1,e2,e3⟩:=AT5 S d7
   have d9:adr Y.ob o.o=.ptr (Y.ob j) 0:=by rw[e1];rfl
   rw[e3]at hs
   rw[BG,d9,DV,AP,Ah,AP,(Q.obj (i:=j) (th:=th) e2).2,AP,show lenV (.sl (Y.pb j) 0 th.vals.length th.vals.length 2)=some (.int .i64 (.ofNat th.vals.length) 0)from rfl,AP,ABB,AP]
   exact AG4 Q (w2.trans hp) hs d3
 rw[decide_eq_false d2,BG,CG (m:=2) P (by omega) rfl,AP]
 exact AZc D A hp O (by omega) y.fl hs d
end
section
variable{M:Mv}{W W' W'':Vw}{G:AY}{H H' H'':Heap}{n n' n'':Nat}{s s':Vs}{f f':Fr}{r:List Fr}{c c':Cf}{cr:List Cf}{fb:Nat}{k:KV}{E:Ev}
theorem AFc{g:List Cv×Fr->Vs}(h:(f.pop 1).map g=some s'):∃o,f.pop 1=some ([o],{f with stk:=f.stk.drop 1})/\g ([o],{f with stk:=f.stk.drop 1})=s':=by
 obtain⟨⟨d,p⟩,i,k⟩:=Option.map_eq_some_iff.1 h
 obtain⟨a,b,rfl⟩:=pop_inv i
 have m:d.length=1:=by rw[b,List.length_reverse,List.length_take];omega
 match d,m with
 |[o],_=>exact⟨o,i,k⟩
theorem AOR{j:Nat}(h:Vm M W G H n (s.top r f))(hp:W.fv=.F9 fb 0 (r.length+1) 16)(m:j<=100000)(p:∀W' H',Vm M W' G H' n (s.top r {f with pc:=j})->Kz M W H n W' H' n->W'.fv=W.fv->k .undef H' n):
 Bz 1 (.ptr fb (r.length*16+13)) (.int .i64 (.ofNat j) 0) H n k:=by
 obtain⟨c,cr,t⟩:=h.tf2 hp
 have d:=t.at'.len
 refine Tf.st (c':=c) (f':={f with pc:=j}) h t (o:=13) (by omega) rfl rfl ?_ (λi q u=>?_) λi v w g=>p _ i v g rfl
 ·unfold Fr.cells
  rw[List.set_append_right _ _ (by omega),d];rfl
 ·have:=t.at'.same (W':={W with cf:=c::cr}) q ⟨rfl,rfl⟩ u
  exact⟨this.len,this.file,this.code,this.nl,this.loc,this.stk,this.sm.1,this.sm.2.1,m⟩
theorem Acy{u:IntKind}(t:Tf M W G H n f r c cr fb){i:Nat}{v:Cv}(hi:f.loc[i]? =some v):∃p,Ai 2 (.sl c.lb 0 f.loc.length f.loc.length 2) (.int u (.ofNat i) 0)=some p/\Aj 2 p G H=some (wv W.ob v):=by
 obtain⟨-,m,g,k⟩:=t.at'.loc
 have d:=(List.getElem?_eq_some_iff.1 hi).1
 refine⟨_,AMV d,Bj (c:=wcs W.ob v) ?_⟩
 show mY H _ _ 2=_
 rw[Nat.zero_add,bI g (by omega) d]
 exact k i v hi
theorem Adn{u:IntKind}(h:Vm M W G H n (s.top r f))(t:Tf M W G H n f r c cr fb){i:Nat}{v:Cv}(hi:i<f.loc.length)(E:∀W' H',Vm M W' G H' n (s.top r {f with loc:=f.loc.set i v})->Kz M W H n W' H' n->k .undef H' n):
 AL (Ai 2 (.sl c.lb 0 f.loc.length f.loc.length 2) (.int u (.ofNat i) 0)) λp=>Bz 2 p (wv W.ob v) H n k:=by
 obtain⟨⟨F,C⟩,Y,I,D⟩:=t.at'.loc
 rw[AMV hi,AP,Nat.zero_add]
 refine APq I (by omega) hi (D i _ (List.getElem?_eq_getElem hi)) rfl rfl λy J K=>?_
 have N:=h.bk
 have e:∀d,W.own d≠4*r.length+4->T.get y d=T.get H d:=λd q=>K d λe=>q (by rw[e];exact C)
 have g:Kb M.b H M.kb y M.kb:=⟨Nat.le_refl _,λd q _=>e d (by rw[h.lo d q];omega),λq=>q.same (e _ (by rw[h.lo _ N];omega))⟩
 have ke:=g.ke (G:=G) h.seen
 obtain⟨A,O,P,Q,R,S⟩:=t.blk
 have U:=t.fbn
 have B:f.cells c=({f with loc:=f.loc.set i v}:Fr).cells c:=by
  unfold Fr.cells
  show _=c.L++[_,_,_,_,V.sl c.lb 0 (f.loc.set i v).length (f.loc.set i v).length 2,_]
  rw[List.length_set]
 obtain⟨X,-⟩:=h.Aco (W':=W) (f':={f with loc:=f.loc.set i v}) (c':=c) (H':=y) (n':=n) t (Nat.le_refl _) ⟨rfl,rfl,rfl,t.cf,rfl⟩ (λ_ _=>rfl) h.hi
  ⟨t.at'.len,t.at'.file.ke ke,t.at'.code.ke ke,by show((f.loc.set i v).length:Int)=_;rw[List.length_set];exact t.at'.nl,⟨⟨F,C⟩,_,by show _=some (Nu.arr 2 (f.loc.set i v).length _);rw[List.length_set];exact J,λm w x=>by
   have x:(f.loc.set i v)[m]? =some w:=x
   by_cases e:i=m
   ·subst e
    rw[List.getElem?_set_self hi]at x
    cases x
    rw[T.Ag];rfl
   ·rw[List.getElem?_set_ne e]at x
    rw[T.Ac _ _ e];exact D m w x⟩,t.at'.stk.mono (λ_ h=>h) λd q=>e d (by omega),t.at'.sm⟩
  ⟨A,O,(e _ (by omega)).trans P,Q,by rw[<-B];exact R,S⟩ g λd _ _ _ q _=>e d q
 exact E W y X ⟨Nat.le_refl _,λ_ _=>rfl,λd _ q _=>e d (by omega),g.seen⟩
end
theorem AaI(x:Int):Af5 (.int .i64 x 0)=some (.int .i64 (i64 .sub 0 x) 0):=by
 have e:B2.ev .sub (.int .i64 0 0) (.int .i64 x 0)=some (.int .i64 (Z7 .i64 (AHI 0 (Int.neg x))) 0):=rfl
 rw[AY1 e]
 show some (V.int .i64 (Z7 .i64 (Int.neg x)) 0)=_
 rw[jv,Int.zero_add]
section
variable{M:Mv}{W W' W'':Vw}{G:AY}{H H' H'':Heap}{n n' n'':Nat}{s s':Vs}{f f':Fr}{r:List Fr}{c c':Cf}{cr:List Cf}{fb:Nat}{k:KV}{E:Ev}
theorem AWw(I:Vz G){q i b:Nat}(h:Vm M W G H n (s.top r f))(hp:W.fv=.F9 fb 0 (r.length+1) 16)(J:Gd (s.top r f))(K:5<=q/\q<=13)(D:b<n/\W.own b=0/\M.kb<b)(E:T.get H b=some (one (Ins.cells ⟨.ofNat q,.ofNat i⟩)))
 (hs:(f.pop 2).bind (λp=>ADG (.ofNat q) p.1 s r p.2)=some s') (L:Oc M W G H n k s'):BQ lfp G (Runs F G) k (.ptr M.kb 0) (.ptr fb (r.length*16)) (.ptr b 0) (.bool true) H n:=by
 delta BQ
 have N:=h.bk
 obtain⟨O,w⟩:=J.fr f (List.mem_cons_self ..)
 obtain⟨P,d,A,hs⟩:=Ab1 hs
 obtain⟨g,-,-⟩:=AEf d w
 rw[BP,Ah,AP,AU (off:=0+0) E (v:=.int .i64 (.ofNat q) 0) rfl,AP]
 refine Wy h hp d λU V X v Q m R B _ u S=>?_
 rw[<-B]at u
 have C:=(m.zero b D.1 D.2.1 (by omega)).trans E
 rw[AU (off:=0+0) C (v:=.int .i64 (.ofNat q) 0) rfl,AP]
 refine AKE (ABG ..) ?_
 match P,A with
 |[x,y],_=>exact Adt I Q (R.trans hp) K u (g x (List.mem_cons_self ..)) (g y (List.mem_cons_of_mem _ (List.mem_cons_self ..))) hs (L.kz m)
theorem Aar(D:Wd M G E){q i:Nat}(h:Vm M W G H n (s.top r f))(hp:W.fv=.F9 fb 0 (r.length+1) 16)(gd:Gd (s.top r f))(hq:q≠29)(d1:Xm (mny f.fl.pool f.bd) ⟨.ofNat q,.ofNat i⟩=true)(hj:q=27∨q=28->i<=100000)(d9:0<=s.steps)(f0:(s.out.length:Int)+1+s.steps<=5000)
 (hs:Jd E ⟨.ofNat q,.ofNat i⟩ s r f=some s') (hk:Oc M W G H n k s'):Runs F G jq [.ptr M.kb 0,.ptr fb (r.length*16),.agg (Ins.cells ⟨.ofNat q,.ofNat i⟩)] H n k:=by
 refine go3 (AE2 BF G) ?_
 delta kS
 obtain⟨q',i',ei,I⟩:=AAZ d1
 cases ei
 have f3:=h.bk
 have kn:=h.kn
 obtain⟨f4,f5⟩:=gd.fr f (List.mem_cons_self ..)
 have Y:W.own n=0:=h.hi n (Nat.le_refl _)
 refine FT λH1 f1 g1=>?_
 obtain⟨K,d2⟩:=h.kp f1
 have A:=hk.kz d2
 have Z:n<n+1/\W.own n=0/\M.kb<n:=⟨by omega,Y,kn⟩
 clear hk d2
 have lc:AX (.ptr n (0+0)) G H1=some (.int .i64 (.ofNat q) 0):=AU (off:=0+0) g1 rfl
 have li:AX (.ptr n (0+1)) G H1=some (.int .i64 (.ofNat i) 0):=AU (off:=0+1) g1 rfl
 obtain⟨c,cr,t⟩:=K.tf2 hp
 rw[Ah,AP,lc,AP,ER,AP]
 by_cases d:q=1
 ·subst d
  have hi:=AZt d1
  obtain⟨v0,v1,v2,v3,v4,vs,po,c4,-,-,-,-⟩:=t.at'.pool
  obtain⟨p,x1,x2⟩:=po.e0.at (i:=i) (c:=[.int .i64 f.fl.pool.nums[i] 0]) (by rw[List.getElem?_map,List.getElem?_eq_getElem hi];rfl)
  have hs:(f.push ⟨f.fl.pool.nums.getD i 0,0⟩).map (s.top r)=some s':=hs
  rw[show f.fl.pool.nums.getD i 0=f.fl.pool.nums[i]by rw[List.getD_eq_getElem?_getD,List.getElem?_eq_getElem hi];rfl]at hs
  rw[decide_eq_true rfl,BP,DV,AP,Ah,AP,Ah,AP,Ah,AP,show AX (.ptr fb (r.length*16+0+4+0)) G H1=some v0 from t.ld (o:=4) (t.at'.ATf c4),AP,Ah,AP,li,AP,x1,AP,Jv x2,AP,ABB,AP]
  exact AG4 K hp hs A
 rw[decide_eq_false d,BG,ER,AP]
 have z0:=d
 clear d
 by_cases d:q=32
 ·subst d
  rw[decide_eq_true rfl,BP,Ah,AP,li,AP,ABB,AP]
  exact AG4 K hp hs A
 rw[decide_eq_false d,BG,ER,AP]
 have z1:=d
 clear d
 by_cases d:q=2
 ·subst d
  rw[decide_eq_true rfl,BP,show BH [.int .i64 (.ofNat 0) 0,.Bo] []=some (.agg [.int .i64 0 0,.Bo])from rfl,AP]
  exact AG4 K hp hs A
 rw[decide_eq_false d,BG,ER,AP]
 have z2:=d
 clear d
 have f6:f.loc.length=f.bd.locals.toNat:=by have:=t.at'.nl;omega
 have d3:AX (.ptr fb (r.length*16+14)) G H1=some (.sl c.lb 0 f.loc.length f.loc.length 2):=t.ld (o:=14) (t.at'.cell (o:=4) rfl)
 by_cases d:q=3
 ·subst d
  have hi:i<f.loc.length:=by have:=I.lc (.inl rfl);omega
  have hs:(f.push (f.loc.getD i PD)).map (s.top r)=some s':=hs
  rw[show f.loc.getD i PD=f.loc[i]by rw[List.getD_eq_getElem?_getD,List.getElem?_eq_getElem hi];rfl]at hs
  obtain⟨p,x1,x2⟩:=Acy (u:=.i64) t (List.getElem?_eq_getElem hi)
  rw[decide_eq_true rfl,BP,DV,AP,Ah,AP,d3,AP,Ah,AP,li,AP,x1,AP,x2,AP]
  exact ALX K hp hs A
 rw[decide_eq_false d,BG,ER,AP]
 have z3:=d
 clear d
 by_cases d:q=4
 ·subst d
  have hi:i<f.loc.length:=by have:=I.lc (.inr rfl);omega
  obtain⟨o,w,rfl⟩:=AFc (g:=λp=>s.top r {p.2 with loc:=p.2.loc.set i (hd0 p.1)}) hs
  rw[decide_eq_true rfl,BP,DV,AP,Ah,AP,d3,AP,Ah,AP,li,AP]
  refine Wy K hp w λU V P v L B Q C J y N=>?_
  rw[<-C]at y
  obtain⟨c2,f7,t2⟩:=L.tf2 (Q.trans hp)
  have d4:c2.lb=c.lb:=by
   have:=J.2
   rw[t2.cf,t.cf]at this
   exact(List.cons.inj this).1
  have g4:=(B.zero n Z.1 Y (by omega)).trans g1
  have d0:AX (.ptr fb (r.length*16+14)) G V=some (.sl c.lb 0 f.loc.length f.loc.length 2):=by rw[<-d4];exact t2.ld (o:=14) (t2.at'.cell (o:=4) rfl)
  rw[d0,AP]
  refine AKE (AXj ..) ?_
  rw[AU (off:=0+1) g4 (v:=.int .i64 (.ofNat i) 0) rfl,AP]
  refine AKE (ABG ..) ?_
  obtain⟨p,R,S,-,-⟩:=iF (u:=.i64) D.g y (i:=0) (x:=o) rfl
  rw[R,AP,S,AP,<-d4]
  exact Adn L t2 hi λW5 H5 X O=>A W5 H5 P X (B.trans O)
 rw[decide_eq_false d,BG,ER,AP]
 have z4:=d
 clear d
 by_cases d:q=27
 ·subst d
  have hs:some (s.top r {f with pc:=i})=some s':=hs
  cases hs
  rw[decide_eq_true rfl,BP,Ah,AP,li,AP,DV,AP,Ah,AP]
  exact AOR K hp (hj (.inl rfl)) λW5 H5 X O _=>A W5 H5 _ X O
 rw[decide_eq_false d,BG,ER,AP]
 have z5:=d
 clear d
 by_cases d:q=28
 ·subst d
  obtain⟨o,w,rfl⟩:=AFc (g:=λp=>s.top r (bif decide ((hd0 p.1).n=0)then{p.2 with pc:=i}else p.2)) hs
  rw[decide_eq_true rfl,BP]
  refine Wy K hp w λU V P v L B Q C J y N=>?_
  rw[<-C]at y
  obtain⟨p,R,-,⟨q2,S,a3⟩,-⟩:=iF (u:=.i64) D.g y (i:=0) (x:=o) rfl
  have g4:=(B.zero n Z.1 Y (by omega)).trans g1
  have T:=A.kz B
  rw[R,AP,S,AP,a3,AP,AHQ,AP]
  have hd:decide (o.n=Int.ofNat 0)=decide ((hd0 [o]).n=0):=rfl
  rw[hd]
  cases hz:decide ((hd0 [o]).n=0)with
  |true=>
   rw[hz]at T
   rw[BP,Ah,AP,AU (off:=0+1) g4 (v:=.int .i64 (.ofNat i) 0) rfl,AP,DV,AP,Ah,AP]
   exact AOR L (Q.trans hp) (hj (.inr rfl)) λW5 H5 X O _=>T W5 H5 P X O
  |false=>
   rw[hz]at T
   rw[BG]
   exact T U V P L .refl
 rw[decide_eq_false d,BG,ER,AP]
 have z6:=d
 clear d
 by_cases d:q=30
 ·subst d
  obtain⟨o,w,rfl⟩:=AFc (g:=λp=>{s.top r p.2 with out:=s.out++[(hd0 p.1).n]}) hs
  rw[decide_eq_true rfl,BP,DV,AP,Ah,AP,AU (off:=0+4) K.box (v:=W.ov) rfl,AP]
  refine Wy K hp w λU V P v L B Q C J y N=>?_
  rw[<-C]at y
  obtain⟨p,R,-,⟨q2,S,a3⟩,-⟩:=iF (u:=.i64) D.g y (i:=0) (x:=o) rfl
  rw[AU (off:=0+4) L.box (v:=U.ov) rfl,AP,J.1]
  refine AKE ?_ ?_
  ·exact K.out.ok.2.2
  rw[R,AP,S,AP,a3,AP]
  refine Aby L (x:=o.n) J.1.symm d9 f0 λv' H5 hP=>?_
  rw[AP,Ah,AP]
  exact hP λW6 H6 h6 f2 _=>A W6 H6 _ h6 (B.trans f2)
 rw[decide_eq_false d,BG,ER,AP]
 have z7:=d
 clear d
 by_cases d:q=31
 ·subst d
  obtain⟨o,w,rfl⟩:=AFc (g:=λp=>s.top r p.2) hs
  rw[decide_eq_true rfl,BP]
  exact Wy K hp w λU V P v L B Q C J y N=>A U V P L B
 rw[decide_eq_false d,BG,ER,AP]
 have z8:=d
 clear d
 by_cases d:q=14
 ·subst d
  obtain⟨o,w,hs⟩:=AVO (g:=λp=>(p.2.push ⟨i64 .sub 0 (hd0 p.1).n,0⟩).map (s.top r)) hs
  rw[decide_eq_true rfl,BP]
  refine Wy K hp w λU V P v L B Q C J y N=>?_
  rw[<-C]at y
  obtain⟨p,R,-,⟨q2,S,a3⟩,-⟩:=iF (u:=.i64) D.g y (i:=0) (x:=o) rfl
  rw[R,AP,S,AP,a3,AP,AaI,AP,ABB,AP]
  exact AG4 L (Q.trans hp) hs (A.kz B)
 rw[decide_eq_false d,BG,ER,AP]
 have z9:=d
 clear d
 by_cases d:q=15
 ·subst d
  obtain⟨o,w,hs⟩:=AVO (g:=λp=>(p.2.push (XL (decide ((hd0 p.1).n=0)))).map (s.top r)) hs
  rw[decide_eq_true rfl,BP]
  refine Wy K hp w λU V P v L B Q C J y N=>?_
  rw[<-C]at y
  obtain⟨p,R,-,⟨q2,S,a3⟩,-⟩:=iF (u:=.i64) D.g y (i:=0) (x:=o) rfl
  rw[R,AP,S,AP,a3,AP,AHQ,AP]
  exact AJj L (Q.trans hp) hs (A.kz B)
 rw[decide_eq_false d,BG,ER,AP]
 have f8:=d
 clear d
 have two:5<=q/\q<=13->BQ lfp G (Runs F G) k (.ptr M.kb 0) (.ptr fb (r.length*16)) (.ptr n 0) (.bool true) H1 (n+1):=λhq=>by
  refine AWw D.g K hp gd hq Z g1 ?_ A
  have c':q=5∨q=6∨q=7∨q=8∨q=9∨q=10∨q=11∨q=12∨q=13:=by omega
  rcases c' with rfl|rfl|rfl|rfl|rfl|rfl|rfl|rfl|rfl<;>exact hs
 by_cases X:q=5
 ·rw[decide_eq_true X,BP];exact two (by omega)
 rw[decide_eq_false X,BG,ER,AP]
 by_cases h6:q=6
 ·rw[decide_eq_true h6,BP];exact two (by omega)
 rw[decide_eq_false h6,BG,ER,AP]
 by_cases h7:q=7
 ·rw[decide_eq_true h7,BP];exact two (by omega)
 rw[decide_eq_false h7,BG,ER,AP]
 by_cases h8:q=8
 ·rw[decide_eq_true h8,BP];exact two (by omega)
 rw[decide_eq_false h8,BG,ER,AP]
 by_cases h9:q=9
 ·rw[decide_eq_true h9,BP];exact two (by omega)
 rw[decide_eq_false h9,BG,ER,AP]
 by_cases d5:q=10
 ·rw[decide_eq_true d5,BP];exact two (by omega)
 rw[decide_eq_false d5,BG,ER,AP]
 by_cases d6:q=11
 ·rw[decide_eq_true d6,BP];exact two (by omega)
 rw[decide_eq_false d6,BG,ER,AP]
 by_cases d7:q=12
 ·rw[decide_eq_true d7,BP];exact two (by omega)
 rw[decide_eq_false d7,BG,ER,AP]
 by_cases d8:q=13
 ·rw[decide_eq_true d8];exact two (by omega)
 rw[decide_eq_false d8]
 delta BQ
 rw[BG,CG (m:=2) g1 (by omega) rfl,AP]
 have N:=I.lo
 have f9:=I.hi
 refine AVj D K hp gd ?_ I hs A
 omega
end
theorem Aeg(ob:Nat->Nat)(v:Cv):Es (wv ob v) (wv ob v)=true:=by
 have d:Rj (adr ob v.o) (adr ob v.o)=true:=by
  cases v.o with
  |zero=>rfl
  |succ o=>show band (Nat.beq _ _) (Nat.beq _ _)=true;simp[BK]
 have f:Rj (.int .i64 v.n 0) (.int .i64 v.n 0)=true:=ABG ..
 show band (Rj (.int .i64 v.n 0) (.int .i64 v.n 0)) (band (Rj (adr ob v.o) (adr ob v.o)) true)=true
 rw[f,d];rfl
section
variable{M:Mv}{W W' W'':Vw}{G:AY}{H H' H'':Heap}{n n' n'':Nat}{s s':Vs}{f f':Fr}{r:List Fr}{c c':Cf}{cr:List Cf}{fb:Nat}{k:KV}{E:Ev}
theorem AWr(h:Vm M W G H n (s.top r f))(hp:W.fv=.F9 fb 0 (r.length+1) 16)(i:k (.ptr fb (r.length*16)) H n):Runs F G YK [.ptr M.kb 0] H n k:=by
 refine go1 (AFr BF G) ?_
 delta oJ
 have d:=h.sz.2.2.2.2
 have d:(f::r).length<=100:=d
 rw[List.length_cons]at d
 have g:AX (.ptr M.kb (0+7)) G H=some (.F9 fb 0 (r.length+1) 16):=AU (off:=0+7) h.box (by rw[<-hp];rfl)
 rw[DV,AP,Ah,AP,g,AP,AP,Ah,AP,g,AP,show lenV (.F9 fb 0 (r.length+1) 16)=some (.int .i64 (.ofNat (r.length+1)) 0)from rfl,AP,AKY (by omega) (by omega),AP,Nat.add_sub_cancel,AYn (by omega),AP,Nat.zero_add]
 exact i
theorem Vm.drop(h:Vm M W G H n (s.top r f))(t:Tf M W G H n f r c cr fb)(x:T.get H' M.kb=some (one (M.cells {W with fv:=.F9 fb 0 r.length 16,cf:=cr} {s with Ur:=r})))(e:∀id,id≠M.kb->T.get H' id=T.get H id):
 Vm M {W with fv:=.F9 fb 0 r.length 16,cf:=cr} G H' n {s with Ur:=r}/\Kz M W H n {W with fv:=.F9 fb 0 r.length 16,cf:=cr} H' n:=by
 have I:=h.bk
 have g:∀id,W.own id≠1->T.get H' id=T.get H id:=λid p=>e id λq=>by rw[q,h.ko]at p;omega
 have m:Kb M.b H M.kb H' M.kb:=⟨Nat.le_refl _,λid k _=>e id (by omega),λq=>q.same (e _ (by omega))⟩
 have ke:Ke G H M.kb H' M.kb:=m.ke h.seen
 have d:=h.sz
 have y:=Ac4 t.low.len
 obtain⟨B,J,C,K,N,D⟩:=t.blk
 refine⟨⟨h.kn,h.ko,h.lo,h.hi,h.img.kb m,h.ff.ke ke (m.same _ h.fmn.1 h.fmn.2),h.fmn,x,h.out.mono (λid h=>h) (λid h=>g id (by omega)),?_,vW.mono (W:=W) (W':={W with fv:=.F9 fb 0 r.length 16,cf:=cr}) (n:=n) (Nat.le_refl _) ke (λ_ _ _=>rfl) t.low (λ_ _ _ _=>rfl) λid k E _ _=>g id (by omega),λi th u=>?_,λi th u=>?_,⟨d.1,d.2.1,d.2.2.1,d.2.2.2.1,by have:(f::r).length<=100:=d.2.2.2.2;rw[List.length_cons]at this;show r.length<=100;omega⟩,h.big⟩,
  Nat.le_refl _,λ_ _=>rfl,λid _ E _=>g id (by omega),m.seen⟩
 ·show Sk H' 16 (λid=>id<n/\W.own id=3) (.F9 fb 0 r.length 16) (List.zipWith Fr.cells r cr).reverse
  have:=Sk.F9 (z:=16) (LS:=(List.zipWith Fr.cells r cr).reverse) (A:=λid=>id<n/\W.own id=3) ((g _ (by have:=t.fbn;omega)).trans C) (by omega) (λi L w=>D i L (by have:=(List.getElem?_eq_some_iff.1 w).1;omega) w) t.fbn
  rw[y]at this;exact this
 ·obtain⟨k,v⟩:=h.ob i th u
  exact⟨k,(g _ (by show W.own (W.ob i)≠1;omega)).trans v⟩
 ·obtain⟨k,t,v,F⟩:=h.pt i th u
  exact⟨k,t,(g _ (by show W.own (W.pb i)≠1;omega)).trans v,F⟩
structure Rs(M:Mv)(W0:Vw)(G:AY)(H0:Heap)(n0:Nat)(E:Ev)(fls:List Fl)(W:Vw)(H:Heap)(n:Nat)(s:Vs)(l:Cv):Prop where
 vm:Vm M W G H n s
 kz:Kz M W0 H0 n0 W H n
 o1:W.own n0=0/\W.own (n0+1)=0/\n0+1<n
 g0:T.get H n0=some (one [.int .i64 (.ofNat 0) 0,.Bo])
 g1:∃y,T.get H (n0+1)=some (one [.int .i64 l.n 0,y])
 ok:s.trap=0->AFP E fls s
 gd:Gd s
 st:s.trap=0->0<=s.steps
theorem Rs.next{g:Vw}{H0:Heap}{n0:Nat}{fls:List Fl}{l:Cv}(R:Rs M g G H0 n0 E fls W H n s l)(i:M.kb<n0)(k:Vm M W' G H' n' s')(kz:Kz M W H n W' H' n')(d:s'.trap=0->AFP E fls s')(m:Gd s')(f:s'.trap=0->0<=s'.steps):Rs M g G H0 n0 E fls W' H' n' s' l:=by
 have u:=R.vm.bk
 obtain⟨a,b,c⟩:=R.o1
 have p:=kz.le
 obtain⟨y,q⟩:=R.g1
 exact⟨k,R.kz.trans kz,⟨(kz.own _ (by omega)).trans a,(kz.own _ (by omega)).trans b,by omega⟩,(kz.zero _ (by omega) a (by omega)).trans R.g0,⟨y,(kz.zero _ c b (by omega)).trans q⟩,d,m,f⟩
theorem Rs.j3{f:Vw}{H0:Heap}{n0:Nat}{fls:List Fl}{l:Cv}(R:Rs M f G H0 n0 E fls W H n s l)(i:M.kb<n0)(p:∀W' H' n' y,Vm M W' G H' n' s->Kz M f H0 n0 W' H' n'->k (.agg [.int .i64 l.n 0,y]) H' n'):E8 lfp G (Runs F G) k (.ptr n0 0) (.ptr (n0+1) 0) H n:=by
 delta E8
 obtain⟨y,u⟩:=R.g1
 obtain⟨a,b,c⟩:=R.o1
 have x:=R.vm.bk
 rw[CG (m:=2) u (by omega) rfl,AP]
 refine Rn R.g0 rfl rfl (by omega) λv w d=>?_
 rw[EN (m:=2) w (by omega) rfl]
 exact p W v n y (R.vm.ASe a (by omega) d) ⟨R.kz.le,R.kz.own,λg q1 q2 q3=>(d g (by omega)).trans (R.kz.zero g q1 q2 q3),λq=>(R.kz.seen q).same (d _ (by omega))⟩
end
theorem AXv{p:Pool}{b:Bd}{q i:Nat}(g:q=27∨q=28)(h:Xm (mny p b) ⟨.ofNat q,.ofNat i⟩=true):i<b.code.length:=by
 unfold Xm at h
 rw[Bool.and_eq_true]at h
 obtain⟨-,f⟩:=h
 rcases g with rfl|rfl
 ·have d:=(Bool.and_eq_true ..▸(show(decide (0<=Int.ofNat i)&&decide (Int.ofNat i<(b.code.length:Int)))=true from f)).2
  have:(i:Int)<b.code.length:=of_decide_eq_true d
  omega
 ·have d:=(Bool.and_eq_true ..▸(show(decide (0<=Int.ofNat i)&&decide (Int.ofNat i<(b.code.length:Int)))=true from f)).2
  have:(i:Int)<b.code.length:=of_decide_eq_true d
  omega
section
variable{M:Mv}{W W' W'':Vw}{G:AY}{H H' H'':Heap}{n n' n'':Nat}{s s':Vs}{f f':Fr}{r:List Fr}{c c':Cf}{cr:List Cf}{fb:Nat}{k:KV}{E:Ev}{fls:List Fl}
theorem Ac2(D:Wd M G E)(C:Ce E fls)(h:Vm M W G H n s)(f8:s.trap=0->AFP E fls s)(gd:Gd s)(g6:s.trap=0->0<=s.steps){g:Nat}{t:Vs}{v:Cv}(B:lT E g s PD=some (t,v))
 (hk:∀W' H' n' y,Vm M W' G H' n' t->Kz M W H n W' H' n'->k (.agg [.int .i64 v.n 0,y]) H' n'):Runs F G oU [.ptr M.kb 0] H n k:=by
 refine go1 (AFR BF G) ?_
 delta qK
 have kn:=h.kn
 have q0:=h.bk
 refine Di rfl λH1 f1 g1=>?_
 refine Di rfl λH2 f2 g2=>?_
 obtain⟨h2,U⟩:=h.kp (f1.trans f2)
 have R0:Rs M W G H n E fls W H2 (n+1+1) s PD:=⟨h2,U,⟨h.hi _ (Nat.le_refl _),h.hi _ (by omega),by omega⟩,f2.get g1 (by omega),⟨_,g2⟩,f8,gd,g6⟩
 refine IY (J:=λm st=>∃W1 H1 n1 A l,st=(V.ptr M.kb 0,V.ptr n 0,V.ptr (n+1) 0,H1,n1)/\Rs M W G H n E fls W1 H1 n1 A l/\lT E m A l=some (t,v)) ?_ (m:=g) ⟨W,H2,_,s,PD,rfl,R0,B⟩
 clear R0 h2 U g1 g2 f1 f2 B f8 gd g6
 rintro I m st ⟨W1,H1,n1,A,l,rfl,R,B⟩ ih
 show Tt lfp G (Runs F G) k I (.ptr M.kb 0) (.ptr n 0) (.ptr (n+1) 0) H1 n1
 delta Tt
 cases m with
 |zero=>cases B
 |succ g=>
 have P:∀{W':Vw} {H':Heap} {n':Nat} {s':Vs} {l':Cv},Rs M W G H n E fls W' H' n' s' l'->lT E g s' l'=some (t,v)->I (V.ptr M.kb 0,V.ptr n 0,V.ptr (n+1) 0,H',n'):=λR' k7=>ih g _ (Nat.lt_succ_self _) ⟨_,_,_,_,_,rfl,R',k7⟩
 clear ih
 unfold lT at B
 have X:=R.vm
 have k8:=X.sz
 have k9:AX (.ptr M.kb (0+7)) G H1=some W1.fv:=AU (off:=0+7) X.box rfl
 have m0:lenV W1.fv=some (.int .i64 (.ofNat A.Ur.length) 0):=by
  rw[(X.fv.el (G:=G) (by omega)).len,List.length_reverse,List.length_zipWith,X.Ur.len,Nat.min_self]
 rw[DV,AP,Ah,AP,k9,AP,m0,AP,ALA,AP]
 cases hf:A.Ur with
 |nil=>
  rw[hf]at B
  cases B
  rw[decide_eq_false (by decide),BG]
  exact R.j3 kn λW' H' n' y a b=>hk W' H' n' y a b
 |cons f r=>
  rw[hf]at B
  simp only at B
  rw[decide_eq_true (by rw[List.length_cons];omega),BP,AP,Ah,AP,AU (off:=0+5) X.box (v:=.int .i64 (.ofNat A.trap) 0) rfl,AP,AAI,AP]
  cases d6:decide (A.trap=0)with
  |false=>
   rw[d6]at B
   cases B
   rw[Bool.not_false]
   repeat (first|with_reducible refine AEj ?_|with_reducible refine mQ ?_)
   rw[BP]
   exact R.j3 kn λW' H' n' y a b=>hk W' H' n' y a b
  |true=>
   rw[d6,cond_true]at B
   have Y:=of_decide_eq_true d6
   rw[Bool.not_true]
   refine Ya rfl (Ya (DV ..) (Ya (Ah ..) (Ya (AU (off:=0+6) X.box (v:=.bool false) rfl) (pz ?_))))
   rw[BG,AP,Ah,AP,Ah,AP,AU (off:=0+1+0) X.box (v:=.int .i64 A.steps 0) rfl,AP]
   have g9:B2.ev .sub (.int .i64 A.steps 0) (.int .i64 (.ofNat 1) 0)=some (.int .i64 (A.steps-1) 0):=by
    show some (V.int .i64 (Z7 .i64 (AHI A.steps (Int.neg (.ofNat 1)))) 0)=_
    rw[UM,jv]
    have e:A.steps+Int.neg (Int.ofNat 1)=A.steps-1:=by show A.steps+ -1=_;omega
    rw[e,YF (by omega) (by omega)]
   rw[g9,AP,AP,Ah,AP,Ah,AP]
   have p5:0<=A.steps:=R.st Y
   refine X.ATn (o:=0+1+0) (s':=A.tick (f::r)) ⟨rfl,hf.symm,rfl⟩ rfl rfl (by omega) rfl ⟨k8.1,⟨by show-1<=A.steps-1;omega,by show A.steps-1<=A.steps;omega⟩,rfl⟩ λH2 h2 U=>?_
   have N:Gd (A.tick (f::r)):=⟨by have:=R.gd.fr;rw[hf]at this;exact this,R.gd.hp⟩
   rw[AP,Ah,AP,Ah,AP,AU (off:=0+1+0) h2.box (v:=.int .i64 (A.steps-1) 0) rfl,AP,APE,AP]
   cases d7:decide (A.steps-1<0)with
   |true=>
    rw[d7]at B
    cases B
    rw[BP]
    refine ZV h2 λH3 h3 m1=>?_
    have R3:=R.next kn h3 (U.trans m1) (λe=>absurd e (by show(5:Nat)≠0;decide)) (YR N) (λe=>absurd e (by show(5:Nat)≠0;decide))
    exact R3.j3 kn λW' H' n' y a b=>hk W' H' n' y a b
   |false=>
    rw[d7,cond_false]at B
    have O:0<=A.steps-1:=by have:=of_decide_eq_false d7;omega
    obtain⟨x,x1,x2,x3,x4,x5,x6⟩:=AMc C (R.ok Y) hf
    have R2:=R.next (s':=A.tick (f::r)) kn h2 U (λ_=>by have:=R.ok Y;exact⟨this.hp,by have:=this.Ur;rw[hf]at this;exact this⟩) N (λ_=>O)
    have d8:Vm M W1 G H2 n1 ((A.tick (f::r)).top r f):=h2
    obtain⟨c,cr,fb,t2⟩:=d8.tf
    have hp:=t2.fv
    rw[BG]
    refine AWr d8 hp ?_
    rw[x1,Option.bind_some]at B
    obtain⟨q,i,rfl,q4⟩:=AAZ x2
    have i0:AX (.ptr fb (r.length*16+13)) G H2=some (.int .i64 (.ofNat f.pc) 0):=t2.ld (o:=13) (t2.at'.cell (o:=3) rfl)
    have i1:AX (.ptr fb (r.length*16+10+2)) G H2=some c.wc:=t2.ld (o:=12) (t2.at'.cell (o:=2) rfl)
    have m2:lenV c.wc=some (.int .i64 (.ofNat f.bd.code.length) 0):=by rw[t2.at'.code.el.len,List.length_map]
    obtain⟨p,y1,y2⟩:=t2.at'.code.el.at (i:=f.pc) (c:=Ins.cells ⟨.ofNat q,.ofNat i⟩) (by rw[List.getElem?_map,x1];rfl)
    rw[DV,AP,Ah,AP,i0,AP,AP,Ah,AP,Ah,AP,i1,AP,m2,AP,ASL,AP,decide_eq_false (by omega),BG,AP,Ah,AP,Ah,AP,i1,AP,AP,Ah,AP,i0,AP,y1,AP,Bj y2,AP]
    refine Di rfl λH3 f3 g3=>?_
    refine Rn g3 rfl rfl (by omega) λH4 g4 s4=>?_
    have f4:Kp H2 n1 H4 (n1+1):=⟨by omega,λid m3=>by rw[s4 _ (by omega),f3.same _ m3]⟩
    obtain⟨h4,m4⟩:=d8.kp f4
    obtain⟨c4,q5,t4⟩:=h4.tf2 hp
    have i2:AX (.ptr fb (r.length*16+13)) G H4=some (.int .i64 (.ofNat f.pc) 0):=t4.ld (o:=13) (t4.at'.cell (o:=3) rfl)
    rw[AP,Ah,AP,i2,AP,DI (by omega),AP,AP,Ah,AP]
    refine AOR h4 hp (by omega) λW5 H5 h5 i3 w5=>?_
    have m5:W1.own n1=0:=X.hi _ (Nat.le_refl _)
    have k1:=X.kn
    have g5:=(i3.zero n1 (by omega) m5 (by omega)).trans g4
    have d4:=m4.trans i3
    have d9:=w5.trans hp
    have i4:Gd ((A.tick (f::r)).top r {f with pc:=f.pc+1}):=Gd.top (f:=f) N (N.fr f (List.mem_cons_self ..)).1 (N.fr f (List.mem_cons_self ..)).2
    have q6:r.length<=99:=by have:(f::r).length<=100:=h2.sz.2.2.2.2;rw[List.length_cons]at this;omega
    rw[Ah,AP,AU (off:=0+0) g5 (v:=.int .i64 (.ofNat q) 0) rfl,AP,AAI,AP]
    have i5:decide ((⟨.ofNat q,.ofNat i⟩:Ins).code=29)=decide (q=29):=by rw[decide_eq_decide];show((q:Int)=29)↔_;omega
    rw[i5]at B
    cases hq:decide (q=29)with
    |false=>
     rw[hq,cond_false]at B
     have d0:=of_decide_eq_false hq
     obtain⟨s6,e6,e7,e8⟩:=x5 (iE (d:=29) d0)
     rw[hf]at e6
     rw[e6,Option.bind_some]at B
     have p7:=h5.sz
     have q7:=X.sz.2.2.2.1
     rw[Bool.not_false,BP,CG (m:=2) g5 (by omega) rfl,AP]
     refine Aar D h5 d9 i4 d0 x2 (λe=>by have:i<f.bd.code.length:=AXv e x2;omega) O (by show(A.out.length:Int)+1+(A.steps-1)<=5000;omega) e6 λW6 H6 n6 h6 f0=>?_
     have i6:=AZs (E:=E) (x:=⟨.ofNat q,.ofNat i⟩) i4
     rw[e6]at i6
     exact P (R2.next kn h6 (d4.trans f0) e8 i6 λ_=>by rw[e7];exact O) B
    |true=>
     rw[hq,cond_true]at B
     have d0:=of_decide_eq_true hq
     obtain⟨w,kk,b1,b2,b3⟩:=x6 (by rw[d0];rfl)
     have d5:(⟨f.fl,f.bd,f.pc+1,f.loc,f.stk⟩:Fr).pop 1=some ([w],f.up kk):=AGH (vs:=[w]) b1
     rw[d5,Option.bind_some]at B
     have m6:w.o<=A.hp.length:=(N.fr f (List.mem_cons_self ..)).2 w (by rw[b1];exact List.mem_cons_self ..)
     rw[Bool.not_true,BG]
     refine Wy h5 d9 d5 λW6 H6 n6 va h6 f0 w6 m7 _ i7 q8=>?_
     rw[<-m7]at i7
     obtain⟨p6,a1,a2,-,-⟩:=iF (u:=.i64) D.g i7 (i:=0) (x:=w) rfl
     rw[a1,AP,a2,AP]
     obtain⟨o1,o2,o3⟩:=R2.o1
     have L:=d4.trans f0
     have p8:=L.le
     have g0:=(L.zero n (by omega) o1 (by omega)).trans R2.g0
     obtain⟨y0,g1⟩:=R2.g1
     have g1:=(L.zero (n+1) o3 o2 (by omega)).trans g1
     have i8:=(L.own n (by omega)).trans o1
     have f5:=(L.own (n+1) o3).trans o2
     have Q:=R2.kz.trans L
     refine Rn g1 rfl rfl (by omega) λH7 g7 s7=>?_
     have h7:=h6.ASe f5 (by omega) s7
     have i9:W6.fv=.F9 fb 0 (r.length+1) 16:=w6.trans d9
     obtain⟨c7,m8,t7⟩:=h7.tf2 i9
     have l7:AX (.ptr M.kb (0+7)) G H7=some (.F9 fb 0 (r.length+1) 16):=AU (off:=0+7) h7.box (by rw[<-i9];rfl)
     have k2:wB 16 (.F9 fb 0 (r.length+1) 16) E0 none (some (.c (.int .i64 (.ofNat r.length) 0))) none=some (.F9 fb 0 r.length 16):=by
      show BI (Nat.beq 16 16) (BI (band (Nat.ble 0 r.length) (Nat.ble r.length (r.length+1))) (Go.Bf.f3 0 (r.length-0) 0 λo d _=>.F9 fb o d 16))=_
      rw[show Nat.ble 0 r.length=true by rw[Nat.ble_eq];omega,show Nat.ble r.length (r.length+1)=true by rw[Nat.ble_eq];omega]
      show Dx 0 (λa=>Dx (r.length-0) λb=>Dx 0 λ_=>some (.F9 fb a b 16))=_
      rw[Bv,Bv,Bv,Nat.sub_zero]
     rw[AP,Ah,AP,l7,AP,AP,Ah,AP,l7,AP,show lenV (.F9 fb 0 (r.length+1) 16)=some (.int .i64 (.ofNat (r.length+1)) 0)from rfl,AP,AKY (by omega) (by omega),AP,Nat.add_sub_cancel,k2,AP,AP,Ah,AP]
     refine vC h7.box rfl rfl (by omega) (by show 0+7+1<=8;omega) λH8 g8 s8=>?_
     obtain⟨h8,f6⟩:=h7.drop t7 g8 s8
     have q9:=h7.kn
     have k0:Kz M W H n W6 H7 n6:=⟨Q.le,Q.own,λid q1 q2 q3=>(s7 id (by omega)).trans (Q.zero id q1 q2 q3),λq=>(Q.seen q).same (s7 _ (by omega))⟩
     have Z:T.get H8 (n+1)=some (one (wcs W6.ob w)):=(s8 _ (by omega)).trans g7
     have k3:=(s8 n (by omega)).trans ((s7 n (by omega)).trans g0)
     obtain⟨W8,d1⟩:∃W8:Vw,W8={W6 with fv:=.F9 fb 0 r.length 16,cf:=m8}:=⟨_,rfl⟩
     rw[<-d1]at h8 f6
     have m9:W8.ob=W6.ob:=by rw[d1]
     have f7:W8.fv=.F9 fb 0 r.length 16:=by rw[d1]
     have d2:W8.own=W6.own:=by rw[d1]
     have h8:Vm M W8 G H8 n6 (A.tick r):=h8
     rw[<-m9]at Z
     have l8:AX (.ptr M.kb (0+7)) G H8=some (.F9 fb 0 r.length 16):=AU (off:=0+7) h8.box (by rw[<-f7];rfl)
     have d3:Gd (A.tick r):=⟨λz hz=>N.fr z (List.mem_cons_of_mem _ hz),N.hp⟩
     have e8:(A.tick r).trap=A.trap:=rfl
     rw[AP,Ah,AP,l8,AP,show lenV (.F9 fb 0 r.length 16)=some (.int .i64 (.ofNat r.length) 0)from rfl,AP,ALA,AP]
     cases r with
     |nil=>
      rw[decide_eq_false (by decide),BG]
      exact P (l':=w) ⟨h8,k0.trans f6,⟨by rw[d2];exact i8,by rw[d2];exact f5,by omega⟩,k3,⟨_,Z⟩,λ_=>b2 rfl,d3,λ_=>O⟩ B
     |cons z r=>
      obtain⟨z',c1,c2⟩:=b3 z r rfl
      have B:((z.push w).bind λq=>lT E g (A.tick (q::r)) w)=some (t,v):=B
      rw[c1,Option.bind_some]at B
      have p0:Aj 2 (.ptr (n+1) 0) G H8=some (wv W8.ob w):=CG Z (by omega) rfl
      rw[decide_eq_true (by rw[List.length_cons];omega),BP,p0,AP]
      refine ARa (G:=G) (vs:=[wv W8.ob w]) rfl (by omega) (λx hx=>by simp at hx;subst hx;exact⟨rfl,rfl⟩) λH9 f9 _ k4=>?_
      obtain⟨h9,p3⟩:=h8.kp f9
      have k5:Vm M W8 G H9 (n6+1) ((A.tick (z::r)).top r z):=h9
      refine AWr k5 (by rw[f7];rfl) ?_
      rw[CG (m:=2) ((f9.same _ (by omega)).trans Z) (by omega) rfl,AP]
      refine AKE (Aeg ..) ?_
      refine AUH k5 (by rw[f7];rfl) c1 k4 λu0 u1 u2 p4 k6 _ p9 _=>?_
      have K:=p3.trans k6
      have u3:=K.le
      have hz:=d3.fr z (List.mem_cons_self ..)
      obtain⟨p1,p2⟩:=ANl c1 hz.2 m6
      have S:W8.own n=0/\W8.own (n+1)=0:=⟨by rw[d2];exact i8,by rw[d2];exact f5⟩
      refine P (l':=w) ⟨p4,(k0.trans f6).trans K,⟨(K.own n (by omega)).trans S.1,(K.own (n+1) (by omega)).trans S.2,by omega⟩,(K.zero n (by omega) S.1 (by omega)).trans k3,⟨_,(K.zero (n+1) (by omega) S.2 (by omega)).trans Z⟩,λ_=>c2,?_,λ_=>O⟩ B
      exact⟨λx hx=>by
       rcases List.mem_cons.1 hx with rfl|hx
       ·exact⟨by rw[p2];exact hz.1,p1⟩
       ·exact d3.fr x (List.mem_cons_of_mem _ hx),d3.hp⟩
end
section
variable{M:Mv}{W W' W'':Vw}{G:AY}{H H' H'':Heap}{n n' n'':Nat}{s s':Vs}{k:KV}{E:Ev}{fls:List Fl}
theorem AcR{t:Ty}(i:∀H' n',Kp H n H' n'->k (.bool (!t.is C9)) H' n'):Runs F G AJ6 [t.v] H n k:=by
 refine go1 (APx BF G) ?_
 delta AKj
 refine FT λm p d=>?_
 have g:Aj 2 (.ptr n 0) G m=some t.v:=BD d
 rw[g,AP]
 refine AF4 λq u f=>?_
 have g:Aj 2 (.ptr n 0) G q=some t.v:=BD ((f.same n (by omega)).trans d)
 rw[g,AP]
 refine AKE (LH t) ?_
 rw[ALZ,AP]
 exact i _ _ (p.trans f)
theorem AX5{w:V}{N:Nat}(h:GY G H n w (List.replicate N C9))(y:∀H' n',Kp H n H' n'->k (.int .i64 (.negSucc 0) 0) H' n'):Runs F G Ez [w,.fn 25 [] []] H n k:=by
 refine go2 (Il BF G) ?_
 delta FB
 have d:(List.replicate N C9).length=N:=List.length_replicate
 have A:lenV w=some (.int .i64 (.ofNat N) 0):=by rw[h.el.len,EP,d]
 have g:=h.lt
 rw[d]at g
 unfold big at g
 rw[A,AP]
 refine BN (N:=N) (J:=λi st=>∃H' n',st=(w,V.fn 25 [] [],V.int .i64 (.ofNat N) 0,V.int .i64 (.ofNat i) 0,H',n')/\Kp H n H' n') ?_ ?_ ⟨H,n,rfl,.refl ..⟩
 ·rintro I i st x ⟨m,q,rfl,u⟩ B
  show BM lfp G (Runs F G) k I w (.fn 25 [] []) (.int .i64 (.ofNat N) 0) (.int .i64 (.ofNat i) 0) m q
  delta BM
  obtain⟨p,C,f⟩:=(h.ke u.ke).el.at (Tj (i:=i) (by rw[d];exact x))
  rw[List.getElem_replicate]at f
  have f:Aj 2 p G m=some C9.v:=Bj f
  rw[Tq,decide_eq_true x,AP,BP,C,AP,f,AP]
  show Runs F G AJ6 [C9.v] m q _
  refine AcR λD E K=>?_
  rw[show(!C9.is C9)=false by rw[Ty.Jr.2 rfl];rfl,BG,DI (by omega),AP]
  exact B _ ⟨D,E,rfl,u.trans K⟩
 ·rintro I st ⟨m,q,rfl,u⟩
  show BM lfp G (Runs F G) k I w (.fn 25 [] []) (.int .i64 (.ofNat N) 0) (.int .i64 (.ofNat N) 0) m q
  delta BM
  rw[Tq,decide_eq_false (by omega),AP,BG]
  delta DK
  exact y _ _ u
theorem AWs{w:V}{N:Nat}(h:GY G H n w (List.replicate N C9))(d:∀H' n',Kp H n H' n'->k (.bool false) H' n'):Runs F G CB [w,.fn 25 [] []] H n k:=by
 refine go2 (IG BF G) ?_
 delta ES
 refine AX5 h λg i f=>?_
 rw[show B2.ev .geq (.int .i64 (.negSucc 0) 0) (.int .i64 (.ofNat 0) 0)=some (.bool false)from rfl,AP]
 exact d _ _ f
def V0(p q r:Int):Vs:=⟨p,q,r,[],0,[],[]⟩
def W00(kb:Nat):Vw:=⟨λid=>if id=kb then 1 else 0,.Ad,.Ad,λ_=>0,λ_=>0,[]⟩
theorem vm0{i t a b fm:Nat}{vn:V}{fs:Tab}{m:List (St×Fl)}{p q r:Int}(d:NQ G H n i t a b fm vn fs)(f:FV G H n fm m)(k:fm<n/\fm≠b)(hp:0<=p/\p<=5000)(v:0<=q/\q<=2000)(w:r<=100)
 (g:T.get H n=some (one [.ptr i 0,.int .i64 p 0,.int .i64 q 0,.int .i64 r 0,.Ad,.int .i64 (.ofNat 0) 0,.bool false,.Ad])):Vm ⟨n,i,t,a,b,fm,vn,fs,m⟩ (W00 n) G H (n+1) (V0 p q r):=by
 refine⟨Nat.lt_succ_self n,if_pos rfl,λu h=>if_neg (by have:u<n:=h;omega),λu h=>if_neg (by omega),d,f,k,g,.nil,.nil,trivial,λi th h=>(by cases h),λi th h=>(by cases h),⟨v,⟨by show-1<=p;omega,hp.2⟩,w,?_,Nat.zero_le _⟩,λth h=>(by cases h)⟩
 show((([]:List Int).length:Nat):Int)+p<=5000
 rw[List.length_nil]
 omega
end
def ZP(fls:List Fl):Ev:=⟨EW (Bh fls),λs=>CY (OD fls) s⟩
theorem AVZ{fls:List Fl}(h:TB fls=0){f:Fl}(g:f∈fls){m:Cb}(k:m∈f.face.ms):(Qv (EW (Bh fls)) ⟨m,f.face.nm⟩).isSome=true:=by
 have d:=NH _ _ (DW h).2.1 f g
 have i:=AXA h g
 obtain⟨r,p⟩:=AJl i (ANb (VU d))
 unfold Qv
 show(GR (EW (Bh fls)) ⟨m,f.face.nm⟩ (above (EW (Bh fls)) f.face.nm).1).isSome=true
 rw[p]
 show(match Ju m.nm ((CY (EW (Bh fls)) f.face.nm).getD CJ).ms with|some o=>bif o.same m then some f.face.nm else GR _ ⟨m,f.face.nm⟩ r|none=>GR _ ⟨m,f.face.nm⟩ r).isSome=true
 rw[i]
 show(match Ju m.nm f.face.ms with|some o=>bif o.same m then some f.face.nm else GR _ ⟨m,f.face.nm⟩ r|none=>GR _ ⟨m,f.face.nm⟩ r).isSome=true
 rw[AEy f.face.ms (0,0) (AMY (VU d)) m k]
 show(bif m.same m then some f.face.nm else GR _ ⟨m,f.face.nm⟩ r).isSome=true
 rw[AVQ];rfl
theorem AfV{fls:List Fl}(h:TB fls=0){R:Fl->Nat->Int}(q:AO6 fls R)(u:UC R (OD fls) (Oa fls)=none):Ce (ZP fls) fls:=by
 refine⟨AOQ h,h,rfl,λ_=>rfl,λf d j m g i k=>?_⟩
 have v:=AGk fls [] f (DW h).2.1 d
 have p:=AIO.1 (yw.1 u f.face.nm (List.mem_map.2 ⟨f,d,rfl⟩) f v) j (List.getElem?_eq_some_iff.1 i).1
 rw[Nat.zero_add]at p
 have w:=(YE (NH _ _ (DW h).2.1 f d)).2 j m g i k
 exact(AZE (ADw h) (AC3 h) (by have:=w.c0;show 0<g.code.length;omega) (q f d j m g i k)).1 p
section
variable{G:AY}{H H' H'':Heap}{n n' n'':Nat}{k:KV}{fls:List Fl}
theorem Abp(g:Vz G)(h:TB fls=0){kb i t a b fm:Nat}{vn:V}:Wd ⟨kb,i,t,a,b,fm,vn,EW (Bh fls),OD fls⟩ G (ZP fls):=by
 have T:=AOQ h
 refine⟨g,T.len,λs c e=>T.fl s c e,rfl,λ_=>rfl,λs f e=>?_⟩
 obtain⟨k,-⟩:=AMl e
 obtain⟨m,p⟩:=YE (NH _ _ (DW h).2.1 f k)
 refine⟨m,λq u=>?_⟩
 obtain⟨j,d⟩:=List.mem_iff_getElem?.1 u
 have v:=(List.getElem?_eq_some_iff.1 d).1
 have:=p j _ q (List.getElem?_eq_getElem (by omega)) d
 exact⟨this.hi,this.s1⟩
theorem AR8{z:Nat}{A:Nat->Prop}{o:V}{LS:EL}{x y:Int}(h:Sk H z A o LS):BH [(.int .i64 (.ofNat 0) 0),(.int .i64 (.ofNat 0) 0),.Ad] [(0,1,.c (.int .i64 x 0)),(2,1,.c o)]=some (.agg [.int .i64 x 0,.int .i64 (.ofNat 0) 0,o])/\
 BH [(.int .i64 (.ofNat 0) 0),(.int .i64 (.ofNat 0) 0),.Ad] [(1,1,.c (.int .i64 y 0)),(2,1,.c o)]=some (.agg [.int .i64 (.ofNat 0) 0,.int .i64 y 0,o]):=by
 cases h<;>exact⟨rfl,rfl⟩
def ARq(t:Vs)(w:Cv)(ov:V):LV:=if t.trap=0 then[.int .i64 (.ofNat 0) 0,.int .i64 w.n 0,ov]else[.int .i64 (.ofNat t.trap) 0,.int .i64 (.ofNat 0) 0,ov]
theorem ATc(hG:Vz G)(hl:TB fls=0)(C:Ce (ZP fls) fls){i t a b fm:Nat}{vn:V}(D:NQ G H n i t a b fm vn (EW (Bh fls)))(i7:FV G H n fm (OD fls))(d0:fm<n/\fm≠b){p q r:Int}(hp:0<=p/\p<=5000)(hq:0<=q/\q<=2000)(hr:r<=100)
 {f:Fl} {m:Cb} {xs:List Int} {W:V} (hf:f∈fls) (hm:m∈f.face.ms) (i8:m.st=true) (d3:m.ret=C9) (d4:m.ps=List.replicate xs.length C9) (p8:xs.length<=200) (d5:El G H W 1 (xs.map λx=>[.int .i64 x 0])) (d1:∀d,W.XZ=some d->d<n/\d≠b)
 {s1 t1:Vs} {w:Cv} {g:Nat} (hs:JZ (ZP fls) ⟨m,f.face.nm⟩ (xs.map λx=>⟨x,0⟩) (V0 p q r)=some s1) (d6:lT (ZP fls) g s1 PD=some (t1,w)) (d7:s1.trap=0->AFP (ZP fls) fls s1) (i9:s1.steps=p)
 (hk:∀H' n' ov,Kb b H n H' n'->El G H' ov 1 (t1.out.map λx=>[.int .i64 x 0])->(∀d,ov.XZ=some d->n<=d/\d<n')->t1.out.length<=5001->k (.Dl [.agg (ARq t1 w ov),.int .i64 (.ofNat 0) 0]) H' n'):
 Runs F G ALc [.ptr i 0,f.face.nm.v,m.nm.v,W,.agg [.int .i64 p 0,.int .i64 q 0,.int .i64 r 0]] H n k:=by
 refine go5 (AVn BF G) ?_
 delta AP0
 have d8:=D.tab.bn
 refine FT λH1 f1 g1=>?_
 refine Di rfl λH2 f2 g2=>?_
 have d9:=f1.trans f2
 have g1:=f2.get g1 (by omega)
 have i2:=D.kb (d9.kb d8)
 have f0:AAu (EW (Bh fls)) f.face.nm m.nm true=some (f.face.nm,m):=AR0 hl hf hm i8
 rw[DV,AP,Ah,AP,AU (off:=0+0) i2.at' (v:=.ptr t 0) rfl,AP]
 refine APf i2.tab (AOQ hl).len λH3 P ws f3 Y=>?_
 rw[f0]at Y
 obtain⟨K,rfl,L⟩:=Y
 have k0:=f3.le
 rw[f0]
 rw[show CS (.Dl [((some (f.face.nm,m)).getD ((0,0),ZW)).1.v,.agg (((some (f.face.nm,m)).getD ((0,0),ZW)).2.cells K),.bool (some (f.face.nm,m)).isSome]) 0=some f.face.nm.v from rfl,AP,
  show CS (.Dl [((some (f.face.nm,m)).getD ((0,0),ZW)).1.v,.agg (((some (f.face.nm,m)).getD ((0,0),ZW)).2.cells K),.bool (some (f.face.nm,m)).isSome]) 1=some (.agg (m.cells K))from rfl,AP,
  show CS (.Dl [((some (f.face.nm,m)).getD ((0,0),ZW)).1.v,.agg (((some (f.face.nm,m)).getD ((0,0),ZW)).2.cells K),.bool (some (f.face.nm,m)).isSome]) 2=some (.bool true)from rfl,AP]
 have L:GY G H3 P K m.ps:=⟨L.el,L.lo.mono k0,L.lt,L.ok⟩
 refine Di rfl λH4 f4 g4=>?_
 refine Rn g4 rfl rfl (by omega) λH5 g5 s5=>?_
 have f5:Kp H3 P H5 (P+1):=⟨by omega,λd u=>by rw[s5 _ (by omega),f4.same _ u]⟩
 have k1:GY G H5 (P+1) K m.ps:=L.ke f5.ke
 have g0:∀{H':Heap},T.get H' P=T.get H5 P->Aj 2 (.ptr P (0+3)) G H'=some m.ret.v:=λe=>GH (e.trans g5) (by omega) (by show 0+3+2<=5;omega)
 rw[show FK (.bool true)=some (.bool false)from rfl,AP,BG,Ah,AP,g0 rfl,AP]
 refine AF4 λH6 n6 f6=>?_
 have p9:=f6.le
 rw[g0 (f6.same _ (by omega)),AP]
 refine AKE (LH m.ret) ?_
 rw[ALZ,AP,Ty.Jr.2 d3,Bool.not_true]
 have g6:=f6.get g5 (by omega)
 have X:GY G H6 n6 K m.ps:=k1.ke f6.ke
 refine Ya (Ah ..) (Ya (AU (off:=0+2) g6 (v:=K) rfl) (Ae1 ?_))
 rw[d4]at X
 refine AWs X λH7 B f7=>pz ?_
 have q0:=f7.le
 have g7:=f7.get g6 (by omega)
 have lw:lenV K=some (.int .i64 (.ofNat xs.length) 0):=by rw[X.el.len,EP,List.length_replicate]
 have k2:lenV W=some (.int .i64 (.ofNat xs.length) 0):=by rw[d5.len,List.length_map]
 have M:Kb b H n H7 B:=((d9.kb d8).trans f3).trans (((f5.trans f6).trans f7).kb (by omega))
 have k3:T.get H7 n=some (one [.int .i64 p 0,.int .i64 q 0,.int .i64 r 0]):=by
  rw[f7.same _ (by omega),f6.same _ (by omega),f5.same _ (by omega),f3.same _ (by omega) (by omega)];exact g1
 have k4:T.get H7 (n+1)=some (one [.int .i64 (.ofNat 0) 0,.int .i64 (.ofNat 0) 0,.Ad]):=by
  rw[f7.same _ (by omega),f6.same _ (by omega),f5.same _ (by omega),f3.same _ (by omega) (by omega)];exact g2
 rw[BG,Ah,AP,AU (off:=0+2) g7 (v:=K) rfl,AP,lw,AP,k2,AP,AAI,AP,decide_eq_true rfl]
 show AZ (.bool false) true _ _
 rw[BG,CG (m:=3) k3 (by omega) rfl,AP,show BH [.Bo,(.int .i64 (.ofNat 0) 0),(.int .i64 (.ofNat 0) 0),(.int .i64 (.ofNat 0) 0),.Ad,(.int .i64 (.ofNat 0) 0),(.bool false),.Ad] [(0,1,.c (.ptr i 0)),(1,3,.c (.agg [.int .i64 p 0,.int .i64 q 0,.int .i64 r 0]))]=
  some (.agg [.ptr i 0,.int .i64 p 0,.int .i64 q 0,.int .i64 r 0,.Ad,.int .i64 (.ofNat 0) 0,.bool false,.Ad])from rfl,AP]
 refine FT λH8 U g8=>?_
 have k5:=M.trans (U.kb (by omega))
 have k6:=vm0 (G:=G) (H:=H8) (n:=B) (D.kb (M.trans ⟨Nat.le_refl _,λd q _=>U.same d q,λq=>q.same (U.same _ (by omega))⟩)) ((i7.ke (M.ke D.tab.seen) (M.same _ d0.1 d0.2)).ke (U.ke.low (Nat.le_refl _)) (U.same _ (by omega))) ⟨by omega,d0.2⟩ hp hq hr g8
 have q3:b<B:=by omega
 have k7:El G H8 W 1 (xs.map λx=>[.int .i64 x 0]):=d5.same λd u=>k5.same d (d1 d u).1 (d1 d u).2
 rw[AP]
 have q4:∀d,d<B+1->d≠B->(W00 B).own d=0:=λd _ q=>if_neg q
 refine BN (N:=xs.length) (J:=λi0 st=>∃H' n' v,st=(f.face.nm.v,V.ptr (n+1) 0,V.ptr P 0,V.ptr B 0,v,W,V.int .i64 (.ofNat xs.length) 0,V.int .i64 (.ofNat i0) 0,H',n')/\Kp H8 (B+1) H' n'/\Sk H' 2 (λd=>B+1<=d/\d<n') v ((xs.take i0).map λx=>[.int .i64 x 0,.Bo])) ?_ ?_ ⟨H8,_,.Ad,rfl,.refl ..,.nil⟩
 ·rintro I i0 st hi ⟨H9,n9,v,rfl,Z,sk⟩ ih
  show WJ lfp G (Runs F G) k I f.face.nm.v (.ptr (n+1) 0) (.ptr P 0) (.ptr B 0) v W (.int .i64 (.ofNat xs.length) 0) (.int .i64 (.ofNat i0) 0) H9 n9
  delta WJ
  have k8:=Z.le
  have k9:El G H9 W 1 (xs.map λx=>[.int .i64 x 0]):=k7.same λd u=>Z.same d (by have:=(d1 d u).1;omega)
  obtain⟨pp,m0,m1⟩:=k9.at (i:=i0) (c:=[.int .i64 xs[i0] 0]) (by rw[List.getElem?_map,List.getElem?_eq_getElem hi];rfl)
  rw[Tq,decide_eq_true hi,AP,BP,m0,AP,Jv m1,AP,ABB,AP]
  refine sk.app (G:=G) (m:=0) (c:=.agg [.int .i64 xs[i0] 0,.Bo]) (λd u=>(sk.own u).2) (by omega) rfl rfl (by rw[List.length_map,List.length_take];omega) λv' g3 m2 m3 u=>?_
  rw[DI (by omega),AP]
  refine ih _ ⟨g3,n9+2,v',rfl,⟨by omega,λd q=>by rw[m3 d (by omega) (λe=>by have:=(sk.own e).1;omega),Z.same d q]⟩,?_⟩
  rw[List.take_succ_eq_append_getElem hi,List.map_append]
  exact m2 _ ⟨by omega,by omega⟩
 ·rintro I st ⟨H9,n9,v,rfl,Z,sk⟩
  show WJ lfp G (Runs F G) k I f.face.nm.v (.ptr (n+1) 0) (.ptr P 0) (.ptr B 0) v W (.int .i64 (.ofNat xs.length) 0) (.int .i64 (.ofNat xs.length) 0) H9 n9
  delta WJ
  rw[Tq,decide_eq_false (by omega),AP,BG]
  delta uQ
  rw[List.take_length]at sk
  have k8:=Z.le
  obtain⟨m4,m5⟩:=k6.kp Z
  have m6:T.get H9 P=some (one (m.cells K)):=(Z.same _ (by omega)).trans ((U.same _ (by omega)).trans g7)
  rw[CG (m:=5) m6 (by omega) rfl,AP,show BH [(.str 0 0),(.bool false),.Ad,(.str 0 0),(.bool false),(.str 0 0)] [(0,5,.c (.agg (m.cells K))),(5,1,.c f.face.nm.v)]=some (.agg ((⟨m,f.face.nm⟩:PM).cells K))from rfl,AP]
  have m7:GY G H9 n9 K m.ps:=by
   rw[d4]
   have:=(X.ke f7.ke).ke (U.ke)
   exact this.ke Z.ke
  have m8:El G H9 v 2 (wls (W00 B).ob (xs.map λx=>(⟨x,0⟩:Cv))):=by
   have:=sk.el (G:=G) (by omega)
   unfold wls
   rw[List.map_map]
   exact this
  refine AQ4 (s':=s1) (Abp hG hl) (p:=⟨m,f.face.nm⟩) m4 m7 m8 (λd u=>by have:=sk.own u;exact⟨this.2,if_neg (by omega),by show d≠b;omega⟩) hs λq5 g3 q6 m9 g9=>?_
  have p0:Gd s1:=by
   have h0:Gd (V0 p q r):=⟨λx hx=>(by cases hx),λx hx=>(by cases hx)⟩
   have:=AKQ (E:=ZP fls) (p:=⟨m,f.face.nm⟩) (args:=xs.map λx=>(⟨x,0⟩:Cv)) h0 (λv hv=>by obtain⟨x,-,rfl⟩:=List.mem_map.1 hv;exact Nat.zero_le _)
   rw[hs]at this;exact this
  refine Ac2 (Abp hG hl) C m9 d7 p0 (λ_=>by rw[i9];exact hp.1) d6 λA i1 Q y O i3=>?_
  have kz:=(m5.trans g9).trans i3
  have q7:=kz.le
  have i4:T.get i1 (n+1)=some (one [.int .i64 (.ofNat 0) 0,.int .i64 (.ofNat 0) 0,.Ad]):=(kz.zero (n+1) (by omega) (if_neg (by omega)) (by show n+1≠b;omega)).trans ((U.same _ (by omega)).trans k4)
  refine Di rfl λq9 p1 p2=>?_
  refine Rn p2 rfl rfl (by omega) λR p3 p4=>?_
  have S:Kp i1 Q R (Q+1):=⟨by omega,λd u=>by rw[p4 _ (by omega),p1.same _ u]⟩
  obtain⟨d2,p7⟩:=O.kp S
  have i5:=(S.same (n+1) (by omega)).trans i4
  have lt:AX (.ptr B (0+5)) G R=some (.int .i64 (.ofNat t1.trap) 0):=AU (off:=0+5) d2.box rfl
  have lo:AX (.ptr B (0+4)) G R=some A.ov:=AU (off:=0+4) d2.box rfl
  have fin:∀{x y:Int},ARq t1 w A.ov=[.int .i64 x 0,.int .i64 y 0,A.ov]->Bz 3 (.ptr (n+1) 0) (.agg [.int .i64 x 0,.int .i64 y 0,A.ov]) R (Q+1) λ_ H n'=>Gu (ED [.cn (.ptr (n+1) 0) 3,.t (.int .i64 (.ofNat 0) 0)] G H) λl=>k (JF l) H n':=by
   intro x y e
   rw[FU (m:=3) i5 (by omega) rfl rfl,EN (m:=3) (T.Ag ..) (by omega) rfl]
   have p5:Kb b H n (T.set R (n+1) (one [.int .i64 x 0,.int .i64 y 0,A.ov])) (Q+1):=⟨by omega,λd q1 q2=>by
    rw[T.Ac _ _ (by omega),S.same _ (by omega),kz.zero d (by omega) (if_neg (by omega)) q2,U.same d (by omega),M.same d q1 q2],λq=>by
    have q8:=(M.seen q).same (U.same b (by omega))
    exact(kz.seen q8).same (by rw[T.Ac _ _ (by show n+1≠b;omega)];exact S.same b (by omega))⟩
   have:=hk _ (Q+1) A.ov p5 ((O.out.el (G:=G) (by omega)).same λd u=>by
    have:=O.out.own u
    have p6:d≠n+1:=λe=>by
     have h1:A.own (n+1)=(W00 B).own (n+1):=kz.own (n+1) (by omega)
     have h2:(W00 B).own (n+1)=0:=if_neg (by omega)
     rw[e,h1,h2]at this
     omega
    rw[T.Ac _ _ (Ne.symm p6),S.same _ this.1]) (λd u=>by
    have:=O.out.own u
    refine⟨?_,by omega⟩
    rcases Nat.lt_or_ge d n with h'|h'
    ·have h1:A.own d=(W00 B).own d:=kz.own d (by omega)
     have h2:(W00 B).own d=0:=if_neg (by omega)
     rw[h1,h2]at this
     omega
    ·exact h') (by have:=O.sz;omega)
   rw[e]at this
   exact this
  have i6:∀(x y:Int),BH [(.int .i64 (.ofNat 0) 0),(.int .i64 (.ofNat 0) 0),.Ad] [(0,1,.c (.int .i64 x 0)),(2,1,.c A.ov)]=some (.agg [.int .i64 x 0,.int .i64 (.ofNat 0) 0,A.ov])/\
   BH [(.int .i64 (.ofNat 0) 0),(.int .i64 (.ofNat 0) 0),.Ad] [(1,1,.c (.int .i64 y 0)),(2,1,.c A.ov)]=some (.agg [.int .i64 (.ofNat 0) 0,.int .i64 y 0,A.ov]):=λx y=>AR8 O.out
  rw[DV,AP,Ah,AP,AU (off:=0+6) d2.box (v:=.bool false) rfl,AP,BG,AP,Ah,AP,lt,AP,AAI,AP]
  by_cases h0:t1.trap=0
  ·rw[decide_eq_true h0]
   show AZ (.bool false) true _ _
   rw[BG,Ah,AP,AU (off:=0+0) p3 (v:=.int .i64 w.n 0) rfl,AP,AP,Ah,AP,lo,AP,(i6 0 w.n).2,AP]
   exact fin (by unfold ARq;rw[if_pos h0])
  ·rw[decide_eq_false h0]
   show AZ (.bool true) true _ _
   rw[BP,AP,Ah,AP,lt,AP,AP,Ah,AP,lo,AP,(i6 _ 0).1,AP]
   exact fin (by unfold ARq;rw[if_neg h0])
end
end Go.RL
