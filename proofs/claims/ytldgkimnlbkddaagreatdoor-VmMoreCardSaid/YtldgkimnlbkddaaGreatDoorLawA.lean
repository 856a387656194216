/- Part of a proof; nothing is assumed. -/
import Derived.Test.YtldgkimnlbkddaaGreatDoorConG
import Derived.Test.YtldgkimnlbkddaaGreatDoorConE
import Derived.Test.YtldgkimnlbkddaaGreatDoorCode
import Derived.Test.YtldgkimnlbkddaaGreatDoorConA
import Derived.Test.YtldgkimnlbkddaaGreatDoorEngE
import Derived.Test.YtldgkimnlbkddaaGreatDoorConB
import Derived.Test.YtldgkimnlbkddaaGreatDoorWalk
set_option linter.unusedVariables false
set_option linter.unusedSimpArgs false
namespace Go.RL
open Go.Bf
set_option maxRecDepth 100000
theorem AcB(t:Int){c:Nat}(d:c<9223372036854775808):∃y:Nat,y<=c/\B2.ev .and (.int .i64 t 0) (.int .i64 (.ofNat c) 0)=some (.int .i64 (.ofNat y) 0):=by
 refine⟨ASj t c,(AMx t (by omega)).2,?_⟩
 show BI true (YQ (AZ4 .i64 t (.ofNat c)) λm=>some (.int .i64 m 0))=_
 rw[AVb t (by omega)];rfl
section
variable{G:AY}{H H' H'':Heap}{n n' n'':Nat}{k:KV}{fls:List Fl}
theorem AXI{x y w:Int}(f:∀(p q r:Nat) H' n',p<=4095->q<=1023->r<=31->Kp H n H' n'->k (.agg [.int .i64 (.ofNat p) 0,.int .i64 (.ofNat q) 0,.int .i64 (.ofNat r) 0]) H' n'):Runs F G fM [.int .i64 x 0,.int .i64 y 0,.int .i64 w 0] H n k:=by
 refine go3 (ABb BF G) ?_
 delta gK
 refine Di rfl λE g i=>?_
 obtain⟨p,u,v⟩:=AcB x (c:=4095) (by omega)
 obtain⟨q,A,B⟩:=AcB y (c:=1023) (by omega)
 obtain⟨r,C,D⟩:=AcB w (c:=31) (by omega)
 rw[v,AP,B,AP,D,AP,show BH [(.int .i64 (.ofNat 0) 0),(.int .i64 (.ofNat 0) 0),(.int .i64 (.ofNat 0) 0)] [(0,1,.c (.int .i64 (.ofNat p) 0)),(1,1,.c (.int .i64 (.ofNat q) 0)),(2,1,.c (.int .i64 (.ofNat r) 0))]=some (.agg [.int .i64 (.ofNat p) 0,.int .i64 (.ofNat q) 0,.int .i64 (.ofNat r) 0])from rfl,AP,
  FU (m:=3) i (by omega) rfl rfl,EN (m:=3) (T.Ag ..) (by omega) rfl]
 exact f p q r _ _ u A C ⟨by omega,λI d=>by rw[T.Ac _ _ (by omega),g.same _ d]⟩
theorem Afq{e:Option V}{a:V}{P:Prop}(h:P):ACX (.bool false) true e a P:=h
theorem ASG(C:Ce (ZP fls) fls){f:Fl}{m:Cb}{a:Int}{N:Nat}(V:f∈fls)(W:m∈f.face.ms)(H:m.st=true)(I:m.ps=List.replicate N C9){p q r:Int}{x y z:Nat}:
 ∃g X u F k Y w G,JZ (ZP fls) ⟨m,f.face.nm⟩ ((List.replicate N a).map λx=>⟨x,0⟩) (V0 p q r)=some g/\lT (ZP fls) X g PD=some (u,F)/\(g.trap=0->AFP (ZP fls) fls g)/\g.steps=p/\
  JZ (ZP fls) ⟨m,f.face.nm⟩ ((List.replicate N a).map λx=>⟨x,0⟩) (V0 (p+x) (q+y) (r+z))=some k/\lT (ZP fls) Y k PD=some (w,G)/\(k.trap=0->AFP (ZP fls) fls k)/\k.steps=p+x/\
  u.out<+:w.out/\(AEw u.trap=true∨(w.trap=u.trap/\w.out=u.out/\G=F)):=by
 have J:(Qv (ZP fls).fs ⟨m,f.face.nm⟩).isSome=true:=AVZ C.lk V W
 have K:∀(s:Vs),s.hp=[]->∀own,own∈(above (ZP fls).fs f.face.nm).1->Rz (ZP fls).fs s.hp ((List.replicate N a).map λx=>(⟨x,0⟩:Cv)) ((bif m.st then[]else[⟨own,false⟩])++m.ps):=by
  intro s hs own _
  rw[H,I]
  refine⟨by show((List.replicate N a).map _).length=(List.replicate N C9).length;rw[List.length_map,List.length_replicate,List.length_replicate],λi v t Z _=>?_⟩
  obtain⟨b,-,rfl⟩:=List.mem_map.1 (List.mem_of_getElem? Z)
  exact bH
 have R:∀p q r:Int,KF (ZP fls) fls (V0 p q r) (JZ (ZP fls) ⟨m,f.face.nm⟩ ((List.replicate N a).map λx=>⟨x,0⟩) (V0 p q r)):=λp q r=>
  ALf (s:=V0 p q r) C (λth h=>by cases h) trivial J (K _ rfl)
 obtain⟨g,S,L,ok1⟩:=R p q r
 obtain⟨k,T,M,B⟩:=R (p+x) (q+y) (r+z)
 obtain⟨u,F,O⟩:=run_end C (g.steps.toNat+2) g PD ok1 (λ_=>Nat.le_refl _) (by omega)
 obtain⟨w,G,U⟩:=run_end C (k.steps.toNat+2) k PD B (λ_=>Nat.le_refl _) (by omega)
 refine⟨g,_,u,F,k,_,w,G,S,O,ok1,L,T,U,B,M,?_⟩
 have P:V0 (p+x) (q+y) (r+z)=(V0 p q r).up x y z:=rfl
 have d:=ALQ (x:=x) (y:=y) (z:=z) (E:=ZP fls) (p:=⟨m,f.face.nm⟩) (args:=(List.replicate N a).map λx=>⟨x,0⟩) (s:=V0 p q r)
 rw[S,<-P,T]at d
 rcases d with⟨A,D⟩|A
 ·have:=APl A O
  subst this
  refine⟨?_,.inl A⟩
  rw[D];exact List.nil_prefix
 ·have A:=Option.some.inj A
  subst A
  rcases AOh O U with⟨D,Q⟩|⟨D,Q⟩
  ·exact⟨Q,.inl D⟩
  ·subst D
   exact⟨List.prefix_refl _,.inr ⟨rfl,rfl,Q⟩⟩
def dL(l:List Int):EL:=l.map λx=>[.int .i64 x 0]
theorem AGE{l:List Int}{i:Nat}(h:i<l.length):(dL l)[i]? =some [.int .i64 l[i] 0]:=by unfold dL;rw[List.getElem?_map,List.getElem?_eq_getElem h];rfl
theorem pK(l:List Int):(dL l).length=l.length:=List.length_map ..
theorem AXZ{v w:V}{l:List Int}(f:El G H v 1 (dL l))(g:El G H w 1 (dL l))(C:l.length<=100000)(m:k (.bool true) H n):Runs F G Ri [v,w] H n k:=by
 refine go2 (ay BF G) ?_
 delta Rf
 rw[f.len,AP,g.len,AP,AAI,AP,decide_eq_true rfl]
 show AZ (.bool false) true _ _
 rw[BG,AP,pK]
 refine BN (N:=l.length) (J:=λi st=>st=(v,w,V.int .i64 (.ofNat l.length) 0,V.int .i64 (.ofNat i) 0,H,n)) ?_ ?_ rfl
 ·rintro I i st d rfl u
  show Dz lfp G (Runs F G) k I v w (.int .i64 (.ofNat l.length) 0) (.int .i64 (.ofNat i) 0) H n
  delta Dz
  obtain⟨p,x,y⟩:=f.at (AGE d)
  obtain⟨q,A,B⟩:=g.at (AGE d)
  rw[Tq,decide_eq_true d,AP,BP,x,AP,Jv y,AP,A,AP,Jv B,AP,APP,AP,decide_eq_true rfl]
  show AZ (.bool false) true _ _
  rw[BG,DI (by omega),AP]
  exact u _ rfl
 ·rintro I st rfl
  show Dz lfp G (Runs F G) k I v w (.int .i64 (.ofNat l.length) 0) (.int .i64 (.ofNat l.length) 0) H n
  delta Dz
  rw[Tq,decide_eq_false (by omega),AP,BG]
  exact m
theorem AXw{x y:Int}{v w:V}{l:List Int}(q:El G H v 1 (dL l))(u:El G H w 1 (dL l))(g:∀d,v.XZ=some d∨w.XZ=some d->d<n)(A:l.length<=100000)(B:∀H' n',Kp H n H' n'->k (.bool true) H' n'):
 Runs F G eH [.agg [.int .i64 x 0,.int .i64 y 0,v],.agg [.int .i64 x 0,.int .i64 y 0,w]] H n k:=by
 refine go2 (ABv BF G) ?_
 delta iH
 refine FT λD C i=>?_
 refine FT λE p m=>?_
 have i:=p.get i (by omega)
 have f:=C.trans p
 rw[Ah,AP,AU (off:=0+0) i (v:=.int .i64 x 0) rfl,AP,Ah,AP,AU (off:=0+0) m (v:=.int .i64 x 0) rfl,AP,AHQ,AP,decide_eq_true rfl]
 refine iQ (Ah ..) (iQ (AU (off:=0+1) i (v:=.int .i64 y 0) rfl) (iQ (Ah ..) (iQ (AU (off:=0+1) m (v:=.int .i64 y 0) rfl) (iQ (AHQ ..) (mQ ?_)))))
 rw[decide_eq_true rfl]
 refine iQ (Ah ..) (iQ (AU (off:=0+2) i (v:=v) rfl) (iQ (Ah ..) (iQ (AU (off:=0+2) m (v:=w) rfl) (AYP ?_))))
 exact AXZ (q.same λd h=>f.same d (g d (.inl h))) (u.same λd h=>f.same d (g d (.inr h))) A (mQ (B _ _ f))
theorem AaO{t:Nat}(d:k (.bool (AEw t)) H n):Runs F G jd [.int .i64 (.ofNat t) 0] H n k:=by
 refine go1 (ADd BF G) ?_
 delta jR
 unfold AEw at d
 rw[ER,AP]
 cases f:decide (t=5)with
 |true=>
  rw[f]at d
  repeat (first|with_reducible refine AEj ?_|with_reducible refine mQ ?_)
  exact d
 |false=>
  rw[f]at d
  refine Ya rfl (Ya (ER ..) (pz ?_))
  cases g:decide (t=6)with
  |true=>
   rw[g]at d
   repeat (first|with_reducible refine AEj ?_|with_reducible refine mQ ?_)
   exact d
  |false=>
   rw[g]at d
   exact Ya rfl (Ya (ER ..) (pz d))
end
def AUz(t:Vs)(w:Cv):Int:=if t.trap=0 then w.n else 0
theorem AUb(t:Vs)(w:Cv)(ov:V):ARq t w ov=[.int .i64 (.ofNat t.trap) 0,.int .i64 (AUz t w) 0,ov]:=by
 unfold ARq AUz
 split
 ·rename_i h;rw[h]
 ·rfl
structure Sm(G:AY)(fls:List Fl)(i b bx1 bx2 p q r:Nat)(H:Heap)(n:Nat):Prop where
 hl:TB fls=0
 C:Ce (ZP fls) fls
 img:∃t a fm vn,NQ G H n i t a b fm vn (EW (Bh fls))/\FV G H n fm (OD fls)/\fm<n/\fm≠b
 g1:T.get H bx1=some (one [.int .i64 (.ofNat p) 0,.int .i64 (.ofNat q) 0,.int .i64 (.ofNat r) 0])
 g2:T.get H bx2=some (one [.int .i64 (.ofNat (p+100)) 0,.int .i64 (.ofNat (q+20)) 0,.int .i64 (.ofNat (r+3)) 0])
 bn:bx1<n/\bx1≠b/\bx2<n/\bx2≠b
 pq:p<=4095/\q<=1023/\r<=31
section
variable{G:AY}{H H' H'':Heap}{n n' n'':Nat}{k:KV}{fls:List Fl}{i b bx1 bx2 p q r:Nat}
theorem Sm.kb(S:Sm G fls i b bx1 bx2 p q r H n)(f:Kb b H n H' n'):Sm G fls i b bx1 bx2 p q r H' n':=by
 obtain⟨t,a,m,u,g,v,w,k⟩:=S.img
 have d:=S.bn
 have x:=f.le
 exact⟨S.hl,S.C,⟨t,a,m,u,g.kb f,v.ke (f.ke g.tab.seen) (f.same _ w k),by omega,k⟩,f.get S.g1 d.1 d.2.1,f.get S.g2 d.2.2.1 d.2.2.2,⟨by omega,d.2.1,by omega,d.2.2.2⟩,S.pq⟩
theorem Sm.bl(S:Sm G fls i b bx1 bx2 p q r H n):b<n:=by
 obtain⟨t,a,f,g,d,-⟩:=S.img
 exact d.tab.bn
theorem AeQ(hG:Vz G){W:Int}{va E K L M O P:V}{fb mb N:Nat}{w:(V×V×V×V×V×V×V×Heap×Nat)->Prop}{A:(V×V×V×V×V×V×V×V×V×V×V×Heap×Nat)->Prop}{f:Fl}{m:Cb}{Lf Lm:LV}{ok:Bool}
 (S:Sm G fls i b bx1 bx2 p q r H n) (Q:f∈fls) (hm:m∈f.face.ms) (X:fb<n/\mb<n/\fb≠b/\mb≠b) (gf:T.get H fb=some (one Lf)) (d6:Lf[0]? =some f.face.nm.v) (gm:T.get H mb=some (one Lm)) (d7:Lm[0]? =some m.nm.v)
 (g4:ok=true->m.st=true/\m.ret=C9/\m.ps=List.replicate N C9) (hN:N<=200) (d8:El G H va 1 (dL (List.replicate N W))) (Y:∀g,va.XZ=some g->g<n/\g≠b)
 (hk:∀H' n',Kb b H n H' n'->Eo lfp G (Runs F G) k w A (.int .i64 W 0) (.ptr i 0) (.ptr bx1 0) (.ptr bx2 0) (.ptr fb 0) E K L M O P H' n'):
 JU lfp G (Runs F G) k w A (.int .i64 W 0) (.ptr i 0) (.ptr bx1 0) (.ptr bx2 0) (.ptr fb 0) (.ptr mb 0) (.bool ok) va E K L M O P H n:=by
 delta JU
 rw[BZ,AP]
 cases ok with
 |false=>
  show AZ (.bool true) true _ _
  rw[BP]
  exact hk _ _ (.refl ..)
 |true=>
  obtain⟨d2,d0,d3⟩:=g4 rfl
  show AZ (.bool false) true _ _
  have i7:=S.bl
  have d9:(List.replicate N W).length=N:=List.length_replicate
  have i8:=S.pq
  obtain⟨s1,i9,u,w1,s2,k0,t2,w2,e1,r1,ok1,g7,e2,r2,g8,g9,d1,d4⟩:=ASG (a:=W) (N:=N) (p:=p) (q:=q) (r:=r) (x:=100) (y:=20) (z:=3) S.C Q hm d2 d3
  obtain⟨t,a,fm,vn,h1,h2,h3,h4⟩:=S.img
  rw[BG,Ah,AP,Ah,AP,AU (off:=0+0+0) gf (v:=f.face.nm.v) d6,AP,Ah,AP,AU (off:=0+0) gm (v:=m.nm.v) d7,AP,CG (m:=3) S.g1 (by omega) rfl,AP]
  refine ATc hG S.hl S.C h1 h2 ⟨h3,h4⟩ (p:=Int.ofNat p) (q:=Int.ofNat q) (r:=Int.ofNat r) ⟨by show(0:Int)<=(p:Int);omega,by show(p:Int)<=5000;omega⟩ ⟨by show(0:Int)<=(q:Int);omega,by show(q:Int)<=2000;omega⟩ (by show(r:Int)<=100;omega) (xs:=List.replicate N W) Q hm d2 d0 (by rw[d9];exact d3) (by omega) d8 Y e1 r1 ok1 g7 λH1 n1 o1 f1 i0 Z k1=>?_
  rw[AUb]
  have S1:=S.kb f1
  have k2:=f1.le
  rw[AJ5,AP,AKJ,AP]
  refine Di rfl λH2 f2 g2=>?_
  refine Rn g2 rfl rfl (by omega) λH3 g3 s3=>?_
  have f3:Kp H1 n1 H3 (n1+1):=⟨by omega,λg d=>by rw[s3 _ (by omega),f2.same _ d]⟩
  have R:=f1.trans (f3.kb (by omega))
  have S3:=S.kb R
  have i1:El G H3 o1 1 (dL u.out):=i0.same λg d=>f3.same g (Z g d).2
  have i2:=R.get gf X.1 X.2.2.1
  have i3:=R.get gm X.2.1 X.2.2.2
  obtain⟨t',a',k3,k4,h1,h2,h3,h4⟩:=S3.img
  rw[Ah,AP,Ah,AP,AU (off:=0+0+0) i2 (v:=f.face.nm.v) d6,AP,AP,AU (off:=0+0) i3 (v:=m.nm.v) d7,AP,CG (m:=3) S3.g2 (by omega) rfl,AP]
  refine ATc hG S.hl S.C h1 h2 ⟨h3,h4⟩ (p:=Int.ofNat (p+100)) (q:=Int.ofNat (q+20)) (r:=Int.ofNat (r+3)) ⟨by show(0:Int)<=((p+100:Nat):Int);omega,by show((p+100:Nat):Int)<=5000;omega⟩ ⟨by show(0:Int)<=((q+20:Nat):Int);omega,by show((q+20:Nat):Int)<=2000;omega⟩ (by show((r+3:Nat):Int)<=100;omega) (xs:=List.replicate N W) Q hm d2 d0 (by rw[d9];exact d3) (by omega) (d8.same λg d=>R.same g (Y g d).1 (Y g d).2) (λg d=>by have:=Y g d;omega) e2 r2 g8 g9 λH4 n4 o2 f4 i4 f0 k5=>?_
  rw[AUb]
  have k6:=f4.le
  rw[AJ5,AP,AKJ,AP]
  refine Di rfl λH5 f5 g5=>?_
  refine Rn g5 rfl rfl (by omega) λH6 g6 s6=>?_
  have f6:Kp H4 n4 H6 (n4+1):=⟨by omega,λg d=>by rw[s6 _ (by omega),f5.same _ d]⟩
  have d5:=f4.trans (f6.kb (by omega))
  have f8:=R.trans d5
  have B:El G H6 o1 1 (dL u.out):=i1.same λg d=>d5.same g (by have:=Z g d;omega) (by have:=Z g d;omega)
  have D:El G H6 o2 1 (dL t2.out):=i4.same λg d=>f6.same g (f0 g d).2
  have U:T.get H6 n1=some (one [.int .i64 (.ofNat u.trap) 0,.int .i64 (AUz u w1) 0,o1]):=d5.get g3 (by omega) (by omega)
  have k7:u.out.length<=t2.out.length:=d1.length_le
  rw[AAI,AP]
  refine Ya rfl (Ya (AAI ..) (pz ?_))
  show Ak (.bool false) false _ _
  refine Ya rfl (Ya (AU (off:=0+2) U (v:=o1) rfl) (Ya B.len (Ya (Ah ..) (Ya (AU (off:=0+2) g6 (v:=o2) rfl) (Ya D.len (Ya (ALA ..) (pz ?_)))))))
  rw[pK,pK,decide_eq_false (by omega),BG,AP,AU (off:=0+2) U (v:=o1) rfl,AP,B.len,pK,AP]
  refine BN (N:=u.out.length) (J:=λj st=>st=(V.int .i64 W 0,V.ptr i 0,V.ptr bx1 0,V.ptr bx2 0,V.ptr fb 0,V.ptr n1 0,V.ptr n4 0,E,K,L,M,O,P,V.int .i64 (.ofNat u.out.length) 0,V.int .i64 (.ofNat j) 0,H6,n4+1)) ?_ ?_ rfl
  ·rintro I j st hj rfl ih
   show Fv lfp G (Runs F G) k w A I (.int .i64 W 0) (.ptr i 0) (.ptr bx1 0) (.ptr bx2 0) (.ptr fb 0) (.ptr n1 0) (.ptr n4 0) E K L M O P (.int .i64 (.ofNat u.out.length) 0) (.int .i64 (.ofNat j) 0) H6 (n4+1)
   delta Fv
   obtain⟨p1,i5,i6⟩:=B.at (AGE hj)
   obtain⟨p2,b1,b2⟩:=D.at (AGE (i:=j) (by omega))
   have he:t2.out[j]'(by omega)=u.out[j]:=by
    obtain⟨l,hl⟩:=d1
    have:t2.out[j]? =u.out[j]? :=by rw[<-hl,List.getElem?_append_left hj]
    rw[List.getElem?_eq_getElem (by omega),List.getElem?_eq_getElem hj]at this
    exact Option.some.inj this
   rw[Tq,decide_eq_true hj,AP,BP,Ah,AP,AU (off:=0+2) U (v:=o1) rfl,AP,i5,AP,Jv i6,AP,Ah,AP,AU (off:=0+2) g6 (v:=o2) rfl,AP,b1,AP,Jv b2,AP,APP,AP,decide_eq_true he.symm]
   show AZ (.bool false) true _ _
   rw[BG,DI (by omega),AP]
   exact ih _ rfl
  ·rintro I st rfl
   show Fv lfp G (Runs F G) k w A I (.int .i64 W 0) (.ptr i 0) (.ptr bx1 0) (.ptr bx2 0) (.ptr fb 0) (.ptr n1 0) (.ptr n4 0) E K L M O P (.int .i64 (.ofNat u.out.length) 0) (.int .i64 (.ofNat u.out.length) 0) H6 (n4+1)
   delta Fv
   rw[Tq,decide_eq_false (by omega),AP,BG]
   delta NV
   rw[Ah,AP,AU (off:=0+0) U (v:=.int .i64 (.ofNat u.trap) 0) rfl,AP]
   refine AaO ?_
   rw[BZ,AP]
   cases f9:AEw u.trap with
   |true=>
    rw[Bool.not_true]
    repeat (first|with_reducible refine AB2 ?_|with_reducible refine AUI ?_|with_reducible refine pz ?_)
    rw[BG]
    exact hk _ _ f8
   |false=>
    rcases d4 with h|⟨h5,h6,h7⟩
    ·rw[h]at f9;cases f9
    have g0:AUz t2 w2=AUz u w1:=by unfold AUz;rw[h5,h7]
    rw[h5,g0]at g6
    rw[h6]at D
    rw[Bool.not_false]
    refine iQ (CG (m:=3) U (by omega) rfl) (iQ (CG (m:=3) g6 (by omega) rfl) (AYP ?_))
    refine AXw B D (λg d=>?_) (by omega) λH7 n7 f7=>?_
    ·rcases d with h|h
     ·have:=Z g h;omega
     ·have:=f0 g h;omega
    ·refine iQ (BZ _) (mQ ?_)
     show AZ (.bool false) true _ _
     rw[BG]
     exact hk _ _ (f8.trans (f7.kb (by omega)))
end
def AG5:LV:=[.str 2 15677,.str 2 15649,.str 2 15676,.str 2 9766,.str 2 31868,.str 1 43,.str 1 45,.str 1 42,.str 1 47,.str 1 37,.str 1 60,.str 1 61,.str 1 33,.str 1 40,.str 1 41,.str 1 91,.str 1 93,.str 1 123,.str 1 125,.str 1 59,.str 1 44,.str 1 46]
def AFE(G:AY):Prop:=G 1 0 22=some AG5
noncomputable def AJH(G:AY):AY:=λb off m=>
 Bool.rec (motive:=λ_=>Option LV) (G b off m) (some [.int .i32 (.ofNat (APg.getD (off/2) 0)) 0]) (band (Nat.beq b 0) (band (Nat.beq m 1) (band (Nat.beq (off%2) 1) (Nat.ble off 65))))
theorem AXU{G:AY}(f:zX G):AJH G=G:=by
 funext b off m
 unfold AJH
 cases d:band (Nat.beq b 0) (band (Nat.beq m 1) (band (Nat.beq (off%2) 1) (Nat.ble off 65)))with
 |false=>rfl
 |true=>
  simp only[BK,Bool.and_eq_true,beq_iff,Nat.ble_eq]at d
  obtain⟨rfl,rfl,g,i⟩:=d
  have:=f (off/2) (by omega)
  rw[show off/2*2+1=off by omega]at this
  exact this.symm
noncomputable def Gx(G:AY):AY:=λb o z=>Bool.rec (motive:=λ_=>Option LV) (G b o z) (some AG5) (band (Nat.beq b 1) (band (Nat.beq o 0) (Nat.beq z 22)))
theorem Afj{G:AY}(h:AFE G):Gx G=G:=by
 funext b o z
 show(Bool.rec (motive:=λ_=>Option LV) (G b o z) (some AG5) (band (Nat.beq b 1) (band (Nat.beq o 0) (Nat.beq z 22))):Option LV)=_
 cases d:band (Nat.beq b 1) (band (Nat.beq o 0) (Nat.beq z 22))with
 |false=>rfl
 |true=>
  rw[BK,BK,Bool.and_eq_true,Bool.and_eq_true,Nat.beq_eq,Nat.beq_eq,Nat.beq_eq]at d
  obtain⟨rfl,rfl,rfl⟩:=d
  exact h.symm
set_option maxHeartbeats 0 in
theorem ASY(G:AY)(K:V->Prop):run F (Gx (AJH G)) 100 100 SG [] .e 0 (λv _ _=>K v)=K (.bool true):=by kernel_rfl
attribute [local irreducible] run
theorem AYx{G:AY}{k:KV}(d:zX G)(f:AFE G)(g:∀H n,k (.bool true) H n):Runs F G SG [] .e 0 k:=by
 have h:=of_eq_true (p:=run F (Gx (AJH G)) 100 100 SG [] .e 0 (λv _ _=>v=.bool true))
  (by rw[ASY G λv=>v=.bool true];exact eq_true rfl)
 rw[AXU d,Afj f]at h
 exact AU5 (λv H n i=>by subst i;exact g H n) ⟨100,h⟩
theorem AUZ{G:AY}{H:Heap}{n:Nat}{v:V}{c:Fc}(h:WB G H n v c){k:KV}(x:∀r H' n',Kp H n H' n'->k (.bool r) H' n'):Runs F G Zh [v] H n k:=by
 refine go1 (AHg BF G) ?_
 obtain⟨Q,D,ws,h,rfl⟩:=h
 delta uh
 refine FT λX u O=>?_
 have A:=h.fs.kp u
 have B:=h.ms.kp u
 have R:=A.lt
 have E:=B.lt
 simp only[go_sem,Nat.reduceAdd,AU (off:=2) O (v:=Q) rfl,A.len,IL]
 cases P:decide (12<c.fs.length)with
 |true=>simp only[go_sem];exact x _ _ _ u
 |false=>
 simp only[go_sem,Nat.reduceAdd,AU (off:=3) O (v:=D) rfl,B.len',IL]
 cases h2:decide (12<c.ms.length)with
 |true=>simp only[go_sem];exact x _ _ _ u
 |false=>
 simp only[go_sem,Nat.reduceAdd,AU (off:=0) O (v:=c.nm.v) rfl,iT,IL]
 cases h3:decide (60<c.nm.1)with
 |true=>simp only[go_sem];exact x _ _ _ u
 |false=>
 simp only[go_sem,Nat.reduceAdd,AU (off:=1) O (v:=c.sup.v) rfl,iT,IL]
 cases h4:decide (60<c.sup.1)with
 |true=>simp only[go_sem];exact x _ _ _ u
 |false=>
 simp only[go_sem,Nat.reduceAdd,AU (off:=2) O (v:=Q) rfl,A.len]
 refine BN (N:=c.fs.length) (J:=λj q=>∃H' n',q=(.ptr n 0,Q,.int .i64 (.ofNat c.fs.length) 0,.int .i64 (.ofNat j) 0,H',n')/\Kp X (n+1) H' n') ?_ ?_ ⟨X,_,rfl,Kp.refl _ _⟩
 ·rintro I j q f ⟨p,g,rfl,f3⟩ Y
  show I8 lfp G (Runs F G) k I (.ptr n 0) Q (.int .i64 (.ofNat c.fs.length) 0) (.int .i64 (.ofNat j) 0) p g
  delta I8
  obtain⟨q,S,d⟩:=(A.kp f3).at f
  generalize c.fs[j]=m at d
  unfold Fld.cells at d
  have Z:=f3.le
  simp only[go_sem,BR,f,decide_true,S,Bj d,Nat.reduceAdd,iT,IL]
  rw[T.set_set]
  have y:=f3.new (m:=g+1) (id:=g) (one [m.nm.v,m.ty.nm.v,.bool m.ty.arr]) f3.le (by omega)
  have K:=T.Ag p g (one [m.nm.v,m.ty.nm.v,.bool m.ty.arr])
  generalize T.set p g (one [m.nm.v,m.ty.nm.v,.bool m.ty.arr])=H4 at y K
  cases P:decide (60<m.nm.1)with
  |true=>simp only[go_sem];exact x _ _ _ (u.trans y)
  |false=>
  simp only[go_sem,Nat.reduceAdd,AU (off:=1) K (v:=m.ty.nm.v) rfl,iT,IL]
  cases P:decide (60<m.ty.nm.1)with
  |true=>simp only[go_sem];exact x _ _ _ (u.trans y)
  |false=>
  simp only[go_sem,DI (show j+1<9223372036854775808 by unfold big at R;omega)]
  exact Y _ ⟨_,_,rfl,y⟩
 rintro I q ⟨p,g,rfl,f3⟩
 show I8 lfp G (Runs F G) k I (.ptr n 0) Q (.int .i64 (.ofNat c.fs.length) 0) (.int .i64 (.ofNat c.fs.length) 0) p g
 delta I8
 have d0:=B.kp f3
 simp only[go_sem,BR,Nat.lt_irrefl,decide_false]
 delta TL
 simp only[go_sem,Nat.reduceAdd,AU (off:=3) (f3.get O (by omega)) (v:=D) rfl,d0.len']
 refine BN (N:=c.ms.length) (J:=λj q=>∃H' n',q=(D,.int .i64 (.ofNat c.ms.length) 0,.int .i64 (.ofNat j) 0,H',n')/\Kp X (n+1) H' n') ?_ ?_ ⟨p,_,rfl,f3⟩
 ·rintro I j q f ⟨p,g,rfl,f3⟩ Y
  show JI lfp G (Runs F G) k I D (.int .i64 (.ofNat c.ms.length) 0) (.int .i64 (.ofNat j) 0) p g
  delta JI
  obtain⟨q,w,S,d,hw⟩:=(B.kp f3).at f
  generalize c.ms[j]=m at d hw
  unfold Cb.cells at d
  have Z:=f3.le
  simp only[go_sem,BR,f,decide_true,S,Bj d,Nat.reduceAdd,iT,IL]
  rw[T.set_set]
  have L:Kp p g (T.set p g (one [m.nm.v,.bool m.st,w,m.ret.nm.v,.bool m.ret.arr])) (g+1):=(Kp.refl _ _).new _ (Nat.le_refl _) (by omega)
  have K:=T.Ag p g (one [m.nm.v,.bool m.st,w,m.ret.nm.v,.bool m.ret.arr])
  generalize T.set p g (one [m.nm.v,.bool m.st,w,m.ret.nm.v,.bool m.ret.arr])=H4 at L K
  have y:=f3.trans L
  have C:=hw.kp L
  cases P:decide (60<m.nm.1)with
  |true=>simp only[go_sem];exact x _ _ _ (u.trans y)
  |false=>
  simp only[go_sem,Nat.reduceAdd,AU (off:=3) K (v:=m.ret.nm.v) rfl,iT,IL]
  cases P:decide (60<m.ret.nm.1)with
  |true=>simp only[go_sem];exact x _ _ _ (u.trans y)
  |false=>
  simp only[go_sem,Nat.reduceAdd,AU (off:=2) K (v:=w) rfl,C.len,IL]
  cases P:decide (10<m.ps.length)with
  |true=>simp only[go_sem];exact x _ _ _ (u.trans y)
  |false=>
  simp only[go_sem,Nat.reduceAdd,AU (off:=2) K (v:=w) rfl,C.len]
  have M:=C.lt
  refine BN (N:=m.ps.length) (J:=λi q=>∃H' n',q=(D,.int .i64 (.ofNat c.ms.length) 0,.int .i64 (.ofNat j) 0,w,.int .i64 (.ofNat m.ps.length) 0,.int .i64 (.ofNat i) 0,H',n')/\Kp H4 (g+1) H' n') ?_ ?_ ⟨H4,_,rfl,Kp.refl _ _⟩
  ·rintro I2 i q f ⟨H5,U,rfl,W⟩ d1
   show JK lfp G (Runs F G) k I I2 D (.int .i64 (.ofNat c.ms.length) 0) (.int .i64 (.ofNat j) 0) w (.int .i64 (.ofNat m.ps.length) 0) (.int .i64 (.ofNat i) 0) H5 U
   delta JK
   obtain⟨q,S,d⟩:=(C.kp W).el.at (Tj f)
   generalize m.ps[i]=t at d
   unfold Ty.cells at d
   simp only[go_sem,BR,f,decide_true,S,Bj d,Nat.reduceAdd,iT,IL]
   rw[T.set_set]
   have f6:=W.new (m:=U+1) (id:=U) (one [t.nm.v,.bool t.arr]) W.le (by omega)
   cases P:decide (60<t.nm.1)with
   |true=>simp only[go_sem];exact x _ _ _ (u.trans (y.trans f6))
   |false=>
   simp only[go_sem,DI (show i+1<9223372036854775808 by unfold big at M;omega)]
   exact d1 _ ⟨_,_,rfl,f6⟩
  ·rintro I2 q ⟨H5,U,rfl,W⟩
   show JK lfp G (Runs F G) k I I2 D (.int .i64 (.ofNat c.ms.length) 0) (.int .i64 (.ofNat j) 0) w (.int .i64 (.ofNat m.ps.length) 0) (.int .i64 (.ofNat m.ps.length) 0) H5 U
   delta JK
   simp only[go_sem,BR,Nat.lt_irrefl,decide_false]
   delta TU
   simp only[go_sem,DI (show j+1<9223372036854775808 by unfold big at E;omega)]
   exact Y _ ⟨_,_,rfl,y.trans W⟩
 ·rintro I q ⟨p,g,rfl,f3⟩
  show JI lfp G (Runs F G) k I D (.int .i64 (.ofNat c.ms.length) 0) (.int .i64 (.ofNat c.ms.length) 0) p g
  delta JI
  simp only[go_sem,BR,Nat.lt_irrefl,decide_false]
  delta Tv
  exact x _ _ _ (u.trans f3)
theorem add_any(a b:Int):∃c,B2.ev .add (.int .i64 a 0) (.int .i64 b 0)=some (.int .i64 c 0):=⟨Z7 .i64 (AHI a b),rfl⟩
section
variable{G:AY}{H0 H:Heap}{n0 n e:Nat}{p:Pool}{bs:List Bd}{c0 c1 c2 c3 v0 v1 v2 v3 v4 vb:V}{ws bws:List V}{k:KV}
theorem AMN(g:Jk G H n vb bs bws)(ge:T.get H e=some (one [c0,c1,c2,c3,v0,v1,v2,v3,v4,vb]))(C:∀r H' n',Kp H n H' n'->k (.bool r) H' n'):
 MV lfp G (Runs F G) k (.ptr e 0) H n:=by
 delta MV
 have p:=g.lt
 have K:lenV vb=some (.int .i64 (.ofNat bs.length) 0):=by rw[g.el.len,List.length_zipWith,g.len,Nat.min_self]
 simp only[go_sem,Nat.reduceAdd,AU (off:=9) ge (v:=vb) rfl,K]
 refine BN (N:=bs.length) (J:=λj q=>∃H' n',q=(vb,.int .i64 (.ofNat bs.length) 0,.int .i64 (.ofNat j) 0,H',n')/\Kp H n H' n') ?_ ?_ ⟨H,_,rfl,Kp.refl _ _⟩
 ·rintro I j q d ⟨y,u,rfl,f3⟩ L
  show Iz lfp G (Runs F G) k I vb (.int .i64 (.ofNat bs.length) 0) (.int .i64 (.ofNat j) 0) y u
  delta Iz
  have x:=g.kp f3
  have D:j<bws.length:=by rw[g.len];exact d
  obtain⟨q,A,f⟩:=x.el.at (i:=j) (c:=bs[j].cells bws[j]) (by rw[List.getElem?_zipWith];simp[d,D])
  have B:=x.at' j _ _ (List.getElem?_eq_getElem d) (List.getElem?_eq_getElem D)
  generalize bs[j]=m at f B
  generalize bws[j]=w at f B
  unfold Bd.cells at f
  have M:lenV w=some (.int .i64 (.ofNat m.code.length) 0):=by rw[B.el.len,List.length_map]
  simp only[go_sem,Nat.reduceAdd,BR,d,decide_true,A,Bj f,M,IL]
  rw[T.set_set]
  have E:=f3.new (m:=u+1) (id:=u) (one [.int .i64 m.locals 0,.int .i64 m.stack 0,w]) f3.le (by omega)
  cases O:decide (60<m.code.length)with
  |true=>simp only[go_sem];exact C _ _ _ E
  |false=>
  simp only[go_sem,DI (show j+1<9223372036854775808 by unfold big at p;omega)]
  exact L _ ⟨_,_,rfl,E⟩
 ·rintro I q ⟨y,u,rfl,f3⟩
  show Iz lfp G (Runs F G) k I vb (.int .i64 (.ofNat bs.length) 0) (.int .i64 (.ofNat bs.length) 0) y u
  delta Iz
  simp only[go_sem,BR,Nat.lt_irrefl,decide_false]
  delta TS
  exact C _ _ _ f3
theorem AOe(h:Fh G H n p v0 v1 v2 v3 v4 ws)(W:Jk G H n vb bs bws)(X:e<n)(ge:T.get H e=some (one [c0,c1,c2,c3,v0,v1,v2,v3,v4,vb]))(K:∀r H' n',Kp H n H' n'->k (.bool r) H' n'):
 MI lfp G (Runs F G) k (.ptr e 0) H n:=by
 delta MI
 have D:=h.b4
 have Y:lenV v4=some (.int .i64 (.ofNat p.Bg.length) 0):=by rw[h.e4.len,List.length_zipWith,h.AHO,Nat.min_self]
 simp only[go_sem,Nat.reduceAdd,AU (off:=8) ge (v:=v4) rfl,Y]
 refine BN (N:=p.Bg.length) (J:=λj q=>∃H' n',q=(.ptr e 0,v4,.int .i64 (.ofNat p.Bg.length) 0,.int .i64 (.ofNat j) 0,H',n')/\Kp H n H' n') ?_ ?_ ⟨H,_,rfl,Kp.refl _ _⟩
 ·rintro I j q g ⟨y,d,rfl,f3⟩ Z
  show JC lfp G (Runs F G) k I (.ptr e 0) v4 (.int .i64 (.ofNat p.Bg.length) 0) (.int .i64 (.ofNat j) 0) y d
  delta JC
  have M:=h.kp f3
  have d0:=f3.le
  have Q:j<ws.length:=by rw[h.AHO];exact g
  obtain⟨q,O,u⟩:=M.e4.at (i:=j) (c:=p.Bg[j].cells ws[j]) (by rw[List.getElem?_zipWith];simp[g,Q])
  have A:=M.at4 j _ _ (List.getElem?_eq_getElem g) (List.getElem?_eq_getElem Q)
  have B:=M.o4 _ (List.getElem_mem g)
  generalize p.Bg[j]=m at u A B
  generalize ws[j]=w at u A
  unfold PM.cells at u
  simp only[go_sem,Nat.reduceAdd,BR,g,decide_true,O,Bj u,iT,IL]
  rw[T.set_set]
  have C:Kp y d (T.set y d (one [m.m.nm.v,.bool m.m.st,w,m.m.ret.nm.v,.bool m.m.ret.arr,m.own.v])) (d+1):=(Kp.refl _ _).new _ (Nat.le_refl _) (by omega)
  have R:=T.Ag y d (one [m.m.nm.v,.bool m.m.st,w,m.m.ret.nm.v,.bool m.m.ret.arr,m.own.v])
  generalize T.set y d (one [m.m.nm.v,.bool m.m.st,w,m.m.ret.nm.v,.bool m.m.ret.arr,m.own.v])=H4 at C R
  have S:=f3.trans C
  cases E:decide (60<m.own.1)with
  |true=>simp only[go_sem];exact K _ _ _ S
  |false=>
  simp only[go_sem,Nat.reduceAdd,show Aj 5 (.ptr d 0) G H4=some (.agg [m.m.nm.v,.bool m.m.st,w,m.m.ret.nm.v,.bool m.m.ret.arr])from GH R (by omega) (by show 5<=6;omega)]
  rw[AGm (z:=5) (L:=[m.m.nm.v,.bool m.m.st,w,m.m.ret.nm.v,.bool m.m.ret.arr]) rfl]
  have x:=T.Ag H4 (d+1) (.arr 5 1 (T.set (T.set .e 0 [.str 0 0,.bool false,.Ad,.str 0 0,.bool false]) 0 [m.m.nm.v,.bool m.m.st,w,m.m.ret.nm.v,.bool m.m.ret.arr]))
  have P:Kp H4 (d+1) (T.set H4 (d+1) (.arr 5 1 (T.set (T.set .e 0 [.str 0 0,.bool false,.Ad,.str 0 0,.bool false]) 0 [m.m.nm.v,.bool m.m.st,w,m.m.ret.nm.v,.bool m.m.ret.arr]))) (d+1+1):=(Kp.refl _ _).new _ (Nat.le_refl _) (by omega)
  generalize T.set H4 (d+1) (.arr 5 1 (T.set (T.set .e 0 [.str 0 0,.bool false,.Ad,.str 0 0,.bool false]) 0 [m.m.nm.v,.bool m.m.st,w,m.m.ret.nm.v,.bool m.m.ret.arr]))=H5 at P x
  rw[show BH [.str 0 0,.str 0 0,.Ad,.Ad] [(3,1,.c (.sl (d+1) 0 1 1 5))]=some (.agg [.str 0 0,.str 0 0,.Ad,.sl (d+1) 0 1 1 5])from rfl,AP]
  refine AUZ (c:=⟨(0,0),(0,0),[],[m.m]⟩) ⟨.Ad,.sl (d+1) 0 1 1 5,[w],⟨rfl,⟨⟨rfl,rfl⟩,(λid h=>by cases h),(by show 0<big;decide),(λf h=>by cases h)⟩,⟨rJ (by omega) rfl x,(λid h=>by cases h;omega),(by show 1<big;decide),rfl,?_,?_⟩,?_⟩,rfl⟩ λr H' n' f=>?_
  ·intro i m' w' E U
   cases i with
   |zero=>simp at E U;subst E U;exact A.kp (C.trans P)
   |succ i=>simp at E
  ·intro m' h;simp at h;subst h;exact⟨B.1,B.2.1⟩
  ·exact⟨λ_=>rfl,λ_=>rfl⟩
  ·have V:=S.trans (P.trans f)
   simp only[go_sem,BZ]
   cases r with
   |false=>simp only[Bool.not_false,go_sem];exact K _ _ _ V
   |true=>
    simp only[Bool.not_true,go_sem,DI (show j+1<9223372036854775808 by unfold big at D;omega)]
    exact Z _ ⟨_,_,rfl,V⟩
 ·rintro I q ⟨y,d,rfl,f3⟩
  show JC lfp G (Runs F G) k I (.ptr e 0) v4 (.int .i64 (.ofNat p.Bg.length) 0) (.int .i64 (.ofNat p.Bg.length) 0) y d
  delta JC
  simp only[go_sem,BR,Nat.lt_irrefl,decide_false]
  exact AMN (W.kp f3) (f3.get ge X) λr H' n' f=>K _ _ _ (f3.trans f)
theorem AQF(h:Fh G H n p v0 v1 v2 v3 v4 ws)(E:Jk G H n vb bs bws)(K:e<n)(ge:T.get H e=some (one [c0,c1,c2,c3,v0,v1,v2,v3,v4,vb]))(C:∀r H' n',Kp H n H' n'->k (.bool r) H' n'):
 MQ lfp G (Runs F G) k (.ptr e 0) H n:=by
 delta MQ
 have g:=h.b3
 have L:lenV v3=some (.int .i64 (.ofNat p.fields.length) 0):=by rw[h.e3.len,List.length_map]
 simp only[go_sem,Nat.reduceAdd,AU (off:=7) ge (v:=v3) rfl,L]
 refine BN (N:=p.fields.length) (J:=λj q=>∃H' n',q=(.ptr e 0,v3,.int .i64 (.ofNat p.fields.length) 0,.int .i64 (.ofNat j) 0,H',n')/\Kp H n H' n') ?_ ?_ ⟨H,_,rfl,Kp.refl _ _⟩
 ·rintro I j q u ⟨A,w,rfl,f3⟩ M
  show JG lfp G (Runs F G) k I (.ptr e 0) v3 (.int .i64 (.ofNat p.fields.length) 0) (.int .i64 (.ofNat j) 0) A w
  delta JG
  have O:=h.kp f3
  have P:=f3.le
  obtain⟨q,B,d⟩:=O.e3.at (i:=j) (c:=p.fields[j].cells) (by simp[u])
  generalize p.fields[j]=m at d
  unfold PF.cells at d
  obtain⟨x,Q⟩:=add_any (.ofNat m.f.nm.1) (.ofNat m.own.1)
  obtain⟨y,R⟩:=add_any x (.ofNat m.f.ty.nm.1)
  simp only[go_sem,Nat.reduceAdd,BR,u,decide_true,B,Bj d,iT,Q,R,AT3]
  rw[T.set_set]
  have D:=f3.new (m:=w+1) (id:=w) (one [m.f.nm.v,m.f.ty.nm.v,.bool m.f.ty.arr,m.own.v]) f3.le (by omega)
  cases S:decide (Int.ofNat 120<y)with
  |true=>simp only[go_sem];exact C _ _ _ D
  |false=>
  simp only[go_sem,DI (show j+1<9223372036854775808 by unfold big at g;omega)]
  exact M _ ⟨_,_,rfl,D⟩
 ·rintro I q ⟨A,w,rfl,f3⟩
  show JG lfp G (Runs F G) k I (.ptr e 0) v3 (.int .i64 (.ofNat p.fields.length) 0) (.int .i64 (.ofNat p.fields.length) 0) A w
  delta JG
  have:=f3.le
  simp only[go_sem,BR,Nat.lt_irrefl,decide_false]
  exact AOe (h.kp f3) (E.kp f3) (by omega) (f3.get ge K) λr H' n' f=>C _ _ _ (f3.trans f)
theorem AOv(h:Fh G H n p v0 v1 v2 v3 v4 ws)(B:Jk G H n vb bs bws)(C:e<n)(ge:T.get H e=some (one [c0,c1,c2,c3,v0,v1,v2,v3,v4,vb]))(y:∀r H' n',Kp H n H' n'->k (.bool r) H' n'):
 L6 lfp G (Runs F G) k (.ptr e 0) H n:=by
 delta L6
 have g:=h.t2.lt
 simp only[go_sem,Nat.reduceAdd,AU (off:=6) ge (v:=v2) rfl,h.t2.len]
 refine BN (N:=p.types.length) (J:=λj q=>∃H' n',q=(.ptr e 0,v2,.int .i64 (.ofNat p.types.length) 0,.int .i64 (.ofNat j) 0,H',n')/\Kp H n H' n') ?_ ?_ ⟨H,_,rfl,Kp.refl _ _⟩
 ·rintro I j q i ⟨w,u,rfl,f3⟩ D
  show Ic lfp G (Runs F G) k I (.ptr e 0) v2 (.int .i64 (.ofNat p.types.length) 0) (.int .i64 (.ofNat j) 0) w u
  delta Ic
  have E:=h.kp f3
  have K:=f3.le
  obtain⟨q,x,d⟩:=E.t2.el.at (Tj i)
  generalize p.types[j]=m at d
  unfold Ty.cells at d
  simp only[go_sem,Nat.reduceAdd,BR,i,decide_true,x,Bj d,iT,IL]
  rw[T.set_set]
  have A:=f3.new (m:=u+1) (id:=u) (one [m.nm.v,.bool m.arr]) f3.le (by omega)
  cases L:decide (60<m.nm.1)with
  |true=>simp only[go_sem];exact y _ _ _ A
  |false=>
  simp only[go_sem,DI (show j+1<9223372036854775808 by unfold big at g;omega)]
  exact D _ ⟨_,_,rfl,A⟩
 ·rintro I q ⟨w,u,rfl,f3⟩
  show Ic lfp G (Runs F G) k I (.ptr e 0) v2 (.int .i64 (.ofNat p.types.length) 0) (.int .i64 (.ofNat p.types.length) 0) w u
  delta Ic
  have:=f3.le
  simp only[go_sem,BR,Nat.lt_irrefl,decide_false]
  exact AQF (h.kp f3) (B.kp f3) (by omega) (f3.get ge C) λr H' n' f=>y _ _ _ (f3.trans f)
end
theorem AaC{G:AY}{H:Heap}{n:Nat}{v:V}{f:Fl}(h:X7 G H n v f){k:KV}(i:∀r H' n',Kp H n H' n'->k (.bool r) H' n'):Runs F G uw [v] H n k:=by
 refine go1 (AHe BF G) ?_
 obtain⟨L,M,O,v0,v1,v2,v3,v4,vb,B,ws,bws,h,rfl⟩:=h
 obtain⟨rfl,T,U,W⟩:=h
 delta uj
 refine FT λX P Q=>?_
 rw[Ah,AP,show Aj 4 (.ptr n (0+0)) G X=some (.agg [f.face.nm.v,f.face.sup.v,M,O])from GH Q (by omega) (by show 4<=10;omega),AP]
 refine AUZ (c:=f.face) ⟨M,O,B,T.kp P,rfl⟩ λr R Y C=>?_
 have d:=P.trans C
 have Z:=C.le
 have g:=U.kp d
 have u:=W.kp d
 have p:=C.get Q (by omega)
 have l0:lenV v0=some (.int .i64 (.ofNat f.pool.nums.length) 0):=by rw[g.e0.len,List.length_map]
 have S:lenV v1=some (.int .i64 (.ofNat f.pool.names.length) 0):=by rw[g.e1.len,JH]
 have l3:lenV v3=some (.int .i64 (.ofNat f.pool.fields.length) 0):=by rw[g.e3.len,List.length_map]
 have l4:lenV v4=some (.int .i64 (.ofNat f.pool.Bg.length) 0):=by rw[g.e4.len,List.length_zipWith,g.AHO,Nat.min_self]
 have lb:lenV vb=some (.int .i64 (.ofNat f.bodies.length) 0):=by rw[u.el.len,List.length_zipWith,u.len,Nat.min_self]
 simp only[BZ]
 cases r with
 |false=>
  simp only[Bool.not_false]
  rw[AP]
  repeat (first|with_reducible refine AEj ?_|with_reducible refine mQ ?_)
  simp only[go_sem];exact i _ _ _ d
 |true=>
 simp only[Bool.not_true,go_sem,Nat.reduceAdd,AU (off:=4) p (v:=v0) rfl,l0,IL]
 cases w:decide (20<f.pool.nums.length)with
 |true=>
  repeat (first|with_reducible refine AEj ?_|with_reducible refine mQ ?_)
  simp only[go_sem];exact i _ _ _ d
 |false=>
 simp only[go_sem,Nat.reduceAdd,AU (off:=5) p (v:=v1) rfl,S,IL]
 cases w:decide (20<f.pool.names.length)with
 |true=>
  repeat (first|with_reducible refine AEj ?_|with_reducible refine mQ ?_)
  simp only[go_sem];exact i _ _ _ d
 |false=>
 simp only[go_sem,Nat.reduceAdd,AU (off:=6) p (v:=v2) rfl,g.t2.len,IL]
 cases w:decide (20<f.pool.types.length)with
 |true=>
  repeat (first|with_reducible refine AEj ?_|with_reducible refine mQ ?_)
  simp only[go_sem];exact i _ _ _ d
 |false=>
 simp only[go_sem,Nat.reduceAdd,AU (off:=7) p (v:=v3) rfl,l3,IL]
 cases w:decide (20<f.pool.fields.length)with
 |true=>
  repeat (first|with_reducible refine AEj ?_|with_reducible refine mQ ?_)
  simp only[go_sem];exact i _ _ _ d
 |false=>
 simp only[go_sem,Nat.reduceAdd,AU (off:=8) p (v:=v4) rfl,l4,IL]
 cases w:decide (20<f.pool.Bg.length)with
 |true=>
  repeat (first|with_reducible refine AEj ?_|with_reducible refine mQ ?_)
  simp only[go_sem];exact i _ _ _ d
 |false=>
 simp only[go_sem,Nat.reduceAdd,AU (off:=9) p (v:=vb) rfl,lb,IL]
 cases w:decide (12<f.bodies.length)with
 |true=>
  repeat (first|with_reducible refine AEj ?_|with_reducible refine mQ ?_)
  simp only[go_sem];exact i _ _ _ d
 |false=>
 simp only[go_sem,Nat.reduceAdd,AU (off:=5) p (v:=v1) rfl,S]
 have x:=g.b1
 refine BN (N:=f.pool.names.length) (J:=λj q=>∃H' n',q=(.ptr n 0,v1,.int .i64 (.ofNat f.pool.names.length) 0,.int .i64 (.ofNat j) 0,H',n')/\Kp R Y H' n') ?_ ?_ ⟨R,_,rfl,Kp.refl _ _⟩
 ·rintro I j q y ⟨D,E,rfl,f3⟩ ih
  show Ie lfp G (Runs F G) k I (.ptr n 0) v1 (.int .i64 (.ofNat f.pool.names.length) 0) (.int .i64 (.ofNat j) 0) D E
  delta Ie
  have h3:=g.kp f3
  obtain⟨q,K,A⟩:=h3.e1.at (Sz y)
  generalize f.pool.names[j]=m at A
  simp only[go_sem,Nat.reduceAdd,BR,y,decide_true,K,Jv A,iT,IL]
  cases w:decide (60<m.1)with
  |true=>simp only[go_sem];exact i _ _ _ (d.trans f3)
  |false=>
  simp only[go_sem,DI (show j+1<9223372036854775808 by unfold big at x;omega)]
  exact ih _ ⟨_,_,rfl,f3⟩
 ·rintro I q ⟨D,E,rfl,f3⟩
  show Ie lfp G (Runs F G) k I (.ptr n 0) v1 (.int .i64 (.ofNat f.pool.names.length) 0) (.int .i64 (.ofNat f.pool.names.length) 0) D E
  delta Ie
  have:=f3.le
  simp only[go_sem,BR,Nat.lt_irrefl,decide_false]
  exact AOv (g.kp f3) (u.kp f3) (by omega) (f3.get p (by omega)) λr H' n' f=>i _ _ _ (d.trans (f3.trans f))
theorem AbB{G:AY}{H:Heap}{n:Nat}{v:V}{fls:List Fl}(h:WI G H n v fls){k:KV}(C:∀r H' n',Kp H n H' n'->(r=true->fls.length<=8)->k (.bool r) H' n'):Runs F G uq [v] H n k:=by
 refine go1 (AGr BF G) ?_
 delta vU
 have u:=h.lt
 simp only[go_sem,h.len]
 refine BN (N:=fls.length) (J:=λj q=>∃H' n',q=(v,v,.int .i64 (.ofNat fls.length) 0,.int .i64 (.ofNat j) 0,H',n')/\Kp H n H' n') ?_ ?_ ⟨H,_,rfl,Kp.refl _ _⟩
 ·rintro I j q w ⟨i,g,rfl,f3⟩ E
  show Jm lfp G (Runs F G) k I v v (.int .i64 (.ofNat fls.length) 0) (.int .i64 (.ofNat j) 0) i g
  delta Jm
  obtain⟨q,y,A,v0,v1,v2,v3,v4,vb,B,ws,bws,K,x,d⟩:=(h.ke f3.ke).at w
  generalize fls[j]=m at x d
  simp only[go_sem,Nat.reduceAdd,BR,w,decide_true,K,Bj x]
  rw[T.set_set]
  have p:Kp i g (T.set i g (one [m.face.nm.v,m.face.sup.v,y,A,v0,v1,v2,v3,v4,vb])) (g+1):=(Kp.refl _ _).new _ (Nat.le_refl _) (by omega)
  have L:=T.Ag i g (one [m.face.nm.v,m.face.sup.v,y,A,v0,v1,v2,v3,v4,vb])
  generalize T.set i g (one [m.face.nm.v,m.face.sup.v,y,A,v0,v1,v2,v3,v4,vb])=H4 at p L
  refine AaC (f:=m) ⟨_,y,A,v0,v1,v2,v3,v4,vb,B,ws,bws,d.ke p.ke,rfl⟩ λr O P M=>?_
  have D:=f3.trans (p.trans M)
  simp only[go_sem,BZ]
  cases r with
  |false=>simp only[Bool.not_false,go_sem];exact C _ _ _ D (λh=>by cases h)
  |true=>
   simp only[Bool.not_true,go_sem,DI (show j+1<9223372036854775808 by unfold big at u;omega)]
   exact E _ ⟨_,_,rfl,D⟩
 ·rintro I q ⟨i,g,rfl,f3⟩
  show Jm lfp G (Runs F G) k I v v (.int .i64 (.ofNat fls.length) 0) (.int .i64 (.ofNat fls.length) 0) i g
  delta Jm
  simp only[go_sem,BR,Nat.lt_irrefl,decide_false]
  delta VE
  simp only[go_sem,h.len,AMq]
  refine C _ _ _ f3 λh=>?_
  have:=of_decide_eq_true h
  show fls.length<=8
  have Q:(fls.length:Int)<=8:=this
  omega
section
variable{G:AY}{H H' H'':Heap}{n n' n'':Nat}{k:KV}{fls:List Fl}{i b bx1 bx2 p q r:Nat}
theorem Ab5(hG:Vz G){M:Int}{x y A C D E K:V}{W Y:Nat}{u:(V×V×V×V×V×V×V×Heap×Nat)->Prop}{w:(V×V×V×V×V×V×V×V×V×V×V×Heap×Nat)->Prop}{f:Fl}{m:Cb}{Lf Lm:LV}{ok:Bool}{v0:V}{H0:Heap}{n0:Nat}
 (S:Sm G fls i b bx1 bx2 p q r H0 n0) (d1:f∈fls) (hm:m∈f.face.ms) (O:W<n0/\Y<n0/\W≠b/\Y≠b) (gf:T.get H0 W=some (one Lf)) (d8:Lf[0]? =some f.face.nm.v) (gm:T.get H0 Y=some (one Lm)) (d9:Lm[0]? =some m.nm.v)
 (d2:ok=true->m.st=true/\m.ret=C9) (f0:GY G H0 n0 x m.ps) (f5:m.ps.length<=200) (f6:Kb b H0 n0 H n) (f7:Sk H 1 (λd=>n0<=d/\d<n) v0 [])
 (hk:∀H' n',Kb b H0 n0 H' n'->Eo lfp G (Runs F G) k u w (.int .i64 M 0) (.ptr i 0) (.ptr bx1 0) (.ptr bx2 0) (.ptr W 0) y A C D E K H' n'):
 lfp (V×V×V×V×V×V×V×V×V×V×V×V×V×V×V×V×V×Heap×Nat) (IU lfp G (Runs F G) k u w) (.int .i64 M 0,.ptr i 0,.ptr bx1 0,.ptr bx2 0,.ptr W 0,.ptr Y 0,.bool ok,v0,y,A,C,D,E,K,x,.int .i64 (.ofNat m.ps.length) 0,.int .i64 (.ofNat 0) 0,H,n):=by
 have f8:=S.bl
 have f9:Js H0 b:=by obtain⟨t,a,fm,vn,h1,-⟩:=S.img;exact h1.tab.seen
 refine BN (N:=m.ps.length) (J:=λj st=>∃H' n' v g,st=(V.int .i64 M 0,V.ptr i 0,V.ptr bx1 0,V.ptr bx2 0,V.ptr W 0,V.ptr Y 0,V.bool g,v,y,A,C,D,E,K,x,V.int .i64 (.ofNat m.ps.length) 0,V.int .i64 (.ofNat j) 0,H',n')/\Kb b H0 n0 H' n'/\(g=true->ok=true/\m.ps.take j=List.replicate j C9)/\
  Sk H' 1 (λd=>n0<=d/\d<n') v (dL (List.replicate j M))) ?_ ?_ ⟨H,n,v0,ok,rfl,f6,λe=>⟨e,rfl⟩,f7⟩
 ·rintro I j st hj ⟨H1,R,v,g,rfl,U,P,sk⟩ ih
  show F5 lfp G (Runs F G) k u w I (.int .i64 M 0) (.ptr i 0) (.ptr bx1 0) (.ptr bx2 0) (.ptr W 0) (.ptr Y 0) (.bool g) v y A C D E K x (.int .i64 (.ofNat m.ps.length) 0) (.int .i64 (.ofNat j) 0) H1 R
  delta F5
  have g0:=U.le
  obtain⟨pp,hp,d3⟩:=(f0.ke (U.ke f9)).el.at (Tj hj)
  have Q:m.ps.take (j+1)=m.ps.take j++[m.ps[j]]:=List.take_succ_eq_append_getElem hj
  generalize m.ps[j]=ty at d3 Q
  rw[Tq,decide_eq_true hj,AP,BP,hp,AP,Bj d3,AP]
  refine Di rfl λH2 f2 g2=>?_
  show Bz 2 (.ptr R 0) (.agg ty.cells) _ _ _
  refine Rn g2 rfl rfl (by omega) λH3 g3 s3=>?_
  have f3:Kp H1 R H3 (R+1):=⟨by omega,λd L=>by rw[s3 _ (by omega),f2.same _ L]⟩
  have Z:∀{H4:Heap} {n4:Nat} (X:Bool),Kp H1 R H4 n4->(X=true->ok=true/\m.ps.take (j+1)=List.replicate (j+1) C9)->Bc (Ar 1 1 [(.int .i64 (.ofNat 0) 0)] [(0,.c (.int .i64 M 0))] E0) H4 n4 λd4 H n=>
   WV 1 8 v d4 G H n λd5 H n=>
   AL (B2.ev .add (.int .i64 (.ofNat j) 0) (.int .i64 (.ofNat 1) 0)) λd6=>
   I (.int .i64 M 0,.ptr i 0,.ptr bx1 0,.ptr bx2 0,.ptr W 0,.ptr Y 0,.bool X,d5,y,A,C,D,E,K,x,.int .i64 (.ofNat m.ps.length) 0,d6,H,n):=by
   intro H4 n4 X f4 d7
   have g6:=f4.le
   have d0:=sk.mono (B:=λd=>n0<=d/\d<n4) (λd q=>by omega) λd q=>f4.same d q.2
   refine d0.app (G:=G) (m:=0) (c:=.int .i64 M 0) (λd L=>(d0.own L).2) (by omega) rfl rfl (by rw[pK,List.length_replicate];omega) λv' H6 g1 s6 L=>?_
   rw[DI (by omega),AP]
   refine ih _ ⟨H6,n4+2,v',X,rfl,?_,d7,?_⟩
   ·have e6:∀d,d<n0->T.get H6 d=T.get H1 d:=λd q=>by rw[s6 d (by omega) (λe=>by have:=(d0.own e).1;omega),f4.same d (by omega)]
    exact⟨by omega,λd q1 q2=>by rw[e6 d q1,U.same d q1 q2],λq=>(U.seen q).same (e6 _ f8)⟩
   ·have e:dL (List.replicate (j+1) M)=dL (List.replicate j M)++[[V.int .i64 M 0]]:=by
     unfold dL
     rw[List.replicate_succ',List.map_append];rfl
    rw[e]
    exact g1 _ ⟨by omega,by omega⟩
  cases g with
  |false=>
   refine AB2 (AUI (Afq (AB2 (pz ?_))))
   exact Z false f3 λe=>by cases e
  |true=>
   have g4:Aj 2 (.ptr R 0) G H3=some ty.v:=BD g3
   refine iQ g4 (AYP ?_)
   refine AF4 λH4 n4 f4=>?_
   have g5:Aj 2 (.ptr R 0) G H4=some ty.v:=BD ((f4.same R (by omega)).trans g3)
   refine AVV g5 (LH ty) (iQ (vH ty C9) (mQ ?_))
   refine Z (ty.is C9) (f3.trans f4) λe=>?_
   obtain⟨q1,q2⟩:=P rfl
   refine⟨q1,?_⟩
   rw[Q,q2,Ty.Jr.1 e,List.replicate_succ']
 ·rintro I st ⟨H1,R,v,g,rfl,U,P,sk⟩
  show F5 lfp G (Runs F G) k u w I (.int .i64 M 0) (.ptr i 0) (.ptr bx1 0) (.ptr bx2 0) (.ptr W 0) (.ptr Y 0) (.bool g) v y A C D E K x (.int .i64 (.ofNat m.ps.length) 0) (.int .i64 (.ofNat m.ps.length) 0) H1 R
  delta F5
  have g0:=U.le
  rw[Tq,decide_eq_false (by omega),AP,BG]
  refine AeQ hG (N:=m.ps.length) (S.kb U) d1 hm ⟨by omega,by omega,O.2.2⟩ (U.get gf O.1 O.2.2.1) d8 (U.get gm O.2.1 O.2.2.2) d9 (λe=>?_) f5 (sk.el (by omega)) (λd L=>by have:=sk.own L;omega) λH2 n2 f2=>hk H2 n2 (U.trans (f2.AcG (by omega)))
  obtain⟨q1,q2⟩:=P e
  rw[List.take_length]at q2
  exact⟨(d2 q1).1,(d2 q1).2,q2⟩
theorem Afs(hG:Vz G){M:Int}{O u x y:V}{B:Nat}{d:(V×V×V×V×V×V×V×Heap×Nat)->Prop}{f:Fl}{Lf:LV}{d0:List V}
 (S:Sm G fls i b bx1 bx2 p q r H n) (C:f∈fls) (E:B<n/\B≠b) (gf:T.get H B=some (one Lf)) (d1:Lf[0]? =some f.face.nm.v) (R:J5 G H n O f.face.ms d0)
 (hk:∀H' n',Kb b H n H' n'->JO lfp G (Runs F G) k d (.int .i64 M 0) (.ptr i 0) (.ptr bx1 0) (.ptr bx2 0) u x y H' n'):
 lfp (V×V×V×V×V×V×V×V×V×V×V×Heap×Nat) (NZ lfp G (Runs F G) k d) (.int .i64 M 0,.ptr i 0,.ptr bx1 0,.ptr bx2 0,.ptr B 0,u,x,y,O,.int .i64 (.ofNat f.face.ms.length) 0,.int .i64 (.ofNat 0) 0,H,n):=by
 have f7:=S.bl
 have d2:Js H b:=by obtain⟨t,a,fm,vn,h1,-⟩:=S.img;exact h1.tab.seen
 refine BN (N:=f.face.ms.length) (J:=λj st=>∃H' n',st=(V.int .i64 M 0,V.ptr i 0,V.ptr bx1 0,V.ptr bx2 0,V.ptr B 0,u,x,y,O,V.int .i64 (.ofNat f.face.ms.length) 0,V.int .i64 (.ofNat j) 0,H',n')/\Kb b H n H' n') ?_ ?_ ⟨H,n,rfl,.refl ..⟩
 ·rintro I j st hj ⟨H1,g,rfl,U⟩ ih
  show Gg lfp G (Runs F G) k d I (.int .i64 M 0) (.ptr i 0) (.ptr bx1 0) (.ptr bx2 0) (.ptr B 0) u x y O (.int .i64 (.ofNat f.face.ms.length) 0) (.int .i64 (.ofNat j) 0) H1 g
  delta Gg
  have f8:=U.le
  have d3:=R.lt
  obtain⟨pp,w,hp,d4,hw⟩:=(R.ke (U.ke d2)).at hj
  have hm:=List.getElem_mem hj
  have d5:=AC5 (VU (NH _ _ (DW S.hl).2.1 f C)) _ hm
  generalize f.face.ms[j]=m at*
  rw[Tq,decide_eq_true hj,AP,BP,hp,AP,Bj d4,AP]
  refine Di rfl λH2 f2 g2=>?_
  refine Rn g2 rfl rfl (by omega) λH3 g3 s3=>?_
  have f3:Kp H1 g H3 (g+1):=⟨by omega,λid d6=>by rw[s3 _ (by omega),f2.same _ d6]⟩
  have fin:∀{P:Heap} {Q:Nat} (ok:Bool),Kp H3 (g+1) P Q->(ok=true->m.st=true/\m.ret=C9)->Bc (Ar 1 0 [(.int .i64 (.ofNat 0) 0)] [] E0) P Q λd7 H n=>
   AL (AQ 2 (.ptr g 0)) λW=>AL (AX W G H) λD=>AL (lenV D) λX=>
   lfp (V×V×V×V×V×V×V×V×V×V×V×V×V×V×V×V×V×Heap×Nat) (IU lfp G (Runs F G) k d I) (.int .i64 M 0,.ptr i 0,.ptr bx1 0,.ptr bx2 0,.ptr B 0,.ptr g 0,.bool ok,d7,u,x,y,O,.int .i64 (.ofNat f.face.ms.length) 0,.int .i64 (.ofNat j) 0,D,X,.int .i64 (.ofNat 0) 0,H,n):=by
   intro P Q ok A d8
   have f9:=A.le
   have K:Kb b H n P Q:=U.trans ((f3.trans A).kb (by omega))
   refine ARa (G:=G) (vs:=[]) rfl (by omega) (λ_ h=>by cases h) λH5 f5 L _=>?_
   obtain⟨t5,L⟩:=L
   have g4:=(A.same g (by omega)).trans g3
   have g5:=(f5.same g (by omega)).trans g4
   have d9:GY G P Q w m.ps:=by
    have:=(hw.kp (f3.trans A))
    exact⟨this.el,this.lo,this.lt,this.ok⟩
   have hl:lenV w=some (.int .i64 (.ofNat m.ps.length) 0):=by rw[hw.el.len,EP]
   rw[Ah,AP,AU (off:=0+2) g5 (v:=w) rfl,AP,hl,AP]
   refine Ab5 hG (S.kb K) C hm ⟨by omega,by omega,E.2,by omega⟩ (K.get gf E.1 E.2) d1 g4 rfl d8 d9 d5 (f5.kb (by omega)) (.emp L ⟨Nat.le_refl _,Nat.lt_succ_self _⟩) λH6 n6 f6=>?_
   delta Eo
   rw[DI (by unfold big at d3;omega),AP]
   exact ih _ ⟨H6,n6,rfl,K.trans f6⟩
  have hl:lenV w=some (.int .i64 (.ofNat m.ps.length) 0):=by rw[hw.el.len,EP]
  rw[Ah,AP,AU (off:=0+1) g3 (v:=.bool m.st) rfl,AP]
  cases f0:m.st with
  |false=>
   refine AB2 (AB2 (AUI (Afq (AB2 (pz ?_)))))
   refine AB2 (AB2 (AB2 (AB2 (pz ?_))))
   exact fin false (.refl _ _) λe=>by cases e
  |true=>
   have Y:∀{H':Heap},T.get H' g=T.get H3 g->Aj 2 (.ptr g (0+3)) G H'=some m.ret.v:=λe=>GH (e.trans g3) (by omega) (by show 0+3+2<=5;omega)
   refine iQ (Ah ..) (iQ (Y rfl) (AYP ?_))
   refine AF4 λP Q A=>?_
   refine AVV (Y (A.same _ (by omega))) (LH m.ret) (iQ (vH m.ret C9) (mQ ?_))
   cases Z:m.ret.is C9 with
   |false=>
    refine AB2 (AB2 (AB2 (AB2 (pz ?_))))
    exact fin false A λe=>by cases e
   |true=>
    have g4:=(A.same g (by omega)).trans g3
    refine iQ (Ah ..) (iQ (AU (off:=0+2) g4 (v:=w) rfl) (iQ hl (iQ (Tq ..) (mQ ?_))))
    exact fin _ A λ_=>⟨f0,Ty.Jr.1 Z⟩
 ·rintro I st ⟨H1,g,rfl,U⟩
  show Gg lfp G (Runs F G) k d I (.int .i64 M 0) (.ptr i 0) (.ptr bx1 0) (.ptr bx2 0) (.ptr B 0) u x y O (.int .i64 (.ofNat f.face.ms.length) 0) (.int .i64 (.ofNat f.face.ms.length) 0) H1 g
  delta Gg
  rw[Tq,decide_eq_false (by omega),AP,BG]
  exact hk _ _ U
theorem AWf(Q:Vz G)(hO:zX G)(hM:AFE G){x:V}{K y2 y3 y4:Int}(A:∀H n,WI G H n x fls)(L:∀H' n',k (.bool true) H' n'):Runs F G ADM [x,.int .i64 K 0,.int .i64 y2 0,.int .i64 y3 0,.int .i64 y4 0] .e 0 k:=by
 refine go5 (ABc BF G) ?_
 delta dZ
 refine AYx hO hM λH0 n0=>?_
 rw[BZ,AP,Bool.not_true,BG]
 refine AbB (A H0 n0) λr H1 n1 _ _=>?_
 rw[BZ,AP]
 cases r with
 |false=>
  rw[Bool.not_false,BP];exact L _ _
 |true=>
 rw[Bool.not_true,BG]
 refine AdJ Q hO (A H1 n1) (λM H2 n2 O f2 hi=>?_) λS H2 n2 f2=>?_
 ·rw[AJ5,AP,AKJ,AP,AAI,AP,show(!decide (0=0))=false from rfl]
  obtain⟨R,hR⟩:=AYI M
  refine Ya rfl (Ae1 ?_)
  refine AX0 Q M hR hi λH3 n3 _ _ _ T=>?_
  cases B:UC R (OD fls) (Oa fls)with
  |some p=>
   obtain⟨s,y,r⟩:=p
   refine Ya (show Acz 0 (.agg (AFH (some (s,y,r))))=some (.int .i64 (.ofNat 31) 0)from rfl) (Ya (AAI ..) (pz ?_))
   show AZ (.bool true) true _ _
   rw[BP]
   exact L _ _
  |none=>
   refine Ya (show Acz 0 (.agg (AFH none))=some (.int .i64 (.ofNat 0) 0)from rfl) (Ya (AAI ..) (pz ?_))
   show AZ (.bool false) true _ _
   rw[BG]
   refine AXI λp q r H4 d hp hq hr f4=>?_
   have d2:=f4.le
   obtain⟨t,a,b,fm,vn,U,h2,h3,h4,-⟩:=T.is
   have W:=U.tab.bn
   refine Di rfl λH5 f5 g5=>?_
   refine Rn g5 rfl rfl (by omega) λH6 P s6=>?_
   rw[Ah,AP,AU (off:=0+0) P (v:=.int .i64 (.ofNat p) 0) rfl,AP,AQD (by omega),AP,Ah,AP,AU (off:=0+1) P (v:=.int .i64 (.ofNat q) 0) rfl,AP,AQD (by omega),AP,Ah,AP,AU (off:=0+2) P (v:=.int .i64 (.ofNat r) 0) rfl,AP,AQD (by omega),AP,
    show BH [(.int .i64 (.ofNat 0) 0),(.int .i64 (.ofNat 0) 0),(.int .i64 (.ofNat 0) 0)] [(0,1,.c (.int .i64 (.ofNat (p+100)) 0)),(1,1,.c (.int .i64 (.ofNat (q+20)) 0)),(2,1,.c (.int .i64 (.ofNat (r+3)) 0))]=some (.agg [.int .i64 (.ofNat (p+100)) 0,.int .i64 (.ofNat (q+20)) 0,.int .i64 (.ofNat (r+3)) 0])from rfl,AP]
   refine Di rfl λH7 f7 g7=>?_
   refine Rn g7 rfl rfl (by omega) λi g8 s8=>?_
   have f8:Kp H3 n3 i (d+1+1):=⟨by omega,λid m=>by rw[s8 _ (by omega),f7.same _ (by omega),s6 _ (by omega),f5.same _ (by omega),f4.same _ m]⟩
   have g:Kb b H3 n3 i (d+1+1):=f8.kb W
   have S8:Sm G fls O b d (d+1) p q r i (d+1+1):=⟨M,AfV M hR B,⟨t,a,fm,vn,U.kb g,h2.ke (g.ke U.tab.seen) (g.same _ h3 h4),by omega,h4⟩,(s8 _ (by omega)).trans ((f7.same _ (by omega)).trans P),g8,⟨by omega,by omega,by omega,by omega⟩,hp,hq,hr⟩
   rw[(A i 0).len,AP]
   have C:=(A i 0).lt
   refine BN (N:=fls.length) (J:=λj st=>∃H' n',st=(V.int .i64 K 0,V.ptr O 0,V.ptr d 0,V.ptr (d+1) 0,x,V.int .i64 (.ofNat fls.length) 0,V.int .i64 (.ofNat j) 0,H',n')/\Kb b i (d+1+1) H' n') ?_ ?_ ⟨i,_,rfl,.refl ..⟩
   ·rintro I j st X ⟨D,u,rfl,Y⟩ ih
    show GZ lfp G (Runs F G) k I (.int .i64 K 0) (.ptr O 0) (.ptr d 0) (.ptr (d+1) 0) x (.int .i64 (.ofNat fls.length) 0) (.int .i64 (.ofNat j) 0) D u
    delta GZ
    have d3:=Y.le
    obtain⟨pp,vf,vm,v0,v1,v2,v3,v4,vb,d4,ws,bws,Z,d0,d1⟩:=(A D u).at X
    have E:=List.getElem_mem X
    generalize fls[j]=f at*
    rw[Tq,decide_eq_true X,AP,BP,Z,AP,Bj d0,AP]
    refine Di rfl λHa fa ga=>?_
    refine Rn ga rfl rfl (by omega) λHb gb sb=>?_
    have fb:Kp D u Hb (u+1):=⟨by omega,λid m=>by rw[sb _ (by omega),fa.same _ m]⟩
    have g:Kb b i (d+1+1) Hb (u+1):=Y.trans (fb.kb (by omega))
    have w:=d1.face.ms.kp fb
    have lm:lenV vm=some (.int .i64 (.ofNat f.face.ms.length) 0):=by rw[w.el.len,List.length_zipWith,w.len,Nat.min_self]
    rw[Ah,AP,Ah,AP,AU (off:=0+0+3) gb (v:=vm) rfl,AP,lm,AP]
    refine Afs Q (S8.kb g) E ⟨by omega,by omega⟩ gb rfl w λHc nc fc=>?_
    delta JO
    rw[DI (by unfold big at C;omega),AP]
    exact ih _ ⟨Hc,nc,rfl,g.trans fc⟩
   ·rintro I st ⟨D,u,rfl,Y⟩
    show GZ lfp G (Runs F G) k I (.int .i64 K 0) (.ptr O 0) (.ptr d 0) (.ptr (d+1) 0) x (.int .i64 (.ofNat fls.length) 0) (.int .i64 (.ofNat fls.length) 0) D u
    delta GZ
    rw[Tq,decide_eq_false (by omega),AP,BG]
    exact L _ _
 ·rw[AJ5,AP,AKJ,AP,APP,AP,show decide (TB fls=Int.ofNat 0)=false from decide_eq_false λh=>S h,Bool.not_false]
  refine AEj (Ae0 (AEj (AEj (mQ ?_))))
  rw[BP]
  exact L _ _
end
abbrev AMB:Sh:=.st [.str,.bool]
abbrev ALF:Sh:=.st [.str,AMB]
abbrev AKN:Sh:=.st [.str,.bool,.sl 2 AMB,AMB]
abbrev ASn:Sh:=.st [.str,.str,.sl 3 ALF,.sl 5 AKN]
abbrev ASX:Sh:=.st [.sl 1 (.int .i64),.sl 1 .str,.sl 2 AMB,.sl 4 (.st [ALF,.str]),.sl 6 (.st [AKN,.str])]
abbrev Abd:Sh:=.st [.int .i64,.int .i64]
abbrev ARp:Sh:=.st [.int .i64,.int .i64,.sl 2 Abd]
abbrev ASQ:Sh:=.st [ASn,ASX,.sl 3 ARp]
theorem pick{α:Type}{Q:α->LV->Prop}:∀{LS:EL},(∀L∈LS,∃x,Q x L)->∃xs:List α,xs.length=LS.length/\∀(i:Nat) (x:α) (L:LV),xs[i]? =some x->LS[i]? =some L->Q x L
 |[],_=>⟨[],rfl,λi x L h=>by simp at h⟩
 |L::LS,h=>by
  obtain⟨x,g⟩:=h L (List.mem_cons_self ..)
  obtain⟨xs,k,m⟩:=pick (LS:=LS) λL p=>h L (List.mem_cons_of_mem _ p)
  refine⟨x::xs,by simp[k],λi y M d f=>?_⟩
  cases i with
  |zero=>simp at d f;subst d;subst f;exact g
  |succ i=>simp at d f;exact m i y M d f
theorem o8{α:Type}{g:α->LV}{R:α->Prop}{LS:EL}(h:∀L∈LS,∃x,L=g x/\R x):∃xs:List α,LS=xs.map g/\∀x∈xs,R x:=by
 obtain⟨xs,m,d⟩:=pick (Q:=λx L=>L=g x/\R x) h
 refine⟨xs,?_,λx p=>?_⟩
 ·apply List.ext_getElem (by simp[m])
  intro i q f
  rw[List.getElem_map]
  exact(d i _ _ (List.getElem?_eq_getElem (by simp at f;exact f)) (List.getElem?_eq_getElem q)).1
 ·obtain⟨i,k⟩:=List.mem_iff_getElem?.1 p
  have u:=(List.getElem?_eq_some_iff.1 k).1
  exact(d i _ _ k (List.getElem?_eq_getElem (by omega))).2
theorem AKH{α:Type}{g:α->V->LV}{R:α->V->Prop}{LS:EL}(h:∀L∈LS,∃x w,L=g x w/\R x w):
 ∃(xs:List α) (ws:List V),ws.length=xs.length/\xs.length=LS.length/\LS=List.zipWith g xs ws/\∀(i:Nat) (x:α) (w:V),xs[i]? =some x->ws[i]? =some w->R x w:=by
 obtain⟨m,q,u⟩:=pick (α:=α×V) (Q:=λp L=>L=g p.1 p.2/\R p.1 p.2) λL v=>by
  obtain⟨x,w,d,f⟩:=h L v;exact⟨(x,w),d,f⟩
 refine⟨m.map (·.1),m.map (·.2),by simp,by simp[q],?_,λi x w d f=>?_⟩
 ·apply List.ext_getElem (by simp[q])
  intro i d f
  simp only[List.getElem_zipWith,List.getElem_map]
  exact(u i _ _ (List.getElem?_eq_getElem (by simp at f;exact f)) (List.getElem?_eq_getElem d)).1
 ·rw[List.getElem?_map]at d f
  cases k:m[i]? with
  |none=>rw[k]at d;cases d
  |some p=>
   rw[k]at d f
   cases d;cases f
   have y:=(List.getElem?_eq_some_iff.1 k).1
   exact(u i _ _ k (List.getElem?_eq_getElem (by omega))).2
theorem _root_.Go.Bf.RSl.lo{v:V}{m n:Nat}(h:RSl v m):Lo v n:=by
 rcases h with⟨rfl,_⟩|⟨b,o,c,rfl,_,_⟩<;>intro f d<;>cases d
theorem mM{m:Nat}(h:m<=maxLen):m<big:=by unfold maxLen at h;unfold big;omega
section
variable{G:AY}
theorem ZG{L:LV}(h:Fits G .str L):∃s:St,s.ok/\L=[s.v]:=by
 obtain⟨s,_,rfl⟩:=h
 refine⟨(s.length,enc s),λh=>?_,rfl⟩
 have h:s.length=0:=h
 have:s=[]:=List.length_eq_zero_iff.1 h
 subst this;rfl
theorem AOd{L:LV}(h:Fits G AMB L):∃t:Ty,t.nm.ok/\L=t.cells:=by
 obtain⟨a,r,rfl,d,b,i,rfl,f,rfl⟩:=(show jS G [.str,.bool] L from h)
 obtain⟨s,g,rfl⟩:=ZG d
 obtain⟨c,rfl⟩:=f
 exact⟨⟨s,c⟩,g,rfl⟩
theorem ARS{L:LV}(h:Fits G (.sl 2 AMB) L):∃v xs,L=[v]/\∀H n,GY G H n v xs:=by
 obtain⟨v,m,rfl,p,f,i,d⟩:=h
 obtain⟨xs,rfl,k⟩:=o8 (g:=Ty.cells) (R:=λt=>t.nm.ok) (LS:=m) λL q=>by
  obtain⟨t,u,w⟩:=AOd (d L q).2;exact⟨t,w,u⟩
 exact⟨v,xs,rfl,λH n=>⟨f H,p.lo,mM (by simpa using i),k⟩⟩
theorem ARi{L:LV}(h:Fits G ALF L):∃f:Fld,(f.nm.ok/\f.ty.nm.ok)/\L=f.cells:=by
 obtain⟨a,r,rfl,d,b,m,rfl,g,rfl⟩:=(show jS G [.str,AMB] L from h)
 obtain⟨s,i,rfl⟩:=ZG d
 obtain⟨t,k,rfl⟩:=AOd g
 exact⟨⟨s,t⟩,⟨i,k⟩,rfl⟩
theorem AVz{L:LV}(h:Fits G (.sl 3 ALF) L):∃v xs,L=[v]/\∀H n,VD G H n v xs:=by
 obtain⟨v,m,rfl,p,f,i,d⟩:=h
 obtain⟨xs,rfl,k⟩:=o8 (g:=Fld.cells) (R:=λt=>t.nm.ok/\t.ty.nm.ok) (LS:=m) λL q=>by
  obtain⟨t,u,w⟩:=ARi (d L q).2;exact⟨t,w,u⟩
 exact⟨v,xs,rfl,λH n=>⟨f H,p.lo,mM (by simpa using i),k⟩⟩
theorem AP8{L:LV}(h:Fits G AKN L):∃(m:Cb) (w:V),L=m.cells w/\(∀H n,GY G H n w m.ps)/\(m.nm.ok/\m.ret.nm.ok):=by
 obtain⟨a,r,rfl,f,b,v,rfl,g,c,x,rfl,i,d,y,rfl,hd,rfl⟩:=(show jS G [.str,.bool,.sl 2 AMB,AMB] L from h)
 obtain⟨s,k,rfl⟩:=ZG f
 obtain⟨t,rfl⟩:=g
 obtain⟨w,ps,rfl,p⟩:=ARS i
 obtain⟨q,u,rfl⟩:=AOd hd
 exact⟨⟨s,t,ps,q⟩,w,rfl,p,k,u⟩
theorem AVK{L:LV}(h:Fits G (.sl 5 AKN) L):∃v f ws,L=[v]/\∀H n,J5 G H n v f ws:=by
 obtain⟨v,q,rfl,A,k,B,d⟩:=h
 obtain⟨f,ws,p,u,rfl,x⟩:=AKH (g:=Cb.cells) (R:=λm w=>(∀H n,GY G H n w m.ps)/\(m.nm.ok/\m.ret.nm.ok)) (LS:=q) λL C=>by
  obtain⟨t,w,p,u⟩:=AP8 (d L C).2;exact⟨t,w,p,u⟩
 refine⟨v,f,ws,rfl,λH n=>⟨k H,A.lo,mM (by omega),p,λi m w a b=>(x i m w a b).1 H n,λm D=>?_⟩⟩
 obtain⟨i,y⟩:=List.mem_iff_getElem?.1 D
 have E:=(List.getElem?_eq_some_iff.1 y).1
 exact(x i m _ y (List.getElem?_eq_getElem (by omega))).2
theorem AV3{L:LV}(h:Fits G ASn L):∃(c:Fc) (f g:V) (ws:List V),L=[c.nm.v,c.sup.v,f,g]/\∀H n,ZO G H n [c.nm.v,c.sup.v,f,g] c f g ws:=by
 obtain⟨a,r,rfl,i,b,B,rfl,k,c,C,rfl,m,d,D,rfl,hd,rfl⟩:=(show jS G [.str,.str,.sl 3 ALF,.sl 5 AKN] L from h)
 obtain⟨s,p,rfl⟩:=ZG i
 obtain⟨u,q,rfl⟩:=ZG k
 obtain⟨f,w,rfl,x⟩:=AVz m
 obtain⟨g,y,ws,rfl,A⟩:=AVK hd
 exact⟨⟨s,u,w,y⟩,f,g,ws,rfl,λH n=>⟨rfl,x H n,A H n,p,q⟩⟩
theorem AVw{L:LV}(h:Fits G ASX L):∃(p:Pool) (v0 v1 v2 v3 v4:V) (ws:List V),L=[v0,v1,v2,v3,v4]/\∀H n,Fh G H n p v0 v1 v2 v3 v4 ws:=by
 obtain⟨a,r,rfl,q,b,A,rfl,u,c,B,rfl,J,d,C,rfl,hd,e,r5,rfl,K,rfl⟩:=(show jS G [.sl 1 (.int .i64),.sl 1 .str,.sl 2 AMB,.sl 4 (.st [ALF,.str]),.sl 6 (.st [AKN,.str])] L from h)
 obtain⟨v0,M,rfl,N,O,P,Q⟩:=q
 obtain⟨v1,S,rfl,T,U,W,X⟩:=u
 obtain⟨v2,Y,rfl,Z⟩:=ARS J
 obtain⟨v3,L3,rfl,B,e3,l3,a3⟩:=hd
 obtain⟨v4,L4,rfl,C,e4,l4,a4⟩:=K
 obtain⟨ns,rfl,-⟩:=o8 (g:=λa:Int=>[V.int .i64 a 0]) (R:=λ_=>True) (LS:=M) λL k=>by
  obtain⟨m,rfl⟩:=(Q L k).2;exact⟨m,rfl,trivial⟩
 obtain⟨ss,rfl,o1⟩:=o8 (g:=λs:St=>[s.v]) (R:=λs=>s.ok) (LS:=S) λL k=>by
  obtain⟨s,x,rfl⟩:=ZG (X L k).2;exact⟨s,rfl,x⟩
 obtain⟨fs,rfl,o3⟩:=o8 (g:=PF.cells) (R:=λf=>f.f.nm.ok/\f.f.ty.nm.ok/\f.own.ok) (LS:=L3) λL k=>by
  obtain⟨a,r,rfl,q,b,A,rfl,u,rfl⟩:=(show jS G [ALF,.str] L from(a3 L k).2)
  obtain⟨f,D,rfl⟩:=ARi q
  obtain⟨s,x,rfl⟩:=ZG u
  exact⟨⟨f,s⟩,rfl,D.1,D.2,x⟩
 obtain⟨y,ws,q1,q2,rfl,E⟩:=AKH (g:=PM.cells) (R:=λm w=>(∀H n,GY G H n w m.m.ps)/\(m.m.nm.ok/\m.m.ret.nm.ok/\m.own.ok)) (LS:=L4) λL k=>by
  obtain⟨a,r,rfl,q,b,A,rfl,u,rfl⟩:=(show jS G [AKN,.str] L from(a4 L k).2)
  obtain⟨m,w,rfl,hw,F⟩:=AP8 q
  obtain⟨s,x,rfl⟩:=ZG u
  exact⟨⟨m,s⟩,w,rfl,hw,F.1,F.2,x⟩
 refine⟨⟨ns,ss,Y,fs,y⟩,v0,v1,v2,v3,v4,ws,rfl,λH n=>⟨O H,N.lo,mM (by simpa using P),U H,T.lo,mM (by simpa using W),o1,Z H n,e3 H,B.lo,mM (by simpa using l3),o3,
  e4 H,C.lo,mM (by show y.length<=maxLen;omega),q1,λi m w a b=>(E i m w a b).1 H n,λm hm=>?_⟩⟩
 obtain⟨i,I⟩:=List.mem_iff_getElem?.1 hm
 have d0:i<y.length:=(List.getElem?_eq_some_iff.1 I).1
 exact(E i m _ I (List.getElem?_eq_getElem (by omega))).2
theorem AQa{L:LV}(h:Fits G (.sl 3 ARp) L):∃v bs ws,L=[v]/\∀H n,Jk G H n v bs ws:=by
 obtain⟨v,m,rfl,p,f,k,d⟩:=h
 obtain⟨bs,ws,B,I,rfl,C⟩:=AKH (g:=Bd.cells) (R:=λb w=>∀H n,O1 G H n w b.code) (LS:=m) λL q=>by
  obtain⟨a,r,rfl,u,b,D,rfl,A,c,J,rfl,E,rfl⟩:=(show jS G [.int .i64,.int .i64,.sl 2 Abd] L from(d L q).2)
  obtain⟨x,rfl⟩:=u
  obtain⟨y,rfl⟩:=A
  obtain⟨w,F,rfl,p,f,k,d⟩:=E
  obtain⟨is,rfl,-⟩:=o8 (g:=Ins.cells) (R:=λ_=>True) (LS:=F) λL q=>by
   obtain⟨a,r,rfl,u,b,D,rfl,A,rfl⟩:=(show jS G [.int .i64,.int .i64] L from(d L q).2)
   obtain⟨x,rfl⟩:=u
   obtain⟨y,rfl⟩:=A
   exact⟨⟨x,y⟩,rfl,trivial⟩
  exact⟨⟨x,y,is⟩,w,rfl,λH n=>⟨f H,p.lo,mM (by simpa using k)⟩⟩
 exact⟨v,bs,ws,rfl,λH n=>⟨f H,p.lo,mM (by omega),B,λi b w x y=>C i b w x y H n⟩⟩
theorem AU0{L:LV}(h:Fits G ASQ L):∃f:Fl,∀H n,X7 G H n (.agg L) f:=by
 obtain⟨a,r,rfl,i,b,w,rfl,d,c,x,rfl,k,rfl⟩:=(show jS G [ASn,ASX,.sl 3 ARp] L from h)
 obtain⟨c,m,q,g,rfl,u⟩:=AV3 i
 obtain⟨p,v0,v1,v2,v3,v4,ws,rfl,v⟩:=AVw d
 obtain⟨vb,bs,bws,rfl,d⟩:=AQa k
 exact⟨⟨c,p,bs⟩,λH n=>⟨_,m,q,v0,v1,v2,v3,v4,vb,g,ws,bws,⟨rfl,u H n,v H n,d H n⟩,rfl⟩⟩
theorem ASk{L:LV}(h:Fits G (.sl 10 ASQ) L):∃v fls,L=[v]/\RSl v fls.length/\∀H n,WI G H n v fls:=by
 obtain⟨v,g,rfl,m,k,q,d⟩:=h
 obtain⟨fls,p,u⟩:=pick (α:=Fl) (Q:=λf L=>∀H n,X7 G H n (.agg L) f) (LS:=g) λL w=>AU0 (d L w).2
 exact⟨v,fls,rfl,by rw[p];exact m,λH n=>⟨⟨g,k H,p.symm,λi L f a b=>u i f L b a H n⟩,m.lo,mM (by omega)⟩⟩
end
end Go.RL
