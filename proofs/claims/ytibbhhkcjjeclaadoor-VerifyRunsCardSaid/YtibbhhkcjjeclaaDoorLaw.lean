/- Part of a proof; nothing is assumed. -/
import Derived.Test.YtibbhhkcjjeclaaDoorConF
import Derived.Test.YtibbhhkcjjeclaaDoorConE
import Derived.Test.YtibbhhkcjjeclaaDoorConB
import Derived.Test.YtibbhhkcjjeclaaDoorConD
set_option linter.unusedVariables false
set_option linter.unusedSimpArgs false
namespace Go.RL
open Go.Bh
set_option maxRecDepth 100000
theorem AJO{Bg:List Fl}(h:O1 Bg=0){f g:Fl}(hf:f∈Bg)(hg:g∈Bg)(e:f.face.nm=g.face.nm):f=g:=by
 have h1:=(EU h).2.1
 have a:=lN Bg [] f h1 hf
 have b:=lN Bg [] g h1 hg
 rw[e,b]at a
 exact(Option.some.inj a).symm
theorem El.vs{G:AX}{H:Heap}{v:V}{z:Nat}{LS:ER}(h:El G H v z LS):F8 v v=true:=by
 obtain⟨hs,h⟩:=h
 cases v<;>try (cases h;done)
 all_goals first
  |rfl
  |exact AKI ..
  |exact AOl ..
  |(cases hs;done)
  |(show Jm _ _=true;simp[Jm,AFt,BM];done)
  |trivial
theorem El.vs1{G:AX}{H:Heap}{v:V}{z:Nat}{LS:ER}(h:El G H v z LS):Jm v v=true:=by
 obtain⟨hs,h⟩:=h
 cases v<;>try (cases h;done)
 all_goals first
  |rfl
  |(cases hs;done)
  |(simp[Jm,AMD,BM];done)
  |(simp[Jm,AE3,BM];done)
  |(simp[Jm,AFt,BM];done)
theorem AKj{b:Bd}{w:V}(h:Jm w w=true):F8 (.agg (b.cells w)) (.agg (b.cells w))=true:=by
 show band (Jm (.int .i64 b.locals 0) (.int .i64 b.locals 0)) (band (Jm (.int .i64 b.stack 0) (.int .i64 b.stack 0)) (band (Jm w w) true))=true
 rw[h]
 simp[Jm,ACW,BM,NQ,Tt]
section
variable{M:Mn}{W W' W'':Mw}{D:qy}{G:AX}{H H' H'':Heap}{n n' n'':Nat}{s s':Mst}{k:KV}{stk:List Cv}
theorem APx(hG:QT G){m:Nat}{nm:St}(hF:L8 G H m M.vf M.Bg)(hm:m<=n)(hkb:M.kb<n)(hbox:T.get H M.kb=some (one (M.cells W s)))(hex:∃f∈M.Bg,f.face.nm=nm)
 (hk:∀H' n' L f,f∈M.Bg->f.face.nm=nm->Kp H n H' n'->L.length=10->VL G H' m (.agg L) f->k (.Di [.agg L,.bool true]) H' n'):Runs F G SS [.ptr M.kb 0,nm.v] H n k:=by
 refine BN (s:=SC (F7 lfp G)) KY (by obtain⟨h,o⟩:=RI BO G;rw[KY]at h;cases h;exact o) ?_
 show F7 lfp G (Runs F G) (.ptr M.kb 0) nm.v H n k
 delta F7
 refine BZ rfl λH1 f1 g1=>?_
 rw[Dq,AB,Ae,AB,AU (off:=0+1) ((f1.same _ hkb).trans hbox) (v:=M.vf) rfl,AB,hF.len,AB]
 refine CJ (N:=M.Bg.length) (J:=λj st=>∃H' n',st=(nm.v,V.ptr n 0,M.vf,V.int .i64 (.ofNat M.Bg.length) 0,V.int .i64 (.ofNat j) 0,H',n')/\Kp H1 (n+1) H' n'/\∃f∈M.Bg.drop j,f.face.nm=nm) ?_ ?_ ⟨H1,n+1,rfl,.refl ..,hex⟩
 ·rintro I j st hj ⟨H2,n2,rfl,f2,hex⟩ ih
  show Jo lfp G (Runs F G) k I nm.v (.ptr n 0) M.vf (.int .i64 (.ofNat M.Bg.length) 0) (.int .i64 (.ofNat j) 0) H2 n2
  delta Jo
  have hn2:=f2.le
  have f12:=f1.trans f2
  have hF2:=hF.ke (f12.ke.low hm)
  have hlt:=hF.lt
  obtain⟨p,vf,vm,v0,v1,v2,v3,v4,vb,mws,ws,bws,hp,hld,hfile⟩:=hF2.at hj
  have hmem:=List.getElem_mem hj
  rw[List.drop_eq_getElem_cons hj]at hex
  generalize M.Bg[j]=f at*
  rw[SB,decide_eq_true hj,AB,BD,hp,AB,DI hld,AB]
  refine BZ rfl λH3 f3 g3=>?_
  refine IU g3 rfl rfl (by omega) λH4 g4 s4=>?_
  have f4:Kp H2 n2 H4 (n2+1):=⟨by omega,λid hid=>by rw[s4 _ (by omega),f3.same _ hid]⟩
  rw[Ae,AB,Ae,AB,AU (off:=0+0+0) g4 (v:=f.face.nm.v) rfl,AB,show CX (.one .str) false f.face.nm.v nm.v=some (.bool (decide (f.face.nm.1=nm.1/\f.face.nm.2=nm.2)))from zX ..,AB]
  by_cases e:f.face.nm=nm
  ·rw[decide_eq_true (by rw[e];exact⟨rfl,rfl⟩),BD,CV (m:=10) g4 (by omega) rfl,AB]
   have g1:=((f2.trans f4).same n (by omega)).trans g1
   rw[Gt (m:=10) g1 (by omega) rfl rfl,Ei (m:=10) (T.Ah ..) (by omega) rfl]
   have f5:Kp H n (T.set H4 n (one [f.face.nm.v,f.face.sup.v,vf,vm,v0,v1,v2,v3,v4,vb])) (n2+1):=⟨by omega,λid hid=>by rw[T.Ac _ _ (by omega),f4.same id (by omega),f12.same id hid]⟩
   refine hk _ _ [f.face.nm.v,f.face.sup.v,vf,vm,v0,v1,v2,v3,v4,vb] f hmem e f5 rfl ⟨_,vf,vm,v0,v1,v2,v3,v4,vb,mws,ws,bws,hfile.ke ?_,rfl⟩
   exact⟨Nat.le_refl _,λv z LS hl h=>h.same λid hid=>by
    have:=hl id hid
    rw[T.Ac _ _ (by omega),f4.same id (by omega)]⟩
  ·rw[decide_eq_false λq=>e (Prod.ext q.1 q.2),BA,D7 (by unfold big at hlt;omega),AB]
   refine ih _ ⟨H4,n2+1,rfl,f2.trans f4,?_⟩
   obtain⟨g,hg,he⟩:=hex
   rcases List.mem_cons.1 hg with rfl|hg
   ·exact absurd he e
   ·exact⟨g,hg,he⟩
 ·rintro I st ⟨H2,n2,rfl,f2,f,hf,-⟩
  rw[List.drop_length]at hf
  cases hf
end
section
variable{M:Mn}{W W' W'':Mw}{D:qy}{G:AX}{H H' H'':Heap}{n n' n'':Nat}{s s':Mst}{k:KV}{stk:List Cv}
def ALE(fs:Tab)(m:DW)(u:St):Prop:=∃x∈((Ci fs u).getD DF).ms,x.same m=true
theorem AMI(hG:QT G)(TA:Tabs M.fs)(hlk:O1 M.Bg=0)(hfs:M.fs=EL (CB M.Bg))(tab:TabAt G H M.kb M.t M.a M.b M.fs)(hF:L8 G H M.kb M.vf M.Bg)(hbox:T.get H M.kb=some (one (M.cells W s)))(hn:M.kb<n)
 {c:St} {m:DW} {w:V} (hsig:N7 G H n w m.ps) (hc:∃x,Ci M.fs c=some x) (hex:∃u∈(above M.fs c).1,ALE M.fs m u)
 (hk:∀(H':Heap) (n':Nat) (L:LV) (f:Fl) (j:Nat) (m':DW) (bd:Bd) (wc:V),Kb M.b H n H' n'->f∈M.Bg->f.face.nm∈(above M.fs c).1->f.face.ms[j]? =some m'->m'.same m=true->f.bodies[j]? =some bd->L.length=10->VL G H' M.kb (.agg L) f->NI G H' M.kb wc bd.code->k (.Di [.agg L,.agg (bd.cells wc),.bool true]) H' n'):
 Runs F G Iy [.ptr M.kb 0,c.v,.agg (m.cells w)] H n k:=by
 refine BN (s:=ar3 (Fv lfp G)) KW (by obtain⟨h,o⟩:=RJ BO G;rw[KW]at h;cases h;exact o) ?_
 show Fv lfp G (Runs F G) (.ptr M.kb 0) c.v (.agg (m.cells w)) H n k
 delta Fv
 have hb:=tab.bn
 refine FZ λH1 f1 g1=>?_
 refine BZ rfl λH2 f2 g2=>?_
 refine BZ rfl λH3 f3 g3=>?_
 have g1:=f3.get (f2.get g1 (by omega)) (by omega)
 have g2:=f3.get g2 (by omega)
 have f03:=(f1.trans f2).trans f3
 have AUT:TabAt G H3 (n+1+1+1) M.t M.a M.b M.fs:=tab.kb ⟨by omega,λid q _=>f03.same id (by omega),λq=>q.same (f03.same _ (by omega))⟩
 have bx3:=(f03.same _ hn).trans hbox
 clear f1 f2 f3
 rw[Dq,AB,Ae,AB,AU (off:=0+0) bx3 (v:=.ptr M.t 0) rfl,AB]
 refine Zo AUT TA.len λH4 n4 va f4 ho hl=>?_
 have hn4:=f4.le
 rw[show Bl (.Di [va,.bool (above M.fs c).2]) 0=some va from rfl,AB,show Bl (.Di [va,.bool (above M.fs c).2]) 1=some (.bool (above M.fs c).2)from rfl,AB,(ho.el (by omega)).len,Gz,AB]
 have f04:Kb M.b H n H4 n4:=⟨by omega,λid q1 q2=>by rw[f4.same id (by omega) q2,f03.same id q1],λq=>f4.seen (q.same (f03.same _ (by omega)))⟩
 have hkn:∀u∈(above M.fs c).1,∃x,Ci M.fs u=some x:=λu hu=>by
  obtain⟨x,hx⟩:=hc
  exact(ET (TA.w c x hx)).known hu
 have g1:=(f4.same n (by omega) (by omega)).trans g1
 have g2:=(f4.same (n+1) (by omega) (by omega)).trans g2
 have g3:=(f4.same (n+1+1) (by omega) (by omega)).trans g3
 have hmem:∀f∈M.Bg,f.face.nm∈(above M.fs c).1->True:=λ_ _ _=>trivial
 generalize hL:(above M.fs c).1=l at*
 have bx4:=(f4.same _ (by omega) (by omega)).trans bx3
 have seen:=tab.seen
 refine CJ (N:=l.length) (J:=λj st=>∃H' n',st=(V.ptr M.kb 0,V.ptr n 0,V.ptr (n+1) 0,V.ptr (n+1+1) 0,va,V.int .i64 (.ofNat l.length) 0,V.int .i64 (.ofNat j) 0,H',n')/\Kp H4 n4 H' n'/\∃u∈l.drop j,ALE M.fs m u) ?_ ?_ ⟨H4,n4,rfl,.refl ..,hex⟩
 ·rintro I j st hj ⟨H5,n5,rfl,f5,hex⟩ ih
  show JU lfp G (Runs F G) k I (.ptr M.kb 0) (.ptr n 0) (.ptr (n+1) 0) (.ptr (n+1+1) 0) va (.int .i64 (.ofNat l.length) 0) (.int .i64 (.ofNat j) 0) H5 n5
  delta JU
  have hn5:=f5.le
  obtain⟨q,hq,hld⟩:=((ho.kp f5).el (by omega)).at (QB hj)
  have humem:=List.getElem_mem hj
  obtain⟨fc,hfc⟩:=hkn _ humem
  rw[List.drop_eq_getElem_cons hj]at hex
  generalize l[j]=u at*
  obtain⟨f0,hf0,e0,e1⟩:=dM (Bg:=M.Bg) (by rw[<-hfs];exact hfc)
  have f05:Kb M.b H n H5 n5:=f04.trans (f5.kb (by omega))
  have hF5:=hF.ke ((f05.low (by omega):Kb M.b H M.kb H5 M.kb).ke seen)
  rw[SB,decide_eq_true hj,AB,BD,hq,AB,L6 hld,AB]
  refine APx hG hF5 (by omega) (by omega) ((f5.same _ (by omega)).trans bx4) ⟨f0,hf0,by rw[e0];exact e1⟩ λH6 n6 L f hf hnm f6 hLl hfv=>?_
  have hn6:=f6.le
  have hff:f=f0:=AJO hlk hf hf0 (by rw[hnm,e0,e1])
  subst hff
  rw[show Bl (.Di [.agg L,.bool true]) 0=some (.agg L)from rfl,AB,show Bl (.Di [.agg L,.bool true]) 1=some (.bool true)from rfl,AB]
  refine BZ rfl λH7 f7 g7=>?_
  refine IU g7 rfl hLl (by omega) λH8 g8 s8=>?_
  have f8:Kp H6 n6 H8 (n6+1):=⟨by omega,λid hid=>by rw[s8 _ (by omega),f7.same _ hid]⟩
  have f58:Kp H5 n5 H8 (n6+1):=f6.trans f8
  have f48:Kp H4 n4 H8 (n6+1):=f5.trans f58
  have hfv:=hfv.ke (f8.ke.low (by omega))
  have hfvk:=hfv
  obtain⟨L',vf,vm,v0,v1,v2,v3,v4,vb,mws,ws,bws,hfile,e⟩:=hfv
  have e:L=L':=by injection e
  subst e
  obtain⟨rfl,hface,hpool,hbod⟩:=hfile
  have hms:=hface.ms
  have hfo:=Ql _ _ (EU hlk).2.1 f hf
  have hbl:f.bodies.length=f.face.ms.length:=by
   unfold KZ at hfo
   simp only[Bool.and_eq_true,decide_eq_true_eq]at hfo
   exact hfo.2.2.1
  have hbig:=hms.lt
  have hbig2:=hbod.lt
  rw[jW,AB]
  show AZ (.bool false) true _ _
  rw[BA,Ae,AB,Ae,AB,AU (off:=0+0+3) g8 (v:=vm) rfl,AB,hms.len',AB]
  have hex2:(∃x∈f.face.ms,x.same m=true)∨∃u∈l.drop (j+1),ALE M.fs m u:=by
   obtain⟨u',hu',hm'⟩:=hex
   rcases List.mem_cons.1 hu' with rfl|hu'
   ·obtain⟨x,hx,he⟩:=hm'
    rw[hfc]at hx
    exact .inl ⟨x,by rw[e0];exact hx,he⟩
   ·exact .inr ⟨u',hu',hm'⟩
  refine CJ (N:=f.face.ms.length) (J:=λi st=>∃H' n',st=(V.ptr M.kb 0,V.ptr n 0,V.ptr (n+1) 0,V.ptr (n+1+1) 0,V.ptr n6 0,va,V.int .i64 (.ofNat l.length) 0,V.int .i64 (.ofNat j) 0,vm,V.int .i64 (.ofNat f.face.ms.length) 0,V.int .i64 (.ofNat i) 0,H',n')/\Kp H8 (n6+1) H' n'/\((∃x∈f.face.ms.drop i,x.same m=true)∨∃u∈l.drop (j+1),ALE M.fs m u)) ?_ ?_ ⟨H8,n6+1,rfl,.refl ..,hex2⟩
  ·rintro I2 i st hi ⟨H9,n9,rfl,f9,hex3⟩ ih2
   show EJ lfp G (Runs F G) k I I2 (.ptr M.kb 0) (.ptr n 0) (.ptr (n+1) 0) (.ptr (n+1+1) 0) (.ptr n6 0) va (.int .i64 (.ofNat l.length) 0) (.int .i64 (.ofNat j) 0) vm (.int .i64 (.ofNat f.face.ms.length) 0) (.int .i64 (.ofNat i) 0) H9 n9
   delta EJ
   have hn9:=f9.le
   have hms9:=hms.ke (f9.ke.low (by omega))
   obtain⟨p,wj,hp,hld,hw⟩:=hms9.at hi
   have hib:i<f.bodies.length:=by omega
   have hmi:f.face.ms[i]? =some f.face.ms[i]:=List.getElem?_eq_getElem hi
   rw[List.drop_eq_getElem_cons hi]at hex3
   generalize f.face.ms[i]=mj at*
   rw[SB,decide_eq_true hi,AB,BD,hp,AB,DI hld,AB]
   refine BZ rfl λHa fa ga=>?_
   refine IU ga rfl rfl (by omega) λHb gb sb=>?_
   have fb:Kp H9 n9 Hb (n9+1):=⟨by omega,λid hid=>by rw[sb _ (by omega),fa.same _ hid]⟩
   have f4b:Kp H4 n4 Hb (n9+1):=(f48.trans f9).trans fb
   have hn4b:=f4b.le
   rw[CV (m:=5) gb (by omega) rfl,AB,CV (m:=5) ((f4b.same n (by omega)).trans g1) (by omega) rfl,AB]
   have f0b:Kb M.b H n Hb (n9+1):=f04.trans (f4b.kb (by omega))
   have hw9:N7 G Hb (n9+1) wj mj.ps:=by
    have:=hw.ke (fb.ke.low (show M.kb<=n9 by omega))
    exact⟨this.el,this.lo.mono (by omega),this.lt,this.ok⟩
   refine vC ⟨wj,rfl,hw9⟩ ⟨w,rfl,hsig.ke (f0b.ke seen)⟩ λHc nc fc'=>?_
   have hnc:=fc'.le
   have f8c:Kp H8 (n6+1) Hc nc:=(f9.trans fb).trans fc'
   have f4c:Kp H4 n4 Hc nc:=f4b.trans fc'
   cases hs:mj.same m with
   |true=>
    have gc:=(f8c.same n6 (by omega)).trans g8
    have hbc:=hbod.ke (f8c.ke.low (show M.kb<=n6+1 by omega))
    have hlb:lenV vb=some (.int .i64 (.ofNat f.bodies.length) 0):=by rw[hbc.el.len,List.length_zipWith,hbc.len,Nat.min_self]
    have hiw:i<bws.length:=by rw[hbc.len];exact hib
    have hzw:(List.zipWith Bd.cells f.bodies bws)[i]? =some (f.bodies[i].cells bws[i]):=by simp[List.getElem?_zipWith,hib,hiw]
    obtain⟨pb,hpb,hlb2⟩:=hbc.el.at hzw
    have hcode:=hbc.at' i _ _ (List.getElem?_eq_getElem hib) (List.getElem?_eq_getElem hiw)
    have hbi:f.bodies[i]? =some f.bodies[i]:=List.getElem?_eq_getElem hib
    generalize f.bodies[i]=bd at hzw hlb2 hcode hbi
    generalize bws[i]=wc at hzw hlb2 hcode
    refine iH rfl (iH (Ae ..) (iH (AU (off:=0+9) gc (v:=vb) rfl) (iH hlb (iH (SB ..) (ABy ?_)))))
    rw[decide_eq_true hib,BD,CV (m:=10) gc (by omega) rfl,AB,Ae,AB,AU (off:=0+9) gc (v:=vb) rfl,AB,hpb,AB,DI hlb2,AB]
    have h2c:=(f4c.same (n+1) (by omega)).trans g2
    have h3c:=(f4c.same (n+1+1) (by omega)).trans g3
    refine IU h2c rfl rfl (by omega) λHd gd sd=>?_
    rw[AU (off:=0+9) ((sd _ (by omega)).trans gc) (v:=vb) rfl,AB]
    refine AHi (El.vs hbc.el) ?_
    have hbd:SG G Hd M.kb vb f.bodies bws:=hbc.ke ⟨Nat.le_refl _,λv z LS hl h=>h.same λid hid=>sd id (by have:=hl id hid;omega)⟩
    have hcd:NI G Hd M.kb wc bd.code:=hcode.ke ⟨Nat.le_refl _,λv z LS hl h=>h.same λid hid=>sd id (by have:=hl id hid;omega)⟩
    obtain⟨pb',hpb',hlb3⟩:=hbd.el.at hzw
    rw[hpb]at hpb'
    cases hpb'
    rw[DI hlb3,AB]
    refine AHi (AKj (El.vs1 hcode.el)) ?_
    refine IU ((sd _ (by omega)).trans h3c) rfl rfl (by omega) λHe ge se=>?_
    rw[Ei (m:=10) ((se _ (by omega)).trans gd) (by omega) rfl,Ei (m:=3) ge (by omega) rfl]
    have ee:∀id,id<n->T.get He id=T.get Hc id:=λid q=>by rw[se _ (by omega),sd _ (by omega)]
    have k8:Ke G H8 M.kb He M.kb:=⟨Nat.le_refl _,λv z LS hl h=>h.same λid hid=>by have:=hl id hid;rw[ee id (by omega),f8c.same id (by omega)]⟩
    refine hk He nc _ f i mj bd wc ⟨by omega,λid q1 q2=>by rw[ee id q1,f4c.same id (by omega),f04.same id q1 q2],λq=>(f04.seen q).same (by rw[ee _ (by omega),f4c.same _ (by omega)])⟩ hf (by rw[hnm];exact humem) hmi hs hbi rfl (hfvk.ke k8) ?_
    exact hcd.ke ⟨Nat.le_refl _,λv z LS hl h=>h.same λid hid=>by have:=hl id hid;rw[se _ (by omega)]⟩
   |false=>
    repeat (first|with_reducible refine AMF ?_|with_reducible refine AIt ?_)
    rw[BA,D7 (by unfold big at hbig;omega),AB]
    refine ih2 _ ⟨Hc,nc,rfl,f8c,?_⟩
    rcases hex3 with⟨x,hx,he⟩|h
    ·rcases List.mem_cons.1 hx with rfl|hx
     ·rw[hs]at he;cases he
     ·exact .inl ⟨x,hx,he⟩
    ·exact .inr h
  ·rintro I2 st ⟨H9,n9,rfl,f9,hex3⟩
   show EJ lfp G (Runs F G) k I I2 (.ptr M.kb 0) (.ptr n 0) (.ptr (n+1) 0) (.ptr (n+1+1) 0) (.ptr n6 0) va (.int .i64 (.ofNat l.length) 0) (.int .i64 (.ofNat j) 0) vm (.int .i64 (.ofNat f.face.ms.length) 0) (.int .i64 (.ofNat f.face.ms.length) 0) H9 n9
   delta EJ
   rw[SB,decide_eq_false (by omega),AB,BA]
   delta GK
   rw[D7 (by omega),AB]
   refine ih _ ⟨H9,n9,rfl,f48.trans f9,?_⟩
   rcases hex3 with⟨x,hx,-⟩|h
   ·rw[List.drop_length]at hx;cases hx
   ·exact h
 ·rintro I st ⟨H5,n5,rfl,f5,u,hu,-⟩
  rw[List.drop_length]at hu
  cases hu
end
structure Um(H:Heap)(lb:Nat)(lv:List Cv):Prop where
 is:∃tt,T.get H lb=some (.arr 2 lv.length tt)/\∀(k:Nat) (v:Cv),lv[k]? =some v->T.get tt k=some v.cells
theorem Um.same{H H':Heap}{lb:Nat}{lv:List Cv}(h:Um H lb lv)(e:T.get H' lb=T.get H lb):Um H' lb lv:=by
 obtain⟨tt,h1,h2⟩:=h.is
 exact⟨tt,e.trans h1,h2⟩
theorem Um.get{G:AX}{H:Heap}{lb i N:Nat}{lv:List Cv}{v:Cv}{q:IntKind}(h:Um H lb lv)(hN:lv.length=N)(hi:lv[i]? =some v):∃p,Ag 2 (.sl lb 0 N N 2) (.int q (.ofNat i) 0)=some p/\Af 2 p G H=some v.v:=by
 obtain⟨tt,h1,h2⟩:=h.is
 have hlt:=(List.getElem?_eq_some_iff.1 hi).1
 subst hN
 refine⟨_,ABP hlt,DI (c:=v.cells) ?_⟩
 show Z4 H _ _ 2=_
 rw[Nat.zero_add,V5 h1 (by omega) hlt]
 exact h2 i v hi
theorem Um.set{H:Heap}{n lb i N:Nat}{lv:List Cv}{v:Cv}{q:IntKind}{P:KV}(h:Um H lb lv)(hN:lv.length=N)(hi:i<N)(hk:∀H',Um H' lb (lv.set i v)->(∀id,id≠lb->T.get H' id=T.get H id)->P .undef H' n):
 AP (Ag 2 (.sl lb 0 N N 2) (.int q (.ofNat i) 0)) λp=>Ba 2 p v.v H n P:=by
 obtain⟨tt,h1,h2⟩:=h.is
 subst hN
 rw[ABP hi,AB,Nat.zero_add]
 refine AEh h1 (by omega) hi (h2 i _ (List.getElem?_eq_getElem hi)) rfl rfl λH' g' s'=>hk H' ⟨⟨_,by rw[List.length_set];exact g',λm w hm=>?_⟩⟩ s'
 by_cases e:i=m
 ·subst e
  rw[List.getElem?_set_self hi]at hm
  cases hm
  rw[T.Ah];rfl
 ·rw[List.getElem?_set_ne e]at hm
  rw[T.Ac _ _ e];exact h2 m w hm
theorem AMH{a b:Int}(h:b<=a):ASv (.int .i64 a 0) (.int .i64 b 0)=some (.int .i64 a 0):=by
 show some (V.int .i64 (Bool.rec a b (ilt a b)) 0)=_
 rw[Vp]
 by_cases e:a<b
 ·omega
 ·rw[decide_eq_false e]
theorem AP6{x:Int}(h1: -4611686018427387904<=x)(h2:x<4611686018427387904):B2.ev .add (.int .i64 x 0) (.int .i64 (.ofNat 1) 0)=some (.int .i64 (x+1) 0):=by
 show some (V.int .i64 (bT .i64 (ABD x (.ofNat 1))) 0)=_
 rw[SQ,fM]
 have e:x+Int.ofNat 1=x+1:=rfl
 rw[e,Vr (by omega) (by omega)]
def oC(n0 sb:Nat)(bd:Bd)(wc:V):qy:=⟨n0,n0,n0+2,sb,λid=>(n0<=id/\id<n0+4)∨id=sb,bd.stack,bd.locals,wc⟩
section
variable{M:Mn}{W W' W'':Mw}{D:qy}{G:AX}{H H' H'':Heap}{n n' n'':Nat}{s s':Mst}{k:KV}{stk:List Cv}
theorem Mm.ATh{x:Int}{Q:V->Heap->Nat->Prop}(h:Mm M W G H n s)(hr:s.outs+1+s.steps<=5000)
 (hk:∀v' H1,(∀id,id<n->W.own id≠3->T.get H1 id=T.get H id)->
  (∀{P:KV},(∀W' H2,Mm M W' G H2 (n+2) {s with outs:=s.outs+1}->(∀id,id<n->W'.own id=W.own id)->(∀id,id<n->W.own id=0->T.get H2 id=T.get H id)->P .undef H2 (n+2))->Ba 1 (.ptr M.kb (0+8)) v' H1 (n+2) P)->Q v' H1 (n+2)):
 Bf (Az 1 1 [(.int .i64 (.ofNat 0) 0)] [(0,.c (.int .i64 x 0))] E0) H n λw H n=>Va 1 8 W.ov w G H n Q:=by
 obtain⟨LS,sk,hL⟩:=h.out
 have hsz:=h.sz
 have kn:=h.kn
 have hosz:=h.osz
 refine sk.app (G:=G) (m:=0) (c:=.int .i64 x 0) (λid hid=>(sk.own hid).1) (by omega) rfl rfl (by omega) λv' H1 hv' s1 hid=>?_
 have e1:∀id,id<n->W.own id≠3->T.get H1 id=T.get H id:=λid q1 q2=>s1 id q1 λe=>q2 (sk.own e).2
 refine hk v' H1 e1 λ{P} hP=>?_
 have hv:=hv' (λid=>id=n+1) rfl
 refine XM ((e1 _ kn (by rw[h.ko];omega)).trans h.box) hv.ok.1 (by rw[hv.ok.2.1];rfl) (by omega) (by show 0+8+1<=10;omega) λH2 g2 s2=>?_
 rw[hv.ok.2.1]at g2
 let W':Mw:=⟨λid=>if id=n+1 then 3 else W.own id,W.hv,v',W.nv,W.pb⟩
 have o1:W'.own (n+1)=3:=if_pos rfl
 have o2:∀id,id<n->W'.own id=W.own id:=λid q=>if_neg (by omega)
 have e2:∀id,id<n->W.own id≠3->id≠M.kb->T.get H2 id=T.get H id:=λid q1 q2 q3=>(s2 id q3).trans (e1 id q1 q2)
 have ne:∀{id j:Nat},W.own id=j->j≠0->id<n:=λ{id j} q1 q2=>by
  rcases Nat.lt_or_ge id n with h'|h'
  ·exact h'
  ·rw[h.hi id h']at q1;omega
 refine hP W' H2 ⟨by omega,(o2 _ kn).trans h.ko,λid hid=>(o2 id (by omega)).trans (h.lo id hid),λid hid=>by show(if _ then _ else _)=_;rw[if_neg (by omega)];exact h.hi id (by omega),g2,?_,?_,λi th hi=>?_,λi th hi=>?_,hsz,h.big,h.ok,by show s.outs+1+s.steps<=5000;omega⟩ o2 λid q1 q2=>e2 id q1 (by omega) λe=>by rw[e,h.ko]at q2;omega
 ·obtain⟨LH,sh,q1,q2⟩:=h.hp
  exact⟨LH,sh.mono (λid q=>⟨by omega,(o2 id q.1).trans q.2⟩) λid q=>e2 id q.1 (by omega) λe=>by have:=q.2;rw[e,h.ko]at this;omega,q1,q2⟩
 ·exact⟨LS++[[.int .i64 x 0]],hv.mono (λid q=>by subst q;exact⟨by omega,o1⟩) (λid q=>s2 id (by omega)),by rw[List.length_append];show((LS.length+1:Nat):Int)=s.outs+1;omega⟩
 ·obtain⟨q1,q2,q3⟩:=h.nm i th hi
  exact⟨q1.same λid hid=>e2 id (q2 id hid).1 (by have:=q2 id hid;omega) (λe=>by have:=(q2 id hid).2;rw[e,h.ko]at this;omega),λid hid=>⟨by have:=q2 id hid;omega,(o2 id (q2 id hid).1).trans (q2 id hid).2⟩,q3⟩
 ·obtain⟨⟨q1,q2⟩,tt,q3,q4⟩:=h.pt i th hi
  exact⟨⟨by show W.pb i<n+2;omega,(o2 _ q1).trans q2⟩,tt,(e2 _ q1 (by omega) λe=>by rw[e,h.ko]at q2;omega).trans q3,q4⟩
theorem ATA{n0:Nat}{bd:Bd}{wc va:V}{args:List Cv}(h:Mm M W G H n s)(tab:TabAt G H M.kb M.t M.a M.b M.fs)(hn:n0+4<=n)(hkb:M.kb<n0)(hown:∀id,n0<=id->W.own id=0)
 (g0:T.get H n0=some (one [.ptr M.kb 0])) (g2:T.get H (n0+2)=some (one (bd.cells wc))) (hva:El G H va 2 (cvs args)) (hlo:Lo va n) (hnl:(args.length:Int)<=bd.locals) (hmx:bd.locals<=401)
 (hk:∀H' n' lb sb,Kp H n H' n'->n0+4<=lb->lb≠sb->n0+4<=sb->lb<n'->Gm M W ((oC n0 sb bd wc).add lb (lb+1)) G H' n' s []->Um H' lb (args++List.replicate (bd.locals.toNat-args.length) iO)->
  lfp (V×V×V×V×V×V×V×Heap×Nat) (Fp lfp G (Runs F G) k) (.ptr n0 0,.ptr (n0+1) 0,.ptr (n0+2) 0,.ptr (n0+3) 0,.sl lb 0 bd.locals.toNat bd.locals.toNat 2,.ptr sb 0,.int .i64 (.ofNat 0) 0,H',n')):
 DY lfp G (Runs F G) k va (.ptr n0 0) (.ptr (n0+1) 0) (.ptr (n0+2) 0) (.ptr (n0+3) 0) H n:=by
 delta DY
 have hb:=tab.bn
 obtain⟨N,hN⟩:∃N:Nat,bd.locals=.ofNat N:=⟨bd.locals.toNat,by show bd.locals=(bd.locals.toNat:Int);omega⟩
 have hN':bd.locals=(N:Int):=hN
 have hNt:bd.locals.toNat=N:=by omega
 rw[hNt]at hk
 rw[Ae,AB,AU (off:=0+0) g2 (v:=.int .i64 bd.locals 0) rfl,AB,hva.len,Vw,AB,AMH (b:=.ofNat args.length) hnl,AB,hN]
 refine ALN (by omega) λH1 f1 ⟨tt,gt,ht⟩=>?_
 rw[AB]
 have l1:Um H1 n (List.replicate N iO):=⟨tt,by rw[List.length_replicate];exact gt,λi v hv=>by
  obtain⟨hi,e⟩:=List.getElem?_eq_some_iff.1 hv
  rw[List.getElem_replicate]at e
  rw[List.length_replicate]at hi
  rw[ht i hi,<-e];rfl⟩
 have hla:args.length<=N:=by omega
 refine CJ (N:=args.length) (J:=λi st=>∃H' n',st=(V.ptr n0 0,V.ptr (n0+1) 0,V.ptr (n0+2) 0,V.ptr (n0+3) 0,V.sl n 0 N N 2,va,V.int .i64 (.ofNat args.length) 0,V.int .i64 (.ofNat i) 0,H',n')/\Kp H n H' n'/\n<n'/\Um H' n (args.take i++List.replicate (N-i) iO)) ?_ ?_ ⟨H1,n+1,rfl,f1,by omega,by simpa using l1⟩
 ·rintro I i st hi ⟨H2,n2,rfl,f2,hn2,l2⟩ ih
  show EC lfp G (Runs F G) k I (.ptr n0 0) (.ptr (n0+1) 0) (.ptr (n0+2) 0) (.ptr (n0+3) 0) (.sl n 0 N N 2) va (.int .i64 (.ofNat args.length) 0) (.int .i64 (.ofNat i) 0) H2 n2
  delta EC
  obtain⟨p,hp,hld⟩:=(hva.kp hlo f2).at (i:=i) (c:=args[i].cells) (by unfold cvs;rw[List.getElem?_map,List.getElem?_eq_getElem hi];rfl)
  rw[SB,decide_eq_true hi,AB,BD,hp,AB,DI hld,AB]
  refine BZ rfl λH3 f3 g3=>?_
  refine IU g3 rfl rfl (by omega) λH4 g4 s4=>?_
  have f4:Kp H2 n2 H4 (n2+1):=⟨by omega,λid hid=>by rw[s4 _ (by omega),f3.same _ hid]⟩
  rw[Qv g4,AB]
  have l4:=l2.same (f4.same n hn2)
  have hlen:(args.take i++List.replicate (N-i) iO).length=N:=by rw[List.length_append,List.length_take,List.length_replicate];omega
  refine l4.set hlen (by omega) λH5 l5 s5=>?_
  rw[D7 (by omega),AB]
  refine ih _ ⟨H5,n2+1,rfl,⟨by omega,λid q=>by rw[s5 id (by omega),f4.same id (by omega),f2.same id q]⟩,by omega,?_⟩
  have e:(args.take i++List.replicate (N-i) iO).set i args[i]=args.take (i+1)++List.replicate (N-(i+1)) iO:=by
   rw[List.set_append_right _ _ (by rw[List.length_take];omega),List.length_take,show i-min i args.length=0 by omega,show N-i=(N-(i+1))+1 by omega,List.replicate_succ,List.set_cons_zero,List.take_succ_eq_append_getElem hi,List.append_assoc];rfl
  rw[<-e];exact l5
 ·rintro I st ⟨H2,n2,rfl,f2,hn2,l2⟩
  show EC lfp G (Runs F G) k I (.ptr n0 0) (.ptr (n0+1) 0) (.ptr (n0+2) 0) (.ptr (n0+3) 0) (.sl n 0 N N 2) va (.int .i64 (.ofNat args.length) 0) (.int .i64 (.ofNat args.length) 0) H2 n2
  delta EC
  rw[SB,decide_eq_false (by omega),AB,BA]
  delta JV
  refine yB (G:=G) (vs:=[]) rfl (by omega) (λ_ h=>by cases h) λH3 f3 hg3 _=>?_
  obtain⟨t3,hg3⟩:=hg3
  refine BZ rfl λH4 f4 g4=>?_
  refine XM g4 rfl rfl (by omega) (by show 0+1<=1;omega) λH5 g5 s5=>?_
  have f5:Kp H n H5 (n2+1+1):=⟨by omega,λid q=>by rw[s5 id (by omega),f4.same id (by omega),f3.same id (by omega),f2.same id q]⟩
  have hlv:args.take args.length++List.replicate (N-args.length) iO=args++List.replicate (N-args.length) iO:=by rw[List.take_length]
  rw[hlv]at l2
  refine hk H5 _ n (n2+1) f5 hn (by omega) (by omega) (by omega) ?_ (l2.same (by rw[s5 _ (by omega),f4.same _ (by omega),f3.same _ hn2]))
  refine⟨h.kp f5,tab.kb ⟨Nat.le_refl _,λid q1 _=>f5.same id (by omega),λq=>q.same (f5.same _ (by omega))⟩,(f5.same n0 (by omega)).trans g0,(f5.same (n0+2) (by omega)).trans g2,⟨.sl n2 0 0 0 2,g5,.emp ((s5 _ (by omega)).trans ((f4.same _ (by omega)).trans hg3)) ⟨by omega,hown _ (by omega),by show n0<=n2;omega,?_⟩⟩,λid q=>?_,⟨.inl (.inl ⟨Nat.le_refl _,by show n0<n0+4;omega⟩),.inl (.inr rfl),.inl (.inl ⟨by show n0<=n0+2;omega,by show n0+2<n0+4;omega⟩),by show n0≠n2+1;omega,by show n0+2≠n2+1;omega⟩,hkb⟩
  ·rintro((q|q)|q)
   ·omega
   ·omega
   ·omega
  ·rcases q with(q|q)|q
   ·exact⟨q.1,by omega,hown _ q.1⟩
   ·exact⟨by show n0<=id;omega,by omega,hown _ (by omega)⟩
   ·exact⟨by show n0<=id;omega,by omega,hown _ (by omega)⟩
end
theorem AFj:∀{l r:List Ty},bJ l r=true->l=r
 |[],[],_=>rfl
 |[],_::_,h=>by cases h
 |_::_,[],h=>by cases h
 |a::l,b::r,h=>by
  have h:(a.is b&&bJ l r)=true:=h
  rw[Bool.and_eq_true]at h
  rw[Ty.Oh.1 h.1,AFj h.2]
theorem AAx{a b:DW}(h:a.same b=true):a.st=b.st/\a.ret=b.ret/\a.ps=b.ps:=by
 unfold DW.same at h
 simp only[Bool.and_eq_true,beq_iff_eq]at h
 exact⟨h.2.1,Ty.Oh.1 h.2.2.1,AFj h.2.2.2⟩
theorem TM.rev{fs:Tab}{hs:List Th}{vs:List Cv}{ts:List Ty}(h:TM fs hs vs ts):TM fs hs vs.reverse ts.reverse:=by
 refine⟨by rw[List.length_reverse,List.length_reverse,h.1],λi v t a b=>?_⟩
 have hi:=(List.getElem?_eq_some_iff.1 a).1
 rw[List.length_reverse]at hi
 rw[List.getElem?_reverse hi]at a
 rw[List.getElem?_reverse (by rw[<-h.1];exact hi)]at b
 rw[<-h.1]at b
 exact h.2 _ v t a b
theorem TM.split{fs:Tab}(hw:Whole fs)(hu:Upper fs){hs:List Th}:∀{ws:List Ty} {vs:List Cv} {ts r:List Ty},TM fs hs vs ts->Go.RL.Dh fs ws ts=some r->∃a b,vs=a++b/\TM fs hs a ws/\TM fs hs b r
 |[],vs,ts,r,h,e=>by cases e;exact⟨[],vs,rfl,.nil,h⟩
 |w::ws,vs,ts,r,h,e=>by
  obtain⟨v,vs',ts',rfl,-,h1,h2,e⟩:=h.Dh hw hu e
  obtain⟨a,b,rfl,h3,h4⟩:=h2.split hw hu e
  exact⟨v::a,b,rfl,.cons h1 h3,h4⟩
def ACQ(fs:Tab)(m:DW)(c:St):Prop:=∃u∈(above fs c).1,ALE fs m u
theorem AI3{fs:Tab}{p:PM}(h:(iC fs p).isSome=true):ACQ fs p.m p.own:=by
 obtain⟨u,hu⟩:=Option.isSome_iff_exists.1 h
 obtain⟨h1,h2⟩:=oW hu
 exact⟨u,h1,h2⟩
theorem ACQ.below{fs:Tab}(hw:Whole fs){m:DW}{c own:St}(h:ACQ fs m own)(hb:own∈(above fs c).1):ACQ fs m c:=by
 obtain⟨u,h1,h2⟩:=h
 obtain⟨p,e,-⟩:=VG hw hb
 exact⟨u,by rw[e];exact List.mem_append_right _ h1,h2⟩
theorem Um.el{G:AX}{H:Heap}{lb N:Nat}{lv:List Cv}(h:Um H lb lv)(hN:lv.length=N):El G H (.sl lb 0 N N 2) 2 (cvs lv):=by
 obtain⟨tt,h1,h2⟩:=h.is
 subst hN
 refine⟨rfl,?_⟩
 show(Bool.rec (motive:=λ_=>Option ER) none (CQ H lb 2 lv.length 0) (Nat.beq 2 2):Option ER)=_
 rw[Dl]
 refine X8 _ _ _ (Vw lv) λi c hi=>?_
 unfold cvs at hi
 rw[List.getElem?_map]at hi
 cases hv:lv[i]? with
 |none=>rw[hv]at hi;cases hi
 |some v=>
  rw[hv]at hi
  cases hi
  rw[Nat.zero_add,V5 h1 (by omega) (List.getElem?_eq_some_iff.1 hv).1]
  exact h2 i v hv
structure Env(M:Mn)(G:AX):Prop where
 g:QT G
 t:Tabs M.fs
 lk:O1 M.Bg=0
 fs:M.fs=EL (CB M.Bg)
 all:∀f∈M.Bg,∀(j:Nat) (m:DW) (bd:Bd),f.face.ms[j]? =some m->f.bodies[j]? =some bd->∃A,Post (cxF M.fs f m bd) (WU f.face.nm m bd) A
def zf(M:Mn)(G:AX)(b:Int):Prop:=
 ∀{W:Mw} {H:Heap} {n:Nat} {s:Mst} {f:Fl} {L:LV} {j:Nat} {m:DW} {bd:Bd} {wc va:V} {args:List Cv} {k:KV},Mm M W G H n s->TabAt G H M.kb M.t M.a M.b M.fs->L8 G H M.kb M.vf M.Bg->s.steps<b->s.trap=0->0<=s.steps->s.calls+1+s.steps<=9000->
  f∈M.Bg->f.face.ms[j]? =some m->f.bodies[j]? =some bd->L.length=10->VL G H M.kb (.agg L) f->NI G H M.kb wc bd.code->El G H va 2 (cvs args)->(∀id,va.XZ=some id->id<n/\W.own id=0/\id≠M.b)->TM M.fs s.hs args (dX f.face.nm m++m.ps)->
  (∀W' H' n' s' v,Mm M W' G H' n' s'->n<=n'->(∀id,id<n->W'.own id=W.own id)->(∀id,id<n->id≠M.b->W.own id=0->T.get H' id=T.get H id)->(Gv H M.b->Gv H' M.b)->Ext s.hs s'.hs->s'.calls=s.calls->s'.steps<=s.steps->(s'.trap=0->0<=s'.steps/\VT M.fs s'.hs v m.ret)->k (Cv.v v) H' n')->
  Runs F G Lu [.ptr M.kb 0,.agg L,.agg (bd.cells wc),va] H n k
section
variable{M:Mn}{W W' W'':Mw}{D:qy}{G:AX}{H H' H'':Heap}{n n' n'':Nat}{s s':Mst}{k:KV}{stk:List Cv}
theorem Gm.world2(h:Gm M W D G H n s stk)(hw:Mm M W' G H' n' s')(hn:n<=n')(ho:∀id,id<n->W'.own id=W.own id)(hz:∀id,id<n->id≠M.b->W.own id=0->T.get H' id=T.get H id)(hs:Gv H M.b->Gv H' M.b):
 Gm M W' D G H' n' s' stk/\Wn M W D H n W' H' n':=by
 have hb:=h.bk
 have kN:=h.kN
 have kn:=h.w.kn
 obtain⟨v,g1,sk⟩:=h.AEM
 have e:∀id,D.Pr id->T.get H' id=T.get H id:=λid hid=>by have:=h.pr id hid;exact hz id this.2.1 (by omega) this.2.2
 have hp:=h.pr _ h.pp.1
 have lowb:=h.w.lo
 exact⟨⟨hw,h.tab.kb ⟨Nat.le_refl _,λid h1 h2=>hz id (by omega) h2 (lowb id h1),hs⟩,(e _ h.pp.1).trans h.nS,(e _ h.pp.2.2.1).trans h.yR,⟨v,(e _ h.pp.2.1).trans g1,sk.mono (λid q=>⟨by omega,by rw[ho id q.1];exact q.2.1,q.2.2⟩) λid q=>hz id q.1 (by omega) q.2.1⟩,
  λid hid=>by have:=h.pr id hid;exact⟨this.1,by omega,by rw[ho id this.2.1];exact this.2.2⟩,h.pp,h.kN⟩,⟨hn,λid h1=>ho id (by omega),λid h1 h2 h3=>hz id (by omega) h2 h3,λid h1 _=>e id h1,hs⟩⟩
theorem ARc{p:Pool}{v0 v1 v2 v3 v4:V}{ws:List V}{m i:Nat}(h:Gp G H m p v0 v1 v2 v3 v4 ws)(hi:i<p.DN.length):∃q w,Ag 6 v4 (.int .i64 (.ofNat i) 0)=some q/\Af 6 q G H=some (.agg ((p.DN.getD i mZ).cells w))/\ws[i]? =some w/\p.DN[i]? =some (p.DN.getD i mZ):=by
 have hw:i<ws.length:=by rw[h.ABt];exact hi
 obtain⟨q,hp,hld⟩:=h.e4.at (i:=i) (c:=p.DN[i].cells ws[i]) (by simp[List.getElem?_zipWith,hi,hw])
 have e:p.DN.getD i mZ=p.DN[i]:=by rw[List.getD_eq_getElem?_getD,List.getElem?_eq_getElem hi];rfl
 rw[e]
 exact⟨q,ws[i],hp,DI hld,List.getElem?_eq_getElem hw,List.getElem?_eq_getElem hi⟩
def Mc(M:Mn)(W:Mw)(D:qy)(G:AX)(H:Heap)(n:Nat)(s:Mst)(ts:List Ty)(I:Heap->Nat->Prop):Prop:=
 ∀W' H' n' s' stk',Gm M W' D G H' n' s' stk'->Wn M W D H n W' H' n'->Ext s.hs s'.hs->s'.steps<=s.steps->s'.calls=s.calls->(s'.trap=0->0<=s'.steps/\TM M.fs s'.hs stk' ts)->I H' n'
theorem Mc.kq{ts:List Ty}{I:Heap->Nat->Prop}(d:Mc M W D G H n s ts I)(x:Wn M W D H n W' H' n'):Mc M W' D G H' n' s ts I:=
 λW2 H2 n2 s2 stk2 g x2 e q1 q2 q3=>d W2 H2 n2 s2 stk2 g (x.trans x2) e q1 q2 q3
theorem AL0(E:Env M G){b:Int}(ih:zf M G b){ih34:(V×V×V×V×V×V×V×Heap×Nat)->Prop}{x0 n0 r lid N:Nat}{a5 a6 a8 a9 a13 w own:V}{m:DW}{cl:St}{args:List Cv}{rt ts:List Ty}(h:Gm M W (D.add x0 n0) G H n s stk)(hp:D.Pr D.pb/\D.Pr D.sb/\D.Pr D.bb)(hpa:D.sb<x0)(hr:x0<=r/\r<n0)(hlid:x0<=lid/\lid<n0)
 (hF:L8 G H M.kb M.vf M.Bg) (hs1:s.steps<b) (hs2:s.trap=0) (hs3:0<=s.steps) (hs4:s.calls+1+s.steps<=9000)
 (gr:T.get H r=some (one [m.nm.v,.bool m.st,w,m.ret.nm.v,.bool m.ret.arr,own])) (gl:Um H lid args) (hN:args.length=N) (hw:N7 G H M.kb w m.ps) (hc:∃x,Ci M.fs cl=some x) (hm:ACQ M.fs m cl)
 (hty:∀(f:Fl) (m':DW),f.face.nm∈(above M.fs cl).1->m'.st=m.st->m'.ps=m.ps->TM M.fs s.hs args (dX f.face.nm m'++m'.ps)) (hlen:stk.length<=1000000) (hst:TM M.fs s.hs stk rt) (hpush:CW D.mx m.ret rt=some ts)
 (d:Mc M W D G H n s ts λH n=>ih34 (.ptr D.pb 0,a5,a6,a8,a9,.ptr D.sb 0,a13,H,n)):
 ED lfp G (Runs F G) k ih34 (.ptr D.pb 0) a5 a6 a8 a9 (.ptr D.sb 0) a13 (Cj D) (.ptr r 0) (.sl lid 0 N N 2) cl.v H n:=by
 delta ED
 have bk:=h.bk
 have kn:=h.w.kn
 have kN:M.kb<D.N:=h.kN
 rw[AU (off:=0) (id:=D.pb) h.nS (v:=.ptr M.kb 0) rfl,AB,Ae,AB,Iq (off:=0+0) (m:=5) gr (by omega) (by show 0+0+5<=6;omega),AB]
 show Runs F G Iy [.ptr M.kb 0,cl.v,.agg (m.cells w)] H n _
 refine AMI E.g E.t E.lk E.fs h.tab hF h.w.box kn ⟨hw.el,hw.lo.mono (Nat.le_of_lt kn),hw.lt,hw.ok⟩ hc hm λH1 n1 L f j m' bd wc f1 hf hfa hmj hsame hbd hL hfv hcode=>?_
 obtain⟨e1,e2,e3⟩:=AAx hsame
 obtain⟨h1,kq1⟩:=h.kb f1
 have hn1:=f1.le
 rw[show Bl (.Di [.agg L,.agg (bd.cells wc),.bool true]) 0=some (.agg L)from rfl,AB,show Bl (.Di [.agg L,.agg (bd.cells wc),.bool true]) 1=some (.agg (bd.cells wc))from rfl,AB,show Bl (.Di [.agg L,.agg (bd.cells wc),.bool true]) 2=some (.bool true)from rfl,AB]
 refine BZ rfl λH2 f2 g2=>?_
 refine BZ rfl λH3 f3 g3=>?_
 refine IU (f3.get g2 (by omega)) rfl hL (by omega) λH4 g4 s4=>?_
 refine IU ((s4 _ (by omega)).trans g3) rfl rfl (by omega) λH5 g5 s5=>?_
 have f5:Kp H1 n1 H5 (n1+1+1):=⟨by omega,λid hid=>by rw[s5 _ (by omega),s4 _ (by omega),f3.same _ (by omega),f2.same _ hid]⟩
 have g4:=(s5 _ (by omega)).trans g4
 obtain⟨h5,kq5⟩:=h1.kp f5
 have kq:=kq1.trans kq5
 rw[jW,AB]
 show AZ (.bool false) true _ _
 rw[BA,AU (off:=0) (id:=D.pb) h5.nS (v:=.ptr M.kb 0) rfl,AB,CV (m:=10) g4 (by omega) hL,AB,CV (m:=3) g5 (by omega) rfl,AB]
 have f05:Kb M.b H n H5 (n1+1+1):=f1.trans (f5.kb (by omega))
 have k15:Ke G H1 M.kb H5 M.kb:=(f5.ke (G:=G)).low (by omega)
 have hlb:=h.pr lid (.inr hlid)
 have gl5:=gl.same ((kq.pr lid (.inr hlid) (by show lid≠D.sb;omega)))
 refine ih h5.w h5.tab (hF.ke (((kq.kb h)).ke h.tab.seen)) hs1 hs2 hs3 hs4 hf hmj hbd hL (hfv.ke k15) (hcode.ke k15) (gl5.el hN) (λid hid=>?_) (hty f m' hfa e1 e3) λW6 H6 n6 s6 v h6 hn6 ho hz hseen he hcalls hsteps hv=>?_
 ·cases hid
  have:=h5.pr lid (.inr hlid)
  exact⟨this.2.1,this.2.2,by have:D.N<=lid:=this.1;omega⟩
 ·obtain⟨h6,kq6⟩:=(h5.weak hp).world2 h6 hn6 ho hz hseen
  refine BZ rfl λH7 f7 g7=>?_
  show Ba 2 (.ptr n6 0) (.agg v.cells) _ _ _
  refine IU g7 rfl rfl (by omega) λH8 g8 s8=>?_
  have f8:Kp H6 n6 H8 (n6+1):=⟨by omega,λid hid=>by rw[s8 _ (by omega),f7.same _ hid]⟩
  obtain⟨h8,kq8⟩:=h6.kp f8
  have kq8:=(kq.weak.trans kq6).trans kq8
  rw[AU (off:=0) h8.nS (v:=.ptr M.kb 0) rfl,AB,Dq,AB,Ae,AB,mD h8.w,AB,ah,AB]
  cases hd:decide (s6.trap=Int.ofNat 0)with
  |false=>
   rw[BA]
   exact d _ _ _ _ _ h8 kq8 he hsteps hcalls λe=>by rw[e]at hd;exact absurd hd (by decide)
  |true=>
   rw[BD,Qv g8,AB]
   obtain⟨rfl,hmx⟩:=Vh hpush
   obtain⟨q1,q2⟩:=hv (of_decide_eq_true hd)
   refine h8.push hlen (by rw[hst.1];exact hmx) λH9 n9 h9 kq9=>d _ _ _ _ _ h9 (kq8.trans kq9) he hsteps hcalls λe=>⟨q1,.cons ?_ (hst.ext he)⟩
   rw[<-e2];exact q2
end
theorem TM.append{fs:Tab}{hs:List Th}{a b:List Cv}{x y:List Ty}(h:TM fs hs a x)(h2:TM fs hs b y):TM fs hs (a++b) (x++y):=by
 refine⟨by rw[List.length_append,List.length_append,h.1,h2.1],λi v t p q=>?_⟩
 have hl:=h.1
 by_cases hi:i<a.length
 ·rw[List.getElem?_append_left hi]at p
  rw[List.getElem?_append_left (by omega)]at q
  exact h.2 i v t p q
 ·rw[List.getElem?_append_right (by omega)]at p
  rw[List.getElem?_append_right (by omega)]at q
  rw[<-hl]at q
  exact h2.2 _ v t p q
section
variable{M:Mn}{W W' W'':Mw}{D:qy}{G:AX}{H H' H'':Heap}{n n' n'':Nat}{s s':Mst}{k:KV}{stk:List Cv}
theorem Mm.cls(hG:QT G)(h:Mm M W G H n s){i:Nat}{th:Th}{q:IntKind}(hi:s.hs[i]? =some th):∃p p',Ag 3 W.hv (.int q (.ofNat i) 0)=some p/\AQ 0 p=some p'/\AV p' G H=some th.cls.v:=by
 obtain⟨b,o,q1,q2,-,-⟩:=h.thing (q:=q) hG hi
 exact⟨_,_,q1,Ae ..,q2⟩
theorem AQu(E:Env M G){b:Int}(ih:zf M G b){ih34:(V×V×V×V×V×V×V×Heap×Nat)->Prop}{x0 n0 r lid N xb c i:Nat}{a5 a6 a8 a9 a13 w:V}{m:DW}{own:St}{args:List Cv}{rt ts:List Ty}(h:Gm M W (D.add x0 n0) G H n s stk)(hp:D.Pr D.pb/\D.Pr D.sb/\D.Pr D.bb)(hpa:D.sb<x0)(hr:x0<=r/\r<n0)(hlid:x0<=lid/\lid<n0)
 (hF:L8 G H M.kb M.vf M.Bg) (hs1:s.steps<b) (hs2:s.trap=0) (hs3:0<=s.steps) (hs4:s.calls+1+s.steps<=9000) (hc:c=25∨c=26) (gx:T.get H xb=some (one (Ins.cells ⟨.ofNat c,.ofNat i⟩)))
 (gr:T.get H r=some (one [m.nm.v,.bool m.st,w,m.ret.nm.v,.bool m.ret.arr,own.v])) (gl:Um H lid args) (hN:args.length=N) (hw:N7 G H M.kb w m.ps) (hm:ACQ M.fs m own) (hmst:m.st=decide (c=26))
 (hty:TM M.fs s.hs args ((bif decide (c=25)then[⟨own,false⟩]else[])++m.ps)) (hlen:stk.length<=1000000) (hst:TM M.fs s.hs stk rt) (hpush:CW D.mx m.ret rt=some ts)
 (d:Mc M W D G H n s ts λH n=>ih34 (.ptr D.pb 0,a5,a6,a8,a9,.ptr D.sb 0,a13,H,n)):
 Fb lfp G (Runs F G) k ih34 (.ptr D.pb 0) a5 a6 a8 a9 (.ptr D.sb 0) a13 (.ptr xb 0) (Cj D) (.ptr r 0) (.sl lid 0 N N 2) H n:=by
 delta Fb
 have bx:=h.w.box
 have hkn:∃x,Ci M.fs own=some x:=by
  obtain⟨u,hu,-⟩:=hm
  exact Jw hu
 rw[AU (off:=0) (id:=D.pb) h.nS (v:=.ptr M.kb 0) rfl,AB,Dq,AB,Ae,AB,AU (off:=0+5) bx (v:=.bool false) rfl,AB,BA,Ae,AB,AU (off:=0+5) gr (v:=own.v) rfl,AB,Ae,AB,AU (off:=0+0) gx (v:=.int .i64 (.ofNat c) 0) rfl,AB,DR,AB]
 rcases hc with rfl|rfl
 ·rw[decide_eq_true rfl,BD]
  have hty:TM M.fs s.hs args (⟨own,false⟩::m.ps):=hty
  obtain⟨v,args',rfl,hv,hr'⟩:=hty.inv
  have hmst:m.st=false:=hmst
  subst hN
  obtain⟨p,hp1,hp2⟩:=gl.get (G:=G) (q:=.i64) (i:=0) rfl (v:=v) rfl
  obtain⟨tt,t1,t2⟩:=gl.is
  have hia:=ABP (id:=lid) (o:=0) (m:=(v::args').length) (c:=(v::args').length) (z:=2) (i:=0) (q:=.i64) (by rw[List.length_cons];omega)
  have hldp:jA (.ptr lid ((0+0)*2)) G H 2=some v.cells:=by
   show Z4 H lid _ 2=_
   rw[Nat.zero_add,V5 t1 (by omega) (by rw[List.length_cons];omega)];exact t2 0 v rfl
  obtain⟨p1,e1,e2⟩:=WI E.g hldp (o:=1) (x:=.int .i64 (.ofNat v.o) 0) rfl rfl
  have hcl:=AIe E.t hkn.choose_spec
  rw[hia,AB,e1,AB,e2,AB,DR,AB]
  by_cases h0:v.o=0
  ·rw[decide_eq_true h0,BD,AB]
   refine(h.weak hp).die (by omega) λH3 n3 t h3 ht gY=>d _ _ _ _ _ h3 gY (.refl _) (Int.le_refl _) rfl λe=>absurd e ht
  ·obtain⟨j,th,e,hj,ha,hmem⟩:=vK hcl hv h0
   obtain⟨q1,q2,q3,q4,q5⟩:=h.w.cls (q:=.i64) E.g hj
   have hjl:=(List.getElem?_eq_some_iff.1 hj).1
   have hsz:=h.w.sz
   rw[decide_eq_false h0,BA,AB,Dq,AB,Ae,AB,AU (off:=0+7) bx (v:=W.hv) rfl,AB,AB,e1,AB,e2,AB,e,uP (by omega),AB,q3,AB,q4,AB,q5,AB]
   have hup:=E.t.u
   refine AL0 E ih h hp hpa hr hlid hF hs1 hs2 hs3 hs4 gr gl rfl hw (Jw hmem) (hm.below E.t.w hmem) (λf m' hfa h1 h2=>?_) hlen hst hpush d
   rw[h2,show dX f.face.nm m'=[⟨f.face.nm,false⟩]by unfold dX;rw[h1,hmst];rfl]
   refine .cons (λ_=>.inr ⟨th,by omega,by rw[e];exact hj,?_⟩) hr'
   unfold TT
   rw[if_neg (show ¬(⟨f.face.nm,false⟩:Ty).arr=true from Bool.false_ne_true)]
   obtain⟨c1,hc1⟩:=Jw hfa
   obtain⟨c2,hc2⟩:=(ET (E.t.w _ c1 hc1)).known hfa
   refine⟨E.t.u _ _ hc2,ha,?_⟩
   unfold Gq
   rw[Nv];exact hfa
 ·rw[decide_eq_false (by decide),BA]
  have hmst:m.st=true:=hmst
  refine AL0 E ih h hp hpa hr hlid hF hs1 hs2 hs3 hs4 gr gl hN hw hkn hm (λf m' hfa h1 h2=>?_) hlen hst hpush d
  rw[h2,show dX f.face.nm m'=[]by unfold dX;rw[h1,hmst];rfl]
  exact hty
theorem ATs(E:Env M G){b:Int}(ih:zf M G b){ih34:(V×V×V×V×V×V×V×Heap×Nat)->Prop}{p:Pool}{L:LV}{C:Cx}{xb c i fb nl:Nat}{a8 a9 a13:V}{loc ts0:List Ty}{st:Ce}(h:Gm M W D G H n s stk)(hpl:Plm M G H p L)(hC:Cxm M D p C)
 (hF:L8 G H M.kb M.vf M.Bg) (hs1:s.steps<b) (hs2:s.trap=0) (hs3:0<=s.steps) (hs4:s.calls+1+s.steps<=9000) (hc:c=25∨c=26) (hin:ny p nl c i) (hxb:xb<n/\D.N<=xb/\W.own xb=0) (gx:T.get H xb=some (one (Ins.cells ⟨.ofNat c,.ofNat i⟩)))
 (hfb:D.Pr fb/\fb≠D.sb) (gf:T.get H fb=some (one L)) (hlen:stk.length<=10000) (hst:TM M.fs s.hs stk ts0) (hs:stepT C ⟨loc,ts0⟩ ⟨.ofNat c,.ofNat i⟩=some st)
 (d:Mc M W D G H n s st.stk λH n=>ih34 (.ptr D.pb 0,.ptr fb 0,.ptr D.bb 0,a8,a9,.ptr D.sb 0,a13,H,n)) (hxp:D.Pr xb/\xb≠D.sb):
 CS lfp G (Runs F G) k ih34 (.ptr D.pb 0) (.ptr fb 0) (.ptr D.bb 0) a8 a9 (.ptr D.sb 0) a13 (.ptr xb 0) (Ez D) (Cj D) (.bool true) H n:=by
 delta CS
 have hp:D.Pr D.pb/\D.Pr D.sb/\D.Pr D.bb:=⟨h.pp.1,h.pp.2.1,h.pp.2.2.1⟩
 have hsb:=(h.pr _ hp.2.1).2.1
 have kn:=h.w.kn
 have bk:=h.bk
 obtain⟨v0,v1,v2,v3,v4,ws,po,-,-,-,e4⟩:=hpl.at'
 have hi:=hin.me (by omega)
 obtain⟨q,w,hq,hld,hw1,hw2⟩:=ARc po hi
 have AUJ:(iC M.fs (p.DN.getD i mZ)).isSome=true:=by
  have:=hpl.ok
  unfold Yq at this
  simp only[Bool.and_eq_true,List.all_eq_true]at this
  exact this.2.2.2 _ (List.mem_of_getElem? hw2)
 have htys:=po.at4 i _ _ hw2 hw1
 have hpool:=hC.pool
 obtain⟨ws',rw',r,t2,h1,h2,h3,rfl⟩:=Le (c:=C) (ts:=ts0) (l:=loc) (o:=dn C ⟨.ofNat c,.ofNat i⟩) (by rcases hc with rfl|rfl<;>exact hs)
 have hme:C.me (.ofNat i)=p.DN.getD i mZ:=by rw[<-hpool];rfl
 have hmt:=AI3 AUJ
 generalize p.DN.getD i mZ=pm at*
 have key:pm.m.st=decide (c=26)/\ws'=pm.m.ps.reverse++(bif decide (c=25)then[⟨pm.own,false⟩]else[])/\rw'=some pm.m.ret:=by
  rcases hc with rfl|rfl
  ·have h1:(bif (C.me (.ofNat i)).m.st then none else some ((C.me (.ofNat i)).m.ps.reverse++[⟨(C.me (.ofNat i)).own,false⟩],some (C.me (.ofNat i)).m.ret))=some (ws',rw'):=h1
   rw[hme]at h1
   cases hst:pm.m.st with
   |true=>rw[hst]at h1;cases h1
   |false=>rw[hst]at h1;cases h1;exact⟨rfl,rfl,rfl⟩
  ·have h1:(bif (C.me (.ofNat i)).m.st then some ((C.me (.ofNat i)).m.ps.reverse,some (C.me (.ofNat i)).m.ret)else none)=some (ws',rw'):=h1
   rw[hme]at h1
   cases hst:pm.m.st with
   |false=>rw[hst]at h1;cases h1
   |true=>rw[hst]at h1;cases h1;exact⟨rfl,by simp,rfl⟩
 obtain⟨hmst,rfl,rfl⟩:=key
 rw[hC.fs]at h2
 obtain⟨vs,rest,rfl,hvs,hrest⟩:=hst.split E.t.w E.t.u h2
 have hargs:=hvs.rev
 rw[List.reverse_append,List.reverse_reverse]at hargs
 have AS2:(bif decide (c=25)then[(⟨pm.own,false⟩:Ty)]else[]).reverse=bif decide (c=25)then[⟨pm.own,false⟩]else[]:=by cases decide (c=25)<;>rfl
 rw[AS2]at hargs
 rw[hC.max]at h3
 have h3:CW D.mx pm.m.ret r=some t2:=h3
 obtain⟨N,hN⟩:∃N,vs.length=N:=⟨_,rfl⟩
 have hNN:N=pm.m.ps.length+(bif decide (c=25)then 1 else 0):=by
  have:=hvs.1
  rw[hN,List.length_append,List.length_reverse]at this
  rw[this]
  cases decide (c=25)<;>rfl
 have hNl:N<=10000:=by rw[List.length_append,hN]at hlen;omega
 rw[BD,Ae,AB,Ae,AB,AU (off:=0+4+4) gf (v:=v4) e4,AB,Ae,AB,AU (off:=0+1) gx (v:=.int .i64 (.ofNat i) 0) rfl,AB,hq,AB,hld,AB]
 refine BZ rfl λH1 f1 g1=>?_
 refine IU g1 rfl rfl (by omega) λH2 g2 s2=>?_
 have f2:Kp H n H2 (n+1):=⟨by omega,λid hid=>by rw[s2 _ (by omega),f1.same _ hid]⟩
 have hl2:lenV w=some (.int .i64 (.ofNat pm.m.ps.length) 0):=by rw[htys.el.len,GN]
 rw[Ae,AB,Ae,AB,AU (off:=0+0+2) g2 (v:=w) rfl,AB,hl2,AB,Ae,AB,AU (off:=0+0) ((f2.same xb hxb.1).trans gx) (v:=.int .i64 (.ofNat c) 0) rfl,AB,DR,AB]
 have ANv:EH lfp G (Runs F G) k ih34 (.ptr D.pb 0) (.ptr fb 0) (.ptr D.bb 0) a8 a9 (.ptr D.sb 0) a13 (.ptr xb 0) (Ez D) (Cj D) (.ptr n 0) (.int .i64 (.ofNat N) 0) H2 (n+1):=by
  delta EH
  refine ALN (by omega) λH3 f3 ⟨tt,gt,ht⟩=>?_
  have l3:Um H3 (n+1) (List.replicate N iO):=⟨tt,by rw[List.length_replicate];exact gt,λi v hv=>by
   obtain⟨hi,e⟩:=List.getElem?_eq_some_iff.1 hv
   rw[List.getElem_replicate]at e
   rw[List.length_replicate]at hi
   rw[ht i hi,<-e];rfl⟩
  have f03:=f2.trans f3
  have h3':=h.add f03
  obtain⟨-,gY⟩:=h.kp f03
  have d3:=d.kq gY
  have g2:=(f3.same n (by omega)).trans g2
  have gx3:=(f03.same xb hxb.1).trans gx
  rw[vW (x:=.ofNat N) (by show(-4611686018427387904:Int)<=(N:Int);omega) (by show(N:Int)<4611686018427387904;omega) (by omega),AB]
  refine CJ (N:=N) (J:=λi st=>∃H' n',st=(V.ptr D.pb 0,V.ptr fb 0,V.ptr D.bb 0,a8,a9,V.ptr D.sb 0,a13,V.ptr xb 0,Ez D,Cj D,V.ptr n 0,V.sl (n+1) 0 N N 2,V.int .i64 ((N:Int)-1-i) 0,H',n')/\Gm M W (D.add n (n+1+1)) G H' n' s (vs.drop i++rest)/\Wn M W D H n W H' n'/\
   Um H' (n+1) (List.replicate (N-i) iO++(vs.take i).reverse)/\T.get H' n=T.get H3 n/\T.get H' xb=T.get H3 xb) ?_ ?_ ⟨H3,n+1+1,by simp,by simpa using h3',gY,by simpa using l3,rfl,rfl⟩
  ·rintro I i st hi ⟨H4,n4,rfl,h4,kq4,l4,e4n,e4x⟩ ih2
   show EG lfp G (Runs F G) k ih34 I (.ptr D.pb 0) (.ptr fb 0) (.ptr D.bb 0) a8 a9 (.ptr D.sb 0) a13 (.ptr xb 0) (Ez D) (Cj D) (.ptr n 0) (.sl (n+1) 0 N N 2) (.int .i64 ((N:Int)-1-i) 0) H4 n4
   delta EG
   have hiv:i<vs.length:=by omega
   rw[List.drop_eq_getElem_cons hiv]at h4
   rw[zV,decide_eq_true (by show(0:Int)<=(N:Int)-1-i;omega),AB,BD]
   show BX (Ez (D.add n (n+1+1))) [] (Runs F G) H4 n4 _
   have h4:Gm M W (D.add n (n+1+1)) G H4 n4 s (vs[i]::(vs.drop (i+1)++rest)):=h4
   refine h4.pop (by rw[List.length_append]at hlen⊢;rw[List.length_drop];omega) λH5 n5 h5 kq5=>?_
   have l5:=l4.same (kq5.pr (n+1) (.inr ⟨by omega,by omega⟩) (by show n+1≠D.sb;omega))
   have e5n:=kq5.pr n (.inr ⟨by omega,by omega⟩) (by show n≠D.sb;omega)
   have e5x:=kq5.pr xb (.inl hxp.1) hxp.2
   have hlen2:(List.replicate (N-i) iO++(vs.take i).reverse).length=N:=by rw[List.length_append,List.length_replicate,List.length_reverse,List.length_take];omega
   rw[show(N:Int)-1-i=Int.ofNat (N-1-i)by show(N:Int)-1-i=((N-1-i:Nat):Int);omega]
   refine l5.set hlen2 (by omega) λH6 l6 s6=>?_
   obtain⟨h6,kq6⟩:=h5.stp (i:=n+1) ⟨by omega,by omega⟩ hp (λe=>by have:=(h.pr _ e).2.1;omega) s6
   rw[vW (x:=.ofNat (N-1-i)) (by show(-4611686018427387904:Int)<=((N-1-i:Nat):Int);omega) (by show((N-1-i:Nat):Int)<4611686018427387904;omega) (by omega),AB]
   refine ih2 _ ⟨H6,n5,?_,h6,kq4.trans (kq5.weak.trans kq6),?_,by rw[s6 n (by omega),e5n,e4n],by rw[s6 xb (by omega),e5x,e4x]⟩
   ·rw[show Int.ofNat (N-1-i)-((1:Nat):Int)=(N:Int)-1-((i+1:Nat):Int)by show((N-1-i:Nat):Int)-((1:Nat):Int)=_;omega]
   ·have e:(List.replicate (N-i) iO++(vs.take i).reverse).set (N-1-i) vs[i]=List.replicate (N-(i+1)) iO++(vs.take (i+1)).reverse:=by
     rw[List.set_append_left _ _ (by rw[List.length_replicate];omega),List.take_succ_eq_append_getElem hiv,List.reverse_append,show N-i=(N-(i+1))+1 by omega,List.replicate_succ',List.set_append_right _ _ (by rw[List.length_replicate];omega),List.length_replicate,show N-1-i-(N-(i+1))=0 by omega]
     simp
    rw[<-e];exact l6
  ·rintro I st ⟨H4,n4,rfl,h4,kq4,l4,e4n,e4x⟩
   show EG lfp G (Runs F G) k ih34 I (.ptr D.pb 0) (.ptr fb 0) (.ptr D.bb 0) a8 a9 (.ptr D.sb 0) a13 (.ptr xb 0) (Ez D) (Cj D) (.ptr n 0) (.sl (n+1) 0 N N 2) (.int .i64 ((N:Int)-1-(N:Nat)) 0) H4 n4
   delta EG
   rw[zV,decide_eq_false (by show ¬(0:Int)<=(N:Int)-1-(N:Nat);omega),AB,BA]
   subst hN
   rw[List.drop_length,List.nil_append]at h4
   rw[List.take_length,Nat.sub_self,List.replicate_zero,List.nil_append]at l4
   exact AQu E ih h4 hp hsb ⟨Nat.le_refl _,by omega⟩ ⟨by omega,by omega⟩ (hF.ke ((kq4.kb h).ke h.tab.seen)) hs1 hs2 hs3 hs4 hc (e4x.trans gx3) (e4n.trans g2) l4 (by rw[List.length_reverse]) (htys.ke ((kq4.kb h).ke h.tab.seen)) hmt hmst hargs (by rw[List.length_append]at hlen;omega) hrest h3 (d.kq kq4)
 rcases hc with rfl|rfl
 ·rw[decide_eq_true rfl,BD,D7 (by have:N=pm.m.ps.length+1:=hNN;omega),AB]
  have:N=pm.m.ps.length+1:=hNN
  rw[this]at ANv
  exact ANv
 ·rw[decide_eq_false (by decide),BA]
  have:N=pm.m.ps.length:=hNN
  rw[this]at ANv
  exact ANv
end
theorem ANH{p:Pool}{b:Bd}{i:Nat}(h:bG (mny p b) ⟨.ofNat 1,.ofNat i⟩=true):i<p.nums.length:=by
 unfold bG at h
 rw[Bool.and_eq_true]at h
 obtain⟨-,h2⟩:=h
 have h3:=(Bool.and_eq_true ..▸(show(decide (0<=Int.ofNat i)&&decide (Int.ofNat i<(p.nums.length:Int)))=true from h2)).2
 have:(i:Int)<p.nums.length:=of_decide_eq_true h3
 omega
theorem AKk{c:Cx}{s t:Ce}{x:Ins}(h:stepT c s x=some t)(hne:x.code≠4):t.loc=s.loc:=by
 have key:∀{o:Option (List Ty)} {r:Ce},o.map (λk=>(⟨s.loc,k⟩:Ce))=some r->r.loc=s.loc:=λh=>by
  obtain⟨k,_,rfl⟩:=Option.map_eq_some_iff.1 h;rfl
 unfold stepT at h
 split at h
 ·cases hb:(s.loc.getD x.arg.toNat Bq).is Bq with
  |true=>rw[hb]at h;cases h
  |false=>rw[hb]at h;exact key h
 ·rename_i e
  exact absurd e hne
 ·split at h
  ·rename_i a b k _
   cases hb:a.is b&& !a.obj with
   |true=>rw[hb]at h;exact key h
   |false=>rw[hb]at h;cases h
  ·cases h
 ·split at h
  ·rename_i a b k _
   cases hb:a.obj&&b.obj with
   |true=>rw[hb]at h;exact key h
   |false=>rw[hb]at h;cases h
  ·cases h
 ·split at h
  ·cases h
  ·cases h;rfl
 ·split at h
  ·cases h
  ·rename_i a k _
   cases hb:a.cls||a.is CO with
   |true=>rw[hb]at h;exact key h
   |false=>rw[hb]at h;cases h
 ·split at h
  ·cases h
  ·rename_i a k _
   cases hb:a.cls||a.is CO with
   |true=>rw[hb]at h;exact key h
   |false=>rw[hb]at h;cases h
 ·split at h
  ·cases h
  ·rename_i a k _
   cases hb:a.arr||a.is CO with
   |true=>rw[hb]at h;exact key h
   |false=>rw[hb]at h;cases h
 ·obtain⟨e,_,h⟩:=Option.bind_eq_some_iff.1 h
  obtain⟨k,_,h⟩:=Option.bind_eq_some_iff.1 h
  exact key h
section
variable{M:Mn}{W W' W'':Mw}{D:qy}{G:AX}{H H' H'':Heap}{n n' n'':Nat}{s s':Mst}{k:KV}{stk:List Cv}
theorem Gm.wU{P:KV}{x:Int}{o:Nat}(h:Gm M W D G H n s stk)(hs:s'.hs=s.hs)(ho:o<10)(hc:(M.cells W s).take o++([.int .i64 x 0]++(M.cells W s).drop (o+1))=M.cells W s')
 (sz:0<=s'.parts/\(s'.hs.length:Int)+s'.parts<=1100/\ -1<=s'.steps/\s'.steps<=4100/\0<=s'.calls/\s'.calls+s'.steps<=9000) (hst:s'.steps<=s.steps) (hou:s'.outs=s.outs)
 (hk:∀H',Gm M W D G H' n s' stk->Wn M W D H n W H' n->P .undef H' n):Ba 1 (.ptr M.kb o) (.int .i64 x 0) H n P:=by
 refine h.w.wU hs ho hc sz hst hou λH' h' s1=>?_
 obtain⟨q1,q2⟩:=h.world h' (Nat.le_refl _) (λ_ _ h=>h) (λ_ _=>rfl) λid q1 q2=>s1 id λe=>by rw[e,h.w.ko]at q2;omega
 exact hk H' q1 q2
structure Kl(M:Mn)(W:Mw)(N:Nat)(H:Heap)(n:Nat)(W':Mw)(H':Heap)(n':Nat):Prop where
 le:n<=n'
 own:∀id,id<N->W'.own id=W.own id
 low:∀id,id<N->id≠M.b->W.own id=0->T.get H' id=T.get H id
 seen:Gv H M.b->Gv H' M.b
theorem Wn.kl(x:Wn M W D H n W' H' n'):Kl M W D.N H n W' H' n':=⟨x.le,x.own,x.low,x.seen⟩
theorem Kl.trans{N:Nat}(x:Kl M W N H n W' H' n')(y:Kl M W' N H' n' W'' H'' n''):Kl M W N H n W'' H'' n'':=
 ⟨Nat.le_trans x.le y.le,λid h=>(y.own id h).trans (x.own id h),λid h1 h2 h3=>(y.low id h1 h2 ((x.own id h1).trans h3)).trans (x.low id h1 h2 h3),λh=>y.seen (x.seen h)⟩
theorem ARh{r:Nat}(h:Gm M W D G H n s stk)(gr:T.get H r=some (one [.int .i64 (.ofNat 0) 0,.int .i64 (.ofNat 0) 0]))(hr:D.Pr r/\r≠D.sb)(hca:1<=s.calls)
 (hk:∀H',Mm M W G H' n {s with calls:=s.calls-1}->Kl M W D.N H n W H' n->k iO.v H' n):CZ lfp G (Runs F G) k (.ptr D.pb 0) (.ptr r 0) H n:=by
 delta CZ
 have hsz:=h.w.sz
 have hrn:=h.pr r hr.1
 rw[AU (off:=0) (id:=D.pb) h.nS (v:=.ptr M.kb 0) rfl,AB,Dq,AB,Ae,AB,AU (off:=0+9) h.w.box (v:=.int .i64 s.calls 0) rfl,AB,vW (by omega) (by omega) (by omega),AB,AB,Ae,AB]
 have kN:=h.kN
 have bk:=h.bk
 refine h.wU (o:=0+9) (s':={s with calls:=s.calls-1}) rfl (by omega) rfl ⟨hsz.1,hsz.2.1,hsz.2.2.1,hsz.2.2.2.1,by show 0<=s.calls-1;omega,by show s.calls-1+s.steps<=9000;omega⟩ (Int.le_refl _) rfl λH1 h1 kq1=>?_
 rw[dK,AB]
 refine yE ((kq1.pr r hr.1 hr.2).trans gr) rfl hrn.2.1 λH2 s2=>?_
 refine hk H2 (h1.w.mono (Nat.le_refl _) λid _ ho=>s2 id λe=>ho (by rw[e];exact hrn.2.2)) ⟨Nat.le_refl _,λ_ _=>rfl,λid q1 q2 q3=>by rw[s2 id (by have:id<D.N:=q1;omega)];exact kq1.low id q1 q2 q3,λq=>(kq1.seen q).same (s2 _ (by omega))⟩
end
section
variable{M:Mn}{W W' W'':Mw}{D:qy}{G:AX}{H H' H'':Heap}{n n' n'':Nat}{s s':Mst}{k:KV}{stk:List Cv}
structure Rn(M:Mn)(G:AX)(n0 sb lb N:Nat)(f:Fl)(L:LV)(m:DW)(bd:Bd)(wc:V)(A:Nat->Option Ce)(W0:Mw)(H0:Heap)(n1:Nat)(s0:Mst):Prop where
 bf:Qs f.pool m bd
 post:Post (cxF M.fs f m bd) (WU f.face.nm m bd) A
 hlb:n0+4<=lb
 hsb:n0+4<=sb
 hne:lb≠sb
 nN:N=bd.locals.toNat
 gf:T.get H0 (n0+1)=some (one L)
 gr:T.get H0 (n0+3)=some (one [.int .i64 (.ofNat 0) 0,.int .i64 (.ofNat 0) 0])
 pl:Plm M G H0 f.pool L
 fl:L8 G H0 M.kb M.vf M.Bg
 code:NI G H0 M.kb wc bd.code
structure St1(M:Mn)(G:AX)(n0 sb lb N:Nat)(bd:Bd)(wc:V)(W0:Mw)(H0:Heap)(n1:Nat)(s0:Mst)(W1:Mw)(H1:Heap)(n:Nat)(s:Mst)(stk lv:List Cv):Prop where
 gm:Gm M W1 ((oC n0 sb bd wc).add lb (lb+1)) G H1 n s stk
 kq:Wn M W0 (oC n0 sb bd wc) H0 n1 W1 H1 n
 loc:Um H1 lb lv
 len:lv.length=N
 ext:Ext s0.hs s.hs
 ste:s.steps<=s0.steps
 cal:s.calls=s0.calls
def Ty1(M:Mn)(bd:Bd)(A:Nat->Option Ce)(s:Mst)(stk lv:List Cv)(pc:Nat):Prop:=
 s.trap=0->0<=s.steps/\pc<bd.code.length/\∃a,A pc=some a/\TM M.fs s.hs lv a.loc/\TM M.fs s.hs stk a.stk/\a.stk.length<=bd.stack.toNat
theorem APH(n0 sb:Nat)(bd:Bd)(wc:V):(oC n0 sb bd wc).Pr (oC n0 sb bd wc).pb/\(oC n0 sb bd wc).Pr (oC n0 sb bd wc).sb/\(oC n0 sb bd wc).Pr (oC n0 sb bd wc).bb:=
 ⟨.inl ⟨Nat.le_refl _,by show n0<n0+4;omega⟩,.inr rfl,.inl ⟨by show n0<=n0+2;omega,by show n0+2<n0+4;omega⟩⟩
theorem AQa(E:Env M G){b:Int}(ih:zf M G b){n0 sb lb N n1:Nat}{f:Fl}{L:LV}{m:DW}{bd:Bd}{wc:V}{A:Nat->Option Ce}{W0:Mw}{H0:Heap}{s0:Mst}{lv0:List Cv}(R:Rn M G n0 sb lb N f L m bd wc A W0 H0 n1 s0)
 (h0:Gm M W0 ((oC n0 sb bd wc).add lb (lb+1)) G H0 n1 s0 []) (l0:Um H0 lb lv0) (hlN:lv0.length=N) (hs0:s0.steps<=b) (hs1:1<=s0.calls) (hst:s0.trap=0->0<=s0.steps) (hty:TM M.fs s0.hs lv0 (WU f.face.nm m bd).loc)
 (hk:∀W' H' n' s' v,Mm M W' G H' n' s'->Kl M W0 n0 H0 n1 W' H' n'->Ext s0.hs s'.hs->s'.calls=s0.calls-1->s'.steps<=s0.steps->(s'.trap=0->0<=s'.steps/\VT M.fs s'.hs v m.ret)->k (Cv.v v) H' n'):
 lfp (V×V×V×V×V×V×V×Heap×Nat) (Fp lfp G (Runs F G) k) (.ptr n0 0,.ptr (n0+1) 0,.ptr (n0+2) 0,.ptr (n0+3) 0,.sl lb 0 N N 2,.ptr sb 0,.int .i64 (.ofNat 0) 0,H0,n1):=by
 have hb:=R.bf
 have hsmx:=hb.s1
 have hs00:=hb.s0
 have hc0:=hb.c0
 have hc1:=hb.c1
 have hlb:=R.hlb
 have hsb:=R.hsb
 have hne:=R.hne
 have hp:=APH n0 sb bd wc
 obtain⟨⟨a0,hA0,hle0⟩,hstep⟩:=R.post
 have ATq:Ty1 M bd A s0 [] lv0 0:=λe=>⟨hst e,by omega,a0,hA0,hty.leL E.t.w E.t.u hle0.1,(TM.nil (fs:=M.fs) (hs:=s0.hs)).le E.t.w E.t.u hle0.2,by rw[<-hle0.2.len];exact Nat.zero_le _⟩
 refine JD (J:=λm' st=>∃W1 H1 n s stk lv pc,m'=(s.steps+1).toNat/\st=(V.ptr n0 0,V.ptr (n0+1) 0,V.ptr (n0+2) 0,V.ptr (n0+3) 0,V.sl lb 0 N N 2,V.ptr sb 0,V.int .i64 (.ofNat pc) 0,H1,n)/\St1 M G n0 sb lb N bd wc W0 H0 n1 s0 W1 H1 n s stk lv/\Ty1 M bd A s stk lv pc) ?_
  ⟨W0,H0,n1,s0,[],lv0,0,rfl,rfl,⟨h0,.refl,l0,hlN,.refl _,Int.le_refl _,rfl⟩,ATq⟩
 rintro I m' st ⟨W1,H1,n,s,stk,lv,pc,rfl,rfl,S,ty⟩ ih2
 show JW lfp G (Runs F G) k I (.ptr n0 0) (.ptr (n0+1) 0) (.ptr (n0+2) 0) (.ptr (n0+3) 0) (.sl lb 0 N N 2) (.ptr sb 0) (.int .i64 (.ofNat pc) 0) H1 n
 delta JW
 have fin:∀{W2 H2 n2 s2 stk2},Gm M W2 (oC n0 sb bd wc) G H2 n2 s2 stk2->Wn M W0 (oC n0 sb bd wc) H0 n1 W2 H2 n2->Ext s0.hs s2.hs->s2.calls=s0.calls->s2.steps<=s0.steps->s2.trap≠0->CZ lfp G (Runs F G) k (.ptr n0 0) (.ptr (n0+3) 0) H2 n2:=λ{W2 H2 n2 s2 stk2} h2 kq2 he hca hss htr=>
  ARh (r:=n0+3) h2 ((kq2.pr (n0+3) (.inl ⟨by omega,by omega⟩) (by show n0+3≠sb;omega)).trans R.gr) ⟨.inl ⟨by omega,by omega⟩,by show n0+3≠sb;omega⟩ (by omega) λH3 h3 kl3=>
   hk _ _ _ _ iO h3 (kq2.kl.trans kl3) he (by show s2.calls-1=_;rw[hca]) hss λe=>absurd e htr
 have gp:∀{W2 H2 n2 s2 stk2},Gm M W2 ((oC n0 sb bd wc).add lb (lb+1)) G H2 n2 s2 stk2->AV (.ptr n0 0) G H2=some (.ptr M.kb 0):=λh2=>AU (off:=0) (id:=n0) h2.nS rfl
 rw[gp S.gm,AB,Dq,AB,Ae,AB,mD S.gm.w,AB,ah,AB]
 cases htr:decide (s.trap=Int.ofNat 0)with
 |false=>
  repeat (first|with_reducible refine AMF ?_|with_reducible refine AIt ?_)
  rw[BA]
  exact fin (S.gm.weak hp) S.kq S.ext S.cal S.ste λe=>by rw[e]at htr;exact absurd htr (by decide)
 |true=>
  have htr0:s.trap=0:=of_decide_eq_true htr
  obtain⟨hs2,hpc,a,hA,tl,tk,hal⟩:=ty htr0
  have hsz:=S.gm.w.sz
  have hosz:=S.gm.w.osz
  have hca:=S.cal
  refine iH rfl (iH rfl (iH rfl (iH (AU (off:=0+5) S.gm.w.box (v:=.bool false) rfl) (iH (jW _) (ABy ?_)))))
  show AZ (.bool true) true _ _
  rw[BD,AB,Dq,AB,Ae,AB,Ae,AB,AU (off:=0+2+0) S.gm.w.box (v:=.int .i64 s.steps 0) rfl,AB,vW (by omega) (by omega) (by omega),AB,AB,Ae,AB,Ae,AB]
  refine S.gm.wU (o:=0+2+0) (s':={s with steps:=s.steps-1}) rfl (by omega) rfl ⟨hsz.1,hsz.2.1,by show-1<=s.steps-1;omega,by show s.steps-1<=4100;omega,hsz.2.2.2.2.1,by show s.calls+(s.steps-1)<=9000;omega⟩ (by show s.steps-1<=s.steps;omega) rfl λH2 h2 kq2=>?_
  obtain⟨s2,es2⟩:∃s2:Mst,s2={s with steps:=s.steps-1}:=⟨_,rfl⟩
  have e1:s2.hs=s.hs:=by rw[es2]
  have e2:s2.steps=s.steps-1:=by rw[es2]
  have e3:s2.calls=s.calls:=by rw[es2]
  have e4:s2.trap=s.trap:=by rw[es2]
  have e5:s2.outs=s.outs:=by rw[es2]
  rw[<-es2]at h2
  clear es2
  have l2:=S.loc.same (kq2.pr lb (.inr ⟨Nat.le_refl _,Nat.lt_succ_self _⟩) hne)
  have kq02:=S.kq.trans kq2.weak
  rw[gp h2,AB,Dq,AB,Ae,AB,Ae,AB,AU (off:=0+2+0) h2.w.box (v:=.int .i64 s2.steps 0) rfl,AB,AAr,AB]
  cases hlt:decide (s2.steps<0)with
  |true=>
   rw[BD,AB]
   exact(h2.weak hp).die (by omega) λH3 n3 t h3 ht gY=>fin h3 (kq02.trans gY) (by show Ext s0.hs s2.hs;rw[e1];exact S.ext) (by show s2.calls=_;omega) (by show s2.steps<=_;have:=S.ste;omega) ht
  |false=>
   have hs20:0<=s2.steps:=by have:=of_decide_eq_false hlt;omega
   have seen2:=h0.tab.seen
   have hcd:=R.code.ke ((kq02.kb (h0.weak hp)).ke seen2)
   have hpl:=R.pl.kq (h0.weak hp) kq02
   have hfl:=R.fl.ke ((kq02.kb (h0.weak hp)).ke seen2)
   obtain⟨p,hp1,hld⟩:=hcd.el.at (i:=pc) (c:=bd.code[pc].cells) (by simp[hpc])
   have hat:(cxF M.fs f m bd).at pc=bd.code[pc]:=by show(bd.code[pc]?).getD xZ=_;rw[List.getElem?_eq_getElem hpc];rfl
   obtain⟨t,ht,hsucc⟩:=hstep pc a hpc hA
   rw[hat]at ht hsucc
   have hins:=hb.ins _ (List.getElem_mem hpc)
   obtain⟨c,i,hx,hin⟩:=AGE hins
   rw[hx]at hld ht hsucc hins
   rw[BA,Ae,AB,AU (off:=0+2) (id:=n0+2) h2.yR (v:=wc) rfl,AB,hcd.el.len,List.length_map,AB,zV,decide_eq_false (by show ¬(bd.code.length:Int)<=(pc:Int);omega),AB,BA,AB,AU (off:=0+2) (id:=n0+2) h2.yR (v:=wc) rfl,AB,hp1,AB,DI hld,AB]
   refine BZ rfl λH3 f3 g3=>?_
   refine IU g3 rfl rfl (by omega) λH4 g4 s4=>?_
   have f4:Kp H2 n H4 (n+1):=⟨by omega,λid hid=>by rw[s4 _ (by omega),f3.same _ hid]⟩
   have h4:=h2.add f4
   obtain⟨-,kq4⟩:=h2.kp f4
   have hlbn:=h2.pr lb (.inr ⟨Nat.le_refl _,Nat.lt_succ_self _⟩)
   have hsbn:=h2.pr sb (.inl hp.2.1)
   have l4:=l2.same (f4.same lb hlbn.2.1)
   have kq04:=kq02.trans kq4.weak
   clear f3 g3 s4 kq4
   have hcd:=hcd.ke ((f4.ke (G:=G)).low (by have:=h2.w.kn;omega))
   have lc:AV (.ptr n (0+0)) G H4=some (.int .i64 (.ofNat c) 0):=AU g4 rfl
   have li:AV (.ptr n (0+1)) G H4=some (.int .i64 (.ofNat i) 0):=AU g4 rfl
   have hp2:((oC n0 sb bd wc).add lb (lb+1)).Pr (oC n0 sb bd wc).pb/\((oC n0 sb bd wc).add lb (lb+1)).Pr (oC n0 sb bd wc).sb/\((oC n0 sb bd wc).add lb (lb+1)).Pr (oC n0 sb bd wc).bb:=⟨.inl hp.1,.inl hp.2.1,.inl hp.2.2⟩
   have tl:TM M.fs s2.hs lv a.loc:=by rw[e1];exact tl
   have tk:TM M.fs s2.hs stk a.stk:=by rw[e1];exact tk
   have hstk:stk.length<=1000:=by have:=tk.1;omega
   have hext:Ext s0.hs s2.hs:=by rw[e1];exact S.ext
   have hste:=S.ste
   have hle2:=hsucc
   have go:∀{W5:Mw} {H5:Heap} {n5:Nat} {s5:Mst} {stk5 lv5:List Cv} {j:Nat},St1 M G n0 sb lb N bd wc W0 H0 n1 s0 W5 H5 n5 s5 stk5 lv5->s5.steps<=s2.steps->(s5.trap=0->0<=s5.steps/\TM M.fs s5.hs lv5 t.loc/\TM M.fs s5.hs stk5 t.stk)->j∈kZ ⟨.ofNat c,.ofNat i⟩ pc->
    I (.ptr n0 0,.ptr (n0+1) 0,.ptr (n0+2) 0,.ptr (n0+3) 0,.sl lb 0 N N 2,.ptr sb 0,.int .i64 (.ofNat j) 0,H5,n5):=λ{W5 H5 n5 s5 stk5 lv5 j} S5 hs5 hty5 hj=>by
    refine ih2 (s5.steps+1).toNat _ (by omega) ⟨W5,H5,n5,s5,stk5,lv5,j,rfl,rfl,S5,λe=>?_⟩
    obtain⟨q1,q2,q3⟩:=hty5 e
    obtain⟨hjl,u,hu,hle⟩:=hsucc j hj
    exact⟨q1,hjl,u,hu,q2.leL E.t.w E.t.u hle.1,q3.le E.t.w E.t.u hle.2,by rw[<-hle.2.len];exact AFf ht hal⟩
   have back:∀{W5:Mw} {H5:Heap} {n5:Nat} {s5:Mst} {stk5:List Cv},Gm M W5 (((oC n0 sb bd wc).add lb (lb+1)).add n (n+1)) G H5 n5 s5 stk5->Wn M W1 (((oC n0 sb bd wc).add lb (lb+1)).add n (n+1)) H4 (n+1) W5 H5 n5->Ext s2.hs s5.hs->s5.steps<=s2.steps->s5.calls=s2.calls->
    St1 M G n0 sb lb N bd wc W0 H0 n1 s0 W5 H5 n5 s5 stk5 lv:=λ{W5 H5 n5 s5 stk5} h5 kq5 he hs hcl=>
    ⟨h5.weak hp2,kq04.trans kq5.weak.weak,l4.same (kq5.pr lb (.inl (.inr ⟨Nat.le_refl _,Nat.lt_succ_self _⟩)) hne),S.len,hext.trans he,by omega,by omega⟩
   have snx:c≠27->c≠29->pc+1∈kZ ⟨.ofNat c,.ofNat i⟩ pc:=λq1 q2=>by
    unfold kZ ends
    rw[decide_eq_false (show ¬Int.ofNat c=27 from λe=>q1 (by have:(c:Int)=27:=e;omega)),decide_eq_false (show ¬Int.ofNat c=29 from λe=>q2 (by have:(c:Int)=29:=e;omega))]
    exact List.mem_append_right _ (List.mem_singleton.2 rfl)
   have sjp:c=27∨c=28->i∈kZ ⟨.ofNat c,.ofNat i⟩ pc:=λq=>by
    unfold kZ jumps
    refine List.mem_append_left _ ?_
    rcases q with rfl|rfl<;>exact List.mem_singleton.2 rfl
   have hloc:c≠4->t.loc=a.loc:=λq=>AKk ht (show Int.ofNat c≠4 from λe=>q (by have:(c:Int)=4:=e;omega))
   rw[D7 (by omega),AB,Ae,AB,lc,AB,DR,AB]
   by_cases h3:c=3
   ·subst h3
    have hil:i<a.loc.length:=by rw[<-tl.1,S.len,R.nN];exact hin.lc (by omega)
    obtain⟨v,hv,vt⟩:=tl.get hil
    have eg:a.loc.getD i Bq=a.loc[i]:=by rw[List.getD_eq_getElem?_getD,List.getElem?_eq_getElem hil];rfl
    have ht:(bif (a.loc.getD i Bq).is Bq then none else(CW bd.stack (a.loc.getD i Bq) a.stk).map λk=>(⟨a.loc,k⟩:Ce))=some t:=ht
    rw[eg]at ht
    generalize a.loc[i]=ty at vt ht
    cases hn:ty.is Bq with
    |true=>rw[hn]at ht;cases ht
    |false=>
     rw[hn]at ht
     have ht:(CW bd.stack ty a.stk).map (λk=>(⟨a.loc,k⟩:Ce))=some t:=ht
     cases hps:CW bd.stack ty a.stk with
     |none=>rw[hps]at ht;cases ht
     |some ts=>
      rw[hps]at ht
      cases ht
      obtain⟨rfl,hmx⟩:=Vh hps
      obtain⟨q,hq,hlv⟩:=l4.get (G:=G) (q:=.i64) S.len hv
      rw[decide_eq_true rfl,BD,Ae,AB,li,AB,hq,AB,hlv,AB]
      show BX (Cj (((oC n0 sb bd wc).add lb (lb+1)).add n (n+1))) [v.v] (Runs F G) H4 (n+1) _
      refine h4.push (by omega) (by rw[tk.1];exact hmx) λH5 n5 h5 kq5=>?_
      exact go (back h5 kq5 (.refl _) (Int.le_refl _) rfl) (Int.le_refl _) (λ_=>⟨hs20,tl,.cons vt tk⟩) (snx (by omega) (by omega))
   rw[decide_eq_false h3,BA,DR,AB]
   have hpopl:∀{v:Cv} {r:List Cv},stk=v::r->r.length<=1000000:=λ{v r} e=>by rw[e,List.length_cons]at hstk;omega
   have nsb:n≠sb:=by have:=hsbn.2.1;omega
   by_cases h4':c=4
   ·subst h4'
    obtain⟨al,ak⟩:=a
    cases ak with
    |nil=>have ht:(none:Option Ce)=some t:=ht;cases ht
    |cons ty kk=>
     have ht:some (⟨al.set i ty,kk⟩:Ce)=some t:=ht
     cases ht
     obtain⟨v,r,rfl,vt,tr⟩:=tk.inv
     rw[decide_eq_true rfl,BD,Ae,AB,li,AB]
     show BX (Ez (((oC n0 sb bd wc).add lb (lb+1)).add n (n+1))) [] (Runs F G) H4 (n+1) _
     refine h4.pop (hpopl rfl) λH5 n5 h5 kq5=>?_
     have g5:=(kq5.pr n (.inr ⟨Nat.le_refl _,Nat.lt_succ_self _⟩) nsb).trans g4
     rw[AU (off:=0+1) g5 (v:=.int .i64 (.ofNat i) 0) rfl,AB]
     refine AHi (AC2 ..) ?_
     have l5:=l4.same (kq5.pr lb (.inl (.inr ⟨Nat.le_refl _,Nat.lt_succ_self _⟩)) hne)
     refine l5.set S.len (by rw[R.nN];exact hin.lc (by omega)) λH6 l6 s6=>?_
     obtain⟨h6,kq6⟩:=(h5.weak hp2).stp (i:=lb) ⟨Nat.le_refl _,Nat.lt_succ_self _⟩ hp (λq=>by
      rcases q with q|q
      ·have:=q.2;omega
      ·exact hne q) s6
     exact go ⟨h6,(kq04.trans kq5.weak.weak).trans kq6,l6,by rw[List.length_set];exact S.len,hext,by omega,by omega⟩ (Int.le_refl _) (λ_=>⟨hs20,tl.set vt,tr⟩) (snx (by omega) (by omega))
   rw[decide_eq_false h4',BA,DR,AB]
   by_cases h27:c=27
   ·subst h27
    obtain⟨w1,w,r,t2,q1,q2,q3,rfl⟩:=Le (c:=cxF M.fs f m bd) (ts:=a.stk) (l:=a.loc) (o:=dn (cxF M.fs f m bd) ⟨.ofNat 27,.ofNat i⟩) ht
    cases q1
    cases q2
    cases q3
    rw[decide_eq_true rfl,BD,Ae,AB,li,AB]
    exact go (back h4 .refl (.refl _) (Int.le_refl _) rfl) (Int.le_refl _) (λ_=>⟨hs20,tl,tk⟩) (sjp (.inl rfl))
   rw[decide_eq_false h27,BA,DR,AB]
   by_cases h28:c=28
   ·subst h28
    obtain⟨w1,w,r,t2,q1,q2,q3,rfl⟩:=Le (c:=cxF M.fs f m bd) (ts:=a.stk) (l:=a.loc) (o:=dn (cxF M.fs f m bd) ⟨.ofNat 28,.ofNat i⟩) ht
    cases q1
    obtain⟨v,r',ts',rfl,-,vt,tr,q2⟩:=tk.Dh E.t.w E.t.u q2
    cases q2
    cases q3
    rw[decide_eq_true rfl,BD]
    show BX (Ez (((oC n0 sb bd wc).add lb (lb+1)).add n (n+1))) [] (Runs F G) H4 (n+1) _
    refine h4.pop (hpopl rfl) λH5 n5 h5 kq5=>?_
    have g5:=(kq5.pr n (.inr ⟨Nat.le_refl _,Nat.lt_succ_self _⟩) nsb).trans g4
    rw[show yL 0 v.v=some (.int .i64 v.n 0)from rfl,AB,ah,AB]
    cases decide (v.n=Int.ofNat 0)with
    |true=>
     rw[BD,Ae,AB,AU (off:=0+1) g5 (v:=.int .i64 (.ofNat i) 0) rfl,AB]
     exact go (back h5 kq5 (.refl _) (Int.le_refl _) rfl) (Int.le_refl _) (λ_=>⟨hs20,tl,tr⟩) (sjp (.inr rfl))
    |false=>
     rw[BA]
     exact go (back h5 kq5 (.refl _) (Int.le_refl _) rfl) (Int.le_refl _) (λ_=>⟨hs20,tl,tr⟩) (snx (by omega) (by omega))
   rw[decide_eq_false h28,BA,DR,AB]
   by_cases h29:c=29
   ·subst h29
    obtain⟨w1,w,r,t2,q1,q2,q3,rfl⟩:=Le (c:=cxF M.fs f m bd) (ts:=a.stk) (l:=a.loc) (o:=dn (cxF M.fs f m bd) ⟨.ofNat 29,.ofNat i⟩) ht
    cases q1
    obtain⟨v,r',ts',rfl,-,vt,tr,q2⟩:=tk.Dh E.t.w E.t.u q2
    have hsz2:=h4.w.sz
    rw[decide_eq_true rfl,BD,gp (h4.weak hp2),AB,Dq,AB,Ae,AB,AU (off:=0+9) h4.w.box (v:=.int .i64 s2.calls 0) rfl,AB,vW (by omega) (by omega) (by omega),AB,AB,Ae,AB]
    refine((h4.weak hp2).weak hp).wU (o:=0+9) (s':={s2 with calls:=s2.calls-1}) rfl (by omega) rfl ⟨hsz2.1,hsz2.2.1,hsz2.2.2.1,hsz2.2.2.2.1,by show 0<=s2.calls-1;omega,by show s2.calls-1+s2.steps<=9000;omega⟩ (Int.le_refl _) rfl λH5 h5 kq5=>?_
    show BX (Ez (oC n0 sb bd wc)) [] (Runs F G) H5 (n+1) _
    refine h5.pop (hpopl rfl) λH6 n6 h6 kq6=>?_
    have kq06:=(kq04.trans kq5).trans kq6
    have hr:=h6.pr (n0+3) (.inl ⟨by omega,by omega⟩)
    have hb6:=h6.bk
    have hN6:M.kb<n0:=h6.kN
    refine yE ((kq06.pr (n0+3) (.inl ⟨by omega,by omega⟩) (by show n0+3≠sb;omega)).trans R.gr) rfl hr.2.1 λH7 s7=>?_
    refine hk W1 H7 n6 {s2 with calls:=s2.calls-1} v (h6.w.mono (Nat.le_refl _) λid _ ho=>s7 id λe=>ho (by rw[e];exact hr.2.2)) (kq06.kl.trans ⟨Nat.le_refl _,λ_ _=>rfl,λid q1 _ _=>s7 id (by have:id<n0:=q1;omega),λq=>q.same (s7 _ (by omega))⟩) hext (by show s2.calls-1=_;omega) (by show s2.steps<=_;omega) λ_=>⟨hs20,vt⟩
   rw[decide_eq_false h29,BA,DR,AB]
   by_cases h30:c=30
   ·subst h30
    obtain⟨w1,w,r,t2,q1,q2,q3,rfl⟩:=Le (c:=cxF M.fs f m bd) (ts:=a.stk) (l:=a.loc) (o:=dn (cxF M.fs f m bd) ⟨.ofNat 30,.ofNat i⟩) ht
    cases q1
    obtain⟨v,r',ts',rfl,-,vt,tr,q2⟩:=tk.Dh E.t.w E.t.u q2
    cases q2
    cases q3
    rw[decide_eq_true rfl,BD]
    show BX (Ez (((oC n0 sb bd wc).add lb (lb+1)).add n (n+1))) [] (Runs F G) H4 (n+1) _
    refine h4.pop (hpopl rfl) λH5 n5 h5 kq5=>?_
    refine BZ rfl λH6 f6 g6=>?_
    show Ba 2 (.ptr n5 0) (.agg v.cells) _ _ _
    refine IU g6 rfl rfl (by omega) λH7 g7 s7=>?_
    have f7:Kp H5 n5 H7 (n5+1):=⟨by omega,λid hid=>by rw[s7 _ (by omega),f6.same _ hid]⟩
    obtain⟨h7,kq7⟩:=h5.kp f7
    have hn0:=h7.pr n0 (.inl (.inl hp.1))
    rw[gp (h7.weak hp2),AB,Dq,AB,Ae,AB,AU (off:=0+5) h7.w.box (v:=.bool false) rfl,AB,jW,AB]
    show AZ (.bool true) true _ _
    rw[BD,AB,AB,Dq,AB,Ae,AB,AU (off:=0+8) h7.w.box (v:=W1.ov) rfl,AB,Ae,AB,AU (off:=0+0) g7 (v:=.int .i64 v.n 0) rfl,AB]
    refine h7.w.ATh (by omega) λv' H8 e8 st8=>?_
    rw[AU (off:=0) (id:=n0) ((e8 n0 hn0.2.1 (by rw[hn0.2.2];omega)).trans h7.nS) (v:=.ptr M.kb 0) rfl,AB]
    refine AHi (AIW ..) ?_
    rw[AB,Ae,AB]
    refine st8 λW9 H9 h9 ho9 hz9=>?_
    have hN7:=hn0.1
    obtain⟨q1,q2⟩:=h7.world h9 (by omega) (λid q e=>(ho9 id q).trans e) (λid q=>ho9 id (by have:id<n0:=q;omega)) hz9
    exact go (back q1 ((kq5.trans kq7).trans q2) (.refl _) (Int.le_refl _) rfl) (Int.le_refl _) (λ_=>⟨hs20,tl,tr⟩) (snx (by omega) (by omega))
   rw[decide_eq_false h30,BA,DR,AB]
   by_cases h31:c=31
   ·subst h31
    obtain⟨al,ak⟩:=a
    cases ak with
    |nil=>have ht:(none:Option Ce)=some t:=ht;cases ht
    |cons ty kk=>
     have ht:some (⟨al,kk⟩:Ce)=some t:=ht
     cases ht
     obtain⟨v,r,rfl,vt,tr⟩:=tk.inv
     rw[decide_eq_true rfl,BD]
     show BX (Ez (((oC n0 sb bd wc).add lb (lb+1)).add n (n+1))) [] (Runs F G) H4 (n+1) _
     refine h4.pop (hpopl rfl) λH5 n5 h5 kq5=>?_
     exact go (back h5 kq5 (.refl _) (Int.le_refl _) rfl) (Int.le_refl _) (λ_=>⟨hs20,tl,tr⟩) (snx (by omega) (by omega))
   rw[decide_eq_false h31,BA,DR,AB]
   have hpl4:=R.pl.kq (h0.weak hp) kq04
   have hfl4:=R.fl.ke ((kq04.kb (h0.weak hp)).ke seen2)
   have gf4:=(kq04.pr (n0+1) (.inl ⟨by omega,by omega⟩) (by show n0+1≠sb;omega)).trans R.gf
   have hcx:Cxm M (((oC n0 sb bd wc).add lb (lb+1)).add n (n+1)) f.pool (cxF M.fs f m bd):=⟨rfl,rfl,rfl⟩
   have hlc:=hloc (by omega)
   have call:c=25∨c=26->CS lfp G (Runs F G) k I (.ptr n0 0) (.ptr (n0+1) 0) (.ptr (n0+2) 0) (.ptr (n0+3) 0) (.sl lb 0 N N 2) (.ptr sb 0) (.int .i64 (.ofNat (pc+1)) 0) (.ptr n 0) (Ez (oC n0 sb bd wc)) (Cj (oC n0 sb bd wc)) (.bool true) H4 (n+1):=λhc=>by
    refine ATs (D:=((oC n0 sb bd wc).add lb (lb+1)).add n (n+1)) (a8:=.ptr (n0+3) 0) (a9:=.sl lb 0 N N 2) (a13:=.int .i64 (.ofNat (pc+1)) 0) (fb:=n0+1) (xb:=n) E ih h4 hpl4 hcx hfl4 (by omega) (by omega) hs20 (by omega) hc hin ⟨by omega,(h4.pr n (.inr ⟨Nat.le_refl _,Nat.lt_succ_self _⟩)).1,(h4.pr n (.inr ⟨Nat.le_refl _,Nat.lt_succ_self _⟩)).2.2⟩ g4 ⟨.inl (.inl (.inl ⟨by omega,by omega⟩)),by show n0+1≠sb;omega⟩ gf4 (by omega) tk ht (λW5 H5 n5 s5 stk5 g5 kq5 he hss hcl hty5=>?_) ⟨.inr ⟨Nat.le_refl _,Nat.lt_succ_self _⟩,nsb⟩
    refine go (back g5 kq5 he hss hcl) hss (λe=>⟨(hty5 e).1,?_,(hty5 e).2⟩) (snx (by omega) (by omega))
    rw[hlc];exact tl.ext he
   by_cases h25:c=25
   ·rw[decide_eq_true h25,BD]
    exact call (.inl h25)
   rw[decide_eq_false h25,BA,DR,AB]
   by_cases h26:c=26
   ·rw[decide_eq_true h26]
    exact call (.inr h26)
   rw[decide_eq_false h26]
   delta CS
   rw[BA,gp (h4.weak hp2),AB,CV (m:=10) gf4 (by omega) hpl4.len,AB,CV (m:=2) g4 (by omega) rfl,AB]
   refine AM5 (D:=((oC n0 sb bd wc).add lb (lb+1)).add n (n+1)) E.g E.t h4 hpl4 hcx (by omega) hin (λe=>by subst e;exact ANH hins) (by omega) tk ht λW5 H5 n5 s5 stk5 g5 kq5 he hss hcl hty5=>?_
   refine go (back g5 kq5 he (by omega) hcl) (by omega) (λe=>⟨by omega,?_,hty5 e⟩) (snx (by omega) (by omega))
   rw[hlc];exact tl.ext he
end
theorem AAo{t:Tab}:∀{Bg:List Fl},link2 t Bg=0->∀f∈Bg,Yq t f.pool=true
 |[],_,_,h=>by cases h
 |g::Bg,h,f,hf=>by
  unfold link2 at h
  cases h1:(Lr t g.face.nm==0)with
  |false=>
   rw[h1]at h
   have h:Lr t g.face.nm=0:=h
   rw[h]at h1;exact absurd h1 (by decide)
  |true=>
   rw[h1]at h
   cases h2:Yq t g.pool with
   |false=>rw[h2]at h;have h:(30:Int)=0:=h;exact absurd h (by decide)
   |true=>
    rw[h2]at h
    rcases List.mem_cons.1 hf with rfl|hf
    ·exact h2
    ·exact AAo h f hf
section
variable{M:Mn}{W W' W'':Mw}{D:qy}{G:AX}{H H' H'':Heap}{n n' n'':Nat}{s s':Mst}{k:KV}{stk:List Cv}
theorem APp(E:Env M G){f:Fl}{L:LV}(hf:f∈M.Bg)(hfv:VL G H M.kb (.agg L) f)(hL:L.length=10):Plm M G H f.pool L:=by
 obtain⟨L',vf,vm,v0,v1,v2,v3,v4,vb,mws,ws,bws,hfile,e⟩:=hfv
 have e:L=L':=by injection e
 subst e
 obtain⟨rfl,hface,hpool,hbod⟩:=hfile
 obtain⟨-,h1,h2⟩:=EU E.lk
 have hfo:=Ql _ _ h1 f hf
 unfold KZ ADN kS at hfo
 simp only[Bool.and_eq_true,List.all_eq_true]at hfo
 refine⟨hL,⟨v0,v1,v2,v3,v4,ws,hpool,rfl,rfl,rfl,rfl⟩,by rw[E.fs];exact AAo h2 f hf,λs hs=>?_⟩
 have:=hfo.2.1.2.1 s hs
 unfold Yg at this
 rw[Bool.and_eq_true]at this
 exact this.1
theorem ACj{c:St}{m:DW}:(dX c m++m.ps).length=least m:=by
 unfold dX least
 cases m.st with
 |true=>simp
 |false=>simp
theorem AKH(E:Env M G):∀b:Nat,zf M G (b:Int)
 |0=>by
  intro h tab hF hs1 hs2 hs3
  omega
 |b+1=>by
  have ih:= @AKH E b
  rename_i W H n s f L j m bd wc va args k
  intro h tab hF hs1 hs2 hs3 hs4 hf hmj hbd hL hfv hcode hva hlo hty hk
  refine BN (s:=ar4 (Fz lfp G)) Ko (by obtain⟨h,o⟩:=RQ BO G;rw[Ko]at h;cases h;exact o) ?_
  show Fz lfp G (Runs F G) (.ptr M.kb 0) (.agg L) (.agg (bd.cells wc)) va H n k
  delta Fz
  have kn:=h.kn
  have hbk:=tab.bn
  have hbf:=(eG (Ql _ _ (EU E.lk).2.1 f hf)).2 j m bd hmj hbd
  obtain⟨A,hA⟩:=E.all f hf j m bd hmj hbd
  refine FZ λH1 f1 g1=>?_
  refine FZ λH2 f2 g2=>?_
  refine FZ λH3 f3 g3=>?_
  refine BZ rfl λH4 f4 g4=>?_
  have g1:=f4.get (f3.get (f2.get g1 (by omega)) (by omega)) (by omega)
  have g2:=f4.get (f3.get g2 (by omega)) (by omega)
  have g3:=f4.get g3 (by omega)
  have f04:=((f1.trans f2).trans f3).trans f4
  have h4:=h.kp f04
  have hsz:=h4.sz
  have ld:∀{H5:Heap},T.get H5 n=T.get H4 n->AV (.ptr n 0) G H5=some (.ptr M.kb 0):=λe=>AU (off:=0) (id:=n) (e.trans g1) rfl
  have hn0:W.own n=0:=h.hi n (Nat.le_refl _)
  rw[ld rfl,AB,Dq,AB,Ae,AB,AU (off:=0+9) h4.box (v:=.int .i64 s.calls 0) rfl,AB,AP6 (by omega) (by omega),AB,AB,Ae,AB]
  refine h4.wU (o:=0+9) (s':={s with calls:=s.calls+1}) rfl (by omega) rfl ⟨hsz.1,hsz.2.1,hsz.2.2.1,hsz.2.2.2.1,by show 0<=s.calls+1;omega,by show s.calls+1+s.steps<=9000;omega⟩ (Int.le_refl _) rfl λH5 h5 s5=>?_
  have body:∀{H6:Heap} {n6:Nat} {s2:Mst},Mm M W G H6 n6 s2->n+4<=n6->(∀id,id<n+4->W.own id=0->T.get H6 id=T.get H4 id)->s2.hs=s.hs->s2.steps=s.steps->s2.calls=s.calls+1->DY lfp G (Runs F G) k va (.ptr n 0) (.ptr (n+1) 0) (.ptr (n+2) 0) (.ptr (n+3) 0) H6 n6:=by
   intro H6 n6 s2 h6 hn6 e6 es1 es2 es3
   have e60:∀id,id<n->W.own id=0->T.get H6 id=T.get H id:=λid q1 q2=>by rw[e6 id (by omega) q2,f04.same id q1]
   have low6:Kb M.b H M.kb H6 M.kb:=⟨Nat.le_refl _,λid q1 _=>e60 id (by omega) (h.lo id q1),λq=>q.same (e60 _ (by omega) (h.lo _ hbk))⟩
   refine ATA h6 (tab.kb low6) hn6 kn (λid q=>h.hi id q) ((e6 n (by omega) hn0).trans g1) ((e6 (n+2) (by omega) (h.hi _ (by omega))).trans g3) (hva.same λid hid=>e60 id (hlo id hid).1 (hlo id hid).2.1) (λid hid=>by have:=(hlo id hid).1;omega) ?_ hbf.hi λH7 n7 lb sb f7 hlb hne hsb hlbn gm7 l7=>?_
   ·have:=hbf.lo
    rw[hty.1,ACj];exact this
   ·have low7:Kb M.b H M.kb H7 M.kb:=low6.trans ⟨Nat.le_refl _,λid q1 _=>f7.same id (by omega),λq=>q.same (f7.same _ (by omega))⟩
    have k7:=low7.ke (G:=G) tab.seen
    have hlen:args.length=least m:=by rw[hty.1,ACj]
    have hlo2:=hbf.lo
    refine AQa E ih (N:=bd.locals.toNat) (L:=L) (m:=m) (A:=A) (W0:=W) (s0:=s2) ⟨hbf,hA,hlb,hsb,hne,rfl,?_,?_,APp E hf (hfv.ke k7) hL,hF.ke k7,hcode.ke k7⟩ gm7 l7 ?_ (by omega) (by omega) (λ_=>by omega) ?_ λW' H' n' s' v hM kl he hcl hst hv=>?_
    ·exact(f7.same _ (by omega)).trans ((e6 _ (by omega) (h.hi _ (by omega))).trans g2)
    ·exact(f7.same _ (by omega)).trans ((e6 _ (by omega) (h.hi _ (by omega))).trans g4)
    ·rw[List.length_append,List.length_replicate];omega
    ·have e:(WU f.face.nm m bd).loc=(dX f.face.nm m++m.ps)++List.replicate (bd.locals.toNat-args.length) Bq:=by
      show dX f.face.nm m++m.ps++List.replicate (bd.locals.toNat-(dX f.face.nm m).length-m.ps.length) Bq=_
      rw[hty.1,List.length_append,Nat.sub_sub]
     rw[e,es1]
     refine hty.append ⟨by rw[List.length_replicate,List.length_replicate],λi v t a b=>?_⟩
     rw[List.eq_of_mem_replicate (List.mem_of_getElem? a)];exact yg
    ·refine hk W' H' n' s' v hM (by have:=kl.le;have:=f7.le;omega) kl.own (λid q1 q2 q3=>by rw[kl.low id q1 q2 q3,f7.same id (by omega),e60 id q1 q3]) (λq=>kl.seen ((low7.seen q))) (by rw[es1]at he;exact he) (by omega) (by omega) λe=>hv e
  obtain⟨s1,es⟩:∃s1:Mst,s1={s with calls:=s.calls+1}:=⟨_,rfl⟩
  have q1:s1.hs=s.hs:=by rw[es]
  have q2:s1.steps=s.steps:=by rw[es]
  have q3:s1.calls=s.calls+1:=by rw[es]
  rw[<-es]at h5
  clear es
  have e5:∀id,id<n+4->W.own id=0->T.get H5 id=T.get H4 id:=λid _ q=>s5 id λe=>by rw[e,h.ko]at q;omega
  rw[ld (e5 n (by omega) hn0),AB,Dq,AB,Ae,AB,AU (off:=0+9) h5.box (v:=.int .i64 s1.calls 0) rfl,AB,AB,Dq,AB,Ae,AB,Ae,AB,AU (off:=0+2+2) h5.box (v:=.int .i64 M.deep 0) rfl,AB,AC1,AB]
  cases decide (M.deep<s1.calls)with
  |true=>
   rw[BD,AB]
   refine AL4 h5 (by omega) λH6 n6 t h6 ht hn6 kz=>?_
   exact body h6 hn6 (λid p1 p2=>(kz id p1 p2).trans (e5 id p1 p2)) q1 q2 q3
  |false=>
   rw[BA]
   exact body h5 (Nat.le_refl _) e5 q1 q2 q3
end
theorem AKn{Bg:List Fl}(h:O1 Bg=0){f:Fl}(hf:f∈Bg):Ci (EL (CB Bg)) f.face.nm=some f.face:=by
 obtain⟨-,h1,-⟩:=EU h
 obtain⟨-,hn,-⟩:=(zy Bg []).1 h1
 have hn:((CB Bg).map λc=>c.nm).Nodup:=by
  rw[List.map_map];exact hn
 rw[AJj hn]
 exact(AEf hn).2 ⟨List.mem_map.2 ⟨f,hf,rfl⟩,rfl⟩
theorem AGf{Bg:List Fl}(h:O1 Bg=0){f:Fl}(hf:f∈Bg){m:DW}(hm:m∈f.face.ms)(hs:m.st=true):jR (EL (CB Bg)) f.face.nm m.nm true=some (f.face.nm,m):=by
 have hok:=Ql _ _ (EU h).2.1 f hf
 have hl:=AKn h hf
 obtain⟨r,hr⟩:=AAU hl (ACi (Zv hok))
 unfold jR
 rw[hr]
 unfold aT
 have e:AHr true m.nm ((Ci (EL (CB Bg)) f.face.nm).getD DF).ms=some m:=by
  rw[hl]
  unfold AHr
  show(match Qi m.nm f.face.ms with|some m=>bif m.st==true then some m else none|none=>none)=some m
  rw[AAD f.face.ms (0,0) (AIo (Zv hok)) m hm]
  show(bif m.st==true then some m else none)=some m
  rw[hs];rfl
 rw[e]
section
variable{M:Mn}{W W' W'':Mw}{D:qy}{G:AX}{H H' H'':Heap}{n n' n'':Nat}{s s':Mst}{k:KV}{stk:List Cv}
theorem AJg{x y:Int}{z:Nat}{A:Nat->Prop}{v:V}{LS:ER}(h:Sk H z A v LS):Ap [.int .i64 (.ofNat 0) 0,.int .i64 (.ofNat 0) 0,.AY] [(0,1,.c (.int .i64 x 0)),(1,1,.c (.int .i64 y 0)),(2,1,.c v)]=some (.agg [.int .i64 x 0,.int .i64 y 0,v]):=by
 cases h<;>rfl
theorem ASW(E:Env M G)(h:Mm M W G H n s)(tab:TabAt G H M.kb M.t M.a M.b M.fs)(hF:L8 G H M.kb M.vf M.Bg)(hs2:s.trap=0)(hs3:0<=s.steps)(hs4:s.calls+1+s.steps<=9000){f:Fl}{m:DW}{va:V}{xs:List Int}
 (hf:f∈M.Bg) (hm:m∈f.face.ms) (hmst:m.st=true) (hps:m.ps=List.replicate xs.length DV) (hxl:xs.length<=1000) (hva:El G H va 1 (xs.map λx=>[.int .i64 x 0])) (hlo:∀id,va.XZ=some id->id<n/\W.own id=0/\id≠M.b)
 (hk:∀W' H' n' s' v,Mm M W' G H' n' s'->n<=n'->(∀id,id<n->W'.own id=W.own id)->(∀id,id<n->id≠M.b->W.own id=0->T.get H' id=T.get H id)->(Gv H M.b->Gv H' M.b)->k v H' n'):
 Runs F G NH [.ptr M.kb 0,f.face.nm.v,m.nm.v,va] H n k:=by
 refine BN (s:=ar4 (GX lfp G)) MG (by obtain⟨h,o⟩:=SE BO G;rw[MG]at h;cases h;exact o) ?_
 show GX lfp G (Runs F G) (.ptr M.kb 0) f.face.nm.v m.nm.v va H n k
 delta GX
 have kn:=h.kn
 have hbk:=tab.bn
 have hbo:=h.lo _ hbk
 refine BZ rfl λH1 f1 g1=>?_
 have h1:=h.kp f1
 have AQQ:TabAt G H1 (n+1) M.t M.a M.b M.fs:=tab.kb ⟨by omega,λid q _=>f1.same id (by omega),λq=>q.same (f1.same _ (by omega))⟩
 rw[Dq,AB,Ae,AB,AU (off:=0+0) h1.box (v:=.ptr M.t 0) rfl,AB]
 have hlk:Ci M.fs f.face.nm=some f.face:=by rw[E.fs];exact AKn E.lk hf
 have hmT:jR M.fs f.face.nm m.nm true=some (f.face.nm,m):=by rw[E.fs];exact AGf E.lk hf hm hmst
 refine AFs AQQ E.t.len λH2 n2 ws f2 hsig=>?_
 rw[hmT]at hsig
 obtain⟨w0,rfl,hw0⟩:=hsig
 have hn2:=f2.le
 rw[hmT]
 have hw0:N7 G H2 n2 w0 m.ps:=⟨hw0.el,hw0.lo.mono hn2,hw0.lt,hw0.ok⟩
 rw[show Bl (.Di [((some (f.face.nm,m)).getD ((0,0),XC)).1.v,.agg (((some (f.face.nm,m)).getD ((0,0),XC)).2.cells w0),.bool (some (f.face.nm,m)).isSome]) 0=some f.face.nm.v from rfl,AB,
  show Bl (.Di [((some (f.face.nm,m)).getD ((0,0),XC)).1.v,.agg (((some (f.face.nm,m)).getD ((0,0),XC)).2.cells w0),.bool (some (f.face.nm,m)).isSome]) 1=some (.agg (m.cells w0))from rfl,AB,
  show Bl (.Di [((some (f.face.nm,m)).getD ((0,0),XC)).1.v,.agg (((some (f.face.nm,m)).getD ((0,0),XC)).2.cells w0),.bool (some (f.face.nm,m)).isSome]) 2=some (.bool true)from rfl,AB]
 refine BZ rfl λH3 f3 g3=>?_
 refine IU g3 rfl rfl (by omega) λH4 g4 s4=>?_
 have f4:Kp H2 n2 H4 (n2+1):=⟨by omega,λid hid=>by rw[s4 _ (by omega),f3.same _ hid]⟩
 rw[CV (m:=5) g4 (by omega) rfl,AB]
 have f14:Kb M.b H n H4 (n2+1):=⟨by omega,λid q1 q2=>by rw[f4.same id (by omega),f2.same id (by omega) q2,f1.same id q1],λq=>(f2.seen (q.same (f1.same _ (by omega)))).same (f4.same _ (by omega))⟩
 have h4:Mm M W G H4 (n2+1) s:=h.mono (by omega) λid q1 q2=>f14.same id q1 λe=>q2 (by rw[e];exact hbo)
 have low4:Kb M.b H M.kb H4 M.kb:=f14.low (by omega)
 have tab4:=tab.kb low4
 have hF4:=hF.ke (low4.ke tab.seen)
 have hab:f.face.nm∈(above M.fs f.face.nm).1:=by
  obtain⟨r,hr⟩:=AAU hlk (ACi (Zv (Ql _ _ (EU E.lk).2.1 f hf)))
  rw[hr];exact List.mem_cons_self ..
 refine AMI E.g E.t E.lk E.fs tab4 hF4 h4.box h4.kn (hw0.kp f4) ⟨_,hlk⟩ ⟨_,hab,m,by rw[hlk];exact hm,AIy m⟩ λH5 n5 L f' j' m' bd wc f5 hf' hfa hmj' hsame hbd' hL hfv hcode=>?_
 have hn5:=f5.le
 obtain⟨e1,e2,e3⟩:=AAx hsame
 rw[show Bl (.Di [.agg L,.agg (bd.cells wc),.bool true]) 0=some (.agg L)from rfl,AB,show Bl (.Di [.agg L,.agg (bd.cells wc),.bool true]) 1=some (.agg (bd.cells wc))from rfl,AB,show Bl (.Di [.agg L,.agg (bd.cells wc),.bool true]) 2=some (.bool true)from rfl,AB]
 refine BZ rfl λH6 f6 g6=>?_
 refine BZ rfl λH7 f7 g7=>?_
 refine IU (f7.get g6 (by omega)) rfl hL (by omega) λH8 g8 s8=>?_
 refine IU ((s8 _ (by omega)).trans g7) rfl rfl (by omega) λH9 g9 s9=>?_
 have f9:Kp H5 n5 H9 (n5+1+1):=⟨by omega,λid hid=>by rw[s9 _ (by omega),s8 _ (by omega),f7.same _ (by omega),f6.same _ hid]⟩
 have g8:=(s9 _ (by omega)).trans g8
 rw[jW,AB]
 show AZ (.bool false) true _ _
 rw[BA]
 refine yB (G:=G) (vs:=[]) rfl (by omega) (λ_ h=>by cases h) λHa fa hga _=>?_
 obtain⟨ta,hga⟩:=hga
 have f5a:Kp H5 n5 Ha (n5+1+1+1):=f9.trans fa
 have g8:=(fa.same _ (by omega)).trans g8
 have g9:=(fa.same _ (by omega)).trans g9
 have f0a:Kb M.b H n Ha (n5+1+1+1):=⟨by omega,λid q1 q2=>by rw[f5a.same id (by omega),f5.same id (by omega) q2,f14.same id q1 q2],λq=>(f5.seen (f14.seen q)).same (f5a.same _ (by omega))⟩
 have hva':∀{H':Heap},(∀id,id<n->id≠M.b->T.get H' id=T.get H id)->El G H' va 1 (xs.map λx=>[.int .i64 x 0]):=λe=>hva.same λid hid=>e id (hlo id hid).1 (hlo id hid).2.2
 rw[hva.len,List.length_map,AB]
 refine CJ (N:=xs.length) (J:=λi st=>∃H' n' v,st=(V.ptr M.kb 0,V.ptr n 0,V.ptr n5 0,V.ptr (n5+1) 0,v,va,V.int .i64 (.ofNat xs.length) 0,V.int .i64 (.ofNat i) 0,H',n')/\n5+1+1+1<=n'/\(∀id,id<n5+1+1->T.get H' id=T.get Ha id)/\Sk H' 2 (λid=>n5+1+1<=id/\id<n') v (cvs ((xs.take i).map λx=>⟨x,0⟩))) ?_ ?_
  ⟨Ha,_,_,rfl,Nat.le_refl _,λ_ _=>rfl,.emp hga ⟨by omega,by omega⟩⟩
 ·rintro I i st hi ⟨Hb,nb,v,rfl,hnb,sb,sk⟩ ih
  show Ec lfp G (Runs F G) k I (.ptr M.kb 0) (.ptr n 0) (.ptr n5 0) (.ptr (n5+1) 0) v va (.int .i64 (.ofNat xs.length) 0) (.int .i64 (.ofNat i) 0) Hb nb
  delta Ec
  obtain⟨p,hp,hld⟩:=(hva' (H':=Hb) λid q1 q2=>by rw[sb id (by omega),f0a.same id q1 q2]).at (i:=i) (c:=[.int .i64 xs[i] 0]) (by simp[hi])
  rw[SB,decide_eq_true hi,AB,BD,hp,AB,L6 hld,AB,jV,AB]
  refine sk.app (G:=G) (m:=0) (c:=(⟨xs[i],0⟩:Cv).v) (λid hid=>(sk.own hid).2) (by omega) rfl rfl (by rw[Vw,List.length_map,List.length_take];omega) λv' Hc hv' sc hid=>?_
  rw[D7 (by omega),AB]
  refine ih _ ⟨Hc,nb+2,v',rfl,by omega,λid q=>by rw[sc id (by omega) (λe=>by have:=(sk.own e).1;omega),sb id q],?_⟩
  have e:cvs ((xs.take (i+1)).map λx=>(⟨x,0⟩:Cv))=cvs ((xs.take i).map λx=>(⟨x,0⟩:Cv))++[Aq (⟨xs[i],0⟩:Cv).v]:=by
   rw[List.take_succ_eq_append_getElem hi]
   unfold cvs
   rw[List.map_append,List.map_append];rfl
  rw[e]
  exact hv' _ ⟨by omega,by omega⟩
 ·rintro I st ⟨Hb,nb,v,rfl,hnb,sb,sk⟩
  show Ec lfp G (Runs F G) k I (.ptr M.kb 0) (.ptr n 0) (.ptr n5 0) (.ptr (n5+1) 0) v va (.int .i64 (.ofNat xs.length) 0) (.int .i64 (.ofNat xs.length) 0) Hb nb
  delta Ec
  rw[SB,decide_eq_false (by omega),AB,BA]
  delta Js
  rw[CV (m:=10) ((sb _ (by omega)).trans g8) (by omega) hL,AB,CV (m:=3) ((sb _ (by omega)).trans g9) (by omega) rfl,AB]
  rw[List.take_length]at sk
  have f0b:Kb M.b H n Hb nb:=⟨by omega,λid q1 q2=>by rw[sb id (by omega),f0a.same id q1 q2],λq=>(f0a.seen q).same (sb _ (by omega))⟩
  have lowb:Kb M.b H M.kb Hb M.kb:=f0b.low (by omega)
  have hb:Mm M W G Hb nb s:=h.mono (by omega) λid q1 q2=>f0b.same id q1 λe=>q2 (by rw[e];exact hbo)
  have k5b:Ke G H5 M.kb Hb M.kb:=⟨Nat.le_refl _,λv z LS hl h=>h.same λid hid=>by have:=hl id hid;rw[sb id (by omega),f5a.same id (by omega)]⟩
  have hst1:0<=s.steps:=hs3
  refine AKH E (s.steps.toNat+1) (args:=xs.map λx=>⟨x,0⟩) hb (tab.kb lowb) (hF.ke (lowb.ke tab.seen)) (by omega) hs2 hs3 hs4 hf' hmj' hbd' hL (hfv.ke k5b) (hcode.ke k5b) (sk.el (by omega)) (λid hid=>?_) ?_ λW6 Hd nd s6 v6 hd hnd ho hz hseen he hcalls hsteps hv=>?_
  ·have:=sk.own hid
   exact⟨this.2,h.hi id (by omega),by omega⟩
  ·rw[e3,hps,show dX f'.face.nm m'=[]by unfold dX;rw[e1,hmst];rfl,List.nil_append]
   exact⟨by rw[List.length_map,List.length_replicate],λi v t a b=>by rw[List.eq_of_mem_replicate (List.mem_of_getElem? b)];exact fO (by decide)⟩
  ·refine BZ rfl λHe fe ge=>?_
   show Ba 2 (.ptr nd 0) (.agg v6.cells) _ _ _
   refine IU ge rfl rfl (by omega) λHf gf sf=>?_
   have ff:Kp Hd nd Hf (nd+1):=⟨by omega,λid hid=>by rw[sf _ (by omega),fe.same _ hid]⟩
   have hfm:=hd.kp ff
   have own_nd:W6.own nd=0:=hd.hi nd (Nat.le_refl _)
   have own_n:W6.own n=0:=(ho n (by omega)).trans (h.hi n (Nat.le_refl _))
   have gn:T.get Hf n=some (one [.int .i64 (.ofNat 0) 0,.int .i64 (.ofNat 0) 0,.AY]):=by
    rw[ff.same n (by omega),hz n (by omega) (by omega) (h.hi n (Nat.le_refl _)),sb n (by omega),f5a.same n (by omega),f5.same n (by omega) (by omega),f4.same n (by omega),f2.same n (by omega) (by omega)]
    exact g1
   have fin:∀{Hg:Heap} {y:Int},T.get Hg nd=some (one [.int .i64 y 0,.int .i64 (.ofNat v6.o) 0])->(∀id,id≠nd->T.get Hg id=T.get Hf id)->Ee lfp G (Runs F G) k (.ptr M.kb 0) (.ptr n 0) (.ptr nd 0) Hg (nd+1):=by
    intro Hg y gg sg
    delta Ee
    have hg:Mm M W6 G Hg (nd+1) s6:=hfm.mono (Nat.le_refl _) λid _ q=>sg id λe=>q (by rw[e];exact own_nd)
    obtain⟨LS,sk6,-⟩:=hg.out
    rw[Dq,AB,Ae,AB,mD hg,AB,Ae,AB,AU (off:=0+0) gg (v:=.int .i64 y 0) rfl,AB,AB,Ae,AB,AU (off:=0+8) hg.box (v:=W6.ov) rfl,AB,AJg sk6,AB]
    refine IU ((sg n (by omega)).trans gn) rfl rfl (by omega) λHh gh sh=>?_
    rw[Ei (m:=3) gh (by omega) rfl]
    refine hk W6 Hh (nd+1) s6 _ (hg.mono (Nat.le_refl _) λid _ q=>sh id λe=>q (by rw[e];exact own_n)) (by omega) (λid q=>ho id (by omega)) (λid q1 q2 q3=>?_) λq=>?_
    ·rw[sh id (by omega),sg id (by omega),ff.same id (by omega),hz id (by omega) q2 q3,f0b.same id q1 q2]
    ·exact(hseen (f0b.seen q)).same (by rw[sh _ (by omega),sg _ (by omega),ff.same _ (by omega)])
   rw[Dq,AB,Ae,AB,mD hfm,AB,AHW,AB]
   cases decide (s6.trap=Int.ofNat 0)with
   |true=>
    show AZ (.bool false) true _ _
    rw[BA]
    exact fin gf λ_ _=>rfl
   |false=>
    show AZ (.bool true) true _ _
    rw[BD,Ae,AB]
    refine XM gf rfl rfl (by omega) (by show 0+0+1<=2;omega) λHg gg sg=>?_
    exact fin gg sg
end
def mkM(kb t a b:Nat)(vf:V)(Bg:List Fl)(deep:Int):Mn:=⟨kb,t,a,b,EL (CB Bg),vf,Bg,deep⟩
theorem AM6{Bg:List Fl}(h:O1 Bg=0):Tabs (EL (CB Bg)):=by
 refine⟨o8 h,ql h,ALy h,by have:=ADf h;omega,λs c e=>?_⟩
 obtain⟨f,hf,rfl,-⟩:=dM e
 have:=Zv (Ql _ _ (EU h).2.1 f hf)
 unfold Tf at this
 simp only[Bool.and_eq_true,Bool.not_eq_true',decide_eq_false_iff_not]at this
 omega
theorem AQp{G:AX}(hG:QT G){Bg:List Fl}(h:O1 Bg=0){R:Fl->Nat->Int}(hR:ADA Bg R)(hn:Rl R (Xw Bg) (NC Bg)=none){kb t a b:Nat}{vf:V}{deep:Int}:Env (mkM kb t a b vf Bg deep) G:=by
 refine⟨hG,AM6 h,h,rfl,λf hf j m bd h1 h2=>?_⟩
 have hl:=lN Bg [] f (EU h).2.1 hf
 have h3:=xk.1 (jO.1 hn f.face.nm (List.mem_map.2 ⟨f,hf,rfl⟩) f hl) j (List.getElem?_eq_some_iff.1 h1).1
 rw[Nat.zero_add]at h3
 have hb:=(eG (Ql _ _ (EU h).2.1 f hf)).2 j m bd h1 h2
 exact(AN9 (o8 h) (ql h) (by have:=hb.c0;show 0<bd.code.length;omega) (hR f hf j m bd h1 h2)).1 h3
theorem El.ok{G:AX}{H:Heap}{v:V}{z:Nat}{LS:ER}(h:El G H v z LS){t:Nat}{x y w:Int}:Ap [.NT,.AY,(.int .i64 (.ofNat 0) 0),(.int .i64 (.ofNat 0) 0),(.int .i64 (.ofNat 0) 0),(.bool false),(.int .i64 (.ofNat 0) 0),.AY,.AY,(.int .i64 (.ofNat 0) 0)] [(0,1,.c (.ptr t 0)),(1,1,.c v),(2,3,.c (.agg [.int .i64 x 0,.int .i64 y 0,.int .i64 w 0]))]=
 some (.agg [.ptr t 0,v,.int .i64 x 0,.int .i64 y 0,.int .i64 w 0,.bool false,.int .i64 (.ofNat 0) 0,.AY,.AY,.int .i64 (.ofNat 0) 0]):=by
 obtain⟨hs,h⟩:=h
 cases v<;>try (cases h;done)
 all_goals first
  |rfl
  |(cases hs;done)
theorem AMx(t:Int){c:Nat}(hc:c<9223372036854775808):∃y:Nat,y<=c/\B2.ev .and (.int .i64 t 0) (.int .i64 (.ofNat c) 0)=some (.int .i64 (.ofNat y) 0):=by
 refine⟨AGK t c,(ACk t (by omega)).2,?_⟩
 show BK true (V4 (AMn .i64 t (.ofNat c)) λm=>some (.int .i64 m 0))=_
 rw[AJZ t (by omega)];rfl
def W0(kb:Nat):Mw:=⟨λid=>if id=kb then 1 else 0,.AY,.AY,λ_=>.AY,λ_=>0⟩
section
variable{G:AX}{H H' H'':Heap}{n n' n'':Nat}{k:KV}
theorem ASc{t a b:Nat}{vf:V}{Bg:List Fl}{x y w:Nat}(hx:x<=4095)(hy:y<=1023)(g:T.get H n=some (one [.ptr t 0,vf,.int .i64 (.ofNat x) 0,.int .i64 (.ofNat y) 0,.int .i64 (.ofNat w) 0,.bool false,.int .i64 (.ofNat 0) 0,.AY,.AY,.int .i64 (.ofNat 0) 0])):
 Mm (mkM n t a b vf Bg w) (W0 n) G H (n+1) ⟨x,y,0,0,[],0⟩:=by
 refine⟨Nat.lt_succ_self n,if_pos rfl,λid h=>if_neg (by have:id<n:=h;omega),λid h=>if_neg (by omega),g,⟨[],.nil,rfl,λi th h=>(by cases h)⟩,⟨[],.nil,rfl⟩,λi th h=>(by cases h),λi th h=>(by cases h),?_,λth h=>(by cases h),λth h=>(by cases h),?_⟩
 ·show 0<=(y:Int)/\((([]:List Th).length:Nat):Int)+(y:Int)<=1100/\ -1<=(x:Int)/\(x:Int)<=4100/\(0:Int)<=0/\(0:Int)+(x:Int)<=9000
  simp only[List.length_nil]
  omega
 ·show(0:Int)+(x:Int)<=5000
  omega
structure Sn(G:AX)(a0:V)(Bg:List Fl)(ii tt a b bx:Nat)(p q r:Nat)(H:Heap)(n:Nat):Prop where
 hl:O1 Bg=0
 img:∃fm vn,S9 G H n ii tt a b fm vn (EL (CB Bg))
 hbx:T.get H bx=some (one [.int .i64 (.ofNat p) 0,.int .i64 (.ofNat q) 0,.int .i64 (.ofNat r) 0])
 bn:bx<n/\bx≠b
 pq:p<=4095/\q<=1023
end
section
variable{G:AX}{H H' H'':Heap}{n n' n'':Nat}{k:KV}
end
section
variable{G:AX}{H H' H'':Heap}{n n' n'':Nat}{k:KV}
end
def xC:lg:=⟨(1,102),DV⟩
def nY:DW:=⟨(1,109),true,[DV],DV⟩
def oO:Fc:=⟨(1,65),(0,0),[xC],[nY]⟩
def AKR:Pool:=⟨[5],[(1,65)],[⟨(3,7630441),true⟩,DV],[⟨xC,(1,65)⟩],[⟨nY,(1,65)⟩]⟩
def AAA(st lo:Int)(code:List Ins):Fl:=⟨oO,AKR,[⟨lo,st,code⟩]⟩
section
variable{G:AX}{H H' H'':Heap}{n n' n'':Nat}{k:KV}
theorem gQ{z:Nat}{Z:LV}{v:V}{P:KV}(hz:0<z)(hv:Wl v=true/\(Aq v).length=z)(h:∀H',Kp H n H' (n+1)->El G H' (.sl n 0 1 1 z) z [Aq v]->P (.sl n 0 1 1 z) H' (n+1)):Bf (Az z 1 Z [(0,.c v)] E0) H n P:=
 yB (G:=G) (vs:=[v]) rfl hz (λx hx=>by rw[List.mem_singleton.1 hx];exact hv) λH' f _ hel=>h H' f hel
theorem AG8{st lo:Int}{G:AX}{H:Heap}{v:V}{z:Nat}{LS:ER}(h:El G H v z LS):Ap [(.int .i64 (.ofNat 0) 0),(.int .i64 (.ofNat 0) 0),.AY] [(0,1,.c (.int .i64 lo 0)),(1,1,.c (.int .i64 st 0)),(2,1,.c v)]=some (.agg [.int .i64 lo 0,.int .i64 st 0,v])/\Wl (.agg [.int .i64 lo 0,.int .i64 st 0,v])=true:=by
 obtain⟨hs,h⟩:=h
 cases v<;>try (cases h;done)
 all_goals first
  |exact⟨rfl,rfl⟩
  |(cases hs;done)
theorem AS9{st lo:Int}{wc:V}{code:List Ins}(hc:NI G H n wc code)(hk:∀H' n' L,Kp H n H' n'->L.length=10->VL G H' n' (.agg L) (AAA st lo code)->k (.agg L) H' n'):Runs F G TI [.int .i64 st 0,.int .i64 lo 0,wc] H n k:=by
 refine BN (s:=ar3 (PD lfp G)) Vf (by obtain⟨h,o⟩:=bU BO G;rw[Vf]at h;cases h;exact o) ?_
 show PD lfp G (Runs F G) (.int .i64 st 0) (.int .i64 lo 0) wc H n k
 delta PD
 refine BZ rfl λH1 f1 g1=>?_
 refine jB λH2 n2 f2=>?_
 rw[show Ap [(.str 0 0),(.str 0 0),(.bool false)] [(0,1,.c (.str 1 102)),(1,2,.c DV.v)]=some (.agg xC.cells)from rfl,AB]
 refine gQ (G:=G) (by omega) ⟨rfl,rfl⟩ λH3 f3 e3=>?_
 refine jB λH4 n4 f4=>?_
 refine gQ (G:=G) (by omega) ⟨rfl,rfl⟩ λH5 f5 e5=>?_
 refine jB λH6 n6 f6=>?_
 rw[show Ap [(.str 0 0),(.bool false),.AY,(.str 0 0),(.bool false)] [(0,1,.c (.str 1 109)),(1,1,.c (.bool true)),(2,1,.c (.sl n4 0 1 1 2)),(3,2,.c DV.v)]=some (.agg (nY.cells (.sl n4 0 1 1 2)))from rfl,AB]
 refine gQ (G:=G) (by omega) ⟨rfl,rfl⟩ λH7 f7 e7=>?_
 rw[show Ap [(.str 0 0),(.str 0 0),.AY,.AY] [(0,1,.c (.str 1 65)),(2,1,.c (.sl n2 0 1 1 3)),(3,1,.c (.sl n6 0 1 1 5))]=some (.agg [.str 1 65,.str 0 0,.sl n2 0 1 1 3,.sl n6 0 1 1 5])from rfl,AB]
 refine gQ (G:=G) (by omega) ⟨rfl,rfl⟩ λH8 f8 e8=>?_
 refine gQ (G:=G) (by omega) ⟨rfl,rfl⟩ λH9 f9 e9=>?_
 rw[show Ap [(.str 0 0),(.bool false)] [(0,1,.c (.str 3 7630441)),(1,1,.c (.bool true))]=some (⟨(3,7630441),true⟩:Ty).v from rfl,AB,show Ap [(.str 0 0),(.bool false)] [(0,1,.c (.str 3 7630441))]=some DV.v from rfl,AB]
 refine yB (G:=G) (vs:=[(⟨(3,7630441),true⟩:Ty).v,DV.v]) rfl (by omega) (λx hx=>by
  rcases List.mem_cons.1 hx with rfl|hx
  ·exact⟨rfl,rfl⟩
  ·rw[List.mem_singleton.1 hx];exact⟨rfl,rfl⟩) λH10 f10 _ e10=>?_
 refine jB λH11 n11 f11=>?_
 rw[show Ap [(.str 0 0),(.str 0 0),(.bool false)] [(0,1,.c (.str 1 102)),(1,2,.c DV.v)]=some (.agg xC.cells)from rfl,AB,show Ap [(.str 0 0),(.str 0 0),(.bool false),(.str 0 0)] [(0,3,.c (.agg xC.cells)),(3,1,.c (.str 1 65))]=some (.agg (PF.cells ⟨xC,(1,65)⟩))from rfl,AB]
 refine gQ (G:=G) (by omega) ⟨rfl,rfl⟩ λH12 f12 e12=>?_
 refine jB λH13 n13 f13=>?_
 refine gQ (G:=G) (by omega) ⟨rfl,rfl⟩ λH14 f14 e14=>?_
 refine jB λH15 n15 f15=>?_
 rw[show Ap [(.str 0 0),(.bool false),.AY,(.str 0 0),(.bool false)] [(0,1,.c (.str 1 109)),(1,1,.c (.bool true)),(2,1,.c (.sl n13 0 1 1 2)),(3,2,.c DV.v)]=some (.agg (nY.cells (.sl n13 0 1 1 2)))from rfl,AB,show Ap [(.str 0 0),(.bool false),.AY,(.str 0 0),(.bool false),(.str 0 0)] [(0,5,.c (.agg (nY.cells (.sl n13 0 1 1 2)))),(5,1,.c (.str 1 65))]=some (.agg (PM.cells ⟨nY,(1,65)⟩ (.sl n13 0 1 1 2)))from rfl,AB]
 refine gQ (G:=G) (by omega) ⟨rfl,rfl⟩ λH16 f16 e16=>?_
 obtain⟨b1,b2⟩:=AG8 (st:=st) (lo:=lo) hc.el
 rw[show Ap [.AY,.AY,.AY,.AY,.AY] [(0,1,.c (.sl (n6+1) 0 1 1 1)),(1,1,.c (.sl (n6+1+1) 0 1 1 1)),(2,1,.c (.sl (n6+1+1+1) 0 2 2 2)),(3,1,.c (.sl n11 0 1 1 4)),(4,1,.c (.sl n15 0 1 1 6))]=
  some (.agg [.sl (n6+1) 0 1 1 1,.sl (n6+1+1) 0 1 1 1,.sl (n6+1+1+1) 0 2 2 2,.sl n11 0 1 1 4,.sl n15 0 1 1 6])from rfl,AB,b1,AB]
 refine gQ (G:=G) (by omega) ⟨b2,rfl⟩ λH17 f17 e17=>?_
 rw[show Ap [(.str 0 0),(.str 0 0),.AY,.AY,.AY,.AY,.AY,.AY,.AY,.AY] [(0,4,.c (.agg [.str 1 65,.str 0 0,.sl n2 0 1 1 3,.sl n6 0 1 1 5])),(4,5,.c (.agg [.sl (n6+1) 0 1 1 1,.sl (n6+1+1) 0 1 1 1,.sl (n6+1+1+1) 0 2 2 2,.sl n11 0 1 1 4,.sl n15 0 1 1 6])),(9,1,.c (.sl (n15+1) 0 1 1 3))]=
  some (.agg [.str 1 65,.str 0 0,.sl n2 0 1 1 3,.sl n6 0 1 1 5,.sl (n6+1) 0 1 1 1,.sl (n6+1+1) 0 1 1 1,.sl (n6+1+1+1) 0 2 2 2,.sl n11 0 1 1 4,.sl n15 0 1 1 6,.sl (n15+1) 0 1 1 3])from rfl,AB]
 have c16:=f17
 have c15:=f16.trans c16
 have c14:=f15.trans c15
 have c13:=f14.trans c14
 have c12:=f13.trans c13
 have c11:=f12.trans c12
 have c10:=f11.trans c11
 have c9:=f10.trans c10
 have c8:=f9.trans c9
 have c7:=f8.trans c8
 have c6:=f7.trans c7
 have c5:=f6.trans c6
 have c4:=f5.trans c5
 have c3:=f4.trans c4
 have c2:=f3.trans c3
 have c1:=f2.trans c2
 have l2:=f2.le
 have l4:=f4.le
 have l6:=f6.le
 have l11:=f11.le
 have l13:=f13.le
 have l15:=f15.le
 refine IU ((c1.same n (by omega)).trans g1) rfl rfl (by omega) λH18 g18 s18=>?_
 rw[Ei (m:=10) g18 (by omega) rfl]
 have mv:∀{Hi:Heap} {ni id o c z z':Nat} {LS:ER},Kp Hi ni H17 (n15+1+1)->El G Hi (.sl id 0 o c z) z' LS->n<id->id<ni->El G H18 (.sl id 0 o c z) z' LS:=λf e h1 h2=>e.same λj hj=>by cases hj;rw[s18 _ (by omega),f.same _ h2]
 have lo':∀{id o c z:Nat},id<n15+1+1->Lo (.sl id 0 o c z) (n15+1+1):=λh j hj=>by cases hj;exact h
 have AQ0:Kp H n H18 (n15+1+1):=⟨by omega,λid hid=>by rw[s18 _ (by omega),c1.same id (by omega),f1.same id hid]⟩
 have tk:∀(t:Ty),t.nm.ok->∀x∈[t],x.nm.ok:=λt h x hx=>by rw[List.mem_singleton.1 hx];exact h
 have ik:DV.nm.ok:=λh=>by cases h
 have fk:xC.nm.ok/\xC.ty.nm.ok:=⟨λh=>(by cases h),ik⟩
 have mk:nY.nm.ok/\nY.ret.nm.ok:=⟨λh=>(by cases h),ik⟩
 have ak:St.ok (1,65):=λh=>by cases h
 have k1:1<big:=by decide
 have k2:2<big:=by decide
 refine hk H18 _ _ AQ0 rfl ⟨_,.sl n2 0 1 1 3,.sl n6 0 1 1 5,.sl (n6+1) 0 1 1 1,.sl (n6+1+1) 0 1 1 1,.sl (n6+1+1+1) 0 2 2 2,.sl n11 0 1 1 4,.sl n15 0 1 1 6,.sl (n15+1) 0 1 1 3,[.sl n4 0 1 1 2],[.sl n13 0 1 1 2],[wc],⟨rfl,⟨rfl,⟨mv c3 e3 (by omega) (by omega),lo' (by omega),k1,λf hf=>by rw[List.mem_singleton.1 hf];exact fk⟩,⟨mv c7 e7 (by omega) (by omega),lo' (by omega),k1,rfl,λi m w a b=>?_,λm hm=>by rw[List.mem_singleton.1 hm];exact mk⟩,⟨ak,λ_=>rfl⟩⟩,
  ⟨mv c8 e8 (by omega) (by omega),lo' (by omega),k1,mv c9 e9 (by omega) (by omega),lo' (by omega),k1,λs hs=>by rw[List.mem_singleton.1 hs];exact ak,⟨mv c10 e10 (by omega) (by omega),lo' (by omega),k2,λx hx=>?_⟩,mv c12 e12 (by omega) (by omega),lo' (by omega),k1,λf hf=>by rw[List.mem_singleton.1 hf];exact⟨fk.1,fk.2,ak⟩,mv c16 e16 (by omega) (by omega),lo' (by omega),k1,rfl,λi m w a b=>?_,λm hm=>by rw[List.mem_singleton.1 hm];exact⟨mk.1,mk.2,ak⟩⟩,
  ⟨mv (Kp.refl _ _) e17 (by omega) (by omega),lo' (by omega),k1,rfl,λi x w a b=>?_⟩⟩,rfl⟩
 ·cases i with
  |zero=>cases a;cases b;exact⟨mv c5 e5 (by omega) (by omega),lo' (by omega),by decide,tk _ ik⟩
  |succ i=>cases a
 ·rcases List.mem_cons.1 hx with rfl|hx
  ·exact λh=>by cases h
  ·rw[List.mem_singleton.1 hx];exact ik
 ·cases i with
  |zero=>cases a;cases b;exact⟨mv c14 e14 (by omega) (by omega),lo' (by omega),by decide,tk _ ik⟩
  |succ i=>cases a
 ·cases i with
  |zero=>cases a;cases b;exact⟨hc.el.kp hc.lo AQ0,hc.lo.mono AQ0.le,hc.lt⟩
  |succ i=>cases a
end
theorem AAf{a b:Int}(h:b≠0):∃x,B2.ev .rem (.int .i64 a 0) (.int .i64 b 0)=some (.int .i64 x 0):=by
 refine⟨Int.tmod a b,?_⟩
 show BK (band (keq .i64 .i64) (band true (Yk (ieq b 0)))) (mkN .i64 (Int.tmod a b) 0)=_
 have:ieq b 0=false:=by rw[Tt];exact beq_false_of_ne h
 rw[this]
 cases Int.tmod a b<;>rfl
theorem ALs(st lo:Int)(code:List Ins):O1 [AAA st lo code]=0∨O1 [AAA st lo code]=2:=by
 unfold O1
 rw[decide_eq_false (show ¬200<[AAA st lo code].length by simp)]
 have h1:Ul [] [AAA st lo code]=bif !KZ (AAA st lo code)then 2 else 0:=rfl
 rw[h1]
 cases KZ (AAA st lo code)with
 |false=>exact .inr rfl
 |true=>
  refine .inl ?_
  show link2 (EL [oO]) [AAA st lo code]=0
  have e1:Lr (EL [oO]) oO.nm=0:=by decide
  have e2:Yq (EL [oO]) AKR=true:=by decide
  show(bif !(Lr (EL [oO]) oO.nm==0)then Lr (EL [oO]) oO.nm else bif !Yq (EL [oO]) AKR then 30 else 0)=0
  rw[e1,e2];rfl
section
variable{G:AX}{H H' H'':Heap}{n n' n'':Nat}{k:KV}
theorem ACq{L:LV}{f:Fl}{id:Nat}(he:El G H (.sl id 0 1 1 10) 10 [L])(hid:id<n)(hf:VL G H n (.agg L) f):L8 G H n (.sl id 0 1 1 10) [f]:=
 ⟨⟨[L],he,rfl,λi M g a b=>by
  cases i with
  |zero=>cases a;cases b;exact hf
  |succ i=>cases a⟩,λj hj=>by cases hj;exact hid,by show 1<big;decide⟩
theorem AQg(hG:QT G)(hO:gV G){y1 y2 y3:Int}{v:V}{code:List Ins}(hc:NI G H n v code)(hk:∀H' n',k (.bool true) H' n'):
 Hr lfp G (Runs F G) k (.int .i64 y1 0) (.int .i64 y2 0) (.int .i64 y3 0) v H n:=by
 delta Hr
 obtain⟨st,-,est⟩:=AMx y1 (c:=7) (by omega)
 rw[est,AB]
 refine AS9 hc λH1 n1 L f1 hL hfv=>?_
 have hlk:=ALs (.ofNat st) y2 code
 have q1:(AAA (.ofNat st) y2 code).face.nm=(1,65):=rfl
 have q2:nY∈(AAA (.ofNat st) y2 code).face.ms:=List.mem_cons_self ..
 generalize AAA (.ofNat st) y2 code=fl at*
 refine BZ rfl λH2 f2 g2=>?_
 refine IU g2 rfl hL (by omega) λH3 g3 s3=>?_
 have f3:Kp H1 n1 H3 (n1+1):=⟨by omega,λid hid=>by rw[s3 _ (by omega),f2.same _ hid]⟩
 rw[CV (m:=10) g3 (by omega) hL,AB]
 refine gQ (G:=G) (by omega) ⟨rfl,hL⟩ λH4 f4 e4=>?_
 have hf4:L8 G H4 (n1+1+1) (.sl (n1+1) 0 1 1 10) [fl]:=ACq e4 (by omega) (hfv.ke ((f3.trans f4).ke))
 refine APK hG hO hf4 (λhl H5 n5 ii f5 hi=>?_) λhne H5 n5 f5=>?_
 ·rw[AHc,AB,AGg,AB,AIV,AB,show(!decide (0=0))=false from rfl,BA]
  obtain⟨R,hR⟩:=ALz hl
  refine AKt hG hl hR hi λH6 n6 b hb f6 hi6=>?_
  cases hfst:Rl R (Xw [fl]) (NC [fl])with
  |some p=>
   obtain⟨s,y,r⟩:=p
   rw[show yL 0 (.agg (tJ (some (s,y,r))))=some (.int .i64 (.ofNat 31) 0)from rfl,AB,AIV,AB]
   show AZ (.bool true) true _ _
   rw[BD]
   exact hk _ _
  |none=>
   rw[show yL 0 (.agg (tJ none))=some (.int .i64 (.ofNat 0) 0)from rfl,AB,AIV,AB]
   show AZ (.bool false) true _ _
   obtain⟨t,a,b',fm,vn,hia,-⟩:=hi6.is
   have hn5:=f5.le
   have hn6:=f6.le
   have hbn:=hia.tab.bn
   have e36:∀id,id<n1+1->T.get H6 id=T.get H3 id:=λid q=>by rw[f6.same id (by omega) (by omega),f5.same id (by omega),f4.same id q]
   have g6:=(e36 n1 (by omega)).trans g3
   rw[BA,Dq,AB,Ae,AB,AU (off:=0+0) hia.at' (v:=.ptr t 0) rfl,AB,CV (m:=10) g6 (by omega) hL,AB]
   refine gQ (G:=G) (by omega) ⟨rfl,hL⟩ λH7 f7 e7=>?_
   rw[show Ap [(.int .i64 (.ofNat 0) 0),(.int .i64 (.ofNat 0) 0),(.int .i64 (.ofNat 0) 0)] [(0,1,.c (.int .i64 (.ofNat 500) 0)),(1,1,.c (.int .i64 (.ofNat 50) 0)),(2,1,.c (.int .i64 (.ofNat 5) 0))]=some (.agg [.int .i64 (.ofNat 500) 0,.int .i64 (.ofNat 50) 0,.int .i64 (.ofNat 5) 0])from rfl,AB,El.ok e7,AB]
   refine FZ λH8 f8 g8=>?_
   refine gQ (G:=G) (by omega) ⟨rfl,rfl⟩ λH9 f9 e9=>?_
   have mm:=(ASc (G:=G) (t:=t) (a:=a) (b:=b') (vf:=.sl n6 0 1 1 10) (Bg:=[fl]) (x:=500) (y:=50) (w:=5) (by omega) (by omega) g8).kp f9
   have E:Env (mkM (n6+1) t a b' (.sl n6 0 1 1 10) [fl] ((5:Nat):Int)) G:=AQp hG hl hR hfst
   have e69:∀id,id<n6->T.get H9 id=T.get H6 id:=λid q=>by rw[f9.same id (by omega),f8.same id (by omega),f7.same id q]
   have k19:Ke G H1 n1 H9 (n6+1):=⟨by omega,λv z LS hl h=>h.same λid hid=>by have:=hl id hid;rw[e69 id (by omega),e36 id (by omega),f3.same id (by omega)]⟩
   have hF9:L8 G H9 (n6+1) (.sl n6 0 1 1 10) [fl]:=ACq (e7.same λid hid=>by cases hid;rw[f9.same _ (by omega),f8.same _ (by omega)]) (by omega) (hfv.ke k19)
   have tab9:TabAt G H9 (n6+1) t a b' (EL (CB [fl])):=hia.tab.kb ⟨by omega,λid q _=>e69 id q,λq=>q.same (e69 _ hbn)⟩
   have hrun:∀{Q:KV},(∀W' H' n' s' v,Mm (mkM (n6+1) t a b' (.sl n6 0 1 1 10) [fl] ((5:Nat):Int)) W' G H' n' s'->Q v H' n')->Runs F G NH [.ptr (n6+1) 0,fl.face.nm.v,nY.nm.v,.sl (n6+1+1) 0 1 1 1] H9 (n6+1+1+1) Q:=λ{Q} hQ=>
    ASW E mm tab9 hF9 rfl (by show(0:Int)<=((500:Nat):Int);omega) (by show(0:Int)+1+((500:Nat):Int)<=9000;omega) (List.mem_cons_self ..) q2 rfl (xs:=[y3]) rfl (by show 1<=1000;omega) e9 (λid hid=>by cases hid;exact⟨by omega,if_neg (by omega),by show n6+1+1≠b';omega⟩) λW' H' n' s' v h _ _ _ _=>hQ W' H' n' s' v h
   rw[q1]at hrun
   refine hrun λW' Ha na s' v' ha=>?_
   rw[Dq,AB,Ae,AB,AU (off:=0+5) (id:=n6+1) ha.box (v:=.bool false) rfl,AB,jW,AB]
   exact hk _ _
 ·rw[AHc,AB,AGg,AB,AHW,AB,show decide (O1 [fl]=Int.ofNat 0)=false from decide_eq_false λh=>hne h,Bool.not_false,BD,ah,AB,show decide (O1 [fl]=Int.ofNat 2)=true from decide_eq_true (hlk.resolve_left hne)]
  exact hk _ _
theorem AES(hG:QT G)(hO:gV G){a0:V}{y1 y2 y3:Int}{xs:List Int}(ha:∀H,El G H a0 1 (xs.map λx=>[.int .i64 x 0]))(hk:∀H' n',k (.bool true) H' n'):Runs F G eY [a0,.int .i64 y1 0,.int .i64 y2 0,.int .i64 y3 0] .e 0 k:=by
 refine BN (s:=ar4 (Hl lfp G)) NR (by obtain⟨h,o⟩:=UU BO G;rw[NR]at h;cases h;exact o) ?_
 show Hl lfp G (Runs F G) a0 (.int .i64 y1 0) (.int .i64 y2 0) (.int .i64 y3 0) .e 0 k
 delta Hl
 refine ALh hO λH0 n0=>?_
 have hlen:lenV a0=some (.int .i64 (.ofNat xs.length) 0):=by rw[(ha H0).len,List.length_map]
 rw[Bo,AB,Bool.not_true,BA,hlen,AB,AHP,AB]
 by_cases h60:60<xs.length
 ·rw[decide_eq_true h60]
  repeat (first|with_reducible refine AKo ?_|with_reducible refine ABy ?_)
  rw[BD]
  exact hk _ _
 rw[decide_eq_false h60]
 refine wY rfl (wY hlen (wY (DR ..) (AIt ?_)))
 by_cases h0:xs.length=0
 ·rw[decide_eq_true h0,BD]
  exact hk _ _
 rw[decide_eq_false h0,BA]
 refine yB (G:=G) (vs:=[]) rfl (by omega) (λ_ h=>by cases h) λH1 f1 hg1 _=>?_
 obtain⟨t1,hg1⟩:=hg1
 obtain⟨lo,hl3,elo⟩:=AMx y2 (c:=3) (by omega)
 have hlo:B2.ev .add (.int .i64 (.ofNat 1) 0) (.int .i64 (.ofNat lo) 0)=some (.int .i64 (.ofNat (1+lo)) 0):=by
  show some (V.int .i64 (bT .i64 (ABD (.ofNat 1) (.ofNat lo))) 0)=_
  rw[SQ,fM,show Int.ofNat 1+Int.ofNat lo=Int.ofNat (1+lo)from rfl,Vr (by show(-9223372036854775808:Int)<=((1+lo:Nat):Int);omega) (by show((1+lo:Nat):Int)<9223372036854775808;omega)]
 rw[elo,AB,hlo,AB,AB]
 refine CJ (N:=xs.length) (J:=λi st=>∃H' n' v,∃code:List Ins,st=(a0,V.int .i64 y1 0,V.int .i64 (.ofNat (1+lo)) 0,V.int .i64 y3 0,v,V.int .i64 (.ofNat xs.length) 0,V.int .i64 (.ofNat i) 0,H',n')/\code.length=i/\Sk H' 2 (λid=>id<n') v (code.map Ins.cells)) ?_ ?_ ⟨H1,n0+1,_,[],rfl,rfl,.emp hg1 (Nat.lt_succ_self _)⟩
 ·rintro I i st hi ⟨H2,n2,v,code,rfl,hcl,sk⟩ ih
  show Eu lfp G (Runs F G) k I a0 (.int .i64 y1 0) (.int .i64 (.ofNat (1+lo)) 0) (.int .i64 y3 0) v (.int .i64 (.ofNat xs.length) 0) (.int .i64 (.ofNat i) 0) H2 n2
  delta Eu
  obtain⟨p,hp,hld⟩:=(ha H2).at (i:=i) (c:=[.int .i64 xs[i] 0]) (by simp[hi])
  obtain⟨y,-,ey⟩:=AMx xs[i] (c:=16777215) (by omega)
  obtain⟨r,er⟩:=AAf (a:=.ofNat y) (b:=.ofNat 32) (by decide)
  obtain⟨c,ec⟩:=AFZ (.ofNat 1) r
  obtain⟨u,eu⟩:=AEi (a:=.ofNat y) (b:=.ofNat 32) (by decide)
  obtain⟨w1,ew1⟩:=AAf (a:=u) (b:=.ofNat (1+lo)) (λe=>by have:((1+lo:Nat):Int)=0:=e;omega)
  obtain⟨w2,ew2⟩:=AAf (a:=u) (b:=.ofNat xs.length) (λe=>by have:((xs.length:Nat):Int)=0:=e;omega)
  obtain⟨w3,-,ew3⟩:=AMx u (c:=1) (by omega)
  rw[SB,decide_eq_true hi,AB,BD,hp,AB,L6 hld,AB,ey,AB,er,AB,ec,AB,jV,AB]
  refine BZ rfl λH3 f3 g3=>?_
  show Ba 2 (.ptr n2 0) (.agg (⟨c,0⟩:Cv).cells) _ _ _
  refine IU g3 rfl rfl (by omega) λH4 g4 s4=>?_
  have f4:Kp H2 n2 H4 (n2+1):=⟨by omega,λid hid=>by rw[s4 _ (by omega),f3.same _ hid]⟩
  have j52:∀{H5:Heap} {A:Int},T.get H5 n2=some (one [.int .i64 c 0,.int .i64 A 0])->(∀id,id≠n2->T.get H5 id=T.get H4 id)->CU lfp G (Runs F G) k I a0 (.int .i64 y1 0) (.int .i64 (.ofNat (1+lo)) 0) (.int .i64 y3 0) v (.ptr n2 0) (.int .i64 (.ofNat xs.length) 0) (.int .i64 (.ofNat i) 0) H5 (n2+1):=by
   intro H5 A g5 s5
   delta CU
   have sk5:=sk.mono (B:=λid=>id<n2+1) (λid q=>by omega) λid q=>by rw[s5 id (by omega),f4.same id q]
   rw[CV (m:=2) g5 (by omega) rfl,AB]
   refine sk5.app (G:=G) (m:=0) (c:=.agg (Ins.cells ⟨c,A⟩)) (λid hid=>sk5.own hid) (by omega) rfl rfl (by rw[List.length_map,hcl];omega) λv' H6 hv' s6 hid=>?_
   rw[D7 (by omega),AB]
   refine ih _ ⟨H6,n2+1+2,v',code++[⟨c,A⟩],rfl,by rw[List.length_append,hcl];rfl,?_⟩
   rw[List.map_append]
   exact hv' _ (by omega)
  have put:∀{A:Int},Ba 1 (.ptr n2 (0+1)) (.int .i64 A 0) H4 (n2+1) λv64 H n=>CU lfp G (Runs F G) k I a0 (.int .i64 y1 0) (.int .i64 (.ofNat (1+lo)) 0) (.int .i64 y3 0) v (.ptr n2 0) (.int .i64 (.ofNat xs.length) 0) (.int .i64 (.ofNat i) 0) H n:=λ{A}=>by
   refine XM g4 rfl rfl (by omega) (by show 0+1+1<=2;omega) λH5 g5 s5=>?_
   exact j52 g5 s5
  have j71:∀b,Ew lfp G (Runs F G) k I a0 (.int .i64 y1 0) (.int .i64 (.ofNat (1+lo)) 0) (.int .i64 y3 0) v (.int .i64 (.ofNat y) 0) (.ptr n2 0) (.int .i64 (.ofNat xs.length) 0) (.int .i64 (.ofNat i) 0) (.bool b) H4 (n2+1):=λb=>by
   delta Ew
   cases b with
   |true=>
    rw[BD,eu,AB,ew3,AB,Ae,AB]
    exact put
   |false=>
    rw[BA]
    exact j52 (A:=0) g4 λ_ _=>rfl
  rw[Ae,AB,AU (off:=0+0) g4 (v:=.int .i64 c 0) rfl,AB]
  refine AAR hO ?_
  rw[DR,AB]
  cases decide (kK c=108)with
  |true=>
   rw[BD,eu,AB,ew1,AB,Ae,AB]
   exact put
  |false=>
  rw[BA,DR,AB]
  cases decide (kK c=106)with
  |true=>
   rw[BD,eu,AB,hlen,AB,ew2,AB,Ae,AB]
   exact put
  |false=>
  rw[BA,DR,AB]
  cases decide (kK c=98)with
  |true=>
   rw[BD]
   exact j71 _
  |false=>
  rw[BA,DR,AB]
  exact j71 _
 ·rintro I st ⟨H2,n2,v,code,rfl,hcl,sk⟩
  show Eu lfp G (Runs F G) k I a0 (.int .i64 y1 0) (.int .i64 (.ofNat (1+lo)) 0) (.int .i64 y3 0) v (.int .i64 (.ofNat xs.length) 0) (.int .i64 (.ofNat xs.length) 0) H2 n2
  delta Eu
  rw[SB,decide_eq_false (by omega),AB,BA]
  exact AQg hG hO ⟨sk.el (by omega),λid hid=>sk.own hid,by rw[hcl];unfold big;omega⟩ hk
end
end Go.RL
