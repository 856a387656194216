/- Part of a proof; nothing is assumed. -/
import Derived.Test.YtibbhhkcjjeclaaDoorConB
import Derived.Test.YtibbhhkcjjeclaaDoorWalk
set_option linter.unusedVariables false
set_option linter.unusedSimpArgs false
namespace Go.RL
open Go.Bv
set_option maxRecDepth 100000
abbrev AC5:Sh:=.st [.str,.bool]
abbrev ABj:Sh:=.st [.str,AC5]
abbrev ACU:Sh:=.st [.str,.bool,.sl 2 AC5,AC5]
abbrev AIx:Sh:=.st [.str,.str,.sl 3 ABj,.sl 5 ACU]
abbrev AH2:Sh:=.st [.sl 1 (.int .i64),.sl 1 .str,.sl 2 AC5,.sl 4 (.st [ABj,.str]),.sl 6 (.st [ACU,.str])]
abbrev AQG:Sh:=.st [.int .i64,.int .i64]
abbrev AIB:Sh:=.st [.int .i64,.int .i64,.sl 2 AQG]
abbrev AHt:Sh:=.st [AIx,AH2,.sl 3 AIB]
theorem pick{α:Type}{Q:α->LV->Prop}:∀{LS:ET},(∀L∈LS,∃x,Q x L)->∃xs:List α,xs.length=LS.length/\∀(i:Nat) (x:α) (L:LV),xs[i]? =some x->LS[i]? =some L->Q x L
 |[],_=>⟨[],rfl,λi x L h=>by simp at h⟩
 |L::LS,h=>by
  obtain⟨x,hx⟩:=h L (List.mem_cons_self ..)
  obtain⟨xs,hl,hq⟩:=pick (LS:=LS) λL hL=>h L (List.mem_cons_of_mem _ hL)
  refine⟨x::xs,by simp[hl],λi y M h1 h2=>?_⟩
  cases i with
  |zero=>simp at h1 h2;subst h1;subst h2;exact hx
  |succ i=>simp at h1 h2;exact hq i y M h1 h2
theorem fF{α:Type}{g:α->LV}{R:α->Prop}{LS:ET}(h:∀L∈LS,∃x,L=g x/\R x):∃xs:List α,LS=xs.map g/\∀x∈xs,R x:=by
 obtain⟨xs,hl,hq⟩:=pick (Q:=λx L=>L=g x/\R x) h
 refine⟨xs,?_,λx hx=>?_⟩
 ·apply List.ext_getElem (by simp[hl])
  intro i h1 h2
  rw[List.getElem_map]
  exact(hq i _ _ (List.getElem?_eq_getElem (by simp at h2;exact h2)) (List.getElem?_eq_getElem h1)).1
 ·obtain⟨i,hi⟩:=List.mem_iff_getElem?.1 hx
  have hlt:=(List.getElem?_eq_some_iff.1 hi).1
  exact(hq i _ _ hi (List.getElem?_eq_getElem (by omega))).2
theorem AA0{α:Type}{g:α->V->LV}{R:α->V->Prop}{LS:ET}(h:∀L∈LS,∃x w,L=g x w/\R x w):
 ∃(xs:List α) (ws:List V),ws.length=xs.length/\xs.length=LS.length/\LS=List.zipWith g xs ws/\∀(i:Nat) (x:α) (w:V),xs[i]? =some x->ws[i]? =some w->R x w:=by
 obtain⟨ps,hl,hq⟩:=pick (α:=α×V) (Q:=λp L=>L=g p.1 p.2/\R p.1 p.2) λL hL=>by
  obtain⟨x,w,h1,h2⟩:=h L hL;exact⟨(x,w),h1,h2⟩
 refine⟨ps.map (·.1),ps.map (·.2),by simp,by simp[hl],?_,λi x w h1 h2=>?_⟩
 ·apply List.ext_getElem (by simp[hl])
  intro i h1 h2
  simp only[List.getElem_zipWith,List.getElem_map]
  exact(hq i _ _ (List.getElem?_eq_getElem (by simp at h2;exact h2)) (List.getElem?_eq_getElem h1)).1
 ·rw[List.getElem?_map]at h1 h2
  cases hp:ps[i]? with
  |none=>rw[hp]at h1;cases h1
  |some p=>
   rw[hp]at h1 h2
   cases h1;cases h2
   have hlt:=(List.getElem?_eq_some_iff.1 hp).1
   exact(hq i _ _ hp (List.getElem?_eq_getElem (by omega))).2
theorem _root_.Go.Bv.RSl.lo{v:V}{m n:Nat}(h:RSl v m):Lo v n:=by
 rcases h with⟨rfl,_⟩|⟨b,o,c,rfl,_,_⟩<;>intro id hid<;>cases hid
theorem dH{m:Nat}(h:m<=maxLen):m<big:=by unfold maxLen at h;unfold big;omega
section
variable{G:AX}
theorem Xp{L:LV}(h:Fits G .str L):∃s:St,s.ok/\L=[s.v]:=by
 obtain⟨s,_,rfl⟩:=h
 refine⟨(s.length,enc s),λh=>?_,rfl⟩
 have h:s.length=0:=h
 have:s=[]:=List.length_eq_zero_iff.1 h
 subst this;rfl
theorem AFN{L:LV}(h:Fits G AC5 L):∃t:Ty,t.nm.ok/\L=t.cells:=by
 obtain⟨a,r,rfl,ha,b,r2,rfl,hb,rfl⟩:=(show aP G [.str,.bool] L from h)
 obtain⟨s,hs,rfl⟩:=Xp ha
 obtain⟨c,rfl⟩:=hb
 exact⟨⟨s,c⟩,hs,rfl⟩
theorem AG4{L:LV}(h:Fits G (.sl 2 AC5) L):∃v xs,L=[v]/\∀H n,KI G H n v xs:=by
 obtain⟨v,LS,rfl,hr,hel,hle,hall⟩:=h
 obtain⟨xs,rfl,hok⟩:=fF (g:=Ty.cells) (R:=λt=>t.nm.ok) (LS:=LS) λL hL=>by
  obtain⟨t,h1,h2⟩:=AFN (hall L hL).2;exact⟨t,h2,h1⟩
 exact⟨v,xs,rfl,λH n=>⟨hel H,hr.lo,dH (by simpa using hle),hok⟩⟩
theorem AHB{L:LV}(h:Fits G ABj L):∃f:ku,(f.nm.ok/\f.ty.nm.ok)/\L=f.cells:=by
 obtain⟨a,r,rfl,ha,b,r2,rfl,hb,rfl⟩:=(show aP G [.str,AC5] L from h)
 obtain⟨s,hs,rfl⟩:=Xp ha
 obtain⟨t,ht,rfl⟩:=AFN hb
 exact⟨⟨s,t⟩,⟨hs,ht⟩,rfl⟩
theorem ALH{L:LV}(h:Fits G (.sl 3 ABj) L):∃v xs,L=[v]/\∀H n,TM G H n v xs:=by
 obtain⟨v,LS,rfl,hr,hel,hle,hall⟩:=h
 obtain⟨xs,rfl,hok⟩:=fF (g:=ku.cells) (R:=λt=>t.nm.ok/\t.ty.nm.ok) (LS:=LS) λL hL=>by
  obtain⟨t,h1,h2⟩:=AHB (hall L hL).2;exact⟨t,h2,h1⟩
 exact⟨v,xs,rfl,λH n=>⟨hel H,hr.lo,dH (by simpa using hle),hok⟩⟩
theorem AGJ{L:LV}(h:Fits G ACU L):∃(m:DK) (w:V),L=m.cells w/\(∀H n,KI G H n w m.ps)/\(m.nm.ok/\m.ret.nm.ok):=by
 obtain⟨a,r,rfl,ha,b,r2,rfl,hb,c,r3,rfl,hc,d,r4,rfl,hd,rfl⟩:=(show aP G [.str,.bool,.sl 2 AC5,AC5] L from h)
 obtain⟨s,hs,rfl⟩:=Xp ha
 obtain⟨t,rfl⟩:=hb
 obtain⟨w,ps,rfl,hw⟩:=AG4 hc
 obtain⟨t2,ht,rfl⟩:=AFN hd
 exact⟨⟨s,t,ps,t2⟩,w,rfl,hw,hs,ht⟩
theorem AKh{L:LV}(h:Fits G (.sl 5 ACU) L):∃v ms ws,L=[v]/\∀H n,MC G H n v ms ws:=by
 obtain⟨v,LS,rfl,hr,hel,hle,hall⟩:=h
 obtain⟨ms,ws,h1,h2,rfl,hq⟩:=AA0 (g:=DK.cells) (R:=λm w=>(∀H n,KI G H n w m.ps)/\(m.nm.ok/\m.ret.nm.ok)) (LS:=LS) λL hL=>by
  obtain⟨t,w,h1,h2⟩:=AGJ (hall L hL).2;exact⟨t,w,h1,h2⟩
 refine⟨v,ms,ws,rfl,λH n=>⟨hel H,hr.lo,dH (by omega),h1,λi m w a b=>(hq i m w a b).1 H n,λm hm=>?_⟩⟩
 obtain⟨i,hi⟩:=List.mem_iff_getElem?.1 hm
 have hlt:=(List.getElem?_eq_some_iff.1 hi).1
 exact(hq i m _ hi (List.getElem?_eq_getElem (by omega))).2
theorem ALA{L:LV}(h:Fits G AIx L):∃(c:Fc) (vf vm:V) (ws:List V),L=[c.nm.v,c.sup.v,vf,vm]/\∀H n,Xv G H n [c.nm.v,c.sup.v,vf,vm] c vf vm ws:=by
 obtain⟨a,r,rfl,ha,b,r2,rfl,hb,c,r3,rfl,hc,d,r4,rfl,hd,rfl⟩:=(show aP G [.str,.str,.sl 3 ABj,.sl 5 ACU] L from h)
 obtain⟨s,hs,rfl⟩:=Xp ha
 obtain⟨u,hu,rfl⟩:=Xp hb
 obtain⟨vf,fs,rfl,hf⟩:=ALH hc
 obtain⟨vm,ms,ws,rfl,hm⟩:=AKh hd
 exact⟨⟨s,u,fs,ms⟩,vf,vm,ws,rfl,λH n=>⟨rfl,hf H n,hm H n,hs,hu⟩⟩
theorem AKZ{L:LV}(h:Fits G AH2 L):∃(p:Pool) (v0 v1 v2 v3 v4:V) (ws:List V),L=[v0,v1,v2,v3,v4]/\∀H n,FD G H n p v0 v1 v2 v3 v4 ws:=by
 obtain⟨a,r,rfl,ha,b,r2,rfl,hb,c,r3,rfl,hc,d,r4,rfl,hd,e,r5,rfl,he,rfl⟩:=(show aP G [.sl 1 (.int .i64),.sl 1 .str,.sl 2 AC5,.sl 4 (.st [ABj,.str]),.sl 6 (.st [ACU,.str])] L from h)
 obtain⟨v0,L0,rfl,r0,e0,l0,a0⟩:=ha
 obtain⟨v1,L1,rfl,r1,e1,l1,a1⟩:=hb
 obtain⟨v2,ts,rfl,h2⟩:=AG4 hc
 obtain⟨v3,L3,rfl,r3,e3,l3,a3⟩:=hd
 obtain⟨v4,L4,rfl,r4,e4,l4,a4⟩:=he
 obtain⟨ns,rfl,-⟩:=fF (g:=λa:Int=>[V.int .i64 a 0]) (R:=λ_=>True) (LS:=L0) λL hL=>by
  obtain⟨m,rfl⟩:=(a0 L hL).2;exact⟨m,rfl,trivial⟩
 obtain⟨ss,rfl,o1⟩:=fF (g:=λs:St=>[s.v]) (R:=λs=>s.ok) (LS:=L1) λL hL=>by
  obtain⟨s,hs,rfl⟩:=Xp (a1 L hL).2;exact⟨s,rfl,hs⟩
 obtain⟨fs,rfl,o3⟩:=fF (g:=PF.cells) (R:=λf=>f.f.nm.ok/\f.f.ty.nm.ok/\f.own.ok) (LS:=L3) λL hL=>by
  obtain⟨a,r,rfl,ha,b,r2,rfl,hb,rfl⟩:=(show aP G [ABj,.str] L from(a3 L hL).2)
  obtain⟨f,hf,rfl⟩:=AHB ha
  obtain⟨s,hs,rfl⟩:=Xp hb
  exact⟨⟨f,s⟩,rfl,hf.1,hf.2,hs⟩
 obtain⟨ms,ws,q1,q2,rfl,hq⟩:=AA0 (g:=PM.cells) (R:=λm w=>(∀H n,KI G H n w m.m.ps)/\(m.m.nm.ok/\m.m.ret.nm.ok/\m.own.ok)) (LS:=L4) λL hL=>by
  obtain⟨a,r,rfl,ha,b,r2,rfl,hb,rfl⟩:=(show aP G [ACU,.str] L from(a4 L hL).2)
  obtain⟨m,w,rfl,hw,ho⟩:=AGJ ha
  obtain⟨s,hs,rfl⟩:=Xp hb
  exact⟨⟨m,s⟩,w,rfl,hw,ho.1,ho.2,hs⟩
 refine⟨⟨ns,ss,ts,fs,ms⟩,v0,v1,v2,v3,v4,ws,rfl,λH n=>⟨e0 H,r0.lo,dH (by simpa using l0),e1 H,r1.lo,dH (by simpa using l1),o1,h2 H n,e3 H,r3.lo,dH (by simpa using l3),o3,
  e4 H,r4.lo,dH (by show ms.length<=maxLen;omega),q1,λi m w a b=>(hq i m w a b).1 H n,λm hm=>?_⟩⟩
 obtain⟨i,hi⟩:=List.mem_iff_getElem?.1 hm
 have hlt:i<ms.length:=(List.getElem?_eq_some_iff.1 hi).1
 exact(hq i m _ hi (List.getElem?_eq_getElem (by omega))).2
theorem AGv{L:LV}(h:Fits G (.sl 3 AIB) L):∃v bs ws,L=[v]/\∀H n,KP G H n v bs ws:=by
 obtain⟨v,LS,rfl,hr,hel,hle,hall⟩:=h
 obtain⟨bs,ws,h1,h2,rfl,hq⟩:=AA0 (g:=Bd.cells) (R:=λb w=>∀H n,Oq G H n w b.code) (LS:=LS) λL hL=>by
  obtain⟨a,r,rfl,ha,b,r2,rfl,hb,c,r3,rfl,hc,rfl⟩:=(show aP G [.int .i64,.int .i64,.sl 2 AQG] L from(hall L hL).2)
  obtain⟨x,rfl⟩:=ha
  obtain⟨y,rfl⟩:=hb
  obtain⟨w,LC,rfl,hr,hel,hle,hall⟩:=hc
  obtain⟨is,rfl,-⟩:=fF (g:=Ins.cells) (R:=λ_=>True) (LS:=LC) λL hL=>by
   obtain⟨a,r,rfl,ha,b,r2,rfl,hb,rfl⟩:=(show aP G [.int .i64,.int .i64] L from(hall L hL).2)
   obtain⟨x,rfl⟩:=ha
   obtain⟨y,rfl⟩:=hb
   exact⟨⟨x,y⟩,rfl,trivial⟩
  exact⟨⟨x,y,is⟩,w,rfl,λH n=>⟨hel H,hr.lo,dH (by simpa using hle)⟩⟩
 exact⟨v,bs,ws,rfl,λH n=>⟨hel H,hr.lo,dH (by omega),h1,λi b w x y=>hq i b w x y H n⟩⟩
theorem ALG{L:LV}(h:Fits G AHt L):∃f:Fl,∀H n,Vt G H n (.agg L) f:=by
 obtain⟨a,r,rfl,ha,b,r2,rfl,hb,c,r3,rfl,hc,rfl⟩:=(show aP G [AIx,AH2,.sl 3 AIB] L from h)
 obtain⟨c,vf,vm,mws,rfl,hf⟩:=ALA ha
 obtain⟨p,v0,v1,v2,v3,v4,ws,rfl,hp⟩:=AKZ hb
 obtain⟨vb,bs,bws,rfl,hb⟩:=AGv hc
 exact⟨⟨c,p,bs⟩,λH n=>⟨_,vf,vm,v0,v1,v2,v3,v4,vb,mws,ws,bws,⟨rfl,hf H n,hp H n,hb H n⟩,rfl⟩⟩
theorem AIF{L:LV}(h:Fits G (.sl 10 AHt) L):∃v BM,L=[v]/\RSl v BM.length/\∀H n,Jf G H n v BM:=by
 obtain⟨v,LS,rfl,hr,hel,hle,hall⟩:=h
 obtain⟨BM,hl,hq⟩:=pick (α:=Fl) (Q:=λf L=>∀H n,Vt G H n (.agg L) f) (LS:=LS) λL hL=>ALG (hall L hL).2
 exact⟨v,BM,rfl,by rw[hl];exact hr,λH n=>⟨⟨LS,hel H,hl.symm,λi L f a b=>hq i f L b a H n⟩,hr.lo,dH (by omega)⟩⟩
end
end Go.RL
