/- Part of a proof: texts LRM of the engine and what is proved with it; nothing is assumed. -/
import Derived.Test.YtibbhhkcjjeclaaDoorConB
import Derived.Test.YtibbhhkcjjeclaaDoorWalk
set_option linter.unusedVariables false
set_option linter.unusedSimpArgs false
namespace Go.RL
open Go.CS
set_option maxRecDepth 100000
abbrev ABl:Sh:=.st [.str,.bool]
abbrev zQ:Sh:=.st [.str,ABl]
abbrev AAZ:Sh:=.st [.str,.bool,.sl 2 ABl,ABl]
abbrev AF9:Sh:=.st [.str,.str,.sl 3 zQ,.sl 5 AAZ]
abbrev AG3:Sh:=.st [.sl 1 (.int .i64),.sl 1 .str,.sl 2 ABl,.sl 4 (.st [zQ,.str]),.sl 6 (.st [AAZ,.str])]
abbrev AOS:Sh:=.st [.int .i64,.int .i64]
abbrev AGS:Sh:=.st [.int .i64,.int .i64,.sl 2 AOS]
abbrev AGn:Sh:=.st [AF9,AG3,.sl 3 AGS]
theorem pick{α:Type}{Q:α->LV->Prop}:∀{LS:EW},(∀L∈LS,∃x,Q x L)->∃xs:List α,xs.length=LS.length/\∀(i:Nat) (x:α) (L:LV),xs[i]? =some x->LS[i]? =some L->Q x L
 |[],_=>⟨[],rfl,λi x L h=>by simp at h⟩
 |L::LS,h=>by
  obtain⟨x,hx⟩:=h L (List.mem_cons_self ..)
  obtain⟨xs,hl,hq⟩:=pick (LS:=LS) λL hL=>h L (List.mem_cons_of_mem _ hL)
  refine⟨x::xs,by simp[hl],λi y M h1 h2=>?_⟩
  cases i with
  |zero=>simp at h1 h2;subst h1;subst h2;exact hx
  |succ i=>simp at h1 h2;exact hq i y M h1 h2
theorem bg{α:Type}{g:α->LV}{R:α->Prop}{LS:EW}(h:∀L∈LS,∃x,L=g x/\R x):∃xs:List α,LS=xs.map g/\∀x∈xs,R x:=by
 obtain⟨xs,hl,hq⟩:=pick (Q:=λx L=>L=g x/\R x) h
 refine⟨xs,?_,λx hx=>?_⟩
 ·apply List.ext_getElem (by simp[hl])
  intro i h1 h2
  rw[List.getElem_map]
  exact(hq i _ _ (List.getElem?_eq_getElem (by simp at h2;exact h2)) (List.getElem?_eq_getElem h1)).1
 ·obtain⟨i,hi⟩:=List.mem_iff_getElem?.1 hx
  have hlt:=(List.getElem?_eq_some_iff.1 hi).1
  exact(hq i _ _ hi (List.getElem?_eq_getElem (by omega))).2
theorem AAx{α:Type}{g:α->V->LV}{R:α->V->Prop}{LS:EW}(h:∀L∈LS,∃x w,L=g x w/\R x w):
 ∃(xs:List α) (ws:List V),ws.length=xs.length/\xs.length=LS.length/\LS=List.zipWith g xs ws/\∀(i:Nat) (x:α) (w:V),xs[i]? =some x->ws[i]? =some w->R x w:=by
 obtain⟨ps,hl,hq⟩:=pick (α:=α×V) (Q:=λp L=>L=g p.1 p.2/\R p.1 p.2) λL hL=>by
  obtain⟨x,w,h1,h2⟩:=h L hL;exact⟨(x,w),h1,h2⟩
 refine⟨ps.map (·.1),ps.map (·.2),by simp,by simp[hl],?_,λi x w h1 h2=>?_⟩
 ·apply List.ext_getElem (by simp[hl])
  intro i h1 h2
  simp only[List.getElem_zipWith,List.getElem_map]
  exact(hq i _ _ (List.getElem?_eq_getElem (by simp at h2;exact h2)) (List.getElem?_eq_getElem h1)).1
 ·rw[List.getElem?_map]at h1 h2
  cases hp:ps[i]? with
  |none=>rw[hp]at h1;cases h1
  |some p=>
   rw[hp]at h1 h2
   cases h1;cases h2
   have hlt:=(List.getElem?_eq_some_iff.1 hp).1
   exact(hq i _ _ hp (List.getElem?_eq_getElem (by omega))).2
theorem _root_.Go.CS.RSl.lo{v:V}{m n:Nat}(h:RSl v m):Lo v n:=by
 rcases h with⟨rfl,_⟩|⟨b,o,c,rfl,_,_⟩<;>intro id hid<;>cases hid
theorem Zj{m:Nat}(h:m<=maxLen):m<big:=by unfold maxLen at h;unfold big;omega
section
variable{G:AQ}
theorem WA{L:LV}(h:Fits G .str L):∃s:St,s.ok/\L=[s.v]:=by
 obtain⟨s,_,rfl⟩:=h
 refine⟨(s.length,enc s),λh=>?_,rfl⟩
 have h:s.length=0:=h
 have:s=[]:=List.length_eq_zero_iff.1 h
 subst this;rfl
theorem AD5{L:LV}(h:Fits G ABl L):∃t:Ty,t.nm.ok/\L=t.cells:=by
 obtain⟨a,r,rfl,ha,b,r2,rfl,hb,rfl⟩:=(show ZR G [.str,.bool] L from h)
 obtain⟨s,hs,rfl⟩:=WA ha
 obtain⟨c,rfl⟩:=hb
 exact⟨⟨s,c⟩,hs,rfl⟩
theorem AFk{L:LV}(h:Fits G (.sl 2 ABl) L):∃v xs,L=[v]/\∀H n,L6 G H n v xs:=by
 obtain⟨v,LS,rfl,hr,hel,hle,hall⟩:=h
 obtain⟨xs,rfl,hok⟩:=bg (g:=Ty.cells) (R:=λt=>t.nm.ok) (LS:=LS) λL hL=>by
  obtain⟨t,h1,h2⟩:=AD5 (hall L hL).2;exact⟨t,h2,h1⟩
 exact⟨v,xs,rfl,λH n=>⟨hel H,hr.lo,Zj (by simpa using hle),hok⟩⟩
theorem AFv{L:LV}(h:Fits G zQ L):∃f:Fld,(f.nm.ok/\f.ty.nm.ok)/\L=f.cells:=by
 obtain⟨a,r,rfl,ha,b,r2,rfl,hb,rfl⟩:=(show ZR G [.str,ABl] L from h)
 obtain⟨s,hs,rfl⟩:=WA ha
 obtain⟨t,ht,rfl⟩:=AD5 hb
 exact⟨⟨s,t⟩,⟨hs,ht⟩,rfl⟩
theorem AJC{L:LV}(h:Fits G (.sl 3 zQ) L):∃v xs,L=[v]/\∀H n,UM G H n v xs:=by
 obtain⟨v,LS,rfl,hr,hel,hle,hall⟩:=h
 obtain⟨xs,rfl,hok⟩:=bg (g:=Fld.cells) (R:=λt=>t.nm.ok/\t.ty.nm.ok) (LS:=LS) λL hL=>by
  obtain⟨t,h1,h2⟩:=AFv (hall L hL).2;exact⟨t,h2,h1⟩
 exact⟨v,xs,rfl,λH n=>⟨hel H,hr.lo,Zj (by simpa using hle),hok⟩⟩
theorem AEk{L:LV}(h:Fits G AAZ L):∃(m:ES) (w:V),L=m.cells w/\(∀H n,L6 G H n w m.ps)/\(m.nm.ok/\m.ret.nm.ok):=by
 obtain⟨a,r,rfl,ha,b,r2,rfl,hb,c,r3,rfl,hc,d,r4,rfl,hd,rfl⟩:=(show ZR G [.str,.bool,.sl 2 ABl,ABl] L from h)
 obtain⟨s,hs,rfl⟩:=WA ha
 obtain⟨t,rfl⟩:=hb
 obtain⟨w,ps,rfl,hw⟩:=AFk hc
 obtain⟨t2,ht,rfl⟩:=AD5 hd
 exact⟨⟨s,t,ps,t2⟩,w,rfl,hw,hs,ht⟩
theorem AJD{L:LV}(h:Fits G (.sl 5 AAZ) L):∃v ms ws,L=[v]/\∀H n,MJ G H n v ms ws:=by
 obtain⟨v,LS,rfl,hr,hel,hle,hall⟩:=h
 obtain⟨ms,ws,h1,h2,rfl,hq⟩:=AAx (g:=ES.cells) (R:=λm w=>(∀H n,L6 G H n w m.ps)/\(m.nm.ok/\m.ret.nm.ok)) (LS:=LS) λL hL=>by
  obtain⟨t,w,h1,h2⟩:=AEk (hall L hL).2;exact⟨t,w,h1,h2⟩
 refine⟨v,ms,ws,rfl,λH n=>⟨hel H,hr.lo,Zj (by omega),h1,λi m w a b=>(hq i m w a b).1 H n,λm hm=>?_⟩⟩
 obtain⟨i,hi⟩:=List.mem_iff_getElem?.1 hm
 have hlt:=(List.getElem?_eq_some_iff.1 hi).1
 exact(hq i m _ hi (List.getElem?_eq_getElem (by omega))).2
theorem AJJ{L:LV}(h:Fits G AF9 L):∃(c:Fc) (vf vm:V) (ws:List V),L=[c.nm.v,c.sup.v,vf,vm]/\∀H n,WZ G H n [c.nm.v,c.sup.v,vf,vm] c vf vm ws:=by
 obtain⟨a,r,rfl,ha,b,r2,rfl,hb,c,r3,rfl,hc,d,r4,rfl,hd,rfl⟩:=(show ZR G [.str,.str,.sl 3 zQ,.sl 5 AAZ] L from h)
 obtain⟨s,hs,rfl⟩:=WA ha
 obtain⟨u,hu,rfl⟩:=WA hb
 obtain⟨vf,fs,rfl,hf⟩:=AJC hc
 obtain⟨vm,ms,ws,rfl,hm⟩:=AJD hd
 exact⟨⟨s,u,fs,ms⟩,vf,vm,ws,rfl,λH n=>⟨rfl,hf H n,hm H n,hs,hu⟩⟩
theorem AIm{L:LV}(h:Fits G AG3 L):∃(p:Pool) (v0 v1 v2 v3 v4:V) (ws:List V),L=[v0,v1,v2,v3,v4]/\∀H n,IG G H n p v0 v1 v2 v3 v4 ws:=by
 obtain⟨a,r,rfl,ha,b,r2,rfl,hb,c,r3,rfl,hc,d,r4,rfl,hd,e,r5,rfl,he,rfl⟩:=(show ZR G [.sl 1 (.int .i64),.sl 1 .str,.sl 2 ABl,.sl 4 (.st [zQ,.str]),.sl 6 (.st [AAZ,.str])] L from h)
 obtain⟨v0,L0,rfl,r0,e0,l0,a0⟩:=ha
 obtain⟨v1,L1,rfl,r1,e1,l1,a1⟩:=hb
 obtain⟨v2,ts,rfl,h2⟩:=AFk hc
 obtain⟨v3,L3,rfl,r3,e3,l3,a3⟩:=hd
 obtain⟨v4,L4,rfl,r4,e4,l4,a4⟩:=he
 obtain⟨ns,rfl,-⟩:=bg (g:=λa:Int=>[V.int .i64 a 0]) (R:=λ_=>True) (LS:=L0) λL hL=>by
  obtain⟨m,rfl⟩:=(a0 L hL).2;exact⟨m,rfl,trivial⟩
 obtain⟨ss,rfl,o1⟩:=bg (g:=λs:St=>[s.v]) (R:=λs=>s.ok) (LS:=L1) λL hL=>by
  obtain⟨s,hs,rfl⟩:=WA (a1 L hL).2;exact⟨s,rfl,hs⟩
 obtain⟨fs,rfl,o3⟩:=bg (g:=PF.cells) (R:=λf=>f.f.nm.ok/\f.f.ty.nm.ok/\f.own.ok) (LS:=L3) λL hL=>by
  obtain⟨a,r,rfl,ha,b,r2,rfl,hb,rfl⟩:=(show ZR G [zQ,.str] L from(a3 L hL).2)
  obtain⟨f,hf,rfl⟩:=AFv ha
  obtain⟨s,hs,rfl⟩:=WA hb
  exact⟨⟨f,s⟩,rfl,hf.1,hf.2,hs⟩
 obtain⟨ms,ws,q1,q2,rfl,hq⟩:=AAx (g:=PM.cells) (R:=λm w=>(∀H n,L6 G H n w m.m.ps)/\(m.m.nm.ok/\m.m.ret.nm.ok/\m.own.ok)) (LS:=L4) λL hL=>by
  obtain⟨a,r,rfl,ha,b,r2,rfl,hb,rfl⟩:=(show ZR G [AAZ,.str] L from(a4 L hL).2)
  obtain⟨m,w,rfl,hw,ho⟩:=AEk ha
  obtain⟨s,hs,rfl⟩:=WA hb
  exact⟨⟨m,s⟩,w,rfl,hw,ho.1,ho.2,hs⟩
 refine⟨⟨ns,ss,ts,fs,ms⟩,v0,v1,v2,v3,v4,ws,rfl,λH n=>⟨e0 H,r0.lo,Zj (by simpa using l0),e1 H,r1.lo,Zj (by simpa using l1),o1,h2 H n,e3 H,r3.lo,Zj (by simpa using l3),o3,
  e4 H,r4.lo,Zj (by show ms.length<=maxLen;omega),q1,λi m w a b=>(hq i m w a b).1 H n,λm hm=>?_⟩⟩
 obtain⟨i,hi⟩:=List.mem_iff_getElem?.1 hm
 have hlt:i<ms.length:=(List.getElem?_eq_some_iff.1 hi).1
 exact(hq i m _ hi (List.getElem?_eq_getElem (by omega))).2
theorem AFA{L:LV}(h:Fits G (.sl 3 AGS) L):∃v bs ws,L=[v]/\∀H n,KY G H n v bs ws:=by
 obtain⟨v,LS,rfl,hr,hel,hle,hall⟩:=h
 obtain⟨bs,ws,h1,h2,rfl,hq⟩:=AAx (g:=Bd.cells) (R:=λb w=>∀H n,SK G H n w b.code) (LS:=LS) λL hL=>by
  obtain⟨a,r,rfl,ha,b,r2,rfl,hb,c,r3,rfl,hc,rfl⟩:=(show ZR G [.int .i64,.int .i64,.sl 2 AOS] L from(hall L hL).2)
  obtain⟨x,rfl⟩:=ha
  obtain⟨y,rfl⟩:=hb
  obtain⟨w,LC,rfl,hr,hel,hle,hall⟩:=hc
  obtain⟨is,rfl,-⟩:=bg (g:=Ins.cells) (R:=λ_=>True) (LS:=LC) λL hL=>by
   obtain⟨a,r,rfl,ha,b,r2,rfl,hb,rfl⟩:=(show ZR G [.int .i64,.int .i64] L from(hall L hL).2)
   obtain⟨x,rfl⟩:=ha
   obtain⟨y,rfl⟩:=hb
   exact⟨⟨x,y⟩,rfl,trivial⟩
  exact⟨⟨x,y,is⟩,w,rfl,λH n=>⟨hel H,hr.lo,Zj (by simpa using hle)⟩⟩
 exact⟨v,bs,ws,rfl,λH n=>⟨hel H,hr.lo,Zj (by omega),h1,λi b w x y=>hq i b w x y H n⟩⟩
theorem AI3{L:LV}(h:Fits G AGn L):∃f:Fl,∀H n,YJ G H n (.agg L) f:=by
 obtain⟨a,r,rfl,ha,b,r2,rfl,hb,c,r3,rfl,hc,rfl⟩:=(show ZR G [AF9,AG3,.sl 3 AGS] L from h)
 obtain⟨c,vf,vm,mws,rfl,hf⟩:=AJJ ha
 obtain⟨p,v0,v1,v2,v3,v4,ws,rfl,hp⟩:=AIm hb
 obtain⟨vb,bs,bws,rfl,hb⟩:=AFA hc
 exact⟨⟨c,p,bs⟩,λH n=>⟨_,vf,vm,v0,v1,v2,v3,v4,vb,mws,ws,bws,⟨rfl,hf H n,hp H n,hb H n⟩,rfl⟩⟩
theorem AGC{L:LV}(h:Fits G (.sl 10 AGn) L):∃v fls,L=[v]/\RSl v fls.length/\∀H n,UQ G H n v fls:=by
 obtain⟨v,LS,rfl,hr,hel,hle,hall⟩:=h
 obtain⟨fls,hl,hq⟩:=pick (α:=Fl) (Q:=λf L=>∀H n,YJ G H n (.agg L) f) (LS:=LS) λL hL=>AI3 (hall L hL).2
 exact⟨v,fls,rfl,by rw[hl];exact hr,λH n=>⟨⟨LS,hel H,hl.symm,λi L f a b=>hq i f L b a H n⟩,hr.lo,Zj (by omega)⟩⟩
end
end Go.RL
