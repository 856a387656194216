/- Part of a proof; nothing is assumed. -/
import Derived.Test.YtmbhlmocojopaaaGreatDoorConH
import Derived.Test.YtmbhlmocojopaaaGreatDoorConF
import Derived.Test.YtmbhlmocojopaaaGreatDoorWalk
import Derived.Test.YtmbhlmocojopaaaGreatDoorEngE
set_option linter.unusedVariables false
set_option linter.unusedSimpArgs false
namespace Go.RL
open Go.DW
set_option maxRecDepth 100000
instance decOk(s:St):Decidable s.ok:=by unfold St.ok;infer_instance
theorem AI1:∀(i:Nat) (ts:List Ty),(TG i ts).map Dh.ty=ts
 |_,[]=>rfl
 |i,t::l=>by show t::(TG (i+1) l).map Dh.ty=_;rw[AI1 (i+1) l]
theorem yV.sig{cls:St}{m:Tm}{q:Es}(h:yV cls m q):bH m=q:=by
 obtain⟨h1,h2,h3,h4,_⟩:=h
 unfold bH
 rw[h1,h2,h3,h4,AI1]
theorem yV.ok{cls:St}{m:Tm}{q:Es}(h:yV cls m q)(hn:q.nm.ok)(hr:q.ret.nm.ok)(hp:∀t∈q.ps,t.nm.ok)(hl:q.ps.length<=1000):AH9 m:=by
 obtain⟨h1,h2,h3,h4,_⟩:=h
 refine⟨by rw[h1];exact hn,by rw[h3];exact hr,λf hf=>?_,by rw[h4,kK];exact hl⟩
 rw[h4]at hf
 exact hp _ (jw _ _ _ hf).2
theorem isA:O7 (zY Dh.nm) fsA=RG.fs:=by kernel_rfl
theorem AaC:O7 (zY Es.nm) [Qn,iC,RD,wL]=RG.ms:=by kernel_rfl
theorem AZb:O7 (zY Es.nm) [Qn,RD]=[Qn,RD]:=by kernel_rfl
structure AJu(A B:Tc):Prop where
 fa:Bc A=RG
 fb:∃g s,Bc B=Xx g s
 na:A.nm=nA
 nb:B.nm=nB
 oa:AEV A
 ob:AEV B
 ga:∀m∈A.ms,GdM nA m
 gb:∀m∈B.ms,GdM nB m
theorem sgG{cls:St}{m:Tm}(h:yV cls m Qn):AH9 m:=h.ok (by decide) (by decide) (by decide) (by decide)
theorem sgS{cls:St}{m:Tm}(h:yV cls m iC):AH9 m:=h.ok (by decide) (by decide) (by decide) (by decide)
theorem sgU{cls:St}{m:Tm}(h:yV cls m RD):AH9 m:=h.ok (by decide) (by decide) (by decide) (by decide)
theorem sgM{cls:St}{m:Tm}(h:yV cls m wL):AH9 m:=h.ok (by decide) (by decide) (by decide) (by decide)
theorem Made.w{A B:Tc}(h:Made A B):AJu A B:=by
 cases h with
 |mk g s h1 h2 h3 h4 hg hs=>
 rename_i m1 m2 m3 m4 bg bs
 have fb:∃g s,Bc ⟨nB,nA,fsB,bg++bs⟩=Xx g s:=by
  refine⟨g,s,?_⟩
  unfold Bc
  cases g<;>cases s
  ·obtain rfl:bg=[]:=hg
   obtain rfl:bs=[]:=hs
   rfl
  ·obtain rfl:bg=[]:=hg
   obtain⟨m,rfl,q⟩:=(show ∃m,bs=[m]/\yV nB m RD from hs)
   show(⟨nB,nA,fsB,[bH m]⟩:Fc)=_
   rw[q.sig];rfl
  ·obtain⟨m,rfl,q⟩:=(show ∃m,bg=[m]/\yV nB m Qn from hg)
   obtain rfl:bs=[]:=hs
   show(⟨nB,nA,fsB,[bH m]⟩:Fc)=_
   rw[q.sig];rfl
  ·obtain⟨m,rfl,q⟩:=(show ∃m,bg=[m]/\yV nB m Qn from hg)
   obtain⟨m',rfl,q'⟩:=(show ∃m,bs=[m]/\yV nB m RD from hs)
   show(⟨nB,nA,fsB,O7 (zY Es.nm) [bH m,bH m']⟩:Fc)=_
   rw[q.sig,q'.sig,AZb];rfl
 have hbm:∀m∈bg++bs,AH9 m/\GdM nB m:=by
  intro m hm
  rcases List.mem_append.1 hm with hm|hm
  ·cases g
   ·obtain rfl:bg=[]:=hg
    cases hm
   ·obtain⟨x,rfl,q⟩:=(show ∃m,bg=[m]/\yV nB m Qn from hg)
    cases List.mem_singleton.1 hm
    exact⟨sgG q,q.gd⟩
  ·cases s
   ·obtain rfl:bs=[]:=hs
    cases hm
   ·obtain⟨x,rfl,q⟩:=(show ∃m,bs=[m]/\yV nB m RD from hs)
    cases List.mem_singleton.1 hm
    exact⟨sgU q,q.gd⟩
 have hbl:(bg++bs).length<20:=by
  rw[List.length_append]
  have x1:bg.length<=1:=by
   cases g
   ·obtain rfl:bg=[]:=hg
    exact Nat.zero_le _
   ·obtain⟨x,rfl,q⟩:=(show ∃m,bg=[m]/\yV nB m Qn from hg)
    exact Nat.le_refl _
  have x2:bs.length<=1:=by
   cases s
   ·obtain rfl:bs=[]:=hs
    exact Nat.zero_le _
   ·obtain⟨x,rfl,q⟩:=(show ∃m,bs=[m]/\yV nB m RD from hs)
    exact Nat.le_refl _
  omega
 have ham:∀m∈[m1,m2,m3,m4],AH9 m/\GdM nA m:=by
  intro m hm
  simp only[List.mem_cons,List.not_mem_nil,or_false]at hm
  rcases hm with rfl|rfl|rfl|rfl
  ·exact⟨sgG h1,h1.gd⟩
  ·exact⟨sgS h2,h2.gd⟩
  ·exact⟨sgU h3,h3.gd⟩
  ·exact⟨sgM h4,h4.gd⟩
 refine⟨?_,fb,rfl,rfl,⟨by show nA.ok;decide,by show St.ok (0,0);decide,by show ∀f∈fsA,f.nm.ok/\f.ty.nm.ok;decide,λm h=>(ham m h).1,by show 3<20;decide,by show 4<20;decide⟩,⟨by show nB.ok;decide,by show nA.ok;decide,by show ∀f∈fsB,f.nm.ok/\f.ty.nm.ok;decide,λm h=>(hbm m h).1,by show 1<20;decide,hbl⟩,λm h=>(ham m h).2,λm h=>(hbm m h).2⟩
 show(⟨nA,(0,0),O7 (zY Dh.nm) fsA,O7 (zY Es.nm) [bH m1,bH m2,bH m3,bH m4]⟩:Fc)=RG
 rw[h1.sig,h2.sig,h3.sig,h4.sig,isA,AaC];rfl
theorem ABo{α:Type}(s:Nat×Nat)(v:α):∀l:List ((Nat×Nat)×α),l.length<=(Vg s v l).length/\(Vg s v l).length<=l.length+1/\(Hf l s=none->(Vg s v l).length=l.length+1)
 |[]=>⟨Nat.zero_le _,Nat.le_refl _,λ_=>rfl⟩
 |p::l=>by
  have ih:=ABo s v l
  unfold Vg
  by_cases e:p.1=s
  ·have e2:Hf (p::l) s=some p.2:=by unfold Hf;simp[e]
   rw[e2]
   simp[e]
  ·have e2:Hf (p::l) s=Hf l s:=by unfold Hf;simp[e]
   rw[e2]
   rw[if_neg e,List.length_cons,List.length_cons]
   refine⟨by omega,by omega,λh=>by rw[ih.2.2 h]⟩
theorem TbF.mk'{tb:Tab}(tl:tb.length<=1000)(h:∀s c,Hf tb s=some c->(∀m∈c.ms,m.ps.length<=1000/\m.ret.nm.ok)/\∀f∈c.fs,f.ty.nm.ok):TbF tb:=⟨tl,λs c hc m hm=>((h s c hc).1 m hm).1,λs c hc=>⟨(h s c hc).2,λm hm=>((h s c hc).1 m hm).2⟩⟩
theorem AEV.face{c:Tc}(h:AEV c):(∀m∈(Bc c).ms,m.ps.length<=1000/\m.ret.nm.ok)/\∀f∈(Bc c).fs,f.ty.nm.ok:=by
 refine⟨λm hm=>?_,λf hf=>?_⟩
 ·have hm:=ji hm
  obtain⟨x,hx,rfl⟩:=List.mem_map.1 hm
  have:=h.ms x hx
  exact⟨by show(x.ps.map Dh.ty).length<=1000;rw[List.length_map];exact this.ln,this.ret⟩
 ·exact(h.fs f (ji hf)).2
theorem ANk{A B:Tc}(h:AJu A B):Yk (QB ([A,B].map Bc))/\TbF (QB ([A,B].map Bc))/\Hf (QB ([A,B].map Bc)) nA=some (Bc A)/\Hf (QB ([A,B].map Bc)) nB=some (Bc B):=by
 have na:(Bc A).nm=nA:=h.na
 have nb:(Bc B).nm=nB:=h.nb
 have e:∀s,Hf (QB ([A,B].map Bc)) s=if nB=s then some (Bc B)else if nA=s then some (Bc A)else none:=by
  intro s
  show Hf (Vg (Bc B).nm (Bc B) (Vg (Bc A).nm (Bc A) [])) s=_
  rw[TR,TR,na,nb];rfl
 have ln:(QB ([A,B].map Bc)).length=2:=by
  show(Vg (Bc B).nm (Bc B) (Vg (Bc A).nm (Bc A) [])).length=2
  rw[(ABo _ _ _).2.2 (by rw[TR,na,nb];rfl)];rfl
 have ea:Hf (QB ([A,B].map Bc)) nA=some (Bc A):=by rw[e];rfl
 have eb:Hf (QB ([A,B].map Bc)) nB=some (Bc B):=by rw[e];rfl
 refine⟨⟨by rw[ea,h.fa],?_,by omega⟩,TbF.mk' (by omega) λs c hc=>?_,ea,eb⟩
 ·obtain⟨g,s,hb⟩:=h.fb
  exact⟨g,s,by rw[eb,hb]⟩
 ·rw[e]at hc
  by_cases e1:nB=s
  ·rw[if_pos e1]at hc;cases hc;exact h.ob.face
  ·rw[if_neg e1]at hc
   by_cases e2:nA=s
   ·rw[if_pos e2]at hc;cases hc;exact h.oa.face
   ·rw[if_neg e2]at hc;cases hc
theorem AIn{O A B:Tc}(h:AJu A B)(ho:AEV O)(h1:O.nm≠nA)(h2:O.nm≠nB):
 Yk (QB ([O,A,B].map Bc))/\TbF (QB ([O,A,B].map Bc))/\Hf (QB ([O,A,B].map Bc)) nA=some (Bc A)/\Hf (QB ([O,A,B].map Bc)) nB=some (Bc B):=by
 have na:(Bc A).nm=nA:=h.na
 have nb:(Bc B).nm=nB:=h.nb
 have no:(Bc O).nm=O.nm:=rfl
 have e:∀s,Hf (QB ([O,A,B].map Bc)) s=if nB=s then some (Bc B)else if nA=s then some (Bc A)else if O.nm=s then some (Bc O)else none:=by
  intro s
  show Hf (Vg (Bc B).nm (Bc B) (Vg (Bc A).nm (Bc A) (Vg (Bc O).nm (Bc O) []))) s=_
  rw[TR,TR,TR,na,nb,no];rfl
 have ln:(QB ([O,A,B].map Bc)).length=3:=by
  show(Vg (Bc B).nm (Bc B) (Vg (Bc A).nm (Bc A) (Vg (Bc O).nm (Bc O) []))).length=3
  rw[(ABo _ _ _).2.2 (by rw[TR,TR,na,nb,no,if_neg (show ¬nA=nB by decide),if_neg h2];rfl),(ABo _ _ _).2.2 (by rw[TR,na,no,if_neg h1];rfl)];rfl
 have ea:Hf (QB ([O,A,B].map Bc)) nA=some (Bc A):=by rw[e,if_neg (show ¬nB=nA by decide),if_pos rfl]
 have eb:Hf (QB ([O,A,B].map Bc)) nB=some (Bc B):=by rw[e,if_pos rfl]
 refine⟨⟨by rw[ea,h.fa],?_,by omega⟩,TbF.mk' (by omega) λs c hc=>?_,ea,eb⟩
 ·obtain⟨g,s,hb⟩:=h.fb
  exact⟨g,s,by rw[eb,hb]⟩
 ·rw[e]at hc
  by_cases e1:nB=s
  ·rw[if_pos e1]at hc;cases hc;exact h.ob.face
  ·rw[if_neg e1]at hc
   by_cases e2:nA=s
   ·rw[if_pos e2]at hc;cases hc;exact h.oa.face
   ·rw[if_neg e2]at hc
    by_cases e3:O.nm=s
    ·rw[if_pos e3]at hc;cases hc;exact ho.face
    ·rw[if_neg e3]at hc;cases hc
section
variable{tb:Tab}(h:Yk tb)
include h
theorem Yk.kn{t:Ty}(ht:t=Du∨t=CJ∨t=tIs∨t=tA):Cb tb t=true:=by
 rcases ht with rfl|rfl|rfl|rfl
 ·exact wU (by decide) (by decide)
 ·exact wU (by decide) (by decide)
 ·exact wU (by decide) (by decide)
 ·exact h.kA
theorem Yk.kms{q:Es}(hq:q=Qn∨q=iC∨q=RD∨q=wL):(q.ret::q.ps).all (Cb tb)=true:=by
 rw[List.all_eq_true]
 intro t ht
 refine h.kn ?_
 rcases hq with rfl|rfl|rfl|rfl<;>(simp[Qn,iC,RD,wL]at ht;grind)
theorem Yk.AXd{q:Es}:AGm tb (0,0) q=false:=by
 unfold AGm QF above
 obtain⟨m,hm⟩:∃m,tb.length=m+1:=⟨tb.length-1,by have:=h.two;omega⟩
 rw[hm,ABn];rfl
theorem Yk.AW7{q:Es}(hq:q=Qn∨q=RD):AGm tb nA q=false:=by
 unfold AGm
 rcases hq with rfl|rfl
 ·rw[h.AXg (f:=Qn.nm) (st:=false) (m:=Qn) rfl]
  show(!Qn.st&& !Qn.same Qn)=false
  decide
 ·have:QF tb nA RD.nm false=none:=by
   unfold QF
   rw[h.upA]
   show(match WW false RD.nm ((Hf tb nA).getD Fh).ms with|some m=>some (nA,m)|none=>OA tb RD.nm false [])=none
   rw[h.a];rfl
  rw[this]
theorem Yk.AXp:iL tb nA=0:=by
 unfold iL
 rw[h.a,h.upA]
 show(bif twice RG then(6:Int)else yX tb (0,0) (U2 tb (0,0) RG.ms) RG.fs)=0
 rw[show twice RG=false by decide]
 have hm:U2 tb (0,0) RG.ms=0:=by
  have go:∀l:List Es,(∀q∈l,q=Qn∨q=iC∨q=RD∨q=wL)->U2 tb (0,0) l=0:=by
   intro l
   induction l with
   |nil=>intro _;rfl
   |cons q l ih=>
    intro hq
    unfold U2
    rw[h.kms (hq q (List.mem_cons_self ..)),h.AXd,ih λx hx=>hq x (List.mem_cons_of_mem _ hx)];rfl
  exact go _ λq hq=>by simpa[RG]using(show q=Qn∨q=wL∨q=iC∨q=RD by simpa[RG]using hq) |>.elim .inl λh=>.inr (h.elim (λh=>.inr (.inr h)) λh=>h.elim .inl λh=>.inr (.inl h))
 have hf:∀l:List Dh,(∀f∈l,f.ty=Du∨f.ty=CJ∨f.ty=tIs∨f.ty=tA)->yX tb (0,0) 0 l=0:=by
  intro l
  induction l with
  |nil=>intro _;rfl
  |cons q l ih=>
   intro hq
   unfold yX
   have e1:[q.ty].all (Cb tb)=true:=by show(Cb tb q.ty&&true)=true;rw[h.kn (hq q (List.mem_cons_self ..))];rfl
   have e2:(Yj tb (0,0) q.nm).isSome=false:=by
    unfold Yj above
    obtain⟨m,hm⟩:∃m,tb.length=m+1:=⟨tb.length-1,by have:=h.two;omega⟩
    rw[hm,ABn];rfl
   rw[e1,e2,ih λx hx=>hq x (List.mem_cons_of_mem _ hx)];rfl
 rw[hm]
 exact hf _ λf h=>by simp[RG]at h;rcases h with rfl|rfl|rfl<;>simp
theorem Yk.AXh:iL tb nB=0:=by
 obtain⟨g,s,hb⟩:=h.b
 unfold iL
 rw[hb,h.upB]
 show(bif twice (Xx g s)then(6:Int)else yX tb nA (U2 tb nA (Xx g s).ms) (Xx g s).fs)=0
 rw[show twice (Xx g s)=false by clear hb;revert g s;decide]
 have hm:U2 tb nA (Xx g s).ms=0:=by
  have go:∀l:List Es,(∀q∈l,q=Qn∨q=RD)->U2 tb nA l=0:=by
   intro l
   induction l with
   |nil=>intro _;rfl
   |cons q l ih=>
    intro hq
    unfold U2
    rw[h.kms (by rcases hq q (List.mem_cons_self ..)with h|h;exact .inl h;exact .inr (.inr (.inl h))),h.AW7 (hq q (List.mem_cons_self ..)),ih λx hx=>hq x (List.mem_cons_of_mem _ hx)];rfl
  refine go _ λq hq=>?_
  clear hb
  cases g<;>cases s<;>simp[Xx]at hq<;>simp[hq]
 rw[hm]
 show(bif !([CJ].all (Cb tb))then(23:Int)else bif (Yj tb nA QK).isSome then 6 else yX tb nA 0 [])=0
 have e1:[CJ].all (Cb tb)=true:=by show(Cb tb CJ&&true)=true;rw[h.kn (.inr (.inl rfl))];rfl
 have e2:(Yj tb nA QK).isSome=false:=by
  unfold Yj
  rw[h.upA]
  show(match Zo QK ((Hf tb nA).getD Fh).fs with|some t=>some (nA,t)|none=>qQ tb QK []).isSome=false
  rw[h.a];rfl
 rw[e1,e2];rfl
theorem Yk.ck{A B:Tc}(w:AJu A B):(∃c,ckC tb A=some c)/\∃c,ckC tb B=some c:=by
 obtain⟨l1,e1⟩:=AEa h w.ga
 obtain⟨l2,e2⟩:=AEa h w.gb
 refine⟨⟨{A with ms:=l1},?_⟩,⟨{B with ms:=l2},?_⟩⟩
 ·unfold ckC;rw[w.na,e1];rfl
 ·unfold ckC;rw[w.nb,e2];rfl
end
mutual
def Te.bare:Te->Te
 |.mk kind num nm ty _ _ kids=>.mk kind num nm ty Ox (0,0) (Te.Q9 kids)
def Te.Q9:List Te->List Te
 |[]=>[]
 |e::l=>e.bare::Te.Q9 l
end
mutual
def Tt.bare:Tt->Tt
 |.mk does nm ty es th el=>.mk does nm ty (Te.Q9 es) (Tt.Q9 th) (Tt.Q9 el)
def Tt.Q9:List Tt->List Tt
 |[]=>[]
 |e::l=>e.bare::Tt.Q9 l
end
def Tm.bare(m:Tm):Tm:={m with body:=Tt.Q9 m.body}
def Tc.bare(c:Tc):Tc:={c with ms:=c.ms.map Tm.bare}
theorem Te.Px:∀l:List Te,Te.Q9 l=l.map Te.bare
 |[]=>by unfold Te.Q9;rfl
 |e::l=>by unfold Te.Q9;rw[Te.Px l];rfl
theorem Tt.Px:∀l:List Tt,Tt.Q9 l=l.map Tt.bare
 |[]=>by unfold Tt.Q9;rfl
 |e::l=>by unfold Tt.Q9;rw[Tt.Px l];rfl
mutual
def smE:Te->Bool
 |.mk _ _ _ _ _ _ kids=>decide (kids.length<=100000)&&smL kids
def smL:List Te->Bool
 |[]=>true
 |e::l=>smE e&&smL l
end
mutual
def smS:Tt->Bool
 |.mk _ _ _ es th el=>(decide (es.length<=100000)&&smL es)&&((decide (th.length<=100000)&&smB th)&&(decide (el.length<=100000)&&smB el))
def smB:List Tt->Bool
 |[]=>true
 |e::l=>smS e&&smB l
end
def smM(m:Tm):Bool:=decide (m.ps.length<=100000)&&(decide (m.body.length<=100000)&&smB m.body)
def AM8(G:AX)(e:Te):Prop:=∀(e2:Te) (H:Heap) (n:Nat) (c1 c2:LV) (A B:Nat->Prop) (k:KV),e.bare=e2.bare->GN G H A c1 e->GN G H B c2 e2->(∀id,A id->id<n)->(∀id,B id->id<n)->(∀H' n',Kp H n H' n'->k (.bool true) H' n')->Runs F G OG [.agg c1,.agg c2] H n k
def AEl(G:AX)(e:Tt):Prop:=∀(e2:Tt) (H:Heap) (n:Nat) (c1 c2:LV) (A B:Nat->Prop) (k:KV),e.bare=e2.bare->YF G H A c1 e->YF G H B c2 e2->(∀id,A id->id<n)->(∀id,B id->id<n)->(∀H' n',Kp H n H' n'->k (.bool true) H' n')->Runs F G OE [.agg c1,.agg c2] H n k
def AOw(G:AX)(e:Tm):Prop:=∀(e2:Tm) (H:Heap) (n:Nat) (c1 c2:LV) (A B:Nat->Prop) (k:KV),e.bare=e2.bare->jU G H A c1 e->jU G H B c2 e2->(∀id,A id->id<n)->(∀id,B id->id<n)->(∀H' n',Kp H n H' n'->k (.bool true) H' n')->Runs F G Kv [.agg c1,.agg c2] H n k
theorem AUQ(q:IntKind)(x:Nat):EN (.one .int) false (.int q (.ofNat x) 0) (.int q (.ofNat x) 0)=some (.bool true):=by rw[DI,decide_eq_true rfl]
theorem AMF(s:St):EN (.one .str) false s.v s.v=some (.bool true):=(AVz s s).trans (by simp)
theorem AWm(b:Bool):EN (.one .bool) false (.bool b) (.bool b)=some (.bool true):=by cases b<;>rfl
theorem AQJ(t:Ty):EN (.agg [.str,.bool]) false (.agg [t.nm.v,.bool t.arr]) (.agg [t.nm.v,.bool t.arr])=some (.bool true):=(iE t t).trans (by simp[Ty.is])
theorem AXC(x:Dh):EN (.agg [.str,.str,.bool]) true (.agg (UW x)) (.agg (UW x))=some (.bool false):=by
 have h:(EK.agg [.str,.str,.bool]).eq (.agg [x.nm.v,x.ty.nm.v,.bool x.ty.arr]) (.agg [x.nm.v,x.ty.nm.v,.bool x.ty.arr])=some true:=by
  show AKU [.str,.str,.bool] [x.nm.v,x.ty.nm.v,.bool x.ty.arr] [x.nm.v,x.ty.nm.v,.bool x.ty.arr]=some true
  simp[AKU,APP,APz]
  rfl
 show ofB (Va ((EK.agg [.str,.str,.bool]).eq (.agg [x.nm.v,x.ty.nm.v,.bool x.ty.arr]) (.agg [x.nm.v,x.ty.nm.v,.bool x.ty.arr])) λb=>some (TM b))=_
 rw[h];rfl
theorem jU.inv{G:AX}{H:Heap}{A:Nat->Prop}{c:LV}{m:Tm}(h:jU G H A c m):∃line col vp vb,c=tmC line col m.nm m.st vp m.ret vb/\ADg G H A vp m.ps/\ZM G H A vb m.body:=by
 cases h with
 |mk line col hp hb=>exact⟨line,col,_,_,rfl,hp,hb⟩
section
variable{G:AX}{H:Heap}{n:Nat}{k:KV}
theorem AIf{l l2:List Te}{v w:V}{cs ds:DZ}{A B:Nat->Prop}(hb:l.map Te.bare=l2.map Te.bare)(hv:El G H v 11 cs)(hw:El G H w 11 ds)(hva:∀id,v.Ec=some id->id<n)(hwa:∀id,w.Ec=some id->id<n)(hc:Hr G H A cs l)(hd:Hr G H B ds l2)(hA:∀id,A id->id<n)(hB:∀id,B id->id<n)
 (hs:∀e∈l,AM8 G e) (hlen:l.length<=100000) (hk:∀H' n',Kp H n H' n'->k (.bool true) H' n'):Runs F G D7 [v,w,.fn OG [] []] H n k:=by
 refine BH (s:=ar3 (Cj lfp G)) Dw (by obtain⟨h,o⟩:=KZ BI G;rw[Dw]at h;cases h;exact o) ?_
 show Cj lfp G (Runs F G) v w (.fn OG [] []) H n k
 delta Cj
 have hll:l.length=l2.length:=by have:=congrArg List.length hb;rwa [List.length_map,List.length_map]at this
 refine AB hv.len (AB hw.len ?_)
 rw[AA1,AQ,hc.len,hd.len,hll,decide_eq_true rfl,Bool.not_true,Aj]
 refine AB hv.len ?_
 rw[hc.len]
 refine DF (N:=l.length) (J:=λj q=>∃H' n',q=(w,.fn OG [] [],v,.int .i64 (.ofNat l.length) 0,.int .i64 (.ofNat j) 0,H',n')/\Kp H n H' n') ?_ ?_ ⟨H,n,rfl,Kp.refl ..⟩
 ·rintro I j q hlt ⟨H1,n1,rfl,f1⟩ ih
  show BU lfp G (Runs F G) k I w (.fn OG [] []) v (.int .i64 (.ofNat l.length) 0) (.int .i64 (.ofNat j) 0) H1 n1
  delta BU
  have hv1:=hv.kp hva f1
  have hw1:=hw.kp hwa f1
  have hc1:Hr G H1 A cs l:=Hr.mono (λ_ h=>h) (λid h=>f1.same id (hA id h)) hc
  have hd1:Hr G H1 B ds l2:=Hr.mono (λ_ h=>h) (λid h=>f1.same id (hB id h)) hd
  have hlt2:j<l2.length:=by omega
  have hbb:l[j].bare=l2[j].bare:=by
   have:=congrArg (λx:List Te=>x[j]?) hb
   simpa[hlt,hlt2]using this
  obtain⟨c,hc2,hx⟩:=hc1.at (List.getElem?_eq_getElem hlt)
  obtain⟨d,hd2,hy⟩:=hd1.at (List.getElem?_eq_getElem hlt2)
  have hse:=hs _ (List.getElem_mem hlt)
  generalize l[j]=e1 at hx hse hbb
  generalize l2[j]=e2 at hy hbb
  have hn1:=f1.le
  obtain⟨p,hp,hld⟩:=hv1.at hc2
  rw[EP,AQ,decide_eq_true hlt,Ar]
  refine AB hp (AB (Dx hld) ?_)
  refine Az rfl λH2 f2 g2=>?_
  refine DV g2 rfl hx.len (by omega) λH3 g2 t3=>?_
  have f3:Kp H1 n1 H3 (n1+1):=⟨f2.le,λid hid=>(t3 id (by omega)).trans (f2.same id hid)⟩
  obtain⟨p3,hp3,hld3⟩:=(hw1.kp (λid h=>Nat.lt_of_lt_of_le (hwa id h) hn1) f3).at hd2
  refine AB hp3 (AB (Dx hld3) ?_)
  refine Az rfl λH4 f4 g4=>?_
  have g2:=f4.get g2 (by omega)
  refine DV g4 rfl hy.len (by omega) λH5 g4 t5=>?_
  have g2:=(t5 n1 (by omega)).trans g2
  have f5:Kp H3 (n1+1) H5 (n1+1+1):=⟨f4.le,λid hid=>(t5 id (by omega)).trans (f4.same id hid)⟩
  have f5:=f3.trans f5
  refine AB (Bf (m:=11) g2 (by omega) hx.len) (AB (Bf (m:=11) g4 (by omega) hy.len) ?_)
  have fin:=f1.trans f5
  have hx:GN G H5 A c e1:=hx.mono (λ_ h=>h) λid h=>f5.same id (by have:=hA id h;omega)
  have hy:GN G H5 B d e2:=hy.mono (λ_ h=>h) λid h=>f5.same id (by have:=hB id h;omega)
  refine hse e2 H5 _ c d A B _ hbb hx hy (λid h=>by have:=hA id h;omega) (λid h=>by have:=hB id h;omega) λH6 n6 f6=>?_
  rw[GL,AQ,Bool.not_true,Aj]
  rw[FB (by omega),AQ]
  exact ih _ ⟨_,_,rfl,fin.trans f6⟩
 ·rintro I q ⟨H1,n1,rfl,f1⟩
  show BU lfp G (Runs F G) k I w (.fn OG [] []) v (.int .i64 (.ofNat l.length) 0) (.int .i64 (.ofNat l.length) 0) H1 n1
  delta BU
  rw[EP,AQ,decide_eq_false (Nat.lt_irrefl _),Aj]
  delta Dk
  exact hk _ _ f1
theorem AE9{l l2:List Tt}{v w:V}{cs ds:DZ}{A B:Nat->Prop}(hb:l.map Tt.bare=l2.map Tt.bare)(hv:El G H v 9 cs)(hw:El G H w 9 ds)(hva:∀id,v.Ec=some id->id<n)(hwa:∀id,w.Ec=some id->id<n)(hc:JW G H A cs l)(hd:JW G H B ds l2)(hA:∀id,A id->id<n)(hB:∀id,B id->id<n)
 (hs:∀e∈l,AEl G e) (hlen:l.length<=100000) (hk:∀H' n',Kp H n H' n'->k (.bool true) H' n'):Runs F G Ci [v,w,.fn OE [] []] H n k:=by
 refine BH (s:=ar3 (Cm lfp G)) Dy (by obtain⟨h,o⟩:=Ko BI G;rw[Dy]at h;cases h;exact o) ?_
 show Cm lfp G (Runs F G) v w (.fn OE [] []) H n k
 delta Cm
 have hll:l.length=l2.length:=by have:=congrArg List.length hb;rwa [List.length_map,List.length_map]at this
 refine AB hv.len (AB hw.len ?_)
 rw[AA1,AQ,hc.len,hd.len,hll,decide_eq_true rfl,Bool.not_true,Aj]
 refine AB hv.len ?_
 rw[hc.len]
 refine DF (N:=l.length) (J:=λj q=>∃H' n',q=(w,.fn OE [] [],v,.int .i64 (.ofNat l.length) 0,.int .i64 (.ofNat j) 0,H',n')/\Kp H n H' n') ?_ ?_ ⟨H,n,rfl,Kp.refl ..⟩
 ·rintro I j q hlt ⟨H1,n1,rfl,f1⟩ ih
  show BR lfp G (Runs F G) k I w (.fn OE [] []) v (.int .i64 (.ofNat l.length) 0) (.int .i64 (.ofNat j) 0) H1 n1
  delta BR
  have hv1:=hv.kp hva f1
  have hw1:=hw.kp hwa f1
  have hc1:JW G H1 A cs l:=JW.mono (λ_ h=>h) (λid h=>f1.same id (hA id h)) hc
  have hd1:JW G H1 B ds l2:=JW.mono (λ_ h=>h) (λid h=>f1.same id (hB id h)) hd
  have hlt2:j<l2.length:=by omega
  have hbb:l[j].bare=l2[j].bare:=by
   have:=congrArg (λx:List Tt=>x[j]?) hb
   simpa[hlt,hlt2]using this
  obtain⟨c,hc2,hx⟩:=hc1.at (List.getElem?_eq_getElem hlt)
  obtain⟨d,hd2,hy⟩:=hd1.at (List.getElem?_eq_getElem hlt2)
  have hse:=hs _ (List.getElem_mem hlt)
  generalize l[j]=e1 at hx hse hbb
  generalize l2[j]=e2 at hy hbb
  have hn1:=f1.le
  obtain⟨p,hp,hld⟩:=hv1.at hc2
  rw[EP,AQ,decide_eq_true hlt,Ar]
  refine AB hp (AB (Dx hld) ?_)
  refine Az rfl λH2 f2 g2=>?_
  refine DV g2 rfl hx.len (by omega) λH3 g2 t3=>?_
  have f3:Kp H1 n1 H3 (n1+1):=⟨f2.le,λid hid=>(t3 id (by omega)).trans (f2.same id hid)⟩
  obtain⟨p3,hp3,hld3⟩:=(hw1.kp (λid h=>Nat.lt_of_lt_of_le (hwa id h) hn1) f3).at hd2
  refine AB hp3 (AB (Dx hld3) ?_)
  refine Az rfl λH4 f4 g4=>?_
  have g2:=f4.get g2 (by omega)
  refine DV g4 rfl hy.len (by omega) λH5 g4 t5=>?_
  have g2:=(t5 n1 (by omega)).trans g2
  have f5:Kp H3 (n1+1) H5 (n1+1+1):=⟨f4.le,λid hid=>(t5 id (by omega)).trans (f4.same id hid)⟩
  have f5:=f3.trans f5
  refine AB (Bf (m:=9) g2 (by omega) hx.len) (AB (Bf (m:=9) g4 (by omega) hy.len) ?_)
  have fin:=f1.trans f5
  have hx:YF G H5 A c e1:=hx.mono (λ_ h=>h) λid h=>f5.same id (by have:=hA id h;omega)
  have hy:YF G H5 B d e2:=hy.mono (λ_ h=>h) λid h=>f5.same id (by have:=hB id h;omega)
  refine hse e2 H5 _ c d A B _ hbb hx hy (λid h=>by have:=hA id h;omega) (λid h=>by have:=hB id h;omega) λH6 n6 f6=>?_
  rw[GL,AQ,Bool.not_true,Aj]
  rw[FB (by omega),AQ]
  exact ih _ ⟨_,_,rfl,fin.trans f6⟩
 ·rintro I q ⟨H1,n1,rfl,f1⟩
  show BR lfp G (Runs F G) k I w (.fn OE [] []) v (.int .i64 (.ofNat l.length) 0) (.int .i64 (.ofNat l.length) 0) H1 n1
  delta BR
  rw[EP,AQ,decide_eq_false (Nat.lt_irrefl _),Aj]
  delta Dn
  exact hk _ _ f1
theorem ALl{l l2:List Tm}{v w:V}{cs ds:DZ}{A B:Nat->Prop}(hb:l.map Tm.bare=l2.map Tm.bare)(hv:El G H v 8 cs)(hw:El G H w 8 ds)(hva:∀id,v.Ec=some id->id<n)(hwa:∀id,w.Ec=some id->id<n)(hc:MW G H A cs l)(hd:MW G H B ds l2)(hA:∀id,A id->id<n)(hB:∀id,B id->id<n)
 (hs:∀e∈l,AOw G e) (hlen:l.length<=100000) (hk:∀H' n',Kp H n H' n'->k (.bool true) H' n'):Runs F G Eh [v,w,.fn Kv [] []] H n k:=by
 refine BH (s:=ar3 (CB lfp G)) DR (by obtain⟨h,o⟩:=I8 BI G;rw[DR]at h;cases h;exact o) ?_
 show CB lfp G (Runs F G) v w (.fn Kv [] []) H n k
 delta CB
 have hll:l.length=l2.length:=by have:=congrArg List.length hb;rwa [List.length_map,List.length_map]at this
 refine AB hv.len (AB hw.len ?_)
 rw[AA1,AQ,hc.len,hd.len,hll,decide_eq_true rfl,Bool.not_true,Aj]
 refine AB hv.len ?_
 rw[hc.len]
 refine DF (N:=l.length) (J:=λj q=>∃H' n',q=(w,.fn Kv [] [],v,.int .i64 (.ofNat l.length) 0,.int .i64 (.ofNat j) 0,H',n')/\Kp H n H' n') ?_ ?_ ⟨H,n,rfl,Kp.refl ..⟩
 ·rintro I j q hlt ⟨H1,n1,rfl,f1⟩ ih
  show BL lfp G (Runs F G) k I w (.fn Kv [] []) v (.int .i64 (.ofNat l.length) 0) (.int .i64 (.ofNat j) 0) H1 n1
  delta BL
  have hv1:=hv.kp hva f1
  have hw1:=hw.kp hwa f1
  have hc1:MW G H1 A cs l:=MW.mono (λ_ h=>h) (λid h=>f1.same id (hA id h)) hc
  have hd1:MW G H1 B ds l2:=MW.mono (λ_ h=>h) (λid h=>f1.same id (hB id h)) hd
  have hlt2:j<l2.length:=by omega
  have hbb:l[j].bare=l2[j].bare:=by
   have:=congrArg (λx:List Tm=>x[j]?) hb
   simpa[hlt,hlt2]using this
  obtain⟨c,hc2,hx⟩:=hc1.at (List.getElem?_eq_getElem hlt)
  obtain⟨d,hd2,hy⟩:=hd1.at (List.getElem?_eq_getElem hlt2)
  have hse:=hs _ (List.getElem_mem hlt)
  generalize l[j]=e1 at hx hse hbb
  generalize l2[j]=e2 at hy hbb
  have hn1:=f1.le
  obtain⟨p,hp,hld⟩:=hv1.at hc2
  rw[EP,AQ,decide_eq_true hlt,Ar]
  refine AB hp (AB (Dx hld) ?_)
  refine Az rfl λH2 f2 g2=>?_
  refine DV g2 rfl hx.len (by omega) λH3 g2 t3=>?_
  have f3:Kp H1 n1 H3 (n1+1):=⟨f2.le,λid hid=>(t3 id (by omega)).trans (f2.same id hid)⟩
  obtain⟨p3,hp3,hld3⟩:=(hw1.kp (λid h=>Nat.lt_of_lt_of_le (hwa id h) hn1) f3).at hd2
  refine AB hp3 (AB (Dx hld3) ?_)
  refine Az rfl λH4 f4 g4=>?_
  have g2:=f4.get g2 (by omega)
  refine DV g4 rfl hy.len (by omega) λH5 g4 t5=>?_
  have g2:=(t5 n1 (by omega)).trans g2
  have f5:Kp H3 (n1+1) H5 (n1+1+1):=⟨f4.le,λid hid=>(t5 id (by omega)).trans (f4.same id hid)⟩
  have f5:=f3.trans f5
  refine AB (Bf (m:=8) g2 (by omega) hx.len) (AB (Bf (m:=8) g4 (by omega) hy.len) ?_)
  have fin:=f1.trans f5
  have hx:jU G H5 A c e1:=hx.mono (λ_ h=>h) λid h=>f5.same id (by have:=hA id h;omega)
  have hy:jU G H5 B d e2:=hy.mono (λ_ h=>h) λid h=>f5.same id (by have:=hB id h;omega)
  refine hse e2 H5 _ c d A B _ hbb hx hy (λid h=>by have:=hA id h;omega) (λid h=>by have:=hB id h;omega) λH6 n6 f6=>?_
  rw[GL,AQ,Bool.not_true,Aj]
  rw[FB (by omega),AQ]
  exact ih _ ⟨_,_,rfl,fin.trans f6⟩
 ·rintro I q ⟨H1,n1,rfl,f1⟩
  show BL lfp G (Runs F G) k I w (.fn Kv [] []) v (.int .i64 (.ofNat l.length) 0) (.int .i64 (.ofNat l.length) 0) H1 n1
  delta BL
  rw[EP,AQ,decide_eq_false (Nat.lt_irrefl _),Aj]
  delta DJ
  exact hk _ _ f1
theorem AMT{l:List Dh}{v w:V}{A B:Nat->Prop}(hv:ADg G H A v l)(hw:ADg G H B w l)(hlen:l.length<=100000)(hk:k (.bool true) H n):Runs F G FP [v,w] H n k:=by
 obtain⟨hv,_⟩:=hv
 obtain⟨hw,_⟩:=hw
 refine BH (s:=N7 (Dj lfp G)) Ey (by obtain⟨h,o⟩:=O8 BI G;rw[Ey]at h;cases h;exact o) ?_
 show Dj lfp G (Runs F G) v w H n k
 delta Dj
 refine AB hv.len (AB hw.len ?_)
 rw[AA1,AQ,decide_eq_true rfl,Bool.not_true,Aj]
 refine AB hv.len ?_
 rw[List.length_map]
 refine DF (N:=l.length) (J:=λj q=>q=(v,w,.int .i64 (.ofNat l.length) 0,.int .i64 (.ofNat j) 0,H,n)) ?_ ?_ rfl
 ·rintro I j q hlt rfl ih
  show Bj lfp G (Runs F G) k I v w (.int .i64 (.ofNat l.length) 0) (.int .i64 (.ofNat j) 0) H n
  delta Bj
  have hcx:(l.map UW)[j]? =some (UW l[j]):=by rw[List.getElem?_map,List.getElem?_eq_getElem hlt];rfl
  obtain⟨p,hp,hld⟩:=hv.at hcx
  obtain⟨p2,hp2,hld2⟩:=hw.at hcx
  rw[EP,AQ,decide_eq_true hlt,Ar]
  refine AB hp (AB (Dx hld) (AB hp2 (AB (Dx hld2) ?_)))
  refine AB (AXC l[j]) ?_
  rw[Aj]
  rw[FB (by omega),AQ]
  exact ih _ rfl
 ·rintro I q rfl
  show Bj lfp G (Runs F G) k I v w (.int .i64 (.ofNat l.length) 0) (.int .i64 (.ofNat l.length) 0) H n
  delta Bj
  rw[EP,AQ,decide_eq_false (Nat.lt_irrefl _),Aj]
  delta Fz
  exact hk
mutual
theorem AUe:∀(e:Te),smE e=true->AM8 G e
 |.mk kind num nm ty of own kids,hz=>by
  intro e2 H n c1 c2 A B k hbe h1 h2 hA hB hk
  unfold smE at hz
  rw[Bool.and_eq_true]at hz
  have ih:∀e∈kids,AM8 G e:=AIB kids hz.2
  have hz1:=of_decide_eq_true hz.1
  refine BH (s:=N7 (Vq lfp G)) Yf (by obtain⟨h,o⟩:=ACk BI G;rw[Yf]at h;cases h;exact o) ?_
  show Vq lfp G (Runs F G) (.agg c1) (.agg c2) H n k
  delta Vq
  refine Dq λH1 f1 g1=>?_
  refine Dq λH2 f2 g2=>?_
  have g1:=f2.get g1 (by omega)
  have f2:=f1.trans f2
  have h1:GN G H2 A c1 (.mk kind num nm ty of own kids):=h1.mono (λ_ h=>h) λid h=>f2.same id (hA id h)
  have h2:GN G H2 B c2 e2:=h2.mono (λ_ h=>h) λid h=>f2.same id (hB id h)
  cases h1 with
  |mk kd nu nm ty of1 own1 l1 k1 he1 hv1 ha1 hc1=>
  cases h2 with
  |mk kd2 nu2 nm2 ty2 of2 own2 l2 k2 he2 hv2 ha2 hc2=>
  rename_i v1 cs1 v2 cs2 iF
  unfold Te.bare at hbe
  injection hbe with b1 b2 b3 b4 b5 b6 b7
  subst b1 b2 b3 b4
  rw[Te.Px,Te.Px]at b7
  have q0:AY (.ptr n 0) G H2=some _:=AV g1 rfl
  have r0:AY (.ptr (n+1) 0) G H2=some _:=AV g2 rfl
  have q3:AY (.ptr n 3) G H2=some _:=AV g1 rfl
  have r3:AY (.ptr (n+1) 3) G H2=some _:=AV g2 rfl
  have q4:AY (.ptr n 4) G H2=some _:=AV g1 rfl
  have r4:AY (.ptr (n+1) 4) G H2=some _:=AV g2 rfl
  have q7:AY (.ptr n 7) G H2=some _:=AV g1 rfl
  have r7:AY (.ptr (n+1) 7) G H2=some _:=AV g2 rfl
  simp only[go_sem,Nat.reduceAdd,q0,r0,AUQ,q3,r3,q4,r4,AMF]
  refine AB (v:=.agg [ty.nm.v,.bool ty.arr]) (EM g1 (by omega) (by show 5+2<=11;omega)) ?_
  refine AB (v:=.agg [ty.nm.v,.bool ty.arr]) (EM g2 (by omega) (by show 5+2<=11;omega)) ?_
  simp only[go_sem,Nat.reduceAdd,AQJ,q7,r7]
  refine AIf b7 he1 he2 (λid h=>by have:=hA id (ha1 id h);omega) (λid h=>by have:=hB id (ha2 id h);omega) hc1 hc2 (λid h=>by have:=hA id h;omega) (λid h=>by have:=hB id h;omega) ih hz1 λH3 n3 f3=>?_
  try simp only[go_sem]
  exact hk _ _ (f2.trans f3)
theorem AIB:∀(l:List Te),smL l=true->∀e∈l,AM8 G e
 |[],_,_,he=>by cases he
 |a::l,hz,e,he=>by
  unfold smL at hz
  rw[Bool.and_eq_true]at hz
  have x1:=AUe a hz.1
  have x2:=AIB l hz.2 e
  rcases List.mem_cons.1 he with rfl|he
  ·exact x1
  ·exact x2 he
end
mutual
theorem ATP:∀(s:Tt),smS s=true->AEl G s
 |.mk kd nm ty es th el,hz=>by
  intro e2 H n c1 c2 A B k hbe h1 h2 hA hB hk
  unfold smS at hz
  simp only[Bool.and_eq_true,decide_eq_true_eq]at hz
  obtain⟨⟨z1,z2⟩,⟨z3,z4⟩,z5,z6⟩:=hz
  have ih1:∀e∈th,AEl G e:=ADl th z4
  have ih2:∀e∈el,AEl G e:=ADl el z6
  refine BH (s:=N7 (Vm lfp G)) Ye (by obtain⟨h,o⟩:=ACg BI G;rw[Ye]at h;cases h;exact o) ?_
  show Vm lfp G (Runs F G) (.agg c1) (.agg c2) H n k
  delta Vm
  refine Dq λH1 f1 g1=>?_
  refine Dq λH2 f2 g2=>?_
  have g1:=f2.get g1 (by omega)
  have f2:=f1.trans f2
  have h1:YF G H2 A c1 (.mk kd nm ty es th el):=h1.mono (λ_ h=>h) λid h=>f2.same id (hA id h)
  have h2:YF G H2 B c2 e2:=h2.mono (λ_ h=>h) λid h=>f2.same id (hB id h)
  have hA2:∀id,A id->id<n+1+1:=λid h=>by have:=hA id h;omega
  have hB2:∀id,B id->id<n+1+1:=λid h=>by have:=hB id h;omega
  cases h1 with
  |mk kd nm ty l1 k1 he ht kt hta hct hel kl hela hcl=>
  cases h2 with
  |mk kd2 nm2 ty2 l2 k2 ge gt jt gta gct gel jl gela gcl=>
  unfold Tt.bare at hbe
  injection hbe with b1 b2 b3 b4 b5 b6
  subst b1 b2 b3
  rw[Te.Px,Te.Px]at b4
  rw[Tt.Px,Tt.Px]at b5 b6
  have q0:AY (.ptr n 0) G H2=some _:=AV g1 rfl
  have r0:AY (.ptr (n+1) 0) G H2=some _:=AV g2 rfl
  have q3:AY (.ptr n 3) G H2=some _:=AV g1 rfl
  have r3:AY (.ptr (n+1) 3) G H2=some _:=AV g2 rfl
  have q6:AY (.ptr n 6) G H2=some _:=AV g1 rfl
  have r6:AY (.ptr (n+1) 6) G H2=some _:=AV g2 rfl
  have q7:AY (.ptr n 7) G H2=some _:=AV g1 rfl
  have r7:AY (.ptr (n+1) 7) G H2=some _:=AV g2 rfl
  have q8:AY (.ptr n 8) G H2=some _:=AV g1 rfl
  have r8:AY (.ptr (n+1) 8) G H2=some _:=AV g2 rfl
  simp only[go_sem,Nat.reduceAdd,q0,r0,AUQ,q3,r3,AMF]
  refine AB (v:=.agg [ty.nm.v,.bool ty.arr]) (EM g1 (by omega) (by show 4+2<=9;omega)) ?_
  refine AB (v:=.agg [ty.nm.v,.bool ty.arr]) (EM g2 (by omega) (by show 4+2<=9;omega)) ?_
  simp only[go_sem,Nat.reduceAdd,AQJ,q6,r6]
  obtain⟨cs,hle,_,_,_,hva,hcs⟩:=he
  obtain⟨ds,gle,_,_,_,gva,gcs⟩:=ge
  refine AIf b4 hle gle (λid h=>hA2 id (hva id h)) (λid h=>hB2 id (gva id h)) hcs gcs hA2 hB2 (AIB es z2) z1 λH3 n3 f3=>?_
  have hn3:=f3.le
  have hA3:∀id,A id->id<n3:=λid h=>by have:=hA2 id h;omega
  have hB3:∀id,B id->id<n3:=λid h=>by have:=hB2 id h;omega
  have q7:AY (.ptr n 7) G H3=some _:=AV (f3.get g1 (by omega)) rfl
  have r7:AY (.ptr (n+1) 7) G H3=some _:=AV (f3.get g2 (by omega)) rfl
  have q8:AY (.ptr n 8) G H3=some _:=AV (f3.get g1 (by omega)) rfl
  have r8:AY (.ptr (n+1) 8) G H3=some _:=AV (f3.get g2 (by omega)) rfl
  simp only[go_sem,Nat.reduceAdd,q7,r7]
  refine AE9 b5 (ht.same λid hid=>f3.same id (hA2 id (hta id hid))) (gt.same λid hid=>f3.same id (hB2 id (gta id hid))) (λid h=>hA3 id (hta id h)) (λid h=>hB3 id (gta id h)) (hct.mono (λ_ h=>h) λid h=>f3.same id (hA2 id h)) (gct.mono (λ_ h=>h) λid h=>f3.same id (hB2 id h)) hA3 hB3 ih1 z3 λH4 n4 f4=>?_
  have f4:=f3.trans f4
  have hn4:=f4.le
  have hA4:∀id,A id->id<n4:=λid h=>by have:=hA2 id h;omega
  have hB4:∀id,B id->id<n4:=λid h=>by have:=hB2 id h;omega
  have q7:AY (.ptr n 7) G H4=some _:=AV (f4.get g1 (by omega)) rfl
  have r7:AY (.ptr (n+1) 7) G H4=some _:=AV (f4.get g2 (by omega)) rfl
  have q8:AY (.ptr n 8) G H4=some _:=AV (f4.get g1 (by omega)) rfl
  have r8:AY (.ptr (n+1) 8) G H4=some _:=AV (f4.get g2 (by omega)) rfl
  simp only[go_sem,Nat.reduceAdd,q8,r8]
  refine AE9 b6 (hel.same λid hid=>f4.same id (hA2 id (hela id hid))) (gel.same λid hid=>f4.same id (hB2 id (gela id hid))) (λid h=>hA4 id (hela id h)) (λid h=>hB4 id (gela id h)) (hcl.mono (λ_ h=>h) λid h=>f4.same id (hA2 id h)) (gcl.mono (λ_ h=>h) λid h=>f4.same id (hB2 id h)) hA4 hB4 ih2 z5 λH5 n5 f5=>?_
  try simp only[go_sem]
  exact hk _ _ (f2.trans (f4.trans f5))
theorem ADl:∀(l:List Tt),smB l=true->∀e∈l,AEl G e
 |[],_,_,he=>by cases he
 |a::l,hz,e,he=>by
  unfold smB at hz
  rw[Bool.and_eq_true]at hz
  have x1:=ATP a hz.1
  have x2:=ADl l hz.2 e
  rcases List.mem_cons.1 he with rfl|he
  ·exact x1
  ·exact x2 he
end
theorem ARm{m:Tm}(hz:smM m=true):AOw G m:=by
 intro m2 H n c1 c2 A B k hbe h1 h2 hA hB hk
 unfold smM at hz
 simp only[Bool.and_eq_true,decide_eq_true_eq]at hz
 obtain⟨z1,z2,z3⟩:=hz
 refine BH (s:=N7 (TB lfp G)) V4 (by obtain⟨h,o⟩:=zO BI G;rw[V4]at h;cases h;exact o) ?_
 show TB lfp G (Runs F G) (.agg c1) (.agg c2) H n k
 delta TB
 refine Dq λH1 f1 g1=>?_
 refine Dq λH2 f2 g2=>?_
 have g1:=f2.get g1 (by omega)
 have f2:=f1.trans f2
 have h1:jU G H2 A c1 m:=h1.mono (λ_ h=>h) λid h=>f2.same id (hA id h)
 have h2:jU G H2 B c2 m2:=h2.mono (λ_ h=>h) λid h=>f2.same id (hB id h)
 have hA2:∀id,A id->id<n+1+1:=λid h=>by have:=hA id h;omega
 have hB2:∀id,B id->id<n+1+1:=λid h=>by have:=hB id h;omega
 obtain⟨l1,k1,vp,vb,rfl,hp,hb⟩:=h1.inv
 obtain⟨l2,k2,wp,wb,rfl,gp,gb⟩:=h2.inv
 obtain⟨nm,st,ps,ty,bd⟩:=m
 obtain⟨nm2,st2,ps2,ty2,bd2⟩:=m2
 obtain⟨cs,hle,_,_,_,hva,hcs⟩:=hb
 obtain⟨ds,gle,_,_,_,gva,gcs⟩:=gb
 unfold Tm.bare at hbe
 injection hbe with b1 b2 b3 b4 b5
 simp only at b1 b2 b3 b4 b5 z1 z2 z3
 subst b1 b2 b3 b4
 rw[Tt.Px,Tt.Px]at b5
 have q2:AY (.ptr n 2) G H2=some _:=AV g1 rfl
 have r2:AY (.ptr (n+1) 2) G H2=some _:=AV g2 rfl
 have q3:AY (.ptr n 3) G H2=some _:=AV g1 rfl
 have r3:AY (.ptr (n+1) 3) G H2=some _:=AV g2 rfl
 have q4:AY (.ptr n 4) G H2=some _:=AV g1 rfl
 have r4:AY (.ptr (n+1) 4) G H2=some _:=AV g2 rfl
 have q7:AY (.ptr n 7) G H2=some _:=AV g1 rfl
 have r7:AY (.ptr (n+1) 7) G H2=some _:=AV g2 rfl
 simp only[go_sem,Nat.reduceAdd,q2,r2,AMF,q3,r3,AWm]
 refine AB (v:=.agg [ty.nm.v,.bool ty.arr]) (EM g1 (by omega) (by show 5+2<=8;omega)) ?_
 refine AB (v:=.agg [ty.nm.v,.bool ty.arr]) (EM g2 (by omega) (by show 5+2<=8;omega)) ?_
 simp only[go_sem,Nat.reduceAdd,AQJ,q4,r4]
 refine AMT hp gp z1 ?_
 simp only[go_sem,Nat.reduceAdd,q7,r7]
 refine AE9 b5 hle gle (λid h=>hA2 id (hva id h)) (λid h=>hB2 id (gva id h)) hcs gcs hA2 hB2 (ADl bd z3) z2 λH3 n3 f3=>?_
 try simp only[go_sem]
 exact hk _ _ (f2.trans f3)
theorem ATB{x y:Tc}{c1 c2:LV}{A B:Nat->Prop}(hbe:x.bare=y.bare)(z1:x.fs.length<=100000)(z2:x.ms.length<=100000)(z3:∀m∈x.ms,smM m=true)(h1:jF G H A c1 x)(h2:jF G H B c2 y)(hA:∀id,A id->id<n)(hB:∀id,B id->id<n)(hk:∀H' n',Kp H n H' n'->k (.bool true) H' n'):Runs F G jm [.agg c1,.agg c2] H n k:=by
 refine BH (s:=N7 (Uc lfp G)) Xi (by obtain⟨h,o⟩:=ABO BI G;rw[Xi]at h;cases h;exact o) ?_
 show Uc lfp G (Runs F G) (.agg c1) (.agg c2) H n k
 delta Uc
 refine Dq λH1 f1 g1=>?_
 refine Dq λH2 f2 g2=>?_
 have g1:=f2.get g1 (by omega)
 have f2:=f1.trans f2
 have h1:jF G H2 A c1 x:=h1.mono (λ_ h=>h) λid h=>f2.same id (hA id h)
 have h2:jF G H2 B c2 y:=h2.mono (λ_ h=>h) λid h=>f2.same id (hB id h)
 have hA2:∀id,A id->id<n+1+1:=λid h=>by have:=hA id h;omega
 have hB2:∀id,B id->id<n+1+1:=λid h=>by have:=hB id h;omega
 cases h1 with
 |mk l1 k1 hp hb=>
 cases h2 with
 |mk l2 k2 gp gb=>
 rename_i nm sup fs ms vp vb nm2 sup2 fs2 ms2 wp wb
 obtain⟨cs,hle,_,_,_,hva,hcs⟩:=hb
 obtain⟨ds,gle,_,_,_,gva,gcs⟩:=gb
 unfold Tc.bare at hbe
 injection hbe with b1 b2 b3 b4
 simp only at b1 b2 b3 b4 z1 z2 z3
 subst b1 b2 b3
 have q2:AY (.ptr n 2) G H2=some _:=AV g1 rfl
 have r2:AY (.ptr (n+1) 2) G H2=some _:=AV g2 rfl
 have q3:AY (.ptr n 3) G H2=some _:=AV g1 rfl
 have r3:AY (.ptr (n+1) 3) G H2=some _:=AV g2 rfl
 have q4:AY (.ptr n 4) G H2=some _:=AV g1 rfl
 have r4:AY (.ptr (n+1) 4) G H2=some _:=AV g2 rfl
 have q5:AY (.ptr n 5) G H2=some _:=AV g1 rfl
 have r5:AY (.ptr (n+1) 5) G H2=some _:=AV g2 rfl
 simp only[go_sem,Nat.reduceAdd,q2,r2,AMF,q3,r3,q4,r4]
 refine AMT hp gp z1 ?_
 simp only[go_sem,Nat.reduceAdd,q5,r5]
 refine ALl b4 hle gle (λid h=>hA2 id (hva id h)) (λid h=>hB2 id (gva id h)) hcs gcs hA2 hB2 (λe he=>ARm (z3 e he)) z2 λH3 n3 f3=>?_
 try simp only[go_sem]
 exact hk _ _ (f2.trans f3)
end
def ArF(tb:Tab):Prop:=∀s c,Hf tb s=some c->∀m∈c.ms,m.ps.length<=1000
theorem AGf{x:Kx}(ha:ArF x.tb){c:Ty}{nm:St}{st:Bool}{gs:List Ty}{p:Ty×St}(h:ZL x c nm st gs=some p):gs.length<=1000:=by
 unfold ZL at h
 cases hk:Cb x.tb c with
 |false=>rw[hk]at h;cases h
 |true=>
  rw[hk]at h
  cases hm:QF x.tb c.nm nm st with
  |none=>rw[hm]at h;cases h
  |some q=>
   rw[hm]at h
   obtain⟨o,s⟩:=q
   have h:aC (yE x.tb gs s.ps) s.ret o=some p:=h
   have hf:=ABK (OT h).1
   obtain⟨u,d,h1,h2⟩:=zI hm
   have:s.ps.length<=1000:=ha u d h1 s h2
   omega
theorem APe{x:Kx}(ha:ArF x.tb){Γ:List Dh}{nm:St}{ty:Ty}{p:Ty×St}(kind:Nat)(ks:List Ty)(h:aN x Γ kind nm ty ks=some p):ks.length<=100000:=by
 match kind,h with
 |0,h=>cases h
 |8,h=>
  rcases ks with _|⟨c,gs⟩
  ·cases h
  ·have h:(bif c.cls then ZL x c nm false gs else none)=some p:=h
   cases hc:c.cls with
   |false=>rw[hc]at h;cases h
   |true=>
    rw[hc]at h
    have:=AGf ha h
    simp only[List.length_cons];omega
 |9,h=>have:=AGf ha (show ZL x ty nm true ks=some p from h);omega
 |1,h=>rcases ks with _|⟨a,_|⟨b,_|⟨c,l⟩⟩⟩<;>first|(cases h;done)|simp
 |2,h=>rcases ks with _|⟨a,_|⟨b,_|⟨c,l⟩⟩⟩<;>first|(cases h;done)|simp
 |3,h=>rcases ks with _|⟨a,_|⟨b,_|⟨c,l⟩⟩⟩<;>first|(cases h;done)|simp
 |4,h=>rcases ks with _|⟨a,_|⟨b,_|⟨c,l⟩⟩⟩<;>first|(cases h;done)|simp
 |5,h=>rcases ks with _|⟨a,_|⟨b,_|⟨c,l⟩⟩⟩<;>first|(cases h;done)|simp
 |6,h=>rcases ks with _|⟨a,_|⟨b,_|⟨c,l⟩⟩⟩<;>first|(cases h;done)|simp
 |7,h=>rcases ks with _|⟨a,_|⟨b,_|⟨c,l⟩⟩⟩<;>first|(cases h;done)|simp
 |10,h=>rcases ks with _|⟨a,_|⟨b,_|⟨c,l⟩⟩⟩<;>first|(cases h;done)|simp
 |11,h=>rcases ks with _|⟨a,_|⟨b,_|⟨c,l⟩⟩⟩<;>first|(cases h;done)|simp
 |12,h=>rcases ks with _|⟨a,_|⟨b,_|⟨c,l⟩⟩⟩<;>first|(cases h;done)|simp
 |13,h=>rcases ks with _|⟨a,_|⟨b,_|⟨c,l⟩⟩⟩<;>first|(cases h;done)|simp
 |14,h=>rcases ks with _|⟨a,_|⟨b,_|⟨c,l⟩⟩⟩<;>first|(cases h;done)|simp
 |15,h=>rcases ks with _|⟨a,_|⟨b,_|⟨c,l⟩⟩⟩<;>first|(cases h;done)|simp
 |16,h=>rcases ks with _|⟨a,_|⟨b,_|⟨c,l⟩⟩⟩<;>first|(cases h;done)|simp
 |17,h=>rcases ks with _|⟨a,_|⟨b,_|⟨c,l⟩⟩⟩<;>first|(cases h;done)|simp
 |18,h=>rcases ks with _|⟨a,_|⟨b,_|⟨c,l⟩⟩⟩<;>first|(cases h;done)|simp
 |19,h=>rcases ks with _|⟨a,_|⟨b,_|⟨c,l⟩⟩⟩<;>first|(cases h;done)|simp
 |20,h=>rcases ks with _|⟨a,_|⟨b,_|⟨c,l⟩⟩⟩<;>first|(cases h;done)|simp
 |k+21,h=>cases h
theorem AQp{x:Kx}{nm:St}{ty:Ty}{g g1:Gs}(does:Nat)(es:List Ty)(h:AIF x does nm ty es g=some g1):es.length<=100000:=by
 match does,h with
 |0,h=>cases h
 |1,h=>rcases es with _|⟨a,_|⟨b,_|⟨c,l⟩⟩⟩<;>first|(cases h;done)|simp
 |2,h=>rcases es with _|⟨a,_|⟨b,_|⟨c,l⟩⟩⟩<;>first|(cases h;done)|simp
 |3,h=>rcases es with _|⟨a,_|⟨b,_|⟨c,l⟩⟩⟩<;>first|(cases h;done)|simp
 |4,h=>rcases es with _|⟨a,_|⟨b,_|⟨c,l⟩⟩⟩<;>first|(cases h;done)|simp
 |5,h=>rcases es with _|⟨a,_|⟨b,_|⟨c,l⟩⟩⟩<;>first|(cases h;done)|simp
 |6,h=>rcases es with _|⟨a,_|⟨b,_|⟨c,l⟩⟩⟩<;>first|(cases h;done)|simp
 |7,h=>rcases es with _|⟨a,_|⟨b,_|⟨c,l⟩⟩⟩<;>first|(cases h;done)|simp
 |k+8,h=>cases h
mutual
theorem ARF{x:Kx}(ha:ArF x.tb){Γ:List Dh}:∀{e e':Te},ckE x Γ e=some e'->e'.bare=e.bare/\smE e'=true
 |.mk kind num nm ty of own kids,e',h=>by
  obtain⟨ks,p,h1,h2,rfl,h0⟩:=AIA h
  obtain⟨b1,b2⟩:=AFg ha h1
  have hl:=APe ha _ _ h2
  rw[List.length_map]at hl
  refine⟨?_,?_⟩
  ·unfold Te.bare;rw[b1]
  ·unfold smE;rw[b2,decide_eq_true hl];rfl
theorem AFg{x:Kx}(ha:ArF x.tb){Γ:List Dh}:∀{l l':List Te},ckL x Γ l=some l'->Te.Q9 l'=Te.Q9 l/\smL l'=true
 |[],l',h=>by rw[ckL]at h;cases h;exact⟨rfl,by unfold smL;rfl⟩
 |e::l,l',h=>by
  obtain⟨e',t,h1,h2,rfl⟩:=tY h
  obtain⟨b1,b2⟩:=ARF ha h1
  obtain⟨b3,b4⟩:=AFg ha h2
  refine⟨?_,?_⟩
  ·unfold Te.Q9;rw[b1,b3]
  ·unfold smL;rw[b2,b4];rfl
end
theorem ASa{x:Kx}{g:Gs}{r:List Tt×Nat}(h:mG x [] g=some r):r.1=[]:=by rw[mG]at h;cases h;rfl
mutual
theorem APh{x:Kx}(ha:ArF x.tb):∀{s:Tt} {g:Gs} {r:Tt×Gs},ckS x s g=some r->r.1.bare=s.bare/\smS r.1=true
 |.mk does nm ty es th el,g,r,h=>by
  obtain⟨_,es',g1,h1,h2,h3⟩:=AHg h
  obtain⟨b1,b2⟩:=AFg ha h1
  have hl:=AQp _ _ h2
  rw[List.length_map]at hl
  by_cases hd:does=4∨does=5
  ·rcases h3 with⟨_,⟨z1,z2⟩,p,q,h3,h4,rfl⟩|⟨hn,_⟩
   ·obtain⟨c1,c2,c3⟩:=ABh ha h3
    obtain⟨d1,d2,d3⟩:=ABh ha h4
    refine⟨?_,?_⟩
    ·show(Tt.mk does nm ty es' p.1 q.1).bare=_
     unfold Tt.bare;rw[b1,c1,d1]
    ·show smS (Tt.mk does nm ty es' p.1 q.1)=true
     unfold smS;rw[b2,c2,d2,decide_eq_true hl,decide_eq_true (show p.1.length<=100000 by omega),decide_eq_true (show q.1.length<=100000 by omega)];rfl
   ·exact absurd hd hn
  ·obtain⟨e1,e2⟩:=AQO h hd
   rcases h3 with⟨hn,_⟩|⟨_,rfl⟩
   ·exact absurd hn hd
   ·subst e1 e2
    refine⟨?_,?_⟩
    ·show(Tt.mk does nm ty es' [] []).bare=_
     unfold Tt.bare;rw[b1]
    ·show smS (Tt.mk does nm ty es' [] [])=true
     unfold smS;rw[b2,decide_eq_true hl];unfold smB;rfl
theorem ABh{x:Kx}(ha:ArF x.tb):∀{l:List Tt} {g:Gs} {r:List Tt×Nat},mG x l g=some r->Tt.Q9 r.1=Tt.Q9 l/\smB r.1=true/\r.1.length=l.length
 |[],g,r,h=>by rw[ASa h];exact⟨rfl,by unfold smB;rfl,rfl⟩
 |s::l,g,(b',a),h=>by
  obtain⟨s',g1,l',h1,h2,rfl⟩:=AKG h
  obtain⟨b1,b2⟩:=APh ha h1
  obtain⟨b3,b4,b5⟩:=ABh ha h2
  have b3:Tt.Q9 l'=Tt.Q9 l:=b3
  have b4:smB l'=true:=b4
  have b5:l'.length=l.length:=b5
  refine⟨?_,?_,?_⟩
  ·show Tt.Q9 (s'::l')=_
   unfold Tt.Q9;rw[b3,show s'.bare=s.bare from b1]
  ·show smB (s'::l')=true
   unfold smB;rw[show smS s'=true from b2,b4];rfl
  ·show(s'::l').length=_
   rw[List.length_cons,List.length_cons,b5]
end
theorem AQ7{l:List Dh}:∀{g g':Gs},ABr l g=some g'->g.2+l.length=g'.2/\(l=[]∨g'.2<=200):=by
 induction l with
 |nil=>intro g g' h;cases h;exact⟨rfl,.inl rfl⟩
 |cons v l ih=>
  intro g g' h
  obtain⟨g1,h1,h2⟩:=Option.bind_eq_some_iff.1 (show(ADU v g).bind (ABr l)=some g' from h)
  obtain⟨i1,i2⟩:=ih h2
  unfold ADU at h1
  cases hb:(G8 v.nm g.1).isNone&&decide (g.2<200)with
  |false=>rw[hb]at h1;cases h1
  |true=>
   rw[hb]at h1
   cases h1
   rw[Bool.and_eq_true]at hb
   have:=of_decide_eq_true hb.2
   rw[List.length_cons]
   simp only at i1 i2
   refine⟨by omega,.inr ?_⟩
   rcases i2 with rfl|i2
   ·simp only[List.length_nil]at i1;omega
   ·exact i2
theorem AQG{tb:Tab}(ha:ArF tb){cls:St}{m m':Tm}(h:ckM tb cls m=some m'):m'.bare=m.bare/\smM m'=true:=by
 unfold ckM at h
 cases hz:szB m.body with
 |false=>rw[hz]at h;cases h
 |true=>
  rw[hz]at h
  obtain⟨g,h1,h⟩:=Option.bind_eq_some_iff.1 (show((ABr m.ps ([],0)).bind λg=>(mG ⟨tb,cls,m.st,m.ret⟩ m.body g).map λq=>({m with body:=q.1}:Tm))=some m' from h)
  obtain⟨q,h2,rfl⟩:=Option.map_eq_some_iff.1 h
  obtain⟨b1,b2,b3⟩:=ABh (x:=⟨tb,cls,m.st,m.ret⟩) ha h2
  obtain⟨i1,i2⟩:=AQ7 h1
  have hz:=of_decide_eq_true hz
  refine⟨?_,?_⟩
  ·show({m with body:=Tt.Q9 q.1}:Tm)={m with body:=Tt.Q9 m.body}
   rw[b1]
  ·show(decide (m.ps.length<=100000)&&(decide (q.1.length<=100000)&&smB q.1))=true
   have:m.ps.length<=100000:=by
    rcases i2 with i2|i2
    ·rw[i2];exact Nat.zero_le _
    ·have i1:0+m.ps.length=g.2:=i1
     omega
   rw[b2,decide_eq_true this,decide_eq_true (show q.1.length<=100000 by omega)];rfl
theorem AGE{tb:Tab}(ha:ArF tb){cls:St}:∀{l l':List Tm},ABV tb cls l=some l'->l'.map Tm.bare=l.map Tm.bare/\∀m∈l',smM m=true
 |[],l',h=>by cases h;exact⟨rfl,λ_ h=>by cases h⟩
 |m::l,l',h=>by
  obtain⟨m',t,h1,h2,rfl⟩:=ABv h
  obtain⟨b1,b2⟩:=AQG ha h1
  obtain⟨b3,b4⟩:=AGE ha h2
  refine⟨by rw[List.map_cons,List.map_cons,b1,b3],λx hx=>?_⟩
  rcases List.mem_cons.1 hx with rfl|hx
  ·exact b2
  ·exact b4 x hx
theorem AJH{tb:Tab}(ha:ArF tb){c c':Tc}(h:ckC tb c=some c'):c'.bare=c.bare/\c'.fs=c.fs/\c'.ms.length=c.ms.length/\∀m∈c'.ms,smM m=true:=by
 obtain⟨ms,h1,rfl⟩:=Option.map_eq_some_iff.1 (show(ABV tb c.nm c.ms).map (λms=>({c with ms:=ms}:Tc))=some c' from h)
 obtain⟨b1,b2⟩:=AGE ha h1
 refine⟨?_,rfl,AEJ h1,b2⟩
 show({c with ms:=ms.map Tm.bare}:Tc)={c with ms:=c.ms.map Tm.bare}
 rw[b1]
def bigS:Nat:=4611686018427387904
theorem AGc(s:St):uX s.v=some (.int .i64 (.ofNat s.1) 0):=rfl
def xeC(kd l c nu:Int)(nm ty:St)(ar:Bool)(v:V)(t2:St)(a2:Bool)(n3:St):LV:=[.int .i64 kd 0,.int .i64 l 0,.int .i64 c 0,.int .i64 nu 0,nm.v,ty.v,.bool ar,v,t2.v,.bool a2,n3.v]
inductive XE(G:AX):LV->Prop where
 |mk {kd l c nu:Int} {nm ty:St} {ar:Bool} {v:V} {t2:St} {a2:Bool} {n3:St} {LS:DZ} (hel:∀H,El G H v 11 LS) (hl:LS.length<9223372036854775808) (hk:∀L∈LS,XE G L):XE G (xeC kd l c nu nm ty ar v t2 a2 n3)
theorem XE.len{G:AX}{L:LV}(h:XE G L):L.length=11:=by cases h;rfl
def xsC(does l c:Int)(nm ty:St)(ar:Bool)(ve vt vl:V):LV:=[.int .i64 does 0,.int .i64 l 0,.int .i64 c 0,nm.v,ty.v,.bool ar,ve,vt,vl]
inductive XS(G:AX):LV->Prop where
 |mk {does l c:Int} {nm ty:St} {ar:Bool} {ve vt vl:V} {es ts ls:DZ} (he:∀H,El G H ve 11 es) (hel:es.length<9223372036854775808) (hek:∀L∈es,XE G L)
  (hth:∀H,El G H vt 9 ts) (htl:ts.length<9223372036854775808) (htk:∀L∈ts,XS G L) (hls:∀H,El G H vl 9 ls) (hll:ls.length<9223372036854775808) (hlk:∀L∈ls,XS G L):XS G (xsC does l c nm ty ar ve vt vl)
theorem XS.len{G:AX}{L:LV}(h:XS G L):L.length=9:=by cases h;rfl
inductive XV:LV->Dh->Prop where
 |mk {f:Dh} (hn:f.nm.ok) (ht:f.ty.nm.ok):XV (UW f) f
inductive XVs:DZ->List Dh->Prop where
 |nil:XVs [] []
 |cons {L:LV} {f:Dh} {LS:DZ} {fs:List Dh} (h:XV L f) (t:XVs LS fs):XVs (L::LS) (f::fs)
def xmC(l c:Int)(nm:St)(st:Bool)(vp:V)(ty:St)(ar:Bool)(vb:V):LV:=[.int .i64 l 0,.int .i64 c 0,nm.v,.bool st,vp,ty.v,.bool ar,vb]
structure XW(v:V):Prop where
 ks:KS v
 ok:jZ v=true
 vc:Ba v=[v]
 no:v.Ec=none
inductive XM(G:AX):LV->Tm->Prop where
 |mk {l c:Int} {nm:St} {st:Bool} {vp:V} {ty:Ty} {vb:V} {ps:DZ} {pf:List Dh} {bs:DZ} (hn:nm.ok) (ht:ty.nm.ok) (hb:nm.1<=bigS) (hps:∀H,El G H vp 3 ps) (hpl:ps.length<9223372036854775808) (hpk:XVs ps pf) (kp:XW vp)
  (hbs:∀H,El G H vb 9 bs) (hbl:bs.length<9223372036854775808) (hbk:∀L∈bs,XS G L):XM G (xmC l c nm st vp ty.nm ty.arr vb) ⟨nm,st,pf,ty,[]⟩
theorem XM.len{G:AX}{L:LV}{m:Tm}(h:XM G L m):L.length=8:=by cases h;rfl
inductive XMs(G:AX):DZ->List Tm->Prop where
 |nil:XMs G [] []
 |cons {L:LV} {m:Tm} {LS:DZ} {ms:List Tm} (h:XM G L m) (t:XMs G LS ms):XMs G (L::LS) (m::ms)
def xcC(l c:Int)(nm sup:St)(vf vm:V):LV:=[.int .i64 l 0,.int .i64 c 0,nm.v,sup.v,vf,vm]
inductive XC(G:AX):LV->Tc->Prop where
 |mk {l c:Int} {nm sup:St} {vf vm:V} {fs ms:DZ} {ff:List Dh} {mm:List Tm} (hn:nm.ok) (hs:sup.ok) (hb:nm.1<=bigS) (hbs:sup.1<=4611686018427387000) (hfs:∀H,El G H vf 3 fs) (hfl:fs.length<9223372036854775808) (hfk:XVs fs ff) (kf:XW vf)
  (hms:∀H,El G H vm 8 ms) (hml:ms.length<9223372036854775808) (hmk:XMs G ms mm) (km:XW vm):XC G (xcC l c nm sup vf vm) ⟨nm,sup,ff,mm⟩
theorem XC.len{G:AX}{L:LV}{c:Tc}(h:XC G L c):L.length=6:=by cases h;rfl
theorem XVs.len:∀{LS:DZ} {fs:List Dh},XVs LS fs->LS=fs.map UW/\∀f∈fs,f.nm.ok/\f.ty.nm.ok
 |_,_,.nil=>⟨rfl,λ_ h=>by cases h⟩
 |_,_,.cons h t=>by
  obtain⟨h1,h2⟩:=t.len
  cases h with
  |mk a b=>
   refine⟨by rw[h1];rfl,λf hf=>?_⟩
   rcases List.mem_cons.1 hf with rfl|hf
   ·exact⟨a,b⟩
   ·exact h2 f hf
theorem XMs.len{G:AX}:∀{LS:DZ} {fs:List Tm},XMs G LS fs->LS.length=fs.length
 |_,_,.nil=>rfl
 |_,_,.cons _ t=>by simp[t.len]
theorem XMs.at{G:AX}:∀{LS:DZ} {fs:List Tm},XMs G LS fs->∀{i:Nat} {m:Tm},fs[i]? =some m->∃L,LS[i]? =some L/\XM G L m
 |_,_,.nil,i,m,h=>by simp at h
 |_,_,.cons h _,0,m,hm=>by cases hm;exact⟨_,rfl,h⟩
 |_,_,.cons _ t,i+1,m,hm=>by obtain⟨L,h1,h2⟩:=t.at (i:=i) hm;exact⟨L,h1,h2⟩
theorem XW.vs{G:AX}{H:Heap}{A:Nat->Prop}{v:V}{fs:List Dh}(w:XW v)(h:El G H v 3 (fs.map UW)):ADg G H A v fs:=⟨h,w.ks,w.ok,w.vc,λid hid=>by rw[w.no]at hid;cases hid⟩
theorem XM.fm{G:AX}{H:Heap}{A:Nat->Prop}{L:LV}{m:Tm}(h:XM G L m):AFc G H A L m:=by
 cases h with
 |mk hn ht hb hps hpl hpk kp hbs hbl hbk=>
  have:=hpk.len.1
  subst this
  exact .mk _ _ _ (kp.vs (hps H))
theorem XMs.fm{G:AX}{H:Heap}{A:Nat->Prop}:∀{LS:DZ} {fs:List Tm},XMs G LS fs->gW G H A LS fs
 |_,_,.nil=>.nil
 |_,_,.cons h t=>.cons h.fm t.fm
theorem XC.fc{G:AX}{H:Heap}{A:Nat->Prop}{L:LV}{c:Tc}(h:XC G L c):AFC G H A L c:=by
 cases h with
 |mk hn hs hb hbs hfs hfl hfk kf hms hml hmk km=>
  have:=hfk.len.1
  subst this
  exact .mk _ _ (kf.vs (hfs H)) (hms H) (λid hid=>by rw[km.no]at hid;cases hid) hmk.fm
def FwC(c:Tc):Prop:=c.fs.length<=10/\c.ms.length<=10/\∀m∈c.ms,m.ps.length<=8
theorem XC.ok{G:AX}{L:LV}{c:Tc}(h:XC G L c)(hw:FwC c):AEV c:=by
 cases h with
 |mk hn hs hb hbs hfs hfl hfk kf hms hml hmk km=>
  obtain⟨w1,w2,w3⟩:=hw
  refine⟨hn,hs,hfk.len.2,λm hm=>?_,by simp only at w1⊢;omega,by simp only at w2⊢;omega⟩
  obtain⟨i,hi⟩:=List.mem_iff_getElem?.1 hm
  have hw:=w3 m hm
  obtain⟨L,_,hx⟩:=hmk.at hi
  cases hx with
  |mk hn ht hb hps hpl hpk kp hbs hbl hbk=>exact⟨hn,ht,λf hf=>(hpk.len.2 f hf).2,by simp only at hw⊢;omega⟩
section
variable{G:AX}
def BK(H:Heap)(n:Nat)(k:KV):Prop:=∀H' n' b,Kp H n H' n'->k (.bool b) H' n'
theorem AXI{L:LV}(hL:XE G L):∀{H:Heap} {n d:Nat} {k:KV},BK H n k->Runs F G Zn [.agg L,.int .i64 (.ofNat d) 0] H n k:=by
 induction hL with
 | @mk kd l c nu nm ty ar v t2 a2 n3 LS hel hl hkids ihk=>
 intro H n d k hk
 refine BH (s:=N7 (Vl lfp G)) Yg (by obtain⟨h,o⟩:=ACD BI G;rw[Yg]at h;cases h;exact o) ?_
 show Vl lfp G (Runs F G) (.agg (xeC kd l c nu nm ty ar v t2 a2 n3)) (.int .i64 (.ofNat d) 0) H n k
 delta Vl
 refine Dq λH1 f1 g1=>?_
 have q7:AY (.ptr n 7) G H1=some v:=AV g1 rfl
 have q4:AY (.ptr n 4) G H1=some (nm.v):=AV g1 rfl
 have q5:AY (.ptr n 5) G H1=some (ty.v):=AV g1 rfl
 refine AB (N9 ..) ?_
 cases h1:decide (10<d)with
 |true=>
  repeat (first|with_reducible refine SE ?_|with_reducible refine Uj ?_)
  rw[Ar];exact hk _ _ _ f1
 |false=>
 simp only[go_sem,Nat.reduceAdd,q7,(hel H1).len,N9]
 cases h2:decide (5<LS.length)with
 |true=>
  repeat (first|with_reducible refine SE ?_|with_reducible refine Uj ?_)
  rw[Ar];exact hk _ _ _ f1
 |false=>
 simp only[go_sem,Nat.reduceAdd,q4,AGc,N9]
 cases h3:decide (40<nm.1)with
 |true=>
  repeat (first|with_reducible refine SE ?_|with_reducible refine Uj ?_)
  rw[Ar];exact hk _ _ _ f1
 |false=>
 simp only[go_sem,Nat.reduceAdd,q5,AGc,N9]
 cases h4:decide (40<ty.1)with
 |true=>
  rw[Ar];exact hk _ _ _ f1
 |false=>
 have h1:=of_decide_eq_false h1
 simp only[go_sem,Nat.reduceAdd,q7,(hel H1).len]
 refine DF (N:=LS.length) (J:=λj q=>∃H' n',q=(.int .i64 (.ofNat d) 0,v,.int .i64 (.ofNat LS.length) 0,.int .i64 (.ofNat j) 0,H',n')/\Kp H n H' n') ?_ ?_ ⟨H1,n+1,rfl,f1⟩
 ·rintro I j q hlt ⟨H2,n2,rfl,f2⟩ ih
  show Lc lfp G (Runs F G) k I (.int .i64 (.ofNat d) 0) v (.int .i64 (.ofNat LS.length) 0) (.int .i64 (.ofNat j) 0) H2 n2
  delta Lc
  obtain⟨p,hp,hld⟩:=(hel H2).at (List.getElem?_eq_getElem hlt)
  have hx:=hkids _ (List.getElem_mem hlt)
  have hi:= @ihk _ (List.getElem_mem hlt)
  generalize LS[j]=M at hld hx hi
  rw[EP,AQ,decide_eq_true hlt,Ar]
  refine AB hp (AB (Dx hld) ?_)
  refine Az rfl λH3 f3 g3=>?_
  refine DV g3 rfl hx.len (by omega) λH4 g4 s4=>?_
  have f4:Kp H2 n2 H4 (n2+1):=⟨f3.le,λid hid=>(s4 id (by omega)).trans (f3.same id hid)⟩
  refine AB (Bf (m:=11) g4 (by omega) hx.len) (AB (FB (by omega)) ?_)
  refine hi λH5 n5 b f5=>?_
  have f5:=(f2.trans f4).trans f5
  rw[GL,AQ]
  cases b with
  |false=>rw[Bool.not_false,Ar];exact hk _ _ _ f5
  |true=>
   rw[Bool.not_true,Aj]
   exact AB (FB (by omega)) (ih _ ⟨H5,n5,rfl,f5⟩)
 ·rintro I q ⟨H2,n2,rfl,f2⟩
  show Lc lfp G (Runs F G) k I (.int .i64 (.ofNat d) 0) v (.int .i64 (.ofNat LS.length) 0) (.int .i64 (.ofNat LS.length) 0) H2 n2
  delta Lc
  rw[EP,AQ,decide_eq_false (Nat.lt_irrefl _),Aj]
  delta VJ
  exact hk _ _ _ f2
def FC(G:AX)(v:V):Prop:=∀{H:Heap} {n d:Nat} {k:KV},BK H n k->Runs F G OL [v,.int .i64 (.ofNat d) 0] H n k
def ATy(G:AX)(L:LV):Prop:=∀vt vl,L[7]? =some vt->L[8]? =some vl->FC G vt/\FC G vl
theorem ACj{v:V}{LS:DZ}(hv:∀H,El G H v 9 LS)(hX:∀L∈LS,XS G L)(hN:∀L∈LS,ATy G L):FC G v:=by
 intro H n d k hk
 refine BH (s:=N7 (OO lfp G)) RY (by obtain⟨h,o⟩:=qj BI G;rw[RY]at h;cases h;exact o) ?_
 show OO lfp G (Runs F G) v (.int .i64 (.ofNat d) 0) H n k
 delta OO
 have bad:∀{H' n'},Kp H n H' n'->k (.bool false) H' n':=λf=>hk _ _ _ f
 refine AB (N9 ..) ?_
 cases h1:decide (5<d)with
 |true=>
  repeat (first|with_reducible refine SE ?_|with_reducible refine Uj ?_)
  rw[Ar];exact bad (Kp.refl ..)
 |false=>
 simp only[go_sem,(hv H).len,N9]
 cases h2:decide (10<LS.length)with
 |true=>rw[Ar];exact bad (Kp.refl ..)
 |false=>
 have h1:=of_decide_eq_false h1
 have h2:=of_decide_eq_false h2
 simp only[go_sem,(hv H).len]
 refine DF (N:=LS.length) (J:=λj q=>∃H' n',q=(.int .i64 (.ofNat d) 0,v,.int .i64 (.ofNat LS.length) 0,.int .i64 (.ofNat j) 0,H',n')/\Kp H n H' n') ?_ ?_ ⟨H,n,rfl,Kp.refl ..⟩
 ·rintro I j q hlt ⟨H2,n2,rfl,f2⟩ ih
  show Ij lfp G (Runs F G) k I (.int .i64 (.ofNat d) 0) v (.int .i64 (.ofNat LS.length) 0) (.int .i64 (.ofNat j) 0) H2 n2
  delta Ij
  obtain⟨p,hp,hld⟩:=(hv H2).at (List.getElem?_eq_getElem hlt)
  have hx:=hX _ (List.getElem_mem hlt)
  have hn:=hN _ (List.getElem_mem hlt)
  have ih:∀H' n',Kp H n H' n'->I (.int .i64 (.ofNat d) 0,v,.int .i64 (.ofNat LS.length) 0,.int .i64 (.ofNat (j+1)) 0,H',n'):=λH' n' f=>ih _ ⟨H',n',rfl,f⟩
  generalize LS[j]=M at hld hx hn ih
  rw[EP,AQ,decide_eq_true hlt,Ar]
  refine AB hp (AB (Dx hld) ?_)
  refine Az rfl λH3 f3 g3=>?_
  refine DV g3 rfl hx.len (by omega) λH4 g4 s4=>?_
  have f4:Kp H2 n2 H4 (n2+1):=⟨f3.le,λid hid=>(s4 id (by omega)).trans (f3.same id hid)⟩
  cases hx with
  | @mk does l c nm ty ar ve vt vl es ts ls he hel hek hth htl htk hls hll hlk=>
  obtain⟨ct,cl⟩:=hn vt vl rfl rfl
  have f4:=f2.trans f4
  have q6:AY (.ptr n2 6) G H4=some ve:=AV g4 rfl
  have q3:AY (.ptr n2 3) G H4=some (nm.v):=AV g4 rfl
  have q4:AY (.ptr n2 4) G H4=some (ty.v):=AV g4 rfl
  have q7:AY (.ptr n2 7) G H4=some vt:=AV g4 rfl
  simp only[go_sem,Nat.reduceAdd,q6,(he H4).len,N9]
  cases h3:decide (3<es.length)with
  |true=>
   repeat (first|with_reducible refine SE ?_|with_reducible refine Zt ?_|with_reducible refine Uj ?_)
   rw[Ar];exact bad f4
  |false=>
  simp only[go_sem,Nat.reduceAdd,q3,AGc,N9]
  cases h4:decide (40<nm.1)with
  |true=>
   repeat (first|with_reducible refine SE ?_|with_reducible refine Zt ?_|with_reducible refine Uj ?_)
   rw[Ar];exact bad f4
  |false=>
  simp only[go_sem,Nat.reduceAdd,q4,AGc,N9]
  cases h5:decide (40<ty.1)with
  |true=>
   repeat (first|with_reducible refine SE ?_|with_reducible refine Zt ?_|with_reducible refine Uj ?_)
   rw[Ar];exact bad f4
  |false=>
  simp only[go_sem,Nat.reduceAdd,q7,FB (show d+1<9223372036854775808 by omega)]
  refine ct λH5 n5 b5 f5=>?_
  have g5:=f5.get g4 (by omega)
  have q8:AY (.ptr n2 8) G H5=some vl:=AV g5 rfl
  have hn5:=f5.le
  have f5:=f4.trans f5
  rw[GL,AQ]
  cases b5 with
  |false=>
   rw[Bool.not_false]
   repeat (first|with_reducible refine SE ?_|with_reducible refine Zt ?_|with_reducible refine Uj ?_)
   try rw[Ar]
   exact bad f5
  |true=>
  rw[Bool.not_true]
  simp only[go_sem,Nat.reduceAdd,q8,FB (show d+1<9223372036854775808 by omega)]
  refine cl λH6 n6 b6 f6=>?_
  have g6:=f6.get g5 (by omega)
  have q6:AY (.ptr n2 6) G H6=some ve:=AV g6 rfl
  have hn6:=f6.le
  have f6:=f5.trans f6
  rw[GL,AQ]
  cases b6 with
  |false=>rw[Bool.not_false,Ar];exact bad f6
  |true=>
  rw[Bool.not_true,Aj]
  simp only[go_sem,Nat.reduceAdd,Nat.zero_add,q6,(he H6).len]
  refine DF (N:=es.length) (J:=λi q=>∃H' n',q=(.int .i64 (.ofNat d) 0,v,.int .i64 (.ofNat LS.length) 0,.int .i64 (.ofNat j) 0,ve,.int .i64 (.ofNat es.length) 0,.int .i64 (.ofNat i) 0,H',n')/\Kp H n H' n') ?_ ?_ ⟨H6,n6,rfl,f6⟩
  ·rintro I2 i q hlt2 ⟨H7,n7,rfl,f7⟩ ih2
   show Ht lfp G (Runs F G) k I I2 (.int .i64 (.ofNat d) 0) v (.int .i64 (.ofNat LS.length) 0) (.int .i64 (.ofNat j) 0) ve (.int .i64 (.ofNat es.length) 0) (.int .i64 (.ofNat i) 0) H7 n7
   delta Ht
   obtain⟨p,hp,hld⟩:=(he H7).at (List.getElem?_eq_getElem hlt2)
   have hx:=hek _ (List.getElem_mem hlt2)
   generalize es[i]=M at hld hx
   rw[EP,AQ,decide_eq_true hlt2,Ar]
   refine AB hp (AB (Dx hld) ?_)
   refine Az rfl λH8 f8 g8=>?_
   refine DV g8 rfl hx.len (by omega) λH9 g9 s9=>?_
   have f9:Kp H7 n7 H9 (n7+1):=⟨f8.le,λid hid=>(s9 id (by omega)).trans (f8.same id hid)⟩
   refine AB (Bf (m:=11) g9 (by omega) hx.len) ?_
   refine AXI (d:=0) hx λH10 n10 b f10=>?_
   have f10:=(f7.trans f9).trans f10
   rw[GL,AQ]
   cases b with
   |false=>rw[Bool.not_false,Ar];exact bad f10
   |true=>
    rw[Bool.not_true,Aj]
    exact AB (FB (by omega)) (ih2 _ ⟨H10,n10,rfl,f10⟩)
  ·rintro I2 q ⟨H7,n7,rfl,f7⟩
   show Ht lfp G (Runs F G) k I I2 (.int .i64 (.ofNat d) 0) v (.int .i64 (.ofNat LS.length) 0) (.int .i64 (.ofNat j) 0) ve (.int .i64 (.ofNat es.length) 0) (.int .i64 (.ofNat es.length) 0) H7 n7
   delta Ht
   rw[EP,AQ,decide_eq_false (Nat.lt_irrefl _),Aj]
   delta O3
   exact AB (FB (by omega)) (ih _ _ f7)
 ·rintro I q ⟨H2,n2,rfl,f2⟩
  show Ij lfp G (Runs F G) k I (.int .i64 (.ofNat d) 0) v (.int .i64 (.ofNat LS.length) 0) (.int .i64 (.ofNat LS.length) 0) H2 n2
  delta Ij
  rw[EP,AQ,decide_eq_false (Nat.lt_irrefl _),Aj]
  delta Pv
  exact hk _ _ _ f2
theorem AVj{L:LV}(hL:XS G L):ATy G L:=by
 induction hL with
 | @mk does l c nm ty ar ve vt vl es ts ls he hel hek hth htl htk hls hll hlk iht ihl=>
  intro vt' vl' e1 e2
  cases e1;cases e2
  exact⟨ACj hth htk iht,ACj hls hlk ihl⟩
theorem ALP{v:V}{LS:DZ}(hv:∀H,El G H v 9 LS)(hX:∀L∈LS,XS G L):FC G v:=ACj hv hX λL hL=>AVj (hX L hL)
end
section
variable{G:AX}{H:Heap}{n:Nat}{k:KV}
theorem ALB{L:LV}{x:Tc}(hL:XC G L x)(hk:∀H' n' b,Kp H n H' n'->(b=true->FwC x)->k (.bool b) H' n'):Runs F G ZX [.agg L] H n k:=by
 cases hL with
 | @mk l c nm sup vf vm fs ms ff mm hno hso hn hs hfs hfl hfk kf hms hml hmk km=>
 unfold bigS at hn
 have hmm:=hmk.len
 have hff:fs.length=ff.length:=by rw[hfk.len.1,List.length_map]
 have bad:∀{H' n'},Kp H n H' n'->k (.bool false) H' n':=λf=>hk _ _ _ f λh=>by cases h
 refine BH (s:=mO (Oh lfp G)) RP (by obtain⟨h,o⟩:=rJ BI G;rw[RP]at h;cases h;exact o) ?_
 show Oh lfp G (Runs F G) (.agg (xcC l c nm sup vf vm)) H n k
 delta Oh
 refine Dq λH1 f1 g1=>?_
 have q4:AY (.ptr n 4) G H1=some vf:=AV g1 rfl
 have q5:AY (.ptr n 5) G H1=some vm:=AV g1 rfl
 have q2:AY (.ptr n 2) G H1=some (nm.v):=AV g1 rfl
 have q3:AY (.ptr n 3) G H1=some (sup.v):=AV g1 rfl
 simp only[go_sem,Nat.reduceAdd,q4,(hfs H1).len,N9]
 cases h1:decide (10<fs.length)with
 |true=>
  repeat (first|with_reducible refine SE ?_|with_reducible refine Zt ?_|with_reducible refine Uj ?_)
  rw[Ar];exact bad f1
 |false=>
 simp only[go_sem,Nat.reduceAdd,q5,(hms H1).len,N9]
 cases h2:decide (10<ms.length)with
 |true=>
  repeat (first|with_reducible refine SE ?_|with_reducible refine Zt ?_|with_reducible refine Uj ?_)
  rw[Ar];exact bad f1
 |false=>
 simp only[go_sem,Nat.reduceAdd,q2,q3,AGc,ATi (show nm.1+sup.1<9223372036854775808 by omega),N9]
 cases h3:decide (80<nm.1+sup.1)with
 |true=>rw[Ar];exact bad f1
 |false=>
 have h1:=of_decide_eq_false h1
 have h2:=of_decide_eq_false h2
 simp only[go_sem,Nat.reduceAdd,q5,(hms H1).len]
 refine DF (N:=ms.length) (J:=λj q=>∃H' n',q=(vm,.int .i64 (.ofNat ms.length) 0,.int .i64 (.ofNat j) 0,H',n')/\Kp H n H' n'/\∀L∈mm.take j,L.ps.length<=8) ?_ ?_ ⟨H1,n+1,rfl,f1,λL h=>by cases h⟩
 ·rintro I j q hlt ⟨H2,n2,rfl,f2,hw⟩ ih
  show IC lfp G (Runs F G) k I vm (.int .i64 (.ofNat ms.length) 0) (.int .i64 (.ofNat j) 0) H2 n2
  delta IC
  obtain⟨p,hp,hld⟩:=(hms H2).at (List.getElem?_eq_getElem hlt)
  have hltm:j<mm.length:=by omega
  obtain⟨L9,h9,hx⟩:=hmk.at (List.getElem?_eq_getElem hltm)
  rw[List.getElem?_eq_getElem hlt]at h9
  cases h9
  have ih:∀H' n',Kp H n H' n'->mm[j].ps.length<=8->I (vm,.int .i64 (.ofNat ms.length) 0,.int .i64 (.ofNat (j+1)) 0,H',n'):=λH' n' f h=>ih _ ⟨H',n',rfl,f,λL hL=>by
   rw[List.take_succ_eq_append_getElem hltm]at hL
   rcases List.mem_append.1 hL with hL|hL
   ·exact hw L hL
   ·simp at hL;subst hL;exact h⟩
  generalize ms[j]=M at hld hx
  generalize mm[j]=M2 at hx ih
  rw[EP,AQ,decide_eq_true hlt,Ar]
  refine AB hp (AB (Dx hld) ?_)
  refine Az rfl λH3 f3 g3=>?_
  refine DV g3 rfl hx.len (by omega) λH4 g4 s4=>?_
  have f4:Kp H2 n2 H4 (n2+1):=⟨f3.le,λid hid=>(s4 id (by omega)).trans (f3.same id hid)⟩
  cases hx with
  | @mk ml mc mnm mst vp mty vb ps pf bs hmo hmt hmn hps hpl hpk kp hbs hbl hbk=>
  have hpp:ps.length=pf.length:=by rw[hpk.len.1,List.length_map]
  have f4:=f2.trans f4
  have r4:AY (.ptr n2 4) G H4=some vp:=AV g4 rfl
  have r2:AY (.ptr n2 2) G H4=some (mnm.v):=AV g4 rfl
  have r7:AY (.ptr n2 7) G H4=some vb:=AV g4 rfl
  simp only[go_sem,Nat.reduceAdd,r4,(hps H4).len,N9]
  cases e3:decide (8<ps.length)with
  |true=>
   repeat (first|with_reducible refine SE ?_|with_reducible refine Zt ?_|with_reducible refine Uj ?_)
   rw[Ar];exact bad f4
  |false=>
  simp only[go_sem,Nat.reduceAdd,r2,AGc,N9]
  cases e4:decide (40<mnm.1)with
  |true=>
   repeat (first|with_reducible refine SE ?_|with_reducible refine Zt ?_|with_reducible refine Uj ?_)
   rw[Ar];exact bad f4
  |false=>
  simp only[go_sem,Nat.reduceAdd,r7]
  refine ALP hbs hbk λH5 n5 b5 f5=>?_
  have f5:=f4.trans f5
  rw[GL,AQ]
  cases b5 with
  |false=>rw[Bool.not_false,Ar];exact bad f5
  |true=>
  rw[Bool.not_true,Aj]
  exact AB (FB (by omega)) (ih _ _ f5 (by have:=of_decide_eq_false e3;show pf.length<=8;omega))
 ·rintro I q ⟨H2,n2,rfl,f2,hw⟩
  show IC lfp G (Runs F G) k I vm (.int .i64 (.ofNat ms.length) 0) (.int .i64 (.ofNat ms.length) 0) H2 n2
  delta IC
  rw[EP,AQ,decide_eq_false (Nat.lt_irrefl _),Aj]
  delta Oo
  rw[List.take_of_length_le (by omega)]at hw
  exact hk _ _ _ f2 λ_=>⟨by show ff.length<=10;omega,by show mm.length<=10;omega,hw⟩
end
def ACN:LV:=[.str 2 15677,.str 2 15649,.str 2 15676,.str 2 9766,.str 2 31868,.str 1 43,.str 1 45,.str 1 42,.str 1 47,.str 1 37,.str 1 60,.str 1 61,.str 1 33,.str 1 40,.str 1 41,.str 1 91,.str 1 93,.str 1 123,.str 1 125,.str 1 59,.str 1 44,.str 1 46]
def AAg(G:AX):Prop:=G 2 0 22=some ACN
noncomputable def Gx(G:AX):AX:=λb o z=>Bool.rec (motive:=λ_=>Option LV) (G b o z) (some ACN) (band (Nat.beq b 2) (band (Nat.beq o 0) (Nat.beq z 22)))
theorem AXr{G:AX}(h:AAg G):Gx G=G:=by
 funext b o z
 show(Bool.rec (motive:=λ_=>Option LV) (G b o z) (some ACN) (band (Nat.beq b 2) (band (Nat.beq o 0) (Nat.beq z 22))):Option LV)=_
 cases hb:band (Nat.beq b 2) (band (Nat.beq o 0) (Nat.beq z 22))with
 |false=>rfl
 |true=>
  rw[Bg,Bg,Bool.and_eq_true,Bool.and_eq_true,Nat.beq_eq,Nat.beq_eq,Nat.beq_eq]at hb
  obtain⟨rfl,rfl,rfl⟩:=hb
  exact h.symm
set_option maxHeartbeats 0 in
theorem AN3(G:AX)(L:LV)(K:V->Option S9->Bool->Prop):
 run F (Gx G) 100 100 Ua [] (T.set .e 0 (one L)) 1 (λv H n=>K v (T.get H 0) (Nat.ble 1 n))=K (.bool true) (some (one L)) true:=by kernel_rfl
theorem TabAt.off{G:AX}{H H':Heap}{n n' t a b b':Nat}{fs:Tab}(h:TabAt G H n t a b fs)(f:Kb b' H n H' n')(hs:NK H b')(h1:t≠b')(h2:a≠b')(h3:b≠b'):TabAt G H' n' t a b fs:=by
 obtain⟨ps,q1,q2,q3⟩:=h.faces.is
 exact⟨Nat.lt_of_lt_of_le h.tn f.le,Nat.lt_of_lt_of_le h.an f.le,Nat.lt_of_lt_of_le h.bn f.le,h.tb,h.ab,f.get h.at' h.tn h1,
  ⟨ps,AAZ q1 (f.same a h.an h2),q2,λs v c x y=>(q3 s v c x y).ke (f.ke hs)⟩,h.seen.same (f.same b h.bn h3)⟩
structure Duo(G:AX)(H0:Heap)(n0 m:Nat)(H:Heap)(n t1 a1 b1:Nat)(tb1:Tab)(t2 a2 b2:Nat)(tb2:Tab):Prop where
 x:TabAt G H n t1 a1 b1 tb1
 y:TabAt G H n t2 a2 b2 tb2
 l1:n0<=b1
 l2:t1<m/\a1<m/\b1<m
 l3:m<=t2/\m<=a2/\m<=b2
 le:n0<=n
 old:∀id,id<n0->T.get H id=T.get H0 id
section
variable{G:AX}{H0 H H':Heap}{n0 m n n' t1 a1 b1 t2 a2 b2:Nat}{tb1 tb2:Tab}
theorem Duo.kp(d:Duo G H0 n0 m H n t1 a1 b1 tb1 t2 a2 b2 tb2)(f:Kp H n H' n'):Duo G H0 n0 m H' n' t1 a1 b1 tb1 t2 a2 b2 tb2:=
 ⟨d.x.kb (f.kb d.x.bn),d.y.kb (f.kb d.y.bn),d.l1,d.l2,d.l3,Nat.le_trans d.le f.le,λid h=>(f.same id (Nat.lt_of_lt_of_le h d.le)).trans (d.old id h)⟩
theorem Duo.kb1(d:Duo G H0 n0 m H n t1 a1 b1 tb1 t2 a2 b2 tb2)(f:Kb b1 H n H' n'):Duo G H0 n0 m H' n' t1 a1 b1 tb1 t2 a2 b2 tb2:=
 ⟨d.x.kb f,d.y.off f d.x.seen (by have:=d.l2;have:=d.l3;omega) (by have:=d.l2;have:=d.l3;omega) (by have:=d.l2;have:=d.l3;omega),d.l1,d.l2,d.l3,Nat.le_trans d.le f.le,
  λid h=>(f.same id (Nat.lt_of_lt_of_le h d.le) (by have:=d.l1;omega)).trans (d.old id h)⟩
theorem Duo.kb2(d:Duo G H0 n0 m H n t1 a1 b1 tb1 t2 a2 b2 tb2)(f:Kb b2 H n H' n'):Duo G H0 n0 m H' n' t1 a1 b1 tb1 t2 a2 b2 tb2:=
 ⟨d.x.off f d.y.seen (by have:=d.l2;have:=d.l3;omega) (by have:=d.l2;have:=d.l3;omega) (by have:=d.l2;have:=d.l3;omega),d.y.kb f,d.l1,d.l2,d.l3,Nat.le_trans d.le f.le,
  λid h=>(f.same id (Nat.lt_of_lt_of_le h d.le) (by have:=d.l1;have:=d.l2;have:=d.l3;omega)).trans (d.old id h)⟩
end
structure Both(tb1 tb2:Tab)(c:Tc):Prop where
 ok:AEV c
 l1:Hf tb1 c.nm=some (Bc c)
 l2:Hf tb2 c.nm=some (Bc c)
 h1:iL tb1 c.nm=0
 h2:iL tb2 c.nm=0
 c1:∃c',ckC tb1 c=some c'
 c2:∃c',ckC tb2 c=some c'
theorem AO1:EN (.agg [.int,.int,.int]) true (.agg [.int .i64 (.ofNat 0) 0,.int .i64 (.ofNat 0) 0,.int .i64 (.ofNat 0) 0]) (.agg [.int .i64 (.ofNat 0) 0,.int .i64 (.ofNat 0) 0,.int .i64 (.ofNat 0) 0])=some (.bool false):=by rfl
section
variable{G:AX}{H0 H:Heap}{n0 m n t1 a1 b1 t2 a2 b2:Nat}{tb1 tb2:Tab}{k:KV}
theorem ANu(hG:AGA G){v:V}{ls:DZ}{A:Nat->Prop}(hF1:TbF tb1)(hF2:TbF tb2)(d:Duo G H0 n0 m H n t1 a1 b1 tb1 t2 a2 b2 tb2)(hel:El G H0 v 6 ls)(hv:∀id,v.Ec=some id->id<n0)(hA:∀id,A id->id<n0)
 (hls:∀i,i<ls.length->∃l c,ls[i]? =some l/\jF G H0 A l c/\Both tb1 tb2 c) (hlen:ls.length<=100) (hk:∀H' n',k (.bool true) H' n'):
 lfp (V×V×V×V×V×Heap×Nat) (Mc lfp G (Runs F G) k) (.ptr t1 0,.ptr t2 0,v,.int .i64 (.ofNat ls.length) 0,.int .i64 (.ofNat 0) 0,H,n):=by
 refine DF (N:=ls.length) (J:=λj q=>∃H' n',q=(.ptr t1 0,.ptr t2 0,v,.int .i64 (.ofNat ls.length) 0,.int .i64 (.ofNat j) 0,H',n')/\Duo G H0 n0 m H' n' t1 a1 b1 tb1 t2 a2 b2 tb2) ?_ ?_ ⟨H,n,rfl,d⟩
 ·rintro I j q hlt ⟨H,n,rfl,d⟩ ih
  show G7 lfp G (Runs F G) k I (.ptr t1 0) (.ptr t2 0) v (.int .i64 (.ofNat ls.length) 0) (.int .i64 (.ofNat j) 0) H n
  delta G7
  obtain⟨l,c,hl,hc,hb⟩:=hls j hlt
  have hel0:=hel.same (H':=H) λid hid=>d.old id (hv id hid)
  have hc0:=hc.mono (H':=H) (B:=A) (λ_ h=>h) λid hid=>d.old id (hA id hid)
  obtain⟨p,hpp,hld⟩:=hel0.at hl
  rw[EP,AQ,decide_eq_true hlt,Ar]
  refine AB hpp (AB (Dx hld) ?_)
  refine Az rfl λH1 f1 g1=>?_
  refine DV g1 rfl hc.len (by omega) λH2 g2 s2=>?_
  have f02:Kp H n H2 (n+1):=⟨f1.le,λid hid=>(s2 id (by omega)).trans (f1.same id hid)⟩
  have d2:=d.kp f02
  refine AB (Bf (m:=6) g2 (by omega) hc.len) ?_
  obtain⟨x1,e1⟩:=hb.c1
  obtain⟨x2,e2⟩:=hb.c2
  have hle:=d.le
  have hl1:=d.l1
  have hl2:=d.l2
  have hl3:=d.l3
  have hc2:=hc0.mono (H':=H2) (B:=A) (λ_ h=>h) λid hid=>f02.same id (by have:=hA id hid;omega)
  refine ABH hG d2.x hF1 hc2 (λid hid=>by have:=hA id hid;omega) hb.ok hb.l1 hb.h1 e1 λH3 n3 l1 f3 q1=>?_
  have hn3:=f3.le
  have d3:=d2.kb1 f3
  have b1n:=d.x.bn
  have b2n:=d.y.bn
  have g3:T.get H3 n=some (one l):=f3.get g2 (by omega) (by omega)
  rw[iY,AQ,iK,AQ]
  refine Az rfl λH4 f4 g4=>?_
  refine Az rfl λH5 f5 g5=>?_
  have g4:=f5.get g4 (by omega)
  refine DV g4 rfl q1.len (by omega) λH6 g6 s6=>?_
  have g5:T.get H6 (n3+1)=_:=(s6 (n3+1) (by omega)).trans g5
  refine DV (L:=[.int .i64 (.ofNat 0) 0,.int .i64 (.ofNat 0) 0,.int .i64 (.ofNat 0) 0]) g5 rfl rfl (by omega) λH7 g7 s7=>?_
  have g6:T.get H7 n3=_:=(s7 n3 (by omega)).trans g6
  have f37:Kp H3 n3 H7 (n3+1+1):=⟨by omega,λid hid=>(s7 id (by omega)).trans ((s6 id (by omega)).trans ((f5.same id (by omega)).trans (f4.same id hid)))⟩
  have d7:=d3.kp f37
  refine AB (Bf (m:=6) (f37.get g3 (by omega)) (by omega) hc.len) ?_
  have hc7:=hc.mono (H':=H7) (B:=A) (λ_ h=>h) λid hid=>d7.old id (hA id hid)
  refine ABH hG d7.y hF2 hc7 (λid hid=>by have:=hA id hid;omega) hb.ok hb.l2 hb.h2 e2 λH8 n8 l2 f8 q2=>?_
  have hn8:=f8.le
  have d8:=d7.kb2 f8
  have p1:=(q1.mono (H':=H7) (λ_ h=>h) λid hid=>f37.same id (by rcases hid with h|h;have:=hA id h;omega;exact h.2)).mono (H':=H8) (B:=λid=>A id∨(n+1<=id/\id<n3)) (λ_ h=>h) λid hid=>f8.same id (by rcases hid with h|h;have:=hA id h;omega;omega) (by rcases hid with h|h;have:=hA id h;omega;omega)
  have g6:=f8.get g6 (by omega) (by omega)
  have g7:=f8.get g7 (by omega) (by omega)
  rw[iY,AQ,iK,AQ]
  refine Az rfl λH9 f9 g9=>?_
  refine Az rfl λHa fa ga=>?_
  have g9:=fa.get g9 (by omega)
  refine DV g9 rfl q2.len (by omega) λHb gb sb=>?_
  have ga:T.get Hb (n8+1)=_:=(sb (n8+1) (by omega)).trans ga
  refine DV (L:=[.int .i64 (.ofNat 0) 0,.int .i64 (.ofNat 0) 0,.int .i64 (.ofNat 0) 0]) ga rfl rfl (by omega) λHc gc sc=>?_
  have gb:T.get Hc n8=_:=(sc n8 (by omega)).trans gb
  have f8c:Kp H8 n8 Hc (n8+1+1):=⟨by omega,λid hid=>(sc id (by omega)).trans ((sb id (by omega)).trans ((fa.same id (by omega)).trans (f9.same id hid)))⟩
  have dc:=d8.kp f8c
  have g6:=f8c.get g6 (by omega)
  have g7:=f8c.get g7 (by omega)
  refine AB (Bf (m:=3) g7 (by omega) rfl) (AB (Bf (m:=3) gc (by omega) rfl) (AB AO1 ?_))
  refine X5 (Am ..) ?_
  refine X5 (AV (off:=0+0) g7 (v:=.int .i64 (.ofNat 0) 0) rfl) ?_
  refine X5 (AA1 ..) (jW ?_)
  show BF (.bool false) false _ _
  refine X5 (Bf (m:=6) g6 (by omega) q1.len) (X5 (Bf (m:=6) gb (by omega) q2.len) (AF6 ?_))
  have z1:=AJH hF1.ar e1
  have z2:=AJH hF2.ar e2
  have p1:=p1.mono (H':=Hc) (B:=λid=>A id∨(n+1<=id/\id<n3)) (λ_ h=>h) λid hid=>f8c.same id (by rcases hid with h|h;have:=hA id h;omega;omega)
  have p2:=q2.mono (H':=Hc) (B:=λid=>A id∨(n3+1+1<=id/\id<n8)) (λ_ h=>h) λid hid=>f8c.same id (by rcases hid with h|h;have:=hA id h;omega;omega)
  refine ATB (z1.1.trans z2.1.symm) (by rw[z1.2.1];have:=hb.ok.lf;omega) (by rw[z1.2.2.1];have:=hb.ok.lm;omega) z1.2.2.2 p1 p2 (λid hid=>by rcases hid with h|h;have:=hA id h;omega;omega) (λid hid=>by rcases hid with h|h;have:=hA id h;omega;omega) λHd nd fd=>?_
  refine X5 (GL ..) (jW ?_)
  show Ae (.bool false) true _ _
  rw[Aj,FB (by omega),AQ]
  exact ih _ ⟨Hd,nd,rfl,dc.kp fd⟩
 ·rintro I q ⟨H,n,rfl,d⟩
  show G7 lfp G (Runs F G) k I (.ptr t1 0) (.ptr t2 0) v (.int .i64 (.ofNat ls.length) 0) (.int .i64 (.ofNat ls.length) 0) H n
  delta G7
  rw[EP,AQ,decide_eq_false (Nat.lt_irrefl _),Aj]
  delta OC
  exact hk _ _
end
theorem AXm(s:St)(l c:Nat):EN (.one .str) false s.v (.str l c)=some (.bool (decide (s=(l,c)))):=by
 rw[show s.v=.str s.1 s.2 from rfl,ABt]
 congr 2
 rw[Bool.eq_iff_iff,decide_eq_true_eq,decide_eq_true_eq]
 exact⟨λh=>Prod.ext h.1 h.2,λh=>by subst h;exact⟨rfl,rfl⟩⟩
section
variable{G:AX}{k:KV}
theorem ATH(hM:AAg G){L:LV}(hk:∀H n,T.get H 0=some (one L)->1<=n->k (.bool true) H n):Runs F G Ua [] (T.set .e 0 (one L)) 1 k:=by
 have h:=of_eq_true (p:=run F (Gx G) 100 100 Ua [] (T.set .e 0 (one L)) 1 (λv H n=>v=.bool true/\T.get H 0=some (one L)/\Nat.ble 1 n=true))
  (by rw[AN3 G L λv b t=>v=.bool true/\b=some (one L)/\t=true];exact eq_true ⟨rfl,rfl,rfl⟩)
 rw[AXr hM]at h
 exact ANl (λv H n hv=>by obtain⟨rfl,h1,h2⟩:=hv;exact hk H n h1 (Nat.le_of_ble_eq_true h2)) ⟨100,h⟩
theorem APJ{A B O:Tc}(w:AJu A B)(ho:AEV O)(h1:O.nm≠nA)(h2:O.nm≠nB):TbF (QB ([A,B].map Bc))/\TbF (QB ([O,A,B].map Bc))/\Both (QB ([A,B].map Bc)) (QB ([O,A,B].map Bc)) A/\Both (QB ([A,B].map Bc)) (QB ([O,A,B].map Bc)) B:=by
 obtain⟨b1,f1,a1,c1⟩:=ANk w
 obtain⟨b2,f2,a2,c2⟩:=AIn w ho h1 h2
 exact⟨f1,f2,⟨w.oa,by rw[w.na];exact a1,by rw[w.na];exact a2,by rw[w.na];exact b1.AXp,by rw[w.na];exact b2.AXp,(b1.ck w).1,(b2.ck w).1⟩,
  ⟨w.ob,by rw[w.nb];exact c1,by rw[w.nb];exact c2,by rw[w.nb];exact b1.AXh,by rw[w.nb];exact b2.AXh,(b1.ck w).2,(b2.ck w).2⟩⟩
theorem AIi(hG:AGA G)(hM:AAg G){vp:V}{ps:List Int}(hp:∀H,El G H vp 1 (ints ps))(hvp:vp=.Ad∨∃b o l c z,vp=.rsl b o l c z){L:LV}{O:Tc}(hO:XC G L O)(hk:∀H' n',k (.bool true) H' n'):
 Runs F G rP [vp,.agg L] .e 0 k:=by
 refine BH (s:=N7 (NY lfp G)) Qd (by obtain⟨h,o⟩:=nP BI G;rw[Qd]at h;cases h;exact o) ?_
 show NY lfp G (Runs F G) vp (.agg L) .e 0 k
 delta NY
 rw[AQn]
 refine ATH hM λH0 n0 g0 hn0=>?_
 refine AB (GL ..) ?_
 show Ae (.bool false) true _ _
 have hlen:(ints ps).length=ps.length:=List.length_map ..
 rw[Aj]
 refine AB (hp H0).len ?_
 rw[hlen,N9,AQ]
 have q2:∀{H':Heap},T.get H' 0=some (one L)->AY (.ptr 0 2) G H'=some O.nm.v:=λg=>by
  cases hO with
  |mk=>exact AV g rfl
 cases h1:decide (200<ps.length)with
 |true=>
  repeat (first|with_reducible refine SE ?_|with_reducible refine Zt ?_|with_reducible refine Uj ?_)
  rw[Ar];exact hk _ _
 |false=>
 have h1:=of_decide_eq_false h1
 refine X5 (Bf (m:=6) g0 (by omega) hO.len) (AF6 ?_)
 refine ALB hO λH1 n1 b f1 hb=>?_
 have hn1:=f1.le
 have g1:=f1.get g0 (by omega)
 refine X5 (GL ..) (jW ?_)
 cases b with
 |false=>
  rw[Bool.not_false]
  repeat (first|with_reducible refine SE ?_|with_reducible refine Zt ?_|with_reducible refine Uj ?_)
  rw[Ar];exact hk _ _
 |true=>
 have ho:=hO.ok (hb rfl)
 show BF (.bool false) false _ _
 refine X5 (Am ..) (X5 (q2 g1) (X5 (AXm ..) (jW ?_)))
 cases h2:decide (O.nm=(1,65))with
 |true=>
  repeat (first|with_reducible refine SE ?_|with_reducible refine Zt ?_|with_reducible refine Uj ?_)
  rw[Ar];exact hk _ _
 |false=>
 refine X5 (Am ..) (X5 (q2 g1) (X5 (AXm ..) (jW ?_)))
 cases h3:decide (O.nm=(1,66))with
 |true=>rw[Ar];exact hk _ _
 |false=>
 rw[Aj]
 have h2:O.nm≠nA:=of_decide_eq_false h2
 have h3:O.nm≠nB:=of_decide_eq_false h3
 refine ANq ⟨ps,hp,by omega⟩ hvp λH2 n2 v lA lB A B f2 hel hks hok hvc hsid hA hB hm=>?_
 have hn2:=f2.le
 have g2:=f2.get g1 (by omega)
 obtain⟨F1,F2,B1,B2⟩:=APJ hm.w ho h2 h3
 have hR:∀id,Rg n1 n2 id->id<n2:=λid h=>h.2
 refine AMr (A:=Rg n1 n2) (cs:=[A,B]) hel (λid hid=>(hsid id hid).2) (.cons hA.fc (.cons hB.fc .nil)) hR (λc hc=>by simp at hc;rcases hc with rfl|rfl;exact B1.ok;exact B2.ok) (by show 2<=100;omega) λH3 n3 t1 a1 b1 f3 hb1 ht1=>?_
 have hn3:=f3.le
 have g3:=f3.get g2 (by omega)
 refine AB (Bf (m:=6) g3 (by omega) hO.len) ?_
 refine WU (G:=G) (vs:=[.agg L]) rfl (by omega) (λv hv=>by simp at hv;subst hv;exact⟨rfl,hO.len⟩) λH4 f4 hg4 hel4=>?_
 obtain⟨t4,g4⟩:=hg4
 have AAF:El G H4 v 6 [lA,lB]:=(hel.same (H':=H3) λid hid=>f3.same id (hR id (hsid id hid))).same λid hid=>f4.same id (by have:=hR id (hsid id hid);omega)
 refine ANE (by omega) g4 (by omega) hel4.2 AAF.2 (by simp) λw H5 n5 AFs same5 hn5 hw5=>?_
 have f35:Kp H3 n3 H5 n5:=⟨by omega,λid hid=>(same5 id (by omega)).trans (f4.same id hid)⟩
 have f25:Kp H2 n2 H5 n5:=f3.trans f35
 have k25:∀{l:LV} {c:Tc},jF G H2 (Rg n1 n2) l c->jF G H5 (Rg n1 n2) l c:=λh=>h.mono (λ_ h=>h) λid hid=>f25.same id (hR id hid)
 refine AMr (A:=Rg n1 n2) (cs:=[O,A,B]) AFs hw5 (.cons hO.fc (.cons (k25 hA).fc (.cons (k25 hB).fc .nil))) (λid hid=>by have:=hR id hid;omega) (λc hc=>by simp at hc;rcases hc with rfl|rfl|rfl;exact ho;exact B1.ok;exact B2.ok) (by show 3<=100;omega) λH6 n6 t2 a2 b2 f6 hb2 ht2=>?_
 have hn6:=f6.le
 refine AB ((hel.same (H':=H6) λid hid=>(f25.trans f6).same id (hR id (hsid id hid))).len) ?_
 have d3:TabAt G H6 n6 t1 a1 b1 _:=(ht1.kb (f35.kb ht1.bn)).kb (f6.kb (by have:=ht1.bn;omega))
 refine ANu hG (H0:=H2) (n0:=n2) (m:=n3) (ls:=[lA,lB]) (A:=Rg n1 n2) F1 F2 ⟨d3,ht2,hb1.1,⟨ht1.tn,ht1.an,ht1.bn⟩,⟨by omega,by omega,by omega⟩,by omega,λid hid=>(f25.trans f6).same id hid⟩ hel (λid hid=>hR id (hsid id hid)) hR ?_ (by show 2<=100;omega) hk
 intro i hi
 match i,hi with
 |0,_=>exact⟨lA,A,rfl,hA,B1⟩
 |1,_=>exact⟨lB,B,rfl,hB,B2⟩
 |i+2,hi=>exact absurd (show i+2<2 from hi) (by omega)
end
end Go.RL
