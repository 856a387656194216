/- Part of a proof; nothing is assumed. -/
import Derived.Test.YtmbhlmocojopaaaGreatDoorConH
import Derived.Test.YtmbhlmocojopaaaGreatDoorConF
import Derived.Test.YtmbhlmocojopaaaGreatDoorWalk
import Derived.Test.YtmbhlmocojopaaaGreatDoorEngE
import Derived.Test.YtmbhlmocojopaaaGreatDoorConG
set_option linter.unusedVariables false
set_option linter.unusedSimpArgs false
namespace Go.RL
open Go.DK
set_option maxRecDepth 100000
instance decOk(s:St):Decidable s.ok:=by unfold St.ok;infer_instance
theorem ALU:∀(i:Nat) (ts:List Ty),(RG i ts).map DJ.ty=ts
 |_,[]=>rfl
 |i,t::l=>by show t::(RG (i+1) l).map DJ.ty=_;rw[ALU (i+1) l]
theorem zW.sig{cls:St}{m:Tm}{q:Ej}(h:zW cls m q):Zv m=q:=by
 obtain⟨h1,h2,h3,h4,_⟩:=h
 unfold Zv
 rw[h1,h2,h3,h4,ALU]
theorem zW.ok{cls:St}{m:Tm}{q:Ej}(h:zW cls m q)(hn:q.nm.ok)(hr:q.ret.nm.ok)(hp:∀t∈q.ps,t.nm.ok)(hl:q.ps.length<=1000):AIZ m:=by
 obtain⟨h1,h2,h3,h4,_⟩:=h
 refine⟨by rw[h1];exact hn,by rw[h3];exact hr,λf hf=>?_,by rw[h4,kT];exact hl⟩
 rw[h4]at hf
 exact hp _ (nG _ _ _ hf).2
theorem isA:Oi (ltN DJ.nm) fsA=Qh.fs:=by kernel_rfl
theorem AbF:Oi (ltN Ej.nm) [P9,fO,Qa,wK]=Qh.ms:=by kernel_rfl
theorem AbE:Oi (ltN Ej.nm) [P9,Qa]=[P9,Qa]:=by kernel_rfl
structure ANZ(A B:Tc):Prop where
 fa:EC A=Qh
 fb:∃g s,EC B=Vr g s
 na:A.nm=nA
 nb:B.nm=nB
 oa:AHE A
 ob:AHE B
 ga:∀m∈A.ms,GdM nA m
 gb:∀m∈B.ms,GdM nB m
theorem sgG{cls:St}{m:Tm}(h:zW cls m P9):AIZ m:=h.ok (by decide) (by decide) (by decide) (by decide)
theorem sgS{cls:St}{m:Tm}(h:zW cls m fO):AIZ m:=h.ok (by decide) (by decide) (by decide) (by decide)
theorem sgU{cls:St}{m:Tm}(h:zW cls m Qa):AIZ m:=h.ok (by decide) (by decide) (by decide) (by decide)
theorem sgM{cls:St}{m:Tm}(h:zW cls m wK):AIZ m:=h.ok (by decide) (by decide) (by decide) (by decide)
theorem Made.w{A B:Tc}(h:Made A B):ANZ A B:=by
 cases h with
 |mk g s h1 h2 h3 h4 hg hs=>
 rename_i m1 m2 m3 m4 bg bs
 have fb:∃g s,EC ⟨nB,nA,fsB,bg++bs⟩=Vr g s:=by
  refine⟨g,s,?_⟩
  unfold EC
  cases g<;>cases s
  ·obtain rfl:bg=[]:=hg
   obtain rfl:bs=[]:=hs
   rfl
  ·obtain rfl:bg=[]:=hg
   obtain⟨m,rfl,q⟩:=(show ∃m,bs=[m]/\zW nB m Qa from hs)
   show(⟨nB,nA,fsB,[Zv m]⟩:Fc)=_
   rw[q.sig];rfl
  ·obtain⟨m,rfl,q⟩:=(show ∃m,bg=[m]/\zW nB m P9 from hg)
   obtain rfl:bs=[]:=hs
   show(⟨nB,nA,fsB,[Zv m]⟩:Fc)=_
   rw[q.sig];rfl
  ·obtain⟨m,rfl,q⟩:=(show ∃m,bg=[m]/\zW nB m P9 from hg)
   obtain⟨m',rfl,q'⟩:=(show ∃m,bs=[m]/\zW nB m Qa from hs)
   show(⟨nB,nA,fsB,Oi (ltN Ej.nm) [Zv m,Zv m']⟩:Fc)=_
   rw[q.sig,q'.sig,AbE];rfl
 have hbm:∀m∈bg++bs,AIZ m/\GdM nB m:=by
  intro m hm
  rcases List.mem_append.1 hm with hm|hm
  ·cases g
   ·obtain rfl:bg=[]:=hg
    cases hm
   ·obtain⟨x,rfl,q⟩:=(show ∃m,bg=[m]/\zW nB m P9 from hg)
    cases List.mem_singleton.1 hm
    exact⟨sgG q,q.gd⟩
  ·cases s
   ·obtain rfl:bs=[]:=hs
    cases hm
   ·obtain⟨x,rfl,q⟩:=(show ∃m,bs=[m]/\zW nB m Qa from hs)
    cases List.mem_singleton.1 hm
    exact⟨sgU q,q.gd⟩
 have hbl:(bg++bs).length<20:=by
  rw[List.length_append]
  have x1:bg.length<=1:=by
   cases g
   ·obtain rfl:bg=[]:=hg
    exact Nat.zero_le _
   ·obtain⟨x,rfl,q⟩:=(show ∃m,bg=[m]/\zW nB m P9 from hg)
    exact Nat.le_refl _
  have x2:bs.length<=1:=by
   cases s
   ·obtain rfl:bs=[]:=hs
    exact Nat.zero_le _
   ·obtain⟨x,rfl,q⟩:=(show ∃m,bs=[m]/\zW nB m Qa from hs)
    exact Nat.le_refl _
  omega
 have ham:∀m∈[m1,m2,m3,m4],AIZ m/\GdM nA m:=by
  intro m hm
  simp only[List.mem_cons,List.not_mem_nil,or_false]at hm
  rcases hm with rfl|rfl|rfl|rfl
  ·exact⟨sgG h1,h1.gd⟩
  ·exact⟨sgS h2,h2.gd⟩
  ·exact⟨sgU h3,h3.gd⟩
  ·exact⟨sgM h4,h4.gd⟩
 refine⟨?_,fb,rfl,rfl,⟨by show nA.ok;decide,by show St.ok (0,0);decide,by show ∀f∈fsA,f.nm.ok/\f.ty.nm.ok;decide,λm h=>(ham m h).1,by show 3<20;decide,by show 4<20;decide⟩,⟨by show nB.ok;decide,by show nA.ok;decide,by show ∀f∈fsB,f.nm.ok/\f.ty.nm.ok;decide,λm h=>(hbm m h).1,by show 1<20;decide,hbl⟩,λm h=>(ham m h).2,λm h=>(hbm m h).2⟩
 show(⟨nA,(0,0),Oi (ltN DJ.nm) fsA,Oi (ltN Ej.nm) [Zv m1,Zv m2,Zv m3,Zv m4]⟩:Fc)=Qh
 rw[h1.sig,h2.sig,h3.sig,h4.sig,isA,AbF];rfl
theorem AKX{α:Type}(s:Nat×Nat)(v:α):∀l:List ((Nat×Nat)×α),l.length<=(Yy s v l).length/\(Yy s v l).length<=l.length+1/\(Ie l s=none->(Yy s v l).length=l.length+1)
 |[]=>⟨Nat.zero_le _,Nat.le_refl _,λ_=>rfl⟩
 |p::l=>by
  have ih:=AKX s v l
  unfold Yy
  by_cases e:p.1=s
  ·have e2:Ie (p::l) s=some p.2:=by unfold Ie;simp[e]
   rw[e2]
   simp[e]
  ·have e2:Ie (p::l) s=Ie l s:=by unfold Ie;simp[e]
   rw[e2]
   rw[if_neg e,List.length_cons,List.length_cons]
   refine⟨by omega,by omega,λh=>by rw[ih.2.2 h]⟩
theorem TbF.mk'{tb:Tab}(tl:tb.length<=1000)(h:∀s c,Ie tb s=some c->(∀m∈c.ms,m.ps.length<=1000/\m.ret.nm.ok)/\∀f∈c.fs,f.ty.nm.ok):TbF tb:=⟨tl,λs c hc m hm=>((h s c hc).1 m hm).1,λs c hc=>⟨(h s c hc).2,λm hm=>((h s c hc).1 m hm).2⟩⟩
theorem AHE.face{c:Tc}(h:AHE c):(∀m∈(EC c).ms,m.ps.length<=1000/\m.ret.nm.ok)/\∀f∈(EC c).fs,f.ty.nm.ok:=by
 refine⟨λm hm=>?_,λf hf=>?_⟩
 ·have hm:=lN hm
  obtain⟨x,hx,rfl⟩:=List.mem_map.1 hm
  have:=h.ms x hx
  exact⟨by show(x.ps.map DJ.ty).length<=1000;rw[List.length_map];exact this.ln,this.ret⟩
 ·exact(h.fs f (lN hf)).2
theorem APC{A B:Tc}(h:ANZ A B):Yl (WS ([A,B].map EC))/\TbF (WS ([A,B].map EC))/\Ie (WS ([A,B].map EC)) nA=some (EC A)/\Ie (WS ([A,B].map EC)) nB=some (EC B):=by
 have na:(EC A).nm=nA:=h.na
 have nb:(EC B).nm=nB:=h.nb
 have e:∀s,Ie (WS ([A,B].map EC)) s=if nB=s then some (EC B)else if nA=s then some (EC A)else none:=by
  intro s
  show Ie (Yy (EC B).nm (EC B) (Yy (EC A).nm (EC A) [])) s=_
  rw[wI,wI,na,nb];rfl
 have ln:(WS ([A,B].map EC)).length=2:=by
  show(Yy (EC B).nm (EC B) (Yy (EC A).nm (EC A) [])).length=2
  rw[(AKX _ _ _).2.2 (by rw[wI,na,nb];rfl)];rfl
 have ea:Ie (WS ([A,B].map EC)) nA=some (EC A):=by rw[e];rfl
 have eb:Ie (WS ([A,B].map EC)) nB=some (EC B):=by rw[e];rfl
 refine⟨⟨by rw[ea,h.fa],?_,by omega⟩,TbF.mk' (by omega) λs c hc=>?_,ea,eb⟩
 ·obtain⟨g,s,hb⟩:=h.fb
  exact⟨g,s,by rw[eb,hb]⟩
 ·rw[e]at hc
  by_cases e1:nB=s
  ·rw[if_pos e1]at hc;cases hc;exact h.ob.face
  ·rw[if_neg e1]at hc
   by_cases e2:nA=s
   ·rw[if_pos e2]at hc;cases hc;exact h.oa.face
   ·rw[if_neg e2]at hc;cases hc
section
variable{tb:Tab}(h:Yl tb)
include h
theorem Yl.kn{t:Ty}(ht:t=Cb∨t=BM∨t=tIs∨t=tA):BO tb t=true:=by
 rcases ht with rfl|rfl|rfl|rfl
 ·exact xu (by decide) (by decide)
 ·exact xu (by decide) (by decide)
 ·exact xu (by decide) (by decide)
 ·exact h.kA
theorem Yl.kms{q:Ej}(hq:q=P9∨q=fO∨q=Qa∨q=wK):(q.ret::q.ps).all (BO tb)=true:=by
 rw[List.all_eq_true]
 intro t ht
 refine h.kn ?_
 rcases hq with rfl|rfl|rfl|rfl<;>(simp[P9,fO,Qa,wK]at ht;grind)
theorem Yl.AZq{q:Ej}:AIK tb (0,0) q=false:=by
 unfold AIK Iu above
 obtain⟨m,hm⟩:∃m,tb.length=m+1:=⟨tb.length-1,by have:=h.two;omega⟩
 rw[hm,ACC];rfl
theorem Yl.AZ9{q:Ej}(hq:q=P9∨q=Qa):AIK tb nA q=false:=by
 unfold AIK
 rcases hq with rfl|rfl
 ·rw[h.AZl (f:=P9.nm) (st:=false) (m:=P9) rfl]
  show(!P9.st&& !P9.same P9)=false
  decide
 ·have:Iu tb nA Qa.nm false=none:=by
   unfold Iu
   rw[h.upA]
   show(match VL false Qa.nm ((Ie tb nA).getD FV).ms with|some m=>some (nA,m)|none=>Nq tb Qa.nm false [])=none
   rw[h.a];rfl
  rw[this]
theorem Yl.Aa0:oG tb nA=0:=by
 unfold oG
 rw[h.a,h.upA]
 show(bif twice Qh then(6:Int)else zi tb (0,0) (UC tb (0,0) Qh.ms) Qh.fs)=0
 rw[show twice Qh=false by decide]
 have hm:UC tb (0,0) Qh.ms=0:=by
  have go:∀l:List Ej,(∀q∈l,q=P9∨q=fO∨q=Qa∨q=wK)->UC tb (0,0) l=0:=by
   intro l
   induction l with
   |nil=>intro _;rfl
   |cons q l ih=>
    intro hq
    unfold UC
    rw[h.kms (hq q (List.mem_cons_self ..)),h.AZq,ih λx hx=>hq x (List.mem_cons_of_mem _ hx)];rfl
  exact go _ λq hq=>by simpa[Qh]using(show q=P9∨q=wK∨q=fO∨q=Qa by simpa[Qh]using hq) |>.elim .inl λh=>.inr (h.elim (λh=>.inr (.inr h)) λh=>h.elim .inl λh=>.inr (.inl h))
 have hf:∀l:List DJ,(∀f∈l,f.ty=Cb∨f.ty=BM∨f.ty=tIs∨f.ty=tA)->zi tb (0,0) 0 l=0:=by
  intro l
  induction l with
  |nil=>intro _;rfl
  |cons q l ih=>
   intro hq
   unfold zi
   have e1:[q.ty].all (BO tb)=true:=by show(BO tb q.ty&&true)=true;rw[h.kn (hq q (List.mem_cons_self ..))];rfl
   have e2:(UF tb (0,0) q.nm).isSome=false:=by
    unfold UF above
    obtain⟨m,hm⟩:∃m,tb.length=m+1:=⟨tb.length-1,by have:=h.two;omega⟩
    rw[hm,ACC];rfl
   rw[e1,e2,ih λx hx=>hq x (List.mem_cons_of_mem _ hx)];rfl
 rw[hm]
 exact hf _ λf h=>by simp[Qh]at h;rcases h with rfl|rfl|rfl<;>simp
theorem Yl.Abp:oG tb nB=0:=by
 obtain⟨g,s,hb⟩:=h.b
 unfold oG
 rw[hb,h.upB]
 show(bif twice (Vr g s)then(6:Int)else zi tb nA (UC tb nA (Vr g s).ms) (Vr g s).fs)=0
 rw[show twice (Vr g s)=false by clear hb;revert g s;decide]
 have hm:UC tb nA (Vr g s).ms=0:=by
  have go:∀l:List Ej,(∀q∈l,q=P9∨q=Qa)->UC tb nA l=0:=by
   intro l
   induction l with
   |nil=>intro _;rfl
   |cons q l ih=>
    intro hq
    unfold UC
    rw[h.kms (by rcases hq q (List.mem_cons_self ..)with h|h;exact .inl h;exact .inr (.inr (.inl h))),h.AZ9 (hq q (List.mem_cons_self ..)),ih λx hx=>hq x (List.mem_cons_of_mem _ hx)];rfl
  refine go _ λq hq=>?_
  clear hb
  cases g<;>cases s<;>simp[Vr]at hq<;>simp[hq]
 rw[hm]
 show(bif !([BM].all (BO tb))then(23:Int)else bif (UF tb nA QC).isSome then 6 else zi tb nA 0 [])=0
 have e1:[BM].all (BO tb)=true:=by show(BO tb BM&&true)=true;rw[h.kn (.inr (.inl rfl))];rfl
 have e2:(UF tb nA QC).isSome=false:=by
  unfold UF
  rw[h.upA]
  show(match Yu QC ((Ie tb nA).getD FV).fs with|some t=>some (nA,t)|none=>rG tb QC []).isSome=false
  rw[h.a];rfl
 rw[e1,e2];rfl
theorem Yl.ck{A B:Tc}(w:ANZ A B):(∃c,ckC tb A=some c)/\∃c,ckC tb B=some c:=by
 obtain⟨l1,e1⟩:=AF3 h w.ga
 obtain⟨l2,e2⟩:=AF3 h w.gb
 refine⟨⟨{A with ms:=l1},?_⟩,⟨{B with ms:=l2},?_⟩⟩
 ·unfold ckC;rw[w.na,e1];rfl
 ·unfold ckC;rw[w.nb,e2];rfl
end
mutual
def Te.bare:Te->Te
 |.mk kind num nm ty _ _ kids=>.mk kind num nm ty OU (0,0) (Te.Qc kids)
def Te.Qc:List Te->List Te
 |[]=>[]
 |e::l=>e.bare::Te.Qc l
end
mutual
def Tt.bare:Tt->Tt
 |.mk does nm ty es th el=>.mk does nm ty (Te.Qc es) (Tt.Qc th) (Tt.Qc el)
def Tt.Qc:List Tt->List Tt
 |[]=>[]
 |e::l=>e.bare::Tt.Qc l
end
def Tm.bare(m:Tm):Tm:={m with body:=Tt.Qc m.body}
def Tc.bare(c:Tc):Tc:={c with ms:=c.ms.map Tm.bare}
theorem Te.PL:∀l:List Te,Te.Qc l=l.map Te.bare
 |[]=>by unfold Te.Qc;rfl
 |e::l=>by unfold Te.Qc;rw[Te.PL l];rfl
theorem Tt.PL:∀l:List Tt,Tt.Qc l=l.map Tt.bare
 |[]=>by unfold Tt.Qc;rfl
 |e::l=>by unfold Tt.Qc;rw[Tt.PL l];rfl
mutual
def smE:Te->Bool
 |.mk _ _ _ _ _ _ kids=>decide (kids.length<=100000)&&smL kids
def smL:List Te->Bool
 |[]=>true
 |e::l=>smE e&&smL l
end
mutual
def smS:Tt->Bool
 |.mk _ _ _ es th el=>(decide (es.length<=100000)&&smL es)&&((decide (th.length<=100000)&&smB th)&&(decide (el.length<=100000)&&smB el))
def smB:List Tt->Bool
 |[]=>true
 |e::l=>smS e&&smB l
end
def smM(m:Tm):Bool:=decide (m.ps.length<=100000)&&(decide (m.body.length<=100000)&&smB m.body)
def AOq(G:AX)(e:Te):Prop:=∀(e2:Te) (H:Heap) (n:Nat) (c1 c2:LV) (A B:Nat->Prop) (k:KV),e.bare=e2.bare->FQ G H A c1 e->FQ G H B c2 e2->(∀id,A id->id<n)->(∀id,B id->id<n)->(∀H' n',Kp H n H' n'->k (.bool true) H' n')->Runs F G QX [.agg c1,.agg c2] H n k
def AFj(G:AX)(e:Tt):Prop:=∀(e2:Tt) (H:Heap) (n:Nat) (c1 c2:LV) (A B:Nat->Prop) (k:KV),e.bare=e2.bare->XU G H A c1 e->XU G H B c2 e2->(∀id,A id->id<n)->(∀id,B id->id<n)->(∀H' n',Kp H n H' n'->k (.bool true) H' n')->Runs F G Qe [.agg c1,.agg c2] H n k
def ASO(G:AX)(e:Tm):Prop:=∀(e2:Tm) (H:Heap) (n:Nat) (c1 c2:LV) (A B:Nat->Prop) (k:KV),e.bare=e2.bare->bJ G H A c1 e->bJ G H B c2 e2->(∀id,A id->id<n)->(∀id,B id->id<n)->(∀H' n',Kp H n H' n'->k (.bool true) H' n')->Runs F G OC [.agg c1,.agg c2] H n k
theorem AVo(q:IntKind)(x:Nat):Dc (.one .int) false (.int q (.ofNat x) 0) (.int q (.ofNat x) 0)=some (.bool true):=by rw[CY,decide_eq_true rfl]
theorem ANn(s:St):Dc (.one .str) false s.v s.v=some (.bool true):=(ATt s s).trans (by simp)
theorem AYp(b:Bool):Dc (.one .bool) false (.bool b) (.bool b)=some (.bool true):=by cases b<;>rfl
theorem AQo(t:Ty):Dc (.agg [.str,.bool]) false (.agg [t.nm.v,.bool t.arr]) (.agg [t.nm.v,.bool t.arr])=some (.bool true):=(ZJ t t).trans (by simp[Ty.is])
theorem AYQ(x:DJ):Dc (.agg [.str,.str,.bool]) true (.agg (QZ x)) (.agg (QZ x))=some (.bool false):=by
 have h:(EK.agg [.str,.str,.bool]).eq (.agg [x.nm.v,x.ty.nm.v,.bool x.ty.arr]) (.agg [x.nm.v,x.ty.nm.v,.bool x.ty.arr])=some true:=by
  show AMW [.str,.str,.bool] [x.nm.v,x.ty.nm.v,.bool x.ty.arr] [x.nm.v,x.ty.nm.v,.bool x.ty.arr]=some true
  simp[AMW,AP8,AQO]
  rfl
 show ofB (UK ((EK.agg [.str,.str,.bool]).eq (.agg [x.nm.v,x.ty.nm.v,.bool x.ty.arr]) (.agg [x.nm.v,x.ty.nm.v,.bool x.ty.arr])) λb=>some (Rt b))=_
 rw[h];rfl
theorem bJ.inv{G:AX}{H:Heap}{A:Nat->Prop}{c:LV}{m:Tm}(h:bJ G H A c m):∃line col vp vb,c=tmC line col m.nm m.st vp m.ret vb/\AGn G H A vp m.ps/\U9 G H A vb m.body:=by
 cases h with
 |mk line col hp hb=>exact⟨line,col,_,_,rfl,hp,hb⟩
section
variable{G:AX}{H:Heap}{n:Nat}{k:KV}
theorem AK6{l l2:List Te}{v w:V}{cs ds:Dy}{A B:Nat->Prop}(hb:l.map Te.bare=l2.map Te.bare)(hv:El G H v 11 cs)(hw:El G H w 11 ds)(hva:∀id,v.D9=some id->id<n)(hwa:∀id,w.D9=some id->id<n)(hc:Gh G H A cs l)(hd:Gh G H B ds l2)(hA:∀id,A id->id<n)(hB:∀id,B id->id<n)
 (hs:∀e∈l,AOq G e) (hlen:l.length<=100000) (hk:∀H' n',Kp H n H' n'->k (.bool true) H' n'):Runs F G D6 [v,w,.fn QX [] []] H n k:=by
 refine go3 (KQ BK G) ?_
 delta FY
 have hll:l.length=l2.length:=by have:=congrArg List.length hb;rwa [List.length_map,List.length_map]at this
 refine AB hv.len (AB hw.len ?_)
 rw[lS,AQ,hc.len,hd.len,hll,decide_eq_true rfl,Bool.not_true,Ai]
 refine AB hv.len ?_
 rw[hc.len]
 refine CP (N:=l.length) (J:=λj q=>∃H' n',q=(w,.fn QX [] [],v,.int .i64 (.ofNat l.length) 0,.int .i64 (.ofNat j) 0,H',n')/\Kp H n H' n') ?_ ?_ ⟨H,n,rfl,Kp.refl ..⟩
 ·rintro I j q hlt ⟨H1,n1,rfl,f1⟩ ih
  show Bg lfp G (Runs F G) k I w (.fn QX [] []) v (.int .i64 (.ofNat l.length) 0) (.int .i64 (.ofNat j) 0) H1 n1
  delta Bg
  have hv1:=hv.kp hva f1
  have hw1:=hw.kp hwa f1
  have hc1:Gh G H1 A cs l:=Gh.mono (λ_ h=>h) (λid h=>f1.same id (hA id h)) hc
  have hd1:Gh G H1 B ds l2:=Gh.mono (λ_ h=>h) (λid h=>f1.same id (hB id h)) hd
  have hlt2:j<l2.length:=by omega
  have hbb:l[j].bare=l2[j].bare:=by
   have:=congrArg (λx:List Te=>x[j]?) hb
   simpa[hlt,hlt2]using this
  obtain⟨c,hc2,hx⟩:=hc1.at (List.getElem?_eq_getElem hlt)
  obtain⟨d,hd2,hy⟩:=hd1.at (List.getElem?_eq_getElem hlt2)
  have hse:=hs _ (List.getElem_mem hlt)
  generalize l[j]=e1 at hx hse hbb
  generalize l2[j]=e2 at hy hbb
  have hn1:=f1.le
  obtain⟨p,hp,hld⟩:=hv1.at hc2
  rw[Dl,AQ,decide_eq_true hlt,A8]
  refine AB hp (AB (DW hld) ?_)
  refine Au rfl λH2 f2 g2=>?_
  refine Bq g2 rfl hx.len (by omega) λH3 g2 t3=>?_
  have f3:Kp H1 n1 H3 (n1+1):=⟨f2.le,λid hid=>(t3 id (by omega)).trans (f2.same id hid)⟩
  obtain⟨p3,hp3,hld3⟩:=(hw1.kp (λid h=>Nat.lt_of_lt_of_le (hwa id h) hn1) f3).at hd2
  refine AB hp3 (AB (DW hld3) ?_)
  refine Au rfl λH4 f4 g4=>?_
  have g2:=f4.get g2 (by omega)
  refine Bq g4 rfl hy.len (by omega) λH5 g4 t5=>?_
  have g2:=(t5 n1 (by omega)).trans g2
  have f5:Kp H3 (n1+1) H5 (n1+1+1):=⟨f4.le,λid hid=>(t5 id (by omega)).trans (f4.same id hid)⟩
  have f5:=f3.trans f5
  refine AB (BI (m:=11) g2 (by omega) hx.len) (AB (BI (m:=11) g4 (by omega) hy.len) ?_)
  have fin:=f1.trans f5
  have hx:FQ G H5 A c e1:=hx.mono (λ_ h=>h) λid h=>f5.same id (by have:=hA id h;omega)
  have hy:FQ G H5 B d e2:=hy.mono (λ_ h=>h) λid h=>f5.same id (by have:=hB id h;omega)
  refine hse e2 H5 _ c d A B _ hbb hx hy (λid h=>by have:=hA id h;omega) (λid h=>by have:=hB id h;omega) λH6 n6 f6=>?_
  rw[Ef,AQ,Bool.not_true,Ai]
  rw[Eu (by omega),AQ]
  exact ih _ ⟨_,_,rfl,fin.trans f6⟩
 ·rintro I q ⟨H1,n1,rfl,f1⟩
  show Bg lfp G (Runs F G) k I w (.fn QX [] []) v (.int .i64 (.ofNat l.length) 0) (.int .i64 (.ofNat l.length) 0) H1 n1
  delta Bg
  rw[Dl,AQ,decide_eq_false (Nat.lt_irrefl _),Ai]
  delta Dx
  exact hk _ _ f1
theorem AGz{l l2:List Tt}{v w:V}{cs ds:Dy}{A B:Nat->Prop}(hb:l.map Tt.bare=l2.map Tt.bare)(hv:El G H v 9 cs)(hw:El G H w 9 ds)(hva:∀id,v.D9=some id->id<n)(hwa:∀id,w.D9=some id->id<n)(hc:IW G H A cs l)(hd:IW G H B ds l2)(hA:∀id,A id->id<n)(hB:∀id,B id->id<n)
 (hs:∀e∈l,AFj G e) (hlen:l.length<=100000) (hk:∀H' n',Kp H n H' n'->k (.bool true) H' n'):Runs F G DI [v,w,.fn Qe [] []] H n k:=by
 refine go3 (KJ BK G) ?_
 delta Fh
 have hll:l.length=l2.length:=by have:=congrArg List.length hb;rwa [List.length_map,List.length_map]at this
 refine AB hv.len (AB hw.len ?_)
 rw[lS,AQ,hc.len,hd.len,hll,decide_eq_true rfl,Bool.not_true,Ai]
 refine AB hv.len ?_
 rw[hc.len]
 refine CP (N:=l.length) (J:=λj q=>∃H' n',q=(w,.fn Qe [] [],v,.int .i64 (.ofNat l.length) 0,.int .i64 (.ofNat j) 0,H',n')/\Kp H n H' n') ?_ ?_ ⟨H,n,rfl,Kp.refl ..⟩
 ·rintro I j q hlt ⟨H1,n1,rfl,f1⟩ ih
  show Bh lfp G (Runs F G) k I w (.fn Qe [] []) v (.int .i64 (.ofNat l.length) 0) (.int .i64 (.ofNat j) 0) H1 n1
  delta Bh
  have hv1:=hv.kp hva f1
  have hw1:=hw.kp hwa f1
  have hc1:IW G H1 A cs l:=IW.mono (λ_ h=>h) (λid h=>f1.same id (hA id h)) hc
  have hd1:IW G H1 B ds l2:=IW.mono (λ_ h=>h) (λid h=>f1.same id (hB id h)) hd
  have hlt2:j<l2.length:=by omega
  have hbb:l[j].bare=l2[j].bare:=by
   have:=congrArg (λx:List Tt=>x[j]?) hb
   simpa[hlt,hlt2]using this
  obtain⟨c,hc2,hx⟩:=hc1.at (List.getElem?_eq_getElem hlt)
  obtain⟨d,hd2,hy⟩:=hd1.at (List.getElem?_eq_getElem hlt2)
  have hse:=hs _ (List.getElem_mem hlt)
  generalize l[j]=e1 at hx hse hbb
  generalize l2[j]=e2 at hy hbb
  have hn1:=f1.le
  obtain⟨p,hp,hld⟩:=hv1.at hc2
  rw[Dl,AQ,decide_eq_true hlt,A8]
  refine AB hp (AB (DW hld) ?_)
  refine Au rfl λH2 f2 g2=>?_
  refine Bq g2 rfl hx.len (by omega) λH3 g2 t3=>?_
  have f3:Kp H1 n1 H3 (n1+1):=⟨f2.le,λid hid=>(t3 id (by omega)).trans (f2.same id hid)⟩
  obtain⟨p3,hp3,hld3⟩:=(hw1.kp (λid h=>Nat.lt_of_lt_of_le (hwa id h) hn1) f3).at hd2
  refine AB hp3 (AB (DW hld3) ?_)
  refine Au rfl λH4 f4 g4=>?_
  have g2:=f4.get g2 (by omega)
  refine Bq g4 rfl hy.len (by omega) λH5 g4 t5=>?_
  have g2:=(t5 n1 (by omega)).trans g2
  have f5:Kp H3 (n1+1) H5 (n1+1+1):=⟨f4.le,λid hid=>(t5 id (by omega)).trans (f4.same id hid)⟩
  have f5:=f3.trans f5
  refine AB (BI (m:=9) g2 (by omega) hx.len) (AB (BI (m:=9) g4 (by omega) hy.len) ?_)
  have fin:=f1.trans f5
  have hx:XU G H5 A c e1:=hx.mono (λ_ h=>h) λid h=>f5.same id (by have:=hA id h;omega)
  have hy:XU G H5 B d e2:=hy.mono (λ_ h=>h) λid h=>f5.same id (by have:=hB id h;omega)
  refine hse e2 H5 _ c d A B _ hbb hx hy (λid h=>by have:=hA id h;omega) (λid h=>by have:=hB id h;omega) λH6 n6 f6=>?_
  rw[Ef,AQ,Bool.not_true,Ai]
  rw[Eu (by omega),AQ]
  exact ih _ ⟨_,_,rfl,fin.trans f6⟩
 ·rintro I q ⟨H1,n1,rfl,f1⟩
  show Bh lfp G (Runs F G) k I w (.fn Qe [] []) v (.int .i64 (.ofNat l.length) 0) (.int .i64 (.ofNat l.length) 0) H1 n1
  delta Bh
  rw[Dl,AQ,decide_eq_false (Nat.lt_irrefl _),Ai]
  delta Du
  exact hk _ _ f1
theorem AMU{l l2:List Tm}{v w:V}{cs ds:Dy}{A B:Nat->Prop}(hb:l.map Tm.bare=l2.map Tm.bare)(hv:El G H v 8 cs)(hw:El G H w 8 ds)(hva:∀id,v.D9=some id->id<n)(hwa:∀id,w.D9=some id->id<n)(hc:Lp G H A cs l)(hd:Lp G H B ds l2)(hA:∀id,A id->id<n)(hB:∀id,B id->id<n)
 (hs:∀e∈l,ASO G e) (hlen:l.length<=100000) (hk:∀H' n',Kp H n H' n'->k (.bool true) H' n'):Runs F G Eh [v,w,.fn OC [] []] H n k:=by
 refine go3 (I4 BK G) ?_
 delta Ee
 have hll:l.length=l2.length:=by have:=congrArg List.length hb;rwa [List.length_map,List.length_map]at this
 refine AB hv.len (AB hw.len ?_)
 rw[lS,AQ,hc.len,hd.len,hll,decide_eq_true rfl,Bool.not_true,Ai]
 refine AB hv.len ?_
 rw[hc.len]
 refine CP (N:=l.length) (J:=λj q=>∃H' n',q=(w,.fn OC [] [],v,.int .i64 (.ofNat l.length) 0,.int .i64 (.ofNat j) 0,H',n')/\Kp H n H' n') ?_ ?_ ⟨H,n,rfl,Kp.refl ..⟩
 ·rintro I j q hlt ⟨H1,n1,rfl,f1⟩ ih
  show BP lfp G (Runs F G) k I w (.fn OC [] []) v (.int .i64 (.ofNat l.length) 0) (.int .i64 (.ofNat j) 0) H1 n1
  delta BP
  have hv1:=hv.kp hva f1
  have hw1:=hw.kp hwa f1
  have hc1:Lp G H1 A cs l:=Lp.mono (λ_ h=>h) (λid h=>f1.same id (hA id h)) hc
  have hd1:Lp G H1 B ds l2:=Lp.mono (λ_ h=>h) (λid h=>f1.same id (hB id h)) hd
  have hlt2:j<l2.length:=by omega
  have hbb:l[j].bare=l2[j].bare:=by
   have:=congrArg (λx:List Tm=>x[j]?) hb
   simpa[hlt,hlt2]using this
  obtain⟨c,hc2,hx⟩:=hc1.at (List.getElem?_eq_getElem hlt)
  obtain⟨d,hd2,hy⟩:=hd1.at (List.getElem?_eq_getElem hlt2)
  have hse:=hs _ (List.getElem_mem hlt)
  generalize l[j]=e1 at hx hse hbb
  generalize l2[j]=e2 at hy hbb
  have hn1:=f1.le
  obtain⟨p,hp,hld⟩:=hv1.at hc2
  rw[Dl,AQ,decide_eq_true hlt,A8]
  refine AB hp (AB (DW hld) ?_)
  refine Au rfl λH2 f2 g2=>?_
  refine Bq g2 rfl hx.len (by omega) λH3 g2 t3=>?_
  have f3:Kp H1 n1 H3 (n1+1):=⟨f2.le,λid hid=>(t3 id (by omega)).trans (f2.same id hid)⟩
  obtain⟨p3,hp3,hld3⟩:=(hw1.kp (λid h=>Nat.lt_of_lt_of_le (hwa id h) hn1) f3).at hd2
  refine AB hp3 (AB (DW hld3) ?_)
  refine Au rfl λH4 f4 g4=>?_
  have g2:=f4.get g2 (by omega)
  refine Bq g4 rfl hy.len (by omega) λH5 g4 t5=>?_
  have g2:=(t5 n1 (by omega)).trans g2
  have f5:Kp H3 (n1+1) H5 (n1+1+1):=⟨f4.le,λid hid=>(t5 id (by omega)).trans (f4.same id hid)⟩
  have f5:=f3.trans f5
  refine AB (BI (m:=8) g2 (by omega) hx.len) (AB (BI (m:=8) g4 (by omega) hy.len) ?_)
  have fin:=f1.trans f5
  have hx:bJ G H5 A c e1:=hx.mono (λ_ h=>h) λid h=>f5.same id (by have:=hA id h;omega)
  have hy:bJ G H5 B d e2:=hy.mono (λ_ h=>h) λid h=>f5.same id (by have:=hB id h;omega)
  refine hse e2 H5 _ c d A B _ hbb hx hy (λid h=>by have:=hA id h;omega) (λid h=>by have:=hB id h;omega) λH6 n6 f6=>?_
  rw[Ef,AQ,Bool.not_true,Ai]
  rw[Eu (by omega),AQ]
  exact ih _ ⟨_,_,rfl,fin.trans f6⟩
 ·rintro I q ⟨H1,n1,rfl,f1⟩
  show BP lfp G (Runs F G) k I w (.fn OC [] []) v (.int .i64 (.ofNat l.length) 0) (.int .i64 (.ofNat l.length) 0) H1 n1
  delta BP
  rw[Dl,AQ,decide_eq_false (Nat.lt_irrefl _),Ai]
  delta DN
  exact hk _ _ f1
theorem ANo{l:List DJ}{v w:V}{A B:Nat->Prop}(hv:AGn G H A v l)(hw:AGn G H B w l)(hlen:l.length<=100000)(hk:k (.bool true) H n):Runs F G FM [v,w] H n k:=by
 obtain⟨hv,_⟩:=hv
 obtain⟨hw,_⟩:=hw
 refine go2 (Oh BK G) ?_
 delta Jr
 refine AB hv.len (AB hw.len ?_)
 rw[lS,AQ,decide_eq_true rfl,Bool.not_true,Ai]
 refine AB hv.len ?_
 rw[List.length_map]
 refine CP (N:=l.length) (J:=λj q=>q=(v,w,.int .i64 (.ofNat l.length) 0,.int .i64 (.ofNat j) 0,H,n)) ?_ ?_ rfl
 ·rintro I j q hlt rfl ih
  show Bz lfp G (Runs F G) k I v w (.int .i64 (.ofNat l.length) 0) (.int .i64 (.ofNat j) 0) H n
  delta Bz
  have hcx:(l.map QZ)[j]? =some (QZ l[j]):=by rw[List.getElem?_map,List.getElem?_eq_getElem hlt];rfl
  obtain⟨p,hp,hld⟩:=hv.at hcx
  obtain⟨p2,hp2,hld2⟩:=hw.at hcx
  rw[Dl,AQ,decide_eq_true hlt,A8]
  refine AB hp (AB (DW hld) (AB hp2 (AB (DW hld2) ?_)))
  refine AB (AYQ l[j]) ?_
  rw[Ai]
  rw[Eu (by omega),AQ]
  exact ih _ rfl
 ·rintro I q rfl
  show Bz lfp G (Runs F G) k I v w (.int .i64 (.ofNat l.length) 0) (.int .i64 (.ofNat l.length) 0) H n
  delta Bz
  rw[Dl,AQ,decide_eq_false (Nat.lt_irrefl _),Ai]
  delta F6
  exact hk
mutual
theorem AWt:∀(e:Te),smE e=true->AOq G e
 |.mk kind num nm ty of own kids,hz=>by
  intro e2 H n c1 c2 A B k hbe h1 h2 hA hB hk
  unfold smE at hz
  rw[Bool.and_eq_true]at hz
  have ih:∀e∈kids,AOq G e:=AJF kids hz.2
  have hz1:=of_decide_eq_true hz.1
  refine go2 (ADj BK G) ?_
  delta qg
  refine DY λH1 f1 g1=>?_
  refine DY λH2 f2 g2=>?_
  have g1:=f2.get g1 (by omega)
  have f2:=f1.trans f2
  have h1:FQ G H2 A c1 (.mk kind num nm ty of own kids):=h1.mono (λ_ h=>h) λid h=>f2.same id (hA id h)
  have h2:FQ G H2 B c2 e2:=h2.mono (λ_ h=>h) λid h=>f2.same id (hB id h)
  cases h1 with
  |mk kd nu nm ty of1 own1 l1 k1 he1 hv1 ha1 hc1=>
  cases h2 with
  |mk kd2 nu2 nm2 ty2 of2 own2 l2 k2 he2 hv2 ha2 hc2=>
  rename_i v1 cs1 v2 cs2 gV
  unfold Te.bare at hbe
  injection hbe with b1 b2 b3 b4 b5 b6 b7
  subst b1 b2 b3 b4
  rw[Te.PL,Te.PL]at b7
  have q0:AY (.ptr n 0) G H2=some _:=AV g1 rfl
  have r0:AY (.ptr (n+1) 0) G H2=some _:=AV g2 rfl
  have q3:AY (.ptr n 3) G H2=some _:=AV g1 rfl
  have r3:AY (.ptr (n+1) 3) G H2=some _:=AV g2 rfl
  have q4:AY (.ptr n 4) G H2=some _:=AV g1 rfl
  have r4:AY (.ptr (n+1) 4) G H2=some _:=AV g2 rfl
  have q7:AY (.ptr n 7) G H2=some _:=AV g1 rfl
  have r7:AY (.ptr (n+1) 7) G H2=some _:=AV g2 rfl
  simp only[go_sem,Nat.reduceAdd,q0,r0,AVo,q3,r3,q4,r4,ANn]
  refine AB (v:=.agg [ty.nm.v,.bool ty.arr]) (Dh g1 (by omega) (by show 5+2<=11;omega)) ?_
  refine AB (v:=.agg [ty.nm.v,.bool ty.arr]) (Dh g2 (by omega) (by show 5+2<=11;omega)) ?_
  simp only[go_sem,Nat.reduceAdd,AQo,q7,r7]
  refine AK6 b7 he1 he2 (λid h=>by have:=hA id (ha1 id h);omega) (λid h=>by have:=hB id (ha2 id h);omega) hc1 hc2 (λid h=>by have:=hA id h;omega) (λid h=>by have:=hB id h;omega) ih hz1 λH3 n3 f3=>?_
  try simp only[go_sem]
  exact hk _ _ (f2.trans f3)
theorem AJF:∀(l:List Te),smL l=true->∀e∈l,AOq G e
 |[],_,_,he=>by cases he
 |a::l,hz,e,he=>by
  unfold smL at hz
  rw[Bool.and_eq_true]at hz
  have x1:=AWt a hz.1
  have x2:=AJF l hz.2 e
  rcases List.mem_cons.1 he with rfl|he
  ·exact x1
  ·exact x2 he
end
mutual
theorem ATs:∀(s:Tt),smS s=true->AFj G s
 |.mk kd nm ty es th el,hz=>by
  intro e2 H n c1 c2 A B k hbe h1 h2 hA hB hk
  unfold smS at hz
  simp only[Bool.and_eq_true,decide_eq_true_eq]at hz
  obtain⟨⟨z1,z2⟩,⟨z3,z4⟩,z5,z6⟩:=hz
  have ih1:∀e∈th,AFj G e:=AFJ th z4
  have ih2:∀e∈el,AFj G e:=AFJ el z6
  refine go2 (ADM BK G) ?_
  delta qm
  refine DY λH1 f1 g1=>?_
  refine DY λH2 f2 g2=>?_
  have g1:=f2.get g1 (by omega)
  have f2:=f1.trans f2
  have h1:XU G H2 A c1 (.mk kd nm ty es th el):=h1.mono (λ_ h=>h) λid h=>f2.same id (hA id h)
  have h2:XU G H2 B c2 e2:=h2.mono (λ_ h=>h) λid h=>f2.same id (hB id h)
  have hA2:∀id,A id->id<n+1+1:=λid h=>by have:=hA id h;omega
  have hB2:∀id,B id->id<n+1+1:=λid h=>by have:=hB id h;omega
  cases h1 with
  |mk kd nm ty l1 k1 he ht kt hta hct hel kl hela hcl=>
  cases h2 with
  |mk kd2 nm2 ty2 l2 k2 ge gt jt gta gct gel jl gela gcl=>
  unfold Tt.bare at hbe
  injection hbe with b1 b2 b3 b4 b5 b6
  subst b1 b2 b3
  rw[Te.PL,Te.PL]at b4
  rw[Tt.PL,Tt.PL]at b5 b6
  have q0:AY (.ptr n 0) G H2=some _:=AV g1 rfl
  have r0:AY (.ptr (n+1) 0) G H2=some _:=AV g2 rfl
  have q3:AY (.ptr n 3) G H2=some _:=AV g1 rfl
  have r3:AY (.ptr (n+1) 3) G H2=some _:=AV g2 rfl
  have q6:AY (.ptr n 6) G H2=some _:=AV g1 rfl
  have r6:AY (.ptr (n+1) 6) G H2=some _:=AV g2 rfl
  have q7:AY (.ptr n 7) G H2=some _:=AV g1 rfl
  have r7:AY (.ptr (n+1) 7) G H2=some _:=AV g2 rfl
  have q8:AY (.ptr n 8) G H2=some _:=AV g1 rfl
  have r8:AY (.ptr (n+1) 8) G H2=some _:=AV g2 rfl
  simp only[go_sem,Nat.reduceAdd,q0,r0,AVo,q3,r3,ANn]
  refine AB (v:=.agg [ty.nm.v,.bool ty.arr]) (Dh g1 (by omega) (by show 4+2<=9;omega)) ?_
  refine AB (v:=.agg [ty.nm.v,.bool ty.arr]) (Dh g2 (by omega) (by show 4+2<=9;omega)) ?_
  simp only[go_sem,Nat.reduceAdd,AQo,q6,r6]
  obtain⟨cs,hle,_,_,_,hva,hcs⟩:=he
  obtain⟨ds,gle,_,_,_,gva,gcs⟩:=ge
  refine AK6 b4 hle gle (λid h=>hA2 id (hva id h)) (λid h=>hB2 id (gva id h)) hcs gcs hA2 hB2 (AJF es z2) z1 λH3 n3 f3=>?_
  have hn3:=f3.le
  have hA3:∀id,A id->id<n3:=λid h=>by have:=hA2 id h;omega
  have hB3:∀id,B id->id<n3:=λid h=>by have:=hB2 id h;omega
  have q7:AY (.ptr n 7) G H3=some _:=AV (f3.get g1 (by omega)) rfl
  have r7:AY (.ptr (n+1) 7) G H3=some _:=AV (f3.get g2 (by omega)) rfl
  have q8:AY (.ptr n 8) G H3=some _:=AV (f3.get g1 (by omega)) rfl
  have r8:AY (.ptr (n+1) 8) G H3=some _:=AV (f3.get g2 (by omega)) rfl
  simp only[go_sem,Nat.reduceAdd,q7,r7]
  refine AGz b5 (ht.same λid hid=>f3.same id (hA2 id (hta id hid))) (gt.same λid hid=>f3.same id (hB2 id (gta id hid))) (λid h=>hA3 id (hta id h)) (λid h=>hB3 id (gta id h)) (hct.mono (λ_ h=>h) λid h=>f3.same id (hA2 id h)) (gct.mono (λ_ h=>h) λid h=>f3.same id (hB2 id h)) hA3 hB3 ih1 z3 λH4 n4 f4=>?_
  have f4:=f3.trans f4
  have hn4:=f4.le
  have hA4:∀id,A id->id<n4:=λid h=>by have:=hA2 id h;omega
  have hB4:∀id,B id->id<n4:=λid h=>by have:=hB2 id h;omega
  have q7:AY (.ptr n 7) G H4=some _:=AV (f4.get g1 (by omega)) rfl
  have r7:AY (.ptr (n+1) 7) G H4=some _:=AV (f4.get g2 (by omega)) rfl
  have q8:AY (.ptr n 8) G H4=some _:=AV (f4.get g1 (by omega)) rfl
  have r8:AY (.ptr (n+1) 8) G H4=some _:=AV (f4.get g2 (by omega)) rfl
  simp only[go_sem,Nat.reduceAdd,q8,r8]
  refine AGz b6 (hel.same λid hid=>f4.same id (hA2 id (hela id hid))) (gel.same λid hid=>f4.same id (hB2 id (gela id hid))) (λid h=>hA4 id (hela id h)) (λid h=>hB4 id (gela id h)) (hcl.mono (λ_ h=>h) λid h=>f4.same id (hA2 id h)) (gcl.mono (λ_ h=>h) λid h=>f4.same id (hB2 id h)) hA4 hB4 ih2 z5 λH5 n5 f5=>?_
  try simp only[go_sem]
  exact hk _ _ (f2.trans (f4.trans f5))
theorem AFJ:∀(l:List Tt),smB l=true->∀e∈l,AFj G e
 |[],_,_,he=>by cases he
 |a::l,hz,e,he=>by
  unfold smB at hz
  rw[Bool.and_eq_true]at hz
  have x1:=ATs a hz.1
  have x2:=AFJ l hz.2 e
  rcases List.mem_cons.1 he with rfl|he
  ·exact x1
  ·exact x2 he
end
theorem ASz{m:Tm}(hz:smM m=true):ASO G m:=by
 intro m2 H n c1 c2 A B k hbe h1 h2 hA hB hk
 unfold smM at hz
 simp only[Bool.and_eq_true,decide_eq_true_eq]at hz
 obtain⟨z1,z2,z3⟩:=hz
 refine go2 (AAj BK G) ?_
 delta iJ
 refine DY λH1 f1 g1=>?_
 refine DY λH2 f2 g2=>?_
 have g1:=f2.get g1 (by omega)
 have f2:=f1.trans f2
 have h1:bJ G H2 A c1 m:=h1.mono (λ_ h=>h) λid h=>f2.same id (hA id h)
 have h2:bJ G H2 B c2 m2:=h2.mono (λ_ h=>h) λid h=>f2.same id (hB id h)
 have hA2:∀id,A id->id<n+1+1:=λid h=>by have:=hA id h;omega
 have hB2:∀id,B id->id<n+1+1:=λid h=>by have:=hB id h;omega
 obtain⟨l1,k1,vp,vb,rfl,hp,hb⟩:=h1.inv
 obtain⟨l2,k2,wp,wb,rfl,gp,gb⟩:=h2.inv
 obtain⟨nm,st,ps,ty,bd⟩:=m
 obtain⟨nm2,st2,ps2,ty2,bd2⟩:=m2
 obtain⟨cs,hle,_,_,_,hva,hcs⟩:=hb
 obtain⟨ds,gle,_,_,_,gva,gcs⟩:=gb
 unfold Tm.bare at hbe
 injection hbe with b1 b2 b3 b4 b5
 simp only at b1 b2 b3 b4 b5 z1 z2 z3
 subst b1 b2 b3 b4
 rw[Tt.PL,Tt.PL]at b5
 have q2:AY (.ptr n 2) G H2=some _:=AV g1 rfl
 have r2:AY (.ptr (n+1) 2) G H2=some _:=AV g2 rfl
 have q3:AY (.ptr n 3) G H2=some _:=AV g1 rfl
 have r3:AY (.ptr (n+1) 3) G H2=some _:=AV g2 rfl
 have q4:AY (.ptr n 4) G H2=some _:=AV g1 rfl
 have r4:AY (.ptr (n+1) 4) G H2=some _:=AV g2 rfl
 have q7:AY (.ptr n 7) G H2=some _:=AV g1 rfl
 have r7:AY (.ptr (n+1) 7) G H2=some _:=AV g2 rfl
 simp only[go_sem,Nat.reduceAdd,q2,r2,ANn,q3,r3,AYp]
 refine AB (v:=.agg [ty.nm.v,.bool ty.arr]) (Dh g1 (by omega) (by show 5+2<=8;omega)) ?_
 refine AB (v:=.agg [ty.nm.v,.bool ty.arr]) (Dh g2 (by omega) (by show 5+2<=8;omega)) ?_
 simp only[go_sem,Nat.reduceAdd,AQo,q4,r4]
 refine ANo hp gp z1 ?_
 simp only[go_sem,Nat.reduceAdd,q7,r7]
 refine AGz b5 hle gle (λid h=>hA2 id (hva id h)) (λid h=>hB2 id (gva id h)) hcs gcs hA2 hB2 (AFJ bd z3) z2 λH3 n3 f3=>?_
 try simp only[go_sem]
 exact hk _ _ (f2.trans f3)
theorem ATZ{x y:Tc}{c1 c2:LV}{A B:Nat->Prop}(hbe:x.bare=y.bare)(z1:x.fs.length<=100000)(z2:x.ms.length<=100000)(z3:∀m∈x.ms,smM m=true)(h1:VR G H A c1 x)(h2:VR G H B c2 y)(hA:∀id,A id->id<n)(hB:∀id,B id->id<n)(hk:∀H' n',Kp H n H' n'->k (.bool true) H' n'):Runs F G kK [.agg c1,.agg c2] H n k:=by
 refine go2 (ABl BK G) ?_
 delta lg
 refine DY λH1 f1 g1=>?_
 refine DY λH2 f2 g2=>?_
 have g1:=f2.get g1 (by omega)
 have f2:=f1.trans f2
 have h1:VR G H2 A c1 x:=h1.mono (λ_ h=>h) λid h=>f2.same id (hA id h)
 have h2:VR G H2 B c2 y:=h2.mono (λ_ h=>h) λid h=>f2.same id (hB id h)
 have hA2:∀id,A id->id<n+1+1:=λid h=>by have:=hA id h;omega
 have hB2:∀id,B id->id<n+1+1:=λid h=>by have:=hB id h;omega
 cases h1 with
 |mk l1 k1 hp hb=>
 cases h2 with
 |mk l2 k2 gp gb=>
 rename_i nm sup fs ms vp vb nm2 sup2 fs2 ms2 wp wb
 obtain⟨cs,hle,_,_,_,hva,hcs⟩:=hb
 obtain⟨ds,gle,_,_,_,gva,gcs⟩:=gb
 unfold Tc.bare at hbe
 injection hbe with b1 b2 b3 b4
 simp only at b1 b2 b3 b4 z1 z2 z3
 subst b1 b2 b3
 have q2:AY (.ptr n 2) G H2=some _:=AV g1 rfl
 have r2:AY (.ptr (n+1) 2) G H2=some _:=AV g2 rfl
 have q3:AY (.ptr n 3) G H2=some _:=AV g1 rfl
 have r3:AY (.ptr (n+1) 3) G H2=some _:=AV g2 rfl
 have q4:AY (.ptr n 4) G H2=some _:=AV g1 rfl
 have r4:AY (.ptr (n+1) 4) G H2=some _:=AV g2 rfl
 have q5:AY (.ptr n 5) G H2=some _:=AV g1 rfl
 have r5:AY (.ptr (n+1) 5) G H2=some _:=AV g2 rfl
 simp only[go_sem,Nat.reduceAdd,q2,r2,ANn,q3,r3,q4,r4]
 refine ANo hp gp z1 ?_
 simp only[go_sem,Nat.reduceAdd,q5,r5]
 refine AMU b4 hle gle (λid h=>hA2 id (hva id h)) (λid h=>hB2 id (gva id h)) hcs gcs hA2 hB2 (λe he=>ASz (z3 e he)) z2 λH3 n3 f3=>?_
 try simp only[go_sem]
 exact hk _ _ (f2.trans f3)
end
def ArF(tb:Tab):Prop:=∀s c,Ie tb s=some c->∀m∈c.ms,m.ps.length<=1000
theorem AHi{x:Kx}(ha:ArF x.tb){c:Ty}{nm:St}{st:Bool}{gs:List Ty}{p:Ty×St}(h:PE x c nm st gs=some p):gs.length<=1000:=by
 unfold PE at h
 cases hk:BO x.tb c with
 |false=>rw[hk]at h;cases h
 |true=>
  rw[hk]at h
  cases hm:Iu x.tb c.nm nm st with
  |none=>rw[hm]at h;cases h
  |some q=>
   rw[hm]at h
   obtain⟨o,s⟩:=q
   have h:TL (Z5 x.tb gs s.ps) s.ret o=some p:=h
   have hf:=kX (Eb h).1
   obtain⟨u,d,h1,h2⟩:=AAa hm
   have:s.ps.length<=1000:=ha u d h1 s h2
   omega
theorem ASA{x:Kx}(ha:ArF x.tb){Γ:List DJ}{nm:St}{ty:Ty}{p:Ty×St}(kind:Nat)(ks:List Ty)(h:Xu x Γ kind nm ty ks=some p):ks.length<=100000:=by
 match kind,h with
 |0,h=>cases h
 |8,h=>
  rcases ks with _|⟨c,gs⟩
  ·cases h
  ·have h:(bif c.cls then PE x c nm false gs else none)=some p:=h
   cases hc:c.cls with
   |false=>rw[hc]at h;cases h
   |true=>
    rw[hc]at h
    have:=AHi ha h
    simp only[List.length_cons];omega
 |9,h=>have:=AHi ha (show PE x ty nm true ks=some p from h);omega
 |1,h=>rcases ks with _|⟨a,_|⟨b,_|⟨c,l⟩⟩⟩<;>first|(cases h;done)|simp
 |2,h=>rcases ks with _|⟨a,_|⟨b,_|⟨c,l⟩⟩⟩<;>first|(cases h;done)|simp
 |3,h=>rcases ks with _|⟨a,_|⟨b,_|⟨c,l⟩⟩⟩<;>first|(cases h;done)|simp
 |4,h=>rcases ks with _|⟨a,_|⟨b,_|⟨c,l⟩⟩⟩<;>first|(cases h;done)|simp
 |5,h=>rcases ks with _|⟨a,_|⟨b,_|⟨c,l⟩⟩⟩<;>first|(cases h;done)|simp
 |6,h=>rcases ks with _|⟨a,_|⟨b,_|⟨c,l⟩⟩⟩<;>first|(cases h;done)|simp
 |7,h=>rcases ks with _|⟨a,_|⟨b,_|⟨c,l⟩⟩⟩<;>first|(cases h;done)|simp
 |10,h=>rcases ks with _|⟨a,_|⟨b,_|⟨c,l⟩⟩⟩<;>first|(cases h;done)|simp
 |11,h=>rcases ks with _|⟨a,_|⟨b,_|⟨c,l⟩⟩⟩<;>first|(cases h;done)|simp
 |12,h=>rcases ks with _|⟨a,_|⟨b,_|⟨c,l⟩⟩⟩<;>first|(cases h;done)|simp
 |13,h=>rcases ks with _|⟨a,_|⟨b,_|⟨c,l⟩⟩⟩<;>first|(cases h;done)|simp
 |14,h=>rcases ks with _|⟨a,_|⟨b,_|⟨c,l⟩⟩⟩<;>first|(cases h;done)|simp
 |15,h=>rcases ks with _|⟨a,_|⟨b,_|⟨c,l⟩⟩⟩<;>first|(cases h;done)|simp
 |16,h=>rcases ks with _|⟨a,_|⟨b,_|⟨c,l⟩⟩⟩<;>first|(cases h;done)|simp
 |17,h=>rcases ks with _|⟨a,_|⟨b,_|⟨c,l⟩⟩⟩<;>first|(cases h;done)|simp
 |18,h=>rcases ks with _|⟨a,_|⟨b,_|⟨c,l⟩⟩⟩<;>first|(cases h;done)|simp
 |19,h=>rcases ks with _|⟨a,_|⟨b,_|⟨c,l⟩⟩⟩<;>first|(cases h;done)|simp
 |20,h=>rcases ks with _|⟨a,_|⟨b,_|⟨c,l⟩⟩⟩<;>first|(cases h;done)|simp
 |k+21,h=>cases h
theorem AKY{x:Kx}{nm:St}{ty:Ty}{g g1:Gs}(does:Nat)(es:List Ty)(h:AHD x does nm ty es g=some g1):es.length<=100000:=by
 match does,h with
 |0,h=>cases h
 |1,h=>rcases es with _|⟨a,_|⟨b,_|⟨c,l⟩⟩⟩<;>first|(cases h;done)|simp
 |2,h=>rcases es with _|⟨a,_|⟨b,_|⟨c,l⟩⟩⟩<;>first|(cases h;done)|simp
 |3,h=>rcases es with _|⟨a,_|⟨b,_|⟨c,l⟩⟩⟩<;>first|(cases h;done)|simp
 |4,h=>rcases es with _|⟨a,_|⟨b,_|⟨c,l⟩⟩⟩<;>first|(cases h;done)|simp
 |5,h=>rcases es with _|⟨a,_|⟨b,_|⟨c,l⟩⟩⟩<;>first|(cases h;done)|simp
 |6,h=>rcases es with _|⟨a,_|⟨b,_|⟨c,l⟩⟩⟩<;>first|(cases h;done)|simp
 |7,h=>rcases es with _|⟨a,_|⟨b,_|⟨c,l⟩⟩⟩<;>first|(cases h;done)|simp
 |k+8,h=>cases h
mutual
theorem AQA{x:Kx}(ha:ArF x.tb){Γ:List DJ}:∀{e e':Te},ckE x Γ e=some e'->e'.bare=e.bare/\smE e'=true
 |.mk kind num nm ty of own kids,e',h=>by
  obtain⟨ks,p,h1,h2,rfl,h0⟩:=ABO h
  obtain⟨b1,b2⟩:=AF4 ha h1
  have hl:=ASA ha _ _ h2
  rw[List.length_map]at hl
  refine⟨?_,?_⟩
  ·unfold Te.bare;rw[b1]
  ·unfold smE;rw[b2,decide_eq_true hl];rfl
theorem AF4{x:Kx}(ha:ArF x.tb){Γ:List DJ}:∀{l l':List Te},uS x Γ l=some l'->Te.Qc l'=Te.Qc l/\smL l'=true
 |[],l',h=>by rw[uS]at h;cases h;exact⟨rfl,by unfold smL;rfl⟩
 |e::l,l',h=>by
  obtain⟨e',t,h1,h2,rfl⟩:=nO h
  obtain⟨b1,b2⟩:=AQA ha h1
  obtain⟨b3,b4⟩:=AF4 ha h2
  refine⟨?_,?_⟩
  ·unfold Te.Qc;rw[b1,b3]
  ·unfold smL;rw[b2,b4];rfl
end
theorem ANj{x:Kx}{g:Gs}{r:List Tt×Nat}(h:iG x [] g=some r):r.1=[]:=by rw[iG]at h;cases h;rfl
mutual
theorem AQa{x:Kx}(ha:ArF x.tb):∀{s:Tt} {g:Gs} {r:Tt×Gs},ckS x s g=some r->r.1.bare=s.bare/\smS r.1=true
 |.mk does nm ty es th el,g,r,h=>by
  obtain⟨_,es',g1,h1,h2,h3⟩:=AEx h
  obtain⟨b1,b2⟩:=AF4 ha h1
  have hl:=AKY _ _ h2
  rw[List.length_map]at hl
  by_cases hd:does=4∨does=5
  ·rcases h3 with⟨_,⟨z1,z2⟩,p,q,h3,h4,rfl⟩|⟨hn,_⟩
   ·obtain⟨c1,c2,c3⟩:=ACY ha h3
    obtain⟨d1,d2,d3⟩:=ACY ha h4
    refine⟨?_,?_⟩
    ·show(Tt.mk does nm ty es' p.1 q.1).bare=_
     unfold Tt.bare;rw[b1,c1,d1]
    ·show smS (Tt.mk does nm ty es' p.1 q.1)=true
     unfold smS;rw[b2,c2,d2,decide_eq_true hl,decide_eq_true (show p.1.length<=100000 by omega),decide_eq_true (show q.1.length<=100000 by omega)];rfl
   ·exact absurd hd hn
  ·obtain⟨e1,e2⟩:=AJ9 h hd
   rcases h3 with⟨hn,_⟩|⟨_,rfl⟩
   ·exact absurd hn hd
   ·subst e1 e2
    refine⟨?_,?_⟩
    ·show(Tt.mk does nm ty es' [] []).bare=_
     unfold Tt.bare;rw[b1]
    ·show smS (Tt.mk does nm ty es' [] [])=true
     unfold smS;rw[b2,decide_eq_true hl];unfold smB;rfl
theorem ACY{x:Kx}(ha:ArF x.tb):∀{l:List Tt} {g:Gs} {r:List Tt×Nat},iG x l g=some r->Tt.Qc r.1=Tt.Qc l/\smB r.1=true/\r.1.length=l.length
 |[],g,r,h=>by rw[ANj h];exact⟨rfl,by unfold smB;rfl,rfl⟩
 |s::l,g,(b',a),h=>by
  obtain⟨s',g1,l',h1,h2,rfl⟩:=ACG h
  obtain⟨b1,b2⟩:=AQa ha h1
  obtain⟨b3,b4,b5⟩:=ACY ha h2
  have b3:Tt.Qc l'=Tt.Qc l:=b3
  have b4:smB l'=true:=b4
  have b5:l'.length=l.length:=b5
  refine⟨?_,?_,?_⟩
  ·show Tt.Qc (s'::l')=_
   unfold Tt.Qc;rw[b3,show s'.bare=s.bare from b1]
  ·show smB (s'::l')=true
   unfold smB;rw[show smS s'=true from b2,b4];rfl
  ·show(s'::l').length=_
   rw[List.length_cons,List.length_cons,b5]
end
theorem AK8{l:List DJ}:∀{g g':Gs},yM l g=some g'->g.2+l.length=g'.2/\(l=[]∨g'.2<=200):=by
 induction l with
 |nil=>intro g g' h;cases h;exact⟨rfl,.inl rfl⟩
 |cons v l ih=>
  intro g g' h
  obtain⟨g1,h1,h2⟩:=Option.bind_eq_some_iff.1 (show(AAH v g).bind (yM l)=some g' from h)
  obtain⟨i1,i2⟩:=ih h2
  unfold AAH at h1
  cases hb:(FP v.nm g.1).isNone&&decide (g.2<200)with
  |false=>rw[hb]at h1;cases h1
  |true=>
   rw[hb]at h1
   cases h1
   rw[Bool.and_eq_true]at hb
   have:=of_decide_eq_true hb.2
   rw[List.length_cons]
   simp only at i1 i2
   refine⟨by omega,.inr ?_⟩
   rcases i2 with rfl|i2
   ·simp only[List.length_nil]at i1;omega
   ·exact i2
theorem AQ8{tb:Tab}(ha:ArF tb){cls:St}{m m':Tm}(h:ckM tb cls m=some m'):m'.bare=m.bare/\smM m'=true:=by
 unfold ckM at h
 cases hz:szB m.body with
 |false=>rw[hz]at h;cases h
 |true=>
  rw[hz]at h
  obtain⟨g,h1,h⟩:=Option.bind_eq_some_iff.1 (show((yM m.ps ([],0)).bind λg=>(iG ⟨tb,cls,m.st,m.ret⟩ m.body g).map λq=>({m with body:=q.1}:Tm))=some m' from h)
  obtain⟨q,h2,rfl⟩:=Option.map_eq_some_iff.1 h
  obtain⟨b1,b2,b3⟩:=ACY (x:=⟨tb,cls,m.st,m.ret⟩) ha h2
  obtain⟨i1,i2⟩:=AK8 h1
  have hz:=of_decide_eq_true hz
  refine⟨?_,?_⟩
  ·show({m with body:=Tt.Qc q.1}:Tm)={m with body:=Tt.Qc m.body}
   rw[b1]
  ·show(decide (m.ps.length<=100000)&&(decide (q.1.length<=100000)&&smB q.1))=true
   have:m.ps.length<=100000:=by
    rcases i2 with i2|i2
    ·rw[i2];exact Nat.zero_le _
    ·have i1:0+m.ps.length=g.2:=i1
     omega
   rw[b2,decide_eq_true this,decide_eq_true (show q.1.length<=100000 by omega)];rfl
theorem AH4{tb:Tab}(ha:ArF tb){cls:St}:∀{l l':List Tm},yY tb cls l=some l'->l'.map Tm.bare=l.map Tm.bare/\∀m∈l',smM m=true
 |[],l',h=>by cases h;exact⟨rfl,λ_ h=>by cases h⟩
 |m::l,l',h=>by
  obtain⟨m',t,h1,h2,rfl⟩:=ADs h
  obtain⟨b1,b2⟩:=AQ8 ha h1
  obtain⟨b3,b4⟩:=AH4 ha h2
  refine⟨by rw[List.map_cons,List.map_cons,b1,b3],λx hx=>?_⟩
  rcases List.mem_cons.1 hx with rfl|hx
  ·exact b2
  ·exact b4 x hx
theorem ARB{tb:Tab}(ha:ArF tb){c c':Tc}(h:ckC tb c=some c'):c'.bare=c.bare/\c'.fs=c.fs/\c'.ms.length=c.ms.length/\∀m∈c'.ms,smM m=true:=by
 obtain⟨ms,h1,rfl⟩:=Option.map_eq_some_iff.1 (show(yY tb c.nm c.ms).map (λms=>({c with ms:=ms}:Tc))=some c' from h)
 obtain⟨b1,b2⟩:=AH4 ha h1
 refine⟨?_,rfl,ABj h1,b2⟩
 show({c with ms:=ms.map Tm.bare}:Tc)={c with ms:=c.ms.map Tm.bare}
 rw[b1]
section
variable{G:AX}
end
section
variable{G:AX}{H:Heap}{n:Nat}{k:KV}
end
def ADN:LV:=[.str 2 15677,.str 2 15649,.str 2 15676,.str 2 9766,.str 2 31868,.str 1 43,.str 1 45,.str 1 42,.str 1 47,.str 1 37,.str 1 60,.str 1 61,.str 1 33,.str 1 40,.str 1 41,.str 1 91,.str 1 93,.str 1 123,.str 1 125,.str 1 59,.str 1 44,.str 1 46]
def ABZ(G:AX):Prop:=G 2 0 22=some ADN
noncomputable def Gx(G:AX):AX:=λb o z=>Bool.rec (motive:=λ_=>Option LV) (G b o z) (some ADN) (band (Nat.beq b 2) (band (Nat.beq o 0) (Nat.beq z 22)))
theorem AZd{G:AX}(h:ABZ G):Gx G=G:=by
 funext b o z
 show(Bool.rec (motive:=λ_=>Option LV) (G b o z) (some ADN) (band (Nat.beq b 2) (band (Nat.beq o 0) (Nat.beq z 22))):Option LV)=_
 cases hb:band (Nat.beq b 2) (band (Nat.beq o 0) (Nat.beq z 22))with
 |false=>rfl
 |true=>
  rw[Bv,Bv,Bool.and_eq_true,Bool.and_eq_true,Nat.beq_eq,Nat.beq_eq,Nat.beq_eq]at hb
  obtain⟨rfl,rfl,rfl⟩:=hb
  exact h.symm
abbrev fz:LV:=[.int .i64 (.ofNat 0) 0,.int .i64 (.ofNat 0) 0,.int .i64 (.ofNat 0) 0]
section
variable{G:AX}{H:Heap}{n:Nat}{k:KV}
theorem AHb(hk:∀H' n',Kp H n H' n'->k (.agg fz) H' n'):Runs F G LU [] H n k:=by
 refine go0 (AD2 BK G) ?_
 delta qy
 refine Au rfl λH1 f1 g1=>?_
 refine AB (v:=.agg fz) rfl ?_
 refine Bq g1 rfl rfl (by omega) λH2 g2 s2=>?_
 rw[Cm (m:=3) g2 (by omega) rfl]
 simp only[go_sem]
 exact hk _ _ ⟨f1.le,λid hid=>(s2 id (by omega)).trans (f1.same id hid)⟩
theorem ZX{e:V}{L:LV}(hk:∀H' n',Kp H n H' n'->k (.agg fz) H' n'):Runs F G CU [.bool true,e,.agg L] H n k:=by
 refine go3 (AAc BK G) ?_
 delta fV
 refine DY λH0 f0 g0=>?_
 refine Au rfl λH1 f1 g1=>?_
 rw[A8]
 refine AB (v:=.agg fz) rfl ?_
 refine Bq g1 rfl rfl (by omega) λH2 g2 s2=>?_
 rw[Cm (m:=3) g2 (by omega) rfl]
 simp only[go_sem]
 exact hk _ _ ⟨by have:=f0.le;have:=f1.le;omega,λid hid=>(s2 id (by omega)).trans ((f1.same id (by omega)).trans (f0.same id hid))⟩
end
structure Rk where
 rb:Nat
 t:Nat
 a:Nat
 b:Nat
 tb:Tab
 cls:St
 st:Bool
 x:V×V×V×V×V
 y:V×V×V×V×V×V×V
def Rk.cells(R:Rk)(vv al:V):LV:=[.ptr R.t 0,R.x.1,R.x.2.1,R.cls.v,R.x.2.2.1,R.x.2.2.2.1,R.x.2.2.2.2,R.y.1,R.y.2.1,R.y.2.2.1,.bool R.st,R.y.2.2.2.1,R.y.2.2.2.2.1,R.y.2.2.2.2.2.1,R.y.2.2.2.2.2.2,vv,al]
structure ROk(G:AX)(R:Rk):Prop where
 F:TbF R.tb
 cls:R.cls.ok
 G:jS G
structure RAt(G:AX)(H:Heap)(n:Nat)(R:Rk)(vv:V)(Γ:List DJ)(al:V):Prop where
 g:T.get H R.rb=some (one (R.cells vv al))
 tab:TabAt G H n R.t R.a R.b R.tb
 vars:El G H vv 3 (Γ.map QZ)
 xY:∀id,vv.D9=some id->id<n/\id≠R.b
 rn:R.rb<n
 rb:R.rb≠R.b
section
variable{G:AX}{H H':Heap}{n n':Nat}{R:Rk}{vv al:V}{Γ:List DJ}
theorem RAt.kb(h:RAt G H n R vv Γ al)(f:Kb R.b H n H' n'):RAt G H' n' R vv Γ al:=
 ⟨f.get h.g h.rn h.rb,h.tab.kb f,h.vars.same λid hid=>f.same id (h.xY id hid).1 (h.xY id hid).2,λid hid=>⟨Nat.lt_of_lt_of_le (h.xY id hid).1 f.le,(h.xY id hid).2⟩,Nat.lt_of_lt_of_le h.rn f.le,h.rb⟩
theorem RAt.kp(h:RAt G H n R vv Γ al)(f:Kp H n H' n'):RAt G H' n' R vv Γ al:=h.kb (f.kb h.tab.bn)
theorem RAt.ldt(h:RAt G H n R vv Γ al):AY (.ptr R.rb 0) G H=some (.ptr R.t 0):=AV (off:=0) h.g rfl
end
structure Ex(G:AX)(R:Rk)(vv:V)(Γ:List DJ)(al:V)(H0:Heap)(n0:Nat)(L:LV)(w:V)(ts:List Ty)(H:Heap)(n:Nat):Prop where
 ra:RAt G H n R vv Γ al
 f:Kb R.b H0 n0 H n
 g3:T.get H n0=some (one L)
 g4:T.get H (n0+1)=some (one [.str 0 0,.bool false])
 g5:T.get H (n0+2)=some (one fz)
 g6:T.get H (n0+4)=some (one [w])
 sk:Sk H 2 (λid=>n0+3<=id/\id<n/\id≠n0+4) w (ts.map Ty.cells)
 bn:R.b<n0
 nn:n0+5<=n
section
variable{G:AX}{R:Rk}{vv al:V}{Γ:List DJ}{H0 H H':Heap}{n0 n n':Nat}{L:LV}{w:V}{ts:List Ty}{k:KV}
theorem Ex.kb(x:Ex G R vv Γ al H0 n0 L w ts H n)(f:Kb R.b H n H' n'):Ex G R vv Γ al H0 n0 L w ts H' n':=by
 have hb:=x.bn
 have hn:=x.nn
 have hf:=f.le
 exact⟨x.ra.kb f,x.f.trans f,f.get x.g3 (by omega) (by omega),f.get x.g4 (by omega) (by omega),f.get x.g5 (by omega) (by omega),f.get x.g6 (by omega) (by omega),
  x.sk.mono (λid h=>⟨h.1,by omega,h.2.2⟩) λid h=>f.same id h.2.1 (by omega),hb,by omega⟩
theorem Ex.kp(x:Ex G R vv Γ al H0 n0 L w ts H n)(f:Kp H n H' n'):Ex G R vv Γ al H0 n0 L w ts H' n':=x.kb (f.kb x.ra.tab.bn)
theorem Ex.fin(x:Ex G R vv Γ al H0 n0 L w ts H n){t:Ty}(hk:∀H' n',Kb R.b H0 n0 H' n'->k (.G5 [t.v,.agg fz]) H' n'):
 BL 2 (.ptr (n0+1) 0) t.v H n λ_ H n=>BL 3 (.ptr (n0+2) 0) (.agg fz) H n λ_ H n=>Dz (BA [.cn (.ptr (n0+1) 0) 2,.cn (.ptr (n0+2) 0) 3] G H) λl=>k (CG l) H n:=by
 have hn:=x.nn
 have hb:=x.bn
 refine Bq (L:=[t.nm.v,.bool t.arr]) x.g4 rfl rfl (by omega) λH1 g1 s1=>?_
 refine Bq (L:=fz) ((s1 (n0+2) (by omega)).trans x.g5) rfl rfl (by omega) λH2 g2 s2=>?_
 rw[Cm (m:=2) ((s2 (n0+1) (by omega)).trans g1) (by omega) rfl,Cm (m:=3) g2 (by omega) rfl]
 simp only[go_sem]
 exact hk _ _ ⟨x.f.le,λid h1 h2=>(s2 id (by omega)).trans ((s1 id (by omega)).trans (x.f.same id h1 h2)),λh=>((x.f.seen h).same (s1 _ (by omega))).same (s2 _ (by omega))⟩
end
theorem jk(t:Ty):Ar t.v t.v=true:=AAZ (L:=t.cells) λv hv=>by simp[Ty.cells]at hv;rcases hv with rfl|rfl;exact ny ..;exact AE1 ..
section
variable{G:AX}{H:Heap}{n:Nat}{k:KV}
theorem AZ2{w:V}{ts:List Ty}{a6 a3:V}{t g:Ty}(hw:AY a6 G H=some w)(hp:∀H' n',Kp H n H' n'->AY a6 G H'=some w)(hel:El G H w 2 (ts.map Ty.cells))(hlo:∀id,w.D9=some id->id<n)(hln:ts.length<=100000)(hall:allT t ts=true)(hk:∀H' n',Kp H n H' n'->k (.G5 [g.v,.agg fz]) H' n'):
 Runs F G Bj [t.v,g.v,a6,a3] H n k:=by
 refine go4 (eG BK G) ?_
 delta UL
 refine DY (L:=t.cells) λH1 f1 g1=>?_
 refine DY (L:=g.cells) λH2 f2 g2=>?_
 have g1:=f2.get g1 (by omega)
 refine Au rfl λH3 f3 g3=>?_
 have g1:=f3.get g1 (by omega)
 have g2:=f3.get g2 (by omega)
 refine Au rfl λH4 f4 g4=>?_
 have g1:=f4.get g1 (by omega)
 have g2:=f4.get g2 (by omega)
 have g3:=f4.get g3 (by omega)
 have f04:=((f1.trans f2).trans f3).trans f4
 refine AB (hp _ _ f04) ?_
 have hlen:=(hel.kp hlo f04).len
 rw[List.length_map]at hlen
 refine AB hlen ?_
 refine CP (N:=ts.length) (J:=λj q=>∃H' n',q=(a3,.ptr n 0,.ptr (n+1) 0,.ptr (n+1+1) 0,.ptr (n+1+1+1) 0,w,.int .i64 (.ofNat ts.length) 0,.int .i64 (.ofNat j) 0,H',n')/\Kp H4 (n+1+1+1+1) H' n') ?_ ?_ ⟨H4,_,rfl,Kp.refl ..⟩
 ·rintro I j q hlt ⟨H5,n5,rfl,f5⟩ ih
  show Fz lfp G (Runs F G) k I a3 (.ptr n 0) (.ptr (n+1) 0) (.ptr (n+1+1) 0) (.ptr (n+1+1+1) 0) w (.int .i64 (.ofNat ts.length) 0) (.int .i64 (.ofNat j) 0) H5 n5
  delta Fz
  have hcx:(ts.map Ty.cells)[j]? =some ts[j].cells:=by rw[List.getElem?_map,List.getElem?_eq_getElem hlt];rfl
  obtain⟨p,hpp,hld⟩:=(hel.kp hlo (f04.trans f5)).at hcx
  have his:ts[j].is t=true:=List.all_eq_true.1 hall _ (List.getElem_mem hlt)
  generalize ts[j]=u at hld his
  have hn5:=f5.le
  rw[Dl,AQ,decide_eq_true hlt,A8]
  refine AB hpp (AB (DW hld) ?_)
  refine Au rfl λH6 f6 g6=>?_
  refine Bq g6 rfl rfl (by omega) λH7 g7 s7=>?_
  have f57:Kp H5 n5 H7 (n5+1):=⟨f6.le,λid hid=>(s7 id (by omega)).trans (f6.same id hid)⟩
  refine AB (BI (m:=2) g7 (by omega) rfl) (AB (BI (m:=2) (f57.get (f5.get g1 (by omega)) (by omega)) (by omega) rfl) ?_)
  refine AB (AOf u t) ?_
  rw[his]
  show Aa (.bool false) true _ _
  rw[Ai,Eu (by omega),AQ]
  exact ih _ ⟨H7,n5+1,rfl,f5.trans f57⟩
 ·rintro I q ⟨H5,n5,rfl,f5⟩
  show Fz lfp G (Runs F G) k I a3 (.ptr n 0) (.ptr (n+1) 0) (.ptr (n+1+1) 0) (.ptr (n+1+1+1) 0) w (.int .i64 (.ofNat ts.length) 0) (.int .i64 (.ofNat ts.length) 0) H5 n5
  delta Fz
  rw[Dl,AQ,decide_eq_false (Nat.lt_irrefl _),Ai]
  delta MG
  refine AB (BI (m:=2) (f5.get g2 (by omega)) (by omega) rfl) ?_
  refine AHb λH6 n6 f6=>?_
  have hn5:=f5.le
  have hn6:=f6.le
  have f56:=f5.trans f6
  refine AB (BI (m:=2) (f56.get g2 (by omega)) (by omega) rfl) (Bd (jk g) ?_)
  refine Bq (L:=g.cells) (f56.get g3 (by omega)) rfl rfl (by omega) λH7 g7 s7=>?_
  refine Bq (L:=fz) ((s7 (n+1+1+1) (by omega)).trans (f56.get g4 (by omega))) rfl rfl (by omega) λH8 g8 s8=>?_
  rw[Cm (m:=2) ((s8 (n+1+1) (by omega)).trans g7) (by omega) rfl,Cm (m:=3) g8 (by omega) rfl]
  simp only[go_sem]
  exact hk _ _ ⟨by have:=f04.le;omega,λid hid=>(s8 id (by omega)).trans ((s7 id (by omega)).trans ((f56.same id (by omega)).trans (f04.same id hid)))⟩
end
section
variable{G:AX}{R:Rk}{vv al:V}{Γ:List DJ}{H0 H:Heap}{n0 n:Nat}{L:LV}{w:V}{ts:List Ty}{k:KV}
theorem Ex.el(x:Ex G R vv Γ al H0 n0 L w ts H n):El G H w 2 (ts.map Ty.cells):=x.sk.el (by omega)
theorem Ex.all(x:Ex G R vv Γ al H0 n0 L w ts H n){t g:Ty}(hln:ts.length<=100000)(hall:allT t ts=true)(hk:∀H' n',Kp H n H' n'->k (.G5 [g.v,.agg fz]) H' n'):
 D7 (.fn Bj [] [.ptr (n0+4) 0,.ptr n0 0]) [t.v,g.v] (Runs F G) H n k:=by
 show Runs F G Bj [t.v,g.v,.ptr (n0+4) 0,.ptr n0 0] H n k
 have hn:=x.nn
 exact AZ2 (w:=w) (AV x.g6 rfl) (λH' n' f=>AV (f.get x.g6 (by omega)) rfl) x.el (λid hid=>(x.sk.own hid).2.1) hln hall hk
end
theorem Jo{q:IntKind}{a b:Nat}{K:V->Prop}(h:a≠b)(hk:K (.bool false)):AL (Dc (.one .int) false (.int q (.ofNat a) 0) (.int q (.ofNat b) 0)) K:=by rw[CY,decide_eq_false h];exact hk
theorem dS{q:IntKind}{a:Nat}{K:V->Prop}(hk:K (.bool true)):AL (Dc (.one .int) false (.int q (.ofNat a) 0) (.int q (.ofNat a) 0)) K:=by rw[CY,decide_eq_true rfl];exact hk
theorem tF{P Q:Prop}(h:Q):Aa (.bool false) true P Q:=h
theorem tT{P Q:Prop}(h:P):Aa (.bool true) true P Q:=h
structure Kt(G:AX)(w:V)(cs:Dy)(i:Nat)(t:Ty)(p q1:V):Prop where
 ip:Az 2 w (.int .i64 (.ofNat i) 0)=some p
 i1:AU 1 p=some q1
 ld:∀H',El G H' w 2 cs->Ad 2 p G H'=some t.v/\AY q1 G H'=some (.bool t.arr)
theorem AGI{G:AX}(hG:jS G){H:Heap}{w:V}{ts:List Ty}{i:Nat}{t:Ty}(h:El G H w 2 (ts.map Ty.cells))(hi:ts[i]? =some t):∃p q1,Kt G w (ts.map Ty.cells) i t p q1:=by
 have hi':(ts.map Ty.cells)[i]? =some t.cells:=by rw[List.getElem?_map,hi];rfl
 obtain⟨p,hp,hld⟩:=h.at hi'
 obtain⟨q1,h1,_⟩:=Vu hG hld (c:=t.cells) rfl (o:=1) (x:=.bool t.arr) rfl
 refine⟨p,q1,hp,h1,λH' h'=>?_⟩
 obtain⟨p',hp',hld'⟩:=h'.at hi'
 rw[hp]at hp';cases hp'
 obtain⟨r1,e1,g1⟩:=Vu hG hld' (c:=t.cells) rfl (o:=1) (x:=.bool t.arr) rfl
 rw[h1]at e1;cases e1
 exact⟨DW hld',g1⟩
section
variable{G:AX}{R:Rk}{vv al:V}{Γ:List DJ}{H0 H:Heap}{n0 n:Nat}{L:LV}{w:V}{ts:List Ty}{k:KV}{kind num:Nat}{nm:St}{ty of t:Ty}{own:St}{line col:Nat}{v:V}
abbrev XL(G:AX)(R:Rk)(H0:Heap)(n0:Nat)(t:Ty)(k:KV):Prop:=∀H' n',Kb R.b H0 n0 H' n'->k (.G5 [t.v,.agg fz]) H' n'
theorem Ex.known{P:KV}{u:V}(x:Ex G R vv Γ al H0 n0 L w ts H n)(hel:El G H u 2 [ty.cells])(hlo:∀id,u.D9=some id->id<n)(hC:ty.nm.ok)(hkn:BO R.tb ty=true)(hk:∀H' n',Kb R.b H n H' n'->P (.bool true) H' n'):
 Runs F G CQ [.ptr R.t 0,u] H n P:=by
 refine X3 (xs:=[ty]) x.ra.tab ⟨hel,hlo,by unfold big;exact(by decide:1<9223372036854775808),λt ht=>by rw[List.mem_singleton.1 ht];exact hC⟩ λH2 n2 f2=>?_
 rw[show[ty].all (BO R.tb)=true by simp[hkn]]
 exact hk _ _ f2
theorem AB1(x:Ex G R vv Γ al H0 n0 (LM kind num nm ty of own line col v) w ts H n):Ad 2 (.ptr n0 (0+1)) G H=some (bU line col):=Dh (off:=0+1) (m:=2) x.g3 (by omega) (by show 0+1+2<=11;omega)
theorem AMH(x:Ex G R vv Γ al H0 n0 (LM kind num nm ty of own line col v) w ts H n):Ad 2 (.ptr n0 (0+5)) G H=some ty.v:=Dh (off:=0+5) (m:=2) x.g3 (by omega) (by show 0+5+2<=11;omega)
theorem AaE(x:Ex G R vv Γ al H0 n0 (LM kind num nm ty of own line col v) w ts H n):AY (.ptr n0 (0+4)) G H=some nm.v:=AV (off:=0+4) x.g3 rfl
theorem AQF(x:Ex G R vv Γ al H0 n0 (LM kind num nm ty of own line col v) w ts H n):AY (.ptr n0 (0+0)) G H=some (.int .i64 (.ofNat kind) 0):=AV (off:=0+0) x.g3 rfl
theorem APP(x:Ex G R vv Γ al H0 n0 (LM kind num nm ty of own line col v) w ts H n):AY (.ptr n0 (0+7)) G H=some v:=AV (off:=0+7) x.g3 rfl
theorem x_w(x:Ex G R vv Γ al H0 n0 L w ts H n):AY (.ptr (n0+4) 0) G H=some w:=AV x.g6 rfl
theorem e_1(x:Ex G R vv Γ al H0 n0 (LM 1 num nm ty of own line col v) w ts H n)(hk:XL G R H0 n0 Cb k):CW lfp G (Runs F G) k (.ptr R.rb 0) (.ptr n0 0) (.ptr (n0+1) 0) (.ptr (n0+2) 0) (.ptr (n0+4) 0) H n:=by
 delta CW
 rw[Ae,AQ]
 refine AB (AQF x) (dS (tT ?_))
 refine JL λH1 n1 f1=>AHb λH2 n2 f2=>?_
 exact((x.kp f1).kp f2).fin hk
theorem ARf(x:Ex G R vv Γ al H0 n0 L w ts H n){a11 a43:V}(hk:XL G R H0 n0 BM k):BH lfp G (Runs F G) k (.ptr R.rb 0) (.ptr n0 0) (.ptr (n0+1) 0) (.ptr (n0+2) 0) (.ptr (n0+4) 0) a11 a43 (.bool true) H n:=by
 delta BH
 refine tT ?_
 refine NJ λH1 n1 f1=>AHb λH2 n2 f2=>?_
 exact((x.kp f1).kp f2).fin hk
theorem vg(x:Ex G R vv Γ al H0 n0 (LM kind num nm ty of own line col v) w ts H n)(h1:kind≠1)(h2:kind≠2)(h3:kind≠3)
 (h:BH lfp G (Runs F G) k (.ptr R.rb 0) (.ptr n0 0) (.ptr (n0+1) 0) (.ptr (n0+2) 0) (.ptr (n0+4) 0) (.fn Bj [] [.ptr (n0+4) 0,.ptr n0 0]) (.int .i64 (.ofNat kind) 0) (.bool false) H n):
 CW lfp G (Runs F G) k (.ptr R.rb 0) (.ptr n0 0) (.ptr (n0+1) 0) (.ptr (n0+2) 0) (.ptr (n0+4) 0) H n:=by
 delta CW
 rw[Ae,AQ]
 exact AB (AQF x) (Jo h1 (tF (Jo h2 (tF (Jo h3 h)))))
theorem e_2(x:Ex G R vv Γ al H0 n0 (LM 2 num nm ty of own line col v) w ts H n)(hk:XL G R H0 n0 BM k):CW lfp G (Runs F G) k (.ptr R.rb 0) (.ptr n0 0) (.ptr (n0+1) 0) (.ptr (n0+2) 0) (.ptr (n0+4) 0) H n:=by
 delta CW
 rw[Ae,AQ]
 exact AB (AQF x) (Jo (by decide) (tF (dS (tT (ARf x hk)))))
theorem e_3(x:Ex G R vv Γ al H0 n0 (LM 3 num nm ty of own line col v) w ts H n)(hk:XL G R H0 n0 BM k):CW lfp G (Runs F G) k (.ptr R.rb 0) (.ptr n0 0) (.ptr (n0+1) 0) (.ptr (n0+2) 0) (.ptr (n0+4) 0) H n:=by
 delta CW
 rw[Ae,AQ]
 exact AB (AQF x) (Jo (by decide) (tF (Jo (by decide) (tF (dS (ARf x hk))))))
end
section
variable{G:AX}{R:Rk}{vv al:V}{Γ:List DJ}{H0 H:Heap}{n0 n:Nat}{w:V}{ts:List Ty}{k:KV}{kind num:Nat}{nm:St}{ty of t:Ty}{own:St}{line col:Nat}{v:V}
abbrev J23(G:AX)(R:Rk)(n0 kind:Nat)(k:KV)(H:Heap)(n:Nat):Prop:=BH lfp G (Runs F G) k (.ptr R.rb 0) (.ptr n0 0) (.ptr (n0+1) 0) (.ptr (n0+2) 0) (.ptr (n0+4) 0) (.fn Bj [] [.ptr (n0+4) 0,.ptr n0 0]) (.int .i64 (.ofNat kind) 0) (.bool false) H n
theorem e_4(x:Ex G R vv Γ al H0 n0 (LM 4 num nm ty of own line col v) w ts H n)(hk:XL G R H0 n0 IE k):J23 G R n0 4 k H n:=by
 delta J23 BH
 refine tF (dS (tT ?_))
 refine Zl λH1 n1 f1=>AHb λH2 n2 f2=>?_
 exact((x.kp f1).kp f2).fin hk
theorem e_5(x:Ex G R vv Γ al H0 n0 (LM 5 num nm ty of own line col v) w ts H n)(hst:R.st=false)(hk:XL G R H0 n0 ⟨R.cls,false⟩ k):J23 G R n0 5 k H n:=by
 delta J23 BH
 refine tF (Jo (by decide) (tF (dS (tT ?_))))
 rw[BU,AQ,Ae,AQ,Ae,AQ]
 refine AB (AV (off:=0+1+2) x.ra.g (v:=R.cls.v) rfl) ?_
 rw[AQ,Ae,AQ,Ae,AQ]
 have q3:∀{H':Heap},T.get H' R.rb=some (one (R.cells vv al))->AY (.ptr R.rb (0+7+3)) G H'=some (.bool R.st):=λg=>AV (off:=0+7+3) g rfl
 refine AB (q3 x.ra.g) (AB (Ef ..) ?_)
 rw[Ae,AQ]
 refine AB (AB1 x) ?_
 refine bW (l:=R.cls.1) (c:=R.cls.2) λH1 n1 f1=>?_
 have x1:=x.kp f1
 refine AB (q3 x1.ra.g) (Bd (AE1 ..) (AB (AB1 x1) (Bd (MH ..) ?_)))
 rw[hst]
 refine ZX λH2 n2 f2=>?_
 exact(x1.kp f2).fin hk
theorem AMm{s:St}{f:DJ}{l:List DJ}:FP s (f::l)=bif decide (f.nm=s)then some f.ty else FP s l:=rfl
theorem e_6(x:Ex G R vv Γ al H0 n0 (LM 6 num nm ty of own line col v) w ts H n)(hln:Γ.length<=100000)(hlk:FP nm Γ=some t)(hk:XL G R H0 n0 t k):J23 G R n0 6 k H n:=by
 delta J23 BH
 refine tF (Jo (by decide) (tF (Jo (by decide) (tF (dS (tT ?_))))))
 rw[BU,AQ,Ae,AQ]
 refine AB (AV (off:=0+15) x.ra.g (v:=vv) rfl) ?_
 have hlen:=x.ra.vars.len
 rw[List.length_map]at hlen
 refine AB hlen ?_
 refine CP (N:=Γ.length) (J:=λj q=>∃H' n',q=(.ptr n0 0,.ptr (n0+1) 0,.ptr (n0+2) 0,vv,.int .i64 (.ofNat Γ.length) 0,.int .i64 (.ofNat j) 0,H',n')/\Ex G R vv Γ al H0 n0 (LM 6 num nm ty of own line col v) w ts H' n'/\FP nm (Γ.drop j)=some t) ?_ ?_ ⟨H,n,rfl,x,hlk⟩
 ·rintro I j q hlt ⟨H1,n1,rfl,x1,hj⟩ ih
  show NG lfp G (Runs F G) k I (.ptr n0 0) (.ptr (n0+1) 0) (.ptr (n0+2) 0) vv (.int .i64 (.ofNat Γ.length) 0) (.int .i64 (.ofNat j) 0) H1 n1
  delta NG
  have hcx:(Γ.map QZ)[j]? =some (QZ Γ[j]):=by rw[List.getElem?_map,List.getElem?_eq_getElem hlt];rfl
  obtain⟨p,hpp,hld⟩:=x1.ra.vars.at hcx
  rw[List.drop_eq_getElem_cons hlt,AMm]at hj
  generalize Γ[j]=f at hld hj
  rw[Dl,AQ,decide_eq_true hlt,A8]
  refine AB hpp (AB (DW hld) ?_)
  refine Au rfl λH2 f2 g2=>?_
  refine Bq g2 rfl rfl (by omega) λH3 g3 s3=>?_
  have f13:Kp H1 n1 H3 (n1+1):=⟨f2.le,λid hid=>(s3 id (by omega)).trans (f2.same id hid)⟩
  have x3:=x1.kp f13
  rw[Ae,AQ]
  refine AB (AV (off:=0+0) g3 (v:=f.nm.v) rfl) ?_
  rw[Ae,AQ]
  refine AB (AaE x3) (AB (ATt ..) ?_)
  by_cases e:f.nm=nm
  ·rw[decide_eq_true e]at hj
   obtain rfl:f.ty=t:=Option.some.inj hj
   rw[decide_eq_true (show f.nm.1=nm.1/\f.nm.2=nm.2 by rw[e];exact⟨rfl,rfl⟩),A8,Ae,AQ]
   have q1:∀{H':Heap},T.get H' n1=some (one (QZ f))->Ad 2 (.ptr n1 (0+1)) G H'=some f.ty.v:=λg=>Dh (off:=0+1) (m:=2) g (by omega) (by show 0+1+2<=3;omega)
   refine AB (q1 g3) ?_
   refine AHb λH4 n4 f4=>?_
   refine AB (q1 (f4.get g3 (by omega))) (Bd (jk _) ?_)
   exact(x3.kp f4).fin hk
  ·rw[decide_eq_false e]at hj
   rw[decide_eq_false (show ¬(f.nm.1=nm.1/\f.nm.2=nm.2)from λh=>e (Prod.ext h.1 h.2)),Ai,Eu (by omega),AQ]
   exact ih _ ⟨H3,n1+1,rfl,x3,hj⟩
 ·rintro I q ⟨H1,n1,rfl,x1,hj⟩
  rw[List.drop_eq_nil_of_le (Nat.le_refl _)]at hj
  cases hj
theorem AcT(x:Ex G R vv Γ al H0 n0 (LM 10 num nm ty of own line col v) w ts H n)(hC:ty.nm.ok)(hkn:BO R.tb ty=true)(hk:XL G R H0 n0 ty k):J23 G R n0 10 k H n:=by
 delta J23 BH
 refine tF (Jo (by decide) (tF (Jo (by decide) (tF (Jo (by decide) (tF (dS (tT ?_))))))))
 rw[Ae,AQ]
 refine AB (AMH x) ?_
 rw[BU,AQ,Dk,AQ]
 refine AB x.ra.ldt ?_
 rw[Ae,AQ]
 refine AB (AMH x) ?_
 refine TD (G:=G) (vs:=[ty.v]) rfl (by omega) (λv hv=>by simp at hv;subst hv;exact⟨rfl,rfl⟩) λH1 f1 _ hel=>?_
 have x1:=x.kp f1
 first|rw[Ae,AQ]|rw[AQ]
 refine AB (AB1 x1) ?_
 refine x1.known hel (λid hid=>by cases hid;omega) hC hkn λH2 n2 f2=>?_
 have x2:=x1.kb f2
 refine AB (AMH x2) (Bd (jk _) (AB (AB1 x2) (Bd (MH ..) ?_)))
 refine ZX λH3 n3 f3=>?_
 have x3:=x2.kp f3
 exact AB (AMH x3) (Bd (jk _) (x3.fin hk))
end
section
variable{G:AX}{R:Rk}{vv al:V}{Γ:List DJ}{H0 H:Heap}{n0 n:Nat}{w:V}{ts:List Ty}{k:KV}{kind num:Nat}{nm:St}{ty of t:Ty}{own:St}{line col:Nat}{v:V}
theorem Ex.ATc(x:Ex G R vv Γ al H0 n0 (LM kind num nm ty of own line col v) w ts H n){t g:Ty}(hln:ts.length<=100000)(hall:allT t ts=true)(hk:XL G R H0 n0 g k):
 D7 (.fn Bj [] [.ptr (n0+4) 0,.ptr n0 0]) [t.v,g.v] (Runs F G) H n λv182 H n=>AL (Ep v182 0) λv183=>AL (Ep v182 1) λv184=>BL 2 (.ptr (n0+1) 0) v183 H n λ_ H n=>BL 3 (.ptr (n0+2) 0) v184 H n λ_ H n=>
  Dz (BA [.cn (.ptr (n0+1) 0) 2,.cn (.ptr (n0+2) 0) 3] G H) λl=>k (CG l) H n:=by
 refine x.all hln hall λH1 n1 f1=>?_
 rw[O5,AQ,O7,AQ]
 exact(x.kp f1).fin hk
theorem Abg(x:Ex G R vv Γ al H0 n0 (LM 11 num nm ty of own line col v) w ts H n)(hln:ts.length<=100000)(hall:allT Cb ts=true)(hC:ty.nm.ok)(hkn:BO R.tb ty=true)(hk:XL G R H0 n0 ⟨ty.nm,true⟩ k):J23 G R n0 11 k H n:=by
 delta J23 BH
 refine tF (Jo (by decide) (tF (Jo (by decide) (tF (Jo (by decide) (tF (Jo (by decide) (tF (dS (tT ?_))))))))))
 rw[Ae,AQ,Ae,AQ]
 have qn:∀{H':Heap},T.get H' n0=some (one (LM 11 num nm ty of own line col v))->AY (.ptr n0 (0+5+0)) G H'=some ty.nm.v:=λg=>AV (off:=0+5+0) g rfl
 refine AB (qn x.g3) ?_
 refine AB (v:=Ty.v ⟨ty.nm,true⟩) rfl ?_
 refine Au rfl λH1 f1 g1=>?_
 refine Au rfl λH2 f2 g2=>?_
 have g1:=f2.get g1 (by omega)
 have x2:=(x.kp f1).kp f2
 refine JL λH3 n3 f3=>?_
 have hn3:=f3.le
 have x3:=x2.kp f3
 refine AB (qn x3.g3) (Bd (ny ..) ?_)
 refine x3.all (t:=Cb) (g:=⟨ty.nm,true⟩) hln hall λH4 n4 f4=>?_
 have hn4:=f4.le
 rw[O5,AQ,O7,AQ]
 have f24:=f3.trans f4
 refine Bq (L:=[ty.nm.v,.bool true]) (f24.get g1 (by omega)) rfl rfl (by omega) λH5 g5 s5=>?_
 refine Bq (L:=fz) ((s5 (n+1) (by omega)).trans (f24.get g2 (by omega))) rfl rfl (by omega) λH6 g6 s6=>?_
 have g5:T.get H6 n=_:=(s6 n (by omega)).trans g5
 have f06:Kp H n H6 n4:=⟨by omega,λid hid=>(s6 id (by omega)).trans ((s5 id (by omega)).trans ((f24.same id (by omega)).trans ((f2.same id (by omega)).trans (f1.same id hid))))⟩
 have x6:=x.kp f06
 rw[Ae,AQ]
 refine AB (AV (off:=0+0) g6 (v:=.int .i64 (.ofNat 0) 0) rfl) (dS (tT ?_))
 rw[BU,AQ,Dk,AQ]
 refine AB x6.ra.ldt ?_
 rw[Ae,AQ]
 refine AB (AMH x6) ?_
 refine TD (G:=G) (vs:=[ty.v]) rfl (by omega) (λv hv=>by simp at hv;subst hv;exact⟨rfl,rfl⟩) λH7 f7 _ hel=>?_
 have x7:=x6.kp f7
 first|rw[Ae,AQ]|rw[AQ]
 refine AB (AB1 x7) ?_
 refine x7.known hel (λid hid=>by cases hid;omega) hC hkn λH8 n8 f8=>?_
 have x8:=x7.kb f8
 have hn8:=f8.le
 have hb:R.b<n:=x.ra.tab.bn
 refine AB (AB1 x8) (Bd (MH ..) ?_)
 refine ZX λH9 n9 f9=>?_
 have hn9:=f9.le
 have k9:∀id,id<n4->id≠R.b->T.get H9 id=T.get H6 id:=λid h1 h2=>(f9.same id (by omega)).trans ((f8.same id (by omega) h2).trans (f7.same id h1))
 refine Bq (L:=fz) ((k9 (n+1) (by omega) (by omega)).trans g6) rfl rfl (by omega) λHa ga sa=>?_
 have gb:T.get Ha n=_:=(sa n (by omega)).trans ((k9 n (by omega) (by omega)).trans g5)
 have xa:=x.kb (H':=Ha) (n':=n9) ⟨by omega,λid h1 h2=>(sa id (by omega)).trans ((k9 id (by omega) h2).trans (f06.same id h1)),λhs=>((f8.seen ((f06.trans f7).kb hb |>.seen hs)).same (f9.same _ (by omega))).same (sa _ (by omega))⟩
 delta Ii
 refine AB (BI (m:=2) gb (by omega) rfl) (AB (BI (m:=3) ga (by omega) rfl) ?_)
 have hnn:=xa.nn
 have hb0:=xa.bn
 refine Bq (L:=[ty.nm.v,.bool true]) xa.g4 rfl rfl (by omega) λHb gb sb=>?_
 have hxn:=x.nn
 refine AB (BI (m:=3) ((sb (n+1) (by omega)).trans ga) (by omega) rfl) (Bd (AAZ (L:=fz) λv hv=>by simp at hv;subst hv;exact AAI ..) ?_)
 refine Bq (L:=fz) ((sb (n0+2) (by omega)).trans xa.g5) rfl rfl (by omega) λHc gc sc=>?_
 rw[Cm (m:=2) ((sc (n0+1) (by omega)).trans gb) (by omega) rfl,Cm (m:=3) gc (by omega) rfl]
 simp only[go_sem]
 exact hk _ _ ⟨xa.f.le,λid h1 h2=>(sc id (by omega)).trans ((sb id (by omega)).trans (xa.f.same id h1 h2)),λh=>((xa.f.seen h).same (sb _ (by omega))).same (sc _ (by omega))⟩
theorem Abe(x:Ex G R vv Γ al H0 n0 (LM 14 num nm ty of own line col v) w ts H n)(hln:ts.length<=100000)(hall:allT Cb ts=true)(hk:XL G R H0 n0 Cb k):J23 G R n0 14 k H n:=by
 delta J23 BH
 refine tF (Jo (by decide) (tF (Jo (by decide) (tF (Jo (by decide) (tF (Jo (by decide) (tF (Jo (by decide) (tF (Jo (by decide) (tF (Jo (by decide) (tF (dS (tT ?_))))))))))))))))
 refine JL λH1 n1 f1=>JL λH2 n2 f2=>?_
 exact((x.kp f1).kp f2).ATc hln hall hk
theorem ANi{P:Prop}(hkd:15<=kind∨7<=kind/\kind<=9)(h:AL (Dc (.one .int) false (.int .i64 (.ofNat kind) 0) (.int .i64 (.ofNat 15) 0)) λv280=>Aa v280 true (CX lfp G (Runs F G) k (.ptr R.rb 0) (.ptr n0 0) (.ptr (n0+1) 0) (.ptr (n0+2) 0) (.ptr (n0+4) 0) (.fn Bj [] [.ptr (n0+4) 0,.ptr n0 0]) (.int .i64 (.ofNat kind) 0) v280 H n)
 (AL (Dc (.one .int) false (.int .i64 (.ofNat kind) 0) (.int .i64 (.ofNat 17) 0)) λv281=>Aa v281 true (CX lfp G (Runs F G) k (.ptr R.rb 0) (.ptr n0 0) (.ptr (n0+1) 0) (.ptr (n0+2) 0) (.ptr (n0+4) 0) (.fn Bj [] [.ptr (n0+4) 0,.ptr n0 0]) (.int .i64 (.ofNat kind) 0) v281 H n)
  (AL (Dc (.one .int) false (.int .i64 (.ofNat kind) 0) (.int .i64 (.ofNat 18) 0)) λv282=>CX lfp G (Runs F G) k (.ptr R.rb 0) (.ptr n0 0) (.ptr (n0+1) 0) (.ptr (n0+2) 0) (.ptr (n0+4) 0) (.fn Bj [] [.ptr (n0+4) 0,.ptr n0 0]) (.int .i64 (.ofNat kind) 0) v282 H n))):
 J23 G R n0 kind k H n:=by
 delta J23 BH
 exact tF (Jo (by omega) (tF (Jo (by omega) (tF (Jo (by omega) (tF (Jo (by omega) (tF (Jo (by omega) (tF (Jo (by omega) (tF (Jo (by omega) (tF (Jo (by omega) (tF h))))))))))))))))
theorem AJD(x:Ex G R vv Γ al H0 n0 (LM kind num nm ty of own line col v) w ts H n){a43:V}(hln:ts.length<=100000)(hall:allT BM ts=true)(hk:XL G R H0 n0 BM k):
 CX lfp G (Runs F G) k (.ptr R.rb 0) (.ptr n0 0) (.ptr (n0+1) 0) (.ptr (n0+2) 0) (.ptr (n0+4) 0) (.fn Bj [] [.ptr (n0+4) 0,.ptr n0 0]) a43 (.bool true) H n:=by
 delta CX
 refine tT ?_
 refine NJ λH1 n1 f1=>NJ λH2 n2 f2=>?_
 exact((x.kp f1).kp f2).ATc hln hall hk
theorem ASY(x:Ex G R vv Γ al H0 n0 (LM kind num nm ty of own line col v) w ts H n)(hkd:kind=15∨kind=17∨kind=18)(hln:ts.length<=100000)(hall:allT BM ts=true)(hk:XL G R H0 n0 BM k):J23 G R n0 kind k H n:=by
 rcases hkd with rfl|rfl|rfl
 ·exact ANi (by omega) (P:=True) (dS (tT (AJD x hln hall hk)))
 ·exact ANi (by omega) (P:=True) (Jo (by decide) (tF (dS (tT (AJD x hln hall hk)))))
 ·exact ANi (by omega) (P:=True) (Jo (by decide) (tF (Jo (by decide) (tF (dS (AJD x hln hall hk))))))
end
structure Ps(G:AX)(R:Rk)(H0:Heap)(n0:Nat)(v:V)(cs:Dy):Prop where
 el:∀H' n',Kb R.b H0 n0 H' n'->El G H' v 11 cs
 vs:Ar v v=true
 at':∀i,i<cs.length->∃l pl pc,cs[i]? =some l/\l.length=11/\(l.drop 1).take 2=[.int .i64 (.ofNat pl) 0,.int .i64 (.ofNat pc) 0]
section
variable{G:AX}{R:Rk}{vv al:V}{Γ:List DJ}{H0 H:Heap}{n0 n:Nat}{w:V}{ts:List Ty}{k:KV}{kind num:Nat}{nm:St}{ty of t:Ty}{own:St}{line col:Nat}{v:V}{cs:Dy}
theorem Ps.pos(s:Ps G R H0 n0 v cs)(hG:jS G){i:Nat}(hi:i<cs.length):∃p q pl pc,Az 11 v (.int .i64 (.ofNat i) 0)=some p/\AU 1 p=some q/\∀H' n',Kb R.b H0 n0 H' n'->Ad 2 q G H'=some (bU pl pc):=by
 obtain⟨l,pl,pc,h1,h2,h3⟩:=s.at' i hi
 obtain⟨p,q1,q8,q9,kd⟩:=qG hG (s.el H0 n0 (Kb.refl ..)) h1 h2
 exact⟨p,q1,pl,pc,kd.ip,kd.i1,λH' n' f=>by rw[(kd.ld H' (s.el H' n' f)).2.1,h3]⟩
theorem Aaz(hG:jS G){a i:Ty}(x:Ex G R vv Γ al H0 n0 (LM 12 num nm ty of own line col v) w [a,i] H n)(s:Ps G R H0 n0 v cs)(hcs:cs.length=2)(ha:a.arr=true)(hi:i.is Cb=true)(hk:XL G R H0 n0 (AHg a) k):J23 G R n0 12 k H n:=by
 delta J23 BH
 refine tF (Jo (by decide) (tF (Jo (by decide) (tF (Jo (by decide) (tF (Jo (by decide) (tF (Jo (by decide) (tF (dS (tT ?_))))))))))))
 obtain⟨p0,q0,k0⟩:=AGI hG x.el (i:=0) (t:=a) rfl
 obtain⟨p1,q1,k1⟩:=AGI hG x.el (i:=1) (t:=i) rfl
 obtain⟨r,r1,pl,pc,ip,i1,hr⟩:=s.pos hG (i:=1) (by omega)
 refine AB (x_w x) (AB k0.ip (AB k0.i1 (AB (k0.ld H x.el).2 (AB (Ef ..) ?_))))
 rw[ha]
 show Aa (.bool false) true _ _
 refine tF ?_
 refine AB (x_w x) (AB k0.ip (AB (k0.ld H x.el).1 (AB (x_w x) (AB k1.ip (AB (k1.ld H x.el).1 ?_)))))
 rw[Ae,AQ]
 refine AB (APP x) (AB ip (AB i1 (AB (hr _ _ x.f) ?_)))
 refine ASc λH1 n1 f1=>?_
 have x1:=x.kp f1
 refine AB (x_w x1) (Bd x.sk.ok.2.2 (AB (k1.ld H1 x1.el).1 (Bd (jk _) (AB (APP x1) (Bd s.vs (AB (hr _ _ x1.f) (Bd (MH ..) ?_)))))))
 refine JL λH2 n2 f2=>?_
 have x2:=x1.kp f2
 refine AB (x_w x2) (Bd x.sk.ok.2.2 (AB (k1.ld H2 x2.el).1 (Bd (jk _) (AB (APP x2) (Bd s.vs (AB (hr _ _ x2.f) (Bd (MH ..) ?_)))))))
 refine AB (ZJ i Cb) ?_
 rw[hi]
 refine ZX λH3 n3 f3=>?_
 exact(x2.kp f3).fin hk
theorem AcD(hG:jS G){a:Ty}(x:Ex G R vv Γ al H0 n0 (LM 13 num nm ty of own line col v) w [a] H n)(s:Ps G R H0 n0 v cs)(hcs:cs.length=1)(ha:a.arr=true)(hk:XL G R H0 n0 Cb k):J23 G R n0 13 k H n:=by
 delta J23 BH
 refine tF (Jo (by decide) (tF (Jo (by decide) (tF (Jo (by decide) (tF (Jo (by decide) (tF (Jo (by decide) (tF (Jo (by decide) (tF (dS (tT ?_))))))))))))))
 obtain⟨p0,q0,k0⟩:=AGI hG x.el (i:=0) (t:=a) rfl
 obtain⟨r,r1,pl,pc,ip,i1,hr⟩:=s.pos hG (i:=0) (by omega)
 refine AB (x_w x) (AB k0.ip (AB k0.i1 (AB (k0.ld H x.el).2 ?_)))
 rw[Ae,AQ]
 refine AB (APP x) (AB ip (AB i1 (AB (hr _ _ x.f) ?_)))
 refine JL λH1 n1 f1=>?_
 have x1:=x.kp f1
 refine AB (x_w x1) (Bd x.sk.ok.2.2 (AB (k0.ld H1 x1.el).2 (Bd (AE1 ..) (AB (APP x1) (Bd s.vs (AB (hr _ _ x1.f) (Bd (MH ..) ?_)))))))
 rw[ha]
 refine ZX λH2 n2 f2=>?_
 exact(x1.kp f2).fin hk
abbrev APJ(G:AX)(R:Rk)(n0 kind:Nat)(b:Bool)(k:KV)(H:Heap)(n:Nat):Prop:=EH lfp G (Runs F G) k (.ptr R.rb 0) (.ptr n0 0) (.ptr (n0+1) 0) (.ptr (n0+2) 0) (.ptr (n0+4) 0) (.fn Bj [] [.ptr (n0+4) 0,.ptr n0 0]) (.int .i64 (.ofNat kind) 0) (.bool b) H n
theorem AVN(x:Ex G R vv Γ al H0 n0 (LM kind num nm ty of own line col v) w ts H n){m:Nat}(hm:n0+5<=m)(hmn:m<n)(g:T.get H m=some (one [t.nm.v,.bool t.arr]))(hC:ty.nm.ok)(hkn:BO R.tb ty=true)(hk:XL G R H0 n0 t k):
 EI lfp G (Runs F G) k (.ptr R.rb 0) (.ptr n0 0) (.ptr (n0+1) 0) (.ptr (n0+2) 0) (.ptr m 0) H n:=by
 delta EI
 have hb:=x.bn
 have q:∀{H':Heap},T.get H' m=some (one [t.nm.v,.bool t.arr])->Ad 2 (.ptr m 0) G H'=some t.v:=λg=>BI g (by omega) rfl
 refine AB (q g) ?_
 rw[BU,AQ,Dk,AQ]
 refine AB x.ra.ldt ?_
 rw[Ae,AQ]
 refine AB (AMH x) ?_
 refine TD (G:=G) (vs:=[ty.v]) rfl (by omega) (λv hv=>by simp at hv;subst hv;exact⟨rfl,rfl⟩) λH1 f1 _ hel=>?_
 have x1:=x.kp f1
 first|rw[Ae,AQ]|rw[AQ]
 refine AB (AB1 x1) ?_
 refine x1.known hel (λid hid=>by cases hid;omega) hC hkn λH2 n2 f2=>?_
 have x2:=x1.kb f2
 have hn2:=f2.le
 have g2:=f2.get (f1.get g (by omega)) (by omega) (by omega)
 refine AB (q g2) (Bd (jk _) (AB (AB1 x2) (Bd (MH ..) ?_)))
 refine ZX λH3 n3 f3=>?_
 have x3:=x2.kp f3
 exact AB (q (f3.get g2 (by omega))) (Bd (jk _) (x3.fin hk))
theorem AZM(hG:jS G){a:Ty}(x:Ex G R vv Γ al H0 n0 (LM kind num nm ty of own line col v) w [a] H n)(ha:a.nm.ok)(hc:(a.cls||a.is IE)=true)(hC:ty.nm.ok)(hkn:BO R.tb ty=true)(hk:XL G R H0 n0 (bif decide (kind=20)then BM else ty) k):APJ G R n0 kind true k H n:=by
 delta APJ EH
 refine tT ?_
 have hxn:=x.nn
 obtain⟨p0,q0,k0⟩:=AGI hG x.el (i:=0) (t:=a) rfl
 refine AB (x_w x) (AB k0.ip (AB (k0.ld H x.el).1 ?_))
 refine ACB (l:=a.nm.1) (c:=a.nm.2) (arr:=a.arr) ha λH1 n1 f1=>?_
 have x1:=x.kp f1
 refine AB (Ef ..) ?_
 have go:∀{H2:Heap} {n2:Nat},Ex G R vv Γ al H0 n0 (LM kind num nm ty of own line col v) w [a] H2 n2->
  AL (AU 5 (.ptr n0 0)) λv208=>AL (Ad 2 v208 G H2) λv209=>BZ (Aq 2 [[(.str 0 0),(.bool false)]] E0) H2 n2 λv210 H n=>BL 2 v210 v209 H n λv211 H n=>AL (AU 0 (.ptr n0 0)) λv226=>AL (AY v226 G H) λv227=>
   AL (Dc (.one .int) false v227 (.int .i64 (.ofNat 20) 0)) λv228=>Aa v228 true (Runs F G DR [] H n λv229 H n=>BL 2 v210 v229 H n λv230 H n=>
    EI lfp G (Runs F G) k (.ptr R.rb 0) (.ptr n0 0) (.ptr (n0+1) 0) (.ptr (n0+2) 0) v210 H n) (EI lfp G (Runs F G) k (.ptr R.rb 0) (.ptr n0 0) (.ptr (n0+1) 0) (.ptr (n0+2) 0) v210 H n):=by
  intro H2 n2 x2
  have hxn:=x2.nn
  rw[Ae,AQ]
  refine AB (AMH x2) ?_
  refine Au rfl λH3 f3 g3=>?_
  refine Bq (L:=[ty.nm.v,.bool ty.arr]) g3 rfl rfl (by omega) λH4 g4 s4=>?_
  have f24:Kp H2 n2 H4 (n2+1):=⟨f3.le,λid hid=>(s4 id (by omega)).trans (f3.same id hid)⟩
  have x4:=x2.kp f24
  rw[Ae,AQ]
  refine AB (AQF x4) ?_
  rw[CY,AQ]
  cases hd:decide (kind=20)with
  |true=>
   rw[hd]at hk
   refine tT ?_
   refine NJ λH5 n5 f5=>?_
   have hn5:=f5.le
   refine Bq (L:=BM.cells) (f5.get g4 (by omega)) rfl rfl (by omega) λH6 g6 s6=>?_
   have f26:Kp H2 n2 H6 n5:=⟨by omega,λid hid=>(s6 id (by omega)).trans ((f5.same id (by omega)).trans (f24.same id hid))⟩
   exact AVN (x2.kp f26) (t:=BM) (by omega) (by omega) g6 hC hkn hk
  |false=>
   rw[hd]at hk
   exact tF (AVN x4 (t:=ty) (by omega) (by omega) g4 hC hkn hk)
 have hcl:a.cls=isClass a.nm.1 a.nm.2 a.arr:=rfl
 cases hb:isClass a.nm.1 a.nm.2 a.arr with
 |true=>
  rw[Bool.not_true]
  repeat (first|with_reducible refine ACQ ?_|with_reducible refine rD ?_|with_reducible refine lZ ?_|with_reducible refine ARg ?_)
  exact tF (go x1)
 |false=>
  rw[hcl,hb,Bool.false_or]at hc
  rw[Bool.not_false]
  refine PV (x_w x1) (PV k0.ip (PV (k0.ld H1 x1.el).1 (ACa ?_)))
  refine Zl λH2 n2 f2=>?_
  have x2:=x1.kp f2
  refine ATu (x_w x2) x.sk.ok.2.2 (ATu (k0.ld H2 x2.el).1 (jk _) (PV (AOf a IE) (eP ?_)))
  rw[hc]
  show Aa (.bool false) true _ _
  exact tF (go x2)
end
theorem gU{e:Option V}{P:V->Prop}(h:P (.G5 [])):Ba (.G5 []) true e P:=h
theorem gTU{t:KV->Prop}{H:Heap}{n:Nat}{Q:KV}(h:Q (.G5 []) H n):Ik (.G5 []) true t H n Q:=h
theorem ATK(s:St)(l c:Nat):Dc (.one .str) false s.v (.str l c)=some (.bool (decide (s=(l,c)))):=by
 rw[show s.v=.str s.1 s.2 from rfl,ADc]
 congr 2
 rw[Bool.eq_iff_iff,decide_eq_true_eq,decide_eq_true_eq]
 exact⟨λh=>Prod.ext h.1 h.2,λh=>by subst h;exact⟨rfl,rfl⟩⟩
section
variable{G:AX}{R:Rk}{vv al:V}{Γ:List DJ}{H0 H:Heap}{n0 n:Nat}{w:V}{ts:List Ty}{k:KV}{kind num:Nat}{nm:St}{ty of t:Ty}{own:St}{line col:Nat}{v:V}{cs:Dy}
abbrev CL(n0:Nat):V:=.fn Bj [] [.ptr (n0+4) 0,.ptr n0 0]
theorem AVC(x:Ex G R vv Γ al H0 n0 (LM kind num nm ty of own line col v) w ts H n){b:Bool}(hln:ts.length<=100000)(hall:allT Cb ts=true)(hk:XL G R H0 n0 (bif b then BM else Cb) k):
 GV lfp G (Runs F G) k (.ptr (n0+1) 0) (.ptr (n0+2) 0) (CL n0) (.bool b) H n:=by
 delta GV
 cases b with
 |true=>
  refine tT ?_
  refine JL λH1 n1 f1=>NJ λH2 n2 f2=>?_
  exact((x.kp f1).kp f2).ATc hln hall hk
 |false=>
  refine tF ?_
  refine JL λH1 n1 f1=>JL λH2 n2 f2=>?_
  exact((x.kp f1).kp f2).ATc hln hall hk
theorem AV8(x:Ex G R vv Γ al H0 n0 (LM kind num nm ty of own line col v) w ts H n)(hln:ts.length<=100000)(hall:allT Cb ts=true)(hk:XL G R H0 n0 (bif decide (nm=xH)||decide (nm=AAC)then BM else Cb) k):
 EJ lfp G (Runs F G) k (.ptr n0 0) (.ptr (n0+1) 0) (.ptr (n0+2) 0) (.ptr (n0+4) 0) (CL n0) nm.v (.bool false) H n:=by
 delta EJ
 refine tF ?_
 refine AB (ATK ..) ?_
 cases h1:decide (nm=(1,60))with
 |true=>
  rw[show decide (nm=xH)=true from h1]at hk
  exact tT (AVC x hln hall hk)
 |false=>
  rw[show decide (nm=xH)=false from h1,Bool.false_or]at hk
  exact tF (AB (ATK ..) (AVC x hln hall hk))
theorem AR7(hG:jS G){a b:Ty}(x:Ex G R vv Γ al H0 n0 (LM kind num nm ty of own line col v) w [a,b] H n)(ha:a.nm.ok)(hb:b.nm.ok)(hab:(a.is b||(a.obj&&b.obj))=true)(hk:XL G R H0 n0 BM k){a11:V}:
 EJ lfp G (Runs F G) k (.ptr n0 0) (.ptr (n0+1) 0) (.ptr (n0+2) 0) (.ptr (n0+4) 0) a11 nm.v (.bool true) H n:=by
 delta EJ
 refine tT ?_
 obtain⟨p0,q0,k0⟩:=AGI hG x.el (i:=0) (t:=a) rfl
 obtain⟨p1,q1,k1⟩:=AGI hG x.el (i:=1) (t:=b) rfl
 refine AB (x_w x) (AB k0.ip (AB (k0.ld H x.el).1 (AB (x_w x) (AB k1.ip (AB (k1.ld H x.el).1 (AB (ZJ a b) ?_))))))
 rw[Ae,AQ]
 refine AB (AB1 x) ?_
 refine NJ λH1 n1 f1=>?_
 have x1:=x.kp f1
 refine AB (x_w x1) (Bd x.sk.ok.2.2 (AB (k0.ld H1 x1.el).1 (Bd (jk _) (AB (x_w x1) (Bd x.sk.ok.2.2 (AB (k1.ld H1 x1.el).1 (Bd (jk _) (AB (AB1 x1) (Bd (MH ..) ?_)))))))))
 cases h1:a.is b with
 |true=>
  repeat (first|with_reducible refine Y0 ?_|with_reducible refine AHt ?_|with_reducible refine eP ?_)
  refine AB (AB1 x1) (Bd (MH ..) (Y0 (gU (gU (gU (gTU ?_))))))
  refine AB (AB1 x1) (Bd (MH ..) (Y0 (eP ?_)))
  refine ZX λH2 n2 f2=>?_
  exact(x1.kp f2).fin hk
 |false=>
  rw[h1,Bool.false_or,Bool.and_eq_true]at hab
  refine XE (x_w x1) (XE k0.ip (XE (k0.ld H1 x1.el).1 (AHC ?_)))
  refine vK ha λH2 n2 f2=>?_
  have x2:=x1.kp f2
  refine AB (AB1 x2) (Bd (MH ..) (XE rfl ?_))
  rw[hab.1]
  refine PV (x_w x2) (PV k1.ip (PV (k1.ld H2 x2.el).1 (ACa ?_)))
  refine vK hb λH3 n3 f3=>?_
  have x3:=x2.kp f3
  rw[hab.2]
  refine AB (AB1 x3) (Bd (MH ..) (XE (a:=.bool true) rfl (lZ ?_)))
  refine ZX λH4 n4 f4=>?_
  exact(x3.kp f4).fin hk
theorem Aao(hG:jS G){a b:Ty}{ow:St}(x:Ex G R vv Γ al H0 n0 (LM 16 num nm ty of ow line col v) w [a,b] H n)(ha:a.nm.ok)(hb:b.nm.ok)
 (h:(bif decide (nm=oU)||decide (nm=oC)then TL (a.is b||(a.obj&&b.obj)) BM (0,0)else TL (a.is Cb&&b.is Cb) (bif decide (nm=xH)||decide (nm=AAC)then BM else Cb) (0,0))=some (t,own)) (hk:XL G R H0 n0 t k):APJ G R n0 16 false k H n:=by
 delta APJ EH
 refine tF (dS (tT ?_))
 rw[Ae,AQ]
 refine AB (AaE x) (AB (ATK ..) ?_)
 cases h1:decide (nm=(2,15677))with
 |true=>
  rw[show decide (nm=oU)=true from h1]at h
  obtain⟨e1,e2⟩:=Eb (show TL (a.is b||(a.obj&&b.obj)) BM (0,0)=some (t,own)from h)
  cases e2
  exact tT (AR7 hG x ha hb e1 hk)
 |false=>
  rw[show decide (nm=oU)=false from h1,Bool.false_or]at h
  refine tF (AB (ATK ..) ?_)
  cases h2:decide (nm=(2,15649))with
  |true=>
   rw[show decide (nm=oC)=true from h2]at h
   obtain⟨e1,e2⟩:=Eb (show TL (a.is b||(a.obj&&b.obj)) BM (0,0)=some (t,own)from h)
   cases e2
   exact AR7 hG x ha hb e1 hk
  |false=>
   rw[show decide (nm=oC)=false from h2]at h
   obtain⟨e1,e2⟩:=Eb (show TL (a.is Cb&&b.is Cb) (bif decide (nm=xH)||decide (nm=AAC)then BM else Cb) (0,0)=some (t,own)from h)
   cases e2
   rw[Bool.and_eq_true]at e1
   exact AV8 x (by show 2<=100000;omega) (by show(a.is Cb&&(b.is Cb&&true))=true;rw[e1.1,e1.2];rfl) hk
theorem AEt(h15:kind≠15)(h17:kind≠17)(h18:kind≠18)(hkd:15<=kind∨7<=kind/\kind<=9)(h:APJ G R n0 kind (decide (kind=19∨kind=20)) k H n):J23 G R n0 kind k H n:=by
 refine ANi hkd (P:=True) (Jo h15 (tF (Jo h17 (tF (Jo h18 ?_)))))
 delta CX
 refine tF ?_
 by_cases h19:kind=19
 ·subst h19;exact dS (tT h)
 ·refine Jo h19 (tF ?_)
  by_cases h20:kind=20
  ·subst h20;exact dS h
  ·rw[decide_eq_false (by omega)]at h;exact Jo h20 h
end
end Go.RL
