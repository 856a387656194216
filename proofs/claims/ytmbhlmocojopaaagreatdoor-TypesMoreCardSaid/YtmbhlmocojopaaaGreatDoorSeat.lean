/- Part of a proof; nothing is assumed. -/
import Derived.Test.YtmbhlmocojopaaaGreatDoorLawA
import Derived.Test.YtmbhlmocojopaaaGreatDoorCode
import Derived.Test.YtmbhlmocojopaaaGreatDoorWalk
import Derived.Test.YtmbhlmocojopaaaGreatDoorRows
import Derived.LaidMore
import Derived.SevenTiedAt
set_option linter.unusedVariables false
set_option linter.unusedSimpArgs false
namespace Go.Proofs.YtmbhlmocojopaaaGreatDoor
open Go Go.DW Go.ChangeShapes Go.WideShapes Go.RowKit
set_option maxRecDepth 100000
theorem AaA:ownKnob Tryz.prog.godebug=none:=by kernel_rfl
theorem AVi:Tryz.prog.globalNamed "kiln/lex.marks" =some 2:=by kernel_rfl
theorem AUd:(Tryz.prog.globals[2]?).map (·.type)=some 327:=by kernel_rfl
theorem laidOut:laidOutB Tryz.prog=true:=by kernel_rfl
theorem AKt:AEr Tryz.prog 5 327=true:=by kernel_rfl
theorem ANj:qF 5 (Rows.laid_kiln_lex_marks (H:=Unit))=some Go.RL.ACN:=by kernel_rfl
abbrev AQE:List (String×DataW Unit):=[("kiln/lex.marks",Rows.laid_kiln_lex_marks)]
theorem of_laid{W:World}(h:laidMetH Tryz.prog AQE W):Go.RL.AAg (MZ W):=by
 rw[MakeChecks.laidMetH_plain _ _ _ (by kernel_rfl)]at h
 obtain⟨ps,⟨g0,t0,cs0,f0,p0,q0,hg0,ht0,hv0,hd0,_,_⟩,_,_⟩:=h
 obtain rfl:=Option.some.inj (AVi.symm.trans hg0)
 obtain rfl:=Option.some.inj (AUd.symm.trans ht0)
 obtain⟨hr,h1⟩:=AAB f0 hd0 ANj AKt
 have hl:Go.RL.ACN.length=22:=rfl
 show MZ W 2 0 22=_
 rw[AKm (tab:=Go.RL.ACN) (λi=>by have:=World.var?_cell hg0 hv0 i;simpa using this) hr h1 (by rfl) (by omega)]
 rfl
theorem door_met(os:Os)(args:Array Value):laidMetH Tryz.prog AQE ((World.doorLaid Tryz.prog 400 os).forCall (λ_ _=>0) ⟨#[],args,[]⟩).memory:=
 laidMetH_of_parts3 (fuel:=8) (laidMet_of_run' 8 (by kernel_rfl) (by kernel_rfl)) (by kernel_rfl) (by kernel_rfl)
theorem AR2{t:TypeId}(h:t=22∨t=58):Tryz.prog.wantsStandIn t=false:=by
 rcases h with h|h<;>subst h<;>kernel_rfl
theorem AG4:∀{LS:DZ},(∀L∈LS,∃a:Int,L=[V.int .i64 a 0])->∃xs:List Int,LS=Go.RL.ints xs
 |[],_=>⟨[],rfl⟩
 |L::LS,h=>by
  obtain⟨a,rfl⟩:=h L (List.mem_cons_self ..)
  obtain⟨xs,rfl⟩:=AG4 λM hM=>h M (List.mem_cons_of_mem _ hM)
  exact⟨a::xs,rfl⟩
theorem ASy{P:Program}{w:World}{r:Reach}{base:Nat}{t e:TypeId}{v:Value}(ht:P.underlying t=some (.slice e))(h:Value.okWide P w r base t v):
 v.cells.toList=[v]:=by
 unfold Value.okWide at h
 rw[ht]at h
 have h1:Cell.okWide P w r base t v:=h
 unfold Cell.okWide at h1
 rw[ht]at h1
 have h2:Cell.ok P w r base t v:=by
  cases v<;>exact h1
 unfold Cell.ok at h2
 rw[ht]at h2
 cases v with
 |slice a l c=>rfl
 |_=>exact(show False from h2).elim
theorem ANt:vZ Tryz.prog 12 22=some (.sl 1 (.int .i64)):=by kernel_rfl
theorem ARv{H:Type}{enc:TypeId×Value->H}{W:World}{r:Reach}{b0:Nat}{v0:Value}{d0:DataW H}{p:List MemPlace}(k0:Value.okWide Tryz.prog W r b0 22 v0)(h0:DataW.Trod enc Tryz.prog W 0 (λ_=>true) true 22 v0 d0 p):
 ∃xs:List Int,(∀H,El (MZ W) H (rG v0) 1 (Go.RL.ints xs))/\(rG v0=.Ad∨∃b o l c z,rG v0=.rsl b o l c z):=by
 obtain⟨fuel,hf⟩:=h0
 rw[ASy Tryz.underlying22 k0]at hf
 obtain⟨v,LS,e,hr,hel,hle,hall⟩:=(ACo fuel hf ANt).1
 have e:rG v0=v:=by injection e
 subst e
 obtain⟨xs,rfl⟩:=AG4 λL hL=>(hall L hL).2
 refine⟨xs,hel,?_⟩
 rcases hr with⟨h,_⟩|⟨b,o,c,h,_⟩
 ·exact .inl h
 ·exact .inr ⟨_,_,_,_,_,h⟩
abbrev ARr:List TypeId:=[2,3,4,9,31,55,56,58,61,62,64,92,108,109,111,112,114]
theorem AXG:∀t∈ARr,ASP Tryz.prog ARr t=true:=λt ht=>
 List.all_eq_true.1 (show List.all ARr (λt=>ASP Tryz.prog ARr t)=true by kernel_rfl) t ht
section
variable{P:Program}{G:AX}{d t:Nat}{L:LV}
theorem AAk{k:IntKind}(hu:P.underlying t=some (.int k))(h:U9 P G d t L):∃n,L=[.int k n 0]:=by
 cases d with
 |zero=>exact h.elim
 |succ d=>unfold U9 at h;rw[hu]at h;exact h
theorem AIl(hu:P.underlying t=some .bool)(h:U9 P G d t L):∃b,L=[.bool b]:=by
 cases d with
 |zero=>exact h.elim
 |succ d=>unfold U9 at h;rw[hu]at h;exact h
theorem fV(hu:P.underlying t=some .string)(h:U9 P G d t L):∃s:Go.RL.St,s.ok/\s.1<=reachBytes/\L=[s.v]:=by
 cases d with
 |zero=>exact h.elim
 |succ d=>
  unfold U9 at h;rw[hu]at h
  obtain⟨s,h1,rfl⟩:=h
  refine⟨(s.length,enc s),λh=>?_,h1,rfl⟩
  cases s with
  |nil=>rfl
  |cons a l=>cases h
theorem vw{e:TypeId}{z:Nat}(hu:P.underlying t=some (.slice e))(hz:P.cellsOf e=z)(h:U9 P G d t L):∃d' v LS,d=d'+1/\L=[v]/\Go.RL.XW v/\(∀H,El G H v z LS)/\LS.length<9223372036854775808/\∀L∈LS,U9 P G d' e L:=by
 cases d with
 |zero=>exact h.elim
 |succ d=>
  unfold U9 at h;rw[hu]at h
  obtain⟨v,LS,h1,h2,h3,h4,h5⟩:=h
  subst hz
  refine⟨d,v,LS,rfl,h1,?_,h3,by unfold maxLen at h4;omega,λL hL=>(h5 L hL).2⟩
  rcases h2 with⟨rfl,_⟩|⟨b,o,c,rfl,hc,_⟩
  ·exact⟨Go.RL.ADm,rfl,rfl,rfl⟩
  ·exact⟨⟨by simp[Me,AJ0,Bg],λ_ _ _ _ _ h=>(by cases h),λ_ _ _ _ _ h=>(by cases h;exact hc)⟩,rfl,rfl,rfl⟩
theorem y5{fs:Array Field}(hu:P.underlying t=some (.struct fs))(h:U9 P G d t L):∃d',d=d'+1/\AEH (U9 P G d') (fs.toList.map (·.type)) L:=by
 cases d with
 |zero=>exact h.elim
 |succ d=>unfold U9 at h;rw[hu]at h;exact⟨d,rfl,h⟩
end
section
variable{G:AX}{d:Nat}{L:LV}
theorem ADq(h:U9 Tryz.prog G d 55 L):∃a b,L=[.int .i64 a 0,.int .i64 b 0]:=by
 obtain⟨d',rfl,h⟩:=y5 Tryz.underlying55 h
 have h:AEH (U9 Tryz.prog G d') [3,3] L:=h
 obtain⟨L0,R0,rfl,h0,L1,R1,rfl,h1,h2⟩:=h
 have h2:R1=[]:=h2
 subst h2
 obtain⟨a,rfl⟩:=AAk Tryz.underlying3 h0
 obtain⟨b,rfl⟩:=AAk Tryz.underlying3 h1
 exact⟨a,b,rfl⟩
theorem AEb(h:U9 Tryz.prog G d 61 L):∃t:Go.RL.Ty,t.nm.ok/\L=[t.nm.v,.bool t.arr]:=by
 obtain⟨d',rfl,h⟩:=y5 Tryz.underlying61 h
 have h:AEH (U9 Tryz.prog G d') [9,4] L:=h
 obtain⟨L0,R0,rfl,h0,L1,R1,rfl,h1,h2⟩:=h
 have h2:R1=[]:=h2
 subst h2
 obtain⟨a,ha,_,rfl⟩:=fV Tryz.underlying9 h0
 obtain⟨b,rfl⟩:=AIl Tryz.underlying4 h1
 exact⟨⟨a,b⟩,ha,rfl⟩
theorem AIk:Tryz.prog.cellsOf 111=11:=by kernel_rfl
theorem AFf:Tryz.prog.cellsOf 114=9:=by kernel_rfl
theorem ASc:Tryz.prog.cellsOf 64=8:=by kernel_rfl
theorem AMC:Tryz.prog.cellsOf 92=3:=by kernel_rfl
theorem APV{n:Nat}(h:n<=reachBytes):n<=Go.RL.bigS:=by unfold reachBytes at h;unfold Go.RL.bigS;omega
theorem AXy:∀(N d:Nat) (L:LV),d<=N->U9 Tryz.prog G d 111 L->Go.RL.XE G L:=by
 intro N
 induction N with
 |zero=>
  intro d L hd h
  obtain rfl:d=0:=by omega
  exact h.elim
 |succ N ih=>
  intro d L hd h
  obtain⟨d',rfl,h⟩:=y5 Tryz.underlying111 h
  have h:AEH (U9 Tryz.prog G d') [108,55,2,9,61,109,61,9] L:=h
  obtain⟨L0,R0,rfl,h0,L1,R1,rfl,h1,L2,R2,rfl,h2,L3,R3,rfl,h3,L4,R4,rfl,h4,L5,R5,rfl,h5,L6,R6,rfl,h6,L7,R7,rfl,h7,h8⟩:=h
  have h8:R7=[]:=h8
  subst h8
  obtain⟨kd,rfl⟩:=AAk Tryz.underlying108 h0
  obtain⟨l,c,rfl⟩:=ADq h1
  obtain⟨nu,rfl⟩:=AAk Tryz.underlying2 h2
  obtain⟨nm,_,_,rfl⟩:=fV Tryz.underlying9 h3
  obtain⟨ty,_,rfl⟩:=AEb h4
  obtain⟨d2,v,LS,rfl,rfl,_,hel,hl,hk⟩:=vw Tryz.underlying109 AIk h5
  obtain⟨t2,_,rfl⟩:=AEb h6
  obtain⟨n3,_,_,rfl⟩:=fV Tryz.underlying9 h7
  exact .mk (nm:=nm) (ty:=ty.nm) (ar:=ty.arr) (t2:=t2.nm) (a2:=t2.arr) (n3:=n3) hel hl λM hM=>ih d2 M (by omega) (hk M hM)
theorem AXw:∀(N d:Nat) (L:LV),d<=N->U9 Tryz.prog G d 114 L->Go.RL.XS G L:=by
 intro N
 induction N with
 |zero=>
  intro d L hd h
  obtain rfl:d=0:=by omega
  exact h.elim
 |succ N ih=>
  intro d L hd h
  obtain⟨d',rfl,h⟩:=y5 Tryz.underlying114 h
  have h:AEH (U9 Tryz.prog G d') [112,55,9,61,109,62,62] L:=h
  obtain⟨L0,R0,rfl,h0,L1,R1,rfl,h1,L2,R2,rfl,h2,L3,R3,rfl,h3,L4,R4,rfl,h4,L5,R5,rfl,h5,L6,R6,rfl,h6,h8⟩:=h
  have h8:R6=[]:=h8
  subst h8
  obtain⟨does,rfl⟩:=AAk Tryz.underlying112 h0
  obtain⟨l,c,rfl⟩:=ADq h1
  obtain⟨nm,_,_,rfl⟩:=fV Tryz.underlying9 h2
  obtain⟨ty,_,rfl⟩:=AEb h3
  obtain⟨d2,ve,es,rfl,rfl,_,hel,hl,hk⟩:=vw Tryz.underlying109 AIk h4
  obtain⟨d3,vt,ts,e3,rfl,_,AAF,hl3,hk3⟩:=vw Tryz.underlying62 AFf h5
  obtain⟨d4,vl,ls,e4,rfl,_,hel4,hl4,hk4⟩:=vw Tryz.underlying62 AFf h6
  exact .mk (nm:=nm) (ty:=ty.nm) (ar:=ty.arr) hel hl (λM hM=>AXy _ _ M (Nat.le_refl _) (hk M hM)) AAF hl3 (λM hM=>ih d3 M (by omega) (hk3 M hM)) hel4 hl4 λM hM=>ih d4 M (by omega) (hk4 M hM)
theorem ATb(h:U9 Tryz.prog G d 92 L):∃f,Go.RL.XV L f:=by
 obtain⟨d',rfl,h⟩:=y5 Tryz.underlying92 h
 have h:AEH (U9 Tryz.prog G d') [9,61] L:=h
 obtain⟨L0,R0,rfl,h0,L1,R1,rfl,h1,h2⟩:=h
 have h2:R1=[]:=h2
 subst h2
 obtain⟨nm,hn,_,rfl⟩:=fV Tryz.underlying9 h0
 obtain⟨ty,ht,rfl⟩:=AEb h1
 exact⟨⟨nm,ty⟩,.mk (f:=⟨nm,ty⟩) hn ht⟩
theorem ALi:∀{LS:DZ},(∀L∈LS,∃f,Go.RL.XV L f)->∃fs,Go.RL.XVs LS fs
 |[],_=>⟨[],.nil⟩
 |L::LS,h=>by
  obtain⟨f,hf⟩:=h L (List.mem_cons_self ..)
  obtain⟨fs,hfs⟩:=ALi λM hM=>h M (List.mem_cons_of_mem _ hM)
  exact⟨f::fs,.cons hf hfs⟩
theorem AXa(h:U9 Tryz.prog G d 64 L):∃m,Go.RL.XM G L m:=by
 obtain⟨d',rfl,h⟩:=y5 Tryz.underlying64 h
 have h:AEH (U9 Tryz.prog G d') [55,9,4,31,61,62] L:=h
 obtain⟨L0,R0,rfl,h0,L1,R1,rfl,h1,L2,R2,rfl,h2,L3,R3,rfl,h3,L4,R4,rfl,h4,L5,R5,rfl,h5,h8⟩:=h
 have h8:R5=[]:=h8
 subst h8
 obtain⟨l,c,rfl⟩:=ADq h0
 obtain⟨nm,hn,hb,rfl⟩:=fV Tryz.underlying9 h1
 obtain⟨st,rfl⟩:=AIl Tryz.underlying4 h2
 obtain⟨d2,vp,ps,rfl,rfl,kp,hel,hl,hk⟩:=vw Tryz.underlying31 AMC h3
 obtain⟨ty,ht,rfl⟩:=AEb h4
 obtain⟨d3,vb,bs,e3,rfl,kb,AAF,hl3,hk3⟩:=vw Tryz.underlying62 AFf h5
 obtain⟨pf,hpf⟩:=ALi λM hM=>ATb (hk M hM)
 exact⟨⟨nm,st,pf,ty,[]⟩,.mk (nm:=nm) (ty:=ty) hn ht (APV hb) hel hl hpf kp AAF hl3 λM hM=>AXw _ _ M (Nat.le_refl _) (hk3 M hM)⟩
theorem APC:∀{LS:DZ},(∀L∈LS,∃m,Go.RL.XM G L m)->∃ms,Go.RL.XMs G LS ms
 |[],_=>⟨[],.nil⟩
 |L::LS,h=>by
  obtain⟨f,hf⟩:=h L (List.mem_cons_self ..)
  obtain⟨fs,hfs⟩:=APC λM hM=>h M (List.mem_cons_of_mem _ hM)
  exact⟨f::fs,.cons hf hfs⟩
theorem AYX(h:U9 Tryz.prog G d 58 L):∃c,Go.RL.XC G L c:=by
 obtain⟨d',rfl,h⟩:=y5 Tryz.underlying58 h
 have h:AEH (U9 Tryz.prog G d') [55,9,9,31,56] L:=h
 obtain⟨L0,R0,rfl,h0,L1,R1,rfl,h1,L2,R2,rfl,h2,L3,R3,rfl,h3,L4,R4,rfl,h4,h8⟩:=h
 have h8:R4=[]:=h8
 subst h8
 obtain⟨l,c,rfl⟩:=ADq h0
 obtain⟨nm,hn,hb,rfl⟩:=fV Tryz.underlying9 h1
 obtain⟨sup,hs,hbs,rfl⟩:=fV Tryz.underlying9 h2
 obtain⟨d2,vf,fs,rfl,rfl,kf,hel,hl,hk⟩:=vw Tryz.underlying31 AMC h3
 obtain⟨d3,vm,ms,e3,rfl,km,AAF,hl3,hk3⟩:=vw Tryz.underlying56 ASc h4
 obtain⟨ff,hff⟩:=ALi λM hM=>ATb (hk M hM)
 obtain⟨mm,hmm⟩:=APC λM hM=>AXa (hk3 M hM)
 exact⟨⟨nm,sup,ff,mm⟩,.mk (nm:=nm) (sup:=sup) hn hs (APV hb) (by unfold reachBytes at hbs;omega) hel hl hff kf AAF hl3 hmm km⟩
end
end Go.Proofs.YtmbhlmocojopaaaGreatDoor
