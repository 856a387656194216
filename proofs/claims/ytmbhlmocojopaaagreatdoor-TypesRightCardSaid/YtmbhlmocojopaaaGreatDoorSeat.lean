/- Part of a proof; nothing is assumed. -/
import Derived.Test.YtmbhlmocojopaaaGreatDoorLawB
import Derived.Test.YtmbhlmocojopaaaGreatDoorCode
import Derived.Test.YtmbhlmocojopaaaGreatDoorRows
import Derived.LaidMore
import Derived.SevenTiedAt
set_option linter.unusedVariables false
set_option linter.unusedSimpArgs false
namespace Go.Proofs.YtmbhlmocojopaaaGreatDoor
open Go Go.DK Go.ChangeShapes Go.WideShapes Go.RowKit
set_option maxRecDepth 100000
theorem Abm:ownKnob Tryz.prog.godebug=none:=by kernel_rfl
theorem AXL:Tryz.prog.globalNamed "kiln/lex.marks" =some 2:=by kernel_rfl
theorem AXr:(Tryz.prog.globals[2]?).map (·.type)=some 327:=by kernel_rfl
theorem laidOut:laidOutB Tryz.prog=true:=by kernel_rfl
theorem AM3:AGL Tryz.prog 5 327=true:=by kernel_rfl
theorem AO9:qw 5 (Rows.laid_kiln_lex_marks (H:=Unit))=some Go.RL.ADN:=by kernel_rfl
abbrev ASj:List (String×DataW Unit):=[("kiln/lex.marks",Rows.laid_kiln_lex_marks)]
theorem of_laid{W:World}(h:laidMetH Tryz.prog ASj W):Go.RL.ABZ (Q9 W):=by
 rw[MakeChecks.laidMetH_plain _ _ _ (by kernel_rfl)]at h
 obtain⟨ps,⟨g0,t0,cs0,f0,p0,q0,hg0,ht0,hv0,hd0,_,_⟩,_,_⟩:=h
 obtain rfl:=Option.some.inj (AXL.symm.trans hg0)
 obtain rfl:=Option.some.inj (AXr.symm.trans ht0)
 obtain⟨hr,h1⟩:=AAW f0 hd0 AO9 AM3
 have hl:Go.RL.ADN.length=22:=rfl
 show Q9 W 2 0 22=_
 rw[AMV (tab:=Go.RL.ADN) (λi=>by have:=World.var?_cell hg0 hv0 i;simpa using this) hr h1 (by rfl) (by omega)]
 rfl
theorem door_met(os:Os)(args:Array Value):laidMetH Tryz.prog ASj ((World.doorLaid Tryz.prog 400 os).forCall (λ_ _=>0) ⟨#[],args,[]⟩).memory:=
 laidMetH_of_parts3 (fuel:=8) (laidMet_of_run' 8 (by kernel_rfl) (by kernel_rfl)) (by kernel_rfl) (by kernel_rfl)
theorem ATJ{t:TypeId}(h:t=22):Tryz.prog.wantsStandIn t=false:=by
 subst h;kernel_rfl
theorem AH6:∀{LS:Dy},(∀L∈LS,∃a:Int,L=[V.int .i64 a 0])->∃xs:List Int,LS=Go.RL.ints xs
 |[],_=>⟨[],rfl⟩
 |L::LS,h=>by
  obtain⟨a,rfl⟩:=h L (List.mem_cons_self ..)
  obtain⟨xs,rfl⟩:=AH6 λM hM=>h M (List.mem_cons_of_mem _ hM)
  exact⟨a::xs,rfl⟩
theorem ATb{P:Program}{w:World}{r:Reach}{base:Nat}{t e:TypeId}{v:Value}(ht:P.underlying t=some (.slice e))(h:Value.okWide P w r base t v):
 v.cells.toList=[v]:=by
 unfold Value.okWide at h
 rw[ht]at h
 have h1:Cell.okWide P w r base t v:=h
 unfold Cell.okWide at h1
 rw[ht]at h1
 have h2:Cell.ok P w r base t v:=by
  cases v<;>exact h1
 unfold Cell.ok at h2
 rw[ht]at h2
 cases v with
 |slice a l c=>rfl
 |_=>exact(show False from h2).elim
theorem APT:vk Tryz.prog 12 22=some (.sl 1 (.int .i64)):=by kernel_rfl
theorem ATE{H:Type}{enc:TypeId×Value->H}{W:World}{r:Reach}{b0:Nat}{v0:Value}{d0:DataW H}{p:List MemPlace}(k0:Value.okWide Tryz.prog W r b0 22 v0)(h0:DataW.Trod enc Tryz.prog W 0 (λ_=>true) true 22 v0 d0 p):
 ∃xs:List Int,(∀H,El (Q9 W) H (toV v0) 1 (Go.RL.ints xs))/\(toV v0=.Ag∨∃b o l c z,toV v0=.rsl b o l c z):=by
 obtain⟨fuel,hf⟩:=h0
 rw[ATb Tryz.underlying22 k0]at hf
 obtain⟨v,LS,e,hr,hel,hle,hall⟩:=(AC5 fuel hf APT).1
 have e:toV v0=v:=by injection e
 subst e
 obtain⟨xs,rfl⟩:=AH6 λL hL=>(hall L hL).2
 refine⟨xs,hel,?_⟩
 rcases hr with⟨h,_⟩|⟨b,o,c,h,_⟩
 ·exact .inl h
 ·exact .inr ⟨_,_,_,_,_,h⟩
end Go.Proofs.YtmbhlmocojopaaaGreatDoor
