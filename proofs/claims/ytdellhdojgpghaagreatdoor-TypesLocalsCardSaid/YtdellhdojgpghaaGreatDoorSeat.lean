/- Part of a proof; nothing is assumed. -/
import Derived.Test.YtdellhdojgpghaaGreatDoorLawB
import Derived.Test.YtdellhdojgpghaaGreatDoorCode
import Derived.Test.YtdellhdojgpghaaGreatDoorRows
import Derived.LaidMore
import Derived.SevenTiedAt
set_option linter.unusedVariables false
set_option linter.unusedSimpArgs false
namespace Go.Proofs.YtdellhdojgpghaaGreatDoor
open Go Go.Bj Go.ChangeShapes Go.WideShapes Go.RowKit
set_option maxRecDepth 100000
theorem Ac8:ownKnob Tryz.prog.godebug=none:=by kernel_rfl
theorem AYm:Tryz.prog.globalNamed "kiln/lex.marks" =some 0:=by kernel_rfl
theorem AZQ:(Tryz.prog.globals[0]?).map (·.type)=some 142:=by kernel_rfl
theorem laidOut:laidOutB Tryz.prog=true:=by kernel_rfl
theorem ANc:AFl Tryz.prog 5 142=true:=by kernel_rfl
theorem APq:lU 5 (Rows.laid_kiln_lex_marks (H:=Unit))=some (Go.PQ.Eu.map sB):=by kernel_rfl
abbrev ATj:List (String×DataW Unit):=[("kiln/lex.marks",Rows.laid_kiln_lex_marks)]
theorem of_laid{W:World}(h:laidMetH Tryz.prog ATj W):Go.PQ.Ur (X9 W):=by
 rw[MakeChecks.laidMetH_plain _ _ _ (by kernel_rfl)]at h
 obtain⟨ps,⟨g0,t0,cs0,f0,p0,q0,hg0,ht0,hv0,hd0,_,_⟩,_,_⟩:=h
 obtain rfl:=Option.some.inj (AYm.symm.trans hg0)
 obtain rfl:=Option.some.inj (AZQ.symm.trans ht0)
 obtain⟨hr,h1⟩:=zS f0 hd0 APq ANc
 have hl:(Go.PQ.Eu.map sB).length=22:=rfl
 show X9 W 0 0 22=_
 rw[AMz (tab:=(Go.PQ.Eu.map sB)) (λi=>by have:=World.var?_cell hg0 hv0 i;simpa using this) hr h1 (by rfl) (by omega)]
 rfl
theorem door_met(os:Os)(args:Array Value):laidMetH Tryz.prog ATj ((World.doorLaid Tryz.prog 400 os).forCall (λ_ _=>0) ⟨#[],args,[]⟩).memory:=
 laidMetH_of_parts3 (fuel:=8) (laidMet_of_run' 8 (by kernel_rfl) (by kernel_rfl)) (by kernel_rfl) (by kernel_rfl)
theorem AUP{t:TypeId}(h:t=3):Tryz.prog.wantsStandIn t=false:=by
 subst h;kernel_rfl
end Go.Proofs.YtdellhdojgpghaaGreatDoor
