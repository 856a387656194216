/- Part of a proof; nothing is assumed. -/
import Derived.Test.YtbcanmhagkiccaaGreatDoorCode
import Derived.Test.YtbcanmhagkiccaaGreatDoorRows
import Derived.LaidMore
import Derived.SevenTiedAt
set_option linter.unusedVariables false
set_option linter.unusedSimpArgs false
namespace Go.Proofs.YtbcanmhagkiccaaGreatDoor
open Go Go.Eng Go.ChangeShapes Go.WideShapes Go.RowKit
set_option maxRecDepth 100000
theorem Afv:ownKnob Tryz.prog.godebug=none:=by kernel_rfl
theorem AYF:Tryz.prog.globalNamed "kiln/lex.marks" =some 0:=by kernel_rfl
theorem AZ0:(Tryz.prog.globals[0]?).map (·.type)=some 217:=by kernel_rfl
theorem ALv:Tryz.prog.globalNamed "kiln/op.shapes" =some 2:=by kernel_rfl
theorem AHF:(Tryz.prog.globals[2]?).map (·.type)=some 274:=by kernel_rfl
theorem laidOut:laidOutB Tryz.prog=true:=by kernel_rfl
theorem ku:L9 Tryz.prog 5 217=true:=by kernel_rfl
theorem rM:G7 5 (Rows.laid_kiln_lex_marks (H:=Unit))=some Go.R5.AHT:=by kernel_rfl
theorem iC:L9 Tryz.prog 5 274=true:=by kernel_rfl
theorem jW:G7 5 (Rows.laid_kiln_op_shapes (H:=Unit))=some Go.R5.AJJ:=by kernel_rfl
abbrev AGQ:List (String×DataW Unit):=[("kiln/op.shapes",Rows.laid_kiln_op_shapes),("kiln/lex.marks",Rows.laid_kiln_lex_marks)]
theorem of_laid{W:World}(h:laidMetH Tryz.prog AGQ W):D7 W Go.R5.G0:=by
 rw[MakeChecks.laidMetH_plain _ _ _ (by kernel_rfl)]at h
 obtain⟨ps,⟨g0,t0,cs0,f0,p0,q0,hg0,ht0,hv0,hd0,⟨g1,t1,cs1,f1,p1,q1,hg1,ht1,hv1,hd1,_,_⟩,_⟩,_,_⟩:=h
 obtain rfl:=Option.some.inj (ALv.symm.trans hg0)
 obtain rfl:=Option.some.inj (AHF.symm.trans ht0)
 obtain rfl:=Option.some.inj (AYF.symm.trans hg1)
 obtain rfl:=Option.some.inj (AZ0.symm.trans ht1)
 obtain⟨hr,h1⟩:=Ht f0 hd0 jW iC
 obtain⟨hr',h1'⟩:=Ht f1 hd1 rM ku
 refine Go.R5.tZ ?_ ?_
 ·have e:vC 0 22 Go.R5.AHT=wM 0 Go.R5.AHT:=oZ
  rw[e]
  exact dQ (λi=>by have:=World.var?_cell hg1 hv1 i;simpa using this) hr' h1'
 ·have e:vC 2 66 Go.R5.AJJ=wM 2 Go.R5.AJJ:=oZ
  rw[e]
  exact dQ (λi=>by have:=World.var?_cell hg0 hv0 i;simpa using this) hr h1
theorem door_met(os:Os)(args:Array Value):laidMetH Tryz.prog AGQ ((World.doorLaid Tryz.prog 400 os).forCall (λ_ _=>0) ⟨#[],args,[]⟩).memory:=
 laidMetH_of_parts3 (fuel:=8) (laidMet_of_run' 8 (by kernel_rfl) (by kernel_rfl)) (by kernel_rfl) (by kernel_rfl)
theorem AIR{t:TypeId}(h:t=2∨t=3):Tryz.prog.wantsStandIn t=false:=by
 rcases h with h|h<;>subst h<;>kernel_rfl
end Go.Proofs.YtbcanmhagkiccaaGreatDoor
