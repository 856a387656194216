/- Part of a proof: texts RVSeat of the engine and what is proved with it; nothing is assumed. -/
import Derived.Test.YtdplchkljbfjdaaGreatDoorCode
import Derived.Test.YtdplchkljbfjdaaGreatDoorRows
import Derived.LaidMore
import Derived.SevenTiedAt
set_option linter.unusedVariables false
set_option linter.unusedSimpArgs false
namespace Go.Proofs.YtdplchkljbfjdaaGreatDoor
open Go Go.Eng Go.ChangeShapes Go.WideShapes Go.RowKit
set_option maxRecDepth 100000
theorem ownK : ownKnob Tryz.prog.godebug = none := by kernel_rfl
theorem gMarks : Tryz.prog.globalNamed "kiln/lex.marks" = some 1 := by kernel_rfl
theorem tMarks : (Tryz.prog.globals[1]?).map (·.type) = some 280 := by kernel_rfl
theorem gShapes : Tryz.prog.globalNamed "kiln/op.shapes" = some 0 := by kernel_rfl
theorem tShapes : (Tryz.prog.globals[0]?).map (·.type) = some 274 := by kernel_rfl
theorem laidOut : laidOutB Tryz.prog = true := by kernel_rfl
theorem tightMarks : tightT Tryz.prog 5 280 = true := by kernel_rfl
theorem flatMarks : flatF 5 (Rows.laid_kiln_lex_marks (H := Unit)) = some Go.R5.tabM := by kernel_rfl
theorem tightShapes : tightT Tryz.prog 5 274 = true := by kernel_rfl
theorem flatShapes : flatF 5 (Rows.laid_kiln_op_shapes (H := Unit)) = some Go.R5.tabS := by kernel_rfl
abbrev laidL : List (String × DataW Unit) := [("kiln/op.shapes", Rows.laid_kiln_op_shapes), ("kiln/lex.marks", Rows.laid_kiln_lex_marks)]
/- what the condition gives: the tables -/
theorem of_laid {W : World} (h : laidMetH Tryz.prog laidL W) : GRel W Go.R5.G0 := by
  rw [MakeChecks.laidMetH_plain _ _ _ (by kernel_rfl)] at h
  obtain ⟨ps, ⟨g0, t0, cs0, f0, p0, q0, hg0, ht0, hv0, hd0, ⟨g1, t1, cs1, f1, p1, q1, hg1, ht1, hv1, hd1, _, _⟩, _⟩, _, _⟩ := h
  obtain rfl := Option.some.inj (gShapes.symm.trans hg0)
  obtain rfl := Option.some.inj (tShapes.symm.trans ht0)
  obtain rfl := Option.some.inj (gMarks.symm.trans hg1)
  obtain rfl := Option.some.inj (tMarks.symm.trans ht1)
  obtain ⟨hr, h1⟩ := flat_sound f0 hd0 flatShapes tightShapes
  obtain ⟨hr', h1'⟩ := flat_sound f1 hd1 flatMarks tightMarks
  refine Go.R5.romOr_rel ?_ ?_
  · have e : tabK 1 22 Go.R5.tabM = tabG 1 Go.R5.tabM := tabK_eq
    rw [e]
    exact tabG_rel (fun i => by have := World.var?_cell hg1 hv1 i; simpa using this) hr' h1'
  · have e : tabK 0 66 Go.R5.tabS = tabG 0 Go.R5.tabS := tabK_eq
    rw [e]
    exact tabG_rel (fun i => by have := World.var?_cell hg0 hv0 i; simpa using this) hr h1
theorem door_met (os : Os) (args : Array Value) : laidMetH Tryz.prog laidL ((World.doorLaid Tryz.prog 400 os).forCall (fun _ _ => 0) ⟨#[], args, []⟩).memory :=
  laidMetH_of_parts3 (fuel := 8) (laidMet_of_run' 8 (by kernel_rfl) (by kernel_rfl)) (by kernel_rfl) (by kernel_rfl)
theorem noStand {t : TypeId} (h : t = 2 ∨ t = 3 ∨ t = 4 ∨ t = 9 ∨ t = 51) : Tryz.prog.wantsStandIn t = false := by
  rcases h with h | h | h | h | h <;> subst h <;> kernel_rfl
end Go.Proofs.YtdplchkljbfjdaaGreatDoor

