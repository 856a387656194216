/- Part of a proof: texts RBSeat of the engine and what is proved with it; nothing is assumed. -/
import Derived.Test.YtmbhlmocojopaaaGreatDoorCode
import Derived.Test.YtmbhlmocojopaaaGreatDoorRows
import Derived.LaidMore
import Derived.SevenTiedAt
set_option linter.unusedVariables false
set_option linter.unusedSimpArgs false
namespace Go.Proofs.YtmbhlmocojopaaaGreatDoor
open Go Go.Eng Go.ChangeShapes Go.WideShapes Go.RowKit
set_option maxRecDepth 100000
theorem ownK : ownKnob Tryz.prog.godebug = none := by kernel_rfl
theorem gMarks : Tryz.prog.globalNamed "kiln/lex.marks" = some 2 := by kernel_rfl
theorem tMarks : (Tryz.prog.globals[2]?).map (·.type) = some 327 := by kernel_rfl
theorem laidOut : laidOutB Tryz.prog = true := by kernel_rfl
theorem tightMarks : tightT Tryz.prog 5 327 = true := by kernel_rfl
theorem flatMarks : flatF 5 (Rows.laid_kiln_lex_marks (H := Unit)) = some Go.R3.tab := by kernel_rfl
abbrev laidL : List (String × DataW Unit) := [("kiln/lex.marks", Rows.laid_kiln_lex_marks)]
/- what the condition gives: the table -/
theorem of_laid {W : World} (h : laidMetH Tryz.prog laidL W) : GRel W Go.R3.G0 := by
  rw [MakeChecks.laidMetH_plain _ _ _ (by kernel_rfl)] at h
  obtain ⟨ps, ⟨g0, t0, cs0, f0, p0, q0, hg0, ht0, hv0, hd0, _, _⟩, _, _⟩ := h
  obtain rfl := Option.some.inj (gMarks.symm.trans hg0)
  obtain rfl := Option.some.inj (tMarks.symm.trans ht0)
  obtain ⟨hr, h1⟩ := flat_sound f0 hd0 flatMarks tightMarks
  have e : Go.R3.G0 = tabG 2 Go.R3.tab := tabK_eq
  rw [e]
  exact tabG_rel (fun i => by have := World.var?_cell hg0 hv0 i; simpa using this) hr h1
theorem door_met (os : Os) (args : Array Value) : laidMetH Tryz.prog laidL ((World.doorLaid Tryz.prog 400 os).forCall (fun _ _ => 0) ⟨#[], args, []⟩).memory :=
  laidMetH_of_parts3 (fuel := 8) (laidMet_of_run' 8 (by kernel_rfl) (by kernel_rfl)) (by kernel_rfl) (by kernel_rfl)
theorem noStand {t : TypeId} (h : t = 2 ∨ t = 3 ∨ t = 4 ∨ t = 9) : Tryz.prog.wantsStandIn t = false := by
  rcases h with h | h | h | h <;> subst h <;> kernel_rfl
end Go.Proofs.YtmbhlmocojopaaaGreatDoor

