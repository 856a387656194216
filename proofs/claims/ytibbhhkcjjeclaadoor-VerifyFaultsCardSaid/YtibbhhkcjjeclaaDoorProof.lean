/- PROVED: the Go function VerifyFaults (two whole numbers in, one bool out) returns true for every two numbers, and leaves its arguments as they were: the tied card VerifyFaultsCardSaid. CONDITIONS: none beyond the card's own (the listed package variable holds what the program's text lays; the card ties it). The way: the code is turned into abstract code, checked by the kernel to be what the program has (texts Code, Tran), an abstract run is proved to stand for the run of the model (texts EngA to EngE), and the 128 cases are run by the kernel. -/
import Derived.Test.YtibbhhkcjjeclaaDoorCaseA
import Derived.Test.YtibbhhkcjjeclaaDoorCaseB
import Derived.Test.YtibbhhkcjjeclaaDoorCaseC
import Derived.Test.YtibbhhkcjjeclaaDoorCaseD
import Derived.Test.YtibbhhkcjjeclaaDoorCaseE
import Derived.Test.YtibbhhkcjjeclaaDoorCaseF
import Derived.Test.YtibbhhkcjjeclaaDoorTran
import Derived.Test.YtibbhhkcjjeclaaDoorRows
import Derived.LaidMore
import Derived.SevenTiedAt
import Derived.Test.YtibbhhkcjjeclaaDoorTie
import Derived.Test.YtibbhhkcjjeclaaDoorCards
set_option linter.unusedVariables false
set_option linter.unusedSimpArgs false
namespace Go.A1.A1Flt
open Go.Eng
set_option maxRecDepth 100000
attribute [local irreducible] Case
theorem below8 (p : Nat → Prop) (h0 : p 0) (h1 : p 1) (h2 : p 2) (h3 : p 3) (h4 : p 4) (h5 : p 5) (h6 : p 6) (h7 : p 7) (x : Nat) (hx : x < 8) : p x := by
  have : x = 0 ∨ x = 1 ∨ x = 2 ∨ x = 3 ∨ x = 4 ∨ x = 5 ∨ x = 6 ∨ x = 7 := by omega
  rcases this with rfl | rfl | rfl | rfl | rfl | rfl | rfl | rfl <;> assumption
theorem below16 (p : Nat → Prop) (h0 : p 0) (h1 : p 1) (h2 : p 2) (h3 : p 3) (h4 : p 4) (h5 : p 5) (h6 : p 6) (h7 : p 7) (h8 : p 8) (h9 : p 9) (h10 : p 10) (h11 : p 11) (h12 : p 12) (h13 : p 13) (h14 : p 14) (h15 : p 15) (x : Nat) (hx : x < 16) : p x := by
  have : x = 0 ∨ x = 1 ∨ x = 2 ∨ x = 3 ∨ x = 4 ∨ x = 5 ∨ x = 6 ∨ x = 7 ∨ x = 8 ∨ x = 9 ∨ x = 10 ∨ x = 11 ∨ x = 12 ∨ x = 13 ∨ x = 14 ∨ x = 15 := by omega
  rcases this with rfl | rfl | rfl | rfl | rfl | rfl | rfl | rfl | rfl | rfl | rfl | rfl | rfl | rfl | rfl | rfl <;> assumption
theorem row_0 (x1 : Nat) (hx1 : x1 < 8) : Case 0 x1 := below8 (fun x1 => Case 0 x1) (by unfold Case; exact fun a0 a1 => of_eq_true (case_0_0 a0 a1)) (by unfold Case; exact fun a0 a1 => of_eq_true (case_0_1 a0 a1)) (by unfold Case; exact fun a0 a1 => of_eq_true (case_0_2 a0 a1)) (by unfold Case; exact fun a0 a1 => of_eq_true (case_0_3 a0 a1)) (by unfold Case; exact fun a0 a1 => of_eq_true (case_0_4 a0 a1)) (by unfold Case; exact fun a0 a1 => of_eq_true (case_0_5 a0 a1)) (by unfold Case; exact fun a0 a1 => of_eq_true (case_0_6 a0 a1)) (by unfold Case; exact fun a0 a1 => of_eq_true (case_0_7 a0 a1)) x1 hx1
theorem row_1 (x1 : Nat) (hx1 : x1 < 8) : Case 1 x1 := below8 (fun x1 => Case 1 x1) (by unfold Case; exact fun a0 a1 => of_eq_true (case_1_0 a0 a1)) (by unfold Case; exact fun a0 a1 => of_eq_true (case_1_1 a0 a1)) (by unfold Case; exact fun a0 a1 => of_eq_true (case_1_2 a0 a1)) (by unfold Case; exact fun a0 a1 => of_eq_true (case_1_3 a0 a1)) (by unfold Case; exact fun a0 a1 => of_eq_true (case_1_4 a0 a1)) (by unfold Case; exact fun a0 a1 => of_eq_true (case_1_5 a0 a1)) (by unfold Case; exact fun a0 a1 => of_eq_true (case_1_6 a0 a1)) (by unfold Case; exact fun a0 a1 => of_eq_true (case_1_7 a0 a1)) x1 hx1
theorem row_2 (x1 : Nat) (hx1 : x1 < 8) : Case 2 x1 := below8 (fun x1 => Case 2 x1) (by unfold Case; exact fun a0 a1 => of_eq_true (case_2_0 a0 a1)) (by unfold Case; exact fun a0 a1 => of_eq_true (case_2_1 a0 a1)) (by unfold Case; exact fun a0 a1 => of_eq_true (case_2_2 a0 a1)) (by unfold Case; exact fun a0 a1 => of_eq_true (case_2_3 a0 a1)) (by unfold Case; exact fun a0 a1 => of_eq_true (case_2_4 a0 a1)) (by unfold Case; exact fun a0 a1 => of_eq_true (case_2_5 a0 a1)) (by unfold Case; exact fun a0 a1 => of_eq_true (case_2_6 a0 a1)) (by unfold Case; exact fun a0 a1 => of_eq_true (case_2_7 a0 a1)) x1 hx1
theorem row_3 (x1 : Nat) (hx1 : x1 < 8) : Case 3 x1 := below8 (fun x1 => Case 3 x1) (by unfold Case; exact fun a0 a1 => of_eq_true (case_3_0 a0 a1)) (by unfold Case; exact fun a0 a1 => of_eq_true (case_3_1 a0 a1)) (by unfold Case; exact fun a0 a1 => of_eq_true (case_3_2 a0 a1)) (by unfold Case; exact fun a0 a1 => of_eq_true (case_3_3 a0 a1)) (by unfold Case; exact fun a0 a1 => of_eq_true (case_3_4 a0 a1)) (by unfold Case; exact fun a0 a1 => of_eq_true (case_3_5 a0 a1)) (by unfold Case; exact fun a0 a1 => of_eq_true (case_3_6 a0 a1)) (by unfold Case; exact fun a0 a1 => of_eq_true (case_3_7 a0 a1)) x1 hx1
theorem row_4 (x1 : Nat) (hx1 : x1 < 8) : Case 4 x1 := below8 (fun x1 => Case 4 x1) (by unfold Case; exact fun a0 a1 => of_eq_true (case_4_0 a0 a1)) (by unfold Case; exact fun a0 a1 => of_eq_true (case_4_1 a0 a1)) (by unfold Case; exact fun a0 a1 => of_eq_true (case_4_2 a0 a1)) (by unfold Case; exact fun a0 a1 => of_eq_true (case_4_3 a0 a1)) (by unfold Case; exact fun a0 a1 => of_eq_true (case_4_4 a0 a1)) (by unfold Case; exact fun a0 a1 => of_eq_true (case_4_5 a0 a1)) (by unfold Case; exact fun a0 a1 => of_eq_true (case_4_6 a0 a1)) (by unfold Case; exact fun a0 a1 => of_eq_true (case_4_7 a0 a1)) x1 hx1
theorem row_5 (x1 : Nat) (hx1 : x1 < 8) : Case 5 x1 := below8 (fun x1 => Case 5 x1) (by unfold Case; exact fun a0 a1 => of_eq_true (case_5_0 a0 a1)) (by unfold Case; exact fun a0 a1 => of_eq_true (case_5_1 a0 a1)) (by unfold Case; exact fun a0 a1 => of_eq_true (case_5_2 a0 a1)) (by unfold Case; exact fun a0 a1 => of_eq_true (case_5_3 a0 a1)) (by unfold Case; exact fun a0 a1 => of_eq_true (case_5_4 a0 a1)) (by unfold Case; exact fun a0 a1 => of_eq_true (case_5_5 a0 a1)) (by unfold Case; exact fun a0 a1 => of_eq_true (case_5_6 a0 a1)) (by unfold Case; exact fun a0 a1 => of_eq_true (case_5_7 a0 a1)) x1 hx1
theorem row_6 (x1 : Nat) (hx1 : x1 < 8) : Case 6 x1 := below8 (fun x1 => Case 6 x1) (by unfold Case; exact fun a0 a1 => of_eq_true (case_6_0 a0 a1)) (by unfold Case; exact fun a0 a1 => of_eq_true (case_6_1 a0 a1)) (by unfold Case; exact fun a0 a1 => of_eq_true (case_6_2 a0 a1)) (by unfold Case; exact fun a0 a1 => of_eq_true (case_6_3 a0 a1)) (by unfold Case; exact fun a0 a1 => of_eq_true (case_6_4 a0 a1)) (by unfold Case; exact fun a0 a1 => of_eq_true (case_6_5 a0 a1)) (by unfold Case; exact fun a0 a1 => of_eq_true (case_6_6 a0 a1)) (by unfold Case; exact fun a0 a1 => of_eq_true (case_6_7 a0 a1)) x1 hx1
theorem row_7 (x1 : Nat) (hx1 : x1 < 8) : Case 7 x1 := below8 (fun x1 => Case 7 x1) (by unfold Case; exact fun a0 a1 => of_eq_true (case_7_0 a0 a1)) (by unfold Case; exact fun a0 a1 => of_eq_true (case_7_1 a0 a1)) (by unfold Case; exact fun a0 a1 => of_eq_true (case_7_2 a0 a1)) (by unfold Case; exact fun a0 a1 => of_eq_true (case_7_3 a0 a1)) (by unfold Case; exact fun a0 a1 => of_eq_true (case_7_4 a0 a1)) (by unfold Case; exact fun a0 a1 => of_eq_true (case_7_5 a0 a1)) (by unfold Case; exact fun a0 a1 => of_eq_true (case_7_6 a0 a1)) (by unfold Case; exact fun a0 a1 => of_eq_true (case_7_7 a0 a1)) x1 hx1
theorem row_8 (x1 : Nat) (hx1 : x1 < 8) : Case 8 x1 := below8 (fun x1 => Case 8 x1) (by unfold Case; exact fun a0 a1 => of_eq_true (case_8_0 a0 a1)) (by unfold Case; exact fun a0 a1 => of_eq_true (case_8_1 a0 a1)) (by unfold Case; exact fun a0 a1 => of_eq_true (case_8_2 a0 a1)) (by unfold Case; exact fun a0 a1 => of_eq_true (case_8_3 a0 a1)) (by unfold Case; exact fun a0 a1 => of_eq_true (case_8_4 a0 a1)) (by unfold Case; exact fun a0 a1 => of_eq_true (case_8_5 a0 a1)) (by unfold Case; exact fun a0 a1 => of_eq_true (case_8_6 a0 a1)) (by unfold Case; exact fun a0 a1 => of_eq_true (case_8_7 a0 a1)) x1 hx1
theorem row_9 (x1 : Nat) (hx1 : x1 < 8) : Case 9 x1 := below8 (fun x1 => Case 9 x1) (by unfold Case; exact fun a0 a1 => of_eq_true (case_9_0 a0 a1)) (by unfold Case; exact fun a0 a1 => of_eq_true (case_9_1 a0 a1)) (by unfold Case; exact fun a0 a1 => of_eq_true (case_9_2 a0 a1)) (by unfold Case; exact fun a0 a1 => of_eq_true (case_9_3 a0 a1)) (by unfold Case; exact fun a0 a1 => of_eq_true (case_9_4 a0 a1)) (by unfold Case; exact fun a0 a1 => of_eq_true (case_9_5 a0 a1)) (by unfold Case; exact fun a0 a1 => of_eq_true (case_9_6 a0 a1)) (by unfold Case; exact fun a0 a1 => of_eq_true (case_9_7 a0 a1)) x1 hx1
theorem row_10 (x1 : Nat) (hx1 : x1 < 8) : Case 10 x1 := below8 (fun x1 => Case 10 x1) (by unfold Case; exact fun a0 a1 => of_eq_true (case_10_0 a0 a1)) (by unfold Case; exact fun a0 a1 => of_eq_true (case_10_1 a0 a1)) (by unfold Case; exact fun a0 a1 => of_eq_true (case_10_2 a0 a1)) (by unfold Case; exact fun a0 a1 => of_eq_true (case_10_3 a0 a1)) (by unfold Case; exact fun a0 a1 => of_eq_true (case_10_4 a0 a1)) (by unfold Case; exact fun a0 a1 => of_eq_true (case_10_5 a0 a1)) (by unfold Case; exact fun a0 a1 => of_eq_true (case_10_6 a0 a1)) (by unfold Case; exact fun a0 a1 => of_eq_true (case_10_7 a0 a1)) x1 hx1
theorem row_11 (x1 : Nat) (hx1 : x1 < 8) : Case 11 x1 := below8 (fun x1 => Case 11 x1) (by unfold Case; exact fun a0 a1 => of_eq_true (case_11_0 a0 a1)) (by unfold Case; exact fun a0 a1 => of_eq_true (case_11_1 a0 a1)) (by unfold Case; exact fun a0 a1 => of_eq_true (case_11_2 a0 a1)) (by unfold Case; exact fun a0 a1 => of_eq_true (case_11_3 a0 a1)) (by unfold Case; exact fun a0 a1 => of_eq_true (case_11_4 a0 a1)) (by unfold Case; exact fun a0 a1 => of_eq_true (case_11_5 a0 a1)) (by unfold Case; exact fun a0 a1 => of_eq_true (case_11_6 a0 a1)) (by unfold Case; exact fun a0 a1 => of_eq_true (case_11_7 a0 a1)) x1 hx1
theorem row_12 (x1 : Nat) (hx1 : x1 < 8) : Case 12 x1 := below8 (fun x1 => Case 12 x1) (by unfold Case; exact fun a0 a1 => of_eq_true (case_12_0 a0 a1)) (by unfold Case; exact fun a0 a1 => of_eq_true (case_12_1 a0 a1)) (by unfold Case; exact fun a0 a1 => of_eq_true (case_12_2 a0 a1)) (by unfold Case; exact fun a0 a1 => of_eq_true (case_12_3 a0 a1)) (by unfold Case; exact fun a0 a1 => of_eq_true (case_12_4 a0 a1)) (by unfold Case; exact fun a0 a1 => of_eq_true (case_12_5 a0 a1)) (by unfold Case; exact fun a0 a1 => of_eq_true (case_12_6 a0 a1)) (by unfold Case; exact fun a0 a1 => of_eq_true (case_12_7 a0 a1)) x1 hx1
theorem row_13 (x1 : Nat) (hx1 : x1 < 8) : Case 13 x1 := below8 (fun x1 => Case 13 x1) (by unfold Case; exact fun a0 a1 => of_eq_true (case_13_0 a0 a1)) (by unfold Case; exact fun a0 a1 => of_eq_true (case_13_1 a0 a1)) (by unfold Case; exact fun a0 a1 => of_eq_true (case_13_2 a0 a1)) (by unfold Case; exact fun a0 a1 => of_eq_true (case_13_3 a0 a1)) (by unfold Case; exact fun a0 a1 => of_eq_true (case_13_4 a0 a1)) (by unfold Case; exact fun a0 a1 => of_eq_true (case_13_5 a0 a1)) (by unfold Case; exact fun a0 a1 => of_eq_true (case_13_6 a0 a1)) (by unfold Case; exact fun a0 a1 => of_eq_true (case_13_7 a0 a1)) x1 hx1
theorem row_14 (x1 : Nat) (hx1 : x1 < 8) : Case 14 x1 := below8 (fun x1 => Case 14 x1) (by unfold Case; exact fun a0 a1 => of_eq_true (case_14_0 a0 a1)) (by unfold Case; exact fun a0 a1 => of_eq_true (case_14_1 a0 a1)) (by unfold Case; exact fun a0 a1 => of_eq_true (case_14_2 a0 a1)) (by unfold Case; exact fun a0 a1 => of_eq_true (case_14_3 a0 a1)) (by unfold Case; exact fun a0 a1 => of_eq_true (case_14_4 a0 a1)) (by unfold Case; exact fun a0 a1 => of_eq_true (case_14_5 a0 a1)) (by unfold Case; exact fun a0 a1 => of_eq_true (case_14_6 a0 a1)) (by unfold Case; exact fun a0 a1 => of_eq_true (case_14_7 a0 a1)) x1 hx1
theorem row_15 (x1 : Nat) (hx1 : x1 < 8) : Case 15 x1 := below8 (fun x1 => Case 15 x1) (by unfold Case; exact fun a0 a1 => of_eq_true (case_15_0 a0 a1)) (by unfold Case; exact fun a0 a1 => of_eq_true (case_15_1 a0 a1)) (by unfold Case; exact fun a0 a1 => of_eq_true (case_15_2 a0 a1)) (by unfold Case; exact fun a0 a1 => of_eq_true (case_15_3 a0 a1)) (by unfold Case; exact fun a0 a1 => of_eq_true (case_15_4 a0 a1)) (by unfold Case; exact fun a0 a1 => of_eq_true (case_15_5 a0 a1)) (by unfold Case; exact fun a0 a1 => of_eq_true (case_15_6 a0 a1)) (by unfold Case; exact fun a0 a1 => of_eq_true (case_15_7 a0 a1)) x1 hx1
theorem all_cases (x0 : Nat) (x1 : Nat) (hx0 : x0 < 16) (hx1 : x1 < 8) : Case x0 x1 := below16 (fun x0 => Case x0 x1) (row_0 x1 hx1) (row_1 x1 hx1) (row_2 x1 hx1) (row_3 x1 hx1) (row_4 x1 hx1) (row_5 x1 hx1) (row_6 x1 hx1) (row_7 x1 hx1) (row_8 x1 hx1) (row_9 x1 hx1) (row_10 x1 hx1) (row_11 x1 hx1) (row_12 x1 hx1) (row_13 x1 hx1) (row_14 x1 hx1) (row_15 x1 hx1) x0 hx0
theorem runs (a0 a1 : Int) : Runs F G0 n_kilnlaw15_VerifyFaults [.int .i64 a0 0, .int .i64 a1 0] .e 0 fun v _ _ => v = .bool true :=
  runs_mono (k := isT) (fun _ _ _ hv => isT_iff hv) (runs_of_exFun at_kilnlaw15_VerifyFaults 200 (bridge a0 a1 (by have h := all_cases (umod a0 16) (uand a1 7) (umod_lt a0 (by decide)) (Nat.lt_succ_of_le (uand_spec a1 (by decide)).2); unfold Case at h; exact h a0 a1)))
end Go.A1.A1Flt

namespace Go.Proofs.YtibbhhkcjjeclaaDoor
open Go Go.Eng Go.ChangeShapes Go.WideShapes Go.RowKit
set_option maxRecDepth 100000
theorem ownK : ownKnob Tryd.prog.godebug = none := by kernel_rfl
theorem gShapes : Tryd.prog.globalNamed "kiln/op.shapes" = some 0 := by kernel_rfl
theorem tShapes : (Tryd.prog.globals[0]?).map (·.type) = some 149 := by kernel_rfl
theorem laidOut : laidOutB Tryd.prog = true := by kernel_rfl
theorem tightShapes : tightT Tryd.prog 5 149 = true := by kernel_rfl
theorem flatShapes : flatF 5 (Rows.laid_kiln_op_shapes (H := Unit)) = some Go.A1.tab := by kernel_rfl
abbrev laidL : List (String × DataW Unit) := [("kiln/op.shapes", Rows.laid_kiln_op_shapes)]
/- what the condition gives: the table -/
theorem of_laid {W : World} (h : laidMetH Tryd.prog laidL W) : GRel W Go.A1.G0 := by
  rw [MakeChecks.laidMetH_plain _ _ _ (by kernel_rfl)] at h
  obtain ⟨ps, ⟨g0, t0, cs0, f0, p0, q0, hg0, ht0, hv0, hd0, _, _⟩, _, _⟩ := h
  obtain rfl := Option.some.inj (gShapes.symm.trans hg0)
  obtain rfl := Option.some.inj (tShapes.symm.trans ht0)
  obtain ⟨hr, h1⟩ := flat_sound f0 hd0 flatShapes tightShapes
  have e : Go.A1.G0 = tabG 0 Go.A1.tab := tabK_eq
  rw [e]
  exact tabG_rel (fun i => by have := World.var?_cell hg0 hv0 i; simpa using this) hr h1
theorem door_met (os : Os) (args : Array Value) : laidMetH Tryd.prog laidL ((World.doorLaid Tryd.prog 400 os).forCall (fun _ _ => 0) ⟨#[], args, []⟩).memory :=
  laidMetH_of_parts3 (fuel := 8) (laidMet_of_run' 8 (by kernel_rfl) (by kernel_rfl)) (by kernel_rfl) (by kernel_rfl)
theorem noStand {t : TypeId} (h : t = 3) : Tryd.prog.wantsStandIn t = false := by
  subst h; kernel_rfl
end Go.Proofs.YtibbhhkcjjeclaaDoor

namespace Go.Proofs.YtibbhhkcjjeclaaDoor
open Go Go.Eng Go.ChangeShapes Go.WideShapes Go.RowKit
set_option maxRecDepth 100000
theorem verifyFaults_lifted (os : Os) (started : os.Started) (H : Type) (enc : TypeId × Value → H) :
    ReturnsInHanded {} Tryd.checked os 8 .any (fun w args => (Rows.verifyFaultsSpec.pre enc Tryd.prog Tryd.f8 [] false w args ∧ laidMetH Tryd.prog laidL w) ∧ sizedMet enc Tryd.prog Tryd.f8 (OpenSpec.ofChange Rows.verifyFaultsSpec) false w args)
      (Rows.verifyFaultsSpec.post enc Tryd.prog Tryd.f8 false true false false) := by
  refine law_lifted (C := Tryd.checked) (F := Go.A1.F) Go.A1.fns_ok started (tb := 4) ownK (by kernel_rfl) Tryd.func8 rfl ?_ (by kernel_rfl) Tryd.underlying4 laidOut ?_
    (World.doorLaid Tryd.prog 400 os) #[.int .i64 0, .int .i64 0] 8 rfl (by kernel_rfl) (by kernel_rfl) (by kernel_rfl) (by kernel_rfl) (by kernel_rfl) (door_met os _) ?_
  · intro ds hl
    match ds, hl with
    | [d0, d1], _ => rfl
  · intro t ht
    rw [Tryd.params8] at ht
    simp at ht
    subst ht
    exact ⟨by kernel_rfl, of_decide_eq_true (by kernel_rfl)⟩
  · intro W args ds ps hval hA hL
    rw [Tryd.params8] at hA hval
    obtain ⟨v0, v1, d0, d1, p, q, rfl, rfl, rfl, h0, h1⟩ := trodAll_two hA
    obtain ⟨b0, k0⟩ := hval 0 3 v0 rfl rfl
    obtain ⟨b1, k1⟩ := hval 1 3 v1 rfl rfl
    obtain ⟨a0, rfl, rfl, rfl, w0⟩ := open_int Tryd.underlying3 k0 h0
    obtain ⟨a1, rfl, rfl, rfl, w1⟩ := open_int Tryd.underlying3 k1 h1
    exact ⟨Go.A1.G0, [.int .i64 a0 0, .int .i64 a1 0], of_laid hL, .cons rfl (.cons rfl .nil), Go.A1.A1Flt.runs a0 a1⟩
theorem verifyFaults_holds : Rows.VerifyFaultsSaid :=
  OpenClaim.holds_of_wide 8 Tryd.f8 rfl rfl rfl rfl rfl rfl rfl ⟨rfl, rfl, rfl, rfl, rfl⟩ rfl rfl rfl rfl rfl (by kernel_rfl) Tryd.func8 (by kernel_rfl)
    (of_decide_eq_true (by kernel_rfl)) (by unfold Func.isWrapper; rw [if_neg (of_decide_eq_false (by kernel_rfl))]; exact ⟨rfl, rfl⟩)
    (fun os started H enc _ => verifyFaults_lifted os started H enc)
theorem verifyFaults_card : Rows.VerifyFaultsCardSaid :=
  Claim7.holds_tied_plain_at .later [] [.data] true (true, "5da4a2686d75d4bb4df39fd8b174fa89e64f23d4c49a1ca0d1f020fadd04e181") false
    verifyFaults_holds (fun _ h => by cases h) (by kernel_rfl) (fun _ h => by cases h) verifyFaults_row_tie rfl ⟨rfl, rfl⟩ (by kernel_rfl) rfl
    (fun f fn hf hfn => by
      obtain rfl : f = 8 := Option.some.inj ((show Tryd.prog.funcNamed "kiln/kilnlaw15.VerifyFaults" = some 8 by kernel_rfl).symm.trans hf) |>.symm
      obtain rfl : fn = Tryd.f8 := (Option.some.inj (Tryd.func8.symm.trans hfn)).symm
      exact ⟨by kernel_rfl, fun j t ht => by
        rw [Tryd.params8] at ht
        have hm := Array.mem_of_getElem? ht
        exact noStand (by simpa using hm)⟩)
    (by kernel_rfl)
#print axioms verifyFaults_card
end Go.Proofs.YtibbhhkcjjeclaaDoor

