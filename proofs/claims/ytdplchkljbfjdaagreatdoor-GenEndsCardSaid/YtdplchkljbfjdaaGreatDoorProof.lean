/- PROVED: the Go function kilnlaw13.GenEnds (two ints in, one bool out) returns true for every input, and leaves its arguments as they were: the tied card kilnlaw13.GenEndsCardSaid. CONDITIONS: none beyond the card's own (the listed package variables hold what the program's text lays; the card ties it). The way: the code is turned into abstract code, checked by the kernel to be what the program has (text Code), an abstract run is proved to stand for the run of the model (texts EngA to EngF), the abstract code is proved to do what plain functions of values do (Plain, PlainR), and the 32 cases are run by the kernel. -/
import Derived.Test.YtdplchkljbfjdaaGreatDoorCaseA
import Derived.Test.YtdplchkljbfjdaaGreatDoorCaseB
import Derived.Test.YtdplchkljbfjdaaGreatDoorCaseC
import Derived.Test.YtdplchkljbfjdaaGreatDoorCaseD
import Derived.Test.YtdplchkljbfjdaaGreatDoorCaseE
import Derived.Test.YtdplchkljbfjdaaGreatDoorCaseF
import Derived.Test.YtdplchkljbfjdaaGreatDoorCaseG
import Derived.Test.YtdplchkljbfjdaaGreatDoorCaseH
import Derived.Test.YtdplchkljbfjdaaGreatDoorSeat
import Derived.Test.YtdplchkljbfjdaaGreatDoorTie
import Derived.Test.YtdplchkljbfjdaaGreatDoorCards
import Derived.SevenTiedAt
set_option linter.unusedVariables false
set_option linter.unusedSimpArgs false
set_option maxRecDepth 100000
namespace Go.R5.GA
open Go.Eng Go.R5
def Case (x0 x1 : Nat) : Prop := ∀ (z0 z1 : Int), t_f3 (lpF 600) G0 (runS (FS (lpF 600) G0) 600) z0 z1 x0 x1 .e 0 isT = True
attribute [local irreducible] Case
theorem row_0_0 : Case 0 0 := by unfold Case; exact fun z0 z1 => case_0_0 z0 z1
theorem row_0_1 : Case 0 1 := by unfold Case; exact fun z0 z1 => case_0_1 z0 z1
theorem row_0_2 : Case 0 2 := by unfold Case; exact fun z0 z1 => case_0_2 z0 z1
theorem row_0_3 : Case 0 3 := by unfold Case; exact fun z0 z1 => case_0_3 z0 z1
theorem row_0_4 : Case 0 4 := by unfold Case; exact fun z0 z1 => case_0_4 z0 z1
theorem row_0_5 : Case 0 5 := by unfold Case; exact fun z0 z1 => case_0_5 z0 z1
theorem row_0_6 : Case 0 6 := by unfold Case; exact fun z0 z1 => case_0_6 z0 z1
theorem row_0_7 : Case 0 7 := by unfold Case; exact fun z0 z1 => case_0_7 z0 z1
theorem row_1_0 : Case 1 0 := by unfold Case; exact fun z0 z1 => case_1_0 z0 z1
theorem row_1_1 : Case 1 1 := by unfold Case; exact fun z0 z1 => case_1_1 z0 z1
theorem row_1_2 : Case 1 2 := by unfold Case; exact fun z0 z1 => case_1_2 z0 z1
theorem row_1_3 : Case 1 3 := by unfold Case; exact fun z0 z1 => case_1_3 z0 z1
theorem row_1_4 : Case 1 4 := by unfold Case; exact fun z0 z1 => case_1_4 z0 z1
theorem row_1_5 : Case 1 5 := by unfold Case; exact fun z0 z1 => case_1_5 z0 z1
theorem row_1_6 : Case 1 6 := by unfold Case; exact fun z0 z1 => case_1_6 z0 z1
theorem row_1_7 : Case 1 7 := by unfold Case; exact fun z0 z1 => case_1_7 z0 z1
theorem row_2_0 : Case 2 0 := by unfold Case; exact fun z0 z1 => case_2_0 z0 z1
theorem row_2_1 : Case 2 1 := by unfold Case; exact fun z0 z1 => case_2_1 z0 z1
theorem row_2_2 : Case 2 2 := by unfold Case; exact fun z0 z1 => case_2_2 z0 z1
theorem row_2_3 : Case 2 3 := by unfold Case; exact fun z0 z1 => case_2_3 z0 z1
theorem row_2_4 : Case 2 4 := by unfold Case; exact fun z0 z1 => case_2_4 z0 z1
theorem row_2_5 : Case 2 5 := by unfold Case; exact fun z0 z1 => case_2_5 z0 z1
theorem row_2_6 : Case 2 6 := by unfold Case; exact fun z0 z1 => case_2_6 z0 z1
theorem row_2_7 : Case 2 7 := by unfold Case; exact fun z0 z1 => case_2_7 z0 z1
theorem row_3_0 : Case 3 0 := by unfold Case; exact fun z0 z1 => case_3_0 z0 z1
theorem row_3_1 : Case 3 1 := by unfold Case; exact fun z0 z1 => case_3_1 z0 z1
theorem row_3_2 : Case 3 2 := by unfold Case; exact fun z0 z1 => case_3_2 z0 z1
theorem row_3_3 : Case 3 3 := by unfold Case; exact fun z0 z1 => case_3_3 z0 z1
theorem row_3_4 : Case 3 4 := by unfold Case; exact fun z0 z1 => case_3_4 z0 z1
theorem row_3_5 : Case 3 5 := by unfold Case; exact fun z0 z1 => case_3_5 z0 z1
theorem row_3_6 : Case 3 6 := by unfold Case; exact fun z0 z1 => case_3_6 z0 z1
theorem row_3_7 : Case 3 7 := by unfold Case; exact fun z0 z1 => case_3_7 z0 z1
theorem row_0 : ∀ x1 : Nat, x1 < 8 → Case 0 x1 := by
  intro x1 hx1
  exact below8 (p := fun x1 => Case 0 x1) (row_0_0 ) (row_0_1 ) (row_0_2 ) (row_0_3 ) (row_0_4 ) (row_0_5 ) (row_0_6 ) (row_0_7 ) x1 hx1
theorem row_1 : ∀ x1 : Nat, x1 < 8 → Case 1 x1 := by
  intro x1 hx1
  exact below8 (p := fun x1 => Case 1 x1) (row_1_0 ) (row_1_1 ) (row_1_2 ) (row_1_3 ) (row_1_4 ) (row_1_5 ) (row_1_6 ) (row_1_7 ) x1 hx1
theorem row_2 : ∀ x1 : Nat, x1 < 8 → Case 2 x1 := by
  intro x1 hx1
  exact below8 (p := fun x1 => Case 2 x1) (row_2_0 ) (row_2_1 ) (row_2_2 ) (row_2_3 ) (row_2_4 ) (row_2_5 ) (row_2_6 ) (row_2_7 ) x1 hx1
theorem row_3 : ∀ x1 : Nat, x1 < 8 → Case 3 x1 := by
  intro x1 hx1
  exact below8 (p := fun x1 => Case 3 x1) (row_3_0 ) (row_3_1 ) (row_3_2 ) (row_3_3 ) (row_3_4 ) (row_3_5 ) (row_3_6 ) (row_3_7 ) x1 hx1
theorem row : ∀ x0 x1 : Nat, x0 < 4 → x1 < 8 → Case x0 x1 := by
  intro x0 x1 hx0 hx1
  exact below4 (p := fun x0 => Case x0 x1) (row_0 x1 hx1) (row_1 x1 hx1) (row_2 x1 hx1) (row_3 x1 hx1) x0 hx0
theorem runs (z0 : Int) (z1 : Int) : Runs F G0 3 [.int .i64 z0 0, .int .i64 z1 0] .e 0 fun v _ _ => v = .bool true :=
  runs_law (fs_ok (lpF_ok 600) G0) at_law 600 (t := fun k => t_f3 (lpF 600) G0 (runS (FS (lpF 600) G0) 600) z0 z1 (uand z0 3) (uand z1 7) .e 0 k) (fun callE hle hd h => ti_f3 (lpF_ok 600) z0 z1 (uand z0 3) (uand z1 7) rfl rfl hle hd h)
    (by have h := row (uand z0 3) (uand z1 7) (Nat.lt_succ_of_le (uand_spec z0 (by decide)).2) (Nat.lt_succ_of_le (uand_spec z1 (by decide)).2); unfold Case at h; exact h z0 z1)
end Go.R5.GA

namespace Go.Proofs.YtdplchkljbfjdaaGreatDoor
open Go Go.Eng Go.ChangeShapes Go.WideShapes Go.RowKit
set_option maxRecDepth 100000
theorem genEnds_lifted (os : Os) (started : os.Started) (H : Type) (enc : TypeId × Value → H) :
    ReturnsInHanded {} Tryz.checked os 3 .any (fun w args => (Rows.genEndsSpec.pre enc Tryz.prog Tryz.f3 [] false w args ∧ laidMetH Tryz.prog laidL w) ∧ sizedMet enc Tryz.prog Tryz.f3 (OpenSpec.ofChange Rows.genEndsSpec) false w args)
      (Rows.genEndsSpec.post enc Tryz.prog Tryz.f3 false true false false) := by
  refine law_lifted (C := Tryz.checked) (F := Go.R5.F) Go.R5.fns_ok started (tb := 4) ownK (by kernel_rfl) Tryz.func3 rfl ?_ (by kernel_rfl) Tryz.underlying4 laidOut ?_
    (World.doorLaid Tryz.prog 400 os) #[.int .i64 0, .int .i64 0] 8 rfl (by kernel_rfl) (by kernel_rfl) (by kernel_rfl) (by kernel_rfl) (by kernel_rfl) (door_met os _) ?_
  · intro ds hl
    match ds, hl with
    | [d0, d1], _ => rfl
  · intro t ht
    rw [Tryz.params3] at ht
    simp at ht
    subst ht
    exact ⟨by kernel_rfl, of_decide_eq_true (by kernel_rfl)⟩
  · intro W args ds ps hval hA hL
    rw [Tryz.params3] at hA hval
    obtain ⟨v0, v1, d0, d1, p, q, rfl, rfl, rfl, h0, h1⟩ := trodAll_two hA
    obtain ⟨b0, k0⟩ := hval 0 3 v0 rfl rfl
    obtain ⟨b1, k1⟩ := hval 1 3 v1 rfl rfl
    obtain ⟨a0, rfl, rfl, rfl, w0⟩ := open_int Tryz.underlying3 k0 h0
    obtain ⟨a1, rfl, rfl, rfl, w1⟩ := open_int Tryz.underlying3 k1 h1
    exact ⟨Go.R5.G0, [.int .i64 a0 0, .int .i64 a1 0], of_laid hL, .cons rfl (.cons rfl .nil), Go.R5.GA.runs a0 a1⟩
theorem genEnds_holds : Rows.GenEndsSaid :=
  OpenClaim.holds_of_wide 3 Tryz.f3 rfl rfl rfl rfl rfl rfl rfl ⟨rfl, rfl, rfl, rfl, rfl⟩ rfl rfl rfl rfl rfl (by kernel_rfl) Tryz.func3 (by kernel_rfl)
    (of_decide_eq_true (by kernel_rfl)) (by unfold Func.isWrapper; rw [if_neg (of_decide_eq_false (by kernel_rfl))]; exact ⟨rfl, rfl⟩)
    (fun os started H enc _ => genEnds_lifted os started H enc)
theorem genEnds_card : Rows.GenEndsCardSaid :=
  Claim7.holds_tied_plain_at .later [] [.data, .data, .data, .data, .data] true (true, "bf43fd562f67dd5fae7e772947f8227c92117ecea546bd574998783b9d59a92d") false
    genEnds_holds (fun _ h => by cases h) (by kernel_rfl) (fun _ h => by cases h) genEnds_row_tie rfl ⟨rfl, rfl⟩ (by kernel_rfl) rfl
    (fun f fn hf hfn => by
      obtain rfl : f = 3 := Option.some.inj ((show Tryz.prog.funcNamed "kiln/kilnlaw13.GenEnds" = some 3 by kernel_rfl).symm.trans hf) |>.symm
      obtain rfl : fn = Tryz.f3 := (Option.some.inj (Tryz.func3.symm.trans hfn)).symm
      exact ⟨by kernel_rfl, fun j t ht => by
        rw [Tryz.params3] at ht
        have hm := Array.mem_of_getElem? ht
        exact noStand (by simp at hm; simp [hm])⟩)
    (by kernel_rfl)
#print axioms genEnds_card
end Go.Proofs.YtdplchkljbfjdaaGreatDoor

