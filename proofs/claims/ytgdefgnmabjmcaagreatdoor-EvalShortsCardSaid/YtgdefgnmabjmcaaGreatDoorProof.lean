/- PROVED: the Go function kilnlaw10.EvalShorts (three bools in, one bool out) returns true for every input, and leaves its arguments as they were: the tied card kilnlaw10.EvalShortsCardSaid. CONDITIONS: none beyond the card's own (the listed package variables hold what the program's text lays; the card ties it). The way: the code is turned into abstract code, checked by the kernel to be what the program has (text Code), an abstract run is proved to stand for the run of the model (texts EngA to EngF), the abstract code is proved to do what plain functions of values do (Plain, PlainR), and the 8 cases are run by the kernel. -/
import Derived.Test.YtgdefgnmabjmcaaGreatDoorCaseA
import Derived.Test.YtgdefgnmabjmcaaGreatDoorCaseB
import Derived.Test.YtgdefgnmabjmcaaGreatDoorCaseC
import Derived.Test.YtgdefgnmabjmcaaGreatDoorCaseD
import Derived.Test.YtgdefgnmabjmcaaGreatDoorSeat
import Derived.Test.YtgdefgnmabjmcaaGreatDoorTie
import Derived.Test.YtgdefgnmabjmcaaGreatDoorCards
import Derived.SevenTiedAt
set_option linter.unusedVariables false
set_option linter.unusedSimpArgs false
set_option maxRecDepth 100000
namespace Go.R3.LG
open Go.Eng Go.R3
def Case (b0 b1 b2 : Bool) : Prop := ∀ _u : Unit, t_f11 (lpF 600) G0 (runS (FS (lpF 600) G0) 600) b0 b1 b2 .e 0 isT = True
attribute [local irreducible] Case
theorem row : ∀ b0 b1 b2 : Bool, Case b0 b1 b2 := by
  intro b0 b1 b2
  cases b0
  · cases b1
    · cases b2
      · unfold Case; exact fun _u => case_false_false_false 
      · unfold Case; exact fun _u => case_false_false_true 
    · cases b2
      · unfold Case; exact fun _u => case_false_true_false 
      · unfold Case; exact fun _u => case_false_true_true 
  · cases b1
    · cases b2
      · unfold Case; exact fun _u => case_true_false_false 
      · unfold Case; exact fun _u => case_true_false_true 
    · cases b2
      · unfold Case; exact fun _u => case_true_true_false 
      · unfold Case; exact fun _u => case_true_true_true 

theorem runs (b0 : Bool) (b1 : Bool) (b2 : Bool) : Runs F G0 11 [.bool b0, .bool b1, .bool b2] .e 0 fun v _ _ => v = .bool true :=
  runs_law (fs_ok (lpF_ok 600) G0) at_law 600 (t := fun k => t_f11 (lpF 600) G0 (runS (FS (lpF 600) G0) 600) b0 b1 b2 .e 0 k) (fun callE hle hd h => ti_f11 (lpF_ok 600) b0 b1 b2  hle hd h)
    (by have h := row b0 b1 b2; unfold Case at h; exact h ())
end Go.R3.LG

namespace Go.Proofs.YtgdefgnmabjmcaaGreatDoor
open Go Go.Eng Go.ChangeShapes Go.WideShapes Go.RowKit
set_option maxRecDepth 100000
theorem evalShorts_lifted (os : Os) (started : os.Started) (H : Type) (enc : TypeId × Value → H) :
    ReturnsInHanded {} Tryz.checked os 11 .any (fun w args => (Rows.evalShortsSpec.pre enc Tryz.prog Tryz.f11 [] false w args ∧ laidMetH Tryz.prog laidL w) ∧ sizedMet enc Tryz.prog Tryz.f11 (OpenSpec.ofChange Rows.evalShortsSpec) false w args)
      (Rows.evalShortsSpec.post enc Tryz.prog Tryz.f11 false true false false) := by
  refine law_lifted (C := Tryz.checked) (F := Go.R3.F) Go.R3.fns_ok started (tb := 4) ownK (by kernel_rfl) Tryz.func11 rfl ?_ (by kernel_rfl) Tryz.underlying4 laidOut ?_
    (World.doorLaid Tryz.prog 400 os) #[.bool false, .bool false, .bool false] 8 rfl (by kernel_rfl) (by kernel_rfl) (by kernel_rfl) (by kernel_rfl) (by kernel_rfl) (door_met os _) ?_
  · intro ds hl
    match ds, hl with
    | [d0, d1, d2], _ => rfl
  · intro t ht
    rw [Tryz.params11] at ht
    simp at ht
    subst ht
    exact ⟨by kernel_rfl, of_decide_eq_true (by kernel_rfl)⟩
  · intro W args ds ps hval hA hL
    rw [Tryz.params11] at hA hval
    obtain ⟨v0, v1, v2, d0, d1, d2, p, q, r, rfl, rfl, rfl, h0, h1, h2⟩ := trodAll_three hA
    obtain ⟨b0, k0⟩ := hval 0 4 v0 rfl rfl
    obtain ⟨b1, k1⟩ := hval 1 4 v1 rfl rfl
    obtain ⟨b2, k2⟩ := hval 2 4 v2 rfl rfl
    obtain ⟨a0, rfl, rfl, rfl⟩ := open_bool Tryz.underlying4 k0 h0
    obtain ⟨a1, rfl, rfl, rfl⟩ := open_bool Tryz.underlying4 k1 h1
    obtain ⟨a2, rfl, rfl, rfl⟩ := open_bool Tryz.underlying4 k2 h2
    exact ⟨Go.R3.G0, [.bool a0, .bool a1, .bool a2], of_laid hL, .cons rfl (.cons rfl (.cons rfl .nil)), Go.R3.LG.runs a0 a1 a2⟩
theorem evalShorts_holds : Rows.EvalShortsSaid :=
  OpenClaim.holds_of_wide 11 Tryz.f11 rfl rfl rfl rfl rfl rfl rfl ⟨rfl, rfl, rfl, rfl, rfl⟩ rfl rfl rfl rfl rfl (by kernel_rfl) Tryz.func11 (by kernel_rfl)
    (of_decide_eq_true (by kernel_rfl)) (by unfold Func.isWrapper; rw [if_neg (of_decide_eq_false (by kernel_rfl))]; exact ⟨rfl, rfl⟩)
    (fun os started H enc _ => evalShorts_lifted os started H enc)
theorem evalShorts_card : Rows.EvalShortsCardSaid :=
  Claim7.holds_tied_plain_at .later [] [.data] true (true, "dad5946ae5211f6ca16c1d0b774a8f70a96f95c421f047f3dddbc9f7b8b60996") false
    evalShorts_holds (fun _ h => by cases h) (by kernel_rfl) (fun _ h => by cases h) evalShorts_row_tie rfl ⟨rfl, rfl⟩ (by kernel_rfl) rfl
    (fun f fn hf hfn => by
      obtain rfl : f = 11 := Option.some.inj ((show Tryz.prog.funcNamed "kiln/kilnlaw10.EvalShorts" = some 11 by kernel_rfl).symm.trans hf) |>.symm
      obtain rfl : fn = Tryz.f11 := (Option.some.inj (Tryz.func11.symm.trans hfn)).symm
      exact ⟨by kernel_rfl, fun j t ht => by
        rw [Tryz.params11] at ht
        have hm := Array.mem_of_getElem? ht
        exact noStand (by simp at hm; simp [hm])⟩)
    (by kernel_rfl)
#print axioms evalShorts_card
end Go.Proofs.YtgdefgnmabjmcaaGreatDoor

