/- PROVED: the Go function kilnlaw10.EvalRounds (two ints in, one bool out) returns true for every input, and leaves its arguments as they were: the tied card kilnlaw10.EvalRoundsCardSaid. CONDITIONS: none beyond the card's own (the listed package variables hold what the program's text lays; the card ties it). The way: the code is turned into abstract code, checked by the kernel to be what the program has (text Code), an abstract run is proved to stand for the run of the model (texts EngA to EngF), the abstract code is proved to do what plain functions of values do (Plain, PlainR), and the 9 cases are run by the kernel. -/
import Derived.Test.YtgdefgnmabjmcaaGreatDoorCaseA
import Derived.Test.YtgdefgnmabjmcaaGreatDoorCaseB
import Derived.Test.YtgdefgnmabjmcaaGreatDoorSeat
import Derived.Test.YtgdefgnmabjmcaaGreatDoorTie
import Derived.Test.YtgdefgnmabjmcaaGreatDoorCards
import Derived.SevenTiedAt
set_option linter.unusedVariables false
set_option linter.unusedSimpArgs false
set_option maxRecDepth 100000
namespace Go.R3.LJ
open Go.Eng Go.R3
def Row (x y : Int) : Prop := ∃ a b c, tt a b c x y
theorem sign {x y : Int} (h : Int.tmod x y ≠ 0) : (x < 0 ∧ Int.tmod x y < 0) ∨ (¬ x < 0 ∧ ¬ Int.tmod x y < 0) := by
  by_cases hx : x < 0
  · refine .inl ⟨hx, ?_⟩
    have h1 : Int.tmod (-x) y = -Int.tmod x y := Int.neg_tmod ..
    have h2 := Int.tmod_nonneg y (show 0 ≤ -x by omega)
    omega
  · exact .inr ⟨hx, by have := Int.tmod_nonneg y (show 0 ≤ x by omega); omega⟩
theorem fin {x : Int} (h1 : -9223372036854775808 ≤ x) (h2 : x < 9223372036854775808) {y y' : Int} (hz : tt true true true x y = Rest x y' true true true) (hm : tt false true true x y = Rest x y' false true true) (hp : tt false false false x y = Rest x y' false false false) : Row x y := by
  by_cases h : Int.tmod x y' = 0
  · exact ⟨true, true, true, hz ▸ rest h1 h2 (by simp [h]) (fun h => by cases h) (fun h => by cases h)⟩
  · rcases sign h with ⟨a, b⟩ | ⟨a, b⟩
    · exact ⟨false, true, true, hm ▸ rest h1 h2 (by simp [h]) (fun _ => by simp [b]) (fun _ => by simp [a])⟩
    · exact ⟨false, false, false, hp ▸ rest h1 h2 (by simp [h]) (fun _ => by simp; omega) (fun _ => by simp; omega)⟩
theorem row {x : Int} (h1 : -9223372036854775808 ≤ x) (h2 : x < 9223372036854775808) (y : Int) : Row x y := by
  rcases y with m | m
  · cases m with
    | zero => exact fin h1 h2 (czz x 0) (czm x 0) (czp x 0)
    | succ m => exact fin h1 h2 (cpz x m) (cpm x m) (cpp x m)
  · exact fin h1 h2 (cnz x m) (cnm x m) (cnp x m)
theorem runs (z0 : Int) (z1 : Int) (w0 : (Lit.int .i64 z0).wf = true) : Runs F G0 13 [.int .i64 z0 0, .int .i64 z1 0] .e 0 fun v _ _ => v = .bool true := by
  obtain ⟨a, b, c, h⟩ := row (wf_le w0).1 (wf_le w0).2 z1
  exact runs_lawP (fs_ok (lpF_ok 600) G0) at_law 600 (t := fun k => t_f13 (lpF 600) G0 (runS (FS (lpF 600) G0) 600) z0 z1 a b c .e 0 k) (fun callE hle hd h => ti_f13 (lpF_ok 600) z0 z1 a b c hle hd h) h
end Go.R3.LJ

namespace Go.Proofs.YtgdefgnmabjmcaaGreatDoor
open Go Go.Eng Go.ChangeShapes Go.WideShapes Go.RowKit
set_option maxRecDepth 100000
theorem evalRounds_lifted (os : Os) (started : os.Started) (H : Type) (enc : TypeId × Value → H) :
    ReturnsInHanded {} Tryz.checked os 13 .any (fun w args => (Rows.evalRoundsSpec.pre enc Tryz.prog Tryz.f13 [] false w args ∧ laidMetH Tryz.prog laidL w) ∧ sizedMet enc Tryz.prog Tryz.f13 (OpenSpec.ofChange Rows.evalRoundsSpec) false w args)
      (Rows.evalRoundsSpec.post enc Tryz.prog Tryz.f13 false true false false) := by
  refine law_lifted (C := Tryz.checked) (F := Go.R3.F) Go.R3.fns_ok started (tb := 4) ownK (by kernel_rfl) Tryz.func13 rfl ?_ (by kernel_rfl) Tryz.underlying4 laidOut ?_
    (World.doorLaid Tryz.prog 400 os) #[.int .i64 0, .int .i64 0] 8 rfl (by kernel_rfl) (by kernel_rfl) (by kernel_rfl) (by kernel_rfl) (by kernel_rfl) (door_met os _) ?_
  · intro ds hl
    match ds, hl with
    | [d0, d1], _ => rfl
  · intro t ht
    rw [Tryz.params13] at ht
    simp at ht
    subst ht
    exact ⟨by kernel_rfl, of_decide_eq_true (by kernel_rfl)⟩
  · intro W args ds ps hval hA hL
    rw [Tryz.params13] at hA hval
    obtain ⟨v0, v1, d0, d1, p, q, rfl, rfl, rfl, h0, h1⟩ := trodAll_two hA
    obtain ⟨b0, k0⟩ := hval 0 2 v0 rfl rfl
    obtain ⟨b1, k1⟩ := hval 1 2 v1 rfl rfl
    obtain ⟨a0, rfl, rfl, rfl, w0⟩ := open_int Tryz.underlying2 k0 h0
    obtain ⟨a1, rfl, rfl, rfl, w1⟩ := open_int Tryz.underlying2 k1 h1
    exact ⟨Go.R3.G0, [.int .i64 a0 0, .int .i64 a1 0], of_laid hL, .cons rfl (.cons rfl .nil), Go.R3.LJ.runs a0 a1 w0⟩
theorem evalRounds_holds : Rows.EvalRoundsSaid :=
  OpenClaim.holds_of_wide 13 Tryz.f13 rfl rfl rfl rfl rfl rfl rfl ⟨rfl, rfl, rfl, rfl, rfl⟩ rfl rfl rfl rfl rfl (by kernel_rfl) Tryz.func13 (by kernel_rfl)
    (of_decide_eq_true (by kernel_rfl)) (by unfold Func.isWrapper; rw [if_neg (of_decide_eq_false (by kernel_rfl))]; exact ⟨rfl, rfl⟩)
    (fun os started H enc _ => evalRounds_lifted os started H enc)
theorem evalRounds_card : Rows.EvalRoundsCardSaid :=
  Claim7.holds_tied_plain_at .later [] [.data] true (true, "dad5946ae5211f6ca16c1d0b774a8f70a96f95c421f047f3dddbc9f7b8b60996") false
    evalRounds_holds (fun _ h => by cases h) (by kernel_rfl) (fun _ h => by cases h) evalRounds_row_tie rfl ⟨rfl, rfl⟩ (by kernel_rfl) rfl
    (fun f fn hf hfn => by
      obtain rfl : f = 13 := Option.some.inj ((show Tryz.prog.funcNamed "kiln/kilnlaw10.EvalRounds" = some 13 by kernel_rfl).symm.trans hf) |>.symm
      obtain rfl : fn = Tryz.f13 := (Option.some.inj (Tryz.func13.symm.trans hfn)).symm
      exact ⟨by kernel_rfl, fun j t ht => by
        rw [Tryz.params13] at ht
        have hm := Array.mem_of_getElem? ht
        exact noStand (by simp at hm; simp [hm])⟩)
    (by kernel_rfl)
#print axioms evalRounds_card
end Go.Proofs.YtgdefgnmabjmcaaGreatDoor

