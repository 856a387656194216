/- PROVED: the Go function kilnlaw10.EvalSums (three ints in, one bool out) returns true for every input, and leaves its arguments as they were: the tied card kilnlaw10.EvalSumsCardSaid. CONDITIONS: none beyond the card's own (the listed package variables hold what the program's text lays; the card ties it). The way: the code is turned into abstract code, checked by the kernel to be what the program has (text Code), an abstract run is proved to stand for the run of the model (texts EngA to EngF), the abstract code is proved to do what plain functions of values do (Plain, PlainR), and the 51 cases are run by the kernel. -/
import Derived.Test.YtgdefgnmabjmcaaGreatDoorCaseA
import Derived.Test.YtgdefgnmabjmcaaGreatDoorCaseB
import Derived.Test.YtgdefgnmabjmcaaGreatDoorCaseC
import Derived.Test.YtgdefgnmabjmcaaGreatDoorCaseD
import Derived.Test.YtgdefgnmabjmcaaGreatDoorSeat
import Derived.Test.YtgdefgnmabjmcaaGreatDoorTie
import Derived.Test.YtgdefgnmabjmcaaGreatDoorCards
import Derived.SevenTiedAt
set_option linter.unusedVariables false
set_option linter.unusedSimpArgs false
set_option maxRecDepth 100000
namespace Go.R3.LI
open Go.Eng Go.R3
def Row (k : Nat) : Prop := ∀ z0 x y : Int, ∃ a b c d, tt a b c d z0 x y k
theorem row0 : Row 0 := fun z0 x y => ⟨true, true, false, true, by
  rcases y with m | m
  · cases m with
    | zero => exact (c0z z0 x 0).symm ▸ same _
    | succ m => exact (c0p z0 x m).symm ▸ same _
  · exact (c0n z0 x m).symm ▸ same _⟩
theorem row1 : Row 1 := fun z0 x y => ⟨true, true, false, true, by
  rcases y with m | m
  · cases m with
    | zero => exact (c1z z0 x 0).symm ▸ same _
    | succ m => exact (c1p z0 x m).symm ▸ same _
  · exact (c1n z0 x m).symm ▸ same _⟩
theorem row2 : Row 2 := fun z0 x y => ⟨true, true, false, true, by
  rcases y with m | m
  · cases m with
    | zero => exact (c2z z0 x 0).symm ▸ same _
    | succ m => exact (c2p z0 x m).symm ▸ same _
  · exact (c2n z0 x m).symm ▸ same _⟩
theorem row3 : Row 3 := fun z0 x y => ⟨true, true, false, true, by
  rcases y with m | m
  · cases m with
    | zero => exact (c3z z0 x 0).symm ▸ trivial
    | succ m => exact (c3p z0 x m).symm ▸ same _
  · exact (c3n z0 x m).symm ▸ same _⟩
theorem row4 : Row 4 := fun z0 x y => ⟨true, true, false, true, by
  rcases y with m | m
  · cases m with
    | zero => exact (c4z z0 x 0).symm ▸ trivial
    | succ m => exact (c4p z0 x m).symm ▸ same _
  · exact (c4n z0 x m).symm ▸ same _⟩
theorem row5 : Row 5 := fun z0 x y => by
  rcases Int.lt_trichotomy x y with h | h | h
  · refine ⟨true, true, false, true, ?_⟩
    have a := ask_l h
    have b : B2.ev .lss (I x) (I y) = some (.bool true) := by unfold I; rw [lss_i]; simp; omega
    rcases y with m | m
    · cases m with
      | zero => exact (c5zl z0 x 0).symm ▸ ⟨b, a⟩
      | succ m => exact (c5pl z0 x m).symm ▸ ⟨b, a⟩
    · exact (c5nl z0 x m).symm ▸ ⟨b, a⟩
  · refine ⟨false, true, true, false, ?_⟩
    have a := ask_e h
    have b : B2.ev .lss (I x) (I y) = some (.bool false) := by unfold I; rw [lss_i]; simp; omega
    rcases y with m | m
    · cases m with
      | zero => exact (c5ze z0 x 0).symm ▸ ⟨b, a⟩
      | succ m => exact (c5pe z0 x m).symm ▸ ⟨b, a⟩
    · exact (c5ne z0 x m).symm ▸ ⟨b, a⟩
  · refine ⟨false, false, false, true, ?_⟩
    have a := ask_g h
    have b : B2.ev .lss (I x) (I y) = some (.bool false) := by unfold I; rw [lss_i]; simp; omega
    rcases y with m | m
    · cases m with
      | zero => exact (c5zg z0 x 0).symm ▸ ⟨b, a⟩
      | succ m => exact (c5pg z0 x m).symm ▸ ⟨b, a⟩
    · exact (c5ng z0 x m).symm ▸ ⟨b, a⟩
theorem row6 : Row 6 := fun z0 x y => by
  rcases Int.lt_trichotomy x y with h | h | h
  · refine ⟨true, true, false, true, ?_⟩
    have a := ask_l h
    have b : B2.ev .leq (I x) (I y) = some (.bool true) := by unfold I; rw [leq_i]; simp; omega
    rcases y with m | m
    · cases m with
      | zero => exact (c6zl z0 x 0).symm ▸ ⟨b, a⟩
      | succ m => exact (c6pl z0 x m).symm ▸ ⟨b, a⟩
    · exact (c6nl z0 x m).symm ▸ ⟨b, a⟩
  · refine ⟨false, true, true, false, ?_⟩
    have a := ask_e h
    have b : B2.ev .leq (I x) (I y) = some (.bool true) := by unfold I; rw [leq_i]; simp; omega
    rcases y with m | m
    · cases m with
      | zero => exact (c6ze z0 x 0).symm ▸ ⟨b, a⟩
      | succ m => exact (c6pe z0 x m).symm ▸ ⟨b, a⟩
    · exact (c6ne z0 x m).symm ▸ ⟨b, a⟩
  · refine ⟨false, false, false, true, ?_⟩
    have a := ask_g h
    have b : B2.ev .leq (I x) (I y) = some (.bool false) := by unfold I; rw [leq_i]; simp; omega
    rcases y with m | m
    · cases m with
      | zero => exact (c6zg z0 x 0).symm ▸ ⟨b, a⟩
      | succ m => exact (c6pg z0 x m).symm ▸ ⟨b, a⟩
    · exact (c6ng z0 x m).symm ▸ ⟨b, a⟩
theorem row7 : Row 7 := fun z0 x y => by
  rcases Int.lt_trichotomy x y with h | h | h
  · refine ⟨true, true, false, true, ?_⟩
    have a := ask_l h
    have b : eqV (.agg [.int, .ptr]) false (.agg [I x, .nilp]) (.agg [I y, .nilp]) = some (.bool false) := by rw [agg_f]; simp; omega
    rcases y with m | m
    · cases m with
      | zero => exact (c7zl z0 x 0).symm ▸ ⟨b, a⟩
      | succ m => exact (c7pl z0 x m).symm ▸ ⟨b, a⟩
    · exact (c7nl z0 x m).symm ▸ ⟨b, a⟩
  · refine ⟨false, true, true, false, ?_⟩
    have a := ask_e h
    have b : eqV (.agg [.int, .ptr]) false (.agg [I x, .nilp]) (.agg [I y, .nilp]) = some (.bool true) := by rw [agg_f]; simp; omega
    rcases y with m | m
    · cases m with
      | zero => exact (c7ze z0 x 0).symm ▸ ⟨b, a⟩
      | succ m => exact (c7pe z0 x m).symm ▸ ⟨b, a⟩
    · exact (c7ne z0 x m).symm ▸ ⟨b, a⟩
  · refine ⟨false, false, false, true, ?_⟩
    have a := ask_g h
    have b : eqV (.agg [.int, .ptr]) false (.agg [I x, .nilp]) (.agg [I y, .nilp]) = some (.bool false) := by rw [agg_f]; simp; omega
    rcases y with m | m
    · cases m with
      | zero => exact (c7zg z0 x 0).symm ▸ ⟨b, a⟩
      | succ m => exact (c7pg z0 x m).symm ▸ ⟨b, a⟩
    · exact (c7ng z0 x m).symm ▸ ⟨b, a⟩
theorem row8 : Row 8 := fun z0 x y => by
  rcases Int.lt_trichotomy x y with h | h | h
  · refine ⟨true, true, false, true, ?_⟩
    have a := ask_l h
    have b : eqV (.agg [.int, .ptr]) true (.agg [I x, .nilp]) (.agg [I y, .nilp]) = some (.bool true) := by rw [agg_t]; simp; omega
    rcases y with m | m
    · cases m with
      | zero => exact (c8zl z0 x 0).symm ▸ ⟨b, a⟩
      | succ m => exact (c8pl z0 x m).symm ▸ ⟨b, a⟩
    · exact (c8nl z0 x m).symm ▸ ⟨b, a⟩
  · refine ⟨false, true, true, false, ?_⟩
    have a := ask_e h
    have b : eqV (.agg [.int, .ptr]) true (.agg [I x, .nilp]) (.agg [I y, .nilp]) = some (.bool false) := by rw [agg_t]; simp; omega
    rcases y with m | m
    · cases m with
      | zero => exact (c8ze z0 x 0).symm ▸ ⟨b, a⟩
      | succ m => exact (c8pe z0 x m).symm ▸ ⟨b, a⟩
    · exact (c8ne z0 x m).symm ▸ ⟨b, a⟩
  · refine ⟨false, false, false, true, ?_⟩
    have a := ask_g h
    have b : eqV (.agg [.int, .ptr]) true (.agg [I x, .nilp]) (.agg [I y, .nilp]) = some (.bool true) := by rw [agg_t]; simp; omega
    rcases y with m | m
    · cases m with
      | zero => exact (c8zg z0 x 0).symm ▸ ⟨b, a⟩
      | succ m => exact (c8pg z0 x m).symm ▸ ⟨b, a⟩
    · exact (c8ng z0 x m).symm ▸ ⟨b, a⟩
theorem row (k : Nat) (h : k < 9) : Row k := below9 (p := Row) row0 row1 row2 row3 row4 row5 row6 row7 row8 k h
theorem runs (z0 : Int) (z1 : Int) (z2 : Int) : Runs F G0 7 [.int .i64 z0 0, .int .i64 z1 0, .int .i64 z2 0] .e 0 fun v _ _ => v = .bool true := by
  obtain ⟨a, b, c, d, h⟩ := row (umod z0 9) (umod_lt z0 (by decide)) z0 z1 z2
  exact runs_lawP (fs1_ok a b c d) at_law 600 (t := fun k => t_f7 (lpF 600) G0 (runS (fs1 a b c d) 600) z0 z1 z2 (umod z0 9) a b c d .e 0 k) (fun callE hle hd h => ti_f7 (lpF_ok 600) z0 z1 z2 (umod z0 9) a b c d rfl hle hd h) h
end Go.R3.LI

namespace Go.Proofs.YtgdefgnmabjmcaaGreatDoor
open Go Go.Eng Go.ChangeShapes Go.WideShapes Go.RowKit
set_option maxRecDepth 100000
theorem evalSums_lifted (os : Os) (started : os.Started) (H : Type) (enc : TypeId × Value → H) :
    ReturnsInHanded {} Tryz.checked os 7 .any (fun w args => (Rows.evalSumsSpec.pre enc Tryz.prog Tryz.f7 [] false w args ∧ laidMetH Tryz.prog laidL w) ∧ sizedMet enc Tryz.prog Tryz.f7 (OpenSpec.ofChange Rows.evalSumsSpec) false w args)
      (Rows.evalSumsSpec.post enc Tryz.prog Tryz.f7 false true false false) := by
  refine law_lifted (C := Tryz.checked) (F := Go.R3.F) Go.R3.fns_ok started (tb := 4) ownK (by kernel_rfl) Tryz.func7 rfl ?_ (by kernel_rfl) Tryz.underlying4 laidOut ?_
    (World.doorLaid Tryz.prog 400 os) #[.int .i64 0, .int .i64 0, .int .i64 0] 8 rfl (by kernel_rfl) (by kernel_rfl) (by kernel_rfl) (by kernel_rfl) (by kernel_rfl) (door_met os _) ?_
  · intro ds hl
    match ds, hl with
    | [d0, d1, d2], _ => rfl
  · intro t ht
    rw [Tryz.params7] at ht
    simp at ht
    rcases ht with rfl | rfl <;> exact ⟨by kernel_rfl, of_decide_eq_true (by kernel_rfl)⟩
  · intro W args ds ps hval hA hL
    rw [Tryz.params7] at hA hval
    obtain ⟨v0, v1, v2, d0, d1, d2, p, q, r, rfl, rfl, rfl, h0, h1, h2⟩ := trodAll_three hA
    obtain ⟨b0, k0⟩ := hval 0 3 v0 rfl rfl
    obtain ⟨b1, k1⟩ := hval 1 2 v1 rfl rfl
    obtain ⟨b2, k2⟩ := hval 2 2 v2 rfl rfl
    obtain ⟨a0, rfl, rfl, rfl, w0⟩ := open_int Tryz.underlying3 k0 h0
    obtain ⟨a1, rfl, rfl, rfl, w1⟩ := open_int Tryz.underlying2 k1 h1
    obtain ⟨a2, rfl, rfl, rfl, w2⟩ := open_int Tryz.underlying2 k2 h2
    exact ⟨Go.R3.G0, [.int .i64 a0 0, .int .i64 a1 0, .int .i64 a2 0], of_laid hL, .cons rfl (.cons rfl (.cons rfl .nil)), Go.R3.LI.runs a0 a1 a2⟩
theorem evalSums_holds : Rows.EvalSumsSaid :=
  OpenClaim.holds_of_wide 7 Tryz.f7 rfl rfl rfl rfl rfl rfl rfl ⟨rfl, rfl, rfl, rfl, rfl⟩ rfl rfl rfl rfl rfl (by kernel_rfl) Tryz.func7 (by kernel_rfl)
    (of_decide_eq_true (by kernel_rfl)) (by unfold Func.isWrapper; rw [if_neg (of_decide_eq_false (by kernel_rfl))]; exact ⟨rfl, rfl⟩)
    (fun os started H enc _ => evalSums_lifted os started H enc)
theorem evalSums_card : Rows.EvalSumsCardSaid :=
  Claim7.holds_tied_plain_at .later [] [.data] true (true, "dad5946ae5211f6ca16c1d0b774a8f70a96f95c421f047f3dddbc9f7b8b60996") false
    evalSums_holds (fun _ h => by cases h) (by kernel_rfl) (fun _ h => by cases h) evalSums_row_tie rfl ⟨rfl, rfl⟩ (by kernel_rfl) rfl
    (fun f fn hf hfn => by
      obtain rfl : f = 7 := Option.some.inj ((show Tryz.prog.funcNamed "kiln/kilnlaw10.EvalSums" = some 7 by kernel_rfl).symm.trans hf) |>.symm
      obtain rfl : fn = Tryz.f7 := (Option.some.inj (Tryz.func7.symm.trans hfn)).symm
      exact ⟨by kernel_rfl, fun j t ht => by
        rw [Tryz.params7] at ht
        have hm := Array.mem_of_getElem? ht
        exact noStand (by simp at hm; rcases hm with h | h <;> simp [h])⟩)
    (by kernel_rfl)
#print axioms evalSums_card
end Go.Proofs.YtgdefgnmabjmcaaGreatDoor

