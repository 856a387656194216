/- PROVED: the Go function kilnlaw16.VmOwn (two ints in, one bool out) returns true for every input, and leaves its arguments as they were: the tied card kilnlaw16.VmOwnCardSaid. CONDITIONS: none beyond the card's own (the listed package variables hold what the program's text lays; the card ties it). The way: the code is turned into abstract code, checked by the kernel to be what the program has (text Code), an abstract run is proved to stand for the run of the model (texts EngA to EngF), the abstract code is proved to do what plain functions of values do (Plain, PlainR), and the 4 cases are run by the kernel. -/
import Derived.Test.YtdplchkljbfjdaaGreatDoorCaseA
import Derived.Test.YtdplchkljbfjdaaGreatDoorCaseB
import Derived.Test.YtdplchkljbfjdaaGreatDoorCaseC
import Derived.Test.YtdplchkljbfjdaaGreatDoorCaseD
import Derived.Test.YtdplchkljbfjdaaGreatDoorSeat
import Derived.Test.YtdplchkljbfjdaaGreatDoorTie
import Derived.Test.YtdplchkljbfjdaaGreatDoorCards
import Derived.SevenTiedAt
set_option linter.unusedVariables false
set_option linter.unusedSimpArgs false
set_option maxRecDepth 100000
namespace Go.R5.VA
open Go.Eng Go.R5
attribute [local irreducible] tt
theorem r_0 (z x : Int) (w : (Lit.int .i64 x).wf = true) : tt z x 0 := (c0 z x).mpr (by rw [w_zero w]; exact ⟨s_same x, s_same x, n_same x, n_same x, trivial⟩)
theorem r_1 (z x : Int) : tt z x 1 := (c1 z x).mpr ⟨s_same _, s_same _, s_same _, n_same _, n_same _, n_same _, trivial⟩
theorem r_2 (z x : Int) : tt z x 2 := (c2 z x).mpr ⟨s_same _, s_same _, s_same _, n_same _, n_same _, n_same _, trivial⟩
theorem r_3 (z x : Int) : tt z x 3 := (c3 z x).mpr ⟨s_same _, s_same _, s_same _, n_same _, n_same _, n_same _, trivial⟩
def Row (n : Nat) : Prop := ∀ z x : Int, (Lit.int .i64 x).wf = true → tt z x n
theorem row_0 : Row 0 := r_0
theorem row_1 : Row 1 := fun z x _ => r_1 z x
theorem row_2 : Row 2 := fun z x _ => r_2 z x
theorem row_3 : Row 3 := fun z x _ => r_3 z x
attribute [local irreducible] Row
theorem row (n : Nat) (h : n < 4) : Row n := below4 (p := Row) row_0 row_1 row_2 row_3 n h
set_option maxHeartbeats 4000000
theorem ti1 (z0 z1 : Int) : ∀ callE, CallLe (runS (FS (lpF 600) G0) 600) callE → CallLe (runS fs3 600) callE → CallDet callE → tt z0 z1 (uand z0 3) → exFunL lf G0 callE [.int .i64 z0 0, .int .i64 z1 0] .e 0 isT := by
  intro callE hle hleB hd h
  unfold tt at h
  exact ti_f5 (lpF_ok 600) z0 z1 (uand z0 3) rfl hle hleB hd (by assumption)
theorem run1 (z0 z1 : Int) (h : tt z0 z1 (uand z0 3)) : Runs F G0 5 [.int .i64 z0 0, .int .i64 z1 0] .e 0 fun v _ _ => v = .bool true :=
  runs_lawQ (fs_ok (lpF_ok 600) G0) fs3_ok at_law 600 (ti1 z0 z1) h
theorem runs (z0 : Int) (z1 : Int) (w1 : (Lit.int .i64 z1).wf = true) : Runs F G0 5 [.int .i64 z0 0, .int .i64 z1 0] .e 0 fun v _ _ => v = .bool true := by
  have h := row (uand z0 3) (Nat.lt_succ_of_le (uand_spec z0 (by decide)).2)
  unfold Row at h
  exact run1 z0 z1 (h z0 z1 w1)
end Go.R5.VA

namespace Go.Proofs.YtdplchkljbfjdaaGreatDoor
open Go Go.Eng Go.ChangeShapes Go.WideShapes Go.RowKit
set_option maxRecDepth 100000
theorem vmOwn_lifted (os : Os) (started : os.Started) (H : Type) (enc : TypeId × Value → H) :
    ReturnsInHanded {} Tryz.checked os 5 .any (fun w args => (Rows.vmOwnSpec.pre enc Tryz.prog Tryz.f5 [] false w args ∧ laidMetH Tryz.prog laidL w) ∧ sizedMet enc Tryz.prog Tryz.f5 (OpenSpec.ofChange Rows.vmOwnSpec) false w args)
      (Rows.vmOwnSpec.post enc Tryz.prog Tryz.f5 false true false false) := by
  refine law_lifted (C := Tryz.checked) (F := Go.R5.F) Go.R5.fns_ok started (tb := 4) ownK (by kernel_rfl) Tryz.func5 rfl ?_ (by kernel_rfl) Tryz.underlying4 laidOut ?_
    (World.doorLaid Tryz.prog 400 os) #[.int .i64 0, .int .i64 0] 8 rfl (by kernel_rfl) (by kernel_rfl) (by kernel_rfl) (by kernel_rfl) (by kernel_rfl) (door_met os _) ?_
  · intro ds hl
    match ds, hl with
    | [d0, d1], _ => rfl
  · intro t ht
    rw [Tryz.params5] at ht
    simp at ht
    rcases ht with rfl | rfl <;> exact ⟨by kernel_rfl, of_decide_eq_true (by kernel_rfl)⟩
  · intro W args ds ps hval hA hL
    rw [Tryz.params5] at hA hval
    obtain ⟨v0, v1, d0, d1, p, q, rfl, rfl, rfl, h0, h1⟩ := trodAll_two hA
    obtain ⟨b0, k0⟩ := hval 0 3 v0 rfl rfl
    obtain ⟨b1, k1⟩ := hval 1 2 v1 rfl rfl
    obtain ⟨a0, rfl, rfl, rfl, w0⟩ := open_int Tryz.underlying3 k0 h0
    obtain ⟨a1, rfl, rfl, rfl, w1⟩ := open_int Tryz.underlying2 k1 h1
    exact ⟨Go.R5.G0, [.int .i64 a0 0, .int .i64 a1 0], of_laid hL, .cons rfl (.cons rfl .nil), Go.R5.VA.runs a0 a1 w1⟩
theorem vmOwn_holds : Rows.VmOwnSaid :=
  OpenClaim.holds_of_wide 5 Tryz.f5 rfl rfl rfl rfl rfl rfl rfl ⟨rfl, rfl, rfl, rfl, rfl⟩ rfl rfl rfl rfl rfl (by kernel_rfl) Tryz.func5 (by kernel_rfl)
    (of_decide_eq_true (by kernel_rfl)) (by unfold Func.isWrapper; rw [if_neg (of_decide_eq_false (by kernel_rfl))]; exact ⟨rfl, rfl⟩)
    (fun os started H enc _ => vmOwn_lifted os started H enc)
theorem vmOwn_card : Rows.VmOwnCardSaid :=
  Claim7.holds_tied_plain_at .later [] [.data, .data] true (true, "bf43fd562f67dd5fae7e772947f8227c92117ecea546bd574998783b9d59a92d") false
    vmOwn_holds (fun _ h => by cases h) (by kernel_rfl) (fun _ h => by cases h) vmOwn_row_tie rfl ⟨rfl, rfl⟩ (by kernel_rfl) rfl
    (fun f fn hf hfn => by
      obtain rfl : f = 5 := Option.some.inj ((show Tryz.prog.funcNamed "kiln/kilnlaw16.VmOwn" = some 5 by kernel_rfl).symm.trans hf) |>.symm
      obtain rfl : fn = Tryz.f5 := (Option.some.inj (Tryz.func5.symm.trans hfn)).symm
      exact ⟨by kernel_rfl, fun j t ht => by
        rw [Tryz.params5] at ht
        have hm := Array.mem_of_getElem? ht
        exact noStand (by simp at hm; rcases hm with h | h <;> simp [h])⟩)
    (by kernel_rfl)
#print axioms vmOwn_card
end Go.Proofs.YtdplchkljbfjdaaGreatDoor

