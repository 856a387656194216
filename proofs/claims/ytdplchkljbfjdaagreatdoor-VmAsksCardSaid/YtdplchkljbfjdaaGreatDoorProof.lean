/- PROVED: the Go function kilnlaw16.VmAsks (a string and an int in, one bool out) returns true for every input, and leaves its arguments as they were: the tied card kilnlaw16.VmAsksCardSaid. CONDITIONS: none beyond the card's own (the listed package variables hold what the program's text lays; the card ties it). The way: the code is turned into abstract code, checked by the kernel to be what the program has (text Code), an abstract run is proved to stand for the run of the model (texts EngA to EngF), the abstract code is proved to do what plain functions of values do (Plain, PlainR), and the 21 cases are run by the kernel. -/
import Derived.Test.YtdplchkljbfjdaaGreatDoorCaseA
import Derived.Test.YtdplchkljbfjdaaGreatDoorCaseB
import Derived.Test.YtdplchkljbfjdaaGreatDoorCaseC
import Derived.Test.YtdplchkljbfjdaaGreatDoorCaseD
import Derived.Test.YtdplchkljbfjdaaGreatDoorSeat
import Derived.Test.YtdplchkljbfjdaaGreatDoorTie
import Derived.Test.YtdplchkljbfjdaaGreatDoorCards
import Derived.SevenTiedAt
set_option linter.unusedVariables false
set_option linter.unusedSimpArgs false
set_option maxRecDepth 100000
namespace Go.R5.VB
open Go.Eng Go.R5
def Row (l c : Nat) (z : Int) (n : Nat) : Prop := ∃ fs y0, FsOk F G0 fs ∧ tt fs l c z n y0
theorem r_m (z : Int) (n : Nat) (h : n < 4) : Row 1 109 z n := ⟨_, _, fs_ok (lpF_ok 600) G0, below4 (p := fun n => tt (FS (lpF 600) G0) 1 109 z n false ) ((cm0 z).mpr ⟨rfl, trivial⟩) ((cm1 z).mpr ⟨rfl, trivial⟩) ((cm2 z).mpr ⟨rfl, trivial⟩) ((cm3 z).mpr ⟨rfl, trivial⟩) n h⟩
theorem r_b (z : Int) (n : Nat) (h : n < 4) : Row 1 98 z n := ⟨_, _, fs_ok (lpF_ok 600) G0, below4 (p := fun n => tt (FS (lpF 600) G0) 1 98 z n false ) ((cb0 z).mpr ⟨rfl, trivial⟩) ((cb1 z).mpr ⟨rfl, trivial⟩) ((cb2 z).mpr ⟨rfl, trivial⟩) ((cb3 z).mpr ⟨rfl, trivial⟩) n h⟩
theorem r_c (z : Int) (n : Nat) (h : n < 4) : Row 1 99 z n := ⟨_, _, fs_ok (lpF_ok 600) G0, below4 (p := fun n => tt (FS (lpF 600) G0) 1 99 z n false ) ((cc0 z).mpr ⟨rfl, trivial⟩) ((cc1 z).mpr ⟨rfl, trivial⟩) ((cc2 z).mpr ⟨rfl, trivial⟩) ((cc3 z).mpr ⟨rfl, trivial⟩) n h⟩
theorem r_d (z : Int) (n : Nat) (h : n < 4) : Row 1 100 z n := ⟨_, _, fs_ok (lpF_ok 600) G0, below4 (p := fun n => tt (FS (lpF 600) G0) 1 100 z n false ) ((cd0 z).mpr ⟨rfl, trivial⟩) ((cd1 z).mpr ⟨rfl, trivial⟩) ((cd2 z).mpr ⟨rfl, trivial⟩) ((cd3 z).mpr ⟨rfl, trivial⟩) n h⟩
theorem r_o {l c : Nat} (hl : ¬ 40 < l) (h1 : ¬ (l = 1 ∧ c = 109)) (h2 : ¬ (l = 1 ∧ c = 98)) (h3 : ¬ (l = 1 ∧ c = 99)) (h4 : ¬ (l = 1 ∧ c = 100)) (z : Int) (n : Nat) (h : n < 4) : Row l c z n := by
  have g : Other l c := ⟨long (by simpa using hl), nq h2, nq h3, nq h4, nq h1, nq h2, nq h3, nq h4, nq h1, trivial⟩
  exact ⟨_, _, fs2_ok, below4 (p := fun n => tt fs2 l c z n false) ((co0 l c z).mpr g) ((co1 l c z).mpr g) ((co2 l c z).mpr g) ((co3 l c z).mpr g) n h⟩
theorem row (l c : Nat) (z : Int) (n : Nat) (h : n < 4) : Row l c z n := by
  by_cases hl : 40 < l
  · exact ⟨fs2, true, fs2_ok, (cl l c z n).mpr ⟨long (by simpa using hl), trivial⟩⟩
  by_cases h1 : l = 1 ∧ c = 109
  · rw [h1.1, h1.2]; exact r_m z n h
  by_cases h2 : l = 1 ∧ c = 98
  · rw [h2.1, h2.2]; exact r_b z n h
  by_cases h3 : l = 1 ∧ c = 99
  · rw [h3.1, h3.2]; exact r_c z n h
  by_cases h4 : l = 1 ∧ c = 100
  · rw [h4.1, h4.2]; exact r_d z n h
  exact r_o hl h1 h2 h3 h4 z n h
set_option maxHeartbeats 4000000
theorem runs (l0 c0 : Nat) (z1 : Int) : Runs F G0 7 [.str l0 c0, .int .i64 z1 0] .e 0 fun v _ _ => v = .bool true := by
  obtain ⟨fs, y0, hf, h⟩ := row l0 c0 z1 (uand z1 3) (Nat.lt_succ_of_le (uand_spec z1 (by decide)).2)
  exact runs_lawP2 (fs_ok (lpF_ok 600) G0) hf at_law 600 (t := fun k => t_f7 (lpF 600) G0 (runS (FS (lpF 600) G0) 600) (runS fs 600) l0 c0 z1 (uand z1 3) y0 .e 0 k) (fun callE hle hleB hd h => ti_f7 (lpF_ok 600) l0 c0 z1 (uand z1 3) y0 rfl hle hleB hd h) (by unfold tt at h; exact h)
end Go.R5.VB

namespace Go.Proofs.YtdplchkljbfjdaaGreatDoor
open Go Go.Eng Go.ChangeShapes Go.WideShapes Go.RowKit
set_option maxRecDepth 100000
theorem vmAsks_lifted (os : Os) (started : os.Started) (H : Type) (enc : TypeId × Value → H) :
    ReturnsInHanded {} Tryz.checked os 7 .any (fun w args => (Rows.vmAsksSpec.pre enc Tryz.prog Tryz.f7 [] false w args ∧ laidMetH Tryz.prog laidL w) ∧ sizedMet enc Tryz.prog Tryz.f7 (OpenSpec.ofChange Rows.vmAsksSpec) false w args)
      (Rows.vmAsksSpec.post enc Tryz.prog Tryz.f7 false true false false) := by
  refine law_lifted (C := Tryz.checked) (F := Go.R5.F) Go.R5.fns_ok started (tb := 4) ownK (by kernel_rfl) Tryz.func7 rfl ?_ (by kernel_rfl) Tryz.underlying4 laidOut ?_
    (World.doorLaid Tryz.prog 400 os) #[.string ⟨#[]⟩, .int .i64 0] 8 rfl (by kernel_rfl) (by kernel_rfl) (by kernel_rfl) (by kernel_rfl) (by kernel_rfl) (door_met os _) ?_
  · intro ds hl
    match ds, hl with
    | [d0, d1], _ => rfl
  · intro t ht
    rw [Tryz.params7] at ht
    simp at ht
    rcases ht with rfl | rfl <;> exact ⟨by kernel_rfl, of_decide_eq_true (by kernel_rfl)⟩
  · intro W args ds ps hval hA hL
    rw [Tryz.params7] at hA hval
    obtain ⟨v0, v1, d0, d1, p, q, rfl, rfl, rfl, h0, h1⟩ := trodAll_two hA
    obtain ⟨b0, k0⟩ := hval 0 9 v0 rfl rfl
    obtain ⟨b1, k1⟩ := hval 1 3 v1 rfl rfl
    obtain ⟨a0, rfl⟩ := okWide_string Tryz.underlying9 k0
    obtain ⟨a1, rfl, rfl, rfl, w1⟩ := open_int Tryz.underlying3 k1 h1
    exact ⟨Go.R5.G0, [.str a0.data.toList.length (Go.Eng.enc a0.data.toList), .int .i64 a1 0], of_laid hL, .cons ⟨a0, rfl, rfl, rfl⟩ (.cons rfl .nil), Go.R5.VB.runs _ _ a1⟩
theorem vmAsks_holds : Rows.VmAsksSaid :=
  OpenClaim.holds_of_wide 7 Tryz.f7 rfl rfl rfl rfl rfl rfl rfl ⟨rfl, rfl, rfl, rfl, rfl⟩ rfl rfl rfl rfl rfl (by kernel_rfl) Tryz.func7 (by kernel_rfl)
    (of_decide_eq_true (by kernel_rfl)) (by unfold Func.isWrapper; rw [if_neg (of_decide_eq_false (by kernel_rfl))]; exact ⟨rfl, rfl⟩)
    (fun os started H enc _ => vmAsks_lifted os started H enc)
theorem vmAsks_card : Rows.VmAsksCardSaid :=
  Claim7.holds_tied_plain_at .later [] [.data, .data] true (true, "bf43fd562f67dd5fae7e772947f8227c92117ecea546bd574998783b9d59a92d") false
    vmAsks_holds (fun _ h => by cases h) (by kernel_rfl) (fun _ h => by cases h) vmAsks_row_tie rfl ⟨rfl, rfl⟩ (by kernel_rfl) rfl
    (fun f fn hf hfn => by
      obtain rfl : f = 7 := Option.some.inj ((show Tryz.prog.funcNamed "kiln/kilnlaw16.VmAsks" = some 7 by kernel_rfl).symm.trans hf) |>.symm
      obtain rfl : fn = Tryz.f7 := (Option.some.inj (Tryz.func7.symm.trans hfn)).symm
      exact ⟨by kernel_rfl, fun j t ht => by
        rw [Tryz.params7] at ht
        have hm := Array.mem_of_getElem? ht
        exact noStand (by simp at hm; rcases hm with h | h <;> simp [h])⟩)
    (by kernel_rfl)
#print axioms vmAsks_card
end Go.Proofs.YtdplchkljbfjdaaGreatDoor

