/- PROVED: the Go function kilnlaw10.EvalAsks (a string and an int in, one bool out) returns true for every input, and leaves its arguments as they were: the tied card kilnlaw10.EvalAsksCardSaid. CONDITIONS: none beyond the card's own (the listed package variables hold what the program's text lays; the card ties it). The way: the code is turned into abstract code, checked by the kernel to be what the program has (text Code), an abstract run is proved to stand for the run of the model (texts EngA to EngF), the abstract code is proved to do what plain functions of values do (Plain, PlainR), and the 21 cases are run by the kernel. -/
import Derived.Test.YtgdefgnmabjmcaaGreatDoorCaseA
import Derived.Test.YtgdefgnmabjmcaaGreatDoorCaseB
import Derived.Test.YtgdefgnmabjmcaaGreatDoorCaseC
import Derived.Test.YtgdefgnmabjmcaaGreatDoorCaseD
import Derived.Test.YtgdefgnmabjmcaaGreatDoorSeat
import Derived.Test.YtgdefgnmabjmcaaGreatDoorTie
import Derived.Test.YtgdefgnmabjmcaaGreatDoorCards
import Derived.SevenTiedAt
set_option linter.unusedVariables false
set_option linter.unusedSimpArgs false
set_option maxRecDepth 100000
namespace Go.R3.LN
open Go.Eng Go.R3
def Row (l c : Nat) (z : Int) (n : Nat) : Prop := ∃ fs y0 y1 y2 y3, FsOk F G0 fs ∧ tt fs l c z n y0 y1 y2 y3
theorem r_m (z : Int) (n : Nat) (h : n < 4) : Row 1 109 z n := ⟨_, _, _, _, _, fs_ok (lpF_ok 600) G0, below4 (p := fun n => tt (FS (lpF 600) G0) 1 109 z n false false true true) ((cm0 z).symm ▸ ⟨rfl, rfl, rfl, trivial⟩) ((cm1 z).symm ▸ ⟨rfl, rfl, rfl, trivial⟩) ((cm2 z).symm ▸ ⟨rfl, rfl, rfl, trivial⟩) ((cm3 z).symm ▸ ⟨rfl, rfl, rfl, trivial⟩) n h⟩
theorem r_b (z : Int) (n : Nat) (h : n < 4) : Row 1 98 z n := ⟨_, _, _, _, _, fs_ok (lpF_ok 600) G0, below4 (p := fun n => tt (FS (lpF 600) G0) 1 98 z n false true false true) ((cb0 z).symm ▸ ⟨rfl, rfl, rfl, rfl, trivial⟩) ((cb1 z).symm ▸ ⟨rfl, rfl, rfl, rfl, trivial⟩) ((cb2 z).symm ▸ ⟨rfl, rfl, rfl, rfl, trivial⟩) ((cb3 z).symm ▸ ⟨rfl, rfl, rfl, rfl, trivial⟩) n h⟩
theorem r_c (z : Int) (n : Nat) (h : n < 4) : Row 1 99 z n := ⟨_, _, _, _, _, fs_ok (lpF_ok 600) G0, below4 (p := fun n => tt (FS (lpF 600) G0) 1 99 z n false true true false) ((cc0 z).symm ▸ ⟨rfl, rfl, rfl, rfl, rfl, trivial⟩) ((cc1 z).symm ▸ ⟨rfl, rfl, rfl, rfl, rfl, trivial⟩) ((cc2 z).symm ▸ ⟨rfl, rfl, rfl, rfl, rfl, trivial⟩) ((cc3 z).symm ▸ ⟨rfl, rfl, rfl, rfl, rfl, trivial⟩) n h⟩
theorem r_d (z : Int) (n : Nat) (h : n < 4) : Row 1 100 z n := ⟨_, _, _, _, _, fs_ok (lpF_ok 600) G0, below4 (p := fun n => tt (FS (lpF 600) G0) 1 100 z n false true true true) ((cd0 z).symm ▸ ⟨rfl, rfl, rfl, rfl, trivial⟩) ((cd1 z).symm ▸ ⟨rfl, rfl, rfl, rfl, trivial⟩) ((cd2 z).symm ▸ ⟨rfl, rfl, rfl, rfl, trivial⟩) ((cd3 z).symm ▸ ⟨rfl, rfl, rfl, rfl, trivial⟩) n h⟩
theorem r_o {l c : Nat} (hl : ¬ 40 < l) (h1 : ¬ (l = 1 ∧ c = 109)) (h2 : ¬ (l = 1 ∧ c = 98)) (h3 : ¬ (l = 1 ∧ c = 99)) (h4 : ¬ (l = 1 ∧ c = 100)) (z : Int) (n : Nat) (h : n < 4) : Row l c z n := by
  have g : Other l c := ⟨long (by simpa using hl), ne h1, ne h2, ne h3, nq h2, nq h3, nq h4, nq h1, trivial⟩
  exact ⟨_, _, _, _, _, fs2_ok, below4 (p := fun n => tt fs2 l c z n false true true true) ((co0 l c z).symm ▸ g) ((co1 l c z).symm ▸ g) ((co2 l c z).symm ▸ g) ((co3 l c z).symm ▸ g) n h⟩
theorem row (l c : Nat) (z : Int) (n : Nat) (h : n < 4) : Row l c z n := by
  by_cases hl : 40 < l
  · exact ⟨fs2, true, true, true, true, fs2_ok, (cl l c z n).symm ▸ ⟨long (by simpa using hl), trivial⟩⟩
  by_cases h1 : l = 1 ∧ c = 109
  · rw [h1.1, h1.2]; exact r_m z n h
  by_cases h2 : l = 1 ∧ c = 98
  · rw [h2.1, h2.2]; exact r_b z n h
  by_cases h3 : l = 1 ∧ c = 99
  · rw [h3.1, h3.2]; exact r_c z n h
  by_cases h4 : l = 1 ∧ c = 100
  · rw [h4.1, h4.2]; exact r_d z n h
  exact r_o hl h1 h2 h3 h4 z n h
theorem runs (l0 c0 : Nat) (z1 : Int) : Runs F G0 9 [.str l0 c0, .int .i64 z1 0] .e 0 fun v _ _ => v = .bool true := by
  obtain ⟨fs, y0, y1, y2, y3, hf, h⟩ := row l0 c0 z1 (uand z1 3) (Nat.lt_succ_of_le (uand_spec z1 (by decide)).2)
  exact runs_lawP2 (fs_ok (lpF_ok 600) G0) hf at_law 600 (t := fun k => t_f9 (lpF 600) G0 (runS (FS (lpF 600) G0) 600) (runS fs 600) l0 c0 z1 (uand z1 3) y0 y1 y2 y3 .e 0 k) (fun callE hle hleB hd h => ti_f9 (lpF_ok 600) l0 c0 z1 (uand z1 3) y0 y1 y2 y3 rfl hle hleB hd h) h
end Go.R3.LN

namespace Go.Proofs.YtgdefgnmabjmcaaGreatDoor
open Go Go.Eng Go.ChangeShapes Go.WideShapes Go.RowKit
set_option maxRecDepth 100000
theorem evalAsks_lifted (os : Os) (started : os.Started) (H : Type) (enc : TypeId × Value → H) :
    ReturnsInHanded {} Tryz.checked os 9 .any (fun w args => (Rows.evalAsksSpec.pre enc Tryz.prog Tryz.f9 [] false w args ∧ laidMetH Tryz.prog laidL w) ∧ sizedMet enc Tryz.prog Tryz.f9 (OpenSpec.ofChange Rows.evalAsksSpec) false w args)
      (Rows.evalAsksSpec.post enc Tryz.prog Tryz.f9 false true false false) := by
  refine law_lifted (C := Tryz.checked) (F := Go.R3.F) Go.R3.fns_ok started (tb := 4) ownK (by kernel_rfl) Tryz.func9 rfl ?_ (by kernel_rfl) Tryz.underlying4 laidOut ?_
    (World.doorLaid Tryz.prog 400 os) #[.string ⟨#[]⟩, .int .i64 0] 8 rfl (by kernel_rfl) (by kernel_rfl) (by kernel_rfl) (by kernel_rfl) (by kernel_rfl) (door_met os _) ?_
  · intro ds hl
    match ds, hl with
    | [d0, d1], _ => rfl
  · intro t ht
    rw [Tryz.params9] at ht
    simp at ht
    rcases ht with rfl | rfl <;> exact ⟨by kernel_rfl, of_decide_eq_true (by kernel_rfl)⟩
  · intro W args ds ps hval hA hL
    rw [Tryz.params9] at hA hval
    obtain ⟨v0, v1, d0, d1, p, q, rfl, rfl, rfl, h0, h1⟩ := trodAll_two hA
    obtain ⟨b0, k0⟩ := hval 0 9 v0 rfl rfl
    obtain ⟨b1, k1⟩ := hval 1 3 v1 rfl rfl
    obtain ⟨a0, rfl⟩ := okWide_string Tryz.underlying9 k0
    obtain ⟨a1, rfl, rfl, rfl, w1⟩ := open_int Tryz.underlying3 k1 h1
    exact ⟨Go.R3.G0, [.str a0.data.toList.length (Go.Eng.enc a0.data.toList), .int .i64 a1 0], of_laid hL, .cons ⟨a0, rfl, rfl, rfl⟩ (.cons rfl .nil), Go.R3.LN.runs _ _ a1⟩
theorem evalAsks_holds : Rows.EvalAsksSaid :=
  OpenClaim.holds_of_wide 9 Tryz.f9 rfl rfl rfl rfl rfl rfl rfl ⟨rfl, rfl, rfl, rfl, rfl⟩ rfl rfl rfl rfl rfl (by kernel_rfl) Tryz.func9 (by kernel_rfl)
    (of_decide_eq_true (by kernel_rfl)) (by unfold Func.isWrapper; rw [if_neg (of_decide_eq_false (by kernel_rfl))]; exact ⟨rfl, rfl⟩)
    (fun os started H enc _ => evalAsks_lifted os started H enc)
theorem evalAsks_card : Rows.EvalAsksCardSaid :=
  Claim7.holds_tied_plain_at .later [] [.data] true (true, "dad5946ae5211f6ca16c1d0b774a8f70a96f95c421f047f3dddbc9f7b8b60996") false
    evalAsks_holds (fun _ h => by cases h) (by kernel_rfl) (fun _ h => by cases h) evalAsks_row_tie rfl ⟨rfl, rfl⟩ (by kernel_rfl) rfl
    (fun f fn hf hfn => by
      obtain rfl : f = 9 := Option.some.inj ((show Tryz.prog.funcNamed "kiln/kilnlaw10.EvalAsks" = some 9 by kernel_rfl).symm.trans hf) |>.symm
      obtain rfl : fn = Tryz.f9 := (Option.some.inj (Tryz.func9.symm.trans hfn)).symm
      exact ⟨by kernel_rfl, fun j t ht => by
        rw [Tryz.params9] at ht
        have hm := Array.mem_of_getElem? ht
        exact noStand (by simp at hm; rcases hm with h | h <;> simp [h])⟩)
    (by kernel_rfl)
#print axioms evalAsks_card
end Go.Proofs.YtgdefgnmabjmcaaGreatDoor

