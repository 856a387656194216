/- PROVED: the Go function kilnlaw10.EvalObjects (four ints in, one bool out) returns true for every input, and leaves its arguments as they were: the tied card kilnlaw10.EvalObjectsCardSaid. CONDITIONS: none beyond the card's own (the listed package variables hold what the program's text lays; the card ties it). The way: the code is turned into abstract code, checked by the kernel to be what the program has (text Code), an abstract run is proved to stand for the run of the model (texts EngA to EngF), the abstract code is proved to do what plain functions of values do (Plain, PlainR), and the 152 cases are run by the kernel. -/
import Derived.Test.YtmbhlmocojopaaaGreatDoorCaseA
import Derived.Test.YtmbhlmocojopaaaGreatDoorCaseB
import Derived.Test.YtmbhlmocojopaaaGreatDoorCaseC
import Derived.Test.YtmbhlmocojopaaaGreatDoorCaseD
import Derived.Test.YtmbhlmocojopaaaGreatDoorCaseE
import Derived.Test.YtmbhlmocojopaaaGreatDoorCaseF
import Derived.Test.YtmbhlmocojopaaaGreatDoorCaseG
import Derived.Test.YtmbhlmocojopaaaGreatDoorCaseH
import Derived.Test.YtmbhlmocojopaaaGreatDoorSeat
import Derived.Test.YtmbhlmocojopaaaGreatDoorTie
import Derived.Test.YtmbhlmocojopaaaGreatDoorCards
import Derived.SevenTiedAt
set_option linter.unusedVariables false
set_option linter.unusedSimpArgs false
set_option maxRecDepth 100000
namespace Go.R3.LK
open Go.Eng Go.R3
theorem row0 (z0 z1 x y : Int) (r : Nat) : ∀ w, w < 2 → tt z0 z1 x y 0 r w = Goal r 2 w x y
  | 0, _ => c0k0 z0 z1 x y r
  | 1, _ => c0k1 z0 z1 x y r
  | w + 2, h => absurd h (by omega)
theorem row1 (z0 z1 x y : Int) (r : Nat) : ∀ w, w < 3 → tt z0 z1 x y 1 r w = Goal r 3 w x y
  | 0, _ => c1k0 z0 z1 x y r
  | 1, _ => c1k1 z0 z1 x y r
  | 2, _ => c1k2 z0 z1 x y r
  | w + 3, h => absurd h (by omega)
theorem row2 (z0 z1 x y : Int) (r : Nat) : ∀ w, w < 4 → tt z0 z1 x y 2 r w = Goal r 4 w x y
  | 0, _ => c2k0 z0 z1 x y r
  | 1, _ => c2k1 z0 z1 x y r
  | 2, _ => c2k2 z0 z1 x y r
  | 3, _ => c2k3 z0 z1 x y r
  | w + 4, h => absurd h (by omega)
theorem row3 (z0 z1 x y : Int) (r : Nat) : ∀ w, w < 5 → tt z0 z1 x y 3 r w = Goal r 5 w x y
  | 0, _ => c3k0 z0 z1 x y r
  | 1, _ => c3k1 z0 z1 x y r
  | 2, _ => c3k2 z0 z1 x y r
  | 3, _ => c3k3 z0 z1 x y r
  | 4, _ => c3k4 z0 z1 x y r
  | w + 5, h => absurd h (by omega)
theorem row4 (z0 z1 x y : Int) (r : Nat) : ∀ w, w < 6 → tt z0 z1 x y 4 r w = Goal r 6 w x y
  | 0, _ => c4k0 z0 z1 x y r
  | 1, _ => c4k1 z0 z1 x y r
  | 2, _ => c4k2 z0 z1 x y r
  | 3, _ => c4k3 z0 z1 x y r
  | 4, _ => c4k4 z0 z1 x y r
  | 5, _ => c4k5 z0 z1 x y r
  | w + 6, h => absurd h (by omega)
theorem row5 (z0 z1 x y : Int) (r : Nat) : ∀ w, w < 7 → tt z0 z1 x y 5 r w = Goal r 7 w x y
  | 0, _ => c5k0 z0 z1 x y r
  | 1, _ => c5k1 z0 z1 x y r
  | 2, _ => c5k2 z0 z1 x y r
  | 3, _ => c5k3 z0 z1 x y r
  | 4, _ => c5k4 z0 z1 x y r
  | 5, _ => c5k5 z0 z1 x y r
  | 6, _ => c5k6 z0 z1 x y r
  | w + 7, h => absurd h (by omega)
theorem row6 (z0 z1 x y : Int) (r : Nat) : ∀ w, w < 8 → tt z0 z1 x y 6 r w = Goal r 8 w x y
  | 0, _ => c6k0 z0 z1 x y r
  | 1, _ => c6k1 z0 z1 x y r
  | 2, _ => c6k2 z0 z1 x y r
  | 3, _ => c6k3 z0 z1 x y r
  | 4, _ => c6k4 z0 z1 x y r
  | 5, _ => c6k5 z0 z1 x y r
  | 6, _ => c6k6 z0 z1 x y r
  | 7, _ => c6k7 z0 z1 x y r
  | w + 8, h => absurd h (by omega)
theorem row7 (z0 z1 x y : Int) (r : Nat) : ∀ w, w < 9 → tt z0 z1 x y 7 r w = Goal r 9 w x y
  | 0, _ => c7k0 z0 z1 x y r
  | 1, _ => c7k1 z0 z1 x y r
  | 2, _ => c7k2 z0 z1 x y r
  | 3, _ => c7k3 z0 z1 x y r
  | 4, _ => c7k4 z0 z1 x y r
  | 5, _ => c7k5 z0 z1 x y r
  | 6, _ => c7k6 z0 z1 x y r
  | 7, _ => c7k7 z0 z1 x y r
  | 8, _ => c7k8 z0 z1 x y r
  | w + 9, h => absurd h (by omega)
theorem row8 (z0 z1 x y : Int) (r : Nat) : ∀ w, w < 10 → tt z0 z1 x y 8 r w = Goal r 10 w x y
  | 0, _ => c8k0 z0 z1 x y r
  | 1, _ => c8k1 z0 z1 x y r
  | 2, _ => c8k2 z0 z1 x y r
  | 3, _ => c8k3 z0 z1 x y r
  | 4, _ => c8k4 z0 z1 x y r
  | 5, _ => c8k5 z0 z1 x y r
  | 6, _ => c8k6 z0 z1 x y r
  | 7, _ => c8k7 z0 z1 x y r
  | 8, _ => c8k8 z0 z1 x y r
  | 9, _ => c8k9 z0 z1 x y r
  | w + 10, h => absurd h (by omega)
theorem row9 (z0 z1 x y : Int) (r : Nat) : ∀ w, w < 11 → tt z0 z1 x y 9 r w = Goal r 11 w x y
  | 0, _ => c9k0 z0 z1 x y r
  | 1, _ => c9k1 z0 z1 x y r
  | 2, _ => c9k2 z0 z1 x y r
  | 3, _ => c9k3 z0 z1 x y r
  | 4, _ => c9k4 z0 z1 x y r
  | 5, _ => c9k5 z0 z1 x y r
  | 6, _ => c9k6 z0 z1 x y r
  | 7, _ => c9k7 z0 z1 x y r
  | 8, _ => c9k8 z0 z1 x y r
  | 9, _ => c9k9 z0 z1 x y r
  | 10, _ => c9k10 z0 z1 x y r
  | w + 11, h => absurd h (by omega)
theorem row10 (z0 z1 x y : Int) (r : Nat) : ∀ w, w < 12 → tt z0 z1 x y 10 r w = Goal r 12 w x y
  | 0, _ => c10k0 z0 z1 x y r
  | 1, _ => c10k1 z0 z1 x y r
  | 2, _ => c10k2 z0 z1 x y r
  | 3, _ => c10k3 z0 z1 x y r
  | 4, _ => c10k4 z0 z1 x y r
  | 5, _ => c10k5 z0 z1 x y r
  | 6, _ => c10k6 z0 z1 x y r
  | 7, _ => c10k7 z0 z1 x y r
  | 8, _ => c10k8 z0 z1 x y r
  | 9, _ => c10k9 z0 z1 x y r
  | 10, _ => c10k10 z0 z1 x y r
  | 11, _ => c10k11 z0 z1 x y r
  | w + 12, h => absurd h (by omega)
theorem row11 (z0 z1 x y : Int) (r : Nat) : ∀ w, w < 13 → tt z0 z1 x y 11 r w = Goal r 13 w x y
  | 0, _ => c11k0 z0 z1 x y r
  | 1, _ => c11k1 z0 z1 x y r
  | 2, _ => c11k2 z0 z1 x y r
  | 3, _ => c11k3 z0 z1 x y r
  | 4, _ => c11k4 z0 z1 x y r
  | 5, _ => c11k5 z0 z1 x y r
  | 6, _ => c11k6 z0 z1 x y r
  | 7, _ => c11k7 z0 z1 x y r
  | 8, _ => c11k8 z0 z1 x y r
  | 9, _ => c11k9 z0 z1 x y r
  | 10, _ => c11k10 z0 z1 x y r
  | 11, _ => c11k11 z0 z1 x y r
  | 12, _ => c11k12 z0 z1 x y r
  | w + 13, h => absurd h (by omega)
theorem row12 (z0 z1 x y : Int) (r : Nat) : ∀ w, w < 14 → tt z0 z1 x y 12 r w = Goal r 14 w x y
  | 0, _ => c12k0 z0 z1 x y r
  | 1, _ => c12k1 z0 z1 x y r
  | 2, _ => c12k2 z0 z1 x y r
  | 3, _ => c12k3 z0 z1 x y r
  | 4, _ => c12k4 z0 z1 x y r
  | 5, _ => c12k5 z0 z1 x y r
  | 6, _ => c12k6 z0 z1 x y r
  | 7, _ => c12k7 z0 z1 x y r
  | 8, _ => c12k8 z0 z1 x y r
  | 9, _ => c12k9 z0 z1 x y r
  | 10, _ => c12k10 z0 z1 x y r
  | 11, _ => c12k11 z0 z1 x y r
  | 12, _ => c12k12 z0 z1 x y r
  | 13, _ => c12k13 z0 z1 x y r
  | w + 14, h => absurd h (by omega)
theorem row13 (z0 z1 x y : Int) (r : Nat) : ∀ w, w < 15 → tt z0 z1 x y 13 r w = Goal r 15 w x y
  | 0, _ => c13k0 z0 z1 x y r
  | 1, _ => c13k1 z0 z1 x y r
  | 2, _ => c13k2 z0 z1 x y r
  | 3, _ => c13k3 z0 z1 x y r
  | 4, _ => c13k4 z0 z1 x y r
  | 5, _ => c13k5 z0 z1 x y r
  | 6, _ => c13k6 z0 z1 x y r
  | 7, _ => c13k7 z0 z1 x y r
  | 8, _ => c13k8 z0 z1 x y r
  | 9, _ => c13k9 z0 z1 x y r
  | 10, _ => c13k10 z0 z1 x y r
  | 11, _ => c13k11 z0 z1 x y r
  | 12, _ => c13k12 z0 z1 x y r
  | 13, _ => c13k13 z0 z1 x y r
  | 14, _ => c13k14 z0 z1 x y r
  | w + 15, h => absurd h (by omega)
theorem row14 (z0 z1 x y : Int) (r : Nat) : ∀ w, w < 16 → tt z0 z1 x y 14 r w = Goal r 16 w x y
  | 0, _ => c14k0 z0 z1 x y r
  | 1, _ => c14k1 z0 z1 x y r
  | 2, _ => c14k2 z0 z1 x y r
  | 3, _ => c14k3 z0 z1 x y r
  | 4, _ => c14k4 z0 z1 x y r
  | 5, _ => c14k5 z0 z1 x y r
  | 6, _ => c14k6 z0 z1 x y r
  | 7, _ => c14k7 z0 z1 x y r
  | 8, _ => c14k8 z0 z1 x y r
  | 9, _ => c14k9 z0 z1 x y r
  | 10, _ => c14k10 z0 z1 x y r
  | 11, _ => c14k11 z0 z1 x y r
  | 12, _ => c14k12 z0 z1 x y r
  | 13, _ => c14k13 z0 z1 x y r
  | 14, _ => c14k14 z0 z1 x y r
  | 15, _ => c14k15 z0 z1 x y r
  | w + 16, h => absurd h (by omega)
theorem row15 (z0 z1 x y : Int) (r : Nat) : ∀ w, w < 17 → tt z0 z1 x y 15 r w = Goal r 17 w x y
  | 0, _ => c15k0 z0 z1 x y r
  | 1, _ => c15k1 z0 z1 x y r
  | 2, _ => c15k2 z0 z1 x y r
  | 3, _ => c15k3 z0 z1 x y r
  | 4, _ => c15k4 z0 z1 x y r
  | 5, _ => c15k5 z0 z1 x y r
  | 6, _ => c15k6 z0 z1 x y r
  | 7, _ => c15k7 z0 z1 x y r
  | 8, _ => c15k8 z0 z1 x y r
  | 9, _ => c15k9 z0 z1 x y r
  | 10, _ => c15k10 z0 z1 x y r
  | 11, _ => c15k11 z0 z1 x y r
  | 12, _ => c15k12 z0 z1 x y r
  | 13, _ => c15k13 z0 z1 x y r
  | 14, _ => c15k14 z0 z1 x y r
  | 15, _ => c15k15 z0 z1 x y r
  | 16, _ => c15k16 z0 z1 x y r
  | w + 17, h => absurd h (by omega)
theorem row (n : Nat) (h : n < 16) : ∀ z0 z1 x y : Int, ∀ r : Nat, tt z0 z1 x y n r (r % (n + 1 + 1)) := below16 (p := fun n => ∀ z0 z1 x y : Int, ∀ r : Nat, tt z0 z1 x y n r (r % (n + 1 + 1))) (fun a b x y r => (row0 a b x y r (r % 2) (Nat.mod_lt _ (by decide))).symm ▸ goal r 1 x y) (fun a b x y r => (row1 a b x y r (r % 3) (Nat.mod_lt _ (by decide))).symm ▸ goal r 2 x y) (fun a b x y r => (row2 a b x y r (r % 4) (Nat.mod_lt _ (by decide))).symm ▸ goal r 3 x y) (fun a b x y r => (row3 a b x y r (r % 5) (Nat.mod_lt _ (by decide))).symm ▸ goal r 4 x y) (fun a b x y r => (row4 a b x y r (r % 6) (Nat.mod_lt _ (by decide))).symm ▸ goal r 5 x y) (fun a b x y r => (row5 a b x y r (r % 7) (Nat.mod_lt _ (by decide))).symm ▸ goal r 6 x y) (fun a b x y r => (row6 a b x y r (r % 8) (Nat.mod_lt _ (by decide))).symm ▸ goal r 7 x y) (fun a b x y r => (row7 a b x y r (r % 9) (Nat.mod_lt _ (by decide))).symm ▸ goal r 8 x y) (fun a b x y r => (row8 a b x y r (r % 10) (Nat.mod_lt _ (by decide))).symm ▸ goal r 9 x y) (fun a b x y r => (row9 a b x y r (r % 11) (Nat.mod_lt _ (by decide))).symm ▸ goal r 10 x y) (fun a b x y r => (row10 a b x y r (r % 12) (Nat.mod_lt _ (by decide))).symm ▸ goal r 11 x y) (fun a b x y r => (row11 a b x y r (r % 13) (Nat.mod_lt _ (by decide))).symm ▸ goal r 12 x y) (fun a b x y r => (row12 a b x y r (r % 14) (Nat.mod_lt _ (by decide))).symm ▸ goal r 13 x y) (fun a b x y r => (row13 a b x y r (r % 15) (Nat.mod_lt _ (by decide))).symm ▸ goal r 14 x y) (fun a b x y r => (row14 a b x y r (r % 16) (Nat.mod_lt _ (by decide))).symm ▸ goal r 15 x y) (fun a b x y r => (row15 a b x y r (r % 17) (Nat.mod_lt _ (by decide))).symm ▸ goal r 16 x y) n h
theorem runs (z0 : Int) (z1 : Int) (z2 : Int) (z3 : Int) : Runs F G0 7 [.int .i64 z0 0, .int .i64 z1 0, .int .i64 z2 0, .int .i64 z3 0] .e 0 fun v _ _ => v = .bool true :=
  runs_lawP (fs_ok (lpF_ok 600) G0) at_law 600 (t := fun k => t_f7 (lpF 600) G0 (runS (FS (lpF 600) G0) 600) z0 z1 z2 z3 (uand z0 15) (uand z1 255) (uand z1 255 % (uand z0 15 + 1 + 1)) .e 0 k) (fun callE hle hd h => ti_f7 (lpF_ok 600) z0 z1 z2 z3 (uand z0 15) (uand z1 255) (uand z1 255 % (uand z0 15 + 1 + 1)) rfl rfl hle hd h)
    (row (uand z0 15) (Nat.lt_succ_of_le (uand_spec z0 (by decide)).2) z0 z1 z2 z3 (uand z1 255))
end Go.R3.LK

namespace Go.Proofs.YtmbhlmocojopaaaGreatDoor
open Go Go.Eng Go.ChangeShapes Go.WideShapes Go.RowKit
set_option maxRecDepth 100000
theorem evalObjects_lifted (os : Os) (started : os.Started) (H : Type) (enc : TypeId × Value → H) :
    ReturnsInHanded {} Tryz.checked os 7 .any (fun w args => (Rows.evalObjectsSpec.pre enc Tryz.prog Tryz.f7 [] false w args ∧ laidMetH Tryz.prog laidL w) ∧ sizedMet enc Tryz.prog Tryz.f7 (OpenSpec.ofChange Rows.evalObjectsSpec) false w args)
      (Rows.evalObjectsSpec.post enc Tryz.prog Tryz.f7 false true false false) := by
  refine law_lifted (C := Tryz.checked) (F := Go.R3.F) Go.R3.fns_ok started (tb := 4) ownK (by kernel_rfl) Tryz.func7 rfl ?_ (by kernel_rfl) Tryz.underlying4 laidOut ?_
    (World.doorLaid Tryz.prog 400 os) #[.int .i64 0, .int .i64 0, .int .i64 0, .int .i64 0] 8 rfl (by kernel_rfl) (by kernel_rfl) (by kernel_rfl) (by kernel_rfl) (by kernel_rfl) (door_met os _) ?_
  · intro ds hl
    match ds, hl with
    | [d0, d1, d2, d3], _ => rfl
  · intro t ht
    rw [Tryz.params7] at ht
    simp at ht
    rcases ht with rfl | rfl <;> exact ⟨by kernel_rfl, of_decide_eq_true (by kernel_rfl)⟩
  · intro W args ds ps hval hA hL
    rw [Tryz.params7] at hA hval
    obtain ⟨v0, v1, v2, v3, d0, d1, d2, d3, p, q, r, r2, rfl, rfl, rfl, h0, h1, h2, h3⟩ := trodAll_four hA
    obtain ⟨b0, k0⟩ := hval 0 3 v0 rfl rfl
    obtain ⟨b1, k1⟩ := hval 1 3 v1 rfl rfl
    obtain ⟨b2, k2⟩ := hval 2 2 v2 rfl rfl
    obtain ⟨b3, k3⟩ := hval 3 2 v3 rfl rfl
    obtain ⟨a0, rfl, rfl, rfl, w0⟩ := open_int Tryz.underlying3 k0 h0
    obtain ⟨a1, rfl, rfl, rfl, w1⟩ := open_int Tryz.underlying3 k1 h1
    obtain ⟨a2, rfl, rfl, rfl, w2⟩ := open_int Tryz.underlying2 k2 h2
    obtain ⟨a3, rfl, rfl, rfl, w3⟩ := open_int Tryz.underlying2 k3 h3
    exact ⟨Go.R3.G0, [.int .i64 a0 0, .int .i64 a1 0, .int .i64 a2 0, .int .i64 a3 0], of_laid hL, .cons rfl (.cons rfl (.cons rfl (.cons rfl .nil))), Go.R3.LK.runs a0 a1 a2 a3⟩
theorem evalObjects_holds : Rows.EvalObjectsSaid :=
  OpenClaim.holds_of_wide 7 Tryz.f7 rfl rfl rfl rfl rfl rfl rfl ⟨rfl, rfl, rfl, rfl, rfl⟩ rfl rfl rfl rfl rfl (by kernel_rfl) Tryz.func7 (by kernel_rfl)
    (of_decide_eq_true (by kernel_rfl)) (by unfold Func.isWrapper; rw [if_neg (of_decide_eq_false (by kernel_rfl))]; exact ⟨rfl, rfl⟩)
    (fun os started H enc _ => evalObjects_lifted os started H enc)
theorem evalObjects_card : Rows.EvalObjectsCardSaid :=
  Claim7.holds_tied_plain_at .later [] [.data] true (true, "e061682b0f3a6b54a737d3d360dd0b30f1f557965ad36675b4fc5f8e51f5ccb4") false
    evalObjects_holds (fun _ h => by cases h) (by kernel_rfl) (fun _ h => by cases h) evalObjects_row_tie rfl ⟨rfl, rfl⟩ (by kernel_rfl) rfl
    (fun f fn hf hfn => by
      obtain rfl : f = 7 := Option.some.inj ((show Tryz.prog.funcNamed "kiln/kilnlaw10.EvalObjects" = some 7 by kernel_rfl).symm.trans hf) |>.symm
      obtain rfl : fn = Tryz.f7 := (Option.some.inj (Tryz.func7.symm.trans hfn)).symm
      exact ⟨by kernel_rfl, fun j t ht => by
        rw [Tryz.params7] at ht
        have hm := Array.mem_of_getElem? ht
        exact noStand (by simp at hm; rcases hm with h | h <;> simp [h])⟩)
    (by kernel_rfl)
#print axioms evalObjects_card
end Go.Proofs.YtmbhlmocojopaaaGreatDoor

