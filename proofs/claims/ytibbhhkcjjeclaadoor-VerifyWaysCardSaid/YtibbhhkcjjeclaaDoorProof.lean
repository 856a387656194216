/- PROVED: the Go function VerifyWays (two whole numbers in, one bool out) returns true for every two numbers, and leaves its arguments as they were: the tied card VerifyWaysCardSaid. CONDITIONS: none beyond the card's own (the listed package variable holds what the program's text lays; the card ties it). The way: the code is turned into abstract code, checked by the kernel to be what the program has (texts Code, Tran), an abstract run is proved to stand for the run of the model (texts EngA to EngE), and the 36 cases are run by the kernel. -/
import Derived.Test.YtibbhhkcjjeclaaDoorCaseA
import Derived.Test.YtibbhhkcjjeclaaDoorCaseB
import Derived.Test.YtibbhhkcjjeclaaDoorRows
import Derived.Test.YtibbhhkcjjeclaaDoorTie
import Derived.Test.YtibbhhkcjjeclaaDoorCards
import Derived.LaidMore
import Derived.SevenTiedAt
namespace Go.A1.Ways
open Go.Eng
set_option maxRecDepth 100000
def Case (x y : Nat) : Prop := ∀ a b : Int, exFun (alt x y) G0 (run F G0 200 200) 200 [.int .i64 a 0, .int .i64 b 0] .e 0 isT
theorem below6 (p : Nat → Prop) (h0 : p 0) (h1 : p 1) (h2 : p 2) (h3 : p 3) (h4 : p 4) (h5 : p 5) (x : Nat) (hx : x < 6) : p x := by
  have : x = 0 ∨ x = 1 ∨ x = 2 ∨ x = 3 ∨ x = 4 ∨ x = 5 := by omega
  rcases this with rfl | rfl | rfl | rfl | rfl | rfl <;> assumption
theorem row0 (y : Nat) (hy : y < 6) : Case 0 y := below6 (fun y => Case 0 y) (fun a b => of_eq_true (case_0_0 a b)) (fun a b => of_eq_true (case_0_1 a b)) (fun a b => of_eq_true (case_0_2 a b)) (fun a b => of_eq_true (case_0_3 a b)) (fun a b => of_eq_true (case_0_4 a b)) (fun a b => of_eq_true (case_0_5 a b)) y hy
theorem row1 (y : Nat) (hy : y < 6) : Case 1 y := below6 (fun y => Case 1 y) (fun a b => of_eq_true (case_1_0 a b)) (fun a b => of_eq_true (case_1_1 a b)) (fun a b => of_eq_true (case_1_2 a b)) (fun a b => of_eq_true (case_1_3 a b)) (fun a b => of_eq_true (case_1_4 a b)) (fun a b => of_eq_true (case_1_5 a b)) y hy
theorem row2 (y : Nat) (hy : y < 6) : Case 2 y := below6 (fun y => Case 2 y) (fun a b => of_eq_true (case_2_0 a b)) (fun a b => of_eq_true (case_2_1 a b)) (fun a b => of_eq_true (case_2_2 a b)) (fun a b => of_eq_true (case_2_3 a b)) (fun a b => of_eq_true (case_2_4 a b)) (fun a b => of_eq_true (case_2_5 a b)) y hy
theorem row3 (y : Nat) (hy : y < 6) : Case 3 y := below6 (fun y => Case 3 y) (fun a b => of_eq_true (case_3_0 a b)) (fun a b => of_eq_true (case_3_1 a b)) (fun a b => of_eq_true (case_3_2 a b)) (fun a b => of_eq_true (case_3_3 a b)) (fun a b => of_eq_true (case_3_4 a b)) (fun a b => of_eq_true (case_3_5 a b)) y hy
theorem row4 (y : Nat) (hy : y < 6) : Case 4 y := below6 (fun y => Case 4 y) (fun a b => of_eq_true (case_4_0 a b)) (fun a b => of_eq_true (case_4_1 a b)) (fun a b => of_eq_true (case_4_2 a b)) (fun a b => of_eq_true (case_4_3 a b)) (fun a b => of_eq_true (case_4_4 a b)) (fun a b => of_eq_true (case_4_5 a b)) y hy
theorem row5 (y : Nat) (hy : y < 6) : Case 5 y := below6 (fun y => Case 5 y) (fun a b => of_eq_true (case_5_0 a b)) (fun a b => of_eq_true (case_5_1 a b)) (fun a b => of_eq_true (case_5_2 a b)) (fun a b => of_eq_true (case_5_3 a b)) (fun a b => of_eq_true (case_5_4 a b)) (fun a b => of_eq_true (case_5_5 a b)) y hy
theorem all_cases (x y : Nat) (hx : x < 6) (hy : y < 6) : Case x y := below6 (fun x => Case x y) (row0 y hy) (row1 y hy) (row2 y hy) (row3 y hy) (row4 y hy) (row5 y hy) x hx
theorem runs (a b : Int) : Runs F G0 n_kilnlaw15_VerifyWays [.int .i64 a 0, .int .i64 b 0] .e 0 fun v _ _ => v = .bool true := by
  refine runs_mono (k := isT) (fun _ _ _ hv => isT_iff hv) (runs_of_exFun at_kilnlaw15_VerifyWays 200 ?_)
  exact bridge a b (all_cases _ _ (umod_lt a (by decide)) (umod_lt b (by decide)) a b)
end Go.A1.Ways

namespace Go.Proofs.YtibbhhkcjjeclaaDoor
open Go Go.Eng Go.ChangeShapes Go.WideShapes Go.RowKit
set_option maxRecDepth 100000
theorem ownK : ownKnob Tryd.prog.godebug = none := by kernel_rfl
theorem gShapes : Tryd.prog.globalNamed "kiln/op.shapes" = some 0 := by kernel_rfl
theorem tShapes : (Tryd.prog.globals[0]?).map (·.type) = some 149 := by kernel_rfl
theorem laidOut : laidOutB Tryd.prog = true := by kernel_rfl
theorem tightShapes : tightT Tryd.prog 5 149 = true := by kernel_rfl
theorem flatShapes : flatF 5 (Rows.laid_kiln_op_shapes (H := Unit)) = some Go.A1.tab := by kernel_rfl
abbrev laidL : List (String × DataW Unit) := [("kiln/op.shapes", Rows.laid_kiln_op_shapes)]
/- what the condition gives: the table -/
theorem of_laid {W : World} (h : laidMetH Tryd.prog laidL W) : GRel W Go.A1.G0 := by
  rw [MakeChecks.laidMetH_plain _ _ _ (by kernel_rfl)] at h
  obtain ⟨ps, ⟨g0, t0, cs0, f0, p0, q0, hg0, ht0, hv0, hd0, _, _⟩, _, _⟩ := h
  obtain rfl := Option.some.inj (gShapes.symm.trans hg0)
  obtain rfl := Option.some.inj (tShapes.symm.trans ht0)
  obtain ⟨hr, h1⟩ := flat_sound f0 hd0 flatShapes tightShapes
  have e : Go.A1.G0 = tabG 0 Go.A1.tab := tabK_eq
  rw [e]
  exact tabG_rel (fun i => by have := World.var?_cell hg0 hv0 i; simpa using this) hr h1
theorem door_met (os : Os) (args : Array Value) : laidMetH Tryd.prog laidL ((World.doorLaid Tryd.prog 400 os).forCall (fun _ _ => 0) ⟨#[], args, []⟩).memory :=
  laidMetH_of_parts3 (fuel := 8) (laidMet_of_run' 8 (by kernel_rfl) (by kernel_rfl)) (by kernel_rfl) (by kernel_rfl)
theorem ways_lifted (os : Os) (started : os.Started) (H : Type) (enc : TypeId × Value → H) :
    ReturnsInHanded {} Tryd.checked os 11 .any (fun w args => (Rows.verifyWaysSpec.pre enc Tryd.prog Tryd.f11 [] false w args ∧ laidMetH Tryd.prog laidL w) ∧ sizedMet enc Tryd.prog Tryd.f11 (OpenSpec.ofChange Rows.verifyWaysSpec) false w args)
      (Rows.verifyWaysSpec.post enc Tryd.prog Tryd.f11 false true false false) := by
  refine law_lifted (C := Tryd.checked) (F := Go.A1.F) Go.A1.fns_ok started (tb := 4) ownK (by kernel_rfl) Tryd.func11 rfl ?_ (by kernel_rfl) Tryd.underlying4 laidOut ?_
    (World.doorLaid Tryd.prog 400 os) #[.int .i64 0, .int .i64 0] 8 rfl (by kernel_rfl) (by kernel_rfl) (by kernel_rfl) (by kernel_rfl) (by kernel_rfl) (door_met os _) ?_
  · intro ds hl
    match ds, hl with
    | [d1, d2], _ => rfl
  · intro t ht
    rw [Tryd.params11] at ht
    simp at ht
    subst ht
    exact ⟨by kernel_rfl, of_decide_eq_true (by kernel_rfl)⟩
  · intro W args ds ps hval hA hL
    rw [Tryd.params11] at hA hval
    obtain ⟨v0, v1, d0, d1, p, q, rfl, rfl, rfl, h0, h1⟩ := trodAll_two hA
    obtain ⟨b0, k0⟩ := hval 0 3 v0 rfl rfl
    obtain ⟨b1, k1⟩ := hval 1 3 v1 rfl rfl
    obtain ⟨a, rfl, rfl, rfl, w0⟩ := open_int Tryd.underlying3 k0 h0
    obtain ⟨b, rfl, rfl, rfl, w1⟩ := open_int Tryd.underlying3 k1 h1
    exact ⟨Go.A1.G0, [.int .i64 a 0, .int .i64 b 0], of_laid hL, .cons rfl (.cons rfl .nil), Go.A1.Ways.runs a b⟩
theorem ways_holds : Rows.VerifyWaysSaid :=
  OpenClaim.holds_of_wide 11 Tryd.f11 rfl rfl rfl rfl rfl rfl rfl ⟨rfl, rfl, rfl, rfl, rfl⟩ rfl rfl rfl rfl rfl (by kernel_rfl) Tryd.func11 (by kernel_rfl)
    (of_decide_eq_true (by kernel_rfl)) (by unfold Func.isWrapper; rw [if_neg (of_decide_eq_false (by kernel_rfl))]; exact ⟨rfl, rfl⟩)
    (fun os started H enc _ => ways_lifted os started H enc)
theorem ways_card : Rows.VerifyWaysCardSaid :=
  Claim7.holds_tied_plain_at .later [] [.data] true (true, "5da4a2686d75d4bb4df39fd8b174fa89e64f23d4c49a1ca0d1f020fadd04e181") false
    ways_holds (fun _ h => by cases h) (by kernel_rfl) (fun _ h => by cases h) verifyWays_row_tie rfl ⟨rfl, rfl⟩ (by kernel_rfl) rfl
    (fun f fn hf hfn => by
      obtain rfl : f = 11 := Option.some.inj ((show Tryd.prog.funcNamed "kiln/kilnlaw15.VerifyWays" = some 11 by kernel_rfl).symm.trans hf) |>.symm
      obtain rfl : fn = Tryd.f11 := (Option.some.inj (Tryd.func11.symm.trans hfn)).symm
      exact ⟨by kernel_rfl, fun j t ht => by
        rw [Tryd.params11] at ht
        have h3 : t = 3 := by
          rcases j with _ | _ | j
          · simpa using ht.symm
          · simpa using ht.symm
          · simp at ht
        subst h3
        exact (show Tryd.prog.wantsStandIn 3 = false by kernel_rfl)⟩)
    (by kernel_rfl)
#print axioms ways_card
end Go.Proofs.YtibbhhkcjjeclaaDoor

