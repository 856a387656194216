/- PROVED: the Go function ParseElses (a whole number and a bool in, one bool out) returns true for all of them, and leaves its arguments as they were: the tied card ParseElsesCardSaid. CONDITIONS: none beyond the card's own (the listed package variables hold what the program's text lays; the card ties it). The way: the code is turned into abstract code, checked by the kernel to be what the program has (texts Code, Tran), an abstract run is proved to stand for the run of the model (texts EngA to EngF), the abstract code is proved to do what plain functions of values do (Plain, PlainR), and the 64 cases are run by the kernel. -/
import Derived.Test.YtcjkfmaoahojeaaDoorCaseA
import Derived.Test.YtcjkfmaoahojeaaDoorCaseB
import Derived.Test.YtcjkfmaoahojeaaDoorCaseC
import Derived.Test.YtcjkfmaoahojeaaDoorCaseD
import Derived.Test.YtcjkfmaoahojeaaDoorCaseE
import Derived.Test.YtcjkfmaoahojeaaDoorCaseF
import Derived.Test.YtcjkfmaoahojeaaDoorTran
import Derived.Test.YtcjkfmaoahojeaaDoorRows
import Derived.LaidMore
import Derived.SevenTiedAt
import Derived.Test.YtcjkfmaoahojeaaDoorTie
import Derived.Test.YtcjkfmaoahojeaaDoorCards
set_option linter.unusedVariables false
set_option linter.unusedSimpArgs false
set_option maxRecDepth 100000
namespace Go.P2.W3L
open Go.Eng Go.P2
def Case (x0 : Nat) (b1 : Bool) : Prop := ∀ (z0 : Int), t_kilnlaw06_ParseElses (lpF 600) G0 (runS (FS (lpF 600) G0) 600) z0 b1 x0 .e 0 isT = True
attribute [local irreducible] Case
theorem row_0 : ∀ b1 : Bool, Case 0 b1 := by
  intro b; cases b
  · unfold Case; exact fun z0 => case_0_false z0
  · unfold Case; exact fun z0 => case_0_true z0

theorem row_1 : ∀ b1 : Bool, Case 1 b1 := by
  intro b; cases b
  · unfold Case; exact fun z0 => case_1_false z0
  · unfold Case; exact fun z0 => case_1_true z0

theorem row_2 : ∀ b1 : Bool, Case 2 b1 := by
  intro b; cases b
  · unfold Case; exact fun z0 => case_2_false z0
  · unfold Case; exact fun z0 => case_2_true z0

theorem row_3 : ∀ b1 : Bool, Case 3 b1 := by
  intro b; cases b
  · unfold Case; exact fun z0 => case_3_false z0
  · unfold Case; exact fun z0 => case_3_true z0

theorem row_4 : ∀ b1 : Bool, Case 4 b1 := by
  intro b; cases b
  · unfold Case; exact fun z0 => case_4_false z0
  · unfold Case; exact fun z0 => case_4_true z0

theorem row_5 : ∀ b1 : Bool, Case 5 b1 := by
  intro b; cases b
  · unfold Case; exact fun z0 => case_5_false z0
  · unfold Case; exact fun z0 => case_5_true z0

theorem row_6 : ∀ b1 : Bool, Case 6 b1 := by
  intro b; cases b
  · unfold Case; exact fun z0 => case_6_false z0
  · unfold Case; exact fun z0 => case_6_true z0

theorem row_7 : ∀ b1 : Bool, Case 7 b1 := by
  intro b; cases b
  · unfold Case; exact fun z0 => case_7_false z0
  · unfold Case; exact fun z0 => case_7_true z0

theorem row_8 : ∀ b1 : Bool, Case 8 b1 := by
  intro b; cases b
  · unfold Case; exact fun z0 => case_8_false z0
  · unfold Case; exact fun z0 => case_8_true z0

theorem row_9 : ∀ b1 : Bool, Case 9 b1 := by
  intro b; cases b
  · unfold Case; exact fun z0 => case_9_false z0
  · unfold Case; exact fun z0 => case_9_true z0

theorem row_10 : ∀ b1 : Bool, Case 10 b1 := by
  intro b; cases b
  · unfold Case; exact fun z0 => case_10_false z0
  · unfold Case; exact fun z0 => case_10_true z0

theorem row_11 : ∀ b1 : Bool, Case 11 b1 := by
  intro b; cases b
  · unfold Case; exact fun z0 => case_11_false z0
  · unfold Case; exact fun z0 => case_11_true z0

theorem row_12 : ∀ b1 : Bool, Case 12 b1 := by
  intro b; cases b
  · unfold Case; exact fun z0 => case_12_false z0
  · unfold Case; exact fun z0 => case_12_true z0

theorem row_13 : ∀ b1 : Bool, Case 13 b1 := by
  intro b; cases b
  · unfold Case; exact fun z0 => case_13_false z0
  · unfold Case; exact fun z0 => case_13_true z0

theorem row_14 : ∀ b1 : Bool, Case 14 b1 := by
  intro b; cases b
  · unfold Case; exact fun z0 => case_14_false z0
  · unfold Case; exact fun z0 => case_14_true z0

theorem row_15 : ∀ b1 : Bool, Case 15 b1 := by
  intro b; cases b
  · unfold Case; exact fun z0 => case_15_false z0
  · unfold Case; exact fun z0 => case_15_true z0

theorem row_16 : ∀ b1 : Bool, Case 16 b1 := by
  intro b; cases b
  · unfold Case; exact fun z0 => case_16_false z0
  · unfold Case; exact fun z0 => case_16_true z0

theorem row_17 : ∀ b1 : Bool, Case 17 b1 := by
  intro b; cases b
  · unfold Case; exact fun z0 => case_17_false z0
  · unfold Case; exact fun z0 => case_17_true z0

theorem row_18 : ∀ b1 : Bool, Case 18 b1 := by
  intro b; cases b
  · unfold Case; exact fun z0 => case_18_false z0
  · unfold Case; exact fun z0 => case_18_true z0

theorem row_19 : ∀ b1 : Bool, Case 19 b1 := by
  intro b; cases b
  · unfold Case; exact fun z0 => case_19_false z0
  · unfold Case; exact fun z0 => case_19_true z0

theorem row_20 : ∀ b1 : Bool, Case 20 b1 := by
  intro b; cases b
  · unfold Case; exact fun z0 => case_20_false z0
  · unfold Case; exact fun z0 => case_20_true z0

theorem row_21 : ∀ b1 : Bool, Case 21 b1 := by
  intro b; cases b
  · unfold Case; exact fun z0 => case_21_false z0
  · unfold Case; exact fun z0 => case_21_true z0

theorem row_22 : ∀ b1 : Bool, Case 22 b1 := by
  intro b; cases b
  · unfold Case; exact fun z0 => case_22_false z0
  · unfold Case; exact fun z0 => case_22_true z0

theorem row_23 : ∀ b1 : Bool, Case 23 b1 := by
  intro b; cases b
  · unfold Case; exact fun z0 => case_23_false z0
  · unfold Case; exact fun z0 => case_23_true z0

theorem row_24 : ∀ b1 : Bool, Case 24 b1 := by
  intro b; cases b
  · unfold Case; exact fun z0 => case_24_false z0
  · unfold Case; exact fun z0 => case_24_true z0

theorem row_25 : ∀ b1 : Bool, Case 25 b1 := by
  intro b; cases b
  · unfold Case; exact fun z0 => case_25_false z0
  · unfold Case; exact fun z0 => case_25_true z0

theorem row_26 : ∀ b1 : Bool, Case 26 b1 := by
  intro b; cases b
  · unfold Case; exact fun z0 => case_26_false z0
  · unfold Case; exact fun z0 => case_26_true z0

theorem row_27 : ∀ b1 : Bool, Case 27 b1 := by
  intro b; cases b
  · unfold Case; exact fun z0 => case_27_false z0
  · unfold Case; exact fun z0 => case_27_true z0

theorem row_28 : ∀ b1 : Bool, Case 28 b1 := by
  intro b; cases b
  · unfold Case; exact fun z0 => case_28_false z0
  · unfold Case; exact fun z0 => case_28_true z0

theorem row_29 : ∀ b1 : Bool, Case 29 b1 := by
  intro b; cases b
  · unfold Case; exact fun z0 => case_29_false z0
  · unfold Case; exact fun z0 => case_29_true z0

theorem row_30 : ∀ b1 : Bool, Case 30 b1 := by
  intro b; cases b
  · unfold Case; exact fun z0 => case_30_false z0
  · unfold Case; exact fun z0 => case_30_true z0

theorem row_31 : ∀ b1 : Bool, Case 31 b1 := by
  intro b; cases b
  · unfold Case; exact fun z0 => case_31_false z0
  · unfold Case; exact fun z0 => case_31_true z0

theorem row : ∀ x0 : Nat, x0 < 32 → ∀ b1 : Bool, Case x0 b1 := by
  intro x0 hx0
  exact below32 (p := fun x0 => ∀ b1 : Bool, Case x0 b1) (row_0 ) (row_1 ) (row_2 ) (row_3 ) (row_4 ) (row_5 ) (row_6 ) (row_7 ) (row_8 ) (row_9 ) (row_10 ) (row_11 ) (row_12 ) (row_13 ) (row_14 ) (row_15 ) (row_16 ) (row_17 ) (row_18 ) (row_19 ) (row_20 ) (row_21 ) (row_22 ) (row_23 ) (row_24 ) (row_25 ) (row_26 ) (row_27 ) (row_28 ) (row_29 ) (row_30 ) (row_31 ) x0 hx0
theorem runs (z0 : Int) (b1 : Bool) : Runs F G0 n_kilnlaw06_ParseElses [.int .i64 z0 0, .bool b1] .e 0 fun v _ _ => v = .bool true :=
  runs_law (fs_ok (lpF_ok 600) G0) at_kilnlaw06_ParseElses 600 (t := fun k => t_kilnlaw06_ParseElses (lpF 600) G0 (runS (FS (lpF 600) G0) 600) z0 b1 (uand z0 31) .e 0 k) (fun callE hle hd h => ti_kilnlaw06_ParseElses (lpF_ok 600) z0 b1 (uand z0 31) rfl hle hd h)
    (by have h := row (uand z0 31) (Nat.lt_succ_of_le (uand_spec z0 (by decide)).2) b1; unfold Case at h; exact h z0)
end Go.P2.W3L

namespace Go.Proofs.YtcjkfmaoahojeaaDoor
open Go Go.Eng Go.ChangeShapes Go.WideShapes Go.RowKit
set_option maxRecDepth 100000
theorem ownK : ownKnob Tryd.prog.godebug = none := by kernel_rfl
theorem gMarks : Tryd.prog.globalNamed "kiln/lex.marks" = some 0 := by kernel_rfl
theorem tMarks : (Tryd.prog.globals[0]?).map (·.type) = some 124 := by kernel_rfl
theorem laidOut : laidOutB Tryd.prog = true := by kernel_rfl
theorem tightMarks : tightT Tryd.prog 5 124 = true := by kernel_rfl
theorem flatMarks : flatF 5 (Rows.laid_kiln_lex_marks (H := Unit)) = some Go.P2.tab := by kernel_rfl
abbrev laidL : List (String × DataW Unit) := [("math/bits.deBruijn32tab", Rows.laid_math_bits_deBruijn32tab), ("math/bits.deBruijn64tab", Rows.laid_math_bits_deBruijn64tab), ("internal/strconv.uint64pow10", Rows.laid_internal_strconv_uint64pow10), ("kiln/lex.marks", Rows.laid_kiln_lex_marks)]
/- what the condition gives: the table -/
theorem of_laid {W : World} (h : laidMetH Tryd.prog laidL W) : GRel W Go.P2.G0 := by
  rw [MakeChecks.laidMetH_plain _ _ _ (by kernel_rfl)] at h
  obtain ⟨ps, ⟨_, _, _, _, _, _, _, _, _, _, ⟨_, _, _, _, _, _, _, _, _, _, ⟨_, _, _, _, _, _, _, _, _, _, ⟨g0, t0, cs0, f0, p0, q0, hg0, ht0, hv0, hd0, _, _⟩, _⟩, _⟩, _⟩, _, _⟩ := h
  obtain rfl := Option.some.inj (gMarks.symm.trans hg0)
  obtain rfl := Option.some.inj (tMarks.symm.trans ht0)
  obtain ⟨hr, h1⟩ := flat_sound f0 hd0 flatMarks tightMarks
  have e : Go.P2.G0 = tabG 0 Go.P2.tab := tabK_eq
  rw [e]
  exact tabG_rel (fun i => by have := World.var?_cell hg0 hv0 i; simpa using this) hr h1
theorem door_met (os : Os) (args : Array Value) : laidMetH Tryd.prog laidL ((World.doorLaid Tryd.prog 400 os).forCall (fun _ _ => 0) ⟨#[], args, []⟩).memory :=
  laidMetH_of_parts3 (fuel := 8) (laidMet_of_run' 8 (by kernel_rfl) (by kernel_rfl)) (by kernel_rfl) (by kernel_rfl)
theorem noStand {t : TypeId} (h : t = 3 ∨ t = 4) : Tryd.prog.wantsStandIn t = false := by
  rcases h with rfl | rfl <;> kernel_rfl
end Go.Proofs.YtcjkfmaoahojeaaDoor

namespace Go.Proofs.YtcjkfmaoahojeaaDoor
open Go Go.Eng Go.ChangeShapes Go.WideShapes Go.RowKit
set_option maxRecDepth 100000
theorem parseElses_lifted (os : Os) (started : os.Started) (H : Type) (enc : TypeId × Value → H) :
    ReturnsInHanded {} Tryd.checked os 5 .any (fun w args => (Rows.parseElsesSpec.pre enc Tryd.prog Tryd.f5 [] false w args ∧ laidMetH Tryd.prog laidL w) ∧ sizedMet enc Tryd.prog Tryd.f5 (OpenSpec.ofChange Rows.parseElsesSpec) false w args)
      (Rows.parseElsesSpec.post enc Tryd.prog Tryd.f5 false true false false) := by
  refine law_lifted (C := Tryd.checked) (F := Go.P2.F) Go.P2.fns_ok started (tb := 4) ownK (by kernel_rfl) Tryd.func5 rfl ?_ (by kernel_rfl) Tryd.underlying4 laidOut ?_
    (World.doorLaid Tryd.prog 400 os) #[.int .i64 0, .bool false] 8 rfl (by kernel_rfl) (by kernel_rfl) (by kernel_rfl) (by kernel_rfl) (by kernel_rfl) (door_met os _) ?_
  · intro ds hl
    match ds, hl with
    | [d0, d1], _ => rfl
  · intro t ht
    rw [Tryd.params5] at ht
    simp at ht
    rcases ht with rfl | rfl <;> exact ⟨by kernel_rfl, of_decide_eq_true (by kernel_rfl)⟩
  · intro W args ds ps hval hA hL
    rw [Tryd.params5] at hA hval
    obtain ⟨v0, v1, d0, d1, p, q, rfl, rfl, rfl, h0, h1⟩ := trodAll_two hA
    obtain ⟨b0, k0⟩ := hval 0 3 v0 rfl rfl
    obtain ⟨b1, k1⟩ := hval 1 4 v1 rfl rfl
    obtain ⟨a0, rfl, rfl, rfl, w0⟩ := open_int Tryd.underlying3 k0 h0
    obtain ⟨a1, rfl, rfl, rfl⟩ := open_bool Tryd.underlying4 k1 h1
    exact ⟨Go.P2.G0, [.int .i64 a0 0, .bool a1], of_laid hL, .cons rfl (.cons rfl .nil), Go.P2.W3L.runs a0 a1⟩
theorem parseElses_holds : Rows.ParseElsesSaid :=
  OpenClaim.holds_of_wide 5 Tryd.f5 rfl rfl rfl rfl rfl rfl rfl ⟨rfl, rfl, rfl, rfl, rfl⟩ rfl rfl rfl rfl rfl (by kernel_rfl) Tryd.func5 (by kernel_rfl)
    (of_decide_eq_true (by kernel_rfl)) (by unfold Func.isWrapper; rw [if_neg (of_decide_eq_false (by kernel_rfl))]; exact ⟨rfl, rfl⟩)
    (fun os started H enc _ => parseElses_lifted os started H enc)
theorem parseElses_card : Rows.ParseElsesCardSaid :=
  Claim7.holds_tied_plain_at .later [] [.data, .data, .data, .data] true (true, "56dbd1954282d5a45a76d8a75b022c4ca0a104fd26ebfa90da1be692bf490d06") false
    parseElses_holds (fun _ h => by cases h) (by kernel_rfl) (fun _ h => by cases h) parseElses_row_tie rfl ⟨rfl, rfl⟩ (by kernel_rfl) rfl
    (fun f fn hf hfn => by
      obtain rfl : f = 5 := Option.some.inj ((show Tryd.prog.funcNamed "kiln/kilnlaw06.ParseElses" = some 5 by kernel_rfl).symm.trans hf) |>.symm
      obtain rfl : fn = Tryd.f5 := (Option.some.inj (Tryd.func5.symm.trans hfn)).symm
      exact ⟨by kernel_rfl, fun j t ht => by
        rw [Tryd.params5] at ht
        have hm := Array.mem_of_getElem? ht
        exact noStand (by simpa using hm)⟩)
    (by kernel_rfl)
#print axioms parseElses_card
end Go.Proofs.YtcjkfmaoahojeaaDoor

