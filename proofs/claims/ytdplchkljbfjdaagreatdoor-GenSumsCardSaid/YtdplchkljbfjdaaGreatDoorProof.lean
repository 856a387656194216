/- PROVED: the Go function kilnlaw13.GenSums (a slice of bools and a bool in, one bool out) returns true for every input, and leaves its arguments as they were: the tied card kilnlaw13.GenSumsCardSaid. CONDITIONS: none beyond the card's own (the listed package variables hold what the program's text lays; the card ties it). The way: the code is turned into abstract code, checked by the kernel to be what the program has (text Code), an abstract run is proved to stand for the run of the model (texts EngA to EngF), the abstract code is proved to do what plain functions of values do (Plain, PlainR), and the 85 cases are run by the kernel. -/
import Derived.Test.YtdplchkljbfjdaaGreatDoorCaseA
import Derived.Test.YtdplchkljbfjdaaGreatDoorCaseB
import Derived.Test.YtdplchkljbfjdaaGreatDoorCaseC
import Derived.Test.YtdplchkljbfjdaaGreatDoorCaseD
import Derived.Test.YtdplchkljbfjdaaGreatDoorCaseE
import Derived.Test.YtdplchkljbfjdaaGreatDoorCaseF
import Derived.Test.YtdplchkljbfjdaaGreatDoorCaseG
import Derived.Test.YtdplchkljbfjdaaGreatDoorCaseH
import Derived.Test.YtdplchkljbfjdaaGreatDoorSeat
import Derived.Test.YtdplchkljbfjdaaGreatDoorEngF
import Derived.Test.YtdplchkljbfjdaaGreatDoorTie
import Derived.Test.YtdplchkljbfjdaaGreatDoorCards
import Derived.SevenTiedAt
set_option linter.unusedVariables false
set_option linter.unusedSimpArgs false
set_option maxRecDepth 100000
namespace Go.R5.GB
open Go.Eng Go.R5
theorem c : C := ⟨rfl, trivial⟩
attribute [local irreducible] tt tn
theorem row_f (g d m : Nat) : ∀ l, l < 41 → tt g d l m false false
  | 0, _ => (c0f g d m).mpr c
  | 1, _ => (c1f g d m).mpr c
  | 2, _ => (c2f g d m).mpr c
  | 3, _ => (c3f g d m).mpr c
  | 4, _ => (c4f g d m).mpr c
  | 5, _ => (c5f g d m).mpr c
  | 6, _ => (c6f g d m).mpr c
  | 7, _ => (c7f g d m).mpr c
  | 8, _ => (c8f g d m).mpr c
  | 9, _ => (c9f g d m).mpr c
  | 10, _ => (c10f g d m).mpr c
  | 11, _ => (c11f g d m).mpr c
  | 12, _ => (c12f g d m).mpr c
  | 13, _ => (c13f g d m).mpr c
  | 14, _ => (c14f g d m).mpr c
  | 15, _ => (c15f g d m).mpr c
  | 16, _ => (c16f g d m).mpr c
  | 17, _ => (c17f g d m).mpr c
  | 18, _ => (c18f g d m).mpr c
  | 19, _ => (c19f g d m).mpr c
  | 20, _ => (c20f g d m).mpr c
  | 21, _ => (c21f g d m).mpr c
  | 22, _ => (c22f g d m).mpr c
  | 23, _ => (c23f g d m).mpr c
  | 24, _ => (c24f g d m).mpr c
  | 25, _ => (c25f g d m).mpr c
  | 26, _ => (c26f g d m).mpr c
  | 27, _ => (c27f g d m).mpr c
  | 28, _ => (c28f g d m).mpr c
  | 29, _ => (c29f g d m).mpr c
  | 30, _ => (c30f g d m).mpr c
  | 31, _ => (c31f g d m).mpr c
  | 32, _ => (c32f g d m).mpr c
  | 33, _ => (c33f g d m).mpr c
  | 34, _ => (c34f g d m).mpr c
  | 35, _ => (c35f g d m).mpr c
  | 36, _ => (c36f g d m).mpr c
  | 37, _ => (c37f g d m).mpr c
  | 38, _ => (c38f g d m).mpr c
  | 39, _ => (c39f g d m).mpr c
  | 40, _ => (c40f g d m).mpr c
  | l + 41, h => absurd h (by omega)
theorem row_t (g d m : Nat) : ∀ l, l < 41 → tt g d l m true false
  | 0, _ => (c0t g d m).mpr c
  | 1, _ => (c1t g d m).mpr c
  | 2, _ => (c2t g d m).mpr c
  | 3, _ => (c3t g d m).mpr c
  | 4, _ => (c4t g d m).mpr c
  | 5, _ => (c5t g d m).mpr c
  | 6, _ => (c6t g d m).mpr c
  | 7, _ => (c7t g d m).mpr c
  | 8, _ => (c8t g d m).mpr c
  | 9, _ => (c9t g d m).mpr c
  | 10, _ => (c10t g d m).mpr c
  | 11, _ => (c11t g d m).mpr c
  | 12, _ => (c12t g d m).mpr c
  | 13, _ => (c13t g d m).mpr c
  | 14, _ => (c14t g d m).mpr c
  | 15, _ => (c15t g d m).mpr c
  | 16, _ => (c16t g d m).mpr c
  | 17, _ => (c17t g d m).mpr c
  | 18, _ => (c18t g d m).mpr c
  | 19, _ => (c19t g d m).mpr c
  | 20, _ => (c20t g d m).mpr c
  | 21, _ => (c21t g d m).mpr c
  | 22, _ => (c22t g d m).mpr c
  | 23, _ => (c23t g d m).mpr c
  | 24, _ => (c24t g d m).mpr c
  | 25, _ => (c25t g d m).mpr c
  | 26, _ => (c26t g d m).mpr c
  | 27, _ => (c27t g d m).mpr c
  | 28, _ => (c28t g d m).mpr c
  | 29, _ => (c29t g d m).mpr c
  | 30, _ => (c30t g d m).mpr c
  | 31, _ => (c31t g d m).mpr c
  | 32, _ => (c32t g d m).mpr c
  | 33, _ => (c33t g d m).mpr c
  | 34, _ => (c34t g d m).mpr c
  | 35, _ => (c35t g d m).mpr c
  | 36, _ => (c36t g d m).mpr c
  | 37, _ => (c37t g d m).mpr c
  | 38, _ => (c38t g d m).mpr c
  | 39, _ => (c39t g d m).mpr c
  | 40, _ => (c40t g d m).mpr c
  | l + 41, h => absurd h (by omega)
theorem row (g d l m : Nat) (b : Bool) : ∃ y, tt g d l m b y := by
  by_cases h : l < 41
  · cases b
    · exact ⟨false, row_f g d m l h⟩
    · exact ⟨false, row_t g d m l h⟩
  · obtain ⟨k, rfl⟩ : ∃ k, l = k + 41 := ⟨l - 41, by omega⟩
    exact ⟨true, (cl g d k m b).mpr ⟨long k, trivial⟩⟩
theorem runs_lawR {F : T AF} {G : Roms} {FS : T SF} (h : FsOk F G FS) {f : Nat} {af : AF} (hf : T.get F f = some af) {a : List V} (m : Nat) {t : Prop}
    (hs : ∀ callE, CallLe (runS FS m) callE → CallDet callE → t → exFunL af G callE a .e 0 isT) (hr : t) : Runs F G f a .e 0 fun v _ _ => v = .bool true :=
  runs_mono (k := isT) (fun _ _ _ hv => isT_iff hv) (runs_intro hf (hs _ (runS_le h m) (runs_det F G) hr))
theorem ti1 (g d l m : Nat) (b1 y : Bool) : ∀ callE, CallLe (runS (FS (lpF 600) G0) 600) callE → CallDet callE → tt g d l m b1 y → exFunL lf G0 callE [.rsl g d l m 1, .bool b1] .e 0 isT := by
  intro callE hle hd h
  unfold tt at h
  exact ti_f4 (lpF_ok 600) g d l m b1 y hle hd (by assumption)
theorem tn1 (b1 : Bool) : ∀ callE, CallLe (runS (FS (lpF 600) G0) 600) callE → CallDet callE → tn b1 → exFunL GN.lf G0 callE [.nils, .bool b1] .e 0 isT := by
  intro callE hle hd h
  unfold tn at h
  exact GN.ti_f4 (lpF_ok 600) b1 hle hd (by assumption)
theorem runs (g d l m : Nat) (b1 : Bool) : Runs F G0 4 [.rsl g d l m 1, .bool b1] .e 0 fun v _ _ => v = .bool true := by
  obtain ⟨y, h⟩ := row g d l m b1
  exact runs_lawR (fs_ok (lpF_ok 600) G0) at_law 600 (ti1 g d l m b1 y) h
theorem runsN (b1 : Bool) : Runs F G0 4 [.nils, .bool b1] .e 0 fun v _ _ => v = .bool true :=
  runs_lawR (fs_ok (lpF_ok 600) G0) GN.at_law 600 (tn1 b1) (by cases b1; exact nf.mpr trivial; exact nt.mpr trivial)
end Go.R5.GB

namespace Go.Proofs.YtdplchkljbfjdaaGreatDoor
open Go Go.Eng Go.ChangeShapes Go.WideShapes Go.RowKit
set_option maxRecDepth 100000
theorem genSums_lifted (os : Os) (started : os.Started) (H : Type) (enc : TypeId × Value → H) :
    ReturnsInHanded {} Tryz.checked os 4 .any (fun w args => (Rows.genSumsSpec.pre enc Tryz.prog Tryz.f4 [] false w args ∧ laidMetH Tryz.prog laidL w) ∧ sizedMet enc Tryz.prog Tryz.f4 (OpenSpec.ofChange Rows.genSumsSpec) false w args)
      (Rows.genSumsSpec.post enc Tryz.prog Tryz.f4 false true false false) := by
  refine law_lifted (C := Tryz.checked) (F := Go.R5.F) Go.R5.fns_ok started (tb := 4) ownK (by kernel_rfl) Tryz.func4 rfl ?_ (by kernel_rfl) Tryz.underlying4 laidOut ?_
    (World.doorLaid Tryz.prog 400 os) #[.slice none 0 0, .bool false] 8 rfl (by kernel_rfl) (by kernel_rfl) (by kernel_rfl) (by kernel_rfl) (by kernel_rfl) (door_met os _) ?_
  · intro ds hl
    match ds, hl with
    | [d0, d1], _ => rfl
  · intro t ht
    rw [Tryz.params4] at ht
    simp at ht
    rcases ht with rfl | rfl <;> exact ⟨by kernel_rfl, of_decide_eq_true (by kernel_rfl)⟩
  · intro W args ds ps hval hA hL
    rw [Tryz.params4] at hA hval
    obtain ⟨v0, v1, d0, d1, p, q, rfl, rfl, rfl, h0, h1⟩ := trodAll_two hA
    obtain ⟨b0, k0⟩ := hval 0 51 v0 rfl rfl
    obtain ⟨b1, k1⟩ := hval 1 4 v1 rfl rfl
    have hs := slice_v Tryz.underlying51 k0
    obtain ⟨a1, rfl, rfl, rfl⟩ := open_bool Tryz.underlying4 k1 h1
    rcases hs with rfl | ⟨sb, so, sl, sc, rfl, hle⟩
    · exact ⟨Go.R5.G0, [.nils, .bool a1], of_laid hL, .cons rfl (.cons rfl .nil), Go.R5.GB.runsN a1⟩
    · exact ⟨Go.R5.G0, [.rsl sb so sl sc 1, .bool a1], of_laid hL, .cons ⟨_, rfl, .inr rfl, hle⟩ (.cons rfl .nil), Go.R5.GB.runs sb so sl sc a1⟩
theorem genSums_holds : Rows.GenSumsSaid :=
  OpenClaim.holds_of_wide 4 Tryz.f4 rfl rfl rfl rfl rfl rfl rfl ⟨rfl, rfl, rfl, rfl, rfl⟩ rfl rfl rfl rfl rfl (by kernel_rfl) Tryz.func4 (by kernel_rfl)
    (of_decide_eq_true (by kernel_rfl)) (by unfold Func.isWrapper; rw [if_neg (of_decide_eq_false (by kernel_rfl))]; exact ⟨rfl, rfl⟩)
    (fun os started H enc _ => genSums_lifted os started H enc)
theorem genSums_card : Rows.GenSumsCardSaid :=
  Claim7.holds_tied_plain_at .later [] [.data, .data, .data, .data, .data] true (true, "bf43fd562f67dd5fae7e772947f8227c92117ecea546bd574998783b9d59a92d") false
    genSums_holds (fun _ h => by cases h) (by kernel_rfl) (fun _ h => by cases h) genSums_row_tie rfl ⟨rfl, rfl⟩ (by kernel_rfl) rfl
    (fun f fn hf hfn => by
      obtain rfl : f = 4 := Option.some.inj ((show Tryz.prog.funcNamed "kiln/kilnlaw13.GenSums" = some 4 by kernel_rfl).symm.trans hf) |>.symm
      obtain rfl : fn = Tryz.f4 := (Option.some.inj (Tryz.func4.symm.trans hfn)).symm
      exact ⟨by kernel_rfl, fun j t ht => by
        rw [Tryz.params4] at ht
        have hm := Array.mem_of_getElem? ht
        exact noStand (by simp at hm; rcases hm with h | h <;> simp [h])⟩)
    (by kernel_rfl)
#print axioms genSums_card
end Go.Proofs.YtdplchkljbfjdaaGreatDoor

