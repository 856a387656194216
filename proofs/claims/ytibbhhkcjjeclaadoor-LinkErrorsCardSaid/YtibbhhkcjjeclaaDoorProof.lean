/- PROVED: the Go function kilnlaw14.LinkErrors (a list of files in, one bool out) returns true for every input, and leaves its arguments as they were: the tied card LinkErrorsCardSaid. CONDITIONS: none beyond the card's own (the listed package variables hold what the program's text lays; the card ties it). The way: the code is turned into abstract code, checked by the kernel to be what the program has (text Code), an abstract run is proved to stand for the run of the model (texts EngA to EngF), the abstract code is proved to do what plain functions of values do (Plain, PlainR), each function is walked once and shown to compute what a function of plain data computes (Walk, ConA, ConB, Law), and the statement is proved of these. -/
import Derived.Test.YtibbhhkcjjeclaaDoorSeat
import Derived.Test.YtibbhhkcjjeclaaDoorLaw
import Derived.Test.YtibbhhkcjjeclaaDoorTie
import Derived.Test.YtibbhhkcjjeclaaDoorCards
import Derived.SevenTiedAt
set_option linter.unusedVariables false
set_option linter.unusedSimpArgs false
namespace Go.Proofs.YtibbhhkcjjeclaaDoor
open Go Go.Eng Go.ChangeShapes Go.WideShapes Go.RowKit
set_option maxRecDepth 100000
theorem linkErrors_lifted (os : Os) (started : os.Started) (H : Type) (enc : TypeId × Value → H) :
    ReturnsInHanded {} Tryd.checked os 5 .any (fun w args => (Rows.linkErrorsSpec.pre enc Tryd.prog Tryd.f5 [] false w args ∧ laidMetH Tryd.prog laidL w) ∧ sizedMet enc Tryd.prog Tryd.f5 (OpenSpec.ofChange Rows.linkErrorsSpec) false w args)
      (Rows.linkErrorsSpec.post enc Tryd.prog Tryd.f5 false true false false) := by
  refine law_lifted (C := Tryd.checked) (F := Go.RL.F) Go.RL.fns_ok started (tb := 4) ownK (by kernel_rfl) Tryd.func5 rfl ?_ (by kernel_rfl) Tryd.underlying4 laidOut ?_
    (World.doorLaid Tryd.prog 400 os) #[.slice none 0 0] 8 rfl (by kernel_rfl) (by kernel_rfl) (by kernel_rfl) (by kernel_rfl) (by kernel_rfl) (door_met os _) ?_
  · intro ds hl
    match ds, hl with
    | [d0], _ => rfl
  · intro t ht
    rw [Tryd.params5] at ht
    simp at ht
    subst ht
    exact ⟨by kernel_rfl, of_decide_eq_true (by kernel_rfl)⟩
  · intro W args ds ps hval hA hL
    rw [Tryd.params5] at hA hval
    obtain ⟨v0, d0, rfl, rfl, h0⟩ := trodAll_one hA
    obtain ⟨b0, k0⟩ := hval 0 22 v0 rfl rfl
    obtain ⟨fls0, r0, f0⟩ := files_of k0 h0
    exact ⟨romsOf W, [toV v0], romsOf_rel W, .cons (toV_rel _ v0) .nil, Go.RL.LinkErrors_c (romsOf_sub W) (of_laid hL) f0 r0 fun _ _ => rfl⟩
theorem linkErrors_holds : Rows.LinkErrorsSaid :=
  OpenClaim.holds_of_wide 5 Tryd.f5 rfl rfl rfl rfl rfl rfl rfl ⟨rfl, rfl, rfl, rfl, rfl⟩ rfl rfl rfl rfl rfl (by kernel_rfl) Tryd.func5 (by kernel_rfl)
    (of_decide_eq_true (by kernel_rfl)) (by unfold Func.isWrapper; rw [if_neg (of_decide_eq_false (by kernel_rfl))]; exact ⟨rfl, rfl⟩)
    (fun os started H enc _ => linkErrors_lifted os started H enc)
theorem linkErrors_card : Rows.LinkErrorsCardSaid :=
  Claim7.holds_tied_plain_at .later [] [.data] true (true, "5da4a2686d75d4bb4df39fd8b174fa89e64f23d4c49a1ca0d1f020fadd04e181") false
    linkErrors_holds (fun _ h => by cases h) (by kernel_rfl) (fun _ h => by cases h) linkErrors_row_tie rfl ⟨rfl, rfl⟩ (by kernel_rfl) rfl
    (fun f fn hf hfn => by
      obtain rfl : f = 5 := Option.some.inj ((show Tryd.prog.funcNamed "kiln/kilnlaw14.LinkErrors" = some 5 by kernel_rfl).symm.trans hf) |>.symm
      obtain rfl : fn = Tryd.f5 := (Option.some.inj (Tryd.func5.symm.trans hfn)).symm
      exact ⟨by kernel_rfl, fun j t ht => by
        rw [Tryd.params5] at ht
        have hm := Array.mem_of_getElem? ht
        exact noStand (by simp at hm; simp [hm])⟩)
    (by kernel_rfl)
#print axioms linkErrors_card
end Go.Proofs.YtibbhhkcjjeclaaDoor

