/- PROVED: the Go function VerifyMore (files, three whole numbers, a list of whole numbers in, one bool out) returns true for every input, and leaves its arguments as they were: the tied card VerifyMoreCardSaid. CONDITIONS: none beyond the card's own (the listed package variables hold what the program's text lays; the card ties it). The way: the code is turned into abstract code, checked by the kernel to be what the program has (text Code), an abstract run is proved to stand for the run of the model (texts EngA to EngF), the abstract code is proved to do what plain functions of values do (Plain, PlainR), each function is walked once and shown to compute what a function of plain data computes (Walk, Con.., Law), and the statement is proved of these. Names are short and blanks few for want of room. -/
import Derived.Test.YtibbhhkcjjeclaaDoorSeat
import Derived.Test.YtibbhhkcjjeclaaDoorLaw
import Derived.Test.YtibbhhkcjjeclaaDoorTie
import Derived.Test.YtibbhhkcjjeclaaDoorCards
import Derived.SevenTiedAt
set_option linter.unusedVariables false
set_option linter.unusedSimpArgs false
namespace Go.Proofs.YtibbhhkcjjeclaaDoor
open Go Go.Ba Go.ChangeShapes Go.WideShapes Go.RowKit
set_option maxRecDepth 100000
theorem lD (os : Os) (started : os.Started) (H : Type) (enc : TypeId × Value -> H) :
    ReturnsInHanded {} Tryd.checked os 10 .any (fun w args => (Rows.verifyMoreSpec.pre enc Tryd.prog Tryd.f10 [] false w args /\ laidMetH Tryd.prog AGz w) /\ sizedMet enc Tryd.prog Tryd.f10 (OpenSpec.ofChange Rows.verifyMoreSpec) false w args)
      (Rows.verifyMoreSpec.post enc Tryd.prog Tryd.f10 false true false false) := by
  refine law_lifted (C := Tryd.checked) (F := Go.RL.F) Go.RL.ALN started (tb := 4) AQT (by kernel_rfl) Tryd.func10 rfl ?_ (by kernel_rfl) Tryd.underlying4 laidOut ?_
    (World.doorLaid Tryd.prog 400 os) #[.slice none 0 0, .int .i64 0, .int .i64 0, .int .i64 0, .slice none 0 0] 8 rfl (by kernel_rfl) (by kernel_rfl) (by kernel_rfl) (by kernel_rfl) (by kernel_rfl) (door_met os _) ?_
  · intro ds hl
    match ds, hl with
    | [d0, d1, d2, d3, d4], _ => rfl
  · intro t ht
    rw [Tryd.params10] at ht
    simp at ht
    rcases ht with rfl | rfl | rfl <;> exact ⟨by kernel_rfl, of_decide_eq_true (by kernel_rfl)⟩
  · intro W args ds ps hval hA hL
    rw [Tryd.params10] at hA hval
    obtain ⟨v0, vs0, d0, ds0, p0, q0, e0, rfl, rfl, h0, r0⟩ := trodAll_cons hA
    obtain ⟨v1, vs1, d1, ds1, p1, q1, e1, rfl, rfl, h1, r1⟩ := trodAll_cons r0
    obtain ⟨v2, vs2, d2, ds2, p2, q2, e2, rfl, rfl, h2, r2⟩ := trodAll_cons r1
    obtain ⟨v3, vs3, d3, ds3, p3, q3, e3, rfl, rfl, h3, r3⟩ := trodAll_cons r2
    obtain ⟨v4, vs4, d4, ds4, p4, q4, e4, rfl, rfl, h4, r4⟩ := trodAll_cons r3
    obtain ⟨e5, rfl, rfl⟩ := trodAll_nil r4
    subst e5 e4 e3 e2 e1
    obtain rfl : args = #[v0, v1, v2, v3, v4] := by cases args; simp_all
    obtain ⟨b0, k0⟩ := hval 0 22 v0 rfl rfl
    obtain ⟨b1, k1⟩ := hval 1 3 v1 rfl rfl
    obtain ⟨b2, k2⟩ := hval 2 3 v2 rfl rfl
    obtain ⟨b3, k3⟩ := hval 3 3 v3 rfl rfl
    obtain ⟨b4, k4⟩ := hval 4 102 v4 rfl rfl
    obtain ⟨fls0, r0, f0⟩ := AGy k0 h0
    obtain ⟨a1, rfl, rfl, rfl, w1⟩ := open_int Tryd.underlying3 k1 h1
    obtain ⟨a2, rfl, rfl, rfl, w2⟩ := open_int Tryd.underlying3 k2 h2
    obtain ⟨a3, rfl, rfl, rfl, w3⟩ := open_int Tryd.underlying3 k3 h3
    obtain ⟨xs4, r4, f4⟩ := AKB k4 h4
    exact ⟨Nc W, [o8 v0, .int .i64 a1 0, .int .i64 a2 0, .int .i64 a3 0, o8 v4], ADE W, .cons (AAi _ v0) (.cons rfl (.cons rfl (.cons rfl (.cons (AAi _ v4) .nil)))), Go.RL.AAF (ACt W) (of_laid hL) f0 f4 r4 fun _ _ => rfl⟩
theorem lX : Rows.VerifyMoreSaid :=
 OpenClaim.holds_of_wide 10 Tryd.f10 rfl rfl rfl rfl rfl rfl rfl ⟨rfl, rfl, rfl, rfl, rfl⟩ rfl rfl rfl rfl rfl (by kernel_rfl) Tryd.func10 (by kernel_rfl)
  (of_decide_eq_true (by kernel_rfl)) (by unfold Func.isWrapper; rw [if_neg (of_decide_eq_false (by kernel_rfl))]; exact ⟨rfl, rfl⟩)
  (fun os started H enc _ => lD os started H enc)
theorem verifyMore_card : Rows.VerifyMoreCardSaid :=
 Claim7.holds_tied_plain_at .later [] [.data] true (true, "5da4a2686d75d4bb4df39fd8b174fa89e64f23d4c49a1ca0d1f020fadd04e181") false
  lX (fun _ h => by cases h) (by kernel_rfl) (fun _ h => by cases h) verifyMore_row_tie rfl ⟨rfl, rfl⟩ (by kernel_rfl) rfl
  (fun f fn hf hfn => by
   obtain rfl : f = 10 := Option.some.inj ((show Tryd.prog.funcNamed "kiln/kilnlaw15.VerifyMore" = some 10 by kernel_rfl).symm.trans hf) |>.symm
   obtain rfl : fn = Tryd.f10 := (Option.some.inj (Tryd.func10.symm.trans hfn)).symm
   exact ⟨by kernel_rfl, fun j t ht => by
    rw [Tryd.params10] at ht
    have hm := Array.mem_of_getElem? ht
    exact AHO (by simp at hm; rcases hm with h | h | h <;> simp [h])⟩)
  (by kernel_rfl)
#print axioms verifyMore_card
end Go.Proofs.YtibbhhkcjjeclaaDoor
