/- PROVED: the Go function VerifyPage (files in, one bool out) returns true for every input, and leaves its arguments as they were: the tied card VerifyPageCardSaid. CONDITIONS: none beyond the card's own (the listed package variables hold what the program's text lays; the card ties it). The way: the code is turned into abstract code, checked by the kernel to be what the program has (text Code), an abstract run is proved to stand for the run of the model (texts EngA to EngF), the abstract code is proved to do what plain functions of values do (Plain, PlainR), each function is walked once and shown to compute what a function of plain data computes (Walk, Con.., Law), and the statement is proved of these. Names are short and blanks few for want of room. -/
import Derived.Test.YtibbhhkcjjeclaaDoorSeat
import Derived.Test.YtibbhhkcjjeclaaDoorLaw
import Derived.Test.YtibbhhkcjjeclaaDoorTie
import Derived.Test.YtibbhhkcjjeclaaDoorCards
import Derived.SevenTiedAt
set_option linter.unusedVariables false
set_option linter.unusedSimpArgs false
namespace Go.Proofs.YtibbhhkcjjeclaaDoor
open Go Go.CS Go.ChangeShapes Go.WideShapes Go.RowKit
set_option maxRecDepth 100000
theorem rH(os:Os)(started:os.Started)(H:Type)(enc:TypeId×Value->H):
 ReturnsInHanded {} Tryd.checked os 6 .any (λw args=>(Rows.verifyPageSpec.pre enc Tryd.prog Tryd.f6 [] false w args/\laidMetH Tryd.prog AKX w)/\sizedMet enc Tryd.prog Tryd.f6 (OpenSpec.ofChange Rows.verifyPageSpec) false w args)
  (Rows.verifyPageSpec.post enc Tryd.prog Tryd.f6 false true false false):=by
 refine law_lifted (C:=Tryd.checked) (F:=Go.RL.F) Go.RL.APd started (tb:=4) AUr (by kernel_rfl) Tryd.func6 rfl ?_ (by kernel_rfl) Tryd.underlying4 laidOut ?_
  (World.doorLaid Tryd.prog 400 os) #[.slice none 0 0] 8 rfl (by kernel_rfl) (by kernel_rfl) (by kernel_rfl) (by kernel_rfl) (by kernel_rfl) (door_met os _) ?_
 ·intro ds hl
  match ds,hl with
  |[d0],_=>rfl
 ·intro t ht
  rw[Tryd.params6]at ht
  simp at ht
  subst ht
  exact⟨by kernel_rfl,of_decide_eq_true (by kernel_rfl)⟩
 ·intro W args ds ps hval hA hL
  rw[Tryd.params6]at hA hval
  obtain⟨v0,d0,rfl,rfl,h0⟩:=trodAll_one hA
  obtain⟨b0,k0⟩:=hval 0 22 v0 rfl rfl
  obtain⟨fls0,r0,f0⟩:=AKF k0 h0
  exact⟨QE W,[toV v0],AGN W,.cons (AHj _ v0) .nil,Go.RL.AD2 (AFz W) (of_laid hL) f0 λ_ _=>rfl⟩
theorem vU:Rows.VerifyPageSaid:=
 OpenClaim.holds_of_wide 6 Tryd.f6 rfl rfl rfl rfl rfl rfl rfl ⟨rfl,rfl,rfl,rfl,rfl⟩ rfl rfl rfl rfl rfl (by kernel_rfl) Tryd.func6 (by kernel_rfl)
  (of_decide_eq_true (by kernel_rfl)) (by unfold Func.isWrapper;rw[if_neg (of_decide_eq_false (by kernel_rfl))];exact⟨rfl,rfl⟩)
  (λos started H enc _=>rH os started H enc)
theorem verifyPage_card:Rows.VerifyPageCardSaid:=
 Claim7.holds_tied_plain_at .later [] [.data] true (true, "5da4a2686d75d4bb4df39fd8b174fa89e64f23d4c49a1ca0d1f020fadd04e181") false
  vU (λ_ h=>by cases h) (by kernel_rfl) (λ_ h=>by cases h) verifyPage_row_tie rfl ⟨rfl,rfl⟩ (by kernel_rfl) rfl
  (λf fn hf hfn=>by
   obtain rfl:f=6:=Option.some.inj ((show Tryd.prog.funcNamed "kiln/kilnlaw15.VerifyPage" =some 6 by kernel_rfl).symm.trans hf) |>.symm
   obtain rfl:fn=Tryd.f6:=(Option.some.inj (Tryd.func6.symm.trans hfn)).symm
   exact⟨by kernel_rfl,λj t ht=>by
    rw[Tryd.params6]at ht
    have hm:=Array.mem_of_getElem? ht
    exact ANj (by simp at hm;simp[hm])⟩)
  (by kernel_rfl)
#print axioms verifyPage_card
end Go.Proofs.YtibbhhkcjjeclaaDoor
