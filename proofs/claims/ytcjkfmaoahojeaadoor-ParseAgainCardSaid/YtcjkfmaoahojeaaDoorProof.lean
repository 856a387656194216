/- PROVED: the Go function kilnlaw06.ParseAgain (one string in, one bool out) returns true for every input, and leaves its arguments as they were: the tied card ParseAgainCardSaid. CONDITIONS: none beyond the card's own (the listed package variables hold what the program's text lays; the card ties it). The way: the code is turned into abstract code, checked by the kernel to be what the program has (text Code), an abstract run is proved to stand for the run of the model (texts EngA to EngF), the abstract code is proved to do what plain functions of values do (Plain, PlainR), each function is walked once and shown to compute what a function of plain data computes (Walk, Con.., Law), and the statement is proved of these. Names are short and blanks few for want of room. -/
import Derived.Test.YtcjkfmaoahojeaaDoorSeat
import Derived.Test.YtcjkfmaoahojeaaDoorConE
import Derived.Test.YtcjkfmaoahojeaaDoorTie
import Derived.Test.YtcjkfmaoahojeaaDoorCards
import Derived.SevenTiedAt
set_option linter.unusedVariables false
set_option linter.unusedSimpArgs false
namespace Go.Proofs.YtcjkfmaoahojeaaDoor
open Go Go.Eng Go.ChangeShapes Go.WideShapes Go.RowKit
set_option maxRecDepth 100000
theorem vH(os:Os)(started:os.Started)(H:Type)(enc:TypeId×Value->H):
 ReturnsInHanded {} Tryd.checked os 8 .any (λw args=>(Rows.parseAgainSpec.pre enc Tryd.prog Tryd.f8 [] false w args/\laidMetH Tryd.prog AMW w)/\sizedMet enc Tryd.prog Tryd.f8 (OpenSpec.ofChange Rows.parseAgainSpec) false w args)
  (Rows.parseAgainSpec.post enc Tryd.prog Tryd.f8 false true false false):=by
 refine law_lifted (C:=Tryd.checked) (F:=Go.PQ.F) Go.PQ.ATw started (tb:=4) AXs (by kernel_rfl) Tryd.func8 rfl ?_ (by kernel_rfl) Tryd.underlying4 laidOut ?_
  (World.doorLaid Tryd.prog 400 os) #[.string ⟨#[]⟩] 8 rfl (by kernel_rfl) (by kernel_rfl) (by kernel_rfl) (by kernel_rfl) (by kernel_rfl) (door_met os _) ?_
 ·intro ds hl
  match ds,hl with
  |[d0],_=>rfl
 ·intro t ht
  rw[Tryd.params8]at ht
  simp at ht
  subst ht
  exact⟨by kernel_rfl,of_decide_eq_true (by kernel_rfl)⟩
 ·intro W args ds ps hval hA hL
  rw[Tryd.params8]at hA hval
  obtain⟨v0,d0,rfl,rfl,h0⟩:=trodAll_one hA
  obtain⟨b0,k0⟩:=hval 0 9 v0 rfl rfl
  obtain⟨s,rfl⟩:=okWide_string Tryd.underlying9 k0
  exact⟨VU W,[sB s.data.toList],AHf W,.cons ⟨s,rfl,rfl,rfl⟩ .nil,Go.PQ.AD7 (of_laid hL).1 (of_laid hL).2 (AIR W) λ_ _=>rfl⟩
theorem xU:Rows.ParseAgainSaid:=
 OpenClaim.holds_of_wide 8 Tryd.f8 rfl rfl rfl rfl rfl rfl rfl ⟨rfl,rfl,rfl,rfl,rfl⟩ rfl rfl rfl rfl rfl (by kernel_rfl) Tryd.func8 (by kernel_rfl)
  (of_decide_eq_true (by kernel_rfl)) (by unfold Func.isWrapper;rw[if_neg (of_decide_eq_false (by kernel_rfl))];exact⟨rfl,rfl⟩)
  (λos started H enc _=>vH os started H enc)
theorem parseAgain_card:Rows.ParseAgainCardSaid:=
 Claim7.holds_tied_plain_at .later [] [.data,.data,.data,.data] true (true, "56dbd1954282d5a45a76d8a75b022c4ca0a104fd26ebfa90da1be692bf490d06") false
  xU (λ_ h=>by cases h) (by kernel_rfl) (λ_ h=>by cases h) parseAgain_row_tie rfl ⟨rfl,rfl⟩ (by kernel_rfl) rfl
  (λf fn hf hfn=>by
   obtain rfl:f=8:=Option.some.inj ((show Tryd.prog.funcNamed "kiln/kilnlaw06.ParseAgain" =some 8 by kernel_rfl).symm.trans hf) |>.symm
   obtain rfl:fn=Tryd.f8:=(Option.some.inj (Tryd.func8.symm.trans hfn)).symm
   exact⟨by kernel_rfl,λj t ht=>by
    rw[Tryd.params8]at ht
    have hm:=Array.mem_of_getElem? ht
    simp at hm
    subst hm
    show Tryd.prog.wantsStandIn 9=false
    kernel_rfl⟩)
  (by kernel_rfl)
#print axioms parseAgain_card
end Go.Proofs.YtcjkfmaoahojeaaDoor
