/- PROVED: the Go function kilnlaw09.TypesRight (a list of ints in, one bool out) returns true for every input, and leaves its arguments as they were: the tied card TypesRightCardSaid. CONDITIONS: none beyond the card's own (the listed package variables hold what the program's text lays; the card ties it). The way: the code is turned into abstract code, checked by the kernel to be what the program has (text Code), an abstract run is proved to stand for the run of the model (texts EngA to EngF), the abstract code is proved to do what plain functions of values do (Plain, PlainR), each function is walked once and shown to compute what a function of plain data computes (Walk, Con.., Law), and the statement is proved of these. Names are short and blanks few for want of room. -/
import Derived.Test.YtmbhlmocojopaaaGreatDoorSeat
import Derived.Test.YtmbhlmocojopaaaGreatDoorTie
import Derived.Test.YtmbhlmocojopaaaGreatDoorCards
import Derived.SevenTiedAt
set_option linter.unusedVariables false
set_option linter.unusedSimpArgs false
namespace Go.Proofs.YtmbhlmocojopaaaGreatDoor
open Go Go.DK Go.ChangeShapes Go.WideShapes Go.RowKit
set_option maxRecDepth 100000
theorem AB5(os:Os)(started:os.Started)(H:Type)(enc:TypeId×Value->H):
 ReturnsInHanded {} Tryz.checked os 4 .any (λw args=>(Rows.typesRightSpec.pre enc Tryz.prog Tryz.f4 [] false w args/\laidMetH Tryz.prog ASj w)/\sizedMet enc Tryz.prog Tryz.f4 (OpenSpec.ofChange Rows.typesRightSpec) false w args)
  (Rows.typesRightSpec.post enc Tryz.prog Tryz.f4 false true false false):=by
 refine AJa (C:=Tryz.checked) (F:=Go.RL.F) Go.RL.AXH started (tb:=4) Abm (by kernel_rfl) Tryz.func4 rfl ?_ (by kernel_rfl) Tryz.underlying4 laidOut ?_
  (World.doorLaid Tryz.prog 400 os) #[.slice none 0 0] 8 rfl (by kernel_rfl) (by kernel_rfl) (by kernel_rfl) (by kernel_rfl) (by kernel_rfl) (door_met os _) ?_
 ·intro ds hl
  match ds,hl with
  |[d0],_=>rfl
 ·intro t ht
  rw[Tryz.params4]at ht
  simp at ht
  subst ht
  exact⟨by kernel_rfl,of_decide_eq_true (by kernel_rfl)⟩
 ·intro W args ds ps hval hA hL hz
  rw[Tryz.params4]at hA hval hz
  obtain⟨v0,d0,rfl,rfl,h0⟩:=trodAll_one hA
  obtain⟨b0,k0⟩:=hval 0 22 v0 rfl rfl
  obtain⟨xs,hxs,hvp⟩:=ATE k0 h0
  exact⟨Q9 W,[toV v0],ANO W,.cons (ANW _ v0) .nil,Go.RL.AJV (AL2 W) (of_laid hL) hxs hvp λ_ _=>rfl⟩
theorem AYi{a b:Bool}(h:a=true)(k:b=true):(a&&b)=true:=by rw[h,k];rfl
theorem AQ1:(Rows.typesRightRow.inPlace==Tryz.checked.prog.inPlace 4)=true:=by kernel_rfl
theorem ASS:(Rows.typesRightRow.unfollowed==Tryz.checked.prog.unfollowed 4)=true:=by kernel_rfl
theorem ASR:(Rows.typesRightRow.recurses==Tryz.checked.prog.recurses 4)=true:=by kernel_rfl
theorem AQc:(Rows.typesRightRow.named==Tryz.checked.prog.varsNamed 4)=true:=by kernel_rfl
theorem ABy:joinedFacts Tryz.checked.prog 4 Tryz.f4 Rows.typesRightSpec Rows.typesRightRow=true:=by
 unfold joinedFacts
 repeat' with_reducible refine AYi ?_ ?_
 all_goals first|with_reducible exact AQ1|with_reducible exact ASS|with_reducible exact ASR|with_reducible exact AQc|kernel_rfl
theorem ADR:Tryz.prog.funcNamed "kiln/kilnlaw09.TypesRight" =some 4:=by kernel_rfl
theorem ADF:Rows.TypesRightSaid:=
 OpenClaim.holds_of_wide 4 Tryz.f4 rfl rfl rfl rfl rfl rfl rfl ⟨rfl,rfl,rfl,rfl,rfl⟩ rfl rfl rfl rfl rfl ADR Tryz.func4 ABy
  (of_decide_eq_true (by kernel_rfl)) (by unfold Func.isWrapper;rw[if_neg (of_decide_eq_false (by kernel_rfl))];exact⟨rfl,rfl⟩)
  (λos started H enc _=>AB5 os started H enc)
theorem typesRight_card:Rows.TypesRightCardSaid:=
 Claim7.holds_tied_plain_at .later [] [.data] true (true, "e061682b0f3a6b54a737d3d360dd0b30f1f557965ad36675b4fc5f8e51f5ccb4") false
  ADF (λ_ h=>by cases h) (by kernel_rfl) (λ_ h=>by cases h) typesRight_row_tie rfl ⟨rfl,rfl⟩ (by kernel_rfl) rfl
  (λf fn hf hfn=>by
   obtain rfl:f=4:=Option.some.inj ((show Tryz.prog.funcNamed "kiln/kilnlaw09.TypesRight" =some 4 by kernel_rfl).symm.trans hf) |>.symm
   obtain rfl:fn=Tryz.f4:=(Option.some.inj (Tryz.func4.symm.trans hfn)).symm
   exact⟨by kernel_rfl,λj t ht=>by
    rw[Tryz.params4]at ht
    have hm:=Array.mem_of_getElem? ht
    exact ATJ (by simp at hm;exact hm)⟩)
  (by kernel_rfl)
#print axioms typesRight_card
end Go.Proofs.YtmbhlmocojopaaaGreatDoor
