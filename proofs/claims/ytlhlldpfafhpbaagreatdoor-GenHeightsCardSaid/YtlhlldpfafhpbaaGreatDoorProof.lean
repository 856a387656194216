/- PROVED: the Go function kilnlaw13.GenHeights (a list of ints in, one bool out) returns true for every input, and leaves its arguments as they were: the tied card GenHeightsCardSaid. CONDITIONS: none beyond the card's own (the listed package variables hold what the program's text lays; the card ties it). The way: the code is turned into abstract code, checked by the kernel to be what the program has (text Code), an abstract run is proved to stand for the run of the model (texts EngA to EngF), the abstract code is proved to do what plain functions of values do (Plain, PlainR), each function is walked once and shown to compute what a function of plain data computes (Walk, Con.., Law), and the statement is proved of these. Names are short and blanks few for want of room. -/
import Derived.Test.YtlhlldpfafhpbaaGreatDoorSeat
import Derived.Test.YtlhlldpfafhpbaaGreatDoorTie
import Derived.Test.YtlhlldpfafhpbaaGreatDoorCards
import Derived.SevenTiedAt
set_option linter.unusedVariables false
set_option linter.unusedSimpArgs false
namespace Go.Proofs.YtlhlldpfafhpbaaGreatDoor
open Go Go.BN Go.ChangeShapes Go.WideShapes Go.RowKit
set_option maxRecDepth 100000
theorem pu(os:Os)(d:os.Started)(H:Type)(enc:TypeId×Value->H):
 ReturnsInHanded {} Tryz.checked os 4 .any (λw args=>(Rows.genHeightsSpec.pre enc Tryz.prog Tryz.f4 [] false w args/\laidMetH Tryz.prog ALg w)/\sizedMet enc Tryz.prog Tryz.f4 (OpenSpec.ofChange Rows.genHeightsSpec) false w args)
  (Rows.genHeightsSpec.post enc Tryz.prog Tryz.f4 false true false false):=by
 refine ADC (C:=Tryz.checked) (F:=Go.RL.F) Go.RL.ATk d (tb:=4) AXq (by kernel_rfl) Tryz.func4 rfl ?_ (by kernel_rfl) Tryz.underlying4 laidOut ?_
  (World.doorLaid Tryz.prog 400 os) #[.slice none 0 0] 8 rfl (by kernel_rfl) (by kernel_rfl) (by kernel_rfl) (by kernel_rfl) (by kernel_rfl) (door_met os _) ?_
 ·intro q v
  match q,v with
  |[x],_=>rfl
 ·intro t g
  rw[Tryz.params4]at g
  simp at g
  subst g
  exact⟨by kernel_rfl,of_decide_eq_true (by kernel_rfl)⟩
 ·intro W args q D f u i y
  rw[Tryz.params4]at u f y
  obtain⟨k,x,rfl,rfl,A⟩:=trodAll_one u
  obtain⟨E,B⟩:=f 0 22 k rfl rfl
  obtain⟨G,m,p⟩:=AQG B A
  exact⟨Kc W,[xj k],AH7 W,.cons (AIV _ k) .nil,Go.RL.ACP (AGH W) (of_laid i).1 (of_laid i).1.op (of_laid i).2 m p λ_ _=>rfl⟩
theorem AU4{a b:Bool}(h:a=true)(k:b=true):(a&&b)=true:=by rw[h,k];rfl
theorem ANe:(Rows.genHeightsRow.inPlace==Tryz.checked.prog.inPlace 4)=true:=by kernel_rfl
theorem ALY:(Rows.genHeightsRow.unfollowed==Tryz.checked.prog.unfollowed 4)=true:=by kernel_rfl
theorem ALX:(Rows.genHeightsRow.recurses==Tryz.checked.prog.recurses 4)=true:=by kernel_rfl
theorem AMf:(Rows.genHeightsRow.named==Tryz.checked.prog.varsNamed 4)=true:=by kernel_rfl
theorem sG:joinedFacts Tryz.checked.prog 4 Tryz.f4 Rows.genHeightsSpec Rows.genHeightsRow=true:=by
 unfold joinedFacts
 repeat' with_reducible refine AU4 ?_ ?_
 all_goals first|with_reducible exact ANe|with_reducible exact ALY|with_reducible exact ALX|with_reducible exact AMf|kernel_rfl
theorem tS:Tryz.prog.funcNamed "kiln/kilnlaw13.GenHeights" =some 4:=by kernel_rfl
theorem sj:Rows.GenHeightsSaid:=
 OpenClaim.holds_of_wide 4 Tryz.f4 rfl rfl rfl rfl rfl rfl rfl ⟨rfl,rfl,rfl,rfl,rfl⟩ rfl rfl rfl rfl rfl tS Tryz.func4 sG
  (of_decide_eq_true (by kernel_rfl)) (by unfold Func.isWrapper;rw[if_neg (of_decide_eq_false (by kernel_rfl))];exact⟨rfl,rfl⟩)
  (λf d H enc _=>pu f d H enc)
theorem genHeights_card:Rows.GenHeightsCardSaid:=
 Claim7.holds_tied_plain_at .later [] [.data,.data,.data,.data,.data] true (true, "738664974a1f9451d78474bccd086710a35fee471944839cde5f00db790fb446") false
  sj (λ_ h=>by cases h) (by kernel_rfl) (λ_ h=>by cases h) genHeights_row_tie rfl ⟨rfl,rfl⟩ (by kernel_rfl) rfl
  (λf k m d=>by
   obtain rfl:f=4:=Option.some.inj ((show Tryz.prog.funcNamed "kiln/kilnlaw13.GenHeights" =some 4 by kernel_rfl).symm.trans m) |>.symm
   obtain rfl:k=Tryz.f4:=(Option.some.inj (Tryz.func4.symm.trans d)).symm
   exact⟨by kernel_rfl,λj t g=>by
    rw[Tryz.params4]at g
    have i:=Array.mem_of_getElem? g
    exact APC (by simp at i;exact i)⟩)
  (by kernel_rfl)
#print axioms genHeights_card
end Go.Proofs.YtlhlldpfafhpbaaGreatDoor
