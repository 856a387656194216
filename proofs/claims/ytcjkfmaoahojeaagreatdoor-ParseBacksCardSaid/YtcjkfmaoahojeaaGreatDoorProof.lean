/- PROVED: the Go function kilnlaw06.ParseBacks (one ast.Class in, one bool out) returns true for every input, and leaves its arguments as they were: the tied card ParseBacksCardSaid. CONDITIONS: none beyond the card's own (the listed package variables hold what the program's text lays; the card ties it). The way: the code is turned into abstract code, checked by the kernel to be what the program has (text Code), an abstract run is proved to stand for the run of the model (texts EngA to EngF), the abstract code is proved to do what plain functions of values do (Plain, PlainR), each function is walked once and shown to compute what a function of plain data computes (Walk, Con.., Law), and the statement is proved of these. Names are short and blanks few for want of room. -/
import Derived.Test.YtcjkfmaoahojeaaGreatDoorSeat
import Derived.Test.YtcjkfmaoahojeaaGreatDoorTie
import Derived.Test.YtcjkfmaoahojeaaGreatDoorCards
import Derived.SevenTiedAt
set_option linter.unusedVariables false
set_option linter.unusedSimpArgs false
namespace Go.Proofs.YtcjkfmaoahojeaaGreatDoor
open Go Go.Eng Go.ChangeShapes Go.WideShapes Go.RowKit
set_option maxRecDepth 100000
theorem AIf{ρ:Eng.Loc}:∀l:List Value,DT ρ (l.map toV) l
 |[]=>.nil
 |u::l=>.cons (ALr ρ u) (AIf l)
theorem ANt{H:Type}{enc:TypeId×Value->H}{W:World}{r:Reach}{b0:Nat}{v0:Value}{d0:DataW H}{p:List MemPlace}(k0:Value.okWide Tryz.prog W r b0 27 v0)(h0:DataW.Trod enc Tryz.prog W 0 (λ_=>true) true 27 v0 d0 p)
 (hz:(d0.weights Tryz.prog 27).all (· <=reachBytes)=true):∃cs:Array Value,v0=.agg cs/\Go.PQ.XC (QH W) (cs.toList.map toV)/\∀u∈cs.toList,u.oneCell'=true:=by
 obtain⟨fuel,hf⟩:=h0
 have e0:∃cs:Array Value,v0=.agg cs:=by
  unfold Value.okWide at k0
  rw[Tryz.underlying27]at k0
  obtain⟨cs,h,_⟩:=k0
  exact⟨cs,h⟩
 obtain⟨cs,rfl⟩:=e0
 have hf:DataW.trod enc Tryz.prog W 0 (λ_=>true) true fuel 27 cs.toList=some (d0,p):=hf
 obtain⟨h1,h2⟩:=ABH AY8 fuel hf (by decide) hz
 exact⟨cs,rfl,AYE h1,h2⟩
theorem yu(os:Os)(started:os.Started)(H:Type)(enc:TypeId×Value->H):
 ReturnsInHanded {} Tryz.checked os 3 .any (λw args=>(Rows.parseBacksSpec.pre enc Tryz.prog Tryz.f3 [] false w args/\laidMetH Tryz.prog AOu w)/\sizedMet enc Tryz.prog Tryz.f3 (OpenSpec.ofChange Rows.parseBacksSpec) false w args)
  (Rows.parseBacksSpec.post enc Tryz.prog Tryz.f3 false true false false):=by
 refine AHC (C:=Tryz.checked) (F:=Go.PQ.F) Go.PQ.AWH started (tb:=4) AZw (by kernel_rfl) Tryz.func3 rfl ?_ (by kernel_rfl) Tryz.underlying4 laidOut ?_
  (World.doorLaid Tryz.prog 400 os) #[.agg #[.int .i64 0,.int .i64 0,.string ⟨#[]⟩,.string ⟨#[]⟩,.slice none 0 0,.slice none 0 0]] 8 rfl (by kernel_rfl) (by kernel_rfl) (by kernel_rfl) (by kernel_rfl) (by kernel_rfl) (door_met os _) ?_
 ·intro ds hl
  match ds,hl with
  |[d0],_=>rfl
 ·intro t ht
  rw[Tryz.params3]at ht
  simp at ht
  subst ht
  exact⟨by kernel_rfl,of_decide_eq_true (by kernel_rfl)⟩
 ·intro W args ds ps hval hA hL hz
  rw[Tryz.params3]at hA hval hz
  obtain⟨v0,d0,rfl,rfl,h0⟩:=trodAll_one hA
  obtain⟨b0,k0⟩:=hval 0 27 v0 rfl rfl
  have hz0:(d0.weights Tryz.prog 27++[]).all (· <=reachBytes)=true:=hz
  rw[List.append_nil]at hz0
  obtain⟨cs,rfl,hX,h1⟩:=ANt k0 h0 hz0
  exact⟨QH W,[.agg (cs.toList.map toV)],AJn W,.cons ⟨cs,rfl,AIf cs.toList,h1⟩ .nil,Go.PQ.AGi (of_laid hL).1 (of_laid hL).2 (AK0 W) hX λ_ _=>rfl⟩
theorem AAy:Rows.ParseBacksSaid:=
 OpenClaim.holds_of_wide 3 Tryz.f3 rfl rfl rfl rfl rfl rfl rfl ⟨rfl,rfl,rfl,rfl,rfl⟩ rfl rfl rfl rfl rfl (by kernel_rfl) Tryz.func3 (by kernel_rfl)
  (of_decide_eq_true (by kernel_rfl)) (by unfold Func.isWrapper;rw[if_neg (of_decide_eq_false (by kernel_rfl))];exact⟨rfl,rfl⟩)
  (λos started H enc _=>yu os started H enc)
theorem parseBacks_card:Rows.ParseBacksCardSaid:=
 Claim7.holds_tied_plain_at .later [] [.data,.data,.data,.data] true (true, "220cfa77b389be5f81db30728136b4036fa4718e3d66e050afe1f84ac73b8a5d") false
  AAy (λ_ h=>by cases h) (by kernel_rfl) (λ_ h=>by cases h) parseBacks_row_tie rfl ⟨rfl,rfl⟩ (by kernel_rfl) rfl
  (λf fn hf hfn=>by
   obtain rfl:f=3:=Option.some.inj ((show Tryz.prog.funcNamed "kiln/kilnlaw06.ParseBacks" =some 3 by kernel_rfl).symm.trans hf) |>.symm
   obtain rfl:fn=Tryz.f3:=(Option.some.inj (Tryz.func3.symm.trans hfn)).symm
   exact⟨by kernel_rfl,λj t ht=>by
    rw[Tryz.params3]at ht
    have hm:=Array.mem_of_getElem? ht
    exact AR3 (by simp at hm;exact .inr hm)⟩)
  (by kernel_rfl)
#print axioms parseBacks_card
end Go.Proofs.YtcjkfmaoahojeaaGreatDoor
