/- PROVED: the Go function kilnlaw06.ParseBlanks (one ast.Class, one int in, one bool out) returns true for every input, and leaves its arguments as they were: the tied card ParseBlanksCardSaid. CONDITIONS: none beyond the card's own (the listed package variables hold what the program's text lays; the card ties it). The way: the code is turned into abstract code, checked by the kernel to be what the program has (text Code), an abstract run is proved to stand for the run of the model (texts EngA to EngF), the abstract code is proved to do what plain functions of values do (Plain, PlainR), each function is walked once and shown to compute what a function of plain data computes (Walk, Con.., Law), and the statement is proved of these. Names are short and blanks few for want of room. -/
import Derived.Test.YtcjkfmaoahojeaaGreatDoorSeat
import Derived.Test.YtcjkfmaoahojeaaGreatDoorConE
import Derived.Test.YtcjkfmaoahojeaaGreatDoorTie
import Derived.Test.YtcjkfmaoahojeaaGreatDoorCards
import Derived.SevenTiedAt
set_option linter.unusedVariables false
set_option linter.unusedSimpArgs false
namespace Go.Proofs.YtcjkfmaoahojeaaGreatDoor
open Go Go.Eng Go.ChangeShapes Go.WideShapes Go.RowKit
set_option maxRecDepth 100000
theorem AH3{ρ:Eng.Loc}:∀l:List Value,DW ρ (l.map toV) l
 |[]=>.nil
 |u::l=>.cons (AMb ρ u) (AH3 l)
theorem AO2{H:Type}{enc:TypeId×Value->H}{W:World}{r:Reach}{b0:Nat}{v0:Value}{d0:DataW H}{p:List MemPlace}(k0:Value.okWide Tryz.prog W r b0 27 v0)(h0:DataW.Trod enc Tryz.prog W 0 (λ_=>true) true 27 v0 d0 p)
 (hz:(d0.weights Tryz.prog 27).all (· <=reachBytes)=true):∃cs:Array Value,v0=.agg cs/\Go.PQ.XC (Ql W) (cs.toList.map toV)/\∀u∈cs.toList,u.oneCell'=true:=by
 obtain⟨fuel,hf⟩:=h0
 have e0:∃cs:Array Value,v0=.agg cs:=by
  unfold Value.okWide at k0
  rw[Tryz.underlying27]at k0
  obtain⟨cs,h,_⟩:=k0
  exact⟨cs,h⟩
 obtain⟨cs,rfl⟩:=e0
 have hf:DataW.trod enc Tryz.prog W 0 (λ_=>true) true fuel 27 cs.toList=some (d0,p):=hf
 obtain⟨h1,h2⟩:=ABM AYo fuel hf (by decide) hz
 exact⟨cs,rfl,AZu h1,h2⟩
theorem yY(os:Os)(started:os.Started)(H:Type)(enc:TypeId×Value->H):
 ReturnsInHanded {} Tryz.checked os 4 .any (λw args=>(Rows.parseBlanksSpec.pre enc Tryz.prog Tryz.f4 [] false w args/\laidMetH Tryz.prog APH w)/\sizedMet enc Tryz.prog Tryz.f4 (OpenSpec.ofChange Rows.parseBlanksSpec) false w args)
  (Rows.parseBlanksSpec.post enc Tryz.prog Tryz.f4 false true false false):=by
 refine AG5 (C:=Tryz.checked) (F:=Go.PQ.F) Go.PQ.AWz started (tb:=4) Aaz (by kernel_rfl) Tryz.func4 rfl ?_ (by kernel_rfl) Tryz.underlying4 laidOut ?_
  (World.doorLaid Tryz.prog 400 os) #[.agg #[.int .i64 0,.int .i64 0,.string ⟨#[]⟩,.string ⟨#[]⟩,.slice none 0 0,.slice none 0 0],.int .i64 0] 8 rfl (by kernel_rfl) (by kernel_rfl) (by kernel_rfl) (by kernel_rfl) (by kernel_rfl) (door_met os _) ?_
 ·intro ds hl
  match ds,hl with
  |[d0,d1],_=>rfl
 ·intro t ht
  rw[Tryz.params4]at ht
  simp at ht
  rcases ht with rfl|rfl<;>exact⟨by kernel_rfl,of_decide_eq_true (by kernel_rfl)⟩
 ·intro W args ds ps hval hA hL hz
  rw[Tryz.params4]at hA hval hz
  obtain⟨v0,v1,d0,d1,p,q,rfl,rfl,rfl,h0,h1⟩:=trodAll_two hA
  obtain⟨b0,k0⟩:=hval 0 27 v0 rfl rfl
  obtain⟨b1,k1⟩:=hval 1 3 v1 rfl rfl
  obtain⟨a1,rfl,rfl,rfl,w1⟩:=open_int Tryz.underlying3 k1 h1
  have hz0:(d0.weights Tryz.prog 27++DataW.weightsEach Tryz.prog [3] [.lit (.int .i64 a1)]).all (· <=reachBytes)=true:=hz
  rw[List.all_append,Bool.and_eq_true]at hz0
  obtain⟨cs,rfl,hX,hc⟩:=AO2 k0 h0 hz0.1
  exact⟨Ql W,[.agg (cs.toList.map toV),.int .i64 a1 0],AJy W,.cons ⟨cs,rfl,AH3 cs.toList,hc⟩ (.cons rfl .nil),Go.PQ.AFE (of_laid hL).1 (of_laid hL).2 (AKO W) hX λ_ _=>rfl⟩
theorem AAB:Rows.ParseBlanksSaid:=
 OpenClaim.holds_of_wide 4 Tryz.f4 rfl rfl rfl rfl rfl rfl rfl ⟨rfl,rfl,rfl,rfl,rfl⟩ rfl rfl rfl rfl rfl (by kernel_rfl) Tryz.func4 (by kernel_rfl)
  (of_decide_eq_true (by kernel_rfl)) (by unfold Func.isWrapper;rw[if_neg (of_decide_eq_false (by kernel_rfl))];exact⟨rfl,rfl⟩)
  (λos started H enc _=>yY os started H enc)
theorem parseBlanks_card:Rows.ParseBlanksCardSaid:=
 Claim7.holds_tied_plain_at .later [] [.data,.data,.data,.data] true (true, "220cfa77b389be5f81db30728136b4036fa4718e3d66e050afe1f84ac73b8a5d") false
  AAB (λ_ h=>by cases h) (by kernel_rfl) (λ_ h=>by cases h) parseBlanks_row_tie rfl ⟨rfl,rfl⟩ (by kernel_rfl) rfl
  (λf fn hf hfn=>by
   obtain rfl:f=4:=Option.some.inj ((show Tryz.prog.funcNamed "kiln/kilnlaw06.ParseBlanks" =some 4 by kernel_rfl).symm.trans hf) |>.symm
   obtain rfl:fn=Tryz.f4:=(Option.some.inj (Tryz.func4.symm.trans hfn)).symm
   exact⟨by kernel_rfl,λj t ht=>by
    rw[Tryz.params4]at ht
    have hm:=Array.mem_of_getElem? ht
    exact ASe (by simp at hm;rcases hm with h|h<;>simp[h])⟩)
  (by kernel_rfl)
#print axioms parseBlanks_card
end Go.Proofs.YtcjkfmaoahojeaaGreatDoor
