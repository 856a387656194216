/- PROVED: the Go function kilnlaw09.TypesMore (a list of ints and one ast.Class in, one bool out) returns true for every input, and leaves its arguments as they were: the tied card TypesMoreCardSaid. CONDITIONS: none beyond the card's own (the listed package variables hold what the program's text lays; the card ties it). The way: the code is turned into abstract code, checked by the kernel to be what the program has (text Code), an abstract run is proved to stand for the run of the model (texts EngA to EngF), the abstract code is proved to do what plain functions of values do (Plain, PlainR), each function is walked once and shown to compute what a function of plain data computes (Walk, Con.., Law), and the statement is proved of these. Names are short and blanks few for want of room. -/
import Derived.Test.YtmbhlmocojopaaaGreatDoorSeat
import Derived.Test.YtmbhlmocojopaaaGreatDoorTie
import Derived.Test.YtmbhlmocojopaaaGreatDoorCards
import Derived.SevenTiedAt
set_option linter.unusedVariables false
set_option linter.unusedSimpArgs false
namespace Go.Proofs.YtmbhlmocojopaaaGreatDoor
open Go Go.DW Go.ChangeShapes Go.WideShapes Go.RowKit
set_option maxRecDepth 100000
theorem AKF{ρ:DW.Loc}:∀l:List Value,Dc ρ (l.map rG) l
 |[]=>.nil
 |u::l=>.cons (AIO ρ u) (AKF l)
theorem APG{H:Type}{enc:TypeId×Value->H}{W:World}{r:Reach}{b0:Nat}{v0:Value}{d0:DataW H}{p:List MemPlace}(k0:Value.okWide Tryz.prog W r b0 58 v0)(h0:DataW.Trod enc Tryz.prog W 0 (λ_=>true) true 58 v0 d0 p)
 (hz:(d0.weights Tryz.prog 58).all (· <=reachBytes)=true):∃(cs:Array Value) (c:Go.RL.Tc),v0=.agg cs/\Go.RL.XC (MZ W) (cs.toList.map rG) c/\∀u∈cs.toList,u.oneCell'=true:=by
 obtain⟨fuel,hf⟩:=h0
 have e0:∃cs:Array Value,v0=.agg cs:=by
  unfold Value.okWide at k0
  rw[Tryz.underlying58]at k0
  obtain⟨cs,h,_⟩:=k0
  exact⟨cs,h⟩
 obtain⟨cs,rfl⟩:=e0
 have hf:DataW.trod enc Tryz.prog W 0 (λ_=>true) true fuel 58 cs.toList=some (d0,p):=hf
 obtain⟨h1,h2⟩:=AB7 AXG fuel hf (by decide) hz
 obtain⟨c,hc⟩:=AYX h1
 exact⟨cs,c,rfl,hc,h2⟩
theorem ACd(os:Os)(started:os.Started)(H:Type)(enc:TypeId×Value->H):
 ReturnsInHanded {} Tryz.checked os 5 .any (λw args=>(Rows.typesMoreSpec.pre enc Tryz.prog Tryz.f5 [] false w args/\laidMetH Tryz.prog AQE w)/\sizedMet enc Tryz.prog Tryz.f5 (OpenSpec.ofChange Rows.typesMoreSpec) false w args)
  (Rows.typesMoreSpec.post enc Tryz.prog Tryz.f5 false true false false):=by
 refine AHm (C:=Tryz.checked) (F:=Go.RL.F) Go.RL.AV8 started (tb:=4) AaA (by kernel_rfl) Tryz.func5 rfl ?_ (by kernel_rfl) Tryz.underlying4 laidOut ?_
  (World.doorLaid Tryz.prog 400 os) #[.slice none 0 0,.agg #[.int .i64 0,.int .i64 0,.string ⟨#[]⟩,.string ⟨#[]⟩,.slice none 0 0,.slice none 0 0]] 8 rfl (by kernel_rfl) (by kernel_rfl) (by kernel_rfl) (by kernel_rfl) (by kernel_rfl) (door_met os _) ?_
 ·intro ds hl
  match ds,hl with
  |[d0,d1],_=>rfl
 ·intro t ht
  rw[Tryz.params5]at ht
  simp at ht
  rcases ht with rfl|rfl<;>exact⟨by kernel_rfl,of_decide_eq_true (by kernel_rfl)⟩
 ·intro W args ds ps hval hA hL hz
  rw[Tryz.params5]at hA hval hz
  obtain⟨v0,v1,d0,d1,p,q,rfl,rfl,rfl,h0,h1⟩:=trodAll_two hA
  obtain⟨b0,k0⟩:=hval 0 22 v0 rfl rfl
  obtain⟨b1,k1⟩:=hval 1 58 v1 rfl rfl
  have hz0:(d0.weights Tryz.prog 22++(d1.weights Tryz.prog 58++[])).all (· <=reachBytes)=true:=hz
  rw[List.append_nil,List.all_append,Bool.and_eq_true]at hz0
  obtain⟨xs,hxs,hvp⟩:=ARv k0 h0
  obtain⟨cs,c,rfl,hX,hcs⟩:=APG k1 h1 hz0.2
  exact⟨MZ W,[rG v0,.agg (cs.toList.map rG)],AKb W,.cons (AIO _ v0) (.cons ⟨cs,rfl,AKF cs.toList,hcs⟩ .nil),Go.RL.AIi (ALs W) (of_laid hL) hxs hvp hX λ_ _=>rfl⟩
theorem AX5{a b:Bool}(h:a=true)(k:b=true):(a&&b)=true:=by rw[h,k];rfl
theorem APu:(Rows.typesMoreRow.inPlace==Tryz.checked.prog.inPlace 5)=true:=by kernel_rfl
theorem AQ2:(Rows.typesMoreRow.unfollowed==Tryz.checked.prog.unfollowed 5)=true:=by kernel_rfl
theorem APb:(Rows.typesMoreRow.recurses==Tryz.checked.prog.recurses 5)=true:=by kernel_rfl
theorem APH:(Rows.typesMoreRow.named==Tryz.checked.prog.varsNamed 5)=true:=by kernel_rfl
theorem ACt:joinedFacts Tryz.checked.prog 5 Tryz.f5 Rows.typesMoreSpec Rows.typesMoreRow=true:=by
 unfold joinedFacts
 repeat' with_reducible refine AX5 ?_ ?_
 all_goals first|with_reducible exact APu|with_reducible exact AQ2|with_reducible exact APb|with_reducible exact APH|kernel_rfl
theorem ADd:Tryz.prog.funcNamed "kiln/kilnlaw09.TypesMore" =some 5:=by kernel_rfl
theorem ADe:Rows.TypesMoreSaid:=
 OpenClaim.holds_of_wide 5 Tryz.f5 rfl rfl rfl rfl rfl rfl rfl ⟨rfl,rfl,rfl,rfl,rfl⟩ rfl rfl rfl rfl rfl ADd Tryz.func5 ACt
  (of_decide_eq_true (by kernel_rfl)) (by unfold Func.isWrapper;rw[if_neg (of_decide_eq_false (by kernel_rfl))];exact⟨rfl,rfl⟩)
  (λos started H enc _=>ACd os started H enc)
theorem typesMore_card:Rows.TypesMoreCardSaid:=
 Claim7.holds_tied_plain_at .later [] [.data] true (true, "e061682b0f3a6b54a737d3d360dd0b30f1f557965ad36675b4fc5f8e51f5ccb4") false
  ADe (λ_ h=>by cases h) (by kernel_rfl) (λ_ h=>by cases h) typesMore_row_tie rfl ⟨rfl,rfl⟩ (by kernel_rfl) rfl
  (λf fn hf hfn=>by
   obtain rfl:f=5:=Option.some.inj ((show Tryz.prog.funcNamed "kiln/kilnlaw09.TypesMore" =some 5 by kernel_rfl).symm.trans hf) |>.symm
   obtain rfl:fn=Tryz.f5:=(Option.some.inj (Tryz.func5.symm.trans hfn)).symm
   exact⟨by kernel_rfl,λj t ht=>by
    rw[Tryz.params5]at ht
    have hm:=Array.mem_of_getElem? ht
    exact AR2 (by simp at hm;exact hm)⟩)
  (by kernel_rfl)
#print axioms typesMore_card
end Go.Proofs.YtmbhlmocojopaaaGreatDoor
