/- PROVED: the Go function kilnlaw09.TypesLocals (two ints in, one bool out) returns true for every input, and leaves its arguments as they were: the tied card TypesLocalsCardSaid. CONDITIONS: none beyond the card's own (the listed package variables hold what the program's text lays; the card ties it). The way: the code is turned into abstract code, checked by the kernel to be what the program has (text Code), an abstract run is proved to stand for the run of the model (texts EngA to EngF), the abstract code is proved to do what plain functions of values do (Plain, PlainR), each function is walked once and shown to compute what a function of plain data computes (Walk, Con.., Law), and the statement is proved of these. Names are short and blanks few for want of room. -/
import Derived.Test.YtdellhdojgpghaaGreatDoorSeat
import Derived.Test.YtdellhdojgpghaaGreatDoorTie
import Derived.Test.YtdellhdojgpghaaGreatDoorCards
import Derived.SevenTiedAt
set_option linter.unusedVariables false
set_option linter.unusedSimpArgs false
namespace Go.Proofs.YtdellhdojgpghaaGreatDoor
open Go Go.Bj Go.ChangeShapes Go.WideShapes Go.RowKit
set_option maxRecDepth 100000
theorem yh(os:Os)(started:os.Started)(H:Type)(enc:TypeId×Value->H):
 ReturnsInHanded {} Tryz.checked os 3 .any (λw args=>(Rows.typesLocalsSpec.pre enc Tryz.prog Tryz.f3 [] false w args/\laidMetH Tryz.prog ATj w)/\sizedMet enc Tryz.prog Tryz.f3 (OpenSpec.ofChange Rows.typesLocalsSpec) false w args)
  (Rows.typesLocalsSpec.post enc Tryz.prog Tryz.f3 false true false false):=by
 refine law_lifted (C:=Tryz.checked) (F:=Go.RL.F) Go.RL.AYi started (tb:=4) Ac8 (by kernel_rfl) Tryz.func3 rfl ?_ (by kernel_rfl) Tryz.underlying4 laidOut ?_
  (World.doorLaid Tryz.prog 400 os) #[.int .i64 0,.int .i64 0] 8 rfl (by kernel_rfl) (by kernel_rfl) (by kernel_rfl) (by kernel_rfl) (by kernel_rfl) (door_met os _) ?_
 ·intro ds hl
  match ds,hl with
  |[d0,d1],_=>rfl
 ·intro t ht
  rw[Tryz.params3]at ht
  simp at ht
  subst ht
  exact⟨by kernel_rfl,of_decide_eq_true (by kernel_rfl)⟩
 ·intro W args ds ps hval hA hL
  rw[Tryz.params3]at hA hval
  obtain⟨v0,v1,d0,d1,p,q,rfl,rfl,rfl,h0,h1⟩:=trodAll_two hA
  obtain⟨b0,k0⟩:=hval 0 3 v0 rfl rfl
  obtain⟨b1,k1⟩:=hval 1 3 v1 rfl rfl
  obtain⟨a0,rfl,rfl,rfl,w0⟩:=open_int Tryz.underlying3 k0 h0
  obtain⟨a1,rfl,rfl,rfl,w1⟩:=open_int Tryz.underlying3 k1 h1
  exact⟨X9 W,[.int .i64 a0 0,.int .i64 a1 0],ANz W,.cons rfl (.cons rfl .nil),Go.RL.AGu (AMS W) (of_laid hL) λ_ _=>rfl⟩
theorem AaG{a b:Bool}(h:a=true)(k:b=true):(a&&b)=true:=by rw[h,k];rfl
theorem ARq:(Rows.typesLocalsRow.inPlace==Tryz.checked.prog.inPlace 3)=true:=by kernel_rfl
theorem ATT:(Rows.typesLocalsRow.unfollowed==Tryz.checked.prog.unfollowed 3)=true:=by kernel_rfl
theorem ATS:(Rows.typesLocalsRow.recurses==Tryz.checked.prog.recurses 3)=true:=by kernel_rfl
theorem ARL:(Rows.typesLocalsRow.named==Tryz.checked.prog.varsNamed 3)=true:=by kernel_rfl
theorem AAK:joinedFacts Tryz.checked.prog 3 Tryz.f3 Rows.typesLocalsSpec Rows.typesLocalsRow=true:=by
 unfold joinedFacts
 repeat' with_reducible refine AaG ?_ ?_
 all_goals first|with_reducible exact ARq|with_reducible exact ATT|with_reducible exact ATS|with_reducible exact ARL|kernel_rfl
theorem ABG:Tryz.prog.funcNamed "kiln/kilnlaw09.TypesLocals" =some 3:=by kernel_rfl
theorem AAi:Rows.TypesLocalsSaid:=
 OpenClaim.holds_of_wide 3 Tryz.f3 rfl rfl rfl rfl rfl rfl rfl ⟨rfl,rfl,rfl,rfl,rfl⟩ rfl rfl rfl rfl rfl ABG Tryz.func3 AAK
  (of_decide_eq_true (by kernel_rfl)) (by unfold Func.isWrapper;rw[if_neg (of_decide_eq_false (by kernel_rfl))];exact⟨rfl,rfl⟩)
  (λos started H enc _=>yh os started H enc)
theorem typesLocals_card:Rows.TypesLocalsCardSaid:=
 Claim7.holds_tied_plain_at .later [] [.data] true (true, "55f8c09bd7a621edd4c4df1655e13b832bc0fa04264f64c22cbe6ac5d71e5e15") false
  AAi (λ_ h=>by cases h) (by kernel_rfl) (λ_ h=>by cases h) typesLocals_row_tie rfl ⟨rfl,rfl⟩ (by kernel_rfl) rfl
  (λf fn hf hfn=>by
   obtain rfl:f=3:=Option.some.inj ((show Tryz.prog.funcNamed "kiln/kilnlaw09.TypesLocals" =some 3 by kernel_rfl).symm.trans hf) |>.symm
   obtain rfl:fn=Tryz.f3:=(Option.some.inj (Tryz.func3.symm.trans hfn)).symm
   exact⟨by kernel_rfl,λj t ht=>by
    rw[Tryz.params3]at ht
    have hm:=Array.mem_of_getElem? ht
    exact AUP (by simp at hm;simp[hm])⟩)
  (by kernel_rfl)
#print axioms typesLocals_card
end Go.Proofs.YtdellhdojgpghaaGreatDoor
