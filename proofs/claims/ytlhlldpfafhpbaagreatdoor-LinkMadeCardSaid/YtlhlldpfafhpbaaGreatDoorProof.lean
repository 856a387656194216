/- PROVED: the Go function kilnlaw14.LinkMade (a list of ints and a bool in, one bool out) returns true for every input, and leaves its arguments as they were: the tied card LinkMadeCardSaid. CONDITIONS: none beyond the card's own (the listed package variables hold what the program's text lays; the card ties it). The way: the code is turned into abstract code, checked by the kernel to be what the program has (text Code), an abstract run is proved to stand for the run of the model (texts EngA to EngF), the abstract code is proved to do what plain functions of values do (Plain, PlainR), each function is walked once and shown to compute what a function of plain data computes (Walk, Con.., Law), and the statement is proved of these. Names are short and blanks few for want of room. -/
import Derived.Test.YtlhlldpfafhpbaaGreatDoorSeat
import Derived.Test.YtlhlldpfafhpbaaGreatDoorTie
import Derived.Test.YtlhlldpfafhpbaaGreatDoorCards
import Derived.SevenTiedAt
set_option linter.unusedVariables false
set_option linter.unusedSimpArgs false
namespace Go.Proofs.YtlhlldpfafhpbaaGreatDoor
open Go Go.BN Go.ChangeShapes Go.WideShapes Go.RowKit
set_option maxRecDepth 100000
theorem Rt(os:Os)(d:os.Started)(H:Type)(enc:TypeId×Value->H):
 ReturnsInHanded {} Tryz.checked os 3 .any (λw args=>(Rows.linkMadeSpec.pre enc Tryz.prog Tryz.f3 [] false w args/\laidMetH Tryz.prog ALg w)/\sizedMet enc Tryz.prog Tryz.f3 (OpenSpec.ofChange Rows.linkMadeSpec) false w args)
  (Rows.linkMadeSpec.post enc Tryz.prog Tryz.f3 false true false false):=by
 refine ADC (C:=Tryz.checked) (F:=Go.RL.F) Go.RL.ATk d (tb:=4) AXq (by kernel_rfl) Tryz.func3 rfl ?_ (by kernel_rfl) Tryz.underlying4 laidOut ?_
  (World.doorLaid Tryz.prog 400 os) #[.slice none 0 0,.bool false] 8 rfl (by kernel_rfl) (by kernel_rfl) (by kernel_rfl) (by kernel_rfl) (by kernel_rfl) (door_met os _) ?_
 ·intro u x
  match u,x with
  |[y,A],_=>rfl
 ·intro t g
  rw[Tryz.params3]at g
  simp at g
  rcases g with rfl|rfl<;>exact⟨by kernel_rfl,of_decide_eq_true (by kernel_rfl)⟩
 ·intro W args u M f v B D
  rw[Tryz.params3]at v f D
  obtain⟨i,E,y,A,p,q,rfl,rfl,rfl,G,I⟩:=trodAll_two v
  obtain⟨N,J⟩:=f 0 22 i rfl rfl
  obtain⟨O,K⟩:=f 1 4 E rfl rfl
  obtain⟨P,k,m⟩:=AQG J G
  obtain⟨L,rfl,rfl,rfl⟩:=open_bool Tryz.underlying4 K I
  exact⟨Kc W,[xj i,.bool L],AH7 W,.cons (AIV _ i) (.cons rfl .nil),Go.RL.Ye (AGH W) (of_laid B) k m λ_ _=>rfl⟩
theorem AU4{a b:Bool}(h:a=true)(k:b=true):(a&&b)=true:=by rw[h,k];rfl
theorem ANe:(Rows.linkMadeRow.inPlace==Tryz.checked.prog.inPlace 3)=true:=by kernel_rfl
theorem ALY:(Rows.linkMadeRow.unfollowed==Tryz.checked.prog.unfollowed 3)=true:=by kernel_rfl
theorem ALX:(Rows.linkMadeRow.recurses==Tryz.checked.prog.recurses 3)=true:=by kernel_rfl
theorem AMf:(Rows.linkMadeRow.named==Tryz.checked.prog.varsNamed 3)=true:=by kernel_rfl
theorem Rx:joinedFacts Tryz.checked.prog 3 Tryz.f3 Rows.linkMadeSpec Rows.linkMadeRow=true:=by
 unfold joinedFacts
 repeat' with_reducible refine AU4 ?_ ?_
 all_goals first|with_reducible exact ANe|with_reducible exact ALY|with_reducible exact ALX|with_reducible exact AMf|kernel_rfl
theorem Sq:Tryz.prog.funcNamed "kiln/kilnlaw14.LinkMade" =some 3:=by kernel_rfl
theorem Ss:Rows.LinkMadeSaid:=
 OpenClaim.holds_of_wide 3 Tryz.f3 rfl rfl rfl rfl rfl rfl rfl ⟨rfl,rfl,rfl,rfl,rfl⟩ rfl rfl rfl rfl rfl Sq Tryz.func3 Rx
  (of_decide_eq_true (by kernel_rfl)) (by unfold Func.isWrapper;rw[if_neg (of_decide_eq_false (by kernel_rfl))];exact⟨rfl,rfl⟩)
  (λf d H enc _=>Rt f d H enc)
theorem linkMade_card:Rows.LinkMadeCardSaid:=
 Claim7.holds_tied_plain_at .later [] [.data] true (true, "738664974a1f9451d78474bccd086710a35fee471944839cde5f00db790fb446") false
  Ss (λ_ h=>by cases h) (by kernel_rfl) (λ_ h=>by cases h) linkMade_row_tie rfl ⟨rfl,rfl⟩ (by kernel_rfl) rfl
  (λf k m d=>by
   obtain rfl:f=3:=Option.some.inj ((show Tryz.prog.funcNamed "kiln/kilnlaw14.LinkMade" =some 3 by kernel_rfl).symm.trans m) |>.symm
   obtain rfl:k=Tryz.f3:=(Option.some.inj (Tryz.func3.symm.trans d)).symm
   exact⟨by kernel_rfl,λj t g=>by
    rw[Tryz.params3]at g
    have i:=Array.mem_of_getElem? g
    exact fA (by simp at i;exact i)⟩)
  (by kernel_rfl)
#print axioms linkMade_card
end Go.Proofs.YtlhlldpfafhpbaaGreatDoor
