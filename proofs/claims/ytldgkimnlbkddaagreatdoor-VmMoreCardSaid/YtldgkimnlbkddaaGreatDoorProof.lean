/- PROVED: the Go function kilnlaw16.VmMore (a list of class.File, an int64 and three ints in, one bool out) returns true for every input, and leaves its arguments as they were: the tied card VmMoreCardSaid. CONDITIONS: none beyond the card's own (the listed package variables hold what the program's text lays; the card ties it). The way: the code is turned into abstract code, checked by the kernel to be what the program has (text Code), an abstract run is proved to stand for the run of the model (texts EngA to EngF), the abstract code is proved to do what plain functions of values do (Plain, PlainR), each function is walked once and shown to compute what a function of plain data computes (Walk, Con.., Law), and the statement is proved of these. Names are short and blanks few for want of room. -/
import Derived.Test.YtldgkimnlbkddaaGreatDoorSeat
import Derived.Test.YtldgkimnlbkddaaGreatDoorTie
import Derived.Test.YtldgkimnlbkddaaGreatDoorCards
import Derived.SevenTiedAt
set_option linter.unusedVariables false
set_option linter.unusedSimpArgs false
namespace Go.Proofs.YtldgkimnlbkddaaGreatDoor
open Go Go.Bf Go.ChangeShapes Go.WideShapes Go.RowKit
set_option maxRecDepth 100000
theorem AL3(os:Os)(f:os.Started)(H:Type)(enc:TypeId×Value->H):
 ReturnsInHanded {} Tryz.checked os 3 .any (λw args=>(Rows.vmMoreSpec.pre enc Tryz.prog Tryz.f3 [] false w args/\laidMetH Tryz.prog AY3 w)/\sizedMet enc Tryz.prog Tryz.f3 (OpenSpec.ofChange Rows.vmMoreSpec) false w args)
  (Rows.vmMoreSpec.post enc Tryz.prog Tryz.f3 false true false false):=by
 refine law_lifted (C:=Tryz.checked) (F:=Go.RL.F) Go.RL.AdI f (tb:=4) AhP (by kernel_rfl) Tryz.func3 rfl ?_ (by kernel_rfl) Tryz.underlying4 laidOut ?_
  (World.doorLaid Tryz.prog 400 os) #[.slice none 0 0,.int .i64 0,.int .i64 0,.int .i64 0,.int .i64 0] 8 rfl (by kernel_rfl) (by kernel_rfl) (by kernel_rfl) (by kernel_rfl) (by kernel_rfl) (door_met os _) ?_
 ·intro k B
  match k,B with
  |[D,E,G,I,J],_=>rfl
 ·intro t i
  rw[Tryz.params3]at i
  simp at i
  rcases i with rfl|rfl|rfl<;>exact⟨by kernel_rfl,of_decide_eq_true (by kernel_rfl)⟩
 ·intro W args k ps d m p
  rw[Tryz.params3]at m d
  obtain⟨g,K,D,L,p0,q0,e0,rfl,rfl,M,q⟩:=trodAll_cons m
  obtain⟨u,N,E,O,p1,q1,P,rfl,rfl,Q,R⟩:=trodAll_cons q
  obtain⟨v,S,G,T,p2,q2,U,rfl,rfl,V,X⟩:=trodAll_cons R
  obtain⟨x,Y,I,Z,p3,q3,e3,rfl,rfl,h3,r3⟩:=trodAll_cons X
  obtain⟨y,d5,J,d6,p4,q4,e4,rfl,rfl,h4,r4⟩:=trodAll_cons r3
  obtain⟨e5,rfl,rfl⟩:=trodAll_nil r4
  subst e5 e4 e3 U P
  obtain rfl:args= #[g,u,v,x,y]:=by cases args;simp_all
  obtain⟨b0,k0⟩:=d 0 22 g rfl rfl
  obtain⟨b1,k1⟩:=d 1 2 u rfl rfl
  obtain⟨b2,k2⟩:=d 2 3 v rfl rfl
  obtain⟨b3,k3⟩:=d 3 3 x rfl rfl
  obtain⟨b4,k4⟩:=d 4 3 y rfl rfl
  obtain⟨A,q,f0⟩:=AWc k0 M
  obtain⟨a1,rfl,rfl,rfl,w1⟩:=open_int Tryz.underlying2 k1 Q
  obtain⟨a2,rfl,rfl,rfl,w2⟩:=open_int Tryz.underlying3 k2 V
  obtain⟨a3,rfl,rfl,rfl,w3⟩:=open_int Tryz.underlying3 k3 h3
  obtain⟨a4,rfl,rfl,rfl,w4⟩:=open_int Tryz.underlying3 k4 h4
  exact⟨O9 W,[toV g,.int .i64 a1 0,.int .i64 a2 0,.int .i64 a3 0,.int .i64 a4 0],ATQ W,.cons (ATZ _ g) (.cons rfl (.cons rfl (.cons rfl (.cons rfl .nil)))),Go.RL.AWf (ARu W) (of_laid p).1 (of_laid p).2 f0 λ_ _=>rfl⟩
theorem AOb:Rows.VmMoreSaid:=
 OpenClaim.holds_of_wide 3 Tryz.f3 rfl rfl rfl rfl rfl rfl rfl ⟨rfl,rfl,rfl,rfl,rfl⟩ rfl rfl rfl rfl rfl (by kernel_rfl) Tryz.func3 (by kernel_rfl)
  (of_decide_eq_true (by kernel_rfl)) (by unfold Func.isWrapper;rw[if_neg (of_decide_eq_false (by kernel_rfl))];exact⟨rfl,rfl⟩)
  (λf d H enc _=>AL3 f d H enc)
theorem vmMore_card:Rows.VmMoreCardSaid:=
 Claim7.holds_tied_plain_at .later [] [.data,.data] true (true, "dcc993812aa11a7e5346190fa463a9709561695bbe582b8f3d28b985090e2a5b") false
  AOb (λ_ h=>by cases h) (by kernel_rfl) (λ_ h=>by cases h) vmMore_row_tie rfl ⟨rfl,rfl⟩ (by kernel_rfl) rfl
  (λf k m d=>by
   obtain rfl:f=3:=Option.some.inj ((show Tryz.prog.funcNamed "kiln/kilnlaw16.VmMore" =some 3 by kernel_rfl).symm.trans m) |>.symm
   obtain rfl:k=Tryz.f3:=(Option.some.inj (Tryz.func3.symm.trans d)).symm
   exact⟨by kernel_rfl,λj t g=>by
    rw[Tryz.params3]at g
    have i:=Array.mem_of_getElem? g
    exact AYb (by simp at i;rcases i with h|h|h<;>simp[h])⟩)
  (by kernel_rfl)
#print axioms vmMore_card
end Go.Proofs.YtldgkimnlbkddaaGreatDoor
