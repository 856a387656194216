/- PROVED: the Go function kiln/kilnlaw15.VerifyRuns (list of picks, stack, locals, a number in, one bool out) returns true for every input, and leaves its arguments as they were: the tied card VerifyRunsCardSaid. CONDITIONS: none beyond the card's own (the listed package variables hold what the program's text lays; the card ties it). The way: the code is turned into abstract code, checked by the kernel to be what the program has (text Code), an abstract run is proved to stand for the run of the model (texts EngA to EngF), the abstract code is proved to do what plain functions of values do (Plain, PlainR), each function is walked once and shown to compute what a function of plain data computes (Walk, Con.., Law), and the statement is proved of these. Names are short and blanks few for want of room. -/
import Derived.Test.YtibbhhkcjjeclaaDoorSeat
import Derived.Test.YtibbhhkcjjeclaaDoorLaw
import Derived.Test.YtibbhhkcjjeclaaDoorTie
import Derived.Test.YtibbhhkcjjeclaaDoorCards
import Derived.SevenTiedAt
set_option linter.unusedVariables false
set_option linter.unusedSimpArgs false
namespace Go.Proofs.YtibbhhkcjjeclaaDoor
open Go Go.Bh Go.ChangeShapes Go.WideShapes Go.RowKit
set_option maxRecDepth 100000
theorem rQ(os:Os)(started:os.Started)(H:Type)(enc:TypeId×Value->H):
 ReturnsInHanded {} Tryd.checked os 9 .any (λw args=>(Rows.verifyRunsSpec.pre enc Tryd.prog Tryd.f9 [] false w args/\laidMetH Tryd.prog AJq w)/\sizedMet enc Tryd.prog Tryd.f9 (OpenSpec.ofChange Rows.verifyRunsSpec) false w args)
  (Rows.verifyRunsSpec.post enc Tryd.prog Tryd.f9 false true false false):=by
 refine law_lifted (C:=Tryd.checked) (F:=Go.RL.F) Go.RL.APc started (tb:=4) AUk (by kernel_rfl) Tryd.func9 rfl ?_ (by kernel_rfl) Tryd.underlying4 laidOut ?_
  (World.doorLaid Tryd.prog 400 os) #[.slice none 0 0,.int .i64 0,.int .i64 0,.int .i64 0] 8 rfl (by kernel_rfl) (by kernel_rfl) (by kernel_rfl) (by kernel_rfl) (by kernel_rfl) (door_met os _) ?_
 ·intro ds hl
  match ds,hl with
  |[d0,d1,d2,d3],_=>rfl
 ·intro t ht
  rw[Tryd.params9]at ht
  simp at ht
  rcases ht with rfl|rfl|rfl<;>exact⟨by kernel_rfl,of_decide_eq_true (by kernel_rfl)⟩
 ·intro W args ds ps hval hA hL
  rw[Tryd.params9]at hA hval
  obtain⟨v0,vs0,d0,ds0,p0,q0,e0,rfl,rfl,h0,r0⟩:=trodAll_cons hA
  obtain⟨v1,vs1,d1,ds1,p1,q1,e1,rfl,rfl,h1,r1⟩:=trodAll_cons r0
  obtain⟨v2,vs2,d2,ds2,p2,q2,e2,rfl,rfl,h2,r2⟩:=trodAll_cons r1
  obtain⟨v3,vs3,d3,ds3,p3,q3,e3,rfl,rfl,h3,r3⟩:=trodAll_cons r2
  obtain⟨e4,rfl,rfl⟩:=trodAll_nil r3
  subst e4 e3 e2 e1
  obtain rfl:args= #[v0,v1,v2,v3]:=by cases args;simp_all
  obtain⟨b0,k0⟩:=hval 0 102 v0 rfl rfl
  obtain⟨b1,k1⟩:=hval 1 3 v1 rfl rfl
  obtain⟨b2,k2⟩:=hval 2 3 v2 rfl rfl
  obtain⟨b3,k3⟩:=hval 3 2 v3 rfl rfl
  obtain⟨xs0,r0,f0⟩:=AM8 k0 h0
  obtain⟨a1,rfl,rfl,rfl,w1⟩:=open_int Tryd.underlying3 k1 h1
  obtain⟨a2,rfl,rfl,rfl,w2⟩:=open_int Tryd.underlying3 k2 h2
  obtain⟨a3,rfl,rfl,rfl,w3⟩:=open_int Tryd.underlying2 k3 h3
  exact⟨Qo W,[toV v0,.int .i64 a1 0,.int .i64 a2 0,.int .i64 a3 0],AHG W,.cons (AIb _ v0) (.cons rfl (.cons rfl (.cons rfl .nil))),Go.RL.AES (AHX W) (of_laid hL) f0 λ_ _=>rfl⟩
theorem uf:Rows.VerifyRunsSaid:=
 OpenClaim.holds_of_wide 9 Tryd.f9 rfl rfl rfl rfl rfl rfl rfl ⟨rfl,rfl,rfl,rfl,rfl⟩ rfl rfl rfl rfl rfl (by kernel_rfl) Tryd.func9 (by kernel_rfl)
  (of_decide_eq_true (by kernel_rfl)) (by unfold Func.isWrapper;rw[if_neg (of_decide_eq_false (by kernel_rfl))];exact⟨rfl,rfl⟩)
  (λos started H enc _=>rQ os started H enc)
theorem verifyRuns_card:Rows.VerifyRunsCardSaid:=
 Claim7.holds_tied_plain_at .later [] [.data] true (true, "5da4a2686d75d4bb4df39fd8b174fa89e64f23d4c49a1ca0d1f020fadd04e181") false
  uf (λ_ h=>by cases h) (by kernel_rfl) (λ_ h=>by cases h) verifyRuns_row_tie rfl ⟨rfl,rfl⟩ (by kernel_rfl) rfl
  (λf fn hf hfn=>by
   obtain rfl:f=9:=Option.some.inj ((show Tryd.prog.funcNamed "kiln/kilnlaw15.VerifyRuns" =some 9 by kernel_rfl).symm.trans hf) |>.symm
   obtain rfl:fn=Tryd.f9:=(Option.some.inj (Tryd.func9.symm.trans hfn)).symm
   exact⟨by kernel_rfl,λj t ht=>by
    rw[Tryd.params9]at ht
    have hm:=Array.mem_of_getElem? ht
    exact AKY (by simp at hm;rcases hm with h|h|h<;>simp[h])⟩)
  (by kernel_rfl)
#print axioms verifyRuns_card
end Go.Proofs.YtibbhhkcjjeclaaDoor
