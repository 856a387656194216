/- PROVED: the Go function VerifySound (files, five whole numbers in, one bool out) returns true for every input, and leaves its arguments as they were: the tied card VerifySoundCardSaid. CONDITIONS: none beyond the card's own (the listed package variables hold what the program's text lays; the card ties it). The way: the code is turned into abstract code, checked by the kernel to be what the program has (text Code), an abstract run is proved to stand for the run of the model (texts EngA to EngF), the abstract code is proved to do what plain functions of values do (Plain, PlainR), each function is walked once and shown to compute what a function of plain data computes (Walk, Con.., Law), and the statement is proved of these. Names are short and blanks few for want of room. -/
import Derived.Test.YtibbhhkcjjeclaaDoorSeat
import Derived.Test.YtibbhhkcjjeclaaDoorLaw
import Derived.Test.YtibbhhkcjjeclaaDoorTie
import Derived.Test.YtibbhhkcjjeclaaDoorCards
import Derived.SevenTiedAt
set_option linter.unusedVariables false
set_option linter.unusedSimpArgs false
namespace Go.Proofs.YtibbhhkcjjeclaaDoor
open Go Go.Bv Go.ChangeShapes Go.WideShapes Go.RowKit
set_option maxRecDepth 100000
theorem tC(os:Os)(started:os.Started)(H:Type)(enc:TypeId×Value->H):
 ReturnsInHanded {} Tryd.checked os 7 .any (λw args=>(Rows.verifySoundSpec.pre enc Tryd.prog Tryd.f7 [] false w args/\laidMetH Tryd.prog AMF w)/\sizedMet enc Tryd.prog Tryd.f7 (OpenSpec.ofChange Rows.verifySoundSpec) false w args)
  (Rows.verifySoundSpec.post enc Tryd.prog Tryd.f7 false true false false):=by
 refine law_lifted (C:=Tryd.checked) (F:=Go.RL.F) Go.RL.AR4 started (tb:=4) AWj (by kernel_rfl) Tryd.func7 rfl ?_ (by kernel_rfl) Tryd.underlying4 laidOut ?_
  (World.doorLaid Tryd.prog 400 os) #[.slice none 0 0,.int .i64 0,.int .i64 0,.int .i64 0,.int .i64 0,.int .i64 0] 8 rfl (by kernel_rfl) (by kernel_rfl) (by kernel_rfl) (by kernel_rfl) (by kernel_rfl) (door_met os _) ?_
 ·intro ds hl
  match ds,hl with
  |[d0,d1,d2,d3,d4,d5],_=>rfl
 ·intro t ht
  rw[Tryd.params7]at ht
  simp at ht
  rcases ht with rfl|rfl|rfl<;>exact⟨by kernel_rfl,of_decide_eq_true (by kernel_rfl)⟩
 ·intro W args ds ps hval hA hL
  rw[Tryd.params7]at hA hval
  obtain⟨v0,vs0,d0,ds0,p0,q0,e0,rfl,rfl,h0,r0⟩:=trodAll_cons hA
  obtain⟨v1,vs1,d1,ds1,p1,q1,e1,rfl,rfl,h1,r1⟩:=trodAll_cons r0
  obtain⟨v2,vs2,d2,ds2,p2,q2,e2,rfl,rfl,h2,r2⟩:=trodAll_cons r1
  obtain⟨v3,vs3,d3,ds3,p3,q3,e3,rfl,rfl,h3,r3⟩:=trodAll_cons r2
  obtain⟨v4,vs4,d4,ds4,p4,q4,e4,rfl,rfl,h4,r4⟩:=trodAll_cons r3
  obtain⟨v5,vs5,d5,ds5,p5,q5,e5,rfl,rfl,h5,r5⟩:=trodAll_cons r4
  obtain⟨e6,rfl,rfl⟩:=trodAll_nil r5
  subst e6 e5 e4 e3 e2 e1
  obtain rfl:args= #[v0,v1,v2,v3,v4,v5]:=by cases args;simp_all
  obtain⟨b0,k0⟩:=hval 0 22 v0 rfl rfl
  obtain⟨b1,k1⟩:=hval 1 2 v1 rfl rfl
  obtain⟨b2,k2⟩:=hval 2 2 v2 rfl rfl
  obtain⟨b3,k3⟩:=hval 3 3 v3 rfl rfl
  obtain⟨b4,k4⟩:=hval 4 3 v4 rfl rfl
  obtain⟨b5,k5⟩:=hval 5 3 v5 rfl rfl
  obtain⟨fls0,r0,f0⟩:=ALc k0 h0
  obtain⟨a1,rfl,rfl,rfl,w1⟩:=open_int Tryd.underlying2 k1 h1
  obtain⟨a2,rfl,rfl,rfl,w2⟩:=open_int Tryd.underlying2 k2 h2
  obtain⟨a3,rfl,rfl,rfl,w3⟩:=open_int Tryd.underlying3 k3 h3
  obtain⟨a4,rfl,rfl,rfl,w4⟩:=open_int Tryd.underlying3 k4 h4
  obtain⟨a5,rfl,rfl,rfl,w5⟩:=open_int Tryd.underlying3 k5 h5
  exact⟨RG W,[toV v0,.int .i64 a1 0,.int .i64 a2 0,.int .i64 a3 0,.int .i64 a4 0,.int .i64 a5 0],AIJ W,.cons (AJN _ v0) (.cons rfl (.cons rfl (.cons rfl (.cons rfl (.cons rfl .nil))))),Go.RL.AC1 (AHx W) (of_laid hL) f0 λ_ _=>rfl⟩
theorem wU:Rows.VerifySoundSaid:=
 OpenClaim.holds_of_wide 7 Tryd.f7 rfl rfl rfl rfl rfl rfl rfl ⟨rfl,rfl,rfl,rfl,rfl⟩ rfl rfl rfl rfl rfl (by kernel_rfl) Tryd.func7 (by kernel_rfl)
  (of_decide_eq_true (by kernel_rfl)) (by unfold Func.isWrapper;rw[if_neg (of_decide_eq_false (by kernel_rfl))];exact⟨rfl,rfl⟩)
  (λos started H enc _=>tC os started H enc)
theorem verifySound_card:Rows.VerifySoundCardSaid:=
 Claim7.holds_tied_plain_at .later [] [.data] true (true, "5da4a2686d75d4bb4df39fd8b174fa89e64f23d4c49a1ca0d1f020fadd04e181") false
  wU (λ_ h=>by cases h) (by kernel_rfl) (λ_ h=>by cases h) verifySound_row_tie rfl ⟨rfl,rfl⟩ (by kernel_rfl) rfl
  (λf fn hf hfn=>by
   obtain rfl:f=7:=Option.some.inj ((show Tryd.prog.funcNamed "kiln/kilnlaw15.VerifySound" =some 7 by kernel_rfl).symm.trans hf) |>.symm
   obtain rfl:fn=Tryd.f7:=(Option.some.inj (Tryd.func7.symm.trans hfn)).symm
   exact⟨by kernel_rfl,λj t ht=>by
    rw[Tryd.params7]at ht
    have hm:=Array.mem_of_getElem? ht
    exact ALb (by simp at hm;rcases hm with h|h|h<;>simp[h])⟩)
  (by kernel_rfl)
#print axioms verifySound_card
end Go.Proofs.YtibbhhkcjjeclaaDoor
