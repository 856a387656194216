/- PROVED: the Go function kilnlaw10.EvalLoops (two ints in, one bool out) returns true for every input, and leaves its arguments as they were: the tied card kilnlaw10.EvalLoopsCardSaid. CONDITIONS: none beyond the card's own (the listed package variables hold what the program's text lays; the card ties it). The way: the code is turned into abstract code, checked by the kernel to be what the program has (text Code), an abstract run is proved to stand for the run of the model (texts EngA to EngF), the abstract code is proved to do what plain functions of values do (Plain, PlainR), and the 64 cases are run by the kernel. -/
import Derived.Test.YtgdefgnmabjmcaaGreatDoorCaseA
import Derived.Test.YtgdefgnmabjmcaaGreatDoorCaseB
import Derived.Test.YtgdefgnmabjmcaaGreatDoorCaseC
import Derived.Test.YtgdefgnmabjmcaaGreatDoorCaseD
import Derived.Test.YtgdefgnmabjmcaaGreatDoorCaseE
import Derived.Test.YtgdefgnmabjmcaaGreatDoorCaseF
import Derived.Test.YtgdefgnmabjmcaaGreatDoorCaseG
import Derived.Test.YtgdefgnmabjmcaaGreatDoorCaseH
import Derived.Test.YtgdefgnmabjmcaaGreatDoorSeat
import Derived.Test.YtgdefgnmabjmcaaGreatDoorTie
import Derived.Test.YtgdefgnmabjmcaaGreatDoorCards
import Derived.SevenTiedAt
set_option linter.unusedVariables false
set_option linter.unusedSimpArgs false
set_option maxRecDepth 100000
namespace Go.R3.LM
open Go.Eng Go.R3
attribute [local irreducible] tt Is Outs
theorem r_0 (a b : Int) (x : Nat) : tt a b 0 x := (c0 a b x).mpr ⟨is x 0, outs x 0 0⟩
theorem r_1 (a b : Int) (x : Nat) : tt a b 1 x := (c1 a b x).mpr ⟨is x 1, outs x 1 0⟩
theorem r_2 (a b : Int) (x : Nat) : tt a b 2 x := (c2 a b x).mpr ⟨is x 2, outs x 2 0⟩
theorem r_3 (a b : Int) (x : Nat) : tt a b 3 x := (c3 a b x).mpr ⟨is x 3, outs x 3 0⟩
theorem r_4 (a b : Int) (x : Nat) : tt a b 4 x := (c4 a b x).mpr ⟨is x 4, outs x 4 0⟩
theorem r_5 (a b : Int) (x : Nat) : tt a b 5 x := (c5 a b x).mpr ⟨is x 5, outs x 5 0⟩
theorem r_6 (a b : Int) (x : Nat) : tt a b 6 x := (c6 a b x).mpr ⟨is x 6, outs x 6 0⟩
theorem r_7 (a b : Int) (x : Nat) : tt a b 7 x := (c7 a b x).mpr ⟨is x 7, outs x 7 0⟩
theorem r_8 (a b : Int) (x : Nat) : tt a b 8 x := (c8 a b x).mpr ⟨is x 8, outs x 8 0⟩
theorem r_9 (a b : Int) (x : Nat) : tt a b 9 x := (c9 a b x).mpr ⟨is x 9, outs x 9 0⟩
theorem r_10 (a b : Int) (x : Nat) : tt a b 10 x := (c10 a b x).mpr ⟨is x 10, outs x 10 0⟩
theorem r_11 (a b : Int) (x : Nat) : tt a b 11 x := (c11 a b x).mpr ⟨is x 11, outs x 11 0⟩
theorem r_12 (a b : Int) (x : Nat) : tt a b 12 x := (c12 a b x).mpr ⟨is x 12, outs x 12 0⟩
theorem r_13 (a b : Int) (x : Nat) : tt a b 13 x := (c13 a b x).mpr ⟨is x 13, outs x 13 0⟩
theorem r_14 (a b : Int) (x : Nat) : tt a b 14 x := (c14 a b x).mpr ⟨is x 14, outs x 14 0⟩
theorem r_15 (a b : Int) (x : Nat) : tt a b 15 x := (c15 a b x).mpr ⟨is x 15, outs x 15 0⟩
theorem r_16 (a b : Int) (x : Nat) : tt a b 16 x := (c16 a b x).mpr ⟨is x 16, outs x 16 0⟩
theorem r_17 (a b : Int) (x : Nat) : tt a b 17 x := (c17 a b x).mpr ⟨is x 17, outs x 17 0⟩
theorem r_18 (a b : Int) (x : Nat) : tt a b 18 x := (c18 a b x).mpr ⟨is x 18, outs x 18 0⟩
theorem r_19 (a b : Int) (x : Nat) : tt a b 19 x := (c19 a b x).mpr ⟨is x 19, outs x 19 0⟩
theorem r_20 (a b : Int) (x : Nat) : tt a b 20 x := (c20 a b x).mpr ⟨is x 20, outs x 20 0⟩
theorem r_21 (a b : Int) (x : Nat) : tt a b 21 x := (c21 a b x).mpr ⟨is x 21, outs x 21 0⟩
theorem r_22 (a b : Int) (x : Nat) : tt a b 22 x := (c22 a b x).mpr ⟨is x 22, outs x 22 0⟩
theorem r_23 (a b : Int) (x : Nat) : tt a b 23 x := (c23 a b x).mpr ⟨is x 23, outs x 23 0⟩
theorem r_24 (a b : Int) (x : Nat) : tt a b 24 x := (c24 a b x).mpr ⟨is x 24, outs x 24 0⟩
theorem r_25 (a b : Int) (x : Nat) : tt a b 25 x := (c25 a b x).mpr ⟨is x 25, outs x 25 0⟩
theorem r_26 (a b : Int) (x : Nat) : tt a b 26 x := (c26 a b x).mpr ⟨is x 26, outs x 26 0⟩
theorem r_27 (a b : Int) (x : Nat) : tt a b 27 x := (c27 a b x).mpr ⟨is x 27, outs x 27 0⟩
theorem r_28 (a b : Int) (x : Nat) : tt a b 28 x := (c28 a b x).mpr ⟨is x 28, outs x 28 0⟩
theorem r_29 (a b : Int) (x : Nat) : tt a b 29 x := (c29 a b x).mpr ⟨is x 29, outs x 29 0⟩
theorem r_30 (a b : Int) (x : Nat) : tt a b 30 x := (c30 a b x).mpr ⟨is x 30, outs x 30 0⟩
theorem r_31 (a b : Int) (x : Nat) : tt a b 31 x := (c31 a b x).mpr ⟨is x 31, outs x 31 0⟩
theorem r_32 (a b : Int) (x : Nat) : tt a b 32 x := (c32 a b x).mpr ⟨is x 32, outs x 32 0⟩
theorem r_33 (a b : Int) (x : Nat) : tt a b 33 x := (c33 a b x).mpr ⟨is x 33, outs x 33 0⟩
theorem r_34 (a b : Int) (x : Nat) : tt a b 34 x := (c34 a b x).mpr ⟨is x 34, outs x 34 0⟩
theorem r_35 (a b : Int) (x : Nat) : tt a b 35 x := (c35 a b x).mpr ⟨is x 35, outs x 35 0⟩
theorem r_36 (a b : Int) (x : Nat) : tt a b 36 x := (c36 a b x).mpr ⟨is x 36, outs x 36 0⟩
theorem r_37 (a b : Int) (x : Nat) : tt a b 37 x := (c37 a b x).mpr ⟨is x 37, outs x 37 0⟩
theorem r_38 (a b : Int) (x : Nat) : tt a b 38 x := (c38 a b x).mpr ⟨is x 38, outs x 38 0⟩
theorem r_39 (a b : Int) (x : Nat) : tt a b 39 x := (c39 a b x).mpr ⟨is x 39, outs x 39 0⟩
theorem r_40 (a b : Int) (x : Nat) : tt a b 40 x := (c40 a b x).mpr ⟨is x 40, outs x 40 0⟩
theorem r_41 (a b : Int) (x : Nat) : tt a b 41 x := (c41 a b x).mpr ⟨is x 41, outs x 41 0⟩
theorem r_42 (a b : Int) (x : Nat) : tt a b 42 x := (c42 a b x).mpr ⟨is x 42, outs x 42 0⟩
theorem r_43 (a b : Int) (x : Nat) : tt a b 43 x := (c43 a b x).mpr ⟨is x 43, outs x 43 0⟩
theorem r_44 (a b : Int) (x : Nat) : tt a b 44 x := (c44 a b x).mpr ⟨is x 44, outs x 44 0⟩
theorem r_45 (a b : Int) (x : Nat) : tt a b 45 x := (c45 a b x).mpr ⟨is x 45, outs x 45 0⟩
theorem r_46 (a b : Int) (x : Nat) : tt a b 46 x := (c46 a b x).mpr ⟨is x 46, outs x 46 0⟩
theorem r_47 (a b : Int) (x : Nat) : tt a b 47 x := (c47 a b x).mpr ⟨is x 47, outs x 47 0⟩
theorem r_48 (a b : Int) (x : Nat) : tt a b 48 x := (c48 a b x).mpr ⟨is x 48, outs x 48 0⟩
theorem r_49 (a b : Int) (x : Nat) : tt a b 49 x := (c49 a b x).mpr ⟨is x 49, outs x 49 0⟩
theorem r_50 (a b : Int) (x : Nat) : tt a b 50 x := (c50 a b x).mpr ⟨is x 50, outs x 50 0⟩
theorem r_51 (a b : Int) (x : Nat) : tt a b 51 x := (c51 a b x).mpr ⟨is x 51, outs x 51 0⟩
theorem r_52 (a b : Int) (x : Nat) : tt a b 52 x := (c52 a b x).mpr ⟨is x 52, outs x 52 0⟩
theorem r_53 (a b : Int) (x : Nat) : tt a b 53 x := (c53 a b x).mpr ⟨is x 53, outs x 53 0⟩
theorem r_54 (a b : Int) (x : Nat) : tt a b 54 x := (c54 a b x).mpr ⟨is x 54, outs x 54 0⟩
theorem r_55 (a b : Int) (x : Nat) : tt a b 55 x := (c55 a b x).mpr ⟨is x 55, outs x 55 0⟩
theorem r_56 (a b : Int) (x : Nat) : tt a b 56 x := (c56 a b x).mpr ⟨is x 56, outs x 56 0⟩
theorem r_57 (a b : Int) (x : Nat) : tt a b 57 x := (c57 a b x).mpr ⟨is x 57, outs x 57 0⟩
theorem r_58 (a b : Int) (x : Nat) : tt a b 58 x := (c58 a b x).mpr ⟨is x 58, outs x 58 0⟩
theorem r_59 (a b : Int) (x : Nat) : tt a b 59 x := (c59 a b x).mpr ⟨is x 59, outs x 59 0⟩
theorem r_60 (a b : Int) (x : Nat) : tt a b 60 x := (c60 a b x).mpr ⟨is x 60, outs x 60 0⟩
theorem r_61 (a b : Int) (x : Nat) : tt a b 61 x := (c61 a b x).mpr ⟨is x 61, outs x 61 0⟩
theorem r_62 (a b : Int) (x : Nat) : tt a b 62 x := (c62 a b x).mpr ⟨is x 62, outs x 62 0⟩
theorem r_63 (a b : Int) (x : Nat) : tt a b 63 x := (c63 a b x).mpr ⟨is x 63, outs x 63 0⟩
def Row (n : Nat) : Prop := ∀ z0 z1 : Int, ∀ x : Nat, tt z0 z1 n x
theorem row_0 : Row 0 := r_0
theorem row_1 : Row 1 := r_1
theorem row_2 : Row 2 := r_2
theorem row_3 : Row 3 := r_3
theorem row_4 : Row 4 := r_4
theorem row_5 : Row 5 := r_5
theorem row_6 : Row 6 := r_6
theorem row_7 : Row 7 := r_7
theorem row_8 : Row 8 := r_8
theorem row_9 : Row 9 := r_9
theorem row_10 : Row 10 := r_10
theorem row_11 : Row 11 := r_11
theorem row_12 : Row 12 := r_12
theorem row_13 : Row 13 := r_13
theorem row_14 : Row 14 := r_14
theorem row_15 : Row 15 := r_15
theorem row_16 : Row 16 := r_16
theorem row_17 : Row 17 := r_17
theorem row_18 : Row 18 := r_18
theorem row_19 : Row 19 := r_19
theorem row_20 : Row 20 := r_20
theorem row_21 : Row 21 := r_21
theorem row_22 : Row 22 := r_22
theorem row_23 : Row 23 := r_23
theorem row_24 : Row 24 := r_24
theorem row_25 : Row 25 := r_25
theorem row_26 : Row 26 := r_26
theorem row_27 : Row 27 := r_27
theorem row_28 : Row 28 := r_28
theorem row_29 : Row 29 := r_29
theorem row_30 : Row 30 := r_30
theorem row_31 : Row 31 := r_31
theorem row_32 : Row 32 := r_32
theorem row_33 : Row 33 := r_33
theorem row_34 : Row 34 := r_34
theorem row_35 : Row 35 := r_35
theorem row_36 : Row 36 := r_36
theorem row_37 : Row 37 := r_37
theorem row_38 : Row 38 := r_38
theorem row_39 : Row 39 := r_39
theorem row_40 : Row 40 := r_40
theorem row_41 : Row 41 := r_41
theorem row_42 : Row 42 := r_42
theorem row_43 : Row 43 := r_43
theorem row_44 : Row 44 := r_44
theorem row_45 : Row 45 := r_45
theorem row_46 : Row 46 := r_46
theorem row_47 : Row 47 := r_47
theorem row_48 : Row 48 := r_48
theorem row_49 : Row 49 := r_49
theorem row_50 : Row 50 := r_50
theorem row_51 : Row 51 := r_51
theorem row_52 : Row 52 := r_52
theorem row_53 : Row 53 := r_53
theorem row_54 : Row 54 := r_54
theorem row_55 : Row 55 := r_55
theorem row_56 : Row 56 := r_56
theorem row_57 : Row 57 := r_57
theorem row_58 : Row 58 := r_58
theorem row_59 : Row 59 := r_59
theorem row_60 : Row 60 := r_60
theorem row_61 : Row 61 := r_61
theorem row_62 : Row 62 := r_62
theorem row_63 : Row 63 := r_63
attribute [local irreducible] Row
theorem row (n : Nat) (h : n < 64) : Row n := below64 (p := Row) row_0 row_1 row_2 row_3 row_4 row_5 row_6 row_7 row_8 row_9 row_10 row_11 row_12 row_13 row_14 row_15 row_16 row_17 row_18 row_19 row_20 row_21 row_22 row_23 row_24 row_25 row_26 row_27 row_28 row_29 row_30 row_31 row_32 row_33 row_34 row_35 row_36 row_37 row_38 row_39 row_40 row_41 row_42 row_43 row_44 row_45 row_46 row_47 row_48 row_49 row_50 row_51 row_52 row_53 row_54 row_55 row_56 row_57 row_58 row_59 row_60 row_61 row_62 row_63 n h
theorem runs_lawR {F : T AF} {G : Roms} {FS : T SF} (h : FsOk F G FS) {f : Nat} {af : AF} (hf : T.get F f = some af) {a : List V} (m : Nat) {t : Prop}
    (hs : ∀ callE, CallLe (runS FS m) callE → CallDet callE → t → exFunL af G callE a .e 0 isT) (hr : t) : Runs F G f a .e 0 fun v _ _ => v = .bool true :=
  runs_mono (k := isT) (fun _ _ _ hv => isT_iff hv) (runs_intro hf (hs _ (runS_le h m) (runs_det F G) hr))
theorem ti1 (z0 z1 : Int) : ∀ callE, CallLe (runS (FS (lpF 600) G0) 600) callE → CallDet callE → tt z0 z1 (uand z0 63) (uand z1 65535) → exFunL lf G0 callE [.int .i64 z0 0, .int .i64 z1 0] .e 0 isT := by
  intro callE hle hd h
  unfold tt at h
  exact ti_f10 (lpF_ok 600) z0 z1 (uand z0 63) (uand z1 65535) rfl rfl hle hd (by assumption)
theorem rowz (z0 z1 : Int) : tt z0 z1 (uand z0 63) (uand z1 65535) := by
  have h := row (uand z0 63) (Nat.lt_succ_of_le (uand_spec z0 (by decide)).2)
  unfold Row at h
  exact h z0 z1 (uand z1 65535)
theorem runs (z0 : Int) (z1 : Int) : Runs F G0 10 [.int .i64 z0 0, .int .i64 z1 0] .e 0 fun v _ _ => v = .bool true :=
  runs_lawR (fs_ok (lpF_ok 600) G0) at_law 600 (ti1 z0 z1) (rowz z0 z1)
end Go.R3.LM

namespace Go.Proofs.YtgdefgnmabjmcaaGreatDoor
open Go Go.Eng Go.ChangeShapes Go.WideShapes Go.RowKit
set_option maxRecDepth 100000
theorem evalLoops_lifted (os : Os) (started : os.Started) (H : Type) (enc : TypeId × Value → H) :
    ReturnsInHanded {} Tryz.checked os 10 .any (fun w args => (Rows.evalLoopsSpec.pre enc Tryz.prog Tryz.f10 [] false w args ∧ laidMetH Tryz.prog laidL w) ∧ sizedMet enc Tryz.prog Tryz.f10 (OpenSpec.ofChange Rows.evalLoopsSpec) false w args)
      (Rows.evalLoopsSpec.post enc Tryz.prog Tryz.f10 false true false false) := by
  refine law_lifted (C := Tryz.checked) (F := Go.R3.F) Go.R3.fns_ok started (tb := 4) ownK (by kernel_rfl) Tryz.func10 rfl ?_ (by kernel_rfl) Tryz.underlying4 laidOut ?_
    (World.doorLaid Tryz.prog 400 os) #[.int .i64 0, .int .i64 0] 8 rfl (by kernel_rfl) (by kernel_rfl) (by kernel_rfl) (by kernel_rfl) (by kernel_rfl) (door_met os _) ?_
  · intro ds hl
    match ds, hl with
    | [d0, d1], _ => rfl
  · intro t ht
    rw [Tryz.params10] at ht
    simp at ht
    rcases ht with rfl | rfl <;> exact ⟨by kernel_rfl, of_decide_eq_true (by kernel_rfl)⟩
  · intro W args ds ps hval hA hL
    rw [Tryz.params10] at hA hval
    obtain ⟨v0, v1, d0, d1, p, q, rfl, rfl, rfl, h0, h1⟩ := trodAll_two hA
    obtain ⟨b0, k0⟩ := hval 0 3 v0 rfl rfl
    obtain ⟨b1, k1⟩ := hval 1 2 v1 rfl rfl
    obtain ⟨a0, rfl, rfl, rfl, w0⟩ := open_int Tryz.underlying3 k0 h0
    obtain ⟨a1, rfl, rfl, rfl, w1⟩ := open_int Tryz.underlying2 k1 h1
    exact ⟨Go.R3.G0, [.int .i64 a0 0, .int .i64 a1 0], of_laid hL, .cons rfl (.cons rfl .nil), Go.R3.LM.runs a0 a1⟩
theorem evalLoops_holds : Rows.EvalLoopsSaid :=
  OpenClaim.holds_of_wide 10 Tryz.f10 rfl rfl rfl rfl rfl rfl rfl ⟨rfl, rfl, rfl, rfl, rfl⟩ rfl rfl rfl rfl rfl (by kernel_rfl) Tryz.func10 (by kernel_rfl)
    (of_decide_eq_true (by kernel_rfl)) (by unfold Func.isWrapper; rw [if_neg (of_decide_eq_false (by kernel_rfl))]; exact ⟨rfl, rfl⟩)
    (fun os started H enc _ => evalLoops_lifted os started H enc)
theorem evalLoops_card : Rows.EvalLoopsCardSaid :=
  Claim7.holds_tied_plain_at .later [] [.data] true (true, "dad5946ae5211f6ca16c1d0b774a8f70a96f95c421f047f3dddbc9f7b8b60996") false
    evalLoops_holds (fun _ h => by cases h) (by kernel_rfl) (fun _ h => by cases h) evalLoops_row_tie rfl ⟨rfl, rfl⟩ (by kernel_rfl) rfl
    (fun f fn hf hfn => by
      obtain rfl : f = 10 := Option.some.inj ((show Tryz.prog.funcNamed "kiln/kilnlaw10.EvalLoops" = some 10 by kernel_rfl).symm.trans hf) |>.symm
      obtain rfl : fn = Tryz.f10 := (Option.some.inj (Tryz.func10.symm.trans hfn)).symm
      exact ⟨by kernel_rfl, fun j t ht => by
        rw [Tryz.params10] at ht
        have hm := Array.mem_of_getElem? ht
        exact noStand (by simp at hm; rcases hm with h | h <;> simp [h])⟩)
    (by kernel_rfl)
#print axioms evalLoops_card
end Go.Proofs.YtgdefgnmabjmcaaGreatDoor

