/- PROVED: the Go function kilnlaw09.TypesScopes (two ints and a bool in, one bool out) returns true for every input, and leaves its arguments as they were: the tied card kilnlaw09.TypesScopesCardSaid. CONDITIONS: none beyond the card's own (the listed package variables hold what the program's text lays; the card ties it). The way: the code is turned into abstract code, checked by the kernel to be what the program has (text Code), an abstract run is proved to stand for the run of the model (texts EngA to EngF), the abstract code is proved to do what plain functions of values do (Plain, PlainR), and the 128 cases are run by the kernel. -/
import Derived.Test.YtgdefgnmabjmcaaGreatDoorCaseA
import Derived.Test.YtgdefgnmabjmcaaGreatDoorCaseB
import Derived.Test.YtgdefgnmabjmcaaGreatDoorCaseC
import Derived.Test.YtgdefgnmabjmcaaGreatDoorCaseD
import Derived.Test.YtgdefgnmabjmcaaGreatDoorCaseE
import Derived.Test.YtgdefgnmabjmcaaGreatDoorCaseF
import Derived.Test.YtgdefgnmabjmcaaGreatDoorCaseG
import Derived.Test.YtgdefgnmabjmcaaGreatDoorCaseH
import Derived.Test.YtgdefgnmabjmcaaGreatDoorSeat
import Derived.Test.YtgdefgnmabjmcaaGreatDoorTie
import Derived.Test.YtgdefgnmabjmcaaGreatDoorCards
import Derived.SevenTiedAt
set_option linter.unusedVariables false
set_option linter.unusedSimpArgs false
set_option maxRecDepth 100000
namespace Go.R3.LB
open Go.Eng Go.R3
def Case (x0 x1 : Nat) (b2 : Bool) : Prop := ∀ (z0 z1 : Int), t_f4 (lpF 600) G0 (runS (FS (lpF 600) G0) 600) z0 z1 b2 x0 x1 .e 0 isT = True
attribute [local irreducible] Case
theorem row_0_0 : ∀ b2 : Bool, Case 0 0 b2 := by
  intro b2
  cases b2
  · unfold Case; exact fun z0 z1 => case_0_0_false z0 z1
  · unfold Case; exact fun z0 z1 => case_0_0_true z0 z1

theorem row_0_1 : ∀ b2 : Bool, Case 0 1 b2 := by
  intro b2
  cases b2
  · unfold Case; exact fun z0 z1 => case_0_1_false z0 z1
  · unfold Case; exact fun z0 z1 => case_0_1_true z0 z1

theorem row_0_2 : ∀ b2 : Bool, Case 0 2 b2 := by
  intro b2
  cases b2
  · unfold Case; exact fun z0 z1 => case_0_2_false z0 z1
  · unfold Case; exact fun z0 z1 => case_0_2_true z0 z1

theorem row_0_3 : ∀ b2 : Bool, Case 0 3 b2 := by
  intro b2
  cases b2
  · unfold Case; exact fun z0 z1 => case_0_3_false z0 z1
  · unfold Case; exact fun z0 z1 => case_0_3_true z0 z1

theorem row_0_4 : ∀ b2 : Bool, Case 0 4 b2 := by
  intro b2
  cases b2
  · unfold Case; exact fun z0 z1 => case_0_4_false z0 z1
  · unfold Case; exact fun z0 z1 => case_0_4_true z0 z1

theorem row_0_5 : ∀ b2 : Bool, Case 0 5 b2 := by
  intro b2
  cases b2
  · unfold Case; exact fun z0 z1 => case_0_5_false z0 z1
  · unfold Case; exact fun z0 z1 => case_0_5_true z0 z1

theorem row_0_6 : ∀ b2 : Bool, Case 0 6 b2 := by
  intro b2
  cases b2
  · unfold Case; exact fun z0 z1 => case_0_6_false z0 z1
  · unfold Case; exact fun z0 z1 => case_0_6_true z0 z1

theorem row_0_7 : ∀ b2 : Bool, Case 0 7 b2 := by
  intro b2
  cases b2
  · unfold Case; exact fun z0 z1 => case_0_7_false z0 z1
  · unfold Case; exact fun z0 z1 => case_0_7_true z0 z1

theorem row_1_0 : ∀ b2 : Bool, Case 1 0 b2 := by
  intro b2
  cases b2
  · unfold Case; exact fun z0 z1 => case_1_0_false z0 z1
  · unfold Case; exact fun z0 z1 => case_1_0_true z0 z1

theorem row_1_1 : ∀ b2 : Bool, Case 1 1 b2 := by
  intro b2
  cases b2
  · unfold Case; exact fun z0 z1 => case_1_1_false z0 z1
  · unfold Case; exact fun z0 z1 => case_1_1_true z0 z1

theorem row_1_2 : ∀ b2 : Bool, Case 1 2 b2 := by
  intro b2
  cases b2
  · unfold Case; exact fun z0 z1 => case_1_2_false z0 z1
  · unfold Case; exact fun z0 z1 => case_1_2_true z0 z1

theorem row_1_3 : ∀ b2 : Bool, Case 1 3 b2 := by
  intro b2
  cases b2
  · unfold Case; exact fun z0 z1 => case_1_3_false z0 z1
  · unfold Case; exact fun z0 z1 => case_1_3_true z0 z1

theorem row_1_4 : ∀ b2 : Bool, Case 1 4 b2 := by
  intro b2
  cases b2
  · unfold Case; exact fun z0 z1 => case_1_4_false z0 z1
  · unfold Case; exact fun z0 z1 => case_1_4_true z0 z1

theorem row_1_5 : ∀ b2 : Bool, Case 1 5 b2 := by
  intro b2
  cases b2
  · unfold Case; exact fun z0 z1 => case_1_5_false z0 z1
  · unfold Case; exact fun z0 z1 => case_1_5_true z0 z1

theorem row_1_6 : ∀ b2 : Bool, Case 1 6 b2 := by
  intro b2
  cases b2
  · unfold Case; exact fun z0 z1 => case_1_6_false z0 z1
  · unfold Case; exact fun z0 z1 => case_1_6_true z0 z1

theorem row_1_7 : ∀ b2 : Bool, Case 1 7 b2 := by
  intro b2
  cases b2
  · unfold Case; exact fun z0 z1 => case_1_7_false z0 z1
  · unfold Case; exact fun z0 z1 => case_1_7_true z0 z1

theorem row_2_0 : ∀ b2 : Bool, Case 2 0 b2 := by
  intro b2
  cases b2
  · unfold Case; exact fun z0 z1 => case_2_0_false z0 z1
  · unfold Case; exact fun z0 z1 => case_2_0_true z0 z1

theorem row_2_1 : ∀ b2 : Bool, Case 2 1 b2 := by
  intro b2
  cases b2
  · unfold Case; exact fun z0 z1 => case_2_1_false z0 z1
  · unfold Case; exact fun z0 z1 => case_2_1_true z0 z1

theorem row_2_2 : ∀ b2 : Bool, Case 2 2 b2 := by
  intro b2
  cases b2
  · unfold Case; exact fun z0 z1 => case_2_2_false z0 z1
  · unfold Case; exact fun z0 z1 => case_2_2_true z0 z1

theorem row_2_3 : ∀ b2 : Bool, Case 2 3 b2 := by
  intro b2
  cases b2
  · unfold Case; exact fun z0 z1 => case_2_3_false z0 z1
  · unfold Case; exact fun z0 z1 => case_2_3_true z0 z1

theorem row_2_4 : ∀ b2 : Bool, Case 2 4 b2 := by
  intro b2
  cases b2
  · unfold Case; exact fun z0 z1 => case_2_4_false z0 z1
  · unfold Case; exact fun z0 z1 => case_2_4_true z0 z1

theorem row_2_5 : ∀ b2 : Bool, Case 2 5 b2 := by
  intro b2
  cases b2
  · unfold Case; exact fun z0 z1 => case_2_5_false z0 z1
  · unfold Case; exact fun z0 z1 => case_2_5_true z0 z1

theorem row_2_6 : ∀ b2 : Bool, Case 2 6 b2 := by
  intro b2
  cases b2
  · unfold Case; exact fun z0 z1 => case_2_6_false z0 z1
  · unfold Case; exact fun z0 z1 => case_2_6_true z0 z1

theorem row_2_7 : ∀ b2 : Bool, Case 2 7 b2 := by
  intro b2
  cases b2
  · unfold Case; exact fun z0 z1 => case_2_7_false z0 z1
  · unfold Case; exact fun z0 z1 => case_2_7_true z0 z1

theorem row_3_0 : ∀ b2 : Bool, Case 3 0 b2 := by
  intro b2
  cases b2
  · unfold Case; exact fun z0 z1 => case_3_0_false z0 z1
  · unfold Case; exact fun z0 z1 => case_3_0_true z0 z1

theorem row_3_1 : ∀ b2 : Bool, Case 3 1 b2 := by
  intro b2
  cases b2
  · unfold Case; exact fun z0 z1 => case_3_1_false z0 z1
  · unfold Case; exact fun z0 z1 => case_3_1_true z0 z1

theorem row_3_2 : ∀ b2 : Bool, Case 3 2 b2 := by
  intro b2
  cases b2
  · unfold Case; exact fun z0 z1 => case_3_2_false z0 z1
  · unfold Case; exact fun z0 z1 => case_3_2_true z0 z1

theorem row_3_3 : ∀ b2 : Bool, Case 3 3 b2 := by
  intro b2
  cases b2
  · unfold Case; exact fun z0 z1 => case_3_3_false z0 z1
  · unfold Case; exact fun z0 z1 => case_3_3_true z0 z1

theorem row_3_4 : ∀ b2 : Bool, Case 3 4 b2 := by
  intro b2
  cases b2
  · unfold Case; exact fun z0 z1 => case_3_4_false z0 z1
  · unfold Case; exact fun z0 z1 => case_3_4_true z0 z1

theorem row_3_5 : ∀ b2 : Bool, Case 3 5 b2 := by
  intro b2
  cases b2
  · unfold Case; exact fun z0 z1 => case_3_5_false z0 z1
  · unfold Case; exact fun z0 z1 => case_3_5_true z0 z1

theorem row_3_6 : ∀ b2 : Bool, Case 3 6 b2 := by
  intro b2
  cases b2
  · unfold Case; exact fun z0 z1 => case_3_6_false z0 z1
  · unfold Case; exact fun z0 z1 => case_3_6_true z0 z1

theorem row_3_7 : ∀ b2 : Bool, Case 3 7 b2 := by
  intro b2
  cases b2
  · unfold Case; exact fun z0 z1 => case_3_7_false z0 z1
  · unfold Case; exact fun z0 z1 => case_3_7_true z0 z1

theorem row_4_0 : ∀ b2 : Bool, Case 4 0 b2 := by
  intro b2
  cases b2
  · unfold Case; exact fun z0 z1 => case_4_0_false z0 z1
  · unfold Case; exact fun z0 z1 => case_4_0_true z0 z1

theorem row_4_1 : ∀ b2 : Bool, Case 4 1 b2 := by
  intro b2
  cases b2
  · unfold Case; exact fun z0 z1 => case_4_1_false z0 z1
  · unfold Case; exact fun z0 z1 => case_4_1_true z0 z1

theorem row_4_2 : ∀ b2 : Bool, Case 4 2 b2 := by
  intro b2
  cases b2
  · unfold Case; exact fun z0 z1 => case_4_2_false z0 z1
  · unfold Case; exact fun z0 z1 => case_4_2_true z0 z1

theorem row_4_3 : ∀ b2 : Bool, Case 4 3 b2 := by
  intro b2
  cases b2
  · unfold Case; exact fun z0 z1 => case_4_3_false z0 z1
  · unfold Case; exact fun z0 z1 => case_4_3_true z0 z1

theorem row_4_4 : ∀ b2 : Bool, Case 4 4 b2 := by
  intro b2
  cases b2
  · unfold Case; exact fun z0 z1 => case_4_4_false z0 z1
  · unfold Case; exact fun z0 z1 => case_4_4_true z0 z1

theorem row_4_5 : ∀ b2 : Bool, Case 4 5 b2 := by
  intro b2
  cases b2
  · unfold Case; exact fun z0 z1 => case_4_5_false z0 z1
  · unfold Case; exact fun z0 z1 => case_4_5_true z0 z1

theorem row_4_6 : ∀ b2 : Bool, Case 4 6 b2 := by
  intro b2
  cases b2
  · unfold Case; exact fun z0 z1 => case_4_6_false z0 z1
  · unfold Case; exact fun z0 z1 => case_4_6_true z0 z1

theorem row_4_7 : ∀ b2 : Bool, Case 4 7 b2 := by
  intro b2
  cases b2
  · unfold Case; exact fun z0 z1 => case_4_7_false z0 z1
  · unfold Case; exact fun z0 z1 => case_4_7_true z0 z1

theorem row_5_0 : ∀ b2 : Bool, Case 5 0 b2 := by
  intro b2
  cases b2
  · unfold Case; exact fun z0 z1 => case_5_0_false z0 z1
  · unfold Case; exact fun z0 z1 => case_5_0_true z0 z1

theorem row_5_1 : ∀ b2 : Bool, Case 5 1 b2 := by
  intro b2
  cases b2
  · unfold Case; exact fun z0 z1 => case_5_1_false z0 z1
  · unfold Case; exact fun z0 z1 => case_5_1_true z0 z1

theorem row_5_2 : ∀ b2 : Bool, Case 5 2 b2 := by
  intro b2
  cases b2
  · unfold Case; exact fun z0 z1 => case_5_2_false z0 z1
  · unfold Case; exact fun z0 z1 => case_5_2_true z0 z1

theorem row_5_3 : ∀ b2 : Bool, Case 5 3 b2 := by
  intro b2
  cases b2
  · unfold Case; exact fun z0 z1 => case_5_3_false z0 z1
  · unfold Case; exact fun z0 z1 => case_5_3_true z0 z1

theorem row_5_4 : ∀ b2 : Bool, Case 5 4 b2 := by
  intro b2
  cases b2
  · unfold Case; exact fun z0 z1 => case_5_4_false z0 z1
  · unfold Case; exact fun z0 z1 => case_5_4_true z0 z1

theorem row_5_5 : ∀ b2 : Bool, Case 5 5 b2 := by
  intro b2
  cases b2
  · unfold Case; exact fun z0 z1 => case_5_5_false z0 z1
  · unfold Case; exact fun z0 z1 => case_5_5_true z0 z1

theorem row_5_6 : ∀ b2 : Bool, Case 5 6 b2 := by
  intro b2
  cases b2
  · unfold Case; exact fun z0 z1 => case_5_6_false z0 z1
  · unfold Case; exact fun z0 z1 => case_5_6_true z0 z1

theorem row_5_7 : ∀ b2 : Bool, Case 5 7 b2 := by
  intro b2
  cases b2
  · unfold Case; exact fun z0 z1 => case_5_7_false z0 z1
  · unfold Case; exact fun z0 z1 => case_5_7_true z0 z1

theorem row_6_0 : ∀ b2 : Bool, Case 6 0 b2 := by
  intro b2
  cases b2
  · unfold Case; exact fun z0 z1 => case_6_0_false z0 z1
  · unfold Case; exact fun z0 z1 => case_6_0_true z0 z1

theorem row_6_1 : ∀ b2 : Bool, Case 6 1 b2 := by
  intro b2
  cases b2
  · unfold Case; exact fun z0 z1 => case_6_1_false z0 z1
  · unfold Case; exact fun z0 z1 => case_6_1_true z0 z1

theorem row_6_2 : ∀ b2 : Bool, Case 6 2 b2 := by
  intro b2
  cases b2
  · unfold Case; exact fun z0 z1 => case_6_2_false z0 z1
  · unfold Case; exact fun z0 z1 => case_6_2_true z0 z1

theorem row_6_3 : ∀ b2 : Bool, Case 6 3 b2 := by
  intro b2
  cases b2
  · unfold Case; exact fun z0 z1 => case_6_3_false z0 z1
  · unfold Case; exact fun z0 z1 => case_6_3_true z0 z1

theorem row_6_4 : ∀ b2 : Bool, Case 6 4 b2 := by
  intro b2
  cases b2
  · unfold Case; exact fun z0 z1 => case_6_4_false z0 z1
  · unfold Case; exact fun z0 z1 => case_6_4_true z0 z1

theorem row_6_5 : ∀ b2 : Bool, Case 6 5 b2 := by
  intro b2
  cases b2
  · unfold Case; exact fun z0 z1 => case_6_5_false z0 z1
  · unfold Case; exact fun z0 z1 => case_6_5_true z0 z1

theorem row_6_6 : ∀ b2 : Bool, Case 6 6 b2 := by
  intro b2
  cases b2
  · unfold Case; exact fun z0 z1 => case_6_6_false z0 z1
  · unfold Case; exact fun z0 z1 => case_6_6_true z0 z1

theorem row_6_7 : ∀ b2 : Bool, Case 6 7 b2 := by
  intro b2
  cases b2
  · unfold Case; exact fun z0 z1 => case_6_7_false z0 z1
  · unfold Case; exact fun z0 z1 => case_6_7_true z0 z1

theorem row_7_0 : ∀ b2 : Bool, Case 7 0 b2 := by
  intro b2
  cases b2
  · unfold Case; exact fun z0 z1 => case_7_0_false z0 z1
  · unfold Case; exact fun z0 z1 => case_7_0_true z0 z1

theorem row_7_1 : ∀ b2 : Bool, Case 7 1 b2 := by
  intro b2
  cases b2
  · unfold Case; exact fun z0 z1 => case_7_1_false z0 z1
  · unfold Case; exact fun z0 z1 => case_7_1_true z0 z1

theorem row_7_2 : ∀ b2 : Bool, Case 7 2 b2 := by
  intro b2
  cases b2
  · unfold Case; exact fun z0 z1 => case_7_2_false z0 z1
  · unfold Case; exact fun z0 z1 => case_7_2_true z0 z1

theorem row_7_3 : ∀ b2 : Bool, Case 7 3 b2 := by
  intro b2
  cases b2
  · unfold Case; exact fun z0 z1 => case_7_3_false z0 z1
  · unfold Case; exact fun z0 z1 => case_7_3_true z0 z1

theorem row_7_4 : ∀ b2 : Bool, Case 7 4 b2 := by
  intro b2
  cases b2
  · unfold Case; exact fun z0 z1 => case_7_4_false z0 z1
  · unfold Case; exact fun z0 z1 => case_7_4_true z0 z1

theorem row_7_5 : ∀ b2 : Bool, Case 7 5 b2 := by
  intro b2
  cases b2
  · unfold Case; exact fun z0 z1 => case_7_5_false z0 z1
  · unfold Case; exact fun z0 z1 => case_7_5_true z0 z1

theorem row_7_6 : ∀ b2 : Bool, Case 7 6 b2 := by
  intro b2
  cases b2
  · unfold Case; exact fun z0 z1 => case_7_6_false z0 z1
  · unfold Case; exact fun z0 z1 => case_7_6_true z0 z1

theorem row_7_7 : ∀ b2 : Bool, Case 7 7 b2 := by
  intro b2
  cases b2
  · unfold Case; exact fun z0 z1 => case_7_7_false z0 z1
  · unfold Case; exact fun z0 z1 => case_7_7_true z0 z1

theorem row_0 : ∀ x1 : Nat, x1 < 8 → ∀ b2 : Bool, Case 0 x1 b2 := by
  intro x1 hx1
  exact below8 (p := fun x1 => ∀ b2 : Bool, Case 0 x1 b2) (row_0_0 ) (row_0_1 ) (row_0_2 ) (row_0_3 ) (row_0_4 ) (row_0_5 ) (row_0_6 ) (row_0_7 ) x1 hx1
theorem row_1 : ∀ x1 : Nat, x1 < 8 → ∀ b2 : Bool, Case 1 x1 b2 := by
  intro x1 hx1
  exact below8 (p := fun x1 => ∀ b2 : Bool, Case 1 x1 b2) (row_1_0 ) (row_1_1 ) (row_1_2 ) (row_1_3 ) (row_1_4 ) (row_1_5 ) (row_1_6 ) (row_1_7 ) x1 hx1
theorem row_2 : ∀ x1 : Nat, x1 < 8 → ∀ b2 : Bool, Case 2 x1 b2 := by
  intro x1 hx1
  exact below8 (p := fun x1 => ∀ b2 : Bool, Case 2 x1 b2) (row_2_0 ) (row_2_1 ) (row_2_2 ) (row_2_3 ) (row_2_4 ) (row_2_5 ) (row_2_6 ) (row_2_7 ) x1 hx1
theorem row_3 : ∀ x1 : Nat, x1 < 8 → ∀ b2 : Bool, Case 3 x1 b2 := by
  intro x1 hx1
  exact below8 (p := fun x1 => ∀ b2 : Bool, Case 3 x1 b2) (row_3_0 ) (row_3_1 ) (row_3_2 ) (row_3_3 ) (row_3_4 ) (row_3_5 ) (row_3_6 ) (row_3_7 ) x1 hx1
theorem row_4 : ∀ x1 : Nat, x1 < 8 → ∀ b2 : Bool, Case 4 x1 b2 := by
  intro x1 hx1
  exact below8 (p := fun x1 => ∀ b2 : Bool, Case 4 x1 b2) (row_4_0 ) (row_4_1 ) (row_4_2 ) (row_4_3 ) (row_4_4 ) (row_4_5 ) (row_4_6 ) (row_4_7 ) x1 hx1
theorem row_5 : ∀ x1 : Nat, x1 < 8 → ∀ b2 : Bool, Case 5 x1 b2 := by
  intro x1 hx1
  exact below8 (p := fun x1 => ∀ b2 : Bool, Case 5 x1 b2) (row_5_0 ) (row_5_1 ) (row_5_2 ) (row_5_3 ) (row_5_4 ) (row_5_5 ) (row_5_6 ) (row_5_7 ) x1 hx1
theorem row_6 : ∀ x1 : Nat, x1 < 8 → ∀ b2 : Bool, Case 6 x1 b2 := by
  intro x1 hx1
  exact below8 (p := fun x1 => ∀ b2 : Bool, Case 6 x1 b2) (row_6_0 ) (row_6_1 ) (row_6_2 ) (row_6_3 ) (row_6_4 ) (row_6_5 ) (row_6_6 ) (row_6_7 ) x1 hx1
theorem row_7 : ∀ x1 : Nat, x1 < 8 → ∀ b2 : Bool, Case 7 x1 b2 := by
  intro x1 hx1
  exact below8 (p := fun x1 => ∀ b2 : Bool, Case 7 x1 b2) (row_7_0 ) (row_7_1 ) (row_7_2 ) (row_7_3 ) (row_7_4 ) (row_7_5 ) (row_7_6 ) (row_7_7 ) x1 hx1
theorem row : ∀ x0 x1 : Nat, x0 < 8 → x1 < 8 → ∀ b2 : Bool, Case x0 x1 b2 := by
  intro x0 x1 hx0 hx1
  exact below8 (p := fun x0 => ∀ b2 : Bool, Case x0 x1 b2) (row_0 x1 hx1) (row_1 x1 hx1) (row_2 x1 hx1) (row_3 x1 hx1) (row_4 x1 hx1) (row_5 x1 hx1) (row_6 x1 hx1) (row_7 x1 hx1) x0 hx0
theorem runs (z0 : Int) (z1 : Int) (b2 : Bool) : Runs F G0 4 [.int .i64 z0 0, .int .i64 z1 0, .bool b2] .e 0 fun v _ _ => v = .bool true :=
  runs_law (fs_ok (lpF_ok 600) G0) at_law 600 (t := fun k => t_f4 (lpF 600) G0 (runS (FS (lpF 600) G0) 600) z0 z1 b2 (uand z0 7) (uand z1 7) .e 0 k) (fun callE hle hd h => ti_f4 (lpF_ok 600) z0 z1 b2 (uand z0 7) (uand z1 7) rfl rfl hle hd h)
    (by have h := row (uand z0 7) (uand z1 7) (Nat.lt_succ_of_le (uand_spec z0 (by decide)).2) (Nat.lt_succ_of_le (uand_spec z1 (by decide)).2) b2; unfold Case at h; exact h z0 z1)
end Go.R3.LB

namespace Go.Proofs.YtgdefgnmabjmcaaGreatDoor
open Go Go.Eng Go.ChangeShapes Go.WideShapes Go.RowKit
set_option maxRecDepth 100000
theorem typesScopes_lifted (os : Os) (started : os.Started) (H : Type) (enc : TypeId × Value → H) :
    ReturnsInHanded {} Tryz.checked os 4 .any (fun w args => (Rows.typesScopesSpec.pre enc Tryz.prog Tryz.f4 [] false w args ∧ laidMetH Tryz.prog laidL w) ∧ sizedMet enc Tryz.prog Tryz.f4 (OpenSpec.ofChange Rows.typesScopesSpec) false w args)
      (Rows.typesScopesSpec.post enc Tryz.prog Tryz.f4 false true false false) := by
  refine law_lifted (C := Tryz.checked) (F := Go.R3.F) Go.R3.fns_ok started (tb := 4) ownK (by kernel_rfl) Tryz.func4 rfl ?_ (by kernel_rfl) Tryz.underlying4 laidOut ?_
    (World.doorLaid Tryz.prog 400 os) #[.int .i64 0, .int .i64 0, .bool false] 8 rfl (by kernel_rfl) (by kernel_rfl) (by kernel_rfl) (by kernel_rfl) (by kernel_rfl) (door_met os _) ?_
  · intro ds hl
    match ds, hl with
    | [d0, d1, d2], _ => rfl
  · intro t ht
    rw [Tryz.params4] at ht
    simp at ht
    rcases ht with rfl | rfl <;> exact ⟨by kernel_rfl, of_decide_eq_true (by kernel_rfl)⟩
  · intro W args ds ps hval hA hL
    rw [Tryz.params4] at hA hval
    obtain ⟨v0, v1, v2, d0, d1, d2, p, q, r, rfl, rfl, rfl, h0, h1, h2⟩ := trodAll_three hA
    obtain ⟨b0, k0⟩ := hval 0 3 v0 rfl rfl
    obtain ⟨b1, k1⟩ := hval 1 3 v1 rfl rfl
    obtain ⟨b2, k2⟩ := hval 2 4 v2 rfl rfl
    obtain ⟨a0, rfl, rfl, rfl, w0⟩ := open_int Tryz.underlying3 k0 h0
    obtain ⟨a1, rfl, rfl, rfl, w1⟩ := open_int Tryz.underlying3 k1 h1
    obtain ⟨a2, rfl, rfl, rfl⟩ := open_bool Tryz.underlying4 k2 h2
    exact ⟨Go.R3.G0, [.int .i64 a0 0, .int .i64 a1 0, .bool a2], of_laid hL, .cons rfl (.cons rfl (.cons rfl .nil)), Go.R3.LB.runs a0 a1 a2⟩
theorem typesScopes_holds : Rows.TypesScopesSaid :=
  OpenClaim.holds_of_wide 4 Tryz.f4 rfl rfl rfl rfl rfl rfl rfl ⟨rfl, rfl, rfl, rfl, rfl⟩ rfl rfl rfl rfl rfl (by kernel_rfl) Tryz.func4 (by kernel_rfl)
    (of_decide_eq_true (by kernel_rfl)) (by unfold Func.isWrapper; rw [if_neg (of_decide_eq_false (by kernel_rfl))]; exact ⟨rfl, rfl⟩)
    (fun os started H enc _ => typesScopes_lifted os started H enc)
theorem typesScopes_card : Rows.TypesScopesCardSaid :=
  Claim7.holds_tied_plain_at .later [] [.data] true (true, "dad5946ae5211f6ca16c1d0b774a8f70a96f95c421f047f3dddbc9f7b8b60996") false
    typesScopes_holds (fun _ h => by cases h) (by kernel_rfl) (fun _ h => by cases h) typesScopes_row_tie rfl ⟨rfl, rfl⟩ (by kernel_rfl) rfl
    (fun f fn hf hfn => by
      obtain rfl : f = 4 := Option.some.inj ((show Tryz.prog.funcNamed "kiln/kilnlaw09.TypesScopes" = some 4 by kernel_rfl).symm.trans hf) |>.symm
      obtain rfl : fn = Tryz.f4 := (Option.some.inj (Tryz.func4.symm.trans hfn)).symm
      exact ⟨by kernel_rfl, fun j t ht => by
        rw [Tryz.params4] at ht
        have hm := Array.mem_of_getElem? ht
        exact noStand (by simp at hm; rcases hm with h | h <;> simp [h])⟩)
    (by kernel_rfl)
#print axioms typesScopes_card
end Go.Proofs.YtgdefgnmabjmcaaGreatDoor

