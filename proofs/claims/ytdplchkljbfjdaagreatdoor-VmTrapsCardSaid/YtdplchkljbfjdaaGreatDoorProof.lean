/- PROVED: the Go function kilnlaw16.VmTraps (two ints in, one bool out) returns true for every input, and leaves its arguments as they were: the tied card kilnlaw16.VmTrapsCardSaid. CONDITIONS: none beyond the card's own (the listed package variables hold what the program's text lays; the card ties it). The way: the code is turned into abstract code, checked by the kernel to be what the program has (text Code), an abstract run is proved to stand for the run of the model (texts EngA to EngF), the abstract code is proved to do what plain functions of values do (Plain, PlainR), and the 192 cases are run by the kernel. -/
import Derived.Test.YtdplchkljbfjdaaGreatDoorCaseA
import Derived.Test.YtdplchkljbfjdaaGreatDoorCaseB
import Derived.Test.YtdplchkljbfjdaaGreatDoorCaseC
import Derived.Test.YtdplchkljbfjdaaGreatDoorCaseD
import Derived.Test.YtdplchkljbfjdaaGreatDoorCaseE
import Derived.Test.YtdplchkljbfjdaaGreatDoorCaseF
import Derived.Test.YtdplchkljbfjdaaGreatDoorCaseG
import Derived.Test.YtdplchkljbfjdaaGreatDoorCaseH
import Derived.Test.YtdplchkljbfjdaaGreatDoorCaseI
import Derived.Test.YtdplchkljbfjdaaGreatDoorCaseJ
import Derived.Test.YtdplchkljbfjdaaGreatDoorCaseK
import Derived.Test.YtdplchkljbfjdaaGreatDoorCaseL
import Derived.Test.YtdplchkljbfjdaaGreatDoorSeat
import Derived.Test.YtdplchkljbfjdaaGreatDoorTie
import Derived.Test.YtdplchkljbfjdaaGreatDoorCards
import Derived.SevenTiedAt
set_option linter.unusedVariables false
set_option linter.unusedSimpArgs false
set_option maxRecDepth 100000
namespace Go.R5.VC
open Go.Eng Go.R5
def Case (x0 x1 : Nat) : Prop := ∀ (z0 z1 : Int), t_f8 (lpF 2000) G0 (runS (FS (lpF 2000) G0) 2000) z0 z1 x0 x1 .e 0 isT = True
attribute [local irreducible] Case
theorem row_0_0 : Case 0 0 := by unfold Case; exact fun z0 z1 => case_0_0 z0 z1
theorem row_0_1 : Case 0 1 := by unfold Case; exact fun z0 z1 => case_0_1 z0 z1
theorem row_0_2 : Case 0 2 := by unfold Case; exact fun z0 z1 => case_0_2 z0 z1
theorem row_0_3 : Case 0 3 := by unfold Case; exact fun z0 z1 => case_0_3 z0 z1
theorem row_0_4 : Case 0 4 := by unfold Case; exact fun z0 z1 => case_0_4 z0 z1
theorem row_0_5 : Case 0 5 := by unfold Case; exact fun z0 z1 => case_0_5 z0 z1
theorem row_0_6 : Case 0 6 := by unfold Case; exact fun z0 z1 => case_0_6 z0 z1
theorem row_0_7 : Case 0 7 := by unfold Case; exact fun z0 z1 => case_0_7 z0 z1
theorem row_0_8 : Case 0 8 := by unfold Case; exact fun z0 z1 => case_0_8 z0 z1
theorem row_0_9 : Case 0 9 := by unfold Case; exact fun z0 z1 => case_0_9 z0 z1
theorem row_0_10 : Case 0 10 := by unfold Case; exact fun z0 z1 => case_0_10 z0 z1
theorem row_0_11 : Case 0 11 := by unfold Case; exact fun z0 z1 => case_0_11 z0 z1
theorem row_1_0 : Case 1 0 := by unfold Case; exact fun z0 z1 => case_1_0 z0 z1
theorem row_1_1 : Case 1 1 := by unfold Case; exact fun z0 z1 => case_1_1 z0 z1
theorem row_1_2 : Case 1 2 := by unfold Case; exact fun z0 z1 => case_1_2 z0 z1
theorem row_1_3 : Case 1 3 := by unfold Case; exact fun z0 z1 => case_1_3 z0 z1
theorem row_1_4 : Case 1 4 := by unfold Case; exact fun z0 z1 => case_1_4 z0 z1
theorem row_1_5 : Case 1 5 := by unfold Case; exact fun z0 z1 => case_1_5 z0 z1
theorem row_1_6 : Case 1 6 := by unfold Case; exact fun z0 z1 => case_1_6 z0 z1
theorem row_1_7 : Case 1 7 := by unfold Case; exact fun z0 z1 => case_1_7 z0 z1
theorem row_1_8 : Case 1 8 := by unfold Case; exact fun z0 z1 => case_1_8 z0 z1
theorem row_1_9 : Case 1 9 := by unfold Case; exact fun z0 z1 => case_1_9 z0 z1
theorem row_1_10 : Case 1 10 := by unfold Case; exact fun z0 z1 => case_1_10 z0 z1
theorem row_1_11 : Case 1 11 := by unfold Case; exact fun z0 z1 => case_1_11 z0 z1
theorem row_2_0 : Case 2 0 := by unfold Case; exact fun z0 z1 => case_2_0 z0 z1
theorem row_2_1 : Case 2 1 := by unfold Case; exact fun z0 z1 => case_2_1 z0 z1
theorem row_2_2 : Case 2 2 := by unfold Case; exact fun z0 z1 => case_2_2 z0 z1
theorem row_2_3 : Case 2 3 := by unfold Case; exact fun z0 z1 => case_2_3 z0 z1
theorem row_2_4 : Case 2 4 := by unfold Case; exact fun z0 z1 => case_2_4 z0 z1
theorem row_2_5 : Case 2 5 := by unfold Case; exact fun z0 z1 => case_2_5 z0 z1
theorem row_2_6 : Case 2 6 := by unfold Case; exact fun z0 z1 => case_2_6 z0 z1
theorem row_2_7 : Case 2 7 := by unfold Case; exact fun z0 z1 => case_2_7 z0 z1
theorem row_2_8 : Case 2 8 := by unfold Case; exact fun z0 z1 => case_2_8 z0 z1
theorem row_2_9 : Case 2 9 := by unfold Case; exact fun z0 z1 => case_2_9 z0 z1
theorem row_2_10 : Case 2 10 := by unfold Case; exact fun z0 z1 => case_2_10 z0 z1
theorem row_2_11 : Case 2 11 := by unfold Case; exact fun z0 z1 => case_2_11 z0 z1
theorem row_3_0 : Case 3 0 := by unfold Case; exact fun z0 z1 => case_3_0 z0 z1
theorem row_3_1 : Case 3 1 := by unfold Case; exact fun z0 z1 => case_3_1 z0 z1
theorem row_3_2 : Case 3 2 := by unfold Case; exact fun z0 z1 => case_3_2 z0 z1
theorem row_3_3 : Case 3 3 := by unfold Case; exact fun z0 z1 => case_3_3 z0 z1
theorem row_3_4 : Case 3 4 := by unfold Case; exact fun z0 z1 => case_3_4 z0 z1
theorem row_3_5 : Case 3 5 := by unfold Case; exact fun z0 z1 => case_3_5 z0 z1
theorem row_3_6 : Case 3 6 := by unfold Case; exact fun z0 z1 => case_3_6 z0 z1
theorem row_3_7 : Case 3 7 := by unfold Case; exact fun z0 z1 => case_3_7 z0 z1
theorem row_3_8 : Case 3 8 := by unfold Case; exact fun z0 z1 => case_3_8 z0 z1
theorem row_3_9 : Case 3 9 := by unfold Case; exact fun z0 z1 => case_3_9 z0 z1
theorem row_3_10 : Case 3 10 := by unfold Case; exact fun z0 z1 => case_3_10 z0 z1
theorem row_3_11 : Case 3 11 := by unfold Case; exact fun z0 z1 => case_3_11 z0 z1
theorem row_4_0 : Case 4 0 := by unfold Case; exact fun z0 z1 => case_4_0 z0 z1
theorem row_4_1 : Case 4 1 := by unfold Case; exact fun z0 z1 => case_4_1 z0 z1
theorem row_4_2 : Case 4 2 := by unfold Case; exact fun z0 z1 => case_4_2 z0 z1
theorem row_4_3 : Case 4 3 := by unfold Case; exact fun z0 z1 => case_4_3 z0 z1
theorem row_4_4 : Case 4 4 := by unfold Case; exact fun z0 z1 => case_4_4 z0 z1
theorem row_4_5 : Case 4 5 := by unfold Case; exact fun z0 z1 => case_4_5 z0 z1
theorem row_4_6 : Case 4 6 := by unfold Case; exact fun z0 z1 => case_4_6 z0 z1
theorem row_4_7 : Case 4 7 := by unfold Case; exact fun z0 z1 => case_4_7 z0 z1
theorem row_4_8 : Case 4 8 := by unfold Case; exact fun z0 z1 => case_4_8 z0 z1
theorem row_4_9 : Case 4 9 := by unfold Case; exact fun z0 z1 => case_4_9 z0 z1
theorem row_4_10 : Case 4 10 := by unfold Case; exact fun z0 z1 => case_4_10 z0 z1
theorem row_4_11 : Case 4 11 := by unfold Case; exact fun z0 z1 => case_4_11 z0 z1
theorem row_5_0 : Case 5 0 := by unfold Case; exact fun z0 z1 => case_5_0 z0 z1
theorem row_5_1 : Case 5 1 := by unfold Case; exact fun z0 z1 => case_5_1 z0 z1
theorem row_5_2 : Case 5 2 := by unfold Case; exact fun z0 z1 => case_5_2 z0 z1
theorem row_5_3 : Case 5 3 := by unfold Case; exact fun z0 z1 => case_5_3 z0 z1
theorem row_5_4 : Case 5 4 := by unfold Case; exact fun z0 z1 => case_5_4 z0 z1
theorem row_5_5 : Case 5 5 := by unfold Case; exact fun z0 z1 => case_5_5 z0 z1
theorem row_5_6 : Case 5 6 := by unfold Case; exact fun z0 z1 => case_5_6 z0 z1
theorem row_5_7 : Case 5 7 := by unfold Case; exact fun z0 z1 => case_5_7 z0 z1
theorem row_5_8 : Case 5 8 := by unfold Case; exact fun z0 z1 => case_5_8 z0 z1
theorem row_5_9 : Case 5 9 := by unfold Case; exact fun z0 z1 => case_5_9 z0 z1
theorem row_5_10 : Case 5 10 := by unfold Case; exact fun z0 z1 => case_5_10 z0 z1
theorem row_5_11 : Case 5 11 := by unfold Case; exact fun z0 z1 => case_5_11 z0 z1
theorem row_6_0 : Case 6 0 := by unfold Case; exact fun z0 z1 => case_6_0 z0 z1
theorem row_6_1 : Case 6 1 := by unfold Case; exact fun z0 z1 => case_6_1 z0 z1
theorem row_6_2 : Case 6 2 := by unfold Case; exact fun z0 z1 => case_6_2 z0 z1
theorem row_6_3 : Case 6 3 := by unfold Case; exact fun z0 z1 => case_6_3 z0 z1
theorem row_6_4 : Case 6 4 := by unfold Case; exact fun z0 z1 => case_6_4 z0 z1
theorem row_6_5 : Case 6 5 := by unfold Case; exact fun z0 z1 => case_6_5 z0 z1
theorem row_6_6 : Case 6 6 := by unfold Case; exact fun z0 z1 => case_6_6 z0 z1
theorem row_6_7 : Case 6 7 := by unfold Case; exact fun z0 z1 => case_6_7 z0 z1
theorem row_6_8 : Case 6 8 := by unfold Case; exact fun z0 z1 => case_6_8 z0 z1
theorem row_6_9 : Case 6 9 := by unfold Case; exact fun z0 z1 => case_6_9 z0 z1
theorem row_6_10 : Case 6 10 := by unfold Case; exact fun z0 z1 => case_6_10 z0 z1
theorem row_6_11 : Case 6 11 := by unfold Case; exact fun z0 z1 => case_6_11 z0 z1
theorem row_7_0 : Case 7 0 := by unfold Case; exact fun z0 z1 => case_7_0 z0 z1
theorem row_7_1 : Case 7 1 := by unfold Case; exact fun z0 z1 => case_7_1 z0 z1
theorem row_7_2 : Case 7 2 := by unfold Case; exact fun z0 z1 => case_7_2 z0 z1
theorem row_7_3 : Case 7 3 := by unfold Case; exact fun z0 z1 => case_7_3 z0 z1
theorem row_7_4 : Case 7 4 := by unfold Case; exact fun z0 z1 => case_7_4 z0 z1
theorem row_7_5 : Case 7 5 := by unfold Case; exact fun z0 z1 => case_7_5 z0 z1
theorem row_7_6 : Case 7 6 := by unfold Case; exact fun z0 z1 => case_7_6 z0 z1
theorem row_7_7 : Case 7 7 := by unfold Case; exact fun z0 z1 => case_7_7 z0 z1
theorem row_7_8 : Case 7 8 := by unfold Case; exact fun z0 z1 => case_7_8 z0 z1
theorem row_7_9 : Case 7 9 := by unfold Case; exact fun z0 z1 => case_7_9 z0 z1
theorem row_7_10 : Case 7 10 := by unfold Case; exact fun z0 z1 => case_7_10 z0 z1
theorem row_7_11 : Case 7 11 := by unfold Case; exact fun z0 z1 => case_7_11 z0 z1
theorem row_8_0 : Case 8 0 := by unfold Case; exact fun z0 z1 => case_8_0 z0 z1
theorem row_8_1 : Case 8 1 := by unfold Case; exact fun z0 z1 => case_8_1 z0 z1
theorem row_8_2 : Case 8 2 := by unfold Case; exact fun z0 z1 => case_8_2 z0 z1
theorem row_8_3 : Case 8 3 := by unfold Case; exact fun z0 z1 => case_8_3 z0 z1
theorem row_8_4 : Case 8 4 := by unfold Case; exact fun z0 z1 => case_8_4 z0 z1
theorem row_8_5 : Case 8 5 := by unfold Case; exact fun z0 z1 => case_8_5 z0 z1
theorem row_8_6 : Case 8 6 := by unfold Case; exact fun z0 z1 => case_8_6 z0 z1
theorem row_8_7 : Case 8 7 := by unfold Case; exact fun z0 z1 => case_8_7 z0 z1
theorem row_8_8 : Case 8 8 := by unfold Case; exact fun z0 z1 => case_8_8 z0 z1
theorem row_8_9 : Case 8 9 := by unfold Case; exact fun z0 z1 => case_8_9 z0 z1
theorem row_8_10 : Case 8 10 := by unfold Case; exact fun z0 z1 => case_8_10 z0 z1
theorem row_8_11 : Case 8 11 := by unfold Case; exact fun z0 z1 => case_8_11 z0 z1
theorem row_9_0 : Case 9 0 := by unfold Case; exact fun z0 z1 => case_9_0 z0 z1
theorem row_9_1 : Case 9 1 := by unfold Case; exact fun z0 z1 => case_9_1 z0 z1
theorem row_9_2 : Case 9 2 := by unfold Case; exact fun z0 z1 => case_9_2 z0 z1
theorem row_9_3 : Case 9 3 := by unfold Case; exact fun z0 z1 => case_9_3 z0 z1
theorem row_9_4 : Case 9 4 := by unfold Case; exact fun z0 z1 => case_9_4 z0 z1
theorem row_9_5 : Case 9 5 := by unfold Case; exact fun z0 z1 => case_9_5 z0 z1
theorem row_9_6 : Case 9 6 := by unfold Case; exact fun z0 z1 => case_9_6 z0 z1
theorem row_9_7 : Case 9 7 := by unfold Case; exact fun z0 z1 => case_9_7 z0 z1
theorem row_9_8 : Case 9 8 := by unfold Case; exact fun z0 z1 => case_9_8 z0 z1
theorem row_9_9 : Case 9 9 := by unfold Case; exact fun z0 z1 => case_9_9 z0 z1
theorem row_9_10 : Case 9 10 := by unfold Case; exact fun z0 z1 => case_9_10 z0 z1
theorem row_9_11 : Case 9 11 := by unfold Case; exact fun z0 z1 => case_9_11 z0 z1
theorem row_10_0 : Case 10 0 := by unfold Case; exact fun z0 z1 => case_10_0 z0 z1
theorem row_10_1 : Case 10 1 := by unfold Case; exact fun z0 z1 => case_10_1 z0 z1
theorem row_10_2 : Case 10 2 := by unfold Case; exact fun z0 z1 => case_10_2 z0 z1
theorem row_10_3 : Case 10 3 := by unfold Case; exact fun z0 z1 => case_10_3 z0 z1
theorem row_10_4 : Case 10 4 := by unfold Case; exact fun z0 z1 => case_10_4 z0 z1
theorem row_10_5 : Case 10 5 := by unfold Case; exact fun z0 z1 => case_10_5 z0 z1
theorem row_10_6 : Case 10 6 := by unfold Case; exact fun z0 z1 => case_10_6 z0 z1
theorem row_10_7 : Case 10 7 := by unfold Case; exact fun z0 z1 => case_10_7 z0 z1
theorem row_10_8 : Case 10 8 := by unfold Case; exact fun z0 z1 => case_10_8 z0 z1
theorem row_10_9 : Case 10 9 := by unfold Case; exact fun z0 z1 => case_10_9 z0 z1
theorem row_10_10 : Case 10 10 := by unfold Case; exact fun z0 z1 => case_10_10 z0 z1
theorem row_10_11 : Case 10 11 := by unfold Case; exact fun z0 z1 => case_10_11 z0 z1
theorem row_11_0 : Case 11 0 := by unfold Case; exact fun z0 z1 => case_11_0 z0 z1
theorem row_11_1 : Case 11 1 := by unfold Case; exact fun z0 z1 => case_11_1 z0 z1
theorem row_11_2 : Case 11 2 := by unfold Case; exact fun z0 z1 => case_11_2 z0 z1
theorem row_11_3 : Case 11 3 := by unfold Case; exact fun z0 z1 => case_11_3 z0 z1
theorem row_11_4 : Case 11 4 := by unfold Case; exact fun z0 z1 => case_11_4 z0 z1
theorem row_11_5 : Case 11 5 := by unfold Case; exact fun z0 z1 => case_11_5 z0 z1
theorem row_11_6 : Case 11 6 := by unfold Case; exact fun z0 z1 => case_11_6 z0 z1
theorem row_11_7 : Case 11 7 := by unfold Case; exact fun z0 z1 => case_11_7 z0 z1
theorem row_11_8 : Case 11 8 := by unfold Case; exact fun z0 z1 => case_11_8 z0 z1
theorem row_11_9 : Case 11 9 := by unfold Case; exact fun z0 z1 => case_11_9 z0 z1
theorem row_11_10 : Case 11 10 := by unfold Case; exact fun z0 z1 => case_11_10 z0 z1
theorem row_11_11 : Case 11 11 := by unfold Case; exact fun z0 z1 => case_11_11 z0 z1
theorem row_12_0 : Case 12 0 := by unfold Case; exact fun z0 z1 => case_12_0 z0 z1
theorem row_12_1 : Case 12 1 := by unfold Case; exact fun z0 z1 => case_12_1 z0 z1
theorem row_12_2 : Case 12 2 := by unfold Case; exact fun z0 z1 => case_12_2 z0 z1
theorem row_12_3 : Case 12 3 := by unfold Case; exact fun z0 z1 => case_12_3 z0 z1
theorem row_12_4 : Case 12 4 := by unfold Case; exact fun z0 z1 => case_12_4 z0 z1
theorem row_12_5 : Case 12 5 := by unfold Case; exact fun z0 z1 => case_12_5 z0 z1
theorem row_12_6 : Case 12 6 := by unfold Case; exact fun z0 z1 => case_12_6 z0 z1
theorem row_12_7 : Case 12 7 := by unfold Case; exact fun z0 z1 => case_12_7 z0 z1
theorem row_12_8 : Case 12 8 := by unfold Case; exact fun z0 z1 => case_12_8 z0 z1
theorem row_12_9 : Case 12 9 := by unfold Case; exact fun z0 z1 => case_12_9 z0 z1
theorem row_12_10 : Case 12 10 := by unfold Case; exact fun z0 z1 => case_12_10 z0 z1
theorem row_12_11 : Case 12 11 := by unfold Case; exact fun z0 z1 => case_12_11 z0 z1
theorem row_13_0 : Case 13 0 := by unfold Case; exact fun z0 z1 => case_13_0 z0 z1
theorem row_13_1 : Case 13 1 := by unfold Case; exact fun z0 z1 => case_13_1 z0 z1
theorem row_13_2 : Case 13 2 := by unfold Case; exact fun z0 z1 => case_13_2 z0 z1
theorem row_13_3 : Case 13 3 := by unfold Case; exact fun z0 z1 => case_13_3 z0 z1
theorem row_13_4 : Case 13 4 := by unfold Case; exact fun z0 z1 => case_13_4 z0 z1
theorem row_13_5 : Case 13 5 := by unfold Case; exact fun z0 z1 => case_13_5 z0 z1
theorem row_13_6 : Case 13 6 := by unfold Case; exact fun z0 z1 => case_13_6 z0 z1
theorem row_13_7 : Case 13 7 := by unfold Case; exact fun z0 z1 => case_13_7 z0 z1
theorem row_13_8 : Case 13 8 := by unfold Case; exact fun z0 z1 => case_13_8 z0 z1
theorem row_13_9 : Case 13 9 := by unfold Case; exact fun z0 z1 => case_13_9 z0 z1
theorem row_13_10 : Case 13 10 := by unfold Case; exact fun z0 z1 => case_13_10 z0 z1
theorem row_13_11 : Case 13 11 := by unfold Case; exact fun z0 z1 => case_13_11 z0 z1
theorem row_14_0 : Case 14 0 := by unfold Case; exact fun z0 z1 => case_14_0 z0 z1
theorem row_14_1 : Case 14 1 := by unfold Case; exact fun z0 z1 => case_14_1 z0 z1
theorem row_14_2 : Case 14 2 := by unfold Case; exact fun z0 z1 => case_14_2 z0 z1
theorem row_14_3 : Case 14 3 := by unfold Case; exact fun z0 z1 => case_14_3 z0 z1
theorem row_14_4 : Case 14 4 := by unfold Case; exact fun z0 z1 => case_14_4 z0 z1
theorem row_14_5 : Case 14 5 := by unfold Case; exact fun z0 z1 => case_14_5 z0 z1
theorem row_14_6 : Case 14 6 := by unfold Case; exact fun z0 z1 => case_14_6 z0 z1
theorem row_14_7 : Case 14 7 := by unfold Case; exact fun z0 z1 => case_14_7 z0 z1
theorem row_14_8 : Case 14 8 := by unfold Case; exact fun z0 z1 => case_14_8 z0 z1
theorem row_14_9 : Case 14 9 := by unfold Case; exact fun z0 z1 => case_14_9 z0 z1
theorem row_14_10 : Case 14 10 := by unfold Case; exact fun z0 z1 => case_14_10 z0 z1
theorem row_14_11 : Case 14 11 := by unfold Case; exact fun z0 z1 => case_14_11 z0 z1
theorem row_15_0 : Case 15 0 := by unfold Case; exact fun z0 z1 => case_15_0 z0 z1
theorem row_15_1 : Case 15 1 := by unfold Case; exact fun z0 z1 => case_15_1 z0 z1
theorem row_15_2 : Case 15 2 := by unfold Case; exact fun z0 z1 => case_15_2 z0 z1
theorem row_15_3 : Case 15 3 := by unfold Case; exact fun z0 z1 => case_15_3 z0 z1
theorem row_15_4 : Case 15 4 := by unfold Case; exact fun z0 z1 => case_15_4 z0 z1
theorem row_15_5 : Case 15 5 := by unfold Case; exact fun z0 z1 => case_15_5 z0 z1
theorem row_15_6 : Case 15 6 := by unfold Case; exact fun z0 z1 => case_15_6 z0 z1
theorem row_15_7 : Case 15 7 := by unfold Case; exact fun z0 z1 => case_15_7 z0 z1
theorem row_15_8 : Case 15 8 := by unfold Case; exact fun z0 z1 => case_15_8 z0 z1
theorem row_15_9 : Case 15 9 := by unfold Case; exact fun z0 z1 => case_15_9 z0 z1
theorem row_15_10 : Case 15 10 := by unfold Case; exact fun z0 z1 => case_15_10 z0 z1
theorem row_15_11 : Case 15 11 := by unfold Case; exact fun z0 z1 => case_15_11 z0 z1
theorem row_0 : ∀ x1 : Nat, x1 < 12 → Case 0 x1 := by
  intro x1 hx1
  exact below12 (p := fun x1 => Case 0 x1) (row_0_0 ) (row_0_1 ) (row_0_2 ) (row_0_3 ) (row_0_4 ) (row_0_5 ) (row_0_6 ) (row_0_7 ) (row_0_8 ) (row_0_9 ) (row_0_10 ) (row_0_11 ) x1 hx1
theorem row_1 : ∀ x1 : Nat, x1 < 12 → Case 1 x1 := by
  intro x1 hx1
  exact below12 (p := fun x1 => Case 1 x1) (row_1_0 ) (row_1_1 ) (row_1_2 ) (row_1_3 ) (row_1_4 ) (row_1_5 ) (row_1_6 ) (row_1_7 ) (row_1_8 ) (row_1_9 ) (row_1_10 ) (row_1_11 ) x1 hx1
theorem row_2 : ∀ x1 : Nat, x1 < 12 → Case 2 x1 := by
  intro x1 hx1
  exact below12 (p := fun x1 => Case 2 x1) (row_2_0 ) (row_2_1 ) (row_2_2 ) (row_2_3 ) (row_2_4 ) (row_2_5 ) (row_2_6 ) (row_2_7 ) (row_2_8 ) (row_2_9 ) (row_2_10 ) (row_2_11 ) x1 hx1
theorem row_3 : ∀ x1 : Nat, x1 < 12 → Case 3 x1 := by
  intro x1 hx1
  exact below12 (p := fun x1 => Case 3 x1) (row_3_0 ) (row_3_1 ) (row_3_2 ) (row_3_3 ) (row_3_4 ) (row_3_5 ) (row_3_6 ) (row_3_7 ) (row_3_8 ) (row_3_9 ) (row_3_10 ) (row_3_11 ) x1 hx1
theorem row_4 : ∀ x1 : Nat, x1 < 12 → Case 4 x1 := by
  intro x1 hx1
  exact below12 (p := fun x1 => Case 4 x1) (row_4_0 ) (row_4_1 ) (row_4_2 ) (row_4_3 ) (row_4_4 ) (row_4_5 ) (row_4_6 ) (row_4_7 ) (row_4_8 ) (row_4_9 ) (row_4_10 ) (row_4_11 ) x1 hx1
theorem row_5 : ∀ x1 : Nat, x1 < 12 → Case 5 x1 := by
  intro x1 hx1
  exact below12 (p := fun x1 => Case 5 x1) (row_5_0 ) (row_5_1 ) (row_5_2 ) (row_5_3 ) (row_5_4 ) (row_5_5 ) (row_5_6 ) (row_5_7 ) (row_5_8 ) (row_5_9 ) (row_5_10 ) (row_5_11 ) x1 hx1
theorem row_6 : ∀ x1 : Nat, x1 < 12 → Case 6 x1 := by
  intro x1 hx1
  exact below12 (p := fun x1 => Case 6 x1) (row_6_0 ) (row_6_1 ) (row_6_2 ) (row_6_3 ) (row_6_4 ) (row_6_5 ) (row_6_6 ) (row_6_7 ) (row_6_8 ) (row_6_9 ) (row_6_10 ) (row_6_11 ) x1 hx1
theorem row_7 : ∀ x1 : Nat, x1 < 12 → Case 7 x1 := by
  intro x1 hx1
  exact below12 (p := fun x1 => Case 7 x1) (row_7_0 ) (row_7_1 ) (row_7_2 ) (row_7_3 ) (row_7_4 ) (row_7_5 ) (row_7_6 ) (row_7_7 ) (row_7_8 ) (row_7_9 ) (row_7_10 ) (row_7_11 ) x1 hx1
theorem row_8 : ∀ x1 : Nat, x1 < 12 → Case 8 x1 := by
  intro x1 hx1
  exact below12 (p := fun x1 => Case 8 x1) (row_8_0 ) (row_8_1 ) (row_8_2 ) (row_8_3 ) (row_8_4 ) (row_8_5 ) (row_8_6 ) (row_8_7 ) (row_8_8 ) (row_8_9 ) (row_8_10 ) (row_8_11 ) x1 hx1
theorem row_9 : ∀ x1 : Nat, x1 < 12 → Case 9 x1 := by
  intro x1 hx1
  exact below12 (p := fun x1 => Case 9 x1) (row_9_0 ) (row_9_1 ) (row_9_2 ) (row_9_3 ) (row_9_4 ) (row_9_5 ) (row_9_6 ) (row_9_7 ) (row_9_8 ) (row_9_9 ) (row_9_10 ) (row_9_11 ) x1 hx1
theorem row_10 : ∀ x1 : Nat, x1 < 12 → Case 10 x1 := by
  intro x1 hx1
  exact below12 (p := fun x1 => Case 10 x1) (row_10_0 ) (row_10_1 ) (row_10_2 ) (row_10_3 ) (row_10_4 ) (row_10_5 ) (row_10_6 ) (row_10_7 ) (row_10_8 ) (row_10_9 ) (row_10_10 ) (row_10_11 ) x1 hx1
theorem row_11 : ∀ x1 : Nat, x1 < 12 → Case 11 x1 := by
  intro x1 hx1
  exact below12 (p := fun x1 => Case 11 x1) (row_11_0 ) (row_11_1 ) (row_11_2 ) (row_11_3 ) (row_11_4 ) (row_11_5 ) (row_11_6 ) (row_11_7 ) (row_11_8 ) (row_11_9 ) (row_11_10 ) (row_11_11 ) x1 hx1
theorem row_12 : ∀ x1 : Nat, x1 < 12 → Case 12 x1 := by
  intro x1 hx1
  exact below12 (p := fun x1 => Case 12 x1) (row_12_0 ) (row_12_1 ) (row_12_2 ) (row_12_3 ) (row_12_4 ) (row_12_5 ) (row_12_6 ) (row_12_7 ) (row_12_8 ) (row_12_9 ) (row_12_10 ) (row_12_11 ) x1 hx1
theorem row_13 : ∀ x1 : Nat, x1 < 12 → Case 13 x1 := by
  intro x1 hx1
  exact below12 (p := fun x1 => Case 13 x1) (row_13_0 ) (row_13_1 ) (row_13_2 ) (row_13_3 ) (row_13_4 ) (row_13_5 ) (row_13_6 ) (row_13_7 ) (row_13_8 ) (row_13_9 ) (row_13_10 ) (row_13_11 ) x1 hx1
theorem row_14 : ∀ x1 : Nat, x1 < 12 → Case 14 x1 := by
  intro x1 hx1
  exact below12 (p := fun x1 => Case 14 x1) (row_14_0 ) (row_14_1 ) (row_14_2 ) (row_14_3 ) (row_14_4 ) (row_14_5 ) (row_14_6 ) (row_14_7 ) (row_14_8 ) (row_14_9 ) (row_14_10 ) (row_14_11 ) x1 hx1
theorem row_15 : ∀ x1 : Nat, x1 < 12 → Case 15 x1 := by
  intro x1 hx1
  exact below12 (p := fun x1 => Case 15 x1) (row_15_0 ) (row_15_1 ) (row_15_2 ) (row_15_3 ) (row_15_4 ) (row_15_5 ) (row_15_6 ) (row_15_7 ) (row_15_8 ) (row_15_9 ) (row_15_10 ) (row_15_11 ) x1 hx1
theorem row : ∀ x0 x1 : Nat, x0 < 16 → x1 < 12 → Case x0 x1 := by
  intro x0 x1 hx0 hx1
  exact below16 (p := fun x0 => Case x0 x1) (row_0 x1 hx1) (row_1 x1 hx1) (row_2 x1 hx1) (row_3 x1 hx1) (row_4 x1 hx1) (row_5 x1 hx1) (row_6 x1 hx1) (row_7 x1 hx1) (row_8 x1 hx1) (row_9 x1 hx1) (row_10 x1 hx1) (row_11 x1 hx1) (row_12 x1 hx1) (row_13 x1 hx1) (row_14 x1 hx1) (row_15 x1 hx1) x0 hx0
set_option maxHeartbeats 4000000
theorem runs (z0 : Int) (z1 : Int) : Runs F G0 8 [.int .i64 z0 0, .int .i64 z1 0] .e 0 fun v _ _ => v = .bool true :=
  runs_law (fs_ok (lpF_ok 2000) G0) at_law 2000 (t := fun k => t_f8 (lpF 2000) G0 (runS (FS (lpF 2000) G0) 2000) z0 z1 (uand z1 15) (umod z0 12) .e 0 k) (fun callE hle hd h => ti_f8 (lpF_ok 2000) z0 z1 (uand z1 15) (umod z0 12) rfl rfl hle hd (by assumption))
    (by have h := row (uand z1 15) (umod z0 12) (Nat.lt_succ_of_le (uand_spec z1 (by decide)).2) (umod_lt z0 (by decide)); unfold Case at h; exact h z0 z1)
end Go.R5.VC

namespace Go.Proofs.YtdplchkljbfjdaaGreatDoor
open Go Go.Eng Go.ChangeShapes Go.WideShapes Go.RowKit
set_option maxRecDepth 100000
theorem vmTraps_lifted (os : Os) (started : os.Started) (H : Type) (enc : TypeId × Value → H) :
    ReturnsInHanded {} Tryz.checked os 8 .any (fun w args => (Rows.vmTrapsSpec.pre enc Tryz.prog Tryz.f8 [] false w args ∧ laidMetH Tryz.prog laidL w) ∧ sizedMet enc Tryz.prog Tryz.f8 (OpenSpec.ofChange Rows.vmTrapsSpec) false w args)
      (Rows.vmTrapsSpec.post enc Tryz.prog Tryz.f8 false true false false) := by
  refine law_lifted (C := Tryz.checked) (F := Go.R5.F) Go.R5.fns_ok started (tb := 4) ownK (by kernel_rfl) Tryz.func8 rfl ?_ (by kernel_rfl) Tryz.underlying4 laidOut ?_
    (World.doorLaid Tryz.prog 400 os) #[.int .i64 0, .int .i64 0] 8 rfl (by kernel_rfl) (by kernel_rfl) (by kernel_rfl) (by kernel_rfl) (by kernel_rfl) (door_met os _) ?_
  · intro ds hl
    match ds, hl with
    | [d0, d1], _ => rfl
  · intro t ht
    rw [Tryz.params8] at ht
    simp at ht
    rcases ht with rfl | rfl <;> exact ⟨by kernel_rfl, of_decide_eq_true (by kernel_rfl)⟩
  · intro W args ds ps hval hA hL
    rw [Tryz.params8] at hA hval
    obtain ⟨v0, v1, d0, d1, p, q, rfl, rfl, rfl, h0, h1⟩ := trodAll_two hA
    obtain ⟨b0, k0⟩ := hval 0 3 v0 rfl rfl
    obtain ⟨b1, k1⟩ := hval 1 2 v1 rfl rfl
    obtain ⟨a0, rfl, rfl, rfl, w0⟩ := open_int Tryz.underlying3 k0 h0
    obtain ⟨a1, rfl, rfl, rfl, w1⟩ := open_int Tryz.underlying2 k1 h1
    exact ⟨Go.R5.G0, [.int .i64 a0 0, .int .i64 a1 0], of_laid hL, .cons rfl (.cons rfl .nil), Go.R5.VC.runs a0 a1⟩
theorem vmTraps_holds : Rows.VmTrapsSaid :=
  OpenClaim.holds_of_wide 8 Tryz.f8 rfl rfl rfl rfl rfl rfl rfl ⟨rfl, rfl, rfl, rfl, rfl⟩ rfl rfl rfl rfl rfl (by kernel_rfl) Tryz.func8 (by kernel_rfl)
    (of_decide_eq_true (by kernel_rfl)) (by unfold Func.isWrapper; rw [if_neg (of_decide_eq_false (by kernel_rfl))]; exact ⟨rfl, rfl⟩)
    (fun os started H enc _ => vmTraps_lifted os started H enc)
theorem vmTraps_card : Rows.VmTrapsCardSaid :=
  Claim7.holds_tied_plain_at .later [] [.data, .data] true (true, "bf43fd562f67dd5fae7e772947f8227c92117ecea546bd574998783b9d59a92d") false
    vmTraps_holds (fun _ h => by cases h) (by kernel_rfl) (fun _ h => by cases h) vmTraps_row_tie rfl ⟨rfl, rfl⟩ (by kernel_rfl) rfl
    (fun f fn hf hfn => by
      obtain rfl : f = 8 := Option.some.inj ((show Tryz.prog.funcNamed "kiln/kilnlaw16.VmTraps" = some 8 by kernel_rfl).symm.trans hf) |>.symm
      obtain rfl : fn = Tryz.f8 := (Option.some.inj (Tryz.func8.symm.trans hfn)).symm
      exact ⟨by kernel_rfl, fun j t ht => by
        rw [Tryz.params8] at ht
        have hm := Array.mem_of_getElem? ht
        exact noStand (by simp at hm; rcases hm with h | h <;> simp [h])⟩)
    (by kernel_rfl)
#print axioms vmTraps_card
end Go.Proofs.YtdplchkljbfjdaaGreatDoor

