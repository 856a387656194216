/- PROVED: the Go function ParseErrors (two whole numbers in, one bool out) returns true for every two numbers, and leaves its arguments as they were: the tied card ParseErrorsCardSaid. CONDITIONS: none beyond the card's own (the listed package variable holds what the program's text lays; the card ties it). The way: the code is turned into abstract code, checked by the kernel to be what the program has (texts Code, Tran), an abstract run is proved to stand for the run of the model (texts EngA to EngF), the abstract code is proved to do what plain functions of values do (Plain, PlainR), and the 320 cases are run by the kernel. -/
import Derived.Test.YtcjkfmaoahojeaaDoorCaseA
import Derived.Test.YtcjkfmaoahojeaaDoorCaseB
import Derived.Test.YtcjkfmaoahojeaaDoorCaseC
import Derived.Test.YtcjkfmaoahojeaaDoorCaseD
import Derived.Test.YtcjkfmaoahojeaaDoorCaseE
import Derived.Test.YtcjkfmaoahojeaaDoorCaseF
import Derived.Test.YtcjkfmaoahojeaaDoorTran
import Derived.Test.YtcjkfmaoahojeaaDoorRows
import Derived.LaidMore
import Derived.SevenTiedAt
import Derived.Test.YtcjkfmaoahojeaaDoorTie
import Derived.Test.YtcjkfmaoahojeaaDoorCards
set_option linter.unusedVariables false
set_option linter.unusedSimpArgs false
set_option maxRecDepth 100000
namespace Go.P2.W2L
open Go.Eng Go.P2
def Case (x0 x1 : Nat) : Prop := ∀ (z0 z1 : Int), t_kilnlaw06_ParseErrors (lpF 400) G0 (runS (FS (lpF 400) G0) 400) z0 z1 x0 x1 .e 0 isT = True
attribute [local irreducible] Case
theorem row_0_0 : Case 0 0 := by unfold Case; exact fun z0 z1 => case_0_0 z0 z1
theorem row_0_1 : Case 0 1 := by unfold Case; exact fun z0 z1 => case_0_1 z0 z1
theorem row_0_2 : Case 0 2 := by unfold Case; exact fun z0 z1 => case_0_2 z0 z1
theorem row_0_3 : Case 0 3 := by unfold Case; exact fun z0 z1 => case_0_3 z0 z1
theorem row_0_4 : Case 0 4 := by unfold Case; exact fun z0 z1 => case_0_4 z0 z1
theorem row_0_5 : Case 0 5 := by unfold Case; exact fun z0 z1 => case_0_5 z0 z1
theorem row_0_6 : Case 0 6 := by unfold Case; exact fun z0 z1 => case_0_6 z0 z1
theorem row_0_7 : Case 0 7 := by unfold Case; exact fun z0 z1 => case_0_7 z0 z1
theorem row_0_8 : Case 0 8 := by unfold Case; exact fun z0 z1 => case_0_8 z0 z1
theorem row_0_9 : Case 0 9 := by unfold Case; exact fun z0 z1 => case_0_9 z0 z1
theorem row_0_10 : Case 0 10 := by unfold Case; exact fun z0 z1 => case_0_10 z0 z1
theorem row_0_11 : Case 0 11 := by unfold Case; exact fun z0 z1 => case_0_11 z0 z1
theorem row_0_12 : Case 0 12 := by unfold Case; exact fun z0 z1 => case_0_12 z0 z1
theorem row_0_13 : Case 0 13 := by unfold Case; exact fun z0 z1 => case_0_13 z0 z1
theorem row_0_14 : Case 0 14 := by unfold Case; exact fun z0 z1 => case_0_14 z0 z1
theorem row_0_15 : Case 0 15 := by unfold Case; exact fun z0 z1 => case_0_15 z0 z1
theorem row_1_0 : Case 1 0 := by unfold Case; exact fun z0 z1 => case_1_0 z0 z1
theorem row_1_1 : Case 1 1 := by unfold Case; exact fun z0 z1 => case_1_1 z0 z1
theorem row_1_2 : Case 1 2 := by unfold Case; exact fun z0 z1 => case_1_2 z0 z1
theorem row_1_3 : Case 1 3 := by unfold Case; exact fun z0 z1 => case_1_3 z0 z1
theorem row_1_4 : Case 1 4 := by unfold Case; exact fun z0 z1 => case_1_4 z0 z1
theorem row_1_5 : Case 1 5 := by unfold Case; exact fun z0 z1 => case_1_5 z0 z1
theorem row_1_6 : Case 1 6 := by unfold Case; exact fun z0 z1 => case_1_6 z0 z1
theorem row_1_7 : Case 1 7 := by unfold Case; exact fun z0 z1 => case_1_7 z0 z1
theorem row_1_8 : Case 1 8 := by unfold Case; exact fun z0 z1 => case_1_8 z0 z1
theorem row_1_9 : Case 1 9 := by unfold Case; exact fun z0 z1 => case_1_9 z0 z1
theorem row_1_10 : Case 1 10 := by unfold Case; exact fun z0 z1 => case_1_10 z0 z1
theorem row_1_11 : Case 1 11 := by unfold Case; exact fun z0 z1 => case_1_11 z0 z1
theorem row_1_12 : Case 1 12 := by unfold Case; exact fun z0 z1 => case_1_12 z0 z1
theorem row_1_13 : Case 1 13 := by unfold Case; exact fun z0 z1 => case_1_13 z0 z1
theorem row_1_14 : Case 1 14 := by unfold Case; exact fun z0 z1 => case_1_14 z0 z1
theorem row_1_15 : Case 1 15 := by unfold Case; exact fun z0 z1 => case_1_15 z0 z1
theorem row_2_0 : Case 2 0 := by unfold Case; exact fun z0 z1 => case_2_0 z0 z1
theorem row_2_1 : Case 2 1 := by unfold Case; exact fun z0 z1 => case_2_1 z0 z1
theorem row_2_2 : Case 2 2 := by unfold Case; exact fun z0 z1 => case_2_2 z0 z1
theorem row_2_3 : Case 2 3 := by unfold Case; exact fun z0 z1 => case_2_3 z0 z1
theorem row_2_4 : Case 2 4 := by unfold Case; exact fun z0 z1 => case_2_4 z0 z1
theorem row_2_5 : Case 2 5 := by unfold Case; exact fun z0 z1 => case_2_5 z0 z1
theorem row_2_6 : Case 2 6 := by unfold Case; exact fun z0 z1 => case_2_6 z0 z1
theorem row_2_7 : Case 2 7 := by unfold Case; exact fun z0 z1 => case_2_7 z0 z1
theorem row_2_8 : Case 2 8 := by unfold Case; exact fun z0 z1 => case_2_8 z0 z1
theorem row_2_9 : Case 2 9 := by unfold Case; exact fun z0 z1 => case_2_9 z0 z1
theorem row_2_10 : Case 2 10 := by unfold Case; exact fun z0 z1 => case_2_10 z0 z1
theorem row_2_11 : Case 2 11 := by unfold Case; exact fun z0 z1 => case_2_11 z0 z1
theorem row_2_12 : Case 2 12 := by unfold Case; exact fun z0 z1 => case_2_12 z0 z1
theorem row_2_13 : Case 2 13 := by unfold Case; exact fun z0 z1 => case_2_13 z0 z1
theorem row_2_14 : Case 2 14 := by unfold Case; exact fun z0 z1 => case_2_14 z0 z1
theorem row_2_15 : Case 2 15 := by unfold Case; exact fun z0 z1 => case_2_15 z0 z1
theorem row_3_0 : Case 3 0 := by unfold Case; exact fun z0 z1 => case_3_0 z0 z1
theorem row_3_1 : Case 3 1 := by unfold Case; exact fun z0 z1 => case_3_1 z0 z1
theorem row_3_2 : Case 3 2 := by unfold Case; exact fun z0 z1 => case_3_2 z0 z1
theorem row_3_3 : Case 3 3 := by unfold Case; exact fun z0 z1 => case_3_3 z0 z1
theorem row_3_4 : Case 3 4 := by unfold Case; exact fun z0 z1 => case_3_4 z0 z1
theorem row_3_5 : Case 3 5 := by unfold Case; exact fun z0 z1 => case_3_5 z0 z1
theorem row_3_6 : Case 3 6 := by unfold Case; exact fun z0 z1 => case_3_6 z0 z1
theorem row_3_7 : Case 3 7 := by unfold Case; exact fun z0 z1 => case_3_7 z0 z1
theorem row_3_8 : Case 3 8 := by unfold Case; exact fun z0 z1 => case_3_8 z0 z1
theorem row_3_9 : Case 3 9 := by unfold Case; exact fun z0 z1 => case_3_9 z0 z1
theorem row_3_10 : Case 3 10 := by unfold Case; exact fun z0 z1 => case_3_10 z0 z1
theorem row_3_11 : Case 3 11 := by unfold Case; exact fun z0 z1 => case_3_11 z0 z1
theorem row_3_12 : Case 3 12 := by unfold Case; exact fun z0 z1 => case_3_12 z0 z1
theorem row_3_13 : Case 3 13 := by unfold Case; exact fun z0 z1 => case_3_13 z0 z1
theorem row_3_14 : Case 3 14 := by unfold Case; exact fun z0 z1 => case_3_14 z0 z1
theorem row_3_15 : Case 3 15 := by unfold Case; exact fun z0 z1 => case_3_15 z0 z1
theorem row_4_0 : Case 4 0 := by unfold Case; exact fun z0 z1 => case_4_0 z0 z1
theorem row_4_1 : Case 4 1 := by unfold Case; exact fun z0 z1 => case_4_1 z0 z1
theorem row_4_2 : Case 4 2 := by unfold Case; exact fun z0 z1 => case_4_2 z0 z1
theorem row_4_3 : Case 4 3 := by unfold Case; exact fun z0 z1 => case_4_3 z0 z1
theorem row_4_4 : Case 4 4 := by unfold Case; exact fun z0 z1 => case_4_4 z0 z1
theorem row_4_5 : Case 4 5 := by unfold Case; exact fun z0 z1 => case_4_5 z0 z1
theorem row_4_6 : Case 4 6 := by unfold Case; exact fun z0 z1 => case_4_6 z0 z1
theorem row_4_7 : Case 4 7 := by unfold Case; exact fun z0 z1 => case_4_7 z0 z1
theorem row_4_8 : Case 4 8 := by unfold Case; exact fun z0 z1 => case_4_8 z0 z1
theorem row_4_9 : Case 4 9 := by unfold Case; exact fun z0 z1 => case_4_9 z0 z1
theorem row_4_10 : Case 4 10 := by unfold Case; exact fun z0 z1 => case_4_10 z0 z1
theorem row_4_11 : Case 4 11 := by unfold Case; exact fun z0 z1 => case_4_11 z0 z1
theorem row_4_12 : Case 4 12 := by unfold Case; exact fun z0 z1 => case_4_12 z0 z1
theorem row_4_13 : Case 4 13 := by unfold Case; exact fun z0 z1 => case_4_13 z0 z1
theorem row_4_14 : Case 4 14 := by unfold Case; exact fun z0 z1 => case_4_14 z0 z1
theorem row_4_15 : Case 4 15 := by unfold Case; exact fun z0 z1 => case_4_15 z0 z1
theorem row_5_0 : Case 5 0 := by unfold Case; exact fun z0 z1 => case_5_0 z0 z1
theorem row_5_1 : Case 5 1 := by unfold Case; exact fun z0 z1 => case_5_1 z0 z1
theorem row_5_2 : Case 5 2 := by unfold Case; exact fun z0 z1 => case_5_2 z0 z1
theorem row_5_3 : Case 5 3 := by unfold Case; exact fun z0 z1 => case_5_3 z0 z1
theorem row_5_4 : Case 5 4 := by unfold Case; exact fun z0 z1 => case_5_4 z0 z1
theorem row_5_5 : Case 5 5 := by unfold Case; exact fun z0 z1 => case_5_5 z0 z1
theorem row_5_6 : Case 5 6 := by unfold Case; exact fun z0 z1 => case_5_6 z0 z1
theorem row_5_7 : Case 5 7 := by unfold Case; exact fun z0 z1 => case_5_7 z0 z1
theorem row_5_8 : Case 5 8 := by unfold Case; exact fun z0 z1 => case_5_8 z0 z1
theorem row_5_9 : Case 5 9 := by unfold Case; exact fun z0 z1 => case_5_9 z0 z1
theorem row_5_10 : Case 5 10 := by unfold Case; exact fun z0 z1 => case_5_10 z0 z1
theorem row_5_11 : Case 5 11 := by unfold Case; exact fun z0 z1 => case_5_11 z0 z1
theorem row_5_12 : Case 5 12 := by unfold Case; exact fun z0 z1 => case_5_12 z0 z1
theorem row_5_13 : Case 5 13 := by unfold Case; exact fun z0 z1 => case_5_13 z0 z1
theorem row_5_14 : Case 5 14 := by unfold Case; exact fun z0 z1 => case_5_14 z0 z1
theorem row_5_15 : Case 5 15 := by unfold Case; exact fun z0 z1 => case_5_15 z0 z1
theorem row_6_0 : Case 6 0 := by unfold Case; exact fun z0 z1 => case_6_0 z0 z1
theorem row_6_1 : Case 6 1 := by unfold Case; exact fun z0 z1 => case_6_1 z0 z1
theorem row_6_2 : Case 6 2 := by unfold Case; exact fun z0 z1 => case_6_2 z0 z1
theorem row_6_3 : Case 6 3 := by unfold Case; exact fun z0 z1 => case_6_3 z0 z1
theorem row_6_4 : Case 6 4 := by unfold Case; exact fun z0 z1 => case_6_4 z0 z1
theorem row_6_5 : Case 6 5 := by unfold Case; exact fun z0 z1 => case_6_5 z0 z1
theorem row_6_6 : Case 6 6 := by unfold Case; exact fun z0 z1 => case_6_6 z0 z1
theorem row_6_7 : Case 6 7 := by unfold Case; exact fun z0 z1 => case_6_7 z0 z1
theorem row_6_8 : Case 6 8 := by unfold Case; exact fun z0 z1 => case_6_8 z0 z1
theorem row_6_9 : Case 6 9 := by unfold Case; exact fun z0 z1 => case_6_9 z0 z1
theorem row_6_10 : Case 6 10 := by unfold Case; exact fun z0 z1 => case_6_10 z0 z1
theorem row_6_11 : Case 6 11 := by unfold Case; exact fun z0 z1 => case_6_11 z0 z1
theorem row_6_12 : Case 6 12 := by unfold Case; exact fun z0 z1 => case_6_12 z0 z1
theorem row_6_13 : Case 6 13 := by unfold Case; exact fun z0 z1 => case_6_13 z0 z1
theorem row_6_14 : Case 6 14 := by unfold Case; exact fun z0 z1 => case_6_14 z0 z1
theorem row_6_15 : Case 6 15 := by unfold Case; exact fun z0 z1 => case_6_15 z0 z1
theorem row_7_0 : Case 7 0 := by unfold Case; exact fun z0 z1 => case_7_0 z0 z1
theorem row_7_1 : Case 7 1 := by unfold Case; exact fun z0 z1 => case_7_1 z0 z1
theorem row_7_2 : Case 7 2 := by unfold Case; exact fun z0 z1 => case_7_2 z0 z1
theorem row_7_3 : Case 7 3 := by unfold Case; exact fun z0 z1 => case_7_3 z0 z1
theorem row_7_4 : Case 7 4 := by unfold Case; exact fun z0 z1 => case_7_4 z0 z1
theorem row_7_5 : Case 7 5 := by unfold Case; exact fun z0 z1 => case_7_5 z0 z1
theorem row_7_6 : Case 7 6 := by unfold Case; exact fun z0 z1 => case_7_6 z0 z1
theorem row_7_7 : Case 7 7 := by unfold Case; exact fun z0 z1 => case_7_7 z0 z1
theorem row_7_8 : Case 7 8 := by unfold Case; exact fun z0 z1 => case_7_8 z0 z1
theorem row_7_9 : Case 7 9 := by unfold Case; exact fun z0 z1 => case_7_9 z0 z1
theorem row_7_10 : Case 7 10 := by unfold Case; exact fun z0 z1 => case_7_10 z0 z1
theorem row_7_11 : Case 7 11 := by unfold Case; exact fun z0 z1 => case_7_11 z0 z1
theorem row_7_12 : Case 7 12 := by unfold Case; exact fun z0 z1 => case_7_12 z0 z1
theorem row_7_13 : Case 7 13 := by unfold Case; exact fun z0 z1 => case_7_13 z0 z1
theorem row_7_14 : Case 7 14 := by unfold Case; exact fun z0 z1 => case_7_14 z0 z1
theorem row_7_15 : Case 7 15 := by unfold Case; exact fun z0 z1 => case_7_15 z0 z1
theorem row_8_0 : Case 8 0 := by unfold Case; exact fun z0 z1 => case_8_0 z0 z1
theorem row_8_1 : Case 8 1 := by unfold Case; exact fun z0 z1 => case_8_1 z0 z1
theorem row_8_2 : Case 8 2 := by unfold Case; exact fun z0 z1 => case_8_2 z0 z1
theorem row_8_3 : Case 8 3 := by unfold Case; exact fun z0 z1 => case_8_3 z0 z1
theorem row_8_4 : Case 8 4 := by unfold Case; exact fun z0 z1 => case_8_4 z0 z1
theorem row_8_5 : Case 8 5 := by unfold Case; exact fun z0 z1 => case_8_5 z0 z1
theorem row_8_6 : Case 8 6 := by unfold Case; exact fun z0 z1 => case_8_6 z0 z1
theorem row_8_7 : Case 8 7 := by unfold Case; exact fun z0 z1 => case_8_7 z0 z1
theorem row_8_8 : Case 8 8 := by unfold Case; exact fun z0 z1 => case_8_8 z0 z1
theorem row_8_9 : Case 8 9 := by unfold Case; exact fun z0 z1 => case_8_9 z0 z1
theorem row_8_10 : Case 8 10 := by unfold Case; exact fun z0 z1 => case_8_10 z0 z1
theorem row_8_11 : Case 8 11 := by unfold Case; exact fun z0 z1 => case_8_11 z0 z1
theorem row_8_12 : Case 8 12 := by unfold Case; exact fun z0 z1 => case_8_12 z0 z1
theorem row_8_13 : Case 8 13 := by unfold Case; exact fun z0 z1 => case_8_13 z0 z1
theorem row_8_14 : Case 8 14 := by unfold Case; exact fun z0 z1 => case_8_14 z0 z1
theorem row_8_15 : Case 8 15 := by unfold Case; exact fun z0 z1 => case_8_15 z0 z1
theorem row_9_0 : Case 9 0 := by unfold Case; exact fun z0 z1 => case_9_0 z0 z1
theorem row_9_1 : Case 9 1 := by unfold Case; exact fun z0 z1 => case_9_1 z0 z1
theorem row_9_2 : Case 9 2 := by unfold Case; exact fun z0 z1 => case_9_2 z0 z1
theorem row_9_3 : Case 9 3 := by unfold Case; exact fun z0 z1 => case_9_3 z0 z1
theorem row_9_4 : Case 9 4 := by unfold Case; exact fun z0 z1 => case_9_4 z0 z1
theorem row_9_5 : Case 9 5 := by unfold Case; exact fun z0 z1 => case_9_5 z0 z1
theorem row_9_6 : Case 9 6 := by unfold Case; exact fun z0 z1 => case_9_6 z0 z1
theorem row_9_7 : Case 9 7 := by unfold Case; exact fun z0 z1 => case_9_7 z0 z1
theorem row_9_8 : Case 9 8 := by unfold Case; exact fun z0 z1 => case_9_8 z0 z1
theorem row_9_9 : Case 9 9 := by unfold Case; exact fun z0 z1 => case_9_9 z0 z1
theorem row_9_10 : Case 9 10 := by unfold Case; exact fun z0 z1 => case_9_10 z0 z1
theorem row_9_11 : Case 9 11 := by unfold Case; exact fun z0 z1 => case_9_11 z0 z1
theorem row_9_12 : Case 9 12 := by unfold Case; exact fun z0 z1 => case_9_12 z0 z1
theorem row_9_13 : Case 9 13 := by unfold Case; exact fun z0 z1 => case_9_13 z0 z1
theorem row_9_14 : Case 9 14 := by unfold Case; exact fun z0 z1 => case_9_14 z0 z1
theorem row_9_15 : Case 9 15 := by unfold Case; exact fun z0 z1 => case_9_15 z0 z1
theorem row_10_0 : Case 10 0 := by unfold Case; exact fun z0 z1 => case_10_0 z0 z1
theorem row_10_1 : Case 10 1 := by unfold Case; exact fun z0 z1 => case_10_1 z0 z1
theorem row_10_2 : Case 10 2 := by unfold Case; exact fun z0 z1 => case_10_2 z0 z1
theorem row_10_3 : Case 10 3 := by unfold Case; exact fun z0 z1 => case_10_3 z0 z1
theorem row_10_4 : Case 10 4 := by unfold Case; exact fun z0 z1 => case_10_4 z0 z1
theorem row_10_5 : Case 10 5 := by unfold Case; exact fun z0 z1 => case_10_5 z0 z1
theorem row_10_6 : Case 10 6 := by unfold Case; exact fun z0 z1 => case_10_6 z0 z1
theorem row_10_7 : Case 10 7 := by unfold Case; exact fun z0 z1 => case_10_7 z0 z1
theorem row_10_8 : Case 10 8 := by unfold Case; exact fun z0 z1 => case_10_8 z0 z1
theorem row_10_9 : Case 10 9 := by unfold Case; exact fun z0 z1 => case_10_9 z0 z1
theorem row_10_10 : Case 10 10 := by unfold Case; exact fun z0 z1 => case_10_10 z0 z1
theorem row_10_11 : Case 10 11 := by unfold Case; exact fun z0 z1 => case_10_11 z0 z1
theorem row_10_12 : Case 10 12 := by unfold Case; exact fun z0 z1 => case_10_12 z0 z1
theorem row_10_13 : Case 10 13 := by unfold Case; exact fun z0 z1 => case_10_13 z0 z1
theorem row_10_14 : Case 10 14 := by unfold Case; exact fun z0 z1 => case_10_14 z0 z1
theorem row_10_15 : Case 10 15 := by unfold Case; exact fun z0 z1 => case_10_15 z0 z1
theorem row_11_0 : Case 11 0 := by unfold Case; exact fun z0 z1 => case_11_0 z0 z1
theorem row_11_1 : Case 11 1 := by unfold Case; exact fun z0 z1 => case_11_1 z0 z1
theorem row_11_2 : Case 11 2 := by unfold Case; exact fun z0 z1 => case_11_2 z0 z1
theorem row_11_3 : Case 11 3 := by unfold Case; exact fun z0 z1 => case_11_3 z0 z1
theorem row_11_4 : Case 11 4 := by unfold Case; exact fun z0 z1 => case_11_4 z0 z1
theorem row_11_5 : Case 11 5 := by unfold Case; exact fun z0 z1 => case_11_5 z0 z1
theorem row_11_6 : Case 11 6 := by unfold Case; exact fun z0 z1 => case_11_6 z0 z1
theorem row_11_7 : Case 11 7 := by unfold Case; exact fun z0 z1 => case_11_7 z0 z1
theorem row_11_8 : Case 11 8 := by unfold Case; exact fun z0 z1 => case_11_8 z0 z1
theorem row_11_9 : Case 11 9 := by unfold Case; exact fun z0 z1 => case_11_9 z0 z1
theorem row_11_10 : Case 11 10 := by unfold Case; exact fun z0 z1 => case_11_10 z0 z1
theorem row_11_11 : Case 11 11 := by unfold Case; exact fun z0 z1 => case_11_11 z0 z1
theorem row_11_12 : Case 11 12 := by unfold Case; exact fun z0 z1 => case_11_12 z0 z1
theorem row_11_13 : Case 11 13 := by unfold Case; exact fun z0 z1 => case_11_13 z0 z1
theorem row_11_14 : Case 11 14 := by unfold Case; exact fun z0 z1 => case_11_14 z0 z1
theorem row_11_15 : Case 11 15 := by unfold Case; exact fun z0 z1 => case_11_15 z0 z1
theorem row_12_0 : Case 12 0 := by unfold Case; exact fun z0 z1 => case_12_0 z0 z1
theorem row_12_1 : Case 12 1 := by unfold Case; exact fun z0 z1 => case_12_1 z0 z1
theorem row_12_2 : Case 12 2 := by unfold Case; exact fun z0 z1 => case_12_2 z0 z1
theorem row_12_3 : Case 12 3 := by unfold Case; exact fun z0 z1 => case_12_3 z0 z1
theorem row_12_4 : Case 12 4 := by unfold Case; exact fun z0 z1 => case_12_4 z0 z1
theorem row_12_5 : Case 12 5 := by unfold Case; exact fun z0 z1 => case_12_5 z0 z1
theorem row_12_6 : Case 12 6 := by unfold Case; exact fun z0 z1 => case_12_6 z0 z1
theorem row_12_7 : Case 12 7 := by unfold Case; exact fun z0 z1 => case_12_7 z0 z1
theorem row_12_8 : Case 12 8 := by unfold Case; exact fun z0 z1 => case_12_8 z0 z1
theorem row_12_9 : Case 12 9 := by unfold Case; exact fun z0 z1 => case_12_9 z0 z1
theorem row_12_10 : Case 12 10 := by unfold Case; exact fun z0 z1 => case_12_10 z0 z1
theorem row_12_11 : Case 12 11 := by unfold Case; exact fun z0 z1 => case_12_11 z0 z1
theorem row_12_12 : Case 12 12 := by unfold Case; exact fun z0 z1 => case_12_12 z0 z1
theorem row_12_13 : Case 12 13 := by unfold Case; exact fun z0 z1 => case_12_13 z0 z1
theorem row_12_14 : Case 12 14 := by unfold Case; exact fun z0 z1 => case_12_14 z0 z1
theorem row_12_15 : Case 12 15 := by unfold Case; exact fun z0 z1 => case_12_15 z0 z1
theorem row_13_0 : Case 13 0 := by unfold Case; exact fun z0 z1 => case_13_0 z0 z1
theorem row_13_1 : Case 13 1 := by unfold Case; exact fun z0 z1 => case_13_1 z0 z1
theorem row_13_2 : Case 13 2 := by unfold Case; exact fun z0 z1 => case_13_2 z0 z1
theorem row_13_3 : Case 13 3 := by unfold Case; exact fun z0 z1 => case_13_3 z0 z1
theorem row_13_4 : Case 13 4 := by unfold Case; exact fun z0 z1 => case_13_4 z0 z1
theorem row_13_5 : Case 13 5 := by unfold Case; exact fun z0 z1 => case_13_5 z0 z1
theorem row_13_6 : Case 13 6 := by unfold Case; exact fun z0 z1 => case_13_6 z0 z1
theorem row_13_7 : Case 13 7 := by unfold Case; exact fun z0 z1 => case_13_7 z0 z1
theorem row_13_8 : Case 13 8 := by unfold Case; exact fun z0 z1 => case_13_8 z0 z1
theorem row_13_9 : Case 13 9 := by unfold Case; exact fun z0 z1 => case_13_9 z0 z1
theorem row_13_10 : Case 13 10 := by unfold Case; exact fun z0 z1 => case_13_10 z0 z1
theorem row_13_11 : Case 13 11 := by unfold Case; exact fun z0 z1 => case_13_11 z0 z1
theorem row_13_12 : Case 13 12 := by unfold Case; exact fun z0 z1 => case_13_12 z0 z1
theorem row_13_13 : Case 13 13 := by unfold Case; exact fun z0 z1 => case_13_13 z0 z1
theorem row_13_14 : Case 13 14 := by unfold Case; exact fun z0 z1 => case_13_14 z0 z1
theorem row_13_15 : Case 13 15 := by unfold Case; exact fun z0 z1 => case_13_15 z0 z1
theorem row_14_0 : Case 14 0 := by unfold Case; exact fun z0 z1 => case_14_0 z0 z1
theorem row_14_1 : Case 14 1 := by unfold Case; exact fun z0 z1 => case_14_1 z0 z1
theorem row_14_2 : Case 14 2 := by unfold Case; exact fun z0 z1 => case_14_2 z0 z1
theorem row_14_3 : Case 14 3 := by unfold Case; exact fun z0 z1 => case_14_3 z0 z1
theorem row_14_4 : Case 14 4 := by unfold Case; exact fun z0 z1 => case_14_4 z0 z1
theorem row_14_5 : Case 14 5 := by unfold Case; exact fun z0 z1 => case_14_5 z0 z1
theorem row_14_6 : Case 14 6 := by unfold Case; exact fun z0 z1 => case_14_6 z0 z1
theorem row_14_7 : Case 14 7 := by unfold Case; exact fun z0 z1 => case_14_7 z0 z1
theorem row_14_8 : Case 14 8 := by unfold Case; exact fun z0 z1 => case_14_8 z0 z1
theorem row_14_9 : Case 14 9 := by unfold Case; exact fun z0 z1 => case_14_9 z0 z1
theorem row_14_10 : Case 14 10 := by unfold Case; exact fun z0 z1 => case_14_10 z0 z1
theorem row_14_11 : Case 14 11 := by unfold Case; exact fun z0 z1 => case_14_11 z0 z1
theorem row_14_12 : Case 14 12 := by unfold Case; exact fun z0 z1 => case_14_12 z0 z1
theorem row_14_13 : Case 14 13 := by unfold Case; exact fun z0 z1 => case_14_13 z0 z1
theorem row_14_14 : Case 14 14 := by unfold Case; exact fun z0 z1 => case_14_14 z0 z1
theorem row_14_15 : Case 14 15 := by unfold Case; exact fun z0 z1 => case_14_15 z0 z1
theorem row_15_0 : Case 15 0 := by unfold Case; exact fun z0 z1 => case_15_0 z0 z1
theorem row_15_1 : Case 15 1 := by unfold Case; exact fun z0 z1 => case_15_1 z0 z1
theorem row_15_2 : Case 15 2 := by unfold Case; exact fun z0 z1 => case_15_2 z0 z1
theorem row_15_3 : Case 15 3 := by unfold Case; exact fun z0 z1 => case_15_3 z0 z1
theorem row_15_4 : Case 15 4 := by unfold Case; exact fun z0 z1 => case_15_4 z0 z1
theorem row_15_5 : Case 15 5 := by unfold Case; exact fun z0 z1 => case_15_5 z0 z1
theorem row_15_6 : Case 15 6 := by unfold Case; exact fun z0 z1 => case_15_6 z0 z1
theorem row_15_7 : Case 15 7 := by unfold Case; exact fun z0 z1 => case_15_7 z0 z1
theorem row_15_8 : Case 15 8 := by unfold Case; exact fun z0 z1 => case_15_8 z0 z1
theorem row_15_9 : Case 15 9 := by unfold Case; exact fun z0 z1 => case_15_9 z0 z1
theorem row_15_10 : Case 15 10 := by unfold Case; exact fun z0 z1 => case_15_10 z0 z1
theorem row_15_11 : Case 15 11 := by unfold Case; exact fun z0 z1 => case_15_11 z0 z1
theorem row_15_12 : Case 15 12 := by unfold Case; exact fun z0 z1 => case_15_12 z0 z1
theorem row_15_13 : Case 15 13 := by unfold Case; exact fun z0 z1 => case_15_13 z0 z1
theorem row_15_14 : Case 15 14 := by unfold Case; exact fun z0 z1 => case_15_14 z0 z1
theorem row_15_15 : Case 15 15 := by unfold Case; exact fun z0 z1 => case_15_15 z0 z1
theorem row_16_0 : Case 16 0 := by unfold Case; exact fun z0 z1 => case_16_0 z0 z1
theorem row_16_1 : Case 16 1 := by unfold Case; exact fun z0 z1 => case_16_1 z0 z1
theorem row_16_2 : Case 16 2 := by unfold Case; exact fun z0 z1 => case_16_2 z0 z1
theorem row_16_3 : Case 16 3 := by unfold Case; exact fun z0 z1 => case_16_3 z0 z1
theorem row_16_4 : Case 16 4 := by unfold Case; exact fun z0 z1 => case_16_4 z0 z1
theorem row_16_5 : Case 16 5 := by unfold Case; exact fun z0 z1 => case_16_5 z0 z1
theorem row_16_6 : Case 16 6 := by unfold Case; exact fun z0 z1 => case_16_6 z0 z1
theorem row_16_7 : Case 16 7 := by unfold Case; exact fun z0 z1 => case_16_7 z0 z1
theorem row_16_8 : Case 16 8 := by unfold Case; exact fun z0 z1 => case_16_8 z0 z1
theorem row_16_9 : Case 16 9 := by unfold Case; exact fun z0 z1 => case_16_9 z0 z1
theorem row_16_10 : Case 16 10 := by unfold Case; exact fun z0 z1 => case_16_10 z0 z1
theorem row_16_11 : Case 16 11 := by unfold Case; exact fun z0 z1 => case_16_11 z0 z1
theorem row_16_12 : Case 16 12 := by unfold Case; exact fun z0 z1 => case_16_12 z0 z1
theorem row_16_13 : Case 16 13 := by unfold Case; exact fun z0 z1 => case_16_13 z0 z1
theorem row_16_14 : Case 16 14 := by unfold Case; exact fun z0 z1 => case_16_14 z0 z1
theorem row_16_15 : Case 16 15 := by unfold Case; exact fun z0 z1 => case_16_15 z0 z1
theorem row_17_0 : Case 17 0 := by unfold Case; exact fun z0 z1 => case_17_0 z0 z1
theorem row_17_1 : Case 17 1 := by unfold Case; exact fun z0 z1 => case_17_1 z0 z1
theorem row_17_2 : Case 17 2 := by unfold Case; exact fun z0 z1 => case_17_2 z0 z1
theorem row_17_3 : Case 17 3 := by unfold Case; exact fun z0 z1 => case_17_3 z0 z1
theorem row_17_4 : Case 17 4 := by unfold Case; exact fun z0 z1 => case_17_4 z0 z1
theorem row_17_5 : Case 17 5 := by unfold Case; exact fun z0 z1 => case_17_5 z0 z1
theorem row_17_6 : Case 17 6 := by unfold Case; exact fun z0 z1 => case_17_6 z0 z1
theorem row_17_7 : Case 17 7 := by unfold Case; exact fun z0 z1 => case_17_7 z0 z1
theorem row_17_8 : Case 17 8 := by unfold Case; exact fun z0 z1 => case_17_8 z0 z1
theorem row_17_9 : Case 17 9 := by unfold Case; exact fun z0 z1 => case_17_9 z0 z1
theorem row_17_10 : Case 17 10 := by unfold Case; exact fun z0 z1 => case_17_10 z0 z1
theorem row_17_11 : Case 17 11 := by unfold Case; exact fun z0 z1 => case_17_11 z0 z1
theorem row_17_12 : Case 17 12 := by unfold Case; exact fun z0 z1 => case_17_12 z0 z1
theorem row_17_13 : Case 17 13 := by unfold Case; exact fun z0 z1 => case_17_13 z0 z1
theorem row_17_14 : Case 17 14 := by unfold Case; exact fun z0 z1 => case_17_14 z0 z1
theorem row_17_15 : Case 17 15 := by unfold Case; exact fun z0 z1 => case_17_15 z0 z1
theorem row_18_0 : Case 18 0 := by unfold Case; exact fun z0 z1 => case_18_0 z0 z1
theorem row_18_1 : Case 18 1 := by unfold Case; exact fun z0 z1 => case_18_1 z0 z1
theorem row_18_2 : Case 18 2 := by unfold Case; exact fun z0 z1 => case_18_2 z0 z1
theorem row_18_3 : Case 18 3 := by unfold Case; exact fun z0 z1 => case_18_3 z0 z1
theorem row_18_4 : Case 18 4 := by unfold Case; exact fun z0 z1 => case_18_4 z0 z1
theorem row_18_5 : Case 18 5 := by unfold Case; exact fun z0 z1 => case_18_5 z0 z1
theorem row_18_6 : Case 18 6 := by unfold Case; exact fun z0 z1 => case_18_6 z0 z1
theorem row_18_7 : Case 18 7 := by unfold Case; exact fun z0 z1 => case_18_7 z0 z1
theorem row_18_8 : Case 18 8 := by unfold Case; exact fun z0 z1 => case_18_8 z0 z1
theorem row_18_9 : Case 18 9 := by unfold Case; exact fun z0 z1 => case_18_9 z0 z1
theorem row_18_10 : Case 18 10 := by unfold Case; exact fun z0 z1 => case_18_10 z0 z1
theorem row_18_11 : Case 18 11 := by unfold Case; exact fun z0 z1 => case_18_11 z0 z1
theorem row_18_12 : Case 18 12 := by unfold Case; exact fun z0 z1 => case_18_12 z0 z1
theorem row_18_13 : Case 18 13 := by unfold Case; exact fun z0 z1 => case_18_13 z0 z1
theorem row_18_14 : Case 18 14 := by unfold Case; exact fun z0 z1 => case_18_14 z0 z1
theorem row_18_15 : Case 18 15 := by unfold Case; exact fun z0 z1 => case_18_15 z0 z1
theorem row_19_0 : Case 19 0 := by unfold Case; exact fun z0 z1 => case_19_0 z0 z1
theorem row_19_1 : Case 19 1 := by unfold Case; exact fun z0 z1 => case_19_1 z0 z1
theorem row_19_2 : Case 19 2 := by unfold Case; exact fun z0 z1 => case_19_2 z0 z1
theorem row_19_3 : Case 19 3 := by unfold Case; exact fun z0 z1 => case_19_3 z0 z1
theorem row_19_4 : Case 19 4 := by unfold Case; exact fun z0 z1 => case_19_4 z0 z1
theorem row_19_5 : Case 19 5 := by unfold Case; exact fun z0 z1 => case_19_5 z0 z1
theorem row_19_6 : Case 19 6 := by unfold Case; exact fun z0 z1 => case_19_6 z0 z1
theorem row_19_7 : Case 19 7 := by unfold Case; exact fun z0 z1 => case_19_7 z0 z1
theorem row_19_8 : Case 19 8 := by unfold Case; exact fun z0 z1 => case_19_8 z0 z1
theorem row_19_9 : Case 19 9 := by unfold Case; exact fun z0 z1 => case_19_9 z0 z1
theorem row_19_10 : Case 19 10 := by unfold Case; exact fun z0 z1 => case_19_10 z0 z1
theorem row_19_11 : Case 19 11 := by unfold Case; exact fun z0 z1 => case_19_11 z0 z1
theorem row_19_12 : Case 19 12 := by unfold Case; exact fun z0 z1 => case_19_12 z0 z1
theorem row_19_13 : Case 19 13 := by unfold Case; exact fun z0 z1 => case_19_13 z0 z1
theorem row_19_14 : Case 19 14 := by unfold Case; exact fun z0 z1 => case_19_14 z0 z1
theorem row_19_15 : Case 19 15 := by unfold Case; exact fun z0 z1 => case_19_15 z0 z1
theorem row_0 : ∀ x1 : Nat, x1 < 16 → Case 0 x1 := by
  intro x1 hx1
  exact below16 (p := fun x1 => Case 0 x1) (row_0_0 ) (row_0_1 ) (row_0_2 ) (row_0_3 ) (row_0_4 ) (row_0_5 ) (row_0_6 ) (row_0_7 ) (row_0_8 ) (row_0_9 ) (row_0_10 ) (row_0_11 ) (row_0_12 ) (row_0_13 ) (row_0_14 ) (row_0_15 ) x1 hx1
theorem row_1 : ∀ x1 : Nat, x1 < 16 → Case 1 x1 := by
  intro x1 hx1
  exact below16 (p := fun x1 => Case 1 x1) (row_1_0 ) (row_1_1 ) (row_1_2 ) (row_1_3 ) (row_1_4 ) (row_1_5 ) (row_1_6 ) (row_1_7 ) (row_1_8 ) (row_1_9 ) (row_1_10 ) (row_1_11 ) (row_1_12 ) (row_1_13 ) (row_1_14 ) (row_1_15 ) x1 hx1
theorem row_2 : ∀ x1 : Nat, x1 < 16 → Case 2 x1 := by
  intro x1 hx1
  exact below16 (p := fun x1 => Case 2 x1) (row_2_0 ) (row_2_1 ) (row_2_2 ) (row_2_3 ) (row_2_4 ) (row_2_5 ) (row_2_6 ) (row_2_7 ) (row_2_8 ) (row_2_9 ) (row_2_10 ) (row_2_11 ) (row_2_12 ) (row_2_13 ) (row_2_14 ) (row_2_15 ) x1 hx1
theorem row_3 : ∀ x1 : Nat, x1 < 16 → Case 3 x1 := by
  intro x1 hx1
  exact below16 (p := fun x1 => Case 3 x1) (row_3_0 ) (row_3_1 ) (row_3_2 ) (row_3_3 ) (row_3_4 ) (row_3_5 ) (row_3_6 ) (row_3_7 ) (row_3_8 ) (row_3_9 ) (row_3_10 ) (row_3_11 ) (row_3_12 ) (row_3_13 ) (row_3_14 ) (row_3_15 ) x1 hx1
theorem row_4 : ∀ x1 : Nat, x1 < 16 → Case 4 x1 := by
  intro x1 hx1
  exact below16 (p := fun x1 => Case 4 x1) (row_4_0 ) (row_4_1 ) (row_4_2 ) (row_4_3 ) (row_4_4 ) (row_4_5 ) (row_4_6 ) (row_4_7 ) (row_4_8 ) (row_4_9 ) (row_4_10 ) (row_4_11 ) (row_4_12 ) (row_4_13 ) (row_4_14 ) (row_4_15 ) x1 hx1
theorem row_5 : ∀ x1 : Nat, x1 < 16 → Case 5 x1 := by
  intro x1 hx1
  exact below16 (p := fun x1 => Case 5 x1) (row_5_0 ) (row_5_1 ) (row_5_2 ) (row_5_3 ) (row_5_4 ) (row_5_5 ) (row_5_6 ) (row_5_7 ) (row_5_8 ) (row_5_9 ) (row_5_10 ) (row_5_11 ) (row_5_12 ) (row_5_13 ) (row_5_14 ) (row_5_15 ) x1 hx1
theorem row_6 : ∀ x1 : Nat, x1 < 16 → Case 6 x1 := by
  intro x1 hx1
  exact below16 (p := fun x1 => Case 6 x1) (row_6_0 ) (row_6_1 ) (row_6_2 ) (row_6_3 ) (row_6_4 ) (row_6_5 ) (row_6_6 ) (row_6_7 ) (row_6_8 ) (row_6_9 ) (row_6_10 ) (row_6_11 ) (row_6_12 ) (row_6_13 ) (row_6_14 ) (row_6_15 ) x1 hx1
theorem row_7 : ∀ x1 : Nat, x1 < 16 → Case 7 x1 := by
  intro x1 hx1
  exact below16 (p := fun x1 => Case 7 x1) (row_7_0 ) (row_7_1 ) (row_7_2 ) (row_7_3 ) (row_7_4 ) (row_7_5 ) (row_7_6 ) (row_7_7 ) (row_7_8 ) (row_7_9 ) (row_7_10 ) (row_7_11 ) (row_7_12 ) (row_7_13 ) (row_7_14 ) (row_7_15 ) x1 hx1
theorem row_8 : ∀ x1 : Nat, x1 < 16 → Case 8 x1 := by
  intro x1 hx1
  exact below16 (p := fun x1 => Case 8 x1) (row_8_0 ) (row_8_1 ) (row_8_2 ) (row_8_3 ) (row_8_4 ) (row_8_5 ) (row_8_6 ) (row_8_7 ) (row_8_8 ) (row_8_9 ) (row_8_10 ) (row_8_11 ) (row_8_12 ) (row_8_13 ) (row_8_14 ) (row_8_15 ) x1 hx1
theorem row_9 : ∀ x1 : Nat, x1 < 16 → Case 9 x1 := by
  intro x1 hx1
  exact below16 (p := fun x1 => Case 9 x1) (row_9_0 ) (row_9_1 ) (row_9_2 ) (row_9_3 ) (row_9_4 ) (row_9_5 ) (row_9_6 ) (row_9_7 ) (row_9_8 ) (row_9_9 ) (row_9_10 ) (row_9_11 ) (row_9_12 ) (row_9_13 ) (row_9_14 ) (row_9_15 ) x1 hx1
theorem row_10 : ∀ x1 : Nat, x1 < 16 → Case 10 x1 := by
  intro x1 hx1
  exact below16 (p := fun x1 => Case 10 x1) (row_10_0 ) (row_10_1 ) (row_10_2 ) (row_10_3 ) (row_10_4 ) (row_10_5 ) (row_10_6 ) (row_10_7 ) (row_10_8 ) (row_10_9 ) (row_10_10 ) (row_10_11 ) (row_10_12 ) (row_10_13 ) (row_10_14 ) (row_10_15 ) x1 hx1
theorem row_11 : ∀ x1 : Nat, x1 < 16 → Case 11 x1 := by
  intro x1 hx1
  exact below16 (p := fun x1 => Case 11 x1) (row_11_0 ) (row_11_1 ) (row_11_2 ) (row_11_3 ) (row_11_4 ) (row_11_5 ) (row_11_6 ) (row_11_7 ) (row_11_8 ) (row_11_9 ) (row_11_10 ) (row_11_11 ) (row_11_12 ) (row_11_13 ) (row_11_14 ) (row_11_15 ) x1 hx1
theorem row_12 : ∀ x1 : Nat, x1 < 16 → Case 12 x1 := by
  intro x1 hx1
  exact below16 (p := fun x1 => Case 12 x1) (row_12_0 ) (row_12_1 ) (row_12_2 ) (row_12_3 ) (row_12_4 ) (row_12_5 ) (row_12_6 ) (row_12_7 ) (row_12_8 ) (row_12_9 ) (row_12_10 ) (row_12_11 ) (row_12_12 ) (row_12_13 ) (row_12_14 ) (row_12_15 ) x1 hx1
theorem row_13 : ∀ x1 : Nat, x1 < 16 → Case 13 x1 := by
  intro x1 hx1
  exact below16 (p := fun x1 => Case 13 x1) (row_13_0 ) (row_13_1 ) (row_13_2 ) (row_13_3 ) (row_13_4 ) (row_13_5 ) (row_13_6 ) (row_13_7 ) (row_13_8 ) (row_13_9 ) (row_13_10 ) (row_13_11 ) (row_13_12 ) (row_13_13 ) (row_13_14 ) (row_13_15 ) x1 hx1
theorem row_14 : ∀ x1 : Nat, x1 < 16 → Case 14 x1 := by
  intro x1 hx1
  exact below16 (p := fun x1 => Case 14 x1) (row_14_0 ) (row_14_1 ) (row_14_2 ) (row_14_3 ) (row_14_4 ) (row_14_5 ) (row_14_6 ) (row_14_7 ) (row_14_8 ) (row_14_9 ) (row_14_10 ) (row_14_11 ) (row_14_12 ) (row_14_13 ) (row_14_14 ) (row_14_15 ) x1 hx1
theorem row_15 : ∀ x1 : Nat, x1 < 16 → Case 15 x1 := by
  intro x1 hx1
  exact below16 (p := fun x1 => Case 15 x1) (row_15_0 ) (row_15_1 ) (row_15_2 ) (row_15_3 ) (row_15_4 ) (row_15_5 ) (row_15_6 ) (row_15_7 ) (row_15_8 ) (row_15_9 ) (row_15_10 ) (row_15_11 ) (row_15_12 ) (row_15_13 ) (row_15_14 ) (row_15_15 ) x1 hx1
theorem row_16 : ∀ x1 : Nat, x1 < 16 → Case 16 x1 := by
  intro x1 hx1
  exact below16 (p := fun x1 => Case 16 x1) (row_16_0 ) (row_16_1 ) (row_16_2 ) (row_16_3 ) (row_16_4 ) (row_16_5 ) (row_16_6 ) (row_16_7 ) (row_16_8 ) (row_16_9 ) (row_16_10 ) (row_16_11 ) (row_16_12 ) (row_16_13 ) (row_16_14 ) (row_16_15 ) x1 hx1
theorem row_17 : ∀ x1 : Nat, x1 < 16 → Case 17 x1 := by
  intro x1 hx1
  exact below16 (p := fun x1 => Case 17 x1) (row_17_0 ) (row_17_1 ) (row_17_2 ) (row_17_3 ) (row_17_4 ) (row_17_5 ) (row_17_6 ) (row_17_7 ) (row_17_8 ) (row_17_9 ) (row_17_10 ) (row_17_11 ) (row_17_12 ) (row_17_13 ) (row_17_14 ) (row_17_15 ) x1 hx1
theorem row_18 : ∀ x1 : Nat, x1 < 16 → Case 18 x1 := by
  intro x1 hx1
  exact below16 (p := fun x1 => Case 18 x1) (row_18_0 ) (row_18_1 ) (row_18_2 ) (row_18_3 ) (row_18_4 ) (row_18_5 ) (row_18_6 ) (row_18_7 ) (row_18_8 ) (row_18_9 ) (row_18_10 ) (row_18_11 ) (row_18_12 ) (row_18_13 ) (row_18_14 ) (row_18_15 ) x1 hx1
theorem row_19 : ∀ x1 : Nat, x1 < 16 → Case 19 x1 := by
  intro x1 hx1
  exact below16 (p := fun x1 => Case 19 x1) (row_19_0 ) (row_19_1 ) (row_19_2 ) (row_19_3 ) (row_19_4 ) (row_19_5 ) (row_19_6 ) (row_19_7 ) (row_19_8 ) (row_19_9 ) (row_19_10 ) (row_19_11 ) (row_19_12 ) (row_19_13 ) (row_19_14 ) (row_19_15 ) x1 hx1
theorem row : ∀ x0 x1 : Nat, x0 < 20 → x1 < 16 → Case x0 x1 := by
  intro x0 x1 hx0 hx1
  exact below20 (p := fun x0 => Case x0 x1) (row_0 x1 hx1) (row_1 x1 hx1) (row_2 x1 hx1) (row_3 x1 hx1) (row_4 x1 hx1) (row_5 x1 hx1) (row_6 x1 hx1) (row_7 x1 hx1) (row_8 x1 hx1) (row_9 x1 hx1) (row_10 x1 hx1) (row_11 x1 hx1) (row_12 x1 hx1) (row_13 x1 hx1) (row_14 x1 hx1) (row_15 x1 hx1) (row_16 x1 hx1) (row_17 x1 hx1) (row_18 x1 hx1) (row_19 x1 hx1) x0 hx0
theorem runs (z0 : Int) (z1 : Int) : Runs F G0 n_kilnlaw06_ParseErrors [.int .i64 z0 0, .int .i64 z1 0] .e 0 fun v _ _ => v = .bool true :=
  runs_law (fs_ok (lpF_ok 400) G0) at_kilnlaw06_ParseErrors 400 (t := fun k => t_kilnlaw06_ParseErrors (lpF 400) G0 (runS (FS (lpF 400) G0) 400) z0 z1 (umod z0 20) (uand z1 15) .e 0 k) (fun callE hle hd h => ti_kilnlaw06_ParseErrors (lpF_ok 400) z0 z1 (umod z0 20) (uand z1 15) rfl rfl hle hd h)
    (by have h := row (umod z0 20) (uand z1 15) (umod_lt z0 (by decide)) (Nat.lt_succ_of_le (uand_spec z1 (by decide)).2); unfold Case at h; exact h z0 z1)
end Go.P2.W2L

namespace Go.Proofs.YtcjkfmaoahojeaaDoor
open Go Go.Eng Go.ChangeShapes Go.WideShapes Go.RowKit
set_option maxRecDepth 100000
theorem ownK : ownKnob Tryd.prog.godebug = none := by kernel_rfl
theorem gMarks : Tryd.prog.globalNamed "kiln/lex.marks" = some 0 := by kernel_rfl
theorem tMarks : (Tryd.prog.globals[0]?).map (·.type) = some 124 := by kernel_rfl
theorem laidOut : laidOutB Tryd.prog = true := by kernel_rfl
theorem tightMarks : tightT Tryd.prog 5 124 = true := by kernel_rfl
theorem flatMarks : flatF 5 (Rows.laid_kiln_lex_marks (H := Unit)) = some Go.P2.tab := by kernel_rfl
abbrev laidL : List (String × DataW Unit) := [("kiln/lex.marks", Rows.laid_kiln_lex_marks)]
/- what the condition gives: the table -/
theorem of_laid {W : World} (h : laidMetH Tryd.prog laidL W) : GRel W Go.P2.G0 := by
  rw [MakeChecks.laidMetH_plain _ _ _ (by kernel_rfl)] at h
  obtain ⟨ps, ⟨g0, t0, cs0, f0, p0, q0, hg0, ht0, hv0, hd0, _, _⟩, _, _⟩ := h
  obtain rfl := Option.some.inj (gMarks.symm.trans hg0)
  obtain rfl := Option.some.inj (tMarks.symm.trans ht0)
  obtain ⟨hr, h1⟩ := flat_sound f0 hd0 flatMarks tightMarks
  have e : Go.P2.G0 = tabG 0 Go.P2.tab := tabK_eq
  rw [e]
  exact tabG_rel (fun i => by have := World.var?_cell hg0 hv0 i; simpa using this) hr h1
theorem door_met (os : Os) (args : Array Value) : laidMetH Tryd.prog laidL ((World.doorLaid Tryd.prog 400 os).forCall (fun _ _ => 0) ⟨#[], args, []⟩).memory :=
  laidMetH_of_parts3 (fuel := 8) (laidMet_of_run' 8 (by kernel_rfl) (by kernel_rfl)) (by kernel_rfl) (by kernel_rfl)
theorem noStand {t : TypeId} (h : t = 3) : Tryd.prog.wantsStandIn t = false := by
  subst h; kernel_rfl
end Go.Proofs.YtcjkfmaoahojeaaDoor

namespace Go.Proofs.YtcjkfmaoahojeaaDoor
open Go Go.Eng Go.ChangeShapes Go.WideShapes Go.RowKit
set_option maxRecDepth 100000
theorem parseErrors_lifted (os : Os) (started : os.Started) (H : Type) (enc : TypeId × Value → H) :
    ReturnsInHanded {} Tryd.checked os 3 .any (fun w args => (Rows.parseErrorsSpec.pre enc Tryd.prog Tryd.f3 [] false w args ∧ laidMetH Tryd.prog laidL w) ∧ sizedMet enc Tryd.prog Tryd.f3 (OpenSpec.ofChange Rows.parseErrorsSpec) false w args)
      (Rows.parseErrorsSpec.post enc Tryd.prog Tryd.f3 false true false false) := by
  refine law_lifted (C := Tryd.checked) (F := Go.P2.F) Go.P2.fns_ok started (tb := 4) ownK (by kernel_rfl) Tryd.func3 rfl ?_ (by kernel_rfl) Tryd.underlying4 laidOut ?_
    (World.doorLaid Tryd.prog 400 os) #[.int .i64 0, .int .i64 0] 8 rfl (by kernel_rfl) (by kernel_rfl) (by kernel_rfl) (by kernel_rfl) (by kernel_rfl) (door_met os _) ?_
  · intro ds hl
    match ds, hl with
    | [d0, d1], _ => rfl
  · intro t ht
    rw [Tryd.params3] at ht
    simp at ht
    subst ht
    exact ⟨by kernel_rfl, of_decide_eq_true (by kernel_rfl)⟩
  · intro W args ds ps hval hA hL
    rw [Tryd.params3] at hA hval
    obtain ⟨v0, v1, d0, d1, p, q, rfl, rfl, rfl, h0, h1⟩ := trodAll_two hA
    obtain ⟨b0, k0⟩ := hval 0 3 v0 rfl rfl
    obtain ⟨b1, k1⟩ := hval 1 3 v1 rfl rfl
    obtain ⟨a0, rfl, rfl, rfl, w0⟩ := open_int Tryd.underlying3 k0 h0
    obtain ⟨a1, rfl, rfl, rfl, w1⟩ := open_int Tryd.underlying3 k1 h1
    exact ⟨Go.P2.G0, [.int .i64 a0 0, .int .i64 a1 0], of_laid hL, .cons rfl (.cons rfl .nil), Go.P2.W2L.runs a0 a1⟩
theorem parseErrors_holds : Rows.ParseErrorsSaid :=
  OpenClaim.holds_of_wide 3 Tryd.f3 rfl rfl rfl rfl rfl rfl rfl ⟨rfl, rfl, rfl, rfl, rfl⟩ rfl rfl rfl rfl rfl (by kernel_rfl) Tryd.func3 (by kernel_rfl)
    (of_decide_eq_true (by kernel_rfl)) (by unfold Func.isWrapper; rw [if_neg (of_decide_eq_false (by kernel_rfl))]; exact ⟨rfl, rfl⟩)
    (fun os started H enc _ => parseErrors_lifted os started H enc)
theorem parseErrors_card : Rows.ParseErrorsCardSaid :=
  Claim7.holds_tied_plain_at .later [] [.data] true (true, "56dbd1954282d5a45a76d8a75b022c4ca0a104fd26ebfa90da1be692bf490d06") false
    parseErrors_holds (fun _ h => by cases h) (by kernel_rfl) (fun _ h => by cases h) parseErrors_row_tie rfl ⟨rfl, rfl⟩ (by kernel_rfl) rfl
    (fun f fn hf hfn => by
      obtain rfl : f = 3 := Option.some.inj ((show Tryd.prog.funcNamed "kiln/kilnlaw06.ParseErrors" = some 3 by kernel_rfl).symm.trans hf) |>.symm
      obtain rfl : fn = Tryd.f3 := (Option.some.inj (Tryd.func3.symm.trans hfn)).symm
      exact ⟨by kernel_rfl, fun j t ht => by
        rw [Tryd.params3] at ht
        have hm := Array.mem_of_getElem? ht
        exact noStand (by simpa using hm)⟩)
    (by kernel_rfl)
#print axioms parseErrors_card
end Go.Proofs.YtcjkfmaoahojeaaDoor

