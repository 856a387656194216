/-
  NARROWER THAN 'FOR EVERY INPUT', by the rows' own cells (each row's printed sentence says how): LinkTurns: laid · LinkMany: laid · LinkErrors: laid · VerifyPage: laid · VerifySound: laid · VerifyFaults: laid · VerifyRuns: laid · VerifyMore: laid · VerifyWays: laid.
  DERIVED. THE GIVEN ROWS OF THIS SEAT. 9 by the template 'for every input the law returns true; each argument reads behind the call as it read before'; 0 by the template 'total and deterministic' (their statements: YtibbhhkcjjeclaaDoorTotals.lean).
  GIVEN WITH THE SEED: the statements are not yours to turn. If you find one false, say at which input.
  Laid BY PROGRAM, IN A SANDBOX (cutbox-rows.mjs): the forced cells as the released guide's own fill.sh prints them over the translation 5cc3b97b9039a616… (all of the seat's roots in one cut). By AI agents, Wed Nov 11 2026. No macro, syntax, notation, axiom, sorry.
-/
import Derived.Test.YtibbhhkcjjeclaaDoorChecked
import GoSem.Claim
import GoSem.ClaimJoined
import GoSem.ClaimMapViews
import Derived.JoinedTies
import Derived.KernelRfl
namespace Go.Proofs.YtibbhhkcjjeclaaDoor
/- THE CELL 'sum', in the pinned program and in every row, IS THE sha256 OF THE DUMP (.gsa) THAT YtibbhhkcjjeclaaDoorProg.lean LOADS. Nothing in Lean hashes anything: it is a label: what it is worth is what the hold of that sum in a sandbox is worth. -/
noncomputable def Tryd.pinned : Pinned := { name := "ytibbhhkcjjeclaadoor", sum := "5cc3b97b9039a6167f8bfe9f13d286e092119ce932ab2b05c27caa25bc83a4f0", checked := Tryd.checked }
namespace Rows
def none {H : Type} : Left H := { results := [], args := [] }

/- WHAT THE LISTED PACKAGE-LEVEL VARIABLES READ AS WHEN THE CALL BEGINS. Each datum BY PROGRAM (the guide's laid-datum.mjs) off the statement by which the dump's own 'gosem.cut.vars' lays the variable. In a bare row this is a premise. The card (YtibbhhkcjjeclaaDoorCards.lean) ties it to the program's text. -/
def laid_kiln_op_shapes {H : Type} : DataW H := .agg [.agg [.lit (.string []), .lit (.int .i32 0)], .agg [.lit (.string [105, 110, 116]), .lit (.int .i32 110)], .agg [.lit (.string [110, 117, 108, 108]), .lit (.int .i32 0)], .agg [.lit (.string [108, 111, 99, 97, 108]), .lit (.int .i32 108)], .agg [.lit (.string [115, 116, 111, 114, 101]), .lit (.int .i32 108)], .agg [.lit (.string [97, 100, 100]), .lit (.int .i32 0)], .agg [.lit (.string [115, 117, 98]), .lit (.int .i32 0)], .agg [.lit (.string [109, 117, 108]), .lit (.int .i32 0)], .agg [.lit (.string [100, 105, 118]), .lit (.int .i32 0)], .agg [.lit (.string [109, 111, 100]), .lit (.int .i32 0)], .agg [.lit (.string [108, 101, 115, 115]), .lit (.int .i32 0)], .agg [.lit (.string [109, 111, 115, 116]), .lit (.int .i32 0)], .agg [.lit (.string [115, 97, 109, 101]), .lit (.int .i32 0)], .agg [.lit (.string [111, 116, 104, 101, 114]), .lit (.int .i32 0)], .agg [.lit (.string [110, 101, 103]), .lit (.int .i32 0)], .agg [.lit (.string [110, 111, 116]), .lit (.int .i32 0)], .agg [.lit (.string [103, 101, 116]), .lit (.int .i32 102)], .agg [.lit (.string [112, 117, 116]), .lit (.int .i32 102)], .agg [.lit (.string [110, 101, 119]), .lit (.int .i32 99)], .agg [.lit (.string [97, 114, 114, 97, 121]), .lit (.int .i32 116)], .agg [.lit (.string [108, 111, 97, 100]), .lit (.int .i32 116)], .agg [.lit (.string [115, 97, 118, 101]), .lit (.int .i32 116)], .agg [.lit (.string [108, 101, 110, 103, 116, 104]), .lit (.int .i32 0)], .agg [.lit (.string [99, 97, 115, 116]), .lit (.int .i32 99)], .agg [.lit (.string [105, 115]), .lit (.int .i32 99)], .agg [.lit (.string [99, 97, 108, 108]), .lit (.int .i32 109)], .agg [.lit (.string [115, 116, 97, 116, 105, 99]), .lit (.int .i32 109)], .agg [.lit (.string [106, 117, 109, 112]), .lit (.int .i32 106)], .agg [.lit (.string [117, 110, 108, 101, 115, 115]), .lit (.int .i32 106)], .agg [.lit (.string [114, 101, 116, 117, 114, 110]), .lit (.int .i32 0)], .agg [.lit (.string [112, 114, 105, 110, 116]), .lit (.int .i32 0)], .agg [.lit (.string [112, 111, 112]), .lit (.int .i32 0)], .agg [.lit (.string [98, 111, 111, 108]), .lit (.int .i32 98)]]

/-- 'kilnlaw14.LinkTurns': WHATEVER THE INPUT: true; the input reads as it did. -/
def linkTurnsSpec : ChangeSpec := { name := "linkTurns", fn := fun _ => fun
  | [d1, d2] => { results := [.lit (.bool true)], args := [d1, d2] }
  | _ => none }
def linkTurnsRow : OpenClaim := { program := "ytibbhhkcjjeclaadoor", sum := "5cc3b97b9039a6167f8bfe9f13d286e092119ce932ab2b05c27caa25bc83a4f0", func := "kiln/kilnlaw14.LinkTurns", spec := "linkTurns", unfollowed := true, recurses := true, named := ["kiln/op.shapes"], apart := false, laid := [("kiln/op.shapes", laid_kiln_op_shapes)] }
def LinkTurnsSaid : Prop := linkTurnsRow.holds Tryd.pinned (OpenSpec.ofChange linkTurnsSpec)

/-- ITS FALSE NEIGHBOUR: 'it returns false'. Refute it at one input. -/
def linkTurnsWrong : ChangeSpec := { name := "linkTurns", fn := fun _ => fun
  | [d1, d2] => { results := [.lit (.bool false)], args := [d1, d2] }
  | _ => none }
def LinkTurnsWrongFalsely : Prop := linkTurnsRow.holds Tryd.pinned (OpenSpec.ofChange linkTurnsWrong)

/-- 'kilnlaw14.LinkMany': WHATEVER THE INPUT: true; the input reads as it did. -/
def linkManySpec : ChangeSpec := { name := "linkMany", fn := fun _ => fun
  | [d] => { results := [.lit (.bool true)], args := [d] }
  | _ => none }
def linkManyRow : OpenClaim := { program := "ytibbhhkcjjeclaadoor", sum := "5cc3b97b9039a6167f8bfe9f13d286e092119ce932ab2b05c27caa25bc83a4f0", func := "kiln/kilnlaw14.LinkMany", spec := "linkMany", unfollowed := true, recurses := true, named := ["kiln/op.shapes"], apart := false, laid := [("kiln/op.shapes", laid_kiln_op_shapes)] }
def LinkManySaid : Prop := linkManyRow.holds Tryd.pinned (OpenSpec.ofChange linkManySpec)

/-- ITS FALSE NEIGHBOUR: 'it returns false'. Refute it at one input. -/
def linkManyWrong : ChangeSpec := { name := "linkMany", fn := fun _ => fun
  | [d] => { results := [.lit (.bool false)], args := [d] }
  | _ => none }
def LinkManyWrongFalsely : Prop := linkManyRow.holds Tryd.pinned (OpenSpec.ofChange linkManyWrong)

/-- 'kilnlaw14.LinkErrors': WHATEVER THE INPUT: true; the input reads as it did. -/
def linkErrorsSpec : ChangeSpec := { name := "linkErrors", fn := fun _ => fun
  | [d] => { results := [.lit (.bool true)], args := [d] }
  | _ => none }
def linkErrorsRow : OpenClaim := { program := "ytibbhhkcjjeclaadoor", sum := "5cc3b97b9039a6167f8bfe9f13d286e092119ce932ab2b05c27caa25bc83a4f0", func := "kiln/kilnlaw14.LinkErrors", spec := "linkErrors", unfollowed := true, recurses := true, named := ["kiln/op.shapes"], apart := false, laid := [("kiln/op.shapes", laid_kiln_op_shapes)] }
def LinkErrorsSaid : Prop := linkErrorsRow.holds Tryd.pinned (OpenSpec.ofChange linkErrorsSpec)

/-- ITS FALSE NEIGHBOUR: 'it returns false'. Refute it at one input. -/
def linkErrorsWrong : ChangeSpec := { name := "linkErrors", fn := fun _ => fun
  | [d] => { results := [.lit (.bool false)], args := [d] }
  | _ => none }
def LinkErrorsWrongFalsely : Prop := linkErrorsRow.holds Tryd.pinned (OpenSpec.ofChange linkErrorsWrong)

/-- 'kilnlaw15.VerifyPage': WHATEVER THE INPUT: true; the input reads as it did. -/
def verifyPageSpec : ChangeSpec := { name := "verifyPage", fn := fun _ => fun
  | [d] => { results := [.lit (.bool true)], args := [d] }
  | _ => none }
def verifyPageRow : OpenClaim := { program := "ytibbhhkcjjeclaadoor", sum := "5cc3b97b9039a6167f8bfe9f13d286e092119ce932ab2b05c27caa25bc83a4f0", func := "kiln/kilnlaw15.VerifyPage", spec := "verifyPage", unfollowed := true, recurses := true, named := ["kiln/op.shapes"], apart := false, laid := [("kiln/op.shapes", laid_kiln_op_shapes)] }
def VerifyPageSaid : Prop := verifyPageRow.holds Tryd.pinned (OpenSpec.ofChange verifyPageSpec)

/-- ITS FALSE NEIGHBOUR: 'it returns false'. Refute it at one input. -/
def verifyPageWrong : ChangeSpec := { name := "verifyPage", fn := fun _ => fun
  | [d] => { results := [.lit (.bool false)], args := [d] }
  | _ => none }
def VerifyPageWrongFalsely : Prop := verifyPageRow.holds Tryd.pinned (OpenSpec.ofChange verifyPageWrong)

/-- 'kilnlaw15.VerifySound': WHATEVER THE INPUT: true; the input reads as it did. -/
def verifySoundSpec : ChangeSpec := { name := "verifySound", fn := fun _ => fun
  | [d1, d2, d3, d4, d5, d6] => { results := [.lit (.bool true)], args := [d1, d2, d3, d4, d5, d6] }
  | _ => none }
def verifySoundRow : OpenClaim := { program := "ytibbhhkcjjeclaadoor", sum := "5cc3b97b9039a6167f8bfe9f13d286e092119ce932ab2b05c27caa25bc83a4f0", func := "kiln/kilnlaw15.VerifySound", spec := "verifySound", unfollowed := true, recurses := true, named := ["kiln/op.shapes"], apart := false, laid := [("kiln/op.shapes", laid_kiln_op_shapes)] }
def VerifySoundSaid : Prop := verifySoundRow.holds Tryd.pinned (OpenSpec.ofChange verifySoundSpec)

/-- ITS FALSE NEIGHBOUR: 'it returns false'. Refute it at one input. -/
def verifySoundWrong : ChangeSpec := { name := "verifySound", fn := fun _ => fun
  | [d1, d2, d3, d4, d5, d6] => { results := [.lit (.bool false)], args := [d1, d2, d3, d4, d5, d6] }
  | _ => none }
def VerifySoundWrongFalsely : Prop := verifySoundRow.holds Tryd.pinned (OpenSpec.ofChange verifySoundWrong)

/-- 'kilnlaw15.VerifyFaults': WHATEVER THE INPUT: true; the input reads as it did. -/
def verifyFaultsSpec : ChangeSpec := { name := "verifyFaults", fn := fun _ => fun
  | [d1, d2] => { results := [.lit (.bool true)], args := [d1, d2] }
  | _ => none }
def verifyFaultsRow : OpenClaim := { program := "ytibbhhkcjjeclaadoor", sum := "5cc3b97b9039a6167f8bfe9f13d286e092119ce932ab2b05c27caa25bc83a4f0", func := "kiln/kilnlaw15.VerifyFaults", spec := "verifyFaults", unfollowed := true, recurses := true, named := ["kiln/op.shapes"], apart := false, laid := [("kiln/op.shapes", laid_kiln_op_shapes)] }
def VerifyFaultsSaid : Prop := verifyFaultsRow.holds Tryd.pinned (OpenSpec.ofChange verifyFaultsSpec)

/-- ITS FALSE NEIGHBOUR: 'it returns false'. Refute it at one input. -/
def verifyFaultsWrong : ChangeSpec := { name := "verifyFaults", fn := fun _ => fun
  | [d1, d2] => { results := [.lit (.bool false)], args := [d1, d2] }
  | _ => none }
def VerifyFaultsWrongFalsely : Prop := verifyFaultsRow.holds Tryd.pinned (OpenSpec.ofChange verifyFaultsWrong)

/-- 'kilnlaw15.VerifyRuns': WHATEVER THE INPUT: true; the input reads as it did. -/
def verifyRunsSpec : ChangeSpec := { name := "verifyRuns", fn := fun _ => fun
  | [d1, d2, d3, d4] => { results := [.lit (.bool true)], args := [d1, d2, d3, d4] }
  | _ => none }
def verifyRunsRow : OpenClaim := { program := "ytibbhhkcjjeclaadoor", sum := "5cc3b97b9039a6167f8bfe9f13d286e092119ce932ab2b05c27caa25bc83a4f0", func := "kiln/kilnlaw15.VerifyRuns", spec := "verifyRuns", unfollowed := true, recurses := true, named := ["kiln/op.shapes"], apart := false, laid := [("kiln/op.shapes", laid_kiln_op_shapes)] }
def VerifyRunsSaid : Prop := verifyRunsRow.holds Tryd.pinned (OpenSpec.ofChange verifyRunsSpec)

/-- ITS FALSE NEIGHBOUR: 'it returns false'. Refute it at one input. -/
def verifyRunsWrong : ChangeSpec := { name := "verifyRuns", fn := fun _ => fun
  | [d1, d2, d3, d4] => { results := [.lit (.bool false)], args := [d1, d2, d3, d4] }
  | _ => none }
def VerifyRunsWrongFalsely : Prop := verifyRunsRow.holds Tryd.pinned (OpenSpec.ofChange verifyRunsWrong)

/-- 'kilnlaw15.VerifyMore': WHATEVER THE INPUT: true; the input reads as it did. -/
def verifyMoreSpec : ChangeSpec := { name := "verifyMore", fn := fun _ => fun
  | [d1, d2, d3, d4, d5] => { results := [.lit (.bool true)], args := [d1, d2, d3, d4, d5] }
  | _ => none }
def verifyMoreRow : OpenClaim := { program := "ytibbhhkcjjeclaadoor", sum := "5cc3b97b9039a6167f8bfe9f13d286e092119ce932ab2b05c27caa25bc83a4f0", func := "kiln/kilnlaw15.VerifyMore", spec := "verifyMore", unfollowed := true, recurses := true, named := ["kiln/op.shapes"], apart := false, laid := [("kiln/op.shapes", laid_kiln_op_shapes)] }
def VerifyMoreSaid : Prop := verifyMoreRow.holds Tryd.pinned (OpenSpec.ofChange verifyMoreSpec)

/-- ITS FALSE NEIGHBOUR: 'it returns false'. Refute it at one input. -/
def verifyMoreWrong : ChangeSpec := { name := "verifyMore", fn := fun _ => fun
  | [d1, d2, d3, d4, d5] => { results := [.lit (.bool false)], args := [d1, d2, d3, d4, d5] }
  | _ => none }
def VerifyMoreWrongFalsely : Prop := verifyMoreRow.holds Tryd.pinned (OpenSpec.ofChange verifyMoreWrong)

/-- 'kilnlaw15.VerifyWays': WHATEVER THE INPUT: true; the input reads as it did. -/
def verifyWaysSpec : ChangeSpec := { name := "verifyWays", fn := fun _ => fun
  | [d1, d2] => { results := [.lit (.bool true)], args := [d1, d2] }
  | _ => none }
def verifyWaysRow : OpenClaim := { program := "ytibbhhkcjjeclaadoor", sum := "5cc3b97b9039a6167f8bfe9f13d286e092119ce932ab2b05c27caa25bc83a4f0", func := "kiln/kilnlaw15.VerifyWays", spec := "verifyWays", unfollowed := true, recurses := true, named := ["kiln/op.shapes"], apart := false, laid := [("kiln/op.shapes", laid_kiln_op_shapes)] }
def VerifyWaysSaid : Prop := verifyWaysRow.holds Tryd.pinned (OpenSpec.ofChange verifyWaysSpec)

/-- ITS FALSE NEIGHBOUR: 'it returns false'. Refute it at one input. -/
def verifyWaysWrong : ChangeSpec := { name := "verifyWays", fn := fun _ => fun
  | [d1, d2] => { results := [.lit (.bool false)], args := [d1, d2] }
  | _ => none }
def VerifyWaysWrongFalsely : Prop := verifyWaysRow.holds Tryd.pinned (OpenSpec.ofChange verifyWaysWrong)

/- THE SECOND FORM. 'bulk': how many values and letters a reading holds, each counted each time it is reached (what is shared counts as often as it is met; a slice's spare places count too). A statement '..UptoSaid' is the law's where the arguments, and the package variables that the reading takes, are together of bulk at most 1048576: NARROWER than '..Said'. Prove '..Said' where nothing that the law and all that it calls make is longer than what came in: it says more and counts as full. Else prove '..UptoSaid'. A law counts once. -/
mutual
def uptoBulk {H : Type} : DataW H → Nat
  | .lit (.string bytes) => bytes.length + 1
  | .lit _ => 1
  | .nil => 1
  | .ptr d => uptoBulk d + 1
  | .slice elems spare => uptoBulkAll elems + uptoBulkAll spare + 1
  | .agg parts => uptoBulkAll parts + 1
  | .iface _ d => uptoBulk d + 1
  | .map entries => uptoBulkEntries entries + 1
  | .held _ => 1
def uptoBulkAll {H : Type} : List (DataW H) → Nat
  | [] => 0
  | d :: r => uptoBulk d + uptoBulkAll r
def uptoBulkEntries {H : Type} : List (Lit × DataW H) → Nat
  | [] => 0
  | x :: r => uptoBulkEntry x + uptoBulkEntries r
def uptoBulkEntry {H : Type} : Lit × DataW H → Nat
  | (.string bytes, d) => bytes.length + uptoBulk d + 1
  | (_, d) => uptoBulk d + 1
 end
def uptoSmall : (H : Type) → List (DataW H) → Bool := fun _ ds => decide (uptoBulkAll ds ≤ 1048576)
def OpenSpec.upto (s : _root_.Go.ChangeSpec) : _root_.Go.OpenSpec := { _root_.Go.OpenSpec.ofChange s with cond := some uptoSmall }

/-- 'kilnlaw14.LinkTurns', WHERE WHAT IT READS IS OF BULK AT MOST 1048576: true; the input reads as it did. -/
def linkTurnsUptoRow : OpenClaim := { program := "ytibbhhkcjjeclaadoor", sum := "5cc3b97b9039a6167f8bfe9f13d286e092119ce932ab2b05c27caa25bc83a4f0", func := "kiln/kilnlaw14.LinkTurns", spec := "linkTurns", unfollowed := true, recurses := true, named := ["kiln/op.shapes"], apart := false, laid := [("kiln/op.shapes", laid_kiln_op_shapes)], narrowed := true }
def LinkTurnsUptoSaid : Prop := linkTurnsUptoRow.holds Tryd.pinned (OpenSpec.upto linkTurnsSpec)

/-- 'kilnlaw14.LinkMany', WHERE WHAT IT READS IS OF BULK AT MOST 1048576: true; the input reads as it did. -/
def linkManyUptoRow : OpenClaim := { program := "ytibbhhkcjjeclaadoor", sum := "5cc3b97b9039a6167f8bfe9f13d286e092119ce932ab2b05c27caa25bc83a4f0", func := "kiln/kilnlaw14.LinkMany", spec := "linkMany", unfollowed := true, recurses := true, named := ["kiln/op.shapes"], apart := false, laid := [("kiln/op.shapes", laid_kiln_op_shapes)], narrowed := true }
def LinkManyUptoSaid : Prop := linkManyUptoRow.holds Tryd.pinned (OpenSpec.upto linkManySpec)

/-- 'kilnlaw14.LinkErrors', WHERE WHAT IT READS IS OF BULK AT MOST 1048576: true; the input reads as it did. -/
def linkErrorsUptoRow : OpenClaim := { program := "ytibbhhkcjjeclaadoor", sum := "5cc3b97b9039a6167f8bfe9f13d286e092119ce932ab2b05c27caa25bc83a4f0", func := "kiln/kilnlaw14.LinkErrors", spec := "linkErrors", unfollowed := true, recurses := true, named := ["kiln/op.shapes"], apart := false, laid := [("kiln/op.shapes", laid_kiln_op_shapes)], narrowed := true }
def LinkErrorsUptoSaid : Prop := linkErrorsUptoRow.holds Tryd.pinned (OpenSpec.upto linkErrorsSpec)

/-- 'kilnlaw15.VerifyPage', WHERE WHAT IT READS IS OF BULK AT MOST 1048576: true; the input reads as it did. -/
def verifyPageUptoRow : OpenClaim := { program := "ytibbhhkcjjeclaadoor", sum := "5cc3b97b9039a6167f8bfe9f13d286e092119ce932ab2b05c27caa25bc83a4f0", func := "kiln/kilnlaw15.VerifyPage", spec := "verifyPage", unfollowed := true, recurses := true, named := ["kiln/op.shapes"], apart := false, laid := [("kiln/op.shapes", laid_kiln_op_shapes)], narrowed := true }
def VerifyPageUptoSaid : Prop := verifyPageUptoRow.holds Tryd.pinned (OpenSpec.upto verifyPageSpec)

/-- 'kilnlaw15.VerifySound', WHERE WHAT IT READS IS OF BULK AT MOST 1048576: true; the input reads as it did. -/
def verifySoundUptoRow : OpenClaim := { program := "ytibbhhkcjjeclaadoor", sum := "5cc3b97b9039a6167f8bfe9f13d286e092119ce932ab2b05c27caa25bc83a4f0", func := "kiln/kilnlaw15.VerifySound", spec := "verifySound", unfollowed := true, recurses := true, named := ["kiln/op.shapes"], apart := false, laid := [("kiln/op.shapes", laid_kiln_op_shapes)], narrowed := true }
def VerifySoundUptoSaid : Prop := verifySoundUptoRow.holds Tryd.pinned (OpenSpec.upto verifySoundSpec)

/-- 'kilnlaw15.VerifyFaults', WHERE WHAT IT READS IS OF BULK AT MOST 1048576: true; the input reads as it did. -/
def verifyFaultsUptoRow : OpenClaim := { program := "ytibbhhkcjjeclaadoor", sum := "5cc3b97b9039a6167f8bfe9f13d286e092119ce932ab2b05c27caa25bc83a4f0", func := "kiln/kilnlaw15.VerifyFaults", spec := "verifyFaults", unfollowed := true, recurses := true, named := ["kiln/op.shapes"], apart := false, laid := [("kiln/op.shapes", laid_kiln_op_shapes)], narrowed := true }
def VerifyFaultsUptoSaid : Prop := verifyFaultsUptoRow.holds Tryd.pinned (OpenSpec.upto verifyFaultsSpec)

/-- 'kilnlaw15.VerifyRuns', WHERE WHAT IT READS IS OF BULK AT MOST 1048576: true; the input reads as it did. -/
def verifyRunsUptoRow : OpenClaim := { program := "ytibbhhkcjjeclaadoor", sum := "5cc3b97b9039a6167f8bfe9f13d286e092119ce932ab2b05c27caa25bc83a4f0", func := "kiln/kilnlaw15.VerifyRuns", spec := "verifyRuns", unfollowed := true, recurses := true, named := ["kiln/op.shapes"], apart := false, laid := [("kiln/op.shapes", laid_kiln_op_shapes)], narrowed := true }
def VerifyRunsUptoSaid : Prop := verifyRunsUptoRow.holds Tryd.pinned (OpenSpec.upto verifyRunsSpec)

/-- 'kilnlaw15.VerifyMore', WHERE WHAT IT READS IS OF BULK AT MOST 1048576: true; the input reads as it did. -/
def verifyMoreUptoRow : OpenClaim := { program := "ytibbhhkcjjeclaadoor", sum := "5cc3b97b9039a6167f8bfe9f13d286e092119ce932ab2b05c27caa25bc83a4f0", func := "kiln/kilnlaw15.VerifyMore", spec := "verifyMore", unfollowed := true, recurses := true, named := ["kiln/op.shapes"], apart := false, laid := [("kiln/op.shapes", laid_kiln_op_shapes)], narrowed := true }
def VerifyMoreUptoSaid : Prop := verifyMoreUptoRow.holds Tryd.pinned (OpenSpec.upto verifyMoreSpec)

/-- 'kilnlaw15.VerifyWays', WHERE WHAT IT READS IS OF BULK AT MOST 1048576: true; the input reads as it did. -/
def verifyWaysUptoRow : OpenClaim := { program := "ytibbhhkcjjeclaadoor", sum := "5cc3b97b9039a6167f8bfe9f13d286e092119ce932ab2b05c27caa25bc83a4f0", func := "kiln/kilnlaw15.VerifyWays", spec := "verifyWays", unfollowed := true, recurses := true, named := ["kiln/op.shapes"], apart := false, laid := [("kiln/op.shapes", laid_kiln_op_shapes)], narrowed := true }
def VerifyWaysUptoSaid : Prop := verifyWaysUptoRow.holds Tryd.pinned (OpenSpec.upto verifyWaysSpec)

end Rows
end Go.Proofs.YtibbhhkcjjeclaaDoor
