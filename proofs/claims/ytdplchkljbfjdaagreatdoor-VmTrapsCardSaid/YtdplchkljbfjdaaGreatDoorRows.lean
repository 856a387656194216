/-
  NARROWER THAN 'FOR EVERY INPUT', by the rows' own cells (each row's printed sentence says how): GenEnds: laid · GenSums: laid · VmOwn: laid · VmArrays: laid · VmAsks: laid · VmTraps: laid.
  DERIVED. THE GIVEN ROWS OF THIS SEAT. 6 by the template 'for every input the law returns true; each argument reads behind the call as it read before'; 0 by the template 'total and deterministic' (their statements: YtdplchkljbfjdaaGreatDoorTotals.lean).
  GIVEN WITH THE SEED: the statements are not yours to turn. If you find one false, say at which input.
  Laid BY PROGRAM, IN A SANDBOX (cutbox-rows.mjs): the forced cells as the released guide's own fill.sh prints them over the translation b18938a69c809a25… (all of the seat's roots in one cut). By AI agents, Wed Nov 11 2026. No macro, syntax, notation, axiom, sorry.
-/
import Derived.Test.YtdplchkljbfjdaaGreatDoorChecked
import GoSem.Claim
import GoSem.ClaimJoined
import GoSem.ClaimMapViews
import Derived.JoinedTies
import Derived.KernelRfl
namespace Go.Proofs.YtdplchkljbfjdaaGreatDoor
/- THE CELL 'sum', in the pinned program and in every row, IS THE sha256 OF THE DUMP (.gsa) THAT YtdplchkljbfjdaaGreatDoorProg.lean LOADS. Nothing in Lean hashes anything: it is a label: what it is worth is what the hold of that sum in a sandbox is worth. -/
noncomputable def Tryz.pinned : Pinned := { name := "ytdplchkljbfjdaagreatdoor", sum := "b18938a69c809a251c0179229d15aeab7756a8978c4ac9d1fecb3dbe2b67b11d", checked := Tryz.checked }
namespace Rows
def none {H : Type} : Left H := { results := [], args := [] }

/- WHAT THE LISTED PACKAGE-LEVEL VARIABLES READ AS WHEN THE CALL BEGINS. Each datum BY PROGRAM (the guide's laid-datum.mjs) off the statement by which the dump's own 'gosem.cut.vars' lays the variable. In a bare row this is a premise. The card (YtdplchkljbfjdaaGreatDoorCards.lean) ties it to the program's text. -/
def laid_math_bits_deBruijn32tab {H : Type} : DataW H := .agg [.lit (.int .u8 0), .lit (.int .u8 1), .lit (.int .u8 28), .lit (.int .u8 2), .lit (.int .u8 29), .lit (.int .u8 14), .lit (.int .u8 24), .lit (.int .u8 3), .lit (.int .u8 30), .lit (.int .u8 22), .lit (.int .u8 20), .lit (.int .u8 15), .lit (.int .u8 25), .lit (.int .u8 17), .lit (.int .u8 4), .lit (.int .u8 8), .lit (.int .u8 31), .lit (.int .u8 27), .lit (.int .u8 13), .lit (.int .u8 23), .lit (.int .u8 21), .lit (.int .u8 19), .lit (.int .u8 16), .lit (.int .u8 7), .lit (.int .u8 26), .lit (.int .u8 12), .lit (.int .u8 18), .lit (.int .u8 6), .lit (.int .u8 11), .lit (.int .u8 5), .lit (.int .u8 10), .lit (.int .u8 9)]
def laid_math_bits_deBruijn64tab {H : Type} : DataW H := .agg [.lit (.int .u8 0), .lit (.int .u8 1), .lit (.int .u8 56), .lit (.int .u8 2), .lit (.int .u8 57), .lit (.int .u8 49), .lit (.int .u8 28), .lit (.int .u8 3), .lit (.int .u8 61), .lit (.int .u8 58), .lit (.int .u8 42), .lit (.int .u8 50), .lit (.int .u8 38), .lit (.int .u8 29), .lit (.int .u8 17), .lit (.int .u8 4), .lit (.int .u8 62), .lit (.int .u8 47), .lit (.int .u8 59), .lit (.int .u8 36), .lit (.int .u8 45), .lit (.int .u8 43), .lit (.int .u8 51), .lit (.int .u8 22), .lit (.int .u8 53), .lit (.int .u8 39), .lit (.int .u8 33), .lit (.int .u8 30), .lit (.int .u8 24), .lit (.int .u8 18), .lit (.int .u8 12), .lit (.int .u8 5), .lit (.int .u8 63), .lit (.int .u8 55), .lit (.int .u8 48), .lit (.int .u8 27), .lit (.int .u8 60), .lit (.int .u8 41), .lit (.int .u8 37), .lit (.int .u8 16), .lit (.int .u8 46), .lit (.int .u8 35), .lit (.int .u8 44), .lit (.int .u8 21), .lit (.int .u8 52), .lit (.int .u8 32), .lit (.int .u8 23), .lit (.int .u8 11), .lit (.int .u8 54), .lit (.int .u8 26), .lit (.int .u8 40), .lit (.int .u8 15), .lit (.int .u8 34), .lit (.int .u8 20), .lit (.int .u8 31), .lit (.int .u8 10), .lit (.int .u8 25), .lit (.int .u8 14), .lit (.int .u8 19), .lit (.int .u8 9), .lit (.int .u8 13), .lit (.int .u8 8), .lit (.int .u8 7), .lit (.int .u8 6)]
def laid_internal_strconv_uint64pow10 {H : Type} : DataW H := .agg [.lit (.int .u64 1), .lit (.int .u64 10), .lit (.int .u64 100), .lit (.int .u64 1000), .lit (.int .u64 10000), .lit (.int .u64 100000), .lit (.int .u64 1000000), .lit (.int .u64 10000000), .lit (.int .u64 100000000), .lit (.int .u64 1000000000), .lit (.int .u64 10000000000), .lit (.int .u64 100000000000), .lit (.int .u64 1000000000000), .lit (.int .u64 10000000000000), .lit (.int .u64 100000000000000), .lit (.int .u64 1000000000000000), .lit (.int .u64 10000000000000000), .lit (.int .u64 100000000000000000), .lit (.int .u64 1000000000000000000), .lit (.int .u64 10000000000000000000)]
def laid_kiln_op_shapes {H : Type} : DataW H := .agg [.agg [.lit (.string []), .lit (.int .i32 0)], .agg [.lit (.string [105, 110, 116]), .lit (.int .i32 110)], .agg [.lit (.string [110, 117, 108, 108]), .lit (.int .i32 0)], .agg [.lit (.string [108, 111, 99, 97, 108]), .lit (.int .i32 108)], .agg [.lit (.string [115, 116, 111, 114, 101]), .lit (.int .i32 108)], .agg [.lit (.string [97, 100, 100]), .lit (.int .i32 0)], .agg [.lit (.string [115, 117, 98]), .lit (.int .i32 0)], .agg [.lit (.string [109, 117, 108]), .lit (.int .i32 0)], .agg [.lit (.string [100, 105, 118]), .lit (.int .i32 0)], .agg [.lit (.string [109, 111, 100]), .lit (.int .i32 0)], .agg [.lit (.string [108, 101, 115, 115]), .lit (.int .i32 0)], .agg [.lit (.string [109, 111, 115, 116]), .lit (.int .i32 0)], .agg [.lit (.string [115, 97, 109, 101]), .lit (.int .i32 0)], .agg [.lit (.string [111, 116, 104, 101, 114]), .lit (.int .i32 0)], .agg [.lit (.string [110, 101, 103]), .lit (.int .i32 0)], .agg [.lit (.string [110, 111, 116]), .lit (.int .i32 0)], .agg [.lit (.string [103, 101, 116]), .lit (.int .i32 102)], .agg [.lit (.string [112, 117, 116]), .lit (.int .i32 102)], .agg [.lit (.string [110, 101, 119]), .lit (.int .i32 99)], .agg [.lit (.string [97, 114, 114, 97, 121]), .lit (.int .i32 116)], .agg [.lit (.string [108, 111, 97, 100]), .lit (.int .i32 116)], .agg [.lit (.string [115, 97, 118, 101]), .lit (.int .i32 116)], .agg [.lit (.string [108, 101, 110, 103, 116, 104]), .lit (.int .i32 0)], .agg [.lit (.string [99, 97, 115, 116]), .lit (.int .i32 99)], .agg [.lit (.string [105, 115]), .lit (.int .i32 99)], .agg [.lit (.string [99, 97, 108, 108]), .lit (.int .i32 109)], .agg [.lit (.string [115, 116, 97, 116, 105, 99]), .lit (.int .i32 109)], .agg [.lit (.string [106, 117, 109, 112]), .lit (.int .i32 106)], .agg [.lit (.string [117, 110, 108, 101, 115, 115]), .lit (.int .i32 106)], .agg [.lit (.string [114, 101, 116, 117, 114, 110]), .lit (.int .i32 0)], .agg [.lit (.string [112, 114, 105, 110, 116]), .lit (.int .i32 0)], .agg [.lit (.string [112, 111, 112]), .lit (.int .i32 0)], .agg [.lit (.string [98, 111, 111, 108]), .lit (.int .i32 98)]]
def laid_kiln_lex_marks {H : Type} : DataW H := .agg [.lit (.string [61, 61]), .lit (.string [33, 61]), .lit (.string [60, 61]), .lit (.string [38, 38]), .lit (.string [124, 124]), .lit (.string [43]), .lit (.string [45]), .lit (.string [42]), .lit (.string [47]), .lit (.string [37]), .lit (.string [60]), .lit (.string [61]), .lit (.string [33]), .lit (.string [40]), .lit (.string [41]), .lit (.string [91]), .lit (.string [93]), .lit (.string [123]), .lit (.string [125]), .lit (.string [59]), .lit (.string [44]), .lit (.string [46])]

/-- 'kilnlaw13.GenEnds': WHATEVER THE INPUT: true; the input reads as it did. -/
def genEndsSpec : ChangeSpec := { name := "genEnds", fn := fun _ => fun
  | [d1, d2] => { results := [.lit (.bool true)], args := [d1, d2] }
  | _ => none }
def genEndsRow : OpenClaim := { program := "ytdplchkljbfjdaagreatdoor", sum := "b18938a69c809a251c0179229d15aeab7756a8978c4ac9d1fecb3dbe2b67b11d", func := "kiln/kilnlaw13.GenEnds", spec := "genEnds", inPlace := ["internal/bytealg.IndexByteString", "internal/bytealg.abigen_runtime_cmpstring"], unfollowed := true, recurses := true, named := ["kiln/lex.marks", "kiln/op.shapes", "internal/strconv.uint64pow10", "math/bits.deBruijn32tab", "math/bits.deBruijn64tab"], apart := false, laid := [("math/bits.deBruijn32tab", laid_math_bits_deBruijn32tab), ("math/bits.deBruijn64tab", laid_math_bits_deBruijn64tab), ("internal/strconv.uint64pow10", laid_internal_strconv_uint64pow10), ("kiln/op.shapes", laid_kiln_op_shapes), ("kiln/lex.marks", laid_kiln_lex_marks)] }
def GenEndsSaid : Prop := genEndsRow.holds Tryz.pinned (OpenSpec.ofChange genEndsSpec)

/-- ITS FALSE NEIGHBOUR: 'it returns false'. Refute it at one input. -/
def genEndsWrong : ChangeSpec := { name := "genEnds", fn := fun _ => fun
  | [d1, d2] => { results := [.lit (.bool false)], args := [d1, d2] }
  | _ => none }
def GenEndsWrongFalsely : Prop := genEndsRow.holds Tryz.pinned (OpenSpec.ofChange genEndsWrong)

/-- 'kilnlaw13.GenSums': WHATEVER THE INPUT: true; the input reads as it did. -/
def genSumsSpec : ChangeSpec := { name := "genSums", fn := fun _ => fun
  | [d1, d2] => { results := [.lit (.bool true)], args := [d1, d2] }
  | _ => none }
def genSumsRow : OpenClaim := { program := "ytdplchkljbfjdaagreatdoor", sum := "b18938a69c809a251c0179229d15aeab7756a8978c4ac9d1fecb3dbe2b67b11d", func := "kiln/kilnlaw13.GenSums", spec := "genSums", inPlace := ["internal/bytealg.IndexByteString", "internal/bytealg.abigen_runtime_cmpstring"], unfollowed := true, recurses := true, named := ["kiln/lex.marks", "kiln/op.shapes", "internal/strconv.uint64pow10", "math/bits.deBruijn32tab", "math/bits.deBruijn64tab"], apart := false, laid := [("math/bits.deBruijn32tab", laid_math_bits_deBruijn32tab), ("math/bits.deBruijn64tab", laid_math_bits_deBruijn64tab), ("internal/strconv.uint64pow10", laid_internal_strconv_uint64pow10), ("kiln/op.shapes", laid_kiln_op_shapes), ("kiln/lex.marks", laid_kiln_lex_marks)] }
def GenSumsSaid : Prop := genSumsRow.holds Tryz.pinned (OpenSpec.ofChange genSumsSpec)

/-- ITS FALSE NEIGHBOUR: 'it returns false'. Refute it at one input. -/
def genSumsWrong : ChangeSpec := { name := "genSums", fn := fun _ => fun
  | [d1, d2] => { results := [.lit (.bool false)], args := [d1, d2] }
  | _ => none }
def GenSumsWrongFalsely : Prop := genSumsRow.holds Tryz.pinned (OpenSpec.ofChange genSumsWrong)

/-- 'kilnlaw16.VmOwn': WHATEVER THE INPUT: true; the input reads as it did. -/
def vmOwnSpec : ChangeSpec := { name := "vmOwn", fn := fun _ => fun
  | [d1, d2] => { results := [.lit (.bool true)], args := [d1, d2] }
  | _ => none }
def vmOwnRow : OpenClaim := { program := "ytdplchkljbfjdaagreatdoor", sum := "b18938a69c809a251c0179229d15aeab7756a8978c4ac9d1fecb3dbe2b67b11d", func := "kiln/kilnlaw16.VmOwn", spec := "vmOwn", inPlace := ["internal/bytealg.IndexByteString", "internal/bytealg.abigen_runtime_cmpstring"], unfollowed := true, recurses := true, named := ["kiln/lex.marks", "kiln/op.shapes"], apart := false, laid := [("kiln/op.shapes", laid_kiln_op_shapes), ("kiln/lex.marks", laid_kiln_lex_marks)] }
def VmOwnSaid : Prop := vmOwnRow.holds Tryz.pinned (OpenSpec.ofChange vmOwnSpec)

/-- ITS FALSE NEIGHBOUR: 'it returns false'. Refute it at one input. -/
def vmOwnWrong : ChangeSpec := { name := "vmOwn", fn := fun _ => fun
  | [d1, d2] => { results := [.lit (.bool false)], args := [d1, d2] }
  | _ => none }
def VmOwnWrongFalsely : Prop := vmOwnRow.holds Tryz.pinned (OpenSpec.ofChange vmOwnWrong)

/-- 'kilnlaw16.VmArrays': WHATEVER THE INPUT: true; the input reads as it did. -/
def vmArraysSpec : ChangeSpec := { name := "vmArrays", fn := fun _ => fun
  | [d1, d2, d3] => { results := [.lit (.bool true)], args := [d1, d2, d3] }
  | _ => none }
def vmArraysRow : OpenClaim := { program := "ytdplchkljbfjdaagreatdoor", sum := "b18938a69c809a251c0179229d15aeab7756a8978c4ac9d1fecb3dbe2b67b11d", func := "kiln/kilnlaw16.VmArrays", spec := "vmArrays", inPlace := ["internal/bytealg.IndexByteString", "internal/bytealg.abigen_runtime_cmpstring"], unfollowed := true, recurses := true, named := ["kiln/lex.marks", "kiln/op.shapes"], apart := false, laid := [("kiln/op.shapes", laid_kiln_op_shapes), ("kiln/lex.marks", laid_kiln_lex_marks)] }
def VmArraysSaid : Prop := vmArraysRow.holds Tryz.pinned (OpenSpec.ofChange vmArraysSpec)

/-- ITS FALSE NEIGHBOUR: 'it returns false'. Refute it at one input. -/
def vmArraysWrong : ChangeSpec := { name := "vmArrays", fn := fun _ => fun
  | [d1, d2, d3] => { results := [.lit (.bool false)], args := [d1, d2, d3] }
  | _ => none }
def VmArraysWrongFalsely : Prop := vmArraysRow.holds Tryz.pinned (OpenSpec.ofChange vmArraysWrong)

/-- 'kilnlaw16.VmAsks': WHATEVER THE INPUT: true; the input reads as it did. -/
def vmAsksSpec : ChangeSpec := { name := "vmAsks", fn := fun _ => fun
  | [d1, d2] => { results := [.lit (.bool true)], args := [d1, d2] }
  | _ => none }
def vmAsksRow : OpenClaim := { program := "ytdplchkljbfjdaagreatdoor", sum := "b18938a69c809a251c0179229d15aeab7756a8978c4ac9d1fecb3dbe2b67b11d", func := "kiln/kilnlaw16.VmAsks", spec := "vmAsks", inPlace := ["internal/bytealg.IndexByteString", "internal/bytealg.abigen_runtime_cmpstring"], unfollowed := true, recurses := true, named := ["kiln/lex.marks", "kiln/op.shapes"], apart := false, laid := [("kiln/op.shapes", laid_kiln_op_shapes), ("kiln/lex.marks", laid_kiln_lex_marks)] }
def VmAsksSaid : Prop := vmAsksRow.holds Tryz.pinned (OpenSpec.ofChange vmAsksSpec)

/-- ITS FALSE NEIGHBOUR: 'it returns false'. Refute it at one input. -/
def vmAsksWrong : ChangeSpec := { name := "vmAsks", fn := fun _ => fun
  | [d1, d2] => { results := [.lit (.bool false)], args := [d1, d2] }
  | _ => none }
def VmAsksWrongFalsely : Prop := vmAsksRow.holds Tryz.pinned (OpenSpec.ofChange vmAsksWrong)

/-- 'kilnlaw16.VmTraps': WHATEVER THE INPUT: true; the input reads as it did. -/
def vmTrapsSpec : ChangeSpec := { name := "vmTraps", fn := fun _ => fun
  | [d1, d2] => { results := [.lit (.bool true)], args := [d1, d2] }
  | _ => none }
def vmTrapsRow : OpenClaim := { program := "ytdplchkljbfjdaagreatdoor", sum := "b18938a69c809a251c0179229d15aeab7756a8978c4ac9d1fecb3dbe2b67b11d", func := "kiln/kilnlaw16.VmTraps", spec := "vmTraps", inPlace := ["internal/bytealg.IndexByteString", "internal/bytealg.abigen_runtime_cmpstring"], unfollowed := true, recurses := true, named := ["kiln/lex.marks", "kiln/op.shapes"], apart := false, laid := [("kiln/op.shapes", laid_kiln_op_shapes), ("kiln/lex.marks", laid_kiln_lex_marks)] }
def VmTrapsSaid : Prop := vmTrapsRow.holds Tryz.pinned (OpenSpec.ofChange vmTrapsSpec)

/-- ITS FALSE NEIGHBOUR: 'it returns false'. Refute it at one input. -/
def vmTrapsWrong : ChangeSpec := { name := "vmTraps", fn := fun _ => fun
  | [d1, d2] => { results := [.lit (.bool false)], args := [d1, d2] }
  | _ => none }
def VmTrapsWrongFalsely : Prop := vmTrapsRow.holds Tryz.pinned (OpenSpec.ofChange vmTrapsWrong)

/- THE SECOND FORM. 'bulk': how many values and letters a reading holds, each counted each time it is reached (what is shared counts as often as it is met; a slice's spare places count too). A statement '..UptoSaid' is the law's where the arguments, and the package variables that the reading takes, are together of bulk at most 1048576: NARROWER than '..Said'. Prove '..Said' where nothing that the law and all that it calls make is longer than what came in: it says more and counts as full. Else prove '..UptoSaid'. A law counts once. -/
mutual
def uptoBulk {H : Type} : DataW H → Nat
  | .lit (.string bytes) => bytes.length + 1
  | .lit _ => 1
  | .nil => 1
  | .ptr d => uptoBulk d + 1
  | .slice elems spare => uptoBulkAll elems + uptoBulkAll spare + 1
  | .agg parts => uptoBulkAll parts + 1
  | .iface _ d => uptoBulk d + 1
  | .map entries => uptoBulkEntries entries + 1
  | .held _ => 1
def uptoBulkAll {H : Type} : List (DataW H) → Nat
  | [] => 0
  | d :: r => uptoBulk d + uptoBulkAll r
def uptoBulkEntries {H : Type} : List (Lit × DataW H) → Nat
  | [] => 0
  | x :: r => uptoBulkEntry x + uptoBulkEntries r
def uptoBulkEntry {H : Type} : Lit × DataW H → Nat
  | (.string bytes, d) => bytes.length + uptoBulk d + 1
  | (_, d) => uptoBulk d + 1
 end
def uptoSmall : (H : Type) → List (DataW H) → Bool := fun _ ds => decide (uptoBulkAll ds ≤ 1048576)
def OpenSpec.upto (s : _root_.Go.ChangeSpec) : _root_.Go.OpenSpec := { _root_.Go.OpenSpec.ofChange s with cond := some uptoSmall }

/-- 'kilnlaw13.GenEnds', WHERE WHAT IT READS IS OF BULK AT MOST 1048576: true; the input reads as it did. -/
def genEndsUptoRow : OpenClaim := { program := "ytdplchkljbfjdaagreatdoor", sum := "b18938a69c809a251c0179229d15aeab7756a8978c4ac9d1fecb3dbe2b67b11d", func := "kiln/kilnlaw13.GenEnds", spec := "genEnds", inPlace := ["internal/bytealg.IndexByteString", "internal/bytealg.abigen_runtime_cmpstring"], unfollowed := true, recurses := true, named := ["kiln/lex.marks", "kiln/op.shapes", "internal/strconv.uint64pow10", "math/bits.deBruijn32tab", "math/bits.deBruijn64tab"], apart := false, laid := [("math/bits.deBruijn32tab", laid_math_bits_deBruijn32tab), ("math/bits.deBruijn64tab", laid_math_bits_deBruijn64tab), ("internal/strconv.uint64pow10", laid_internal_strconv_uint64pow10), ("kiln/op.shapes", laid_kiln_op_shapes), ("kiln/lex.marks", laid_kiln_lex_marks)], narrowed := true }
def GenEndsUptoSaid : Prop := genEndsUptoRow.holds Tryz.pinned (OpenSpec.upto genEndsSpec)

/-- 'kilnlaw13.GenSums', WHERE WHAT IT READS IS OF BULK AT MOST 1048576: true; the input reads as it did. -/
def genSumsUptoRow : OpenClaim := { program := "ytdplchkljbfjdaagreatdoor", sum := "b18938a69c809a251c0179229d15aeab7756a8978c4ac9d1fecb3dbe2b67b11d", func := "kiln/kilnlaw13.GenSums", spec := "genSums", inPlace := ["internal/bytealg.IndexByteString", "internal/bytealg.abigen_runtime_cmpstring"], unfollowed := true, recurses := true, named := ["kiln/lex.marks", "kiln/op.shapes", "internal/strconv.uint64pow10", "math/bits.deBruijn32tab", "math/bits.deBruijn64tab"], apart := false, laid := [("math/bits.deBruijn32tab", laid_math_bits_deBruijn32tab), ("math/bits.deBruijn64tab", laid_math_bits_deBruijn64tab), ("internal/strconv.uint64pow10", laid_internal_strconv_uint64pow10), ("kiln/op.shapes", laid_kiln_op_shapes), ("kiln/lex.marks", laid_kiln_lex_marks)], narrowed := true }
def GenSumsUptoSaid : Prop := genSumsUptoRow.holds Tryz.pinned (OpenSpec.upto genSumsSpec)

/-- 'kilnlaw16.VmOwn', WHERE WHAT IT READS IS OF BULK AT MOST 1048576: true; the input reads as it did. -/
def vmOwnUptoRow : OpenClaim := { program := "ytdplchkljbfjdaagreatdoor", sum := "b18938a69c809a251c0179229d15aeab7756a8978c4ac9d1fecb3dbe2b67b11d", func := "kiln/kilnlaw16.VmOwn", spec := "vmOwn", inPlace := ["internal/bytealg.IndexByteString", "internal/bytealg.abigen_runtime_cmpstring"], unfollowed := true, recurses := true, named := ["kiln/lex.marks", "kiln/op.shapes"], apart := false, laid := [("kiln/op.shapes", laid_kiln_op_shapes), ("kiln/lex.marks", laid_kiln_lex_marks)], narrowed := true }
def VmOwnUptoSaid : Prop := vmOwnUptoRow.holds Tryz.pinned (OpenSpec.upto vmOwnSpec)

/-- 'kilnlaw16.VmArrays', WHERE WHAT IT READS IS OF BULK AT MOST 1048576: true; the input reads as it did. -/
def vmArraysUptoRow : OpenClaim := { program := "ytdplchkljbfjdaagreatdoor", sum := "b18938a69c809a251c0179229d15aeab7756a8978c4ac9d1fecb3dbe2b67b11d", func := "kiln/kilnlaw16.VmArrays", spec := "vmArrays", inPlace := ["internal/bytealg.IndexByteString", "internal/bytealg.abigen_runtime_cmpstring"], unfollowed := true, recurses := true, named := ["kiln/lex.marks", "kiln/op.shapes"], apart := false, laid := [("kiln/op.shapes", laid_kiln_op_shapes), ("kiln/lex.marks", laid_kiln_lex_marks)], narrowed := true }
def VmArraysUptoSaid : Prop := vmArraysUptoRow.holds Tryz.pinned (OpenSpec.upto vmArraysSpec)

/-- 'kilnlaw16.VmAsks', WHERE WHAT IT READS IS OF BULK AT MOST 1048576: true; the input reads as it did. -/
def vmAsksUptoRow : OpenClaim := { program := "ytdplchkljbfjdaagreatdoor", sum := "b18938a69c809a251c0179229d15aeab7756a8978c4ac9d1fecb3dbe2b67b11d", func := "kiln/kilnlaw16.VmAsks", spec := "vmAsks", inPlace := ["internal/bytealg.IndexByteString", "internal/bytealg.abigen_runtime_cmpstring"], unfollowed := true, recurses := true, named := ["kiln/lex.marks", "kiln/op.shapes"], apart := false, laid := [("kiln/op.shapes", laid_kiln_op_shapes), ("kiln/lex.marks", laid_kiln_lex_marks)], narrowed := true }
def VmAsksUptoSaid : Prop := vmAsksUptoRow.holds Tryz.pinned (OpenSpec.upto vmAsksSpec)

/-- 'kilnlaw16.VmTraps', WHERE WHAT IT READS IS OF BULK AT MOST 1048576: true; the input reads as it did. -/
def vmTrapsUptoRow : OpenClaim := { program := "ytdplchkljbfjdaagreatdoor", sum := "b18938a69c809a251c0179229d15aeab7756a8978c4ac9d1fecb3dbe2b67b11d", func := "kiln/kilnlaw16.VmTraps", spec := "vmTraps", inPlace := ["internal/bytealg.IndexByteString", "internal/bytealg.abigen_runtime_cmpstring"], unfollowed := true, recurses := true, named := ["kiln/lex.marks", "kiln/op.shapes"], apart := false, laid := [("kiln/op.shapes", laid_kiln_op_shapes), ("kiln/lex.marks", laid_kiln_lex_marks)], narrowed := true }
def VmTrapsUptoSaid : Prop := vmTrapsUptoRow.holds Tryz.pinned (OpenSpec.upto vmTrapsSpec)

end Rows
end Go.Proofs.YtdplchkljbfjdaaGreatDoor
