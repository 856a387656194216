/-
  NARROWER THAN 'FOR EVERY INPUT', by the rows' own cells (each row's printed sentence says how): LinkMade: laid · GenHeights: laid · GenAlone: laid · GenTwice: laid.
  DERIVED. THE GIVEN ROWS OF THIS SEAT. 4 by the template 'for every input the law returns true; each argument reads behind the call as it read before'; 0 by the template 'total and deterministic' (their statements: YtlhlldpfafhpbaaGreatDoorTotals.lean).
  GIVEN WITH THE SEED: the statements are not yours to turn. If you find one false, say at which input.
  Laid BY PROGRAM, IN A SANDBOX (cutbox-rows.mjs): the forced cells as the released guide's own fill.sh prints them over the translation e2030d4a51309a4e… (all of the seat's roots in one cut). By AI agents, Wed Nov 11 2026. No macro, syntax, notation, axiom, sorry.
-/
import Derived.Test.YtlhlldpfafhpbaaGreatDoorChecked
import GoSem.Claim
import GoSem.ClaimJoined
import GoSem.ClaimMapViews
import Derived.JoinedTies
import Derived.KernelRfl
namespace Go.Proofs.YtlhlldpfafhpbaaGreatDoor
/- THE CELL 'sum', in the pinned program and in every row, IS THE sha256 OF THE DUMP (.gsa) THAT YtlhlldpfafhpbaaGreatDoorProg.lean LOADS. Nothing in Lean hashes anything: it is a label: what it is worth is what the hold of that sum in a sandbox is worth. -/
noncomputable def Tryz.pinned : Pinned := { name := "ytlhlldpfafhpbaagreatdoor", sum := "e2030d4a51309a4ee0ff03ab4edb31e66a3a11601577a059c84e89344f77e9cf", checked := Tryz.checked }
namespace Rows
def none {H : Type} : Left H := { results := [], args := [] }

/- WHAT THE LISTED PACKAGE-LEVEL VARIABLES READ AS WHEN THE CALL BEGINS. Each datum BY PROGRAM (the guide's laid-datum.mjs) off the statement by which the dump's own 'gosem.cut.vars' lays the variable. In a bare row this is a premise. The card (YtlhlldpfafhpbaaGreatDoorCards.lean) ties it to the program's text. -/
def laid_kiln_op_shapes {H : Type} : DataW H := .agg [.agg [.lit (.string []), .lit (.int .i32 0)], .agg [.lit (.string [105, 110, 116]), .lit (.int .i32 110)], .agg [.lit (.string [110, 117, 108, 108]), .lit (.int .i32 0)], .agg [.lit (.string [108, 111, 99, 97, 108]), .lit (.int .i32 108)], .agg [.lit (.string [115, 116, 111, 114, 101]), .lit (.int .i32 108)], .agg [.lit (.string [97, 100, 100]), .lit (.int .i32 0)], .agg [.lit (.string [115, 117, 98]), .lit (.int .i32 0)], .agg [.lit (.string [109, 117, 108]), .lit (.int .i32 0)], .agg [.lit (.string [100, 105, 118]), .lit (.int .i32 0)], .agg [.lit (.string [109, 111, 100]), .lit (.int .i32 0)], .agg [.lit (.string [108, 101, 115, 115]), .lit (.int .i32 0)], .agg [.lit (.string [109, 111, 115, 116]), .lit (.int .i32 0)], .agg [.lit (.string [115, 97, 109, 101]), .lit (.int .i32 0)], .agg [.lit (.string [111, 116, 104, 101, 114]), .lit (.int .i32 0)], .agg [.lit (.string [110, 101, 103]), .lit (.int .i32 0)], .agg [.lit (.string [110, 111, 116]), .lit (.int .i32 0)], .agg [.lit (.string [103, 101, 116]), .lit (.int .i32 102)], .agg [.lit (.string [112, 117, 116]), .lit (.int .i32 102)], .agg [.lit (.string [110, 101, 119]), .lit (.int .i32 99)], .agg [.lit (.string [97, 114, 114, 97, 121]), .lit (.int .i32 116)], .agg [.lit (.string [108, 111, 97, 100]), .lit (.int .i32 116)], .agg [.lit (.string [115, 97, 118, 101]), .lit (.int .i32 116)], .agg [.lit (.string [108, 101, 110, 103, 116, 104]), .lit (.int .i32 0)], .agg [.lit (.string [99, 97, 115, 116]), .lit (.int .i32 99)], .agg [.lit (.string [105, 115]), .lit (.int .i32 99)], .agg [.lit (.string [99, 97, 108, 108]), .lit (.int .i32 109)], .agg [.lit (.string [115, 116, 97, 116, 105, 99]), .lit (.int .i32 109)], .agg [.lit (.string [106, 117, 109, 112]), .lit (.int .i32 106)], .agg [.lit (.string [117, 110, 108, 101, 115, 115]), .lit (.int .i32 106)], .agg [.lit (.string [114, 101, 116, 117, 114, 110]), .lit (.int .i32 0)], .agg [.lit (.string [112, 114, 105, 110, 116]), .lit (.int .i32 0)], .agg [.lit (.string [112, 111, 112]), .lit (.int .i32 0)], .agg [.lit (.string [98, 111, 111, 108]), .lit (.int .i32 98)]]
def laid_math_bits_deBruijn32tab {H : Type} : DataW H := .agg [.lit (.int .u8 0), .lit (.int .u8 1), .lit (.int .u8 28), .lit (.int .u8 2), .lit (.int .u8 29), .lit (.int .u8 14), .lit (.int .u8 24), .lit (.int .u8 3), .lit (.int .u8 30), .lit (.int .u8 22), .lit (.int .u8 20), .lit (.int .u8 15), .lit (.int .u8 25), .lit (.int .u8 17), .lit (.int .u8 4), .lit (.int .u8 8), .lit (.int .u8 31), .lit (.int .u8 27), .lit (.int .u8 13), .lit (.int .u8 23), .lit (.int .u8 21), .lit (.int .u8 19), .lit (.int .u8 16), .lit (.int .u8 7), .lit (.int .u8 26), .lit (.int .u8 12), .lit (.int .u8 18), .lit (.int .u8 6), .lit (.int .u8 11), .lit (.int .u8 5), .lit (.int .u8 10), .lit (.int .u8 9)]
def laid_math_bits_deBruijn64tab {H : Type} : DataW H := .agg [.lit (.int .u8 0), .lit (.int .u8 1), .lit (.int .u8 56), .lit (.int .u8 2), .lit (.int .u8 57), .lit (.int .u8 49), .lit (.int .u8 28), .lit (.int .u8 3), .lit (.int .u8 61), .lit (.int .u8 58), .lit (.int .u8 42), .lit (.int .u8 50), .lit (.int .u8 38), .lit (.int .u8 29), .lit (.int .u8 17), .lit (.int .u8 4), .lit (.int .u8 62), .lit (.int .u8 47), .lit (.int .u8 59), .lit (.int .u8 36), .lit (.int .u8 45), .lit (.int .u8 43), .lit (.int .u8 51), .lit (.int .u8 22), .lit (.int .u8 53), .lit (.int .u8 39), .lit (.int .u8 33), .lit (.int .u8 30), .lit (.int .u8 24), .lit (.int .u8 18), .lit (.int .u8 12), .lit (.int .u8 5), .lit (.int .u8 63), .lit (.int .u8 55), .lit (.int .u8 48), .lit (.int .u8 27), .lit (.int .u8 60), .lit (.int .u8 41), .lit (.int .u8 37), .lit (.int .u8 16), .lit (.int .u8 46), .lit (.int .u8 35), .lit (.int .u8 44), .lit (.int .u8 21), .lit (.int .u8 52), .lit (.int .u8 32), .lit (.int .u8 23), .lit (.int .u8 11), .lit (.int .u8 54), .lit (.int .u8 26), .lit (.int .u8 40), .lit (.int .u8 15), .lit (.int .u8 34), .lit (.int .u8 20), .lit (.int .u8 31), .lit (.int .u8 10), .lit (.int .u8 25), .lit (.int .u8 14), .lit (.int .u8 19), .lit (.int .u8 9), .lit (.int .u8 13), .lit (.int .u8 8), .lit (.int .u8 7), .lit (.int .u8 6)]
def laid_internal_strconv_uint64pow10 {H : Type} : DataW H := .agg [.lit (.int .u64 1), .lit (.int .u64 10), .lit (.int .u64 100), .lit (.int .u64 1000), .lit (.int .u64 10000), .lit (.int .u64 100000), .lit (.int .u64 1000000), .lit (.int .u64 10000000), .lit (.int .u64 100000000), .lit (.int .u64 1000000000), .lit (.int .u64 10000000000), .lit (.int .u64 100000000000), .lit (.int .u64 1000000000000), .lit (.int .u64 10000000000000), .lit (.int .u64 100000000000000), .lit (.int .u64 1000000000000000), .lit (.int .u64 10000000000000000), .lit (.int .u64 100000000000000000), .lit (.int .u64 1000000000000000000), .lit (.int .u64 10000000000000000000)]
def laid_kiln_lex_marks {H : Type} : DataW H := .agg [.lit (.string [61, 61]), .lit (.string [33, 61]), .lit (.string [60, 61]), .lit (.string [38, 38]), .lit (.string [124, 124]), .lit (.string [43]), .lit (.string [45]), .lit (.string [42]), .lit (.string [47]), .lit (.string [37]), .lit (.string [60]), .lit (.string [61]), .lit (.string [33]), .lit (.string [40]), .lit (.string [41]), .lit (.string [91]), .lit (.string [93]), .lit (.string [123]), .lit (.string [125]), .lit (.string [59]), .lit (.string [44]), .lit (.string [46])]

/-- 'kilnlaw14.LinkMade': WHATEVER THE INPUT: true; the input reads as it did. -/
def linkMadeSpec : ChangeSpec := { name := "linkMade", fn := fun _ => fun
  | [d1, d2] => { results := [.lit (.bool true)], args := [d1, d2] }
  | _ => none }
def linkMadeRow : OpenClaim := { program := "ytlhlldpfafhpbaagreatdoor", sum := "e2030d4a51309a4ee0ff03ab4edb31e66a3a11601577a059c84e89344f77e9cf", func := "kiln/kilnlaw14.LinkMade", spec := "linkMade", inPlace := ["internal/bytealg.abigen_runtime_cmpstring"], unfollowed := true, recurses := true, named := ["kiln/op.shapes"], apart := false, laid := [("kiln/op.shapes", laid_kiln_op_shapes)] }
def LinkMadeSaid : Prop := linkMadeRow.holds Tryz.pinned (OpenSpec.ofChange linkMadeSpec)

/-- ITS FALSE NEIGHBOUR: 'it returns false'. Refute it at one input. -/
def linkMadeWrong : ChangeSpec := { name := "linkMade", fn := fun _ => fun
  | [d1, d2] => { results := [.lit (.bool false)], args := [d1, d2] }
  | _ => none }
def LinkMadeWrongFalsely : Prop := linkMadeRow.holds Tryz.pinned (OpenSpec.ofChange linkMadeWrong)

/-- 'kilnlaw13.GenHeights': WHATEVER THE INPUT: true; the input reads as it did. -/
def genHeightsSpec : ChangeSpec := { name := "genHeights", fn := fun _ => fun
  | [d] => { results := [.lit (.bool true)], args := [d] }
  | _ => none }
def genHeightsRow : OpenClaim := { program := "ytlhlldpfafhpbaagreatdoor", sum := "e2030d4a51309a4ee0ff03ab4edb31e66a3a11601577a059c84e89344f77e9cf", func := "kiln/kilnlaw13.GenHeights", spec := "genHeights", inPlace := ["internal/bytealg.IndexByteString", "internal/bytealg.abigen_runtime_cmpstring"], unfollowed := true, recurses := true, named := ["kiln/lex.marks", "kiln/op.shapes", "internal/strconv.uint64pow10", "math/bits.deBruijn32tab", "math/bits.deBruijn64tab"], apart := false, laid := [("math/bits.deBruijn32tab", laid_math_bits_deBruijn32tab), ("math/bits.deBruijn64tab", laid_math_bits_deBruijn64tab), ("internal/strconv.uint64pow10", laid_internal_strconv_uint64pow10), ("kiln/op.shapes", laid_kiln_op_shapes), ("kiln/lex.marks", laid_kiln_lex_marks)] }
def GenHeightsSaid : Prop := genHeightsRow.holds Tryz.pinned (OpenSpec.ofChange genHeightsSpec)

/-- ITS FALSE NEIGHBOUR: 'it returns false'. Refute it at one input. -/
def genHeightsWrong : ChangeSpec := { name := "genHeights", fn := fun _ => fun
  | [d] => { results := [.lit (.bool false)], args := [d] }
  | _ => none }
def GenHeightsWrongFalsely : Prop := genHeightsRow.holds Tryz.pinned (OpenSpec.ofChange genHeightsWrong)

/-- 'kilnlaw13.GenAlone': WHATEVER THE INPUT: true; the input reads as it did. -/
def genAloneSpec : ChangeSpec := { name := "genAlone", fn := fun _ => fun
  | [d1, d2] => { results := [.lit (.bool true)], args := [d1, d2] }
  | _ => none }
def genAloneRow : OpenClaim := { program := "ytlhlldpfafhpbaagreatdoor", sum := "e2030d4a51309a4ee0ff03ab4edb31e66a3a11601577a059c84e89344f77e9cf", func := "kiln/kilnlaw13.GenAlone", spec := "genAlone", inPlace := ["internal/bytealg.IndexByteString", "internal/bytealg.abigen_runtime_cmpstring"], unfollowed := true, recurses := true, named := ["kiln/lex.marks", "kiln/op.shapes", "internal/strconv.uint64pow10", "math/bits.deBruijn32tab", "math/bits.deBruijn64tab"], apart := false, laid := [("math/bits.deBruijn32tab", laid_math_bits_deBruijn32tab), ("math/bits.deBruijn64tab", laid_math_bits_deBruijn64tab), ("internal/strconv.uint64pow10", laid_internal_strconv_uint64pow10), ("kiln/op.shapes", laid_kiln_op_shapes), ("kiln/lex.marks", laid_kiln_lex_marks)] }
def GenAloneSaid : Prop := genAloneRow.holds Tryz.pinned (OpenSpec.ofChange genAloneSpec)

/-- ITS FALSE NEIGHBOUR: 'it returns false'. Refute it at one input. -/
def genAloneWrong : ChangeSpec := { name := "genAlone", fn := fun _ => fun
  | [d1, d2] => { results := [.lit (.bool false)], args := [d1, d2] }
  | _ => none }
def GenAloneWrongFalsely : Prop := genAloneRow.holds Tryz.pinned (OpenSpec.ofChange genAloneWrong)

/-- 'kilnlaw13.GenTwice': WHATEVER THE INPUT: true; the input reads as it did. -/
def genTwiceSpec : ChangeSpec := { name := "genTwice", fn := fun _ => fun
  | [d1, d2] => { results := [.lit (.bool true)], args := [d1, d2] }
  | _ => none }
def genTwiceRow : OpenClaim := { program := "ytlhlldpfafhpbaagreatdoor", sum := "e2030d4a51309a4ee0ff03ab4edb31e66a3a11601577a059c84e89344f77e9cf", func := "kiln/kilnlaw13.GenTwice", spec := "genTwice", inPlace := ["internal/bytealg.IndexByteString", "internal/bytealg.abigen_runtime_cmpstring"], unfollowed := true, recurses := true, named := ["kiln/lex.marks", "kiln/op.shapes", "internal/strconv.uint64pow10", "math/bits.deBruijn32tab", "math/bits.deBruijn64tab"], apart := false, laid := [("math/bits.deBruijn32tab", laid_math_bits_deBruijn32tab), ("math/bits.deBruijn64tab", laid_math_bits_deBruijn64tab), ("internal/strconv.uint64pow10", laid_internal_strconv_uint64pow10), ("kiln/op.shapes", laid_kiln_op_shapes), ("kiln/lex.marks", laid_kiln_lex_marks)] }
def GenTwiceSaid : Prop := genTwiceRow.holds Tryz.pinned (OpenSpec.ofChange genTwiceSpec)

/-- ITS FALSE NEIGHBOUR: 'it returns false'. Refute it at one input. -/
def genTwiceWrong : ChangeSpec := { name := "genTwice", fn := fun _ => fun
  | [d1, d2] => { results := [.lit (.bool false)], args := [d1, d2] }
  | _ => none }
def GenTwiceWrongFalsely : Prop := genTwiceRow.holds Tryz.pinned (OpenSpec.ofChange genTwiceWrong)

/- THE SECOND FORM. 'bulk': how many values and letters a reading holds, each counted each time it is reached (what is shared counts as often as it is met; a slice's spare places count too). A statement '..UptoSaid' is the law's where the arguments, and the package variables that the reading takes, are together of bulk at most 1048576: NARROWER than '..Said'. Prove '..Said' where nothing that the law and all that it calls make is longer than what came in: it says more and counts as full. Else prove '..UptoSaid'. A law counts once. -/
mutual
def uptoBulk {H : Type} : DataW H → Nat
  | .lit (.string bytes) => bytes.length + 1
  | .lit _ => 1
  | .nil => 1
  | .ptr d => uptoBulk d + 1
  | .slice elems spare => uptoBulkAll elems + uptoBulkAll spare + 1
  | .agg parts => uptoBulkAll parts + 1
  | .iface _ d => uptoBulk d + 1
  | .map entries => uptoBulkEntries entries + 1
  | .held _ => 1
def uptoBulkAll {H : Type} : List (DataW H) → Nat
  | [] => 0
  | d :: r => uptoBulk d + uptoBulkAll r
def uptoBulkEntries {H : Type} : List (Lit × DataW H) → Nat
  | [] => 0
  | x :: r => uptoBulkEntry x + uptoBulkEntries r
def uptoBulkEntry {H : Type} : Lit × DataW H → Nat
  | (.string bytes, d) => bytes.length + uptoBulk d + 1
  | (_, d) => uptoBulk d + 1
 end
def uptoSmall : (H : Type) → List (DataW H) → Bool := fun _ ds => decide (uptoBulkAll ds ≤ 1048576)
def OpenSpec.upto (s : _root_.Go.ChangeSpec) : _root_.Go.OpenSpec := { _root_.Go.OpenSpec.ofChange s with cond := some uptoSmall }

/-- 'kilnlaw14.LinkMade', WHERE WHAT IT READS IS OF BULK AT MOST 1048576: true; the input reads as it did. -/
def linkMadeUptoRow : OpenClaim := { program := "ytlhlldpfafhpbaagreatdoor", sum := "e2030d4a51309a4ee0ff03ab4edb31e66a3a11601577a059c84e89344f77e9cf", func := "kiln/kilnlaw14.LinkMade", spec := "linkMade", inPlace := ["internal/bytealg.abigen_runtime_cmpstring"], unfollowed := true, recurses := true, named := ["kiln/op.shapes"], apart := false, laid := [("kiln/op.shapes", laid_kiln_op_shapes)], narrowed := true }
def LinkMadeUptoSaid : Prop := linkMadeUptoRow.holds Tryz.pinned (OpenSpec.upto linkMadeSpec)

/-- 'kilnlaw13.GenHeights', WHERE WHAT IT READS IS OF BULK AT MOST 1048576: true; the input reads as it did. -/
def genHeightsUptoRow : OpenClaim := { program := "ytlhlldpfafhpbaagreatdoor", sum := "e2030d4a51309a4ee0ff03ab4edb31e66a3a11601577a059c84e89344f77e9cf", func := "kiln/kilnlaw13.GenHeights", spec := "genHeights", inPlace := ["internal/bytealg.IndexByteString", "internal/bytealg.abigen_runtime_cmpstring"], unfollowed := true, recurses := true, named := ["kiln/lex.marks", "kiln/op.shapes", "internal/strconv.uint64pow10", "math/bits.deBruijn32tab", "math/bits.deBruijn64tab"], apart := false, laid := [("math/bits.deBruijn32tab", laid_math_bits_deBruijn32tab), ("math/bits.deBruijn64tab", laid_math_bits_deBruijn64tab), ("internal/strconv.uint64pow10", laid_internal_strconv_uint64pow10), ("kiln/op.shapes", laid_kiln_op_shapes), ("kiln/lex.marks", laid_kiln_lex_marks)], narrowed := true }
def GenHeightsUptoSaid : Prop := genHeightsUptoRow.holds Tryz.pinned (OpenSpec.upto genHeightsSpec)

/-- 'kilnlaw13.GenAlone', WHERE WHAT IT READS IS OF BULK AT MOST 1048576: true; the input reads as it did. -/
def genAloneUptoRow : OpenClaim := { program := "ytlhlldpfafhpbaagreatdoor", sum := "e2030d4a51309a4ee0ff03ab4edb31e66a3a11601577a059c84e89344f77e9cf", func := "kiln/kilnlaw13.GenAlone", spec := "genAlone", inPlace := ["internal/bytealg.IndexByteString", "internal/bytealg.abigen_runtime_cmpstring"], unfollowed := true, recurses := true, named := ["kiln/lex.marks", "kiln/op.shapes", "internal/strconv.uint64pow10", "math/bits.deBruijn32tab", "math/bits.deBruijn64tab"], apart := false, laid := [("math/bits.deBruijn32tab", laid_math_bits_deBruijn32tab), ("math/bits.deBruijn64tab", laid_math_bits_deBruijn64tab), ("internal/strconv.uint64pow10", laid_internal_strconv_uint64pow10), ("kiln/op.shapes", laid_kiln_op_shapes), ("kiln/lex.marks", laid_kiln_lex_marks)], narrowed := true }
def GenAloneUptoSaid : Prop := genAloneUptoRow.holds Tryz.pinned (OpenSpec.upto genAloneSpec)

/-- 'kilnlaw13.GenTwice', WHERE WHAT IT READS IS OF BULK AT MOST 1048576: true; the input reads as it did. -/
def genTwiceUptoRow : OpenClaim := { program := "ytlhlldpfafhpbaagreatdoor", sum := "e2030d4a51309a4ee0ff03ab4edb31e66a3a11601577a059c84e89344f77e9cf", func := "kiln/kilnlaw13.GenTwice", spec := "genTwice", inPlace := ["internal/bytealg.IndexByteString", "internal/bytealg.abigen_runtime_cmpstring"], unfollowed := true, recurses := true, named := ["kiln/lex.marks", "kiln/op.shapes", "internal/strconv.uint64pow10", "math/bits.deBruijn32tab", "math/bits.deBruijn64tab"], apart := false, laid := [("math/bits.deBruijn32tab", laid_math_bits_deBruijn32tab), ("math/bits.deBruijn64tab", laid_math_bits_deBruijn64tab), ("internal/strconv.uint64pow10", laid_internal_strconv_uint64pow10), ("kiln/op.shapes", laid_kiln_op_shapes), ("kiln/lex.marks", laid_kiln_lex_marks)], narrowed := true }
def GenTwiceUptoSaid : Prop := genTwiceUptoRow.holds Tryz.pinned (OpenSpec.upto genTwiceSpec)

end Rows
end Go.Proofs.YtlhlldpfafhpbaaGreatDoor
