/-
  NARROWER THAN 'FOR EVERY INPUT', by the rows' own cells (each row's printed sentence says how): ParseErrors: laid · ParseNests: laid · ParseElses: laid · ParseTypes: laid · ParseBinds: laid · ParseAgain: laid.
  DERIVED. THE GIVEN ROWS OF THIS SEAT. 6 by the template 'for every input the law returns true; each argument reads behind the call as it read before'; 0 by the template 'total and deterministic' (their statements: YtcjkfmaoahojeaaDoorTotals.lean).
  GIVEN WITH THE SEED: the statements are not yours to turn. If you find one false, say at which input.
  Laid BY PROGRAM, IN A SANDBOX (cutbox-rows.mjs): the forced cells as the released guide's own fill.sh prints them over the translation 2e5ffd5354ca04d6… (all of the seat's roots in one cut). By AI agents, Wed Nov 11 2026. No macro, syntax, notation, axiom, sorry.
-/
import Derived.Test.YtcjkfmaoahojeaaDoorChecked
import GoSem.Claim
import GoSem.ClaimJoined
import GoSem.ClaimMapViews
import Derived.JoinedTies
import Derived.KernelRfl
namespace Go.Proofs.YtcjkfmaoahojeaaDoor
/- THE CELL 'sum', in the pinned program and in every row, IS THE sha256 OF THE DUMP (.gsa) THAT YtcjkfmaoahojeaaDoorProg.lean LOADS. Nothing in Lean hashes anything: it is a label: what it is worth is what the hold of that sum in a sandbox is worth. -/
noncomputable def Tryd.pinned : Pinned := { name := "ytcjkfmaoahojeaadoor", sum := "2e5ffd5354ca04d6a97e1950cff3d72a5b52cc9cfab0edebd8e03b756c77e671", checked := Tryd.checked }
namespace Rows
def none {H : Type} : Left H := { results := [], args := [] }

/- WHAT THE LISTED PACKAGE-LEVEL VARIABLES READ AS WHEN THE CALL BEGINS. Each datum BY PROGRAM (the guide's laid-datum.mjs) off the statement by which the dump's own 'gosem.cut.vars' lays the variable. In a bare row this is a premise. The card (YtcjkfmaoahojeaaDoorCards.lean) ties it to the program's text. -/
def laid_kiln_lex_marks {H : Type} : DataW H := .agg [.lit (.string [61, 61]), .lit (.string [33, 61]), .lit (.string [60, 61]), .lit (.string [38, 38]), .lit (.string [124, 124]), .lit (.string [43]), .lit (.string [45]), .lit (.string [42]), .lit (.string [47]), .lit (.string [37]), .lit (.string [60]), .lit (.string [61]), .lit (.string [33]), .lit (.string [40]), .lit (.string [41]), .lit (.string [91]), .lit (.string [93]), .lit (.string [123]), .lit (.string [125]), .lit (.string [59]), .lit (.string [44]), .lit (.string [46])]
def laid_math_bits_deBruijn32tab {H : Type} : DataW H := .agg [.lit (.int .u8 0), .lit (.int .u8 1), .lit (.int .u8 28), .lit (.int .u8 2), .lit (.int .u8 29), .lit (.int .u8 14), .lit (.int .u8 24), .lit (.int .u8 3), .lit (.int .u8 30), .lit (.int .u8 22), .lit (.int .u8 20), .lit (.int .u8 15), .lit (.int .u8 25), .lit (.int .u8 17), .lit (.int .u8 4), .lit (.int .u8 8), .lit (.int .u8 31), .lit (.int .u8 27), .lit (.int .u8 13), .lit (.int .u8 23), .lit (.int .u8 21), .lit (.int .u8 19), .lit (.int .u8 16), .lit (.int .u8 7), .lit (.int .u8 26), .lit (.int .u8 12), .lit (.int .u8 18), .lit (.int .u8 6), .lit (.int .u8 11), .lit (.int .u8 5), .lit (.int .u8 10), .lit (.int .u8 9)]
def laid_math_bits_deBruijn64tab {H : Type} : DataW H := .agg [.lit (.int .u8 0), .lit (.int .u8 1), .lit (.int .u8 56), .lit (.int .u8 2), .lit (.int .u8 57), .lit (.int .u8 49), .lit (.int .u8 28), .lit (.int .u8 3), .lit (.int .u8 61), .lit (.int .u8 58), .lit (.int .u8 42), .lit (.int .u8 50), .lit (.int .u8 38), .lit (.int .u8 29), .lit (.int .u8 17), .lit (.int .u8 4), .lit (.int .u8 62), .lit (.int .u8 47), .lit (.int .u8 59), .lit (.int .u8 36), .lit (.int .u8 45), .lit (.int .u8 43), .lit (.int .u8 51), .lit (.int .u8 22), .lit (.int .u8 53), .lit (.int .u8 39), .lit (.int .u8 33), .lit (.int .u8 30), .lit (.int .u8 24), .lit (.int .u8 18), .lit (.int .u8 12), .lit (.int .u8 5), .lit (.int .u8 63), .lit (.int .u8 55), .lit (.int .u8 48), .lit (.int .u8 27), .lit (.int .u8 60), .lit (.int .u8 41), .lit (.int .u8 37), .lit (.int .u8 16), .lit (.int .u8 46), .lit (.int .u8 35), .lit (.int .u8 44), .lit (.int .u8 21), .lit (.int .u8 52), .lit (.int .u8 32), .lit (.int .u8 23), .lit (.int .u8 11), .lit (.int .u8 54), .lit (.int .u8 26), .lit (.int .u8 40), .lit (.int .u8 15), .lit (.int .u8 34), .lit (.int .u8 20), .lit (.int .u8 31), .lit (.int .u8 10), .lit (.int .u8 25), .lit (.int .u8 14), .lit (.int .u8 19), .lit (.int .u8 9), .lit (.int .u8 13), .lit (.int .u8 8), .lit (.int .u8 7), .lit (.int .u8 6)]
def laid_internal_strconv_uint64pow10 {H : Type} : DataW H := .agg [.lit (.int .u64 1), .lit (.int .u64 10), .lit (.int .u64 100), .lit (.int .u64 1000), .lit (.int .u64 10000), .lit (.int .u64 100000), .lit (.int .u64 1000000), .lit (.int .u64 10000000), .lit (.int .u64 100000000), .lit (.int .u64 1000000000), .lit (.int .u64 10000000000), .lit (.int .u64 100000000000), .lit (.int .u64 1000000000000), .lit (.int .u64 10000000000000), .lit (.int .u64 100000000000000), .lit (.int .u64 1000000000000000), .lit (.int .u64 10000000000000000), .lit (.int .u64 100000000000000000), .lit (.int .u64 1000000000000000000), .lit (.int .u64 10000000000000000000)]

/-- 'kilnlaw06.ParseErrors': WHATEVER THE INPUT: true; the input reads as it did. -/
def parseErrorsSpec : ChangeSpec := { name := "parseErrors", fn := fun _ => fun
  | [d1, d2] => { results := [.lit (.bool true)], args := [d1, d2] }
  | _ => none }
def parseErrorsRow : OpenClaim := { program := "ytcjkfmaoahojeaadoor", sum := "2e5ffd5354ca04d6a97e1950cff3d72a5b52cc9cfab0edebd8e03b756c77e671", func := "kiln/kilnlaw06.ParseErrors", spec := "parseErrors", inPlace := ["internal/bytealg.IndexByteString"], unfollowed := true, recurses := true, named := ["kiln/lex.marks"], apart := false, laid := [("kiln/lex.marks", laid_kiln_lex_marks)] }
def ParseErrorsSaid : Prop := parseErrorsRow.holds Tryd.pinned (OpenSpec.ofChange parseErrorsSpec)

/-- ITS FALSE NEIGHBOUR: 'it returns false'. Refute it at one input. -/
def parseErrorsWrong : ChangeSpec := { name := "parseErrors", fn := fun _ => fun
  | [d1, d2] => { results := [.lit (.bool false)], args := [d1, d2] }
  | _ => none }
def ParseErrorsWrongFalsely : Prop := parseErrorsRow.holds Tryd.pinned (OpenSpec.ofChange parseErrorsWrong)

/-- 'kilnlaw06.ParseNests': WHATEVER THE INPUT: true; the input reads as it did. -/
def parseNestsSpec : ChangeSpec := { name := "parseNests", fn := fun _ => fun
  | [d1, d2] => { results := [.lit (.bool true)], args := [d1, d2] }
  | _ => none }
def parseNestsRow : OpenClaim := { program := "ytcjkfmaoahojeaadoor", sum := "2e5ffd5354ca04d6a97e1950cff3d72a5b52cc9cfab0edebd8e03b756c77e671", func := "kiln/kilnlaw06.ParseNests", spec := "parseNests", inPlace := ["internal/bytealg.IndexByteString"], unfollowed := true, recurses := true, named := ["kiln/lex.marks"], apart := false, laid := [("kiln/lex.marks", laid_kiln_lex_marks)] }
def ParseNestsSaid : Prop := parseNestsRow.holds Tryd.pinned (OpenSpec.ofChange parseNestsSpec)

/-- ITS FALSE NEIGHBOUR: 'it returns false'. Refute it at one input. -/
def parseNestsWrong : ChangeSpec := { name := "parseNests", fn := fun _ => fun
  | [d1, d2] => { results := [.lit (.bool false)], args := [d1, d2] }
  | _ => none }
def ParseNestsWrongFalsely : Prop := parseNestsRow.holds Tryd.pinned (OpenSpec.ofChange parseNestsWrong)

/-- 'kilnlaw06.ParseElses': WHATEVER THE INPUT: true; the input reads as it did. -/
def parseElsesSpec : ChangeSpec := { name := "parseElses", fn := fun _ => fun
  | [d1, d2] => { results := [.lit (.bool true)], args := [d1, d2] }
  | _ => none }
def parseElsesRow : OpenClaim := { program := "ytcjkfmaoahojeaadoor", sum := "2e5ffd5354ca04d6a97e1950cff3d72a5b52cc9cfab0edebd8e03b756c77e671", func := "kiln/kilnlaw06.ParseElses", spec := "parseElses", inPlace := ["internal/bytealg.IndexByteString"], unfollowed := true, recurses := true, named := ["kiln/lex.marks", "internal/strconv.uint64pow10", "math/bits.deBruijn32tab", "math/bits.deBruijn64tab"], apart := false, laid := [("math/bits.deBruijn32tab", laid_math_bits_deBruijn32tab), ("math/bits.deBruijn64tab", laid_math_bits_deBruijn64tab), ("internal/strconv.uint64pow10", laid_internal_strconv_uint64pow10), ("kiln/lex.marks", laid_kiln_lex_marks)] }
def ParseElsesSaid : Prop := parseElsesRow.holds Tryd.pinned (OpenSpec.ofChange parseElsesSpec)

/-- ITS FALSE NEIGHBOUR: 'it returns false'. Refute it at one input. -/
def parseElsesWrong : ChangeSpec := { name := "parseElses", fn := fun _ => fun
  | [d1, d2] => { results := [.lit (.bool false)], args := [d1, d2] }
  | _ => none }
def ParseElsesWrongFalsely : Prop := parseElsesRow.holds Tryd.pinned (OpenSpec.ofChange parseElsesWrong)

/-- 'kilnlaw06.ParseTypes': WHATEVER THE INPUT: true; the input reads as it did. -/
def parseTypesSpec : ChangeSpec := { name := "parseTypes", fn := fun _ => fun
  | [d1, d2] => { results := [.lit (.bool true)], args := [d1, d2] }
  | _ => none }
def parseTypesRow : OpenClaim := { program := "ytcjkfmaoahojeaadoor", sum := "2e5ffd5354ca04d6a97e1950cff3d72a5b52cc9cfab0edebd8e03b756c77e671", func := "kiln/kilnlaw06.ParseTypes", spec := "parseTypes", inPlace := ["internal/bytealg.IndexByteString"], unfollowed := true, recurses := true, named := ["kiln/lex.marks", "internal/strconv.uint64pow10", "math/bits.deBruijn32tab", "math/bits.deBruijn64tab"], apart := false, laid := [("math/bits.deBruijn32tab", laid_math_bits_deBruijn32tab), ("math/bits.deBruijn64tab", laid_math_bits_deBruijn64tab), ("internal/strconv.uint64pow10", laid_internal_strconv_uint64pow10), ("kiln/lex.marks", laid_kiln_lex_marks)] }
def ParseTypesSaid : Prop := parseTypesRow.holds Tryd.pinned (OpenSpec.ofChange parseTypesSpec)

/-- ITS FALSE NEIGHBOUR: 'it returns false'. Refute it at one input. -/
def parseTypesWrong : ChangeSpec := { name := "parseTypes", fn := fun _ => fun
  | [d1, d2] => { results := [.lit (.bool false)], args := [d1, d2] }
  | _ => none }
def ParseTypesWrongFalsely : Prop := parseTypesRow.holds Tryd.pinned (OpenSpec.ofChange parseTypesWrong)

/-- 'kilnlaw06.ParseBinds': WHATEVER THE INPUT: true; the input reads as it did. -/
def parseBindsSpec : ChangeSpec := { name := "parseBinds", fn := fun _ => fun
  | [d1, d2, d3, d4, d5, d6] => { results := [.lit (.bool true)], args := [d1, d2, d3, d4, d5, d6] }
  | _ => none }
def parseBindsRow : OpenClaim := { program := "ytcjkfmaoahojeaadoor", sum := "2e5ffd5354ca04d6a97e1950cff3d72a5b52cc9cfab0edebd8e03b756c77e671", func := "kiln/kilnlaw06.ParseBinds", spec := "parseBinds", inPlace := ["internal/bytealg.IndexByteString"], unfollowed := true, recurses := true, named := ["kiln/lex.marks", "internal/strconv.uint64pow10", "math/bits.deBruijn32tab", "math/bits.deBruijn64tab"], apart := false, laid := [("math/bits.deBruijn32tab", laid_math_bits_deBruijn32tab), ("math/bits.deBruijn64tab", laid_math_bits_deBruijn64tab), ("internal/strconv.uint64pow10", laid_internal_strconv_uint64pow10), ("kiln/lex.marks", laid_kiln_lex_marks)] }
def ParseBindsSaid : Prop := parseBindsRow.holds Tryd.pinned (OpenSpec.ofChange parseBindsSpec)

/-- ITS FALSE NEIGHBOUR: 'it returns false'. Refute it at one input. -/
def parseBindsWrong : ChangeSpec := { name := "parseBinds", fn := fun _ => fun
  | [d1, d2, d3, d4, d5, d6] => { results := [.lit (.bool false)], args := [d1, d2, d3, d4, d5, d6] }
  | _ => none }
def ParseBindsWrongFalsely : Prop := parseBindsRow.holds Tryd.pinned (OpenSpec.ofChange parseBindsWrong)

/-- 'kilnlaw06.ParseAgain': WHATEVER THE INPUT: true; the input reads as it did. -/
def parseAgainSpec : ChangeSpec := { name := "parseAgain", fn := fun _ => fun
  | [d] => { results := [.lit (.bool true)], args := [d] }
  | _ => none }
def parseAgainRow : OpenClaim := { program := "ytcjkfmaoahojeaadoor", sum := "2e5ffd5354ca04d6a97e1950cff3d72a5b52cc9cfab0edebd8e03b756c77e671", func := "kiln/kilnlaw06.ParseAgain", spec := "parseAgain", inPlace := ["internal/bytealg.IndexByteString", "internal/abi.NoEscape", "internal/bytealg.MakeNoZero"], unfollowed := true, recurses := true, named := ["kiln/lex.marks", "internal/strconv.uint64pow10", "math/bits.deBruijn32tab", "math/bits.deBruijn64tab"], apart := false, laid := [("math/bits.deBruijn32tab", laid_math_bits_deBruijn32tab), ("math/bits.deBruijn64tab", laid_math_bits_deBruijn64tab), ("internal/strconv.uint64pow10", laid_internal_strconv_uint64pow10), ("kiln/lex.marks", laid_kiln_lex_marks)] }
def ParseAgainSaid : Prop := parseAgainRow.holds Tryd.pinned (OpenSpec.ofChange parseAgainSpec)

/-- ITS FALSE NEIGHBOUR: 'it returns false'. Refute it at one input. -/
def parseAgainWrong : ChangeSpec := { name := "parseAgain", fn := fun _ => fun
  | [d] => { results := [.lit (.bool false)], args := [d] }
  | _ => none }
def ParseAgainWrongFalsely : Prop := parseAgainRow.holds Tryd.pinned (OpenSpec.ofChange parseAgainWrong)

/- THE SECOND FORM. 'bulk': how many values and letters a reading holds, each counted each time it is reached (what is shared counts as often as it is met; a slice's spare places count too). A statement '..UptoSaid' is the law's where the arguments, and the package variables that the reading takes, are together of bulk at most 1048576: NARROWER than '..Said'. Prove '..Said' where nothing that the law and all that it calls make is longer than what came in: it says more and counts as full. Else prove '..UptoSaid'. A law counts once. -/
mutual
def uptoBulk {H : Type} : DataW H → Nat
  | .lit (.string bytes) => bytes.length + 1
  | .lit _ => 1
  | .nil => 1
  | .ptr d => uptoBulk d + 1
  | .slice elems spare => uptoBulkAll elems + uptoBulkAll spare + 1
  | .agg parts => uptoBulkAll parts + 1
  | .iface _ d => uptoBulk d + 1
  | .map entries => uptoBulkEntries entries + 1
  | .held _ => 1
def uptoBulkAll {H : Type} : List (DataW H) → Nat
  | [] => 0
  | d :: r => uptoBulk d + uptoBulkAll r
def uptoBulkEntries {H : Type} : List (Lit × DataW H) → Nat
  | [] => 0
  | x :: r => uptoBulkEntry x + uptoBulkEntries r
def uptoBulkEntry {H : Type} : Lit × DataW H → Nat
  | (.string bytes, d) => bytes.length + uptoBulk d + 1
  | (_, d) => uptoBulk d + 1
 end
def uptoSmall : (H : Type) → List (DataW H) → Bool := fun _ ds => decide (uptoBulkAll ds ≤ 1048576)
def OpenSpec.upto (s : _root_.Go.ChangeSpec) : _root_.Go.OpenSpec := { _root_.Go.OpenSpec.ofChange s with cond := some uptoSmall }

/-- 'kilnlaw06.ParseErrors', WHERE WHAT IT READS IS OF BULK AT MOST 1048576: true; the input reads as it did. -/
def parseErrorsUptoRow : OpenClaim := { program := "ytcjkfmaoahojeaadoor", sum := "2e5ffd5354ca04d6a97e1950cff3d72a5b52cc9cfab0edebd8e03b756c77e671", func := "kiln/kilnlaw06.ParseErrors", spec := "parseErrors", inPlace := ["internal/bytealg.IndexByteString"], unfollowed := true, recurses := true, named := ["kiln/lex.marks"], apart := false, laid := [("kiln/lex.marks", laid_kiln_lex_marks)], narrowed := true }
def ParseErrorsUptoSaid : Prop := parseErrorsUptoRow.holds Tryd.pinned (OpenSpec.upto parseErrorsSpec)

/-- 'kilnlaw06.ParseNests', WHERE WHAT IT READS IS OF BULK AT MOST 1048576: true; the input reads as it did. -/
def parseNestsUptoRow : OpenClaim := { program := "ytcjkfmaoahojeaadoor", sum := "2e5ffd5354ca04d6a97e1950cff3d72a5b52cc9cfab0edebd8e03b756c77e671", func := "kiln/kilnlaw06.ParseNests", spec := "parseNests", inPlace := ["internal/bytealg.IndexByteString"], unfollowed := true, recurses := true, named := ["kiln/lex.marks"], apart := false, laid := [("kiln/lex.marks", laid_kiln_lex_marks)], narrowed := true }
def ParseNestsUptoSaid : Prop := parseNestsUptoRow.holds Tryd.pinned (OpenSpec.upto parseNestsSpec)

/-- 'kilnlaw06.ParseElses', WHERE WHAT IT READS IS OF BULK AT MOST 1048576: true; the input reads as it did. -/
def parseElsesUptoRow : OpenClaim := { program := "ytcjkfmaoahojeaadoor", sum := "2e5ffd5354ca04d6a97e1950cff3d72a5b52cc9cfab0edebd8e03b756c77e671", func := "kiln/kilnlaw06.ParseElses", spec := "parseElses", inPlace := ["internal/bytealg.IndexByteString"], unfollowed := true, recurses := true, named := ["kiln/lex.marks", "internal/strconv.uint64pow10", "math/bits.deBruijn32tab", "math/bits.deBruijn64tab"], apart := false, laid := [("math/bits.deBruijn32tab", laid_math_bits_deBruijn32tab), ("math/bits.deBruijn64tab", laid_math_bits_deBruijn64tab), ("internal/strconv.uint64pow10", laid_internal_strconv_uint64pow10), ("kiln/lex.marks", laid_kiln_lex_marks)], narrowed := true }
def ParseElsesUptoSaid : Prop := parseElsesUptoRow.holds Tryd.pinned (OpenSpec.upto parseElsesSpec)

/-- 'kilnlaw06.ParseTypes', WHERE WHAT IT READS IS OF BULK AT MOST 1048576: true; the input reads as it did. -/
def parseTypesUptoRow : OpenClaim := { program := "ytcjkfmaoahojeaadoor", sum := "2e5ffd5354ca04d6a97e1950cff3d72a5b52cc9cfab0edebd8e03b756c77e671", func := "kiln/kilnlaw06.ParseTypes", spec := "parseTypes", inPlace := ["internal/bytealg.IndexByteString"], unfollowed := true, recurses := true, named := ["kiln/lex.marks", "internal/strconv.uint64pow10", "math/bits.deBruijn32tab", "math/bits.deBruijn64tab"], apart := false, laid := [("math/bits.deBruijn32tab", laid_math_bits_deBruijn32tab), ("math/bits.deBruijn64tab", laid_math_bits_deBruijn64tab), ("internal/strconv.uint64pow10", laid_internal_strconv_uint64pow10), ("kiln/lex.marks", laid_kiln_lex_marks)], narrowed := true }
def ParseTypesUptoSaid : Prop := parseTypesUptoRow.holds Tryd.pinned (OpenSpec.upto parseTypesSpec)

/-- 'kilnlaw06.ParseBinds', WHERE WHAT IT READS IS OF BULK AT MOST 1048576: true; the input reads as it did. -/
def parseBindsUptoRow : OpenClaim := { program := "ytcjkfmaoahojeaadoor", sum := "2e5ffd5354ca04d6a97e1950cff3d72a5b52cc9cfab0edebd8e03b756c77e671", func := "kiln/kilnlaw06.ParseBinds", spec := "parseBinds", inPlace := ["internal/bytealg.IndexByteString"], unfollowed := true, recurses := true, named := ["kiln/lex.marks", "internal/strconv.uint64pow10", "math/bits.deBruijn32tab", "math/bits.deBruijn64tab"], apart := false, laid := [("math/bits.deBruijn32tab", laid_math_bits_deBruijn32tab), ("math/bits.deBruijn64tab", laid_math_bits_deBruijn64tab), ("internal/strconv.uint64pow10", laid_internal_strconv_uint64pow10), ("kiln/lex.marks", laid_kiln_lex_marks)], narrowed := true }
def ParseBindsUptoSaid : Prop := parseBindsUptoRow.holds Tryd.pinned (OpenSpec.upto parseBindsSpec)

/-- 'kilnlaw06.ParseAgain', WHERE WHAT IT READS IS OF BULK AT MOST 1048576: true; the input reads as it did. -/
def parseAgainUptoRow : OpenClaim := { program := "ytcjkfmaoahojeaadoor", sum := "2e5ffd5354ca04d6a97e1950cff3d72a5b52cc9cfab0edebd8e03b756c77e671", func := "kiln/kilnlaw06.ParseAgain", spec := "parseAgain", inPlace := ["internal/bytealg.IndexByteString", "internal/abi.NoEscape", "internal/bytealg.MakeNoZero"], unfollowed := true, recurses := true, named := ["kiln/lex.marks", "internal/strconv.uint64pow10", "math/bits.deBruijn32tab", "math/bits.deBruijn64tab"], apart := false, laid := [("math/bits.deBruijn32tab", laid_math_bits_deBruijn32tab), ("math/bits.deBruijn64tab", laid_math_bits_deBruijn64tab), ("internal/strconv.uint64pow10", laid_internal_strconv_uint64pow10), ("kiln/lex.marks", laid_kiln_lex_marks)], narrowed := true }
def ParseAgainUptoSaid : Prop := parseAgainUptoRow.holds Tryd.pinned (OpenSpec.upto parseAgainSpec)

end Rows
end Go.Proofs.YtcjkfmaoahojeaaDoor
