/-
  NARROWER THAN 'FOR EVERY INPUT', by the rows' own cells (each row's printed sentence says how): TypesErrors: laid · TypesScopes: laid · TypesLocals: laid · TypesReturns: laid · EvalSums: laid · EvalTraps: laid · EvalAsks: laid · EvalLoops: laid · EvalShorts: laid · EvalObjects: laid · EvalRounds: laid · EvalCasts: laid.
  DERIVED. THE GIVEN ROWS OF THIS SEAT. 12 by the template 'for every input the law returns true; each argument reads behind the call as it read before'; 0 by the template 'total and deterministic' (their statements: YtgdefgnmabjmcaaGreatDoorTotals.lean).
  GIVEN WITH THE SEED: the statements are not yours to turn. If you find one false, say at which input.
  Laid BY PROGRAM, IN A SANDBOX (cutbox-rows.mjs): the forced cells as the released guide's own fill.sh prints them over the translation 326e20369cb48f1a… (all of the seat's roots in one cut). By AI agents, Wed Nov 11 2026. No macro, syntax, notation, axiom, sorry.
-/
import Derived.Test.YtgdefgnmabjmcaaGreatDoorChecked
import GoSem.Claim
import GoSem.ClaimJoined
import GoSem.ClaimMapViews
import Derived.JoinedTies
import Derived.KernelRfl
namespace Go.Proofs.YtgdefgnmabjmcaaGreatDoor
/- THE CELL 'sum', in the pinned program and in every row, IS THE sha256 OF THE DUMP (.gsa) THAT YtgdefgnmabjmcaaGreatDoorProg.lean LOADS. Nothing in Lean hashes anything: it is a label: what it is worth is what the hold of that sum in a sandbox is worth. -/
noncomputable def Tryz.pinned : Pinned := { name := "ytgdefgnmabjmcaagreatdoor", sum := "326e20369cb48f1a05fb354ea5d382e8b6dc7506d1dfed23cbfb2cc577a4d90c", checked := Tryz.checked }
namespace Rows
def none {H : Type} : Left H := { results := [], args := [] }

/- WHAT THE LISTED PACKAGE-LEVEL VARIABLES READ AS WHEN THE CALL BEGINS. Each datum BY PROGRAM (the guide's laid-datum.mjs) off the statement by which the dump's own 'gosem.cut.vars' lays the variable. In a bare row this is a premise. The card (YtgdefgnmabjmcaaGreatDoorCards.lean) ties it to the program's text. -/
def laid_kiln_lex_marks {H : Type} : DataW H := .agg [.lit (.string [61, 61]), .lit (.string [33, 61]), .lit (.string [60, 61]), .lit (.string [38, 38]), .lit (.string [124, 124]), .lit (.string [43]), .lit (.string [45]), .lit (.string [42]), .lit (.string [47]), .lit (.string [37]), .lit (.string [60]), .lit (.string [61]), .lit (.string [33]), .lit (.string [40]), .lit (.string [41]), .lit (.string [91]), .lit (.string [93]), .lit (.string [123]), .lit (.string [125]), .lit (.string [59]), .lit (.string [44]), .lit (.string [46])]

/-- 'kilnlaw09.TypesErrors': WHATEVER THE INPUT: true; the input reads as it did. -/
def typesErrorsSpec : ChangeSpec := { name := "typesErrors", fn := fun _ => fun
  | [d1, d2] => { results := [.lit (.bool true)], args := [d1, d2] }
  | _ => none }
def typesErrorsRow : OpenClaim := { program := "ytgdefgnmabjmcaagreatdoor", sum := "326e20369cb48f1a05fb354ea5d382e8b6dc7506d1dfed23cbfb2cc577a4d90c", func := "kiln/kilnlaw09.TypesErrors", spec := "typesErrors", inPlace := ["internal/bytealg.IndexByteString", "internal/bytealg.abigen_runtime_cmpstring"], unfollowed := true, recurses := true, named := ["kiln/lex.marks"], apart := false, laid := [("kiln/lex.marks", laid_kiln_lex_marks)] }
def TypesErrorsSaid : Prop := typesErrorsRow.holds Tryz.pinned (OpenSpec.ofChange typesErrorsSpec)

/-- ITS FALSE NEIGHBOUR: 'it returns false'. Refute it at one input. -/
def typesErrorsWrong : ChangeSpec := { name := "typesErrors", fn := fun _ => fun
  | [d1, d2] => { results := [.lit (.bool false)], args := [d1, d2] }
  | _ => none }
def TypesErrorsWrongFalsely : Prop := typesErrorsRow.holds Tryz.pinned (OpenSpec.ofChange typesErrorsWrong)

/-- 'kilnlaw09.TypesScopes': WHATEVER THE INPUT: true; the input reads as it did. -/
def typesScopesSpec : ChangeSpec := { name := "typesScopes", fn := fun _ => fun
  | [d1, d2, d3] => { results := [.lit (.bool true)], args := [d1, d2, d3] }
  | _ => none }
def typesScopesRow : OpenClaim := { program := "ytgdefgnmabjmcaagreatdoor", sum := "326e20369cb48f1a05fb354ea5d382e8b6dc7506d1dfed23cbfb2cc577a4d90c", func := "kiln/kilnlaw09.TypesScopes", spec := "typesScopes", inPlace := ["internal/bytealg.IndexByteString", "internal/bytealg.abigen_runtime_cmpstring"], unfollowed := true, recurses := true, named := ["kiln/lex.marks"], apart := false, laid := [("kiln/lex.marks", laid_kiln_lex_marks)] }
def TypesScopesSaid : Prop := typesScopesRow.holds Tryz.pinned (OpenSpec.ofChange typesScopesSpec)

/-- ITS FALSE NEIGHBOUR: 'it returns false'. Refute it at one input. -/
def typesScopesWrong : ChangeSpec := { name := "typesScopes", fn := fun _ => fun
  | [d1, d2, d3] => { results := [.lit (.bool false)], args := [d1, d2, d3] }
  | _ => none }
def TypesScopesWrongFalsely : Prop := typesScopesRow.holds Tryz.pinned (OpenSpec.ofChange typesScopesWrong)

/-- 'kilnlaw09.TypesLocals': WHATEVER THE INPUT: true; the input reads as it did. -/
def typesLocalsSpec : ChangeSpec := { name := "typesLocals", fn := fun _ => fun
  | [d1, d2] => { results := [.lit (.bool true)], args := [d1, d2] }
  | _ => none }
def typesLocalsRow : OpenClaim := { program := "ytgdefgnmabjmcaagreatdoor", sum := "326e20369cb48f1a05fb354ea5d382e8b6dc7506d1dfed23cbfb2cc577a4d90c", func := "kiln/kilnlaw09.TypesLocals", spec := "typesLocals", inPlace := ["internal/bytealg.IndexByteString", "internal/bytealg.abigen_runtime_cmpstring"], unfollowed := true, recurses := true, named := ["kiln/lex.marks"], apart := false, laid := [("kiln/lex.marks", laid_kiln_lex_marks)] }
def TypesLocalsSaid : Prop := typesLocalsRow.holds Tryz.pinned (OpenSpec.ofChange typesLocalsSpec)

/-- ITS FALSE NEIGHBOUR: 'it returns false'. Refute it at one input. -/
def typesLocalsWrong : ChangeSpec := { name := "typesLocals", fn := fun _ => fun
  | [d1, d2] => { results := [.lit (.bool false)], args := [d1, d2] }
  | _ => none }
def TypesLocalsWrongFalsely : Prop := typesLocalsRow.holds Tryz.pinned (OpenSpec.ofChange typesLocalsWrong)

/-- 'kilnlaw09.TypesReturns': WHATEVER THE INPUT: true; the input reads as it did. -/
def typesReturnsSpec : ChangeSpec := { name := "typesReturns", fn := fun _ => fun
  | [d1, d2] => { results := [.lit (.bool true)], args := [d1, d2] }
  | _ => none }
def typesReturnsRow : OpenClaim := { program := "ytgdefgnmabjmcaagreatdoor", sum := "326e20369cb48f1a05fb354ea5d382e8b6dc7506d1dfed23cbfb2cc577a4d90c", func := "kiln/kilnlaw09.TypesReturns", spec := "typesReturns", inPlace := ["internal/bytealg.IndexByteString", "internal/bytealg.abigen_runtime_cmpstring"], unfollowed := true, recurses := true, named := ["kiln/lex.marks"], apart := false, laid := [("kiln/lex.marks", laid_kiln_lex_marks)] }
def TypesReturnsSaid : Prop := typesReturnsRow.holds Tryz.pinned (OpenSpec.ofChange typesReturnsSpec)

/-- ITS FALSE NEIGHBOUR: 'it returns false'. Refute it at one input. -/
def typesReturnsWrong : ChangeSpec := { name := "typesReturns", fn := fun _ => fun
  | [d1, d2] => { results := [.lit (.bool false)], args := [d1, d2] }
  | _ => none }
def TypesReturnsWrongFalsely : Prop := typesReturnsRow.holds Tryz.pinned (OpenSpec.ofChange typesReturnsWrong)

/-- 'kilnlaw10.EvalSums': WHATEVER THE INPUT: true; the input reads as it did. -/
def evalSumsSpec : ChangeSpec := { name := "evalSums", fn := fun _ => fun
  | [d1, d2, d3] => { results := [.lit (.bool true)], args := [d1, d2, d3] }
  | _ => none }
def evalSumsRow : OpenClaim := { program := "ytgdefgnmabjmcaagreatdoor", sum := "326e20369cb48f1a05fb354ea5d382e8b6dc7506d1dfed23cbfb2cc577a4d90c", func := "kiln/kilnlaw10.EvalSums", spec := "evalSums", inPlace := ["internal/bytealg.IndexByteString", "internal/bytealg.abigen_runtime_cmpstring"], unfollowed := true, recurses := true, named := ["kiln/lex.marks"], apart := false, laid := [("kiln/lex.marks", laid_kiln_lex_marks)] }
def EvalSumsSaid : Prop := evalSumsRow.holds Tryz.pinned (OpenSpec.ofChange evalSumsSpec)

/-- ITS FALSE NEIGHBOUR: 'it returns false'. Refute it at one input. -/
def evalSumsWrong : ChangeSpec := { name := "evalSums", fn := fun _ => fun
  | [d1, d2, d3] => { results := [.lit (.bool false)], args := [d1, d2, d3] }
  | _ => none }
def EvalSumsWrongFalsely : Prop := evalSumsRow.holds Tryz.pinned (OpenSpec.ofChange evalSumsWrong)

/-- 'kilnlaw10.EvalTraps': WHATEVER THE INPUT: true; the input reads as it did. -/
def evalTrapsSpec : ChangeSpec := { name := "evalTraps", fn := fun _ => fun
  | [d1, d2] => { results := [.lit (.bool true)], args := [d1, d2] }
  | _ => none }
def evalTrapsRow : OpenClaim := { program := "ytgdefgnmabjmcaagreatdoor", sum := "326e20369cb48f1a05fb354ea5d382e8b6dc7506d1dfed23cbfb2cc577a4d90c", func := "kiln/kilnlaw10.EvalTraps", spec := "evalTraps", inPlace := ["internal/bytealg.IndexByteString", "internal/bytealg.abigen_runtime_cmpstring"], unfollowed := true, recurses := true, named := ["kiln/lex.marks"], apart := false, laid := [("kiln/lex.marks", laid_kiln_lex_marks)] }
def EvalTrapsSaid : Prop := evalTrapsRow.holds Tryz.pinned (OpenSpec.ofChange evalTrapsSpec)

/-- ITS FALSE NEIGHBOUR: 'it returns false'. Refute it at one input. -/
def evalTrapsWrong : ChangeSpec := { name := "evalTraps", fn := fun _ => fun
  | [d1, d2] => { results := [.lit (.bool false)], args := [d1, d2] }
  | _ => none }
def EvalTrapsWrongFalsely : Prop := evalTrapsRow.holds Tryz.pinned (OpenSpec.ofChange evalTrapsWrong)

/-- 'kilnlaw10.EvalAsks': WHATEVER THE INPUT: true; the input reads as it did. -/
def evalAsksSpec : ChangeSpec := { name := "evalAsks", fn := fun _ => fun
  | [d1, d2] => { results := [.lit (.bool true)], args := [d1, d2] }
  | _ => none }
def evalAsksRow : OpenClaim := { program := "ytgdefgnmabjmcaagreatdoor", sum := "326e20369cb48f1a05fb354ea5d382e8b6dc7506d1dfed23cbfb2cc577a4d90c", func := "kiln/kilnlaw10.EvalAsks", spec := "evalAsks", inPlace := ["internal/bytealg.IndexByteString", "internal/bytealg.abigen_runtime_cmpstring"], unfollowed := true, recurses := true, named := ["kiln/lex.marks"], apart := false, laid := [("kiln/lex.marks", laid_kiln_lex_marks)] }
def EvalAsksSaid : Prop := evalAsksRow.holds Tryz.pinned (OpenSpec.ofChange evalAsksSpec)

/-- ITS FALSE NEIGHBOUR: 'it returns false'. Refute it at one input. -/
def evalAsksWrong : ChangeSpec := { name := "evalAsks", fn := fun _ => fun
  | [d1, d2] => { results := [.lit (.bool false)], args := [d1, d2] }
  | _ => none }
def EvalAsksWrongFalsely : Prop := evalAsksRow.holds Tryz.pinned (OpenSpec.ofChange evalAsksWrong)

/-- 'kilnlaw10.EvalLoops': WHATEVER THE INPUT: true; the input reads as it did. -/
def evalLoopsSpec : ChangeSpec := { name := "evalLoops", fn := fun _ => fun
  | [d1, d2] => { results := [.lit (.bool true)], args := [d1, d2] }
  | _ => none }
def evalLoopsRow : OpenClaim := { program := "ytgdefgnmabjmcaagreatdoor", sum := "326e20369cb48f1a05fb354ea5d382e8b6dc7506d1dfed23cbfb2cc577a4d90c", func := "kiln/kilnlaw10.EvalLoops", spec := "evalLoops", inPlace := ["internal/bytealg.IndexByteString", "internal/bytealg.abigen_runtime_cmpstring"], unfollowed := true, recurses := true, named := ["kiln/lex.marks"], apart := false, laid := [("kiln/lex.marks", laid_kiln_lex_marks)] }
def EvalLoopsSaid : Prop := evalLoopsRow.holds Tryz.pinned (OpenSpec.ofChange evalLoopsSpec)

/-- ITS FALSE NEIGHBOUR: 'it returns false'. Refute it at one input. -/
def evalLoopsWrong : ChangeSpec := { name := "evalLoops", fn := fun _ => fun
  | [d1, d2] => { results := [.lit (.bool false)], args := [d1, d2] }
  | _ => none }
def EvalLoopsWrongFalsely : Prop := evalLoopsRow.holds Tryz.pinned (OpenSpec.ofChange evalLoopsWrong)

/-- 'kilnlaw10.EvalShorts': WHATEVER THE INPUT: true; the input reads as it did. -/
def evalShortsSpec : ChangeSpec := { name := "evalShorts", fn := fun _ => fun
  | [d1, d2, d3] => { results := [.lit (.bool true)], args := [d1, d2, d3] }
  | _ => none }
def evalShortsRow : OpenClaim := { program := "ytgdefgnmabjmcaagreatdoor", sum := "326e20369cb48f1a05fb354ea5d382e8b6dc7506d1dfed23cbfb2cc577a4d90c", func := "kiln/kilnlaw10.EvalShorts", spec := "evalShorts", inPlace := ["internal/bytealg.IndexByteString", "internal/bytealg.abigen_runtime_cmpstring"], unfollowed := true, recurses := true, named := ["kiln/lex.marks"], apart := false, laid := [("kiln/lex.marks", laid_kiln_lex_marks)] }
def EvalShortsSaid : Prop := evalShortsRow.holds Tryz.pinned (OpenSpec.ofChange evalShortsSpec)

/-- ITS FALSE NEIGHBOUR: 'it returns false'. Refute it at one input. -/
def evalShortsWrong : ChangeSpec := { name := "evalShorts", fn := fun _ => fun
  | [d1, d2, d3] => { results := [.lit (.bool false)], args := [d1, d2, d3] }
  | _ => none }
def EvalShortsWrongFalsely : Prop := evalShortsRow.holds Tryz.pinned (OpenSpec.ofChange evalShortsWrong)

/-- 'kilnlaw10.EvalObjects': WHATEVER THE INPUT: true; the input reads as it did. -/
def evalObjectsSpec : ChangeSpec := { name := "evalObjects", fn := fun _ => fun
  | [d1, d2, d3, d4] => { results := [.lit (.bool true)], args := [d1, d2, d3, d4] }
  | _ => none }
def evalObjectsRow : OpenClaim := { program := "ytgdefgnmabjmcaagreatdoor", sum := "326e20369cb48f1a05fb354ea5d382e8b6dc7506d1dfed23cbfb2cc577a4d90c", func := "kiln/kilnlaw10.EvalObjects", spec := "evalObjects", inPlace := ["internal/bytealg.IndexByteString", "internal/bytealg.abigen_runtime_cmpstring"], unfollowed := true, recurses := true, named := ["kiln/lex.marks"], apart := false, laid := [("kiln/lex.marks", laid_kiln_lex_marks)] }
def EvalObjectsSaid : Prop := evalObjectsRow.holds Tryz.pinned (OpenSpec.ofChange evalObjectsSpec)

/-- ITS FALSE NEIGHBOUR: 'it returns false'. Refute it at one input. -/
def evalObjectsWrong : ChangeSpec := { name := "evalObjects", fn := fun _ => fun
  | [d1, d2, d3, d4] => { results := [.lit (.bool false)], args := [d1, d2, d3, d4] }
  | _ => none }
def EvalObjectsWrongFalsely : Prop := evalObjectsRow.holds Tryz.pinned (OpenSpec.ofChange evalObjectsWrong)

/-- 'kilnlaw10.EvalRounds': WHATEVER THE INPUT: true; the input reads as it did. -/
def evalRoundsSpec : ChangeSpec := { name := "evalRounds", fn := fun _ => fun
  | [d1, d2] => { results := [.lit (.bool true)], args := [d1, d2] }
  | _ => none }
def evalRoundsRow : OpenClaim := { program := "ytgdefgnmabjmcaagreatdoor", sum := "326e20369cb48f1a05fb354ea5d382e8b6dc7506d1dfed23cbfb2cc577a4d90c", func := "kiln/kilnlaw10.EvalRounds", spec := "evalRounds", inPlace := ["internal/bytealg.IndexByteString", "internal/bytealg.abigen_runtime_cmpstring"], unfollowed := true, recurses := true, named := ["kiln/lex.marks"], apart := false, laid := [("kiln/lex.marks", laid_kiln_lex_marks)] }
def EvalRoundsSaid : Prop := evalRoundsRow.holds Tryz.pinned (OpenSpec.ofChange evalRoundsSpec)

/-- ITS FALSE NEIGHBOUR: 'it returns false'. Refute it at one input. -/
def evalRoundsWrong : ChangeSpec := { name := "evalRounds", fn := fun _ => fun
  | [d1, d2] => { results := [.lit (.bool false)], args := [d1, d2] }
  | _ => none }
def EvalRoundsWrongFalsely : Prop := evalRoundsRow.holds Tryz.pinned (OpenSpec.ofChange evalRoundsWrong)

/-- 'kilnlaw10.EvalCasts': WHATEVER THE INPUT: true; the input reads as it did. -/
def evalCastsSpec : ChangeSpec := { name := "evalCasts", fn := fun _ => fun
  | [d1, d2] => { results := [.lit (.bool true)], args := [d1, d2] }
  | _ => none }
def evalCastsRow : OpenClaim := { program := "ytgdefgnmabjmcaagreatdoor", sum := "326e20369cb48f1a05fb354ea5d382e8b6dc7506d1dfed23cbfb2cc577a4d90c", func := "kiln/kilnlaw10.EvalCasts", spec := "evalCasts", inPlace := ["internal/bytealg.IndexByteString", "internal/bytealg.abigen_runtime_cmpstring"], unfollowed := true, recurses := true, named := ["kiln/lex.marks"], apart := false, laid := [("kiln/lex.marks", laid_kiln_lex_marks)] }
def EvalCastsSaid : Prop := evalCastsRow.holds Tryz.pinned (OpenSpec.ofChange evalCastsSpec)

/-- ITS FALSE NEIGHBOUR: 'it returns false'. Refute it at one input. -/
def evalCastsWrong : ChangeSpec := { name := "evalCasts", fn := fun _ => fun
  | [d1, d2] => { results := [.lit (.bool false)], args := [d1, d2] }
  | _ => none }
def EvalCastsWrongFalsely : Prop := evalCastsRow.holds Tryz.pinned (OpenSpec.ofChange evalCastsWrong)

/- THE SECOND FORM. 'bulk': how many values and letters a reading holds, each counted each time it is reached (what is shared counts as often as it is met; a slice's spare places count too). A statement '..UptoSaid' is the law's where the arguments, and the package variables that the reading takes, are together of bulk at most 1048576: NARROWER than '..Said'. Prove '..Said' where nothing that the law and all that it calls make is longer than what came in: it says more and counts as full. Else prove '..UptoSaid'. A law counts once. -/
mutual
def uptoBulk {H : Type} : DataW H → Nat
  | .lit (.string bytes) => bytes.length + 1
  | .lit _ => 1
  | .nil => 1
  | .ptr d => uptoBulk d + 1
  | .slice elems spare => uptoBulkAll elems + uptoBulkAll spare + 1
  | .agg parts => uptoBulkAll parts + 1
  | .iface _ d => uptoBulk d + 1
  | .map entries => uptoBulkEntries entries + 1
  | .held _ => 1
def uptoBulkAll {H : Type} : List (DataW H) → Nat
  | [] => 0
  | d :: r => uptoBulk d + uptoBulkAll r
def uptoBulkEntries {H : Type} : List (Lit × DataW H) → Nat
  | [] => 0
  | x :: r => uptoBulkEntry x + uptoBulkEntries r
def uptoBulkEntry {H : Type} : Lit × DataW H → Nat
  | (.string bytes, d) => bytes.length + uptoBulk d + 1
  | (_, d) => uptoBulk d + 1
 end
def uptoSmall : (H : Type) → List (DataW H) → Bool := fun _ ds => decide (uptoBulkAll ds ≤ 1048576)
def OpenSpec.upto (s : _root_.Go.ChangeSpec) : _root_.Go.OpenSpec := { _root_.Go.OpenSpec.ofChange s with cond := some uptoSmall }

/-- 'kilnlaw09.TypesErrors', WHERE WHAT IT READS IS OF BULK AT MOST 1048576: true; the input reads as it did. -/
def typesErrorsUptoRow : OpenClaim := { program := "ytgdefgnmabjmcaagreatdoor", sum := "326e20369cb48f1a05fb354ea5d382e8b6dc7506d1dfed23cbfb2cc577a4d90c", func := "kiln/kilnlaw09.TypesErrors", spec := "typesErrors", inPlace := ["internal/bytealg.IndexByteString", "internal/bytealg.abigen_runtime_cmpstring"], unfollowed := true, recurses := true, named := ["kiln/lex.marks"], apart := false, laid := [("kiln/lex.marks", laid_kiln_lex_marks)], narrowed := true }
def TypesErrorsUptoSaid : Prop := typesErrorsUptoRow.holds Tryz.pinned (OpenSpec.upto typesErrorsSpec)

/-- 'kilnlaw09.TypesScopes', WHERE WHAT IT READS IS OF BULK AT MOST 1048576: true; the input reads as it did. -/
def typesScopesUptoRow : OpenClaim := { program := "ytgdefgnmabjmcaagreatdoor", sum := "326e20369cb48f1a05fb354ea5d382e8b6dc7506d1dfed23cbfb2cc577a4d90c", func := "kiln/kilnlaw09.TypesScopes", spec := "typesScopes", inPlace := ["internal/bytealg.IndexByteString", "internal/bytealg.abigen_runtime_cmpstring"], unfollowed := true, recurses := true, named := ["kiln/lex.marks"], apart := false, laid := [("kiln/lex.marks", laid_kiln_lex_marks)], narrowed := true }
def TypesScopesUptoSaid : Prop := typesScopesUptoRow.holds Tryz.pinned (OpenSpec.upto typesScopesSpec)

/-- 'kilnlaw09.TypesLocals', WHERE WHAT IT READS IS OF BULK AT MOST 1048576: true; the input reads as it did. -/
def typesLocalsUptoRow : OpenClaim := { program := "ytgdefgnmabjmcaagreatdoor", sum := "326e20369cb48f1a05fb354ea5d382e8b6dc7506d1dfed23cbfb2cc577a4d90c", func := "kiln/kilnlaw09.TypesLocals", spec := "typesLocals", inPlace := ["internal/bytealg.IndexByteString", "internal/bytealg.abigen_runtime_cmpstring"], unfollowed := true, recurses := true, named := ["kiln/lex.marks"], apart := false, laid := [("kiln/lex.marks", laid_kiln_lex_marks)], narrowed := true }
def TypesLocalsUptoSaid : Prop := typesLocalsUptoRow.holds Tryz.pinned (OpenSpec.upto typesLocalsSpec)

/-- 'kilnlaw09.TypesReturns', WHERE WHAT IT READS IS OF BULK AT MOST 1048576: true; the input reads as it did. -/
def typesReturnsUptoRow : OpenClaim := { program := "ytgdefgnmabjmcaagreatdoor", sum := "326e20369cb48f1a05fb354ea5d382e8b6dc7506d1dfed23cbfb2cc577a4d90c", func := "kiln/kilnlaw09.TypesReturns", spec := "typesReturns", inPlace := ["internal/bytealg.IndexByteString", "internal/bytealg.abigen_runtime_cmpstring"], unfollowed := true, recurses := true, named := ["kiln/lex.marks"], apart := false, laid := [("kiln/lex.marks", laid_kiln_lex_marks)], narrowed := true }
def TypesReturnsUptoSaid : Prop := typesReturnsUptoRow.holds Tryz.pinned (OpenSpec.upto typesReturnsSpec)

/-- 'kilnlaw10.EvalSums', WHERE WHAT IT READS IS OF BULK AT MOST 1048576: true; the input reads as it did. -/
def evalSumsUptoRow : OpenClaim := { program := "ytgdefgnmabjmcaagreatdoor", sum := "326e20369cb48f1a05fb354ea5d382e8b6dc7506d1dfed23cbfb2cc577a4d90c", func := "kiln/kilnlaw10.EvalSums", spec := "evalSums", inPlace := ["internal/bytealg.IndexByteString", "internal/bytealg.abigen_runtime_cmpstring"], unfollowed := true, recurses := true, named := ["kiln/lex.marks"], apart := false, laid := [("kiln/lex.marks", laid_kiln_lex_marks)], narrowed := true }
def EvalSumsUptoSaid : Prop := evalSumsUptoRow.holds Tryz.pinned (OpenSpec.upto evalSumsSpec)

/-- 'kilnlaw10.EvalTraps', WHERE WHAT IT READS IS OF BULK AT MOST 1048576: true; the input reads as it did. -/
def evalTrapsUptoRow : OpenClaim := { program := "ytgdefgnmabjmcaagreatdoor", sum := "326e20369cb48f1a05fb354ea5d382e8b6dc7506d1dfed23cbfb2cc577a4d90c", func := "kiln/kilnlaw10.EvalTraps", spec := "evalTraps", inPlace := ["internal/bytealg.IndexByteString", "internal/bytealg.abigen_runtime_cmpstring"], unfollowed := true, recurses := true, named := ["kiln/lex.marks"], apart := false, laid := [("kiln/lex.marks", laid_kiln_lex_marks)], narrowed := true }
def EvalTrapsUptoSaid : Prop := evalTrapsUptoRow.holds Tryz.pinned (OpenSpec.upto evalTrapsSpec)

/-- 'kilnlaw10.EvalAsks', WHERE WHAT IT READS IS OF BULK AT MOST 1048576: true; the input reads as it did. -/
def evalAsksUptoRow : OpenClaim := { program := "ytgdefgnmabjmcaagreatdoor", sum := "326e20369cb48f1a05fb354ea5d382e8b6dc7506d1dfed23cbfb2cc577a4d90c", func := "kiln/kilnlaw10.EvalAsks", spec := "evalAsks", inPlace := ["internal/bytealg.IndexByteString", "internal/bytealg.abigen_runtime_cmpstring"], unfollowed := true, recurses := true, named := ["kiln/lex.marks"], apart := false, laid := [("kiln/lex.marks", laid_kiln_lex_marks)], narrowed := true }
def EvalAsksUptoSaid : Prop := evalAsksUptoRow.holds Tryz.pinned (OpenSpec.upto evalAsksSpec)

/-- 'kilnlaw10.EvalLoops', WHERE WHAT IT READS IS OF BULK AT MOST 1048576: true; the input reads as it did. -/
def evalLoopsUptoRow : OpenClaim := { program := "ytgdefgnmabjmcaagreatdoor", sum := "326e20369cb48f1a05fb354ea5d382e8b6dc7506d1dfed23cbfb2cc577a4d90c", func := "kiln/kilnlaw10.EvalLoops", spec := "evalLoops", inPlace := ["internal/bytealg.IndexByteString", "internal/bytealg.abigen_runtime_cmpstring"], unfollowed := true, recurses := true, named := ["kiln/lex.marks"], apart := false, laid := [("kiln/lex.marks", laid_kiln_lex_marks)], narrowed := true }
def EvalLoopsUptoSaid : Prop := evalLoopsUptoRow.holds Tryz.pinned (OpenSpec.upto evalLoopsSpec)

/-- 'kilnlaw10.EvalShorts', WHERE WHAT IT READS IS OF BULK AT MOST 1048576: true; the input reads as it did. -/
def evalShortsUptoRow : OpenClaim := { program := "ytgdefgnmabjmcaagreatdoor", sum := "326e20369cb48f1a05fb354ea5d382e8b6dc7506d1dfed23cbfb2cc577a4d90c", func := "kiln/kilnlaw10.EvalShorts", spec := "evalShorts", inPlace := ["internal/bytealg.IndexByteString", "internal/bytealg.abigen_runtime_cmpstring"], unfollowed := true, recurses := true, named := ["kiln/lex.marks"], apart := false, laid := [("kiln/lex.marks", laid_kiln_lex_marks)], narrowed := true }
def EvalShortsUptoSaid : Prop := evalShortsUptoRow.holds Tryz.pinned (OpenSpec.upto evalShortsSpec)

/-- 'kilnlaw10.EvalObjects', WHERE WHAT IT READS IS OF BULK AT MOST 1048576: true; the input reads as it did. -/
def evalObjectsUptoRow : OpenClaim := { program := "ytgdefgnmabjmcaagreatdoor", sum := "326e20369cb48f1a05fb354ea5d382e8b6dc7506d1dfed23cbfb2cc577a4d90c", func := "kiln/kilnlaw10.EvalObjects", spec := "evalObjects", inPlace := ["internal/bytealg.IndexByteString", "internal/bytealg.abigen_runtime_cmpstring"], unfollowed := true, recurses := true, named := ["kiln/lex.marks"], apart := false, laid := [("kiln/lex.marks", laid_kiln_lex_marks)], narrowed := true }
def EvalObjectsUptoSaid : Prop := evalObjectsUptoRow.holds Tryz.pinned (OpenSpec.upto evalObjectsSpec)

/-- 'kilnlaw10.EvalRounds', WHERE WHAT IT READS IS OF BULK AT MOST 1048576: true; the input reads as it did. -/
def evalRoundsUptoRow : OpenClaim := { program := "ytgdefgnmabjmcaagreatdoor", sum := "326e20369cb48f1a05fb354ea5d382e8b6dc7506d1dfed23cbfb2cc577a4d90c", func := "kiln/kilnlaw10.EvalRounds", spec := "evalRounds", inPlace := ["internal/bytealg.IndexByteString", "internal/bytealg.abigen_runtime_cmpstring"], unfollowed := true, recurses := true, named := ["kiln/lex.marks"], apart := false, laid := [("kiln/lex.marks", laid_kiln_lex_marks)], narrowed := true }
def EvalRoundsUptoSaid : Prop := evalRoundsUptoRow.holds Tryz.pinned (OpenSpec.upto evalRoundsSpec)

/-- 'kilnlaw10.EvalCasts', WHERE WHAT IT READS IS OF BULK AT MOST 1048576: true; the input reads as it did. -/
def evalCastsUptoRow : OpenClaim := { program := "ytgdefgnmabjmcaagreatdoor", sum := "326e20369cb48f1a05fb354ea5d382e8b6dc7506d1dfed23cbfb2cc577a4d90c", func := "kiln/kilnlaw10.EvalCasts", spec := "evalCasts", inPlace := ["internal/bytealg.IndexByteString", "internal/bytealg.abigen_runtime_cmpstring"], unfollowed := true, recurses := true, named := ["kiln/lex.marks"], apart := false, laid := [("kiln/lex.marks", laid_kiln_lex_marks)], narrowed := true }
def EvalCastsUptoSaid : Prop := evalCastsUptoRow.holds Tryz.pinned (OpenSpec.upto evalCastsSpec)

end Rows
end Go.Proofs.YtgdefgnmabjmcaaGreatDoor
