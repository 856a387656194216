/-
  DERIVED. GIVEN WITH THE SEED: THE CARDS: each row of YtgdefgnmabjmcaaGreatDoorRows.lean that lists a variable, with what it lists TIED to the program's text (the seventh form; the later family's looks); each row that meets fmt, with fmt's text TOLD by the authors' own Lean function (tested against real Go, not proved from fmt's source: count such statements apart). THE CARD IS WHAT COUNTS. Prove the row's statement (the work); the ties are given (YtgdefgnmabjmcaaGreatDoorTie.lean); close each card by the builder's one call (the guide's Derived/Test/ToyasCard.lean, 'card_holds'). Laid BY PROGRAM, IN A SANDBOX (cutbox-door.mjs). By AI agents, Wed Nov 11 2026. No macro, syntax, notation, axiom, sorry.
-/
import Derived.Test.YtgdefgnmabjmcaaGreatDoorRows
import GoSem.ClaimSeven
namespace Go.Proofs.YtgdefgnmabjmcaaGreatDoor
namespace Rows

/-- THE TIED CARD OF 'kilnlaw09.TypesErrors'. -/
def typesErrorsCard : Claim7 := { stood := { row := typesErrorsRow, standIns := [], harness := (true, "dad5946ae5211f6ca16c1d0b774a8f70a96f95c421f047f3dddbc9f7b8b60996"), looks := false }, kinds := [], alts := [], laidByText := true, laidKinds := [.data], laidTests := true, laidLooks := .later }
def TypesErrorsCardSaid : Prop := Claim7.holds Tryz.pinned (.plain (OpenSpec.ofChange typesErrorsSpec)) typesErrorsCard

/-- THE TIED CARD OF 'kilnlaw09.TypesScopes'. -/
def typesScopesCard : Claim7 := { stood := { row := typesScopesRow, standIns := [], harness := (true, "dad5946ae5211f6ca16c1d0b774a8f70a96f95c421f047f3dddbc9f7b8b60996"), looks := false }, kinds := [], alts := [], laidByText := true, laidKinds := [.data], laidTests := true, laidLooks := .later }
def TypesScopesCardSaid : Prop := Claim7.holds Tryz.pinned (.plain (OpenSpec.ofChange typesScopesSpec)) typesScopesCard

/-- THE TIED CARD OF 'kilnlaw09.TypesLocals'. -/
def typesLocalsCard : Claim7 := { stood := { row := typesLocalsRow, standIns := [], harness := (true, "dad5946ae5211f6ca16c1d0b774a8f70a96f95c421f047f3dddbc9f7b8b60996"), looks := false }, kinds := [], alts := [], laidByText := true, laidKinds := [.data], laidTests := true, laidLooks := .later }
def TypesLocalsCardSaid : Prop := Claim7.holds Tryz.pinned (.plain (OpenSpec.ofChange typesLocalsSpec)) typesLocalsCard

/-- THE TIED CARD OF 'kilnlaw09.TypesReturns'. -/
def typesReturnsCard : Claim7 := { stood := { row := typesReturnsRow, standIns := [], harness := (true, "dad5946ae5211f6ca16c1d0b774a8f70a96f95c421f047f3dddbc9f7b8b60996"), looks := false }, kinds := [], alts := [], laidByText := true, laidKinds := [.data], laidTests := true, laidLooks := .later }
def TypesReturnsCardSaid : Prop := Claim7.holds Tryz.pinned (.plain (OpenSpec.ofChange typesReturnsSpec)) typesReturnsCard

/-- THE TIED CARD OF 'kilnlaw10.EvalSums'. -/
def evalSumsCard : Claim7 := { stood := { row := evalSumsRow, standIns := [], harness := (true, "dad5946ae5211f6ca16c1d0b774a8f70a96f95c421f047f3dddbc9f7b8b60996"), looks := false }, kinds := [], alts := [], laidByText := true, laidKinds := [.data], laidTests := true, laidLooks := .later }
def EvalSumsCardSaid : Prop := Claim7.holds Tryz.pinned (.plain (OpenSpec.ofChange evalSumsSpec)) evalSumsCard

/-- THE TIED CARD OF 'kilnlaw10.EvalTraps'. -/
def evalTrapsCard : Claim7 := { stood := { row := evalTrapsRow, standIns := [], harness := (true, "dad5946ae5211f6ca16c1d0b774a8f70a96f95c421f047f3dddbc9f7b8b60996"), looks := false }, kinds := [], alts := [], laidByText := true, laidKinds := [.data], laidTests := true, laidLooks := .later }
def EvalTrapsCardSaid : Prop := Claim7.holds Tryz.pinned (.plain (OpenSpec.ofChange evalTrapsSpec)) evalTrapsCard

/-- THE TIED CARD OF 'kilnlaw10.EvalAsks'. -/
def evalAsksCard : Claim7 := { stood := { row := evalAsksRow, standIns := [], harness := (true, "dad5946ae5211f6ca16c1d0b774a8f70a96f95c421f047f3dddbc9f7b8b60996"), looks := false }, kinds := [], alts := [], laidByText := true, laidKinds := [.data], laidTests := true, laidLooks := .later }
def EvalAsksCardSaid : Prop := Claim7.holds Tryz.pinned (.plain (OpenSpec.ofChange evalAsksSpec)) evalAsksCard

/-- THE TIED CARD OF 'kilnlaw10.EvalLoops'. -/
def evalLoopsCard : Claim7 := { stood := { row := evalLoopsRow, standIns := [], harness := (true, "dad5946ae5211f6ca16c1d0b774a8f70a96f95c421f047f3dddbc9f7b8b60996"), looks := false }, kinds := [], alts := [], laidByText := true, laidKinds := [.data], laidTests := true, laidLooks := .later }
def EvalLoopsCardSaid : Prop := Claim7.holds Tryz.pinned (.plain (OpenSpec.ofChange evalLoopsSpec)) evalLoopsCard

/-- THE TIED CARD OF 'kilnlaw10.EvalShorts'. -/
def evalShortsCard : Claim7 := { stood := { row := evalShortsRow, standIns := [], harness := (true, "dad5946ae5211f6ca16c1d0b774a8f70a96f95c421f047f3dddbc9f7b8b60996"), looks := false }, kinds := [], alts := [], laidByText := true, laidKinds := [.data], laidTests := true, laidLooks := .later }
def EvalShortsCardSaid : Prop := Claim7.holds Tryz.pinned (.plain (OpenSpec.ofChange evalShortsSpec)) evalShortsCard

/-- THE TIED CARD OF 'kilnlaw10.EvalObjects'. -/
def evalObjectsCard : Claim7 := { stood := { row := evalObjectsRow, standIns := [], harness := (true, "dad5946ae5211f6ca16c1d0b774a8f70a96f95c421f047f3dddbc9f7b8b60996"), looks := false }, kinds := [], alts := [], laidByText := true, laidKinds := [.data], laidTests := true, laidLooks := .later }
def EvalObjectsCardSaid : Prop := Claim7.holds Tryz.pinned (.plain (OpenSpec.ofChange evalObjectsSpec)) evalObjectsCard

/-- THE TIED CARD OF 'kilnlaw10.EvalRounds'. -/
def evalRoundsCard : Claim7 := { stood := { row := evalRoundsRow, standIns := [], harness := (true, "dad5946ae5211f6ca16c1d0b774a8f70a96f95c421f047f3dddbc9f7b8b60996"), looks := false }, kinds := [], alts := [], laidByText := true, laidKinds := [.data], laidTests := true, laidLooks := .later }
def EvalRoundsCardSaid : Prop := Claim7.holds Tryz.pinned (.plain (OpenSpec.ofChange evalRoundsSpec)) evalRoundsCard

/-- THE TIED CARD OF 'kilnlaw10.EvalCasts'. -/
def evalCastsCard : Claim7 := { stood := { row := evalCastsRow, standIns := [], harness := (true, "dad5946ae5211f6ca16c1d0b774a8f70a96f95c421f047f3dddbc9f7b8b60996"), looks := false }, kinds := [], alts := [], laidByText := true, laidKinds := [.data], laidTests := true, laidLooks := .later }
def EvalCastsCardSaid : Prop := Claim7.holds Tryz.pinned (.plain (OpenSpec.ofChange evalCastsSpec)) evalCastsCard

/-- THE SECOND FORM's CARD OF 'kilnlaw09.TypesErrors'. -/
def typesErrorsUptoCard : Claim7 := { stood := { row := typesErrorsUptoRow, standIns := [], harness := (true, "dad5946ae5211f6ca16c1d0b774a8f70a96f95c421f047f3dddbc9f7b8b60996"), looks := false }, kinds := [], alts := [], laidByText := true, laidKinds := [.data], laidTests := true, laidLooks := .later }
def TypesErrorsUptoCardSaid : Prop := Claim7.holds Tryz.pinned (.plain (OpenSpec.upto typesErrorsSpec)) typesErrorsUptoCard

/-- THE SECOND FORM's CARD OF 'kilnlaw09.TypesScopes'. -/
def typesScopesUptoCard : Claim7 := { stood := { row := typesScopesUptoRow, standIns := [], harness := (true, "dad5946ae5211f6ca16c1d0b774a8f70a96f95c421f047f3dddbc9f7b8b60996"), looks := false }, kinds := [], alts := [], laidByText := true, laidKinds := [.data], laidTests := true, laidLooks := .later }
def TypesScopesUptoCardSaid : Prop := Claim7.holds Tryz.pinned (.plain (OpenSpec.upto typesScopesSpec)) typesScopesUptoCard

/-- THE SECOND FORM's CARD OF 'kilnlaw09.TypesLocals'. -/
def typesLocalsUptoCard : Claim7 := { stood := { row := typesLocalsUptoRow, standIns := [], harness := (true, "dad5946ae5211f6ca16c1d0b774a8f70a96f95c421f047f3dddbc9f7b8b60996"), looks := false }, kinds := [], alts := [], laidByText := true, laidKinds := [.data], laidTests := true, laidLooks := .later }
def TypesLocalsUptoCardSaid : Prop := Claim7.holds Tryz.pinned (.plain (OpenSpec.upto typesLocalsSpec)) typesLocalsUptoCard

/-- THE SECOND FORM's CARD OF 'kilnlaw09.TypesReturns'. -/
def typesReturnsUptoCard : Claim7 := { stood := { row := typesReturnsUptoRow, standIns := [], harness := (true, "dad5946ae5211f6ca16c1d0b774a8f70a96f95c421f047f3dddbc9f7b8b60996"), looks := false }, kinds := [], alts := [], laidByText := true, laidKinds := [.data], laidTests := true, laidLooks := .later }
def TypesReturnsUptoCardSaid : Prop := Claim7.holds Tryz.pinned (.plain (OpenSpec.upto typesReturnsSpec)) typesReturnsUptoCard

/-- THE SECOND FORM's CARD OF 'kilnlaw10.EvalSums'. -/
def evalSumsUptoCard : Claim7 := { stood := { row := evalSumsUptoRow, standIns := [], harness := (true, "dad5946ae5211f6ca16c1d0b774a8f70a96f95c421f047f3dddbc9f7b8b60996"), looks := false }, kinds := [], alts := [], laidByText := true, laidKinds := [.data], laidTests := true, laidLooks := .later }
def EvalSumsUptoCardSaid : Prop := Claim7.holds Tryz.pinned (.plain (OpenSpec.upto evalSumsSpec)) evalSumsUptoCard

/-- THE SECOND FORM's CARD OF 'kilnlaw10.EvalTraps'. -/
def evalTrapsUptoCard : Claim7 := { stood := { row := evalTrapsUptoRow, standIns := [], harness := (true, "dad5946ae5211f6ca16c1d0b774a8f70a96f95c421f047f3dddbc9f7b8b60996"), looks := false }, kinds := [], alts := [], laidByText := true, laidKinds := [.data], laidTests := true, laidLooks := .later }
def EvalTrapsUptoCardSaid : Prop := Claim7.holds Tryz.pinned (.plain (OpenSpec.upto evalTrapsSpec)) evalTrapsUptoCard

/-- THE SECOND FORM's CARD OF 'kilnlaw10.EvalAsks'. -/
def evalAsksUptoCard : Claim7 := { stood := { row := evalAsksUptoRow, standIns := [], harness := (true, "dad5946ae5211f6ca16c1d0b774a8f70a96f95c421f047f3dddbc9f7b8b60996"), looks := false }, kinds := [], alts := [], laidByText := true, laidKinds := [.data], laidTests := true, laidLooks := .later }
def EvalAsksUptoCardSaid : Prop := Claim7.holds Tryz.pinned (.plain (OpenSpec.upto evalAsksSpec)) evalAsksUptoCard

/-- THE SECOND FORM's CARD OF 'kilnlaw10.EvalLoops'. -/
def evalLoopsUptoCard : Claim7 := { stood := { row := evalLoopsUptoRow, standIns := [], harness := (true, "dad5946ae5211f6ca16c1d0b774a8f70a96f95c421f047f3dddbc9f7b8b60996"), looks := false }, kinds := [], alts := [], laidByText := true, laidKinds := [.data], laidTests := true, laidLooks := .later }
def EvalLoopsUptoCardSaid : Prop := Claim7.holds Tryz.pinned (.plain (OpenSpec.upto evalLoopsSpec)) evalLoopsUptoCard

/-- THE SECOND FORM's CARD OF 'kilnlaw10.EvalShorts'. -/
def evalShortsUptoCard : Claim7 := { stood := { row := evalShortsUptoRow, standIns := [], harness := (true, "dad5946ae5211f6ca16c1d0b774a8f70a96f95c421f047f3dddbc9f7b8b60996"), looks := false }, kinds := [], alts := [], laidByText := true, laidKinds := [.data], laidTests := true, laidLooks := .later }
def EvalShortsUptoCardSaid : Prop := Claim7.holds Tryz.pinned (.plain (OpenSpec.upto evalShortsSpec)) evalShortsUptoCard

/-- THE SECOND FORM's CARD OF 'kilnlaw10.EvalObjects'. -/
def evalObjectsUptoCard : Claim7 := { stood := { row := evalObjectsUptoRow, standIns := [], harness := (true, "dad5946ae5211f6ca16c1d0b774a8f70a96f95c421f047f3dddbc9f7b8b60996"), looks := false }, kinds := [], alts := [], laidByText := true, laidKinds := [.data], laidTests := true, laidLooks := .later }
def EvalObjectsUptoCardSaid : Prop := Claim7.holds Tryz.pinned (.plain (OpenSpec.upto evalObjectsSpec)) evalObjectsUptoCard

/-- THE SECOND FORM's CARD OF 'kilnlaw10.EvalRounds'. -/
def evalRoundsUptoCard : Claim7 := { stood := { row := evalRoundsUptoRow, standIns := [], harness := (true, "dad5946ae5211f6ca16c1d0b774a8f70a96f95c421f047f3dddbc9f7b8b60996"), looks := false }, kinds := [], alts := [], laidByText := true, laidKinds := [.data], laidTests := true, laidLooks := .later }
def EvalRoundsUptoCardSaid : Prop := Claim7.holds Tryz.pinned (.plain (OpenSpec.upto evalRoundsSpec)) evalRoundsUptoCard

/-- THE SECOND FORM's CARD OF 'kilnlaw10.EvalCasts'. -/
def evalCastsUptoCard : Claim7 := { stood := { row := evalCastsUptoRow, standIns := [], harness := (true, "dad5946ae5211f6ca16c1d0b774a8f70a96f95c421f047f3dddbc9f7b8b60996"), looks := false }, kinds := [], alts := [], laidByText := true, laidKinds := [.data], laidTests := true, laidLooks := .later }
def EvalCastsUptoCardSaid : Prop := Claim7.holds Tryz.pinned (.plain (OpenSpec.upto evalCastsSpec)) evalCastsUptoCard
end Rows
end Go.Proofs.YtgdefgnmabjmcaaGreatDoor
