/-
  DERIVED. GIVEN WITH THE SEED: THE CARDS: each row of YtdellhdojgpghaaGreatDoorRows.lean that lists a variable, with what it lists TIED to the program's text (the seventh form; the later family's looks); each row that meets fmt, with fmt's text TOLD by the authors' own Lean function (tested against real Go, not proved from fmt's source: count such statements apart). THE CARD IS WHAT COUNTS. Prove the row's statement (the work); the ties are given (YtdellhdojgpghaaGreatDoorTie.lean); close each card by the builder's one call (the guide's Derived/Test/ToyasCard.lean, 'card_holds'). Laid BY PROGRAM, IN A SANDBOX (cutbox-door.mjs). By AI agents, Wed Nov 11 2026. No macro, syntax, notation, axiom, sorry.
-/
import Derived.Test.YtdellhdojgpghaaGreatDoorRows
import GoSem.ClaimSeven
namespace Go.Proofs.YtdellhdojgpghaaGreatDoor
namespace Rows

/-- THE TIED CARD OF 'kilnlaw09.TypesLocals'. -/
def typesLocalsCard : Claim7 := { stood := { row := typesLocalsRow, standIns := [], harness := (true, "55f8c09bd7a621edd4c4df1655e13b832bc0fa04264f64c22cbe6ac5d71e5e15"), looks := false }, kinds := [], alts := [], laidByText := true, laidKinds := [.data], laidTests := true, laidLooks := .later }
def TypesLocalsCardSaid : Prop := Claim7.holds Tryz.pinned (.plain (OpenSpec.ofChange typesLocalsSpec)) typesLocalsCard

/-- THE SECOND FORM's CARD OF 'kilnlaw09.TypesLocals'. -/
def typesLocalsUptoCard : Claim7 := { stood := { row := typesLocalsUptoRow, standIns := [], harness := (true, "55f8c09bd7a621edd4c4df1655e13b832bc0fa04264f64c22cbe6ac5d71e5e15"), looks := false }, kinds := [], alts := [], laidByText := true, laidKinds := [.data], laidTests := true, laidLooks := .later }
def TypesLocalsUptoCardSaid : Prop := Claim7.holds Tryz.pinned (.plain (OpenSpec.upto typesLocalsSpec)) typesLocalsUptoCard
end Rows
end Go.Proofs.YtdellhdojgpghaaGreatDoor
