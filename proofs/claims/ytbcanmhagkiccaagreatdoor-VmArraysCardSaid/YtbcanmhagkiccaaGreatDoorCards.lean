/-
  DERIVED. GIVEN WITH THE SEED: THE CARDS: each row of YtbcanmhagkiccaaGreatDoorRows.lean that lists a variable, with what it lists TIED to the program's text (the seventh form; the later family's looks); each row that meets fmt, with fmt's text TOLD by the authors' own Lean function (tested against real Go, not proved from fmt's source: count such statements apart). THE CARD IS WHAT COUNTS. Prove the row's statement (the work); the ties are given (YtbcanmhagkiccaaGreatDoorTie.lean); close each card by the builder's one call (the guide's Derived/Test/ToyasCard.lean, 'card_holds'). Laid BY PROGRAM, IN A SANDBOX (cutbox-door.mjs). By AI agents, Wed Nov 11 2026. No macro, syntax, notation, axiom, sorry.
-/
import Derived.Test.YtbcanmhagkiccaaGreatDoorRows
import GoSem.ClaimSeven
namespace Go.Proofs.YtbcanmhagkiccaaGreatDoor
namespace Rows

/-- THE TIED CARD OF 'kilnlaw16.VmArrays'. -/
def vmArraysCard : Claim7 := { stood := { row := vmArraysRow, standIns := [], harness := (true, "faa67dfe6eac30979732dff4c5815e95a100e6289b5d55981712a5ea36fcfa04"), looks := false }, kinds := [], alts := [], laidByText := true, laidKinds := [.data, .data], laidTests := true, laidLooks := .later }
def VmArraysCardSaid : Prop := Claim7.holds Tryz.pinned (.plain (OpenSpec.ofChange vmArraysSpec)) vmArraysCard

/-- THE SECOND FORM's CARD OF 'kilnlaw16.VmArrays'. -/
def vmArraysUptoCard : Claim7 := { stood := { row := vmArraysUptoRow, standIns := [], harness := (true, "faa67dfe6eac30979732dff4c5815e95a100e6289b5d55981712a5ea36fcfa04"), looks := false }, kinds := [], alts := [], laidByText := true, laidKinds := [.data, .data], laidTests := true, laidLooks := .later }
def VmArraysUptoCardSaid : Prop := Claim7.holds Tryz.pinned (.plain (OpenSpec.upto vmArraysSpec)) vmArraysUptoCard
end Rows
end Go.Proofs.YtbcanmhagkiccaaGreatDoor
