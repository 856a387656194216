/-
  DERIVED. GIVEN WITH THE SEED: THE CARDS: each row of YtldgkimnlbkddaaGreatDoorRows.lean that lists a variable, with what it lists TIED to the program's text (the seventh form; the later family's looks); each row that meets fmt, with fmt's text TOLD by the authors' own Lean function (tested against real Go, not proved from fmt's source: count such statements apart). THE CARD IS WHAT COUNTS. Prove the row's statement (the work); the ties are given (YtldgkimnlbkddaaGreatDoorTie.lean); close each card by the builder's one call (the guide's Derived/Test/ToyasCard.lean, 'card_holds'). Laid BY PROGRAM, IN A SANDBOX (cutbox-door.mjs). By AI agents, Wed Nov 11 2026. No macro, syntax, notation, axiom, sorry.
-/
import Derived.Test.YtldgkimnlbkddaaGreatDoorRows
import GoSem.ClaimSeven
namespace Go.Proofs.YtldgkimnlbkddaaGreatDoor
namespace Rows

/-- THE TIED CARD OF 'kilnlaw16.VmMore'. -/
def vmMoreCard : Claim7 := { stood := { row := vmMoreRow, standIns := [], harness := (true, "dcc993812aa11a7e5346190fa463a9709561695bbe582b8f3d28b985090e2a5b"), looks := false }, kinds := [], alts := [], laidByText := true, laidKinds := [.data, .data], laidTests := true, laidLooks := .later }
def VmMoreCardSaid : Prop := Claim7.holds Tryz.pinned (.plain (OpenSpec.ofChange vmMoreSpec)) vmMoreCard

/-- THE SECOND FORM's CARD OF 'kilnlaw16.VmMore'. -/
def vmMoreUptoCard : Claim7 := { stood := { row := vmMoreUptoRow, standIns := [], harness := (true, "dcc993812aa11a7e5346190fa463a9709561695bbe582b8f3d28b985090e2a5b"), looks := false }, kinds := [], alts := [], laidByText := true, laidKinds := [.data, .data], laidTests := true, laidLooks := .later }
def VmMoreUptoCardSaid : Prop := Claim7.holds Tryz.pinned (.plain (OpenSpec.upto vmMoreSpec)) vmMoreUptoCard
end Rows
end Go.Proofs.YtldgkimnlbkddaaGreatDoor
