/-
  DERIVED. GIVEN WITH THE SEED: THE CARDS: each row of YtcjkfmaoahojeaaGreatDoorRows.lean that lists a variable, with what it lists TIED to the program's text (the seventh form; the later family's looks); each row that meets fmt, with fmt's text TOLD by the authors' own Lean function (tested against real Go, not proved from fmt's source: count such statements apart). THE CARD IS WHAT COUNTS. Prove the row's statement (the work); the ties are given (YtcjkfmaoahojeaaGreatDoorTie.lean); close each card by the builder's one call (the guide's Derived/Test/ToyasCard.lean, 'card_holds'). Laid BY PROGRAM, IN A SANDBOX (cutbox-door.mjs). By AI agents, Wed Nov 11 2026. No macro, syntax, notation, axiom, sorry.
-/
import Derived.Test.YtcjkfmaoahojeaaGreatDoorRows
import GoSem.ClaimSeven
namespace Go.Proofs.YtcjkfmaoahojeaaGreatDoor
namespace Rows

/-- THE TIED CARD OF 'kilnlaw06.ParseBacks'. -/
def parseBacksCard : Claim7 := { stood := { row := parseBacksRow, standIns := [], harness := (true, "220cfa77b389be5f81db30728136b4036fa4718e3d66e050afe1f84ac73b8a5d"), looks := false }, kinds := [], alts := [], laidByText := true, laidKinds := [.data, .data, .data, .data], laidTests := true, laidLooks := .later }
def ParseBacksCardSaid : Prop := Claim7.holds Tryz.pinned (.plain (OpenSpec.ofChange parseBacksSpec)) parseBacksCard

/-- THE TIED CARD OF 'kilnlaw06.ParseBlanks'. -/
def parseBlanksCard : Claim7 := { stood := { row := parseBlanksRow, standIns := [], harness := (true, "220cfa77b389be5f81db30728136b4036fa4718e3d66e050afe1f84ac73b8a5d"), looks := false }, kinds := [], alts := [], laidByText := true, laidKinds := [.data, .data, .data, .data], laidTests := true, laidLooks := .later }
def ParseBlanksCardSaid : Prop := Claim7.holds Tryz.pinned (.plain (OpenSpec.ofChange parseBlanksSpec)) parseBlanksCard

/-- THE SECOND FORM's CARD OF 'kilnlaw06.ParseBacks'. -/
def parseBacksUptoCard : Claim7 := { stood := { row := parseBacksUptoRow, standIns := [], harness := (true, "220cfa77b389be5f81db30728136b4036fa4718e3d66e050afe1f84ac73b8a5d"), looks := false }, kinds := [], alts := [], laidByText := true, laidKinds := [.data, .data, .data, .data], laidTests := true, laidLooks := .later }
def ParseBacksUptoCardSaid : Prop := Claim7.holds Tryz.pinned (.plain (OpenSpec.upto parseBacksSpec)) parseBacksUptoCard

/-- THE SECOND FORM's CARD OF 'kilnlaw06.ParseBlanks'. -/
def parseBlanksUptoCard : Claim7 := { stood := { row := parseBlanksUptoRow, standIns := [], harness := (true, "220cfa77b389be5f81db30728136b4036fa4718e3d66e050afe1f84ac73b8a5d"), looks := false }, kinds := [], alts := [], laidByText := true, laidKinds := [.data, .data, .data, .data], laidTests := true, laidLooks := .later }
def ParseBlanksUptoCardSaid : Prop := Claim7.holds Tryz.pinned (.plain (OpenSpec.upto parseBlanksSpec)) parseBlanksUptoCard
end Rows
end Go.Proofs.YtcjkfmaoahojeaaGreatDoor
