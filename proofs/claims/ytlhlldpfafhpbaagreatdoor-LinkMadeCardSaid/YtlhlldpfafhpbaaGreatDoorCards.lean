/-
  DERIVED. GIVEN WITH THE SEED: THE CARDS: each row of YtlhlldpfafhpbaaGreatDoorRows.lean that lists a variable, with what it lists TIED to the program's text (the seventh form; the later family's looks); each row that meets fmt, with fmt's text TOLD by the authors' own Lean function (tested against real Go, not proved from fmt's source: count such statements apart). THE CARD IS WHAT COUNTS. Prove the row's statement (the work); the ties are given (YtlhlldpfafhpbaaGreatDoorTie.lean); close each card by the builder's one call (the guide's Derived/Test/ToyasCard.lean, 'card_holds'). Laid BY PROGRAM, IN A SANDBOX (cutbox-door.mjs). By AI agents, Wed Nov 11 2026. No macro, syntax, notation, axiom, sorry.
-/
import Derived.Test.YtlhlldpfafhpbaaGreatDoorRows
import GoSem.ClaimSeven
namespace Go.Proofs.YtlhlldpfafhpbaaGreatDoor
namespace Rows

/-- THE TIED CARD OF 'kilnlaw14.LinkMade'. -/
def linkMadeCard : Claim7 := { stood := { row := linkMadeRow, standIns := [], harness := (true, "738664974a1f9451d78474bccd086710a35fee471944839cde5f00db790fb446"), looks := false }, kinds := [], alts := [], laidByText := true, laidKinds := [.data], laidTests := true, laidLooks := .later }
def LinkMadeCardSaid : Prop := Claim7.holds Tryz.pinned (.plain (OpenSpec.ofChange linkMadeSpec)) linkMadeCard

/-- THE TIED CARD OF 'kilnlaw13.GenHeights'. -/
def genHeightsCard : Claim7 := { stood := { row := genHeightsRow, standIns := [], harness := (true, "738664974a1f9451d78474bccd086710a35fee471944839cde5f00db790fb446"), looks := false }, kinds := [], alts := [], laidByText := true, laidKinds := [.data, .data, .data, .data, .data], laidTests := true, laidLooks := .later }
def GenHeightsCardSaid : Prop := Claim7.holds Tryz.pinned (.plain (OpenSpec.ofChange genHeightsSpec)) genHeightsCard

/-- THE TIED CARD OF 'kilnlaw13.GenAlone'. -/
def genAloneCard : Claim7 := { stood := { row := genAloneRow, standIns := [], harness := (true, "738664974a1f9451d78474bccd086710a35fee471944839cde5f00db790fb446"), looks := false }, kinds := [], alts := [], laidByText := true, laidKinds := [.data, .data, .data, .data, .data], laidTests := true, laidLooks := .later }
def GenAloneCardSaid : Prop := Claim7.holds Tryz.pinned (.plain (OpenSpec.ofChange genAloneSpec)) genAloneCard

/-- THE TIED CARD OF 'kilnlaw13.GenTwice'. -/
def genTwiceCard : Claim7 := { stood := { row := genTwiceRow, standIns := [], harness := (true, "738664974a1f9451d78474bccd086710a35fee471944839cde5f00db790fb446"), looks := false }, kinds := [], alts := [], laidByText := true, laidKinds := [.data, .data, .data, .data, .data], laidTests := true, laidLooks := .later }
def GenTwiceCardSaid : Prop := Claim7.holds Tryz.pinned (.plain (OpenSpec.ofChange genTwiceSpec)) genTwiceCard

/-- THE SECOND FORM's CARD OF 'kilnlaw14.LinkMade'. -/
def linkMadeUptoCard : Claim7 := { stood := { row := linkMadeUptoRow, standIns := [], harness := (true, "738664974a1f9451d78474bccd086710a35fee471944839cde5f00db790fb446"), looks := false }, kinds := [], alts := [], laidByText := true, laidKinds := [.data], laidTests := true, laidLooks := .later }
def LinkMadeUptoCardSaid : Prop := Claim7.holds Tryz.pinned (.plain (OpenSpec.upto linkMadeSpec)) linkMadeUptoCard

/-- THE SECOND FORM's CARD OF 'kilnlaw13.GenHeights'. -/
def genHeightsUptoCard : Claim7 := { stood := { row := genHeightsUptoRow, standIns := [], harness := (true, "738664974a1f9451d78474bccd086710a35fee471944839cde5f00db790fb446"), looks := false }, kinds := [], alts := [], laidByText := true, laidKinds := [.data, .data, .data, .data, .data], laidTests := true, laidLooks := .later }
def GenHeightsUptoCardSaid : Prop := Claim7.holds Tryz.pinned (.plain (OpenSpec.upto genHeightsSpec)) genHeightsUptoCard

/-- THE SECOND FORM's CARD OF 'kilnlaw13.GenAlone'. -/
def genAloneUptoCard : Claim7 := { stood := { row := genAloneUptoRow, standIns := [], harness := (true, "738664974a1f9451d78474bccd086710a35fee471944839cde5f00db790fb446"), looks := false }, kinds := [], alts := [], laidByText := true, laidKinds := [.data, .data, .data, .data, .data], laidTests := true, laidLooks := .later }
def GenAloneUptoCardSaid : Prop := Claim7.holds Tryz.pinned (.plain (OpenSpec.upto genAloneSpec)) genAloneUptoCard

/-- THE SECOND FORM's CARD OF 'kilnlaw13.GenTwice'. -/
def genTwiceUptoCard : Claim7 := { stood := { row := genTwiceUptoRow, standIns := [], harness := (true, "738664974a1f9451d78474bccd086710a35fee471944839cde5f00db790fb446"), looks := false }, kinds := [], alts := [], laidByText := true, laidKinds := [.data, .data, .data, .data, .data], laidTests := true, laidLooks := .later }
def GenTwiceUptoCardSaid : Prop := Claim7.holds Tryz.pinned (.plain (OpenSpec.upto genTwiceSpec)) genTwiceUptoCard
end Rows
end Go.Proofs.YtlhlldpfafhpbaaGreatDoor
