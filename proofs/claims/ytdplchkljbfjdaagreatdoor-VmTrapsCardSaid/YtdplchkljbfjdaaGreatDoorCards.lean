/-
  DERIVED. GIVEN WITH THE SEED: THE CARDS: each row of YtdplchkljbfjdaaGreatDoorRows.lean that lists a variable, with what it lists TIED to the program's text (the seventh form; the later family's looks); each row that meets fmt, with fmt's text TOLD by the authors' own Lean function (tested against real Go, not proved from fmt's source: count such statements apart). THE CARD IS WHAT COUNTS. Prove the row's statement (the work); the ties are given (YtdplchkljbfjdaaGreatDoorTie.lean); close each card by the builder's one call (the guide's Derived/Test/ToyasCard.lean, 'card_holds'). Laid BY PROGRAM, IN A SANDBOX (cutbox-door.mjs). By AI agents, Wed Nov 11 2026. No macro, syntax, notation, axiom, sorry.
-/
import Derived.Test.YtdplchkljbfjdaaGreatDoorRows
import GoSem.ClaimSeven
namespace Go.Proofs.YtdplchkljbfjdaaGreatDoor
namespace Rows

/-- THE TIED CARD OF 'kilnlaw13.GenEnds'. -/
def genEndsCard : Claim7 := { stood := { row := genEndsRow, standIns := [], harness := (true, "bf43fd562f67dd5fae7e772947f8227c92117ecea546bd574998783b9d59a92d"), looks := false }, kinds := [], alts := [], laidByText := true, laidKinds := [.data, .data, .data, .data, .data], laidTests := true, laidLooks := .later }
def GenEndsCardSaid : Prop := Claim7.holds Tryz.pinned (.plain (OpenSpec.ofChange genEndsSpec)) genEndsCard

/-- THE TIED CARD OF 'kilnlaw13.GenSums'. -/
def genSumsCard : Claim7 := { stood := { row := genSumsRow, standIns := [], harness := (true, "bf43fd562f67dd5fae7e772947f8227c92117ecea546bd574998783b9d59a92d"), looks := false }, kinds := [], alts := [], laidByText := true, laidKinds := [.data, .data, .data, .data, .data], laidTests := true, laidLooks := .later }
def GenSumsCardSaid : Prop := Claim7.holds Tryz.pinned (.plain (OpenSpec.ofChange genSumsSpec)) genSumsCard

/-- THE TIED CARD OF 'kilnlaw16.VmOwn'. -/
def vmOwnCard : Claim7 := { stood := { row := vmOwnRow, standIns := [], harness := (true, "bf43fd562f67dd5fae7e772947f8227c92117ecea546bd574998783b9d59a92d"), looks := false }, kinds := [], alts := [], laidByText := true, laidKinds := [.data, .data], laidTests := true, laidLooks := .later }
def VmOwnCardSaid : Prop := Claim7.holds Tryz.pinned (.plain (OpenSpec.ofChange vmOwnSpec)) vmOwnCard

/-- THE TIED CARD OF 'kilnlaw16.VmArrays'. -/
def vmArraysCard : Claim7 := { stood := { row := vmArraysRow, standIns := [], harness := (true, "bf43fd562f67dd5fae7e772947f8227c92117ecea546bd574998783b9d59a92d"), looks := false }, kinds := [], alts := [], laidByText := true, laidKinds := [.data, .data], laidTests := true, laidLooks := .later }
def VmArraysCardSaid : Prop := Claim7.holds Tryz.pinned (.plain (OpenSpec.ofChange vmArraysSpec)) vmArraysCard

/-- THE TIED CARD OF 'kilnlaw16.VmAsks'. -/
def vmAsksCard : Claim7 := { stood := { row := vmAsksRow, standIns := [], harness := (true, "bf43fd562f67dd5fae7e772947f8227c92117ecea546bd574998783b9d59a92d"), looks := false }, kinds := [], alts := [], laidByText := true, laidKinds := [.data, .data], laidTests := true, laidLooks := .later }
def VmAsksCardSaid : Prop := Claim7.holds Tryz.pinned (.plain (OpenSpec.ofChange vmAsksSpec)) vmAsksCard

/-- THE TIED CARD OF 'kilnlaw16.VmTraps'. -/
def vmTrapsCard : Claim7 := { stood := { row := vmTrapsRow, standIns := [], harness := (true, "bf43fd562f67dd5fae7e772947f8227c92117ecea546bd574998783b9d59a92d"), looks := false }, kinds := [], alts := [], laidByText := true, laidKinds := [.data, .data], laidTests := true, laidLooks := .later }
def VmTrapsCardSaid : Prop := Claim7.holds Tryz.pinned (.plain (OpenSpec.ofChange vmTrapsSpec)) vmTrapsCard

/-- THE SECOND FORM's CARD OF 'kilnlaw13.GenEnds'. -/
def genEndsUptoCard : Claim7 := { stood := { row := genEndsUptoRow, standIns := [], harness := (true, "bf43fd562f67dd5fae7e772947f8227c92117ecea546bd574998783b9d59a92d"), looks := false }, kinds := [], alts := [], laidByText := true, laidKinds := [.data, .data, .data, .data, .data], laidTests := true, laidLooks := .later }
def GenEndsUptoCardSaid : Prop := Claim7.holds Tryz.pinned (.plain (OpenSpec.upto genEndsSpec)) genEndsUptoCard

/-- THE SECOND FORM's CARD OF 'kilnlaw13.GenSums'. -/
def genSumsUptoCard : Claim7 := { stood := { row := genSumsUptoRow, standIns := [], harness := (true, "bf43fd562f67dd5fae7e772947f8227c92117ecea546bd574998783b9d59a92d"), looks := false }, kinds := [], alts := [], laidByText := true, laidKinds := [.data, .data, .data, .data, .data], laidTests := true, laidLooks := .later }
def GenSumsUptoCardSaid : Prop := Claim7.holds Tryz.pinned (.plain (OpenSpec.upto genSumsSpec)) genSumsUptoCard

/-- THE SECOND FORM's CARD OF 'kilnlaw16.VmOwn'. -/
def vmOwnUptoCard : Claim7 := { stood := { row := vmOwnUptoRow, standIns := [], harness := (true, "bf43fd562f67dd5fae7e772947f8227c92117ecea546bd574998783b9d59a92d"), looks := false }, kinds := [], alts := [], laidByText := true, laidKinds := [.data, .data], laidTests := true, laidLooks := .later }
def VmOwnUptoCardSaid : Prop := Claim7.holds Tryz.pinned (.plain (OpenSpec.upto vmOwnSpec)) vmOwnUptoCard

/-- THE SECOND FORM's CARD OF 'kilnlaw16.VmArrays'. -/
def vmArraysUptoCard : Claim7 := { stood := { row := vmArraysUptoRow, standIns := [], harness := (true, "bf43fd562f67dd5fae7e772947f8227c92117ecea546bd574998783b9d59a92d"), looks := false }, kinds := [], alts := [], laidByText := true, laidKinds := [.data, .data], laidTests := true, laidLooks := .later }
def VmArraysUptoCardSaid : Prop := Claim7.holds Tryz.pinned (.plain (OpenSpec.upto vmArraysSpec)) vmArraysUptoCard

/-- THE SECOND FORM's CARD OF 'kilnlaw16.VmAsks'. -/
def vmAsksUptoCard : Claim7 := { stood := { row := vmAsksUptoRow, standIns := [], harness := (true, "bf43fd562f67dd5fae7e772947f8227c92117ecea546bd574998783b9d59a92d"), looks := false }, kinds := [], alts := [], laidByText := true, laidKinds := [.data, .data], laidTests := true, laidLooks := .later }
def VmAsksUptoCardSaid : Prop := Claim7.holds Tryz.pinned (.plain (OpenSpec.upto vmAsksSpec)) vmAsksUptoCard

/-- THE SECOND FORM's CARD OF 'kilnlaw16.VmTraps'. -/
def vmTrapsUptoCard : Claim7 := { stood := { row := vmTrapsUptoRow, standIns := [], harness := (true, "bf43fd562f67dd5fae7e772947f8227c92117ecea546bd574998783b9d59a92d"), looks := false }, kinds := [], alts := [], laidByText := true, laidKinds := [.data, .data], laidTests := true, laidLooks := .later }
def VmTrapsUptoCardSaid : Prop := Claim7.holds Tryz.pinned (.plain (OpenSpec.upto vmTrapsSpec)) vmTrapsUptoCard
end Rows
end Go.Proofs.YtdplchkljbfjdaaGreatDoor
