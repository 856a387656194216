/-
  DERIVED. GIVEN WITH THE SEED: THE CARDS: each row of YtmbhlmocojopaaaGreatDoorRows.lean that lists a variable, with what it lists TIED to the program's text (the seventh form; the later family's looks); each row that meets fmt, with fmt's text TOLD by the authors' own Lean function (tested against real Go, not proved from fmt's source: count such statements apart). THE CARD IS WHAT COUNTS. Prove the row's statement (the work); the ties are given (YtmbhlmocojopaaaGreatDoorTie.lean); close each card by the builder's one call (the guide's Derived/Test/ToyasCard.lean, 'card_holds'). Laid BY PROGRAM, IN A SANDBOX (cutbox-door.mjs). By AI agents, Wed Nov 11 2026. No macro, syntax, notation, axiom, sorry.
-/
import Derived.Test.YtmbhlmocojopaaaGreatDoorRows
import GoSem.ClaimSeven
namespace Go.Proofs.YtmbhlmocojopaaaGreatDoor
namespace Rows

/-- THE TIED CARD OF 'kilnlaw14.LinkMade'. -/
def linkMadeCard : Claim7 := { stood := { row := linkMadeRow, standIns := [], harness := (true, "e061682b0f3a6b54a737d3d360dd0b30f1f557965ad36675b4fc5f8e51f5ccb4"), looks := false }, kinds := [], alts := [], laidByText := true, laidKinds := [.data], laidTests := true, laidLooks := .later }
def LinkMadeCardSaid : Prop := Claim7.holds Tryz.pinned (.plain (OpenSpec.ofChange linkMadeSpec)) linkMadeCard

/-- THE TIED CARD OF 'kilnlaw09.TypesRight'. -/
def typesRightCard : Claim7 := { stood := { row := typesRightRow, standIns := [], harness := (true, "e061682b0f3a6b54a737d3d360dd0b30f1f557965ad36675b4fc5f8e51f5ccb4"), looks := false }, kinds := [], alts := [], laidByText := true, laidKinds := [.data], laidTests := true, laidLooks := .later }
def TypesRightCardSaid : Prop := Claim7.holds Tryz.pinned (.plain (OpenSpec.ofChange typesRightSpec)) typesRightCard

/-- THE TIED CARD OF 'kilnlaw09.TypesMore'. -/
def typesMoreCard : Claim7 := { stood := { row := typesMoreRow, standIns := [], harness := (true, "e061682b0f3a6b54a737d3d360dd0b30f1f557965ad36675b4fc5f8e51f5ccb4"), looks := false }, kinds := [], alts := [], laidByText := true, laidKinds := [.data], laidTests := true, laidLooks := .later }
def TypesMoreCardSaid : Prop := Claim7.holds Tryz.pinned (.plain (OpenSpec.ofChange typesMoreSpec)) typesMoreCard

/-- THE TIED CARD OF 'kilnlaw15.VerifyMade'. -/
def verifyMadeCard : Claim7 := { stood := { row := verifyMadeRow, standIns := [], harness := (true, "e061682b0f3a6b54a737d3d360dd0b30f1f557965ad36675b4fc5f8e51f5ccb4"), looks := false }, kinds := [], alts := [], laidByText := true, laidKinds := [.data], laidTests := true, laidLooks := .later }
def VerifyMadeCardSaid : Prop := Claim7.holds Tryz.pinned (.plain (OpenSpec.ofChange verifyMadeSpec)) verifyMadeCard

/-- THE TIED CARD OF 'kilnlaw10.EvalObjects'. -/
def evalObjectsCard : Claim7 := { stood := { row := evalObjectsRow, standIns := [], harness := (true, "e061682b0f3a6b54a737d3d360dd0b30f1f557965ad36675b4fc5f8e51f5ccb4"), looks := false }, kinds := [], alts := [], laidByText := true, laidKinds := [.data], laidTests := true, laidLooks := .later }
def EvalObjectsCardSaid : Prop := Claim7.holds Tryz.pinned (.plain (OpenSpec.ofChange evalObjectsSpec)) evalObjectsCard

/-- THE TIED CARD OF 'kilnlaw10.EvalRuns'. -/
def evalRunsCard : Claim7 := { stood := { row := evalRunsRow, standIns := [], harness := (true, "e061682b0f3a6b54a737d3d360dd0b30f1f557965ad36675b4fc5f8e51f5ccb4"), looks := false }, kinds := [], alts := [], laidByText := true, laidKinds := [.data], laidTests := true, laidLooks := .later }
def EvalRunsCardSaid : Prop := Claim7.holds Tryz.pinned (.plain (OpenSpec.ofChange evalRunsSpec)) evalRunsCard

/-- THE SECOND FORM's CARD OF 'kilnlaw14.LinkMade'. -/
def linkMadeUptoCard : Claim7 := { stood := { row := linkMadeUptoRow, standIns := [], harness := (true, "e061682b0f3a6b54a737d3d360dd0b30f1f557965ad36675b4fc5f8e51f5ccb4"), looks := false }, kinds := [], alts := [], laidByText := true, laidKinds := [.data], laidTests := true, laidLooks := .later }
def LinkMadeUptoCardSaid : Prop := Claim7.holds Tryz.pinned (.plain (OpenSpec.upto linkMadeSpec)) linkMadeUptoCard

/-- THE SECOND FORM's CARD OF 'kilnlaw09.TypesRight'. -/
def typesRightUptoCard : Claim7 := { stood := { row := typesRightUptoRow, standIns := [], harness := (true, "e061682b0f3a6b54a737d3d360dd0b30f1f557965ad36675b4fc5f8e51f5ccb4"), looks := false }, kinds := [], alts := [], laidByText := true, laidKinds := [.data], laidTests := true, laidLooks := .later }
def TypesRightUptoCardSaid : Prop := Claim7.holds Tryz.pinned (.plain (OpenSpec.upto typesRightSpec)) typesRightUptoCard

/-- THE SECOND FORM's CARD OF 'kilnlaw09.TypesMore'. -/
def typesMoreUptoCard : Claim7 := { stood := { row := typesMoreUptoRow, standIns := [], harness := (true, "e061682b0f3a6b54a737d3d360dd0b30f1f557965ad36675b4fc5f8e51f5ccb4"), looks := false }, kinds := [], alts := [], laidByText := true, laidKinds := [.data], laidTests := true, laidLooks := .later }
def TypesMoreUptoCardSaid : Prop := Claim7.holds Tryz.pinned (.plain (OpenSpec.upto typesMoreSpec)) typesMoreUptoCard

/-- THE SECOND FORM's CARD OF 'kilnlaw15.VerifyMade'. -/
def verifyMadeUptoCard : Claim7 := { stood := { row := verifyMadeUptoRow, standIns := [], harness := (true, "e061682b0f3a6b54a737d3d360dd0b30f1f557965ad36675b4fc5f8e51f5ccb4"), looks := false }, kinds := [], alts := [], laidByText := true, laidKinds := [.data], laidTests := true, laidLooks := .later }
def VerifyMadeUptoCardSaid : Prop := Claim7.holds Tryz.pinned (.plain (OpenSpec.upto verifyMadeSpec)) verifyMadeUptoCard

/-- THE SECOND FORM's CARD OF 'kilnlaw10.EvalObjects'. -/
def evalObjectsUptoCard : Claim7 := { stood := { row := evalObjectsUptoRow, standIns := [], harness := (true, "e061682b0f3a6b54a737d3d360dd0b30f1f557965ad36675b4fc5f8e51f5ccb4"), looks := false }, kinds := [], alts := [], laidByText := true, laidKinds := [.data], laidTests := true, laidLooks := .later }
def EvalObjectsUptoCardSaid : Prop := Claim7.holds Tryz.pinned (.plain (OpenSpec.upto evalObjectsSpec)) evalObjectsUptoCard

/-- THE SECOND FORM's CARD OF 'kilnlaw10.EvalRuns'. -/
def evalRunsUptoCard : Claim7 := { stood := { row := evalRunsUptoRow, standIns := [], harness := (true, "e061682b0f3a6b54a737d3d360dd0b30f1f557965ad36675b4fc5f8e51f5ccb4"), looks := false }, kinds := [], alts := [], laidByText := true, laidKinds := [.data], laidTests := true, laidLooks := .later }
def EvalRunsUptoCardSaid : Prop := Claim7.holds Tryz.pinned (.plain (OpenSpec.upto evalRunsSpec)) evalRunsUptoCard
end Rows
end Go.Proofs.YtmbhlmocojopaaaGreatDoor
