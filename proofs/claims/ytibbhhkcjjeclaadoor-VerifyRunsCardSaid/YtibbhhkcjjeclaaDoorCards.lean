/-
  DERIVED. GIVEN WITH THE SEED: THE CARDS: each row of YtibbhhkcjjeclaaDoorRows.lean that lists a variable, with what it lists TIED to the program's text (the seventh form; the later family's looks); each row that meets fmt, with fmt's text TOLD by the authors' own Lean function (tested against real Go, not proved from fmt's source: count such statements apart). THE CARD IS WHAT COUNTS. Prove the row's statement (the work); the ties are given (YtibbhhkcjjeclaaDoorTie.lean); close each card by the builder's one call (the guide's Derived/Test/ToyasCard.lean, 'card_holds'). Laid BY PROGRAM, IN A SANDBOX (cutbox-door.mjs). By AI agents, Wed Nov 11 2026. No macro, syntax, notation, axiom, sorry.
-/
import Derived.Test.YtibbhhkcjjeclaaDoorRows
import GoSem.ClaimSeven
namespace Go.Proofs.YtibbhhkcjjeclaaDoor
namespace Rows

/-- THE TIED CARD OF 'kilnlaw14.LinkTurns'. -/
def linkTurnsCard : Claim7 := { stood := { row := linkTurnsRow, standIns := [], harness := (true, "5da4a2686d75d4bb4df39fd8b174fa89e64f23d4c49a1ca0d1f020fadd04e181"), looks := false }, kinds := [], alts := [], laidByText := true, laidKinds := [.data], laidTests := true, laidLooks := .later }
def LinkTurnsCardSaid : Prop := Claim7.holds Tryd.pinned (.plain (OpenSpec.ofChange linkTurnsSpec)) linkTurnsCard

/-- THE TIED CARD OF 'kilnlaw14.LinkMany'. -/
def linkManyCard : Claim7 := { stood := { row := linkManyRow, standIns := [], harness := (true, "5da4a2686d75d4bb4df39fd8b174fa89e64f23d4c49a1ca0d1f020fadd04e181"), looks := false }, kinds := [], alts := [], laidByText := true, laidKinds := [.data], laidTests := true, laidLooks := .later }
def LinkManyCardSaid : Prop := Claim7.holds Tryd.pinned (.plain (OpenSpec.ofChange linkManySpec)) linkManyCard

/-- THE TIED CARD OF 'kilnlaw14.LinkErrors'. -/
def linkErrorsCard : Claim7 := { stood := { row := linkErrorsRow, standIns := [], harness := (true, "5da4a2686d75d4bb4df39fd8b174fa89e64f23d4c49a1ca0d1f020fadd04e181"), looks := false }, kinds := [], alts := [], laidByText := true, laidKinds := [.data], laidTests := true, laidLooks := .later }
def LinkErrorsCardSaid : Prop := Claim7.holds Tryd.pinned (.plain (OpenSpec.ofChange linkErrorsSpec)) linkErrorsCard

/-- THE TIED CARD OF 'kilnlaw15.VerifyPage'. -/
def verifyPageCard : Claim7 := { stood := { row := verifyPageRow, standIns := [], harness := (true, "5da4a2686d75d4bb4df39fd8b174fa89e64f23d4c49a1ca0d1f020fadd04e181"), looks := false }, kinds := [], alts := [], laidByText := true, laidKinds := [.data], laidTests := true, laidLooks := .later }
def VerifyPageCardSaid : Prop := Claim7.holds Tryd.pinned (.plain (OpenSpec.ofChange verifyPageSpec)) verifyPageCard

/-- THE TIED CARD OF 'kilnlaw15.VerifySound'. -/
def verifySoundCard : Claim7 := { stood := { row := verifySoundRow, standIns := [], harness := (true, "5da4a2686d75d4bb4df39fd8b174fa89e64f23d4c49a1ca0d1f020fadd04e181"), looks := false }, kinds := [], alts := [], laidByText := true, laidKinds := [.data], laidTests := true, laidLooks := .later }
def VerifySoundCardSaid : Prop := Claim7.holds Tryd.pinned (.plain (OpenSpec.ofChange verifySoundSpec)) verifySoundCard

/-- THE TIED CARD OF 'kilnlaw15.VerifyFaults'. -/
def verifyFaultsCard : Claim7 := { stood := { row := verifyFaultsRow, standIns := [], harness := (true, "5da4a2686d75d4bb4df39fd8b174fa89e64f23d4c49a1ca0d1f020fadd04e181"), looks := false }, kinds := [], alts := [], laidByText := true, laidKinds := [.data], laidTests := true, laidLooks := .later }
def VerifyFaultsCardSaid : Prop := Claim7.holds Tryd.pinned (.plain (OpenSpec.ofChange verifyFaultsSpec)) verifyFaultsCard

/-- THE TIED CARD OF 'kilnlaw15.VerifyRuns'. -/
def verifyRunsCard : Claim7 := { stood := { row := verifyRunsRow, standIns := [], harness := (true, "5da4a2686d75d4bb4df39fd8b174fa89e64f23d4c49a1ca0d1f020fadd04e181"), looks := false }, kinds := [], alts := [], laidByText := true, laidKinds := [.data], laidTests := true, laidLooks := .later }
def VerifyRunsCardSaid : Prop := Claim7.holds Tryd.pinned (.plain (OpenSpec.ofChange verifyRunsSpec)) verifyRunsCard

/-- THE TIED CARD OF 'kilnlaw15.VerifyMore'. -/
def verifyMoreCard : Claim7 := { stood := { row := verifyMoreRow, standIns := [], harness := (true, "5da4a2686d75d4bb4df39fd8b174fa89e64f23d4c49a1ca0d1f020fadd04e181"), looks := false }, kinds := [], alts := [], laidByText := true, laidKinds := [.data], laidTests := true, laidLooks := .later }
def VerifyMoreCardSaid : Prop := Claim7.holds Tryd.pinned (.plain (OpenSpec.ofChange verifyMoreSpec)) verifyMoreCard

/-- THE TIED CARD OF 'kilnlaw15.VerifyWays'. -/
def verifyWaysCard : Claim7 := { stood := { row := verifyWaysRow, standIns := [], harness := (true, "5da4a2686d75d4bb4df39fd8b174fa89e64f23d4c49a1ca0d1f020fadd04e181"), looks := false }, kinds := [], alts := [], laidByText := true, laidKinds := [.data], laidTests := true, laidLooks := .later }
def VerifyWaysCardSaid : Prop := Claim7.holds Tryd.pinned (.plain (OpenSpec.ofChange verifyWaysSpec)) verifyWaysCard

/-- THE SECOND FORM's CARD OF 'kilnlaw14.LinkTurns'. -/
def linkTurnsUptoCard : Claim7 := { stood := { row := linkTurnsUptoRow, standIns := [], harness := (true, "5da4a2686d75d4bb4df39fd8b174fa89e64f23d4c49a1ca0d1f020fadd04e181"), looks := false }, kinds := [], alts := [], laidByText := true, laidKinds := [.data], laidTests := true, laidLooks := .later }
def LinkTurnsUptoCardSaid : Prop := Claim7.holds Tryd.pinned (.plain (OpenSpec.upto linkTurnsSpec)) linkTurnsUptoCard

/-- THE SECOND FORM's CARD OF 'kilnlaw14.LinkMany'. -/
def linkManyUptoCard : Claim7 := { stood := { row := linkManyUptoRow, standIns := [], harness := (true, "5da4a2686d75d4bb4df39fd8b174fa89e64f23d4c49a1ca0d1f020fadd04e181"), looks := false }, kinds := [], alts := [], laidByText := true, laidKinds := [.data], laidTests := true, laidLooks := .later }
def LinkManyUptoCardSaid : Prop := Claim7.holds Tryd.pinned (.plain (OpenSpec.upto linkManySpec)) linkManyUptoCard

/-- THE SECOND FORM's CARD OF 'kilnlaw14.LinkErrors'. -/
def linkErrorsUptoCard : Claim7 := { stood := { row := linkErrorsUptoRow, standIns := [], harness := (true, "5da4a2686d75d4bb4df39fd8b174fa89e64f23d4c49a1ca0d1f020fadd04e181"), looks := false }, kinds := [], alts := [], laidByText := true, laidKinds := [.data], laidTests := true, laidLooks := .later }
def LinkErrorsUptoCardSaid : Prop := Claim7.holds Tryd.pinned (.plain (OpenSpec.upto linkErrorsSpec)) linkErrorsUptoCard

/-- THE SECOND FORM's CARD OF 'kilnlaw15.VerifyPage'. -/
def verifyPageUptoCard : Claim7 := { stood := { row := verifyPageUptoRow, standIns := [], harness := (true, "5da4a2686d75d4bb4df39fd8b174fa89e64f23d4c49a1ca0d1f020fadd04e181"), looks := false }, kinds := [], alts := [], laidByText := true, laidKinds := [.data], laidTests := true, laidLooks := .later }
def VerifyPageUptoCardSaid : Prop := Claim7.holds Tryd.pinned (.plain (OpenSpec.upto verifyPageSpec)) verifyPageUptoCard

/-- THE SECOND FORM's CARD OF 'kilnlaw15.VerifySound'. -/
def verifySoundUptoCard : Claim7 := { stood := { row := verifySoundUptoRow, standIns := [], harness := (true, "5da4a2686d75d4bb4df39fd8b174fa89e64f23d4c49a1ca0d1f020fadd04e181"), looks := false }, kinds := [], alts := [], laidByText := true, laidKinds := [.data], laidTests := true, laidLooks := .later }
def VerifySoundUptoCardSaid : Prop := Claim7.holds Tryd.pinned (.plain (OpenSpec.upto verifySoundSpec)) verifySoundUptoCard

/-- THE SECOND FORM's CARD OF 'kilnlaw15.VerifyFaults'. -/
def verifyFaultsUptoCard : Claim7 := { stood := { row := verifyFaultsUptoRow, standIns := [], harness := (true, "5da4a2686d75d4bb4df39fd8b174fa89e64f23d4c49a1ca0d1f020fadd04e181"), looks := false }, kinds := [], alts := [], laidByText := true, laidKinds := [.data], laidTests := true, laidLooks := .later }
def VerifyFaultsUptoCardSaid : Prop := Claim7.holds Tryd.pinned (.plain (OpenSpec.upto verifyFaultsSpec)) verifyFaultsUptoCard

/-- THE SECOND FORM's CARD OF 'kilnlaw15.VerifyRuns'. -/
def verifyRunsUptoCard : Claim7 := { stood := { row := verifyRunsUptoRow, standIns := [], harness := (true, "5da4a2686d75d4bb4df39fd8b174fa89e64f23d4c49a1ca0d1f020fadd04e181"), looks := false }, kinds := [], alts := [], laidByText := true, laidKinds := [.data], laidTests := true, laidLooks := .later }
def VerifyRunsUptoCardSaid : Prop := Claim7.holds Tryd.pinned (.plain (OpenSpec.upto verifyRunsSpec)) verifyRunsUptoCard

/-- THE SECOND FORM's CARD OF 'kilnlaw15.VerifyMore'. -/
def verifyMoreUptoCard : Claim7 := { stood := { row := verifyMoreUptoRow, standIns := [], harness := (true, "5da4a2686d75d4bb4df39fd8b174fa89e64f23d4c49a1ca0d1f020fadd04e181"), looks := false }, kinds := [], alts := [], laidByText := true, laidKinds := [.data], laidTests := true, laidLooks := .later }
def VerifyMoreUptoCardSaid : Prop := Claim7.holds Tryd.pinned (.plain (OpenSpec.upto verifyMoreSpec)) verifyMoreUptoCard

/-- THE SECOND FORM's CARD OF 'kilnlaw15.VerifyWays'. -/
def verifyWaysUptoCard : Claim7 := { stood := { row := verifyWaysUptoRow, standIns := [], harness := (true, "5da4a2686d75d4bb4df39fd8b174fa89e64f23d4c49a1ca0d1f020fadd04e181"), looks := false }, kinds := [], alts := [], laidByText := true, laidKinds := [.data], laidTests := true, laidLooks := .later }
def VerifyWaysUptoCardSaid : Prop := Claim7.holds Tryd.pinned (.plain (OpenSpec.upto verifyWaysSpec)) verifyWaysUptoCard
end Rows
end Go.Proofs.YtibbhhkcjjeclaaDoor
