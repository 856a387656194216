/-
  DERIVED. GIVEN WITH THE SEED: THE PROGRAM's TIES (one call each: nine closed facts by the kernel) AND EACH ROW's TIE, after the 31st guide's Derived/Test/Toyas{Tie, Card}.lean. No idea stands in it: it is a product of the set-up. Laid BY PROGRAM, IN A SANDBOX (cutbox-door.mjs). By AI agents, Wed Nov 11 2026. No macro, syntax, notation, axiom, sorry.
-/
import Derived.Test.YtldgkimnlbkddaaGreatDoorRows
import Derived.LaidByTextLater
import Derived.SevenTiedAt
import Derived.LaidSub
import Derived.LaidOnce
namespace Go.Proofs.YtldgkimnlbkddaaGreatDoor
open Go
set_option maxRecDepth 100000
theorem seatTie1 : Tryz.prog.laidByTextLater [("kiln/op.shapes", Rows.laid_kiln_op_shapes), ("kiln/lex.marks", Rows.laid_kiln_lex_marks)] [.data, .data] true :=
  Program.laidByTextLater_by_one 51 8 67 (by kernel_rfl) (by kernel_rfl) (by kernel_rfl) (by kernel_rfl) (by kernel_rfl) (by kernel_rfl) (fun _ _ => by kernel_rfl)
theorem noOwnUnsafe : Tryz.pinned.checked.prog.headLifts.contains "ownunsafe" = false := by kernel_rfl
theorem tie : Tryz.prog.laidByTextLater [("kiln/op.shapes", Rows.laid_kiln_op_shapes), ("kiln/lex.marks", Rows.laid_kiln_lex_marks)] [.data, .data] true :=
  Program.laidByTextLater.sub seatTie1 ["kiln/op.shapes", "kiln/lex.marks"] (by kernel_rfl) (by kernel_rfl)
theorem vmMore_row_tie : Rows.vmMoreRow.laidByTextAt .later Tryz.pinned [.data, .data] true :=
  OpenClaim.laidByTextAt_later rfl rfl tie noOwnUnsafe
theorem vmMoreUpto_row_tie : Rows.vmMoreUptoRow.laidByTextAt .later Tryz.pinned [.data, .data] true :=
  OpenClaim.laidByTextAt_later rfl rfl tie noOwnUnsafe
end Go.Proofs.YtldgkimnlbkddaaGreatDoor
