/-
  DERIVED. GIVEN WITH THE SEED: THE PROGRAM's TIES (one call each: nine closed facts by the kernel) AND EACH ROW's TIE, after the 31st guide's Derived/Test/Toyas{Tie, Card}.lean. No idea stands in it: it is a product of the set-up. Laid BY PROGRAM, IN A SANDBOX (cutbox-door.mjs). By AI agents, Wed Nov 11 2026. No macro, syntax, notation, axiom, sorry.
-/
import Derived.Test.YtgahemdblfapeabGreatDoorRows
import Derived.LaidByTextLater
import Derived.SevenTiedAt
import Derived.LaidSub
import Derived.LaidOnce
namespace Go.Proofs.YtgahemdblfapeabGreatDoor
open Go
set_option maxRecDepth 100000
theorem seatTie1 : Tryz.prog.laidByTextLater [("errors.errorType", Rows.laid_errors_errorType), ("mvstore/mv.ErrShape", Rows.laid_mvstore_mv_ErrShape), ("mvstore/mv.ErrProgram", Rows.laid_mvstore_mv_ErrProgram), ("mvstore/mv.ErrMany", Rows.laid_mvstore_mv_ErrMany), ("mvstore/mv.ErrClient", Rows.laid_mvstore_mv_ErrClient), ("mvstore/mv.ErrStopped", Rows.laid_mvstore_mv_ErrStopped)] [.handle, .sentinel, .sentinel, .sentinel, .sentinel, .sentinel] true :=
  Program.laidByTextLater_by_one 111 8 2 (by kernel_rfl) (by kernel_rfl) (by kernel_rfl) (by kernel_rfl) (by kernel_rfl) (by kernel_rfl) (fun _ _ => by kernel_rfl)
theorem noOwnUnsafe : Tryz.pinned.checked.prog.headLifts.contains "ownunsafe" = false := by kernel_rfl
theorem tie : Tryz.prog.laidByTextLater [("errors.errorType", Rows.laid_errors_errorType), ("mvstore/mv.ErrShape", Rows.laid_mvstore_mv_ErrShape), ("mvstore/mv.ErrProgram", Rows.laid_mvstore_mv_ErrProgram), ("mvstore/mv.ErrMany", Rows.laid_mvstore_mv_ErrMany), ("mvstore/mv.ErrClient", Rows.laid_mvstore_mv_ErrClient), ("mvstore/mv.ErrStopped", Rows.laid_mvstore_mv_ErrStopped)] [.handle, .sentinel, .sentinel, .sentinel, .sentinel, .sentinel] true :=
  Program.laidByTextLater.sub seatTie1 ["errors.errorType", "mvstore/mv.ErrShape", "mvstore/mv.ErrProgram", "mvstore/mv.ErrMany", "mvstore/mv.ErrClient", "mvstore/mv.ErrStopped"] (by kernel_rfl) (by kernel_rfl)
theorem sweeps_row_tie : Rows.sweepsRow.laidByTextAt .later Tryz.pinned [.handle, .sentinel, .sentinel, .sentinel, .sentinel, .sentinel] true :=
  OpenClaim.laidByTextAt_later rfl rfl tie noOwnUnsafe
end Go.Proofs.YtgahemdblfapeabGreatDoor
