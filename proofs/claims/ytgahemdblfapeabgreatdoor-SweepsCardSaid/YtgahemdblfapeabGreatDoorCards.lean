/-
  DERIVED. GIVEN WITH THE SEED: THE CARDS: each row of YtgahemdblfapeabGreatDoorRows.lean that lists a variable, with what it lists TIED to the program's text (the seventh form; the later family's looks); each row that meets fmt, with fmt's text TOLD by the authors' own Lean function (tested against real Go, not proved from fmt's source: count such statements apart). THE CARD IS WHAT COUNTS. Prove the row's statement (the work); the ties are given (YtgahemdblfapeabGreatDoorTie.lean); close each card by the builder's one call (the guide's Derived/Test/ToyasCard.lean, 'card_holds'). Laid BY PROGRAM, IN A SANDBOX (cutbox-door.mjs). By AI agents, Wed Nov 11 2026. No macro, syntax, notation, axiom, sorry.
-/
import Derived.Test.YtgahemdblfapeabGreatDoorRows
import GoSem.ClaimSeven
namespace Go.Proofs.YtgahemdblfapeabGreatDoor
namespace Rows

/-- THE TIED CARD OF 'mvstorelaw.Sweeps'. -/
def sweepsCard : Claim7 := { stood := { row := sweepsRow, standIns := [], harness := (true, "12c968d1f2f6b1242e0865cadb3c3340cd010537220d92d12ac07f4d8ca8e1d6"), looks := true }, kinds := [], alts := [], goes := true, laidByText := true, laidKinds := [.handle, .sentinel, .sentinel, .sentinel, .sentinel, .sentinel], laidTests := true, laidLooks := .later }
def SweepsCardSaid : Prop := Claim7.holds Tryz.pinned (.plain (OpenSpec.ofChange sweepsSpec)) sweepsCard
end Rows
end Go.Proofs.YtgahemdblfapeabGreatDoor
