/-
  DERIVED. GIVEN WITH THE SEED: THE CARDS: each row of YtgahemdblfapeaaGreatDoorRows.lean that lists a variable, with what it lists TIED to the program's text (the seventh form; the later family's looks); each row that meets fmt, with fmt's text TOLD by the authors' own Lean function (tested against real Go, not proved from fmt's source: count such statements apart). THE CARD IS WHAT COUNTS. Prove the row's statement (the work); the ties are given (YtgahemdblfapeaaGreatDoorTie.lean); close each card by the builder's one call (the guide's Derived/Test/ToyasCard.lean, 'card_holds'). Laid BY PROGRAM, IN A SANDBOX (cutbox-door.mjs). By AI agents, Wed Nov 11 2026. No macro, syntax, notation, axiom, sorry.
-/
import Derived.Test.YtgahemdblfapeaaGreatDoorRows
import GoSem.ClaimSeven
namespace Go.Proofs.YtgahemdblfapeaaGreatDoor
namespace Rows

/-- THE TIED CARD OF 'mvstorelaw.Snapshots'. -/
def snapshotsCard : Claim7 := { stood := { row := snapshotsRow, standIns := [], harness := (true, "73fab06dd345ee8f2da4e3e1e123de50e4f4795a1c3bbbdcbdd05624b8a7bc81"), looks := true }, kinds := [], alts := [], goes := true, laidByText := true, laidKinds := [.handle, .sentinel, .sentinel, .sentinel, .sentinel, .sentinel], laidTests := true, laidLooks := .later }
def SnapshotsCardSaid : Prop := Claim7.holds Tryz.pinned (.plain (OpenSpec.ofChange snapshotsSpec)) snapshotsCard

/-- THE TIED CARD OF 'mvstorelaw.Hidden'. -/
def hiddenCard : Claim7 := { stood := { row := hiddenRow, standIns := [], harness := (true, "73fab06dd345ee8f2da4e3e1e123de50e4f4795a1c3bbbdcbdd05624b8a7bc81"), looks := true }, kinds := [], alts := [], goes := true, laidByText := true, laidKinds := [.handle, .sentinel, .sentinel, .sentinel, .sentinel, .sentinel], laidTests := true, laidLooks := .later }
def HiddenCardSaid : Prop := Claim7.holds Tryz.pinned (.plain (OpenSpec.ofChange hiddenSpec)) hiddenCard

/-- THE TIED CARD OF 'mvstorelaw.Chains'. -/
def chainsCard : Claim7 := { stood := { row := chainsRow, standIns := [], harness := (true, "73fab06dd345ee8f2da4e3e1e123de50e4f4795a1c3bbbdcbdd05624b8a7bc81"), looks := true }, kinds := [], alts := [], goes := true, laidByText := true, laidKinds := [.handle, .sentinel, .sentinel, .sentinel, .sentinel, .sentinel], laidTests := true, laidLooks := .later }
def ChainsCardSaid : Prop := Claim7.holds Tryz.pinned (.plain (OpenSpec.ofChange chainsSpec)) chainsCard

/-- THE TIED CARD OF 'mvstorelaw.All'. -/
def allCard : Claim7 := { stood := { row := allRow, standIns := [], harness := (true, "73fab06dd345ee8f2da4e3e1e123de50e4f4795a1c3bbbdcbdd05624b8a7bc81"), looks := true }, kinds := [], alts := [], goes := true, laidByText := true, laidKinds := [.handle, .sentinel, .sentinel, .sentinel, .sentinel, .sentinel], laidTests := true, laidLooks := .later }
def AllCardSaid : Prop := Claim7.holds Tryz.pinned (.plain (OpenSpec.ofChange allSpec)) allCard

/-- THE TIED CARD OF 'mvstorelaw.Ends'. -/
def endsCard : Claim7 := { stood := { row := endsRow, standIns := [], harness := (true, "73fab06dd345ee8f2da4e3e1e123de50e4f4795a1c3bbbdcbdd05624b8a7bc81"), looks := true }, kinds := [], alts := [], goes := true, laidByText := true, laidKinds := [.handle, .sentinel, .sentinel, .sentinel, .sentinel, .sentinel], laidTests := true, laidLooks := .later }
def EndsCardSaid : Prop := Claim7.holds Tryz.pinned (.plain (OpenSpec.ofChange endsSpec)) endsCard

/-- THE TIED CARD OF 'mvstorelaw.Calm'. -/
def calmCard : Claim7 := { stood := { row := calmRow, standIns := [], harness := (true, "73fab06dd345ee8f2da4e3e1e123de50e4f4795a1c3bbbdcbdd05624b8a7bc81"), looks := true }, kinds := [], alts := [], goes := true, laidByText := true, laidKinds := [.handle, .sentinel, .sentinel, .sentinel, .sentinel, .sentinel], laidTests := true, laidLooks := .later }
def CalmCardSaid : Prop := Claim7.holds Tryz.pinned (.plain (OpenSpec.ofChange calmSpec)) calmCard

/-- THE TIED CARD OF 'mvstorelaw.Clients'. -/
def clientsCard : Claim7 := { stood := { row := clientsRow, standIns := [], harness := (true, "73fab06dd345ee8f2da4e3e1e123de50e4f4795a1c3bbbdcbdd05624b8a7bc81"), looks := true }, kinds := [], alts := [], goes := true, laidByText := true, laidKinds := [.handle, .sentinel, .sentinel, .sentinel, .sentinel, .sentinel], laidTests := true, laidLooks := .later }
def ClientsCardSaid : Prop := Claim7.holds Tryz.pinned (.plain (OpenSpec.ofChange clientsSpec)) clientsCard

/-- THE TIED CARD OF 'mvstorelaw.Unswept'. -/
def unsweptCard : Claim7 := { stood := { row := unsweptRow, standIns := [], harness := (true, "73fab06dd345ee8f2da4e3e1e123de50e4f4795a1c3bbbdcbdd05624b8a7bc81"), looks := true }, kinds := [], alts := [], goes := true, laidByText := true, laidKinds := [.handle, .sentinel, .sentinel, .sentinel, .sentinel, .sentinel], laidTests := true, laidLooks := .later }
def UnsweptCardSaid : Prop := Claim7.holds Tryz.pinned (.plain (OpenSpec.ofChange unsweptSpec)) unsweptCard

/-- THE TIED CARD OF 'mvstorelaw.Picks'. -/
def picksCard : Claim7 := { stood := { row := picksRow, standIns := [], harness := (true, "73fab06dd345ee8f2da4e3e1e123de50e4f4795a1c3bbbdcbdd05624b8a7bc81"), looks := true }, kinds := [], alts := [], goes := true, laidByText := true, laidKinds := [.handle, .sentinel, .sentinel, .sentinel, .sentinel, .sentinel], laidTests := true, laidLooks := .later }
def PicksCardSaid : Prop := Claim7.holds Tryz.pinned (.plain (OpenSpec.ofChange picksSpec)) picksCard

/-- THE TIED CARD OF 'mvstorelaw.Events'. -/
def eventsCard : Claim7 := { stood := { row := eventsRow, standIns := [], harness := (true, "73fab06dd345ee8f2da4e3e1e123de50e4f4795a1c3bbbdcbdd05624b8a7bc81"), looks := true }, kinds := [], alts := [], goes := true, laidByText := true, laidKinds := [.handle, .sentinel, .sentinel, .sentinel, .sentinel, .sentinel], laidTests := true, laidLooks := .later }
def EventsCardSaid : Prop := Claim7.holds Tryz.pinned (.plain (OpenSpec.ofChange eventsSpec)) eventsCard

/-- THE TIED CARD OF 'mvstorelaw.Sites'. -/
def sitesCard : Claim7 := { stood := { row := sitesRow, standIns := [], harness := (true, "73fab06dd345ee8f2da4e3e1e123de50e4f4795a1c3bbbdcbdd05624b8a7bc81"), looks := true }, kinds := [], alts := [], goes := true, laidByText := true, laidKinds := [.handle, .sentinel, .sentinel, .sentinel, .sentinel, .sentinel], laidTests := true, laidLooks := .later }
def SitesCardSaid : Prop := Claim7.holds Tryz.pinned (.plain (OpenSpec.ofChange sitesSpec)) sitesCard
end Rows
end Go.Proofs.YtgahemdblfapeaaGreatDoor
