/-
  NARROWER THAN 'FOR EVERY INPUT', by the rows' own cells (each row's printed sentence says how): Snapshots: calm, laid · Hidden: calm, laid · Chains: calm, laid · All: calm, laid · Ends: calm, laid · Calm: calm, laid · Clients: calm, laid · Unswept: calm, laid · Picks: calm, laid · Events: calm, laid · Sites: calm, laid.
  DERIVED. THE GIVEN ROWS OF THIS SEAT. 11 by the template 'for every input the law returns true; each argument reads behind the call as it read before'; 0 by the template 'total and deterministic' (their statements: YtgahemdblfapeaaGreatDoorTotals.lean).
  GIVEN WITH THE SEED: the statements are not yours to turn. If you find one false, say at which input.
  Laid BY PROGRAM, IN A SANDBOX (cutbox-rows.mjs): the forced cells as the released guide's own fill.sh prints them over the translation 3b5ea26538068a3d… (all of the seat's roots in one cut). By AI agents, Wed Nov 11 2026. No macro, syntax, notation, axiom, sorry.
-/
import Derived.Test.YtgahemdblfapeaaGreatDoorChecked
import GoSem.Claim
import GoSem.ClaimJoined
import GoSem.ClaimMapViews
import Derived.JoinedTies
import Derived.KernelRfl
namespace Go.Proofs.YtgahemdblfapeaaGreatDoor
/- THE CELL 'sum', in the pinned program and in every row, IS THE sha256 OF THE DUMP (.gsa) THAT YtgahemdblfapeaaGreatDoorProg.lean LOADS. Nothing in Lean hashes anything: it is a label: what it is worth is what the hold of that sum in a sandbox is worth. -/
noncomputable def Tryz.pinned : Pinned := { name := "ytgahemdblfapeaagreatdoor", sum := "3b5ea26538068a3dae1b4116c30a1563c1567ed71c5ddca552c74048e1c0b14b", checked := Tryz.checked }
namespace Rows
def none {H : Type} : Left H := { results := [], args := [] }

/- WHAT THE LISTED PACKAGE-LEVEL VARIABLES READ AS WHEN THE CALL BEGINS. Each datum BY PROGRAM (the guide's laid-datum.mjs) off the statement by which the dump's own 'gosem.cut.vars' lays the variable. In a bare row this is a premise. The card (YtgahemdblfapeaaGreatDoorCards.lean) ties it to the program's text. -/
def laid_errors_errorType {H : Type} : DataW H := .iface "internal/reflectlite.rtype" (.agg [.ptr (.lit (.string [101, 114, 114, 111, 114]))])
def laid_mvstore_mv_ErrShape {H : Type} : DataW H := .iface "*errors.errorString" (.ptr (.agg [.lit (.string [110, 111, 32, 115, 117, 99, 104, 32, 115, 116, 111, 114, 101])]))
def laid_mvstore_mv_ErrProgram {H : Type} : DataW H := .iface "*errors.errorString" (.ptr (.agg [.lit (.string [110, 111, 32, 112, 114, 111, 103, 114, 97, 109])]))
def laid_mvstore_mv_ErrMany {H : Type} : DataW H := .iface "*errors.errorString" (.ptr (.agg [.lit (.string [116, 111, 111, 32, 109, 97, 110, 121, 32, 99, 108, 105, 101, 110, 116, 115])]))
def laid_mvstore_mv_ErrClient {H : Type} : DataW H := .iface "*errors.errorString" (.ptr (.agg [.lit (.string [110, 111, 32, 115, 117, 99, 104, 32, 99, 108, 105, 101, 110, 116])]))
def laid_mvstore_mv_ErrStopped {H : Type} : DataW H := .iface "*errors.errorString" (.ptr (.agg [.lit (.string [116, 104, 101, 32, 115, 116, 111, 114, 101, 32, 104, 97, 115, 32, 98, 101, 101, 110, 32, 115, 116, 111, 112, 112, 101, 100])]))

/-- 'mvstorelaw.Snapshots': WHATEVER THE INPUT: true; the input reads as it did. -/
def snapshotsSpec : ChangeSpec := { name := "snapshots", fn := fun _ => fun
  | [d] => { results := [.lit (.bool true)], args := [d] }
  | _ => none }
def snapshotsRow : OpenClaim := { program := "ytgahemdblfapeaagreatdoor", sum := "3b5ea26538068a3dae1b4116c30a1563c1567ed71c5ddca552c74048e1c0b14b", func := "mvstore/mvstorelaw.Snapshots", spec := "snapshots", inPlace := ["(*sync.WaitGroup).Add", "internal/race.ReleaseMerge", "internal/race.Disable", "internal/race.Enable", "internal/synctest.IsInBubble", "internal/synctest.Associate[sync.WaitGroup]", "sync.fatal", "sync/atomic.OrUint64", "sync/atomic.AddUint64", "internal/race.Read", "sync/atomic.LoadUint64", "sync/atomic.StoreUint64", "internal/synctest.Disassociate[sync.WaitGroup]", "sync.runtime_Semrelease", "(*sync.WaitGroup).Done", "(*internal/sync.Mutex).Lock", "sync/atomic.CompareAndSwapInt32", "internal/race.Acquire", "(*internal/sync.Mutex).lockSlow", "internal/sync.runtime_canSpin", "internal/sync.runtime_doSpin", "internal/sync.throw", "internal/sync.runtime_nanotime", "internal/sync.runtime_SemacquireMutex", "sync/atomic.AddInt32", "(*internal/sync.Mutex).Unlock", "(*internal/sync.Mutex).unlockSlow", "internal/sync.fatal", "internal/sync.runtime_Semrelease", "internal/reflectlite.ValueOf", "(internal/reflectlite.Value).Type", "(internal/reflectlite.Value).IsNil", "internal/reflectlite.TypeOf", "(internal/reflectlite.Value).Elem", "(internal/reflectlite.Value).Set", "(*sync.WaitGroup).Wait", "internal/synctest.IsAssociated[sync.WaitGroup]", "sync/atomic.CompareAndSwapUint64", "internal/race.Write", "sync.runtime_SemacquireWaitGroup"], unfollowed := true, recurses := true, named := ["mvstore/mv.ErrShape", "mvstore/mv.ErrProgram", "mvstore/mv.ErrMany", "mvstore/mv.ErrStopped", "errors.errorType", "mvstore/mv.ErrClient"], leaving := true, apart := false, calm := true, outside := [.timePasses], laid := [("errors.errorType", laid_errors_errorType), ("mvstore/mv.ErrShape", laid_mvstore_mv_ErrShape), ("mvstore/mv.ErrProgram", laid_mvstore_mv_ErrProgram), ("mvstore/mv.ErrMany", laid_mvstore_mv_ErrMany), ("mvstore/mv.ErrClient", laid_mvstore_mv_ErrClient), ("mvstore/mv.ErrStopped", laid_mvstore_mv_ErrStopped)] }
def SnapshotsSaid : Prop := snapshotsRow.holds Tryz.pinned (OpenSpec.ofChange snapshotsSpec)

/-- ITS FALSE NEIGHBOUR: 'it returns false'. Refute it at one input. -/
def snapshotsWrong : ChangeSpec := { name := "snapshots", fn := fun _ => fun
  | [d] => { results := [.lit (.bool false)], args := [d] }
  | _ => none }
def SnapshotsWrongFalsely : Prop := snapshotsRow.holds Tryz.pinned (OpenSpec.ofChange snapshotsWrong)

/-- 'mvstorelaw.Hidden': WHATEVER THE INPUT: true; the input reads as it did. -/
def hiddenSpec : ChangeSpec := { name := "hidden", fn := fun _ => fun
  | [d] => { results := [.lit (.bool true)], args := [d] }
  | _ => none }
def hiddenRow : OpenClaim := { program := "ytgahemdblfapeaagreatdoor", sum := "3b5ea26538068a3dae1b4116c30a1563c1567ed71c5ddca552c74048e1c0b14b", func := "mvstore/mvstorelaw.Hidden", spec := "hidden", inPlace := ["(*sync.WaitGroup).Add", "internal/race.ReleaseMerge", "internal/race.Disable", "internal/race.Enable", "internal/synctest.IsInBubble", "internal/synctest.Associate[sync.WaitGroup]", "sync.fatal", "sync/atomic.OrUint64", "sync/atomic.AddUint64", "internal/race.Read", "sync/atomic.LoadUint64", "sync/atomic.StoreUint64", "internal/synctest.Disassociate[sync.WaitGroup]", "sync.runtime_Semrelease", "(*sync.WaitGroup).Done", "(*internal/sync.Mutex).Lock", "sync/atomic.CompareAndSwapInt32", "internal/race.Acquire", "(*internal/sync.Mutex).lockSlow", "internal/sync.runtime_canSpin", "internal/sync.runtime_doSpin", "internal/sync.throw", "internal/sync.runtime_nanotime", "internal/sync.runtime_SemacquireMutex", "sync/atomic.AddInt32", "(*internal/sync.Mutex).Unlock", "(*internal/sync.Mutex).unlockSlow", "internal/sync.fatal", "internal/sync.runtime_Semrelease", "internal/reflectlite.ValueOf", "(internal/reflectlite.Value).Type", "(internal/reflectlite.Value).IsNil", "internal/reflectlite.TypeOf", "(internal/reflectlite.Value).Elem", "(internal/reflectlite.Value).Set", "(*sync.WaitGroup).Wait", "internal/synctest.IsAssociated[sync.WaitGroup]", "sync/atomic.CompareAndSwapUint64", "internal/race.Write", "sync.runtime_SemacquireWaitGroup"], unfollowed := true, recurses := true, named := ["mvstore/mv.ErrShape", "mvstore/mv.ErrProgram", "mvstore/mv.ErrMany", "mvstore/mv.ErrStopped", "errors.errorType", "mvstore/mv.ErrClient"], leaving := true, apart := false, calm := true, outside := [.timePasses], laid := [("errors.errorType", laid_errors_errorType), ("mvstore/mv.ErrShape", laid_mvstore_mv_ErrShape), ("mvstore/mv.ErrProgram", laid_mvstore_mv_ErrProgram), ("mvstore/mv.ErrMany", laid_mvstore_mv_ErrMany), ("mvstore/mv.ErrClient", laid_mvstore_mv_ErrClient), ("mvstore/mv.ErrStopped", laid_mvstore_mv_ErrStopped)] }
def HiddenSaid : Prop := hiddenRow.holds Tryz.pinned (OpenSpec.ofChange hiddenSpec)

/-- ITS FALSE NEIGHBOUR: 'it returns false'. Refute it at one input. -/
def hiddenWrong : ChangeSpec := { name := "hidden", fn := fun _ => fun
  | [d] => { results := [.lit (.bool false)], args := [d] }
  | _ => none }
def HiddenWrongFalsely : Prop := hiddenRow.holds Tryz.pinned (OpenSpec.ofChange hiddenWrong)

/-- 'mvstorelaw.Chains': WHATEVER THE INPUT: true; the input reads as it did. -/
def chainsSpec : ChangeSpec := { name := "chains", fn := fun _ => fun
  | [d] => { results := [.lit (.bool true)], args := [d] }
  | _ => none }
def chainsRow : OpenClaim := { program := "ytgahemdblfapeaagreatdoor", sum := "3b5ea26538068a3dae1b4116c30a1563c1567ed71c5ddca552c74048e1c0b14b", func := "mvstore/mvstorelaw.Chains", spec := "chains", inPlace := ["(*sync.WaitGroup).Add", "internal/race.ReleaseMerge", "internal/race.Disable", "internal/race.Enable", "internal/synctest.IsInBubble", "internal/synctest.Associate[sync.WaitGroup]", "sync.fatal", "sync/atomic.OrUint64", "sync/atomic.AddUint64", "internal/race.Read", "sync/atomic.LoadUint64", "sync/atomic.StoreUint64", "internal/synctest.Disassociate[sync.WaitGroup]", "sync.runtime_Semrelease", "(*sync.WaitGroup).Done", "(*internal/sync.Mutex).Lock", "sync/atomic.CompareAndSwapInt32", "internal/race.Acquire", "(*internal/sync.Mutex).lockSlow", "internal/sync.runtime_canSpin", "internal/sync.runtime_doSpin", "internal/sync.throw", "internal/sync.runtime_nanotime", "internal/sync.runtime_SemacquireMutex", "sync/atomic.AddInt32", "(*internal/sync.Mutex).Unlock", "(*internal/sync.Mutex).unlockSlow", "internal/sync.fatal", "internal/sync.runtime_Semrelease", "internal/reflectlite.ValueOf", "(internal/reflectlite.Value).Type", "(internal/reflectlite.Value).IsNil", "internal/reflectlite.TypeOf", "(internal/reflectlite.Value).Elem", "(internal/reflectlite.Value).Set", "(*sync.WaitGroup).Wait", "internal/synctest.IsAssociated[sync.WaitGroup]", "sync/atomic.CompareAndSwapUint64", "internal/race.Write", "sync.runtime_SemacquireWaitGroup"], unfollowed := true, recurses := true, named := ["mvstore/mv.ErrShape", "mvstore/mv.ErrProgram", "mvstore/mv.ErrMany", "mvstore/mv.ErrStopped", "errors.errorType", "mvstore/mv.ErrClient"], leaving := true, apart := false, calm := true, outside := [.timePasses], laid := [("errors.errorType", laid_errors_errorType), ("mvstore/mv.ErrShape", laid_mvstore_mv_ErrShape), ("mvstore/mv.ErrProgram", laid_mvstore_mv_ErrProgram), ("mvstore/mv.ErrMany", laid_mvstore_mv_ErrMany), ("mvstore/mv.ErrClient", laid_mvstore_mv_ErrClient), ("mvstore/mv.ErrStopped", laid_mvstore_mv_ErrStopped)] }
def ChainsSaid : Prop := chainsRow.holds Tryz.pinned (OpenSpec.ofChange chainsSpec)

/-- ITS FALSE NEIGHBOUR: 'it returns false'. Refute it at one input. -/
def chainsWrong : ChangeSpec := { name := "chains", fn := fun _ => fun
  | [d] => { results := [.lit (.bool false)], args := [d] }
  | _ => none }
def ChainsWrongFalsely : Prop := chainsRow.holds Tryz.pinned (OpenSpec.ofChange chainsWrong)

/-- 'mvstorelaw.All': WHATEVER THE INPUT: true; the input reads as it did. -/
def allSpec : ChangeSpec := { name := "all", fn := fun _ => fun
  | [d] => { results := [.lit (.bool true)], args := [d] }
  | _ => none }
def allRow : OpenClaim := { program := "ytgahemdblfapeaagreatdoor", sum := "3b5ea26538068a3dae1b4116c30a1563c1567ed71c5ddca552c74048e1c0b14b", func := "mvstore/mvstorelaw.All", spec := "all", inPlace := ["(*sync.WaitGroup).Add", "internal/race.ReleaseMerge", "internal/race.Disable", "internal/race.Enable", "internal/synctest.IsInBubble", "internal/synctest.Associate[sync.WaitGroup]", "sync.fatal", "sync/atomic.OrUint64", "sync/atomic.AddUint64", "internal/race.Read", "sync/atomic.LoadUint64", "sync/atomic.StoreUint64", "internal/synctest.Disassociate[sync.WaitGroup]", "sync.runtime_Semrelease", "(*sync.WaitGroup).Done", "(*internal/sync.Mutex).Lock", "sync/atomic.CompareAndSwapInt32", "internal/race.Acquire", "(*internal/sync.Mutex).lockSlow", "internal/sync.runtime_canSpin", "internal/sync.runtime_doSpin", "internal/sync.throw", "internal/sync.runtime_nanotime", "internal/sync.runtime_SemacquireMutex", "sync/atomic.AddInt32", "(*internal/sync.Mutex).Unlock", "(*internal/sync.Mutex).unlockSlow", "internal/sync.fatal", "internal/sync.runtime_Semrelease", "internal/reflectlite.ValueOf", "(internal/reflectlite.Value).Type", "(internal/reflectlite.Value).IsNil", "internal/reflectlite.TypeOf", "(internal/reflectlite.Value).Elem", "(internal/reflectlite.Value).Set", "(*sync.WaitGroup).Wait", "internal/synctest.IsAssociated[sync.WaitGroup]", "sync/atomic.CompareAndSwapUint64", "internal/race.Write", "sync.runtime_SemacquireWaitGroup"], unfollowed := true, recurses := true, named := ["mvstore/mv.ErrShape", "mvstore/mv.ErrProgram", "mvstore/mv.ErrMany", "mvstore/mv.ErrStopped", "errors.errorType", "mvstore/mv.ErrClient"], leaving := true, apart := false, calm := true, outside := [.timePasses], laid := [("errors.errorType", laid_errors_errorType), ("mvstore/mv.ErrShape", laid_mvstore_mv_ErrShape), ("mvstore/mv.ErrProgram", laid_mvstore_mv_ErrProgram), ("mvstore/mv.ErrMany", laid_mvstore_mv_ErrMany), ("mvstore/mv.ErrClient", laid_mvstore_mv_ErrClient), ("mvstore/mv.ErrStopped", laid_mvstore_mv_ErrStopped)] }
def AllSaid : Prop := allRow.holds Tryz.pinned (OpenSpec.ofChange allSpec)

/-- ITS FALSE NEIGHBOUR: 'it returns false'. Refute it at one input. -/
def allWrong : ChangeSpec := { name := "all", fn := fun _ => fun
  | [d] => { results := [.lit (.bool false)], args := [d] }
  | _ => none }
def AllWrongFalsely : Prop := allRow.holds Tryz.pinned (OpenSpec.ofChange allWrong)

/-- 'mvstorelaw.Ends': WHATEVER THE INPUT: true; the input reads as it did. -/
def endsSpec : ChangeSpec := { name := "ends", fn := fun _ => fun
  | [d] => { results := [.lit (.bool true)], args := [d] }
  | _ => none }
def endsRow : OpenClaim := { program := "ytgahemdblfapeaagreatdoor", sum := "3b5ea26538068a3dae1b4116c30a1563c1567ed71c5ddca552c74048e1c0b14b", func := "mvstore/mvstorelaw.Ends", spec := "ends", inPlace := ["(*sync.WaitGroup).Add", "internal/race.ReleaseMerge", "internal/race.Disable", "internal/race.Enable", "internal/synctest.IsInBubble", "internal/synctest.Associate[sync.WaitGroup]", "sync.fatal", "sync/atomic.OrUint64", "sync/atomic.AddUint64", "internal/race.Read", "sync/atomic.LoadUint64", "sync/atomic.StoreUint64", "internal/synctest.Disassociate[sync.WaitGroup]", "sync.runtime_Semrelease", "(*sync.WaitGroup).Done", "(*internal/sync.Mutex).Lock", "sync/atomic.CompareAndSwapInt32", "internal/race.Acquire", "(*internal/sync.Mutex).lockSlow", "internal/sync.runtime_canSpin", "internal/sync.runtime_doSpin", "internal/sync.throw", "internal/sync.runtime_nanotime", "internal/sync.runtime_SemacquireMutex", "sync/atomic.AddInt32", "(*internal/sync.Mutex).Unlock", "(*internal/sync.Mutex).unlockSlow", "internal/sync.fatal", "internal/sync.runtime_Semrelease", "internal/reflectlite.ValueOf", "(internal/reflectlite.Value).Type", "(internal/reflectlite.Value).IsNil", "internal/reflectlite.TypeOf", "(internal/reflectlite.Value).Elem", "(internal/reflectlite.Value).Set", "(*sync.WaitGroup).Wait", "internal/synctest.IsAssociated[sync.WaitGroup]", "sync/atomic.CompareAndSwapUint64", "internal/race.Write", "sync.runtime_SemacquireWaitGroup"], unfollowed := true, recurses := true, named := ["mvstore/mv.ErrShape", "mvstore/mv.ErrProgram", "mvstore/mv.ErrMany", "mvstore/mv.ErrStopped", "errors.errorType", "mvstore/mv.ErrClient"], leaving := true, apart := false, calm := true, outside := [.timePasses], laid := [("errors.errorType", laid_errors_errorType), ("mvstore/mv.ErrShape", laid_mvstore_mv_ErrShape), ("mvstore/mv.ErrProgram", laid_mvstore_mv_ErrProgram), ("mvstore/mv.ErrMany", laid_mvstore_mv_ErrMany), ("mvstore/mv.ErrClient", laid_mvstore_mv_ErrClient), ("mvstore/mv.ErrStopped", laid_mvstore_mv_ErrStopped)] }
def EndsSaid : Prop := endsRow.holds Tryz.pinned (OpenSpec.ofChange endsSpec)

/-- ITS FALSE NEIGHBOUR: 'it returns false'. Refute it at one input. -/
def endsWrong : ChangeSpec := { name := "ends", fn := fun _ => fun
  | [d] => { results := [.lit (.bool false)], args := [d] }
  | _ => none }
def EndsWrongFalsely : Prop := endsRow.holds Tryz.pinned (OpenSpec.ofChange endsWrong)

/-- 'mvstorelaw.Calm': WHATEVER THE INPUT: true; the input reads as it did. -/
def calmSpec : ChangeSpec := { name := "calm", fn := fun _ => fun
  | [d] => { results := [.lit (.bool true)], args := [d] }
  | _ => none }
def calmRow : OpenClaim := { program := "ytgahemdblfapeaagreatdoor", sum := "3b5ea26538068a3dae1b4116c30a1563c1567ed71c5ddca552c74048e1c0b14b", func := "mvstore/mvstorelaw.Calm", spec := "calm", inPlace := ["(*sync.WaitGroup).Add", "internal/race.ReleaseMerge", "internal/race.Disable", "internal/race.Enable", "internal/synctest.IsInBubble", "internal/synctest.Associate[sync.WaitGroup]", "sync.fatal", "sync/atomic.OrUint64", "sync/atomic.AddUint64", "internal/race.Read", "sync/atomic.LoadUint64", "sync/atomic.StoreUint64", "internal/synctest.Disassociate[sync.WaitGroup]", "sync.runtime_Semrelease", "(*sync.WaitGroup).Done", "(*internal/sync.Mutex).Lock", "sync/atomic.CompareAndSwapInt32", "internal/race.Acquire", "(*internal/sync.Mutex).lockSlow", "internal/sync.runtime_canSpin", "internal/sync.runtime_doSpin", "internal/sync.throw", "internal/sync.runtime_nanotime", "internal/sync.runtime_SemacquireMutex", "sync/atomic.AddInt32", "(*internal/sync.Mutex).Unlock", "(*internal/sync.Mutex).unlockSlow", "internal/sync.fatal", "internal/sync.runtime_Semrelease", "internal/reflectlite.ValueOf", "(internal/reflectlite.Value).Type", "(internal/reflectlite.Value).IsNil", "internal/reflectlite.TypeOf", "(internal/reflectlite.Value).Elem", "(internal/reflectlite.Value).Set", "(*sync.WaitGroup).Wait", "internal/synctest.IsAssociated[sync.WaitGroup]", "sync/atomic.CompareAndSwapUint64", "internal/race.Write", "sync.runtime_SemacquireWaitGroup"], unfollowed := true, recurses := true, named := ["mvstore/mv.ErrShape", "mvstore/mv.ErrProgram", "mvstore/mv.ErrMany", "mvstore/mv.ErrStopped", "errors.errorType", "mvstore/mv.ErrClient"], leaving := true, apart := false, calm := true, outside := [.timePasses], laid := [("errors.errorType", laid_errors_errorType), ("mvstore/mv.ErrShape", laid_mvstore_mv_ErrShape), ("mvstore/mv.ErrProgram", laid_mvstore_mv_ErrProgram), ("mvstore/mv.ErrMany", laid_mvstore_mv_ErrMany), ("mvstore/mv.ErrClient", laid_mvstore_mv_ErrClient), ("mvstore/mv.ErrStopped", laid_mvstore_mv_ErrStopped)] }
def CalmSaid : Prop := calmRow.holds Tryz.pinned (OpenSpec.ofChange calmSpec)

/-- ITS FALSE NEIGHBOUR: 'it returns false'. Refute it at one input. -/
def calmWrong : ChangeSpec := { name := "calm", fn := fun _ => fun
  | [d] => { results := [.lit (.bool false)], args := [d] }
  | _ => none }
def CalmWrongFalsely : Prop := calmRow.holds Tryz.pinned (OpenSpec.ofChange calmWrong)

/-- 'mvstorelaw.Clients': WHATEVER THE INPUT: true; the input reads as it did. -/
def clientsSpec : ChangeSpec := { name := "clients", fn := fun _ => fun
  | [d] => { results := [.lit (.bool true)], args := [d] }
  | _ => none }
def clientsRow : OpenClaim := { program := "ytgahemdblfapeaagreatdoor", sum := "3b5ea26538068a3dae1b4116c30a1563c1567ed71c5ddca552c74048e1c0b14b", func := "mvstore/mvstorelaw.Clients", spec := "clients", inPlace := ["(*sync.WaitGroup).Add", "internal/race.ReleaseMerge", "internal/race.Disable", "internal/race.Enable", "internal/synctest.IsInBubble", "internal/synctest.Associate[sync.WaitGroup]", "sync.fatal", "sync/atomic.OrUint64", "sync/atomic.AddUint64", "internal/race.Read", "sync/atomic.LoadUint64", "sync/atomic.StoreUint64", "internal/synctest.Disassociate[sync.WaitGroup]", "sync.runtime_Semrelease", "(*sync.WaitGroup).Done", "(*internal/sync.Mutex).Lock", "sync/atomic.CompareAndSwapInt32", "internal/race.Acquire", "(*internal/sync.Mutex).lockSlow", "internal/sync.runtime_canSpin", "internal/sync.runtime_doSpin", "internal/sync.throw", "internal/sync.runtime_nanotime", "internal/sync.runtime_SemacquireMutex", "sync/atomic.AddInt32", "(*internal/sync.Mutex).Unlock", "(*internal/sync.Mutex).unlockSlow", "internal/sync.fatal", "internal/sync.runtime_Semrelease", "internal/reflectlite.ValueOf", "(internal/reflectlite.Value).Type", "(internal/reflectlite.Value).IsNil", "internal/reflectlite.TypeOf", "(internal/reflectlite.Value).Elem", "(internal/reflectlite.Value).Set", "(*sync.WaitGroup).Wait", "internal/synctest.IsAssociated[sync.WaitGroup]", "sync/atomic.CompareAndSwapUint64", "internal/race.Write", "sync.runtime_SemacquireWaitGroup"], unfollowed := true, recurses := true, named := ["mvstore/mv.ErrShape", "mvstore/mv.ErrProgram", "mvstore/mv.ErrMany", "mvstore/mv.ErrStopped", "errors.errorType", "mvstore/mv.ErrClient"], leaving := true, apart := false, calm := true, outside := [.timePasses], laid := [("errors.errorType", laid_errors_errorType), ("mvstore/mv.ErrShape", laid_mvstore_mv_ErrShape), ("mvstore/mv.ErrProgram", laid_mvstore_mv_ErrProgram), ("mvstore/mv.ErrMany", laid_mvstore_mv_ErrMany), ("mvstore/mv.ErrClient", laid_mvstore_mv_ErrClient), ("mvstore/mv.ErrStopped", laid_mvstore_mv_ErrStopped)] }
def ClientsSaid : Prop := clientsRow.holds Tryz.pinned (OpenSpec.ofChange clientsSpec)

/-- ITS FALSE NEIGHBOUR: 'it returns false'. Refute it at one input. -/
def clientsWrong : ChangeSpec := { name := "clients", fn := fun _ => fun
  | [d] => { results := [.lit (.bool false)], args := [d] }
  | _ => none }
def ClientsWrongFalsely : Prop := clientsRow.holds Tryz.pinned (OpenSpec.ofChange clientsWrong)

/-- 'mvstorelaw.Unswept': WHATEVER THE INPUT: true; the input reads as it did. -/
def unsweptSpec : ChangeSpec := { name := "unswept", fn := fun _ => fun
  | [d] => { results := [.lit (.bool true)], args := [d] }
  | _ => none }
def unsweptRow : OpenClaim := { program := "ytgahemdblfapeaagreatdoor", sum := "3b5ea26538068a3dae1b4116c30a1563c1567ed71c5ddca552c74048e1c0b14b", func := "mvstore/mvstorelaw.Unswept", spec := "unswept", inPlace := ["(*sync.WaitGroup).Add", "internal/race.ReleaseMerge", "internal/race.Disable", "internal/race.Enable", "internal/synctest.IsInBubble", "internal/synctest.Associate[sync.WaitGroup]", "sync.fatal", "sync/atomic.OrUint64", "sync/atomic.AddUint64", "internal/race.Read", "sync/atomic.LoadUint64", "sync/atomic.StoreUint64", "internal/synctest.Disassociate[sync.WaitGroup]", "sync.runtime_Semrelease", "(*sync.WaitGroup).Done", "(*internal/sync.Mutex).Lock", "sync/atomic.CompareAndSwapInt32", "internal/race.Acquire", "(*internal/sync.Mutex).lockSlow", "internal/sync.runtime_canSpin", "internal/sync.runtime_doSpin", "internal/sync.throw", "internal/sync.runtime_nanotime", "internal/sync.runtime_SemacquireMutex", "sync/atomic.AddInt32", "(*internal/sync.Mutex).Unlock", "(*internal/sync.Mutex).unlockSlow", "internal/sync.fatal", "internal/sync.runtime_Semrelease", "internal/reflectlite.ValueOf", "(internal/reflectlite.Value).Type", "(internal/reflectlite.Value).IsNil", "internal/reflectlite.TypeOf", "(internal/reflectlite.Value).Elem", "(internal/reflectlite.Value).Set", "(*sync.WaitGroup).Wait", "internal/synctest.IsAssociated[sync.WaitGroup]", "sync/atomic.CompareAndSwapUint64", "internal/race.Write", "sync.runtime_SemacquireWaitGroup"], unfollowed := true, recurses := true, named := ["mvstore/mv.ErrShape", "mvstore/mv.ErrProgram", "mvstore/mv.ErrMany", "mvstore/mv.ErrStopped", "errors.errorType", "mvstore/mv.ErrClient"], leaving := true, apart := false, calm := true, outside := [.timePasses], laid := [("errors.errorType", laid_errors_errorType), ("mvstore/mv.ErrShape", laid_mvstore_mv_ErrShape), ("mvstore/mv.ErrProgram", laid_mvstore_mv_ErrProgram), ("mvstore/mv.ErrMany", laid_mvstore_mv_ErrMany), ("mvstore/mv.ErrClient", laid_mvstore_mv_ErrClient), ("mvstore/mv.ErrStopped", laid_mvstore_mv_ErrStopped)] }
def UnsweptSaid : Prop := unsweptRow.holds Tryz.pinned (OpenSpec.ofChange unsweptSpec)

/-- ITS FALSE NEIGHBOUR: 'it returns false'. Refute it at one input. -/
def unsweptWrong : ChangeSpec := { name := "unswept", fn := fun _ => fun
  | [d] => { results := [.lit (.bool false)], args := [d] }
  | _ => none }
def UnsweptWrongFalsely : Prop := unsweptRow.holds Tryz.pinned (OpenSpec.ofChange unsweptWrong)

/-- 'mvstorelaw.Picks': WHATEVER THE INPUT: true; the input reads as it did. -/
def picksSpec : ChangeSpec := { name := "picks", fn := fun _ => fun
  | [d] => { results := [.lit (.bool true)], args := [d] }
  | _ => none }
def picksRow : OpenClaim := { program := "ytgahemdblfapeaagreatdoor", sum := "3b5ea26538068a3dae1b4116c30a1563c1567ed71c5ddca552c74048e1c0b14b", func := "mvstore/mvstorelaw.Picks", spec := "picks", inPlace := ["(*sync.WaitGroup).Add", "internal/race.ReleaseMerge", "internal/race.Disable", "internal/race.Enable", "internal/synctest.IsInBubble", "internal/synctest.Associate[sync.WaitGroup]", "sync.fatal", "sync/atomic.OrUint64", "sync/atomic.AddUint64", "internal/race.Read", "sync/atomic.LoadUint64", "sync/atomic.StoreUint64", "internal/synctest.Disassociate[sync.WaitGroup]", "sync.runtime_Semrelease", "(*sync.WaitGroup).Done", "(*internal/sync.Mutex).Lock", "sync/atomic.CompareAndSwapInt32", "internal/race.Acquire", "(*internal/sync.Mutex).lockSlow", "internal/sync.runtime_canSpin", "internal/sync.runtime_doSpin", "internal/sync.throw", "internal/sync.runtime_nanotime", "internal/sync.runtime_SemacquireMutex", "sync/atomic.AddInt32", "(*internal/sync.Mutex).Unlock", "(*internal/sync.Mutex).unlockSlow", "internal/sync.fatal", "internal/sync.runtime_Semrelease", "internal/reflectlite.ValueOf", "(internal/reflectlite.Value).Type", "(internal/reflectlite.Value).IsNil", "internal/reflectlite.TypeOf", "(internal/reflectlite.Value).Elem", "(internal/reflectlite.Value).Set", "(*sync.WaitGroup).Wait", "internal/synctest.IsAssociated[sync.WaitGroup]", "sync/atomic.CompareAndSwapUint64", "internal/race.Write", "sync.runtime_SemacquireWaitGroup"], unfollowed := true, recurses := true, named := ["mvstore/mv.ErrShape", "mvstore/mv.ErrProgram", "mvstore/mv.ErrMany", "mvstore/mv.ErrStopped", "errors.errorType", "mvstore/mv.ErrClient"], leaving := true, apart := false, calm := true, outside := [.timePasses], laid := [("errors.errorType", laid_errors_errorType), ("mvstore/mv.ErrShape", laid_mvstore_mv_ErrShape), ("mvstore/mv.ErrProgram", laid_mvstore_mv_ErrProgram), ("mvstore/mv.ErrMany", laid_mvstore_mv_ErrMany), ("mvstore/mv.ErrClient", laid_mvstore_mv_ErrClient), ("mvstore/mv.ErrStopped", laid_mvstore_mv_ErrStopped)] }
def PicksSaid : Prop := picksRow.holds Tryz.pinned (OpenSpec.ofChange picksSpec)

/-- ITS FALSE NEIGHBOUR: 'it returns false'. Refute it at one input. -/
def picksWrong : ChangeSpec := { name := "picks", fn := fun _ => fun
  | [d] => { results := [.lit (.bool false)], args := [d] }
  | _ => none }
def PicksWrongFalsely : Prop := picksRow.holds Tryz.pinned (OpenSpec.ofChange picksWrong)

/-- 'mvstorelaw.Events': WHATEVER THE INPUT: true; the input reads as it did. -/
def eventsSpec : ChangeSpec := { name := "events", fn := fun _ => fun
  | [d] => { results := [.lit (.bool true)], args := [d] }
  | _ => none }
def eventsRow : OpenClaim := { program := "ytgahemdblfapeaagreatdoor", sum := "3b5ea26538068a3dae1b4116c30a1563c1567ed71c5ddca552c74048e1c0b14b", func := "mvstore/mvstorelaw.Events", spec := "events", inPlace := ["(*sync.WaitGroup).Add", "internal/race.ReleaseMerge", "internal/race.Disable", "internal/race.Enable", "internal/synctest.IsInBubble", "internal/synctest.Associate[sync.WaitGroup]", "sync.fatal", "sync/atomic.OrUint64", "sync/atomic.AddUint64", "internal/race.Read", "sync/atomic.LoadUint64", "sync/atomic.StoreUint64", "internal/synctest.Disassociate[sync.WaitGroup]", "sync.runtime_Semrelease", "(*sync.WaitGroup).Done", "(*internal/sync.Mutex).Lock", "sync/atomic.CompareAndSwapInt32", "internal/race.Acquire", "(*internal/sync.Mutex).lockSlow", "internal/sync.runtime_canSpin", "internal/sync.runtime_doSpin", "internal/sync.throw", "internal/sync.runtime_nanotime", "internal/sync.runtime_SemacquireMutex", "sync/atomic.AddInt32", "(*internal/sync.Mutex).Unlock", "(*internal/sync.Mutex).unlockSlow", "internal/sync.fatal", "internal/sync.runtime_Semrelease", "internal/reflectlite.ValueOf", "(internal/reflectlite.Value).Type", "(internal/reflectlite.Value).IsNil", "internal/reflectlite.TypeOf", "(internal/reflectlite.Value).Elem", "(internal/reflectlite.Value).Set", "(*sync.WaitGroup).Wait", "internal/synctest.IsAssociated[sync.WaitGroup]", "sync/atomic.CompareAndSwapUint64", "internal/race.Write", "sync.runtime_SemacquireWaitGroup"], unfollowed := true, recurses := true, named := ["mvstore/mv.ErrShape", "mvstore/mv.ErrProgram", "mvstore/mv.ErrMany", "mvstore/mv.ErrStopped", "errors.errorType", "mvstore/mv.ErrClient"], leaving := true, apart := false, calm := true, outside := [.timePasses], laid := [("errors.errorType", laid_errors_errorType), ("mvstore/mv.ErrShape", laid_mvstore_mv_ErrShape), ("mvstore/mv.ErrProgram", laid_mvstore_mv_ErrProgram), ("mvstore/mv.ErrMany", laid_mvstore_mv_ErrMany), ("mvstore/mv.ErrClient", laid_mvstore_mv_ErrClient), ("mvstore/mv.ErrStopped", laid_mvstore_mv_ErrStopped)] }
def EventsSaid : Prop := eventsRow.holds Tryz.pinned (OpenSpec.ofChange eventsSpec)

/-- ITS FALSE NEIGHBOUR: 'it returns false'. Refute it at one input. -/
def eventsWrong : ChangeSpec := { name := "events", fn := fun _ => fun
  | [d] => { results := [.lit (.bool false)], args := [d] }
  | _ => none }
def EventsWrongFalsely : Prop := eventsRow.holds Tryz.pinned (OpenSpec.ofChange eventsWrong)

/-- 'mvstorelaw.Sites': WHATEVER THE INPUT: true; the input reads as it did. -/
def sitesSpec : ChangeSpec := { name := "sites", fn := fun _ => fun
  | [d] => { results := [.lit (.bool true)], args := [d] }
  | _ => none }
def sitesRow : OpenClaim := { program := "ytgahemdblfapeaagreatdoor", sum := "3b5ea26538068a3dae1b4116c30a1563c1567ed71c5ddca552c74048e1c0b14b", func := "mvstore/mvstorelaw.Sites", spec := "sites", inPlace := ["(*sync.WaitGroup).Add", "internal/race.ReleaseMerge", "internal/race.Disable", "internal/race.Enable", "internal/synctest.IsInBubble", "internal/synctest.Associate[sync.WaitGroup]", "sync.fatal", "sync/atomic.OrUint64", "sync/atomic.AddUint64", "internal/race.Read", "sync/atomic.LoadUint64", "sync/atomic.StoreUint64", "internal/synctest.Disassociate[sync.WaitGroup]", "sync.runtime_Semrelease", "(*sync.WaitGroup).Done", "(*internal/sync.Mutex).Lock", "sync/atomic.CompareAndSwapInt32", "internal/race.Acquire", "(*internal/sync.Mutex).lockSlow", "internal/sync.runtime_canSpin", "internal/sync.runtime_doSpin", "internal/sync.throw", "internal/sync.runtime_nanotime", "internal/sync.runtime_SemacquireMutex", "sync/atomic.AddInt32", "(*internal/sync.Mutex).Unlock", "(*internal/sync.Mutex).unlockSlow", "internal/sync.fatal", "internal/sync.runtime_Semrelease", "internal/reflectlite.ValueOf", "(internal/reflectlite.Value).Type", "(internal/reflectlite.Value).IsNil", "internal/reflectlite.TypeOf", "(internal/reflectlite.Value).Elem", "(internal/reflectlite.Value).Set", "(*sync.WaitGroup).Wait", "internal/synctest.IsAssociated[sync.WaitGroup]", "sync/atomic.CompareAndSwapUint64", "internal/race.Write", "sync.runtime_SemacquireWaitGroup"], unfollowed := true, recurses := true, named := ["mvstore/mv.ErrShape", "mvstore/mv.ErrProgram", "mvstore/mv.ErrMany", "mvstore/mv.ErrStopped", "errors.errorType", "mvstore/mv.ErrClient"], leaving := true, apart := false, calm := true, outside := [.timePasses], laid := [("errors.errorType", laid_errors_errorType), ("mvstore/mv.ErrShape", laid_mvstore_mv_ErrShape), ("mvstore/mv.ErrProgram", laid_mvstore_mv_ErrProgram), ("mvstore/mv.ErrMany", laid_mvstore_mv_ErrMany), ("mvstore/mv.ErrClient", laid_mvstore_mv_ErrClient), ("mvstore/mv.ErrStopped", laid_mvstore_mv_ErrStopped)] }
def SitesSaid : Prop := sitesRow.holds Tryz.pinned (OpenSpec.ofChange sitesSpec)

/-- ITS FALSE NEIGHBOUR: 'it returns false'. Refute it at one input. -/
def sitesWrong : ChangeSpec := { name := "sites", fn := fun _ => fun
  | [d] => { results := [.lit (.bool false)], args := [d] }
  | _ => none }
def SitesWrongFalsely : Prop := sitesRow.holds Tryz.pinned (OpenSpec.ofChange sitesWrong)

end Rows
end Go.Proofs.YtgahemdblfapeaaGreatDoor
