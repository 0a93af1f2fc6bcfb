/-
  NARROWER THAN 'FOR EVERY INPUT', by the rows' own cells (each row's printed sentence says how): Names: laid.
  DERIVED. THE GIVEN ROWS OF THIS SEAT. 1 by the template 'for every input the law returns true; each argument reads behind the call as it read before'; 0 by the template 'total and deterministic' (their statements: YtgahemdblfapeaaDoorTotals.lean).
  GIVEN WITH THE SEED: the statements are not yours to turn. If you find one false, say at which input.
  Laid BY PROGRAM, IN A SANDBOX (cutbox-rows.mjs): the forced cells as the released guide's own fill.sh prints them over the translation 4c944b6de2c424e1… (all of the seat's roots in one cut). By AI agents, Wed Nov 11 2026. No macro, syntax, notation, axiom, sorry.
-/
import Derived.Test.YtgahemdblfapeaaDoorChecked
import GoSem.Claim
import GoSem.ClaimJoined
import GoSem.ClaimMapViews
import Derived.JoinedTies
import Derived.KernelRfl
namespace Go.Proofs.YtgahemdblfapeaaDoor
/- THE CELL 'sum', in the pinned program and in every row, IS THE sha256 OF THE DUMP (.gsa) THAT YtgahemdblfapeaaDoorProg.lean LOADS. Nothing in Lean hashes anything: it is a label: what it is worth is what the hold of that sum in a sandbox is worth. -/
noncomputable def Tryd.pinned : Pinned := { name := "ytgahemdblfapeaadoor", sum := "4c944b6de2c424e1c0aa6431c524d68fc16892d0369a100f30e8ee61ffb8a3ee", checked := Tryd.checked }
namespace Rows
def none {H : Type} : Left H := { results := [], args := [] }

/- WHAT THE LISTED PACKAGE-LEVEL VARIABLES READ AS WHEN THE CALL BEGINS. Each datum BY PROGRAM (the guide's laid-datum.mjs) off the statement by which the dump's own 'gosem.cut.vars' lays the variable. In a bare row this is a premise. The card (YtgahemdblfapeaaDoorCards.lean) ties it to the program's text. -/
def laid_mvstore_mv_ErrShape {H : Type} : DataW H := .iface "*errors.errorString" (.ptr (.agg [.lit (.string [110, 111, 32, 115, 117, 99, 104, 32, 115, 116, 111, 114, 101])]))
def laid_mvstore_mv_ErrProgram {H : Type} : DataW H := .iface "*errors.errorString" (.ptr (.agg [.lit (.string [110, 111, 32, 112, 114, 111, 103, 114, 97, 109])]))
def laid_mvstore_mv_ErrMany {H : Type} : DataW H := .iface "*errors.errorString" (.ptr (.agg [.lit (.string [116, 111, 111, 32, 109, 97, 110, 121, 32, 99, 108, 105, 101, 110, 116, 115])]))
def laid_mvstore_mv_ErrClient {H : Type} : DataW H := .iface "*errors.errorString" (.ptr (.agg [.lit (.string [110, 111, 32, 115, 117, 99, 104, 32, 99, 108, 105, 101, 110, 116])]))
def laid_mvstore_mv_ErrStopped {H : Type} : DataW H := .iface "*errors.errorString" (.ptr (.agg [.lit (.string [116, 104, 101, 32, 115, 116, 111, 114, 101, 32, 104, 97, 115, 32, 98, 101, 101, 110, 32, 115, 116, 111, 112, 112, 101, 100])]))

/-- 'mvstorelaw.Names': WHATEVER THE INPUT: true; the input reads as it did. -/
def namesSpec : ChangeSpec := { name := "names", fn := fun _ => fun
  | [] => { results := [.lit (.bool true)], args := [] }
  | _ => none }
def namesRow : OpenClaim := { program := "ytgahemdblfapeaadoor", sum := "4c944b6de2c424e1c0aa6431c524d68fc16892d0369a100f30e8ee61ffb8a3ee", func := "mvstore/mvstorelaw.Names", spec := "names", named := ["mvstore/mv.ErrShape", "mvstore/mv.ErrProgram", "mvstore/mv.ErrMany", "mvstore/mv.ErrClient", "mvstore/mv.ErrStopped"], apart := false, laid := [("mvstore/mv.ErrShape", laid_mvstore_mv_ErrShape), ("mvstore/mv.ErrProgram", laid_mvstore_mv_ErrProgram), ("mvstore/mv.ErrMany", laid_mvstore_mv_ErrMany), ("mvstore/mv.ErrClient", laid_mvstore_mv_ErrClient), ("mvstore/mv.ErrStopped", laid_mvstore_mv_ErrStopped)] }
def NamesSaid : Prop := namesRow.holds Tryd.pinned (OpenSpec.ofChange namesSpec)

/-- ITS FALSE NEIGHBOUR: 'it returns false'. Refute it at one input. -/
def namesWrong : ChangeSpec := { name := "names", fn := fun _ => fun
  | [] => { results := [.lit (.bool false)], args := [] }
  | _ => none }
def NamesWrongFalsely : Prop := namesRow.holds Tryd.pinned (OpenSpec.ofChange namesWrong)

/- THE SECOND FORM. 'bulk': how many values and letters a reading holds, each counted each time it is reached (what is shared counts as often as it is met; a slice's spare places count too). A statement '..UptoSaid' is the law's where the arguments, and the package variables that the reading takes, are together of bulk at most 1048576: NARROWER than '..Said'. Prove '..Said' where nothing that the law and all that it calls make is longer than what came in: it says more and counts as full. Else prove '..UptoSaid'. A law counts once. -/
mutual
def uptoBulk {H : Type} : DataW H → Nat
  | .lit (.string bytes) => bytes.length + 1
  | .lit _ => 1
  | .nil => 1
  | .ptr d => uptoBulk d + 1
  | .slice elems spare => uptoBulkAll elems + uptoBulkAll spare + 1
  | .agg parts => uptoBulkAll parts + 1
  | .iface _ d => uptoBulk d + 1
  | .map entries => uptoBulkEntries entries + 1
  | .held _ => 1
def uptoBulkAll {H : Type} : List (DataW H) → Nat
  | [] => 0
  | d :: r => uptoBulk d + uptoBulkAll r
def uptoBulkEntries {H : Type} : List (Lit × DataW H) → Nat
  | [] => 0
  | x :: r => uptoBulkEntry x + uptoBulkEntries r
def uptoBulkEntry {H : Type} : Lit × DataW H → Nat
  | (.string bytes, d) => bytes.length + uptoBulk d + 1
  | (_, d) => uptoBulk d + 1
 end
def uptoSmall : (H : Type) → List (DataW H) → Bool := fun _ ds => decide (uptoBulkAll ds ≤ 1048576)
def OpenSpec.upto (s : _root_.Go.ChangeSpec) : _root_.Go.OpenSpec := { _root_.Go.OpenSpec.ofChange s with cond := some uptoSmall }

/-- 'mvstorelaw.Names', WHERE WHAT IT READS IS OF BULK AT MOST 1048576: true; the input reads as it did. -/
def namesUptoRow : OpenClaim := { program := "ytgahemdblfapeaadoor", sum := "4c944b6de2c424e1c0aa6431c524d68fc16892d0369a100f30e8ee61ffb8a3ee", func := "mvstore/mvstorelaw.Names", spec := "names", named := ["mvstore/mv.ErrShape", "mvstore/mv.ErrProgram", "mvstore/mv.ErrMany", "mvstore/mv.ErrClient", "mvstore/mv.ErrStopped"], apart := false, laid := [("mvstore/mv.ErrShape", laid_mvstore_mv_ErrShape), ("mvstore/mv.ErrProgram", laid_mvstore_mv_ErrProgram), ("mvstore/mv.ErrMany", laid_mvstore_mv_ErrMany), ("mvstore/mv.ErrClient", laid_mvstore_mv_ErrClient), ("mvstore/mv.ErrStopped", laid_mvstore_mv_ErrStopped)], narrowed := true }
def NamesUptoSaid : Prop := namesUptoRow.holds Tryd.pinned (OpenSpec.upto namesSpec)

end Rows
end Go.Proofs.YtgahemdblfapeaaDoor
