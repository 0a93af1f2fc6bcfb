/- The walks of the law Names: plain.all makes the list of the five errors; plain.Different finds no two of them equal and none nil; Names answers true. Condition: the five variables hold pointers to five distinct unfrozen cells. -/
import Derived.Test.YtgahemdblfapeaaDoorRows
import Derived.Tactics
import Derived.Tactics2
import Derived.StillTactics
import Derived.Laws.Pointers
import Derived.Laws.Alloc2
import Derived.Laws.Build
import Derived.Laws.ByValue
import Derived.Laws.Cells
import Derived.Laws.Entries
import Derived.Laws.NewBlocks
import Derived.Laws.NewDeep
import Derived.Laws.NewFold
import Derived.Laws.Small
import Derived.Laws.Sem
import Derived.Laws.StructEq
import Derived.Laws.World
import Derived.RegionTactic
import Derived.LoopTactic
import Derived.ChangeAlike
import Derived.RowKitTokens
import Derived.LaidEql
import Derived.WalkKit
import Derived.Lib.Hide
namespace Go.Proofs.YtgahemdblfapeaaDoor
open Go.RowKit

abbrev er (a : Addr) : Value := .iface 27 (.pointer (some a))

theorem all_calls (a0 a1 a2 a3 a4 : Addr) (w : World)
    (h0 : w.cell? ⟨0, 0, none⟩ = some (er a0)) (h1 : w.cell? ⟨1, 0, none⟩ = some (er a1)) (h2 : w.cell? ⟨2, 0, none⟩ = some (er a2))
    (h3 : w.cell? ⟨3, 0, none⟩ = some (er a3)) (h4 : w.cell? ⟨4, 0, none⟩ = some (er a4)) :
    Calls Tryd.prog 5 #[] w fun e w' => e = .returned (.slice (some ⟨w.heap.size, 0, none⟩) 5 5) ∧ w' = w.alloc (.cells #[er a0, er a1, er a2, er a3, er a4] 26) := by
  go_enter Tryd.func5, Tryd.ntmps5
  go_wp2
  go_ret
  exact ⟨rfl, rfl⟩

theorem comp27 : (Tryd.prog.info? 27).map (·.comparable) = some true := by kernel_rfl
theorem size45 : (Tryd.prog.info? 45).map (·.size) = some 1 := by kernel_rfl

/-- What the world holds of the list and of what its elements point to. -/
structure Five (A : Nat → Addr) (b : Nat) (w : World) : Prop where
  cell : ∀ k, k < 5 → w.cell? ⟨b, k, none⟩ = some (er (A k))
  row : ∀ k, k < 5 → ∃ c t, w.heap[(A k).block]? = some (.cells c t (0, 0))
  apart : ∀ k m, k < 5 → m < 5 → k ≠ m → A k ≠ A m

theorem Five.eql {A : Nat → Addr} {b : Nat} {w : World} (F : Five A b w) (k m : Nat) (hk : k < 5) (hm : m < 5) (hne : k ≠ m) :
    (binOp .eql 26 (er (A k)) (er (A m))).run Tryd.prog w = .ok (.bool false) w := by
  obtain ⟨i, hi, hcmp⟩ := Option.map_eq_some_iff.1 comp27
  obtain ⟨j, hj, hjs⟩ := Option.map_eq_some_iff.1 size45
  obtain ⟨c1, t1, h1⟩ := F.row k hk
  obtain ⟨c2, t2, h2⟩ := F.row m hm
  exact run_eql_iface_ptr_other w Tryd.underlying26 Tryd.underlying27 hi hcmp hj (by rw [hjs]; decide) (F.apart k m hk hm hne) h1 h2

set_option maxHeartbeats 1000000 in
theorem different_calls (A : Nat → Addr) (w : World) (h : ∀ k, k < 5 → w.cell? ⟨k, 0, none⟩ = some (er (A k)))
    (hF : Five A w.heap.size (w.alloc (.cells #[er (A 0), er (A 1), er (A 2), er (A 3), er (A 4)] 26))) :
    Calls Tryd.prog 4 #[] w fun e w' => e = .returned (.bool true) ∧ w' = w.alloc (.cells #[er (A 0), er (A 1), er (A 2), er (A 3), er (A 4)] 26) := by
  have g := all_calls (A 0) (A 1) (A 2) (A 3) (A 4) w (h 0 (by omega)) (h 1 (by omega)) (h 2 (by omega)) (h 3 (by omega)) (h 4 (by omega))
  clear h
  have G := Lib.hid g
  clear g
  go_enter Tryd.func4, Tryd.ntmps4
  go_wp2_with (go_at_call 5; refine G.out.mono ?_; rintro e w' ⟨rfl, rfl⟩)
  generalize hW : w.alloc (.cells #[er (A 0), er (A 1), er (A 2), er (A 3), er (A 4)] 26) = W at *
  have HW := Lib.hid hW
  clear hW
  generalize w.heap.size = b at *
  go_loop [8] (fun i => ∃ k : Nat, k ≤ 5 ∧ i = .int .i64 k) (fun i => 5 - (intOf i).toNat)
  case atStart => exact ⟨0, by omega, rfl⟩
  case round =>
    obtain ⟨k, hk, rfl⟩ := hrel
    by_cases hlt : k < 5
    · have hc := hF.cell k hlt
      go_wp2
      go_loop [4] (fun i => ∃ m : Nat, m ≤ k ∧ i = .int .i64 m) (fun i => k - (intOf i).toNat)
      case atStart => exact ⟨0, by omega, rfl⟩
      case round =>
        obtain ⟨m, hm, rfl⟩ := hrel
        by_cases hlm : m < k
        · have hcm := hF.cell m (by omega)
          have he := hF.eql m k (by omega) hlt (by omega)
          go_wp2
          go_round
          case rel => exact ⟨m + 1, by omega, by go_num⟩
          case measure => simp [intOf]; omega
        · go_wp2
          go_round
          case rel => exact ⟨k + 1, by omega, by go_num⟩
          case measure => simp [intOf]; omega
    · go_wp2
      go_ret
      exact ⟨rfl, HW.out.symm⟩

theorem names_calls (A : Nat → Addr) (w : World) (h : ∀ k, k < 5 → w.cell? ⟨k, 0, none⟩ = some (er (A k)))
    (hF : Five A w.heap.size (w.alloc (.cells #[er (A 0), er (A 1), er (A 2), er (A 3), er (A 4)] 26))) :
    Calls Tryd.prog 3 #[] w fun e w' => e = .returned (.bool true) ∧ w' = w.alloc (.cells #[er (A 0), er (A 1), er (A 2), er (A 3), er (A 4)] 26) := by
  have G := Lib.hid (different_calls A w h hF)
  clear h hF
  go_enter Tryd.func3, Tryd.ntmps3
  go_wp2_with (go_at_call 4; refine G.out.mono ?_; rintro e w' ⟨rfl, rfl⟩)
  go_ret
  exact ⟨rfl, rfl⟩
end Go.Proofs.YtgahemdblfapeaaDoor
