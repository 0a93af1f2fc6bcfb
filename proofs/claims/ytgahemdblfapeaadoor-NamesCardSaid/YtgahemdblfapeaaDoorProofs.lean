/- The law Names: for every input (there is none) the call returns true; condition: the five package variables hold what the program's text lays (the card ties that to the text). -/
import Derived.Test.YtgahemdblfapeaaDoorRows
import Derived.Test.YtgahemdblfapeaaDoorCards
import Derived.Test.YtgahemdblfapeaaDoorTie
import Derived.Test.YtgahemdblfapeaaDoorWalks
import Derived.ChangeSame
import Derived.ChangeVars
import Derived.JoinedOf
import Derived.RowKit
import Derived.RowKitTokens
import Derived.LaidLaws
import Derived.LaidHandle
import Derived.SevenTiedAt
namespace Go.Proofs.YtgahemdblfapeaaDoor
open Go.ChangeShapes Go.WideShapes Go.RowKit

theorem own : ownKnob Tryd.prog.godebug = none := by kernel_rfl
theorem g0 : Tryd.prog.globalNamed "mvstore/mv.ErrShape" = some 0 := by kernel_rfl
theorem g1 : Tryd.prog.globalNamed "mvstore/mv.ErrProgram" = some 1 := by kernel_rfl
theorem g2 : Tryd.prog.globalNamed "mvstore/mv.ErrMany" = some 2 := by kernel_rfl
theorem g3 : Tryd.prog.globalNamed "mvstore/mv.ErrClient" = some 3 := by kernel_rfl
theorem g4 : Tryd.prog.globalNamed "mvstore/mv.ErrStopped" = some 4 := by kernel_rfl
theorem t0 : (Tryd.prog.globals[0]?).map (·.type) = some 26 := by kernel_rfl
theorem t1 : (Tryd.prog.globals[1]?).map (·.type) = some 26 := by kernel_rfl
theorem t2 : (Tryd.prog.globals[2]?).map (·.type) = some 26 := by kernel_rfl
theorem t3 : (Tryd.prog.globals[3]?).map (·.type) = some 26 := by kernel_rfl
theorem t4 : (Tryd.prog.globals[4]?).map (·.type) = some 26 := by kernel_rfl
theorem cells45 : Tryd.prog.cellsOf 45 = 1 := by kernel_rfl
theorem cells9 : Tryd.prog.cellsOf 9 = 1 := by kernel_rfl
theorem star : "*" ++ "errors.errorString" = "*errors.errorString" := by decide
theorem row27 (u : TypeId) (h : Tryd.prog.typeName? 3 u = some "*errors.errorString") : u = 27 :=
  typeName_ptr_named (nm := "errors.errorString") (by rw [star]; kernel_rfl) (by kernel_rfl) (by decide) u (by rw [star]; exact h)

/-- What the condition gives a walk: the five cells, apart from one another, unfrozen. -/
theorem sentinels_of_laid {W : World} (h : laidMet Tryd.prog (Rows.namesRow.laid) W) :
    ∃ A : Nat → Addr, (∀ k, k < 5 → W.cell? ⟨k, 0, none⟩ = some (er (A k))) ∧ (∀ k, k < 5 → ∃ c t, W.heap[(A k).block]? = some (.cells c t (0, 0))) ∧ ∀ k m, k < 5 → m < 5 → k ≠ m → A k ≠ A m := by
  obtain ⟨ps, ⟨x0, y0, cs0, f0, p0, q0, hg0, ht0, hv0, hd0, ⟨x1, y1, cs1, f1, p1, q1, hg1, ht1, hv1, hd1, ⟨x2, y2, cs2, f2, p2, q2, hg2, ht2, hv2, hd2, ⟨x3, y3, cs3, f3, p3, q3, hg3, ht3, hv3, hd3, ⟨x4, y4, cs4, f4, p4, q4, hg4, ht4, hv4, hd4, hq4, e4⟩, e3⟩, e2⟩, e1⟩, e0⟩, hnd, hrows⟩ := h
  obtain rfl := Option.some.inj (g0.symm.trans hg0)
  obtain rfl := Option.some.inj (g1.symm.trans hg1)
  obtain rfl := Option.some.inj (g2.symm.trans hg2)
  obtain rfl := Option.some.inj (g3.symm.trans hg3)
  obtain rfl := Option.some.inj (g4.symm.trans hg4)
  obtain rfl := Option.some.inj (t0.symm.trans ht0)
  obtain rfl := Option.some.inj (t1.symm.trans ht1)
  obtain rfl := Option.some.inj (t2.symm.trans ht2)
  obtain rfl := Option.some.inj (t3.symm.trans ht3)
  obtain rfl := Option.some.inj (t4.symm.trans ht4)
  have hq4' : q4 = [] := hq4
  subst hq4' e4 e3 e2 e1 e0
  obtain ⟨l0⟩ := cs0
  obtain ⟨l1⟩ := cs1
  obtain ⟨l2⟩ := cs2
  obtain ⟨l3⟩ := cs3
  obtain ⟨l4⟩ := cs4
  have ok0 : ∀ u v, l0 = [.iface u v] → Value.okWide Tryd.prog W .any 0 u v := fun u v e => by
    subst e; exact (hrows 0 0 (by simp [MemPlace.row])).2 u v (by simpa using World.var?_cell hg0 hv0 0)
  have ok1 : ∀ u v, l1 = [.iface u v] → Value.okWide Tryd.prog W .any 0 u v := fun u v e => by
    subst e; exact (hrows 1 0 (by simp [MemPlace.row])).2 u v (by simpa using World.var?_cell hg1 hv1 0)
  have ok2 : ∀ u v, l2 = [.iface u v] → Value.okWide Tryd.prog W .any 0 u v := fun u v e => by
    subst e; exact (hrows 2 0 (by simp [MemPlace.row])).2 u v (by simpa using World.var?_cell hg2 hv2 0)
  have ok3 : ∀ u v, l3 = [.iface u v] → Value.okWide Tryd.prog W .any 0 u v := fun u v e => by
    subst e; exact (hrows 3 0 (by simp [MemPlace.row])).2 u v (by simpa using World.var?_cell hg3 hv3 0)
  have ok4 : ∀ u v, l4 = [.iface u v] → Value.okWide Tryd.prog W .any 0 u v := fun u v e => by
    subst e; exact (hrows 4 0 (by simp [MemPlace.row])).2 u v (by simpa using World.var?_cell hg4 hv4 0)
  obtain ⟨a0, s0, rfl, hc0, hs0, hz0, rfl⟩ := errorString_of_trod Tryd.underlying26 row27 Tryd.underlying27 Tryd.underlying45 rfl rfl Tryd.underlying9 cells45 cells9 hd0 ok0
  obtain ⟨a1, s1, rfl, hc1, hs1, hz1, rfl⟩ := errorString_of_trod Tryd.underlying26 row27 Tryd.underlying27 Tryd.underlying45 rfl rfl Tryd.underlying9 cells45 cells9 hd1 ok1
  obtain ⟨a2, s2, rfl, hc2, hs2, hz2, rfl⟩ := errorString_of_trod Tryd.underlying26 row27 Tryd.underlying27 Tryd.underlying45 rfl rfl Tryd.underlying9 cells45 cells9 hd2 ok2
  obtain ⟨a3, s3, rfl, hc3, hs3, hz3, rfl⟩ := errorString_of_trod Tryd.underlying26 row27 Tryd.underlying27 Tryd.underlying45 rfl rfl Tryd.underlying9 cells45 cells9 hd3 ok3
  obtain ⟨a4, s4, rfl, hc4, hs4, hz4, rfl⟩ := errorString_of_trod Tryd.underlying26 row27 Tryd.underlying27 Tryd.underlying45 rfl rfl Tryd.underlying9 cells45 cells9 hd4 ok4
  have b0 := (hrows a0.block a0.off (by simp [MemPlace.row])).1
  have b1 := (hrows a1.block a1.off (by simp [MemPlace.row])).1
  have b2 := (hrows a2.block a2.off (by simp [MemPlace.row])).1
  have b3 := (hrows a3.block a3.off (by simp [MemPlace.row])).1
  have b4 := (hrows a4.block a4.off (by simp [MemPlace.row])).1
  have key : ∀ k, k < 5 → k = 0 ∨ k = 1 ∨ k = 2 ∨ k = 3 ∨ k = 4 := fun k h => by omega
  have hne : a0 ≠ a1 ∧ a0 ≠ a2 ∧ a0 ≠ a3 ∧ a0 ≠ a4 ∧ a1 ≠ a2 ∧ a1 ≠ a3 ∧ a1 ≠ a4 ∧ a2 ≠ a3 ∧ a2 ≠ a4 ∧ a3 ≠ a4 := by
    refine ⟨?_, ?_, ?_, ?_, ?_, ?_, ?_, ?_, ?_, ?_⟩ <;> (rintro rfl; simp [MemPlace.row] at hnd)
  obtain ⟨n01, n02, n03, n04, n12, n13, n14, n23, n24, n34⟩ := hne
  refine ⟨fun k => [a0, a1, a2, a3, a4].getD k a0, fun k hk => ?_, fun k hk => ?_, fun k m hk hm hkm => ?_⟩
  · rcases key k hk with rfl | rfl | rfl | rfl | rfl
    · simpa using World.var?_cell hg0 hv0 0
    · simpa using World.var?_cell hg1 hv1 0
    · simpa using World.var?_cell hg2 hv2 0
    · simpa using World.var?_cell hg3 hv3 0
    · simpa using World.var?_cell hg4 hv4 0
  · rcases key k hk with rfl | rfl | rfl | rfl | rfl
    · exact b0
    · exact b1
    · exact b2
    · exact b3
    · exact b4
  · rcases key k hk with rfl | rfl | rfl | rfl | rfl <;> rcases key m hm with rfl | rfl | rfl | rfl | rfl <;> first | exact absurd rfl hkm | assumption | exact Ne.symm (by assumption)

/-- In the world in which the list has been made. -/
theorem five_of {A : Nat → Addr} {W : World} (hr : ∀ k, k < 5 → ∃ c t, W.heap[(A k).block]? = some (.cells c t (0, 0))) (hne : ∀ k m, k < 5 → m < 5 → k ≠ m → A k ≠ A m) :
    Five A W.heap.size (W.alloc (.cells #[er (A 0), er (A 1), er (A 2), er (A 3), er (A 4)] 26)) := by
  refine ⟨fun k hk => ?_, fun k hk => ?_, hne⟩
  · have key : k = 0 ∨ k = 1 ∨ k = 2 ∨ k = 3 ∨ k = 4 := by omega
    have hb : (W.alloc (.cells #[er (A 0), er (A 1), er (A 2), er (A 3), er (A 4)] 26)).heap[W.heap.size]? = some (.cells #[er (A 0), er (A 1), er (A 2), er (A 3), er (A 4)] 26 (0, 0)) := by
      show (W.heap.push _)[W.heap.size]? = _
      simp
    rcases key with rfl | rfl | rfl | rfl | rfl <;> (unfold World.cell?; rw [hb]; rfl)
  · obtain ⟨c, t, h⟩ := hr k hk
    have hlt : (A k).block < W.heap.size := by
      rcases Nat.lt_or_ge (A k).block W.heap.size with h' | h'
      · exact h'
      · simp [Array.getElem?_eq_none h'] at h
    refine ⟨c, t, ?_⟩
    show (W.heap.push _)[(A k).block]? = _
    simp only [Array.getElem?_push, Nat.ne_of_lt hlt, if_false]
    exact h

abbrev s0 : ByteArray := { data := #[110, 111, 32, 115, 117, 99, 104, 32, 115, 116, 111, 114, 101] }
abbrev s1 : ByteArray := { data := #[110, 111, 32, 112, 114, 111, 103, 114, 97, 109] }
abbrev s2 : ByteArray := { data := #[116, 111, 111, 32, 109, 97, 110, 121, 32, 99, 108, 105, 101, 110, 116, 115] }
abbrev s3 : ByteArray := { data := #[110, 111, 32, 115, 117, 99, 104, 32, 99, 108, 105, 101, 110, 116] }
abbrev s4 : ByteArray := { data := #[116, 104, 101, 32, 115, 116, 111, 114, 101, 32, 104, 97, 115, 32, 98, 101, 101, 110, 32, 115, 116, 111, 112, 112, 101, 100] }

noncomputable def low : Nat := (World.holding Tryd.prog default ⟨#[], #[], []⟩).heap.size

noncomputable def lay (k : Nat) (h : Array Obj) : Array Obj := h.modify k fun
  | .cells _ t frozen => .cells #[.iface 27 (.pointer (some ⟨low + k, 0, none⟩))] t frozen
  | o => o

/-- A world that meets the condition. -/
noncomputable def laidWorld (os : Os) : World :=
  let w0 := World.holding Tryd.prog os ⟨#[.cells #[.string s0] 45, .cells #[.string s1] 45, .cells #[.string s2] 45, .cells #[.string s3] 45, .cells #[.string s4] 45], #[], []⟩
  { w0 with heap := lay 0 (lay 1 (lay 2 (lay 3 (lay 4 w0.heap)))) }

theorem laidWorld_met (os : Os) (args : Array Value) : laidMet Tryd.prog (Rows.namesRow.laid) ((laidWorld os).forCall (fun _ _ => 0) ⟨#[], args, []⟩).memory :=
  laidMet_of_run' 8 (by kernel_rfl) (by kernel_rfl)

set_option maxRecDepth 100000 in
theorem names_lifted (os : Os) (started : os.Started) (H : Type) (enc : TypeId × Value → H) :
    ReturnsInHanded {} Tryd.checked os 3 .any (fun w args => (Rows.namesSpec.pre enc Tryd.prog Tryd.f3 [] false w args ∧ laidMetH Tryd.prog (Rows.namesRow.laid) w) ∧ sizedMet enc Tryd.prog Tryd.f3 (OpenSpec.ofChange Rows.namesSpec) false w args)
      (Rows.namesSpec.post enc Tryd.prog Tryd.f3 false true false false) := by
  refine returnsInHanded_of_change_and (C := Tryd.checked) (X := fun w _ => laidMetH Tryd.prog (Rows.namesRow.laid) w) (fun _ _ _ hh h => h.of_heap hh) own started (by kernel_rfl) Tryd.func3
    (ChangeSpec.witness_at (enc := enc) (C := Tryd.checked) (os := os) (X := fun w _ => laidMetH Tryd.prog (Rows.namesRow.laid) w) false (laidWorld os) #[] 8 rfl (by kernel_rfl) (by kernel_rfl) (by kernel_rfl) (by kernel_rfl) (by kernel_rfl) (laidWorld_met os _)) ?_
  intro W base args ds gs before hval0 hW _ _ hL _
  have hW' := hW
  obtain ⟨p, q, hA0, hV0, rfl, hfz, hnd⟩ := hW
  have hA : DataW.TrodAll enc Tryd.prog W 0 (fun _ => true) true Tryd.f3.params.toList args.toList ds p := hA0
  have hV : DataW.TrodVars enc Tryd.prog W (fun _ => true) [] gs q := hV0
  have hp : Tryd.f3.params.toList = [] := by kernel_rfl
  rw [hp] at hA
  obtain ⟨hargs, rfl, rfl⟩ := trodAll_nil hA
  obtain rfl : args = #[] := by simpa using hargs
  obtain ⟨rfl, rfl⟩ : gs = [] ∧ q = [] := by
    cases gs with
    | nil => exact ⟨rfl, hV⟩
    | cons g r => exact absurd hV (by intro h; cases h)
  obtain ⟨A, hc, hr, hne⟩ := sentinels_of_laid (W := W) hL
  refine (names_calls A W hc (five_of hr hne)).mono fun e W' ⟨he, hw⟩ => ?_
  subst he; subst hw
  have e1 : Rows.namesSpec.fn H ([] ++ []) = { results := [.lit (.bool true)], args := [] } := rfl
  refine ⟨_, rfl, _, _, _, [], [], [], hW', ?_, ?_, ?_, World.keptBut_alloc _ _ _, fun h => by cases h⟩
  · rw [e1]; exact trodAll_mk1 (shut_bool Tryd.underlying4 true)
  · rw [e1]; exact trodAll_mk0
  · rw [e1]; rfl

theorem names_holds : Rows.NamesSaid :=
  OpenClaim.holds_of_wide 3 Tryd.f3 rfl rfl rfl rfl rfl rfl rfl ⟨rfl, rfl, rfl, rfl, rfl⟩ rfl rfl rfl rfl rfl (by kernel_rfl) Tryd.func3 (by kernel_rfl)
    (of_decide_eq_true (by kernel_rfl)) (by unfold Func.isWrapper; rw [if_neg (of_decide_eq_false (by kernel_rfl))]; exact ⟨rfl, rfl⟩)
    (fun os started H enc _ => names_lifted os started H enc)

/-- The tied card of the law Names. -/
theorem names_card : Rows.NamesCardSaid :=
  Claim7.holds_tied_plain_at .later [] [.sentinel, .sentinel, .sentinel, .sentinel, .sentinel] true (true, "039afb785cb3f126cca83c86b7fad7f4219cc19a710907e70e105706ceca3207") true
    names_holds (fun _ h => by cases h) (by kernel_rfl) (fun _ h => by cases h) names_row_tie rfl ⟨rfl, rfl⟩ (by kernel_rfl) rfl
    (fun f fn hf hfn => by
      obtain rfl : f = 3 := Option.some.inj ((show Tryd.prog.funcNamed "mvstore/mvstorelaw.Names" = some 3 by kernel_rfl).symm.trans hf) |>.symm
      obtain rfl : fn = Tryd.f3 := (Option.some.inj (Tryd.func3.symm.trans hfn)).symm
      exact ⟨by kernel_rfl, fun j t ht => by
        have hp : Tryd.f3.params = #[] := by kernel_rfl
        rw [hp] at ht
        simp at ht⟩)
    (by kernel_rfl)
#print axioms names_card
end Go.Proofs.YtgahemdblfapeaaDoor
