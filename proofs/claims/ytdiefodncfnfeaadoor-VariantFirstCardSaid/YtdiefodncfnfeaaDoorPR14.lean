-- Out of the translation, by a program of this session: each function that a law comes to as a Lean function, and that the machine's call does what it says. Lean checks it.
import Derived.Test.YtdiefodncfnfeaaDoorPR0
namespace Go.Proofs.YtdiefodncfnfeaaDoor.PR
open Go.RowKit Go.Proofs.YtdiefodncfnfeaaDoorW.PrintWords Go.Proofs.YtdiefodncfnfeaaDoorW.PrintLast Go.Proofs.YtdiefodncfnfeaaDoorW.PrintMore
attribute [local go_sem] max2_int min2_int max_two min_two max_three min_three max_four min_four   -- for this text's walks alone
set_option linter.unusedVariables false
set_option linter.unusedSimpArgs false

/-! ### wire_Put: function 47: told by hand -/
def leB (n : Int) (j : Nat) : Int := n / 2 ^ (8 * j) % 256
def leBytes (n : Int) (m : Nat) : List Int := (List.range m).map (leB n)
def ofCells (n : Int) (i : Nat) : Array Value := #[.int .u8 (if 0 < i then leB n 0 else 0), .int .u8 (if 1 < i then leB n 1 else 0), .int .u8 (if 2 < i then leB n 2 else 0), .int .u8 (if 3 < i then leB n 3 else 0), .int .u8 (if 4 < i then leB n 4 else 0), .int .u8 (if 5 < i then leB n 5 else 0), .int .u8 (if 6 < i then leB n 6 else 0), .int .u8 (if 7 < i then leB n 7 else 0)]
theorem ofCells_at (n : Int) : ∀ i : Nat, i < 8 → (ofCells n i)[i]? = some (.int .u8 0)
  | 0, _ => rfl
  | 1, _ => rfl
  | 2, _ => rfl
  | 3, _ => rfl
  | 4, _ => rfl
  | 5, _ => rfl
  | 6, _ => rfl
  | 7, _ => rfl
  | i + 8, h => absurd h (by omega)
theorem ofCells_set (n : Int) : ∀ i : Nat, i < 8 → (ofCells n i).setIfInBounds i (.int .u8 (leB n i)) = ofCells n (i + 1)
  | 0, _ => rfl
  | 1, _ => rfl
  | 2, _ => rfl
  | 3, _ => rfl
  | 4, _ => rfl
  | 5, _ => rfl
  | 6, _ => rfl
  | 7, _ => rfl
  | i + 8, h => absurd h (by omega)
set_option maxHeartbeats 3200000 in
set_option maxRecDepth 100000 in
theorem wire_of (n : Int) (w : World) (h0 : 0 ≤ n) (h1 : n ≤ 9223372036854775807) :
    Calls Tryd.prog 68 #[.int .i64 n] w fun e w' => e = .returned (.agg #[.int .u8 (leB n 0), .int .u8 (leB n 1), .int .u8 (leB n 2), .int .u8 (leB n 3), .int .u8 (leB n 4), .int .u8 (leB n 5), .int .u8 (leB n 6), .int .u8 (leB n 7)]) ∧ Below w.heap.size w w' := by
  go_enter Tryd.func68, Tryd.ntmps68
  go_wp2
  go_loopw [5] (fun v5 w' => ∃ i : Nat, i ≤ 8 ∧ v5 = .int .i64 i ∧ Aside0 (w'.heap[w.heap.size + 1]? = some (.cells (ofCells n i) 113 (0, 0))) ∧ Aside0 (w'.heap[w.heap.size]? = some (.cells (ofCells n 0) 113 (0, 0))) ∧ Aside0 (Below w.heap.size w w')) (fun v5 _ => 8 - (intOf v5).toNat)
  case atStart => exact ⟨0, by omega, rfl, ⟨by have h9 := blk_new (w.alloc (.cells (ofCells n 0) 113)) (.cells (ofCells n 0) 113); rw [show (w.alloc (.cells (ofCells n 0) 113)).heap.size = w.heap.size + 1 by simp] at h9; exact h9⟩, ⟨blk_alloc (blk_new w (.cells (ofCells n 0) 113)) _⟩, ⟨((Below.refl _ _).alloc (Nat.le_refl _) _).alloc (by simp) _⟩⟩
  case round =>
    obtain ⟨i, hi, rfl, HK, HK0, HB⟩ := hrel
    by_cases hlt : i < 8
    · have c0 := blk_cell HK.out i
      rw [ofCells_at n i hlt] at c0
      have f0 := blk_frozen HK.out i
      go_wp2
      go_roundw
      case rel =>
        refine ⟨i + 1, by omega, by go_num, ⟨?_⟩, ⟨?_⟩, ⟨HB.out.setCell (by show w.heap.size ≤ w.heap.size + 1; omega) _⟩⟩
        · exact blk_put HK.out i _ (ofCells_set n i hlt)
        · exact blk_far HK0.out (by show w.heap.size ≠ w.heap.size + 1; omega) _
      case measure => simp [intOf]; omega
    · obtain rfl : i = 8 := by omega
      have HKA := HK
      have c0 : wr.cell? ⟨w.heap.size + 1, 0, none⟩ = some (.int .u8 (leB n 0)) := blk_cell HK.out 0
      have z0 : wr.cell? ⟨w.heap.size, 0, none⟩ = some (.int .u8 0) := blk_cell HK0.out 0
      have f0 := blk_frozen HK0.out 0
      have c1 : wr.cell? ⟨w.heap.size + 1, 1, none⟩ = some (.int .u8 (leB n 1)) := blk_cell HK.out 1
      have z1 : wr.cell? ⟨w.heap.size, 1, none⟩ = some (.int .u8 0) := blk_cell HK0.out 1
      have f1 := blk_frozen HK0.out 1
      have c2 : wr.cell? ⟨w.heap.size + 1, 2, none⟩ = some (.int .u8 (leB n 2)) := blk_cell HK.out 2
      have z2 : wr.cell? ⟨w.heap.size, 2, none⟩ = some (.int .u8 0) := blk_cell HK0.out 2
      have f2 := blk_frozen HK0.out 2
      have c3 : wr.cell? ⟨w.heap.size + 1, 3, none⟩ = some (.int .u8 (leB n 3)) := blk_cell HK.out 3
      have z3 : wr.cell? ⟨w.heap.size, 3, none⟩ = some (.int .u8 0) := blk_cell HK0.out 3
      have f3 := blk_frozen HK0.out 3
      have c4 : wr.cell? ⟨w.heap.size + 1, 4, none⟩ = some (.int .u8 (leB n 4)) := blk_cell HK.out 4
      have z4 : wr.cell? ⟨w.heap.size, 4, none⟩ = some (.int .u8 0) := blk_cell HK0.out 4
      have f4 := blk_frozen HK0.out 4
      have c5 : wr.cell? ⟨w.heap.size + 1, 5, none⟩ = some (.int .u8 (leB n 5)) := blk_cell HK.out 5
      have z5 : wr.cell? ⟨w.heap.size, 5, none⟩ = some (.int .u8 0) := blk_cell HK0.out 5
      have f5 := blk_frozen HK0.out 5
      have c6 : wr.cell? ⟨w.heap.size + 1, 6, none⟩ = some (.int .u8 (leB n 6)) := blk_cell HK.out 6
      have z6 : wr.cell? ⟨w.heap.size, 6, none⟩ = some (.int .u8 0) := blk_cell HK0.out 6
      have f6 := blk_frozen HK0.out 6
      have c7 : wr.cell? ⟨w.heap.size + 1, 7, none⟩ = some (.int .u8 (leB n 7)) := blk_cell HK.out 7
      have z7 : wr.cell? ⟨w.heap.size, 7, none⟩ = some (.int .u8 0) := blk_cell HK0.out 7
      have f7 := blk_frozen HK0.out 7
      go_wp2
      refine bodyPost_ret (results_cell_row rfl _ _ w.heap.size 113 #[.int .u8 (leB n 0), .int .u8 (leB n 1), .int .u8 (leB n 2), .int .u8 (leB n 3), .int .u8 (leB n 4), .int .u8 (leB n 5), .int .u8 (leB n 6), .int .u8 (leB n 7)] (0, 0) _ rfl (by
        refine blk_put (cs := #[.int .u8 (leB n 0), .int .u8 (leB n 1), .int .u8 (leB n 2), .int .u8 (leB n 3), .int .u8 (leB n 4), .int .u8 (leB n 5), .int .u8 (leB n 6), .int .u8 0]) ?_ 7 _ rfl
        refine blk_put (cs := #[.int .u8 (leB n 0), .int .u8 (leB n 1), .int .u8 (leB n 2), .int .u8 (leB n 3), .int .u8 (leB n 4), .int .u8 (leB n 5), .int .u8 0, .int .u8 0]) ?_ 6 _ rfl
        refine blk_put (cs := #[.int .u8 (leB n 0), .int .u8 (leB n 1), .int .u8 (leB n 2), .int .u8 (leB n 3), .int .u8 (leB n 4), .int .u8 0, .int .u8 0, .int .u8 0]) ?_ 5 _ rfl
        refine blk_put (cs := #[.int .u8 (leB n 0), .int .u8 (leB n 1), .int .u8 (leB n 2), .int .u8 (leB n 3), .int .u8 0, .int .u8 0, .int .u8 0, .int .u8 0]) ?_ 4 _ rfl
        refine blk_put (cs := #[.int .u8 (leB n 0), .int .u8 (leB n 1), .int .u8 (leB n 2), .int .u8 0, .int .u8 0, .int .u8 0, .int .u8 0, .int .u8 0]) ?_ 3 _ rfl
        refine blk_put (cs := #[.int .u8 (leB n 0), .int .u8 (leB n 1), .int .u8 0, .int .u8 0, .int .u8 0, .int .u8 0, .int .u8 0, .int .u8 0]) ?_ 2 _ rfl
        refine blk_put (cs := #[.int .u8 (leB n 0), .int .u8 0, .int .u8 0, .int .u8 0, .int .u8 0, .int .u8 0, .int .u8 0, .int .u8 0]) ?_ 1 _ rfl
        refine blk_put (cs := #[.int .u8 0, .int .u8 0, .int .u8 0, .int .u8 0, .int .u8 0, .int .u8 0, .int .u8 0, .int .u8 0]) ?_ 0 _ rfl
        exact HK0.out) Tryd.underlying113 rfl (by kernel_rfl)) rfl ?_
      exact ⟨rfl, (((((((HB.out.setCell (Nat.le_refl _) _).setCell (Nat.le_refl _) _).setCell (Nat.le_refl _) _).setCell (Nat.le_refl _) _).setCell (Nat.le_refl _) _).setCell (Nat.le_refl _) _).setCell (Nat.le_refl _) _).setCell (Nat.le_refl _) _⟩
def wire_Put.f (l0 : List Int) (a1 a2 : Int) : Option (List Int × Int) := if (a2 = 1 ∨ a2 = 2 ∨ a2 = 4 ∨ a2 = 5) ∧ 0 ≤ a1 ∧ a1 < 256 ^ a2.toNat ∧ l0.length < 1000000000 then some (l0 ++ leBytes a1 a2.toNat, 0) else none
theorem row_C {w : World} {g t : Nat} {cs : Array Value} (h : w.heap[g]? = some (.cells cs t (0, 0))) (xs : List Int) {m : Nat} (hm : xs.length = m) (hl : m ≤ 9223372036854775807) (hx : ∀ (j : Nat) p, xs[j]? = some p → cs[j]? = some (.int .u8 p)) : Kd.C (Kd.int .u8) w (some ⟨g, 0, none⟩) m xs := by
  refine ⟨hm, hl, fun _ => ⟨_, rfl, fun j p hp => ⟨[.int .u8 p], rfl, rfl, fun i u hu => ?_⟩⟩⟩
  match i, hu with
  | 0, hu =>
    simp at hu
    subst hu
    have := (blk_cell h j).trans (hx j p hp)
    simpa [add_plain, Kd.int, Kd.scalar] using this
theorem leBytes_at (n : Int) (m : Nat) (hm : m ≤ 8) : ∀ (j : Nat) p, (leBytes n m)[j]? = some p → (#[.int .u8 (leB n 0), .int .u8 (leB n 1), .int .u8 (leB n 2), .int .u8 (leB n 3), .int .u8 (leB n 4), .int .u8 (leB n 5), .int .u8 (leB n 6), .int .u8 (leB n 7)] : Array Value)[j]? = some (.int .u8 p) := by
  intro j p h
  unfold leBytes at h
  rw [List.getElem?_map] at h
  obtain ⟨q, hq, rfl⟩ := Option.map_eq_some_iff.1 h
  have hj : j < m := by
    have := (List.getElem?_eq_some_iff.1 hq).1
    simpa using this
  rw [List.getElem?_range hj] at hq
  obtain rfl := Option.some.inj hq
  match j, hj with
  | 0, _ => rfl
  | 1, _ => rfl
  | 2, _ => rfl
  | 3, _ => rfl
  | 4, _ => rfl
  | 5, _ => rfl
  | 6, _ => rfl
  | 7, _ => rfl
  | j + 8, h => exact absurd h (by omega)
theorem wire_info : (Tryd.prog.info? 5).map (fun i => (i.zero, i.size, i.bytes)) = some (some (.int .u8 0), 1, 1) := by kernel_rfl
set_option maxHeartbeats 3200000 in
set_option maxRecDepth 100000 in
theorem wire_Put1 (A0 : Option Addr) (c0 : Nat) (l0 : List Int) (n : Int) (w : World) (hr0 : Kd.C (Kd.int .u8) w A0 l0.length l0) (hc0 : l0.length ≤ c0) (h0 : 0 ≤ n) (h1 : n < 256) (hl : l0.length < 1000000000) :
    Calls Tryd.prog 47 #[.slice A0 l0.length c0, .int .i64 n, .int .i64 1] w fun e w' => ∃ v0_ : Value, e = .returned (.tuple #[v0_, .int .i64 0]) ∧ Kd.R (Kd.int .u8) 5 w' w.heap.size (fun _ => True) v0_ (l0 ++ leBytes n 1) ∧ Below w.heap.size w w' := by
  have hq : n / 256 = 0 := by omega
  have HR0 := Aside0.mk hr0
  clear hr0
  obtain ⟨i0, hi, hz0, hz1, hz2⟩ := info_parts wire_info
  go_enter Tryd.func47, Tryd.ntmps47
  go_wp2_with (go_at_call 68; refine (wire_of n _ h0 (by omega)).mono ?_; rintro e w1 ⟨rfl, hb1⟩; have HB1 := Aside0.mk (hb1.alloc hb1.size (.cells #[.int .u8 (leB n 0), .int .u8 (leB n 1), .int .u8 (leB n 2), .int .u8 (leB n 3), .int .u8 (leB n 4), .int .u8 (leB n 5), .int .u8 (leB n 6), .int .u8 (leB n 7)] 113)); have HK1 := Aside0.mk (blk_new w1 (.cells #[.int .u8 (leB n 0), .int .u8 (leB n 1), .int .u8 (leB n 2), .int .u8 (leB n 3), .int .u8 (leB n 4), .int .u8 (leB n 5), .int .u8 (leB n 6), .int .u8 (leB n 7)] 113)); clear hb1)
  have hsz1 : (w1.alloc (.cells #[.int .u8 (leB n 0), .int .u8 (leB n 1), .int .u8 (leB n 2), .int .u8 (leB n 3), .int .u8 (leB n 4), .int .u8 (leB n 5), .int .u8 (leB n 6), .int .u8 (leB n 7)] 113)).heap.size = w1.heap.size + 1 := by simp
  obtain ⟨w3, hrun, ho3, hg3⟩ := run_make_own (P := Tryd.prog) (w1.alloc (.cells #[.int .u8 (leB n 0), .int .u8 (leB n 1), .int .u8 (leB n 2), .int .u8 (leB n 3), .int .u8 (leB n 4), .int .u8 (leB n 5), .int .u8 (leB n 6), .int .u8 (leB n 7)] 113)) w.heap.size 37 5 i0 (.int .u8 0) 1 Tryd.underlying37 hi hz0 hz1 .i64 .i64 (l0.length + 1) (by rw [hz2]; omega) (by unfold maxLen; omega) HB1.out.size
  rw [show (((l0.length + 1 : Nat) : Int)) = (l0.length : Int) + 1 by omega] at hrun
  rw [hrun]
  simp only [Result.andThen]
  rw [Oper.upon_value]
  have HK3 := Aside0.mk (blk_grown HK1.out hg3 (by simp))
  have HB3 := Aside0.mk (Below.grown HB1.out hg3 HB1.out.size (fun k hk => by cases hk))
  have HO3 := Aside0.mk (Kd.R_of_own (xs := ([] : List Int)) (enc := Value.int .u8) (h1 := fun _ => rfl) ho3 (fun _ _ => trivial))
  clear hrun ho3 hg3 HB1 HK1
  rw [hsz1] at HO3 ⊢
  clear hsz1
  go_wp2_with (first | (at_builtin; refine Kd.R_append_rows (Kd.int .u8) (w0 := w) w.heap.size rfl (.tmp 34) (.tmp 35) 37 5 (.int .u8 0) 1 rfl Tryd.underlying37 wire_info rfl (by decide) (by omega) (.slice (some ⟨w1.heap.size + 1, 0, none⟩) 0 (l0.length + 1)) [] l0 A0 l0.length c0 (fun _ => True) (fun _ => False) rfl rfl ?aO ?aR (fun _ _ h => h) (fun _ h => h.elim) ?aF ?aB ?aS ?aL ?_; (case aO => exact HO3.out); (case aR => exact Kd.C_below HR0.out HB3.out); (case aB => exact HB3.out); (case aF => exact (fun _ _ => trivial)); (case aS => exact HB3.out.size); (case aL => simp; omega); intro v4 w4 ho hb hg hat; have HK4 := Aside0.mk (blk_grown HK3.out hg (by simp [Value.ownBlock])); have HO4 := Aside0.mk ho; have HB4 := Aside0.mk hb; clear HK3 HO3 HB3 ho hb hg hat) | (at_builtin; refine Kd.R_append_rows (Kd.int .u8) (w0 := w) w.heap.size rfl (.tmp 37) (.tmp 39) 37 5 (.int .u8 0) 1 rfl Tryd.underlying37 wire_info rfl (by decide) (by omega) v4 ([] ++ l0) (leBytes n 1) (some ⟨w1.heap.size, 0, none⟩) 1 8 (fun _ => True) (fun _ => False) rfl rfl ?aO ?aR (fun _ _ h => h) (fun _ h => h.elim) ?aF ?aB ?aS ?aL ?_; (case aO => exact HO4.out); (case aR => exact row_C HK4.out (leBytes n 1) rfl (by decide) (leBytes_at n 1 (by decide))); (case aB => exact HB4.out); (case aF => exact (fun _ _ => trivial)); (case aS => exact HB4.out.size); (case aL => simp; omega); intro v5 w5 ho hb hg hat; have HO5 := Aside0.mk ho; have HB5 := Aside0.mk hb; clear HK4 HO4 HB4 ho hb hg hat))
  go_ret2
  exact ⟨_, rfl, by have := HO5.out; rwa [List.nil_append] at this, HB5.out⟩
set_option maxHeartbeats 3200000 in
set_option maxRecDepth 100000 in
theorem wire_Put2 (A0 : Option Addr) (c0 : Nat) (l0 : List Int) (n : Int) (w : World) (hr0 : Kd.C (Kd.int .u8) w A0 l0.length l0) (hc0 : l0.length ≤ c0) (h0 : 0 ≤ n) (h1 : n < 65536) (hl : l0.length < 1000000000) :
    Calls Tryd.prog 47 #[.slice A0 l0.length c0, .int .i64 n, .int .i64 2] w fun e w' => ∃ v0_ : Value, e = .returned (.tuple #[v0_, .int .i64 0]) ∧ Kd.R (Kd.int .u8) 5 w' w.heap.size (fun _ => True) v0_ (l0 ++ leBytes n 2) ∧ Below w.heap.size w w' := by
  have hq : n / 65536 = 0 := by omega
  have HR0 := Aside0.mk hr0
  clear hr0
  obtain ⟨i0, hi, hz0, hz1, hz2⟩ := info_parts wire_info
  go_enter Tryd.func47, Tryd.ntmps47
  go_wp2_with (go_at_call 68; refine (wire_of n _ h0 (by omega)).mono ?_; rintro e w1 ⟨rfl, hb1⟩; have HB1 := Aside0.mk (hb1.alloc hb1.size (.cells #[.int .u8 (leB n 0), .int .u8 (leB n 1), .int .u8 (leB n 2), .int .u8 (leB n 3), .int .u8 (leB n 4), .int .u8 (leB n 5), .int .u8 (leB n 6), .int .u8 (leB n 7)] 113)); have HK1 := Aside0.mk (blk_new w1 (.cells #[.int .u8 (leB n 0), .int .u8 (leB n 1), .int .u8 (leB n 2), .int .u8 (leB n 3), .int .u8 (leB n 4), .int .u8 (leB n 5), .int .u8 (leB n 6), .int .u8 (leB n 7)] 113)); clear hb1)
  have hsz1 : (w1.alloc (.cells #[.int .u8 (leB n 0), .int .u8 (leB n 1), .int .u8 (leB n 2), .int .u8 (leB n 3), .int .u8 (leB n 4), .int .u8 (leB n 5), .int .u8 (leB n 6), .int .u8 (leB n 7)] 113)).heap.size = w1.heap.size + 1 := by simp
  obtain ⟨w3, hrun, ho3, hg3⟩ := run_make_own (P := Tryd.prog) (w1.alloc (.cells #[.int .u8 (leB n 0), .int .u8 (leB n 1), .int .u8 (leB n 2), .int .u8 (leB n 3), .int .u8 (leB n 4), .int .u8 (leB n 5), .int .u8 (leB n 6), .int .u8 (leB n 7)] 113)) w.heap.size 37 5 i0 (.int .u8 0) 1 Tryd.underlying37 hi hz0 hz1 .i64 .i64 (l0.length + 2) (by rw [hz2]; omega) (by unfold maxLen; omega) HB1.out.size
  rw [show (((l0.length + 2 : Nat) : Int)) = (l0.length : Int) + 2 by omega] at hrun
  rw [hrun]
  simp only [Result.andThen]
  rw [Oper.upon_value]
  have HK3 := Aside0.mk (blk_grown HK1.out hg3 (by simp))
  have HB3 := Aside0.mk (Below.grown HB1.out hg3 HB1.out.size (fun k hk => by cases hk))
  have HO3 := Aside0.mk (Kd.R_of_own (xs := ([] : List Int)) (enc := Value.int .u8) (h1 := fun _ => rfl) ho3 (fun _ _ => trivial))
  clear hrun ho3 hg3 HB1 HK1
  rw [hsz1] at HO3 ⊢
  clear hsz1
  go_wp2_with (first | (at_builtin; refine Kd.R_append_rows (Kd.int .u8) (w0 := w) w.heap.size rfl (.tmp 34) (.tmp 35) 37 5 (.int .u8 0) 1 rfl Tryd.underlying37 wire_info rfl (by decide) (by omega) (.slice (some ⟨w1.heap.size + 1, 0, none⟩) 0 (l0.length + 2)) [] l0 A0 l0.length c0 (fun _ => True) (fun _ => False) rfl rfl ?aO ?aR (fun _ _ h => h) (fun _ h => h.elim) ?aF ?aB ?aS ?aL ?_; (case aO => exact HO3.out); (case aR => exact Kd.C_below HR0.out HB3.out); (case aB => exact HB3.out); (case aF => exact (fun _ _ => trivial)); (case aS => exact HB3.out.size); (case aL => simp; omega); intro v4 w4 ho hb hg hat; have HK4 := Aside0.mk (blk_grown HK3.out hg (by simp [Value.ownBlock])); have HO4 := Aside0.mk ho; have HB4 := Aside0.mk hb; clear HK3 HO3 HB3 ho hb hg hat) | (at_builtin; refine Kd.R_append_rows (Kd.int .u8) (w0 := w) w.heap.size rfl (.tmp 37) (.tmp 39) 37 5 (.int .u8 0) 1 rfl Tryd.underlying37 wire_info rfl (by decide) (by omega) v4 ([] ++ l0) (leBytes n 2) (some ⟨w1.heap.size, 0, none⟩) 2 8 (fun _ => True) (fun _ => False) rfl rfl ?aO ?aR (fun _ _ h => h) (fun _ h => h.elim) ?aF ?aB ?aS ?aL ?_; (case aO => exact HO4.out); (case aR => exact row_C HK4.out (leBytes n 2) rfl (by decide) (leBytes_at n 2 (by decide))); (case aB => exact HB4.out); (case aF => exact (fun _ _ => trivial)); (case aS => exact HB4.out.size); (case aL => simp; omega); intro v5 w5 ho hb hg hat; have HO5 := Aside0.mk ho; have HB5 := Aside0.mk hb; clear HK4 HO4 HB4 ho hb hg hat))
  go_ret2
  exact ⟨_, rfl, by have := HO5.out; rwa [List.nil_append] at this, HB5.out⟩
set_option maxHeartbeats 3200000 in
set_option maxRecDepth 100000 in
theorem wire_Put4 (A0 : Option Addr) (c0 : Nat) (l0 : List Int) (n : Int) (w : World) (hr0 : Kd.C (Kd.int .u8) w A0 l0.length l0) (hc0 : l0.length ≤ c0) (h0 : 0 ≤ n) (h1 : n < 4294967296) (hl : l0.length < 1000000000) :
    Calls Tryd.prog 47 #[.slice A0 l0.length c0, .int .i64 n, .int .i64 4] w fun e w' => ∃ v0_ : Value, e = .returned (.tuple #[v0_, .int .i64 0]) ∧ Kd.R (Kd.int .u8) 5 w' w.heap.size (fun _ => True) v0_ (l0 ++ leBytes n 4) ∧ Below w.heap.size w w' := by
  have hq : n / 4294967296 = 0 := by omega
  have HR0 := Aside0.mk hr0
  clear hr0
  obtain ⟨i0, hi, hz0, hz1, hz2⟩ := info_parts wire_info
  go_enter Tryd.func47, Tryd.ntmps47
  go_wp2_with (go_at_call 68; refine (wire_of n _ h0 (by omega)).mono ?_; rintro e w1 ⟨rfl, hb1⟩; have HB1 := Aside0.mk (hb1.alloc hb1.size (.cells #[.int .u8 (leB n 0), .int .u8 (leB n 1), .int .u8 (leB n 2), .int .u8 (leB n 3), .int .u8 (leB n 4), .int .u8 (leB n 5), .int .u8 (leB n 6), .int .u8 (leB n 7)] 113)); have HK1 := Aside0.mk (blk_new w1 (.cells #[.int .u8 (leB n 0), .int .u8 (leB n 1), .int .u8 (leB n 2), .int .u8 (leB n 3), .int .u8 (leB n 4), .int .u8 (leB n 5), .int .u8 (leB n 6), .int .u8 (leB n 7)] 113)); clear hb1)
  have hsz1 : (w1.alloc (.cells #[.int .u8 (leB n 0), .int .u8 (leB n 1), .int .u8 (leB n 2), .int .u8 (leB n 3), .int .u8 (leB n 4), .int .u8 (leB n 5), .int .u8 (leB n 6), .int .u8 (leB n 7)] 113)).heap.size = w1.heap.size + 1 := by simp
  obtain ⟨w3, hrun, ho3, hg3⟩ := run_make_own (P := Tryd.prog) (w1.alloc (.cells #[.int .u8 (leB n 0), .int .u8 (leB n 1), .int .u8 (leB n 2), .int .u8 (leB n 3), .int .u8 (leB n 4), .int .u8 (leB n 5), .int .u8 (leB n 6), .int .u8 (leB n 7)] 113)) w.heap.size 37 5 i0 (.int .u8 0) 1 Tryd.underlying37 hi hz0 hz1 .i64 .i64 (l0.length + 4) (by rw [hz2]; omega) (by unfold maxLen; omega) HB1.out.size
  rw [show (((l0.length + 4 : Nat) : Int)) = (l0.length : Int) + 4 by omega] at hrun
  rw [hrun]
  simp only [Result.andThen]
  rw [Oper.upon_value]
  have HK3 := Aside0.mk (blk_grown HK1.out hg3 (by simp))
  have HB3 := Aside0.mk (Below.grown HB1.out hg3 HB1.out.size (fun k hk => by cases hk))
  have HO3 := Aside0.mk (Kd.R_of_own (xs := ([] : List Int)) (enc := Value.int .u8) (h1 := fun _ => rfl) ho3 (fun _ _ => trivial))
  clear hrun ho3 hg3 HB1 HK1
  rw [hsz1] at HO3 ⊢
  clear hsz1
  go_wp2_with (first | (at_builtin; refine Kd.R_append_rows (Kd.int .u8) (w0 := w) w.heap.size rfl (.tmp 34) (.tmp 35) 37 5 (.int .u8 0) 1 rfl Tryd.underlying37 wire_info rfl (by decide) (by omega) (.slice (some ⟨w1.heap.size + 1, 0, none⟩) 0 (l0.length + 4)) [] l0 A0 l0.length c0 (fun _ => True) (fun _ => False) rfl rfl ?aO ?aR (fun _ _ h => h) (fun _ h => h.elim) ?aF ?aB ?aS ?aL ?_; (case aO => exact HO3.out); (case aR => exact Kd.C_below HR0.out HB3.out); (case aB => exact HB3.out); (case aF => exact (fun _ _ => trivial)); (case aS => exact HB3.out.size); (case aL => simp; omega); intro v4 w4 ho hb hg hat; have HK4 := Aside0.mk (blk_grown HK3.out hg (by simp [Value.ownBlock])); have HO4 := Aside0.mk ho; have HB4 := Aside0.mk hb; clear HK3 HO3 HB3 ho hb hg hat) | (at_builtin; refine Kd.R_append_rows (Kd.int .u8) (w0 := w) w.heap.size rfl (.tmp 37) (.tmp 39) 37 5 (.int .u8 0) 1 rfl Tryd.underlying37 wire_info rfl (by decide) (by omega) v4 ([] ++ l0) (leBytes n 4) (some ⟨w1.heap.size, 0, none⟩) 4 8 (fun _ => True) (fun _ => False) rfl rfl ?aO ?aR (fun _ _ h => h) (fun _ h => h.elim) ?aF ?aB ?aS ?aL ?_; (case aO => exact HO4.out); (case aR => exact row_C HK4.out (leBytes n 4) rfl (by decide) (leBytes_at n 4 (by decide))); (case aB => exact HB4.out); (case aF => exact (fun _ _ => trivial)); (case aS => exact HB4.out.size); (case aL => simp; omega); intro v5 w5 ho hb hg hat; have HO5 := Aside0.mk ho; have HB5 := Aside0.mk hb; clear HK4 HO4 HB4 ho hb hg hat))
  go_ret2
  exact ⟨_, rfl, by have := HO5.out; rwa [List.nil_append] at this, HB5.out⟩
set_option maxHeartbeats 3200000 in
set_option maxRecDepth 100000 in
theorem wire_Put5 (A0 : Option Addr) (c0 : Nat) (l0 : List Int) (n : Int) (w : World) (hr0 : Kd.C (Kd.int .u8) w A0 l0.length l0) (hc0 : l0.length ≤ c0) (h0 : 0 ≤ n) (h1 : n < 1099511627776) (hl : l0.length < 1000000000) :
    Calls Tryd.prog 47 #[.slice A0 l0.length c0, .int .i64 n, .int .i64 5] w fun e w' => ∃ v0_ : Value, e = .returned (.tuple #[v0_, .int .i64 0]) ∧ Kd.R (Kd.int .u8) 5 w' w.heap.size (fun _ => True) v0_ (l0 ++ leBytes n 5) ∧ Below w.heap.size w w' := by
  have hq : n / 1099511627776 = 0 := by omega
  have HR0 := Aside0.mk hr0
  clear hr0
  obtain ⟨i0, hi, hz0, hz1, hz2⟩ := info_parts wire_info
  go_enter Tryd.func47, Tryd.ntmps47
  go_wp2_with (go_at_call 68; refine (wire_of n _ h0 (by omega)).mono ?_; rintro e w1 ⟨rfl, hb1⟩; have HB1 := Aside0.mk (hb1.alloc hb1.size (.cells #[.int .u8 (leB n 0), .int .u8 (leB n 1), .int .u8 (leB n 2), .int .u8 (leB n 3), .int .u8 (leB n 4), .int .u8 (leB n 5), .int .u8 (leB n 6), .int .u8 (leB n 7)] 113)); have HK1 := Aside0.mk (blk_new w1 (.cells #[.int .u8 (leB n 0), .int .u8 (leB n 1), .int .u8 (leB n 2), .int .u8 (leB n 3), .int .u8 (leB n 4), .int .u8 (leB n 5), .int .u8 (leB n 6), .int .u8 (leB n 7)] 113)); clear hb1)
  have hsz1 : (w1.alloc (.cells #[.int .u8 (leB n 0), .int .u8 (leB n 1), .int .u8 (leB n 2), .int .u8 (leB n 3), .int .u8 (leB n 4), .int .u8 (leB n 5), .int .u8 (leB n 6), .int .u8 (leB n 7)] 113)).heap.size = w1.heap.size + 1 := by simp
  obtain ⟨w3, hrun, ho3, hg3⟩ := run_make_own (P := Tryd.prog) (w1.alloc (.cells #[.int .u8 (leB n 0), .int .u8 (leB n 1), .int .u8 (leB n 2), .int .u8 (leB n 3), .int .u8 (leB n 4), .int .u8 (leB n 5), .int .u8 (leB n 6), .int .u8 (leB n 7)] 113)) w.heap.size 37 5 i0 (.int .u8 0) 1 Tryd.underlying37 hi hz0 hz1 .i64 .i64 (l0.length + 5) (by rw [hz2]; omega) (by unfold maxLen; omega) HB1.out.size
  rw [show (((l0.length + 5 : Nat) : Int)) = (l0.length : Int) + 5 by omega] at hrun
  rw [hrun]
  simp only [Result.andThen]
  rw [Oper.upon_value]
  have HK3 := Aside0.mk (blk_grown HK1.out hg3 (by simp))
  have HB3 := Aside0.mk (Below.grown HB1.out hg3 HB1.out.size (fun k hk => by cases hk))
  have HO3 := Aside0.mk (Kd.R_of_own (xs := ([] : List Int)) (enc := Value.int .u8) (h1 := fun _ => rfl) ho3 (fun _ _ => trivial))
  clear hrun ho3 hg3 HB1 HK1
  rw [hsz1] at HO3 ⊢
  clear hsz1
  go_wp2_with (first | (at_builtin; refine Kd.R_append_rows (Kd.int .u8) (w0 := w) w.heap.size rfl (.tmp 34) (.tmp 35) 37 5 (.int .u8 0) 1 rfl Tryd.underlying37 wire_info rfl (by decide) (by omega) (.slice (some ⟨w1.heap.size + 1, 0, none⟩) 0 (l0.length + 5)) [] l0 A0 l0.length c0 (fun _ => True) (fun _ => False) rfl rfl ?aO ?aR (fun _ _ h => h) (fun _ h => h.elim) ?aF ?aB ?aS ?aL ?_; (case aO => exact HO3.out); (case aR => exact Kd.C_below HR0.out HB3.out); (case aB => exact HB3.out); (case aF => exact (fun _ _ => trivial)); (case aS => exact HB3.out.size); (case aL => simp; omega); intro v4 w4 ho hb hg hat; have HK4 := Aside0.mk (blk_grown HK3.out hg (by simp [Value.ownBlock])); have HO4 := Aside0.mk ho; have HB4 := Aside0.mk hb; clear HK3 HO3 HB3 ho hb hg hat) | (at_builtin; refine Kd.R_append_rows (Kd.int .u8) (w0 := w) w.heap.size rfl (.tmp 37) (.tmp 39) 37 5 (.int .u8 0) 1 rfl Tryd.underlying37 wire_info rfl (by decide) (by omega) v4 ([] ++ l0) (leBytes n 5) (some ⟨w1.heap.size, 0, none⟩) 5 8 (fun _ => True) (fun _ => False) rfl rfl ?aO ?aR (fun _ _ h => h) (fun _ h => h.elim) ?aF ?aB ?aS ?aL ?_; (case aO => exact HO4.out); (case aR => exact row_C HK4.out (leBytes n 5) rfl (by decide) (leBytes_at n 5 (by decide))); (case aB => exact HB4.out); (case aF => exact (fun _ _ => trivial)); (case aS => exact HB4.out.size); (case aL => simp; omega); intro v5 w5 ho hb hg hat; have HO5 := Aside0.mk ho; have HB5 := Aside0.mk hb; clear HK4 HO4 HB4 ho hb hg hat))
  go_ret2
  exact ⟨_, rfl, by have := HO5.out; rwa [List.nil_append] at this, HB5.out⟩
theorem wire_Put.calls (A0 : Option Addr) (c0 : Nat) (l0 : List Int) (a1 a2 : Int) (r1 : List Int) (r2 : Int) (w : World) (hr0 : Kd.C (Kd.int .u8) w A0 l0.length l0) (hc0 : l0.length ≤ c0) (h : wire_Put.f l0 a1 a2 = some (r1, r2)) :
    Calls Tryd.prog 47 #[.slice A0 l0.length c0, .int .i64 a1, .int .i64 a2] w fun e w' => ∃ v0_ : Value, e = .returned (.tuple #[v0_, .int .i64 r2]) ∧ Kd.R (Kd.int .u8) 5 w' w.heap.size (fun _ => True) v0_ r1 ∧ Below w.heap.size w w' := by
  unfold wire_Put.f at h
  split at h
  case isFalse => cases h
  case isTrue hh =>
    obtain ⟨hw, h0, h1, hl⟩ := hh
    obtain ⟨rfl, rfl⟩ : l0 ++ leBytes a1 a2.toNat = r1 ∧ 0 = r2 := by simpa using h
    rcases hw with rfl | rfl | rfl | rfl
    · exact wire_Put1 A0 c0 l0 a1 w hr0 hc0 h0 (by simpa using h1) hl
    · exact wire_Put2 A0 c0 l0 a1 w hr0 hc0 h0 (by simpa using h1) hl
    · exact wire_Put4 A0 c0 l0 a1 w hr0 hc0 h0 (by simpa using h1) hl
    · exact wire_Put5 A0 c0 l0 a1 w hr0 hc0 h0 (by simpa using h1) hl

/-! ### variant_times: function 48 -/
def variant_times.f  : Option (Int × Int) := some (0, 253402300799)
set_option maxHeartbeats 8000000 in
set_option maxRecDepth 100000 in
theorem variant_times.calls  (r1 : Int) (r2 : Int) (w : World) (h : variant_times.f  = some (r1, r2)) :
    Calls Tryd.prog 48 #[] w fun e w' => e = .returned (.agg #[.int .i64 r1, .int .i64 r2]) ∧ Below w.heap.size w w' := by
  have hu70 := Tryd.underlying70
  have HB := Aside0.mk (Below.refl w.heap.size w)
  have H : (some (0, 253402300799)) = some (r1, r2) := h
  clear h
  simp only [Option.some.injEq, Prod.mk.injEq] at H
  obtain ⟨rfl, rfl⟩ := H
  go_enter Tryd.func48, Tryd.ntmps48
  go_wp2_with (first | ((with_reducible refine gate_dst (N := 0) rfl ?_); refine box_event ?hg (N := 0) ?hd (cs := #[.int .i64 0, .int .i64 0]) (t := 70) ?hr ?_; (case hd => rfl); (case hg => rfl); (case hr => first | (go_simp; done) | (go_simp; rfl)); intro gb159 hg w1 hbox hb; have n0_ := Aside0.mk (below_step (by repeat (first | (with_reducible first | exact HB.out | apply below_alloc | apply pw_below_drewN | apply below_drew1) | exact HB.out)) hb); have n1_ := Aside0.mk (hbox); have n2_ := Aside0.mk ((by rw [hg]; exact (below_size (by repeat (first | (with_reducible first | exact HB.out | apply below_alloc | apply pw_below_drewN | apply below_drew1) | exact HB.out))) : w.heap.size ≤ gb159)); have n3_ := Aside0.mk ((by rw [hg]; exact (below_size (by repeat (first | (with_reducible first | exact HB.out | apply below_alloc | apply pw_below_drewN | apply below_drew1) | exact HB.out))) : w.heap.size ≤ gb159)); clear HB; have HB := n0_; have BK159 := n1_; have GW159 := n2_; have GE159 := n3_; clear n0_ n1_ n2_ n3_; clear hb hbox hg; have hcz2_0 : w1.cell? ⟨gb159, 0, none⟩ = some (.int .i64 0) := (blk_cell BK159.out 0).trans rfl; have hcz2_1 : w1.cell? ⟨gb159, 1, none⟩ = some (.int .i64 0) := (blk_cell BK159.out 1).trans rfl; have hfz2_0 := blk_frozen BK159.out 0; have hfz2_1 := blk_frozen BK159.out 1))
  refine bodyPost_ret (results_cell_row rfl _ _ gb159 70 #[.int .i64 0, .int .i64 253402300799] (0, 0) _ rfl (by (with_reducible repeat (first | refine blk_drewN ?_ _ | refine blk_drew ?_ | refine blk_alloc ?_ _)); refine blk_put (cs := #[.int .i64 0, .int .i64 0]) ?_ 1 _ rfl; (with_reducible repeat (first | refine blk_drewN ?_ _ | refine blk_drew ?_ | refine blk_alloc ?_ _)); refine blk_put (cs := #[.int .i64 0, .int .i64 0]) ?_ 0 _ rfl; (with_reducible repeat (first | refine blk_drewN ?_ _ | refine blk_drew ?_ | refine blk_alloc ?_ _)); exact BK159.out) Tryd.underlying70 rfl (by kernel_rfl)) rfl ?_
  exact ⟨by first | rfl | (simp [errW_none, errW_some] <;> rfl) | (simp [*, errW_none, errW_some] <;> rfl), by repeat (first | (with_reducible first | exact HB.out | apply below_alloc | apply pw_below_drewN | apply below_drew1 | refine below_set ?_ GE159.out) | exact HB.out)⟩

/-! ### variant_codes: function 49 -/
def variant_codes.f  : Option (Int × Int) := some (200, 599)
set_option maxHeartbeats 8000000 in
set_option maxRecDepth 100000 in
theorem variant_codes.calls  (r1 : Int) (r2 : Int) (w : World) (h : variant_codes.f  = some (r1, r2)) :
    Calls Tryd.prog 49 #[] w fun e w' => e = .returned (.agg #[.int .i64 r1, .int .i64 r2]) ∧ Below w.heap.size w w' := by
  have hu70 := Tryd.underlying70
  have HB := Aside0.mk (Below.refl w.heap.size w)
  have H : (some (200, 599)) = some (r1, r2) := h
  clear h
  simp only [Option.some.injEq, Prod.mk.injEq] at H
  obtain ⟨rfl, rfl⟩ := H
  go_enter Tryd.func49, Tryd.ntmps49
  go_wp2_with (first | ((with_reducible refine gate_dst (N := 0) rfl ?_); refine box_event ?hg (N := 0) ?hd (cs := #[.int .i64 0, .int .i64 0]) (t := 70) ?hr ?_; (case hd => rfl); (case hg => rfl); (case hr => first | (go_simp; done) | (go_simp; rfl)); intro gb160 hg w1 hbox hb; have n0_ := Aside0.mk (below_step (by repeat (first | (with_reducible first | exact HB.out | apply below_alloc | apply pw_below_drewN | apply below_drew1) | exact HB.out)) hb); have n1_ := Aside0.mk (hbox); have n2_ := Aside0.mk ((by rw [hg]; exact (below_size (by repeat (first | (with_reducible first | exact HB.out | apply below_alloc | apply pw_below_drewN | apply below_drew1) | exact HB.out))) : w.heap.size ≤ gb160)); have n3_ := Aside0.mk ((by rw [hg]; exact (below_size (by repeat (first | (with_reducible first | exact HB.out | apply below_alloc | apply pw_below_drewN | apply below_drew1) | exact HB.out))) : w.heap.size ≤ gb160)); clear HB; have HB := n0_; have BK160 := n1_; have GW160 := n2_; have GE160 := n3_; clear n0_ n1_ n2_ n3_; clear hb hbox hg; have hcz2_0 : w1.cell? ⟨gb160, 0, none⟩ = some (.int .i64 0) := (blk_cell BK160.out 0).trans rfl; have hcz2_1 : w1.cell? ⟨gb160, 1, none⟩ = some (.int .i64 0) := (blk_cell BK160.out 1).trans rfl; have hfz2_0 := blk_frozen BK160.out 0; have hfz2_1 := blk_frozen BK160.out 1))
  refine bodyPost_ret (results_cell_row rfl _ _ gb160 70 #[.int .i64 200, .int .i64 599] (0, 0) _ rfl (by (with_reducible repeat (first | refine blk_drewN ?_ _ | refine blk_drew ?_ | refine blk_alloc ?_ _)); refine blk_put (cs := #[.int .i64 200, .int .i64 0]) ?_ 1 _ rfl; (with_reducible repeat (first | refine blk_drewN ?_ _ | refine blk_drew ?_ | refine blk_alloc ?_ _)); refine blk_put (cs := #[.int .i64 0, .int .i64 0]) ?_ 0 _ rfl; (with_reducible repeat (first | refine blk_drewN ?_ _ | refine blk_drew ?_ | refine blk_alloc ?_ _)); exact BK160.out) Tryd.underlying70 rfl (by kernel_rfl)) rfl ?_
  exact ⟨by first | rfl | (simp [errW_none, errW_some] <;> rfl) | (simp [*, errW_none, errW_some] <;> rfl), by repeat (first | (with_reducible first | exact HB.out | apply below_alloc | apply pw_below_drewN | apply below_drew1 | refine below_set ?_ GE160.out) | exact HB.out)⟩

/-! ### variant_minors: function 50 -/
def variant_minors.f  : Option (Int × Int) := some (0, 1)
set_option maxHeartbeats 8000000 in
set_option maxRecDepth 100000 in
theorem variant_minors.calls  (r1 : Int) (r2 : Int) (w : World) (h : variant_minors.f  = some (r1, r2)) :
    Calls Tryd.prog 50 #[] w fun e w' => e = .returned (.agg #[.int .i64 r1, .int .i64 r2]) ∧ Below w.heap.size w w' := by
  have hu70 := Tryd.underlying70
  have HB := Aside0.mk (Below.refl w.heap.size w)
  have H : (some (0, 1)) = some (r1, r2) := h
  clear h
  simp only [Option.some.injEq, Prod.mk.injEq] at H
  obtain ⟨rfl, rfl⟩ := H
  go_enter Tryd.func50, Tryd.ntmps50
  go_wp2_with (first | ((with_reducible refine gate_dst (N := 0) rfl ?_); refine box_event ?hg (N := 0) ?hd (cs := #[.int .i64 0, .int .i64 0]) (t := 70) ?hr ?_; (case hd => rfl); (case hg => rfl); (case hr => first | (go_simp; done) | (go_simp; rfl)); intro gb161 hg w1 hbox hb; have n0_ := Aside0.mk (below_step (by repeat (first | (with_reducible first | exact HB.out | apply below_alloc | apply pw_below_drewN | apply below_drew1) | exact HB.out)) hb); have n1_ := Aside0.mk (hbox); have n2_ := Aside0.mk ((by rw [hg]; exact (below_size (by repeat (first | (with_reducible first | exact HB.out | apply below_alloc | apply pw_below_drewN | apply below_drew1) | exact HB.out))) : w.heap.size ≤ gb161)); have n3_ := Aside0.mk ((by rw [hg]; exact (below_size (by repeat (first | (with_reducible first | exact HB.out | apply below_alloc | apply pw_below_drewN | apply below_drew1) | exact HB.out))) : w.heap.size ≤ gb161)); clear HB; have HB := n0_; have BK161 := n1_; have GW161 := n2_; have GE161 := n3_; clear n0_ n1_ n2_ n3_; clear hb hbox hg; have hcz2_0 : w1.cell? ⟨gb161, 0, none⟩ = some (.int .i64 0) := (blk_cell BK161.out 0).trans rfl; have hcz2_1 : w1.cell? ⟨gb161, 1, none⟩ = some (.int .i64 0) := (blk_cell BK161.out 1).trans rfl; have hfz2_0 := blk_frozen BK161.out 0; have hfz2_1 := blk_frozen BK161.out 1))
  refine bodyPost_ret (results_cell_row rfl _ _ gb161 70 #[.int .i64 0, .int .i64 1] (0, 0) _ rfl (by (with_reducible repeat (first | refine blk_drewN ?_ _ | refine blk_drew ?_ | refine blk_alloc ?_ _)); refine blk_put (cs := #[.int .i64 0, .int .i64 0]) ?_ 1 _ rfl; (with_reducible repeat (first | refine blk_drewN ?_ _ | refine blk_drew ?_ | refine blk_alloc ?_ _)); refine blk_put (cs := #[.int .i64 0, .int .i64 0]) ?_ 0 _ rfl; (with_reducible repeat (first | refine blk_drewN ?_ _ | refine blk_drew ?_ | refine blk_alloc ?_ _)); exact BK161.out) Tryd.underlying70 rfl (by kernel_rfl)) rfl ?_
  exact ⟨by first | rfl | (simp [errW_none, errW_some] <;> rfl) | (simp [*, errW_none, errW_some] <;> rfl), by repeat (first | (with_reducible first | exact HB.out | apply below_alloc | apply pw_below_drewN | apply below_drew1 | refine below_set ?_ GE161.out) | exact HB.out)⟩

/-! ### variant_counts: function 52 -/
def variant_counts.f  : Option (Int × Int) := some (0, 64)
set_option maxHeartbeats 8000000 in
set_option maxRecDepth 100000 in
theorem variant_counts.calls  (r1 : Int) (r2 : Int) (w : World) (h : variant_counts.f  = some (r1, r2)) :
    Calls Tryd.prog 52 #[] w fun e w' => e = .returned (.agg #[.int .i64 r1, .int .i64 r2]) ∧ Below w.heap.size w w' := by
  have hu70 := Tryd.underlying70
  have HB := Aside0.mk (Below.refl w.heap.size w)
  have H : (some (0, 64)) = some (r1, r2) := h
  clear h
  simp only [Option.some.injEq, Prod.mk.injEq] at H
  obtain ⟨rfl, rfl⟩ := H
  go_enter Tryd.func52, Tryd.ntmps52
  go_wp2_with (first | ((with_reducible refine gate_dst (N := 0) rfl ?_); refine box_event ?hg (N := 0) ?hd (cs := #[.int .i64 0, .int .i64 0]) (t := 70) ?hr ?_; (case hd => rfl); (case hg => rfl); (case hr => first | (go_simp; done) | (go_simp; rfl)); intro gb162 hg w1 hbox hb; have n0_ := Aside0.mk (below_step (by repeat (first | (with_reducible first | exact HB.out | apply below_alloc | apply pw_below_drewN | apply below_drew1) | exact HB.out)) hb); have n1_ := Aside0.mk (hbox); have n2_ := Aside0.mk ((by rw [hg]; exact (below_size (by repeat (first | (with_reducible first | exact HB.out | apply below_alloc | apply pw_below_drewN | apply below_drew1) | exact HB.out))) : w.heap.size ≤ gb162)); have n3_ := Aside0.mk ((by rw [hg]; exact (below_size (by repeat (first | (with_reducible first | exact HB.out | apply below_alloc | apply pw_below_drewN | apply below_drew1) | exact HB.out))) : w.heap.size ≤ gb162)); clear HB; have HB := n0_; have BK162 := n1_; have GW162 := n2_; have GE162 := n3_; clear n0_ n1_ n2_ n3_; clear hb hbox hg; have hcz2_0 : w1.cell? ⟨gb162, 0, none⟩ = some (.int .i64 0) := (blk_cell BK162.out 0).trans rfl; have hcz2_1 : w1.cell? ⟨gb162, 1, none⟩ = some (.int .i64 0) := (blk_cell BK162.out 1).trans rfl; have hfz2_0 := blk_frozen BK162.out 0; have hfz2_1 := blk_frozen BK162.out 1))
  refine bodyPost_ret (results_cell_row rfl _ _ gb162 70 #[.int .i64 0, .int .i64 64] (0, 0) _ rfl (by (with_reducible repeat (first | refine blk_drewN ?_ _ | refine blk_drew ?_ | refine blk_alloc ?_ _)); refine blk_put (cs := #[.int .i64 0, .int .i64 0]) ?_ 1 _ rfl; (with_reducible repeat (first | refine blk_drewN ?_ _ | refine blk_drew ?_ | refine blk_alloc ?_ _)); refine blk_put (cs := #[.int .i64 0, .int .i64 0]) ?_ 0 _ rfl; (with_reducible repeat (first | refine blk_drewN ?_ _ | refine blk_drew ?_ | refine blk_alloc ?_ _)); exact BK162.out) Tryd.underlying70 rfl (by kernel_rfl)) rfl ?_
  exact ⟨by first | rfl | (simp [errW_none, errW_some] <;> rfl) | (simp [*, errW_none, errW_some] <;> rfl), by repeat (first | (with_reducible first | exact HB.out | apply below_alloc | apply pw_below_drewN | apply below_drew1 | refine below_set ?_ GE162.out) | exact HB.out)⟩

/-! ### wire_PutText: function 69 -/
def wire_PutText.f (l0 : List Int) (a1 : ByteArray) : Option (List Int × Int) := if (a1.size : Int) > 65536 then (some (([] : List Int), 4)) else ((wire_Put.f l0 (a1.size : Int) 4).bind fun bt163 => (if bt163.1.length + a1.size < 140737488355328 then (some ((bt163.1 ++ bytesOf a1), bt163.2)) else (none)))
set_option maxHeartbeats 8000000 in
set_option maxRecDepth 100000 in
theorem wire_PutText.calls (A0 : Option Addr) (c0 : Nat) (l0 : List Int) (a1 : ByteArray) (r1 : List Int) (r2 : Int) (w : World) (hr0 : Kd.C (Kd.int .u8) w A0 l0.length l0) (hc0 : l0.length ≤ c0) (h : wire_PutText.f l0 a1 = some (r1, r2)) :
    Calls Tryd.prog 69 #[.slice A0 l0.length c0, .string a1] w fun e w' => ∃ v0_ : Value, e = .returned (.tuple #[v0_, .int .i64 r2]) ∧ Kd.R (Kd.int .u8) 5 w' w.heap.size (fun _ => True) v0_ r1 ∧ Below w.heap.size w w' := by
  have HR0 := Aside0.mk hr0
  have HC0 := Aside0.mk hc0
  clear hr0 hc0
  have HB := Aside0.mk (Below.refl w.heap.size w)
  have H : (if (a1.size : Int) > 65536 then (some (([] : List Int), 4)) else ((wire_Put.f l0 (a1.size : Int) 4).bind fun bt163 => (if bt163.1.length + a1.size < 140737488355328 then (some ((bt163.1 ++ bytesOf a1), bt163.2)) else (none)))) = some (r1, r2) := h
  clear h
  by_cases c3 : (a1.size : Int) > 65536
  · rw [if_pos c3] at H
    have c3b0 : decide (65536 < (a1.size : Int)) = true := decide_eq_true c3
    have c3b1 : decide (65536 < a1.size) = true := decide_eq_true (by omega)
    clear c3
    simp only [Option.some.injEq, Prod.mk.injEq] at H
    obtain ⟨rfl, rfl⟩ := H
    go_enter Tryd.func69, Tryd.ntmps69
    go_wp2
    go_ret2
    exact ⟨_, by first | rfl | (simp [errW_none, errW_some] <;> rfl) | (simp [*, errW_none, errW_some] <;> rfl), by first | exact Kd.R_nil _ _ _ _ _ | exact Kd.N_nil _ _ _ _ _ | exact Kd.V_nil _ _ _ _ _ | exact Kd.Q_nil _ _ _ _ _ | exact Kd.S_nil _ _ _ _ _, by repeat (first | (with_reducible first | exact HB.out | apply below_alloc | apply pw_below_drewN | apply below_drew1) | exact HB.out)⟩
  · rw [if_neg c3] at H
    have c3b0 : decide (65536 < (a1.size : Int)) = false := decide_eq_false c3
    have c3b1 : decide (65536 < a1.size) = false := decide_eq_false (by omega)
    clear c3
    replace H := Option.bind_eq_some_iff.mp H
    obtain ⟨⟨t163, t164⟩, A40, H⟩ := H
    replace H : (if t163.length + a1.size < 140737488355328 then (some ((t163 ++ bytesOf a1), t164)) else (none)) = some (r1, r2) := H
    have A4 := Aside0.mk A40
    clear A40
    by_cases c5 : t163.length + a1.size < 140737488355328
    · rw [if_pos c5] at H
      have LMc5 := Aside0.mk c5
      clear c5
      obtain ⟨y167, hy167⟩ : ∃ y_ : List Int, y_ = (t163 ++ bytesOf a1) := ⟨_, rfl⟩
      replace H : (some (y167, t164)) = some (r1, r2) := by first | (rw [hy167]; with_reducible exact H) | (have H2_ := (Option.bind_some _ _).symm.trans H; rw [hy167]; with_reducible exact H2_) | (have H2_ := (Option.bind_some _ _).symm.trans H; with_reducible exact H2_) | with_reducible exact H | (rw [hy167]; exact H) | exact H
      have Ny167 := Aside0.mk hy167
      clear hy167
      simp only [Option.some.injEq, Prod.mk.injEq] at H
      obtain ⟨rfl, rfl⟩ := H
      go_enter Tryd.func69, Tryd.ntmps69
      go_wp2_with (first | ((with_reducible refine gate_callee (f := 47) rfl ?_); refine goesL_ (some 15) rfl rfl Tryd.func47 (by kernel_rfl) rfl #[.slice A0 l0.length c0, .int .i64 (a1.size : Int), .int .i64 4] rfl (by (try simp only [List.map_toArray, List.map_cons, List.map_nil]); first | done | rfl | (simp only [List.length_drop, List.length_take]; rfl)) ?_; (with_reducible refine (wire_Put.calls _ _ l0 (a1.size : Int) 4 t163 t164 _ ?side1 ?side2 A4.out).mono ?_); (case side1 => repeat (first | exact HR0.out | (with_reducible refine Kd.C_alloc ?_ _) | (with_reducible refine Kd.C_drewN ?_ _) | (with_reducible refine Kd.C_drew ?_))); (case side2 => exact HC0.out); rintro e w6 ⟨v165, rfl, ho0, hb⟩; refine ⟨_, rfl, ?_⟩; have n0_ := Aside0.mk (Kd.R_lower ho0 (below_size (by repeat (first | (with_reducible first | exact HB.out | apply below_alloc | apply pw_below_drewN | apply below_drew1) | exact HB.out)))); have n1_ := Aside0.mk (below_step (by repeat (first | (with_reducible first | exact HB.out | apply below_alloc | apply pw_below_drewN | apply below_drew1) | exact HB.out)) hb); clear HB; have HO166 := n0_; have HB := n1_; clear n0_ n1_; (try clear hb); (try clear hb2); (try clear hk); (try clear hi); (try clear ho0)) | (at_builtin; refine print_append_str (w0 := w) w.heap.size rfl (.tmp 18) _ 37 9 5 rfl Tryd.underlying37 Tryd.underlying9 info5 v165 t163 a1 rfl rfl ?aO ?aB ?aS ?aL ?_; (case aB => exact (by repeat (first | (with_reducible first | exact HB.out | apply below_alloc | apply pw_below_drewN | apply below_drew1) | exact HB.out))); (case aO => exact (Kd.own_of_R (by (with_reducible repeat (first | apply Kd.R_alloc | apply Kd.R_drewN | apply Kd.R_drew)); exact HO166.out))); (case aS => exact (below_size (by repeat (first | (with_reducible first | exact HB.out | apply below_alloc | apply pw_below_drewN | apply below_drew1) | exact HB.out)))); (case aL => have := LMc5.out; omega); intro v168 w7 ho0 hb hg; have ho := Kd.R_of_own (h1 := fun _ => rfl) (ok := fun _ => True) ho0 (fun _ _ => trivial); clear ho0; have hat := True.intro; rw [← Ny167.out] at ho; change Kd.R (Kd.int .u8) 5 w7 w.heap.size (fun _ => True) v168 y167 at ho; have n0_ := Aside0.mk (hb); have n1_ := Aside0.mk (ho); clear HB; clear HO166; have HB := n0_; have HO169 := n1_; clear n0_ n1_; clear ho hb hg hat))
      go_ret2
      exact ⟨_, by first | rfl | (simp [errW_none, errW_some] <;> rfl) | (simp [*, errW_none, errW_some] <;> rfl), by (with_reducible repeat (first | apply Kd.R_alloc | apply Kd.R_drewN | apply Kd.R_drew)); exact HO169.out, by repeat (first | (with_reducible first | exact HB.out | apply below_alloc | apply pw_below_drewN | apply below_drew1) | exact HB.out)⟩
    · rw [if_neg c5] at H
      exact absurd H (by simp)

end Go.Proofs.YtdiefodncfnfeaaDoor.PR
