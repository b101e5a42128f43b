-- Out of the translation, by a program of this session: each function that a law comes to as a Lean function, and that the machine's call does what it says. Lean checks it.
import Derived.Test.YtjaklgikfcahdaaGreatDoorPB0
import Derived.Test.YtjaklgikfcahdaaGreatDoorPB20
namespace Go.Proofs.YtjaklgikfcahdaaGreatDoor.PB
open Go.RowKit Go.Proofs.YtjaklgikfcahdaaGreatDoorW.PrintWords Go.Proofs.YtjaklgikfcahdaaGreatDoorW.PrintLast Go.Proofs.YtjaklgikfcahdaaGreatDoorW.PrintMore
attribute [local go_sem] max2_int min2_int max_two min_two max_three min_three max_four min_four   -- for this text's walks alone
set_option linter.unusedVariables false
set_option linter.unusedSimpArgs false

/-! ### depotref12_SameRequest: function 11: told by hand -/
theorem cells5q {W : World} {b t : Nat} {v0 v1 v2 v3 v4 : Value} (h : W.heap[b]? = some (.cells #[v0, v1, v2, v3, v4] t (0, 0))) : W.cell? ⟨b, 0, none⟩ = some v0 ∧ W.cell? ⟨b, 1, none⟩ = some v1 ∧ W.cell? ⟨b, 2, none⟩ = some v2 ∧ W.cell? ⟨b, 3, none⟩ = some v3 ∧ W.cell? ⟨b, 4, none⟩ = some v4 := ⟨blk_cell h 0, blk_cell h 1, blk_cell h 2, blk_cell h 3, blk_cell h 4⟩
/-- Are two the very same? Told where all but the fields are. -/
def depotref12_SameRequest.f (k : Nat) (a0_0 : ByteArray) (a0_1 : ByteArray) (a0_2 : Int) (l0_3 : List S98) (a0_4 : ByteArray) (a1_0 : ByteArray) (a1_1 : ByteArray) (a1_2 : Int) (l1_3 : List S98) (a1_4 : ByteArray) : Option Bool := if (a0_0.toList == a1_0.toList) = true ∧ (a0_1.toList == a1_1.toList) = true ∧ a0_2 = a1_2 ∧ (a0_4.toList == a1_4.toList) = true then depotref09_Equal.f k l0_3 l1_3 else none
theorem depotref12_SameRequest.mono : ∀ a0_0 a0_1 a0_2 l0_3 a0_4 a1_0 a1_1 a1_2 l1_3 a1_4 k, LeO (depotref12_SameRequest.f k a0_0 a0_1 a0_2 l0_3 a0_4 a1_0 a1_1 a1_2 l1_3 a1_4) (depotref12_SameRequest.f (k + 1) a0_0 a0_1 a0_2 l0_3 a0_4 a1_0 a1_1 a1_2 l1_3 a1_4) := fun a0_0 a0_1 a0_2 l0_3 a0_4 a1_0 a1_1 a1_2 l1_3 a1_4 k => by
  unfold depotref12_SameRequest.f
  exact LeO.ite (depotref09_Equal.mono _ _ k) (LeO.refl _)
set_option maxHeartbeats 1600000 in
set_option maxRecDepth 100000 in
theorem depotref12_SameRequest.calls (k : Nat) (a0_0 : ByteArray) (a0_1 : ByteArray) (a0_2 : Int) (A0_3 : Option Addr) (c0_3 : Nat) (l0_3 : List S98) (a0_4 : ByteArray) (a1_0 : ByteArray) (a1_1 : ByteArray) (a1_2 : Int) (A1_3 : Option Addr) (c1_3 : Nat) (l1_3 : List S98) (a1_4 : ByteArray) (r : Bool) (w : World) (hr0_3 : Kd.C k98 w A0_3 l0_3.length l0_3) (hc0_3 : l0_3.length ≤ c0_3) (hr1_3 : Kd.C k98 w A1_3 l1_3.length l1_3) (hc1_3 : l1_3.length ≤ c1_3) (h : depotref12_SameRequest.f k a0_0 a0_1 a0_2 l0_3 a0_4 a1_0 a1_1 a1_2 l1_3 a1_4 = some r) :
    Calls Tryz.prog 11 #[.agg #[.string a0_0, .string a0_1, .int .i64 a0_2, .slice A0_3 l0_3.length c0_3, .string a0_4], .agg #[.string a1_0, .string a1_1, .int .i64 a1_2, .slice A1_3 l1_3.length c1_3, .string a1_4]] w fun e w' => e = .returned (.bool r) ∧ Below w.heap.size w w' := by
  unfold depotref12_SameRequest.f at h
  split at h
  case isFalse => cases h
  case isTrue hh =>
  obtain ⟨h0, h1, h2, h4⟩ := hh
  have h2b : (a0_2 == a1_2) = true := beq_iff_eq.2 h2
  clear h2
  have HQ := Aside0.mk h
  have HC0 := Aside0.mk hr0_3
  have HC1 := Aside0.mk hr1_3
  have hX := blk_new w (.cells #[.string a0_0, .string a0_1, .int .i64 a0_2, .slice A0_3 l0_3.length c0_3, .string a0_4] 25)
  have hB := Hand.alloc_below w (.cells #[.string a0_0, .string a0_1, .int .i64 a0_2, .slice A0_3 l0_3.length c0_3, .string a0_4] 25)
  clear h hr0_3 hr1_3
  go_enter Tryz.func11, Tryz.ntmps11
  go_upto_region 1 with (fail)
  have X0 := blk_alloc hX (.cells #[.string a1_0, .string a1_1, .int .i64 a1_2, .slice A1_3 l1_3.length c1_3, .string a1_4] 25)
  have X1 := blk_new (w.alloc (.cells #[.string a0_0, .string a0_1, .int .i64 a0_2, .slice A0_3 l0_3.length c0_3, .string a0_4] 25)) (.cells #[.string a1_0, .string a1_1, .int .i64 a1_2, .slice A1_3 l1_3.length c1_3, .string a1_4] 25)
  have HB := Aside0.mk (hB.alloc hB.size (.cells #[.string a1_0, .string a1_1, .int .i64 a1_2, .slice A1_3 l1_3.length c1_3, .string a1_4] 25))
  rw [show (w.alloc (.cells #[.string a0_0, .string a0_1, .int .i64 a0_2, .slice A0_3 l0_3.length c0_3, .string a0_4] 25)).heap.size = w.heap.size + 1 by simp] at X1
  clear hX hB
  generalize (w.alloc (.cells #[.string a0_0, .string a0_1, .int .i64 a0_2, .slice A0_3 l0_3.length c0_3, .string a0_4] 25)).alloc (.cells #[.string a1_0, .string a1_1, .int .i64 a1_2, .slice A1_3 l1_3.length c1_3, .string a1_4] 25) = W at X0 X1 HB ⊢
  obtain ⟨x0, x1, x2, x3, x4⟩ := cells5q X0
  obtain ⟨y0, y1, y2, y3, y4⟩ := cells5q X1
  clear X0 X1
  go_wp2_with (go_at_call 40; refine (depotref09_Equal.calls k A0_3 c0_3 l0_3 A1_3 c1_3 l1_3 r _ (Kd.C_below HC0.out HB.out) hc0_3 (Kd.C_below HC1.out HB.out) hc1_3 HQ.out).mono ?_; rintro e w2 ⟨rfl, n2, rfl⟩)
  go_ret
  exact ⟨rfl, pw_below_drewN HB.out _⟩

/-! ### depotref12_SameReply: function 14: told by hand -/
theorem cells5p {W : World} {b t : Nat} {v0 v1 v2 v3 v4 : Value} (h : W.heap[b]? = some (.cells #[v0, v1, v2, v3, v4] t (0, 0))) : W.cell? ⟨b, 0, none⟩ = some v0 ∧ W.cell? ⟨b, 1, none⟩ = some v1 ∧ W.cell? ⟨b, 2, none⟩ = some v2 ∧ W.cell? ⟨b, 3, none⟩ = some v3 ∧ W.cell? ⟨b, 4, none⟩ = some v4 := ⟨blk_cell h 0, blk_cell h 1, blk_cell h 2, blk_cell h 3, blk_cell h 4⟩
/-- Are two the very same? Told where all but the fields are. -/
def depotref12_SameReply.f (k : Nat) (a0_0 : Int) (a0_1 : ByteArray) (a0_2 : Int) (l0_3 : List S98) (a0_4 : ByteArray) (a1_0 : Int) (a1_1 : ByteArray) (a1_2 : Int) (l1_3 : List S98) (a1_4 : ByteArray) : Option Bool := if a0_0 = a1_0 ∧ (a0_1.toList == a1_1.toList) = true ∧ a0_2 = a1_2 ∧ (a0_4.toList == a1_4.toList) = true then depotref09_Equal.f k l0_3 l1_3 else none
theorem depotref12_SameReply.mono : ∀ a0_0 a0_1 a0_2 l0_3 a0_4 a1_0 a1_1 a1_2 l1_3 a1_4 k, LeO (depotref12_SameReply.f k a0_0 a0_1 a0_2 l0_3 a0_4 a1_0 a1_1 a1_2 l1_3 a1_4) (depotref12_SameReply.f (k + 1) a0_0 a0_1 a0_2 l0_3 a0_4 a1_0 a1_1 a1_2 l1_3 a1_4) := fun a0_0 a0_1 a0_2 l0_3 a0_4 a1_0 a1_1 a1_2 l1_3 a1_4 k => by
  unfold depotref12_SameReply.f
  exact LeO.ite (depotref09_Equal.mono _ _ k) (LeO.refl _)
set_option maxHeartbeats 1600000 in
set_option maxRecDepth 100000 in
theorem depotref12_SameReply.calls (k : Nat) (a0_0 : Int) (a0_1 : ByteArray) (a0_2 : Int) (A0_3 : Option Addr) (c0_3 : Nat) (l0_3 : List S98) (a0_4 : ByteArray) (a1_0 : Int) (a1_1 : ByteArray) (a1_2 : Int) (A1_3 : Option Addr) (c1_3 : Nat) (l1_3 : List S98) (a1_4 : ByteArray) (r : Bool) (w : World) (hr0_3 : Kd.C k98 w A0_3 l0_3.length l0_3) (hc0_3 : l0_3.length ≤ c0_3) (hr1_3 : Kd.C k98 w A1_3 l1_3.length l1_3) (hc1_3 : l1_3.length ≤ c1_3) (h : depotref12_SameReply.f k a0_0 a0_1 a0_2 l0_3 a0_4 a1_0 a1_1 a1_2 l1_3 a1_4 = some r) :
    Calls Tryz.prog 14 #[.agg #[.int .i64 a0_0, .string a0_1, .int .i64 a0_2, .slice A0_3 l0_3.length c0_3, .string a0_4], .agg #[.int .i64 a1_0, .string a1_1, .int .i64 a1_2, .slice A1_3 l1_3.length c1_3, .string a1_4]] w fun e w' => e = .returned (.bool r) ∧ Below w.heap.size w w' := by
  unfold depotref12_SameReply.f at h
  split at h
  case isFalse => cases h
  case isTrue hh =>
  obtain ⟨h0, h1, h2, h4⟩ := hh
  have h0b : (a0_0 == a1_0) = true := beq_iff_eq.2 h0
  clear h0
  have h2b : (a0_2 == a1_2) = true := beq_iff_eq.2 h2
  clear h2
  have HQ := Aside0.mk h
  have HC0 := Aside0.mk hr0_3
  have HC1 := Aside0.mk hr1_3
  have hX := blk_new w (.cells #[.int .i64 a0_0, .string a0_1, .int .i64 a0_2, .slice A0_3 l0_3.length c0_3, .string a0_4] 34)
  have hB := Hand.alloc_below w (.cells #[.int .i64 a0_0, .string a0_1, .int .i64 a0_2, .slice A0_3 l0_3.length c0_3, .string a0_4] 34)
  clear h hr0_3 hr1_3
  go_enter Tryz.func14, Tryz.ntmps14
  go_upto_region 1 with (fail)
  have X0 := blk_alloc hX (.cells #[.int .i64 a1_0, .string a1_1, .int .i64 a1_2, .slice A1_3 l1_3.length c1_3, .string a1_4] 34)
  have X1 := blk_new (w.alloc (.cells #[.int .i64 a0_0, .string a0_1, .int .i64 a0_2, .slice A0_3 l0_3.length c0_3, .string a0_4] 34)) (.cells #[.int .i64 a1_0, .string a1_1, .int .i64 a1_2, .slice A1_3 l1_3.length c1_3, .string a1_4] 34)
  have HB := Aside0.mk (hB.alloc hB.size (.cells #[.int .i64 a1_0, .string a1_1, .int .i64 a1_2, .slice A1_3 l1_3.length c1_3, .string a1_4] 34))
  rw [show (w.alloc (.cells #[.int .i64 a0_0, .string a0_1, .int .i64 a0_2, .slice A0_3 l0_3.length c0_3, .string a0_4] 34)).heap.size = w.heap.size + 1 by simp] at X1
  clear hX hB
  generalize (w.alloc (.cells #[.int .i64 a0_0, .string a0_1, .int .i64 a0_2, .slice A0_3 l0_3.length c0_3, .string a0_4] 34)).alloc (.cells #[.int .i64 a1_0, .string a1_1, .int .i64 a1_2, .slice A1_3 l1_3.length c1_3, .string a1_4] 34) = W at X0 X1 HB ⊢
  obtain ⟨x0, x1, x2, x3, x4⟩ := cells5p X0
  obtain ⟨y0, y1, y2, y3, y4⟩ := cells5p X1
  clear X0 X1
  go_wp2_with (go_at_call 40; refine (depotref09_Equal.calls k A0_3 c0_3 l0_3 A1_3 c1_3 l1_3 r _ (Kd.C_below HC0.out HB.out) hc0_3 (Kd.C_below HC1.out HB.out) hc1_3 HQ.out).mono ?_; rintro e w2 ⟨rfl, n2, rfl⟩)
  go_ret
  exact ⟨rfl, pw_below_drewN HB.out _⟩

end Go.Proofs.YtjaklgikfcahdaaGreatDoor.PB
