-- Out of the translation, by a program of this session: each function that a law comes to as a Lean function, and that the machine's call does what it says. Lean checks it.
import Derived.Test.YtjaklgikfcahdaaGreatDoorPV0
import Derived.Test.YtjaklgikfcahdaaGreatDoorPV1
import Derived.Test.YtjaklgikfcahdaaGreatDoorPV6
import Derived.Test.YtjaklgikfcahdaaGreatDoorPV9
import Derived.Test.YtjaklgikfcahdaaGreatDoorPV20
namespace Go.Proofs.YtjaklgikfcahdaaGreatDoor.PV
open Go.RowKit Go.Proofs.YtjaklgikfcahdaaGreatDoorW.PrintWords Go.Proofs.YtjaklgikfcahdaaGreatDoorW.PrintLast Go.Proofs.YtjaklgikfcahdaaGreatDoorW.PrintMore
attribute [local go_sem] max2_int min2_int max_two min_two max_three min_three max_four min_four   -- for this text's walks alone
set_option linter.unusedVariables false
set_option linter.unusedSimpArgs false

attribute [local go_sem high] eqA98
/-! ### depotref09_Equal: function 40 -/
def depotref09_Equal.l0 : Nat → List (S98) → List (S98) → Int → Option (Bool)
  | 0, _, _, _ => none
  | k + 1, x0, x1, x5 => if x5 < (x0.length : Int) then (if 0 ≤ x5 then (if x5 < (x1.length : Int) then (if (!((((rd_T98 x0 x5).f0).toList) == (((rd_T98 x1 x5).f0).toList)) || (!((((rd_T98 x0 x5).f1).toList) == (((rd_T98 x1 x5).f1).toList)))) = true then (some false) else (depotref09_Equal.l0 k x0 x1 (wrap64 (x5 + 1)))) else (none)) else (none)) else (some true)
def depotref09_Equal.f (k : Nat) (l0 : List (S98)) (l1 : List (S98)) : Option (Bool) := if (l0.length : Int) = (l1.length : Int) then (depotref09_Equal.l0 k l0 l1 0) else (some false)
theorem depotref09_Equal.mono_l : ∀ k, (∀ y0 y1 y2, LeO (depotref09_Equal.l0 k y0 y1 y2) (depotref09_Equal.l0 (k + 1) y0 y1 y2))
  | 0 => fun _ _ _ r h => by simp [depotref09_Equal.l0] at h
  | k + 1 => by
    have ih0 := depotref09_Equal.mono_l k
    · intro y0 y1 y2
      unfold depotref09_Equal.l0
      repeat' first
      | (with_reducible exact ih0 _ _ _)
      | (with_reducible exact LeO.refl _)
      | (with_reducible exact LeO.none _)
      | (with_reducible refine LeO.ite ?_ ?_)
      | (with_reducible refine LeO.bind ?_ (fun _ => ?_))
      | exact ih0 _ _ _
      | exact LeO.none _
      | refine LeO.ite ?_ ?_
      | refine LeO.bind ?_ (fun _ => ?_)
theorem depotref09_Equal.mono : ∀ a0 a1 k, LeO (depotref09_Equal.f k a0 a1) (depotref09_Equal.f (k + 1) a0 a1) := by
  intro a0 a1 k
  have ih0 := depotref09_Equal.mono_l k
  unfold depotref09_Equal.f
  repeat' first
      | (with_reducible exact ih0 _ _ _)
      | (with_reducible exact LeO.refl _)
      | (with_reducible exact LeO.none _)
      | (with_reducible refine LeO.ite ?_ ?_)
      | (with_reducible refine LeO.bind ?_ (fun _ => ?_))
      | exact ih0 _ _ _
      | exact LeO.none _
      | refine LeO.ite ?_ ?_
      | refine LeO.bind ?_ (fun _ => ?_)
set_option maxHeartbeats 8000000 in
set_option maxRecDepth 100000 in
theorem depotref09_Equal.calls (k : Nat) (A0 : Option Addr) (c0 : Nat) (l0 : List (S98)) (A1 : Option Addr) (c1 : Nat) (l1 : List (S98)) (r : Bool) (w : World) (hr0 : Kd.C k98 w A0 l0.length l0) (hc0 : l0.length ≤ c0) (hr1 : Kd.C k98 w A1 l1.length l1) (hc1 : l1.length ≤ c1) (h : depotref09_Equal.f k l0 l1 = some r) :
    Calls Tryz.prog 40 #[.slice A0 l0.length c0, .slice A1 l1.length c1] w fun e w' => e = .returned (.bool r) ∧ Drawn0 w w' := by
  have hu98 := Tryz.underlying98
  have HR0 := Aside0.mk hr0
  have HC0 := Aside0.mk hc0
  clear hr0 hc0
  have HR1 := Aside0.mk hr1
  have HC1 := Aside0.mk hc1
  clear hr1 hc1
  have H : (if (l0.length : Int) = (l1.length : Int) then (depotref09_Equal.l0 k l0 l1 0) else (some false)) = some r := h
  clear h
  by_cases c3 : (l0.length : Int) = (l1.length : Int)
  · rw [if_pos c3] at H
    have c3b0 : ((l0.length : Int) == (l1.length : Int)) = true := beq_iff_eq.mpr c3
    have c3b1 : ((l0.length : Int) != (l1.length : Int)) = false := bne_eq_false_iff_eq.mpr c3
    have c3b2 : (l0.length == l1.length) = true := by first | simpa using c3 | (simp at c3 ⊢; omega)
    clear c3
    have H' := Aside0.mk H
    clear H
    go_enter Tryz.func40, Tryz.ntmps40
    go_wp2
    repeat (go_quiet (fail); try go_wp2)
    go_loopg [5] k (fun kq v5 w' => ∃ (x5_1 : Int), v5 = .int .i64 x5_1 ∧ Aside0 (depotref09_Equal.l0 kq l0 l1 x5_1 = some r) ∧ Aside0 (kq ≤ k) ∧ Drawn0 w w')
    case atStart => exact ⟨(0), (by first | rfl | (simp; done) | (simp [*]; done) | (simp; exact Hand.isEmpty_ne _)), H', ⟨Nat.le_refl _⟩, by repeat (first | exact Drawn0.refl _ | apply Drawn0.step)⟩
    case round =>
      clear H'
      try clear c1
      try clear p2
      try clear c3
      try clear c3b0
      try clear c3b1
      try clear c3b2
      obtain ⟨x5_1, rfl, HA, HK1, ⟨m1, rfl⟩⟩ := hrel
      cases gk with
      | zero => exact absurd HA.out (by simp [depotref09_Equal.l0])
      | succ k1 =>
        have H := HA.out
        clear HA
        simp only [depotref09_Equal.l0] at H
        by_cases c4 : x5_1 < (l0.length : Int)
        · rw [if_pos c4] at H
          have c4b0 : decide (x5_1 < (l0.length : Int)) = true := decide_eq_true c4
          clear c4
          by_cases c5 : 0 ≤ x5_1
          · rw [if_pos c5] at H
            have c5b0 : decide (0 ≤ x5_1) = true := decide_eq_true c5
            clear c5
            by_cases c6 : x5_1 < (l1.length : Int)
            · rw [if_pos c6] at H
              have c6b0 : decide (x5_1 < (l1.length : Int)) = true := decide_eq_true c6
              clear c6
              by_cases c7 : (!((((rd_T98 l0 x5_1).f0).toList) == (((rd_T98 l1 x5_1).f0).toList)) || (!((((rd_T98 l0 x5_1).f1).toList) == (((rd_T98 l1 x5_1).f1).toList)))) = true
              · rw [if_pos c7] at H
                have c7b0 : (!((((rd_T98 l0 x5_1).f0).toList) == (((rd_T98 l1 x5_1).f0).toList)) || (!((((rd_T98 l0 x5_1).f1).toList) == (((rd_T98 l1 x5_1).f1).toList)))) = true := c7
                clear c7
                obtain rfl := Option.some.inj H
                have p299 : 0 ≤ (x5_1 : Int) := of_decide_eq_true (by first | (with_reducible assumption) | assumption)
                have q299 : x5_1 < (l0.length : Int) := of_decide_eq_true (by first | (with_reducible assumption) | assumption)
                obtain ⟨ad299, e299, hx299_0, hx299_1⟩ := at_T98 HR0.out x5_1 p299 q299
                cases e299
                replace p299 := eq_true p299
                replace q299 := eq_true q299
                have p300 : 0 ≤ (x5_1 : Int) := of_decide_eq_true (by first | (with_reducible assumption) | assumption)
                have q300 : x5_1 < (l1.length : Int) := of_decide_eq_true (by first | (with_reducible assumption) | assumption)
                obtain ⟨ad300, e300, hx300_0, hx300_1⟩ := at_T98 HR1.out x5_1 p300 q300
                cases e300
                replace p300 := eq_true p300
                replace q300 := eq_true q300
                go_wp2
                repeat (go_quiet (fail); try go_wp2)
                go_ret
                exact ⟨by first | rfl | (simp; done) | (simp [*]; done) | (simp; exact Hand.isEmpty_ne _), by repeat (first | exact Drawn0.refl _ | apply Drawn0.step)⟩
              · rw [if_neg c7] at H
                have c7b0 : (!((((rd_T98 l0 x5_1).f0).toList) == (((rd_T98 l1 x5_1).f0).toList)) || (!((((rd_T98 l0 x5_1).f1).toList) == (((rd_T98 l1 x5_1).f1).toList)))) = false := by simpa using c7
                clear c7
                have H' := Aside0.mk H
                clear H
                have p299 : 0 ≤ (x5_1 : Int) := of_decide_eq_true (by first | (with_reducible assumption) | assumption)
                have q299 : x5_1 < (l0.length : Int) := of_decide_eq_true (by first | (with_reducible assumption) | assumption)
                obtain ⟨ad299, e299, hx299_0, hx299_1⟩ := at_T98 HR0.out x5_1 p299 q299
                cases e299
                replace p299 := eq_true p299
                replace q299 := eq_true q299
                have p300 : 0 ≤ (x5_1 : Int) := of_decide_eq_true (by first | (with_reducible assumption) | assumption)
                have q300 : x5_1 < (l1.length : Int) := of_decide_eq_true (by first | (with_reducible assumption) | assumption)
                obtain ⟨ad300, e300, hx300_0, hx300_1⟩ := at_T98 HR1.out x5_1 p300 q300
                cases e300
                replace p300 := eq_true p300
                replace q300 := eq_true q300
                go_wp2
                repeat (go_quiet (fail); try go_wp2)
                go_roundg k1
                case measure => have := HK1.out; omega
                case rel => exact ⟨(wrap64 (x5_1 + 1)), (by first | rfl | (simp; done) | (simp [*]; done) | (simp; exact Hand.isEmpty_ne _)), H', ⟨by have := HK1.out; omega⟩, by repeat (first | exact Drawn0.refl _ | apply Drawn0.step)⟩
            · rw [if_neg c6] at H
              exact absurd H (by simp)
          · rw [if_neg c5] at H
            exact absurd H (by simp)
        · rw [if_neg c4] at H
          have c4b0 : decide (x5_1 < (l0.length : Int)) = false := decide_eq_false c4
          clear c4
          obtain rfl := Option.some.inj H
          go_wp2
          repeat (go_quiet (fail); try go_wp2)
          go_ret
          exact ⟨by first | rfl | (simp; done) | (simp [*]; done) | (simp; exact Hand.isEmpty_ne _), by repeat (first | exact Drawn0.refl _ | apply Drawn0.step)⟩
  · rw [if_neg c3] at H
    have c3b0 : ((l0.length : Int) == (l1.length : Int)) = false := beq_eq_false_iff_ne.mpr c3
    have c3b1 : ((l0.length : Int) != (l1.length : Int)) = true := bne_iff_ne.mpr c3
    have c3b2 : (l0.length == l1.length) = false := by first | simpa using c3 | (simp at c3 ⊢; omega)
    obtain rfl := Option.some.inj H
    go_enter Tryz.func40, Tryz.ntmps40
    go_wp2
    repeat (go_quiet (fail); try go_wp2)
    go_ret
    exact ⟨by first | rfl | (simp; done) | (simp [*]; done) | (simp; exact Hand.isEmpty_ne _), by repeat (first | exact Drawn0.refl _ | apply Drawn0.step)⟩

/-! ### depotref12_SameReply: function 14: told by hand -/
theorem cells5p {W : World} {b t : Nat} {v0 v1 v2 v3 v4 : Value} (h : W.heap[b]? = some (.cells #[v0, v1, v2, v3, v4] t (0, 0))) : W.cell? ⟨b, 0, none⟩ = some v0 ∧ W.cell? ⟨b, 1, none⟩ = some v1 ∧ W.cell? ⟨b, 2, none⟩ = some v2 ∧ W.cell? ⟨b, 3, none⟩ = some v3 ∧ W.cell? ⟨b, 4, none⟩ = some v4 := ⟨blk_cell h 0, blk_cell h 1, blk_cell h 2, blk_cell h 3, blk_cell h 4⟩
/-- Are two the very same? Told where all but the fields are. -/
def depotref12_SameReply.f (k : Nat) (a0_0 : Int) (a0_1 : ByteArray) (a0_2 : Int) (l0_3 : List S98) (a0_4 : ByteArray) (a1_0 : Int) (a1_1 : ByteArray) (a1_2 : Int) (l1_3 : List S98) (a1_4 : ByteArray) : Option Bool := if a0_0 = a1_0 ∧ (a0_1.toList == a1_1.toList) = true ∧ a0_2 = a1_2 ∧ (a0_4.toList == a1_4.toList) = true then depotref09_Equal.f k l0_3 l1_3 else none
theorem depotref12_SameReply.mono : ∀ a0_0 a0_1 a0_2 l0_3 a0_4 a1_0 a1_1 a1_2 l1_3 a1_4 k, LeO (depotref12_SameReply.f k a0_0 a0_1 a0_2 l0_3 a0_4 a1_0 a1_1 a1_2 l1_3 a1_4) (depotref12_SameReply.f (k + 1) a0_0 a0_1 a0_2 l0_3 a0_4 a1_0 a1_1 a1_2 l1_3 a1_4) := fun a0_0 a0_1 a0_2 l0_3 a0_4 a1_0 a1_1 a1_2 l1_3 a1_4 k => by
  unfold depotref12_SameReply.f
  exact LeO.ite (depotref09_Equal.mono _ _ k) (LeO.refl _)
set_option maxHeartbeats 1600000 in
set_option maxRecDepth 100000 in
theorem depotref12_SameReply.calls (k : Nat) (a0_0 : Int) (a0_1 : ByteArray) (a0_2 : Int) (A0_3 : Option Addr) (c0_3 : Nat) (l0_3 : List S98) (a0_4 : ByteArray) (a1_0 : Int) (a1_1 : ByteArray) (a1_2 : Int) (A1_3 : Option Addr) (c1_3 : Nat) (l1_3 : List S98) (a1_4 : ByteArray) (r : Bool) (w : World) (hr0_3 : Kd.C k98 w A0_3 l0_3.length l0_3) (hc0_3 : l0_3.length ≤ c0_3) (hr1_3 : Kd.C k98 w A1_3 l1_3.length l1_3) (hc1_3 : l1_3.length ≤ c1_3) (h : depotref12_SameReply.f k a0_0 a0_1 a0_2 l0_3 a0_4 a1_0 a1_1 a1_2 l1_3 a1_4 = some r) :
    Calls Tryz.prog 14 #[.agg #[.int .i64 a0_0, .string a0_1, .int .i64 a0_2, .slice A0_3 l0_3.length c0_3, .string a0_4], .agg #[.int .i64 a1_0, .string a1_1, .int .i64 a1_2, .slice A1_3 l1_3.length c1_3, .string a1_4]] w fun e w' => e = .returned (.bool r) ∧ Below w.heap.size w w' := by
  unfold depotref12_SameReply.f at h
  split at h
  case isFalse => cases h
  case isTrue hh =>
  obtain ⟨h0, h1, h2, h4⟩ := hh
  have h0b : (a0_0 == a1_0) = true := beq_iff_eq.2 h0
  clear h0
  have h2b : (a0_2 == a1_2) = true := beq_iff_eq.2 h2
  clear h2
  have HQ := Aside0.mk h
  have HC0 := Aside0.mk hr0_3
  have HC1 := Aside0.mk hr1_3
  have hX := blk_new w (.cells #[.int .i64 a0_0, .string a0_1, .int .i64 a0_2, .slice A0_3 l0_3.length c0_3, .string a0_4] 34)
  have hB := Hand.alloc_below w (.cells #[.int .i64 a0_0, .string a0_1, .int .i64 a0_2, .slice A0_3 l0_3.length c0_3, .string a0_4] 34)
  clear h hr0_3 hr1_3
  go_enter Tryz.func14, Tryz.ntmps14
  go_upto_region 1 with (fail)
  have X0 := blk_alloc hX (.cells #[.int .i64 a1_0, .string a1_1, .int .i64 a1_2, .slice A1_3 l1_3.length c1_3, .string a1_4] 34)
  have X1 := blk_new (w.alloc (.cells #[.int .i64 a0_0, .string a0_1, .int .i64 a0_2, .slice A0_3 l0_3.length c0_3, .string a0_4] 34)) (.cells #[.int .i64 a1_0, .string a1_1, .int .i64 a1_2, .slice A1_3 l1_3.length c1_3, .string a1_4] 34)
  have HB := Aside0.mk (hB.alloc hB.size (.cells #[.int .i64 a1_0, .string a1_1, .int .i64 a1_2, .slice A1_3 l1_3.length c1_3, .string a1_4] 34))
  rw [show (w.alloc (.cells #[.int .i64 a0_0, .string a0_1, .int .i64 a0_2, .slice A0_3 l0_3.length c0_3, .string a0_4] 34)).heap.size = w.heap.size + 1 by simp] at X1
  clear hX hB
  generalize (w.alloc (.cells #[.int .i64 a0_0, .string a0_1, .int .i64 a0_2, .slice A0_3 l0_3.length c0_3, .string a0_4] 34)).alloc (.cells #[.int .i64 a1_0, .string a1_1, .int .i64 a1_2, .slice A1_3 l1_3.length c1_3, .string a1_4] 34) = W at X0 X1 HB ⊢
  obtain ⟨x0, x1, x2, x3, x4⟩ := cells5p X0
  obtain ⟨y0, y1, y2, y3, y4⟩ := cells5p X1
  clear X0 X1
  go_wp2_with (go_at_call 40; refine (depotref09_Equal.calls k A0_3 c0_3 l0_3 A1_3 c1_3 l1_3 r _ (Kd.C_below HC0.out HB.out) hc0_3 (Kd.C_below HC1.out HB.out) hc1_3 HQ.out).mono ?_; rintro e w2 ⟨rfl, n2, rfl⟩)
  go_ret
  exact ⟨rfl, pw_below_drewN HB.out _⟩

/-! ### depotlaw12_MessageReplies: function 4: told by hand -/
def depotlaw12_MessageReplies.f (k : Nat) (a0 a1 : ByteArray) : Option Bool := if 5000 < a0.size ∨ 5000 < a1.size then depotlaw12_messages.f k else
  (message_ParseReply.f k a0 a1).bind fun a => (depotref12_ParseReply.f k a0 a1).bind fun b => (depotref12_SameReply.f k a.1 a.2.1 a.2.2.1 a.2.2.2.1 a.2.2.2.2.1 b.1 b.2.1 b.2.2.1 b.2.2.2.1 b.2.2.2.2.1).bind fun s => if s = true ∧ a.2.2.2.2.2 = b.2.2.2.2.2 then depotlaw12_messages.f k else some false
set_option maxHeartbeats 1600000 in
set_option maxRecDepth 100000 in
theorem depotlaw12_MessageReplies.calls (k : Nat) (a0 : ByteArray) (a1 : ByteArray) (r : Bool) (w : World) (HTRUE : Aside0 (r = true)) (HT : Aside0 (Hand.Laid w)) (h : depotlaw12_MessageReplies.f k a0 a1 = some r) :
    Calls Tryz.prog 4 #[.string a0, .string a1] w fun e w' => e = .returned (.bool r) ∧ Below w.heap.size w w' := by
  obtain rfl := HTRUE.out
  unfold depotlaw12_MessageReplies.f at h
  by_cases h0 : 5000 < a0.size ∨ 5000 < a1.size
  · rw [if_pos h0] at h
    have HM := Aside0.mk h
    clear h
    by_cases h5 : 5000 < a0.size
    · have c1 : decide (5000 < (a0.size : Int)) = true := decide_eq_true (by omega)
      have c2 : decide (5000 < a0.size) = true := decide_eq_true h5
      clear h0 h5
      go_enter Tryz.func4, Tryz.ntmps4
      go_wp2_with (go_at_call 8; refine (depotlaw12_messages.calls k true _ ⟨rfl⟩ HT HM.out).mono ?_; rintro e w9 ⟨rfl, hb⟩; have HB9 := Aside0.mk (hb); clear hb)
      go_ret
      exact ⟨rfl, HB9.out⟩
    · have h6 : 5000 < a1.size := by omega
      have c1 : decide (5000 < (a0.size : Int)) = false := decide_eq_false (by omega)
      have c2 : decide (5000 < a0.size) = false := decide_eq_false h5
      have c3 : decide (5000 < (a1.size : Int)) = true := decide_eq_true (by omega)
      have c4 : decide (5000 < a1.size) = true := decide_eq_true h6
      clear h0 h5 h6
      go_enter Tryz.func4, Tryz.ntmps4
      go_wp2_with (go_at_call 8; refine (depotlaw12_messages.calls k true _ ⟨rfl⟩ HT HM.out).mono ?_; rintro e w9 ⟨rfl, hb⟩; have HB9 := Aside0.mk (hb); clear hb)
      go_ret
      exact ⟨rfl, HB9.out⟩
  rw [if_neg h0] at h
  have c1 : decide (5000 < (a0.size : Int)) = false := decide_eq_false (by omega)
  have c2 : decide (5000 < a0.size) = false := decide_eq_false (by omega)
  have c3 : decide (5000 < (a1.size : Int)) = false := decide_eq_false (by omega)
  have c4 : decide (5000 < a1.size) = false := decide_eq_false (by omega)
  clear h0
  obtain ⟨⟨p1, p2, p3, p4, p5, p6⟩, hp, h⟩ := Option.bind_eq_some_iff.1 h
  obtain ⟨⟨q1, q2, q3, q4, q5, q6⟩, hq, h⟩ := Option.bind_eq_some_iff.1 h
  obtain ⟨s, hs, h⟩ := Option.bind_eq_some_iff.1 h
  simp only at h
  split at h
  case isFalse => cases h
  case isTrue hh =>
  have HM := Aside0.mk h
  clear h
  obtain ⟨rfl, rfl⟩ := hh
  have HP := Aside0.mk hp
  have HQ := Aside0.mk hq
  have HS := Aside0.mk hs
  clear hp hq hs
  go_enter Tryz.func4, Tryz.ntmps4
  go_upto_region 4 with (go_at_call 12; refine (message_ParseReply.calls k a0 a1 p1 p2 p3 p4 p5 p6 _ HT HP.out).mono ?_; rintro e w1 ⟨v, rfl, hv, hb⟩; obtain ⟨Ap, cp, rfl, hlp, hC⟩ := Kd.R_reads hv; have HK1 := Aside0.mk hC; have HB1 := Aside0.mk hb; clear hv hC hb HP)
  have hb := Hand.alloc_below w1 (.cells #[.int .i64 p1, .string p2, .int .i64 p3, .slice Ap p4.length cp, .string p5] 34)
  have HB2 := Aside0.mk (below_step HB1.out hb)
  have HK2 := Aside0.mk (Kd.C_below HK1.out hb)
  have HX2 := Aside0.mk (blk_new w1 (.cells #[.int .i64 p1, .string p2, .int .i64 p3, .slice Ap p4.length cp, .string p5] 34))
  clear hb HB1 HK1
  generalize w1.alloc (.cells #[.int .i64 p1, .string p2, .int .i64 p3, .slice Ap p4.length cp, .string p5] 34) = w2 at HB2 HK2 HX2 ⊢
  generalize w1.heap.size = bp at HX2 ⊢
  go_upto_region 5 with (go_at_call 13; refine (depotref12_ParseReply.calls k a0 a1 q1 q2 q3 q4 q5 p6 _ HQ.out).mono ?_; rintro e w3 ⟨v, rfl, hv, hb⟩; obtain ⟨Aq, cq, rfl, hlq, hC⟩ := Kd.R_reads hv; have HL3 := Aside0.mk hC; have HB3 := Aside0.mk (below_step HB2.out hb); have HK3 := Aside0.mk (Kd.C_below HK2.out hb); have HX3 := Aside0.mk (blk_below HX2.out hb); clear hv hC hb HQ HB2 HK2 HX2)
  have hb := Hand.alloc_below w3 (.cells #[.int .i64 q1, .string q2, .int .i64 q3, .slice Aq q4.length cq, .string q5] 34)
  have HB4 := Aside0.mk (below_step HB3.out hb)
  have HK4 := Aside0.mk (Kd.C_below HK3.out hb)
  have HL4 := Aside0.mk (Kd.C_below HL3.out hb)
  have HX4 := Aside0.mk (blk_below HX3.out hb)
  have HY4 := Aside0.mk (blk_new w3 (.cells #[.int .i64 q1, .string q2, .int .i64 q3, .slice Aq q4.length cq, .string q5] 34))
  clear hb HB3 HK3 HL3 HX3
  generalize w3.alloc (.cells #[.int .i64 q1, .string q2, .int .i64 q3, .slice Aq q4.length cq, .string q5] 34) = w4 at HB4 HK4 HL4 HX4 HY4 ⊢
  generalize w3.heap.size = bq at HY4 ⊢
  obtain ⟨x0, x1, x2, x3, x4⟩ := cells5z HX4.out
  obtain ⟨y0, y1, y2, y3, y4⟩ := cells5z HY4.out
  have e6 : (p6 == p6) = true := beq_iff_eq.2 rfl
  clear HX4 HY4
  go_wp2_with (first | (go_at_call 14; refine (depotref12_SameReply.calls k p1 p2 p3 Ap cp p4 p5 q1 q2 q3 Aq cq q4 q5 true _ HK4.out hlp HL4.out hlq HS.out).mono ?_; rintro e w5 ⟨rfl, hb⟩; have HB5 := Aside0.mk (below_step HB4.out hb); clear hb HS HB4) | (go_at_call 8; refine (depotlaw12_messages.calls k true _ ⟨rfl⟩ ⟨HT.out.below HB5.out⟩ HM.out).mono ?_; rintro e w9 ⟨rfl, hb⟩; have HB9 := Aside0.mk (below_step HB5.out hb); clear hb))
  go_ret
  exact ⟨rfl, HB9.out⟩

end Go.Proofs.YtjaklgikfcahdaaGreatDoor.PV
