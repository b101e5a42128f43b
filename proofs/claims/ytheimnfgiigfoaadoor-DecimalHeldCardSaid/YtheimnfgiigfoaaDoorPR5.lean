-- Out of the translation, by a program of this session: each function that a law comes to as a Lean function, and that the machine's call does what it says. Lean checks it.
import Derived.Test.YtheimnfgiigfoaaDoorPR0
import Derived.Test.YtheimnfgiigfoaaDoorPR1
import Derived.Test.YtheimnfgiigfoaaDoorPR2
import Derived.Test.YtheimnfgiigfoaaDoorPR4
namespace Go.Proofs.YtheimnfgiigfoaaDoor.PR
open Go.RowKit Go.Proofs.YtheimnfgiigfoaaDoorW.PrintWords Go.Proofs.YtheimnfgiigfoaaDoorW.PrintLast Go.Proofs.YtheimnfgiigfoaaDoorW.PrintMore
attribute [local go_sem] max2_int min2_int max_two min_two max_three min_three max_four min_four   -- for this text's walks alone
set_option linter.unusedVariables false
set_option linter.unusedSimpArgs false

/-! ### depotlaw02_DecimalWrites: function 3 -/
def depotlaw02_DecimalWrites.f (k : Nat) (a0 : Int) (a1 : Int) : Option (Bool) := (decimal_Plain.f a0).bind fun t142 => ((depotref02_Plain.f k a0).bind fun t143 => (if t142.toList = t143.toList then ((decimal_Pad.f a0 a1).bind fun t144 => ((depotref02_Pad.f k a0 a1).bind fun t145 => (if t144.toList = t145.toList then ((decimal_Hex.f k a0).bind fun t146 => ((depotref02_Hex.f k a0).bind fun t147 => (if t146.toList = t147.toList then ((depotlaw02_counts.f k).bind fun t148 => (some t148)) else (some false)))) else (some false)))) else (some false)))
theorem depotlaw02_DecimalWrites.mono : ∀ a0 a1 k, LeO (depotlaw02_DecimalWrites.f k a0 a1) (depotlaw02_DecimalWrites.f (k + 1) a0 a1) := by
  intro a0 a1 k
  unfold depotlaw02_DecimalWrites.f
  repeat' first
      | (with_reducible exact decimal_Hex.mono _ _)
      | (with_reducible exact depotlaw02_counts.mono _)
      | (with_reducible exact depotref02_Hex.mono _ _)
      | (with_reducible exact depotref02_Pad.mono _ _ _)
      | (with_reducible exact depotref02_Plain.mono _ _)
      | (with_reducible exact LeO.refl _)
      | (with_reducible exact LeO.none _)
      | (with_reducible refine LeO.ite ?_ ?_)
      | (with_reducible refine LeO.bind ?_ (fun _ => ?_))
      | exact decimal_Hex.mono _ _
      | exact depotlaw02_counts.mono _
      | exact depotref02_Hex.mono _ _
      | exact depotref02_Pad.mono _ _ _
      | exact depotref02_Plain.mono _ _
      | exact LeO.none _
      | refine LeO.ite ?_ ?_
      | refine LeO.bind ?_ (fun _ => ?_)
set_option maxHeartbeats 8000000 in
set_option maxRecDepth 100000 in
theorem depotlaw02_DecimalWrites.calls (k : Nat) (a0 : Int) (a1 : Int) (r : Bool) (w : World) (HTRUE : Aside0 (r = true)) (HT : Aside0 (Hand.Laid w)) (h : depotlaw02_DecimalWrites.f k a0 a1 = some r) :
    Calls Tryd.prog 3 #[.int .i64 a0, .int .i64 a1] w fun e w' => e = .returned (.bool r) ∧ Below w.heap.size w w' := by
  have HB := Aside0.mk (Below.refl w.heap.size w)
  have H : ((decimal_Plain.f a0).bind fun t142 => ((depotref02_Plain.f k a0).bind fun t143 => (if t142.toList = t143.toList then ((decimal_Pad.f a0 a1).bind fun t144 => ((depotref02_Pad.f k a0 a1).bind fun t145 => (if t144.toList = t145.toList then ((decimal_Hex.f k a0).bind fun t146 => ((depotref02_Hex.f k a0).bind fun t147 => (if t146.toList = t147.toList then ((depotlaw02_counts.f k).bind fun t148 => (some t148)) else (some false)))) else (some false)))) else (some false)))) = some r := h
  clear h
  replace H := Option.bind_eq_some_iff.mp H
  obtain ⟨t142, A30, H⟩ := H
  replace H : ((depotref02_Plain.f k a0).bind fun t143 => (if t142.toList = t143.toList then ((decimal_Pad.f a0 a1).bind fun t144 => ((depotref02_Pad.f k a0 a1).bind fun t145 => (if t144.toList = t145.toList then ((decimal_Hex.f k a0).bind fun t146 => ((depotref02_Hex.f k a0).bind fun t147 => (if t146.toList = t147.toList then ((depotlaw02_counts.f k).bind fun t148 => (some t148)) else (some false)))) else (some false)))) else (some false))) = some r := H
  have A3 := Aside0.mk A30
  clear A30
  replace H := Option.bind_eq_some_iff.mp H
  obtain ⟨t143, A40, H⟩ := H
  replace H : (if t142.toList = t143.toList then ((decimal_Pad.f a0 a1).bind fun t144 => ((depotref02_Pad.f k a0 a1).bind fun t145 => (if t144.toList = t145.toList then ((decimal_Hex.f k a0).bind fun t146 => ((depotref02_Hex.f k a0).bind fun t147 => (if t146.toList = t147.toList then ((depotlaw02_counts.f k).bind fun t148 => (some t148)) else (some false)))) else (some false)))) else (some false)) = some r := H
  have A4 := Aside0.mk A40
  clear A40
  by_cases c5 : t142.toList = t143.toList
  · rw [if_pos c5] at H
    have c5b0 : (t142.toList == t143.toList) = true := beq_iff_eq.mpr c5
    have c5b1 : (t142.toList != t143.toList) = false := bne_eq_false_iff_eq.mpr c5
    clear c5
    replace H := Option.bind_eq_some_iff.mp H
    obtain ⟨t144, A60, H⟩ := H
    replace H : ((depotref02_Pad.f k a0 a1).bind fun t145 => (if t144.toList = t145.toList then ((decimal_Hex.f k a0).bind fun t146 => ((depotref02_Hex.f k a0).bind fun t147 => (if t146.toList = t147.toList then ((depotlaw02_counts.f k).bind fun t148 => (some t148)) else (some false)))) else (some false))) = some r := H
    have A6 := Aside0.mk A60
    clear A60
    replace H := Option.bind_eq_some_iff.mp H
    obtain ⟨t145, A70, H⟩ := H
    replace H : (if t144.toList = t145.toList then ((decimal_Hex.f k a0).bind fun t146 => ((depotref02_Hex.f k a0).bind fun t147 => (if t146.toList = t147.toList then ((depotlaw02_counts.f k).bind fun t148 => (some t148)) else (some false)))) else (some false)) = some r := H
    have A7 := Aside0.mk A70
    clear A70
    by_cases c8 : t144.toList = t145.toList
    · rw [if_pos c8] at H
      have c8b0 : (t144.toList == t145.toList) = true := beq_iff_eq.mpr c8
      have c8b1 : (t144.toList != t145.toList) = false := bne_eq_false_iff_eq.mpr c8
      clear c8
      replace H := Option.bind_eq_some_iff.mp H
      obtain ⟨t146, A90, H⟩ := H
      replace H : ((depotref02_Hex.f k a0).bind fun t147 => (if t146.toList = t147.toList then ((depotlaw02_counts.f k).bind fun t148 => (some t148)) else (some false))) = some r := H
      have A9 := Aside0.mk A90
      clear A90
      replace H := Option.bind_eq_some_iff.mp H
      obtain ⟨t147, A100, H⟩ := H
      replace H : (if t146.toList = t147.toList then ((depotlaw02_counts.f k).bind fun t148 => (some t148)) else (some false)) = some r := H
      have A10 := Aside0.mk A100
      clear A100
      by_cases c11 : t146.toList = t147.toList
      · rw [if_pos c11] at H
        have c11b0 : (t146.toList == t147.toList) = true := beq_iff_eq.mpr c11
        have c11b1 : (t146.toList != t147.toList) = false := bne_eq_false_iff_eq.mpr c11
        clear c11
        replace H := Option.bind_eq_some_iff.mp H
        obtain ⟨t148, A120, H⟩ := H
        replace H : (some t148) = some r := H
        have A12 := Aside0.mk A120
        clear A120
        obtain rfl := Option.some.inj H
        go_enter Tryd.func3, Tryd.ntmps3
        go_wp2_with (first | ((with_reducible refine gate_callee (f := 8) rfl ?_); refine goesL_ (some 6) rfl rfl Tryd.func8 (by kernel_rfl) rfl #[.int .i64 a0] rfl (by (try simp only [List.map_toArray, List.map_cons, List.map_nil]); first | done | rfl | (simp only [List.length_drop, List.length_take]; rfl)) ?_; (with_reducible refine (decimal_Plain.calls a0 t142 _ ?side1 A3.out).mono ?_); (case side1 => first | exact HT | exact ⟨Hand.Laid.below HT.out (by repeat (first | (with_reducible first | exact HB.out | apply below_alloc | apply pw_below_drewN | apply below_drew1) | exact HB.out))⟩); rintro e w13 ⟨rfl, hb⟩; refine ⟨_, rfl, ?_⟩; have n0_ := Aside0.mk (below_step (by repeat (first | (with_reducible first | exact HB.out | apply below_alloc | apply pw_below_drewN | apply below_drew1) | exact HB.out)) hb); clear HB; have HB := n0_; clear n0_; (try clear hb); (try clear hb2); (try clear hk); (try clear hi)) | ((with_reducible refine gate_callee (f := 9) rfl ?_); refine goesL_ (some 8) rfl rfl Tryd.func9 (by kernel_rfl) rfl #[.int .i64 a0] rfl (by (try simp only [List.map_toArray, List.map_cons, List.map_nil]); first | done | rfl | (simp only [List.length_drop, List.length_take]; rfl)) ?_; (with_reducible refine (depotref02_Plain.calls k a0 t143 _ A4.out).mono ?_); rintro e w' ⟨rfl, ⟨nd, rfl⟩⟩; refine ⟨_, rfl, ?_⟩) | (go_at_call 10; (with_reducible refine (decimal_Pad.calls a0 a1 t144 _ ?side1 A6.out).mono ?_); (case side1 => first | exact HT | exact ⟨Hand.Laid.below HT.out (by repeat (first | (with_reducible first | exact HB.out | apply below_alloc | apply pw_below_drewN | apply below_drew1) | exact HB.out))⟩); rintro e w14 ⟨rfl, hb⟩; have n0_ := Aside0.mk (below_step (by repeat (first | (with_reducible first | exact HB.out | apply below_alloc | apply pw_below_drewN | apply below_drew1) | exact HB.out)) hb); clear HB; have HB := n0_; clear n0_; (try clear hb); (try clear hb2); (try clear hk); (try clear hi)) | (go_at_call 11; (with_reducible refine (depotref02_Pad.calls k a0 a1 t145 _ A7.out).mono ?_); rintro e w' ⟨rfl, ⟨nd, rfl⟩⟩) | (go_at_call 12; (with_reducible refine (decimal_Hex.calls k a0 t146 _ A9.out).mono ?_); rintro e w15 ⟨rfl, hb⟩; have n0_ := Aside0.mk (below_step (by repeat (first | (with_reducible first | exact HB.out | apply below_alloc | apply pw_below_drewN | apply below_drew1) | exact HB.out)) hb); clear HB; have HB := n0_; clear n0_; (try clear hb); (try clear hb2); (try clear hk); (try clear hi)) | (go_at_call 13; (with_reducible refine (depotref02_Hex.calls k a0 t147 _ A10.out).mono ?_); rintro e w' ⟨rfl, ⟨nd, rfl⟩⟩) | (go_at_call 14; (with_reducible refine (depotlaw02_counts.calls k  t148 _ ?side2 ?side1 A12.out).mono ?_); (case side1 => first | exact HT | exact ⟨Hand.Laid.below HT.out (by repeat (first | (with_reducible first | exact HB.out | apply below_alloc | apply pw_below_drewN | apply below_drew1) | exact HB.out))⟩); (case side2 => first | exact ⟨rfl⟩ | exact HTRUE); rintro e w16 ⟨rfl, hb⟩; have n0_ := Aside0.mk (below_step (by repeat (first | (with_reducible first | exact HB.out | apply below_alloc | apply pw_below_drewN | apply below_drew1) | exact HB.out)) hb); clear HB; have HB := n0_; clear n0_; (try clear hb); (try clear hb2); (try clear hk); (try clear hi)))
        go_ret
        exact ⟨by first | rfl | (simp [errW_none, errW_some] <;> rfl) | (simp [*, errW_none, errW_some] <;> rfl), by repeat (first | (with_reducible first | exact HB.out | apply below_alloc | apply pw_below_drewN | apply below_drew1) | exact HB.out)⟩
      · rw [if_neg c11] at H
        have c11b0 : (t146.toList == t147.toList) = false := beq_eq_false_iff_ne.mpr c11
        have c11b1 : (t146.toList != t147.toList) = true := bne_iff_ne.mpr c11
        obtain rfl := Option.some.inj H
        exact absurd HTRUE.out (by decide)
    · rw [if_neg c8] at H
      have c8b0 : (t144.toList == t145.toList) = false := beq_eq_false_iff_ne.mpr c8
      have c8b1 : (t144.toList != t145.toList) = true := bne_iff_ne.mpr c8
      obtain rfl := Option.some.inj H
      exact absurd HTRUE.out (by decide)
  · rw [if_neg c5] at H
    have c5b0 : (t142.toList == t143.toList) = false := beq_eq_false_iff_ne.mpr c5
    have c5b1 : (t142.toList != t143.toList) = true := bne_iff_ne.mpr c5
    obtain rfl := Option.some.inj H
    exact absurd HTRUE.out (by decide)

/-! ### depotref01_Hex: function 42 -/
def depotref01_Hex.l0 : Nat → Int → ByteArray → ByteArray → Int → Option (Int × Bool)
  | 0, _, _, _, _ => none
  | k + 1, x0, x4, x5, x6 => if x6 < 16 then (if 0 ≤ x6 then (if x6 < (x4.size : Int) then (if (bt x4 x6) = x0 then (some (x6, true)) else (if x6 < (x5.size : Int) then (if (bt x5 x6) = x0 then (some (x6, true)) else (depotref01_Hex.l0 k x0 x4 x5 (wrap64 (x6 + 1)))) else (none))) else (none)) else (none)) else (some (0, false))
def depotref01_Hex.f (k : Nat) (a0 : Int) : Option (Int × Bool) := depotref01_Hex.l0 k a0 (⟨#[48, 49, 50, 51, 52, 53, 54, 55, 56, 57, 97, 98, 99, 100, 101, 102]⟩ : ByteArray) (⟨#[48, 49, 50, 51, 52, 53, 54, 55, 56, 57, 65, 66, 67, 68, 69, 70]⟩ : ByteArray) 0
theorem depotref01_Hex.mono_l : ∀ k, (∀ y0 y1 y2 y3, LeO (depotref01_Hex.l0 k y0 y1 y2 y3) (depotref01_Hex.l0 (k + 1) y0 y1 y2 y3))
  | 0 => fun _ _ _ _ r h => by simp [depotref01_Hex.l0] at h
  | k + 1 => by
    have ih0 := depotref01_Hex.mono_l k
    · intro y0 y1 y2 y3
      unfold depotref01_Hex.l0
      repeat' first
      | (with_reducible exact ih0 _ _ _ _)
      | (with_reducible exact LeO.refl _)
      | (with_reducible exact LeO.none _)
      | (with_reducible refine LeO.ite ?_ ?_)
      | (with_reducible refine LeO.bind ?_ (fun _ => ?_))
      | exact ih0 _ _ _ _
      | exact LeO.none _
      | refine LeO.ite ?_ ?_
      | refine LeO.bind ?_ (fun _ => ?_)
theorem depotref01_Hex.mono : ∀ a0 k, LeO (depotref01_Hex.f k a0) (depotref01_Hex.f (k + 1) a0) := by
  intro a0 k
  have ih0 := depotref01_Hex.mono_l k
  unfold depotref01_Hex.f
  repeat' first
      | (with_reducible exact ih0 _ _ _ _)
      | (with_reducible exact LeO.refl _)
      | (with_reducible exact LeO.none _)
      | (with_reducible refine LeO.ite ?_ ?_)
      | (with_reducible refine LeO.bind ?_ (fun _ => ?_))
      | exact ih0 _ _ _ _
      | exact LeO.none _
      | refine LeO.ite ?_ ?_
      | refine LeO.bind ?_ (fun _ => ?_)
set_option maxHeartbeats 8000000 in
set_option maxRecDepth 100000 in
theorem depotref01_Hex.calls (k : Nat) (a0 : Int) (r1 : Int) (r2 : Bool) (w : World) (h : depotref01_Hex.f k a0 = some (r1, r2)) :
    Calls Tryd.prog 42 #[.int .u8 a0] w fun e w' => e = .returned (.tuple #[.int .i64 r1, .bool r2]) ∧ Drawn0 w w' := by
  have H : (depotref01_Hex.l0 k a0 (⟨#[48, 49, 50, 51, 52, 53, 54, 55, 56, 57, 97, 98, 99, 100, 101, 102]⟩ : ByteArray) (⟨#[48, 49, 50, 51, 52, 53, 54, 55, 56, 57, 65, 66, 67, 68, 69, 70]⟩ : ByteArray) 0) = some (r1, r2) := h
  clear h
  have H' := Aside0.mk H
  clear H
  go_enter Tryd.func42, Tryd.ntmps42
  go_wp2
  go_loopg [6] k (fun kq v6 w' => ∃ (x6_1 : Int), v6 = .int .i64 x6_1 ∧ Aside0 (depotref01_Hex.l0 kq a0 (⟨#[48, 49, 50, 51, 52, 53, 54, 55, 56, 57, 97, 98, 99, 100, 101, 102]⟩ : ByteArray) (⟨#[48, 49, 50, 51, 52, 53, 54, 55, 56, 57, 65, 66, 67, 68, 69, 70]⟩ : ByteArray) x6_1 = some (r1, r2)) ∧ Aside0 (kq ≤ k) ∧ Drawn0 w w')
  case atStart => exact ⟨(0), (by first | rfl | (simp; done) | (simp [*]; done)), H', ⟨Nat.le_refl _⟩, by repeat (first | exact Drawn0.refl _ | apply Drawn0.step)⟩
  case round =>
    clear H'
    obtain ⟨x6_1, rfl, HA, HK1, ⟨m1, rfl⟩⟩ := hrel
    cases gk with
    | zero => exact absurd HA.out (by simp [depotref01_Hex.l0])
    | succ k1 =>
      have H := HA.out
      clear HA
      simp only [depotref01_Hex.l0] at H
      by_cases c2 : x6_1 < 16
      · rw [if_pos c2] at H
        have c2b0 : decide (x6_1 < 16) = true := decide_eq_true c2
        clear c2
        by_cases c3 : 0 ≤ x6_1
        · rw [if_pos c3] at H
          have c3b0 : decide (0 ≤ x6_1) = true := decide_eq_true c3
          clear c3
          by_cases c4 : x6_1 < ((⟨#[48, 49, 50, 51, 52, 53, 54, 55, 56, 57, 97, 98, 99, 100, 101, 102]⟩ : ByteArray).size : Int)
          · rw [if_pos c4] at H
            have c4b0 : decide (x6_1 < ((⟨#[48, 49, 50, 51, 52, 53, 54, 55, 56, 57, 97, 98, 99, 100, 101, 102]⟩ : ByteArray).size : Int)) = true := decide_eq_true c4
            (try (have c4b30 : (x6_1 < 16) = True := eq_true c4))
            (try (have c4b31 : decide (x6_1 < 16) = true := decide_eq_true c4))
            clear c4
            by_cases c6 : (bt (⟨#[48, 49, 50, 51, 52, 53, 54, 55, 56, 57, 97, 98, 99, 100, 101, 102]⟩ : ByteArray) x6_1) = a0
            · rw [if_pos c6] at H
              have c6b0 : ((bt (⟨#[48, 49, 50, 51, 52, 53, 54, 55, 56, 57, 97, 98, 99, 100, 101, 102]⟩ : ByteArray) x6_1) == a0) = true := beq_iff_eq.mpr c6
              have c6b1 : ((bt (⟨#[48, 49, 50, 51, 52, 53, 54, 55, 56, 57, 97, 98, 99, 100, 101, 102]⟩ : ByteArray) x6_1) != a0) = false := bne_eq_false_iff_eq.mpr c6
              clear c6
              simp only [Option.some.injEq, Prod.mk.injEq] at H
              obtain ⟨rfl, rfl⟩ := H
              have p5 : 0 ≤ (x6_1 : Int) := of_decide_eq_true (by first | (with_reducible assumption) | assumption)
              have q5 : x6_1 < (16 : Int) := of_decide_eq_true (by first | (with_reducible assumption) | assumption)
              have hx5 := bt_at (⟨#[48, 49, 50, 51, 52, 53, 54, 55, 56, 57, 97, 98, 99, 100, 101, 102]⟩ : ByteArray) x6_1
              replace p5 := eq_true p5
              replace q5 := eq_true q5
              go_wp2
              go_ret2
              exact ⟨by first | rfl | (simp; done) | (simp [*]; done), by repeat (first | exact Drawn0.refl _ | apply Drawn0.step)⟩
            · rw [if_neg c6] at H
              have c6b0 : ((bt (⟨#[48, 49, 50, 51, 52, 53, 54, 55, 56, 57, 97, 98, 99, 100, 101, 102]⟩ : ByteArray) x6_1) == a0) = false := beq_eq_false_iff_ne.mpr c6
              have c6b1 : ((bt (⟨#[48, 49, 50, 51, 52, 53, 54, 55, 56, 57, 97, 98, 99, 100, 101, 102]⟩ : ByteArray) x6_1) != a0) = true := bne_iff_ne.mpr c6
              by_cases c7 : x6_1 < ((⟨#[48, 49, 50, 51, 52, 53, 54, 55, 56, 57, 65, 66, 67, 68, 69, 70]⟩ : ByteArray).size : Int)
              · rw [if_pos c7] at H
                have c7b0 : decide (x6_1 < ((⟨#[48, 49, 50, 51, 52, 53, 54, 55, 56, 57, 65, 66, 67, 68, 69, 70]⟩ : ByteArray).size : Int)) = true := decide_eq_true c7
                (try (have c7b30 : (x6_1 < 16) = True := eq_true c7))
                (try (have c7b31 : decide (x6_1 < 16) = true := decide_eq_true c7))
                clear c7
                by_cases c9 : (bt (⟨#[48, 49, 50, 51, 52, 53, 54, 55, 56, 57, 65, 66, 67, 68, 69, 70]⟩ : ByteArray) x6_1) = a0
                · rw [if_pos c9] at H
                  have c9b0 : ((bt (⟨#[48, 49, 50, 51, 52, 53, 54, 55, 56, 57, 65, 66, 67, 68, 69, 70]⟩ : ByteArray) x6_1) == a0) = true := beq_iff_eq.mpr c9
                  have c9b1 : ((bt (⟨#[48, 49, 50, 51, 52, 53, 54, 55, 56, 57, 65, 66, 67, 68, 69, 70]⟩ : ByteArray) x6_1) != a0) = false := bne_eq_false_iff_eq.mpr c9
                  clear c9
                  simp only [Option.some.injEq, Prod.mk.injEq] at H
                  obtain ⟨rfl, rfl⟩ := H
                  have p5 : 0 ≤ (x6_1 : Int) := of_decide_eq_true (by first | (with_reducible assumption) | assumption)
                  have q5 : x6_1 < (16 : Int) := of_decide_eq_true (by first | (with_reducible assumption) | assumption)
                  have hx5 := bt_at (⟨#[48, 49, 50, 51, 52, 53, 54, 55, 56, 57, 97, 98, 99, 100, 101, 102]⟩ : ByteArray) x6_1
                  replace p5 := eq_true p5
                  replace q5 := eq_true q5
                  have p8 : 0 ≤ (x6_1 : Int) := of_decide_eq_true (by first | (with_reducible assumption) | assumption)
                  have q8 : x6_1 < (16 : Int) := of_decide_eq_true (by first | (with_reducible assumption) | assumption)
                  have hx8 := bt_at (⟨#[48, 49, 50, 51, 52, 53, 54, 55, 56, 57, 65, 66, 67, 68, 69, 70]⟩ : ByteArray) x6_1
                  replace p8 := eq_true p8
                  replace q8 := eq_true q8
                  go_wp2
                  go_ret2
                  exact ⟨by first | rfl | (simp; done) | (simp [*]; done), by repeat (first | exact Drawn0.refl _ | apply Drawn0.step)⟩
                · rw [if_neg c9] at H
                  have c9b0 : ((bt (⟨#[48, 49, 50, 51, 52, 53, 54, 55, 56, 57, 65, 66, 67, 68, 69, 70]⟩ : ByteArray) x6_1) == a0) = false := beq_eq_false_iff_ne.mpr c9
                  have c9b1 : ((bt (⟨#[48, 49, 50, 51, 52, 53, 54, 55, 56, 57, 65, 66, 67, 68, 69, 70]⟩ : ByteArray) x6_1) != a0) = true := bne_iff_ne.mpr c9
                  have H' := Aside0.mk H
                  clear H
                  have p5 : 0 ≤ (x6_1 : Int) := of_decide_eq_true (by first | (with_reducible assumption) | assumption)
                  have q5 : x6_1 < (16 : Int) := of_decide_eq_true (by first | (with_reducible assumption) | assumption)
                  have hx5 := bt_at (⟨#[48, 49, 50, 51, 52, 53, 54, 55, 56, 57, 97, 98, 99, 100, 101, 102]⟩ : ByteArray) x6_1
                  replace p5 := eq_true p5
                  replace q5 := eq_true q5
                  have p8 : 0 ≤ (x6_1 : Int) := of_decide_eq_true (by first | (with_reducible assumption) | assumption)
                  have q8 : x6_1 < (16 : Int) := of_decide_eq_true (by first | (with_reducible assumption) | assumption)
                  have hx8 := bt_at (⟨#[48, 49, 50, 51, 52, 53, 54, 55, 56, 57, 65, 66, 67, 68, 69, 70]⟩ : ByteArray) x6_1
                  replace p8 := eq_true p8
                  replace q8 := eq_true q8
                  go_wp2
                  go_roundg k1
                  case measure => have := HK1.out; omega
                  case rel => exact ⟨(wrap64 (x6_1 + 1)), (by first | rfl | (simp; done) | (simp [*]; done)), H', ⟨by have := HK1.out; omega⟩, by repeat (first | exact Drawn0.refl _ | apply Drawn0.step)⟩
              · rw [if_neg c7] at H
                exact absurd H (by simp)
          · rw [if_neg c4] at H
            exact absurd H (by simp)
        · rw [if_neg c3] at H
          exact absurd H (by simp)
      · rw [if_neg c2] at H
        have c2b0 : decide (x6_1 < 16) = false := decide_eq_false c2
        clear c2
        simp only [Option.some.injEq, Prod.mk.injEq] at H
        obtain ⟨rfl, rfl⟩ := H
        go_wp2
        go_ret2
        exact ⟨by first | rfl | (simp; done) | (simp [*]; done), by repeat (first | exact Drawn0.refl _ | apply Drawn0.step)⟩

end Go.Proofs.YtheimnfgiigfoaaDoor.PR
