-- Out of the translation, by a program of this session: each function that a law comes to as a Lean function, and that the machine's call does what it says. Lean checks it.
import Derived.Test.YtheimnfgiigfoaaDoorPR0
import Derived.Test.YtheimnfgiigfoaaDoorPR3
import Derived.Test.YtheimnfgiigfoaaDoorPR4
import Derived.Test.YtheimnfgiigfoaaDoorPR6
namespace Go.Proofs.YtheimnfgiigfoaaDoor.PR
open Go.RowKit Go.Proofs.YtheimnfgiigfoaaDoorW.PrintWords Go.Proofs.YtheimnfgiigfoaaDoorW.PrintLast Go.Proofs.YtheimnfgiigfoaaDoorW.PrintMore
attribute [local go_sem] max2_int min2_int max_two min_two max_three min_three max_four min_four   -- for this text's walks alone
set_option linter.unusedVariables false
set_option linter.unusedSimpArgs false

/-! ### depotref02_Seconds: function 20 -/
def depotref02_Seconds.l0 : Nat → ByteArray → Int → Int → Option (Int × Bool)
  | 0, _, _, _ => none
  | k + 1, x0, x4, x5 => if x5 < (x0.size : Int) then (if 0 ≤ x5 then ((depotref01_Digit.f k (bt x0 x5)).bind fun t157 => (if t157 = true then (depotref02_Seconds.l0 k x0 (mn (wrap64 ((wrap64 (x4 * 10)) + (((bt x0 x5) - 48) % 256))) 2147483648) (wrap64 (x5 + 1))) else (some (0, false)))) else (none)) else (some (x4, decide ((x0.size : Int) > 0)))
def depotref02_Seconds.f (k : Nat) (a0 : ByteArray) : Option (Int × Bool) := depotref02_Seconds.l0 k a0 0 0
theorem depotref02_Seconds.mono_l : ∀ k, (∀ y0 y1 y2, LeO (depotref02_Seconds.l0 k y0 y1 y2) (depotref02_Seconds.l0 (k + 1) y0 y1 y2))
  | 0 => fun _ _ _ r h => by simp [depotref02_Seconds.l0] at h
  | k + 1 => by
    have ih0 := depotref02_Seconds.mono_l k
    · intro y0 y1 y2
      unfold depotref02_Seconds.l0
      repeat' first
      | (with_reducible exact ih0 _ _ _)
      | (with_reducible exact depotref01_Digit.mono _ _)
      | (with_reducible exact LeO.refl _)
      | (with_reducible exact LeO.none _)
      | (with_reducible refine LeO.ite ?_ ?_)
      | (with_reducible refine LeO.bind ?_ (fun _ => ?_))
      | exact ih0 _ _ _
      | exact depotref01_Digit.mono _ _
      | exact LeO.none _
      | refine LeO.ite ?_ ?_
      | refine LeO.bind ?_ (fun _ => ?_)
theorem depotref02_Seconds.mono : ∀ a0 k, LeO (depotref02_Seconds.f k a0) (depotref02_Seconds.f (k + 1) a0) := by
  intro a0 k
  have ih0 := depotref02_Seconds.mono_l k
  unfold depotref02_Seconds.f
  repeat' first
      | (with_reducible exact ih0 _ _ _)
      | (with_reducible exact depotref01_Digit.mono _ _)
      | (with_reducible exact LeO.refl _)
      | (with_reducible exact LeO.none _)
      | (with_reducible refine LeO.ite ?_ ?_)
      | (with_reducible refine LeO.bind ?_ (fun _ => ?_))
      | exact ih0 _ _ _
      | exact depotref01_Digit.mono _ _
      | exact LeO.none _
      | refine LeO.ite ?_ ?_
      | refine LeO.bind ?_ (fun _ => ?_)
set_option maxHeartbeats 8000000 in
set_option maxRecDepth 100000 in
theorem depotref02_Seconds.calls (k : Nat) (a0 : ByteArray) (r1 : Int) (r2 : Bool) (w : World) (h : depotref02_Seconds.f k a0 = some (r1, r2)) :
    Calls Tryd.prog 20 #[.string a0] w fun e w' => e = .returned (.tuple #[.int .i64 r1, .bool r2]) ∧ Below w.heap.size w w' := by
  have HB := Aside0.mk (Below.refl w.heap.size w)
  have H : (depotref02_Seconds.l0 k a0 0 0) = some (r1, r2) := h
  clear h
  have H' := Aside0.mk H
  clear H
  go_enter Tryd.func20, Tryd.ntmps20
  go_wp2
  go_loopg [4, 5] k (fun kq v4 v5 w' => ∃ (x4_1 : Int) (x5_1 : Int), v4 = .int .i64 x4_1 ∧ v5 = .int .i64 x5_1 ∧ Aside0 (depotref02_Seconds.l0 kq a0 x4_1 x5_1 = some (r1, r2)) ∧ Aside0 (kq ≤ k) ∧ Aside0 (Below w.heap.size w w'))
  case atStart => exact ⟨(0), (0), (by first | rfl | (simp; done) | (simp [*]; done)), (by first | rfl | (simp; done) | (simp [*]; done)), H', ⟨Nat.le_refl _⟩, ⟨by repeat (first | (with_reducible first | exact HB.out | apply below_alloc | apply pw_below_drewN | apply below_drew1) | exact HB.out)⟩⟩
  case round =>
    clear H'
    obtain ⟨x4_1, x5_1, rfl, rfl, HA, HK1, HB⟩ := hrel
    cases gk with
    | zero => exact absurd HA.out (by simp [depotref02_Seconds.l0])
    | succ k1 =>
      have H := HA.out
      clear HA
      simp only [depotref02_Seconds.l0] at H
      by_cases c2 : x5_1 < (a0.size : Int)
      · rw [if_pos c2] at H
        have c2b0 : decide (x5_1 < (a0.size : Int)) = true := decide_eq_true c2
        clear c2
        by_cases c3 : 0 ≤ x5_1
        · rw [if_pos c3] at H
          have c3b0 : decide (0 ≤ x5_1) = true := decide_eq_true c3
          clear c3
          replace H := Option.bind_eq_some_iff.mp H
          obtain ⟨t157, A50, H⟩ := H
          replace H : (if t157 = true then (depotref02_Seconds.l0 k1 a0 (mn (wrap64 ((wrap64 (x4_1 * 10)) + (((bt a0 x5_1) - 48) % 256))) 2147483648) (wrap64 (x5_1 + 1))) else (some (0, false))) = some (r1, r2) := H
          have A5 := Aside0.mk A50
          clear A50
          by_cases c6 : t157 = true
          · subst c6
            have H1 : (depotref02_Seconds.l0 k1 a0 (mn (wrap64 ((wrap64 (x4_1 * 10)) + (((bt a0 x5_1) - 48) % 256))) 2147483648) (wrap64 (x5_1 + 1))) = some (r1, r2) := by rw [if_pos rfl] at H; exact H
            clear H
            have H := H1
            clear H1
            obtain ⟨ji8, hji8⟩ : ∃ j_ : Int, (mn (wrap64 ((wrap64 (x4_1 * 10)) + (((bt a0 x5_1) - 48) % 256))) 2147483648) = j_ := ⟨_, rfl⟩
            replace H : (depotref02_Seconds.l0 k1 a0 ji8 (wrap64 (x5_1 + 1))) = some (r1, r2) := by first | (rw [hji8] at H; exact H) | (simp only [hji8] at H ⊢; exact H)
            (try rw [hji8] at A5)
            have hji8_ : (if 2147483648 < (wrap64 ((wrap64 (x4_1 * 10)) + (((bt a0 x5_1) - 48) % 256))) then 2147483648 else (wrap64 ((wrap64 (x4_1 * 10)) + (((bt a0 x5_1) - 48) % 256)))) = ji8 := hji8
            have H' := Aside0.mk H
            clear H
            have p4 : 0 ≤ (x5_1 : Int) := of_decide_eq_true (by first | (with_reducible assumption) | assumption)
            have q4 : x5_1 < (a0.size : Int) := of_decide_eq_true (by first | (with_reducible assumption) | assumption)
            have hx4 := bt_at a0 x5_1
            replace p4 := eq_true p4
            replace q4 := eq_true q4
            go_wp2_with (first | ((with_reducible refine gate_callee (f := 32) rfl ?_); refine goesL_ (some 15) rfl rfl Tryd.func32 (by kernel_rfl) rfl #[.int .u8 (bt a0 x5_1)] rfl (by (try simp only [List.map_toArray, List.map_cons, List.map_nil]); first | done | rfl | (simp only [List.length_drop, List.length_take]; rfl)) ?_; (with_reducible refine (depotref01_Digit.calls k1 (bt a0 x5_1) true _ A5.out).mono ?_); rintro e w' ⟨rfl, ⟨nd, rfl⟩⟩; refine ⟨_, rfl, ?_⟩; have p7 : 0 ≤ (x5_1 : Int) := of_decide_eq_true (by first | (with_reducible assumption) | assumption); have q7 : x5_1 < (a0.size : Int) := of_decide_eq_true (by first | (with_reducible assumption) | assumption); have hx7 := bt_at a0 x5_1; replace p7 := eq_true p7; replace q7 := eq_true q7))
            go_roundg k1
            case measure => have := HK1.out; omega
            case rel => exact ⟨(ji8), (wrap64 (x5_1 + 1)), (by first | rfl | (simp; done) | (simp only [← hji8] <;> (first | rfl | simp)) | (simp [*]; done)), (by first | rfl | (simp; done) | (simp [*]; done)), H', ⟨by have := HK1.out; omega⟩, ⟨by repeat (first | (with_reducible first | exact HB.out | apply below_alloc | apply pw_below_drewN | apply below_drew1) | exact HB.out)⟩⟩
          · replace c6 := Bool.eq_false_iff.mpr c6
            subst c6
            have H1 : (some (0, false)) = some (r1, r2) := by rw [if_neg (show ¬ (false = true) by decide)] at H; exact H
            clear H
            have H := H1
            clear H1
            simp only [Option.some.injEq, Prod.mk.injEq] at H
            obtain ⟨rfl, rfl⟩ := H
            have p4 : 0 ≤ (x5_1 : Int) := of_decide_eq_true (by first | (with_reducible assumption) | assumption)
            have q4 : x5_1 < (a0.size : Int) := of_decide_eq_true (by first | (with_reducible assumption) | assumption)
            have hx4 := bt_at a0 x5_1
            replace p4 := eq_true p4
            replace q4 := eq_true q4
            go_wp2_with (first | ((with_reducible refine gate_callee (f := 32) rfl ?_); refine goesL_ (some 15) rfl rfl Tryd.func32 (by kernel_rfl) rfl #[.int .u8 (bt a0 x5_1)] rfl (by (try simp only [List.map_toArray, List.map_cons, List.map_nil]); first | done | rfl | (simp only [List.length_drop, List.length_take]; rfl)) ?_; (with_reducible refine (depotref01_Digit.calls k1 (bt a0 x5_1) false _ A5.out).mono ?_); rintro e w' ⟨rfl, ⟨nd, rfl⟩⟩; refine ⟨_, rfl, ?_⟩))
            go_ret2
            exact ⟨by first | rfl | (simp [errW_none, errW_some] <;> rfl) | (simp [*, errW_none, errW_some] <;> rfl), by repeat (first | (with_reducible first | exact HB.out | apply below_alloc | apply pw_below_drewN | apply below_drew1) | exact HB.out)⟩
        · rw [if_neg c3] at H
          exact absurd H (by simp)
      · rw [if_neg c2] at H
        have c2b0 : decide (x5_1 < (a0.size : Int)) = false := decide_eq_false c2
        clear c2
        simp only [Option.some.injEq, Prod.mk.injEq] at H
        obtain ⟨rfl, rfl⟩ := H
        go_wp2
        go_ret2
        exact ⟨by first | rfl | (simp [errW_none, errW_some] <;> rfl) | (simp [*, errW_none, errW_some] <;> rfl), by repeat (first | (with_reducible first | exact HB.out | apply below_alloc | apply pw_below_drewN | apply below_drew1) | exact HB.out)⟩

/-! ### depotlaw02_DecimalReads: function 4 -/
def depotlaw02_DecimalReads.f (k : Nat) (a0 : ByteArray) (a1 : Int) : Option (Bool) := if (a0.size : Int) > 300 then ((depotlaw02_counts.f k).bind fun t158 => (some t158)) else ((decimal_Number.f a0 a1).bind fun bt159 => ((depotref02_Number.f k a0 a1).bind fun bt161 => ((decimal_ReadHex.f a0 a1).bind fun bt163 => ((depotref02_ReadHex.f k a0 a1).bind fun bt165 => ((decimal_Seconds.f a0).bind fun bt167 => ((depotref02_Seconds.f k a0).bind fun bt169 => (if bt159.1 = bt161.1 then (if bt159.2 = bt161.2 then (if bt163.1 = bt165.1 then (if bt163.2 = bt165.2 then (if bt167.1 = bt169.1 then (if (bt167.2 == bt169.2) = true then ((depotlaw02_counts.f k).bind fun t171 => (some t171)) else (some false)) else (some false)) else (some false)) else (some false)) else (some false)) else (some false))))))))
theorem depotlaw02_DecimalReads.mono : ∀ a0 a1 k, LeO (depotlaw02_DecimalReads.f k a0 a1) (depotlaw02_DecimalReads.f (k + 1) a0 a1) := by
  intro a0 a1 k
  unfold depotlaw02_DecimalReads.f
  repeat' first
      | (with_reducible exact depotlaw02_counts.mono _)
      | (with_reducible exact depotref02_Number.mono _ _ _)
      | (with_reducible exact depotref02_ReadHex.mono _ _ _)
      | (with_reducible exact depotref02_Seconds.mono _ _)
      | (with_reducible exact LeO.refl _)
      | (with_reducible exact LeO.none _)
      | (with_reducible refine LeO.ite ?_ ?_)
      | (with_reducible refine LeO.bind ?_ (fun _ => ?_))
      | exact depotlaw02_counts.mono _
      | exact depotref02_Number.mono _ _ _
      | exact depotref02_ReadHex.mono _ _ _
      | exact depotref02_Seconds.mono _ _
      | exact LeO.none _
      | refine LeO.ite ?_ ?_
      | refine LeO.bind ?_ (fun _ => ?_)
set_option maxHeartbeats 8000000 in
set_option maxRecDepth 100000 in
theorem depotlaw02_DecimalReads.calls (k : Nat) (a0 : ByteArray) (a1 : Int) (r : Bool) (w : World) (HTRUE : Aside0 (r = true)) (HT : Aside0 (Hand.Laid w)) (h : depotlaw02_DecimalReads.f k a0 a1 = some r) :
    Calls Tryd.prog 4 #[.string a0, .int .i64 a1] w fun e w' => e = .returned (.bool r) ∧ Below w.heap.size w w' := by
  have HB := Aside0.mk (Below.refl w.heap.size w)
  have H : (if (a0.size : Int) > 300 then ((depotlaw02_counts.f k).bind fun t158 => (some t158)) else ((decimal_Number.f a0 a1).bind fun bt159 => ((depotref02_Number.f k a0 a1).bind fun bt161 => ((decimal_ReadHex.f a0 a1).bind fun bt163 => ((depotref02_ReadHex.f k a0 a1).bind fun bt165 => ((decimal_Seconds.f a0).bind fun bt167 => ((depotref02_Seconds.f k a0).bind fun bt169 => (if bt159.1 = bt161.1 then (if bt159.2 = bt161.2 then (if bt163.1 = bt165.1 then (if bt163.2 = bt165.2 then (if bt167.1 = bt169.1 then (if (bt167.2 == bt169.2) = true then ((depotlaw02_counts.f k).bind fun t171 => (some t171)) else (some false)) else (some false)) else (some false)) else (some false)) else (some false)) else (some false))))))))) = some r := h
  clear h
  by_cases c3 : (a0.size : Int) > 300
  · rw [if_pos c3] at H
    have c3b0 : decide (300 < (a0.size : Int)) = true := decide_eq_true c3
    have c3b1 : decide (300 < a0.size) = true := decide_eq_true (by omega)
    clear c3
    replace H := Option.bind_eq_some_iff.mp H
    obtain ⟨t158, A40, H⟩ := H
    replace H : (some t158) = some r := H
    have A4 := Aside0.mk A40
    clear A40
    obtain rfl := Option.some.inj H
    go_enter Tryd.func4, Tryd.ntmps4
    go_wp2_with (first | ((with_reducible refine gate_callee (f := 14) rfl ?_); refine goesL_ (some 20) rfl rfl Tryd.func14 (by kernel_rfl) rfl #[] rfl (by (try simp only [List.map_toArray, List.map_cons, List.map_nil]); first | done | rfl | (simp only [List.length_drop, List.length_take]; rfl)) ?_; (with_reducible refine (depotlaw02_counts.calls k  t158 _ ?side2 ?side1 A4.out).mono ?_); (case side1 => first | exact HT | exact ⟨Hand.Laid.below HT.out (by repeat (first | (with_reducible first | exact HB.out | apply below_alloc | apply pw_below_drewN | apply below_drew1) | exact HB.out))⟩); (case side2 => first | exact ⟨rfl⟩ | exact HTRUE); rintro e w5 ⟨rfl, hb⟩; refine ⟨_, rfl, ?_⟩; have n0_ := Aside0.mk (below_step (by repeat (first | (with_reducible first | exact HB.out | apply below_alloc | apply pw_below_drewN | apply below_drew1) | exact HB.out)) hb); clear HB; have HB := n0_; clear n0_; (try clear hb); (try clear hb2); (try clear hk); (try clear hi)))
    go_ret
    exact ⟨by first | rfl | (simp [errW_none, errW_some] <;> rfl) | (simp [*, errW_none, errW_some] <;> rfl), by repeat (first | (with_reducible first | exact HB.out | apply below_alloc | apply pw_below_drewN | apply below_drew1) | exact HB.out)⟩
  · rw [if_neg c3] at H
    have c3b0 : decide (300 < (a0.size : Int)) = false := decide_eq_false c3
    have c3b1 : decide (300 < a0.size) = false := decide_eq_false (by omega)
    clear c3
    replace H := Option.bind_eq_some_iff.mp H
    obtain ⟨⟨t159, t160⟩, A60, H⟩ := H
    replace H : ((depotref02_Number.f k a0 a1).bind fun bt161 => ((decimal_ReadHex.f a0 a1).bind fun bt163 => ((depotref02_ReadHex.f k a0 a1).bind fun bt165 => ((decimal_Seconds.f a0).bind fun bt167 => ((depotref02_Seconds.f k a0).bind fun bt169 => (if t159 = bt161.1 then (if t160 = bt161.2 then (if bt163.1 = bt165.1 then (if bt163.2 = bt165.2 then (if bt167.1 = bt169.1 then (if (bt167.2 == bt169.2) = true then ((depotlaw02_counts.f k).bind fun t171 => (some t171)) else (some false)) else (some false)) else (some false)) else (some false)) else (some false)) else (some false))))))) = some r := H
    have A6 := Aside0.mk A60
    clear A60
    replace H := Option.bind_eq_some_iff.mp H
    obtain ⟨⟨t161, t162⟩, A70, H⟩ := H
    replace H : ((decimal_ReadHex.f a0 a1).bind fun bt163 => ((depotref02_ReadHex.f k a0 a1).bind fun bt165 => ((decimal_Seconds.f a0).bind fun bt167 => ((depotref02_Seconds.f k a0).bind fun bt169 => (if t159 = t161 then (if t160 = t162 then (if bt163.1 = bt165.1 then (if bt163.2 = bt165.2 then (if bt167.1 = bt169.1 then (if (bt167.2 == bt169.2) = true then ((depotlaw02_counts.f k).bind fun t171 => (some t171)) else (some false)) else (some false)) else (some false)) else (some false)) else (some false)) else (some false)))))) = some r := H
    have A7 := Aside0.mk A70
    clear A70
    replace H := Option.bind_eq_some_iff.mp H
    obtain ⟨⟨t163, t164⟩, A80, H⟩ := H
    replace H : ((depotref02_ReadHex.f k a0 a1).bind fun bt165 => ((decimal_Seconds.f a0).bind fun bt167 => ((depotref02_Seconds.f k a0).bind fun bt169 => (if t159 = t161 then (if t160 = t162 then (if t163 = bt165.1 then (if t164 = bt165.2 then (if bt167.1 = bt169.1 then (if (bt167.2 == bt169.2) = true then ((depotlaw02_counts.f k).bind fun t171 => (some t171)) else (some false)) else (some false)) else (some false)) else (some false)) else (some false)) else (some false))))) = some r := H
    have A8 := Aside0.mk A80
    clear A80
    replace H := Option.bind_eq_some_iff.mp H
    obtain ⟨⟨t165, t166⟩, A90, H⟩ := H
    replace H : ((decimal_Seconds.f a0).bind fun bt167 => ((depotref02_Seconds.f k a0).bind fun bt169 => (if t159 = t161 then (if t160 = t162 then (if t163 = t165 then (if t164 = t166 then (if bt167.1 = bt169.1 then (if (bt167.2 == bt169.2) = true then ((depotlaw02_counts.f k).bind fun t171 => (some t171)) else (some false)) else (some false)) else (some false)) else (some false)) else (some false)) else (some false)))) = some r := H
    have A9 := Aside0.mk A90
    clear A90
    replace H := Option.bind_eq_some_iff.mp H
    obtain ⟨⟨t167, t168⟩, A100, H⟩ := H
    replace H : ((depotref02_Seconds.f k a0).bind fun bt169 => (if t159 = t161 then (if t160 = t162 then (if t163 = t165 then (if t164 = t166 then (if t167 = bt169.1 then (if (t168 == bt169.2) = true then ((depotlaw02_counts.f k).bind fun t171 => (some t171)) else (some false)) else (some false)) else (some false)) else (some false)) else (some false)) else (some false))) = some r := H
    have A10 := Aside0.mk A100
    clear A100
    replace H := Option.bind_eq_some_iff.mp H
    obtain ⟨⟨t169, t170⟩, A110, H⟩ := H
    replace H : (if t159 = t161 then (if t160 = t162 then (if t163 = t165 then (if t164 = t166 then (if t167 = t169 then (if (t168 == t170) = true then ((depotlaw02_counts.f k).bind fun t171 => (some t171)) else (some false)) else (some false)) else (some false)) else (some false)) else (some false)) else (some false)) = some r := H
    have A11 := Aside0.mk A110
    clear A110
    by_cases c12 : t159 = t161
    · rw [if_pos c12] at H
      have c12b0 : (t159 == t161) = true := beq_iff_eq.mpr c12
      have c12b1 : (t159 != t161) = false := bne_eq_false_iff_eq.mpr c12
      clear c12
      by_cases c13 : t160 = t162
      · rw [if_pos c13] at H
        have c13b0 : (t160 == t162) = true := beq_iff_eq.mpr c13
        have c13b1 : (t160 != t162) = false := bne_eq_false_iff_eq.mpr c13
        clear c13
        by_cases c14 : t163 = t165
        · rw [if_pos c14] at H
          have c14b0 : (t163 == t165) = true := beq_iff_eq.mpr c14
          have c14b1 : (t163 != t165) = false := bne_eq_false_iff_eq.mpr c14
          clear c14
          by_cases c15 : t164 = t166
          · rw [if_pos c15] at H
            have c15b0 : (t164 == t166) = true := beq_iff_eq.mpr c15
            have c15b1 : (t164 != t166) = false := bne_eq_false_iff_eq.mpr c15
            clear c15
            by_cases c16 : t167 = t169
            · rw [if_pos c16] at H
              have c16b0 : (t167 == t169) = true := beq_iff_eq.mpr c16
              have c16b1 : (t167 != t169) = false := bne_eq_false_iff_eq.mpr c16
              clear c16
              by_cases c17 : (t168 == t170) = true
              · rw [if_pos c17] at H
                have c17b0 : (t168 == t170) = true := c17
                (try (have c17b1 : decide (t168 = t170) = true := by simpa using c17))
                (try (have c17b2 : (t168 == t170) = true := by simpa using c17))
                clear c17
                replace H := Option.bind_eq_some_iff.mp H
                obtain ⟨t171, A180, H⟩ := H
                replace H : (some t171) = some r := H
                have A18 := Aside0.mk A180
                clear A180
                obtain rfl := Option.some.inj H
                go_enter Tryd.func4, Tryd.ntmps4
                go_wp2_with (first | ((with_reducible refine gate_callee (f := 15) rfl ?_); refine goesL_ (some 24) rfl rfl Tryd.func15 (by kernel_rfl) rfl #[.string a0, .int .i64 a1] rfl (by (try simp only [List.map_toArray, List.map_cons, List.map_nil]); first | done | rfl | (simp only [List.length_drop, List.length_take]; rfl)) ?_; (with_reducible refine (decimal_Number.calls a0 a1 t159 t160 _ A6.out).mono ?_); rintro e w19 ⟨rfl, hb⟩; refine ⟨_, rfl, ?_⟩; have n0_ := Aside0.mk (below_step (by repeat (first | (with_reducible first | exact HB.out | apply below_alloc | apply pw_below_drewN | apply below_drew1) | exact HB.out)) hb); clear HB; have HB := n0_; clear n0_; (try clear hb); (try clear hb2); (try clear hk); (try clear hi)) | ((with_reducible refine gate_callee (f := 16) rfl ?_); refine goesL_ (some 30) rfl rfl Tryd.func16 (by kernel_rfl) rfl #[.string a0, .int .i64 a1] rfl (by (try simp only [List.map_toArray, List.map_cons, List.map_nil]); first | done | rfl | (simp only [List.length_drop, List.length_take]; rfl)) ?_; (with_reducible refine (depotref02_Number.calls k a0 a1 t161 t162 _ A7.out).mono ?_); rintro e w' ⟨rfl, ⟨nd, rfl⟩⟩; refine ⟨_, rfl, ?_⟩) | ((with_reducible refine gate_callee (f := 17) rfl ?_); refine goesL_ (some 36) rfl rfl Tryd.func17 (by kernel_rfl) rfl #[.string a0, .int .i64 a1] rfl (by (try simp only [List.map_toArray, List.map_cons, List.map_nil]); first | done | rfl | (simp only [List.length_drop, List.length_take]; rfl)) ?_; (with_reducible refine (decimal_ReadHex.calls a0 a1 t163 t164 _ A8.out).mono ?_); rintro e w20 ⟨rfl, hb⟩; refine ⟨_, rfl, ?_⟩; have n0_ := Aside0.mk (below_step (by repeat (first | (with_reducible first | exact HB.out | apply below_alloc | apply pw_below_drewN | apply below_drew1) | exact HB.out)) hb); clear HB; have HB := n0_; clear n0_; (try clear hb); (try clear hb2); (try clear hk); (try clear hi)) | ((with_reducible refine gate_callee (f := 18) rfl ?_); refine goesL_ (some 42) rfl rfl Tryd.func18 (by kernel_rfl) rfl #[.string a0, .int .i64 a1] rfl (by (try simp only [List.map_toArray, List.map_cons, List.map_nil]); first | done | rfl | (simp only [List.length_drop, List.length_take]; rfl)) ?_; (with_reducible refine (depotref02_ReadHex.calls k a0 a1 t165 t166 _ A9.out).mono ?_); rintro e w' ⟨rfl, ⟨nd, rfl⟩⟩; refine ⟨_, rfl, ?_⟩) | ((with_reducible refine gate_callee (f := 19) rfl ?_); refine goesL_ (some 47) rfl rfl Tryd.func19 (by kernel_rfl) rfl #[.string a0] rfl (by (try simp only [List.map_toArray, List.map_cons, List.map_nil]); first | done | rfl | (simp only [List.length_drop, List.length_take]; rfl)) ?_; (with_reducible refine (decimal_Seconds.calls a0 t167 t168 _ A10.out).mono ?_); rintro e w21 ⟨rfl, hb⟩; refine ⟨_, rfl, ?_⟩; have n0_ := Aside0.mk (below_step (by repeat (first | (with_reducible first | exact HB.out | apply below_alloc | apply pw_below_drewN | apply below_drew1) | exact HB.out)) hb); clear HB; have HB := n0_; clear n0_; (try clear hb); (try clear hb2); (try clear hk); (try clear hi)) | ((with_reducible refine gate_callee (f := 20) rfl ?_); refine goesL_ (some 52) rfl rfl Tryd.func20 (by kernel_rfl) rfl #[.string a0] rfl (by (try simp only [List.map_toArray, List.map_cons, List.map_nil]); first | done | rfl | (simp only [List.length_drop, List.length_take]; rfl)) ?_; (with_reducible refine (depotref02_Seconds.calls k a0 t169 t170 _ A11.out).mono ?_); rintro e w22 ⟨rfl, hb⟩; refine ⟨_, rfl, ?_⟩; have n0_ := Aside0.mk (below_step (by repeat (first | (with_reducible first | exact HB.out | apply below_alloc | apply pw_below_drewN | apply below_drew1) | exact HB.out)) hb); clear HB; have HB := n0_; clear n0_; (try clear hb); (try clear hb2); (try clear hk); (try clear hi)) | (go_at_call 14; (with_reducible refine (depotlaw02_counts.calls k  t171 _ ?side2 ?side1 A18.out).mono ?_); (case side1 => first | exact HT | exact ⟨Hand.Laid.below HT.out (by repeat (first | (with_reducible first | exact HB.out | apply below_alloc | apply pw_below_drewN | apply below_drew1) | exact HB.out))⟩); (case side2 => first | exact ⟨rfl⟩ | exact HTRUE); rintro e w23 ⟨rfl, hb⟩; have n0_ := Aside0.mk (below_step (by repeat (first | (with_reducible first | exact HB.out | apply below_alloc | apply pw_below_drewN | apply below_drew1) | exact HB.out)) hb); clear HB; have HB := n0_; clear n0_; (try clear hb); (try clear hb2); (try clear hk); (try clear hi)))
                go_ret
                exact ⟨by first | rfl | (simp [errW_none, errW_some] <;> rfl) | (simp [*, errW_none, errW_some] <;> rfl), by repeat (first | (with_reducible first | exact HB.out | apply below_alloc | apply pw_below_drewN | apply below_drew1) | exact HB.out)⟩
              · rw [if_neg c17] at H
                have c17b0 : (t168 == t170) = false := by simpa using c17
                (try (have c17b1 : decide (t168 = t170) = false := by simpa using c17))
                (try (have c17b2 : (t168 == t170) = false := by simpa using c17))
                (try (have c17b3 : ¬ (t168 = t170) := by simpa using c17))
                clear c17
                obtain rfl := Option.some.inj H
                exact absurd HTRUE.out (by decide)
            · rw [if_neg c16] at H
              have c16b0 : (t167 == t169) = false := beq_eq_false_iff_ne.mpr c16
              have c16b1 : (t167 != t169) = true := bne_iff_ne.mpr c16
              obtain rfl := Option.some.inj H
              exact absurd HTRUE.out (by decide)
          · rw [if_neg c15] at H
            have c15b0 : (t164 == t166) = false := beq_eq_false_iff_ne.mpr c15
            have c15b1 : (t164 != t166) = true := bne_iff_ne.mpr c15
            obtain rfl := Option.some.inj H
            exact absurd HTRUE.out (by decide)
        · rw [if_neg c14] at H
          have c14b0 : (t163 == t165) = false := beq_eq_false_iff_ne.mpr c14
          have c14b1 : (t163 != t165) = true := bne_iff_ne.mpr c14
          obtain rfl := Option.some.inj H
          exact absurd HTRUE.out (by decide)
      · rw [if_neg c13] at H
        have c13b0 : (t160 == t162) = false := beq_eq_false_iff_ne.mpr c13
        have c13b1 : (t160 != t162) = true := bne_iff_ne.mpr c13
        obtain rfl := Option.some.inj H
        exact absurd HTRUE.out (by decide)
    · rw [if_neg c12] at H
      have c12b0 : (t159 == t161) = false := beq_eq_false_iff_ne.mpr c12
      have c12b1 : (t159 != t161) = true := bne_iff_ne.mpr c12
      obtain rfl := Option.some.inj H
      exact absurd HTRUE.out (by decide)

/-! ### depotref02_held: function 34 -/
def depotref02_held.f (a0 : Int) : Option (Int) := some (mn (mx a0 0) 2147483648)
set_option maxHeartbeats 8000000 in
set_option maxRecDepth 100000 in
theorem depotref02_held.calls (a0 : Int) (r : Int) (w : World) (h : depotref02_held.f a0 = some r) :
    Calls Tryd.prog 34 #[.int .i64 a0] w fun e w' => e = .returned (.int .i64 r) ∧ Below w.heap.size w w' := by
  have HB := Aside0.mk (Below.refl w.heap.size w)
  have H : (some (mn (mx a0 0) 2147483648)) = some r := h
  clear h
  obtain ⟨ji2, hji2⟩ : ∃ j_ : Int, (mx a0 0) = j_ := ⟨_, rfl⟩
  replace H : (some (mn (ji2) 2147483648)) = some r := by first | (rw [hji2] at H; exact H) | (simp only [hji2] at H ⊢; exact H)
  (try (have hji2l : 0 ≤ ji2 := by (rw [← hji2]; unfold mx; (repeat' split) <;> omega)))
  (try (have hji2m : 0 ≤ ji2 := by omega))
  have hji2_ : (if a0 < 0 then 0 else a0) = ji2 := hji2
  obtain ⟨ji3, hji3⟩ : ∃ j_ : Int, (mn (ji2) 2147483648) = j_ := ⟨_, rfl⟩
  replace H : (some ji3) = some r := by first | (rw [hji3] at H; exact H) | (simp only [hji3] at H ⊢; exact H)
  have hji3_ : (if 2147483648 < (ji2) then 2147483648 else (ji2)) = ji3 := hji3
  obtain rfl := Option.some.inj H
  go_enter Tryd.func34, Tryd.ntmps34
  go_wp2
  go_ret
  exact ⟨by first | rfl | (simp [errW_none, errW_some] <;> rfl) | (simp only [← hji2, ← hji3]; first | rfl | (simp [errW_none, errW_some] <;> rfl)) | (simp [*, errW_none, errW_some] <;> rfl), by repeat (first | (with_reducible first | exact HB.out | apply below_alloc | apply pw_below_drewN | apply below_drew1) | exact HB.out)⟩

/-! ### depotref02_Add: function 22 -/
def depotref02_Add.f (a0 : Int) (a1 : Int) : Option (Int) := (depotref02_held.f a0).bind fun t172 => ((depotref02_held.f a1).bind fun t173 => ((depotref02_held.f (wrap64 (t172 + t173))).bind fun t174 => (some t174)))
set_option maxHeartbeats 8000000 in
set_option maxRecDepth 100000 in
theorem depotref02_Add.calls (a0 : Int) (a1 : Int) (r : Int) (w : World) (h : depotref02_Add.f a0 a1 = some r) :
    Calls Tryd.prog 22 #[.int .i64 a0, .int .i64 a1] w fun e w' => e = .returned (.int .i64 r) ∧ Below w.heap.size w w' := by
  have HB := Aside0.mk (Below.refl w.heap.size w)
  have H : ((depotref02_held.f a0).bind fun t172 => ((depotref02_held.f a1).bind fun t173 => ((depotref02_held.f (wrap64 (t172 + t173))).bind fun t174 => (some t174)))) = some r := h
  clear h
  replace H := Option.bind_eq_some_iff.mp H
  obtain ⟨t172, A30, H⟩ := H
  replace H : ((depotref02_held.f a1).bind fun t173 => ((depotref02_held.f (wrap64 (t172 + t173))).bind fun t174 => (some t174))) = some r := H
  have A3 := Aside0.mk A30
  clear A30
  replace H := Option.bind_eq_some_iff.mp H
  obtain ⟨t173, A40, H⟩ := H
  replace H : ((depotref02_held.f (wrap64 (t172 + t173))).bind fun t174 => (some t174)) = some r := H
  have A4 := Aside0.mk A40
  clear A40
  replace H := Option.bind_eq_some_iff.mp H
  obtain ⟨t174, A50, H⟩ := H
  replace H : (some t174) = some r := H
  have A5 := Aside0.mk A50
  clear A50
  obtain rfl := Option.some.inj H
  go_enter Tryd.func22, Tryd.ntmps22
  go_wp2_with (first | ((with_reducible refine gate_callee (f := 34) rfl ?_); refine goesL_ (some 6) rfl rfl Tryd.func34 (by kernel_rfl) rfl #[.int .i64 a0] rfl (by (try simp only [List.map_toArray, List.map_cons, List.map_nil]); first | done | rfl | (simp only [List.length_drop, List.length_take]; rfl)) ?_; (with_reducible refine (depotref02_held.calls a0 t172 _ A3.out).mono ?_); rintro e w6 ⟨rfl, hb⟩; refine ⟨_, rfl, ?_⟩; have n0_ := Aside0.mk (below_step (by repeat (first | (with_reducible first | exact HB.out | apply below_alloc | apply pw_below_drewN | apply below_drew1) | exact HB.out)) hb); clear HB; have HB := n0_; clear n0_; (try clear hb); (try clear hb2); (try clear hk); (try clear hi)) | ((with_reducible refine gate_callee (f := 34) rfl ?_); refine goesL_ (some 8) rfl rfl Tryd.func34 (by kernel_rfl) rfl #[.int .i64 a1] rfl (by (try simp only [List.map_toArray, List.map_cons, List.map_nil]); first | done | rfl | (simp only [List.length_drop, List.length_take]; rfl)) ?_; (with_reducible refine (depotref02_held.calls a1 t173 _ A4.out).mono ?_); rintro e w7 ⟨rfl, hb⟩; refine ⟨_, rfl, ?_⟩; have n0_ := Aside0.mk (below_step (by repeat (first | (with_reducible first | exact HB.out | apply below_alloc | apply pw_below_drewN | apply below_drew1) | exact HB.out)) hb); clear HB; have HB := n0_; clear n0_; (try clear hb); (try clear hb2); (try clear hk); (try clear hi)) | ((with_reducible refine gate_callee (f := 34) rfl ?_); refine goesL_ (some 10) rfl rfl Tryd.func34 (by kernel_rfl) rfl #[.int .i64 (wrap64 (t172 + t173))] rfl (by (try simp only [List.map_toArray, List.map_cons, List.map_nil]); first | done | rfl | (simp only [List.length_drop, List.length_take]; rfl)) ?_; (with_reducible refine (depotref02_held.calls (wrap64 (t172 + t173)) t174 _ A5.out).mono ?_); rintro e w8 ⟨rfl, hb⟩; refine ⟨_, rfl, ?_⟩; have n0_ := Aside0.mk (below_step (by repeat (first | (with_reducible first | exact HB.out | apply below_alloc | apply pw_below_drewN | apply below_drew1) | exact HB.out)) hb); clear HB; have HB := n0_; clear n0_; (try clear hb); (try clear hb2); (try clear hk); (try clear hi)))
  go_ret
  exact ⟨by first | rfl | (simp [errW_none, errW_some] <;> rfl) | (simp [*, errW_none, errW_some] <;> rfl), by repeat (first | (with_reducible first | exact HB.out | apply below_alloc | apply pw_below_drewN | apply below_drew1) | exact HB.out)⟩

/-! ### depotref02_Less: function 24 -/
def depotref02_Less.f (a0 : Int) (a1 : Int) : Option (Int) := (depotref02_held.f a0).bind fun t175 => ((depotref02_held.f a1).bind fun t176 => ((depotref02_held.f (wrap64 (t175 - t176))).bind fun t177 => (some t177)))
set_option maxHeartbeats 8000000 in
set_option maxRecDepth 100000 in
theorem depotref02_Less.calls (a0 : Int) (a1 : Int) (r : Int) (w : World) (h : depotref02_Less.f a0 a1 = some r) :
    Calls Tryd.prog 24 #[.int .i64 a0, .int .i64 a1] w fun e w' => e = .returned (.int .i64 r) ∧ Below w.heap.size w w' := by
  have HB := Aside0.mk (Below.refl w.heap.size w)
  have H : ((depotref02_held.f a0).bind fun t175 => ((depotref02_held.f a1).bind fun t176 => ((depotref02_held.f (wrap64 (t175 - t176))).bind fun t177 => (some t177)))) = some r := h
  clear h
  replace H := Option.bind_eq_some_iff.mp H
  obtain ⟨t175, A30, H⟩ := H
  replace H : ((depotref02_held.f a1).bind fun t176 => ((depotref02_held.f (wrap64 (t175 - t176))).bind fun t177 => (some t177))) = some r := H
  have A3 := Aside0.mk A30
  clear A30
  replace H := Option.bind_eq_some_iff.mp H
  obtain ⟨t176, A40, H⟩ := H
  replace H : ((depotref02_held.f (wrap64 (t175 - t176))).bind fun t177 => (some t177)) = some r := H
  have A4 := Aside0.mk A40
  clear A40
  replace H := Option.bind_eq_some_iff.mp H
  obtain ⟨t177, A50, H⟩ := H
  replace H : (some t177) = some r := H
  have A5 := Aside0.mk A50
  clear A50
  obtain rfl := Option.some.inj H
  go_enter Tryd.func24, Tryd.ntmps24
  go_wp2_with (first | ((with_reducible refine gate_callee (f := 34) rfl ?_); refine goesL_ (some 6) rfl rfl Tryd.func34 (by kernel_rfl) rfl #[.int .i64 a0] rfl (by (try simp only [List.map_toArray, List.map_cons, List.map_nil]); first | done | rfl | (simp only [List.length_drop, List.length_take]; rfl)) ?_; (with_reducible refine (depotref02_held.calls a0 t175 _ A3.out).mono ?_); rintro e w6 ⟨rfl, hb⟩; refine ⟨_, rfl, ?_⟩; have n0_ := Aside0.mk (below_step (by repeat (first | (with_reducible first | exact HB.out | apply below_alloc | apply pw_below_drewN | apply below_drew1) | exact HB.out)) hb); clear HB; have HB := n0_; clear n0_; (try clear hb); (try clear hb2); (try clear hk); (try clear hi)) | ((with_reducible refine gate_callee (f := 34) rfl ?_); refine goesL_ (some 8) rfl rfl Tryd.func34 (by kernel_rfl) rfl #[.int .i64 a1] rfl (by (try simp only [List.map_toArray, List.map_cons, List.map_nil]); first | done | rfl | (simp only [List.length_drop, List.length_take]; rfl)) ?_; (with_reducible refine (depotref02_held.calls a1 t176 _ A4.out).mono ?_); rintro e w7 ⟨rfl, hb⟩; refine ⟨_, rfl, ?_⟩; have n0_ := Aside0.mk (below_step (by repeat (first | (with_reducible first | exact HB.out | apply below_alloc | apply pw_below_drewN | apply below_drew1) | exact HB.out)) hb); clear HB; have HB := n0_; clear n0_; (try clear hb); (try clear hb2); (try clear hk); (try clear hi)) | ((with_reducible refine gate_callee (f := 34) rfl ?_); refine goesL_ (some 10) rfl rfl Tryd.func34 (by kernel_rfl) rfl #[.int .i64 (wrap64 (t175 - t176))] rfl (by (try simp only [List.map_toArray, List.map_cons, List.map_nil]); first | done | rfl | (simp only [List.length_drop, List.length_take]; rfl)) ?_; (with_reducible refine (depotref02_held.calls (wrap64 (t175 - t176)) t177 _ A5.out).mono ?_); rintro e w8 ⟨rfl, hb⟩; refine ⟨_, rfl, ?_⟩; have n0_ := Aside0.mk (below_step (by repeat (first | (with_reducible first | exact HB.out | apply below_alloc | apply pw_below_drewN | apply below_drew1) | exact HB.out)) hb); clear HB; have HB := n0_; clear n0_; (try clear hb); (try clear hb2); (try clear hk); (try clear hi)))
  go_ret
  exact ⟨by first | rfl | (simp [errW_none, errW_some] <;> rfl) | (simp [*, errW_none, errW_some] <;> rfl), by repeat (first | (with_reducible first | exact HB.out | apply below_alloc | apply pw_below_drewN | apply below_drew1) | exact HB.out)⟩

end Go.Proofs.YtheimnfgiigfoaaDoor.PR
