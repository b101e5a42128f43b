-- Out of the translation, by a program of this session: each function that a law comes to as a Lean function, and that the machine's call does what it says. Lean checks it.
import Derived.Test.YtheimnfgiigfoaaDoorPR0
import Derived.Test.YtheimnfgiigfoaaDoorPR4
namespace Go.Proofs.YtheimnfgiigfoaaDoor.PR
open Go.RowKit Go.Proofs.YtheimnfgiigfoaaDoorW.PrintWords Go.Proofs.YtheimnfgiigfoaaDoorW.PrintLast Go.Proofs.YtheimnfgiigfoaaDoorW.PrintMore
attribute [local go_sem] max2_int min2_int max_two min_two max_three min_three max_four min_four   -- for this text's walks alone
set_option linter.unusedVariables false
set_option linter.unusedSimpArgs false

/-! ### depotlaw02_DecimalHeld: function 7 -/
def depotlaw02_DecimalHeld.j0 : Nat → Int → Int → Int → Bool → Option (Bool)
  | 0, _, _, _, _ => none
  | k + 1, x0, x1, x7, x48 => if x48 = true then (some false) else (if x0 < 0 then (if x0 > x1 then ((depotlaw02_counts.f k).bind fun t204 => (some t204)) else ((decimal_Less.f k x0 x1).bind fun t205 => (if t205 = 0 then ((depotlaw02_counts.f k).bind fun t206 => (some t206)) else (some false)))) else (if x1 < 0 then (if x0 > x1 then ((depotlaw02_counts.f k).bind fun t207 => (some t207)) else ((decimal_Less.f k x0 x1).bind fun t208 => (if t208 = 0 then ((depotlaw02_counts.f k).bind fun t209 => (some t209)) else (some false)))) else (if x7 = 2147483648 then (if x0 > x1 then ((depotlaw02_counts.f k).bind fun t210 => (some t210)) else ((decimal_Less.f k x0 x1).bind fun t211 => (if t211 = 0 then ((depotlaw02_counts.f k).bind fun t212 => (some t212)) else (some false)))) else ((decimal_Less.f k x7 x1).bind fun t213 => (if t213 = x0 then (if x0 > x1 then ((depotlaw02_counts.f k).bind fun t214 => (some t214)) else ((decimal_Less.f k x0 x1).bind fun t215 => (if t215 = 0 then ((depotlaw02_counts.f k).bind fun t216 => (some t216)) else (some false)))) else (some false))))))
def depotlaw02_DecimalHeld.f (k : Nat) (a0 : Int) (a1 : Int) (a2 : Int) : Option (Bool) := (decimal_Add.f k a0 a1).bind fun t197 => ((decimal_Add.f k a1 a0).bind fun t198 => (if t197 = t198 then (if t197 < 0 then (depotlaw02_DecimalHeld.j0 k a0 a1 t197 true) else (if t197 > 2147483648 then (depotlaw02_DecimalHeld.j0 k a0 a1 t197 true) else ((decimal_Add.f k t197 a2).bind fun t199 => ((decimal_Add.f k a1 a2).bind fun t200 => ((decimal_Add.f k a0 t200).bind fun t201 => (if t199 = t201 then (if a1 ≤ a2 then ((decimal_Add.f k a0 a1).bind fun t202 => ((decimal_Add.f k a0 a2).bind fun t203 => (depotlaw02_DecimalHeld.j0 k a0 a1 t197 (decide (t202 > t203))))) else (depotlaw02_DecimalHeld.j0 k a0 a1 t197 false)) else (depotlaw02_DecimalHeld.j0 k a0 a1 t197 true))))))) else (depotlaw02_DecimalHeld.j0 k a0 a1 t197 true)))
theorem depotlaw02_DecimalHeld.mono_l : ∀ k, (∀ y0 y1 y2 y3, LeO (depotlaw02_DecimalHeld.j0 k y0 y1 y2 y3) (depotlaw02_DecimalHeld.j0 (k + 1) y0 y1 y2 y3))
  | 0 => fun _ _ _ _ r h => by simp [depotlaw02_DecimalHeld.j0] at h
  | k + 1 => by
    have ih0 := depotlaw02_DecimalHeld.mono_l k
    · intro y0 y1 y2 y3
      unfold depotlaw02_DecimalHeld.j0
      repeat' first
      | (with_reducible exact ih0 _ _ _ _)
      | (with_reducible exact decimal_Add.mono _ _ _)
      | (with_reducible exact decimal_Less.mono _ _ _)
      | (with_reducible exact depotlaw02_counts.mono _)
      | (with_reducible exact LeO.refl _)
      | (with_reducible exact LeO.none _)
      | (with_reducible refine LeO.ite ?_ ?_)
      | (with_reducible refine LeO.bind ?_ (fun _ => ?_))
      | exact ih0 _ _ _ _
      | exact decimal_Add.mono _ _ _
      | exact decimal_Less.mono _ _ _
      | exact depotlaw02_counts.mono _
      | exact LeO.none _
      | refine LeO.ite ?_ ?_
      | refine LeO.bind ?_ (fun _ => ?_)
theorem depotlaw02_DecimalHeld.mono : ∀ a0 a1 a2 k, LeO (depotlaw02_DecimalHeld.f k a0 a1 a2) (depotlaw02_DecimalHeld.f (k + 1) a0 a1 a2) := by
  intro a0 a1 a2 k
  have ih0 := depotlaw02_DecimalHeld.mono_l k
  unfold depotlaw02_DecimalHeld.f
  repeat' first
      | (with_reducible exact ih0 _ _ _ _)
      | (with_reducible exact decimal_Add.mono _ _ _)
      | (with_reducible exact decimal_Less.mono _ _ _)
      | (with_reducible exact depotlaw02_counts.mono _)
      | (with_reducible exact LeO.refl _)
      | (with_reducible exact LeO.none _)
      | (with_reducible refine LeO.ite ?_ ?_)
      | (with_reducible refine LeO.bind ?_ (fun _ => ?_))
      | exact ih0 _ _ _ _
      | exact decimal_Add.mono _ _ _
      | exact decimal_Less.mono _ _ _
      | exact depotlaw02_counts.mono _
      | exact LeO.none _
      | refine LeO.ite ?_ ?_
      | refine LeO.bind ?_ (fun _ => ?_)
set_option maxHeartbeats 8000000 in
set_option maxRecDepth 100000 in
theorem depotlaw02_DecimalHeld.calls (k : Nat) (a0 : Int) (a1 : Int) (a2 : Int) (r : Bool) (w : World) (HTRUE : Aside0 (r = true)) (HT : Aside0 (Hand.Laid w)) (h : depotlaw02_DecimalHeld.f k a0 a1 a2 = some r) :
    Calls Tryd.prog 7 #[.int .i64 a0, .int .i64 a1, .int .i64 a2] w fun e w' => e = .returned (.bool r) ∧ Below w.heap.size w w' := by
  have HB := Aside0.mk (Below.refl w.heap.size w)
  have H : ((decimal_Add.f k a0 a1).bind fun t197 => ((decimal_Add.f k a1 a0).bind fun t198 => (if t197 = t198 then (if t197 < 0 then (depotlaw02_DecimalHeld.j0 k a0 a1 t197 true) else (if t197 > 2147483648 then (depotlaw02_DecimalHeld.j0 k a0 a1 t197 true) else ((decimal_Add.f k t197 a2).bind fun t199 => ((decimal_Add.f k a1 a2).bind fun t200 => ((decimal_Add.f k a0 t200).bind fun t201 => (if t199 = t201 then (if a1 ≤ a2 then ((decimal_Add.f k a0 a1).bind fun t202 => ((decimal_Add.f k a0 a2).bind fun t203 => (depotlaw02_DecimalHeld.j0 k a0 a1 t197 (decide (t202 > t203))))) else (depotlaw02_DecimalHeld.j0 k a0 a1 t197 false)) else (depotlaw02_DecimalHeld.j0 k a0 a1 t197 true))))))) else (depotlaw02_DecimalHeld.j0 k a0 a1 t197 true)))) = some r := h
  clear h
  replace H := Option.bind_eq_some_iff.mp H
  obtain ⟨t197, A40, H⟩ := H
  replace H : ((decimal_Add.f k a1 a0).bind fun t198 => (if t197 = t198 then (if t197 < 0 then (depotlaw02_DecimalHeld.j0 k a0 a1 t197 true) else (if t197 > 2147483648 then (depotlaw02_DecimalHeld.j0 k a0 a1 t197 true) else ((decimal_Add.f k t197 a2).bind fun t199 => ((decimal_Add.f k a1 a2).bind fun t200 => ((decimal_Add.f k a0 t200).bind fun t201 => (if t199 = t201 then (if a1 ≤ a2 then ((decimal_Add.f k a0 a1).bind fun t202 => ((decimal_Add.f k a0 a2).bind fun t203 => (depotlaw02_DecimalHeld.j0 k a0 a1 t197 (decide (t202 > t203))))) else (depotlaw02_DecimalHeld.j0 k a0 a1 t197 false)) else (depotlaw02_DecimalHeld.j0 k a0 a1 t197 true))))))) else (depotlaw02_DecimalHeld.j0 k a0 a1 t197 true))) = some r := H
  have A4 := Aside0.mk A40
  clear A40
  have HC5 := Aside0.mk H
  clear H
  go_enter Tryd.func7, Tryd.ntmps7
  go_upto_region 2 with (first | ((with_reducible refine gate_callee (f := 21) rfl ?_); refine goesL_ (some 10) rfl rfl Tryd.func21 (by kernel_rfl) rfl #[.int .i64 a0, .int .i64 a1] rfl (by (try simp only [List.map_toArray, List.map_cons, List.map_nil]); first | done | rfl | (simp only [List.length_drop, List.length_take]; rfl)) ?_; (with_reducible refine (decimal_Add.calls k a0 a1 t197 _ A4.out).mono ?_); rintro e w6 ⟨rfl, hb⟩; refine ⟨_, rfl, ?_⟩; have n0_ := Aside0.mk (below_step (by repeat (first | (with_reducible first | exact HB.out | apply below_alloc | apply pw_below_drewN | apply below_drew1) | exact HB.out)) hb); clear HB; have HB := n0_; clear n0_; (try clear hb); (try clear hb2); (try clear hk); (try clear hi)))
  (try simp only [Act.put, List.setIfInBounds_toArray, List.set_cons_zero, List.set_cons_succ])
  go_cut [48] (fun v48 wc => ∃ (kq : Nat) (x48_4 : Bool), v48 = .bool x48_4 ∧ Aside0 (depotlaw02_DecimalHeld.j0 kq a0 a1 t197 x48_4 = some r) ∧ Aside0 (kq ≤ k) ∧ Aside0 (Below w.heap.size w wc))
  case first =>
    have H := HC5.out
    clear HC5
    replace H := Option.bind_eq_some_iff.mp H
    obtain ⟨t198, A70, H⟩ := H
    replace H : (if t197 = t198 then (if t197 < 0 then (depotlaw02_DecimalHeld.j0 k a0 a1 t197 true) else (if t197 > 2147483648 then (depotlaw02_DecimalHeld.j0 k a0 a1 t197 true) else ((decimal_Add.f k t197 a2).bind fun t199 => ((decimal_Add.f k a1 a2).bind fun t200 => ((decimal_Add.f k a0 t200).bind fun t201 => (if t199 = t201 then (if a1 ≤ a2 then ((decimal_Add.f k a0 a1).bind fun t202 => ((decimal_Add.f k a0 a2).bind fun t203 => (depotlaw02_DecimalHeld.j0 k a0 a1 t197 (decide (t202 > t203))))) else (depotlaw02_DecimalHeld.j0 k a0 a1 t197 false)) else (depotlaw02_DecimalHeld.j0 k a0 a1 t197 true))))))) else (depotlaw02_DecimalHeld.j0 k a0 a1 t197 true)) = some r := H
    have A7 := Aside0.mk A70
    clear A70
    by_cases c8 : t197 = t198
    · rw [if_pos c8] at H
      have c8b0 : (t197 == t198) = true := beq_iff_eq.mpr c8
      have c8b1 : (t197 != t198) = false := bne_eq_false_iff_eq.mpr c8
      clear c8
      (first | rw [c8b0] | (simp only [i64_w, i32_w]; rw [c8b0]) | skip)
      by_cases c9 : t197 < 0
      · rw [if_pos c9] at H
        have c9b0 : decide (t197 < 0) = true := decide_eq_true c9
        clear c9
        have H' := Aside0.mk H
        clear H
        go_wp2_with (first | ((with_reducible refine gate_callee (f := 21) rfl ?_); refine goesL_ (some 14) rfl rfl Tryd.func21 (by kernel_rfl) rfl #[.int .i64 a1, .int .i64 a0] rfl (by (try simp only [List.map_toArray, List.map_cons, List.map_nil]); first | done | rfl | (simp only [List.length_drop, List.length_take]; rfl)) ?_; (with_reducible refine (decimal_Add.calls k a1 a0 t198 _ A7.out).mono ?_); rintro e w10 ⟨rfl, hb⟩; refine ⟨_, rfl, ?_⟩; have n0_ := Aside0.mk (below_step (by repeat (first | (with_reducible first | exact HB.out | apply below_alloc | apply pw_below_drewN | apply below_drew1) | exact HB.out)) hb); clear HB; have HB := n0_; clear n0_; (try clear hb); (try clear hb2); (try clear hk); (try clear hi)))
        go_meet
        case rel => exact ⟨_, (true), (by first | rfl | (simp; done) | (simp [*]; done)), H', ⟨by first | omega | exact Nat.le_refl _⟩, ⟨by repeat (first | (with_reducible first | exact HB.out | apply below_alloc | apply pw_below_drewN | apply below_drew1) | exact HB.out)⟩⟩
      · rw [if_neg c9] at H
        have c9b0 : decide (t197 < 0) = false := decide_eq_false c9
        clear c9
        by_cases c11 : t197 > 2147483648
        · rw [if_pos c11] at H
          have c11b0 : decide (2147483648 < t197) = true := decide_eq_true c11
          clear c11
          have H' := Aside0.mk H
          clear H
          go_wp2_with (first | ((with_reducible refine gate_callee (f := 21) rfl ?_); refine goesL_ (some 14) rfl rfl Tryd.func21 (by kernel_rfl) rfl #[.int .i64 a1, .int .i64 a0] rfl (by (try simp only [List.map_toArray, List.map_cons, List.map_nil]); first | done | rfl | (simp only [List.length_drop, List.length_take]; rfl)) ?_; (with_reducible refine (decimal_Add.calls k a1 a0 t198 _ A7.out).mono ?_); rintro e w12 ⟨rfl, hb⟩; refine ⟨_, rfl, ?_⟩; have n0_ := Aside0.mk (below_step (by repeat (first | (with_reducible first | exact HB.out | apply below_alloc | apply pw_below_drewN | apply below_drew1) | exact HB.out)) hb); clear HB; have HB := n0_; clear n0_; (try clear hb); (try clear hb2); (try clear hk); (try clear hi)))
          go_meet
          case rel => exact ⟨_, (true), (by first | rfl | (simp; done) | (simp [*]; done)), H', ⟨by first | omega | exact Nat.le_refl _⟩, ⟨by repeat (first | (with_reducible first | exact HB.out | apply below_alloc | apply pw_below_drewN | apply below_drew1) | exact HB.out)⟩⟩
        · rw [if_neg c11] at H
          have c11b0 : decide (2147483648 < t197) = false := decide_eq_false c11
          clear c11
          replace H := Option.bind_eq_some_iff.mp H
          obtain ⟨t199, A130, H⟩ := H
          replace H : ((decimal_Add.f k a1 a2).bind fun t200 => ((decimal_Add.f k a0 t200).bind fun t201 => (if t199 = t201 then (if a1 ≤ a2 then ((decimal_Add.f k a0 a1).bind fun t202 => ((decimal_Add.f k a0 a2).bind fun t203 => (depotlaw02_DecimalHeld.j0 k a0 a1 t197 (decide (t202 > t203))))) else (depotlaw02_DecimalHeld.j0 k a0 a1 t197 false)) else (depotlaw02_DecimalHeld.j0 k a0 a1 t197 true)))) = some r := H
          have A13 := Aside0.mk A130
          clear A130
          replace H := Option.bind_eq_some_iff.mp H
          obtain ⟨t200, A140, H⟩ := H
          replace H : ((decimal_Add.f k a0 t200).bind fun t201 => (if t199 = t201 then (if a1 ≤ a2 then ((decimal_Add.f k a0 a1).bind fun t202 => ((decimal_Add.f k a0 a2).bind fun t203 => (depotlaw02_DecimalHeld.j0 k a0 a1 t197 (decide (t202 > t203))))) else (depotlaw02_DecimalHeld.j0 k a0 a1 t197 false)) else (depotlaw02_DecimalHeld.j0 k a0 a1 t197 true))) = some r := H
          have A14 := Aside0.mk A140
          clear A140
          replace H := Option.bind_eq_some_iff.mp H
          obtain ⟨t201, A150, H⟩ := H
          replace H : (if t199 = t201 then (if a1 ≤ a2 then ((decimal_Add.f k a0 a1).bind fun t202 => ((decimal_Add.f k a0 a2).bind fun t203 => (depotlaw02_DecimalHeld.j0 k a0 a1 t197 (decide (t202 > t203))))) else (depotlaw02_DecimalHeld.j0 k a0 a1 t197 false)) else (depotlaw02_DecimalHeld.j0 k a0 a1 t197 true)) = some r := H
          have A15 := Aside0.mk A150
          clear A150
          by_cases c16 : t199 = t201
          · rw [if_pos c16] at H
            have c16b0 : (t199 == t201) = true := beq_iff_eq.mpr c16
            have c16b1 : (t199 != t201) = false := bne_eq_false_iff_eq.mpr c16
            clear c16
            by_cases c17 : a1 ≤ a2
            · rw [if_pos c17] at H
              have c17b0 : decide (a1 ≤ a2) = true := decide_eq_true c17
              clear c17
              replace H := Option.bind_eq_some_iff.mp H
              obtain ⟨t202, A180, H⟩ := H
              replace H : ((decimal_Add.f k a0 a2).bind fun t203 => (depotlaw02_DecimalHeld.j0 k a0 a1 t197 (decide (t202 > t203)))) = some r := H
              have A18 := Aside0.mk A180
              clear A180
              replace H := Option.bind_eq_some_iff.mp H
              obtain ⟨t203, A190, H⟩ := H
              replace H : (depotlaw02_DecimalHeld.j0 k a0 a1 t197 (decide (t202 > t203))) = some r := H
              have A19 := Aside0.mk A190
              clear A190
              have H' := Aside0.mk H
              clear H
              go_wp2_with (first | ((with_reducible refine gate_callee (f := 21) rfl ?_); refine goesL_ (some 14) rfl rfl Tryd.func21 (by kernel_rfl) rfl #[.int .i64 a1, .int .i64 a0] rfl (by (try simp only [List.map_toArray, List.map_cons, List.map_nil]); first | done | rfl | (simp only [List.length_drop, List.length_take]; rfl)) ?_; (with_reducible refine (decimal_Add.calls k a1 a0 t198 _ A7.out).mono ?_); rintro e w20 ⟨rfl, hb⟩; refine ⟨_, rfl, ?_⟩; have n0_ := Aside0.mk (below_step (by repeat (first | (with_reducible first | exact HB.out | apply below_alloc | apply pw_below_drewN | apply below_drew1) | exact HB.out)) hb); clear HB; have HB := n0_; clear n0_; (try clear hb); (try clear hb2); (try clear hk); (try clear hi)) | (go_at_call 21; (with_reducible refine (decimal_Add.calls k t197 a2 t199 _ A13.out).mono ?_); rintro e w21 ⟨rfl, hb⟩; have n0_ := Aside0.mk (below_step (by repeat (first | (with_reducible first | exact HB.out | apply below_alloc | apply pw_below_drewN | apply below_drew1) | exact HB.out)) hb); clear HB; have HB := n0_; clear n0_; (try clear hb); (try clear hb2); (try clear hk); (try clear hi)) | (go_at_call 21; (with_reducible refine (decimal_Add.calls k a1 a2 t200 _ A14.out).mono ?_); rintro e w22 ⟨rfl, hb⟩; have n0_ := Aside0.mk (below_step (by repeat (first | (with_reducible first | exact HB.out | apply below_alloc | apply pw_below_drewN | apply below_drew1) | exact HB.out)) hb); clear HB; have HB := n0_; clear n0_; (try clear hb); (try clear hb2); (try clear hk); (try clear hi)) | (go_at_call 21; (with_reducible refine (decimal_Add.calls k a0 t200 t201 _ A15.out).mono ?_); rintro e w23 ⟨rfl, hb⟩; have n0_ := Aside0.mk (below_step (by repeat (first | (with_reducible first | exact HB.out | apply below_alloc | apply pw_below_drewN | apply below_drew1) | exact HB.out)) hb); clear HB; have HB := n0_; clear n0_; (try clear hb); (try clear hb2); (try clear hk); (try clear hi)) | (go_at_call 21; (with_reducible refine (decimal_Add.calls k a0 a1 t202 _ A18.out).mono ?_); rintro e w24 ⟨rfl, hb⟩; have n0_ := Aside0.mk (below_step (by repeat (first | (with_reducible first | exact HB.out | apply below_alloc | apply pw_below_drewN | apply below_drew1) | exact HB.out)) hb); clear HB; have HB := n0_; clear n0_; (try clear hb); (try clear hb2); (try clear hk); (try clear hi)) | (go_at_call 21; (with_reducible refine (decimal_Add.calls k a0 a2 t203 _ A19.out).mono ?_); rintro e w25 ⟨rfl, hb⟩; have n0_ := Aside0.mk (below_step (by repeat (first | (with_reducible first | exact HB.out | apply below_alloc | apply pw_below_drewN | apply below_drew1) | exact HB.out)) hb); clear HB; have HB := n0_; clear n0_; (try clear hb); (try clear hb2); (try clear hk); (try clear hi)))
              go_meet
              case rel => exact ⟨_, (decide (t202 > t203)), (by first | rfl | (simp; done) | (simp [*]; done)), H', ⟨by first | omega | exact Nat.le_refl _⟩, ⟨by repeat (first | (with_reducible first | exact HB.out | apply below_alloc | apply pw_below_drewN | apply below_drew1) | exact HB.out)⟩⟩
            · rw [if_neg c17] at H
              have c17b0 : decide (a1 ≤ a2) = false := decide_eq_false c17
              clear c17
              have H' := Aside0.mk H
              clear H
              go_wp2_with (first | ((with_reducible refine gate_callee (f := 21) rfl ?_); refine goesL_ (some 14) rfl rfl Tryd.func21 (by kernel_rfl) rfl #[.int .i64 a1, .int .i64 a0] rfl (by (try simp only [List.map_toArray, List.map_cons, List.map_nil]); first | done | rfl | (simp only [List.length_drop, List.length_take]; rfl)) ?_; (with_reducible refine (decimal_Add.calls k a1 a0 t198 _ A7.out).mono ?_); rintro e w26 ⟨rfl, hb⟩; refine ⟨_, rfl, ?_⟩; have n0_ := Aside0.mk (below_step (by repeat (first | (with_reducible first | exact HB.out | apply below_alloc | apply pw_below_drewN | apply below_drew1) | exact HB.out)) hb); clear HB; have HB := n0_; clear n0_; (try clear hb); (try clear hb2); (try clear hk); (try clear hi)) | (go_at_call 21; (with_reducible refine (decimal_Add.calls k t197 a2 t199 _ A13.out).mono ?_); rintro e w27 ⟨rfl, hb⟩; have n0_ := Aside0.mk (below_step (by repeat (first | (with_reducible first | exact HB.out | apply below_alloc | apply pw_below_drewN | apply below_drew1) | exact HB.out)) hb); clear HB; have HB := n0_; clear n0_; (try clear hb); (try clear hb2); (try clear hk); (try clear hi)) | (go_at_call 21; (with_reducible refine (decimal_Add.calls k a1 a2 t200 _ A14.out).mono ?_); rintro e w28 ⟨rfl, hb⟩; have n0_ := Aside0.mk (below_step (by repeat (first | (with_reducible first | exact HB.out | apply below_alloc | apply pw_below_drewN | apply below_drew1) | exact HB.out)) hb); clear HB; have HB := n0_; clear n0_; (try clear hb); (try clear hb2); (try clear hk); (try clear hi)) | (go_at_call 21; (with_reducible refine (decimal_Add.calls k a0 t200 t201 _ A15.out).mono ?_); rintro e w29 ⟨rfl, hb⟩; have n0_ := Aside0.mk (below_step (by repeat (first | (with_reducible first | exact HB.out | apply below_alloc | apply pw_below_drewN | apply below_drew1) | exact HB.out)) hb); clear HB; have HB := n0_; clear n0_; (try clear hb); (try clear hb2); (try clear hk); (try clear hi)))
              go_meet
              case rel => exact ⟨_, (false), (by first | rfl | (simp; done) | (simp [*]; done)), H', ⟨by first | omega | exact Nat.le_refl _⟩, ⟨by repeat (first | (with_reducible first | exact HB.out | apply below_alloc | apply pw_below_drewN | apply below_drew1) | exact HB.out)⟩⟩
          · rw [if_neg c16] at H
            have c16b0 : (t199 == t201) = false := beq_eq_false_iff_ne.mpr c16
            have c16b1 : (t199 != t201) = true := bne_iff_ne.mpr c16
            have H' := Aside0.mk H
            clear H
            go_wp2_with (first | ((with_reducible refine gate_callee (f := 21) rfl ?_); refine goesL_ (some 14) rfl rfl Tryd.func21 (by kernel_rfl) rfl #[.int .i64 a1, .int .i64 a0] rfl (by (try simp only [List.map_toArray, List.map_cons, List.map_nil]); first | done | rfl | (simp only [List.length_drop, List.length_take]; rfl)) ?_; (with_reducible refine (decimal_Add.calls k a1 a0 t198 _ A7.out).mono ?_); rintro e w30 ⟨rfl, hb⟩; refine ⟨_, rfl, ?_⟩; have n0_ := Aside0.mk (below_step (by repeat (first | (with_reducible first | exact HB.out | apply below_alloc | apply pw_below_drewN | apply below_drew1) | exact HB.out)) hb); clear HB; have HB := n0_; clear n0_; (try clear hb); (try clear hb2); (try clear hk); (try clear hi)) | (go_at_call 21; (with_reducible refine (decimal_Add.calls k t197 a2 t199 _ A13.out).mono ?_); rintro e w31 ⟨rfl, hb⟩; have n0_ := Aside0.mk (below_step (by repeat (first | (with_reducible first | exact HB.out | apply below_alloc | apply pw_below_drewN | apply below_drew1) | exact HB.out)) hb); clear HB; have HB := n0_; clear n0_; (try clear hb); (try clear hb2); (try clear hk); (try clear hi)) | (go_at_call 21; (with_reducible refine (decimal_Add.calls k a1 a2 t200 _ A14.out).mono ?_); rintro e w32 ⟨rfl, hb⟩; have n0_ := Aside0.mk (below_step (by repeat (first | (with_reducible first | exact HB.out | apply below_alloc | apply pw_below_drewN | apply below_drew1) | exact HB.out)) hb); clear HB; have HB := n0_; clear n0_; (try clear hb); (try clear hb2); (try clear hk); (try clear hi)) | (go_at_call 21; (with_reducible refine (decimal_Add.calls k a0 t200 t201 _ A15.out).mono ?_); rintro e w33 ⟨rfl, hb⟩; have n0_ := Aside0.mk (below_step (by repeat (first | (with_reducible first | exact HB.out | apply below_alloc | apply pw_below_drewN | apply below_drew1) | exact HB.out)) hb); clear HB; have HB := n0_; clear n0_; (try clear hb); (try clear hb2); (try clear hk); (try clear hi)))
            go_meet
            case rel => exact ⟨_, (true), (by first | rfl | (simp; done) | (simp [*]; done)), H', ⟨by first | omega | exact Nat.le_refl _⟩, ⟨by repeat (first | (with_reducible first | exact HB.out | apply below_alloc | apply pw_below_drewN | apply below_drew1) | exact HB.out)⟩⟩
    · rw [if_neg c8] at H
      have c8b0 : (t197 == t198) = false := beq_eq_false_iff_ne.mpr c8
      have c8b1 : (t197 != t198) = true := bne_iff_ne.mpr c8
      (first | rw [c8b0] | (simp only [i64_w, i32_w]; rw [c8b0]) | skip)
      have H' := Aside0.mk H
      clear H
      go_wp2_with (first | ((with_reducible refine gate_callee (f := 21) rfl ?_); refine goesL_ (some 14) rfl rfl Tryd.func21 (by kernel_rfl) rfl #[.int .i64 a1, .int .i64 a0] rfl (by (try simp only [List.map_toArray, List.map_cons, List.map_nil]); first | done | rfl | (simp only [List.length_drop, List.length_take]; rfl)) ?_; (with_reducible refine (decimal_Add.calls k a1 a0 t198 _ A7.out).mono ?_); rintro e w34 ⟨rfl, hb⟩; refine ⟨_, rfl, ?_⟩; have n0_ := Aside0.mk (below_step (by repeat (first | (with_reducible first | exact HB.out | apply below_alloc | apply pw_below_drewN | apply below_drew1) | exact HB.out)) hb); clear HB; have HB := n0_; clear n0_; (try clear hb); (try clear hb2); (try clear hk); (try clear hi)))
      go_meet
      case rel => exact ⟨_, (true), (by first | rfl | (simp; done) | (simp [*]; done)), H', ⟨by first | omega | exact Nat.le_refl _⟩, ⟨by repeat (first | (with_reducible first | exact HB.out | apply below_alloc | apply pw_below_drewN | apply below_drew1) | exact HB.out)⟩⟩
  case rest =>
    clear HC5
    try clear c1
    try clear c2
    try clear p2
    try clear c7
    try clear c8
    try clear c8b0
    try clear c8b1
    try clear c9
    try clear c9b0
    try clear c11
    try clear c11b0
    try clear c16
    try clear c16b0
    try clear c16b1
    try clear c17
    try clear c17b0
    try clear c21
    obtain ⟨kq, x48_4, rfl, HA, HJ4, HB⟩ := hcut
    cases kq with
    | zero => exact absurd HA.out (by simp [depotlaw02_DecimalHeld.j0])
    | succ kj4 =>
      have H := HA.out
      clear HA
      simp only [depotlaw02_DecimalHeld.j0] at H
      by_cases c35 : x48_4 = true
      · subst c35
        have H1 : (some false) = some r := by rw [if_pos rfl] at H; exact H
        clear H
        have H := H1
        clear H1
        obtain rfl := Option.some.inj H
        exact absurd HTRUE.out (by decide)
      · replace c35 := Bool.eq_false_iff.mpr c35
        subst c35
        have H1 : (if a0 < 0 then (if a0 > a1 then ((depotlaw02_counts.f kj4).bind fun t204 => (some t204)) else ((decimal_Less.f kj4 a0 a1).bind fun t205 => (if t205 = 0 then ((depotlaw02_counts.f kj4).bind fun t206 => (some t206)) else (some false)))) else (if a1 < 0 then (if a0 > a1 then ((depotlaw02_counts.f kj4).bind fun t207 => (some t207)) else ((decimal_Less.f kj4 a0 a1).bind fun t208 => (if t208 = 0 then ((depotlaw02_counts.f kj4).bind fun t209 => (some t209)) else (some false)))) else (if t197 = 2147483648 then (if a0 > a1 then ((depotlaw02_counts.f kj4).bind fun t210 => (some t210)) else ((decimal_Less.f kj4 a0 a1).bind fun t211 => (if t211 = 0 then ((depotlaw02_counts.f kj4).bind fun t212 => (some t212)) else (some false)))) else ((decimal_Less.f kj4 t197 a1).bind fun t213 => (if t213 = a0 then (if a0 > a1 then ((depotlaw02_counts.f kj4).bind fun t214 => (some t214)) else ((decimal_Less.f kj4 a0 a1).bind fun t215 => (if t215 = 0 then ((depotlaw02_counts.f kj4).bind fun t216 => (some t216)) else (some false)))) else (some false)))))) = some r := by rw [if_neg (show ¬ (false = true) by decide)] at H; exact H
        clear H
        have H := H1
        clear H1
        by_cases c36 : a0 < 0
        · rw [if_pos c36] at H
          have c36b0 : decide (a0 < 0) = true := decide_eq_true c36
          clear c36
          by_cases c37 : a0 > a1
          · rw [if_pos c37] at H
            have c37b0 : decide (a1 < a0) = true := decide_eq_true c37
            clear c37
            replace H := Option.bind_eq_some_iff.mp H
            obtain ⟨t204, A380, H⟩ := H
            replace H : (some t204) = some r := H
            have A38 := Aside0.mk A380
            clear A380
            obtain rfl := Option.some.inj H
            go_wp2_with (first | (go_at_call 14; (with_reducible refine (depotlaw02_counts.calls kj4  t204 _ ?side2 ?side1 A38.out).mono ?_); (case side1 => first | exact HT | exact ⟨Hand.Laid.below HT.out (by repeat (first | (with_reducible first | exact HB.out | apply below_alloc | apply pw_below_drewN | apply below_drew1) | exact HB.out))⟩); (case side2 => first | exact ⟨rfl⟩ | exact HTRUE); rintro e w39 ⟨rfl, hb⟩; have n0_ := Aside0.mk (below_step (by repeat (first | (with_reducible first | exact HB.out | apply below_alloc | apply pw_below_drewN | apply below_drew1) | exact HB.out)) hb); clear HB; have HB := n0_; clear n0_; (try clear hb); (try clear hb2); (try clear hk); (try clear hi)))
            go_ret
            exact ⟨by first | rfl | (simp [errW_none, errW_some] <;> rfl) | (simp [*, errW_none, errW_some] <;> rfl), by repeat (first | (with_reducible first | exact HB.out | apply below_alloc | apply pw_below_drewN | apply below_drew1) | exact HB.out)⟩
          · rw [if_neg c37] at H
            have c37b0 : decide (a1 < a0) = false := decide_eq_false c37
            clear c37
            replace H := Option.bind_eq_some_iff.mp H
            obtain ⟨t205, A400, H⟩ := H
            replace H : (if t205 = 0 then ((depotlaw02_counts.f kj4).bind fun t206 => (some t206)) else (some false)) = some r := H
            have A40 := Aside0.mk A400
            clear A400
            by_cases c41 : t205 = 0
            · rw [if_pos c41] at H
              have c41b0 : (t205 == 0) = true := beq_iff_eq.mpr c41
              have c41b1 : (t205 != 0) = false := bne_eq_false_iff_eq.mpr c41
              clear c41
              replace H := Option.bind_eq_some_iff.mp H
              obtain ⟨t206, A420, H⟩ := H
              replace H : (some t206) = some r := H
              have A42 := Aside0.mk A420
              clear A420
              obtain rfl := Option.some.inj H
              go_wp2_with (first | (go_at_call 23; (with_reducible refine (decimal_Less.calls kj4 a0 a1 t205 _ A40.out).mono ?_); rintro e w43 ⟨rfl, hb⟩; have n0_ := Aside0.mk (below_step (by repeat (first | (with_reducible first | exact HB.out | apply below_alloc | apply pw_below_drewN | apply below_drew1) | exact HB.out)) hb); clear HB; have HB := n0_; clear n0_; (try clear hb); (try clear hb2); (try clear hk); (try clear hi)) | (go_at_call 14; (with_reducible refine (depotlaw02_counts.calls kj4  t206 _ ?side2 ?side1 A42.out).mono ?_); (case side1 => first | exact HT | exact ⟨Hand.Laid.below HT.out (by repeat (first | (with_reducible first | exact HB.out | apply below_alloc | apply pw_below_drewN | apply below_drew1) | exact HB.out))⟩); (case side2 => first | exact ⟨rfl⟩ | exact HTRUE); rintro e w44 ⟨rfl, hb⟩; have n0_ := Aside0.mk (below_step (by repeat (first | (with_reducible first | exact HB.out | apply below_alloc | apply pw_below_drewN | apply below_drew1) | exact HB.out)) hb); clear HB; have HB := n0_; clear n0_; (try clear hb); (try clear hb2); (try clear hk); (try clear hi)))
              go_ret
              exact ⟨by first | rfl | (simp [errW_none, errW_some] <;> rfl) | (simp [*, errW_none, errW_some] <;> rfl), by repeat (first | (with_reducible first | exact HB.out | apply below_alloc | apply pw_below_drewN | apply below_drew1) | exact HB.out)⟩
            · rw [if_neg c41] at H
              have c41b0 : (t205 == 0) = false := beq_eq_false_iff_ne.mpr c41
              have c41b1 : (t205 != 0) = true := bne_iff_ne.mpr c41
              obtain rfl := Option.some.inj H
              exact absurd HTRUE.out (by decide)
        · rw [if_neg c36] at H
          have c36b0 : decide (a0 < 0) = false := decide_eq_false c36
          clear c36
          by_cases c45 : a1 < 0
          · rw [if_pos c45] at H
            have c45b0 : decide (a1 < 0) = true := decide_eq_true c45
            clear c45
            by_cases c46 : a0 > a1
            · rw [if_pos c46] at H
              have c46b0 : decide (a1 < a0) = true := decide_eq_true c46
              clear c46
              replace H := Option.bind_eq_some_iff.mp H
              obtain ⟨t207, A470, H⟩ := H
              replace H : (some t207) = some r := H
              have A47 := Aside0.mk A470
              clear A470
              obtain rfl := Option.some.inj H
              go_wp2_with (first | (go_at_call 14; (with_reducible refine (depotlaw02_counts.calls kj4  t207 _ ?side2 ?side1 A47.out).mono ?_); (case side1 => first | exact HT | exact ⟨Hand.Laid.below HT.out (by repeat (first | (with_reducible first | exact HB.out | apply below_alloc | apply pw_below_drewN | apply below_drew1) | exact HB.out))⟩); (case side2 => first | exact ⟨rfl⟩ | exact HTRUE); rintro e w48 ⟨rfl, hb⟩; have n0_ := Aside0.mk (below_step (by repeat (first | (with_reducible first | exact HB.out | apply below_alloc | apply pw_below_drewN | apply below_drew1) | exact HB.out)) hb); clear HB; have HB := n0_; clear n0_; (try clear hb); (try clear hb2); (try clear hk); (try clear hi)))
              go_ret
              exact ⟨by first | rfl | (simp [errW_none, errW_some] <;> rfl) | (simp [*, errW_none, errW_some] <;> rfl), by repeat (first | (with_reducible first | exact HB.out | apply below_alloc | apply pw_below_drewN | apply below_drew1) | exact HB.out)⟩
            · rw [if_neg c46] at H
              have c46b0 : decide (a1 < a0) = false := decide_eq_false c46
              clear c46
              replace H := Option.bind_eq_some_iff.mp H
              obtain ⟨t208, A490, H⟩ := H
              replace H : (if t208 = 0 then ((depotlaw02_counts.f kj4).bind fun t209 => (some t209)) else (some false)) = some r := H
              have A49 := Aside0.mk A490
              clear A490
              by_cases c50 : t208 = 0
              · rw [if_pos c50] at H
                have c50b0 : (t208 == 0) = true := beq_iff_eq.mpr c50
                have c50b1 : (t208 != 0) = false := bne_eq_false_iff_eq.mpr c50
                clear c50
                replace H := Option.bind_eq_some_iff.mp H
                obtain ⟨t209, A510, H⟩ := H
                replace H : (some t209) = some r := H
                have A51 := Aside0.mk A510
                clear A510
                obtain rfl := Option.some.inj H
                go_wp2_with (first | (go_at_call 23; (with_reducible refine (decimal_Less.calls kj4 a0 a1 t208 _ A49.out).mono ?_); rintro e w52 ⟨rfl, hb⟩; have n0_ := Aside0.mk (below_step (by repeat (first | (with_reducible first | exact HB.out | apply below_alloc | apply pw_below_drewN | apply below_drew1) | exact HB.out)) hb); clear HB; have HB := n0_; clear n0_; (try clear hb); (try clear hb2); (try clear hk); (try clear hi)) | (go_at_call 14; (with_reducible refine (depotlaw02_counts.calls kj4  t209 _ ?side2 ?side1 A51.out).mono ?_); (case side1 => first | exact HT | exact ⟨Hand.Laid.below HT.out (by repeat (first | (with_reducible first | exact HB.out | apply below_alloc | apply pw_below_drewN | apply below_drew1) | exact HB.out))⟩); (case side2 => first | exact ⟨rfl⟩ | exact HTRUE); rintro e w53 ⟨rfl, hb⟩; have n0_ := Aside0.mk (below_step (by repeat (first | (with_reducible first | exact HB.out | apply below_alloc | apply pw_below_drewN | apply below_drew1) | exact HB.out)) hb); clear HB; have HB := n0_; clear n0_; (try clear hb); (try clear hb2); (try clear hk); (try clear hi)))
                go_ret
                exact ⟨by first | rfl | (simp [errW_none, errW_some] <;> rfl) | (simp [*, errW_none, errW_some] <;> rfl), by repeat (first | (with_reducible first | exact HB.out | apply below_alloc | apply pw_below_drewN | apply below_drew1) | exact HB.out)⟩
              · rw [if_neg c50] at H
                have c50b0 : (t208 == 0) = false := beq_eq_false_iff_ne.mpr c50
                have c50b1 : (t208 != 0) = true := bne_iff_ne.mpr c50
                obtain rfl := Option.some.inj H
                exact absurd HTRUE.out (by decide)
          · rw [if_neg c45] at H
            have c45b0 : decide (a1 < 0) = false := decide_eq_false c45
            clear c45
            by_cases c54 : t197 = 2147483648
            · rw [if_pos c54] at H
              have c54b0 : (t197 == 2147483648) = true := beq_iff_eq.mpr c54
              have c54b1 : (t197 != 2147483648) = false := bne_eq_false_iff_eq.mpr c54
              clear c54
              by_cases c55 : a0 > a1
              · rw [if_pos c55] at H
                have c55b0 : decide (a1 < a0) = true := decide_eq_true c55
                clear c55
                replace H := Option.bind_eq_some_iff.mp H
                obtain ⟨t210, A560, H⟩ := H
                replace H : (some t210) = some r := H
                have A56 := Aside0.mk A560
                clear A560
                obtain rfl := Option.some.inj H
                go_wp2_with (first | (go_at_call 14; (with_reducible refine (depotlaw02_counts.calls kj4  t210 _ ?side2 ?side1 A56.out).mono ?_); (case side1 => first | exact HT | exact ⟨Hand.Laid.below HT.out (by repeat (first | (with_reducible first | exact HB.out | apply below_alloc | apply pw_below_drewN | apply below_drew1) | exact HB.out))⟩); (case side2 => first | exact ⟨rfl⟩ | exact HTRUE); rintro e w57 ⟨rfl, hb⟩; have n0_ := Aside0.mk (below_step (by repeat (first | (with_reducible first | exact HB.out | apply below_alloc | apply pw_below_drewN | apply below_drew1) | exact HB.out)) hb); clear HB; have HB := n0_; clear n0_; (try clear hb); (try clear hb2); (try clear hk); (try clear hi)))
                go_ret
                exact ⟨by first | rfl | (simp [errW_none, errW_some] <;> rfl) | (simp [*, errW_none, errW_some] <;> rfl), by repeat (first | (with_reducible first | exact HB.out | apply below_alloc | apply pw_below_drewN | apply below_drew1) | exact HB.out)⟩
              · rw [if_neg c55] at H
                have c55b0 : decide (a1 < a0) = false := decide_eq_false c55
                clear c55
                replace H := Option.bind_eq_some_iff.mp H
                obtain ⟨t211, A580, H⟩ := H
                replace H : (if t211 = 0 then ((depotlaw02_counts.f kj4).bind fun t212 => (some t212)) else (some false)) = some r := H
                have A58 := Aside0.mk A580
                clear A580
                by_cases c59 : t211 = 0
                · rw [if_pos c59] at H
                  have c59b0 : (t211 == 0) = true := beq_iff_eq.mpr c59
                  have c59b1 : (t211 != 0) = false := bne_eq_false_iff_eq.mpr c59
                  clear c59
                  replace H := Option.bind_eq_some_iff.mp H
                  obtain ⟨t212, A600, H⟩ := H
                  replace H : (some t212) = some r := H
                  have A60 := Aside0.mk A600
                  clear A600
                  obtain rfl := Option.some.inj H
                  go_wp2_with (first | (go_at_call 23; (with_reducible refine (decimal_Less.calls kj4 a0 a1 t211 _ A58.out).mono ?_); rintro e w61 ⟨rfl, hb⟩; have n0_ := Aside0.mk (below_step (by repeat (first | (with_reducible first | exact HB.out | apply below_alloc | apply pw_below_drewN | apply below_drew1) | exact HB.out)) hb); clear HB; have HB := n0_; clear n0_; (try clear hb); (try clear hb2); (try clear hk); (try clear hi)) | (go_at_call 14; (with_reducible refine (depotlaw02_counts.calls kj4  t212 _ ?side2 ?side1 A60.out).mono ?_); (case side1 => first | exact HT | exact ⟨Hand.Laid.below HT.out (by repeat (first | (with_reducible first | exact HB.out | apply below_alloc | apply pw_below_drewN | apply below_drew1) | exact HB.out))⟩); (case side2 => first | exact ⟨rfl⟩ | exact HTRUE); rintro e w62 ⟨rfl, hb⟩; have n0_ := Aside0.mk (below_step (by repeat (first | (with_reducible first | exact HB.out | apply below_alloc | apply pw_below_drewN | apply below_drew1) | exact HB.out)) hb); clear HB; have HB := n0_; clear n0_; (try clear hb); (try clear hb2); (try clear hk); (try clear hi)))
                  go_ret
                  exact ⟨by first | rfl | (simp [errW_none, errW_some] <;> rfl) | (simp [*, errW_none, errW_some] <;> rfl), by repeat (first | (with_reducible first | exact HB.out | apply below_alloc | apply pw_below_drewN | apply below_drew1) | exact HB.out)⟩
                · rw [if_neg c59] at H
                  have c59b0 : (t211 == 0) = false := beq_eq_false_iff_ne.mpr c59
                  have c59b1 : (t211 != 0) = true := bne_iff_ne.mpr c59
                  obtain rfl := Option.some.inj H
                  exact absurd HTRUE.out (by decide)
            · rw [if_neg c54] at H
              have c54b0 : (t197 == 2147483648) = false := beq_eq_false_iff_ne.mpr c54
              have c54b1 : (t197 != 2147483648) = true := bne_iff_ne.mpr c54
              replace H := Option.bind_eq_some_iff.mp H
              obtain ⟨t213, A630, H⟩ := H
              replace H : (if t213 = a0 then (if a0 > a1 then ((depotlaw02_counts.f kj4).bind fun t214 => (some t214)) else ((decimal_Less.f kj4 a0 a1).bind fun t215 => (if t215 = 0 then ((depotlaw02_counts.f kj4).bind fun t216 => (some t216)) else (some false)))) else (some false)) = some r := H
              have A63 := Aside0.mk A630
              clear A630
              by_cases c64 : t213 = a0
              · rw [if_pos c64] at H
                have c64b0 : (t213 == a0) = true := beq_iff_eq.mpr c64
                have c64b1 : (t213 != a0) = false := bne_eq_false_iff_eq.mpr c64
                clear c64
                by_cases c65 : a0 > a1
                · rw [if_pos c65] at H
                  have c65b0 : decide (a1 < a0) = true := decide_eq_true c65
                  clear c65
                  replace H := Option.bind_eq_some_iff.mp H
                  obtain ⟨t214, A660, H⟩ := H
                  replace H : (some t214) = some r := H
                  have A66 := Aside0.mk A660
                  clear A660
                  obtain rfl := Option.some.inj H
                  go_wp2_with (first | (go_at_call 23; (with_reducible refine (decimal_Less.calls kj4 t197 a1 t213 _ A63.out).mono ?_); rintro e w67 ⟨rfl, hb⟩; have n0_ := Aside0.mk (below_step (by repeat (first | (with_reducible first | exact HB.out | apply below_alloc | apply pw_below_drewN | apply below_drew1) | exact HB.out)) hb); clear HB; have HB := n0_; clear n0_; (try clear hb); (try clear hb2); (try clear hk); (try clear hi)) | (go_at_call 14; (with_reducible refine (depotlaw02_counts.calls kj4  t214 _ ?side2 ?side1 A66.out).mono ?_); (case side1 => first | exact HT | exact ⟨Hand.Laid.below HT.out (by repeat (first | (with_reducible first | exact HB.out | apply below_alloc | apply pw_below_drewN | apply below_drew1) | exact HB.out))⟩); (case side2 => first | exact ⟨rfl⟩ | exact HTRUE); rintro e w68 ⟨rfl, hb⟩; have n0_ := Aside0.mk (below_step (by repeat (first | (with_reducible first | exact HB.out | apply below_alloc | apply pw_below_drewN | apply below_drew1) | exact HB.out)) hb); clear HB; have HB := n0_; clear n0_; (try clear hb); (try clear hb2); (try clear hk); (try clear hi)))
                  go_ret
                  exact ⟨by first | rfl | (simp [errW_none, errW_some] <;> rfl) | (simp [*, errW_none, errW_some] <;> rfl), by repeat (first | (with_reducible first | exact HB.out | apply below_alloc | apply pw_below_drewN | apply below_drew1) | exact HB.out)⟩
                · rw [if_neg c65] at H
                  have c65b0 : decide (a1 < a0) = false := decide_eq_false c65
                  clear c65
                  replace H := Option.bind_eq_some_iff.mp H
                  obtain ⟨t215, A690, H⟩ := H
                  replace H : (if t215 = 0 then ((depotlaw02_counts.f kj4).bind fun t216 => (some t216)) else (some false)) = some r := H
                  have A69 := Aside0.mk A690
                  clear A690
                  by_cases c70 : t215 = 0
                  · rw [if_pos c70] at H
                    have c70b0 : (t215 == 0) = true := beq_iff_eq.mpr c70
                    have c70b1 : (t215 != 0) = false := bne_eq_false_iff_eq.mpr c70
                    clear c70
                    replace H := Option.bind_eq_some_iff.mp H
                    obtain ⟨t216, A710, H⟩ := H
                    replace H : (some t216) = some r := H
                    have A71 := Aside0.mk A710
                    clear A710
                    obtain rfl := Option.some.inj H
                    go_wp2_with (first | (go_at_call 23; (with_reducible refine (decimal_Less.calls kj4 t197 a1 t213 _ A63.out).mono ?_); rintro e w72 ⟨rfl, hb⟩; have n0_ := Aside0.mk (below_step (by repeat (first | (with_reducible first | exact HB.out | apply below_alloc | apply pw_below_drewN | apply below_drew1) | exact HB.out)) hb); clear HB; have HB := n0_; clear n0_; (try clear hb); (try clear hb2); (try clear hk); (try clear hi)) | (go_at_call 23; (with_reducible refine (decimal_Less.calls kj4 a0 a1 t215 _ A69.out).mono ?_); rintro e w73 ⟨rfl, hb⟩; have n0_ := Aside0.mk (below_step (by repeat (first | (with_reducible first | exact HB.out | apply below_alloc | apply pw_below_drewN | apply below_drew1) | exact HB.out)) hb); clear HB; have HB := n0_; clear n0_; (try clear hb); (try clear hb2); (try clear hk); (try clear hi)) | (go_at_call 14; (with_reducible refine (depotlaw02_counts.calls kj4  t216 _ ?side2 ?side1 A71.out).mono ?_); (case side1 => first | exact HT | exact ⟨Hand.Laid.below HT.out (by repeat (first | (with_reducible first | exact HB.out | apply below_alloc | apply pw_below_drewN | apply below_drew1) | exact HB.out))⟩); (case side2 => first | exact ⟨rfl⟩ | exact HTRUE); rintro e w74 ⟨rfl, hb⟩; have n0_ := Aside0.mk (below_step (by repeat (first | (with_reducible first | exact HB.out | apply below_alloc | apply pw_below_drewN | apply below_drew1) | exact HB.out)) hb); clear HB; have HB := n0_; clear n0_; (try clear hb); (try clear hb2); (try clear hk); (try clear hi)))
                    go_ret
                    exact ⟨by first | rfl | (simp [errW_none, errW_some] <;> rfl) | (simp [*, errW_none, errW_some] <;> rfl), by repeat (first | (with_reducible first | exact HB.out | apply below_alloc | apply pw_below_drewN | apply below_drew1) | exact HB.out)⟩
                  · rw [if_neg c70] at H
                    have c70b0 : (t215 == 0) = false := beq_eq_false_iff_ne.mpr c70
                    have c70b1 : (t215 != 0) = true := bne_iff_ne.mpr c70
                    obtain rfl := Option.some.inj H
                    exact absurd HTRUE.out (by decide)
              · rw [if_neg c64] at H
                have c64b0 : (t213 == a0) = false := beq_eq_false_iff_ne.mpr c64
                have c64b1 : (t213 != a0) = true := bne_iff_ne.mpr c64
                obtain rfl := Option.some.inj H
                exact absurd HTRUE.out (by decide)

end Go.Proofs.YtheimnfgiigfoaaDoor.PR
