-- Out of the translation, by a program of this session: each function that a law comes to as a Lean function, and that the machine's call does what it says. Lean checks it.
import Derived.Test.YtheimnfgiigfoaaDoorPR0
import Derived.Test.YtheimnfgiigfoaaDoorPR1
import Derived.Test.YtheimnfgiigfoaaDoorPR2
import Derived.Test.YtheimnfgiigfoaaDoorPR3
import Derived.Test.YtheimnfgiigfoaaDoorPR4
import Derived.Test.YtheimnfgiigfoaaDoorPR7
namespace Go.Proofs.YtheimnfgiigfoaaDoor.PR
open Go.RowKit Go.Proofs.YtheimnfgiigfoaaDoorW.PrintWords Go.Proofs.YtheimnfgiigfoaaDoorW.PrintLast Go.Proofs.YtheimnfgiigfoaaDoorW.PrintMore
attribute [local go_sem] max2_int min2_int max_two min_two max_three min_three max_four min_four   -- for this text's walks alone
set_option linter.unusedVariables false
set_option linter.unusedSimpArgs false

/-! ### depotlaw02_DecimalSums: function 5 -/
def depotlaw02_DecimalSums.f (k : Nat) (a0 : Int) (a1 : Int) : Option (Bool) := (decimal_Add.f k a0 a1).bind fun t178 => ((depotref02_Add.f a0 a1).bind fun t179 => (if t178 = t179 then ((decimal_Less.f k a0 a1).bind fun t180 => ((depotref02_Less.f a0 a1).bind fun t181 => (if t180 = t181 then ((depotlaw02_counts.f k).bind fun t182 => (some t182)) else (some false)))) else (some false)))
theorem depotlaw02_DecimalSums.mono : ∀ a0 a1 k, LeO (depotlaw02_DecimalSums.f k a0 a1) (depotlaw02_DecimalSums.f (k + 1) a0 a1) := by
  intro a0 a1 k
  unfold depotlaw02_DecimalSums.f
  repeat' first
      | (with_reducible exact decimal_Add.mono _ _ _)
      | (with_reducible exact decimal_Less.mono _ _ _)
      | (with_reducible exact depotlaw02_counts.mono _)
      | (with_reducible exact LeO.refl _)
      | (with_reducible exact LeO.none _)
      | (with_reducible refine LeO.ite ?_ ?_)
      | (with_reducible refine LeO.bind ?_ (fun _ => ?_))
      | exact decimal_Add.mono _ _ _
      | exact decimal_Less.mono _ _ _
      | exact depotlaw02_counts.mono _
      | exact LeO.none _
      | refine LeO.ite ?_ ?_
      | refine LeO.bind ?_ (fun _ => ?_)
set_option maxHeartbeats 8000000 in
set_option maxRecDepth 100000 in
theorem depotlaw02_DecimalSums.calls (k : Nat) (a0 : Int) (a1 : Int) (r : Bool) (w : World) (HTRUE : Aside0 (r = true)) (HT : Aside0 (Hand.Laid w)) (h : depotlaw02_DecimalSums.f k a0 a1 = some r) :
    Calls Tryd.prog 5 #[.int .i64 a0, .int .i64 a1] w fun e w' => e = .returned (.bool r) ∧ Below w.heap.size w w' := by
  have HB := Aside0.mk (Below.refl w.heap.size w)
  have H : ((decimal_Add.f k a0 a1).bind fun t178 => ((depotref02_Add.f a0 a1).bind fun t179 => (if t178 = t179 then ((decimal_Less.f k a0 a1).bind fun t180 => ((depotref02_Less.f a0 a1).bind fun t181 => (if t180 = t181 then ((depotlaw02_counts.f k).bind fun t182 => (some t182)) else (some false)))) else (some false)))) = some r := h
  clear h
  replace H := Option.bind_eq_some_iff.mp H
  obtain ⟨t178, A30, H⟩ := H
  replace H : ((depotref02_Add.f a0 a1).bind fun t179 => (if t178 = t179 then ((decimal_Less.f k a0 a1).bind fun t180 => ((depotref02_Less.f a0 a1).bind fun t181 => (if t180 = t181 then ((depotlaw02_counts.f k).bind fun t182 => (some t182)) else (some false)))) else (some false))) = some r := H
  have A3 := Aside0.mk A30
  clear A30
  replace H := Option.bind_eq_some_iff.mp H
  obtain ⟨t179, A40, H⟩ := H
  replace H : (if t178 = t179 then ((decimal_Less.f k a0 a1).bind fun t180 => ((depotref02_Less.f a0 a1).bind fun t181 => (if t180 = t181 then ((depotlaw02_counts.f k).bind fun t182 => (some t182)) else (some false)))) else (some false)) = some r := H
  have A4 := Aside0.mk A40
  clear A40
  by_cases c5 : t178 = t179
  · rw [if_pos c5] at H
    have c5b0 : (t178 == t179) = true := beq_iff_eq.mpr c5
    have c5b1 : (t178 != t179) = false := bne_eq_false_iff_eq.mpr c5
    clear c5
    replace H := Option.bind_eq_some_iff.mp H
    obtain ⟨t180, A60, H⟩ := H
    replace H : ((depotref02_Less.f a0 a1).bind fun t181 => (if t180 = t181 then ((depotlaw02_counts.f k).bind fun t182 => (some t182)) else (some false))) = some r := H
    have A6 := Aside0.mk A60
    clear A60
    replace H := Option.bind_eq_some_iff.mp H
    obtain ⟨t181, A70, H⟩ := H
    replace H : (if t180 = t181 then ((depotlaw02_counts.f k).bind fun t182 => (some t182)) else (some false)) = some r := H
    have A7 := Aside0.mk A70
    clear A70
    by_cases c8 : t180 = t181
    · rw [if_pos c8] at H
      have c8b0 : (t180 == t181) = true := beq_iff_eq.mpr c8
      have c8b1 : (t180 != t181) = false := bne_eq_false_iff_eq.mpr c8
      clear c8
      replace H := Option.bind_eq_some_iff.mp H
      obtain ⟨t182, A90, H⟩ := H
      replace H : (some t182) = some r := H
      have A9 := Aside0.mk A90
      clear A90
      obtain rfl := Option.some.inj H
      go_enter Tryd.func5, Tryd.ntmps5
      go_wp2_with (first | ((with_reducible refine gate_callee (f := 21) rfl ?_); refine goesL_ (some 7) rfl rfl Tryd.func21 (by kernel_rfl) rfl #[.int .i64 a0, .int .i64 a1] rfl (by (try simp only [List.map_toArray, List.map_cons, List.map_nil]); first | done | rfl | (simp only [List.length_drop, List.length_take]; rfl)) ?_; (with_reducible refine (decimal_Add.calls k a0 a1 t178 _ A3.out).mono ?_); rintro e w10 ⟨rfl, hb⟩; refine ⟨_, rfl, ?_⟩; have n0_ := Aside0.mk (below_step (by repeat (first | (with_reducible first | exact HB.out | apply below_alloc | apply pw_below_drewN | apply below_drew1) | exact HB.out)) hb); clear HB; have HB := n0_; clear n0_; (try clear hb); (try clear hb2); (try clear hk); (try clear hi)) | ((with_reducible refine gate_callee (f := 22) rfl ?_); refine goesL_ (some 10) rfl rfl Tryd.func22 (by kernel_rfl) rfl #[.int .i64 a0, .int .i64 a1] rfl (by (try simp only [List.map_toArray, List.map_cons, List.map_nil]); first | done | rfl | (simp only [List.length_drop, List.length_take]; rfl)) ?_; (with_reducible refine (depotref02_Add.calls a0 a1 t179 _ A4.out).mono ?_); rintro e w11 ⟨rfl, hb⟩; refine ⟨_, rfl, ?_⟩; have n0_ := Aside0.mk (below_step (by repeat (first | (with_reducible first | exact HB.out | apply below_alloc | apply pw_below_drewN | apply below_drew1) | exact HB.out)) hb); clear HB; have HB := n0_; clear n0_; (try clear hb); (try clear hb2); (try clear hk); (try clear hi)) | (go_at_call 23; (with_reducible refine (decimal_Less.calls k a0 a1 t180 _ A6.out).mono ?_); rintro e w12 ⟨rfl, hb⟩; have n0_ := Aside0.mk (below_step (by repeat (first | (with_reducible first | exact HB.out | apply below_alloc | apply pw_below_drewN | apply below_drew1) | exact HB.out)) hb); clear HB; have HB := n0_; clear n0_; (try clear hb); (try clear hb2); (try clear hk); (try clear hi)) | (go_at_call 24; (with_reducible refine (depotref02_Less.calls a0 a1 t181 _ A7.out).mono ?_); rintro e w13 ⟨rfl, hb⟩; have n0_ := Aside0.mk (below_step (by repeat (first | (with_reducible first | exact HB.out | apply below_alloc | apply pw_below_drewN | apply below_drew1) | exact HB.out)) hb); clear HB; have HB := n0_; clear n0_; (try clear hb); (try clear hb2); (try clear hk); (try clear hi)) | (go_at_call 14; (with_reducible refine (depotlaw02_counts.calls k  t182 _ ?side2 ?side1 A9.out).mono ?_); (case side1 => first | exact HT | exact ⟨Hand.Laid.below HT.out (by repeat (first | (with_reducible first | exact HB.out | apply below_alloc | apply pw_below_drewN | apply below_drew1) | exact HB.out))⟩); (case side2 => first | exact ⟨rfl⟩ | exact HTRUE); rintro e w14 ⟨rfl, hb⟩; have n0_ := Aside0.mk (below_step (by repeat (first | (with_reducible first | exact HB.out | apply below_alloc | apply pw_below_drewN | apply below_drew1) | exact HB.out)) hb); clear HB; have HB := n0_; clear n0_; (try clear hb); (try clear hb2); (try clear hk); (try clear hi)))
      go_ret
      exact ⟨by first | rfl | (simp [errW_none, errW_some] <;> rfl) | (simp [*, errW_none, errW_some] <;> rfl), by repeat (first | (with_reducible first | exact HB.out | apply below_alloc | apply pw_below_drewN | apply below_drew1) | exact HB.out)⟩
    · rw [if_neg c8] at H
      have c8b0 : (t180 == t181) = false := beq_eq_false_iff_ne.mpr c8
      have c8b1 : (t180 != t181) = true := bne_iff_ne.mpr c8
      obtain rfl := Option.some.inj H
      exact absurd HTRUE.out (by decide)
  · rw [if_neg c5] at H
    have c5b0 : (t178 == t179) = false := beq_eq_false_iff_ne.mpr c5
    have c5b1 : (t178 != t179) = true := bne_iff_ne.mpr c5
    obtain rfl := Option.some.inj H
    exact absurd HTRUE.out (by decide)

/-! ### depotlaw02_DecimalBack: function 6 -/
def depotlaw02_DecimalBack.j0 : Nat → Int → Int → Bool → Option (Bool)
  | 0, _, _, _ => none
  | k + 1, x0, x1, x18 => if x18 = true then ((depotlaw02_counts.f k).bind fun t183 => (some t183)) else ((decimal_Plain.f x0).bind fun t184 => ((decimal_Number.f t184 x0).bind fun bt185 => ((decimal_Pad.f x0 x1).bind fun t187 => ((decimal_Number.f t187 x0).bind fun bt188 => ((decimal_Hex.f k x0).bind fun t190 => ((decimal_ReadHex.f t190 x0).bind fun bt191 => ((decimal_Plain.f x0).bind fun t193 => ((decimal_Seconds.f t193).bind fun bt194 => (if bt185.1 = x0 then (if bt185.2 = 0 then (if bt188.1 = x0 then (if bt188.2 = 0 then (if bt191.1 = x0 then (if bt191.2 = 0 then (if bt194.1 = (mn x0 2147483648) then (if bt194.2 = true then ((depotlaw02_counts.f k).bind fun t196 => (some t196)) else (some false)) else (some false)) else (some false)) else (some false)) else (some false)) else (some false)) else (some false)) else (some false))))))))))
def depotlaw02_DecimalBack.f (k : Nat) (a0 : Int) (a1 : Int) : Option (Bool) := if a0 < 0 then (depotlaw02_DecimalBack.j0 k a0 a1 true) else (depotlaw02_DecimalBack.j0 k a0 a1 (decide (a0 ≥ 1000000000000000000)))
theorem depotlaw02_DecimalBack.mono_l : ∀ k, (∀ y0 y1 y2, LeO (depotlaw02_DecimalBack.j0 k y0 y1 y2) (depotlaw02_DecimalBack.j0 (k + 1) y0 y1 y2))
  | 0 => fun _ _ _ r h => by simp [depotlaw02_DecimalBack.j0] at h
  | k + 1 => by
    have ih0 := depotlaw02_DecimalBack.mono_l k
    · intro y0 y1 y2
      unfold depotlaw02_DecimalBack.j0
      repeat' first
      | (with_reducible exact ih0 _ _ _)
      | (with_reducible exact decimal_Hex.mono _ _)
      | (with_reducible exact depotlaw02_counts.mono _)
      | (with_reducible exact LeO.refl _)
      | (with_reducible exact LeO.none _)
      | (with_reducible refine LeO.ite ?_ ?_)
      | (with_reducible refine LeO.bind ?_ (fun _ => ?_))
      | exact ih0 _ _ _
      | exact decimal_Hex.mono _ _
      | exact depotlaw02_counts.mono _
      | exact LeO.none _
      | refine LeO.ite ?_ ?_
      | refine LeO.bind ?_ (fun _ => ?_)
theorem depotlaw02_DecimalBack.mono : ∀ a0 a1 k, LeO (depotlaw02_DecimalBack.f k a0 a1) (depotlaw02_DecimalBack.f (k + 1) a0 a1) := by
  intro a0 a1 k
  have ih0 := depotlaw02_DecimalBack.mono_l k
  unfold depotlaw02_DecimalBack.f
  repeat' first
      | (with_reducible exact ih0 _ _ _)
      | (with_reducible exact decimal_Hex.mono _ _)
      | (with_reducible exact depotlaw02_counts.mono _)
      | (with_reducible exact LeO.refl _)
      | (with_reducible exact LeO.none _)
      | (with_reducible refine LeO.ite ?_ ?_)
      | (with_reducible refine LeO.bind ?_ (fun _ => ?_))
      | exact ih0 _ _ _
      | exact decimal_Hex.mono _ _
      | exact depotlaw02_counts.mono _
      | exact LeO.none _
      | refine LeO.ite ?_ ?_
      | refine LeO.bind ?_ (fun _ => ?_)
set_option maxHeartbeats 8000000 in
set_option maxRecDepth 100000 in
theorem depotlaw02_DecimalBack.calls (k : Nat) (a0 : Int) (a1 : Int) (r : Bool) (w : World) (HTRUE : Aside0 (r = true)) (HT : Aside0 (Hand.Laid w)) (h : depotlaw02_DecimalBack.f k a0 a1 = some r) :
    Calls Tryd.prog 6 #[.int .i64 a0, .int .i64 a1] w fun e w' => e = .returned (.bool r) ∧ Below w.heap.size w w' := by
  have HB := Aside0.mk (Below.refl w.heap.size w)
  have H : (if a0 < 0 then (depotlaw02_DecimalBack.j0 k a0 a1 true) else (depotlaw02_DecimalBack.j0 k a0 a1 (decide (a0 ≥ 1000000000000000000)))) = some r := h
  clear h
  have HC3 := Aside0.mk H
  clear H
  go_enter Tryd.func6, Tryd.ntmps6
  go_upto_region 1 with (fail)
  go_cut [18] (fun v18 wc => ∃ (kq : Nat) (x18_2 : Bool), v18 = .bool x18_2 ∧ Aside0 (depotlaw02_DecimalBack.j0 kq a0 a1 x18_2 = some r) ∧ Aside0 (kq ≤ k) ∧ Aside0 (Below w.heap.size w wc))
  case first =>
    have H := HC3.out
    clear HC3
    by_cases c4 : a0 < 0
    · rw [if_pos c4] at H
      have c4b0 : decide (a0 < 0) = true := decide_eq_true c4
      clear c4
      (first | rw [c4b0] | (simp only [i64_w, i32_w]; rw [c4b0]) | skip)
      have H' := Aside0.mk H
      clear H
      go_wp2
      go_meet
      case rel => exact ⟨_, (true), (by first | rfl | (simp; done) | (simp [*]; done)), H', ⟨by first | omega | exact Nat.le_refl _⟩, ⟨by repeat (first | (with_reducible first | exact HB.out | apply below_alloc | apply pw_below_drewN | apply below_drew1) | exact HB.out)⟩⟩
    · rw [if_neg c4] at H
      have c4b0 : decide (a0 < 0) = false := decide_eq_false c4
      clear c4
      (first | rw [c4b0] | (simp only [i64_w, i32_w]; rw [c4b0]) | skip)
      have H' := Aside0.mk H
      clear H
      go_wp2
      go_meet
      case rel => exact ⟨_, (decide (a0 ≥ 1000000000000000000)), (by first | rfl | (simp; done) | (simp [*]; done)), H', ⟨by first | omega | exact Nat.le_refl _⟩, ⟨by repeat (first | (with_reducible first | exact HB.out | apply below_alloc | apply pw_below_drewN | apply below_drew1) | exact HB.out)⟩⟩
  case rest =>
    clear HC3
    try clear p2
    try clear c4
    try clear c4b0
    obtain ⟨kq, x18_2, rfl, HA, HJ2, HB⟩ := hcut
    cases kq with
    | zero => exact absurd HA.out (by simp [depotlaw02_DecimalBack.j0])
    | succ kj2 =>
      have H := HA.out
      clear HA
      simp only [depotlaw02_DecimalBack.j0] at H
      by_cases c5 : x18_2 = true
      · subst c5
        have H1 : ((depotlaw02_counts.f kj2).bind fun t183 => (some t183)) = some r := by rw [if_pos rfl] at H; exact H
        clear H
        have H := H1
        clear H1
        replace H := Option.bind_eq_some_iff.mp H
        obtain ⟨t183, A60, H⟩ := H
        replace H : (some t183) = some r := H
        have A6 := Aside0.mk A60
        clear A60
        obtain rfl := Option.some.inj H
        go_wp2_with (first | ((with_reducible refine gate_callee (f := 14) rfl ?_); refine goesL_ (some 19) rfl rfl Tryd.func14 (by kernel_rfl) rfl #[] rfl (by (try simp only [List.map_toArray, List.map_cons, List.map_nil]); first | done | rfl | (simp only [List.length_drop, List.length_take]; rfl)) ?_; (with_reducible refine (depotlaw02_counts.calls kj2  t183 _ ?side2 ?side1 A6.out).mono ?_); (case side1 => first | exact HT | exact ⟨Hand.Laid.below HT.out (by repeat (first | (with_reducible first | exact HB.out | apply below_alloc | apply pw_below_drewN | apply below_drew1) | exact HB.out))⟩); (case side2 => first | exact ⟨rfl⟩ | exact HTRUE); rintro e w7 ⟨rfl, hb⟩; refine ⟨_, rfl, ?_⟩; have n0_ := Aside0.mk (below_step (by repeat (first | (with_reducible first | exact HB.out | apply below_alloc | apply pw_below_drewN | apply below_drew1) | exact HB.out)) hb); clear HB; have HB := n0_; clear n0_; (try clear hb); (try clear hb2); (try clear hk); (try clear hi)))
        go_ret
        exact ⟨by first | rfl | (simp [errW_none, errW_some] <;> rfl) | (simp [*, errW_none, errW_some] <;> rfl), by repeat (first | (with_reducible first | exact HB.out | apply below_alloc | apply pw_below_drewN | apply below_drew1) | exact HB.out)⟩
      · replace c5 := Bool.eq_false_iff.mpr c5
        subst c5
        have H1 : ((decimal_Plain.f a0).bind fun t184 => ((decimal_Number.f t184 a0).bind fun bt185 => ((decimal_Pad.f a0 a1).bind fun t187 => ((decimal_Number.f t187 a0).bind fun bt188 => ((decimal_Hex.f kj2 a0).bind fun t190 => ((decimal_ReadHex.f t190 a0).bind fun bt191 => ((decimal_Plain.f a0).bind fun t193 => ((decimal_Seconds.f t193).bind fun bt194 => (if bt185.1 = a0 then (if bt185.2 = 0 then (if bt188.1 = a0 then (if bt188.2 = 0 then (if bt191.1 = a0 then (if bt191.2 = 0 then (if bt194.1 = (mn a0 2147483648) then (if bt194.2 = true then ((depotlaw02_counts.f kj2).bind fun t196 => (some t196)) else (some false)) else (some false)) else (some false)) else (some false)) else (some false)) else (some false)) else (some false)) else (some false)))))))))) = some r := by rw [if_neg (show ¬ (false = true) by decide)] at H; exact H
        clear H
        have H := H1
        clear H1
        replace H := Option.bind_eq_some_iff.mp H
        obtain ⟨t184, A80, H⟩ := H
        replace H : ((decimal_Number.f t184 a0).bind fun bt185 => ((decimal_Pad.f a0 a1).bind fun t187 => ((decimal_Number.f t187 a0).bind fun bt188 => ((decimal_Hex.f kj2 a0).bind fun t190 => ((decimal_ReadHex.f t190 a0).bind fun bt191 => ((decimal_Plain.f a0).bind fun t193 => ((decimal_Seconds.f t193).bind fun bt194 => (if bt185.1 = a0 then (if bt185.2 = 0 then (if bt188.1 = a0 then (if bt188.2 = 0 then (if bt191.1 = a0 then (if bt191.2 = 0 then (if bt194.1 = (mn a0 2147483648) then (if bt194.2 = true then ((depotlaw02_counts.f kj2).bind fun t196 => (some t196)) else (some false)) else (some false)) else (some false)) else (some false)) else (some false)) else (some false)) else (some false)) else (some false))))))))) = some r := H
        have A8 := Aside0.mk A80
        clear A80
        replace H := Option.bind_eq_some_iff.mp H
        obtain ⟨⟨t185, t186⟩, A90, H⟩ := H
        replace H : ((decimal_Pad.f a0 a1).bind fun t187 => ((decimal_Number.f t187 a0).bind fun bt188 => ((decimal_Hex.f kj2 a0).bind fun t190 => ((decimal_ReadHex.f t190 a0).bind fun bt191 => ((decimal_Plain.f a0).bind fun t193 => ((decimal_Seconds.f t193).bind fun bt194 => (if t185 = a0 then (if t186 = 0 then (if bt188.1 = a0 then (if bt188.2 = 0 then (if bt191.1 = a0 then (if bt191.2 = 0 then (if bt194.1 = (mn a0 2147483648) then (if bt194.2 = true then ((depotlaw02_counts.f kj2).bind fun t196 => (some t196)) else (some false)) else (some false)) else (some false)) else (some false)) else (some false)) else (some false)) else (some false)) else (some false)))))))) = some r := H
        have A9 := Aside0.mk A90
        clear A90
        replace H := Option.bind_eq_some_iff.mp H
        obtain ⟨t187, A100, H⟩ := H
        replace H : ((decimal_Number.f t187 a0).bind fun bt188 => ((decimal_Hex.f kj2 a0).bind fun t190 => ((decimal_ReadHex.f t190 a0).bind fun bt191 => ((decimal_Plain.f a0).bind fun t193 => ((decimal_Seconds.f t193).bind fun bt194 => (if t185 = a0 then (if t186 = 0 then (if bt188.1 = a0 then (if bt188.2 = 0 then (if bt191.1 = a0 then (if bt191.2 = 0 then (if bt194.1 = (mn a0 2147483648) then (if bt194.2 = true then ((depotlaw02_counts.f kj2).bind fun t196 => (some t196)) else (some false)) else (some false)) else (some false)) else (some false)) else (some false)) else (some false)) else (some false)) else (some false))))))) = some r := H
        have A10 := Aside0.mk A100
        clear A100
        replace H := Option.bind_eq_some_iff.mp H
        obtain ⟨⟨t188, t189⟩, A110, H⟩ := H
        replace H : ((decimal_Hex.f kj2 a0).bind fun t190 => ((decimal_ReadHex.f t190 a0).bind fun bt191 => ((decimal_Plain.f a0).bind fun t193 => ((decimal_Seconds.f t193).bind fun bt194 => (if t185 = a0 then (if t186 = 0 then (if t188 = a0 then (if t189 = 0 then (if bt191.1 = a0 then (if bt191.2 = 0 then (if bt194.1 = (mn a0 2147483648) then (if bt194.2 = true then ((depotlaw02_counts.f kj2).bind fun t196 => (some t196)) else (some false)) else (some false)) else (some false)) else (some false)) else (some false)) else (some false)) else (some false)) else (some false)))))) = some r := H
        have A11 := Aside0.mk A110
        clear A110
        replace H := Option.bind_eq_some_iff.mp H
        obtain ⟨t190, A120, H⟩ := H
        replace H : ((decimal_ReadHex.f t190 a0).bind fun bt191 => ((decimal_Plain.f a0).bind fun t193 => ((decimal_Seconds.f t193).bind fun bt194 => (if t185 = a0 then (if t186 = 0 then (if t188 = a0 then (if t189 = 0 then (if bt191.1 = a0 then (if bt191.2 = 0 then (if bt194.1 = (mn a0 2147483648) then (if bt194.2 = true then ((depotlaw02_counts.f kj2).bind fun t196 => (some t196)) else (some false)) else (some false)) else (some false)) else (some false)) else (some false)) else (some false)) else (some false)) else (some false))))) = some r := H
        have A12 := Aside0.mk A120
        clear A120
        replace H := Option.bind_eq_some_iff.mp H
        obtain ⟨⟨t191, t192⟩, A130, H⟩ := H
        replace H : ((decimal_Plain.f a0).bind fun t193 => ((decimal_Seconds.f t193).bind fun bt194 => (if t185 = a0 then (if t186 = 0 then (if t188 = a0 then (if t189 = 0 then (if t191 = a0 then (if t192 = 0 then (if bt194.1 = (mn a0 2147483648) then (if bt194.2 = true then ((depotlaw02_counts.f kj2).bind fun t196 => (some t196)) else (some false)) else (some false)) else (some false)) else (some false)) else (some false)) else (some false)) else (some false)) else (some false)))) = some r := H
        have A13 := Aside0.mk A130
        clear A130
        replace H := Option.bind_eq_some_iff.mp H
        obtain ⟨t193, A140, H⟩ := H
        replace H : ((decimal_Seconds.f t193).bind fun bt194 => (if t185 = a0 then (if t186 = 0 then (if t188 = a0 then (if t189 = 0 then (if t191 = a0 then (if t192 = 0 then (if bt194.1 = (mn a0 2147483648) then (if bt194.2 = true then ((depotlaw02_counts.f kj2).bind fun t196 => (some t196)) else (some false)) else (some false)) else (some false)) else (some false)) else (some false)) else (some false)) else (some false)) else (some false))) = some r := H
        have A14 := Aside0.mk A140
        clear A140
        replace H := Option.bind_eq_some_iff.mp H
        obtain ⟨⟨t194, t195⟩, A150, H⟩ := H
        replace H : (if t185 = a0 then (if t186 = 0 then (if t188 = a0 then (if t189 = 0 then (if t191 = a0 then (if t192 = 0 then (if t194 = (mn a0 2147483648) then (if t195 = true then ((depotlaw02_counts.f kj2).bind fun t196 => (some t196)) else (some false)) else (some false)) else (some false)) else (some false)) else (some false)) else (some false)) else (some false)) else (some false)) = some r := H
        have A15 := Aside0.mk A150
        clear A150
        by_cases c16 : t185 = a0
        · rw [if_pos c16] at H
          have c16b0 : (t185 == a0) = true := beq_iff_eq.mpr c16
          have c16b1 : (t185 != a0) = false := bne_eq_false_iff_eq.mpr c16
          clear c16
          by_cases c17 : t186 = 0
          · rw [if_pos c17] at H
            have c17b0 : (t186 == 0) = true := beq_iff_eq.mpr c17
            have c17b1 : (t186 != 0) = false := bne_eq_false_iff_eq.mpr c17
            clear c17
            by_cases c18 : t188 = a0
            · rw [if_pos c18] at H
              have c18b0 : (t188 == a0) = true := beq_iff_eq.mpr c18
              have c18b1 : (t188 != a0) = false := bne_eq_false_iff_eq.mpr c18
              clear c18
              by_cases c19 : t189 = 0
              · rw [if_pos c19] at H
                have c19b0 : (t189 == 0) = true := beq_iff_eq.mpr c19
                have c19b1 : (t189 != 0) = false := bne_eq_false_iff_eq.mpr c19
                clear c19
                by_cases c20 : t191 = a0
                · rw [if_pos c20] at H
                  have c20b0 : (t191 == a0) = true := beq_iff_eq.mpr c20
                  have c20b1 : (t191 != a0) = false := bne_eq_false_iff_eq.mpr c20
                  clear c20
                  by_cases c21 : t192 = 0
                  · rw [if_pos c21] at H
                    have c21b0 : (t192 == 0) = true := beq_iff_eq.mpr c21
                    have c21b1 : (t192 != 0) = false := bne_eq_false_iff_eq.mpr c21
                    clear c21
                    obtain ⟨ji22, hji22⟩ : ∃ j_ : Int, (mn a0 2147483648) = j_ := ⟨_, rfl⟩
                    replace H : (if t194 = (ji22) then (if t195 = true then ((depotlaw02_counts.f kj2).bind fun t196 => (some t196)) else (some false)) else (some false)) = some r := by first | (rw [hji22] at H; exact H) | (simp only [hji22] at H ⊢; exact H)
                    (try rw [hji22] at A8)
                    (try rw [hji22] at A9)
                    (try rw [hji22] at A10)
                    (try rw [hji22] at A11)
                    (try rw [hji22] at A12)
                    (try rw [hji22] at A13)
                    (try rw [hji22] at A14)
                    (try rw [hji22] at A15)
                    have hji22_ : (if 2147483648 < a0 then 2147483648 else a0) = ji22 := hji22
                    by_cases c23 : t194 = (ji22)
                    · rw [if_pos c23] at H
                      have c23b0 : (t194 == (ji22)) = true := beq_iff_eq.mpr c23
                      have c23b1 : (t194 != (ji22)) = false := bne_eq_false_iff_eq.mpr c23
                      clear c23
                      by_cases c24 : t195 = true
                      · subst c24
                        have H1 : ((depotlaw02_counts.f kj2).bind fun t196 => (some t196)) = some r := by rw [if_pos rfl] at H; exact H
                        clear H
                        have H := H1
                        clear H1
                        replace H := Option.bind_eq_some_iff.mp H
                        obtain ⟨t196, A250, H⟩ := H
                        replace H : (some t196) = some r := H
                        have A25 := Aside0.mk A250
                        clear A250
                        obtain rfl := Option.some.inj H
                        go_wp2_with (first | ((with_reducible refine gate_callee (f := 8) rfl ?_); refine goesL_ (some 22) rfl rfl Tryd.func8 (by kernel_rfl) rfl #[.int .i64 a0] rfl (by (try simp only [List.map_toArray, List.map_cons, List.map_nil]); first | done | rfl | (simp only [List.length_drop, List.length_take]; rfl)) ?_; (with_reducible refine (decimal_Plain.calls a0 t184 _ ?side1 A8.out).mono ?_); (case side1 => first | exact HT | exact ⟨Hand.Laid.below HT.out (by repeat (first | (with_reducible first | exact HB.out | apply below_alloc | apply pw_below_drewN | apply below_drew1) | exact HB.out))⟩); rintro e w26 ⟨rfl, hb⟩; refine ⟨_, rfl, ?_⟩; have n0_ := Aside0.mk (below_step (by repeat (first | (with_reducible first | exact HB.out | apply below_alloc | apply pw_below_drewN | apply below_drew1) | exact HB.out)) hb); clear HB; have HB := n0_; clear n0_; (try clear hb); (try clear hb2); (try clear hk); (try clear hi)) | ((with_reducible refine gate_callee (f := 15) rfl ?_); refine goesL_ (some 24) rfl rfl Tryd.func15 (by kernel_rfl) rfl #[.string t184, .int .i64 a0] rfl (by (try simp only [List.map_toArray, List.map_cons, List.map_nil]); first | done | rfl | (simp only [List.length_drop, List.length_take]; rfl)) ?_; (with_reducible refine (decimal_Number.calls t184 a0 t185 t186 _ A9.out).mono ?_); rintro e w27 ⟨rfl, hb⟩; refine ⟨_, rfl, ?_⟩; have n0_ := Aside0.mk (below_step (by repeat (first | (with_reducible first | exact HB.out | apply below_alloc | apply pw_below_drewN | apply below_drew1) | exact HB.out)) hb); clear HB; have HB := n0_; clear n0_; (try clear hb); (try clear hb2); (try clear hk); (try clear hi)) | ((with_reducible refine gate_callee (f := 10) rfl ?_); refine goesL_ (some 30) rfl rfl Tryd.func10 (by kernel_rfl) rfl #[.int .i64 a0, .int .i64 a1] rfl (by (try simp only [List.map_toArray, List.map_cons, List.map_nil]); first | done | rfl | (simp only [List.length_drop, List.length_take]; rfl)) ?_; (with_reducible refine (decimal_Pad.calls a0 a1 t187 _ ?side1 A10.out).mono ?_); (case side1 => first | exact HT | exact ⟨Hand.Laid.below HT.out (by repeat (first | (with_reducible first | exact HB.out | apply below_alloc | apply pw_below_drewN | apply below_drew1) | exact HB.out))⟩); rintro e w28 ⟨rfl, hb⟩; refine ⟨_, rfl, ?_⟩; have n0_ := Aside0.mk (below_step (by repeat (first | (with_reducible first | exact HB.out | apply below_alloc | apply pw_below_drewN | apply below_drew1) | exact HB.out)) hb); clear HB; have HB := n0_; clear n0_; (try clear hb); (try clear hb2); (try clear hk); (try clear hi)) | ((with_reducible refine gate_callee (f := 15) rfl ?_); refine goesL_ (some 32) rfl rfl Tryd.func15 (by kernel_rfl) rfl #[.string t187, .int .i64 a0] rfl (by (try simp only [List.map_toArray, List.map_cons, List.map_nil]); first | done | rfl | (simp only [List.length_drop, List.length_take]; rfl)) ?_; (with_reducible refine (decimal_Number.calls t187 a0 t188 t189 _ A11.out).mono ?_); rintro e w29 ⟨rfl, hb⟩; refine ⟨_, rfl, ?_⟩; have n0_ := Aside0.mk (below_step (by repeat (first | (with_reducible first | exact HB.out | apply below_alloc | apply pw_below_drewN | apply below_drew1) | exact HB.out)) hb); clear HB; have HB := n0_; clear n0_; (try clear hb); (try clear hb2); (try clear hk); (try clear hi)) | ((with_reducible refine gate_callee (f := 12) rfl ?_); refine goesL_ (some 37) rfl rfl Tryd.func12 (by kernel_rfl) rfl #[.int .i64 a0] rfl (by (try simp only [List.map_toArray, List.map_cons, List.map_nil]); first | done | rfl | (simp only [List.length_drop, List.length_take]; rfl)) ?_; (with_reducible refine (decimal_Hex.calls kj2 a0 t190 _ A12.out).mono ?_); rintro e w30 ⟨rfl, hb⟩; refine ⟨_, rfl, ?_⟩; have n0_ := Aside0.mk (below_step (by repeat (first | (with_reducible first | exact HB.out | apply below_alloc | apply pw_below_drewN | apply below_drew1) | exact HB.out)) hb); clear HB; have HB := n0_; clear n0_; (try clear hb); (try clear hb2); (try clear hk); (try clear hi)) | ((with_reducible refine gate_callee (f := 17) rfl ?_); refine goesL_ (some 39) rfl rfl Tryd.func17 (by kernel_rfl) rfl #[.string t190, .int .i64 a0] rfl (by (try simp only [List.map_toArray, List.map_cons, List.map_nil]); first | done | rfl | (simp only [List.length_drop, List.length_take]; rfl)) ?_; (with_reducible refine (decimal_ReadHex.calls t190 a0 t191 t192 _ A13.out).mono ?_); rintro e w31 ⟨rfl, hb⟩; refine ⟨_, rfl, ?_⟩; have n0_ := Aside0.mk (below_step (by repeat (first | (with_reducible first | exact HB.out | apply below_alloc | apply pw_below_drewN | apply below_drew1) | exact HB.out)) hb); clear HB; have HB := n0_; clear n0_; (try clear hb); (try clear hb2); (try clear hk); (try clear hi)) | ((with_reducible refine gate_callee (f := 8) rfl ?_); refine goesL_ (some 44) rfl rfl Tryd.func8 (by kernel_rfl) rfl #[.int .i64 a0] rfl (by (try simp only [List.map_toArray, List.map_cons, List.map_nil]); first | done | rfl | (simp only [List.length_drop, List.length_take]; rfl)) ?_; (with_reducible refine (decimal_Plain.calls a0 t193 _ ?side1 A14.out).mono ?_); (case side1 => first | exact HT | exact ⟨Hand.Laid.below HT.out (by repeat (first | (with_reducible first | exact HB.out | apply below_alloc | apply pw_below_drewN | apply below_drew1) | exact HB.out))⟩); rintro e w32 ⟨rfl, hb⟩; refine ⟨_, rfl, ?_⟩; have n0_ := Aside0.mk (below_step (by repeat (first | (with_reducible first | exact HB.out | apply below_alloc | apply pw_below_drewN | apply below_drew1) | exact HB.out)) hb); clear HB; have HB := n0_; clear n0_; (try clear hb); (try clear hb2); (try clear hk); (try clear hi)) | ((with_reducible refine gate_callee (f := 19) rfl ?_); refine goesL_ (some 45) rfl rfl Tryd.func19 (by kernel_rfl) rfl #[.string t193] rfl (by (try simp only [List.map_toArray, List.map_cons, List.map_nil]); first | done | rfl | (simp only [List.length_drop, List.length_take]; rfl)) ?_; (with_reducible refine (decimal_Seconds.calls t193 t194 true _ A15.out).mono ?_); rintro e w33 ⟨rfl, hb⟩; refine ⟨_, rfl, ?_⟩; have n0_ := Aside0.mk (below_step (by repeat (first | (with_reducible first | exact HB.out | apply below_alloc | apply pw_below_drewN | apply below_drew1) | exact HB.out)) hb); clear HB; have HB := n0_; clear n0_; (try clear hb); (try clear hb2); (try clear hk); (try clear hi)) | (go_at_call 14; (with_reducible refine (depotlaw02_counts.calls kj2  t196 _ ?side2 ?side1 A25.out).mono ?_); (case side1 => first | exact HT | exact ⟨Hand.Laid.below HT.out (by repeat (first | (with_reducible first | exact HB.out | apply below_alloc | apply pw_below_drewN | apply below_drew1) | exact HB.out))⟩); (case side2 => first | exact ⟨rfl⟩ | exact HTRUE); rintro e w34 ⟨rfl, hb⟩; have n0_ := Aside0.mk (below_step (by repeat (first | (with_reducible first | exact HB.out | apply below_alloc | apply pw_below_drewN | apply below_drew1) | exact HB.out)) hb); clear HB; have HB := n0_; clear n0_; (try clear hb); (try clear hb2); (try clear hk); (try clear hi)))
                        go_ret
                        exact ⟨by first | rfl | (simp [errW_none, errW_some] <;> rfl) | (simp only [← hji22]; first | rfl | (simp [errW_none, errW_some] <;> rfl)) | (simp [*, errW_none, errW_some] <;> rfl), by repeat (first | (with_reducible first | exact HB.out | apply below_alloc | apply pw_below_drewN | apply below_drew1) | exact HB.out)⟩
                      · replace c24 := Bool.eq_false_iff.mpr c24
                        subst c24
                        have H1 : (some false) = some r := by rw [if_neg (show ¬ (false = true) by decide)] at H; exact H
                        clear H
                        have H := H1
                        clear H1
                        obtain rfl := Option.some.inj H
                        exact absurd HTRUE.out (by decide)
                    · rw [if_neg c23] at H
                      have c23b0 : (t194 == (ji22)) = false := beq_eq_false_iff_ne.mpr c23
                      have c23b1 : (t194 != (ji22)) = true := bne_iff_ne.mpr c23
                      obtain rfl := Option.some.inj H
                      exact absurd HTRUE.out (by decide)
                  · rw [if_neg c21] at H
                    have c21b0 : (t192 == 0) = false := beq_eq_false_iff_ne.mpr c21
                    have c21b1 : (t192 != 0) = true := bne_iff_ne.mpr c21
                    obtain rfl := Option.some.inj H
                    exact absurd HTRUE.out (by decide)
                · rw [if_neg c20] at H
                  have c20b0 : (t191 == a0) = false := beq_eq_false_iff_ne.mpr c20
                  have c20b1 : (t191 != a0) = true := bne_iff_ne.mpr c20
                  obtain rfl := Option.some.inj H
                  exact absurd HTRUE.out (by decide)
              · rw [if_neg c19] at H
                have c19b0 : (t189 == 0) = false := beq_eq_false_iff_ne.mpr c19
                have c19b1 : (t189 != 0) = true := bne_iff_ne.mpr c19
                obtain rfl := Option.some.inj H
                exact absurd HTRUE.out (by decide)
            · rw [if_neg c18] at H
              have c18b0 : (t188 == a0) = false := beq_eq_false_iff_ne.mpr c18
              have c18b1 : (t188 != a0) = true := bne_iff_ne.mpr c18
              obtain rfl := Option.some.inj H
              exact absurd HTRUE.out (by decide)
          · rw [if_neg c17] at H
            have c17b0 : (t186 == 0) = false := beq_eq_false_iff_ne.mpr c17
            have c17b1 : (t186 != 0) = true := bne_iff_ne.mpr c17
            obtain rfl := Option.some.inj H
            exact absurd HTRUE.out (by decide)
        · rw [if_neg c16] at H
          have c16b0 : (t185 == a0) = false := beq_eq_false_iff_ne.mpr c16
          have c16b1 : (t185 != a0) = true := bne_iff_ne.mpr c16
          obtain rfl := Option.some.inj H
          exact absurd HTRUE.out (by decide)

end Go.Proofs.YtheimnfgiigfoaaDoor.PR
