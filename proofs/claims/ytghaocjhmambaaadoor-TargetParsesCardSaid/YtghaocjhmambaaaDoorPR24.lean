-- Out of the translation, by a program of this session: each function that a law comes to as a Lean function, and that the machine's call does what it says. Lean checks it.
import Derived.Test.YtghaocjhmambaaaDoorPR0
import Derived.Test.YtghaocjhmambaaaDoorPR1
import Derived.Test.YtghaocjhmambaaaDoorPR6
import Derived.Test.YtghaocjhmambaaaDoorPR7
import Derived.Test.YtghaocjhmambaaaDoorPR8
namespace Go.Proofs.YtghaocjhmambaaaDoor.PR
open Go.RowKit Go.Proofs.YtghaocjhmambaaaDoorW.PrintWords Go.Proofs.YtghaocjhmambaaaDoorW.PrintLast Go.Proofs.YtghaocjhmambaaaDoorW.PrintMore
attribute [local go_sem] max2_int min2_int max_two min_two max_three min_three max_four min_four   -- for this text's walks alone
set_option linter.unusedVariables false
set_option linter.unusedSimpArgs false

attribute [local go_sem high] eqA34
/-! ### depotlaw08_TargetAgain: function 7 -/
def depotlaw08_TargetAgain.j0 : Nat → ByteArray → ByteArray → ByteArray → Bool → Option (Bool)
  | 0, _, _, _, _ => none
  | k + 1, x0, x1, x2, x29 => if x29 = true then ((depotlaw08_plains.f k).bind fun t298 => (some t298)) else ((target_Parse.f k x0 x1).bind fun bt299 => (if bt299.2.2.2 = 0 then ((target_Text.f bt299.1 bt299.2.1 bt299.2.2.1).bind fun t305 => ((target_Parse.f k t305 x2).bind fun bt306 => ((target_Resolve.f k bt299.1 bt299.2.1 bt299.2.2.1 bt299.2.2.1).bind fun bt311 => ((target_Key.f bt299.1 bt299.2.1 bt299.2.2.1).bind fun bt316 => ((target_Key.f bt306.1 bt306.2.1 bt306.2.2.1).bind fun bt318 => (if (bt306.1.toList == bt299.1.toList && (bt306.2.1 == bt299.2.1 && (bt306.2.2.1.toList == bt299.2.2.1.toList))) = true then (if bt306.2.2.2 = 0 then (if (bt311.1.toList == bt299.1.toList && (bt311.2.1 == bt299.2.1 && (bt311.2.2.1.toList == bt299.2.2.1.toList))) = true then (if bt311.2.2.2 = true then (if bt299.2.1 ≥ 1 then (if bt299.2.1 ≤ 65535 then (if bt316.1.toList = bt318.1.toList then (if bt316.2 = bt318.2 then ((depotlaw08_plains.f k).bind fun t320 => (some t320)) else (some false)) else (some false)) else (some false)) else (some false)) else (some false)) else (some false)) else (some false)) else (some false))))))) else (if (bt299.1.toList == ([] : List UInt8) && (bt299.2.1 == 0 && (bt299.2.2.1.toList == ([] : List UInt8)))) = true then ((depotlaw08_plains.f k).bind fun t304 => (some t304)) else (some false))))
def depotlaw08_TargetAgain.f (k : Nat) (a0 : ByteArray) (a1 : ByteArray) (a2 : ByteArray) : Option (Bool) := if (a0.size : Int) > 1000 then (depotlaw08_TargetAgain.j0 k a0 a1 a2 true) else (if (a1.size : Int) > 1000 then (depotlaw08_TargetAgain.j0 k a0 a1 a2 true) else (depotlaw08_TargetAgain.j0 k a0 a1 a2 (decide ((a2.size : Int) > 1000))))
theorem depotlaw08_TargetAgain.mono_l : ∀ k, (∀ y0 y1 y2 y3, LeO (depotlaw08_TargetAgain.j0 k y0 y1 y2 y3) (depotlaw08_TargetAgain.j0 (k + 1) y0 y1 y2 y3))
  | 0 => fun _ _ _ _ r h => by simp [depotlaw08_TargetAgain.j0] at h
  | k + 1 => by
    have ih0 := depotlaw08_TargetAgain.mono_l k
    · intro y0 y1 y2 y3
      unfold depotlaw08_TargetAgain.j0
      repeat' first
      | (with_reducible exact ih0 _ _ _ _)
      | (with_reducible exact depotlaw08_plains.mono _)
      | (with_reducible exact target_Parse.mono _ _ _)
      | (with_reducible exact target_Resolve.mono _ _ _ _ _)
      | (with_reducible exact LeO.refl _)
      | (with_reducible exact LeO.none _)
      | (with_reducible refine LeO.ite ?_ ?_)
      | (with_reducible refine LeO.bind ?_ (fun _ => ?_))
      | exact ih0 _ _ _ _
      | exact depotlaw08_plains.mono _
      | exact target_Parse.mono _ _ _
      | exact target_Resolve.mono _ _ _ _ _
      | exact LeO.none _
      | refine LeO.ite ?_ ?_
      | refine LeO.bind ?_ (fun _ => ?_)
theorem depotlaw08_TargetAgain.mono : ∀ a0 a1 a2 k, LeO (depotlaw08_TargetAgain.f k a0 a1 a2) (depotlaw08_TargetAgain.f (k + 1) a0 a1 a2) := by
  intro a0 a1 a2 k
  have ih0 := depotlaw08_TargetAgain.mono_l k
  unfold depotlaw08_TargetAgain.f
  repeat' first
      | (with_reducible exact ih0 _ _ _ _)
      | (with_reducible exact depotlaw08_plains.mono _)
      | (with_reducible exact target_Parse.mono _ _ _)
      | (with_reducible exact target_Resolve.mono _ _ _ _ _)
      | (with_reducible exact LeO.refl _)
      | (with_reducible exact LeO.none _)
      | (with_reducible refine LeO.ite ?_ ?_)
      | (with_reducible refine LeO.bind ?_ (fun _ => ?_))
      | exact ih0 _ _ _ _
      | exact depotlaw08_plains.mono _
      | exact target_Parse.mono _ _ _
      | exact target_Resolve.mono _ _ _ _ _
      | exact LeO.none _
      | refine LeO.ite ?_ ?_
      | refine LeO.bind ?_ (fun _ => ?_)
set_option maxHeartbeats 8000000 in
set_option maxRecDepth 100000 in
theorem depotlaw08_TargetAgain.calls (k : Nat) (a0 : ByteArray) (a1 : ByteArray) (a2 : ByteArray) (r : Bool) (w : World) (HTRUE : Aside0 (r = true)) (HT : Aside0 (Hand.Laid w)) (h : depotlaw08_TargetAgain.f k a0 a1 a2 = some r) :
    Calls Tryd.prog 7 #[.string a0, .string a1, .string a2] w fun e w' => e = .returned (.bool r) ∧ Below w.heap.size w w' := by
  have hu34 := Tryd.underlying34
  have HB := Aside0.mk (Below.refl w.heap.size w)
  have H : (if (a0.size : Int) > 1000 then (depotlaw08_TargetAgain.j0 k a0 a1 a2 true) else (if (a1.size : Int) > 1000 then (depotlaw08_TargetAgain.j0 k a0 a1 a2 true) else (depotlaw08_TargetAgain.j0 k a0 a1 a2 (decide ((a2.size : Int) > 1000))))) = some r := h
  clear h
  have HC4 := Aside0.mk H
  clear H
  go_enter Tryd.func7, Tryd.ntmps7
  go_upto_region 1 with (fail)
  go_cut [29] (fun v29 wc => ∃ (kq : Nat) (x29_3 : Bool), v29 = .bool x29_3 ∧ Aside0 (depotlaw08_TargetAgain.j0 kq a0 a1 a2 x29_3 = some r) ∧ Aside0 (kq ≤ k) ∧ Aside0 (Below w.heap.size w wc))
  case first =>
    have H := HC4.out
    clear HC4
    by_cases c5 : (a0.size : Int) > 1000
    · rw [if_pos c5] at H
      have c5b0 : decide (1000 < (a0.size : Int)) = true := decide_eq_true c5
      have c5b1 : decide (1000 < a0.size) = true := decide_eq_true (by omega)
      clear c5
      (first | rw [c5b0] | (simp only [i64_w, i32_w]; rw [c5b0]) | skip)
      have H' := Aside0.mk H
      clear H
      go_wp2
      go_meet
      case rel => exact ⟨_, (true), (by first | rfl | (simp; done) | (simp [*]; done) | (simp; exact Hand.isEmpty_ne _)), H', ⟨by first | omega | exact Nat.le_refl _⟩, ⟨by repeat (first | (with_reducible first | exact HB.out | apply below_alloc | apply pw_below_drewN | apply below_drew1) | exact HB.out)⟩⟩
    · rw [if_neg c5] at H
      have c5b0 : decide (1000 < (a0.size : Int)) = false := decide_eq_false c5
      have c5b1 : decide (1000 < a0.size) = false := decide_eq_false (by omega)
      clear c5
      (first | rw [c5b0] | (simp only [i64_w, i32_w]; rw [c5b0]) | skip)
      by_cases c6 : (a1.size : Int) > 1000
      · rw [if_pos c6] at H
        have c6b0 : decide (1000 < (a1.size : Int)) = true := decide_eq_true c6
        have c6b1 : decide (1000 < a1.size) = true := decide_eq_true (by omega)
        clear c6
        have H' := Aside0.mk H
        clear H
        go_wp2
        go_meet
        case rel => exact ⟨_, (true), (by first | rfl | (simp; done) | (simp [*]; done) | (simp; exact Hand.isEmpty_ne _)), H', ⟨by first | omega | exact Nat.le_refl _⟩, ⟨by repeat (first | (with_reducible first | exact HB.out | apply below_alloc | apply pw_below_drewN | apply below_drew1) | exact HB.out)⟩⟩
      · rw [if_neg c6] at H
        have c6b0 : decide (1000 < (a1.size : Int)) = false := decide_eq_false c6
        have c6b1 : decide (1000 < a1.size) = false := decide_eq_false (by omega)
        clear c6
        have H' := Aside0.mk H
        clear H
        go_wp2
        go_meet
        case rel => exact ⟨_, (decide ((a2.size : Int) > 1000)), (by first | rfl | (simp; done) | (simp [*]; done) | (simp; exact Hand.isEmpty_ne _)), H', ⟨by first | omega | exact Nat.le_refl _⟩, ⟨by repeat (first | (with_reducible first | exact HB.out | apply below_alloc | apply pw_below_drewN | apply below_drew1) | exact HB.out)⟩⟩
  case rest =>
    clear HC4
    try clear p2
    try clear c5
    try clear c5b0
    try clear c5b1
    try clear c6
    try clear c6b0
    try clear c6b1
    obtain ⟨kq, x29_3, rfl, HA, HJ3, HB⟩ := hcut
    cases kq with
    | zero => exact absurd HA.out (by simp [depotlaw08_TargetAgain.j0])
    | succ kj3 =>
      have H := HA.out
      clear HA
      simp only [depotlaw08_TargetAgain.j0] at H
      by_cases c7 : x29_3 = true
      · subst c7
        have H1 : ((depotlaw08_plains.f kj3).bind fun t298 => (some t298)) = some r := by rw [if_pos rfl] at H; exact H
        clear H
        have H := H1
        clear H1
        replace H := Option.bind_eq_some_iff.mp H
        obtain ⟨t298, A80, H⟩ := H
        replace H : (some t298) = some r := H
        have A8 := Aside0.mk A80
        clear A80
        obtain rfl := Option.some.inj H
        go_wp2_with (first | ((with_reducible refine gate_callee (f := 8) rfl ?_); refine goesL_ (some 30) rfl rfl Tryd.func8 (by kernel_rfl) rfl #[] rfl (by (try simp only [List.map_toArray, List.map_cons, List.map_nil]); first | done | rfl | (simp only [List.length_drop, List.length_take]; rfl)) ?_; (with_reducible refine (depotlaw08_plains.calls kj3  t298 _ ?side2 ?side1 A8.out).mono ?_); (case side1 => first | exact HT | exact ⟨Hand.Laid.below HT.out (by repeat (first | (with_reducible first | exact HB.out | apply below_alloc | apply pw_below_drewN | apply below_drew1) | exact HB.out))⟩); (case side2 => first | exact ⟨rfl⟩ | exact HTRUE); rintro e w9 ⟨rfl, hb⟩; refine ⟨_, rfl, ?_⟩; have n0_ := Aside0.mk (below_step (by repeat (first | (with_reducible first | exact HB.out | apply below_alloc | apply pw_below_drewN | apply below_drew1) | exact HB.out)) hb); clear HB; have HB := n0_; clear n0_; (try clear hb); (try clear hb2); (try clear hk); (try clear hi)))
        go_ret
        exact ⟨by first | rfl | (simp [errW_none, errW_some] <;> rfl) | (simp [*, errW_none, errW_some] <;> rfl), by repeat (first | (with_reducible first | exact HB.out | apply below_alloc | apply pw_below_drewN | apply below_drew1) | exact HB.out)⟩
      · replace c7 := Bool.eq_false_iff.mpr c7
        subst c7
        have H1 : ((target_Parse.f kj3 a0 a1).bind fun bt299 => (if bt299.2.2.2 = 0 then ((target_Text.f bt299.1 bt299.2.1 bt299.2.2.1).bind fun t305 => ((target_Parse.f kj3 t305 a2).bind fun bt306 => ((target_Resolve.f kj3 bt299.1 bt299.2.1 bt299.2.2.1 bt299.2.2.1).bind fun bt311 => ((target_Key.f bt299.1 bt299.2.1 bt299.2.2.1).bind fun bt316 => ((target_Key.f bt306.1 bt306.2.1 bt306.2.2.1).bind fun bt318 => (if (bt306.1.toList == bt299.1.toList && (bt306.2.1 == bt299.2.1 && (bt306.2.2.1.toList == bt299.2.2.1.toList))) = true then (if bt306.2.2.2 = 0 then (if (bt311.1.toList == bt299.1.toList && (bt311.2.1 == bt299.2.1 && (bt311.2.2.1.toList == bt299.2.2.1.toList))) = true then (if bt311.2.2.2 = true then (if bt299.2.1 ≥ 1 then (if bt299.2.1 ≤ 65535 then (if bt316.1.toList = bt318.1.toList then (if bt316.2 = bt318.2 then ((depotlaw08_plains.f kj3).bind fun t320 => (some t320)) else (some false)) else (some false)) else (some false)) else (some false)) else (some false)) else (some false)) else (some false)) else (some false))))))) else (if (bt299.1.toList == ([] : List UInt8) && (bt299.2.1 == 0 && (bt299.2.2.1.toList == ([] : List UInt8)))) = true then ((depotlaw08_plains.f kj3).bind fun t304 => (some t304)) else (some false)))) = some r := by rw [if_neg (show ¬ (false = true) by decide)] at H; exact H
        clear H
        have H := H1
        clear H1
        replace H := Option.bind_eq_some_iff.mp H
        obtain ⟨⟨t299, t300, t301, t302⟩, A100, H⟩ := H
        replace H : (if t302 = 0 then ((target_Text.f t299 t300 t301).bind fun t305 => ((target_Parse.f kj3 t305 a2).bind fun bt306 => ((target_Resolve.f kj3 t299 t300 t301 t301).bind fun bt311 => ((target_Key.f t299 t300 t301).bind fun bt316 => ((target_Key.f bt306.1 bt306.2.1 bt306.2.2.1).bind fun bt318 => (if (bt306.1.toList == t299.toList && (bt306.2.1 == t300 && (bt306.2.2.1.toList == t301.toList))) = true then (if bt306.2.2.2 = 0 then (if (bt311.1.toList == t299.toList && (bt311.2.1 == t300 && (bt311.2.2.1.toList == t301.toList))) = true then (if bt311.2.2.2 = true then (if t300 ≥ 1 then (if t300 ≤ 65535 then (if bt316.1.toList = bt318.1.toList then (if bt316.2 = bt318.2 then ((depotlaw08_plains.f kj3).bind fun t320 => (some t320)) else (some false)) else (some false)) else (some false)) else (some false)) else (some false)) else (some false)) else (some false)) else (some false))))))) else (if (t299.toList == ([] : List UInt8) && (t300 == 0 && (t301.toList == ([] : List UInt8)))) = true then ((depotlaw08_plains.f kj3).bind fun t304 => (some t304)) else (some false))) = some r := H
        have A10 := Aside0.mk A100
        clear A100
        by_cases c11 : t302 = 0
        · rw [if_pos c11] at H
          have c11b0 : (t302 == 0) = true := beq_iff_eq.mpr c11
          have c11b1 : (t302 != 0) = false := bne_eq_false_iff_eq.mpr c11
          clear c11
          replace H := Option.bind_eq_some_iff.mp H
          obtain ⟨t305, A120, H⟩ := H
          replace H : ((target_Parse.f kj3 t305 a2).bind fun bt306 => ((target_Resolve.f kj3 t299 t300 t301 t301).bind fun bt311 => ((target_Key.f t299 t300 t301).bind fun bt316 => ((target_Key.f bt306.1 bt306.2.1 bt306.2.2.1).bind fun bt318 => (if (bt306.1.toList == t299.toList && (bt306.2.1 == t300 && (bt306.2.2.1.toList == t301.toList))) = true then (if bt306.2.2.2 = 0 then (if (bt311.1.toList == t299.toList && (bt311.2.1 == t300 && (bt311.2.2.1.toList == t301.toList))) = true then (if bt311.2.2.2 = true then (if t300 ≥ 1 then (if t300 ≤ 65535 then (if bt316.1.toList = bt318.1.toList then (if bt316.2 = bt318.2 then ((depotlaw08_plains.f kj3).bind fun t320 => (some t320)) else (some false)) else (some false)) else (some false)) else (some false)) else (some false)) else (some false)) else (some false)) else (some false)))))) = some r := H
          have A12 := Aside0.mk A120
          clear A120
          replace H := Option.bind_eq_some_iff.mp H
          obtain ⟨⟨t306, t307, t308, t309⟩, A130, H⟩ := H
          replace H : ((target_Resolve.f kj3 t299 t300 t301 t301).bind fun bt311 => ((target_Key.f t299 t300 t301).bind fun bt316 => ((target_Key.f t306 t307 t308).bind fun bt318 => (if (t306.toList == t299.toList && (t307 == t300 && (t308.toList == t301.toList))) = true then (if t309 = 0 then (if (bt311.1.toList == t299.toList && (bt311.2.1 == t300 && (bt311.2.2.1.toList == t301.toList))) = true then (if bt311.2.2.2 = true then (if t300 ≥ 1 then (if t300 ≤ 65535 then (if bt316.1.toList = bt318.1.toList then (if bt316.2 = bt318.2 then ((depotlaw08_plains.f kj3).bind fun t320 => (some t320)) else (some false)) else (some false)) else (some false)) else (some false)) else (some false)) else (some false)) else (some false)) else (some false))))) = some r := H
          have A13 := Aside0.mk A130
          clear A130
          replace H := Option.bind_eq_some_iff.mp H
          obtain ⟨⟨t311, t312, t313, t314⟩, A140, H⟩ := H
          replace H : ((target_Key.f t299 t300 t301).bind fun bt316 => ((target_Key.f t306 t307 t308).bind fun bt318 => (if (t306.toList == t299.toList && (t307 == t300 && (t308.toList == t301.toList))) = true then (if t309 = 0 then (if (t311.toList == t299.toList && (t312 == t300 && (t313.toList == t301.toList))) = true then (if t314 = true then (if t300 ≥ 1 then (if t300 ≤ 65535 then (if bt316.1.toList = bt318.1.toList then (if bt316.2 = bt318.2 then ((depotlaw08_plains.f kj3).bind fun t320 => (some t320)) else (some false)) else (some false)) else (some false)) else (some false)) else (some false)) else (some false)) else (some false)) else (some false)))) = some r := H
          have A14 := Aside0.mk A140
          clear A140
          replace H := Option.bind_eq_some_iff.mp H
          obtain ⟨⟨t316, t317⟩, A150, H⟩ := H
          replace H : ((target_Key.f t306 t307 t308).bind fun bt318 => (if (t306.toList == t299.toList && (t307 == t300 && (t308.toList == t301.toList))) = true then (if t309 = 0 then (if (t311.toList == t299.toList && (t312 == t300 && (t313.toList == t301.toList))) = true then (if t314 = true then (if t300 ≥ 1 then (if t300 ≤ 65535 then (if t316.toList = bt318.1.toList then (if t317 = bt318.2 then ((depotlaw08_plains.f kj3).bind fun t320 => (some t320)) else (some false)) else (some false)) else (some false)) else (some false)) else (some false)) else (some false)) else (some false)) else (some false))) = some r := H
          have A15 := Aside0.mk A150
          clear A150
          replace H := Option.bind_eq_some_iff.mp H
          obtain ⟨⟨t318, t319⟩, A160, H⟩ := H
          replace H : (if (t306.toList == t299.toList && (t307 == t300 && (t308.toList == t301.toList))) = true then (if t309 = 0 then (if (t311.toList == t299.toList && (t312 == t300 && (t313.toList == t301.toList))) = true then (if t314 = true then (if t300 ≥ 1 then (if t300 ≤ 65535 then (if t316.toList = t318.toList then (if t317 = t319 then ((depotlaw08_plains.f kj3).bind fun t320 => (some t320)) else (some false)) else (some false)) else (some false)) else (some false)) else (some false)) else (some false)) else (some false)) else (some false)) = some r := H
          have A16 := Aside0.mk A160
          clear A160
          by_cases c17 : (t306.toList == t299.toList && (t307 == t300 && (t308.toList == t301.toList))) = true
          · rw [if_pos c17] at H
            have c17b0 : (t306.toList == t299.toList && (t307 == t300 && (t308.toList == t301.toList))) = true := c17
            (try (have c17b1 : decide (t306.toList = t299.toList && (t307 == t300 && (t308.toList == t301.toList))) = true := by simpa using c17))
            (try (have c17b2 : (t306.toList == t299.toList && (t307 == t300 && (t308.toList == t301.toList))) = true := by simpa using c17))
            (try (have c17b7 : (t306.toList = t299.toList ∧ t307 = t300 ∧ t308.toList = t301.toList) = True := eq_true (by simpa using c17)))
            clear c17
            by_cases c18 : t309 = 0
            · rw [if_pos c18] at H
              have c18b0 : (t309 == 0) = true := beq_iff_eq.mpr c18
              have c18b1 : (t309 != 0) = false := bne_eq_false_iff_eq.mpr c18
              clear c18
              by_cases c19 : (t311.toList == t299.toList && (t312 == t300 && (t313.toList == t301.toList))) = true
              · rw [if_pos c19] at H
                have c19b0 : (t311.toList == t299.toList && (t312 == t300 && (t313.toList == t301.toList))) = true := c19
                (try (have c19b1 : decide (t311.toList = t299.toList && (t312 == t300 && (t313.toList == t301.toList))) = true := by simpa using c19))
                (try (have c19b2 : (t311.toList == t299.toList && (t312 == t300 && (t313.toList == t301.toList))) = true := by simpa using c19))
                (try (have c19b7 : (t311.toList = t299.toList ∧ t312 = t300 ∧ t313.toList = t301.toList) = True := eq_true (by simpa using c19)))
                clear c19
                by_cases c20 : t314 = true
                · subst c20
                  have H1 : (if t300 ≥ 1 then (if t300 ≤ 65535 then (if t316.toList = t318.toList then (if t317 = t319 then ((depotlaw08_plains.f kj3).bind fun t320 => (some t320)) else (some false)) else (some false)) else (some false)) else (some false)) = some r := by rw [if_pos rfl] at H; exact H
                  clear H
                  have H := H1
                  clear H1
                  by_cases c21 : t300 ≥ 1
                  · rw [if_pos c21] at H
                    have c21b0 : decide (1 ≤ t300) = true := decide_eq_true c21
                    clear c21
                    by_cases c22 : t300 ≤ 65535
                    · rw [if_pos c22] at H
                      have c22b0 : decide (t300 ≤ 65535) = true := decide_eq_true c22
                      clear c22
                      by_cases c23 : t316.toList = t318.toList
                      · rw [if_pos c23] at H
                        have c23b0 : (t316.toList == t318.toList) = true := beq_iff_eq.mpr c23
                        have c23b1 : (t316.toList != t318.toList) = false := bne_eq_false_iff_eq.mpr c23
                        clear c23
                        by_cases c24 : t317 = t319
                        · rw [if_pos c24] at H
                          have c24b0 : (t317 == t319) = true := beq_iff_eq.mpr c24
                          have c24b1 : (t317 != t319) = false := bne_eq_false_iff_eq.mpr c24
                          clear c24
                          replace H := Option.bind_eq_some_iff.mp H
                          obtain ⟨t320, A250, H⟩ := H
                          replace H : (some t320) = some r := H
                          have A25 := Aside0.mk A250
                          clear A250
                          obtain rfl := Option.some.inj H
                          go_wp2_with (first | ((with_reducible refine gate_callee (f := 13) rfl ?_); refine goesL_ (some 34) rfl rfl Tryd.func13 (by kernel_rfl) rfl #[.string a0, .string a1] rfl (by (try simp only [List.map_toArray, List.map_cons, List.map_nil]); first | done | rfl | (simp only [List.length_drop, List.length_take]; rfl)) ?_; (with_reducible refine (target_Parse.calls kj3 a0 a1 t299 t300 t301 t302 _ ?side1 A10.out).mono ?_); (case side1 => first | exact HT | exact ⟨Hand.Laid.below HT.out (by repeat (first | (with_reducible first | exact HB.out | apply below_alloc | apply pw_below_drewN | apply below_drew1) | exact HB.out))⟩); rintro e w26 ⟨rfl, hb⟩; refine ⟨_, rfl, ?_⟩; have n0_ := Aside0.mk (below_step (by repeat (first | (with_reducible first | exact HB.out | apply below_alloc | apply pw_below_drewN | apply below_drew1) | exact HB.out)) hb); clear HB; have HB := n0_; clear n0_; (try clear hb); (try clear hb2); (try clear hk); (try clear hi)) | ((with_reducible refine gate_dst (N := 7) rfl ?_); (try (refine gate_guard (by rfl) ?_; dsimp only)); refine box_event ?hg (N := 7) ?hd (cs := #[.string (⟨#[]⟩ : ByteArray), .int .i64 0, .string (⟨#[]⟩ : ByteArray)]) (t := 34) ?hr ?_; (case hd => rfl); (case hg => rfl); (case hr => first | (go_simp; done) | (go_simp; rfl)); intro gb303 hg w27 hbox hb; have n0_ := Aside0.mk (below_step (by repeat (first | (with_reducible first | exact HB.out | apply below_alloc | apply pw_below_drewN | apply below_drew1) | exact HB.out)) hb); have n1_ := Aside0.mk (hbox); have n2_ := Aside0.mk ((by rw [hg]; exact (below_size (by repeat (first | (with_reducible first | exact HB.out | apply below_alloc | apply pw_below_drewN | apply below_drew1) | exact HB.out))) : w.heap.size ≤ gb303)); have n3_ := Aside0.mk ((by rw [hg]; exact (below_size (by repeat (first | (with_reducible first | exact HB.out | apply below_alloc | apply pw_below_drewN | apply below_drew1) | exact HB.out))) : w.heap.size ≤ gb303)); clear HB; have HB := n0_; have BK303 := n1_; have GW303 := n2_; have GE303 := n3_; clear n0_ n1_ n2_ n3_; clear hb hbox hg; have hcz28_0 : w27.cell? ⟨gb303, 0, none⟩ = some (.string (⟨#[]⟩ : ByteArray)) := (blk_cell BK303.out 0).trans rfl; have hcz28_1 : w27.cell? ⟨gb303, 1, none⟩ = some (.int .i64 0) := (blk_cell BK303.out 1).trans rfl; have hcz28_2 : w27.cell? ⟨gb303, 2, none⟩ = some (.string (⟨#[]⟩ : ByteArray)) := (blk_cell BK303.out 2).trans rfl; have hfz28_0 := blk_frozen BK303.out 0; have hfz28_1 := blk_frozen BK303.out 1; have hfz28_2 := blk_frozen BK303.out 2) | ((with_reducible refine gate_callee (f := 19) rfl ?_); refine goesL_ (some 47) rfl rfl Tryd.func19 (by kernel_rfl) rfl #[.agg #[.string t299, .int .i64 t300, .string t301]] rfl (by (try simp only [List.map_toArray, List.map_cons, List.map_nil]); first | done | rfl | (simp only [List.length_drop, List.length_take]; rfl)) ?_; (with_reducible refine (target_Text.calls t299 t300 t301 t305 _ ?side1 A12.out).mono ?_); (case side1 => first | exact HT | exact ⟨Hand.Laid.below HT.out (by repeat (first | (with_reducible first | exact HB.out | apply below_alloc | apply pw_below_drewN | apply below_drew1 | refine below_set ?_ GE303.out) | exact HB.out))⟩); rintro e w29 ⟨rfl, hb⟩; refine ⟨_, rfl, ?_⟩; have n0_ := Aside0.mk (blk_below (g := gb303) (o := .cells #[.string t299, .int .i64 t300, .string t301] 34 (0, 0)) (by (with_reducible repeat (first | refine blk_drewN ?_ _ | refine blk_drew ?_ | refine blk_alloc ?_ _)); refine blk_put (cs := #[.string t299, .int .i64 t300, .string (⟨#[]⟩ : ByteArray)]) ?_ 2 _ rfl; (with_reducible repeat (first | refine blk_drewN ?_ _ | refine blk_drew ?_ | refine blk_alloc ?_ _)); refine blk_put (cs := #[.string t299, .int .i64 0, .string (⟨#[]⟩ : ByteArray)]) ?_ 1 _ rfl; (with_reducible repeat (first | refine blk_drewN ?_ _ | refine blk_drew ?_ | refine blk_alloc ?_ _)); refine blk_put (cs := #[.string (⟨#[]⟩ : ByteArray), .int .i64 0, .string (⟨#[]⟩ : ByteArray)]) ?_ 0 _ rfl; (with_reducible repeat (first | refine blk_drewN ?_ _ | refine blk_drew ?_ | refine blk_alloc ?_ _)); exact BK303.out) hb); have n1_ := Aside0.mk (below_step (by repeat (first | (with_reducible first | exact HB.out | apply below_alloc | apply pw_below_drewN | apply below_drew1 | refine below_set ?_ GE303.out) | exact HB.out)) hb); clear BK303; clear HB; have BK303 := n0_; have HB := n1_; clear n0_ n1_; (try clear hb); (try clear hb2); (try clear hk); (try clear hi)) | ((with_reducible refine gate_callee (f := 13) rfl ?_); refine goesL_ (some 49) rfl rfl Tryd.func13 (by kernel_rfl) rfl #[.string t305, .string a2] rfl (by (try simp only [List.map_toArray, List.map_cons, List.map_nil]); first | done | rfl | (simp only [List.length_drop, List.length_take]; rfl)) ?_; (with_reducible refine (target_Parse.calls kj3 t305 a2 t306 t307 t308 t309 _ ?side1 A13.out).mono ?_); (case side1 => first | exact HT | exact ⟨Hand.Laid.below HT.out (by repeat (first | (with_reducible first | exact HB.out | apply below_alloc | apply pw_below_drewN | apply below_drew1 | refine below_set ?_ GE303.out) | exact HB.out))⟩); rintro e w30 ⟨rfl, hb⟩; refine ⟨_, rfl, ?_⟩; have n0_ := Aside0.mk (blk_below (g := gb303) (o := .cells #[.string t299, .int .i64 t300, .string t301] 34 (0, 0)) (by (with_reducible repeat (first | refine blk_drewN ?_ _ | refine blk_drew ?_ | refine blk_alloc ?_ _)); exact BK303.out) hb); have n1_ := Aside0.mk (below_step (by repeat (first | (with_reducible first | exact HB.out | apply below_alloc | apply pw_below_drewN | apply below_drew1 | refine below_set ?_ GE303.out) | exact HB.out)) hb); clear BK303; clear HB; have BK303 := n0_; have HB := n1_; clear n0_ n1_; (try clear hb); (try clear hb2); (try clear hk); (try clear hi)) | ((with_reducible refine gate_dst (N := 9) rfl ?_); (try (refine gate_guard (by rfl) ?_; dsimp only)); refine box_event ?hg (N := 9) ?hd (cs := #[.string (⟨#[]⟩ : ByteArray), .int .i64 0, .string (⟨#[]⟩ : ByteArray)]) (t := 34) ?hr ?_; (case hd => rfl); (case hg => rfl); (case hr => first | (go_simp; done) | (go_simp; rfl)); intro gb310 hg w31 hbox hb; have n0_ := Aside0.mk (blk_below (g := gb303) (o := .cells #[.string t299, .int .i64 t300, .string t301] 34 (0, 0)) (by (with_reducible repeat (first | refine blk_drewN ?_ _ | refine blk_drew ?_ | refine blk_alloc ?_ _)); exact BK303.out) hb); have n1_ := Aside0.mk (below_step (by repeat (first | (with_reducible first | exact HB.out | apply below_alloc | apply pw_below_drewN | apply below_drew1 | refine below_set ?_ GE303.out) | exact HB.out)) hb); have n2_ := Aside0.mk (hbox); have n3_ := Aside0.mk ((by rw [hg]; exact (below_size (by repeat (first | (with_reducible first | exact HB.out | apply below_alloc | apply pw_below_drewN | apply below_drew1 | refine below_set ?_ GE303.out) | exact HB.out))) : w.heap.size ≤ gb310)); have n4_ := Aside0.mk ((by rw [hg]; exact (below_size (by repeat (first | (with_reducible first | exact HB.out | apply below_alloc | apply pw_below_drewN | apply below_drew1 | refine below_set ?_ GE303.out) | exact HB.out))) : w.heap.size ≤ gb310)); have n5_ := Aside0.mk ((by rw [hg]; exact Nat.ne_of_lt (blk_lt (g := gb303) (o := .cells #[.string t299, .int .i64 t300, .string t301] 34 (0, 0)) (by (with_reducible repeat (first | refine blk_drewN ?_ _ | refine blk_drew ?_ | refine blk_alloc ?_ _)); exact BK303.out)) : gb303 ≠ gb310)); have n6_ := Aside0.mk ((by rw [hg]; exact Nat.ne_of_gt (blk_lt (g := gb303) (o := .cells #[.string t299, .int .i64 t300, .string t301] 34 (0, 0)) (by (with_reducible repeat (first | refine blk_drewN ?_ _ | refine blk_drew ?_ | refine blk_alloc ?_ _)); exact BK303.out)) : gb310 ≠ gb303)); clear BK303; clear HB; have BK303 := n0_; have HB := n1_; have BK310 := n2_; have GW310 := n3_; have GE310 := n4_; have NB303_310 := n5_; have NB310_303 := n6_; clear n0_ n1_ n2_ n3_ n4_ n5_ n6_; clear hb hbox hg; have hnb32 := NB310_303.out; have hnc32 := NB303_310.out; have hcz33_0 : w31.cell? ⟨gb310, 0, none⟩ = some (.string (⟨#[]⟩ : ByteArray)) := (blk_cell BK310.out 0).trans rfl; have hcz33_1 : w31.cell? ⟨gb310, 1, none⟩ = some (.int .i64 0) := (blk_cell BK310.out 1).trans rfl; have hcz33_2 : w31.cell? ⟨gb310, 2, none⟩ = some (.string (⟨#[]⟩ : ByteArray)) := (blk_cell BK310.out 2).trans rfl; have hfz33_0 := blk_frozen BK310.out 0; have hfz33_1 := blk_frozen BK310.out 1; have hfz33_2 := blk_frozen BK310.out 2; have hcz34_0 : w31.cell? ⟨gb303, 0, none⟩ = some (.string t299) := (blk_cell BK303.out 0).trans rfl; have hcz34_1 : w31.cell? ⟨gb303, 1, none⟩ = some (.int .i64 t300) := (blk_cell BK303.out 1).trans rfl; have hcz34_2 : w31.cell? ⟨gb303, 2, none⟩ = some (.string t301) := (blk_cell BK303.out 2).trans rfl; have hfz34_0 := blk_frozen BK303.out 0; have hfz34_1 := blk_frozen BK303.out 1; have hfz34_2 := blk_frozen BK303.out 2) | ((with_reducible refine gate_callee (f := 15) rfl ?_); refine goesL_ (some 56) rfl rfl Tryd.func15 (by kernel_rfl) rfl #[.agg #[.string t299, .int .i64 t300, .string t301], .string t301] rfl (by (try simp only [List.map_toArray, List.map_cons, List.map_nil]); first | done | rfl | (simp only [List.length_drop, List.length_take]; rfl)) ?_; (with_reducible refine (target_Resolve.calls kj3 t299 t300 t301 t301 t311 t312 t313 true _ ?side1 A14.out).mono ?_); (case side1 => first | exact HT | exact ⟨Hand.Laid.below HT.out (by repeat (first | (with_reducible first | exact HB.out | apply below_alloc | apply pw_below_drewN | apply below_drew1 | refine below_set ?_ GE303.out | refine below_set ?_ GE310.out) | exact HB.out))⟩); rintro e w35 ⟨rfl, hb⟩; refine ⟨_, rfl, ?_⟩; have n0_ := Aside0.mk (blk_below (g := gb303) (o := .cells #[.string t299, .int .i64 t300, .string t301] 34 (0, 0)) (by (with_reducible repeat (first | refine blk_drewN ?_ _ | refine blk_drew ?_ | refine blk_alloc ?_ _)); refine blk_far ?_ NB303_310.out _; (with_reducible repeat (first | refine blk_drewN ?_ _ | refine blk_drew ?_ | refine blk_alloc ?_ _)); refine blk_far ?_ NB303_310.out _; (with_reducible repeat (first | refine blk_drewN ?_ _ | refine blk_drew ?_ | refine blk_alloc ?_ _)); refine blk_far ?_ NB303_310.out _; (with_reducible repeat (first | refine blk_drewN ?_ _ | refine blk_drew ?_ | refine blk_alloc ?_ _)); exact BK303.out) hb); have n1_ := Aside0.mk (blk_below (g := gb310) (o := .cells #[.string t306, .int .i64 t307, .string t308] 34 (0, 0)) (by (with_reducible repeat (first | refine blk_drewN ?_ _ | refine blk_drew ?_ | refine blk_alloc ?_ _)); refine blk_put (cs := #[.string t306, .int .i64 t307, .string (⟨#[]⟩ : ByteArray)]) ?_ 2 _ rfl; (with_reducible repeat (first | refine blk_drewN ?_ _ | refine blk_drew ?_ | refine blk_alloc ?_ _)); refine blk_put (cs := #[.string t306, .int .i64 0, .string (⟨#[]⟩ : ByteArray)]) ?_ 1 _ rfl; (with_reducible repeat (first | refine blk_drewN ?_ _ | refine blk_drew ?_ | refine blk_alloc ?_ _)); refine blk_put (cs := #[.string (⟨#[]⟩ : ByteArray), .int .i64 0, .string (⟨#[]⟩ : ByteArray)]) ?_ 0 _ rfl; (with_reducible repeat (first | refine blk_drewN ?_ _ | refine blk_drew ?_ | refine blk_alloc ?_ _)); exact BK310.out) hb); have n2_ := Aside0.mk (below_step (by repeat (first | (with_reducible first | exact HB.out | apply below_alloc | apply pw_below_drewN | apply below_drew1 | refine below_set ?_ GE303.out | refine below_set ?_ GE310.out) | exact HB.out)) hb); clear BK303; clear BK310; clear HB; have BK303 := n0_; have BK310 := n1_; have HB := n2_; clear n0_ n1_ n2_; (try clear hb); (try clear hb2); (try clear hk); (try clear hi)) | ((with_reducible refine gate_dst (N := 11) rfl ?_); (try (refine gate_guard (by rfl) ?_; dsimp only)); refine box_event ?hg (N := 11) ?hd (cs := #[.string (⟨#[]⟩ : ByteArray), .int .i64 0, .string (⟨#[]⟩ : ByteArray)]) (t := 34) ?hr ?_; (case hd => rfl); (case hg => rfl); (case hr => first | (go_simp; done) | (go_simp; rfl)); intro gb315 hg w36 hbox hb; have n0_ := Aside0.mk (blk_below (g := gb303) (o := .cells #[.string t299, .int .i64 t300, .string t301] 34 (0, 0)) (by (with_reducible repeat (first | refine blk_drewN ?_ _ | refine blk_drew ?_ | refine blk_alloc ?_ _)); exact BK303.out) hb); have n1_ := Aside0.mk (blk_below (g := gb310) (o := .cells #[.string t306, .int .i64 t307, .string t308] 34 (0, 0)) (by (with_reducible repeat (first | refine blk_drewN ?_ _ | refine blk_drew ?_ | refine blk_alloc ?_ _)); exact BK310.out) hb); have n2_ := Aside0.mk (below_step (by repeat (first | (with_reducible first | exact HB.out | apply below_alloc | apply pw_below_drewN | apply below_drew1 | refine below_set ?_ GE303.out | refine below_set ?_ GE310.out) | exact HB.out)) hb); have n3_ := Aside0.mk (hbox); have n4_ := Aside0.mk ((by rw [hg]; exact (below_size (by repeat (first | (with_reducible first | exact HB.out | apply below_alloc | apply pw_below_drewN | apply below_drew1 | refine below_set ?_ GE303.out | refine below_set ?_ GE310.out) | exact HB.out))) : w.heap.size ≤ gb315)); have n5_ := Aside0.mk ((by rw [hg]; exact (below_size (by repeat (first | (with_reducible first | exact HB.out | apply below_alloc | apply pw_below_drewN | apply below_drew1 | refine below_set ?_ GE303.out | refine below_set ?_ GE310.out) | exact HB.out))) : w.heap.size ≤ gb315)); have n6_ := Aside0.mk ((by rw [hg]; exact Nat.ne_of_lt (blk_lt (g := gb303) (o := .cells #[.string t299, .int .i64 t300, .string t301] 34 (0, 0)) (by (with_reducible repeat (first | refine blk_drewN ?_ _ | refine blk_drew ?_ | refine blk_alloc ?_ _)); exact BK303.out)) : gb303 ≠ gb315)); have n7_ := Aside0.mk ((by rw [hg]; exact Nat.ne_of_gt (blk_lt (g := gb303) (o := .cells #[.string t299, .int .i64 t300, .string t301] 34 (0, 0)) (by (with_reducible repeat (first | refine blk_drewN ?_ _ | refine blk_drew ?_ | refine blk_alloc ?_ _)); exact BK303.out)) : gb315 ≠ gb303)); have n8_ := Aside0.mk ((by rw [hg]; exact Nat.ne_of_lt (blk_lt (g := gb310) (o := .cells #[.string t306, .int .i64 t307, .string t308] 34 (0, 0)) (by (with_reducible repeat (first | refine blk_drewN ?_ _ | refine blk_drew ?_ | refine blk_alloc ?_ _)); exact BK310.out)) : gb310 ≠ gb315)); have n9_ := Aside0.mk ((by rw [hg]; exact Nat.ne_of_gt (blk_lt (g := gb310) (o := .cells #[.string t306, .int .i64 t307, .string t308] 34 (0, 0)) (by (with_reducible repeat (first | refine blk_drewN ?_ _ | refine blk_drew ?_ | refine blk_alloc ?_ _)); exact BK310.out)) : gb315 ≠ gb310)); clear BK303; clear BK310; clear HB; have BK303 := n0_; have BK310 := n1_; have HB := n2_; have BK315 := n3_; have GW315 := n4_; have GE315 := n5_; have NB303_315 := n6_; have NB315_303 := n7_; have NB310_315 := n8_; have NB315_310 := n9_; clear n0_ n1_ n2_ n3_ n4_ n5_ n6_ n7_ n8_ n9_; clear hb hbox hg; have hnb37 := NB315_303.out; have hnc37 := NB303_315.out; have hnb38 := NB315_310.out; have hnc38 := NB310_315.out; have hcz39_0 : w36.cell? ⟨gb315, 0, none⟩ = some (.string (⟨#[]⟩ : ByteArray)) := (blk_cell BK315.out 0).trans rfl; have hcz39_1 : w36.cell? ⟨gb315, 1, none⟩ = some (.int .i64 0) := (blk_cell BK315.out 1).trans rfl; have hcz39_2 : w36.cell? ⟨gb315, 2, none⟩ = some (.string (⟨#[]⟩ : ByteArray)) := (blk_cell BK315.out 2).trans rfl; have hfz39_0 := blk_frozen BK315.out 0; have hfz39_1 := blk_frozen BK315.out 1; have hfz39_2 := blk_frozen BK315.out 2; have hcz40_0 : w36.cell? ⟨gb303, 0, none⟩ = some (.string t299) := (blk_cell BK303.out 0).trans rfl; have hcz40_1 : w36.cell? ⟨gb303, 1, none⟩ = some (.int .i64 t300) := (blk_cell BK303.out 1).trans rfl; have hcz40_2 : w36.cell? ⟨gb303, 2, none⟩ = some (.string t301) := (blk_cell BK303.out 2).trans rfl; have hfz40_0 := blk_frozen BK303.out 0; have hfz40_1 := blk_frozen BK303.out 1; have hfz40_2 := blk_frozen BK303.out 2) | ((with_reducible refine gate_callee (f := 17) rfl ?_); refine goesL_ (some 61) rfl rfl Tryd.func17 (by kernel_rfl) rfl #[.agg #[.string t299, .int .i64 t300, .string t301]] rfl (by (try simp only [List.map_toArray, List.map_cons, List.map_nil]); first | done | rfl | (simp only [List.length_drop, List.length_take]; rfl)) ?_; (with_reducible refine (target_Key.calls t299 t300 t301 t316 t317 _ ?side1 A15.out).mono ?_); (case side1 => first | exact HT | exact ⟨Hand.Laid.below HT.out (by repeat (first | (with_reducible first | exact HB.out | apply below_alloc | apply pw_below_drewN | apply below_drew1 | refine below_set ?_ GE303.out | refine below_set ?_ GE310.out | refine below_set ?_ GE315.out) | exact HB.out))⟩); rintro e w41 ⟨rfl, hb⟩; refine ⟨_, rfl, ?_⟩; have n0_ := Aside0.mk (blk_below (g := gb303) (o := .cells #[.string t299, .int .i64 t300, .string t301] 34 (0, 0)) (by (with_reducible repeat (first | refine blk_drewN ?_ _ | refine blk_drew ?_ | refine blk_alloc ?_ _)); refine blk_far ?_ NB303_315.out _; (with_reducible repeat (first | refine blk_drewN ?_ _ | refine blk_drew ?_ | refine blk_alloc ?_ _)); refine blk_far ?_ NB303_315.out _; (with_reducible repeat (first | refine blk_drewN ?_ _ | refine blk_drew ?_ | refine blk_alloc ?_ _)); refine blk_far ?_ NB303_315.out _; (with_reducible repeat (first | refine blk_drewN ?_ _ | refine blk_drew ?_ | refine blk_alloc ?_ _)); exact BK303.out) hb); have n1_ := Aside0.mk (blk_below (g := gb310) (o := .cells #[.string t306, .int .i64 t307, .string t308] 34 (0, 0)) (by (with_reducible repeat (first | refine blk_drewN ?_ _ | refine blk_drew ?_ | refine blk_alloc ?_ _)); refine blk_far ?_ NB310_315.out _; (with_reducible repeat (first | refine blk_drewN ?_ _ | refine blk_drew ?_ | refine blk_alloc ?_ _)); refine blk_far ?_ NB310_315.out _; (with_reducible repeat (first | refine blk_drewN ?_ _ | refine blk_drew ?_ | refine blk_alloc ?_ _)); refine blk_far ?_ NB310_315.out _; (with_reducible repeat (first | refine blk_drewN ?_ _ | refine blk_drew ?_ | refine blk_alloc ?_ _)); exact BK310.out) hb); have n2_ := Aside0.mk (blk_below (g := gb315) (o := .cells #[.string t311, .int .i64 t312, .string t313] 34 (0, 0)) (by (with_reducible repeat (first | refine blk_drewN ?_ _ | refine blk_drew ?_ | refine blk_alloc ?_ _)); refine blk_put (cs := #[.string t311, .int .i64 t312, .string (⟨#[]⟩ : ByteArray)]) ?_ 2 _ rfl; (with_reducible repeat (first | refine blk_drewN ?_ _ | refine blk_drew ?_ | refine blk_alloc ?_ _)); refine blk_put (cs := #[.string t311, .int .i64 0, .string (⟨#[]⟩ : ByteArray)]) ?_ 1 _ rfl; (with_reducible repeat (first | refine blk_drewN ?_ _ | refine blk_drew ?_ | refine blk_alloc ?_ _)); refine blk_put (cs := #[.string (⟨#[]⟩ : ByteArray), .int .i64 0, .string (⟨#[]⟩ : ByteArray)]) ?_ 0 _ rfl; (with_reducible repeat (first | refine blk_drewN ?_ _ | refine blk_drew ?_ | refine blk_alloc ?_ _)); exact BK315.out) hb); have n3_ := Aside0.mk (below_step (by repeat (first | (with_reducible first | exact HB.out | apply below_alloc | apply pw_below_drewN | apply below_drew1 | refine below_set ?_ GE303.out | refine below_set ?_ GE310.out | refine below_set ?_ GE315.out) | exact HB.out)) hb); clear BK303; clear BK310; clear BK315; clear HB; have BK303 := n0_; have BK310 := n1_; have BK315 := n2_; have HB := n3_; clear n0_ n1_ n2_ n3_; (try clear hb); (try clear hb2); (try clear hk); (try clear hi); have hcz42_0 : w41.cell? ⟨gb310, 0, none⟩ = some (.string t306) := (blk_cell BK310.out 0).trans rfl; have hcz42_1 : w41.cell? ⟨gb310, 1, none⟩ = some (.int .i64 t307) := (blk_cell BK310.out 1).trans rfl; have hcz42_2 : w41.cell? ⟨gb310, 2, none⟩ = some (.string t308) := (blk_cell BK310.out 2).trans rfl; have hfz42_0 := blk_frozen BK310.out 0; have hfz42_1 := blk_frozen BK310.out 1; have hfz42_2 := blk_frozen BK310.out 2) | ((with_reducible refine gate_callee (f := 17) rfl ?_); refine goesL_ (some 66) rfl rfl Tryd.func17 (by kernel_rfl) rfl #[.agg #[.string t306, .int .i64 t307, .string t308]] rfl (by (try simp only [List.map_toArray, List.map_cons, List.map_nil]); first | done | rfl | (simp only [List.length_drop, List.length_take]; rfl)) ?_; (with_reducible refine (target_Key.calls t306 t307 t308 t318 t319 _ ?side1 A16.out).mono ?_); (case side1 => first | exact HT | exact ⟨Hand.Laid.below HT.out (by repeat (first | (with_reducible first | exact HB.out | apply below_alloc | apply pw_below_drewN | apply below_drew1 | refine below_set ?_ GE303.out | refine below_set ?_ GE310.out | refine below_set ?_ GE315.out) | exact HB.out))⟩); rintro e w43 ⟨rfl, hb⟩; refine ⟨_, rfl, ?_⟩; have n0_ := Aside0.mk (blk_below (g := gb303) (o := .cells #[.string t299, .int .i64 t300, .string t301] 34 (0, 0)) (by (with_reducible repeat (first | refine blk_drewN ?_ _ | refine blk_drew ?_ | refine blk_alloc ?_ _)); exact BK303.out) hb); have n1_ := Aside0.mk (blk_below (g := gb310) (o := .cells #[.string t306, .int .i64 t307, .string t308] 34 (0, 0)) (by (with_reducible repeat (first | refine blk_drewN ?_ _ | refine blk_drew ?_ | refine blk_alloc ?_ _)); exact BK310.out) hb); have n2_ := Aside0.mk (blk_below (g := gb315) (o := .cells #[.string t311, .int .i64 t312, .string t313] 34 (0, 0)) (by (with_reducible repeat (first | refine blk_drewN ?_ _ | refine blk_drew ?_ | refine blk_alloc ?_ _)); exact BK315.out) hb); have n3_ := Aside0.mk (below_step (by repeat (first | (with_reducible first | exact HB.out | apply below_alloc | apply pw_below_drewN | apply below_drew1 | refine below_set ?_ GE303.out | refine below_set ?_ GE310.out | refine below_set ?_ GE315.out) | exact HB.out)) hb); clear BK303; clear BK310; clear BK315; clear HB; have BK303 := n0_; have BK310 := n1_; have BK315 := n2_; have HB := n3_; clear n0_ n1_ n2_ n3_; (try clear hb); (try clear hb2); (try clear hk); (try clear hi); have hcz44_0 : w43.cell? ⟨gb310, 0, none⟩ = some (.string t306) := (blk_cell BK310.out 0).trans rfl; have hcz44_1 : w43.cell? ⟨gb310, 1, none⟩ = some (.int .i64 t307) := (blk_cell BK310.out 1).trans rfl; have hcz44_2 : w43.cell? ⟨gb310, 2, none⟩ = some (.string t308) := (blk_cell BK310.out 2).trans rfl; have hfz44_0 := blk_frozen BK310.out 0; have hfz44_1 := blk_frozen BK310.out 1; have hfz44_2 := blk_frozen BK310.out 2; have hcz45_0 : w43.cell? ⟨gb303, 0, none⟩ = some (.string t299) := (blk_cell BK303.out 0).trans rfl; have hcz45_1 : w43.cell? ⟨gb303, 1, none⟩ = some (.int .i64 t300) := (blk_cell BK303.out 1).trans rfl; have hcz45_2 : w43.cell? ⟨gb303, 2, none⟩ = some (.string t301) := (blk_cell BK303.out 2).trans rfl; have hfz45_0 := blk_frozen BK303.out 0; have hfz45_1 := blk_frozen BK303.out 1; have hfz45_2 := blk_frozen BK303.out 2; have hcz46_0 : w43.cell? ⟨gb315, 0, none⟩ = some (.string t311) := (blk_cell BK315.out 0).trans rfl; have hcz46_1 : w43.cell? ⟨gb315, 1, none⟩ = some (.int .i64 t312) := (blk_cell BK315.out 1).trans rfl; have hcz46_2 : w43.cell? ⟨gb315, 2, none⟩ = some (.string t313) := (blk_cell BK315.out 2).trans rfl; have hfz46_0 := blk_frozen BK315.out 0; have hfz46_1 := blk_frozen BK315.out 1; have hfz46_2 := blk_frozen BK315.out 2) | (go_at_call 8; (with_reducible refine (depotlaw08_plains.calls kj3  t320 _ ?side2 ?side1 A25.out).mono ?_); (case side1 => first | exact HT | exact ⟨Hand.Laid.below HT.out (by repeat (first | (with_reducible first | exact HB.out | apply below_alloc | apply pw_below_drewN | apply below_drew1 | refine below_set ?_ GE303.out | refine below_set ?_ GE310.out | refine below_set ?_ GE315.out) | exact HB.out))⟩); (case side2 => first | exact ⟨rfl⟩ | exact HTRUE); rintro e w47 ⟨rfl, hb⟩; have n0_ := Aside0.mk (blk_below (g := gb303) (o := .cells #[.string t299, .int .i64 t300, .string t301] 34 (0, 0)) (by (with_reducible repeat (first | refine blk_drewN ?_ _ | refine blk_drew ?_ | refine blk_alloc ?_ _)); exact BK303.out) hb); have n1_ := Aside0.mk (blk_below (g := gb310) (o := .cells #[.string t306, .int .i64 t307, .string t308] 34 (0, 0)) (by (with_reducible repeat (first | refine blk_drewN ?_ _ | refine blk_drew ?_ | refine blk_alloc ?_ _)); exact BK310.out) hb); have n2_ := Aside0.mk (blk_below (g := gb315) (o := .cells #[.string t311, .int .i64 t312, .string t313] 34 (0, 0)) (by (with_reducible repeat (first | refine blk_drewN ?_ _ | refine blk_drew ?_ | refine blk_alloc ?_ _)); exact BK315.out) hb); have n3_ := Aside0.mk (below_step (by repeat (first | (with_reducible first | exact HB.out | apply below_alloc | apply pw_below_drewN | apply below_drew1 | refine below_set ?_ GE303.out | refine below_set ?_ GE310.out | refine below_set ?_ GE315.out) | exact HB.out)) hb); clear BK303; clear BK310; clear BK315; clear HB; have BK303 := n0_; have BK310 := n1_; have BK315 := n2_; have HB := n3_; clear n0_ n1_ n2_ n3_; (try clear hb); (try clear hb2); (try clear hk); (try clear hi)))
                          go_ret
                          exact ⟨by first | rfl | (simp [errW_none, errW_some] <;> rfl) | (simp [*, errW_none, errW_some] <;> rfl), by repeat (first | (with_reducible first | exact HB.out | apply below_alloc | apply pw_below_drewN | apply below_drew1 | refine below_set ?_ GE303.out | refine below_set ?_ GE310.out | refine below_set ?_ GE315.out) | exact HB.out)⟩
                        · rw [if_neg c24] at H
                          have c24b0 : (t317 == t319) = false := beq_eq_false_iff_ne.mpr c24
                          have c24b1 : (t317 != t319) = true := bne_iff_ne.mpr c24
                          obtain rfl := Option.some.inj H
                          exact absurd HTRUE.out (by decide)
                      · rw [if_neg c23] at H
                        have c23b0 : (t316.toList == t318.toList) = false := beq_eq_false_iff_ne.mpr c23
                        have c23b1 : (t316.toList != t318.toList) = true := bne_iff_ne.mpr c23
                        obtain rfl := Option.some.inj H
                        exact absurd HTRUE.out (by decide)
                    · rw [if_neg c22] at H
                      have c22b0 : decide (t300 ≤ 65535) = false := decide_eq_false c22
                      clear c22
                      obtain rfl := Option.some.inj H
                      exact absurd HTRUE.out (by decide)
                  · rw [if_neg c21] at H
                    have c21b0 : decide (1 ≤ t300) = false := decide_eq_false c21
                    clear c21
                    obtain rfl := Option.some.inj H
                    exact absurd HTRUE.out (by decide)
                · replace c20 := Bool.eq_false_iff.mpr c20
                  subst c20
                  have H1 : (some false) = some r := by rw [if_neg (show ¬ (false = true) by decide)] at H; exact H
                  clear H
                  have H := H1
                  clear H1
                  obtain rfl := Option.some.inj H
                  exact absurd HTRUE.out (by decide)
              · rw [if_neg c19] at H
                have c19b0 : (t311.toList == t299.toList && (t312 == t300 && (t313.toList == t301.toList))) = false := by simpa using c19
                (try (have c19b1 : decide (t311.toList = t299.toList && (t312 == t300 && (t313.toList == t301.toList))) = false := by simpa using c19))
                (try (have c19b2 : (t311.toList == t299.toList && (t312 == t300 && (t313.toList == t301.toList))) = false := by simpa using c19))
                (try (have c19b3 : ¬ (t311.toList = t299.toList && (t312 == t300 && (t313.toList == t301.toList))) := by simpa using c19))
                (try (have c19b7 : (t311.toList = t299.toList ∧ t312 = t300 ∧ t313.toList = t301.toList) = False := eq_false (by simpa using c19)))
                clear c19
                obtain rfl := Option.some.inj H
                exact absurd HTRUE.out (by decide)
            · rw [if_neg c18] at H
              have c18b0 : (t309 == 0) = false := beq_eq_false_iff_ne.mpr c18
              have c18b1 : (t309 != 0) = true := bne_iff_ne.mpr c18
              obtain rfl := Option.some.inj H
              exact absurd HTRUE.out (by decide)
          · rw [if_neg c17] at H
            have c17b0 : (t306.toList == t299.toList && (t307 == t300 && (t308.toList == t301.toList))) = false := by simpa using c17
            (try (have c17b1 : decide (t306.toList = t299.toList && (t307 == t300 && (t308.toList == t301.toList))) = false := by simpa using c17))
            (try (have c17b2 : (t306.toList == t299.toList && (t307 == t300 && (t308.toList == t301.toList))) = false := by simpa using c17))
            (try (have c17b3 : ¬ (t306.toList = t299.toList && (t307 == t300 && (t308.toList == t301.toList))) := by simpa using c17))
            (try (have c17b7 : (t306.toList = t299.toList ∧ t307 = t300 ∧ t308.toList = t301.toList) = False := eq_false (by simpa using c17)))
            clear c17
            obtain rfl := Option.some.inj H
            exact absurd HTRUE.out (by decide)
        · rw [if_neg c11] at H
          have c11b0 : (t302 == 0) = false := beq_eq_false_iff_ne.mpr c11
          have c11b1 : (t302 != 0) = true := bne_iff_ne.mpr c11
          by_cases c48 : (t299.toList == ([] : List UInt8) && (t300 == 0 && (t301.toList == ([] : List UInt8)))) = true
          · rw [if_pos c48] at H
            have c48b0 : (t299.toList == ([] : List UInt8) && (t300 == 0 && (t301.toList == ([] : List UInt8)))) = true := c48
            (try (have c48b1 : decide (t299.toList = ([] : List UInt8) && (t300 == 0 && (t301.toList == ([] : List UInt8)))) = true := by simpa using c48))
            (try (have c48b2 : (t299.toList == ([] : List UInt8) && (t300 == 0 && (t301.toList == ([] : List UInt8)))) = true := by simpa using c48))
            (try (have c48b7 : (t299.toList = ([] : List UInt8) ∧ t300 = 0 ∧ t301.toList = ([] : List UInt8)) = True := eq_true (by simpa using c48)))
            clear c48
            replace H := Option.bind_eq_some_iff.mp H
            obtain ⟨t304, A490, H⟩ := H
            replace H : (some t304) = some r := H
            have A49 := Aside0.mk A490
            clear A490
            obtain rfl := Option.some.inj H
            go_wp2_with (first | ((with_reducible refine gate_callee (f := 13) rfl ?_); refine goesL_ (some 34) rfl rfl Tryd.func13 (by kernel_rfl) rfl #[.string a0, .string a1] rfl (by (try simp only [List.map_toArray, List.map_cons, List.map_nil]); first | done | rfl | (simp only [List.length_drop, List.length_take]; rfl)) ?_; (with_reducible refine (target_Parse.calls kj3 a0 a1 t299 t300 t301 t302 _ ?side1 A10.out).mono ?_); (case side1 => first | exact HT | exact ⟨Hand.Laid.below HT.out (by repeat (first | (with_reducible first | exact HB.out | apply below_alloc | apply pw_below_drewN | apply below_drew1) | exact HB.out))⟩); rintro e w50 ⟨rfl, hb⟩; refine ⟨_, rfl, ?_⟩; have n0_ := Aside0.mk (below_step (by repeat (first | (with_reducible first | exact HB.out | apply below_alloc | apply pw_below_drewN | apply below_drew1) | exact HB.out)) hb); clear HB; have HB := n0_; clear n0_; (try clear hb); (try clear hb2); (try clear hk); (try clear hi)) | ((with_reducible refine gate_dst (N := 7) rfl ?_); (try (refine gate_guard (by rfl) ?_; dsimp only)); refine box_event ?hg (N := 7) ?hd (cs := #[.string (⟨#[]⟩ : ByteArray), .int .i64 0, .string (⟨#[]⟩ : ByteArray)]) (t := 34) ?hr ?_; (case hd => rfl); (case hg => rfl); (case hr => first | (go_simp; done) | (go_simp; rfl)); intro gb303 hg w51 hbox hb; have n0_ := Aside0.mk (below_step (by repeat (first | (with_reducible first | exact HB.out | apply below_alloc | apply pw_below_drewN | apply below_drew1) | exact HB.out)) hb); have n1_ := Aside0.mk (hbox); have n2_ := Aside0.mk ((by rw [hg]; exact (below_size (by repeat (first | (with_reducible first | exact HB.out | apply below_alloc | apply pw_below_drewN | apply below_drew1) | exact HB.out))) : w.heap.size ≤ gb303)); have n3_ := Aside0.mk ((by rw [hg]; exact (below_size (by repeat (first | (with_reducible first | exact HB.out | apply below_alloc | apply pw_below_drewN | apply below_drew1) | exact HB.out))) : w.heap.size ≤ gb303)); clear HB; have HB := n0_; have BK303 := n1_; have GW303 := n2_; have GE303 := n3_; clear n0_ n1_ n2_ n3_; clear hb hbox hg; have hcz52_0 : w51.cell? ⟨gb303, 0, none⟩ = some (.string (⟨#[]⟩ : ByteArray)) := (blk_cell BK303.out 0).trans rfl; have hcz52_1 : w51.cell? ⟨gb303, 1, none⟩ = some (.int .i64 0) := (blk_cell BK303.out 1).trans rfl; have hcz52_2 : w51.cell? ⟨gb303, 2, none⟩ = some (.string (⟨#[]⟩ : ByteArray)) := (blk_cell BK303.out 2).trans rfl; have hfz52_0 := blk_frozen BK303.out 0; have hfz52_1 := blk_frozen BK303.out 1; have hfz52_2 := blk_frozen BK303.out 2) | (go_at_call 8; (with_reducible refine (depotlaw08_plains.calls kj3  t304 _ ?side2 ?side1 A49.out).mono ?_); (case side1 => first | exact HT | exact ⟨Hand.Laid.below HT.out (by repeat (first | (with_reducible first | exact HB.out | apply below_alloc | apply pw_below_drewN | apply below_drew1 | refine below_set ?_ GE303.out) | exact HB.out))⟩); (case side2 => first | exact ⟨rfl⟩ | exact HTRUE); rintro e w53 ⟨rfl, hb⟩; have n0_ := Aside0.mk (blk_below (g := gb303) (o := .cells #[.string t299, .int .i64 t300, .string t301] 34 (0, 0)) (by (with_reducible repeat (first | refine blk_drewN ?_ _ | refine blk_drew ?_ | refine blk_alloc ?_ _)); refine blk_put (cs := #[.string t299, .int .i64 t300, .string (⟨#[]⟩ : ByteArray)]) ?_ 2 _ rfl; (with_reducible repeat (first | refine blk_drewN ?_ _ | refine blk_drew ?_ | refine blk_alloc ?_ _)); refine blk_put (cs := #[.string t299, .int .i64 0, .string (⟨#[]⟩ : ByteArray)]) ?_ 1 _ rfl; (with_reducible repeat (first | refine blk_drewN ?_ _ | refine blk_drew ?_ | refine blk_alloc ?_ _)); refine blk_put (cs := #[.string (⟨#[]⟩ : ByteArray), .int .i64 0, .string (⟨#[]⟩ : ByteArray)]) ?_ 0 _ rfl; (with_reducible repeat (first | refine blk_drewN ?_ _ | refine blk_drew ?_ | refine blk_alloc ?_ _)); exact BK303.out) hb); have n1_ := Aside0.mk (below_step (by repeat (first | (with_reducible first | exact HB.out | apply below_alloc | apply pw_below_drewN | apply below_drew1 | refine below_set ?_ GE303.out) | exact HB.out)) hb); clear BK303; clear HB; have BK303 := n0_; have HB := n1_; clear n0_ n1_; (try clear hb); (try clear hb2); (try clear hk); (try clear hi)))
            go_ret
            exact ⟨by first | rfl | (simp [errW_none, errW_some] <;> rfl) | (simp [*, errW_none, errW_some] <;> rfl), by repeat (first | (with_reducible first | exact HB.out | apply below_alloc | apply pw_below_drewN | apply below_drew1 | refine below_set ?_ GE303.out) | exact HB.out)⟩
          · rw [if_neg c48] at H
            have c48b0 : (t299.toList == ([] : List UInt8) && (t300 == 0 && (t301.toList == ([] : List UInt8)))) = false := by simpa using c48
            (try (have c48b1 : decide (t299.toList = ([] : List UInt8) && (t300 == 0 && (t301.toList == ([] : List UInt8)))) = false := by simpa using c48))
            (try (have c48b2 : (t299.toList == ([] : List UInt8) && (t300 == 0 && (t301.toList == ([] : List UInt8)))) = false := by simpa using c48))
            (try (have c48b3 : ¬ (t299.toList = ([] : List UInt8) && (t300 == 0 && (t301.toList == ([] : List UInt8)))) := by simpa using c48))
            (try (have c48b7 : (t299.toList = ([] : List UInt8) ∧ t300 = 0 ∧ t301.toList = ([] : List UInt8)) = False := eq_false (by simpa using c48)))
            clear c48
            obtain rfl := Option.some.inj H
            exact absurd HTRUE.out (by decide)

end Go.Proofs.YtghaocjhmambaaaDoor.PR
