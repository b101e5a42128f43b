-- Out of the translation, by a program of this session: each function that a law comes to as a Lean function, and that the machine's call does what it says. Lean checks it.
import Derived.Test.YtghaocjhmambaaaDoorPR0
import Derived.Test.YtghaocjhmambaaaDoorPR4
import Derived.Test.YtghaocjhmambaaaDoorPR8
namespace Go.Proofs.YtghaocjhmambaaaDoor.PR
open Go.RowKit Go.Proofs.YtghaocjhmambaaaDoorW.PrintWords Go.Proofs.YtghaocjhmambaaaDoorW.PrintLast Go.Proofs.YtghaocjhmambaaaDoorW.PrintMore
attribute [local go_sem] max2_int min2_int max_two min_two max_three min_three max_four min_four   -- for this text's walks alone
set_option linter.unusedVariables false
set_option linter.unusedSimpArgs false

/-! ### depotlaw08_TargetPlain: function 6 -/
mutual
def depotlaw08_TargetPlain.j0 : Nat → ByteArray → Bool → Option (Bool)
  | 0, _, _ => none
  | k + 1, x3, x54 => if x54 = true then (some false) else (depotlaw08_TargetPlain.l0 k x3 (⟨#[]⟩ : ByteArray) 0)
def depotlaw08_TargetPlain.l0 : Nat → ByteArray → ByteArray → Int → Option (Bool)
  | 0, _, _, _ => none
  | k + 1, x3, x7, x8 => if x8 ≤ (x3.size : Int) then (if x8 = (x3.size : Int) then (depotlaw08_TargetPlain.j2 k x3 x7 x8 true) else (if 0 ≤ x8 then (if x8 < (x3.size : Int) then (if (bt x3 x8) = 47 then (depotlaw08_TargetPlain.j2 k x3 x7 x8 true) else (depotlaw08_TargetPlain.j2 k x3 x7 x8 ((bt x3 x8) == 63))) else (none)) else (none))) else ((depotlaw08_plains.f k).bind fun t295 => (some t295))
def depotlaw08_TargetPlain.j2 : Nat → ByteArray → ByteArray → Int → Bool → Option (Bool)
  | 0, _, _, _, _ => none
  | k + 1, x3, x7, x8, x76 => if x76 = true then (if x7.toList = ([46] : List UInt8) then (depotlaw08_TargetPlain.j3 k x3 x8 true) else (depotlaw08_TargetPlain.j3 k x3 x8 (x7.toList == ([46, 46] : List UInt8)))) else (if 0 ≤ x8 then (if x8 ≤ (wrap64 (x8 + 1)) then (if (wrap64 (x8 + 1)) ≤ (x3.size : Int) then (if x7.size + (x3.extract (x8 : Int).toNat ((wrap64 (x8 + 1)) : Int).toNat).size ≤ 9223372036854775807 then (depotlaw08_TargetPlain.l0 k x3 (x7 ++ (x3.extract (x8 : Int).toNat ((wrap64 (x8 + 1)) : Int).toNat)) (wrap64 (x8 + 1))) else (none)) else (none)) else (none)) else (none))
def depotlaw08_TargetPlain.j3 : Nat → ByteArray → Int → Bool → Option (Bool)
  | 0, _, _, _ => none
  | k + 1, x3, x8, x82 => if x82 = true then (some false) else (if x8 = (x3.size : Int) then ((depotlaw08_plains.f k).bind fun t296 => (some t296)) else (if 0 ≤ x8 then (if x8 < (x3.size : Int) then (if (bt x3 x8) = 63 then ((depotlaw08_plains.f k).bind fun t297 => (some t297)) else (depotlaw08_TargetPlain.l0 k x3 (⟨#[]⟩ : ByteArray) (wrap64 (x8 + 1)))) else (none)) else (none)))
end
def depotlaw08_TargetPlain.f (k : Nat) (a0 : ByteArray) : Option (Bool) := if (a0.size : Int) > 1000 then ((depotlaw08_plains.f k).bind fun t288 => (some t288)) else ((target_Path.f k a0).bind fun bt289 => (if bt289.2 = 0 then ((target_Path.f k bt289.1).bind fun bt293 => (if bt293.1.toList = bt289.1.toList then (if bt293.2 = 0 then (if (bt289.1.size : Int) = 0 then (depotlaw08_TargetPlain.j0 k bt289.1 true) else (if 0 < (bt289.1.size : Int) then (depotlaw08_TargetPlain.j0 k bt289.1 ((bt bt289.1 0) != 47)) else (none))) else (depotlaw08_TargetPlain.j0 k bt289.1 true)) else (depotlaw08_TargetPlain.j0 k bt289.1 true))) else (if bt289.1.toList = ([] : List UInt8) then (if bt289.2 = 23 then ((depotlaw08_plains.f k).bind fun t291 => (some t291)) else (if bt289.2 = 4 then ((depotlaw08_plains.f k).bind fun t292 => (some t292)) else (some false))) else (some false))))
theorem depotlaw08_TargetPlain.mono_l : ∀ k, (∀ y0 y1, LeO (depotlaw08_TargetPlain.j0 k y0 y1) (depotlaw08_TargetPlain.j0 (k + 1) y0 y1)) ∧ (∀ y0 y1 y2, LeO (depotlaw08_TargetPlain.l0 k y0 y1 y2) (depotlaw08_TargetPlain.l0 (k + 1) y0 y1 y2)) ∧ (∀ y0 y1 y2 y3, LeO (depotlaw08_TargetPlain.j2 k y0 y1 y2 y3) (depotlaw08_TargetPlain.j2 (k + 1) y0 y1 y2 y3)) ∧ (∀ y0 y1 y2, LeO (depotlaw08_TargetPlain.j3 k y0 y1 y2) (depotlaw08_TargetPlain.j3 (k + 1) y0 y1 y2))
  | 0 => ⟨fun _ _ r h => by simp [depotlaw08_TargetPlain.j0] at h, fun _ _ _ r h => by simp [depotlaw08_TargetPlain.l0] at h, fun _ _ _ _ r h => by simp [depotlaw08_TargetPlain.j2] at h, fun _ _ _ r h => by simp [depotlaw08_TargetPlain.j3] at h⟩
  | k + 1 => by
    obtain ⟨ih0, ih1, ih2, ih3⟩ := depotlaw08_TargetPlain.mono_l k
    refine ⟨?_, ?_, ?_, ?_⟩
    · intro y0 y1
      unfold depotlaw08_TargetPlain.j0
      repeat' first
      | (with_reducible exact ih0 _ _)
      | (with_reducible exact ih1 _ _ _)
      | (with_reducible exact ih2 _ _ _ _)
      | (with_reducible exact ih3 _ _ _)
      | (with_reducible exact depotlaw08_plains.mono _)
      | (with_reducible exact target_Path.mono _ _)
      | (with_reducible exact LeO.refl _)
      | (with_reducible exact LeO.none _)
      | (with_reducible refine LeO.ite ?_ ?_)
      | (with_reducible refine LeO.bind ?_ (fun _ => ?_))
      | exact ih0 _ _
      | exact ih1 _ _ _
      | exact ih2 _ _ _ _
      | exact ih3 _ _ _
      | exact depotlaw08_plains.mono _
      | exact target_Path.mono _ _
      | exact LeO.none _
      | refine LeO.ite ?_ ?_
      | refine LeO.bind ?_ (fun _ => ?_)
    · intro y0 y1 y2
      unfold depotlaw08_TargetPlain.l0
      repeat' first
      | (with_reducible exact ih0 _ _)
      | (with_reducible exact ih1 _ _ _)
      | (with_reducible exact ih2 _ _ _ _)
      | (with_reducible exact ih3 _ _ _)
      | (with_reducible exact depotlaw08_plains.mono _)
      | (with_reducible exact target_Path.mono _ _)
      | (with_reducible exact LeO.refl _)
      | (with_reducible exact LeO.none _)
      | (with_reducible refine LeO.ite ?_ ?_)
      | (with_reducible refine LeO.bind ?_ (fun _ => ?_))
      | exact ih0 _ _
      | exact ih1 _ _ _
      | exact ih2 _ _ _ _
      | exact ih3 _ _ _
      | exact depotlaw08_plains.mono _
      | exact target_Path.mono _ _
      | exact LeO.none _
      | refine LeO.ite ?_ ?_
      | refine LeO.bind ?_ (fun _ => ?_)
    · intro y0 y1 y2 y3
      unfold depotlaw08_TargetPlain.j2
      repeat' first
      | (with_reducible exact ih0 _ _)
      | (with_reducible exact ih1 _ _ _)
      | (with_reducible exact ih2 _ _ _ _)
      | (with_reducible exact ih3 _ _ _)
      | (with_reducible exact depotlaw08_plains.mono _)
      | (with_reducible exact target_Path.mono _ _)
      | (with_reducible exact LeO.refl _)
      | (with_reducible exact LeO.none _)
      | (with_reducible refine LeO.ite ?_ ?_)
      | (with_reducible refine LeO.bind ?_ (fun _ => ?_))
      | exact ih0 _ _
      | exact ih1 _ _ _
      | exact ih2 _ _ _ _
      | exact ih3 _ _ _
      | exact depotlaw08_plains.mono _
      | exact target_Path.mono _ _
      | exact LeO.none _
      | refine LeO.ite ?_ ?_
      | refine LeO.bind ?_ (fun _ => ?_)
    · intro y0 y1 y2
      unfold depotlaw08_TargetPlain.j3
      repeat' first
      | (with_reducible exact ih0 _ _)
      | (with_reducible exact ih1 _ _ _)
      | (with_reducible exact ih2 _ _ _ _)
      | (with_reducible exact ih3 _ _ _)
      | (with_reducible exact depotlaw08_plains.mono _)
      | (with_reducible exact target_Path.mono _ _)
      | (with_reducible exact LeO.refl _)
      | (with_reducible exact LeO.none _)
      | (with_reducible refine LeO.ite ?_ ?_)
      | (with_reducible refine LeO.bind ?_ (fun _ => ?_))
      | exact ih0 _ _
      | exact ih1 _ _ _
      | exact ih2 _ _ _ _
      | exact ih3 _ _ _
      | exact depotlaw08_plains.mono _
      | exact target_Path.mono _ _
      | exact LeO.none _
      | refine LeO.ite ?_ ?_
      | refine LeO.bind ?_ (fun _ => ?_)
theorem depotlaw08_TargetPlain.mono : ∀ a0 k, LeO (depotlaw08_TargetPlain.f k a0) (depotlaw08_TargetPlain.f (k + 1) a0) := by
  intro a0 k
  obtain ⟨ih0, ih1, ih2, ih3⟩ := depotlaw08_TargetPlain.mono_l k
  unfold depotlaw08_TargetPlain.f
  repeat' first
      | (with_reducible exact ih0 _ _)
      | (with_reducible exact ih1 _ _ _)
      | (with_reducible exact ih2 _ _ _ _)
      | (with_reducible exact ih3 _ _ _)
      | (with_reducible exact depotlaw08_plains.mono _)
      | (with_reducible exact target_Path.mono _ _)
      | (with_reducible exact LeO.refl _)
      | (with_reducible exact LeO.none _)
      | (with_reducible refine LeO.ite ?_ ?_)
      | (with_reducible refine LeO.bind ?_ (fun _ => ?_))
      | exact ih0 _ _
      | exact ih1 _ _ _
      | exact ih2 _ _ _ _
      | exact ih3 _ _ _
      | exact depotlaw08_plains.mono _
      | exact target_Path.mono _ _
      | exact LeO.none _
      | refine LeO.ite ?_ ?_
      | refine LeO.bind ?_ (fun _ => ?_)
set_option maxHeartbeats 8000000 in
set_option maxRecDepth 100000 in
theorem depotlaw08_TargetPlain.calls (k : Nat) (a0 : ByteArray) (r : Bool) (w : World) (HTRUE : Aside0 (r = true)) (HT : Aside0 (Hand.Laid w)) (h : depotlaw08_TargetPlain.f k a0 = some r) :
    Calls Tryd.prog 6 #[.string a0] w fun e w' => e = .returned (.bool r) ∧ Below w.heap.size w w' := by
  have HB := Aside0.mk (Below.refl w.heap.size w)
  have H : (if (a0.size : Int) > 1000 then ((depotlaw08_plains.f k).bind fun t288 => (some t288)) else ((target_Path.f k a0).bind fun bt289 => (if bt289.2 = 0 then ((target_Path.f k bt289.1).bind fun bt293 => (if bt293.1.toList = bt289.1.toList then (if bt293.2 = 0 then (if (bt289.1.size : Int) = 0 then (depotlaw08_TargetPlain.j0 k bt289.1 true) else (if 0 < (bt289.1.size : Int) then (depotlaw08_TargetPlain.j0 k bt289.1 ((bt bt289.1 0) != 47)) else (none))) else (depotlaw08_TargetPlain.j0 k bt289.1 true)) else (depotlaw08_TargetPlain.j0 k bt289.1 true))) else (if bt289.1.toList = ([] : List UInt8) then (if bt289.2 = 23 then ((depotlaw08_plains.f k).bind fun t291 => (some t291)) else (if bt289.2 = 4 then ((depotlaw08_plains.f k).bind fun t292 => (some t292)) else (some false))) else (some false))))) = some r := h
  clear h
  by_cases c2 : (a0.size : Int) > 1000
  · rw [if_pos c2] at H
    have c2b0 : decide (1000 < (a0.size : Int)) = true := decide_eq_true c2
    have c2b1 : decide (1000 < a0.size) = true := decide_eq_true (by omega)
    clear c2
    replace H := Option.bind_eq_some_iff.mp H
    obtain ⟨t288, A30, H⟩ := H
    replace H : (some t288) = some r := H
    have A3 := Aside0.mk A30
    clear A30
    obtain rfl := Option.some.inj H
    go_enter Tryd.func6, Tryd.ntmps6
    go_wp2_with (first | ((with_reducible refine gate_callee (f := 8) rfl ?_); refine goesL_ (some 12) rfl rfl Tryd.func8 (by kernel_rfl) rfl #[] rfl (by (try simp only [List.map_toArray, List.map_cons, List.map_nil]); first | done | rfl | (simp only [List.length_drop, List.length_take]; rfl)) ?_; (with_reducible refine (depotlaw08_plains.calls k  t288 _ ?side2 ?side1 A3.out).mono ?_); (case side1 => first | exact HT | exact ⟨Hand.Laid.below HT.out (by repeat (first | (with_reducible first | exact HB.out | apply below_alloc | apply pw_below_drewN | apply below_drew1) | exact HB.out))⟩); (case side2 => first | exact ⟨rfl⟩ | exact HTRUE); rintro e w4 ⟨rfl, hb⟩; refine ⟨_, rfl, ?_⟩; have n0_ := Aside0.mk (below_step (by repeat (first | (with_reducible first | exact HB.out | apply below_alloc | apply pw_below_drewN | apply below_drew1) | exact HB.out)) hb); clear HB; have HB := n0_; clear n0_; (try clear hb); (try clear hb2); (try clear hk); (try clear hi)))
    go_ret
    exact ⟨by first | rfl | (simp [errW_none, errW_some] <;> rfl) | (simp [*, errW_none, errW_some] <;> rfl), by repeat (first | (with_reducible first | exact HB.out | apply below_alloc | apply pw_below_drewN | apply below_drew1) | exact HB.out)⟩
  · rw [if_neg c2] at H
    have c2b0 : decide (1000 < (a0.size : Int)) = false := decide_eq_false c2
    have c2b1 : decide (1000 < a0.size) = false := decide_eq_false (by omega)
    clear c2
    replace H := Option.bind_eq_some_iff.mp H
    obtain ⟨⟨t289, t290⟩, A50, H⟩ := H
    replace H : (if t290 = 0 then ((target_Path.f k t289).bind fun bt293 => (if bt293.1.toList = t289.toList then (if bt293.2 = 0 then (if (t289.size : Int) = 0 then (depotlaw08_TargetPlain.j0 k t289 true) else (if 0 < (t289.size : Int) then (depotlaw08_TargetPlain.j0 k t289 ((bt t289 0) != 47)) else (none))) else (depotlaw08_TargetPlain.j0 k t289 true)) else (depotlaw08_TargetPlain.j0 k t289 true))) else (if t289.toList = ([] : List UInt8) then (if t290 = 23 then ((depotlaw08_plains.f k).bind fun t291 => (some t291)) else (if t290 = 4 then ((depotlaw08_plains.f k).bind fun t292 => (some t292)) else (some false))) else (some false))) = some r := H
    have A5 := Aside0.mk A50
    clear A50
    by_cases c6 : t290 = 0
    · rw [if_pos c6] at H
      have c6b0 : (t290 == 0) = true := beq_iff_eq.mpr c6
      have c6b1 : (t290 != 0) = false := bne_eq_false_iff_eq.mpr c6
      clear c6
      replace H := Option.bind_eq_some_iff.mp H
      obtain ⟨⟨t293, t294⟩, A70, H⟩ := H
      replace H : (if t293.toList = t289.toList then (if t294 = 0 then (if (t289.size : Int) = 0 then (depotlaw08_TargetPlain.j0 k t289 true) else (if 0 < (t289.size : Int) then (depotlaw08_TargetPlain.j0 k t289 ((bt t289 0) != 47)) else (none))) else (depotlaw08_TargetPlain.j0 k t289 true)) else (depotlaw08_TargetPlain.j0 k t289 true)) = some r := H
      have A7 := Aside0.mk A70
      clear A70
      have HC8 := Aside0.mk H
      clear H
      go_enter Tryd.func6, Tryd.ntmps6
      go_upto_region 7 with (first | ((with_reducible refine gate_callee (f := 9) rfl ?_); refine goesL_ (some 15) rfl rfl Tryd.func9 (by kernel_rfl) rfl #[.string a0] rfl (by (try simp only [List.map_toArray, List.map_cons, List.map_nil]); first | done | rfl | (simp only [List.length_drop, List.length_take]; rfl)) ?_; (with_reducible refine (target_Path.calls k a0 t289 t290 _ ?side1 A5.out).mono ?_); (case side1 => first | exact HT | exact ⟨Hand.Laid.below HT.out (by repeat (first | (with_reducible first | exact HB.out | apply below_alloc | apply pw_below_drewN | apply below_drew1) | exact HB.out))⟩); rintro e w9 ⟨rfl, hb⟩; refine ⟨_, rfl, ?_⟩; have n0_ := Aside0.mk (below_step (by repeat (first | (with_reducible first | exact HB.out | apply below_alloc | apply pw_below_drewN | apply below_drew1) | exact HB.out)) hb); clear HB; have HB := n0_; clear n0_; (try clear hb); (try clear hb2); (try clear hk); (try clear hi)) | ((with_reducible refine gate_callee (f := 9) rfl ?_); refine goesL_ (some 35) rfl rfl Tryd.func9 (by kernel_rfl) rfl #[.string t289] rfl (by (try simp only [List.map_toArray, List.map_cons, List.map_nil]); first | done | rfl | (simp only [List.length_drop, List.length_take]; rfl)) ?_; (with_reducible refine (target_Path.calls k t289 t293 t294 _ ?side1 A7.out).mono ?_); (case side1 => first | exact HT | exact ⟨Hand.Laid.below HT.out (by repeat (first | (with_reducible first | exact HB.out | apply below_alloc | apply pw_below_drewN | apply below_drew1) | exact HB.out))⟩); rintro e w10 ⟨rfl, hb⟩; refine ⟨_, rfl, ?_⟩; have n0_ := Aside0.mk (below_step (by repeat (first | (with_reducible first | exact HB.out | apply below_alloc | apply pw_below_drewN | apply below_drew1) | exact HB.out)) hb); clear HB; have HB := n0_; clear n0_; (try clear hb); (try clear hb2); (try clear hk); (try clear hi)))
      (try simp only [Act.put, List.setIfInBounds_toArray, List.set_cons_zero, List.set_cons_succ])
      go_cut [54] (fun v54 wc => ∃ (kq : Nat) (x54_7 : Bool), v54 = .bool x54_7 ∧ Aside0 (depotlaw08_TargetPlain.j0 kq t289 x54_7 = some r) ∧ Aside0 (kq ≤ k) ∧ Aside0 (Below w.heap.size w wc))
      case first =>
        have H := HC8.out
        clear HC8
        by_cases c11 : t293.toList = t289.toList
        · rw [if_pos c11] at H
          have c11b0 : (t293.toList == t289.toList) = true := beq_iff_eq.mpr c11
          have c11b1 : (t293.toList != t289.toList) = false := bne_eq_false_iff_eq.mpr c11
          clear c11
          (first | rw [c11b0] | (simp only [i64_w, i32_w]; rw [c11b0]) | skip)
          by_cases c12 : t294 = 0
          · rw [if_pos c12] at H
            have c12b0 : (t294 == 0) = true := beq_iff_eq.mpr c12
            have c12b1 : (t294 != 0) = false := bne_eq_false_iff_eq.mpr c12
            clear c12
            by_cases c13 : (t289.size : Int) = 0
            · rw [if_pos c13] at H
              have c13b0 : ((t289.size : Int) == 0) = true := beq_iff_eq.mpr c13
              have c13b1 : ((t289.size : Int) != 0) = false := bne_eq_false_iff_eq.mpr c13
              clear c13
              have H' := Aside0.mk H
              clear H
              go_wp2
              go_meet
              case rel => exact ⟨_, (true), (by first | rfl | (simp; done) | (simp [*]; done) | (simp; exact Hand.isEmpty_ne _)), H', ⟨by first | omega | exact Nat.le_refl _⟩, ⟨by repeat (first | (with_reducible first | exact HB.out | apply below_alloc | apply pw_below_drewN | apply below_drew1) | exact HB.out)⟩⟩
            · rw [if_neg c13] at H
              have c13b0 : ((t289.size : Int) == 0) = false := beq_eq_false_iff_ne.mpr c13
              have c13b1 : ((t289.size : Int) != 0) = true := bne_iff_ne.mpr c13
              by_cases c14 : 0 < (t289.size : Int)
              · rw [if_pos c14] at H
                have c14b0 : decide (0 < (t289.size : Int)) = true := decide_eq_true c14
                have c14b1 : decide (0 < t289.size) = true := decide_eq_true (by omega)
                clear c14
                have H' := Aside0.mk H
                clear H
                have p15 : 0 ≤ (0 : Int) := (by omega)
                have q15 : 0 < t289.size := (by have : (0 : Int) < (t289.size : Int) := of_decide_eq_true (by first | (with_reducible assumption) | assumption); omega)
                have hx15 : ∀ h : 0 < t289.size, ((t289[0]'h).toNat : Int) = bt t289 0 := bt_at t289 0
                clear p15
                have qi15 : (0 < (t289.size : Int)) = True := eq_true (of_decide_eq_true (by first | (with_reducible assumption) | assumption))
                replace q15 := eq_true q15
                go_wp2
                go_meet
                case rel => exact ⟨_, (((bt t289 0) != 47)), (by first | rfl | (simp; done) | (simp [*]; done) | (simp; exact Hand.isEmpty_ne _)), H', ⟨by first | omega | exact Nat.le_refl _⟩, ⟨by repeat (first | (with_reducible first | exact HB.out | apply below_alloc | apply pw_below_drewN | apply below_drew1) | exact HB.out)⟩⟩
              · rw [if_neg c14] at H
                exact absurd H (by simp)
          · rw [if_neg c12] at H
            have c12b0 : (t294 == 0) = false := beq_eq_false_iff_ne.mpr c12
            have c12b1 : (t294 != 0) = true := bne_iff_ne.mpr c12
            have H' := Aside0.mk H
            clear H
            go_wp2
            go_meet
            case rel => exact ⟨_, (true), (by first | rfl | (simp; done) | (simp [*]; done) | (simp; exact Hand.isEmpty_ne _)), H', ⟨by first | omega | exact Nat.le_refl _⟩, ⟨by repeat (first | (with_reducible first | exact HB.out | apply below_alloc | apply pw_below_drewN | apply below_drew1) | exact HB.out)⟩⟩
        · rw [if_neg c11] at H
          have c11b0 : (t293.toList == t289.toList) = false := beq_eq_false_iff_ne.mpr c11
          have c11b1 : (t293.toList != t289.toList) = true := bne_iff_ne.mpr c11
          (first | rw [c11b0] | (simp only [i64_w, i32_w]; rw [c11b0]) | skip)
          have H' := Aside0.mk H
          clear H
          go_wp2
          go_meet
          case rel => exact ⟨_, (true), (by first | rfl | (simp; done) | (simp [*]; done) | (simp; exact Hand.isEmpty_ne _)), H', ⟨by first | omega | exact Nat.le_refl _⟩, ⟨by repeat (first | (with_reducible first | exact HB.out | apply below_alloc | apply pw_below_drewN | apply below_drew1) | exact HB.out)⟩⟩
      case rest =>
        clear HC8
        try clear c1
        try clear p1
        try clear q1
        try clear hx1
        try clear qi1
        try clear c2
        try clear c2b0
        try clear c2b1
        try clear p2
        try clear c6
        try clear c6b0
        try clear c6b1
        try clear c8
        try clear c9
        try clear c11
        try clear c11b0
        try clear c11b1
        try clear c12
        try clear c12b0
        try clear c12b1
        try clear c13
        try clear c13b0
        try clear c13b1
        try clear c14
        try clear c14b0
        try clear c14b1
        try clear p15
        try clear q15
        try clear hx15
        try clear qi15
        try clear p15
        try clear q15
        obtain ⟨kq, x54_7, rfl, HA, HJ7, HB⟩ := hcut
        cases kq with
        | zero => exact absurd HA.out (by simp [depotlaw08_TargetPlain.j0])
        | succ kj7 =>
          have H := HA.out
          clear HA
          simp only [depotlaw08_TargetPlain.j0] at H
          by_cases c16 : x54_7 = true
          · subst c16
            have H1 : (some false) = some r := by rw [if_pos rfl] at H; exact H
            clear H
            have H := H1
            clear H1
            obtain rfl := Option.some.inj H
            exact absurd HTRUE.out (by decide)
          · replace c16 := Bool.eq_false_iff.mpr c16
            subst c16
            have H1 : (depotlaw08_TargetPlain.l0 kj7 t289 (⟨#[]⟩ : ByteArray) 0) = some r := by rw [if_neg (show ¬ (false = true) by decide)] at H; exact H
            clear H
            have H := H1
            clear H1
            have H' := Aside0.mk H
            clear H
            go_wp2
            go_loopg [7, 8] kj7 (fun kq v7 v8 w' => ∃ (x7_2 : ByteArray) (x8_2 : Int), v7 = .string x7_2 ∧ v8 = .int .i64 x8_2 ∧ Aside0 (depotlaw08_TargetPlain.l0 kq t289 x7_2 x8_2 = some r) ∧ Aside0 (kq ≤ kj7) ∧ Aside0 (Below w.heap.size w w'))
            case atStart => exact ⟨((⟨#[]⟩ : ByteArray)), (0), (by first | rfl | (simp; done) | (simp [*]; done) | (simp; exact Hand.isEmpty_ne _)), (by first | rfl | (simp; done) | (simp [*]; done) | (simp; exact Hand.isEmpty_ne _)), H', ⟨Nat.le_refl _⟩, ⟨by repeat (first | (with_reducible first | exact HB.out | apply below_alloc | apply pw_below_drewN | apply below_drew1) | exact HB.out)⟩⟩
            case round =>
              clear H'
              try clear c1
              try clear p1
              try clear q1
              try clear hx1
              try clear qi1
              try clear c2
              try clear c2b0
              try clear c2b1
              try clear p2
              try clear c6
              try clear c6b0
              try clear c6b1
              try clear c8
              try clear c9
              try clear c11
              try clear c11b0
              try clear c11b1
              try clear c12
              try clear c12b0
              try clear c12b1
              try clear c13
              try clear c13b0
              try clear c13b1
              try clear c14
              try clear c14b0
              try clear c14b1
              try clear p15
              try clear q15
              try clear hx15
              try clear qi15
              try clear c16
              try clear p1
              try clear p15
              try clear p2
              try clear q1
              try clear q15
              obtain ⟨x7_2, x8_2, rfl, rfl, HA, HK2, HB⟩ := hrel
              cases gk with
              | zero => exact absurd HA.out (by simp [depotlaw08_TargetPlain.l0])
              | succ k2 =>
                have H := HA.out
                clear HA
                simp only [depotlaw08_TargetPlain.l0] at H
                by_cases c17 : x8_2 ≤ (t289.size : Int)
                · rw [if_pos c17] at H
                  have c17b0 : decide (x8_2 ≤ (t289.size : Int)) = true := decide_eq_true c17
                  clear c17
                  have HC18 := Aside0.mk H
                  clear H
                  go_upto_region 13 with (fail)
                  go_cut [76] (fun v76 wc => ∃ (kq : Nat) (x76_17 : Bool), v76 = .bool x76_17 ∧ Aside0 (depotlaw08_TargetPlain.j2 kq t289 x7_2 x8_2 x76_17 = some r) ∧ Aside0 (kq ≤ k2) ∧ Aside0 (Below w.heap.size w wc))
                  case first =>
                    have H := HC18.out
                    clear HC18
                    by_cases c19 : x8_2 = (t289.size : Int)
                    · rw [if_pos c19] at H
                      have c19b0 : (x8_2 == (t289.size : Int)) = true := beq_iff_eq.mpr c19
                      have c19b1 : (x8_2 != (t289.size : Int)) = false := bne_eq_false_iff_eq.mpr c19
                      clear c19
                      (first | rw [c19b0] | (simp only [i64_w, i32_w]; rw [c19b0]) | skip)
                      have H' := Aside0.mk H
                      clear H
                      go_wp2
                      go_meet
                      case rel => exact ⟨_, (true), (by first | rfl | (simp; done) | (simp [*]; done) | (simp; exact Hand.isEmpty_ne _)), H', ⟨by have := HJ7.out; have := HK2.out; first | omega | exact Nat.le_refl _⟩, ⟨by repeat (first | (with_reducible first | exact HB.out | apply below_alloc | apply pw_below_drewN | apply below_drew1) | exact HB.out)⟩⟩
                    · rw [if_neg c19] at H
                      have c19b0 : (x8_2 == (t289.size : Int)) = false := beq_eq_false_iff_ne.mpr c19
                      have c19b1 : (x8_2 != (t289.size : Int)) = true := bne_iff_ne.mpr c19
                      (first | rw [c19b0] | (simp only [i64_w, i32_w]; rw [c19b0]) | skip)
                      by_cases c20 : 0 ≤ x8_2
                      · rw [if_pos c20] at H
                        have c20b0 : decide (0 ≤ x8_2) = true := decide_eq_true c20
                        clear c20
                        by_cases c21 : x8_2 < (t289.size : Int)
                        · rw [if_pos c21] at H
                          have c21b0 : decide (x8_2 < (t289.size : Int)) = true := decide_eq_true c21
                          clear c21
                          by_cases c23 : (bt t289 x8_2) = 47
                          · rw [if_pos c23] at H
                            have c23b0 : ((bt t289 x8_2) == 47) = true := beq_iff_eq.mpr c23
                            have c23b1 : ((bt t289 x8_2) != 47) = false := bne_eq_false_iff_eq.mpr c23
                            clear c23
                            have H' := Aside0.mk H
                            clear H
                            have p22 : 0 ≤ (x8_2 : Int) := of_decide_eq_true (by first | (with_reducible assumption) | assumption)
                            have q22 : x8_2 < (t289.size : Int) := of_decide_eq_true (by first | (with_reducible assumption) | assumption)
                            have hx22 := bt_at t289 x8_2
                            replace p22 := eq_true p22
                            replace q22 := eq_true q22
                            go_wp2
                            go_meet
                            case rel => exact ⟨_, (true), (by first | rfl | (simp; done) | (simp [*]; done) | (simp; exact Hand.isEmpty_ne _)), H', ⟨by have := HJ7.out; have := HK2.out; first | omega | exact Nat.le_refl _⟩, ⟨by repeat (first | (with_reducible first | exact HB.out | apply below_alloc | apply pw_below_drewN | apply below_drew1) | exact HB.out)⟩⟩
                          · rw [if_neg c23] at H
                            have c23b0 : ((bt t289 x8_2) == 47) = false := beq_eq_false_iff_ne.mpr c23
                            have c23b1 : ((bt t289 x8_2) != 47) = true := bne_iff_ne.mpr c23
                            have H' := Aside0.mk H
                            clear H
                            have p22 : 0 ≤ (x8_2 : Int) := of_decide_eq_true (by first | (with_reducible assumption) | assumption)
                            have q22 : x8_2 < (t289.size : Int) := of_decide_eq_true (by first | (with_reducible assumption) | assumption)
                            have hx22 := bt_at t289 x8_2
                            replace p22 := eq_true p22
                            replace q22 := eq_true q22
                            have p24 : 0 ≤ (x8_2 : Int) := of_decide_eq_true (by first | (with_reducible assumption) | assumption)
                            have q24 : x8_2 < (t289.size : Int) := of_decide_eq_true (by first | (with_reducible assumption) | assumption)
                            have hx24 := bt_at t289 x8_2
                            replace p24 := eq_true p24
                            replace q24 := eq_true q24
                            go_wp2
                            go_meet
                            case rel => exact ⟨_, (((bt t289 x8_2) == 63)), (by first | rfl | (simp; done) | (simp [*]; done) | (simp; exact Hand.isEmpty_ne _)), H', ⟨by have := HJ7.out; have := HK2.out; first | omega | exact Nat.le_refl _⟩, ⟨by repeat (first | (with_reducible first | exact HB.out | apply below_alloc | apply pw_below_drewN | apply below_drew1) | exact HB.out)⟩⟩
                        · rw [if_neg c21] at H
                          exact absurd H (by simp)
                      · rw [if_neg c20] at H
                        exact absurd H (by simp)
                  case rest =>
                    clear HC18
                    try clear c1
                    try clear p1
                    try clear q1
                    try clear hx1
                    try clear qi1
                    try clear c2
                    try clear c2b0
                    try clear c2b1
                    try clear p2
                    try clear q2
                    try clear hx2
                    try clear c6
                    try clear c6b0
                    try clear c6b1
                    try clear c8
                    try clear c9
                    try clear c11
                    try clear c11b0
                    try clear c11b1
                    try clear c12
                    try clear c12b0
                    try clear c12b1
                    try clear c13
                    try clear c13b0
                    try clear c13b1
                    try clear c14
                    try clear c14b0
                    try clear c14b1
                    try clear p15
                    try clear q15
                    try clear hx15
                    try clear qi15
                    try clear c16
                    try clear c17
                    try clear c17b0
                    try clear c19
                    try clear c19b0
                    try clear c19b1
                    try clear c20
                    try clear c20b0
                    try clear c21
                    try clear c21b0
                    try clear p22
                    try clear q22
                    try clear hx22
                    try clear c23
                    try clear c23b0
                    try clear c23b1
                    try clear p24
                    try clear q24
                    try clear hx24
                    try clear p1
                    try clear p15
                    try clear p2
                    try clear p22
                    try clear p24
                    try clear q1
                    try clear q15
                    try clear q22
                    try clear q24
                    obtain ⟨kq, x76_17, rfl, HA, HJ17, HB⟩ := hcut
                    cases kq with
                    | zero => exact absurd HA.out (by simp [depotlaw08_TargetPlain.j2])
                    | succ kj17 =>
                      have H := HA.out
                      clear HA
                      simp only [depotlaw08_TargetPlain.j2] at H
                      by_cases c25 : x76_17 = true
                      · subst c25
                        have H1 : (if x7_2.toList = ([46] : List UInt8) then (depotlaw08_TargetPlain.j3 kj17 t289 x8_2 true) else (depotlaw08_TargetPlain.j3 kj17 t289 x8_2 (x7_2.toList == ([46, 46] : List UInt8)))) = some r := by rw [if_pos rfl] at H; exact H
                        clear H
                        have H := H1
                        clear H1
                        have HC26 := Aside0.mk H
                        clear H
                        go_upto_region 14 with (fail)
                        go_cut [82] (fun v82 wc => ∃ (kq : Nat) (x82_25 : Bool), v82 = .bool x82_25 ∧ Aside0 (depotlaw08_TargetPlain.j3 kq t289 x8_2 x82_25 = some r) ∧ Aside0 (kq ≤ kj17) ∧ Aside0 (Below w.heap.size w wc))
                        case first =>
                          have H := HC26.out
                          clear HC26
                          by_cases c27 : x7_2.toList = ([46] : List UInt8)
                          · rw [if_pos c27] at H
                            have c27b0 : (x7_2.toList == ([46] : List UInt8)) = true := beq_iff_eq.mpr c27
                            have c27b1 : (x7_2.toList != ([46] : List UInt8)) = false := bne_eq_false_iff_eq.mpr c27
                            clear c27
                            (first | rw [c27b0] | (simp only [i64_w, i32_w]; rw [c27b0]) | skip)
                            have H' := Aside0.mk H
                            clear H
                            go_wp2
                            go_meet
                            case rel => exact ⟨_, (true), (by first | rfl | (simp; done) | (simp [*]; done) | (simp; exact Hand.isEmpty_ne _)), H', ⟨by have := HJ7.out; have := HK2.out; have := HJ17.out; first | omega | exact Nat.le_refl _⟩, ⟨by repeat (first | (with_reducible first | exact HB.out | apply below_alloc | apply pw_below_drewN | apply below_drew1) | exact HB.out)⟩⟩
                          · rw [if_neg c27] at H
                            have c27b0 : (x7_2.toList == ([46] : List UInt8)) = false := beq_eq_false_iff_ne.mpr c27
                            have c27b1 : (x7_2.toList != ([46] : List UInt8)) = true := bne_iff_ne.mpr c27
                            (first | rw [c27b0] | (simp only [i64_w, i32_w]; rw [c27b0]) | skip)
                            have H' := Aside0.mk H
                            clear H
                            go_wp2
                            go_meet
                            case rel => exact ⟨_, ((x7_2.toList == ([46, 46] : List UInt8))), (by first | rfl | (simp; done) | (simp [*]; done) | (simp; exact Hand.isEmpty_ne _)), H', ⟨by have := HJ7.out; have := HK2.out; have := HJ17.out; first | omega | exact Nat.le_refl _⟩, ⟨by repeat (first | (with_reducible first | exact HB.out | apply below_alloc | apply pw_below_drewN | apply below_drew1) | exact HB.out)⟩⟩
                        case rest =>
                          clear HC26
                          try clear c1
                          try clear p1
                          try clear q1
                          try clear hx1
                          try clear qi1
                          try clear c2
                          try clear c2b0
                          try clear c2b1
                          try clear p2
                          try clear q2
                          try clear hx2
                          try clear c6
                          try clear c6b0
                          try clear c6b1
                          try clear c8
                          try clear c9
                          try clear c11
                          try clear c11b0
                          try clear c11b1
                          try clear c12
                          try clear c12b0
                          try clear c12b1
                          try clear c13
                          try clear c13b0
                          try clear c13b1
                          try clear c14
                          try clear c14b0
                          try clear c14b1
                          try clear p15
                          try clear q15
                          try clear hx15
                          try clear qi15
                          try clear c16
                          try clear c17
                          try clear c17b0
                          try clear c19
                          try clear c19b0
                          try clear c19b1
                          try clear c20
                          try clear c20b0
                          try clear c21
                          try clear c21b0
                          try clear p22
                          try clear q22
                          try clear hx22
                          try clear c23
                          try clear c23b0
                          try clear c23b1
                          try clear p24
                          try clear q24
                          try clear hx24
                          try clear c25
                          try clear c27
                          try clear c27b0
                          try clear c27b1
                          try clear p1
                          try clear p15
                          try clear p2
                          try clear p22
                          try clear p24
                          try clear q1
                          try clear q15
                          try clear q2
                          try clear q22
                          try clear q24
                          obtain ⟨kq, x82_25, rfl, HA, HJ25, HB⟩ := hcut
                          cases kq with
                          | zero => exact absurd HA.out (by simp [depotlaw08_TargetPlain.j3])
                          | succ kj25 =>
                            have H := HA.out
                            clear HA
                            simp only [depotlaw08_TargetPlain.j3] at H
                            by_cases c28 : x82_25 = true
                            · subst c28
                              have H1 : (some false) = some r := by rw [if_pos rfl] at H; exact H
                              clear H
                              have H := H1
                              clear H1
                              obtain rfl := Option.some.inj H
                              exact absurd HTRUE.out (by decide)
                            · replace c28 := Bool.eq_false_iff.mpr c28
                              subst c28
                              have H1 : (if x8_2 = (t289.size : Int) then ((depotlaw08_plains.f kj25).bind fun t296 => (some t296)) else (if 0 ≤ x8_2 then (if x8_2 < (t289.size : Int) then (if (bt t289 x8_2) = 63 then ((depotlaw08_plains.f kj25).bind fun t297 => (some t297)) else (depotlaw08_TargetPlain.l0 kj25 t289 (⟨#[]⟩ : ByteArray) (wrap64 (x8_2 + 1)))) else (none)) else (none))) = some r := by rw [if_neg (show ¬ (false = true) by decide)] at H; exact H
                              clear H
                              have H := H1
                              clear H1
                              by_cases c29 : x8_2 = (t289.size : Int)
                              · rw [if_pos c29] at H
                                have c29b0 : (x8_2 == (t289.size : Int)) = true := beq_iff_eq.mpr c29
                                have c29b1 : (x8_2 != (t289.size : Int)) = false := bne_eq_false_iff_eq.mpr c29
                                clear c29
                                replace H := Option.bind_eq_some_iff.mp H
                                obtain ⟨t296, A300, H⟩ := H
                                replace H : (some t296) = some r := H
                                have A30 := Aside0.mk A300
                                clear A300
                                obtain rfl := Option.some.inj H
                                go_wp2_with (first | ((with_reducible refine gate_callee (f := 8) rfl ?_); refine goesL_ (some 100) rfl rfl Tryd.func8 (by kernel_rfl) rfl #[] rfl (by (try simp only [List.map_toArray, List.map_cons, List.map_nil]); first | done | rfl | (simp only [List.length_drop, List.length_take]; rfl)) ?_; (with_reducible refine (depotlaw08_plains.calls kj25  t296 _ ?side2 ?side1 A30.out).mono ?_); (case side1 => first | exact HT | exact ⟨Hand.Laid.below HT.out (by repeat (first | (with_reducible first | exact HB.out | apply below_alloc | apply pw_below_drewN | apply below_drew1) | exact HB.out))⟩); (case side2 => first | exact ⟨rfl⟩ | exact HTRUE); rintro e w31 ⟨rfl, hb⟩; refine ⟨_, rfl, ?_⟩; have n0_ := Aside0.mk (below_step (by repeat (first | (with_reducible first | exact HB.out | apply below_alloc | apply pw_below_drewN | apply below_drew1) | exact HB.out)) hb); clear HB; have HB := n0_; clear n0_; (try clear hb); (try clear hb2); (try clear hk); (try clear hi)))
                                go_ret
                                exact ⟨by first | rfl | (simp [errW_none, errW_some] <;> rfl) | (simp [*, errW_none, errW_some] <;> rfl), by repeat (first | (with_reducible first | exact HB.out | apply below_alloc | apply pw_below_drewN | apply below_drew1) | exact HB.out)⟩
                              · rw [if_neg c29] at H
                                have c29b0 : (x8_2 == (t289.size : Int)) = false := beq_eq_false_iff_ne.mpr c29
                                have c29b1 : (x8_2 != (t289.size : Int)) = true := bne_iff_ne.mpr c29
                                by_cases c32 : 0 ≤ x8_2
                                · rw [if_pos c32] at H
                                  have c32b0 : decide (0 ≤ x8_2) = true := decide_eq_true c32
                                  clear c32
                                  by_cases c33 : x8_2 < (t289.size : Int)
                                  · rw [if_pos c33] at H
                                    have c33b0 : decide (x8_2 < (t289.size : Int)) = true := decide_eq_true c33
                                    clear c33
                                    by_cases c35 : (bt t289 x8_2) = 63
                                    · rw [if_pos c35] at H
                                      have c35b0 : ((bt t289 x8_2) == 63) = true := beq_iff_eq.mpr c35
                                      have c35b1 : ((bt t289 x8_2) != 63) = false := bne_eq_false_iff_eq.mpr c35
                                      clear c35
                                      replace H := Option.bind_eq_some_iff.mp H
                                      obtain ⟨t297, A360, H⟩ := H
                                      replace H : (some t297) = some r := H
                                      have A36 := Aside0.mk A360
                                      clear A360
                                      obtain rfl := Option.some.inj H
                                      have p34 : 0 ≤ (x8_2 : Int) := of_decide_eq_true (by first | (with_reducible assumption) | assumption)
                                      have q34 : x8_2 < (t289.size : Int) := of_decide_eq_true (by first | (with_reducible assumption) | assumption)
                                      have hx34 := bt_at t289 x8_2
                                      replace p34 := eq_true p34
                                      replace q34 := eq_true q34
                                      go_wp2_with (first | ((with_reducible refine gate_callee (f := 8) rfl ?_); refine goesL_ (some 100) rfl rfl Tryd.func8 (by kernel_rfl) rfl #[] rfl (by (try simp only [List.map_toArray, List.map_cons, List.map_nil]); first | done | rfl | (simp only [List.length_drop, List.length_take]; rfl)) ?_; (with_reducible refine (depotlaw08_plains.calls kj25  t297 _ ?side2 ?side1 A36.out).mono ?_); (case side1 => first | exact HT | exact ⟨Hand.Laid.below HT.out (by repeat (first | (with_reducible first | exact HB.out | apply below_alloc | apply pw_below_drewN | apply below_drew1) | exact HB.out))⟩); (case side2 => first | exact ⟨rfl⟩ | exact HTRUE); rintro e w37 ⟨rfl, hb⟩; refine ⟨_, rfl, ?_⟩; have n0_ := Aside0.mk (below_step (by repeat (first | (with_reducible first | exact HB.out | apply below_alloc | apply pw_below_drewN | apply below_drew1) | exact HB.out)) hb); clear HB; have HB := n0_; clear n0_; (try clear hb); (try clear hb2); (try clear hk); (try clear hi)))
                                      go_ret
                                      exact ⟨by first | rfl | (simp [errW_none, errW_some] <;> rfl) | (simp [*, errW_none, errW_some] <;> rfl), by repeat (first | (with_reducible first | exact HB.out | apply below_alloc | apply pw_below_drewN | apply below_drew1) | exact HB.out)⟩
                                    · rw [if_neg c35] at H
                                      have c35b0 : ((bt t289 x8_2) == 63) = false := beq_eq_false_iff_ne.mpr c35
                                      have c35b1 : ((bt t289 x8_2) != 63) = true := bne_iff_ne.mpr c35
                                      have H' := Aside0.mk H
                                      clear H
                                      have p34 : 0 ≤ (x8_2 : Int) := of_decide_eq_true (by first | (with_reducible assumption) | assumption)
                                      have q34 : x8_2 < (t289.size : Int) := of_decide_eq_true (by first | (with_reducible assumption) | assumption)
                                      have hx34 := bt_at t289 x8_2
                                      replace p34 := eq_true p34
                                      replace q34 := eq_true q34
                                      go_wp2
                                      go_roundg kj25
                                      case measure => have := HJ7.out; have := HK2.out; have := HJ17.out; have := HJ25.out; omega
                                      case rel => exact ⟨((⟨#[]⟩ : ByteArray)), (wrap64 (x8_2 + 1)), (by first | rfl | (simp; done) | (simp [*]; done) | (simp; exact Hand.isEmpty_ne _)), (by first | rfl | (simp; done) | (simp [*]; done) | (simp; exact Hand.isEmpty_ne _)), H', ⟨by have := HJ7.out; have := HK2.out; have := HJ17.out; have := HJ25.out; omega⟩, ⟨by repeat (first | (with_reducible first | exact HB.out | apply below_alloc | apply pw_below_drewN | apply below_drew1) | exact HB.out)⟩⟩
                                  · rw [if_neg c33] at H
                                    exact absurd H (by simp)
                                · rw [if_neg c32] at H
                                  exact absurd H (by simp)
                      · replace c25 := Bool.eq_false_iff.mpr c25
                        subst c25
                        have H1 : (if 0 ≤ x8_2 then (if x8_2 ≤ (wrap64 (x8_2 + 1)) then (if (wrap64 (x8_2 + 1)) ≤ (t289.size : Int) then (if x7_2.size + (t289.extract (x8_2 : Int).toNat ((wrap64 (x8_2 + 1)) : Int).toNat).size ≤ 9223372036854775807 then (depotlaw08_TargetPlain.l0 kj17 t289 (x7_2 ++ (t289.extract (x8_2 : Int).toNat ((wrap64 (x8_2 + 1)) : Int).toNat)) (wrap64 (x8_2 + 1))) else (none)) else (none)) else (none)) else (none)) = some r := by rw [if_neg (show ¬ (false = true) by decide)] at H; exact H
                        clear H
                        have H := H1
                        clear H1
                        by_cases c38 : 0 ≤ x8_2
                        · rw [if_pos c38] at H
                          have c38b0 := eq_true c38
                          have c38b1 : decide (0 ≤ x8_2) = true := decide_eq_true c38
                          clear c38
                          by_cases c39 : x8_2 ≤ (wrap64 (x8_2 + 1))
                          · rw [if_pos c39] at H
                            have c39b0 := eq_true c39
                            have c39b1 : decide (x8_2 ≤ (wrap64 (x8_2 + 1))) = true := decide_eq_true c39
                            by_cases c40 : (wrap64 (x8_2 + 1)) ≤ (t289.size : Int)
                            · rw [if_pos c40] at H
                              have c40b0 := eq_true c40
                              have c40b1 : decide ((wrap64 (x8_2 + 1)) ≤ (t289.size : Int)) = true := decide_eq_true c40
                              by_cases c41 : x7_2.size + (t289.extract (x8_2 : Int).toNat ((wrap64 (x8_2 + 1)) : Int).toNat).size ≤ 9223372036854775807
                              · rw [if_pos c41] at H
                                have c41b0 := eq_true c41
                                have c41b1 : decide (x7_2.size + (t289.extract (x8_2 : Int).toNat ((wrap64 (x8_2 + 1)) : Int).toNat).size ≤ 9223372036854775807) = true := decide_eq_true c41
                                (try (have c41b20 := c41b0; simp only [ByteArray.size_extract] at c41b20))
                                (try (have c41b21 := c41b1; simp only [ByteArray.size_extract] at c41b21))
                                (try (have c41b40 := c41b0; simp only [ByteArray.size_extract, Nat.min_self] at c41b40))
                                (try (have c41b41 := c41b1; simp only [ByteArray.size_extract, Nat.min_self] at c41b41))
                                try have c41b2 : (9223372036854775807 < x7_2.size + (t289.extract (x8_2 : Int).toNat ((wrap64 (x8_2 + 1)) : Int).toNat).size) = False := eq_false (Nat.not_lt.2 c41)
                                (try (have c41b42 := c41b2; simp only [ByteArray.size_extract, Nat.min_self] at c41b42))
                                have H' := Aside0.mk H
                                clear H
                                go_wp2
                                go_roundg kj17
                                case measure => have := HJ7.out; have := HK2.out; have := HJ17.out; omega
                                case rel => exact ⟨(x7_2 ++ (t289.extract (x8_2 : Int).toNat ((wrap64 (x8_2 + 1)) : Int).toNat)), (wrap64 (x8_2 + 1)), (by first | rfl | (simp; done) | (simp [*]; done) | (simp; exact Hand.isEmpty_ne _)), (by first | rfl | (simp; done) | (simp [*]; done) | (simp; exact Hand.isEmpty_ne _)), H', ⟨by have := HJ7.out; have := HK2.out; have := HJ17.out; omega⟩, ⟨by repeat (first | (with_reducible first | exact HB.out | apply below_alloc | apply pw_below_drewN | apply below_drew1) | exact HB.out)⟩⟩
                              · rw [if_neg c41] at H
                                exact absurd H (by simp)
                            · rw [if_neg c40] at H
                              exact absurd H (by simp)
                          · rw [if_neg c39] at H
                            exact absurd H (by simp)
                        · rw [if_neg c38] at H
                          exact absurd H (by simp)
                · rw [if_neg c17] at H
                  have c17b0 : decide (x8_2 ≤ (t289.size : Int)) = false := decide_eq_false c17
                  clear c17
                  replace H := Option.bind_eq_some_iff.mp H
                  obtain ⟨t295, A420, H⟩ := H
                  replace H : (some t295) = some r := H
                  have A42 := Aside0.mk A420
                  clear A420
                  obtain rfl := Option.some.inj H
                  go_wp2_with (first | ((with_reducible refine gate_callee (f := 8) rfl ?_); refine goesL_ (some 100) rfl rfl Tryd.func8 (by kernel_rfl) rfl #[] rfl (by (try simp only [List.map_toArray, List.map_cons, List.map_nil]); first | done | rfl | (simp only [List.length_drop, List.length_take]; rfl)) ?_; (with_reducible refine (depotlaw08_plains.calls k2  t295 _ ?side2 ?side1 A42.out).mono ?_); (case side1 => first | exact HT | exact ⟨Hand.Laid.below HT.out (by repeat (first | (with_reducible first | exact HB.out | apply below_alloc | apply pw_below_drewN | apply below_drew1) | exact HB.out))⟩); (case side2 => first | exact ⟨rfl⟩ | exact HTRUE); rintro e w43 ⟨rfl, hb⟩; refine ⟨_, rfl, ?_⟩; have n0_ := Aside0.mk (below_step (by repeat (first | (with_reducible first | exact HB.out | apply below_alloc | apply pw_below_drewN | apply below_drew1) | exact HB.out)) hb); clear HB; have HB := n0_; clear n0_; (try clear hb); (try clear hb2); (try clear hk); (try clear hi)))
                  go_ret
                  exact ⟨by first | rfl | (simp [errW_none, errW_some] <;> rfl) | (simp [*, errW_none, errW_some] <;> rfl), by repeat (first | (with_reducible first | exact HB.out | apply below_alloc | apply pw_below_drewN | apply below_drew1) | exact HB.out)⟩
    · rw [if_neg c6] at H
      have c6b0 : (t290 == 0) = false := beq_eq_false_iff_ne.mpr c6
      have c6b1 : (t290 != 0) = true := bne_iff_ne.mpr c6
      by_cases c44 : t289.toList = ([] : List UInt8)
      · rw [if_pos c44] at H
        have c44b0 : (t289.toList == ([] : List UInt8)) = true := beq_iff_eq.mpr c44
        have c44b1 : (t289.toList != ([] : List UInt8)) = false := bne_eq_false_iff_eq.mpr c44
        clear c44
        by_cases c45 : t290 = 23
        · rw [if_pos c45] at H
          have c45b0 : (t290 == 23) = true := beq_iff_eq.mpr c45
          have c45b1 : (t290 != 23) = false := bne_eq_false_iff_eq.mpr c45
          clear c45
          replace H := Option.bind_eq_some_iff.mp H
          obtain ⟨t291, A460, H⟩ := H
          replace H : (some t291) = some r := H
          have A46 := Aside0.mk A460
          clear A460
          obtain rfl := Option.some.inj H
          go_enter Tryd.func6, Tryd.ntmps6
          go_wp2_with (first | ((with_reducible refine gate_callee (f := 9) rfl ?_); refine goesL_ (some 15) rfl rfl Tryd.func9 (by kernel_rfl) rfl #[.string a0] rfl (by (try simp only [List.map_toArray, List.map_cons, List.map_nil]); first | done | rfl | (simp only [List.length_drop, List.length_take]; rfl)) ?_; (with_reducible refine (target_Path.calls k a0 t289 t290 _ ?side1 A5.out).mono ?_); (case side1 => first | exact HT | exact ⟨Hand.Laid.below HT.out (by repeat (first | (with_reducible first | exact HB.out | apply below_alloc | apply pw_below_drewN | apply below_drew1) | exact HB.out))⟩); rintro e w47 ⟨rfl, hb⟩; refine ⟨_, rfl, ?_⟩; have n0_ := Aside0.mk (below_step (by repeat (first | (with_reducible first | exact HB.out | apply below_alloc | apply pw_below_drewN | apply below_drew1) | exact HB.out)) hb); clear HB; have HB := n0_; clear n0_; (try clear hb); (try clear hb2); (try clear hk); (try clear hi)) | (go_at_call 8; (with_reducible refine (depotlaw08_plains.calls k  t291 _ ?side2 ?side1 A46.out).mono ?_); (case side1 => first | exact HT | exact ⟨Hand.Laid.below HT.out (by repeat (first | (with_reducible first | exact HB.out | apply below_alloc | apply pw_below_drewN | apply below_drew1) | exact HB.out))⟩); (case side2 => first | exact ⟨rfl⟩ | exact HTRUE); rintro e w48 ⟨rfl, hb⟩; have n0_ := Aside0.mk (below_step (by repeat (first | (with_reducible first | exact HB.out | apply below_alloc | apply pw_below_drewN | apply below_drew1) | exact HB.out)) hb); clear HB; have HB := n0_; clear n0_; (try clear hb); (try clear hb2); (try clear hk); (try clear hi)))
          go_ret
          exact ⟨by first | rfl | (simp [errW_none, errW_some] <;> rfl) | (simp [*, errW_none, errW_some] <;> rfl), by repeat (first | (with_reducible first | exact HB.out | apply below_alloc | apply pw_below_drewN | apply below_drew1) | exact HB.out)⟩
        · rw [if_neg c45] at H
          have c45b0 : (t290 == 23) = false := beq_eq_false_iff_ne.mpr c45
          have c45b1 : (t290 != 23) = true := bne_iff_ne.mpr c45
          by_cases c49 : t290 = 4
          · rw [if_pos c49] at H
            have c49b0 : (t290 == 4) = true := beq_iff_eq.mpr c49
            have c49b1 : (t290 != 4) = false := bne_eq_false_iff_eq.mpr c49
            clear c49
            replace H := Option.bind_eq_some_iff.mp H
            obtain ⟨t292, A500, H⟩ := H
            replace H : (some t292) = some r := H
            have A50 := Aside0.mk A500
            clear A500
            obtain rfl := Option.some.inj H
            go_enter Tryd.func6, Tryd.ntmps6
            go_wp2_with (first | ((with_reducible refine gate_callee (f := 9) rfl ?_); refine goesL_ (some 15) rfl rfl Tryd.func9 (by kernel_rfl) rfl #[.string a0] rfl (by (try simp only [List.map_toArray, List.map_cons, List.map_nil]); first | done | rfl | (simp only [List.length_drop, List.length_take]; rfl)) ?_; (with_reducible refine (target_Path.calls k a0 t289 t290 _ ?side1 A5.out).mono ?_); (case side1 => first | exact HT | exact ⟨Hand.Laid.below HT.out (by repeat (first | (with_reducible first | exact HB.out | apply below_alloc | apply pw_below_drewN | apply below_drew1) | exact HB.out))⟩); rintro e w51 ⟨rfl, hb⟩; refine ⟨_, rfl, ?_⟩; have n0_ := Aside0.mk (below_step (by repeat (first | (with_reducible first | exact HB.out | apply below_alloc | apply pw_below_drewN | apply below_drew1) | exact HB.out)) hb); clear HB; have HB := n0_; clear n0_; (try clear hb); (try clear hb2); (try clear hk); (try clear hi)) | (go_at_call 8; (with_reducible refine (depotlaw08_plains.calls k  t292 _ ?side2 ?side1 A50.out).mono ?_); (case side1 => first | exact HT | exact ⟨Hand.Laid.below HT.out (by repeat (first | (with_reducible first | exact HB.out | apply below_alloc | apply pw_below_drewN | apply below_drew1) | exact HB.out))⟩); (case side2 => first | exact ⟨rfl⟩ | exact HTRUE); rintro e w52 ⟨rfl, hb⟩; have n0_ := Aside0.mk (below_step (by repeat (first | (with_reducible first | exact HB.out | apply below_alloc | apply pw_below_drewN | apply below_drew1) | exact HB.out)) hb); clear HB; have HB := n0_; clear n0_; (try clear hb); (try clear hb2); (try clear hk); (try clear hi)))
            go_ret
            exact ⟨by first | rfl | (simp [errW_none, errW_some] <;> rfl) | (simp [*, errW_none, errW_some] <;> rfl), by repeat (first | (with_reducible first | exact HB.out | apply below_alloc | apply pw_below_drewN | apply below_drew1) | exact HB.out)⟩
          · rw [if_neg c49] at H
            have c49b0 : (t290 == 4) = false := beq_eq_false_iff_ne.mpr c49
            have c49b1 : (t290 != 4) = true := bne_iff_ne.mpr c49
            obtain rfl := Option.some.inj H
            exact absurd HTRUE.out (by decide)
      · rw [if_neg c44] at H
        have c44b0 : (t289.toList == ([] : List UInt8)) = false := beq_eq_false_iff_ne.mpr c44
        have c44b1 : (t289.toList != ([] : List UInt8)) = true := bne_iff_ne.mpr c44
        obtain rfl := Option.some.inj H
        exact absurd HTRUE.out (by decide)

end Go.Proofs.YtghaocjhmambaaaDoor.PR
