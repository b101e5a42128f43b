-- Out of the translation, by a program of this session: each function that a law comes to as a Lean function, and that the machine's call does what it says. Lean checks it.
import Derived.Test.YtljikgfhglihhaaDoorPR0
import Derived.Test.YtljikgfhglihhaaDoorPR2
import Derived.Test.YtljikgfhglihhaaDoorPR3
import Derived.Test.YtljikgfhglihhaaDoorPR5
import Derived.Test.YtljikgfhglihhaaDoorPR8
import Derived.Test.YtljikgfhglihhaaDoorPR11
namespace Go.Proofs.YtljikgfhglihhaaDoor.PR
open Go.RowKit Go.Proofs.YtljikgfhglihhaaDoorW.PrintWords Go.Proofs.YtljikgfhglihhaaDoorW.PrintLast Go.Proofs.YtljikgfhglihhaaDoorW.PrintMore
attribute [local go_sem] max2_int min2_int max_two min_two max_three min_three max_four min_four   -- for this text's walks alone
set_option linter.unusedVariables false
set_option linter.unusedSimpArgs false

/-! ### depotlaw10_LineReads: function 3 -/
def depotlaw10_LineReads.f (k : Nat) (a0 : ByteArray) : Option (Bool) := if (a0.size : Int) > 9000 then ((depotlaw10_lines.f k).bind fun t181 => (some t181)) else ((line_Request.f k a0).bind fun bt182 => ((depotref10_Request.f k a0).bind fun bt186 => ((line_Status.f a0).bind fun bt190 => ((depotref10_Status.f k a0).bind fun bt194 => (if bt182.1.toList = bt186.1.toList then (if bt182.2.1.toList = bt186.2.1.toList then (if bt182.2.2.1 = bt186.2.2.1 then (if bt182.2.2.2 = bt186.2.2.2 then (if bt190.1 = bt194.1 then (if bt190.2.1.toList = bt194.2.1.toList then (if bt190.2.2.1 = bt194.2.2.1 then (if bt190.2.2.2 = bt194.2.2.2 then ((depotlaw10_lines.f k).bind fun t198 => (some t198)) else (some false)) else (some false)) else (some false)) else (some false)) else (some false)) else (some false)) else (some false)) else (some false))))))
theorem depotlaw10_LineReads.mono : ∀ a0 k, LeO (depotlaw10_LineReads.f k a0) (depotlaw10_LineReads.f (k + 1) a0) := by
  intro a0 k
  unfold depotlaw10_LineReads.f
  repeat' first
      | (with_reducible exact depotlaw10_lines.mono _)
      | (with_reducible exact depotref10_Request.mono _ _)
      | (with_reducible exact depotref10_Status.mono _ _)
      | (with_reducible exact line_Request.mono _ _)
      | (with_reducible exact LeO.refl _)
      | (with_reducible exact LeO.none _)
      | (with_reducible refine LeO.ite ?_ ?_)
      | (with_reducible refine LeO.bind ?_ (fun _ => ?_))
      | exact depotlaw10_lines.mono _
      | exact depotref10_Request.mono _ _
      | exact depotref10_Status.mono _ _
      | exact line_Request.mono _ _
      | exact LeO.none _
      | refine LeO.ite ?_ ?_
      | refine LeO.bind ?_ (fun _ => ?_)
set_option maxHeartbeats 8000000 in
set_option maxRecDepth 100000 in
theorem depotlaw10_LineReads.calls (k : Nat) (a0 : ByteArray) (r : Bool) (w : World) (HTRUE : Aside0 (r = true)) (HT : Aside0 (Hand.Laid w)) (h : depotlaw10_LineReads.f k a0 = some r) :
    Calls Tryd.prog 3 #[.string a0] w fun e w' => e = .returned (.bool r) ∧ Below w.heap.size w w' := by
  have HB := Aside0.mk (Below.refl w.heap.size w)
  have H : (if (a0.size : Int) > 9000 then ((depotlaw10_lines.f k).bind fun t181 => (some t181)) else ((line_Request.f k a0).bind fun bt182 => ((depotref10_Request.f k a0).bind fun bt186 => ((line_Status.f a0).bind fun bt190 => ((depotref10_Status.f k a0).bind fun bt194 => (if bt182.1.toList = bt186.1.toList then (if bt182.2.1.toList = bt186.2.1.toList then (if bt182.2.2.1 = bt186.2.2.1 then (if bt182.2.2.2 = bt186.2.2.2 then (if bt190.1 = bt194.1 then (if bt190.2.1.toList = bt194.2.1.toList then (if bt190.2.2.1 = bt194.2.2.1 then (if bt190.2.2.2 = bt194.2.2.2 then ((depotlaw10_lines.f k).bind fun t198 => (some t198)) else (some false)) else (some false)) else (some false)) else (some false)) else (some false)) else (some false)) else (some false)) else (some false))))))) = some r := h
  clear h
  by_cases c2 : (a0.size : Int) > 9000
  · rw [if_pos c2] at H
    have c2b0 : decide (9000 < (a0.size : Int)) = true := decide_eq_true c2
    have c2b1 : decide (9000 < a0.size) = true := decide_eq_true (by omega)
    clear c2
    replace H := Option.bind_eq_some_iff.mp H
    obtain ⟨t181, A30, H⟩ := H
    replace H : (some t181) = some r := H
    have A3 := Aside0.mk A30
    clear A30
    obtain rfl := Option.some.inj H
    go_enter Tryd.func3, Tryd.ntmps3
    go_wp2_with (first | ((with_reducible refine gate_callee (f := 6) rfl ?_); refine goesL_ (some 22) rfl rfl Tryd.func6 (by kernel_rfl) rfl #[] rfl (by (try simp only [List.map_toArray, List.map_cons, List.map_nil]); first | done | rfl | (simp only [List.length_drop, List.length_take]; rfl)) ?_; (with_reducible refine (depotlaw10_lines.calls k  t181 _ ?side2 ?side1 A3.out).mono ?_); (case side1 => first | exact HT | exact ⟨Hand.Laid.below HT.out (by repeat (first | (with_reducible first | exact HB.out | apply below_alloc | apply pw_below_drewN | apply below_drew1) | exact HB.out))⟩); (case side2 => first | exact ⟨rfl⟩ | exact HTRUE); rintro e w4 ⟨rfl, hb⟩; refine ⟨_, rfl, ?_⟩; have n0_ := Aside0.mk (below_step (by repeat (first | (with_reducible first | exact HB.out | apply below_alloc | apply pw_below_drewN | apply below_drew1) | exact HB.out)) hb); clear HB; have HB := n0_; clear n0_; (try clear hb); (try clear hb2); (try clear hk); (try clear hi)))
    go_ret
    exact ⟨by first | rfl | (simp [errW_none, errW_some] <;> rfl) | (simp [*, errW_none, errW_some] <;> rfl), by repeat (first | (with_reducible first | exact HB.out | apply below_alloc | apply pw_below_drewN | apply below_drew1) | exact HB.out)⟩
  · rw [if_neg c2] at H
    have c2b0 : decide (9000 < (a0.size : Int)) = false := decide_eq_false c2
    have c2b1 : decide (9000 < a0.size) = false := decide_eq_false (by omega)
    clear c2
    replace H := Option.bind_eq_some_iff.mp H
    obtain ⟨⟨t182, t183, t184, t185⟩, A50, H⟩ := H
    replace H : ((depotref10_Request.f k a0).bind fun bt186 => ((line_Status.f a0).bind fun bt190 => ((depotref10_Status.f k a0).bind fun bt194 => (if t182.toList = bt186.1.toList then (if t183.toList = bt186.2.1.toList then (if t184 = bt186.2.2.1 then (if t185 = bt186.2.2.2 then (if bt190.1 = bt194.1 then (if bt190.2.1.toList = bt194.2.1.toList then (if bt190.2.2.1 = bt194.2.2.1 then (if bt190.2.2.2 = bt194.2.2.2 then ((depotlaw10_lines.f k).bind fun t198 => (some t198)) else (some false)) else (some false)) else (some false)) else (some false)) else (some false)) else (some false)) else (some false)) else (some false))))) = some r := H
    have A5 := Aside0.mk A50
    clear A50
    replace H := Option.bind_eq_some_iff.mp H
    obtain ⟨⟨t186, t187, t188, t189⟩, A60, H⟩ := H
    replace H : ((line_Status.f a0).bind fun bt190 => ((depotref10_Status.f k a0).bind fun bt194 => (if t182.toList = t186.toList then (if t183.toList = t187.toList then (if t184 = t188 then (if t185 = t189 then (if bt190.1 = bt194.1 then (if bt190.2.1.toList = bt194.2.1.toList then (if bt190.2.2.1 = bt194.2.2.1 then (if bt190.2.2.2 = bt194.2.2.2 then ((depotlaw10_lines.f k).bind fun t198 => (some t198)) else (some false)) else (some false)) else (some false)) else (some false)) else (some false)) else (some false)) else (some false)) else (some false)))) = some r := H
    have A6 := Aside0.mk A60
    clear A60
    replace H := Option.bind_eq_some_iff.mp H
    obtain ⟨⟨t190, t191, t192, t193⟩, A70, H⟩ := H
    replace H : ((depotref10_Status.f k a0).bind fun bt194 => (if t182.toList = t186.toList then (if t183.toList = t187.toList then (if t184 = t188 then (if t185 = t189 then (if t190 = bt194.1 then (if t191.toList = bt194.2.1.toList then (if t192 = bt194.2.2.1 then (if t193 = bt194.2.2.2 then ((depotlaw10_lines.f k).bind fun t198 => (some t198)) else (some false)) else (some false)) else (some false)) else (some false)) else (some false)) else (some false)) else (some false)) else (some false))) = some r := H
    have A7 := Aside0.mk A70
    clear A70
    replace H := Option.bind_eq_some_iff.mp H
    obtain ⟨⟨t194, t195, t196, t197⟩, A80, H⟩ := H
    replace H : (if t182.toList = t186.toList then (if t183.toList = t187.toList then (if t184 = t188 then (if t185 = t189 then (if t190 = t194 then (if t191.toList = t195.toList then (if t192 = t196 then (if t193 = t197 then ((depotlaw10_lines.f k).bind fun t198 => (some t198)) else (some false)) else (some false)) else (some false)) else (some false)) else (some false)) else (some false)) else (some false)) else (some false)) = some r := H
    have A8 := Aside0.mk A80
    clear A80
    by_cases c9 : t182.toList = t186.toList
    · rw [if_pos c9] at H
      have c9b0 : (t182.toList == t186.toList) = true := beq_iff_eq.mpr c9
      have c9b1 : (t182.toList != t186.toList) = false := bne_eq_false_iff_eq.mpr c9
      clear c9
      by_cases c10 : t183.toList = t187.toList
      · rw [if_pos c10] at H
        have c10b0 : (t183.toList == t187.toList) = true := beq_iff_eq.mpr c10
        have c10b1 : (t183.toList != t187.toList) = false := bne_eq_false_iff_eq.mpr c10
        clear c10
        by_cases c11 : t184 = t188
        · rw [if_pos c11] at H
          have c11b0 : (t184 == t188) = true := beq_iff_eq.mpr c11
          have c11b1 : (t184 != t188) = false := bne_eq_false_iff_eq.mpr c11
          clear c11
          by_cases c12 : t185 = t189
          · rw [if_pos c12] at H
            have c12b0 : (t185 == t189) = true := beq_iff_eq.mpr c12
            have c12b1 : (t185 != t189) = false := bne_eq_false_iff_eq.mpr c12
            clear c12
            by_cases c13 : t190 = t194
            · rw [if_pos c13] at H
              have c13b0 : (t190 == t194) = true := beq_iff_eq.mpr c13
              have c13b1 : (t190 != t194) = false := bne_eq_false_iff_eq.mpr c13
              clear c13
              by_cases c14 : t191.toList = t195.toList
              · rw [if_pos c14] at H
                have c14b0 : (t191.toList == t195.toList) = true := beq_iff_eq.mpr c14
                have c14b1 : (t191.toList != t195.toList) = false := bne_eq_false_iff_eq.mpr c14
                clear c14
                by_cases c15 : t192 = t196
                · rw [if_pos c15] at H
                  have c15b0 : (t192 == t196) = true := beq_iff_eq.mpr c15
                  have c15b1 : (t192 != t196) = false := bne_eq_false_iff_eq.mpr c15
                  clear c15
                  by_cases c16 : t193 = t197
                  · rw [if_pos c16] at H
                    have c16b0 : (t193 == t197) = true := beq_iff_eq.mpr c16
                    have c16b1 : (t193 != t197) = false := bne_eq_false_iff_eq.mpr c16
                    clear c16
                    replace H := Option.bind_eq_some_iff.mp H
                    obtain ⟨t198, A170, H⟩ := H
                    replace H : (some t198) = some r := H
                    have A17 := Aside0.mk A170
                    clear A170
                    obtain rfl := Option.some.inj H
                    go_enter Tryd.func3, Tryd.ntmps3
                    go_wp2_with (first | ((with_reducible refine gate_callee (f := 7) rfl ?_); refine goesL_ (some 25) rfl rfl Tryd.func7 (by kernel_rfl) rfl #[.string a0] rfl (by (try simp only [List.map_toArray, List.map_cons, List.map_nil]); first | done | rfl | (simp only [List.length_drop, List.length_take]; rfl)) ?_; (with_reducible refine (line_Request.calls k a0 t182 t183 t184 t185 _ ?side1 A5.out).mono ?_); (case side1 => first | exact HT | exact ⟨Hand.Laid.below HT.out (by repeat (first | (with_reducible first | exact HB.out | apply below_alloc | apply pw_below_drewN | apply below_drew1) | exact HB.out))⟩); rintro e w18 ⟨rfl, hb⟩; refine ⟨_, rfl, ?_⟩; have n0_ := Aside0.mk (below_step (by repeat (first | (with_reducible first | exact HB.out | apply below_alloc | apply pw_below_drewN | apply below_drew1) | exact HB.out)) hb); clear HB; have HB := n0_; clear n0_; (try clear hb); (try clear hb2); (try clear hk); (try clear hi)) | ((with_reducible refine gate_callee (f := 8) rfl ?_); refine goesL_ (some 32) rfl rfl Tryd.func8 (by kernel_rfl) rfl #[.string a0] rfl (by (try simp only [List.map_toArray, List.map_cons, List.map_nil]); first | done | rfl | (simp only [List.length_drop, List.length_take]; rfl)) ?_; (with_reducible refine (depotref10_Request.calls k a0 t186 t187 t188 t189 _ A6.out).mono ?_); rintro e w' ⟨rfl, ⟨nd, rfl⟩⟩; refine ⟨_, rfl, ?_⟩) | ((with_reducible refine gate_callee (f := 9) rfl ?_); refine goesL_ (some 39) rfl rfl Tryd.func9 (by kernel_rfl) rfl #[.string a0] rfl (by (try simp only [List.map_toArray, List.map_cons, List.map_nil]); first | done | rfl | (simp only [List.length_drop, List.length_take]; rfl)) ?_; (with_reducible refine (line_Status.calls a0 t190 t191 t192 t193 _ A7.out).mono ?_); rintro e w19 ⟨rfl, hb⟩; refine ⟨_, rfl, ?_⟩; have n0_ := Aside0.mk (below_step (by repeat (first | (with_reducible first | exact HB.out | apply below_alloc | apply pw_below_drewN | apply below_drew1) | exact HB.out)) hb); clear HB; have HB := n0_; clear n0_; (try clear hb); (try clear hb2); (try clear hk); (try clear hi)) | ((with_reducible refine gate_callee (f := 10) rfl ?_); refine goesL_ (some 46) rfl rfl Tryd.func10 (by kernel_rfl) rfl #[.string a0] rfl (by (try simp only [List.map_toArray, List.map_cons, List.map_nil]); first | done | rfl | (simp only [List.length_drop, List.length_take]; rfl)) ?_; (with_reducible refine (depotref10_Status.calls k a0 t194 t195 t196 t197 _ A8.out).mono ?_); rintro e w' ⟨rfl, ⟨nd, rfl⟩⟩; refine ⟨_, rfl, ?_⟩) | (go_at_call 6; (with_reducible refine (depotlaw10_lines.calls k  t198 _ ?side2 ?side1 A17.out).mono ?_); (case side1 => first | exact HT | exact ⟨Hand.Laid.below HT.out (by repeat (first | (with_reducible first | exact HB.out | apply below_alloc | apply pw_below_drewN | apply below_drew1) | exact HB.out))⟩); (case side2 => first | exact ⟨rfl⟩ | exact HTRUE); rintro e w20 ⟨rfl, hb⟩; have n0_ := Aside0.mk (below_step (by repeat (first | (with_reducible first | exact HB.out | apply below_alloc | apply pw_below_drewN | apply below_drew1) | exact HB.out)) hb); clear HB; have HB := n0_; clear n0_; (try clear hb); (try clear hb2); (try clear hk); (try clear hi)))
                    go_ret
                    exact ⟨by first | rfl | (simp [errW_none, errW_some] <;> rfl) | (simp [*, errW_none, errW_some] <;> rfl), by repeat (first | (with_reducible first | exact HB.out | apply below_alloc | apply pw_below_drewN | apply below_drew1) | exact HB.out)⟩
                  · rw [if_neg c16] at H
                    have c16b0 : (t193 == t197) = false := beq_eq_false_iff_ne.mpr c16
                    have c16b1 : (t193 != t197) = true := bne_iff_ne.mpr c16
                    obtain rfl := Option.some.inj H
                    exact absurd HTRUE.out (by decide)
                · rw [if_neg c15] at H
                  have c15b0 : (t192 == t196) = false := beq_eq_false_iff_ne.mpr c15
                  have c15b1 : (t192 != t196) = true := bne_iff_ne.mpr c15
                  obtain rfl := Option.some.inj H
                  exact absurd HTRUE.out (by decide)
              · rw [if_neg c14] at H
                have c14b0 : (t191.toList == t195.toList) = false := beq_eq_false_iff_ne.mpr c14
                have c14b1 : (t191.toList != t195.toList) = true := bne_iff_ne.mpr c14
                obtain rfl := Option.some.inj H
                exact absurd HTRUE.out (by decide)
            · rw [if_neg c13] at H
              have c13b0 : (t190 == t194) = false := beq_eq_false_iff_ne.mpr c13
              have c13b1 : (t190 != t194) = true := bne_iff_ne.mpr c13
              obtain rfl := Option.some.inj H
              exact absurd HTRUE.out (by decide)
          · rw [if_neg c12] at H
            have c12b0 : (t185 == t189) = false := beq_eq_false_iff_ne.mpr c12
            have c12b1 : (t185 != t189) = true := bne_iff_ne.mpr c12
            obtain rfl := Option.some.inj H
            exact absurd HTRUE.out (by decide)
        · rw [if_neg c11] at H
          have c11b0 : (t184 == t188) = false := beq_eq_false_iff_ne.mpr c11
          have c11b1 : (t184 != t188) = true := bne_iff_ne.mpr c11
          obtain rfl := Option.some.inj H
          exact absurd HTRUE.out (by decide)
      · rw [if_neg c10] at H
        have c10b0 : (t183.toList == t187.toList) = false := beq_eq_false_iff_ne.mpr c10
        have c10b1 : (t183.toList != t187.toList) = true := bne_iff_ne.mpr c10
        obtain rfl := Option.some.inj H
        exact absurd HTRUE.out (by decide)
    · rw [if_neg c9] at H
      have c9b0 : (t182.toList == t186.toList) = false := beq_eq_false_iff_ne.mpr c9
      have c9b1 : (t182.toList != t186.toList) = true := bne_iff_ne.mpr c9
      obtain rfl := Option.some.inj H
      exact absurd HTRUE.out (by decide)

/-! ### depotref02_digits: function 46 -/
def depotref02_digits.l0 : Nat → Int → Int → ByteArray → ByteArray → Option (ByteArray)
  | 0, _, _, _, _ => none
  | k + 1, x0, x1, x5, x6 => if x0 ≥ x1 then (if x1 = 0 then (none) else (if 0 ≤ (Int.tmod x0 x1) then (if (Int.tmod x0 x1) ≤ (IntKind.u64.wrap ((Int.tmod x0 x1) + 1)) then (if (IntKind.u64.wrap ((Int.tmod x0 x1) + 1)) ≤ (x5.size : Int) then (if (x5.extract ((Int.tmod x0 x1) : Int).toNat ((IntKind.u64.wrap ((Int.tmod x0 x1) + 1)) : Int).toNat).size + x6.size ≤ 9223372036854775807 then (depotref02_digits.l0 k (IntKind.u64.wrap (Int.tdiv x0 x1)) x1 x5 ((x5.extract ((Int.tmod x0 x1) : Int).toNat ((IntKind.u64.wrap ((Int.tmod x0 x1) + 1)) : Int).toNat) ++ x6)) else (none)) else (none)) else (none)) else (none))) else (if 0 ≤ x0 then (if x0 ≤ (IntKind.u64.wrap (x0 + 1)) then (if (IntKind.u64.wrap (x0 + 1)) ≤ (x5.size : Int) then (if (x5.extract (x0 : Int).toNat ((IntKind.u64.wrap (x0 + 1)) : Int).toNat).size + x6.size ≤ 9223372036854775807 then (some ((x5.extract (x0 : Int).toNat ((IntKind.u64.wrap (x0 + 1)) : Int).toNat) ++ x6)) else (none)) else (none)) else (none)) else (none))
def depotref02_digits.f (k : Nat) (a0 : Int) (a1 : Int) : Option (ByteArray) := depotref02_digits.l0 k a0 a1 (⟨#[48, 49, 50, 51, 52, 53, 54, 55, 56, 57, 97, 98, 99, 100, 101, 102]⟩ : ByteArray) (⟨#[]⟩ : ByteArray)
theorem depotref02_digits.mono_l : ∀ k, (∀ y0 y1 y2 y3, LeO (depotref02_digits.l0 k y0 y1 y2 y3) (depotref02_digits.l0 (k + 1) y0 y1 y2 y3))
  | 0 => fun _ _ _ _ r h => by simp [depotref02_digits.l0] at h
  | k + 1 => by
    have ih0 := depotref02_digits.mono_l k
    · intro y0 y1 y2 y3
      unfold depotref02_digits.l0
      repeat' first
      | (with_reducible exact ih0 _ _ _ _)
      | (with_reducible exact LeO.refl _)
      | (with_reducible exact LeO.none _)
      | (with_reducible refine LeO.ite ?_ ?_)
      | (with_reducible refine LeO.bind ?_ (fun _ => ?_))
      | exact ih0 _ _ _ _
      | exact LeO.none _
      | refine LeO.ite ?_ ?_
      | refine LeO.bind ?_ (fun _ => ?_)
theorem depotref02_digits.mono : ∀ a0 a1 k, LeO (depotref02_digits.f k a0 a1) (depotref02_digits.f (k + 1) a0 a1) := by
  intro a0 a1 k
  have ih0 := depotref02_digits.mono_l k
  unfold depotref02_digits.f
  repeat' first
      | (with_reducible exact ih0 _ _ _ _)
      | (with_reducible exact LeO.refl _)
      | (with_reducible exact LeO.none _)
      | (with_reducible refine LeO.ite ?_ ?_)
      | (with_reducible refine LeO.bind ?_ (fun _ => ?_))
      | exact ih0 _ _ _ _
      | exact LeO.none _
      | refine LeO.ite ?_ ?_
      | refine LeO.bind ?_ (fun _ => ?_)
set_option maxHeartbeats 8000000 in
set_option maxRecDepth 100000 in
theorem depotref02_digits.calls (k : Nat) (a0 : Int) (a1 : Int) (r : ByteArray) (w : World) (h : depotref02_digits.f k a0 a1 = some r) :
    Calls Tryd.prog 46 #[.int .u64 a0, .int .u64 a1] w fun e w' => e = .returned (.string r) ∧ Drawn0 w w' := by
  have H : (depotref02_digits.l0 k a0 a1 (⟨#[48, 49, 50, 51, 52, 53, 54, 55, 56, 57, 97, 98, 99, 100, 101, 102]⟩ : ByteArray) (⟨#[]⟩ : ByteArray)) = some r := h
  clear h
  have H' := Aside0.mk H
  clear H
  go_enter Tryd.func46, Tryd.ntmps46
  go_wp2
  repeat (go_quiet (fail); try go_wp2)
  go_loopg [0, 6] k (fun kq v0 v6 w' => ∃ (x0_1 : Int) (x6_1 : ByteArray), v0 = .int .u64 x0_1 ∧ v6 = .string x6_1 ∧ Aside0 (depotref02_digits.l0 kq x0_1 a1 (⟨#[48, 49, 50, 51, 52, 53, 54, 55, 56, 57, 97, 98, 99, 100, 101, 102]⟩ : ByteArray) x6_1 = some r) ∧ Aside0 (kq ≤ k) ∧ Drawn0 w w')
  case atStart => exact ⟨(a0), ((⟨#[]⟩ : ByteArray)), (by first | rfl | (simp; done) | (simp [*]; done) | (simp; exact Hand.isEmpty_ne _)), (by first | rfl | (simp; done) | (simp [*]; done) | (simp; exact Hand.isEmpty_ne _)), H', ⟨Nat.le_refl _⟩, by repeat (first | exact Drawn0.refl _ | apply Drawn0.step)⟩
  case round =>
    clear H'
    try clear p2
    obtain ⟨x0_1, x6_1, rfl, rfl, HA, HK1, ⟨m1, rfl⟩⟩ := hrel
    cases gk with
    | zero => exact absurd HA.out (by simp [depotref02_digits.l0])
    | succ k1 =>
      have H := HA.out
      clear HA
      simp only [depotref02_digits.l0] at H
      by_cases c3 : x0_1 ≥ a1
      · rw [if_pos c3] at H
        have c3b0 : decide (a1 ≤ x0_1) = true := decide_eq_true c3
        clear c3
        by_cases c4 : a1 = 0
        · rw [if_pos c4] at H
          exact absurd H (by simp)
        · rw [if_neg c4] at H
          have c4b0 : (a1 == 0) = false := beq_eq_false_iff_ne.mpr c4
          have c4b1 : (a1 != 0) = true := bne_iff_ne.mpr c4
          obtain ⟨ji5, hji5⟩ : ∃ j_ : Int, (Int.tmod x0_1 a1) = j_ := ⟨_, rfl⟩
          replace H : (if 0 ≤ (ji5) then (if (ji5) ≤ (IntKind.u64.wrap ((ji5) + 1)) then (if (IntKind.u64.wrap ((ji5) + 1)) ≤ ((⟨#[48, 49, 50, 51, 52, 53, 54, 55, 56, 57, 97, 98, 99, 100, 101, 102]⟩ : ByteArray).size : Int) then (if ((⟨#[48, 49, 50, 51, 52, 53, 54, 55, 56, 57, 97, 98, 99, 100, 101, 102]⟩ : ByteArray).extract ((ji5) : Int).toNat ((IntKind.u64.wrap ((ji5) + 1)) : Int).toNat).size + x6_1.size ≤ 9223372036854775807 then (depotref02_digits.l0 k1 (IntKind.u64.wrap (Int.tdiv x0_1 a1)) a1 (⟨#[48, 49, 50, 51, 52, 53, 54, 55, 56, 57, 97, 98, 99, 100, 101, 102]⟩ : ByteArray) (((⟨#[48, 49, 50, 51, 52, 53, 54, 55, 56, 57, 97, 98, 99, 100, 101, 102]⟩ : ByteArray).extract ((ji5) : Int).toNat ((IntKind.u64.wrap ((ji5) + 1)) : Int).toNat) ++ x6_1)) else (none)) else (none)) else (none)) else (none)) = some r := by first | (rw [hji5] at H; exact H) | (simp only [hji5] at H ⊢; exact H)
          by_cases c6 : 0 ≤ (ji5)
          · rw [if_pos c6] at H
            have c6b0 := eq_true c6
            have c6b1 : decide (0 ≤ (ji5)) = true := decide_eq_true c6
            clear c6
            by_cases c7 : (ji5) ≤ (IntKind.u64.wrap ((ji5) + 1))
            · rw [if_pos c7] at H
              have c7b0 := eq_true c7
              have c7b1 : decide ((ji5) ≤ (IntKind.u64.wrap ((ji5) + 1))) = true := decide_eq_true c7
              by_cases c8 : (IntKind.u64.wrap ((ji5) + 1)) ≤ ((⟨#[48, 49, 50, 51, 52, 53, 54, 55, 56, 57, 97, 98, 99, 100, 101, 102]⟩ : ByteArray).size : Int)
              · rw [if_pos c8] at H
                have c8b0 := eq_true c8
                have c8b1 : decide ((IntKind.u64.wrap ((ji5) + 1)) ≤ ((⟨#[48, 49, 50, 51, 52, 53, 54, 55, 56, 57, 97, 98, 99, 100, 101, 102]⟩ : ByteArray).size : Int)) = true := decide_eq_true c8
                (try (have c8b30 : ((IntKind.u64.wrap ((ji5) + 1)) ≤ 16) = True := eq_true c8))
                (try (have c8b31 : decide ((IntKind.u64.wrap ((ji5) + 1)) ≤ 16) = true := decide_eq_true c8))
                by_cases c9 : ((⟨#[48, 49, 50, 51, 52, 53, 54, 55, 56, 57, 97, 98, 99, 100, 101, 102]⟩ : ByteArray).extract ((ji5) : Int).toNat ((IntKind.u64.wrap ((ji5) + 1)) : Int).toNat).size + x6_1.size ≤ 9223372036854775807
                · rw [if_pos c9] at H
                  have c9b0 := eq_true c9
                  have c9b1 : decide (((⟨#[48, 49, 50, 51, 52, 53, 54, 55, 56, 57, 97, 98, 99, 100, 101, 102]⟩ : ByteArray).extract ((ji5) : Int).toNat ((IntKind.u64.wrap ((ji5) + 1)) : Int).toNat).size + x6_1.size ≤ 9223372036854775807) = true := decide_eq_true c9
                  (try (have c9b20 := c9b0; simp only [ByteArray.size_extract] at c9b20))
                  (try (have c9b21 := c9b1; simp only [ByteArray.size_extract] at c9b21))
                  try have c9b2 : (9223372036854775807 < ((⟨#[48, 49, 50, 51, 52, 53, 54, 55, 56, 57, 97, 98, 99, 100, 101, 102]⟩ : ByteArray).extract ((ji5) : Int).toNat ((IntKind.u64.wrap ((ji5) + 1)) : Int).toNat).size + x6_1.size) = False := eq_false (Nat.not_lt.2 c9)
                  have H' := Aside0.mk H
                  clear H
                  go_wp2
                  repeat (go_quiet (fail); try go_wp2)
                  go_roundg k1
                  case measure => have := HK1.out; omega
                  case rel => exact ⟨(IntKind.u64.wrap (Int.tdiv x0_1 a1)), (((⟨#[48, 49, 50, 51, 52, 53, 54, 55, 56, 57, 97, 98, 99, 100, 101, 102]⟩ : ByteArray).extract ((ji5) : Int).toNat ((IntKind.u64.wrap ((ji5) + 1)) : Int).toNat) ++ x6_1), (by first | rfl | (simp; done) | (simp [*]; done) | (simp; exact Hand.isEmpty_ne _)), (by first | rfl | (simp; done) | (simp only [← hji5] <;> (first | rfl | simp)) | (simp [*]; done)), H', ⟨by have := HK1.out; omega⟩, by repeat (first | exact Drawn0.refl _ | apply Drawn0.step)⟩
                · rw [if_neg c9] at H
                  exact absurd H (by simp)
              · rw [if_neg c8] at H
                exact absurd H (by simp)
            · rw [if_neg c7] at H
              exact absurd H (by simp)
          · rw [if_neg c6] at H
            exact absurd H (by simp)
      · rw [if_neg c3] at H
        have c3b0 : decide (a1 ≤ x0_1) = false := decide_eq_false c3
        clear c3
        by_cases c10 : 0 ≤ x0_1
        · rw [if_pos c10] at H
          have c10b0 := eq_true c10
          have c10b1 : decide (0 ≤ x0_1) = true := decide_eq_true c10
          clear c10
          by_cases c11 : x0_1 ≤ (IntKind.u64.wrap (x0_1 + 1))
          · rw [if_pos c11] at H
            have c11b0 := eq_true c11
            have c11b1 : decide (x0_1 ≤ (IntKind.u64.wrap (x0_1 + 1))) = true := decide_eq_true c11
            by_cases c12 : (IntKind.u64.wrap (x0_1 + 1)) ≤ ((⟨#[48, 49, 50, 51, 52, 53, 54, 55, 56, 57, 97, 98, 99, 100, 101, 102]⟩ : ByteArray).size : Int)
            · rw [if_pos c12] at H
              have c12b0 := eq_true c12
              have c12b1 : decide ((IntKind.u64.wrap (x0_1 + 1)) ≤ ((⟨#[48, 49, 50, 51, 52, 53, 54, 55, 56, 57, 97, 98, 99, 100, 101, 102]⟩ : ByteArray).size : Int)) = true := decide_eq_true c12
              (try (have c12b30 : ((IntKind.u64.wrap (x0_1 + 1)) ≤ 16) = True := eq_true c12))
              (try (have c12b31 : decide ((IntKind.u64.wrap (x0_1 + 1)) ≤ 16) = true := decide_eq_true c12))
              by_cases c13 : ((⟨#[48, 49, 50, 51, 52, 53, 54, 55, 56, 57, 97, 98, 99, 100, 101, 102]⟩ : ByteArray).extract (x0_1 : Int).toNat ((IntKind.u64.wrap (x0_1 + 1)) : Int).toNat).size + x6_1.size ≤ 9223372036854775807
              · rw [if_pos c13] at H
                have c13b0 := eq_true c13
                have c13b1 : decide (((⟨#[48, 49, 50, 51, 52, 53, 54, 55, 56, 57, 97, 98, 99, 100, 101, 102]⟩ : ByteArray).extract (x0_1 : Int).toNat ((IntKind.u64.wrap (x0_1 + 1)) : Int).toNat).size + x6_1.size ≤ 9223372036854775807) = true := decide_eq_true c13
                (try (have c13b20 := c13b0; simp only [ByteArray.size_extract] at c13b20))
                (try (have c13b21 := c13b1; simp only [ByteArray.size_extract] at c13b21))
                try have c13b2 : (9223372036854775807 < ((⟨#[48, 49, 50, 51, 52, 53, 54, 55, 56, 57, 97, 98, 99, 100, 101, 102]⟩ : ByteArray).extract (x0_1 : Int).toNat ((IntKind.u64.wrap (x0_1 + 1)) : Int).toNat).size + x6_1.size) = False := eq_false (Nat.not_lt.2 c13)
                obtain rfl := Option.some.inj H
                go_wp2
                repeat (go_quiet (fail); try go_wp2)
                go_ret
                exact ⟨by first | rfl | (simp; done) | (simp [*]; done) | (simp; exact Hand.isEmpty_ne _), by repeat (first | exact Drawn0.refl _ | apply Drawn0.step)⟩
              · rw [if_neg c13] at H
                exact absurd H (by simp)
            · rw [if_neg c12] at H
              exact absurd H (by simp)
          · rw [if_neg c11] at H
            exact absurd H (by simp)
        · rw [if_neg c10] at H
          exact absurd H (by simp)

/-! ### depotref02_Plain: function 33 -/
def depotref02_Plain.f (k : Nat) (a0 : Int) : Option (ByteArray) := if a0 < 0 then ((depotref02_digits.f k (IntKind.u64.wrap (-(IntKind.u64.wrap (a0)))) 10).bind fun t199 => (if 1 + t199.size ≤ 9223372036854775807 then (some ((⟨#[45]⟩ : ByteArray) ++ t199)) else (none))) else ((depotref02_digits.f k (IntKind.u64.wrap (a0)) 10).bind fun t200 => (some t200))
theorem depotref02_Plain.mono : ∀ a0 k, LeO (depotref02_Plain.f k a0) (depotref02_Plain.f (k + 1) a0) := by
  intro a0 k
  unfold depotref02_Plain.f
  repeat' first
      | (with_reducible exact depotref02_digits.mono _ _ _)
      | (with_reducible exact LeO.refl _)
      | (with_reducible exact LeO.none _)
      | (with_reducible refine LeO.ite ?_ ?_)
      | (with_reducible refine LeO.bind ?_ (fun _ => ?_))
      | exact depotref02_digits.mono _ _ _
      | exact LeO.none _
      | refine LeO.ite ?_ ?_
      | refine LeO.bind ?_ (fun _ => ?_)
set_option maxHeartbeats 8000000 in
set_option maxRecDepth 100000 in
theorem depotref02_Plain.calls (k : Nat) (a0 : Int) (r : ByteArray) (w : World) (h : depotref02_Plain.f k a0 = some r) :
    Calls Tryd.prog 33 #[.int .i64 a0] w fun e w' => e = .returned (.string r) ∧ Drawn0 w w' := by
  have H : (if a0 < 0 then ((depotref02_digits.f k (IntKind.u64.wrap (-(IntKind.u64.wrap (a0)))) 10).bind fun t199 => (if 1 + t199.size ≤ 9223372036854775807 then (some ((⟨#[45]⟩ : ByteArray) ++ t199)) else (none))) else ((depotref02_digits.f k (IntKind.u64.wrap (a0)) 10).bind fun t200 => (some t200))) = some r := h
  clear h
  by_cases c2 : a0 < 0
  · rw [if_pos c2] at H
    have c2b0 : decide (a0 < 0) = true := decide_eq_true c2
    clear c2
    replace H := Option.bind_eq_some_iff.mp H
    obtain ⟨t199, A30, H⟩ := H
    replace H : (if 1 + t199.size ≤ 9223372036854775807 then (some ((⟨#[45]⟩ : ByteArray) ++ t199)) else (none)) = some r := H
    have A3 := Aside0.mk A30
    clear A30
    by_cases c4 : 1 + t199.size ≤ 9223372036854775807
    · rw [if_pos c4] at H
      have c4b0 := eq_true c4
      have c4b1 : decide (1 + t199.size ≤ 9223372036854775807) = true := decide_eq_true c4
      try have c4b2 : (9223372036854775807 < 1 + t199.size) = False := eq_false (Nat.not_lt.2 c4)
      obtain rfl := Option.some.inj H
      go_enter Tryd.func33, Tryd.ntmps33
      go_wp2_with (first | ((with_reducible refine gate_callee (f := 46) rfl ?_); refine goesL_ (some 8) rfl rfl Tryd.func46 (by kernel_rfl) rfl #[.int .u64 (IntKind.u64.wrap (-(IntKind.u64.wrap (a0)))), .int .u64 10] rfl (by (try simp only [List.map_toArray, List.map_cons, List.map_nil]); first | done | rfl | (simp only [List.length_drop, List.length_take]; rfl)) ?_; (with_reducible refine (depotref02_digits.calls k (IntKind.u64.wrap (-(IntKind.u64.wrap (a0)))) 10 t199 _ A3.out).mono ?_); rintro e w' ⟨rfl, ⟨nd, rfl⟩⟩; refine ⟨_, rfl, ?_⟩))
      go_ret
      exact ⟨by first | rfl | (simp; done) | (simp [*]; done) | (simp; exact Hand.isEmpty_ne _), by repeat (first | exact Drawn0.refl _ | apply Drawn0.step)⟩
    · rw [if_neg c4] at H
      exact absurd H (by simp)
  · rw [if_neg c2] at H
    have c2b0 : decide (a0 < 0) = false := decide_eq_false c2
    clear c2
    replace H := Option.bind_eq_some_iff.mp H
    obtain ⟨t200, A50, H⟩ := H
    replace H : (some t200) = some r := H
    have A5 := Aside0.mk A50
    clear A50
    obtain rfl := Option.some.inj H
    go_enter Tryd.func33, Tryd.ntmps33
    go_wp2_with (first | ((with_reducible refine gate_callee (f := 46) rfl ?_); refine goesL_ (some 12) rfl rfl Tryd.func46 (by kernel_rfl) rfl #[.int .u64 (IntKind.u64.wrap (a0)), .int .u64 10] rfl (by (try simp only [List.map_toArray, List.map_cons, List.map_nil]); first | done | rfl | (simp only [List.length_drop, List.length_take]; rfl)) ?_; (with_reducible refine (depotref02_digits.calls k (IntKind.u64.wrap (a0)) 10 t200 _ A5.out).mono ?_); rintro e w' ⟨rfl, ⟨nd, rfl⟩⟩; refine ⟨_, rfl, ?_⟩))
    go_ret
    exact ⟨by first | rfl | (simp; done) | (simp [*]; done) | (simp; exact Hand.isEmpty_ne _), by repeat (first | exact Drawn0.refl _ | apply Drawn0.step)⟩

end Go.Proofs.YtljikgfhglihhaaDoor.PR
