-- Out of the translation, by a program of this session: each function that a law comes to as a Lean function, and that the machine's call does what it says. Lean checks it.
import Derived.Test.YtghaocjhmambaaaDoorPR0
import Derived.Test.YtghaocjhmambaaaDoorPR4
import Derived.Test.YtghaocjhmambaaaDoorPR8
import Derived.Test.YtghaocjhmambaaaDoorPR13
import Derived.Test.YtghaocjhmambaaaDoorPR15
namespace Go.Proofs.YtghaocjhmambaaaDoor.PR
open Go.RowKit Go.Proofs.YtghaocjhmambaaaDoorW.PrintWords Go.Proofs.YtghaocjhmambaaaDoorW.PrintLast Go.Proofs.YtghaocjhmambaaaDoorW.PrintMore
attribute [local go_sem] max2_int min2_int max_two min_two max_three min_three max_four min_four   -- for this text's walks alone
set_option linter.unusedVariables false
set_option linter.unusedSimpArgs false

/-! ### depotlaw08_TargetPaths: function 3 -/
def depotlaw08_TargetPaths.f (k : Nat) (a0 : ByteArray) : Option (Bool) := if (a0.size : Int) > 1000 then ((depotlaw08_plains.f k).bind fun t218 => (some t218)) else ((target_Path.f k a0).bind fun bt219 => ((depotref08_Path.f k a0).bind fun bt221 => ((target_Authority.f a0).bind fun bt223 => ((depotref08_Authority.f k a0).bind fun bt226 => (if bt219.1.toList = bt221.1.toList then (if bt219.2 = bt221.2 then (if bt223.1.toList = bt226.1.toList then (if bt223.2.1 = bt226.2.1 then (if bt223.2.2 = bt226.2.2 then ((depotlaw08_plains.f k).bind fun t229 => (some t229)) else (some false)) else (some false)) else (some false)) else (some false)) else (some false))))))
theorem depotlaw08_TargetPaths.mono : ∀ a0 k, LeO (depotlaw08_TargetPaths.f k a0) (depotlaw08_TargetPaths.f (k + 1) a0) := by
  intro a0 k
  unfold depotlaw08_TargetPaths.f
  repeat' first
      | (with_reducible exact depotlaw08_plains.mono _)
      | (with_reducible exact depotref08_Authority.mono _ _)
      | (with_reducible exact depotref08_Path.mono _ _)
      | (with_reducible exact target_Path.mono _ _)
      | (with_reducible exact LeO.refl _)
      | (with_reducible exact LeO.none _)
      | (with_reducible refine LeO.ite ?_ ?_)
      | (with_reducible refine LeO.bind ?_ (fun _ => ?_))
      | exact depotlaw08_plains.mono _
      | exact depotref08_Authority.mono _ _
      | exact depotref08_Path.mono _ _
      | exact target_Path.mono _ _
      | exact LeO.none _
      | refine LeO.ite ?_ ?_
      | refine LeO.bind ?_ (fun _ => ?_)
set_option maxHeartbeats 8000000 in
set_option maxRecDepth 100000 in
theorem depotlaw08_TargetPaths.calls (k : Nat) (a0 : ByteArray) (r : Bool) (w : World) (HTRUE : Aside0 (r = true)) (HT : Aside0 (Hand.Laid w)) (h : depotlaw08_TargetPaths.f k a0 = some r) :
    Calls Tryd.prog 3 #[.string a0] w fun e w' => e = .returned (.bool r) ∧ Below w.heap.size w w' := by
  have HB := Aside0.mk (Below.refl w.heap.size w)
  have H : (if (a0.size : Int) > 1000 then ((depotlaw08_plains.f k).bind fun t218 => (some t218)) else ((target_Path.f k a0).bind fun bt219 => ((depotref08_Path.f k a0).bind fun bt221 => ((target_Authority.f a0).bind fun bt223 => ((depotref08_Authority.f k a0).bind fun bt226 => (if bt219.1.toList = bt221.1.toList then (if bt219.2 = bt221.2 then (if bt223.1.toList = bt226.1.toList then (if bt223.2.1 = bt226.2.1 then (if bt223.2.2 = bt226.2.2 then ((depotlaw08_plains.f k).bind fun t229 => (some t229)) else (some false)) else (some false)) else (some false)) else (some false)) else (some false))))))) = some r := h
  clear h
  by_cases c2 : (a0.size : Int) > 1000
  · rw [if_pos c2] at H
    have c2b0 : decide (1000 < (a0.size : Int)) = true := decide_eq_true c2
    have c2b1 : decide (1000 < a0.size) = true := decide_eq_true (by omega)
    clear c2
    replace H := Option.bind_eq_some_iff.mp H
    obtain ⟨t218, A30, H⟩ := H
    replace H : (some t218) = some r := H
    have A3 := Aside0.mk A30
    clear A30
    obtain rfl := Option.some.inj H
    go_enter Tryd.func3, Tryd.ntmps3
    go_wp2_with (first | ((with_reducible refine gate_callee (f := 8) rfl ?_); refine goesL_ (some 16) rfl rfl Tryd.func8 (by kernel_rfl) rfl #[] rfl (by (try simp only [List.map_toArray, List.map_cons, List.map_nil]); first | done | rfl | (simp only [List.length_drop, List.length_take]; rfl)) ?_; (with_reducible refine (depotlaw08_plains.calls k  t218 _ ?side2 ?side1 A3.out).mono ?_); (case side1 => first | exact HT | exact ⟨Hand.Laid.below HT.out (by repeat (first | (with_reducible first | exact HB.out | apply below_alloc | apply pw_below_drewN | apply below_drew1) | exact HB.out))⟩); (case side2 => first | exact ⟨rfl⟩ | exact HTRUE); rintro e w4 ⟨rfl, hb⟩; refine ⟨_, rfl, ?_⟩; have n0_ := Aside0.mk (below_step (by repeat (first | (with_reducible first | exact HB.out | apply below_alloc | apply pw_below_drewN | apply below_drew1) | exact HB.out)) hb); clear HB; have HB := n0_; clear n0_; (try clear hb); (try clear hb2); (try clear hk); (try clear hi)))
    go_ret
    exact ⟨by first | rfl | (simp [errW_none, errW_some] <;> rfl) | (simp [*, errW_none, errW_some] <;> rfl), by repeat (first | (with_reducible first | exact HB.out | apply below_alloc | apply pw_below_drewN | apply below_drew1) | exact HB.out)⟩
  · rw [if_neg c2] at H
    have c2b0 : decide (1000 < (a0.size : Int)) = false := decide_eq_false c2
    have c2b1 : decide (1000 < a0.size) = false := decide_eq_false (by omega)
    clear c2
    replace H := Option.bind_eq_some_iff.mp H
    obtain ⟨⟨t219, t220⟩, A50, H⟩ := H
    replace H : ((depotref08_Path.f k a0).bind fun bt221 => ((target_Authority.f a0).bind fun bt223 => ((depotref08_Authority.f k a0).bind fun bt226 => (if t219.toList = bt221.1.toList then (if t220 = bt221.2 then (if bt223.1.toList = bt226.1.toList then (if bt223.2.1 = bt226.2.1 then (if bt223.2.2 = bt226.2.2 then ((depotlaw08_plains.f k).bind fun t229 => (some t229)) else (some false)) else (some false)) else (some false)) else (some false)) else (some false))))) = some r := H
    have A5 := Aside0.mk A50
    clear A50
    replace H := Option.bind_eq_some_iff.mp H
    obtain ⟨⟨t221, t222⟩, A60, H⟩ := H
    replace H : ((target_Authority.f a0).bind fun bt223 => ((depotref08_Authority.f k a0).bind fun bt226 => (if t219.toList = t221.toList then (if t220 = t222 then (if bt223.1.toList = bt226.1.toList then (if bt223.2.1 = bt226.2.1 then (if bt223.2.2 = bt226.2.2 then ((depotlaw08_plains.f k).bind fun t229 => (some t229)) else (some false)) else (some false)) else (some false)) else (some false)) else (some false)))) = some r := H
    have A6 := Aside0.mk A60
    clear A60
    replace H := Option.bind_eq_some_iff.mp H
    obtain ⟨⟨t223, t224, t225⟩, A70, H⟩ := H
    replace H : ((depotref08_Authority.f k a0).bind fun bt226 => (if t219.toList = t221.toList then (if t220 = t222 then (if t223.toList = bt226.1.toList then (if t224 = bt226.2.1 then (if t225 = bt226.2.2 then ((depotlaw08_plains.f k).bind fun t229 => (some t229)) else (some false)) else (some false)) else (some false)) else (some false)) else (some false))) = some r := H
    have A7 := Aside0.mk A70
    clear A70
    replace H := Option.bind_eq_some_iff.mp H
    obtain ⟨⟨t226, t227, t228⟩, A80, H⟩ := H
    replace H : (if t219.toList = t221.toList then (if t220 = t222 then (if t223.toList = t226.toList then (if t224 = t227 then (if t225 = t228 then ((depotlaw08_plains.f k).bind fun t229 => (some t229)) else (some false)) else (some false)) else (some false)) else (some false)) else (some false)) = some r := H
    have A8 := Aside0.mk A80
    clear A80
    by_cases c9 : t219.toList = t221.toList
    · rw [if_pos c9] at H
      have c9b0 : (t219.toList == t221.toList) = true := beq_iff_eq.mpr c9
      have c9b1 : (t219.toList != t221.toList) = false := bne_eq_false_iff_eq.mpr c9
      clear c9
      by_cases c10 : t220 = t222
      · rw [if_pos c10] at H
        have c10b0 : (t220 == t222) = true := beq_iff_eq.mpr c10
        have c10b1 : (t220 != t222) = false := bne_eq_false_iff_eq.mpr c10
        clear c10
        by_cases c11 : t223.toList = t226.toList
        · rw [if_pos c11] at H
          have c11b0 : (t223.toList == t226.toList) = true := beq_iff_eq.mpr c11
          have c11b1 : (t223.toList != t226.toList) = false := bne_eq_false_iff_eq.mpr c11
          clear c11
          by_cases c12 : t224 = t227
          · rw [if_pos c12] at H
            have c12b0 : (t224 == t227) = true := beq_iff_eq.mpr c12
            have c12b1 : (t224 != t227) = false := bne_eq_false_iff_eq.mpr c12
            clear c12
            by_cases c13 : t225 = t228
            · rw [if_pos c13] at H
              have c13b0 : (t225 == t228) = true := beq_iff_eq.mpr c13
              have c13b1 : (t225 != t228) = false := bne_eq_false_iff_eq.mpr c13
              clear c13
              replace H := Option.bind_eq_some_iff.mp H
              obtain ⟨t229, A140, H⟩ := H
              replace H : (some t229) = some r := H
              have A14 := Aside0.mk A140
              clear A140
              obtain rfl := Option.some.inj H
              go_enter Tryd.func3, Tryd.ntmps3
              go_wp2_with (first | ((with_reducible refine gate_callee (f := 9) rfl ?_); refine goesL_ (some 19) rfl rfl Tryd.func9 (by kernel_rfl) rfl #[.string a0] rfl (by (try simp only [List.map_toArray, List.map_cons, List.map_nil]); first | done | rfl | (simp only [List.length_drop, List.length_take]; rfl)) ?_; (with_reducible refine (target_Path.calls k a0 t219 t220 _ ?side1 A5.out).mono ?_); (case side1 => first | exact HT | exact ⟨Hand.Laid.below HT.out (by repeat (first | (with_reducible first | exact HB.out | apply below_alloc | apply pw_below_drewN | apply below_drew1) | exact HB.out))⟩); rintro e w15 ⟨rfl, hb⟩; refine ⟨_, rfl, ?_⟩; have n0_ := Aside0.mk (below_step (by repeat (first | (with_reducible first | exact HB.out | apply below_alloc | apply pw_below_drewN | apply below_drew1) | exact HB.out)) hb); clear HB; have HB := n0_; clear n0_; (try clear hb); (try clear hb2); (try clear hk); (try clear hi)) | ((with_reducible refine gate_callee (f := 10) rfl ?_); refine goesL_ (some 24) rfl rfl Tryd.func10 (by kernel_rfl) rfl #[.string a0] rfl (by (try simp only [List.map_toArray, List.map_cons, List.map_nil]); first | done | rfl | (simp only [List.length_drop, List.length_take]; rfl)) ?_; (with_reducible refine (depotref08_Path.calls k a0 t221 t222 _ A6.out).mono ?_); rintro e w16 ⟨rfl, hb⟩; refine ⟨_, rfl, ?_⟩; have n0_ := Aside0.mk (below_step (by repeat (first | (with_reducible first | exact HB.out | apply below_alloc | apply pw_below_drewN | apply below_drew1) | exact HB.out)) hb); clear HB; have HB := n0_; clear n0_; (try clear hb); (try clear hb2); (try clear hk); (try clear hi)) | ((with_reducible refine gate_callee (f := 11) rfl ?_); refine goesL_ (some 29) rfl rfl Tryd.func11 (by kernel_rfl) rfl #[.string a0] rfl (by (try simp only [List.map_toArray, List.map_cons, List.map_nil]); first | done | rfl | (simp only [List.length_drop, List.length_take]; rfl)) ?_; (with_reducible refine (target_Authority.calls a0 t223 t224 t225 _ A7.out).mono ?_); rintro e w17 ⟨rfl, hb⟩; refine ⟨_, rfl, ?_⟩; have n0_ := Aside0.mk (below_step (by repeat (first | (with_reducible first | exact HB.out | apply below_alloc | apply pw_below_drewN | apply below_drew1) | exact HB.out)) hb); clear HB; have HB := n0_; clear n0_; (try clear hb); (try clear hb2); (try clear hk); (try clear hi)) | ((with_reducible refine gate_callee (f := 12) rfl ?_); refine goesL_ (some 35) rfl rfl Tryd.func12 (by kernel_rfl) rfl #[.string a0] rfl (by (try simp only [List.map_toArray, List.map_cons, List.map_nil]); first | done | rfl | (simp only [List.length_drop, List.length_take]; rfl)) ?_; (with_reducible refine (depotref08_Authority.calls k a0 t226 t227 t228 _ A8.out).mono ?_); rintro e w18 ⟨rfl, hb⟩; refine ⟨_, rfl, ?_⟩; have n0_ := Aside0.mk (below_step (by repeat (first | (with_reducible first | exact HB.out | apply below_alloc | apply pw_below_drewN | apply below_drew1) | exact HB.out)) hb); clear HB; have HB := n0_; clear n0_; (try clear hb); (try clear hb2); (try clear hk); (try clear hi)) | (go_at_call 8; (with_reducible refine (depotlaw08_plains.calls k  t229 _ ?side2 ?side1 A14.out).mono ?_); (case side1 => first | exact HT | exact ⟨Hand.Laid.below HT.out (by repeat (first | (with_reducible first | exact HB.out | apply below_alloc | apply pw_below_drewN | apply below_drew1) | exact HB.out))⟩); (case side2 => first | exact ⟨rfl⟩ | exact HTRUE); rintro e w19 ⟨rfl, hb⟩; have n0_ := Aside0.mk (below_step (by repeat (first | (with_reducible first | exact HB.out | apply below_alloc | apply pw_below_drewN | apply below_drew1) | exact HB.out)) hb); clear HB; have HB := n0_; clear n0_; (try clear hb); (try clear hb2); (try clear hk); (try clear hi)))
              go_ret
              exact ⟨by first | rfl | (simp [errW_none, errW_some] <;> rfl) | (simp [*, errW_none, errW_some] <;> rfl), by repeat (first | (with_reducible first | exact HB.out | apply below_alloc | apply pw_below_drewN | apply below_drew1) | exact HB.out)⟩
            · rw [if_neg c13] at H
              have c13b0 : (t225 == t228) = false := beq_eq_false_iff_ne.mpr c13
              have c13b1 : (t225 != t228) = true := bne_iff_ne.mpr c13
              obtain rfl := Option.some.inj H
              exact absurd HTRUE.out (by decide)
          · rw [if_neg c12] at H
            have c12b0 : (t224 == t227) = false := beq_eq_false_iff_ne.mpr c12
            have c12b1 : (t224 != t227) = true := bne_iff_ne.mpr c12
            obtain rfl := Option.some.inj H
            exact absurd HTRUE.out (by decide)
        · rw [if_neg c11] at H
          have c11b0 : (t223.toList == t226.toList) = false := beq_eq_false_iff_ne.mpr c11
          have c11b1 : (t223.toList != t226.toList) = true := bne_iff_ne.mpr c11
          obtain rfl := Option.some.inj H
          exact absurd HTRUE.out (by decide)
      · rw [if_neg c10] at H
        have c10b0 : (t220 == t222) = false := beq_eq_false_iff_ne.mpr c10
        have c10b1 : (t220 != t222) = true := bne_iff_ne.mpr c10
        obtain rfl := Option.some.inj H
        exact absurd HTRUE.out (by decide)
    · rw [if_neg c9] at H
      have c9b0 : (t219.toList == t221.toList) = false := beq_eq_false_iff_ne.mpr c9
      have c9b1 : (t219.toList != t221.toList) = true := bne_iff_ne.mpr c9
      obtain rfl := Option.some.inj H
      exact absurd HTRUE.out (by decide)

end Go.Proofs.YtghaocjhmambaaaDoor.PR
