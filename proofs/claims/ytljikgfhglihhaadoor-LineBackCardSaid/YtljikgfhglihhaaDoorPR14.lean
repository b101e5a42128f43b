-- Out of the translation, by a program of this session: each function that a law comes to as a Lean function, and that the machine's call does what it says. Lean checks it.
import Derived.Test.YtljikgfhglihhaaDoorPR0
import Derived.Test.YtljikgfhglihhaaDoorPR4
import Derived.Test.YtljikgfhglihhaaDoorPR5
import Derived.Test.YtljikgfhglihhaaDoorPR13
namespace Go.Proofs.YtljikgfhglihhaaDoor.PR
open Go.RowKit Go.Proofs.YtljikgfhglihhaaDoorW.PrintWords Go.Proofs.YtljikgfhglihhaaDoorW.PrintLast Go.Proofs.YtljikgfhglihhaaDoorW.PrintMore
attribute [local go_sem] max2_int min2_int max_two min_two max_three min_three max_four min_four   -- for this text's walks alone
set_option linter.unusedVariables false
set_option linter.unusedSimpArgs false

/-! ### depotlaw10_LineWrites: function 4 -/
def depotlaw10_LineWrites.j0 : Nat → ByteArray → ByteArray → Int → Int → Bool → Option (Bool)
  | 0, _, _, _, _, _ => none
  | k + 1, x0, x1, x2, x3, x16 => if x16 = true then ((depotlaw10_lines.f k).bind fun t204 => (some t204)) else ((line_PrintRequest.f x0 x1 x3).bind fun t205 => ((depotref10_PrintRequest.f k x0 x1 x3).bind fun t206 => (if t205.toList = t206.toList then ((line_PrintStatus.f x2 x1 x3).bind fun t207 => ((depotref10_PrintStatus.f k x2 x1 x3).bind fun t208 => (if t207.toList = t208.toList then ((line_Safe.f x0).bind fun t209 => ((depotref10_Safe.f x0).bind fun t210 => (if (t209 == t210) = true then ((line_Usual.f x2).bind fun t211 => ((depotref10_Usual.f x2).bind fun t212 => (if t211.toList = t212.toList then ((depotlaw10_lines.f k).bind fun t213 => (some t213)) else (some false)))) else (some false)))) else (some false)))) else (some false))))
def depotlaw10_LineWrites.f (k : Nat) (a0 : ByteArray) (a1 : ByteArray) (a2 : Int) (a3 : Int) : Option (Bool) := if (a0.size : Int) > 1000 then (depotlaw10_LineWrites.j0 k a0 a1 a2 a3 true) else (depotlaw10_LineWrites.j0 k a0 a1 a2 a3 (decide ((a1.size : Int) > 1000)))
theorem depotlaw10_LineWrites.mono_l : ∀ k, (∀ y0 y1 y2 y3 y4, LeO (depotlaw10_LineWrites.j0 k y0 y1 y2 y3 y4) (depotlaw10_LineWrites.j0 (k + 1) y0 y1 y2 y3 y4))
  | 0 => fun _ _ _ _ _ r h => by simp [depotlaw10_LineWrites.j0] at h
  | k + 1 => by
    have ih0 := depotlaw10_LineWrites.mono_l k
    · intro y0 y1 y2 y3 y4
      unfold depotlaw10_LineWrites.j0
      repeat' first
      | (with_reducible exact ih0 _ _ _ _ _)
      | (with_reducible exact depotlaw10_lines.mono _)
      | (with_reducible exact depotref10_PrintRequest.mono _ _ _ _)
      | (with_reducible exact depotref10_PrintStatus.mono _ _ _ _)
      | (with_reducible exact LeO.refl _)
      | (with_reducible exact LeO.none _)
      | (with_reducible refine LeO.ite ?_ ?_)
      | (with_reducible refine LeO.bind ?_ (fun _ => ?_))
      | exact ih0 _ _ _ _ _
      | exact depotlaw10_lines.mono _
      | exact depotref10_PrintRequest.mono _ _ _ _
      | exact depotref10_PrintStatus.mono _ _ _ _
      | exact LeO.none _
      | refine LeO.ite ?_ ?_
      | refine LeO.bind ?_ (fun _ => ?_)
theorem depotlaw10_LineWrites.mono : ∀ a0 a1 a2 a3 k, LeO (depotlaw10_LineWrites.f k a0 a1 a2 a3) (depotlaw10_LineWrites.f (k + 1) a0 a1 a2 a3) := by
  intro a0 a1 a2 a3 k
  have ih0 := depotlaw10_LineWrites.mono_l k
  unfold depotlaw10_LineWrites.f
  repeat' first
      | (with_reducible exact ih0 _ _ _ _ _)
      | (with_reducible exact depotlaw10_lines.mono _)
      | (with_reducible exact depotref10_PrintRequest.mono _ _ _ _)
      | (with_reducible exact depotref10_PrintStatus.mono _ _ _ _)
      | (with_reducible exact LeO.refl _)
      | (with_reducible exact LeO.none _)
      | (with_reducible refine LeO.ite ?_ ?_)
      | (with_reducible refine LeO.bind ?_ (fun _ => ?_))
      | exact ih0 _ _ _ _ _
      | exact depotlaw10_lines.mono _
      | exact depotref10_PrintRequest.mono _ _ _ _
      | exact depotref10_PrintStatus.mono _ _ _ _
      | exact LeO.none _
      | refine LeO.ite ?_ ?_
      | refine LeO.bind ?_ (fun _ => ?_)
set_option maxHeartbeats 8000000 in
set_option maxRecDepth 100000 in
theorem depotlaw10_LineWrites.calls (k : Nat) (a0 : ByteArray) (a1 : ByteArray) (a2 : Int) (a3 : Int) (r : Bool) (w : World) (HTRUE : Aside0 (r = true)) (HT : Aside0 (Hand.Laid w)) (h : depotlaw10_LineWrites.f k a0 a1 a2 a3 = some r) :
    Calls Tryd.prog 4 #[.string a0, .string a1, .int .i64 a2, .int .i64 a3] w fun e w' => e = .returned (.bool r) ∧ Below w.heap.size w w' := by
  have HB := Aside0.mk (Below.refl w.heap.size w)
  have H : (if (a0.size : Int) > 1000 then (depotlaw10_LineWrites.j0 k a0 a1 a2 a3 true) else (depotlaw10_LineWrites.j0 k a0 a1 a2 a3 (decide ((a1.size : Int) > 1000)))) = some r := h
  clear h
  have HC5 := Aside0.mk H
  clear H
  go_enter Tryd.func4, Tryd.ntmps4
  go_upto_region 1 with (fail)
  go_cut [16] (fun v16 wc => ∃ (kq : Nat) (x16_4 : Bool), v16 = .bool x16_4 ∧ Aside0 (depotlaw10_LineWrites.j0 kq a0 a1 a2 a3 x16_4 = some r) ∧ Aside0 (kq ≤ k) ∧ Aside0 (Below w.heap.size w wc))
  case first =>
    have H := HC5.out
    clear HC5
    by_cases c6 : (a0.size : Int) > 1000
    · rw [if_pos c6] at H
      have c6b0 : decide (1000 < (a0.size : Int)) = true := decide_eq_true c6
      have c6b1 : decide (1000 < a0.size) = true := decide_eq_true (by omega)
      clear c6
      (first | rw [c6b0] | (simp only [i64_w, i32_w]; rw [c6b0]) | skip)
      have H' := Aside0.mk H
      clear H
      go_wp2
      go_meet
      case rel => exact ⟨_, (true), (by first | rfl | (simp; done) | (simp [*]; done) | (simp; exact Hand.isEmpty_ne _)), H', ⟨by first | omega | exact Nat.le_refl _⟩, ⟨by repeat (first | (with_reducible first | exact HB.out | apply below_alloc | apply pw_below_drewN | apply below_drew1) | exact HB.out)⟩⟩
    · rw [if_neg c6] at H
      have c6b0 : decide (1000 < (a0.size : Int)) = false := decide_eq_false c6
      have c6b1 : decide (1000 < a0.size) = false := decide_eq_false (by omega)
      clear c6
      (first | rw [c6b0] | (simp only [i64_w, i32_w]; rw [c6b0]) | skip)
      have H' := Aside0.mk H
      clear H
      go_wp2
      go_meet
      case rel => exact ⟨_, (decide ((a1.size : Int) > 1000)), (by first | rfl | (simp; done) | (simp [*]; done) | (simp; exact Hand.isEmpty_ne _)), H', ⟨by first | omega | exact Nat.le_refl _⟩, ⟨by repeat (first | (with_reducible first | exact HB.out | apply below_alloc | apply pw_below_drewN | apply below_drew1) | exact HB.out)⟩⟩
  case rest =>
    clear HC5
    try clear p2
    try clear c4
    try clear c6
    try clear c6b0
    try clear c6b1
    obtain ⟨kq, x16_4, rfl, HA, HJ4, HB⟩ := hcut
    cases kq with
    | zero => exact absurd HA.out (by simp [depotlaw10_LineWrites.j0])
    | succ kj4 =>
      have H := HA.out
      clear HA
      simp only [depotlaw10_LineWrites.j0] at H
      by_cases c7 : x16_4 = true
      · subst c7
        have H1 : ((depotlaw10_lines.f kj4).bind fun t204 => (some t204)) = some r := by rw [if_pos rfl] at H; exact H
        clear H
        have H := H1
        clear H1
        replace H := Option.bind_eq_some_iff.mp H
        obtain ⟨t204, A80, H⟩ := H
        replace H : (some t204) = some r := H
        have A8 := Aside0.mk A80
        clear A80
        obtain rfl := Option.some.inj H
        go_wp2_with (first | ((with_reducible refine gate_callee (f := 6) rfl ?_); refine goesL_ (some 17) rfl rfl Tryd.func6 (by kernel_rfl) rfl #[] rfl (by (try simp only [List.map_toArray, List.map_cons, List.map_nil]); first | done | rfl | (simp only [List.length_drop, List.length_take]; rfl)) ?_; (with_reducible refine (depotlaw10_lines.calls kj4  t204 _ ?side2 ?side1 A8.out).mono ?_); (case side1 => first | exact HT | exact ⟨Hand.Laid.below HT.out (by repeat (first | (with_reducible first | exact HB.out | apply below_alloc | apply pw_below_drewN | apply below_drew1) | exact HB.out))⟩); (case side2 => first | exact ⟨rfl⟩ | exact HTRUE); rintro e w9 ⟨rfl, hb⟩; refine ⟨_, rfl, ?_⟩; have n0_ := Aside0.mk (below_step (by repeat (first | (with_reducible first | exact HB.out | apply below_alloc | apply pw_below_drewN | apply below_drew1) | exact HB.out)) hb); clear HB; have HB := n0_; clear n0_; (try clear hb); (try clear hb2); (try clear hk); (try clear hi)))
        go_ret
        exact ⟨by first | rfl | (simp [errW_none, errW_some] <;> rfl) | (simp [*, errW_none, errW_some] <;> rfl), by repeat (first | (with_reducible first | exact HB.out | apply below_alloc | apply pw_below_drewN | apply below_drew1) | exact HB.out)⟩
      · replace c7 := Bool.eq_false_iff.mpr c7
        subst c7
        have H1 : ((line_PrintRequest.f a0 a1 a3).bind fun t205 => ((depotref10_PrintRequest.f kj4 a0 a1 a3).bind fun t206 => (if t205.toList = t206.toList then ((line_PrintStatus.f a2 a1 a3).bind fun t207 => ((depotref10_PrintStatus.f kj4 a2 a1 a3).bind fun t208 => (if t207.toList = t208.toList then ((line_Safe.f a0).bind fun t209 => ((depotref10_Safe.f a0).bind fun t210 => (if (t209 == t210) = true then ((line_Usual.f a2).bind fun t211 => ((depotref10_Usual.f a2).bind fun t212 => (if t211.toList = t212.toList then ((depotlaw10_lines.f kj4).bind fun t213 => (some t213)) else (some false)))) else (some false)))) else (some false)))) else (some false)))) = some r := by rw [if_neg (show ¬ (false = true) by decide)] at H; exact H
        clear H
        have H := H1
        clear H1
        replace H := Option.bind_eq_some_iff.mp H
        obtain ⟨t205, A100, H⟩ := H
        replace H : ((depotref10_PrintRequest.f kj4 a0 a1 a3).bind fun t206 => (if t205.toList = t206.toList then ((line_PrintStatus.f a2 a1 a3).bind fun t207 => ((depotref10_PrintStatus.f kj4 a2 a1 a3).bind fun t208 => (if t207.toList = t208.toList then ((line_Safe.f a0).bind fun t209 => ((depotref10_Safe.f a0).bind fun t210 => (if (t209 == t210) = true then ((line_Usual.f a2).bind fun t211 => ((depotref10_Usual.f a2).bind fun t212 => (if t211.toList = t212.toList then ((depotlaw10_lines.f kj4).bind fun t213 => (some t213)) else (some false)))) else (some false)))) else (some false)))) else (some false))) = some r := H
        have A10 := Aside0.mk A100
        clear A100
        replace H := Option.bind_eq_some_iff.mp H
        obtain ⟨t206, A110, H⟩ := H
        replace H : (if t205.toList = t206.toList then ((line_PrintStatus.f a2 a1 a3).bind fun t207 => ((depotref10_PrintStatus.f kj4 a2 a1 a3).bind fun t208 => (if t207.toList = t208.toList then ((line_Safe.f a0).bind fun t209 => ((depotref10_Safe.f a0).bind fun t210 => (if (t209 == t210) = true then ((line_Usual.f a2).bind fun t211 => ((depotref10_Usual.f a2).bind fun t212 => (if t211.toList = t212.toList then ((depotlaw10_lines.f kj4).bind fun t213 => (some t213)) else (some false)))) else (some false)))) else (some false)))) else (some false)) = some r := H
        have A11 := Aside0.mk A110
        clear A110
        by_cases c12 : t205.toList = t206.toList
        · rw [if_pos c12] at H
          have c12b0 : (t205.toList == t206.toList) = true := beq_iff_eq.mpr c12
          have c12b1 : (t205.toList != t206.toList) = false := bne_eq_false_iff_eq.mpr c12
          clear c12
          replace H := Option.bind_eq_some_iff.mp H
          obtain ⟨t207, A130, H⟩ := H
          replace H : ((depotref10_PrintStatus.f kj4 a2 a1 a3).bind fun t208 => (if t207.toList = t208.toList then ((line_Safe.f a0).bind fun t209 => ((depotref10_Safe.f a0).bind fun t210 => (if (t209 == t210) = true then ((line_Usual.f a2).bind fun t211 => ((depotref10_Usual.f a2).bind fun t212 => (if t211.toList = t212.toList then ((depotlaw10_lines.f kj4).bind fun t213 => (some t213)) else (some false)))) else (some false)))) else (some false))) = some r := H
          have A13 := Aside0.mk A130
          clear A130
          replace H := Option.bind_eq_some_iff.mp H
          obtain ⟨t208, A140, H⟩ := H
          replace H : (if t207.toList = t208.toList then ((line_Safe.f a0).bind fun t209 => ((depotref10_Safe.f a0).bind fun t210 => (if (t209 == t210) = true then ((line_Usual.f a2).bind fun t211 => ((depotref10_Usual.f a2).bind fun t212 => (if t211.toList = t212.toList then ((depotlaw10_lines.f kj4).bind fun t213 => (some t213)) else (some false)))) else (some false)))) else (some false)) = some r := H
          have A14 := Aside0.mk A140
          clear A140
          by_cases c15 : t207.toList = t208.toList
          · rw [if_pos c15] at H
            have c15b0 : (t207.toList == t208.toList) = true := beq_iff_eq.mpr c15
            have c15b1 : (t207.toList != t208.toList) = false := bne_eq_false_iff_eq.mpr c15
            clear c15
            replace H := Option.bind_eq_some_iff.mp H
            obtain ⟨t209, A160, H⟩ := H
            replace H : ((depotref10_Safe.f a0).bind fun t210 => (if (t209 == t210) = true then ((line_Usual.f a2).bind fun t211 => ((depotref10_Usual.f a2).bind fun t212 => (if t211.toList = t212.toList then ((depotlaw10_lines.f kj4).bind fun t213 => (some t213)) else (some false)))) else (some false))) = some r := H
            have A16 := Aside0.mk A160
            clear A160
            replace H := Option.bind_eq_some_iff.mp H
            obtain ⟨t210, A170, H⟩ := H
            replace H : (if (t209 == t210) = true then ((line_Usual.f a2).bind fun t211 => ((depotref10_Usual.f a2).bind fun t212 => (if t211.toList = t212.toList then ((depotlaw10_lines.f kj4).bind fun t213 => (some t213)) else (some false)))) else (some false)) = some r := H
            have A17 := Aside0.mk A170
            clear A170
            by_cases c18 : (t209 == t210) = true
            · rw [if_pos c18] at H
              have c18b0 : (t209 == t210) = true := c18
              (try (have c18b1 : decide (t209 = t210) = true := by simpa using c18))
              (try (have c18b2 : (t209 == t210) = true := by simpa using c18))
              clear c18
              replace H := Option.bind_eq_some_iff.mp H
              obtain ⟨t211, A190, H⟩ := H
              replace H : ((depotref10_Usual.f a2).bind fun t212 => (if t211.toList = t212.toList then ((depotlaw10_lines.f kj4).bind fun t213 => (some t213)) else (some false))) = some r := H
              have A19 := Aside0.mk A190
              clear A190
              replace H := Option.bind_eq_some_iff.mp H
              obtain ⟨t212, A200, H⟩ := H
              replace H : (if t211.toList = t212.toList then ((depotlaw10_lines.f kj4).bind fun t213 => (some t213)) else (some false)) = some r := H
              have A20 := Aside0.mk A200
              clear A200
              by_cases c21 : t211.toList = t212.toList
              · rw [if_pos c21] at H
                have c21b0 : (t211.toList == t212.toList) = true := beq_iff_eq.mpr c21
                have c21b1 : (t211.toList != t212.toList) = false := bne_eq_false_iff_eq.mpr c21
                clear c21
                replace H := Option.bind_eq_some_iff.mp H
                obtain ⟨t213, A220, H⟩ := H
                replace H : (some t213) = some r := H
                have A22 := Aside0.mk A220
                clear A220
                obtain rfl := Option.some.inj H
                go_wp2_with (first | ((with_reducible refine gate_callee (f := 11) rfl ?_); refine goesL_ (some 21) rfl rfl Tryd.func11 (by kernel_rfl) rfl #[.string a0, .string a1, .int .i64 a3] rfl (by (try simp only [List.map_toArray, List.map_cons, List.map_nil]); first | done | rfl | (simp only [List.length_drop, List.length_take]; rfl)) ?_; (with_reducible refine (line_PrintRequest.calls a0 a1 a3 t205 _ ?side1 A10.out).mono ?_); (case side1 => first | exact HT | exact ⟨Hand.Laid.below HT.out (by repeat (first | (with_reducible first | exact HB.out | apply below_alloc | apply pw_below_drewN | apply below_drew1) | exact HB.out))⟩); rintro e w23 ⟨rfl, hb⟩; refine ⟨_, rfl, ?_⟩; have n0_ := Aside0.mk (below_step (by repeat (first | (with_reducible first | exact HB.out | apply below_alloc | apply pw_below_drewN | apply below_drew1) | exact HB.out)) hb); clear HB; have HB := n0_; clear n0_; (try clear hb); (try clear hb2); (try clear hk); (try clear hi)) | ((with_reducible refine gate_callee (f := 12) rfl ?_); refine goesL_ (some 25) rfl rfl Tryd.func12 (by kernel_rfl) rfl #[.string a0, .string a1, .int .i64 a3] rfl (by (try simp only [List.map_toArray, List.map_cons, List.map_nil]); first | done | rfl | (simp only [List.length_drop, List.length_take]; rfl)) ?_; (with_reducible refine (depotref10_PrintRequest.calls kj4 a0 a1 a3 t206 _ A11.out).mono ?_); rintro e w' ⟨rfl, ⟨nd, rfl⟩⟩; refine ⟨_, rfl, ?_⟩) | (go_at_call 13; (with_reducible refine (line_PrintStatus.calls a2 a1 a3 t207 _ ?side1 A13.out).mono ?_); (case side1 => first | exact HT | exact ⟨Hand.Laid.below HT.out (by repeat (first | (with_reducible first | exact HB.out | apply below_alloc | apply pw_below_drewN | apply below_drew1) | exact HB.out))⟩); rintro e w24 ⟨rfl, hb⟩; have n0_ := Aside0.mk (below_step (by repeat (first | (with_reducible first | exact HB.out | apply below_alloc | apply pw_below_drewN | apply below_drew1) | exact HB.out)) hb); clear HB; have HB := n0_; clear n0_; (try clear hb); (try clear hb2); (try clear hk); (try clear hi)) | (go_at_call 14; (with_reducible refine (depotref10_PrintStatus.calls kj4 a2 a1 a3 t208 _ A14.out).mono ?_); rintro e w' ⟨rfl, ⟨nd, rfl⟩⟩) | (go_at_call 15; (with_reducible refine (line_Safe.calls a0 t209 _ A16.out).mono ?_); rintro e w' ⟨rfl, ⟨nd, rfl⟩⟩) | (go_at_call 16; (with_reducible refine (depotref10_Safe.calls a0 t210 _ A17.out).mono ?_); rintro e w' ⟨rfl, ⟨nd, rfl⟩⟩) | (go_at_call 17; (with_reducible refine (line_Usual.calls a2 t211 _ ?side1 A19.out).mono ?_); (case side1 => first | exact HT | exact ⟨Hand.Laid.below HT.out (by repeat (first | (with_reducible first | exact HB.out | apply below_alloc | apply pw_below_drewN | apply below_drew1) | exact HB.out))⟩); rintro e w25 ⟨rfl, hb⟩; have n0_ := Aside0.mk (below_step (by repeat (first | (with_reducible first | exact HB.out | apply below_alloc | apply pw_below_drewN | apply below_drew1) | exact HB.out)) hb); clear HB; have HB := n0_; clear n0_; (try clear hb); (try clear hb2); (try clear hk); (try clear hi)) | (go_at_call 18; (with_reducible refine (depotref10_Usual.calls a2 t212 _ A20.out).mono ?_); rintro e w' ⟨rfl, ⟨nd, rfl⟩⟩) | (go_at_call 6; (with_reducible refine (depotlaw10_lines.calls kj4  t213 _ ?side2 ?side1 A22.out).mono ?_); (case side1 => first | exact HT | exact ⟨Hand.Laid.below HT.out (by repeat (first | (with_reducible first | exact HB.out | apply below_alloc | apply pw_below_drewN | apply below_drew1) | exact HB.out))⟩); (case side2 => first | exact ⟨rfl⟩ | exact HTRUE); rintro e w26 ⟨rfl, hb⟩; have n0_ := Aside0.mk (below_step (by repeat (first | (with_reducible first | exact HB.out | apply below_alloc | apply pw_below_drewN | apply below_drew1) | exact HB.out)) hb); clear HB; have HB := n0_; clear n0_; (try clear hb); (try clear hb2); (try clear hk); (try clear hi)))
                go_ret
                exact ⟨by first | rfl | (simp [errW_none, errW_some] <;> rfl) | (simp [*, errW_none, errW_some] <;> rfl), by repeat (first | (with_reducible first | exact HB.out | apply below_alloc | apply pw_below_drewN | apply below_drew1) | exact HB.out)⟩
              · rw [if_neg c21] at H
                have c21b0 : (t211.toList == t212.toList) = false := beq_eq_false_iff_ne.mpr c21
                have c21b1 : (t211.toList != t212.toList) = true := bne_iff_ne.mpr c21
                obtain rfl := Option.some.inj H
                exact absurd HTRUE.out (by decide)
            · rw [if_neg c18] at H
              have c18b0 : (t209 == t210) = false := by simpa using c18
              (try (have c18b1 : decide (t209 = t210) = false := by simpa using c18))
              (try (have c18b2 : (t209 == t210) = false := by simpa using c18))
              (try (have c18b3 : ¬ (t209 = t210) := by simpa using c18))
              clear c18
              obtain rfl := Option.some.inj H
              exact absurd HTRUE.out (by decide)
          · rw [if_neg c15] at H
            have c15b0 : (t207.toList == t208.toList) = false := beq_eq_false_iff_ne.mpr c15
            have c15b1 : (t207.toList != t208.toList) = true := bne_iff_ne.mpr c15
            obtain rfl := Option.some.inj H
            exact absurd HTRUE.out (by decide)
        · rw [if_neg c12] at H
          have c12b0 : (t205.toList == t206.toList) = false := beq_eq_false_iff_ne.mpr c12
          have c12b1 : (t205.toList != t206.toList) = true := bne_iff_ne.mpr c12
          obtain rfl := Option.some.inj H
          exact absurd HTRUE.out (by decide)

end Go.Proofs.YtljikgfhglihhaaDoor.PR
