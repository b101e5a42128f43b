-- Out of the translation, by a program of this session: each function that a law comes to as a Lean function, and that the machine's call does what it says. Lean checks it.
import Derived.Test.YtghaocjhmambaaaDoorPR0
import Derived.Test.YtghaocjhmambaaaDoorPR2
namespace Go.Proofs.YtghaocjhmambaaaDoor.PR
open Go.RowKit Go.Proofs.YtghaocjhmambaaaDoorW.PrintWords Go.Proofs.YtghaocjhmambaaaDoorW.PrintLast Go.Proofs.YtghaocjhmambaaaDoorW.PrintMore
attribute [local go_sem] max2_int min2_int max_two min_two max_three min_three max_four min_four   -- for this text's walks alone
set_option linter.unusedVariables false
set_option linter.unusedSimpArgs false

/-! ### target_undotted: function 25 -/
mutual
def target_undotted.l0 : Nat → List ByteArray → List ByteArray → List ByteArray → Int → Int → Option (ByteArray)
  | 0, _, _, _, _, _ => none
  | k + 1, x3, x4, x11, x12, x13 => if x13 < x12 then (if 0 ≤ x13 then (if x13 < (x11.length : Int) then (if (rdOf ByteArray.empty x11 x13).toList = ([46, 46] : List UInt8) then (target_undotted.j1 k x3 x4 (rdOf ByteArray.empty x11 x13) (x13 == (wrap64 ((x3.length : Int) - 1))) x11 x12 x13 (decide ((x4.length : Int) > 0))) else (target_undotted.j1 k x3 x4 (rdOf ByteArray.empty x11 x13) (x13 == (wrap64 ((x3.length : Int) - 1))) x11 x12 x13 false)) else (none)) else (none)) else ((strings_Join.f x4 (⟨#[47]⟩ : ByteArray)).bind fun t109 => (if 1 + t109.size ≤ 9223372036854775807 then (some ((⟨#[47]⟩ : ByteArray) ++ t109)) else (none)))
def target_undotted.j1 : Nat → List ByteArray → List ByteArray → ByteArray → Bool → List ByteArray → Int → Int → Bool → Option (ByteArray)
  | 0, _, _, _, _, _, _, _, _ => none
  | k + 1, x3, x4, x6, x7, x11, x12, x13, x23 => if x23 = true then (if 0 ≤ (wrap64 ((x4.length : Int) - 1)) then (if (wrap64 ((x4.length : Int) - 1)) ≤ (x4.length : Int) then ((some (x4.take ((wrap64 ((x4.length : Int) - 1)) : Int).toNat : List ByteArray)).bind fun y111 => (if x7 = true then (if x6.toList = ([46] : List UInt8) then (if y111.length < 8796093022208 then (target_undotted.l0 k x3 (y111 ++ [(⟨#[]⟩ : ByteArray)]) x11 x12 (wrap64 (x13 + 1))) else (none)) else (if x6.toList = ([46, 46] : List UInt8) then (if y111.length < 8796093022208 then (target_undotted.l0 k x3 (y111 ++ [(⟨#[]⟩ : ByteArray)]) x11 x12 (wrap64 (x13 + 1))) else (none)) else (target_undotted.l0 k x3 y111 x11 x12 (wrap64 (x13 + 1))))) else (target_undotted.l0 k x3 y111 x11 x12 (wrap64 (x13 + 1))))) else (none)) else (none)) else (if x6.toList = ([46] : List UInt8) then (target_undotted.j2 k x3 x4 x6 x7 x11 x12 x13 false) else (target_undotted.j2 k x3 x4 x6 x7 x11 x12 x13 (x6.toList != ([46, 46] : List UInt8))))
def target_undotted.j2 : Nat → List ByteArray → List ByteArray → ByteArray → Bool → List ByteArray → Int → Int → Bool → Option (ByteArray)
  | 0, _, _, _, _, _, _, _, _ => none
  | k + 1, x3, x4, x6, x7, x11, x12, x13, x36 => if x36 = true then (if x4.length < 8796093022208 then ((some (x4 ++ [x6] : List ByteArray)).bind fun y120 => (if x7 = true then (if x6.toList = ([46] : List UInt8) then (if y120.length < 8796093022208 then (target_undotted.l0 k x3 (y120 ++ [(⟨#[]⟩ : ByteArray)]) x11 x12 (wrap64 (x13 + 1))) else (none)) else (if x6.toList = ([46, 46] : List UInt8) then (if y120.length < 8796093022208 then (target_undotted.l0 k x3 (y120 ++ [(⟨#[]⟩ : ByteArray)]) x11 x12 (wrap64 (x13 + 1))) else (none)) else (target_undotted.l0 k x3 y120 x11 x12 (wrap64 (x13 + 1))))) else (target_undotted.l0 k x3 y120 x11 x12 (wrap64 (x13 + 1))))) else (none)) else (if x7 = true then (if x6.toList = ([46] : List UInt8) then (if x4.length < 8796093022208 then (target_undotted.l0 k x3 (x4 ++ [(⟨#[]⟩ : ByteArray)]) x11 x12 (wrap64 (x13 + 1))) else (none)) else (if x6.toList = ([46, 46] : List UInt8) then (if x4.length < 8796093022208 then (target_undotted.l0 k x3 (x4 ++ [(⟨#[]⟩ : ByteArray)]) x11 x12 (wrap64 (x13 + 1))) else (none)) else (target_undotted.l0 k x3 x4 x11 x12 (wrap64 (x13 + 1))))) else (target_undotted.l0 k x3 x4 x11 x12 (wrap64 (x13 + 1))))
end
def target_undotted.f (k : Nat) (a0 : ByteArray) : Option (ByteArray) := (strings_Split.f a0 (⟨#[47]⟩ : ByteArray)).bind fun t102 => (if 1 ≤ (t102.length : Int) then ((some (t102.drop 1 : List ByteArray)).bind fun y105 => (target_undotted.l0 k y105 ([] : List ByteArray) y105 (y105.length : Int) 0)) else (none))
theorem target_undotted.mono_l : ∀ k, (∀ y0 y1 y2 y3 y4, LeO (target_undotted.l0 k y0 y1 y2 y3 y4) (target_undotted.l0 (k + 1) y0 y1 y2 y3 y4)) ∧ (∀ y0 y1 y2 y3 y4 y5 y6 y7, LeO (target_undotted.j1 k y0 y1 y2 y3 y4 y5 y6 y7) (target_undotted.j1 (k + 1) y0 y1 y2 y3 y4 y5 y6 y7)) ∧ (∀ y0 y1 y2 y3 y4 y5 y6 y7, LeO (target_undotted.j2 k y0 y1 y2 y3 y4 y5 y6 y7) (target_undotted.j2 (k + 1) y0 y1 y2 y3 y4 y5 y6 y7))
  | 0 => ⟨fun _ _ _ _ _ r h => by simp [target_undotted.l0] at h, fun _ _ _ _ _ _ _ _ r h => by simp [target_undotted.j1] at h, fun _ _ _ _ _ _ _ _ r h => by simp [target_undotted.j2] at h⟩
  | k + 1 => by
    obtain ⟨ih0, ih1, ih2⟩ := target_undotted.mono_l k
    refine ⟨?_, ?_, ?_⟩
    · intro y0 y1 y2 y3 y4
      unfold target_undotted.l0
      repeat' first
      | (with_reducible exact ih0 _ _ _ _ _)
      | (with_reducible exact ih1 _ _ _ _ _ _ _ _)
      | (with_reducible exact ih2 _ _ _ _ _ _ _ _)
      | (with_reducible exact LeO.refl _)
      | (with_reducible exact LeO.none _)
      | (with_reducible refine LeO.ite ?_ ?_)
      | (with_reducible refine LeO.bind ?_ (fun _ => ?_))
      | exact ih0 _ _ _ _ _
      | exact ih1 _ _ _ _ _ _ _ _
      | exact ih2 _ _ _ _ _ _ _ _
      | exact LeO.none _
      | refine LeO.ite ?_ ?_
      | refine LeO.bind ?_ (fun _ => ?_)
    · intro y0 y1 y2 y3 y4 y5 y6 y7
      unfold target_undotted.j1
      repeat' first
      | (with_reducible exact ih0 _ _ _ _ _)
      | (with_reducible exact ih1 _ _ _ _ _ _ _ _)
      | (with_reducible exact ih2 _ _ _ _ _ _ _ _)
      | (with_reducible exact LeO.refl _)
      | (with_reducible exact LeO.none _)
      | (with_reducible refine LeO.ite ?_ ?_)
      | (with_reducible refine LeO.bind ?_ (fun _ => ?_))
      | exact ih0 _ _ _ _ _
      | exact ih1 _ _ _ _ _ _ _ _
      | exact ih2 _ _ _ _ _ _ _ _
      | exact LeO.none _
      | refine LeO.ite ?_ ?_
      | refine LeO.bind ?_ (fun _ => ?_)
    · intro y0 y1 y2 y3 y4 y5 y6 y7
      unfold target_undotted.j2
      repeat' first
      | (with_reducible exact ih0 _ _ _ _ _)
      | (with_reducible exact ih1 _ _ _ _ _ _ _ _)
      | (with_reducible exact ih2 _ _ _ _ _ _ _ _)
      | (with_reducible exact LeO.refl _)
      | (with_reducible exact LeO.none _)
      | (with_reducible refine LeO.ite ?_ ?_)
      | (with_reducible refine LeO.bind ?_ (fun _ => ?_))
      | exact ih0 _ _ _ _ _
      | exact ih1 _ _ _ _ _ _ _ _
      | exact ih2 _ _ _ _ _ _ _ _
      | exact LeO.none _
      | refine LeO.ite ?_ ?_
      | refine LeO.bind ?_ (fun _ => ?_)
theorem target_undotted.mono : ∀ a0 k, LeO (target_undotted.f k a0) (target_undotted.f (k + 1) a0) := by
  intro a0 k
  obtain ⟨ih0, ih1, ih2⟩ := target_undotted.mono_l k
  unfold target_undotted.f
  repeat' first
      | (with_reducible exact ih0 _ _ _ _ _)
      | (with_reducible exact ih1 _ _ _ _ _ _ _ _)
      | (with_reducible exact ih2 _ _ _ _ _ _ _ _)
      | (with_reducible exact LeO.refl _)
      | (with_reducible exact LeO.none _)
      | (with_reducible refine LeO.ite ?_ ?_)
      | (with_reducible refine LeO.bind ?_ (fun _ => ?_))
      | exact ih0 _ _ _ _ _
      | exact ih1 _ _ _ _ _ _ _ _
      | exact ih2 _ _ _ _ _ _ _ _
      | exact LeO.none _
      | refine LeO.ite ?_ ?_
      | refine LeO.bind ?_ (fun _ => ?_)
set_option maxHeartbeats 8000000 in
set_option maxRecDepth 100000 in
theorem target_undotted.calls (k : Nat) (a0 : ByteArray) (r : ByteArray) (w : World) (HT : Aside0 (Hand.Laid w)) (h : target_undotted.f k a0 = some r) :
    Calls Tryd.prog 25 #[.string a0] w fun e w' => e = .returned (.string r) ∧ Below w.heap.size w w' := by
  have HB := Aside0.mk (Below.refl w.heap.size w)
  have H : ((strings_Split.f a0 (⟨#[47]⟩ : ByteArray)).bind fun t102 => (if 1 ≤ (t102.length : Int) then ((some (t102.drop 1 : List ByteArray)).bind fun y105 => (target_undotted.l0 k y105 ([] : List ByteArray) y105 (y105.length : Int) 0)) else (none))) = some r := h
  clear h
  replace H := Option.bind_eq_some_iff.mp H
  obtain ⟨t102, A20, H⟩ := H
  replace H : (if 1 ≤ (t102.length : Int) then ((some (t102.drop 1 : List ByteArray)).bind fun y105 => (target_undotted.l0 k y105 ([] : List ByteArray) y105 (y105.length : Int) 0)) else (none)) = some r := H
  have A2 := Aside0.mk A20
  clear A20
  by_cases c3 : 1 ≤ (t102.length : Int)
  · rw [if_pos c3] at H
    have c3b0 := eq_true c3
    have c3b1 : decide (1 ≤ (t102.length : Int)) = true := decide_eq_true c3
    clear c3
    obtain ⟨y105, hy105⟩ : ∃ y_ : List ByteArray, y_ = (t102.drop 1) := ⟨_, rfl⟩
    replace H : (target_undotted.l0 k y105 ([] : List ByteArray) y105 (y105.length : Int) 0) = some r := by first | (rw [hy105]; with_reducible exact H) | (have H2_ := (Option.bind_some _ _).symm.trans H; rw [hy105]; with_reducible exact H2_) | (have H2_ := (Option.bind_some _ _).symm.trans H; with_reducible exact H2_) | with_reducible exact H | (rw [hy105]; exact H) | exact H
    have Ny105 := Aside0.mk hy105
    clear hy105
    have H' := Aside0.mk H
    clear H
    go_enter Tryd.func25, Tryd.ntmps25
    go_wp2_with (first | ((with_reducible refine gate_callee (f := 47) rfl ?_); refine goesL_ (some 9) rfl rfl Tryd.func47 (by kernel_rfl) rfl #[.string a0, .string (⟨#[47]⟩ : ByteArray)] rfl (by (try simp only [List.map_toArray, List.map_cons, List.map_nil]); first | done | rfl | (simp only [List.length_drop, List.length_take]; rfl)) ?_; (with_reducible refine (strings_Split.calls a0 (⟨#[47]⟩ : ByteArray) t102 _ ?side1 A2.out).mono ?_); (case side1 => first | exact HT | exact ⟨Hand.Laid.below HT.out (by repeat (first | (with_reducible first | exact HB.out | apply below_alloc | apply pw_below_drewN | apply below_drew1) | exact HB.out))⟩); rintro e w4 ⟨v103, rfl, ho0, hb⟩; refine ⟨_, rfl, ?_⟩; have n0_ := Aside0.mk (Kd.R_lower ho0 (below_size (by repeat (first | (with_reducible first | exact HB.out | apply below_alloc | apply pw_below_drewN | apply below_drew1) | exact HB.out)))); have n1_ := Aside0.mk (below_step (by repeat (first | (with_reducible first | exact HB.out | apply below_alloc | apply pw_below_drewN | apply below_drew1) | exact HB.out)) hb); clear HB; have HO104 := n0_; have HB := n1_; clear n0_ n1_; (try clear hb); (try clear hb2); (try clear hk); (try clear hi); (try clear ho0); obtain ⟨Ao6, co6, eo6⟩ := Kd.R_slice HO104.out; subst eo6; have q5 : (1 : Int) ≤ ((t102.length : Int) : Int) := of_decide_eq_true (by first | (with_reducible assumption) | assumption); obtain ⟨i05, hi05, _, hsz5, _⟩ := info_parts info9; have hroom5 : t102.length ≤ co6 := (Kd.R_reads' HO104.out).2.1; have hC5 : Kd.C Kd.string _ Ao6 t102.length t102 := (Kd.R_reads' HO104.out).2.2; have hcut5 := cut_from (P := Tryd.prog) 74 9 .i64 Tryd.underlying74 hi05 1 hsz5 Ao6 t102.length co6 1 (by omega) q5; have hr5 := Kd.C_drop (m := (1 : Int).toNat) (c := co6) hC5 (by omega) hroom5; obtain ⟨A5, hA5⟩ : ∃ A1, A1 = (if co6 = (1 : Int).toNat then Ao6 else (Ao6 : Option Addr).map (·.add ((1 : Int).toNat * 1))) := ⟨_, rfl⟩; obtain ⟨c5, hc5⟩ : ∃ c1, c1 = co6 - (1 : Int).toNat := ⟨_, rfl⟩; have hy5 : y105.length = t102.length - (1 : Int).toNat := (by rw [Ny105.out, List.length_drop] <;> omega); rw [show (t102).drop (1 : Int).toNat = y105 from Ny105.out.symm] at hr5; replace hr5 : Kd.C Kd.string _ A5 y105.length y105 := (by rw [hA5]; exact hr5); rw [← hy5, ← hA5, ← hc5] at hcut5; have HR108 := Aside0.mk hr5; have HC108 := Aside0.mk (show y105.length ≤ c5 from by rw [hy5, hc5]; exact Nat.sub_le_sub_right hroom5 _); clear hr5 hC5 hroom5 hi05 hsz5 hc5; have KY5 := Aside0.mk hy5; have KA5 := Aside0.mk hA5; clear hy5 hA5; have KL5 := Aside0.mk (show 1 ≤ t102.length from by omega); replace q5 := eq_true q5))
    have HBw := HB
    clear HB
    have HB := Aside0.mk (Below.refl w4.heap.size w4)
    go_loopg [4, 13] k (fun kq v4 v13 w' => ∃ (x4_1 : List ByteArray) (x13_1 : Int), v13 = .int .i64 x13_1 ∧ Aside0 (target_undotted.l0 kq y105 x4_1 y105 (y105.length : Int) x13_1 = some r) ∧ Aside0 (kq ≤ k) ∧ Aside0 (Kd.R Kd.string 9 w' w4.heap.size (fun _ => True) v4 x4_1) ∧ Aside0 (Below w4.heap.size w4 w'))
    case atStart => exact ⟨(([] : List ByteArray)), (0), (by first | rfl | (simp; done) | (simp [*]; done) | (simp; exact Hand.isEmpty_ne _)), H', ⟨Nat.le_refl _⟩, ⟨by first | exact Kd.R_nil _ _ _ _ _ | exact Kd.N_nil _ _ _ _ _ | exact Kd.V_nil _ _ _ _ _ | exact Kd.Q_nil _ _ _ _ _ | exact Kd.S_nil _ _ _ _ _⟩, ⟨by repeat (first | (with_reducible first | exact HB.out | apply below_alloc | apply pw_below_drewN | apply below_drew1) | exact HB.out)⟩⟩
    case round =>
      clear H'
      try clear c1
      try clear c2
      try clear p2
      try clear c3
      try clear c3b0
      try clear c3b1
      try clear c4
      try clear c5
      try clear q5
      try clear q5
      obtain ⟨x4_1, x13_1, rfl, HA, HK1, HO_4, HB⟩ := hrel
      cases gk with
      | zero => exact absurd HA.out (by simp [target_undotted.l0])
      | succ k1 =>
        have H := HA.out
        clear HA
        simp only [target_undotted.l0] at H
        by_cases c7 : x13_1 < (y105.length : Int)
        · rw [if_pos c7] at H
          have c7b0 : decide (x13_1 < (y105.length : Int)) = true := decide_eq_true c7
          clear c7
          by_cases c8 : 0 ≤ x13_1
          · rw [if_pos c8] at H
            have c8b0 : decide (0 ≤ x13_1) = true := decide_eq_true c8
            clear c8
            by_cases c9 : x13_1 < (y105.length : Int)
            · rw [if_pos c9] at H
              have c9b0 : decide (x13_1 < (y105.length : Int)) = true := decide_eq_true c9
              clear c9
              have HC10 := Aside0.mk H
              clear H
              have p110 : 0 ≤ (x13_1 : Int) := of_decide_eq_true (by first | (with_reducible assumption) | assumption)
              have q110 : x13_1 < (y105.length : Int) := of_decide_eq_true (by first | (with_reducible assumption) | assumption)
              obtain ⟨ad110, e110, hx110_0⟩ := Kd.at_string HR108.out x13_1 p110 q110
              cases e110
              replace hx110_0 := (HB.out.cell (World.block_lt_of_cell? w4 _ hx110_0)).trans hx110_0
              replace p110 := eq_true p110
              replace q110 := eq_true q110
              go_upto_region 7 with (fail)
              go_cut [23] (fun v23 wc => ∃ (kq : Nat) (x23_9 : Bool), v23 = .bool x23_9 ∧ Aside0 (target_undotted.j1 kq y105 x4_1 (rdOf ByteArray.empty y105 x13_1) (x13_1 == (wrap64 ((y105.length : Int) - 1))) y105 (y105.length : Int) x13_1 x23_9 = some r) ∧ Aside0 (kq ≤ k1) ∧ Aside0 (Kd.R Kd.string 9 wc w4.heap.size (fun _ => True) u4 x4_1) ∧ Aside0 (Below w4.heap.size w4 wc))
              case first => as_aux_lemma =>
                have H := HC10.out
                clear HC10
                by_cases c11 : (rdOf ByteArray.empty y105 x13_1).toList = ([46, 46] : List UInt8)
                · rw [if_pos c11] at H
                  have c11b0 : ((rdOf ByteArray.empty y105 x13_1).toList == ([46, 46] : List UInt8)) = true := beq_iff_eq.mpr c11
                  have c11b1 : ((rdOf ByteArray.empty y105 x13_1).toList != ([46, 46] : List UInt8)) = false := bne_eq_false_iff_eq.mpr c11
                  clear c11
                  (first | rw [c11b0] | (simp only [i64_w, i32_w]; rw [c11b0]) | skip)
                  have H' := Aside0.mk H
                  clear H
                  obtain ⟨Ao12, co12, eo12⟩ := Kd.R_slice HO_4.out
                  subst eo12
                  go_wp2
                  go_meet
                  case rel => exact ⟨_, (decide ((x4_1.length : Int) > 0)), (by first | rfl | (simp; done) | (simp [*]; done) | (simp; exact Hand.isEmpty_ne _)), H', ⟨by have := HK1.out; first | omega | exact Nat.le_refl _⟩, ⟨by (with_reducible repeat (first | apply Kd.R_alloc | apply Kd.R_drewN | apply Kd.R_drew)); exact HO_4.out⟩, ⟨by repeat (first | (with_reducible first | exact HB.out | apply below_alloc | apply pw_below_drewN | apply below_drew1) | exact HB.out)⟩⟩
                · rw [if_neg c11] at H
                  have c11b0 : ((rdOf ByteArray.empty y105 x13_1).toList == ([46, 46] : List UInt8)) = false := beq_eq_false_iff_ne.mpr c11
                  have c11b1 : ((rdOf ByteArray.empty y105 x13_1).toList != ([46, 46] : List UInt8)) = true := bne_iff_ne.mpr c11
                  (first | rw [c11b0] | (simp only [i64_w, i32_w]; rw [c11b0]) | skip)
                  have H' := Aside0.mk H
                  clear H
                  go_wp2
                  go_meet
                  case rel => exact ⟨_, (false), (by first | rfl | (simp; done) | (simp [*]; done) | (simp; exact Hand.isEmpty_ne _)), H', ⟨by have := HK1.out; first | omega | exact Nat.le_refl _⟩, ⟨by (with_reducible repeat (first | apply Kd.R_alloc | apply Kd.R_drewN | apply Kd.R_drew)); exact HO_4.out⟩, ⟨by repeat (first | (with_reducible first | exact HB.out | apply below_alloc | apply pw_below_drewN | apply below_drew1) | exact HB.out)⟩⟩
              case rest => as_aux_lemma =>
                clear HC10
                try clear c1
                try clear p1
                try clear q1
                try clear hx1
                try clear c2
                try clear p2
                try clear c3
                try clear c3b0
                try clear c3b1
                try clear c4
                try clear c5
                try clear q5
                try clear p6
                try clear c7
                try clear c7b0
                try clear c8
                try clear c8b0
                try clear c9
                try clear c9b0
                try clear c11
                try clear c11b0
                try clear c11b1
                try clear p11
                try clear q11
                try clear hx11
                try clear hx110_0
                try clear p110
                try clear p2
                try clear q110
                try clear q5
                obtain ⟨kq, x23_9, rfl, HA, HJ9, HO_4, HB⟩ := hcut
                cases kq with
                | zero => exact absurd HA.out (by simp [target_undotted.j1])
                | succ kj9 =>
                  have H := HA.out
                  clear HA
                  simp only [target_undotted.j1] at H
                  by_cases c13 : x23_9 = true
                  · subst c13
                    have H1 : (if 0 ≤ (wrap64 ((x4_1.length : Int) - 1)) then (if (wrap64 ((x4_1.length : Int) - 1)) ≤ (x4_1.length : Int) then ((some (x4_1.take ((wrap64 ((x4_1.length : Int) - 1)) : Int).toNat : List ByteArray)).bind fun y111 => (if (x13_1 == (wrap64 ((y105.length : Int) - 1))) = true then (if (rdOf ByteArray.empty y105 x13_1).toList = ([46] : List UInt8) then (if y111.length < 8796093022208 then (target_undotted.l0 kj9 y105 (y111 ++ [(⟨#[]⟩ : ByteArray)]) y105 (y105.length : Int) (wrap64 (x13_1 + 1))) else (none)) else (if (rdOf ByteArray.empty y105 x13_1).toList = ([46, 46] : List UInt8) then (if y111.length < 8796093022208 then (target_undotted.l0 kj9 y105 (y111 ++ [(⟨#[]⟩ : ByteArray)]) y105 (y105.length : Int) (wrap64 (x13_1 + 1))) else (none)) else (target_undotted.l0 kj9 y105 y111 y105 (y105.length : Int) (wrap64 (x13_1 + 1))))) else (target_undotted.l0 kj9 y105 y111 y105 (y105.length : Int) (wrap64 (x13_1 + 1))))) else (none)) else (none)) = some r := by rw [if_pos rfl] at H; exact H
                    clear H
                    have H := H1
                    clear H1
                    obtain ⟨ji14, hji14⟩ : ∃ j_ : Int, (wrap64 ((x4_1.length : Int) - 1)) = j_ := ⟨_, rfl⟩
                    replace H : (if 0 ≤ (ji14) then (if (ji14) ≤ (x4_1.length : Int) then ((some (x4_1.take ((ji14) : Int).toNat : List ByteArray)).bind fun y111 => (if (x13_1 == (wrap64 ((y105.length : Int) - 1))) = true then (if (rdOf ByteArray.empty y105 x13_1).toList = ([46] : List UInt8) then (if y111.length < 8796093022208 then (target_undotted.l0 kj9 y105 (y111 ++ [(⟨#[]⟩ : ByteArray)]) y105 (y105.length : Int) (wrap64 (x13_1 + 1))) else (none)) else (if (rdOf ByteArray.empty y105 x13_1).toList = ([46, 46] : List UInt8) then (if y111.length < 8796093022208 then (target_undotted.l0 kj9 y105 (y111 ++ [(⟨#[]⟩ : ByteArray)]) y105 (y105.length : Int) (wrap64 (x13_1 + 1))) else (none)) else (target_undotted.l0 kj9 y105 y111 y105 (y105.length : Int) (wrap64 (x13_1 + 1))))) else (target_undotted.l0 kj9 y105 y111 y105 (y105.length : Int) (wrap64 (x13_1 + 1))))) else (none)) else (none)) = some r := by first | (rw [hji14] at H; exact H) | (simp only [hji14] at H ⊢; exact H)
                    (try (have hji14v14 := hji14; rw [hji14] at hji14v14))
                    (try (have hji14wv14 := hji14w; rw [hji14] at hji14wv14))
                    have hji14w : (IntKind.i64.wrap ((x4_1.length : Int) - 1)) = ji14 := (i64_w _).trans hji14
                    by_cases c15 : 0 ≤ (ji14)
                    · rw [if_pos c15] at H
                      have c15b0 := eq_true c15
                      have c15b1 : decide (0 ≤ (ji14)) = true := decide_eq_true c15
                      clear c15
                      by_cases c16 : (ji14) ≤ (x4_1.length : Int)
                      · rw [if_pos c16] at H
                        have c16b0 := eq_true c16
                        have c16b1 : decide ((ji14) ≤ (x4_1.length : Int)) = true := decide_eq_true c16
                        clear c16
                        obtain ⟨y111, hy111⟩ : ∃ y_ : List ByteArray, y_ = (x4_1.take ((ji14) : Int).toNat) := ⟨_, rfl⟩
                        replace H : (if (x13_1 == (wrap64 ((y105.length : Int) - 1))) = true then (if (rdOf ByteArray.empty y105 x13_1).toList = ([46] : List UInt8) then (if y111.length < 8796093022208 then (target_undotted.l0 kj9 y105 (y111 ++ [(⟨#[]⟩ : ByteArray)]) y105 (y105.length : Int) (wrap64 (x13_1 + 1))) else (none)) else (if (rdOf ByteArray.empty y105 x13_1).toList = ([46, 46] : List UInt8) then (if y111.length < 8796093022208 then (target_undotted.l0 kj9 y105 (y111 ++ [(⟨#[]⟩ : ByteArray)]) y105 (y105.length : Int) (wrap64 (x13_1 + 1))) else (none)) else (target_undotted.l0 kj9 y105 y111 y105 (y105.length : Int) (wrap64 (x13_1 + 1))))) else (target_undotted.l0 kj9 y105 y111 y105 (y105.length : Int) (wrap64 (x13_1 + 1)))) = some r := by first | (rw [hy111]; with_reducible exact H) | (have H2_ := (Option.bind_some _ _).symm.trans H; rw [hy111]; with_reducible exact H2_) | (have H2_ := (Option.bind_some _ _).symm.trans H; with_reducible exact H2_) | with_reducible exact H | (rw [hy111]; exact H) | exact H
                        have Ny111 := Aside0.mk hy111
                        clear hy111
                        by_cases c17 : (x13_1 == (wrap64 ((y105.length : Int) - 1))) = true
                        · rw [if_pos c17] at H
                          have c17b0 : (x13_1 == (wrap64 ((y105.length : Int) - 1))) = true := c17
                          (try (have c17b1 : decide (x13_1 = (wrap64 ((y105.length : Int) - 1))) = true := by simpa using c17))
                          (try (have c17b2 : (x13_1 == (wrap64 ((y105.length : Int) - 1))) = true := by simpa using c17))
                          clear c17
                          by_cases c18 : (rdOf ByteArray.empty y105 x13_1).toList = ([46] : List UInt8)
                          · rw [if_pos c18] at H
                            have c18b0 : ((rdOf ByteArray.empty y105 x13_1).toList == ([46] : List UInt8)) = true := beq_iff_eq.mpr c18
                            have c18b1 : ((rdOf ByteArray.empty y105 x13_1).toList != ([46] : List UInt8)) = false := bne_eq_false_iff_eq.mpr c18
                            clear c18
                            by_cases c19 : y111.length < 8796093022208
                            · rw [if_pos c19] at H
                              have LMc19 := Aside0.mk c19
                              clear c19
                              obtain ⟨y114, hy114⟩ : ∃ y_ : List ByteArray, y_ = (y111 ++ [(⟨#[]⟩ : ByteArray)]) := ⟨_, rfl⟩
                              replace H : (target_undotted.l0 kj9 y105 y114 y105 (y105.length : Int) (wrap64 (x13_1 + 1))) = some r := by first | (rw [hy114]; with_reducible exact H) | (have H2_ := (Option.bind_some _ _).symm.trans H; rw [hy114]; with_reducible exact H2_) | (have H2_ := (Option.bind_some _ _).symm.trans H; with_reducible exact H2_) | with_reducible exact H | (rw [hy114]; exact H) | exact H
                              have Ny114 := Aside0.mk hy114
                              clear hy114
                              have H' := Aside0.mk H
                              clear H
                              obtain ⟨Ao20, co20, eo20⟩ := Kd.R_slice HO_4.out
                              subst eo20
                              have q21 : ((ji14) : Int) ≤ ((x4_1.length : Int) : Int) := of_decide_eq_true (by first | (with_reducible assumption) | assumption)
                              obtain ⟨i021, hi021, _, hsz21, _⟩ := info_parts info9
                              have hcut21 := cut_to (P := Tryd.prog) 74 9 .i64 Tryd.underlying74 hi021 Ao20 x4_1.length co20 (ji14) (of_decide_eq_true (by first | (with_reducible assumption) | assumption)) q21 (Kd.R_reads' HO_4.out).2.1
                              have hr21 := Kd.R_take (m := ((ji14) : Int).toNat) HO_4.out (by omega)
                              have hy21 : y111.length = ((ji14) : Int).toNat := (by rw [Ny111.out, List.length_take]; omega)
                              rw [← Ny111.out] at hr21
                              rw [← hy21] at hr21 hcut21
                              clear hy21 hi021 hsz21 HO_4
                              have HO113 := Aside0.mk hr21
                              clear hr21
                              replace q21 := eq_true q21
                              go_wp2_with (first | ((with_reducible refine gate_builtin (b := .append) (xs := #[.tmp 56, .tmp 57]) rfl ?_); (try (refine gate_guard (by rfl) ?_; dsimp only)); at_builtin; refine Kd.R_append Kd.string (w0 := w4) w4.heap.size rfl (.tmp 56) (.tmp 57) 74 9 (.string ⟨#[]⟩) 16 rfl Tryd.underlying74 info9 rfl (by decide) (by omega) (.slice Ao20 y111.length co20) y111 (⟨#[]⟩ : ByteArray) [.string (⟨#[]⟩ : ByteArray)] (fun _ => True) (fun _ => False) rfl rfl ?aP (fun _ hk => hk.elim) ?aF ?aO ?aB ?aS ?aL ?_; (case aP => exact rfl); (case aB => exact (by repeat (first | (with_reducible first | exact HB.out | apply below_alloc | apply pw_below_drewN | apply below_drew1) | exact HB.out))); (case aF => exact (fun _ _ => trivial)); (case aO => exact (by (with_reducible repeat (first | apply Kd.R_alloc | apply Kd.R_drewN | apply Kd.R_drew)); exact HO113.out)); (case aS => exact (below_size (by repeat (first | (with_reducible first | exact HB.out | apply below_alloc | apply pw_below_drewN | apply below_drew1) | exact HB.out)))); (case aL => have := LMc19.out; omega); intro v115 w22 ho hb hg hat; rw [← Ny114.out] at ho; have n0_ := Aside0.mk (hb); have n1_ := Aside0.mk (ho); clear HB; clear HO113; have HB := n0_; have HO116 := n1_; clear n0_ n1_; clear ho hb hg hat))
                              go_roundg kj9
                              case measure => have := HK1.out; have := HJ9.out; omega
                              case rel => exact ⟨(y114), (wrap64 (x13_1 + 1)), (by first | rfl | (simp; done) | (simp [*]; done) | (simp; exact Hand.isEmpty_ne _)), H', ⟨by have := HK1.out; have := HJ9.out; omega⟩, ⟨by (with_reducible repeat (first | apply Kd.R_alloc | apply Kd.R_drewN | apply Kd.R_drew)); exact HO116.out⟩, ⟨by repeat (first | (with_reducible first | exact HB.out | apply below_alloc | apply pw_below_drewN | apply below_drew1) | exact HB.out)⟩⟩
                            · rw [if_neg c19] at H
                              exact absurd H (by simp)
                          · rw [if_neg c18] at H
                            have c18b0 : ((rdOf ByteArray.empty y105 x13_1).toList == ([46] : List UInt8)) = false := beq_eq_false_iff_ne.mpr c18
                            have c18b1 : ((rdOf ByteArray.empty y105 x13_1).toList != ([46] : List UInt8)) = true := bne_iff_ne.mpr c18
                            by_cases c23 : (rdOf ByteArray.empty y105 x13_1).toList = ([46, 46] : List UInt8)
                            · rw [if_pos c23] at H
                              have c23b0 : ((rdOf ByteArray.empty y105 x13_1).toList == ([46, 46] : List UInt8)) = true := beq_iff_eq.mpr c23
                              have c23b1 : ((rdOf ByteArray.empty y105 x13_1).toList != ([46, 46] : List UInt8)) = false := bne_eq_false_iff_eq.mpr c23
                              clear c23
                              by_cases c24 : y111.length < 8796093022208
                              · rw [if_pos c24] at H
                                have LMc24 := Aside0.mk c24
                                clear c24
                                obtain ⟨y117, hy117⟩ : ∃ y_ : List ByteArray, y_ = (y111 ++ [(⟨#[]⟩ : ByteArray)]) := ⟨_, rfl⟩
                                replace H : (target_undotted.l0 kj9 y105 y117 y105 (y105.length : Int) (wrap64 (x13_1 + 1))) = some r := by first | (rw [hy117]; with_reducible exact H) | (have H2_ := (Option.bind_some _ _).symm.trans H; rw [hy117]; with_reducible exact H2_) | (have H2_ := (Option.bind_some _ _).symm.trans H; with_reducible exact H2_) | with_reducible exact H | (rw [hy117]; exact H) | exact H
                                have Ny117 := Aside0.mk hy117
                                clear hy117
                                have H' := Aside0.mk H
                                clear H
                                obtain ⟨Ao25, co25, eo25⟩ := Kd.R_slice HO_4.out
                                subst eo25
                                have q26 : ((ji14) : Int) ≤ ((x4_1.length : Int) : Int) := of_decide_eq_true (by first | (with_reducible assumption) | assumption)
                                obtain ⟨i026, hi026, _, hsz26, _⟩ := info_parts info9
                                have hcut26 := cut_to (P := Tryd.prog) 74 9 .i64 Tryd.underlying74 hi026 Ao25 x4_1.length co25 (ji14) (of_decide_eq_true (by first | (with_reducible assumption) | assumption)) q26 (Kd.R_reads' HO_4.out).2.1
                                have hr26 := Kd.R_take (m := ((ji14) : Int).toNat) HO_4.out (by omega)
                                have hy26 : y111.length = ((ji14) : Int).toNat := (by rw [Ny111.out, List.length_take]; omega)
                                rw [← Ny111.out] at hr26
                                rw [← hy26] at hr26 hcut26
                                clear hy26 hi026 hsz26 HO_4
                                have HO113 := Aside0.mk hr26
                                clear hr26
                                replace q26 := eq_true q26
                                go_wp2_with (first | ((with_reducible refine gate_builtin (b := .append) (xs := #[.tmp 56, .tmp 57]) rfl ?_); (try (refine gate_guard (by rfl) ?_; dsimp only)); at_builtin; refine Kd.R_append Kd.string (w0 := w4) w4.heap.size rfl (.tmp 56) (.tmp 57) 74 9 (.string ⟨#[]⟩) 16 rfl Tryd.underlying74 info9 rfl (by decide) (by omega) (.slice Ao25 y111.length co25) y111 (⟨#[]⟩ : ByteArray) [.string (⟨#[]⟩ : ByteArray)] (fun _ => True) (fun _ => False) rfl rfl ?aP (fun _ hk => hk.elim) ?aF ?aO ?aB ?aS ?aL ?_; (case aP => exact rfl); (case aB => exact (by repeat (first | (with_reducible first | exact HB.out | apply below_alloc | apply pw_below_drewN | apply below_drew1) | exact HB.out))); (case aF => exact (fun _ _ => trivial)); (case aO => exact (by (with_reducible repeat (first | apply Kd.R_alloc | apply Kd.R_drewN | apply Kd.R_drew)); exact HO113.out)); (case aS => exact (below_size (by repeat (first | (with_reducible first | exact HB.out | apply below_alloc | apply pw_below_drewN | apply below_drew1) | exact HB.out)))); (case aL => have := LMc24.out; omega); intro v118 w27 ho hb hg hat; rw [← Ny117.out] at ho; have n0_ := Aside0.mk (hb); have n1_ := Aside0.mk (ho); clear HB; clear HO113; have HB := n0_; have HO119 := n1_; clear n0_ n1_; clear ho hb hg hat))
                                go_roundg kj9
                                case measure => have := HK1.out; have := HJ9.out; omega
                                case rel => exact ⟨(y117), (wrap64 (x13_1 + 1)), (by first | rfl | (simp; done) | (simp [*]; done) | (simp; exact Hand.isEmpty_ne _)), H', ⟨by have := HK1.out; have := HJ9.out; omega⟩, ⟨by (with_reducible repeat (first | apply Kd.R_alloc | apply Kd.R_drewN | apply Kd.R_drew)); exact HO119.out⟩, ⟨by repeat (first | (with_reducible first | exact HB.out | apply below_alloc | apply pw_below_drewN | apply below_drew1) | exact HB.out)⟩⟩
                              · rw [if_neg c24] at H
                                exact absurd H (by simp)
                            · rw [if_neg c23] at H
                              have c23b0 : ((rdOf ByteArray.empty y105 x13_1).toList == ([46, 46] : List UInt8)) = false := beq_eq_false_iff_ne.mpr c23
                              have c23b1 : ((rdOf ByteArray.empty y105 x13_1).toList != ([46, 46] : List UInt8)) = true := bne_iff_ne.mpr c23
                              have H' := Aside0.mk H
                              clear H
                              obtain ⟨Ao28, co28, eo28⟩ := Kd.R_slice HO_4.out
                              subst eo28
                              have q29 : ((ji14) : Int) ≤ ((x4_1.length : Int) : Int) := of_decide_eq_true (by first | (with_reducible assumption) | assumption)
                              obtain ⟨i029, hi029, _, hsz29, _⟩ := info_parts info9
                              have hcut29 := cut_to (P := Tryd.prog) 74 9 .i64 Tryd.underlying74 hi029 Ao28 x4_1.length co28 (ji14) (of_decide_eq_true (by first | (with_reducible assumption) | assumption)) q29 (Kd.R_reads' HO_4.out).2.1
                              have hr29 := Kd.R_take (m := ((ji14) : Int).toNat) HO_4.out (by omega)
                              have hy29 : y111.length = ((ji14) : Int).toNat := (by rw [Ny111.out, List.length_take]; omega)
                              rw [← Ny111.out] at hr29
                              rw [← hy29] at hr29 hcut29
                              clear hy29 hi029 hsz29 HO_4
                              have HO113 := Aside0.mk hr29
                              clear hr29
                              replace q29 := eq_true q29
                              go_wp2
                              go_roundg kj9
                              case measure => have := HK1.out; have := HJ9.out; omega
                              case rel => exact ⟨(y111), (wrap64 (x13_1 + 1)), (by first | rfl | (simp; done) | (simp [*]; done) | (simp; exact Hand.isEmpty_ne _)), H', ⟨by have := HK1.out; have := HJ9.out; omega⟩, ⟨by (with_reducible repeat (first | apply Kd.R_alloc | apply Kd.R_drewN | apply Kd.R_drew)); exact HO113.out⟩, ⟨by repeat (first | (with_reducible first | exact HB.out | apply below_alloc | apply pw_below_drewN | apply below_drew1) | exact HB.out)⟩⟩
                        · rw [if_neg c17] at H
                          have c17b0 : (x13_1 == (wrap64 ((y105.length : Int) - 1))) = false := by simpa using c17
                          (try (have c17b1 : decide (x13_1 = (wrap64 ((y105.length : Int) - 1))) = false := by simpa using c17))
                          (try (have c17b2 : (x13_1 == (wrap64 ((y105.length : Int) - 1))) = false := by simpa using c17))
                          (try (have c17b3 : ¬ (x13_1 = (wrap64 ((y105.length : Int) - 1))) := by simpa using c17))
                          clear c17
                          have H' := Aside0.mk H
                          clear H
                          obtain ⟨Ao30, co30, eo30⟩ := Kd.R_slice HO_4.out
                          subst eo30
                          have q31 : ((ji14) : Int) ≤ ((x4_1.length : Int) : Int) := of_decide_eq_true (by first | (with_reducible assumption) | assumption)
                          obtain ⟨i031, hi031, _, hsz31, _⟩ := info_parts info9
                          have hcut31 := cut_to (P := Tryd.prog) 74 9 .i64 Tryd.underlying74 hi031 Ao30 x4_1.length co30 (ji14) (of_decide_eq_true (by first | (with_reducible assumption) | assumption)) q31 (Kd.R_reads' HO_4.out).2.1
                          have hr31 := Kd.R_take (m := ((ji14) : Int).toNat) HO_4.out (by omega)
                          have hy31 : y111.length = ((ji14) : Int).toNat := (by rw [Ny111.out, List.length_take]; omega)
                          rw [← Ny111.out] at hr31
                          rw [← hy31] at hr31 hcut31
                          clear hy31 hi031 hsz31 HO_4
                          have HO113 := Aside0.mk hr31
                          clear hr31
                          replace q31 := eq_true q31
                          go_wp2
                          go_roundg kj9
                          case measure => have := HK1.out; have := HJ9.out; omega
                          case rel => exact ⟨(y111), (wrap64 (x13_1 + 1)), (by first | rfl | (simp; done) | (simp [*]; done) | (simp; exact Hand.isEmpty_ne _)), H', ⟨by have := HK1.out; have := HJ9.out; omega⟩, ⟨by (with_reducible repeat (first | apply Kd.R_alloc | apply Kd.R_drewN | apply Kd.R_drew)); exact HO113.out⟩, ⟨by repeat (first | (with_reducible first | exact HB.out | apply below_alloc | apply pw_below_drewN | apply below_drew1) | exact HB.out)⟩⟩
                      · rw [if_neg c16] at H
                        exact absurd H (by simp)
                    · rw [if_neg c15] at H
                      exact absurd H (by simp)
                  · replace c13 := Bool.eq_false_iff.mpr c13
                    subst c13
                    have H1 : (if (rdOf ByteArray.empty y105 x13_1).toList = ([46] : List UInt8) then (target_undotted.j2 kj9 y105 x4_1 (rdOf ByteArray.empty y105 x13_1) (x13_1 == (wrap64 ((y105.length : Int) - 1))) y105 (y105.length : Int) x13_1 false) else (target_undotted.j2 kj9 y105 x4_1 (rdOf ByteArray.empty y105 x13_1) (x13_1 == (wrap64 ((y105.length : Int) - 1))) y105 (y105.length : Int) x13_1 ((rdOf ByteArray.empty y105 x13_1).toList != ([46, 46] : List UInt8)))) = some r := by rw [if_neg (show ¬ (false = true) by decide)] at H; exact H
                    clear H
                    have H := H1
                    clear H1
                    have HC32 := Aside0.mk H
                    clear H
                    go_upto_region 9 with (fail)
                    go_cut [36] (fun v36 wc => ∃ (kq : Nat) (x36_31 : Bool), v36 = .bool x36_31 ∧ Aside0 (target_undotted.j2 kq y105 x4_1 (rdOf ByteArray.empty y105 x13_1) (x13_1 == (wrap64 ((y105.length : Int) - 1))) y105 (y105.length : Int) x13_1 x36_31 = some r) ∧ Aside0 (kq ≤ kj9) ∧ Aside0 (Kd.R Kd.string 9 wc w4.heap.size (fun _ => True) u4 x4_1) ∧ Aside0 (Below w4.heap.size w4 wc))
                    case first => as_aux_lemma =>
                      have H := HC32.out
                      clear HC32
                      by_cases c33 : (rdOf ByteArray.empty y105 x13_1).toList = ([46] : List UInt8)
                      · rw [if_pos c33] at H
                        have c33b0 : ((rdOf ByteArray.empty y105 x13_1).toList == ([46] : List UInt8)) = true := beq_iff_eq.mpr c33
                        have c33b1 : ((rdOf ByteArray.empty y105 x13_1).toList != ([46] : List UInt8)) = false := bne_eq_false_iff_eq.mpr c33
                        clear c33
                        (first | rw [c33b0] | (simp only [i64_w, i32_w]; rw [c33b0]) | skip)
                        have H' := Aside0.mk H
                        clear H
                        go_wp2
                        go_meet
                        case rel => exact ⟨_, (false), (by first | rfl | (simp; done) | (simp [*]; done) | (simp; exact Hand.isEmpty_ne _)), H', ⟨by have := HK1.out; have := HJ9.out; first | omega | exact Nat.le_refl _⟩, ⟨by (with_reducible repeat (first | apply Kd.R_alloc | apply Kd.R_drewN | apply Kd.R_drew)); exact HO_4.out⟩, ⟨by repeat (first | (with_reducible first | exact HB.out | apply below_alloc | apply pw_below_drewN | apply below_drew1) | exact HB.out)⟩⟩
                      · rw [if_neg c33] at H
                        have c33b0 : ((rdOf ByteArray.empty y105 x13_1).toList == ([46] : List UInt8)) = false := beq_eq_false_iff_ne.mpr c33
                        have c33b1 : ((rdOf ByteArray.empty y105 x13_1).toList != ([46] : List UInt8)) = true := bne_iff_ne.mpr c33
                        (first | rw [c33b0] | (simp only [i64_w, i32_w]; rw [c33b0]) | skip)
                        have H' := Aside0.mk H
                        clear H
                        go_wp2
                        go_meet
                        case rel => exact ⟨_, (((rdOf ByteArray.empty y105 x13_1).toList != ([46, 46] : List UInt8))), (by first | rfl | (simp; done) | (simp [*]; done) | (simp; exact Hand.isEmpty_ne _)), H', ⟨by have := HK1.out; have := HJ9.out; first | omega | exact Nat.le_refl _⟩, ⟨by (with_reducible repeat (first | apply Kd.R_alloc | apply Kd.R_drewN | apply Kd.R_drew)); exact HO_4.out⟩, ⟨by repeat (first | (with_reducible first | exact HB.out | apply below_alloc | apply pw_below_drewN | apply below_drew1) | exact HB.out)⟩⟩
                    case rest => as_aux_lemma =>
                      clear HC32
                      try clear c1
                      try clear p1
                      try clear q1
                      try clear hx1
                      try clear c2
                      try clear p2
                      try clear q2
                      try clear c3
                      try clear c3b0
                      try clear c3b1
                      try clear q3
                      try clear c4
                      try clear c5
                      try clear q5
                      try clear p6
                      try clear c7
                      try clear c7b0
                      try clear c8
                      try clear c8b0
                      try clear c9
                      try clear c9b0
                      try clear c11
                      try clear c11b0
                      try clear c11b1
                      try clear p11
                      try clear q11
                      try clear hx11
                      try clear c13
                      try clear c15
                      try clear c15b0
                      try clear c15b1
                      try clear c16
                      try clear c16b0
                      try clear c16b1
                      try clear c17
                      try clear c17b0
                      try clear c17b1
                      try clear c17b2
                      try clear c18
                      try clear c18b0
                      try clear c18b1
                      try clear c19
                      try clear q21
                      try clear c23
                      try clear c23b0
                      try clear c23b1
                      try clear c24
                      try clear c25
                      try clear q26
                      try clear q29
                      try clear q31
                      try clear c33
                      try clear c33b0
                      try clear c33b1
                      try clear hx110_0
                      try clear p1
                      try clear p11
                      try clear p110
                      try clear p2
                      try clear p6
                      try clear q1
                      try clear q11
                      try clear q110
                      try clear q21
                      try clear q26
                      try clear q29
                      try clear q31
                      try clear q5
                      obtain ⟨kq, x36_31, rfl, HA, HJ31, HO_4, HB⟩ := hcut
                      cases kq with
                      | zero => exact absurd HA.out (by simp [target_undotted.j2])
                      | succ kj31 =>
                        have H := HA.out
                        clear HA
                        simp only [target_undotted.j2] at H
                        by_cases c34 : x36_31 = true
                        · subst c34
                          have H1 : (if x4_1.length < 8796093022208 then ((some (x4_1 ++ [(rdOf ByteArray.empty y105 x13_1)] : List ByteArray)).bind fun y120 => (if (x13_1 == (wrap64 ((y105.length : Int) - 1))) = true then (if (rdOf ByteArray.empty y105 x13_1).toList = ([46] : List UInt8) then (if y120.length < 8796093022208 then (target_undotted.l0 kj31 y105 (y120 ++ [(⟨#[]⟩ : ByteArray)]) y105 (y105.length : Int) (wrap64 (x13_1 + 1))) else (none)) else (if (rdOf ByteArray.empty y105 x13_1).toList = ([46, 46] : List UInt8) then (if y120.length < 8796093022208 then (target_undotted.l0 kj31 y105 (y120 ++ [(⟨#[]⟩ : ByteArray)]) y105 (y105.length : Int) (wrap64 (x13_1 + 1))) else (none)) else (target_undotted.l0 kj31 y105 y120 y105 (y105.length : Int) (wrap64 (x13_1 + 1))))) else (target_undotted.l0 kj31 y105 y120 y105 (y105.length : Int) (wrap64 (x13_1 + 1))))) else (none)) = some r := by rw [if_pos rfl] at H; exact H
                          clear H
                          have H := H1
                          clear H1
                          by_cases c35 : x4_1.length < 8796093022208
                          · rw [if_pos c35] at H
                            have LMc35 := Aside0.mk c35
                            clear c35
                            obtain ⟨y120, hy120⟩ : ∃ y_ : List ByteArray, y_ = (x4_1 ++ [(rdOf ByteArray.empty y105 x13_1)]) := ⟨_, rfl⟩
                            replace H : (if (x13_1 == (wrap64 ((y105.length : Int) - 1))) = true then (if (rdOf ByteArray.empty y105 x13_1).toList = ([46] : List UInt8) then (if y120.length < 8796093022208 then (target_undotted.l0 kj31 y105 (y120 ++ [(⟨#[]⟩ : ByteArray)]) y105 (y105.length : Int) (wrap64 (x13_1 + 1))) else (none)) else (if (rdOf ByteArray.empty y105 x13_1).toList = ([46, 46] : List UInt8) then (if y120.length < 8796093022208 then (target_undotted.l0 kj31 y105 (y120 ++ [(⟨#[]⟩ : ByteArray)]) y105 (y105.length : Int) (wrap64 (x13_1 + 1))) else (none)) else (target_undotted.l0 kj31 y105 y120 y105 (y105.length : Int) (wrap64 (x13_1 + 1))))) else (target_undotted.l0 kj31 y105 y120 y105 (y105.length : Int) (wrap64 (x13_1 + 1)))) = some r := by first | (rw [hy120]; with_reducible exact H) | (have H2_ := (Option.bind_some _ _).symm.trans H; rw [hy120]; with_reducible exact H2_) | (have H2_ := (Option.bind_some _ _).symm.trans H; with_reducible exact H2_) | with_reducible exact H | (rw [hy120]; exact H) | exact H
                            have Ny120 := Aside0.mk hy120
                            clear hy120
                            by_cases c36 : (x13_1 == (wrap64 ((y105.length : Int) - 1))) = true
                            · rw [if_pos c36] at H
                              have c36b0 : (x13_1 == (wrap64 ((y105.length : Int) - 1))) = true := c36
                              (try (have c36b1 : decide (x13_1 = (wrap64 ((y105.length : Int) - 1))) = true := by simpa using c36))
                              (try (have c36b2 : (x13_1 == (wrap64 ((y105.length : Int) - 1))) = true := by simpa using c36))
                              clear c36
                              by_cases c37 : (rdOf ByteArray.empty y105 x13_1).toList = ([46] : List UInt8)
                              · rw [if_pos c37] at H
                                have c37b0 : ((rdOf ByteArray.empty y105 x13_1).toList == ([46] : List UInt8)) = true := beq_iff_eq.mpr c37
                                have c37b1 : ((rdOf ByteArray.empty y105 x13_1).toList != ([46] : List UInt8)) = false := bne_eq_false_iff_eq.mpr c37
                                clear c37
                                by_cases c38 : y120.length < 8796093022208
                                · rw [if_pos c38] at H
                                  have LMc38 := Aside0.mk c38
                                  clear c38
                                  obtain ⟨y123, hy123⟩ : ∃ y_ : List ByteArray, y_ = (y120 ++ [(⟨#[]⟩ : ByteArray)]) := ⟨_, rfl⟩
                                  replace H : (target_undotted.l0 kj31 y105 y123 y105 (y105.length : Int) (wrap64 (x13_1 + 1))) = some r := by first | (rw [hy123]; with_reducible exact H) | (have H2_ := (Option.bind_some _ _).symm.trans H; rw [hy123]; with_reducible exact H2_) | (have H2_ := (Option.bind_some _ _).symm.trans H; with_reducible exact H2_) | with_reducible exact H | (rw [hy123]; exact H) | exact H
                                  have Ny123 := Aside0.mk hy123
                                  clear hy123
                                  have H' := Aside0.mk H
                                  clear H
                                  go_wp2_with (first | ((with_reducible refine gate_builtin (b := .append) (xs := #[.tmp 43, .tmp 45]) rfl ?_); (try (refine gate_guard (by rfl) ?_; dsimp only)); at_builtin; refine Kd.R_append Kd.string (w0 := w4) w4.heap.size rfl (.tmp 43) (.tmp 45) 74 9 (.string ⟨#[]⟩) 16 rfl Tryd.underlying74 info9 rfl (by decide) (by omega) u4 x4_1 (rdOf ByteArray.empty y105 x13_1) [.string (rdOf ByteArray.empty y105 x13_1)] (fun _ => True) (fun _ => False) rfl rfl ?aP (fun _ hk => hk.elim) ?aF ?aO ?aB ?aS ?aL ?_; (case aP => exact rfl); (case aB => exact (by repeat (first | (with_reducible first | exact HB.out | apply below_alloc | apply pw_below_drewN | apply below_drew1) | exact HB.out))); (case aF => exact (fun _ _ => trivial)); (case aO => exact (by (with_reducible repeat (first | apply Kd.R_alloc | apply Kd.R_drewN | apply Kd.R_drew)); exact HO_4.out)); (case aS => exact (below_size (by repeat (first | (with_reducible first | exact HB.out | apply below_alloc | apply pw_below_drewN | apply below_drew1) | exact HB.out)))); (case aL => have := LMc35.out; omega); intro v121 w39 ho hb hg hat; rw [← Ny120.out] at ho; have n0_ := Aside0.mk (hb); have n1_ := Aside0.mk (ho); clear HB; clear HO_4; have HB := n0_; have HO122 := n1_; clear n0_ n1_; clear ho hb hg hat) | ((with_reducible refine gate_builtin (b := .append) (xs := #[.tmp 56, .tmp 57]) rfl ?_); (try (refine gate_guard (by rfl) ?_; dsimp only)); at_builtin; refine Kd.R_append Kd.string (w0 := w4) w4.heap.size rfl (.tmp 56) (.tmp 57) 74 9 (.string ⟨#[]⟩) 16 rfl Tryd.underlying74 info9 rfl (by decide) (by omega) v121 y120 (⟨#[]⟩ : ByteArray) [.string (⟨#[]⟩ : ByteArray)] (fun _ => True) (fun _ => False) rfl rfl ?aP (fun _ hk => hk.elim) ?aF ?aO ?aB ?aS ?aL ?_; (case aP => exact rfl); (case aB => exact (by repeat (first | (with_reducible first | exact HB.out | apply below_alloc | apply pw_below_drewN | apply below_drew1) | exact HB.out))); (case aF => exact (fun _ _ => trivial)); (case aO => exact (by (with_reducible repeat (first | apply Kd.R_alloc | apply Kd.R_drewN | apply Kd.R_drew)); exact HO122.out)); (case aS => exact (below_size (by repeat (first | (with_reducible first | exact HB.out | apply below_alloc | apply pw_below_drewN | apply below_drew1) | exact HB.out)))); (case aL => have := LMc38.out; omega); intro v124 w40 ho hb hg hat; rw [← Ny123.out] at ho; have n0_ := Aside0.mk (hb); have n1_ := Aside0.mk (ho); clear HB; clear HO122; have HB := n0_; have HO125 := n1_; clear n0_ n1_; clear ho hb hg hat))
                                  go_roundg kj31
                                  case measure => have := HK1.out; have := HJ9.out; have := HJ31.out; omega
                                  case rel => exact ⟨(y123), (wrap64 (x13_1 + 1)), (by first | rfl | (simp; done) | (simp [*]; done) | (simp; exact Hand.isEmpty_ne _)), H', ⟨by have := HK1.out; have := HJ9.out; have := HJ31.out; omega⟩, ⟨by (with_reducible repeat (first | apply Kd.R_alloc | apply Kd.R_drewN | apply Kd.R_drew)); exact HO125.out⟩, ⟨by repeat (first | (with_reducible first | exact HB.out | apply below_alloc | apply pw_below_drewN | apply below_drew1) | exact HB.out)⟩⟩
                                · rw [if_neg c38] at H
                                  exact absurd H (by simp)
                              · rw [if_neg c37] at H
                                have c37b0 : ((rdOf ByteArray.empty y105 x13_1).toList == ([46] : List UInt8)) = false := beq_eq_false_iff_ne.mpr c37
                                have c37b1 : ((rdOf ByteArray.empty y105 x13_1).toList != ([46] : List UInt8)) = true := bne_iff_ne.mpr c37
                                by_cases c41 : (rdOf ByteArray.empty y105 x13_1).toList = ([46, 46] : List UInt8)
                                · rw [if_pos c41] at H
                                  have c41b0 : ((rdOf ByteArray.empty y105 x13_1).toList == ([46, 46] : List UInt8)) = true := beq_iff_eq.mpr c41
                                  have c41b1 : ((rdOf ByteArray.empty y105 x13_1).toList != ([46, 46] : List UInt8)) = false := bne_eq_false_iff_eq.mpr c41
                                  clear c41
                                  by_cases c42 : y120.length < 8796093022208
                                  · rw [if_pos c42] at H
                                    have LMc42 := Aside0.mk c42
                                    clear c42
                                    obtain ⟨y126, hy126⟩ : ∃ y_ : List ByteArray, y_ = (y120 ++ [(⟨#[]⟩ : ByteArray)]) := ⟨_, rfl⟩
                                    replace H : (target_undotted.l0 kj31 y105 y126 y105 (y105.length : Int) (wrap64 (x13_1 + 1))) = some r := by first | (rw [hy126]; with_reducible exact H) | (have H2_ := (Option.bind_some _ _).symm.trans H; rw [hy126]; with_reducible exact H2_) | (have H2_ := (Option.bind_some _ _).symm.trans H; with_reducible exact H2_) | with_reducible exact H | (rw [hy126]; exact H) | exact H
                                    have Ny126 := Aside0.mk hy126
                                    clear hy126
                                    have H' := Aside0.mk H
                                    clear H
                                    go_wp2_with (first | ((with_reducible refine gate_builtin (b := .append) (xs := #[.tmp 43, .tmp 45]) rfl ?_); (try (refine gate_guard (by rfl) ?_; dsimp only)); at_builtin; refine Kd.R_append Kd.string (w0 := w4) w4.heap.size rfl (.tmp 43) (.tmp 45) 74 9 (.string ⟨#[]⟩) 16 rfl Tryd.underlying74 info9 rfl (by decide) (by omega) u4 x4_1 (rdOf ByteArray.empty y105 x13_1) [.string (rdOf ByteArray.empty y105 x13_1)] (fun _ => True) (fun _ => False) rfl rfl ?aP (fun _ hk => hk.elim) ?aF ?aO ?aB ?aS ?aL ?_; (case aP => exact rfl); (case aB => exact (by repeat (first | (with_reducible first | exact HB.out | apply below_alloc | apply pw_below_drewN | apply below_drew1) | exact HB.out))); (case aF => exact (fun _ _ => trivial)); (case aO => exact (by (with_reducible repeat (first | apply Kd.R_alloc | apply Kd.R_drewN | apply Kd.R_drew)); exact HO_4.out)); (case aS => exact (below_size (by repeat (first | (with_reducible first | exact HB.out | apply below_alloc | apply pw_below_drewN | apply below_drew1) | exact HB.out)))); (case aL => have := LMc35.out; omega); intro v121 w43 ho hb hg hat; rw [← Ny120.out] at ho; have n0_ := Aside0.mk (hb); have n1_ := Aside0.mk (ho); clear HB; clear HO_4; have HB := n0_; have HO122 := n1_; clear n0_ n1_; clear ho hb hg hat) | ((with_reducible refine gate_builtin (b := .append) (xs := #[.tmp 56, .tmp 57]) rfl ?_); (try (refine gate_guard (by rfl) ?_; dsimp only)); at_builtin; refine Kd.R_append Kd.string (w0 := w4) w4.heap.size rfl (.tmp 56) (.tmp 57) 74 9 (.string ⟨#[]⟩) 16 rfl Tryd.underlying74 info9 rfl (by decide) (by omega) v121 y120 (⟨#[]⟩ : ByteArray) [.string (⟨#[]⟩ : ByteArray)] (fun _ => True) (fun _ => False) rfl rfl ?aP (fun _ hk => hk.elim) ?aF ?aO ?aB ?aS ?aL ?_; (case aP => exact rfl); (case aB => exact (by repeat (first | (with_reducible first | exact HB.out | apply below_alloc | apply pw_below_drewN | apply below_drew1) | exact HB.out))); (case aF => exact (fun _ _ => trivial)); (case aO => exact (by (with_reducible repeat (first | apply Kd.R_alloc | apply Kd.R_drewN | apply Kd.R_drew)); exact HO122.out)); (case aS => exact (below_size (by repeat (first | (with_reducible first | exact HB.out | apply below_alloc | apply pw_below_drewN | apply below_drew1) | exact HB.out)))); (case aL => have := LMc42.out; omega); intro v127 w44 ho hb hg hat; rw [← Ny126.out] at ho; have n0_ := Aside0.mk (hb); have n1_ := Aside0.mk (ho); clear HB; clear HO122; have HB := n0_; have HO128 := n1_; clear n0_ n1_; clear ho hb hg hat))
                                    go_roundg kj31
                                    case measure => have := HK1.out; have := HJ9.out; have := HJ31.out; omega
                                    case rel => exact ⟨(y126), (wrap64 (x13_1 + 1)), (by first | rfl | (simp; done) | (simp [*]; done) | (simp; exact Hand.isEmpty_ne _)), H', ⟨by have := HK1.out; have := HJ9.out; have := HJ31.out; omega⟩, ⟨by (with_reducible repeat (first | apply Kd.R_alloc | apply Kd.R_drewN | apply Kd.R_drew)); exact HO128.out⟩, ⟨by repeat (first | (with_reducible first | exact HB.out | apply below_alloc | apply pw_below_drewN | apply below_drew1) | exact HB.out)⟩⟩
                                  · rw [if_neg c42] at H
                                    exact absurd H (by simp)
                                · rw [if_neg c41] at H
                                  have c41b0 : ((rdOf ByteArray.empty y105 x13_1).toList == ([46, 46] : List UInt8)) = false := beq_eq_false_iff_ne.mpr c41
                                  have c41b1 : ((rdOf ByteArray.empty y105 x13_1).toList != ([46, 46] : List UInt8)) = true := bne_iff_ne.mpr c41
                                  have H' := Aside0.mk H
                                  clear H
                                  go_wp2_with (first | ((with_reducible refine gate_builtin (b := .append) (xs := #[.tmp 43, .tmp 45]) rfl ?_); (try (refine gate_guard (by rfl) ?_; dsimp only)); at_builtin; refine Kd.R_append Kd.string (w0 := w4) w4.heap.size rfl (.tmp 43) (.tmp 45) 74 9 (.string ⟨#[]⟩) 16 rfl Tryd.underlying74 info9 rfl (by decide) (by omega) u4 x4_1 (rdOf ByteArray.empty y105 x13_1) [.string (rdOf ByteArray.empty y105 x13_1)] (fun _ => True) (fun _ => False) rfl rfl ?aP (fun _ hk => hk.elim) ?aF ?aO ?aB ?aS ?aL ?_; (case aP => exact rfl); (case aB => exact (by repeat (first | (with_reducible first | exact HB.out | apply below_alloc | apply pw_below_drewN | apply below_drew1) | exact HB.out))); (case aF => exact (fun _ _ => trivial)); (case aO => exact (by (with_reducible repeat (first | apply Kd.R_alloc | apply Kd.R_drewN | apply Kd.R_drew)); exact HO_4.out)); (case aS => exact (below_size (by repeat (first | (with_reducible first | exact HB.out | apply below_alloc | apply pw_below_drewN | apply below_drew1) | exact HB.out)))); (case aL => have := LMc35.out; omega); intro v121 w45 ho hb hg hat; rw [← Ny120.out] at ho; have n0_ := Aside0.mk (hb); have n1_ := Aside0.mk (ho); clear HB; clear HO_4; have HB := n0_; have HO122 := n1_; clear n0_ n1_; clear ho hb hg hat))
                                  go_roundg kj31
                                  case measure => have := HK1.out; have := HJ9.out; have := HJ31.out; omega
                                  case rel => exact ⟨(y120), (wrap64 (x13_1 + 1)), (by first | rfl | (simp; done) | (simp [*]; done) | (simp; exact Hand.isEmpty_ne _)), H', ⟨by have := HK1.out; have := HJ9.out; have := HJ31.out; omega⟩, ⟨by (with_reducible repeat (first | apply Kd.R_alloc | apply Kd.R_drewN | apply Kd.R_drew)); exact HO122.out⟩, ⟨by repeat (first | (with_reducible first | exact HB.out | apply below_alloc | apply pw_below_drewN | apply below_drew1) | exact HB.out)⟩⟩
                            · rw [if_neg c36] at H
                              have c36b0 : (x13_1 == (wrap64 ((y105.length : Int) - 1))) = false := by simpa using c36
                              (try (have c36b1 : decide (x13_1 = (wrap64 ((y105.length : Int) - 1))) = false := by simpa using c36))
                              (try (have c36b2 : (x13_1 == (wrap64 ((y105.length : Int) - 1))) = false := by simpa using c36))
                              (try (have c36b3 : ¬ (x13_1 = (wrap64 ((y105.length : Int) - 1))) := by simpa using c36))
                              clear c36
                              have H' := Aside0.mk H
                              clear H
                              go_wp2_with (first | ((with_reducible refine gate_builtin (b := .append) (xs := #[.tmp 43, .tmp 45]) rfl ?_); (try (refine gate_guard (by rfl) ?_; dsimp only)); at_builtin; refine Kd.R_append Kd.string (w0 := w4) w4.heap.size rfl (.tmp 43) (.tmp 45) 74 9 (.string ⟨#[]⟩) 16 rfl Tryd.underlying74 info9 rfl (by decide) (by omega) u4 x4_1 (rdOf ByteArray.empty y105 x13_1) [.string (rdOf ByteArray.empty y105 x13_1)] (fun _ => True) (fun _ => False) rfl rfl ?aP (fun _ hk => hk.elim) ?aF ?aO ?aB ?aS ?aL ?_; (case aP => exact rfl); (case aB => exact (by repeat (first | (with_reducible first | exact HB.out | apply below_alloc | apply pw_below_drewN | apply below_drew1) | exact HB.out))); (case aF => exact (fun _ _ => trivial)); (case aO => exact (by (with_reducible repeat (first | apply Kd.R_alloc | apply Kd.R_drewN | apply Kd.R_drew)); exact HO_4.out)); (case aS => exact (below_size (by repeat (first | (with_reducible first | exact HB.out | apply below_alloc | apply pw_below_drewN | apply below_drew1) | exact HB.out)))); (case aL => have := LMc35.out; omega); intro v121 w46 ho hb hg hat; rw [← Ny120.out] at ho; have n0_ := Aside0.mk (hb); have n1_ := Aside0.mk (ho); clear HB; clear HO_4; have HB := n0_; have HO122 := n1_; clear n0_ n1_; clear ho hb hg hat))
                              go_roundg kj31
                              case measure => have := HK1.out; have := HJ9.out; have := HJ31.out; omega
                              case rel => exact ⟨(y120), (wrap64 (x13_1 + 1)), (by first | rfl | (simp; done) | (simp [*]; done) | (simp; exact Hand.isEmpty_ne _)), H', ⟨by have := HK1.out; have := HJ9.out; have := HJ31.out; omega⟩, ⟨by (with_reducible repeat (first | apply Kd.R_alloc | apply Kd.R_drewN | apply Kd.R_drew)); exact HO122.out⟩, ⟨by repeat (first | (with_reducible first | exact HB.out | apply below_alloc | apply pw_below_drewN | apply below_drew1) | exact HB.out)⟩⟩
                          · rw [if_neg c35] at H
                            exact absurd H (by simp)
                        · replace c34 := Bool.eq_false_iff.mpr c34
                          subst c34
                          have H1 : (if (x13_1 == (wrap64 ((y105.length : Int) - 1))) = true then (if (rdOf ByteArray.empty y105 x13_1).toList = ([46] : List UInt8) then (if x4_1.length < 8796093022208 then (target_undotted.l0 kj31 y105 (x4_1 ++ [(⟨#[]⟩ : ByteArray)]) y105 (y105.length : Int) (wrap64 (x13_1 + 1))) else (none)) else (if (rdOf ByteArray.empty y105 x13_1).toList = ([46, 46] : List UInt8) then (if x4_1.length < 8796093022208 then (target_undotted.l0 kj31 y105 (x4_1 ++ [(⟨#[]⟩ : ByteArray)]) y105 (y105.length : Int) (wrap64 (x13_1 + 1))) else (none)) else (target_undotted.l0 kj31 y105 x4_1 y105 (y105.length : Int) (wrap64 (x13_1 + 1))))) else (target_undotted.l0 kj31 y105 x4_1 y105 (y105.length : Int) (wrap64 (x13_1 + 1)))) = some r := by rw [if_neg (show ¬ (false = true) by decide)] at H; exact H
                          clear H
                          have H := H1
                          clear H1
                          by_cases c47 : (x13_1 == (wrap64 ((y105.length : Int) - 1))) = true
                          · rw [if_pos c47] at H
                            have c47b0 : (x13_1 == (wrap64 ((y105.length : Int) - 1))) = true := c47
                            (try (have c47b1 : decide (x13_1 = (wrap64 ((y105.length : Int) - 1))) = true := by simpa using c47))
                            (try (have c47b2 : (x13_1 == (wrap64 ((y105.length : Int) - 1))) = true := by simpa using c47))
                            clear c47
                            by_cases c48 : (rdOf ByteArray.empty y105 x13_1).toList = ([46] : List UInt8)
                            · rw [if_pos c48] at H
                              have c48b0 : ((rdOf ByteArray.empty y105 x13_1).toList == ([46] : List UInt8)) = true := beq_iff_eq.mpr c48
                              have c48b1 : ((rdOf ByteArray.empty y105 x13_1).toList != ([46] : List UInt8)) = false := bne_eq_false_iff_eq.mpr c48
                              clear c48
                              by_cases c49 : x4_1.length < 8796093022208
                              · rw [if_pos c49] at H
                                have LMc49 := Aside0.mk c49
                                clear c49
                                obtain ⟨y129, hy129⟩ : ∃ y_ : List ByteArray, y_ = (x4_1 ++ [(⟨#[]⟩ : ByteArray)]) := ⟨_, rfl⟩
                                replace H : (target_undotted.l0 kj31 y105 y129 y105 (y105.length : Int) (wrap64 (x13_1 + 1))) = some r := by first | (rw [hy129]; with_reducible exact H) | (have H2_ := (Option.bind_some _ _).symm.trans H; rw [hy129]; with_reducible exact H2_) | (have H2_ := (Option.bind_some _ _).symm.trans H; with_reducible exact H2_) | with_reducible exact H | (rw [hy129]; exact H) | exact H
                                have Ny129 := Aside0.mk hy129
                                clear hy129
                                have H' := Aside0.mk H
                                clear H
                                go_wp2_with (first | ((with_reducible refine gate_builtin (b := .append) (xs := #[.tmp 56, .tmp 57]) rfl ?_); (try (refine gate_guard (by rfl) ?_; dsimp only)); at_builtin; refine Kd.R_append Kd.string (w0 := w4) w4.heap.size rfl (.tmp 56) (.tmp 57) 74 9 (.string ⟨#[]⟩) 16 rfl Tryd.underlying74 info9 rfl (by decide) (by omega) u4 x4_1 (⟨#[]⟩ : ByteArray) [.string (⟨#[]⟩ : ByteArray)] (fun _ => True) (fun _ => False) rfl rfl ?aP (fun _ hk => hk.elim) ?aF ?aO ?aB ?aS ?aL ?_; (case aP => exact rfl); (case aB => exact (by repeat (first | (with_reducible first | exact HB.out | apply below_alloc | apply pw_below_drewN | apply below_drew1) | exact HB.out))); (case aF => exact (fun _ _ => trivial)); (case aO => exact (by (with_reducible repeat (first | apply Kd.R_alloc | apply Kd.R_drewN | apply Kd.R_drew)); exact HO_4.out)); (case aS => exact (below_size (by repeat (first | (with_reducible first | exact HB.out | apply below_alloc | apply pw_below_drewN | apply below_drew1) | exact HB.out)))); (case aL => have := LMc49.out; omega); intro v130 w50 ho hb hg hat; rw [← Ny129.out] at ho; have n0_ := Aside0.mk (hb); have n1_ := Aside0.mk (ho); clear HB; clear HO_4; have HB := n0_; have HO131 := n1_; clear n0_ n1_; clear ho hb hg hat))
                                go_roundg kj31
                                case measure => have := HK1.out; have := HJ9.out; have := HJ31.out; omega
                                case rel => exact ⟨(y129), (wrap64 (x13_1 + 1)), (by first | rfl | (simp; done) | (simp [*]; done) | (simp; exact Hand.isEmpty_ne _)), H', ⟨by have := HK1.out; have := HJ9.out; have := HJ31.out; omega⟩, ⟨by (with_reducible repeat (first | apply Kd.R_alloc | apply Kd.R_drewN | apply Kd.R_drew)); exact HO131.out⟩, ⟨by repeat (first | (with_reducible first | exact HB.out | apply below_alloc | apply pw_below_drewN | apply below_drew1) | exact HB.out)⟩⟩
                              · rw [if_neg c49] at H
                                exact absurd H (by simp)
                            · rw [if_neg c48] at H
                              have c48b0 : ((rdOf ByteArray.empty y105 x13_1).toList == ([46] : List UInt8)) = false := beq_eq_false_iff_ne.mpr c48
                              have c48b1 : ((rdOf ByteArray.empty y105 x13_1).toList != ([46] : List UInt8)) = true := bne_iff_ne.mpr c48
                              by_cases c51 : (rdOf ByteArray.empty y105 x13_1).toList = ([46, 46] : List UInt8)
                              · rw [if_pos c51] at H
                                have c51b0 : ((rdOf ByteArray.empty y105 x13_1).toList == ([46, 46] : List UInt8)) = true := beq_iff_eq.mpr c51
                                have c51b1 : ((rdOf ByteArray.empty y105 x13_1).toList != ([46, 46] : List UInt8)) = false := bne_eq_false_iff_eq.mpr c51
                                clear c51
                                by_cases c52 : x4_1.length < 8796093022208
                                · rw [if_pos c52] at H
                                  have LMc52 := Aside0.mk c52
                                  clear c52
                                  obtain ⟨y132, hy132⟩ : ∃ y_ : List ByteArray, y_ = (x4_1 ++ [(⟨#[]⟩ : ByteArray)]) := ⟨_, rfl⟩
                                  replace H : (target_undotted.l0 kj31 y105 y132 y105 (y105.length : Int) (wrap64 (x13_1 + 1))) = some r := by first | (rw [hy132]; with_reducible exact H) | (have H2_ := (Option.bind_some _ _).symm.trans H; rw [hy132]; with_reducible exact H2_) | (have H2_ := (Option.bind_some _ _).symm.trans H; with_reducible exact H2_) | with_reducible exact H | (rw [hy132]; exact H) | exact H
                                  have Ny132 := Aside0.mk hy132
                                  clear hy132
                                  have H' := Aside0.mk H
                                  clear H
                                  go_wp2_with (first | ((with_reducible refine gate_builtin (b := .append) (xs := #[.tmp 56, .tmp 57]) rfl ?_); (try (refine gate_guard (by rfl) ?_; dsimp only)); at_builtin; refine Kd.R_append Kd.string (w0 := w4) w4.heap.size rfl (.tmp 56) (.tmp 57) 74 9 (.string ⟨#[]⟩) 16 rfl Tryd.underlying74 info9 rfl (by decide) (by omega) u4 x4_1 (⟨#[]⟩ : ByteArray) [.string (⟨#[]⟩ : ByteArray)] (fun _ => True) (fun _ => False) rfl rfl ?aP (fun _ hk => hk.elim) ?aF ?aO ?aB ?aS ?aL ?_; (case aP => exact rfl); (case aB => exact (by repeat (first | (with_reducible first | exact HB.out | apply below_alloc | apply pw_below_drewN | apply below_drew1) | exact HB.out))); (case aF => exact (fun _ _ => trivial)); (case aO => exact (by (with_reducible repeat (first | apply Kd.R_alloc | apply Kd.R_drewN | apply Kd.R_drew)); exact HO_4.out)); (case aS => exact (below_size (by repeat (first | (with_reducible first | exact HB.out | apply below_alloc | apply pw_below_drewN | apply below_drew1) | exact HB.out)))); (case aL => have := LMc52.out; omega); intro v133 w53 ho hb hg hat; rw [← Ny132.out] at ho; have n0_ := Aside0.mk (hb); have n1_ := Aside0.mk (ho); clear HB; clear HO_4; have HB := n0_; have HO134 := n1_; clear n0_ n1_; clear ho hb hg hat))
                                  go_roundg kj31
                                  case measure => have := HK1.out; have := HJ9.out; have := HJ31.out; omega
                                  case rel => exact ⟨(y132), (wrap64 (x13_1 + 1)), (by first | rfl | (simp; done) | (simp [*]; done) | (simp; exact Hand.isEmpty_ne _)), H', ⟨by have := HK1.out; have := HJ9.out; have := HJ31.out; omega⟩, ⟨by (with_reducible repeat (first | apply Kd.R_alloc | apply Kd.R_drewN | apply Kd.R_drew)); exact HO134.out⟩, ⟨by repeat (first | (with_reducible first | exact HB.out | apply below_alloc | apply pw_below_drewN | apply below_drew1) | exact HB.out)⟩⟩
                                · rw [if_neg c52] at H
                                  exact absurd H (by simp)
                              · rw [if_neg c51] at H
                                have c51b0 : ((rdOf ByteArray.empty y105 x13_1).toList == ([46, 46] : List UInt8)) = false := beq_eq_false_iff_ne.mpr c51
                                have c51b1 : ((rdOf ByteArray.empty y105 x13_1).toList != ([46, 46] : List UInt8)) = true := bne_iff_ne.mpr c51
                                have H' := Aside0.mk H
                                clear H
                                go_wp2
                                go_roundg kj31
                                case measure => have := HK1.out; have := HJ9.out; have := HJ31.out; omega
                                case rel => exact ⟨(x4_1), (wrap64 (x13_1 + 1)), (by first | rfl | (simp; done) | (simp [*]; done) | (simp; exact Hand.isEmpty_ne _)), H', ⟨by have := HK1.out; have := HJ9.out; have := HJ31.out; omega⟩, ⟨by (with_reducible repeat (first | apply Kd.R_alloc | apply Kd.R_drewN | apply Kd.R_drew)); exact HO_4.out⟩, ⟨by repeat (first | (with_reducible first | exact HB.out | apply below_alloc | apply pw_below_drewN | apply below_drew1) | exact HB.out)⟩⟩
                          · rw [if_neg c47] at H
                            have c47b0 : (x13_1 == (wrap64 ((y105.length : Int) - 1))) = false := by simpa using c47
                            (try (have c47b1 : decide (x13_1 = (wrap64 ((y105.length : Int) - 1))) = false := by simpa using c47))
                            (try (have c47b2 : (x13_1 == (wrap64 ((y105.length : Int) - 1))) = false := by simpa using c47))
                            (try (have c47b3 : ¬ (x13_1 = (wrap64 ((y105.length : Int) - 1))) := by simpa using c47))
                            clear c47
                            have H' := Aside0.mk H
                            clear H
                            go_wp2
                            go_roundg kj31
                            case measure => have := HK1.out; have := HJ9.out; have := HJ31.out; omega
                            case rel => exact ⟨(x4_1), (wrap64 (x13_1 + 1)), (by first | rfl | (simp; done) | (simp [*]; done) | (simp; exact Hand.isEmpty_ne _)), H', ⟨by have := HK1.out; have := HJ9.out; have := HJ31.out; omega⟩, ⟨by (with_reducible repeat (first | apply Kd.R_alloc | apply Kd.R_drewN | apply Kd.R_drew)); exact HO_4.out⟩, ⟨by repeat (first | (with_reducible first | exact HB.out | apply below_alloc | apply pw_below_drewN | apply below_drew1) | exact HB.out)⟩⟩
            · rw [if_neg c9] at H
              exact absurd H (by simp)
          · rw [if_neg c8] at H
            exact absurd H (by simp)
        · rw [if_neg c7] at H
          have c7b0 : decide (x13_1 < (y105.length : Int)) = false := decide_eq_false c7
          clear c7
          replace H := Option.bind_eq_some_iff.mp H
          obtain ⟨t109, A540, H⟩ := H
          replace H : (if 1 + t109.size ≤ 9223372036854775807 then (some ((⟨#[47]⟩ : ByteArray) ++ t109)) else (none)) = some r := H
          have A54 := Aside0.mk A540
          clear A540
          by_cases c55 : 1 + t109.size ≤ 9223372036854775807
          · rw [if_pos c55] at H
            have c55b0 := eq_true c55
            have c55b1 : decide (1 + t109.size ≤ 9223372036854775807) = true := decide_eq_true c55
            try have c55b2 : (9223372036854775807 < 1 + t109.size) = False := eq_false (Nat.not_lt.2 c55)
            obtain rfl := Option.some.inj H
            obtain ⟨Ao56, co56, eo56⟩ := Kd.R_slice HO_4.out
            subst eo56
            go_wp2_with (first | ((with_reducible refine gate_callee (f := 44) rfl ?_); refine goesL_ (some 61) rfl rfl Tryd.func44 (by kernel_rfl) rfl #[.slice Ao56 x4_1.length co56, .string (⟨#[47]⟩ : ByteArray)] rfl (by (try simp only [List.map_toArray, List.map_cons, List.map_nil]); first | done | rfl | (simp only [List.length_drop, List.length_take]; rfl)) ?_; (with_reducible refine (strings_Join.calls _ _ x4_1 (⟨#[47]⟩ : ByteArray) t109 _ ?side1 ?side2 A54.out).mono ?_); (case side1 => repeat (first | exact (Kd.R_reads' HO_4.out).2.2 | (with_reducible refine Kd.C_alloc ?_ _) | (with_reducible refine Kd.C_drewN ?_ _) | (with_reducible refine Kd.C_drew ?_))); (case side2 => exact (Kd.R_reads' HO_4.out).2.1); rintro e w57 ⟨rfl, hb⟩; refine ⟨_, rfl, ?_⟩; have n0_ := Aside0.mk (Kd.R_below (by (with_reducible repeat (first | apply Kd.R_alloc | apply Kd.R_drewN | apply Kd.R_drew)); exact HO_4.out) hb); have n1_ := Aside0.mk (below_step (by repeat (first | (with_reducible first | exact HB.out | apply below_alloc | apply pw_below_drewN | apply below_drew1) | exact HB.out)) hb); clear HO_4; clear HB; have HO_4 := n0_; have HB := n1_; clear n0_ n1_; (try clear hb); (try clear hb2); (try clear hk); (try clear hi)))
            go_ret
            exact ⟨by first | rfl | (simp [errW_none, errW_some] <;> rfl) | (simp [*, errW_none, errW_some] <;> rfl), below_then HBw.out HBw.out.size (by repeat (first | (with_reducible first | exact HB.out | apply below_alloc | apply pw_below_drewN | apply below_drew1) | exact HB.out))⟩
          · rw [if_neg c55] at H
            exact absurd H (by simp)
  · rw [if_neg c3] at H
    exact absurd H (by simp)

end Go.Proofs.YtghaocjhmambaaaDoor.PR
