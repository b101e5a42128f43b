-- Out of the translation, by a program of this session: each function that a law comes to as a Lean function, and that the machine's call does what it says. Lean checks it.
import Derived.Test.YtmmmfippfoginaaDoorPR0
import Derived.Test.YtmmmfippfoginaaDoorPR2
import Derived.Test.YtmmmfippfoginaaDoorPR11
namespace Go.Proofs.YtmmmfippfoginaaDoor.PR
open Go.RowKit Go.Proofs.YtmmmfippfoginaaDoorW.PrintWords Go.Proofs.YtmmmfippfoginaaDoorW.PrintLast Go.Proofs.YtmmmfippfoginaaDoorW.PrintMore
attribute [local go_sem] max2_int min2_int max_two min_two max_three min_three max_four min_four   -- for this text's walks alone
set_option linter.unusedVariables false
set_option linter.unusedSimpArgs false

/-! ### depotref11_Encode: function 11 -/
mutual
def depotref11_Encode.j0 : Nat → ByteArray → Int → Bool → Option (ByteArray × Int)
  | 0, _, _, _ => none
  | k + 1, x0, x1, x13 => if x13 = true then (some ((⟨#[]⟩ : ByteArray), 2)) else (if (x0.size : Int) > 65536 then (some ((⟨#[]⟩ : ByteArray), 4)) else (depotref11_Encode.l0 k x0 x1 (⟨#[]⟩ : ByteArray)))
def depotref11_Encode.l0 : Nat → ByteArray → Int → ByteArray → Option (ByteArray × Int)
  | 0, _, _, _ => none
  | k + 1, x0, x1, x6 => if (x0.size : Int) > 0 then ((depotref02_Hex.f k (mn x1 (x0.size : Int))).bind fun t163 => (if x6.size + t163.size ≤ 9223372036854775807 then (if (x6 ++ t163).size + 2 ≤ 9223372036854775807 then (if 0 ≤ (mn x1 (x0.size : Int)) then (if (mn x1 (x0.size : Int)) ≤ (x0.size : Int) then (if ((x6 ++ t163) ++ (⟨#[13, 10]⟩ : ByteArray)).size + (x0.extract 0 ((mn x1 (x0.size : Int)) : Int).toNat).size ≤ 9223372036854775807 then (if (((x6 ++ t163) ++ (⟨#[13, 10]⟩ : ByteArray)) ++ (x0.extract 0 ((mn x1 (x0.size : Int)) : Int).toNat)).size + 2 ≤ 9223372036854775807 then (depotref11_Encode.l0 k (x0.extract ((mn x1 (x0.size : Int)) : Int).toNat x0.size) x1 ((((x6 ++ t163) ++ (⟨#[13, 10]⟩ : ByteArray)) ++ (x0.extract 0 ((mn x1 (x0.size : Int)) : Int).toNat)) ++ (⟨#[13, 10]⟩ : ByteArray))) else (none)) else (none)) else (none)) else (none)) else (none)) else (none))) else (if x6.size + 5 ≤ 9223372036854775807 then (some (x6 ++ (⟨#[48, 13, 10, 13, 10]⟩ : ByteArray), 0)) else (none))
end
def depotref11_Encode.f (k : Nat) (a0 : ByteArray) (a1 : Int) : Option (ByteArray × Int) := if a1 < 1 then (depotref11_Encode.j0 k a0 a1 true) else (depotref11_Encode.j0 k a0 a1 (decide (a1 > 65536)))
theorem depotref11_Encode.mono_l : ∀ k, (∀ y0 y1 y2, LeO (depotref11_Encode.j0 k y0 y1 y2) (depotref11_Encode.j0 (k + 1) y0 y1 y2)) ∧ (∀ y0 y1 y2, LeO (depotref11_Encode.l0 k y0 y1 y2) (depotref11_Encode.l0 (k + 1) y0 y1 y2))
  | 0 => ⟨fun _ _ _ r h => by simp [depotref11_Encode.j0] at h, fun _ _ _ r h => by simp [depotref11_Encode.l0] at h⟩
  | k + 1 => by
    obtain ⟨ih0, ih1⟩ := depotref11_Encode.mono_l k
    refine ⟨?_, ?_⟩
    · intro y0 y1 y2
      unfold depotref11_Encode.j0
      repeat' first
      | (with_reducible exact ih0 _ _ _)
      | (with_reducible exact ih1 _ _ _)
      | (with_reducible exact depotref02_Hex.mono _ _)
      | (with_reducible exact LeO.refl _)
      | (with_reducible exact LeO.none _)
      | (with_reducible refine LeO.ite ?_ ?_)
      | (with_reducible refine LeO.bind ?_ (fun _ => ?_))
      | exact ih0 _ _ _
      | exact ih1 _ _ _
      | exact depotref02_Hex.mono _ _
      | exact LeO.none _
      | refine LeO.ite ?_ ?_
      | refine LeO.bind ?_ (fun _ => ?_)
    · intro y0 y1 y2
      unfold depotref11_Encode.l0
      repeat' first
      | (with_reducible exact ih0 _ _ _)
      | (with_reducible exact ih1 _ _ _)
      | (with_reducible exact depotref02_Hex.mono _ _)
      | (with_reducible exact LeO.refl _)
      | (with_reducible exact LeO.none _)
      | (with_reducible refine LeO.ite ?_ ?_)
      | (with_reducible refine LeO.bind ?_ (fun _ => ?_))
      | exact ih0 _ _ _
      | exact ih1 _ _ _
      | exact depotref02_Hex.mono _ _
      | exact LeO.none _
      | refine LeO.ite ?_ ?_
      | refine LeO.bind ?_ (fun _ => ?_)
theorem depotref11_Encode.mono : ∀ a0 a1 k, LeO (depotref11_Encode.f k a0 a1) (depotref11_Encode.f (k + 1) a0 a1) := by
  intro a0 a1 k
  obtain ⟨ih0, ih1⟩ := depotref11_Encode.mono_l k
  unfold depotref11_Encode.f
  repeat' first
      | (with_reducible exact ih0 _ _ _)
      | (with_reducible exact ih1 _ _ _)
      | (with_reducible exact depotref02_Hex.mono _ _)
      | (with_reducible exact LeO.refl _)
      | (with_reducible exact LeO.none _)
      | (with_reducible refine LeO.ite ?_ ?_)
      | (with_reducible refine LeO.bind ?_ (fun _ => ?_))
      | exact ih0 _ _ _
      | exact ih1 _ _ _
      | exact depotref02_Hex.mono _ _
      | exact LeO.none _
      | refine LeO.ite ?_ ?_
      | refine LeO.bind ?_ (fun _ => ?_)
set_option maxHeartbeats 8000000 in
set_option maxRecDepth 100000 in
theorem depotref11_Encode.calls (k : Nat) (a0 : ByteArray) (a1 : Int) (r1 : ByteArray) (r2 : Int) (w : World) (h : depotref11_Encode.f k a0 a1 = some (r1, r2)) :
    Calls Tryd.prog 11 #[.string a0, .int .i64 a1] w fun e w' => e = .returned (.tuple #[.string r1, .int .i64 r2]) ∧ Below w.heap.size w w' := by
  have HB := Aside0.mk (Below.refl w.heap.size w)
  have H : (if a1 < 1 then (depotref11_Encode.j0 k a0 a1 true) else (depotref11_Encode.j0 k a0 a1 (decide (a1 > 65536)))) = some (r1, r2) := h
  clear h
  have HC3 := Aside0.mk H
  clear H
  go_enter Tryd.func11, Tryd.ntmps11
  go_upto_region 1 with (fail)
  repeat (go_quiet (fail); go_upto_region 1 with (fail))
  go_cut [13] (fun v13 wc => ∃ (kq : Nat) (x13_2 : Bool), v13 = .bool x13_2 ∧ Aside0 (depotref11_Encode.j0 kq a0 a1 x13_2 = some (r1, r2)) ∧ Aside0 (kq ≤ k) ∧ Aside0 (Below w.heap.size w wc))
  case first =>
    have H := HC3.out
    clear HC3
    by_cases c4 : a1 < 1
    · rw [if_pos c4] at H
      have c4b0 : decide (a1 < 1) = true := decide_eq_true c4
      clear c4
      (first | rw [c4b0] | (simp only [i64_w, i32_w]; rw [c4b0]) | skip)
      have H' := Aside0.mk H
      clear H
      go_wp2
      repeat (go_quiet (fail); try go_wp2)
      go_meet
      case rel => exact ⟨_, (true), (by first | rfl | (simp; done) | (simp [*]; done)), H', ⟨by first | omega | exact Nat.le_refl _⟩, ⟨by repeat (first | (with_reducible first | exact HB.out | apply below_alloc | apply pw_below_drewN | apply below_drew1) | exact HB.out)⟩⟩
    · rw [if_neg c4] at H
      have c4b0 : decide (a1 < 1) = false := decide_eq_false c4
      clear c4
      (first | rw [c4b0] | (simp only [i64_w, i32_w]; rw [c4b0]) | skip)
      have H' := Aside0.mk H
      clear H
      go_wp2
      repeat (go_quiet (fail); try go_wp2)
      go_meet
      case rel => exact ⟨_, (decide (a1 > 65536)), (by first | rfl | (simp; done) | (simp [*]; done)), H', ⟨by first | omega | exact Nat.le_refl _⟩, ⟨by repeat (first | (with_reducible first | exact HB.out | apply below_alloc | apply pw_below_drewN | apply below_drew1) | exact HB.out)⟩⟩
  case rest =>
    clear HC3
    try clear c1
    try clear p2
    try clear c4
    try clear c4b0
    obtain ⟨kq, x13_2, rfl, HA, HJ2, HB⟩ := hcut
    cases kq with
    | zero => exact absurd HA.out (by simp [depotref11_Encode.j0])
    | succ kj2 =>
      have H := HA.out
      clear HA
      simp only [depotref11_Encode.j0] at H
      by_cases c5 : x13_2 = true
      · subst c5
        have H1 : (some ((⟨#[]⟩ : ByteArray), 2)) = some (r1, r2) := by rw [if_pos rfl] at H; exact H
        clear H
        have H := H1
        clear H1
        simp only [Option.some.injEq, Prod.mk.injEq] at H
        obtain ⟨rfl, rfl⟩ := H
        go_wp2
        repeat (go_quiet (fail); try go_wp2)
        go_ret2
        exact ⟨by first | rfl | (simp [errW_none, errW_some] <;> rfl) | (simp [*, errW_none, errW_some] <;> rfl), by repeat (first | (with_reducible first | exact HB.out | apply below_alloc | apply pw_below_drewN | apply below_drew1) | exact HB.out)⟩
      · replace c5 := Bool.eq_false_iff.mpr c5
        subst c5
        have H1 : (if (a0.size : Int) > 65536 then (some ((⟨#[]⟩ : ByteArray), 4)) else (depotref11_Encode.l0 kj2 a0 a1 (⟨#[]⟩ : ByteArray))) = some (r1, r2) := by rw [if_neg (show ¬ (false = true) by decide)] at H; exact H
        clear H
        have H := H1
        clear H1
        by_cases c6 : (a0.size : Int) > 65536
        · rw [if_pos c6] at H
          have c6b0 : decide (65536 < (a0.size : Int)) = true := decide_eq_true c6
          have c6b1 : decide (65536 < a0.size) = true := decide_eq_true (by omega)
          clear c6
          simp only [Option.some.injEq, Prod.mk.injEq] at H
          obtain ⟨rfl, rfl⟩ := H
          go_wp2
          repeat (go_quiet (fail); try go_wp2)
          go_ret2
          exact ⟨by first | rfl | (simp [errW_none, errW_some] <;> rfl) | (simp [*, errW_none, errW_some] <;> rfl), by repeat (first | (with_reducible first | exact HB.out | apply below_alloc | apply pw_below_drewN | apply below_drew1) | exact HB.out)⟩
        · rw [if_neg c6] at H
          have c6b0 : decide (65536 < (a0.size : Int)) = false := decide_eq_false c6
          have c6b1 : decide (65536 < a0.size) = false := decide_eq_false (by omega)
          clear c6
          have H' := Aside0.mk H
          clear H
          go_wp2
          repeat (go_quiet (fail); try go_wp2)
          go_loopg [0, 6] kj2 (fun kq v0 v6 w' => ∃ (x0_2 : ByteArray) (x6_2 : ByteArray), v0 = .string x0_2 ∧ v6 = .string x6_2 ∧ Aside0 (depotref11_Encode.l0 kq x0_2 a1 x6_2 = some (r1, r2)) ∧ Aside0 (kq ≤ kj2) ∧ Aside0 (Below w.heap.size w w'))
          case atStart => exact ⟨(a0), ((⟨#[]⟩ : ByteArray)), (by first | rfl | (simp; done) | (simp [*]; done)), (by first | rfl | (simp; done) | (simp [*]; done)), H', ⟨Nat.le_refl _⟩, ⟨by repeat (first | (with_reducible first | exact HB.out | apply below_alloc | apply pw_below_drewN | apply below_drew1) | exact HB.out)⟩⟩
          case round =>
            clear H'
            try clear c1
            try clear p2
            try clear c4
            try clear c4b0
            try clear c5
            try clear c6
            try clear c6b0
            try clear c6b1
            try clear p2
            obtain ⟨x0_2, x6_2, rfl, rfl, HA, HK2, HB⟩ := hrel
            cases gk with
            | zero => exact absurd HA.out (by simp [depotref11_Encode.l0])
            | succ k2 =>
              have H := HA.out
              clear HA
              simp only [depotref11_Encode.l0] at H
              by_cases c7 : (x0_2.size : Int) > 0
              · rw [if_pos c7] at H
                have c7b0 : decide (0 < (x0_2.size : Int)) = true := decide_eq_true c7
                have c7b1 : decide (0 < x0_2.size) = true := decide_eq_true (by omega)
                clear c7
                obtain ⟨ji8, hji8⟩ : ∃ j_ : Int, (mn a1 (x0_2.size : Int)) = j_ := ⟨_, rfl⟩
                replace H : ((depotref02_Hex.f k2 (ji8)).bind fun t163 => (if x6_2.size + t163.size ≤ 9223372036854775807 then (if (x6_2 ++ t163).size + 2 ≤ 9223372036854775807 then (if 0 ≤ (ji8) then (if (ji8) ≤ (x0_2.size : Int) then (if ((x6_2 ++ t163) ++ (⟨#[13, 10]⟩ : ByteArray)).size + (x0_2.extract 0 ((ji8) : Int).toNat).size ≤ 9223372036854775807 then (if (((x6_2 ++ t163) ++ (⟨#[13, 10]⟩ : ByteArray)) ++ (x0_2.extract 0 ((ji8) : Int).toNat)).size + 2 ≤ 9223372036854775807 then (depotref11_Encode.l0 k2 (x0_2.extract ((ji8) : Int).toNat x0_2.size) a1 ((((x6_2 ++ t163) ++ (⟨#[13, 10]⟩ : ByteArray)) ++ (x0_2.extract 0 ((ji8) : Int).toNat)) ++ (⟨#[13, 10]⟩ : ByteArray))) else (none)) else (none)) else (none)) else (none)) else (none)) else (none))) = some (r1, r2) := by first | (rw [hji8] at H; exact H) | (simp only [hji8] at H ⊢; exact H)
                have hji8_ : (if (x0_2.size : Int) < a1 then (x0_2.size : Int) else a1) = ji8 := hji8
                replace H := Option.bind_eq_some_iff.mp H
                obtain ⟨t163, A90, H⟩ := H
                replace H : (if x6_2.size + t163.size ≤ 9223372036854775807 then (if (x6_2 ++ t163).size + 2 ≤ 9223372036854775807 then (if 0 ≤ (ji8) then (if (ji8) ≤ (x0_2.size : Int) then (if ((x6_2 ++ t163) ++ (⟨#[13, 10]⟩ : ByteArray)).size + (x0_2.extract 0 ((ji8) : Int).toNat).size ≤ 9223372036854775807 then (if (((x6_2 ++ t163) ++ (⟨#[13, 10]⟩ : ByteArray)) ++ (x0_2.extract 0 ((ji8) : Int).toNat)).size + 2 ≤ 9223372036854775807 then (depotref11_Encode.l0 k2 (x0_2.extract ((ji8) : Int).toNat x0_2.size) a1 ((((x6_2 ++ t163) ++ (⟨#[13, 10]⟩ : ByteArray)) ++ (x0_2.extract 0 ((ji8) : Int).toNat)) ++ (⟨#[13, 10]⟩ : ByteArray))) else (none)) else (none)) else (none)) else (none)) else (none)) else (none)) = some (r1, r2) := H
                have A9 := Aside0.mk A90
                clear A90
                by_cases c10 : x6_2.size + t163.size ≤ 9223372036854775807
                · rw [if_pos c10] at H
                  have c10b0 := eq_true c10
                  have c10b1 : decide (x6_2.size + t163.size ≤ 9223372036854775807) = true := decide_eq_true c10
                  try have c10b2 : (9223372036854775807 < x6_2.size + t163.size) = False := eq_false (Nat.not_lt.2 c10)
                  by_cases c11 : (x6_2 ++ t163).size + 2 ≤ 9223372036854775807
                  · rw [if_pos c11] at H
                    have c11b0 := eq_true c11
                    have c11b1 : decide ((x6_2 ++ t163).size + 2 ≤ 9223372036854775807) = true := decide_eq_true c11
                    try have c11b2 : (9223372036854775807 < (x6_2 ++ t163).size + 2) = False := eq_false (Nat.not_lt.2 c11)
                    try have c11b3 := c11b2
                    try conv at c11b3 => lhs; simp only [ByteArray.size_append]
                    by_cases c12 : 0 ≤ (ji8)
                    · rw [if_pos c12] at H
                      have c12b0 := eq_true c12
                      have c12b1 : decide (0 ≤ (ji8)) = true := decide_eq_true c12
                      clear c12
                      by_cases c13 : (ji8) ≤ (x0_2.size : Int)
                      · rw [if_pos c13] at H
                        have c13b0 := eq_true c13
                        have c13b1 : decide ((ji8) ≤ (x0_2.size : Int)) = true := decide_eq_true c13
                        clear c13
                        by_cases c14 : ((x6_2 ++ t163) ++ (⟨#[13, 10]⟩ : ByteArray)).size + (x0_2.extract 0 ((ji8) : Int).toNat).size ≤ 9223372036854775807
                        · rw [if_pos c14] at H
                          have c14b0 := eq_true c14
                          have c14b1 : decide (((x6_2 ++ t163) ++ (⟨#[13, 10]⟩ : ByteArray)).size + (x0_2.extract 0 ((ji8) : Int).toNat).size ≤ 9223372036854775807) = true := decide_eq_true c14
                          (try (have c14b20 := c14b0; simp only [ByteArray.size_extract] at c14b20))
                          (try (have c14b21 := c14b1; simp only [ByteArray.size_extract] at c14b21))
                          try have c14b2 : (9223372036854775807 < ((x6_2 ++ t163) ++ (⟨#[13, 10]⟩ : ByteArray)).size + (x0_2.extract 0 ((ji8) : Int).toNat).size) = False := eq_false (Nat.not_lt.2 c14)
                          try have c14b3 := c14b2
                          try conv at c14b3 => lhs; simp only [ByteArray.size_append, show (⟨#[13, 10]⟩ : ByteArray).size = 2 from rfl]
                          try have c14b4 := c14b3
                          try conv at c14b4 => lhs; simp only [ByteArray.size_extract, Nat.sub_zero]
                          (try (have c14b5 := c14b4; rw [Nat.min_eq_left] at c14b5; rotate_left; exact Int.toNat_le.2 (of_decide_eq_true (by assumption))))
                          by_cases c15 : (((x6_2 ++ t163) ++ (⟨#[13, 10]⟩ : ByteArray)) ++ (x0_2.extract 0 ((ji8) : Int).toNat)).size + 2 ≤ 9223372036854775807
                          · rw [if_pos c15] at H
                            have c15b0 := eq_true c15
                            have c15b1 : decide ((((x6_2 ++ t163) ++ (⟨#[13, 10]⟩ : ByteArray)) ++ (x0_2.extract 0 ((ji8) : Int).toNat)).size + 2 ≤ 9223372036854775807) = true := decide_eq_true c15
                            (try (have c15b20 := c15b0; simp only [ByteArray.size_extract] at c15b20))
                            (try (have c15b21 := c15b1; simp only [ByteArray.size_extract] at c15b21))
                            try have c15b2 : (9223372036854775807 < (((x6_2 ++ t163) ++ (⟨#[13, 10]⟩ : ByteArray)) ++ (x0_2.extract 0 ((ji8) : Int).toNat)).size + 2) = False := eq_false (Nat.not_lt.2 c15)
                            try have c15b3 := c15b2
                            try conv at c15b3 => lhs; simp only [ByteArray.size_append, show (⟨#[13, 10]⟩ : ByteArray).size = 2 from rfl]
                            try have c15b4 := c15b3
                            try conv at c15b4 => lhs; simp only [ByteArray.size_extract, Nat.sub_zero]
                            (try (have c15b5 := c15b4; rw [Nat.min_eq_left] at c15b5; rotate_left; exact Int.toNat_le.2 (of_decide_eq_true (by assumption))))
                            have c16b0 := eq_true (of_decide_eq_true (by first | (with_reducible assumption) | assumption) : 0 ≤ (ji8))
                            have c17b0 := eq_true (of_decide_eq_true (by first | (with_reducible assumption) | assumption) : (ji8) ≤ (x0_2.size : Int))
                            have H' := Aside0.mk H
                            clear H
                            go_wp2_with (first | (go_at_call 21; (with_reducible refine (depotref02_Hex.calls k2 ji8 t163 _ A9.out).mono ?_); rintro e w' ⟨rfl, ⟨nd, rfl⟩⟩; (try first | exact ⟨rfl, _, World.drewN_drewN _ _ _⟩ | exact ⟨rfl, _, Eq.trans (World.drewN_drewN _ _ _) (congrArg (World.drewN _) (Nat.add_assoc _ _ _))⟩)))
                            repeat (go_quiet (first | (go_at_call 21; (with_reducible refine (depotref02_Hex.calls k2 ji8 t163 _ A9.out).mono ?_); rintro e w' ⟨rfl, ⟨nd, rfl⟩⟩; (try first | exact ⟨rfl, _, World.drewN_drewN _ _ _⟩ | exact ⟨rfl, _, Eq.trans (World.drewN_drewN _ _ _) (congrArg (World.drewN _) (Nat.add_assoc _ _ _))⟩))); try go_wp2_with (first | (go_at_call 21; (with_reducible refine (depotref02_Hex.calls k2 ji8 t163 _ A9.out).mono ?_); rintro e w' ⟨rfl, ⟨nd, rfl⟩⟩; (try first | exact ⟨rfl, _, World.drewN_drewN _ _ _⟩ | exact ⟨rfl, _, Eq.trans (World.drewN_drewN _ _ _) (congrArg (World.drewN _) (Nat.add_assoc _ _ _))⟩))))
                            go_roundg k2
                            case measure => have := HJ2.out; have := HK2.out; omega
                            case rel => exact ⟨(x0_2.extract ((ji8) : Int).toNat x0_2.size), ((((x6_2 ++ t163) ++ (⟨#[13, 10]⟩ : ByteArray)) ++ (x0_2.extract 0 ((ji8) : Int).toNat)) ++ (⟨#[13, 10]⟩ : ByteArray)), (by first | rfl | (simp; done) | (simp only [← hji8] <;> (first | rfl | simp)) | (simp [*]; done)), (by first | rfl | (simp; done) | (simp only [← hji8] <;> (first | rfl | simp)) | (simp [*]; done)), H', ⟨by have := HJ2.out; have := HK2.out; omega⟩, ⟨by repeat (first | (with_reducible first | exact HB.out | apply below_alloc | apply pw_below_drewN | apply below_drew1) | exact HB.out)⟩⟩
                          · rw [if_neg c15] at H
                            exact absurd H (by simp)
                        · rw [if_neg c14] at H
                          exact absurd H (by simp)
                      · rw [if_neg c13] at H
                        exact absurd H (by simp)
                    · rw [if_neg c12] at H
                      exact absurd H (by simp)
                  · rw [if_neg c11] at H
                    exact absurd H (by simp)
                · rw [if_neg c10] at H
                  exact absurd H (by simp)
              · rw [if_neg c7] at H
                have c7b0 : decide (0 < (x0_2.size : Int)) = false := decide_eq_false c7
                have c7b1 : decide (0 < x0_2.size) = false := decide_eq_false (by omega)
                clear c7
                by_cases c18 : x6_2.size + 5 ≤ 9223372036854775807
                · rw [if_pos c18] at H
                  have c18b0 := eq_true c18
                  have c18b1 : decide (x6_2.size + 5 ≤ 9223372036854775807) = true := decide_eq_true c18
                  try have c18b2 : (9223372036854775807 < x6_2.size + 5) = False := eq_false (Nat.not_lt.2 c18)
                  simp only [Option.some.injEq, Prod.mk.injEq] at H
                  obtain ⟨rfl, rfl⟩ := H
                  go_wp2
                  repeat (go_quiet (fail); try go_wp2)
                  go_ret2
                  exact ⟨by first | rfl | (simp [errW_none, errW_some] <;> rfl) | (simp [*, errW_none, errW_some] <;> rfl), by repeat (first | (with_reducible first | exact HB.out | apply below_alloc | apply pw_below_drewN | apply below_drew1) | exact HB.out)⟩
                · rw [if_neg c18] at H
                  exact absurd H (by simp)

/-! ### depotlaw11_ChunkEncodes: function 4 -/
def depotlaw11_ChunkEncodes.f (k : Nat) (a0 : ByteArray) (a1 : Int) : Option (Bool) := if (a0.size : Int) > 2000 then ((depotlaw11_chunks.f k).bind fun t164 => (some t164)) else ((chunk_Encode.f k a0 a1).bind fun bt165 => ((depotref11_Encode.f k a0 a1).bind fun bt167 => (if bt165.1.toList = bt167.1.toList then (if bt165.2 = bt167.2 then ((depotlaw11_chunks.f k).bind fun t169 => (some t169)) else (some false)) else (some false))))
theorem depotlaw11_ChunkEncodes.mono : ∀ a0 a1 k, LeO (depotlaw11_ChunkEncodes.f k a0 a1) (depotlaw11_ChunkEncodes.f (k + 1) a0 a1) := by
  intro a0 a1 k
  unfold depotlaw11_ChunkEncodes.f
  repeat' first
      | (with_reducible exact chunk_Encode.mono _ _ _)
      | (with_reducible exact depotlaw11_chunks.mono _)
      | (with_reducible exact depotref11_Encode.mono _ _ _)
      | (with_reducible exact LeO.refl _)
      | (with_reducible exact LeO.none _)
      | (with_reducible refine LeO.ite ?_ ?_)
      | (with_reducible refine LeO.bind ?_ (fun _ => ?_))
      | exact chunk_Encode.mono _ _ _
      | exact depotlaw11_chunks.mono _
      | exact depotref11_Encode.mono _ _ _
      | exact LeO.none _
      | refine LeO.ite ?_ ?_
      | refine LeO.bind ?_ (fun _ => ?_)
set_option maxHeartbeats 8000000 in
set_option maxRecDepth 100000 in
theorem depotlaw11_ChunkEncodes.calls (k : Nat) (a0 : ByteArray) (a1 : Int) (r : Bool) (w : World) (HTRUE : Aside0 (r = true)) (HT : Aside0 (Hand.Laid w)) (h : depotlaw11_ChunkEncodes.f k a0 a1 = some r) :
    Calls Tryd.prog 4 #[.string a0, .int .i64 a1] w fun e w' => e = .returned (.bool r) ∧ Below w.heap.size w w' := by
  have HB := Aside0.mk (Below.refl w.heap.size w)
  have H : (if (a0.size : Int) > 2000 then ((depotlaw11_chunks.f k).bind fun t164 => (some t164)) else ((chunk_Encode.f k a0 a1).bind fun bt165 => ((depotref11_Encode.f k a0 a1).bind fun bt167 => (if bt165.1.toList = bt167.1.toList then (if bt165.2 = bt167.2 then ((depotlaw11_chunks.f k).bind fun t169 => (some t169)) else (some false)) else (some false))))) = some r := h
  clear h
  by_cases c3 : (a0.size : Int) > 2000
  · rw [if_pos c3] at H
    have c3b0 : decide (2000 < (a0.size : Int)) = true := decide_eq_true c3
    have c3b1 : decide (2000 < a0.size) = true := decide_eq_true (by omega)
    clear c3
    replace H := Option.bind_eq_some_iff.mp H
    obtain ⟨t164, A40, H⟩ := H
    replace H : (some t164) = some r := H
    have A4 := Aside0.mk A40
    clear A40
    obtain rfl := Option.some.inj H
    go_enter Tryd.func4, Tryd.ntmps4
    go_wp2_with (first | ((with_reducible refine gate_callee (f := 7) rfl ?_); refine goesL_ (some 12) rfl rfl Tryd.func7 (by kernel_rfl) rfl #[] rfl (by (try simp only [List.map_toArray, List.map_cons, List.map_nil]); first | done | rfl | (simp only [List.length_drop, List.length_take]; rfl)) ?_; (with_reducible refine (depotlaw11_chunks.calls k  t164 _ ?side2 ?side1 A4.out).mono ?_); (case side1 => first | exact HT | exact ⟨Hand.Laid.below HT.out (by repeat (first | (with_reducible first | exact HB.out | apply below_alloc | apply pw_below_drewN | apply below_drew1) | exact HB.out))⟩); (case side2 => first | exact ⟨rfl⟩ | exact HTRUE); rintro e w5 ⟨rfl, hb⟩; refine ⟨_, rfl, ?_⟩; have n0_ := Aside0.mk (below_step (by repeat (first | (with_reducible first | exact HB.out | apply below_alloc | apply pw_below_drewN | apply below_drew1) | exact HB.out)) hb); clear HB; have HB := n0_; clear n0_; (try clear hb); (try clear hb2); (try clear hk); (try clear hi)))
    go_ret
    exact ⟨by first | rfl | (simp [errW_none, errW_some] <;> rfl) | (simp [*, errW_none, errW_some] <;> rfl), by repeat (first | (with_reducible first | exact HB.out | apply below_alloc | apply pw_below_drewN | apply below_drew1) | exact HB.out)⟩
  · rw [if_neg c3] at H
    have c3b0 : decide (2000 < (a0.size : Int)) = false := decide_eq_false c3
    have c3b1 : decide (2000 < a0.size) = false := decide_eq_false (by omega)
    clear c3
    replace H := Option.bind_eq_some_iff.mp H
    obtain ⟨⟨t165, t166⟩, A60, H⟩ := H
    replace H : ((depotref11_Encode.f k a0 a1).bind fun bt167 => (if t165.toList = bt167.1.toList then (if t166 = bt167.2 then ((depotlaw11_chunks.f k).bind fun t169 => (some t169)) else (some false)) else (some false))) = some r := H
    have A6 := Aside0.mk A60
    clear A60
    replace H := Option.bind_eq_some_iff.mp H
    obtain ⟨⟨t167, t168⟩, A70, H⟩ := H
    replace H : (if t165.toList = t167.toList then (if t166 = t168 then ((depotlaw11_chunks.f k).bind fun t169 => (some t169)) else (some false)) else (some false)) = some r := H
    have A7 := Aside0.mk A70
    clear A70
    by_cases c8 : t165.toList = t167.toList
    · rw [if_pos c8] at H
      have c8b0 : (t165.toList == t167.toList) = true := beq_iff_eq.mpr c8
      have c8b1 : (t165.toList != t167.toList) = false := bne_eq_false_iff_eq.mpr c8
      clear c8
      by_cases c9 : t166 = t168
      · rw [if_pos c9] at H
        have c9b0 : (t166 == t168) = true := beq_iff_eq.mpr c9
        have c9b1 : (t166 != t168) = false := bne_eq_false_iff_eq.mpr c9
        clear c9
        replace H := Option.bind_eq_some_iff.mp H
        obtain ⟨t169, A100, H⟩ := H
        replace H : (some t169) = some r := H
        have A10 := Aside0.mk A100
        clear A100
        obtain rfl := Option.some.inj H
        go_enter Tryd.func4, Tryd.ntmps4
        go_wp2_with (first | ((with_reducible refine gate_callee (f := 10) rfl ?_); refine goesL_ (some 16) rfl rfl Tryd.func10 (by kernel_rfl) rfl #[.string a0, .int .i64 a1] rfl (by (try simp only [List.map_toArray, List.map_cons, List.map_nil]); first | done | rfl | (simp only [List.length_drop, List.length_take]; rfl)) ?_; (with_reducible refine (chunk_Encode.calls k a0 a1 t165 t166 _ A6.out).mono ?_); rintro e w11 ⟨rfl, hb⟩; refine ⟨_, rfl, ?_⟩; have n0_ := Aside0.mk (below_step (by repeat (first | (with_reducible first | exact HB.out | apply below_alloc | apply pw_below_drewN | apply below_drew1) | exact HB.out)) hb); clear HB; have HB := n0_; clear n0_; (try clear hb); (try clear hb2); (try clear hk); (try clear hi)) | ((with_reducible refine gate_callee (f := 11) rfl ?_); refine goesL_ (some 22) rfl rfl Tryd.func11 (by kernel_rfl) rfl #[.string a0, .int .i64 a1] rfl (by (try simp only [List.map_toArray, List.map_cons, List.map_nil]); first | done | rfl | (simp only [List.length_drop, List.length_take]; rfl)) ?_; (with_reducible refine (depotref11_Encode.calls k a0 a1 t167 t168 _ A7.out).mono ?_); rintro e w12 ⟨rfl, hb⟩; refine ⟨_, rfl, ?_⟩; have n0_ := Aside0.mk (below_step (by repeat (first | (with_reducible first | exact HB.out | apply below_alloc | apply pw_below_drewN | apply below_drew1) | exact HB.out)) hb); clear HB; have HB := n0_; clear n0_; (try clear hb); (try clear hb2); (try clear hk); (try clear hi)) | (go_at_call 7; (with_reducible refine (depotlaw11_chunks.calls k  t169 _ ?side2 ?side1 A10.out).mono ?_); (case side1 => first | exact HT | exact ⟨Hand.Laid.below HT.out (by repeat (first | (with_reducible first | exact HB.out | apply below_alloc | apply pw_below_drewN | apply below_drew1) | exact HB.out))⟩); (case side2 => first | exact ⟨rfl⟩ | exact HTRUE); rintro e w13 ⟨rfl, hb⟩; have n0_ := Aside0.mk (below_step (by repeat (first | (with_reducible first | exact HB.out | apply below_alloc | apply pw_below_drewN | apply below_drew1) | exact HB.out)) hb); clear HB; have HB := n0_; clear n0_; (try clear hb); (try clear hb2); (try clear hk); (try clear hi)))
        go_ret
        exact ⟨by first | rfl | (simp [errW_none, errW_some] <;> rfl) | (simp [*, errW_none, errW_some] <;> rfl), by repeat (first | (with_reducible first | exact HB.out | apply below_alloc | apply pw_below_drewN | apply below_drew1) | exact HB.out)⟩
      · rw [if_neg c9] at H
        have c9b0 : (t166 == t168) = false := beq_eq_false_iff_ne.mpr c9
        have c9b1 : (t166 != t168) = true := bne_iff_ne.mpr c9
        obtain rfl := Option.some.inj H
        exact absurd HTRUE.out (by decide)
    · rw [if_neg c8] at H
      have c8b0 : (t165.toList == t167.toList) = false := beq_eq_false_iff_ne.mpr c8
      have c8b1 : (t165.toList != t167.toList) = true := bne_iff_ne.mpr c8
      obtain rfl := Option.some.inj H
      exact absurd HTRUE.out (by decide)

end Go.Proofs.YtmmmfippfoginaaDoor.PR
