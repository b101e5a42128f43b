-- Out of the translation, by a program of this session: each function that a law comes to as a Lean function, and that the machine's call does what it says. Lean checks it.
import Derived.Test.YtjaklgikfcahdaaGreatDoorPV0
import Derived.Test.YtjaklgikfcahdaaGreatDoorPV9
import Derived.Test.YtjaklgikfcahdaaGreatDoorPV10
import Derived.Test.YtjaklgikfcahdaaGreatDoorPV11
import Derived.Test.YtjaklgikfcahdaaGreatDoorPV12
import Derived.Test.YtjaklgikfcahdaaGreatDoorPV15
import Derived.Test.YtjaklgikfcahdaaGreatDoorPV18
import Derived.Test.YtjaklgikfcahdaaGreatDoorPV19
namespace Go.Proofs.YtjaklgikfcahdaaGreatDoor.PV
open Go.RowKit Go.Proofs.YtjaklgikfcahdaaGreatDoorW.PrintWords Go.Proofs.YtjaklgikfcahdaaGreatDoorW.PrintLast Go.Proofs.YtjaklgikfcahdaaGreatDoorW.PrintMore
attribute [local go_sem] max2_int min2_int max_two min_two max_three min_three max_four min_four   -- for this text's walks alone
set_option linter.unusedVariables false
set_option linter.unusedSimpArgs false

/-! ### depotref10_Status: function 42 -/
def depotref10_Status.j0 : Nat → ByteArray → Bool → Option (Int × ByteArray × Int × Int)
  | 0, _, _ => none
  | k + 1, x0, x29 => if x29 = true then (some (0, (⟨#[]⟩ : ByteArray), 0, 20)) else (if 9 ≤ 12 then (if 12 ≤ (x0.size : Int) then ((depotref02_Number.f k (x0.extract 9 12) 599).bind fun bt295 => (if bt295.2 = 0 then (if bt295.1 < 100 then (some (0, (⟨#[]⟩ : ByteArray), 0, 20)) else (if 13 ≤ (x0.size : Int) then ((depotref01_IsText.f k (x0.extract 13 x0.size)).bind fun t297 => (if t297 = true then (if 0 ≤ 8 then (if 8 ≤ (x0.size : Int) then ((depotref10_version.f (x0.extract 0 8)).bind fun t298 => (some (bt295.1, x0.extract 13 x0.size, t298, 0))) else (none)) else (none)) else (some (0, (⟨#[]⟩ : ByteArray), 0, 20)))) else (none))) else (some (0, (⟨#[]⟩ : ByteArray), 0, 20)))) else (none)) else (none))
def depotref10_Status.f (k : Nat) (a0 : ByteArray) : Option (Int × ByteArray × Int × Int) := if (a0.size : Int) > 8192 then (some (0, (⟨#[]⟩ : ByteArray), 0, 4)) else (if (a0.size : Int) < 13 then (depotref10_Status.j0 k a0 true) else (if 0 ≤ 8 then (if 8 ≤ (a0.size : Int) then ((depotref10_version.f (a0.extract 0 8)).bind fun t294 => (if t294 < 0 then (depotref10_Status.j0 k a0 true) else (if 8 < (a0.size : Int) then (if (bt a0 8) = 32 then (if 12 < (a0.size : Int) then (depotref10_Status.j0 k a0 ((bt a0 12) != 32)) else (none)) else (depotref10_Status.j0 k a0 true)) else (none)))) else (none)) else (none)))
theorem depotref10_Status.mono_l : ∀ k, (∀ y0 y1, LeO (depotref10_Status.j0 k y0 y1) (depotref10_Status.j0 (k + 1) y0 y1))
  | 0 => fun _ _ r h => by simp [depotref10_Status.j0] at h
  | k + 1 => by
    have ih0 := depotref10_Status.mono_l k
    · intro y0 y1
      unfold depotref10_Status.j0
      repeat' first
      | (with_reducible exact ih0 _ _)
      | (with_reducible exact depotref01_IsText.mono _ _)
      | (with_reducible exact depotref02_Number.mono _ _ _)
      | (with_reducible exact LeO.refl _)
      | (with_reducible exact LeO.none _)
      | (with_reducible refine LeO.ite ?_ ?_)
      | (with_reducible refine LeO.bind ?_ (fun _ => ?_))
      | exact ih0 _ _
      | exact depotref01_IsText.mono _ _
      | exact depotref02_Number.mono _ _ _
      | exact LeO.none _
      | refine LeO.ite ?_ ?_
      | refine LeO.bind ?_ (fun _ => ?_)
theorem depotref10_Status.mono : ∀ a0 k, LeO (depotref10_Status.f k a0) (depotref10_Status.f (k + 1) a0) := by
  intro a0 k
  have ih0 := depotref10_Status.mono_l k
  unfold depotref10_Status.f
  repeat' first
      | (with_reducible exact ih0 _ _)
      | (with_reducible exact depotref01_IsText.mono _ _)
      | (with_reducible exact depotref02_Number.mono _ _ _)
      | (with_reducible exact LeO.refl _)
      | (with_reducible exact LeO.none _)
      | (with_reducible refine LeO.ite ?_ ?_)
      | (with_reducible refine LeO.bind ?_ (fun _ => ?_))
      | exact ih0 _ _
      | exact depotref01_IsText.mono _ _
      | exact depotref02_Number.mono _ _ _
      | exact LeO.none _
      | refine LeO.ite ?_ ?_
      | refine LeO.bind ?_ (fun _ => ?_)
set_option maxHeartbeats 8000000 in
set_option maxRecDepth 100000 in
theorem depotref10_Status.calls (k : Nat) (a0 : ByteArray) (r1 : Int) (r2 : ByteArray) (r3 : Int) (r4 : Int) (w : World) (h : depotref10_Status.f k a0 = some (r1, r2, r3, r4)) :
    Calls Tryz.prog 42 #[.string a0] w fun e w' => e = .returned (.tuple #[.int .i64 r1, .string r2, .int .i64 r3, .int .i64 r4]) ∧ Drawn0 w w' := by
  have H : (if (a0.size : Int) > 8192 then (some (0, (⟨#[]⟩ : ByteArray), 0, 4)) else (if (a0.size : Int) < 13 then (depotref10_Status.j0 k a0 true) else (if 0 ≤ 8 then (if 8 ≤ (a0.size : Int) then ((depotref10_version.f (a0.extract 0 8)).bind fun t294 => (if t294 < 0 then (depotref10_Status.j0 k a0 true) else (if 8 < (a0.size : Int) then (if (bt a0 8) = 32 then (if 12 < (a0.size : Int) then (depotref10_Status.j0 k a0 ((bt a0 12) != 32)) else (none)) else (depotref10_Status.j0 k a0 true)) else (none)))) else (none)) else (none)))) = some (r1, r2, r3, r4) := h
  clear h
  by_cases c2 : (a0.size : Int) > 8192
  · rw [if_pos c2] at H
    have c2b0 : decide (8192 < (a0.size : Int)) = true := decide_eq_true c2
    have c2b1 : decide (8192 < a0.size) = true := decide_eq_true (by omega)
    clear c2
    simp only [Option.some.injEq, Prod.mk.injEq] at H
    obtain ⟨rfl, rfl, rfl, rfl⟩ := H
    go_enter Tryz.func42, Tryz.ntmps42
    go_wp2
    repeat (go_quiet (fail); try go_wp2)
    refine bodyPost_ret (results_list (rs := [.tmp 2, .tmp 3, .tmp 4, .tmp 5]) rfl (by simp) (.tmp (.tmp (.tmp (.tmp .nil))))) rfl ?_
    exact ⟨by first | rfl | (simp; done) | (simp [*]; done) | (simp; exact Hand.isEmpty_ne _), by repeat (first | exact Drawn0.refl _ | apply Drawn0.step)⟩
  · rw [if_neg c2] at H
    have c2b0 : decide (8192 < (a0.size : Int)) = false := decide_eq_false c2
    have c2b1 : decide (8192 < a0.size) = false := decide_eq_false (by omega)
    clear c2
    have HC3 := Aside0.mk H
    clear H
    go_enter Tryz.func42, Tryz.ntmps42
    go_upto_region 3 with (fail)
    repeat (go_quiet (fail); go_upto_region 3 with (fail))
    go_cut [29] (fun v29 wc => ∃ (kq : Nat) (x29_2 : Bool), v29 = .bool x29_2 ∧ Aside0 (depotref10_Status.j0 kq a0 x29_2 = some (r1, r2, r3, r4)) ∧ Aside0 (kq ≤ k) ∧ Drawn0 w wc)
    case first =>
      have H := HC3.out
      clear HC3
      by_cases c4 : (a0.size : Int) < 13
      · rw [if_pos c4] at H
        have c4b0 : decide ((a0.size : Int) < 13) = true := decide_eq_true c4
        have c4b1 : decide (a0.size < 13) = true := decide_eq_true (by omega)
        clear c4
        (first | rw [c4b0] | (simp only [i64_w, i32_w]; rw [c4b0]) | skip)
        have H' := Aside0.mk H
        clear H
        go_wp2
        repeat (go_quiet (fail); try go_wp2)
        go_meet
        case rel => exact ⟨_, (true), (by first | rfl | (simp; done) | (simp [*]; done) | (simp; exact Hand.isEmpty_ne _)), H', ⟨by first | omega | exact Nat.le_refl _⟩, by repeat (first | exact Drawn0.refl _ | apply Drawn0.step)⟩
      · rw [if_neg c4] at H
        have c4b0 : decide ((a0.size : Int) < 13) = false := decide_eq_false c4
        have c4b1 : decide (a0.size < 13) = false := decide_eq_false (by omega)
        clear c4
        (first | rw [c4b0] | (simp only [i64_w, i32_w]; rw [c4b0]) | skip)
        by_cases c5 : 0 ≤ 8
        · rw [if_pos c5] at H
          have c5b0 := eq_true c5
          have c5b1 : decide (0 ≤ 8) = true := decide_eq_true c5
          clear c5
          by_cases c6 : 8 ≤ (a0.size : Int)
          · rw [if_pos c6] at H
            have c6b0 := eq_true c6
            have c6b1 : decide (8 ≤ (a0.size : Int)) = true := decide_eq_true c6
            clear c6
            replace H := Option.bind_eq_some_iff.mp H
            obtain ⟨t294, A70, H⟩ := H
            replace H : (if t294 < 0 then (depotref10_Status.j0 k a0 true) else (if 8 < (a0.size : Int) then (if (bt a0 8) = 32 then (if 12 < (a0.size : Int) then (depotref10_Status.j0 k a0 ((bt a0 12) != 32)) else (none)) else (depotref10_Status.j0 k a0 true)) else (none))) = some (r1, r2, r3, r4) := H
            have A7 := Aside0.mk A70
            clear A70
            by_cases c8 : t294 < 0
            · rw [if_pos c8] at H
              have c8b0 : decide (t294 < 0) = true := decide_eq_true c8
              clear c8
              have H' := Aside0.mk H
              clear H
              go_wp2_with (first | (go_at_call 67; (with_reducible refine (depotref10_version.calls (a0.extract 0 8) t294 _ A7.out).mono ?_); rintro e w' ⟨rfl, ⟨nd, rfl⟩⟩; (try first | exact ⟨rfl, _, World.drewN_drewN _ _ _⟩ | exact ⟨rfl, _, Eq.trans (World.drewN_drewN _ _ _) (congrArg (World.drewN _) (Nat.add_assoc _ _ _))⟩)))
              repeat (go_quiet (first | (go_at_call 67; (with_reducible refine (depotref10_version.calls (a0.extract 0 8) t294 _ A7.out).mono ?_); rintro e w' ⟨rfl, ⟨nd, rfl⟩⟩; (try first | exact ⟨rfl, _, World.drewN_drewN _ _ _⟩ | exact ⟨rfl, _, Eq.trans (World.drewN_drewN _ _ _) (congrArg (World.drewN _) (Nat.add_assoc _ _ _))⟩))); try go_wp2_with (first | (go_at_call 67; (with_reducible refine (depotref10_version.calls (a0.extract 0 8) t294 _ A7.out).mono ?_); rintro e w' ⟨rfl, ⟨nd, rfl⟩⟩; (try first | exact ⟨rfl, _, World.drewN_drewN _ _ _⟩ | exact ⟨rfl, _, Eq.trans (World.drewN_drewN _ _ _) (congrArg (World.drewN _) (Nat.add_assoc _ _ _))⟩))))
              go_meet
              case rel => exact ⟨_, (true), (by first | rfl | (simp; done) | (simp [*]; done) | (simp; exact Hand.isEmpty_ne _)), H', ⟨by first | omega | exact Nat.le_refl _⟩, by repeat (first | exact Drawn0.refl _ | apply Drawn0.step)⟩
            · rw [if_neg c8] at H
              have c8b0 : decide (t294 < 0) = false := decide_eq_false c8
              clear c8
              by_cases c9 : 8 < (a0.size : Int)
              · rw [if_pos c9] at H
                have c9b0 : decide (8 < (a0.size : Int)) = true := decide_eq_true c9
                have c9b1 : decide (8 < a0.size) = true := decide_eq_true (by omega)
                clear c9
                by_cases c11 : (bt a0 8) = 32
                · rw [if_pos c11] at H
                  have c11b0 : ((bt a0 8) == 32) = true := beq_iff_eq.mpr c11
                  have c11b1 : ((bt a0 8) != 32) = false := bne_eq_false_iff_eq.mpr c11
                  clear c11
                  by_cases c12 : 12 < (a0.size : Int)
                  · rw [if_pos c12] at H
                    have c12b0 : decide (12 < (a0.size : Int)) = true := decide_eq_true c12
                    have c12b1 : decide (12 < a0.size) = true := decide_eq_true (by omega)
                    clear c12
                    have H' := Aside0.mk H
                    clear H
                    go_wp2_with (first | (go_at_call 67; (with_reducible refine (depotref10_version.calls (a0.extract 0 8) t294 _ A7.out).mono ?_); rintro e w' ⟨rfl, ⟨nd, rfl⟩⟩; (try first | exact ⟨rfl, _, World.drewN_drewN _ _ _⟩ | exact ⟨rfl, _, Eq.trans (World.drewN_drewN _ _ _) (congrArg (World.drewN _) (Nat.add_assoc _ _ _))⟩); have p10 : 0 ≤ (8 : Int) := (by omega); have q10 : 8 < a0.size := (by have : (8 : Int) < (a0.size : Int) := of_decide_eq_true (by first | (with_reducible assumption) | assumption); omega); have hx10 : ∀ h : 8 < a0.size, ((a0[8]'h).toNat : Int) = bt a0 8 := bt_at a0 8; clear p10; have qi10 : (8 < (a0.size : Int)) = True := eq_true (of_decide_eq_true (by first | (with_reducible assumption) | assumption)); replace q10 := eq_true q10; have p13 : 0 ≤ (12 : Int) := (by omega); have q13 : 12 < a0.size := (by have : (12 : Int) < (a0.size : Int) := of_decide_eq_true (by first | (with_reducible assumption) | assumption); omega); have hx13 : ∀ h : 12 < a0.size, ((a0[12]'h).toNat : Int) = bt a0 12 := bt_at a0 12; clear p13; have qi13 : (12 < (a0.size : Int)) = True := eq_true (of_decide_eq_true (by first | (with_reducible assumption) | assumption)); replace q13 := eq_true q13))
                    repeat (go_quiet (first | (go_at_call 67; (with_reducible refine (depotref10_version.calls (a0.extract 0 8) t294 _ A7.out).mono ?_); rintro e w' ⟨rfl, ⟨nd, rfl⟩⟩; (try first | exact ⟨rfl, _, World.drewN_drewN _ _ _⟩ | exact ⟨rfl, _, Eq.trans (World.drewN_drewN _ _ _) (congrArg (World.drewN _) (Nat.add_assoc _ _ _))⟩); have p10 : 0 ≤ (8 : Int) := (by omega); have q10 : 8 < a0.size := (by have : (8 : Int) < (a0.size : Int) := of_decide_eq_true (by first | (with_reducible assumption) | assumption); omega); have hx10 : ∀ h : 8 < a0.size, ((a0[8]'h).toNat : Int) = bt a0 8 := bt_at a0 8; clear p10; have qi10 : (8 < (a0.size : Int)) = True := eq_true (of_decide_eq_true (by first | (with_reducible assumption) | assumption)); replace q10 := eq_true q10; have p13 : 0 ≤ (12 : Int) := (by omega); have q13 : 12 < a0.size := (by have : (12 : Int) < (a0.size : Int) := of_decide_eq_true (by first | (with_reducible assumption) | assumption); omega); have hx13 : ∀ h : 12 < a0.size, ((a0[12]'h).toNat : Int) = bt a0 12 := bt_at a0 12; clear p13; have qi13 : (12 < (a0.size : Int)) = True := eq_true (of_decide_eq_true (by first | (with_reducible assumption) | assumption)); replace q13 := eq_true q13)); try go_wp2_with (first | (go_at_call 67; (with_reducible refine (depotref10_version.calls (a0.extract 0 8) t294 _ A7.out).mono ?_); rintro e w' ⟨rfl, ⟨nd, rfl⟩⟩; (try first | exact ⟨rfl, _, World.drewN_drewN _ _ _⟩ | exact ⟨rfl, _, Eq.trans (World.drewN_drewN _ _ _) (congrArg (World.drewN _) (Nat.add_assoc _ _ _))⟩); have p10 : 0 ≤ (8 : Int) := (by omega); have q10 : 8 < a0.size := (by have : (8 : Int) < (a0.size : Int) := of_decide_eq_true (by first | (with_reducible assumption) | assumption); omega); have hx10 : ∀ h : 8 < a0.size, ((a0[8]'h).toNat : Int) = bt a0 8 := bt_at a0 8; clear p10; have qi10 : (8 < (a0.size : Int)) = True := eq_true (of_decide_eq_true (by first | (with_reducible assumption) | assumption)); replace q10 := eq_true q10; have p13 : 0 ≤ (12 : Int) := (by omega); have q13 : 12 < a0.size := (by have : (12 : Int) < (a0.size : Int) := of_decide_eq_true (by first | (with_reducible assumption) | assumption); omega); have hx13 : ∀ h : 12 < a0.size, ((a0[12]'h).toNat : Int) = bt a0 12 := bt_at a0 12; clear p13; have qi13 : (12 < (a0.size : Int)) = True := eq_true (of_decide_eq_true (by first | (with_reducible assumption) | assumption)); replace q13 := eq_true q13)))
                    go_meet
                    case rel => exact ⟨_, (((bt a0 12) != 32)), (by first | rfl | (simp; done) | (simp [*]; done) | (simp; exact Hand.isEmpty_ne _)), H', ⟨by first | omega | exact Nat.le_refl _⟩, by repeat (first | exact Drawn0.refl _ | apply Drawn0.step)⟩
                  · rw [if_neg c12] at H
                    exact absurd H (by simp)
                · rw [if_neg c11] at H
                  have c11b0 : ((bt a0 8) == 32) = false := beq_eq_false_iff_ne.mpr c11
                  have c11b1 : ((bt a0 8) != 32) = true := bne_iff_ne.mpr c11
                  have H' := Aside0.mk H
                  clear H
                  go_wp2_with (first | (go_at_call 67; (with_reducible refine (depotref10_version.calls (a0.extract 0 8) t294 _ A7.out).mono ?_); rintro e w' ⟨rfl, ⟨nd, rfl⟩⟩; (try first | exact ⟨rfl, _, World.drewN_drewN _ _ _⟩ | exact ⟨rfl, _, Eq.trans (World.drewN_drewN _ _ _) (congrArg (World.drewN _) (Nat.add_assoc _ _ _))⟩); have p10 : 0 ≤ (8 : Int) := (by omega); have q10 : 8 < a0.size := (by have : (8 : Int) < (a0.size : Int) := of_decide_eq_true (by first | (with_reducible assumption) | assumption); omega); have hx10 : ∀ h : 8 < a0.size, ((a0[8]'h).toNat : Int) = bt a0 8 := bt_at a0 8; clear p10; have qi10 : (8 < (a0.size : Int)) = True := eq_true (of_decide_eq_true (by first | (with_reducible assumption) | assumption)); replace q10 := eq_true q10))
                  repeat (go_quiet (first | (go_at_call 67; (with_reducible refine (depotref10_version.calls (a0.extract 0 8) t294 _ A7.out).mono ?_); rintro e w' ⟨rfl, ⟨nd, rfl⟩⟩; (try first | exact ⟨rfl, _, World.drewN_drewN _ _ _⟩ | exact ⟨rfl, _, Eq.trans (World.drewN_drewN _ _ _) (congrArg (World.drewN _) (Nat.add_assoc _ _ _))⟩); have p10 : 0 ≤ (8 : Int) := (by omega); have q10 : 8 < a0.size := (by have : (8 : Int) < (a0.size : Int) := of_decide_eq_true (by first | (with_reducible assumption) | assumption); omega); have hx10 : ∀ h : 8 < a0.size, ((a0[8]'h).toNat : Int) = bt a0 8 := bt_at a0 8; clear p10; have qi10 : (8 < (a0.size : Int)) = True := eq_true (of_decide_eq_true (by first | (with_reducible assumption) | assumption)); replace q10 := eq_true q10)); try go_wp2_with (first | (go_at_call 67; (with_reducible refine (depotref10_version.calls (a0.extract 0 8) t294 _ A7.out).mono ?_); rintro e w' ⟨rfl, ⟨nd, rfl⟩⟩; (try first | exact ⟨rfl, _, World.drewN_drewN _ _ _⟩ | exact ⟨rfl, _, Eq.trans (World.drewN_drewN _ _ _) (congrArg (World.drewN _) (Nat.add_assoc _ _ _))⟩); have p10 : 0 ≤ (8 : Int) := (by omega); have q10 : 8 < a0.size := (by have : (8 : Int) < (a0.size : Int) := of_decide_eq_true (by first | (with_reducible assumption) | assumption); omega); have hx10 : ∀ h : 8 < a0.size, ((a0[8]'h).toNat : Int) = bt a0 8 := bt_at a0 8; clear p10; have qi10 : (8 < (a0.size : Int)) = True := eq_true (of_decide_eq_true (by first | (with_reducible assumption) | assumption)); replace q10 := eq_true q10)))
                  go_meet
                  case rel => exact ⟨_, (true), (by first | rfl | (simp; done) | (simp [*]; done) | (simp; exact Hand.isEmpty_ne _)), H', ⟨by first | omega | exact Nat.le_refl _⟩, by repeat (first | exact Drawn0.refl _ | apply Drawn0.step)⟩
              · rw [if_neg c9] at H
                exact absurd H (by simp)
          · rw [if_neg c6] at H
            exact absurd H (by simp)
        · rw [if_neg c5] at H
          exact absurd H (by simp)
    case rest =>
      clear HC3
      try clear c1
      try clear p1
      try clear q1
      try clear hx1
      try clear qi1
      try clear c2
      try clear c2b0
      try clear c2b1
      try clear p2
      try clear c4
      try clear c4b0
      try clear c4b1
      try clear c5
      try clear c5b0
      try clear c5b1
      try clear c6
      try clear c6b0
      try clear c6b1
      try clear c8
      try clear c8b0
      try clear c9
      try clear c9b0
      try clear c9b1
      try clear p10
      try clear q10
      try clear hx10
      try clear qi10
      try clear c11
      try clear c11b0
      try clear c11b1
      try clear c12
      try clear c12b0
      try clear c12b1
      try clear p13
      try clear q13
      try clear hx13
      try clear qi13
      try clear p10
      try clear p13
      try clear q10
      try clear q13
      obtain ⟨kq, x29_2, rfl, HA, HJ2, ⟨mc2, rfl⟩⟩ := hcut
      cases kq with
      | zero => exact absurd HA.out (by simp [depotref10_Status.j0])
      | succ kj2 =>
        have H := HA.out
        clear HA
        simp only [depotref10_Status.j0] at H
        by_cases c14 : x29_2 = true
        · subst c14
          have H1 : (some (0, (⟨#[]⟩ : ByteArray), 0, 20)) = some (r1, r2, r3, r4) := by rw [if_pos rfl] at H; exact H
          clear H
          have H := H1
          clear H1
          simp only [Option.some.injEq, Prod.mk.injEq] at H
          obtain ⟨rfl, rfl, rfl, rfl⟩ := H
          go_wp2
          repeat (go_quiet (fail); try go_wp2)
          refine bodyPost_ret (results_list (rs := [.tmp 2, .tmp 3, .tmp 4, .tmp 5]) rfl (by simp) (.tmp (.tmp (.tmp (.tmp .nil))))) rfl ?_
          exact ⟨by first | rfl | (simp; done) | (simp [*]; done) | (simp; exact Hand.isEmpty_ne _), by repeat (first | exact Drawn0.refl _ | apply Drawn0.step)⟩
        · replace c14 := Bool.eq_false_iff.mpr c14
          subst c14
          have H1 : (if 9 ≤ 12 then (if 12 ≤ (a0.size : Int) then ((depotref02_Number.f kj2 (a0.extract 9 12) 599).bind fun bt295 => (if bt295.2 = 0 then (if bt295.1 < 100 then (some (0, (⟨#[]⟩ : ByteArray), 0, 20)) else (if 13 ≤ (a0.size : Int) then ((depotref01_IsText.f kj2 (a0.extract 13 a0.size)).bind fun t297 => (if t297 = true then (if 0 ≤ 8 then (if 8 ≤ (a0.size : Int) then ((depotref10_version.f (a0.extract 0 8)).bind fun t298 => (some (bt295.1, a0.extract 13 a0.size, t298, 0))) else (none)) else (none)) else (some (0, (⟨#[]⟩ : ByteArray), 0, 20)))) else (none))) else (some (0, (⟨#[]⟩ : ByteArray), 0, 20)))) else (none)) else (none)) = some (r1, r2, r3, r4) := by rw [if_neg (show ¬ (false = true) by decide)] at H; exact H
          clear H
          have H := H1
          clear H1
          by_cases c15 : 9 ≤ 12
          · rw [if_pos c15] at H
            have c15b0 := eq_true c15
            have c15b1 : decide (9 ≤ 12) = true := decide_eq_true c15
            clear c15
            by_cases c16 : 12 ≤ (a0.size : Int)
            · rw [if_pos c16] at H
              have c16b0 := eq_true c16
              have c16b1 : decide (12 ≤ (a0.size : Int)) = true := decide_eq_true c16
              clear c16
              replace H := Option.bind_eq_some_iff.mp H
              obtain ⟨⟨t295, t296⟩, A170, H⟩ := H
              replace H : (if t296 = 0 then (if t295 < 100 then (some (0, (⟨#[]⟩ : ByteArray), 0, 20)) else (if 13 ≤ (a0.size : Int) then ((depotref01_IsText.f kj2 (a0.extract 13 a0.size)).bind fun t297 => (if t297 = true then (if 0 ≤ 8 then (if 8 ≤ (a0.size : Int) then ((depotref10_version.f (a0.extract 0 8)).bind fun t298 => (some (t295, a0.extract 13 a0.size, t298, 0))) else (none)) else (none)) else (some (0, (⟨#[]⟩ : ByteArray), 0, 20)))) else (none))) else (some (0, (⟨#[]⟩ : ByteArray), 0, 20))) = some (r1, r2, r3, r4) := H
              have A17 := Aside0.mk A170
              clear A170
              by_cases c18 : t296 = 0
              · rw [if_pos c18] at H
                have c18b0 : (t296 == 0) = true := beq_iff_eq.mpr c18
                have c18b1 : (t296 != 0) = false := bne_eq_false_iff_eq.mpr c18
                clear c18
                by_cases c19 : t295 < 100
                · rw [if_pos c19] at H
                  have c19b0 : decide (t295 < 100) = true := decide_eq_true c19
                  clear c19
                  simp only [Option.some.injEq, Prod.mk.injEq] at H
                  obtain ⟨rfl, rfl, rfl, rfl⟩ := H
                  go_wp2_with (first | (go_at_call 77; (with_reducible refine (depotref02_Number.calls kj2 (a0.extract 9 12) 599 t295 t296 _ A17.out).mono ?_); rintro e w' ⟨rfl, ⟨nd, rfl⟩⟩; (try first | exact ⟨rfl, _, World.drewN_drewN _ _ _⟩ | exact ⟨rfl, _, Eq.trans (World.drewN_drewN _ _ _) (congrArg (World.drewN _) (Nat.add_assoc _ _ _))⟩)))
                  repeat (go_quiet (first | (go_at_call 77; (with_reducible refine (depotref02_Number.calls kj2 (a0.extract 9 12) 599 t295 t296 _ A17.out).mono ?_); rintro e w' ⟨rfl, ⟨nd, rfl⟩⟩; (try first | exact ⟨rfl, _, World.drewN_drewN _ _ _⟩ | exact ⟨rfl, _, Eq.trans (World.drewN_drewN _ _ _) (congrArg (World.drewN _) (Nat.add_assoc _ _ _))⟩))); try go_wp2_with (first | (go_at_call 77; (with_reducible refine (depotref02_Number.calls kj2 (a0.extract 9 12) 599 t295 t296 _ A17.out).mono ?_); rintro e w' ⟨rfl, ⟨nd, rfl⟩⟩; (try first | exact ⟨rfl, _, World.drewN_drewN _ _ _⟩ | exact ⟨rfl, _, Eq.trans (World.drewN_drewN _ _ _) (congrArg (World.drewN _) (Nat.add_assoc _ _ _))⟩))))
                  refine bodyPost_ret (results_list (rs := [.tmp 2, .tmp 3, .tmp 4, .tmp 5]) rfl (by simp) (.tmp (.tmp (.tmp (.tmp .nil))))) rfl ?_
                  exact ⟨by first | rfl | (simp; done) | (simp [*]; done) | (simp; exact Hand.isEmpty_ne _), by repeat (first | exact Drawn0.refl _ | apply Drawn0.step)⟩
                · rw [if_neg c19] at H
                  have c19b0 : decide (t295 < 100) = false := decide_eq_false c19
                  clear c19
                  by_cases c20 : 13 ≤ (a0.size : Int)
                  · rw [if_pos c20] at H
                    have c20b0 := eq_true c20
                    have c20b1 : decide (13 ≤ (a0.size : Int)) = true := decide_eq_true c20
                    clear c20
                    replace H := Option.bind_eq_some_iff.mp H
                    obtain ⟨t297, A210, H⟩ := H
                    replace H : (if t297 = true then (if 0 ≤ 8 then (if 8 ≤ (a0.size : Int) then ((depotref10_version.f (a0.extract 0 8)).bind fun t298 => (some (t295, a0.extract 13 a0.size, t298, 0))) else (none)) else (none)) else (some (0, (⟨#[]⟩ : ByteArray), 0, 20))) = some (r1, r2, r3, r4) := H
                    have A21 := Aside0.mk A210
                    clear A210
                    by_cases c22 : t297 = true
                    · subst c22
                      have H1 : (if 0 ≤ 8 then (if 8 ≤ (a0.size : Int) then ((depotref10_version.f (a0.extract 0 8)).bind fun t298 => (some (t295, a0.extract 13 a0.size, t298, 0))) else (none)) else (none)) = some (r1, r2, r3, r4) := by rw [if_pos rfl] at H; exact H
                      clear H
                      have H := H1
                      clear H1
                      have c23b0 := eq_true (of_decide_eq_true (by first | (with_reducible assumption) | assumption) : 13 ≤ (a0.size : Int))
                      by_cases c24 : 0 ≤ 8
                      · rw [if_pos c24] at H
                        have c24b0 := eq_true c24
                        have c24b1 : decide (0 ≤ 8) = true := decide_eq_true c24
                        clear c24
                        by_cases c25 : 8 ≤ (a0.size : Int)
                        · rw [if_pos c25] at H
                          have c25b0 := eq_true c25
                          have c25b1 : decide (8 ≤ (a0.size : Int)) = true := decide_eq_true c25
                          clear c25
                          replace H := Option.bind_eq_some_iff.mp H
                          obtain ⟨t298, A260, H⟩ := H
                          replace H : (some (t295, a0.extract 13 a0.size, t298, 0)) = some (r1, r2, r3, r4) := H
                          have A26 := Aside0.mk A260
                          clear A260
                          simp only [Option.some.injEq, Prod.mk.injEq] at H
                          obtain ⟨rfl, rfl, rfl, rfl⟩ := H
                          go_wp2_with (first | (go_at_call 77; (with_reducible refine (depotref02_Number.calls kj2 (a0.extract 9 12) 599 t295 t296 _ A17.out).mono ?_); rintro e w' ⟨rfl, ⟨nd, rfl⟩⟩; (try first | exact ⟨rfl, _, World.drewN_drewN _ _ _⟩ | exact ⟨rfl, _, Eq.trans (World.drewN_drewN _ _ _) (congrArg (World.drewN _) (Nat.add_assoc _ _ _))⟩)) | (go_at_call 78; (with_reducible refine (depotref01_IsText.calls kj2 (a0.extract 13 a0.size) true _ A21.out).mono ?_); rintro e w' ⟨rfl, ⟨nd, rfl⟩⟩; (try first | exact ⟨rfl, _, World.drewN_drewN _ _ _⟩ | exact ⟨rfl, _, Eq.trans (World.drewN_drewN _ _ _) (congrArg (World.drewN _) (Nat.add_assoc _ _ _))⟩)) | (go_at_call 67; (with_reducible refine (depotref10_version.calls (a0.extract 0 8) t298 _ A26.out).mono ?_); rintro e w' ⟨rfl, ⟨nd, rfl⟩⟩; (try first | exact ⟨rfl, _, World.drewN_drewN _ _ _⟩ | exact ⟨rfl, _, Eq.trans (World.drewN_drewN _ _ _) (congrArg (World.drewN _) (Nat.add_assoc _ _ _))⟩)))
                          repeat (go_quiet (first | (go_at_call 77; (with_reducible refine (depotref02_Number.calls kj2 (a0.extract 9 12) 599 t295 t296 _ A17.out).mono ?_); rintro e w' ⟨rfl, ⟨nd, rfl⟩⟩; (try first | exact ⟨rfl, _, World.drewN_drewN _ _ _⟩ | exact ⟨rfl, _, Eq.trans (World.drewN_drewN _ _ _) (congrArg (World.drewN _) (Nat.add_assoc _ _ _))⟩)) | (go_at_call 78; (with_reducible refine (depotref01_IsText.calls kj2 (a0.extract 13 a0.size) true _ A21.out).mono ?_); rintro e w' ⟨rfl, ⟨nd, rfl⟩⟩; (try first | exact ⟨rfl, _, World.drewN_drewN _ _ _⟩ | exact ⟨rfl, _, Eq.trans (World.drewN_drewN _ _ _) (congrArg (World.drewN _) (Nat.add_assoc _ _ _))⟩)) | (go_at_call 67; (with_reducible refine (depotref10_version.calls (a0.extract 0 8) t298 _ A26.out).mono ?_); rintro e w' ⟨rfl, ⟨nd, rfl⟩⟩; (try first | exact ⟨rfl, _, World.drewN_drewN _ _ _⟩ | exact ⟨rfl, _, Eq.trans (World.drewN_drewN _ _ _) (congrArg (World.drewN _) (Nat.add_assoc _ _ _))⟩))); try go_wp2_with (first | (go_at_call 77; (with_reducible refine (depotref02_Number.calls kj2 (a0.extract 9 12) 599 t295 t296 _ A17.out).mono ?_); rintro e w' ⟨rfl, ⟨nd, rfl⟩⟩; (try first | exact ⟨rfl, _, World.drewN_drewN _ _ _⟩ | exact ⟨rfl, _, Eq.trans (World.drewN_drewN _ _ _) (congrArg (World.drewN _) (Nat.add_assoc _ _ _))⟩)) | (go_at_call 78; (with_reducible refine (depotref01_IsText.calls kj2 (a0.extract 13 a0.size) true _ A21.out).mono ?_); rintro e w' ⟨rfl, ⟨nd, rfl⟩⟩; (try first | exact ⟨rfl, _, World.drewN_drewN _ _ _⟩ | exact ⟨rfl, _, Eq.trans (World.drewN_drewN _ _ _) (congrArg (World.drewN _) (Nat.add_assoc _ _ _))⟩)) | (go_at_call 67; (with_reducible refine (depotref10_version.calls (a0.extract 0 8) t298 _ A26.out).mono ?_); rintro e w' ⟨rfl, ⟨nd, rfl⟩⟩; (try first | exact ⟨rfl, _, World.drewN_drewN _ _ _⟩ | exact ⟨rfl, _, Eq.trans (World.drewN_drewN _ _ _) (congrArg (World.drewN _) (Nat.add_assoc _ _ _))⟩))))
                          refine bodyPost_ret (results_list (rs := [.tmp 2, .tmp 3, .tmp 4, .tmp 5]) rfl (by simp) (.tmp (.tmp (.tmp (.tmp .nil))))) rfl ?_
                          exact ⟨by first | rfl | (simp; done) | (simp [*]; done) | (simp; exact Hand.isEmpty_ne _), by repeat (first | exact Drawn0.refl _ | apply Drawn0.step)⟩
                        · rw [if_neg c25] at H
                          exact absurd H (by simp)
                      · rw [if_neg c24] at H
                        exact absurd H (by simp)
                    · replace c22 := Bool.eq_false_iff.mpr c22
                      subst c22
                      have H1 : (some (0, (⟨#[]⟩ : ByteArray), 0, 20)) = some (r1, r2, r3, r4) := by rw [if_neg (show ¬ (false = true) by decide)] at H; exact H
                      clear H
                      have H := H1
                      clear H1
                      simp only [Option.some.injEq, Prod.mk.injEq] at H
                      obtain ⟨rfl, rfl, rfl, rfl⟩ := H
                      go_wp2_with (first | (go_at_call 77; (with_reducible refine (depotref02_Number.calls kj2 (a0.extract 9 12) 599 t295 t296 _ A17.out).mono ?_); rintro e w' ⟨rfl, ⟨nd, rfl⟩⟩; (try first | exact ⟨rfl, _, World.drewN_drewN _ _ _⟩ | exact ⟨rfl, _, Eq.trans (World.drewN_drewN _ _ _) (congrArg (World.drewN _) (Nat.add_assoc _ _ _))⟩)) | (go_at_call 78; (with_reducible refine (depotref01_IsText.calls kj2 (a0.extract 13 a0.size) false _ A21.out).mono ?_); rintro e w' ⟨rfl, ⟨nd, rfl⟩⟩; (try first | exact ⟨rfl, _, World.drewN_drewN _ _ _⟩ | exact ⟨rfl, _, Eq.trans (World.drewN_drewN _ _ _) (congrArg (World.drewN _) (Nat.add_assoc _ _ _))⟩)))
                      repeat (go_quiet (first | (go_at_call 77; (with_reducible refine (depotref02_Number.calls kj2 (a0.extract 9 12) 599 t295 t296 _ A17.out).mono ?_); rintro e w' ⟨rfl, ⟨nd, rfl⟩⟩; (try first | exact ⟨rfl, _, World.drewN_drewN _ _ _⟩ | exact ⟨rfl, _, Eq.trans (World.drewN_drewN _ _ _) (congrArg (World.drewN _) (Nat.add_assoc _ _ _))⟩)) | (go_at_call 78; (with_reducible refine (depotref01_IsText.calls kj2 (a0.extract 13 a0.size) false _ A21.out).mono ?_); rintro e w' ⟨rfl, ⟨nd, rfl⟩⟩; (try first | exact ⟨rfl, _, World.drewN_drewN _ _ _⟩ | exact ⟨rfl, _, Eq.trans (World.drewN_drewN _ _ _) (congrArg (World.drewN _) (Nat.add_assoc _ _ _))⟩))); try go_wp2_with (first | (go_at_call 77; (with_reducible refine (depotref02_Number.calls kj2 (a0.extract 9 12) 599 t295 t296 _ A17.out).mono ?_); rintro e w' ⟨rfl, ⟨nd, rfl⟩⟩; (try first | exact ⟨rfl, _, World.drewN_drewN _ _ _⟩ | exact ⟨rfl, _, Eq.trans (World.drewN_drewN _ _ _) (congrArg (World.drewN _) (Nat.add_assoc _ _ _))⟩)) | (go_at_call 78; (with_reducible refine (depotref01_IsText.calls kj2 (a0.extract 13 a0.size) false _ A21.out).mono ?_); rintro e w' ⟨rfl, ⟨nd, rfl⟩⟩; (try first | exact ⟨rfl, _, World.drewN_drewN _ _ _⟩ | exact ⟨rfl, _, Eq.trans (World.drewN_drewN _ _ _) (congrArg (World.drewN _) (Nat.add_assoc _ _ _))⟩))))
                      refine bodyPost_ret (results_list (rs := [.tmp 2, .tmp 3, .tmp 4, .tmp 5]) rfl (by simp) (.tmp (.tmp (.tmp (.tmp .nil))))) rfl ?_
                      exact ⟨by first | rfl | (simp; done) | (simp [*]; done) | (simp; exact Hand.isEmpty_ne _), by repeat (first | exact Drawn0.refl _ | apply Drawn0.step)⟩
                  · rw [if_neg c20] at H
                    exact absurd H (by simp)
              · rw [if_neg c18] at H
                have c18b0 : (t296 == 0) = false := beq_eq_false_iff_ne.mpr c18
                have c18b1 : (t296 != 0) = true := bne_iff_ne.mpr c18
                simp only [Option.some.injEq, Prod.mk.injEq] at H
                obtain ⟨rfl, rfl, rfl, rfl⟩ := H
                go_wp2_with (first | (go_at_call 77; (with_reducible refine (depotref02_Number.calls kj2 (a0.extract 9 12) 599 t295 t296 _ A17.out).mono ?_); rintro e w' ⟨rfl, ⟨nd, rfl⟩⟩; (try first | exact ⟨rfl, _, World.drewN_drewN _ _ _⟩ | exact ⟨rfl, _, Eq.trans (World.drewN_drewN _ _ _) (congrArg (World.drewN _) (Nat.add_assoc _ _ _))⟩)))
                repeat (go_quiet (first | (go_at_call 77; (with_reducible refine (depotref02_Number.calls kj2 (a0.extract 9 12) 599 t295 t296 _ A17.out).mono ?_); rintro e w' ⟨rfl, ⟨nd, rfl⟩⟩; (try first | exact ⟨rfl, _, World.drewN_drewN _ _ _⟩ | exact ⟨rfl, _, Eq.trans (World.drewN_drewN _ _ _) (congrArg (World.drewN _) (Nat.add_assoc _ _ _))⟩))); try go_wp2_with (first | (go_at_call 77; (with_reducible refine (depotref02_Number.calls kj2 (a0.extract 9 12) 599 t295 t296 _ A17.out).mono ?_); rintro e w' ⟨rfl, ⟨nd, rfl⟩⟩; (try first | exact ⟨rfl, _, World.drewN_drewN _ _ _⟩ | exact ⟨rfl, _, Eq.trans (World.drewN_drewN _ _ _) (congrArg (World.drewN _) (Nat.add_assoc _ _ _))⟩))))
                refine bodyPost_ret (results_list (rs := [.tmp 2, .tmp 3, .tmp 4, .tmp 5]) rfl (by simp) (.tmp (.tmp (.tmp (.tmp .nil))))) rfl ?_
                exact ⟨by first | rfl | (simp; done) | (simp [*]; done) | (simp; exact Hand.isEmpty_ne _), by repeat (first | exact Drawn0.refl _ | apply Drawn0.step)⟩
            · rw [if_neg c16] at H
              exact absurd H (by simp)
          · rw [if_neg c15] at H
            exact absurd H (by simp)

/-! ### depotref12_ParseReply: function 13: told by hand -/
theorem rempty_beq {s : ByteArray} (h : s.size = 0) : (s.toList == []) = true := by rw [Hand.toList_nil_of h]; rfl
theorem rempty_ne {s : ByteArray} (h : ¬ s.size = 0) : (s.toList == []) = false := Hand.toList_cons_of h
theorem rempty_ise {s : ByteArray} (h : s.size = 0) : s.toList.isEmpty = true := by rw [Hand.toList_nil_of h]; rfl
theorem rempty_isn {s : ByteArray} (h : ¬ s.size = 0) : s.toList.isEmpty = false := by
  have := Hand.toList_cons_of h
  cases hq : s.toList with
  | nil => rw [hq] at this; cases this
  | cons a l => rfl
theorem rempty_bne {s : ByteArray} (h : s.size = 0) : (s.toList != []) = false := by rw [Hand.toList_nil_of h]; rfl
theorem rempty_bnn {s : ByteArray} (h : ¬ s.size = 0) : (s.toList != []) = true := by rw [bne, rempty_ne h]; rfl
def depotref12_ParseReply.f (k : Nat) (a0 : ByteArray) (a1 : ByteArray) : Option (Int × ByteArray × Int × (List S98) × ByteArray × Int) :=
  if 65536 < a0.size then some (0, (⟨#[]⟩ : ByteArray), 0, [], (⟨#[]⟩ : ByteArray), 4) else
  (depotref12_head.f k a0).bind fun g => if g.2.2 = true then (if 0 < g.1.length then
    ((depotref10_Status.f k (g.1.getD 0 ByteArray.empty)).bind fun q => if q.2.2.2 = 0 then
      (if q.1 < 200 then some (0, (⟨#[]⟩ : ByteArray), 0, [], (⟨#[]⟩ : ByteArray), 20) else
      (depotref12_rows.f k (g.1.drop 1)).bind fun rs => if rs.2 = 0 then
        ((depotref12_framing.f).bind fun fr => (depotref09_Drop.f k rs.1 fr).bind fun fs => (depotref12_Bodiless.f q.1).bind fun nb => if ((a1.toList == [72, 69, 65, 68]) || nb) = true then
          (if g.2.1.size = 0 then some (q.1, q.2.1, q.2.2.1, fs, (⟨#[]⟩ : ByteArray), 0) else some (0, (⟨#[]⟩ : ByteArray), 0, [], (⟨#[]⟩ : ByteArray), 22))
        else (depotref12_body.f k rs.1 g.2.1 q.2.2.1 true).bind fun bd => if bd.2 = 0 then some (q.1, q.2.1, q.2.2.1, fs, bd.1, 0) else some (0, (⟨#[]⟩ : ByteArray), 0, [], (⟨#[]⟩ : ByteArray), bd.2))
      else some (0, (⟨#[]⟩ : ByteArray), 0, [], (⟨#[]⟩ : ByteArray), rs.2))
    else some (0, (⟨#[]⟩ : ByteArray), 0, [], (⟨#[]⟩ : ByteArray), q.2.2.2))
  else none) else some (0, (⟨#[]⟩ : ByteArray), 0, [], (⟨#[]⟩ : ByteArray), 5)
theorem depotref12_ParseReply.mono : ∀ a0 a1 k, LeO (depotref12_ParseReply.f k a0 a1) (depotref12_ParseReply.f (k + 1) a0 a1) := fun a0 a1 k => by
  unfold depotref12_ParseReply.f
  exact LeO.ite (LeO.refl _) (LeO.bind (depotref12_head.mono _ k) fun _ => LeO.ite (LeO.ite (LeO.bind (depotref10_Status.mono _ k) fun _ => LeO.ite (LeO.ite (LeO.refl _) (LeO.bind (depotref12_rows.mono _ k) fun _ => LeO.ite (LeO.bind (LeO.refl _) fun _ => LeO.bind (depotref09_Drop.mono _ _ k) fun _ => LeO.bind (LeO.refl _) fun _ => LeO.ite (LeO.refl _) (LeO.bind (depotref12_body.mono _ _ _ _ k) fun _ => LeO.refl _)) (LeO.refl _))) (LeO.refl _)) (LeO.refl _)) (LeO.refl _))
set_option maxHeartbeats 1600000 in
set_option maxRecDepth 100000 in
theorem depotref12_ParseReply.calls (k : Nat) (a0 : ByteArray) (a1 : ByteArray) (r1 : Int) (r2 : ByteArray) (r3 : Int) (r4 : List (S98)) (r5 : ByteArray) (r6 : Int) (w : World) (h : depotref12_ParseReply.f k a0 a1 = some (r1, r2, r3, r4, r5, r6)) :
    Calls Tryz.prog 13 #[.string a0, .string a1] w fun e w' => ∃ v3_ : Value, e = .returned (.tuple #[.agg #[.int .i64 r1, .string r2, .int .i64 r3, v3_, .string r5], .int .i64 r6]) ∧ Kd.R k98 98 w' w.heap.size (fun _ => True) v3_ r4 ∧ Below w.heap.size w w' := by
  unfold depotref12_ParseReply.f at h
  have HB0 := Aside0.mk (Hand.alloc_below w (.cells #[.int .i64 0, .string (⟨#[]⟩ : ByteArray), .int .i64 0, .slice none 0 0, .string (⟨#[]⟩ : ByteArray)] 34))
  have HZ0 := Aside0.mk (blk_new w (.cells #[.int .i64 0, .string (⟨#[]⟩ : ByteArray), .int .i64 0, .slice none 0 0, .string (⟨#[]⟩ : ByteArray)] 34))
  by_cases h0 : 65536 < a0.size
  · rw [if_pos h0] at h
    obtain ⟨rfl, rfl, rfl, rfl, rfl, rfl⟩ : 0 = r1 ∧ (⟨#[]⟩ : ByteArray) = r2 ∧ 0 = r3 ∧ [] = r4 ∧ (⟨#[]⟩ : ByteArray) = r5 ∧ 4 = r6 := by simpa using h
    have c1 : decide (65536 < (a0.size : Int)) = true := decide_eq_true (by omega)
    have c2 : decide (65536 < a0.size) = true := decide_eq_true h0
    clear h h0
    go_enter Tryz.func13, Tryz.ntmps13
    go_upto_region 1 with (fail)
    generalize w.alloc (.cells #[.int .i64 0, .string (⟨#[]⟩ : ByteArray), .int .i64 0, .slice none 0 0, .string (⟨#[]⟩ : ByteArray)] 34) = W0 at HB0 HZ0 ⊢
    have z0 := blk_cell HZ0.out 0
    have zf0 := blk_frozen HZ0.out 0
    have z1 := blk_cell HZ0.out 1
    have zf1 := blk_frozen HZ0.out 1
    have z2 := blk_cell HZ0.out 2
    have zf2 := blk_frozen HZ0.out 2
    have z3 := blk_cell HZ0.out 3
    have zf3 := blk_frozen HZ0.out 3
    have z4 := blk_cell HZ0.out 4
    have zf4 := blk_frozen HZ0.out 4
    go_wp2
    refine bodyPost_ret (results_ct rfl _ _ w.heap.size 34 #[.int .i64 0, .string (⟨#[]⟩ : ByteArray), .int .i64 0, .slice none 0 0, .string (⟨#[]⟩ : ByteArray)] (0, 0) _ rfl (blk_put (blk_put (blk_put (blk_put (blk_put HZ0.out 0 (.int .i64 0) rfl) 1 (.string (⟨#[]⟩ : ByteArray)) rfl) 2 (.int .i64 0) rfl) 3 (.slice none 0 0) rfl) 4 (.string (⟨#[]⟩ : ByteArray)) rfl) Tryz.underlying34 rfl (by kernel_rfl)) rfl ?_
    exact ⟨_, rfl, Kd.R_nil _ _ _ _ _, (((((HB0.out.setCell (Nat.le_refl _) _).setCell (Nat.le_refl _) _).setCell (Nat.le_refl _) _).setCell (Nat.le_refl _) _).setCell (Nat.le_refl _) _)⟩
  rw [if_neg h0] at h
  have c1 : decide (65536 < (a0.size : Int)) = false := decide_eq_false (by omega)
  have c2 : decide (65536 < a0.size) = false := decide_eq_false h0
  obtain ⟨⟨hl, hr, ht⟩, hhd, h⟩ := Option.bind_eq_some_iff.1 h
  simp only at h
  have HHD := Aside0.mk hhd
  clear hhd h0
  go_enter Tryz.func13, Tryz.ntmps13
  go_upto_region 1 with (fail)
  generalize w.alloc (.cells #[.int .i64 0, .string (⟨#[]⟩ : ByteArray), .int .i64 0, .slice none 0 0, .string (⟨#[]⟩ : ByteArray)] 34) = W0 at HB0 HZ0 ⊢
  cases ht
  case false =>
    rw [if_neg (by simp)] at h
    obtain ⟨rfl, rfl, rfl, rfl, rfl, rfl⟩ : 0 = r1 ∧ (⟨#[]⟩ : ByteArray) = r2 ∧ 0 = r3 ∧ [] = r4 ∧ (⟨#[]⟩ : ByteArray) = r5 ∧ 5 = r6 := by simpa using h
    clear h
    go_wp2_with (go_at_call 33; refine (depotref12_head.calls k a0 hl hr false _ HHD.out).mono ?_; rintro e w1 ⟨v, rfl, ho, hb⟩; obtain ⟨A0, c0, rfl, hlc, hC0⟩ := Kd.R_reads ho; have HB1 := Aside0.mk (below_step HB0.out hb); have HZ1 := Aside0.mk (blk_below HZ0.out hb); have z0 := blk_cell HZ1.out 0; have zf0 := blk_frozen HZ1.out 0; have z1 := blk_cell HZ1.out 1; have zf1 := blk_frozen HZ1.out 1; have z2 := blk_cell HZ1.out 2; have zf2 := blk_frozen HZ1.out 2; have z3 := blk_cell HZ1.out 3; have zf3 := blk_frozen HZ1.out 3; have z4 := blk_cell HZ1.out 4; have zf4 := blk_frozen HZ1.out 4; clear HHD HB0 HZ0 ho hb hC0)
    refine bodyPost_ret (results_ct rfl _ _ w.heap.size 34 #[.int .i64 0, .string (⟨#[]⟩ : ByteArray), .int .i64 0, .slice none 0 0, .string (⟨#[]⟩ : ByteArray)] (0, 0) _ rfl (blk_put (blk_put (blk_put (blk_put (blk_put HZ1.out 0 (.int .i64 0) rfl) 1 (.string (⟨#[]⟩ : ByteArray)) rfl) 2 (.int .i64 0) rfl) 3 (.slice none 0 0) rfl) 4 (.string (⟨#[]⟩ : ByteArray)) rfl) Tryz.underlying34 rfl (by kernel_rfl)) rfl ?_
    exact ⟨_, rfl, Kd.R_nil _ _ _ _ _, (((((HB1.out.setCell (Nat.le_refl _) _).setCell (Nat.le_refl _) _).setCell (Nat.le_refl _) _).setCell (Nat.le_refl _) _).setCell (Nat.le_refl _) _)⟩
  case true =>
  rw [if_pos rfl] at h
  split at h
  case isFalse => cases h
  case isTrue hp0 =>
  obtain ⟨⟨q1, q2, q3, q4⟩, hq, h⟩ := Option.bind_eq_some_iff.1 h
  simp only at h hq
  rw [show hl.getD 0 ByteArray.empty = hl[0] by rw [List.getD_eq_getElem?_getD, List.getElem?_eq_getElem hp0]; rfl] at hq
  have HQ := Aside0.mk hq
  have i0 : (0 < hl.length) = True := eq_true hp0
  have i1 : (0 : Int) < hl.length := by omega
  have i2 : (1 : Int) ≤ hl.length := by omega
  have hdl : (hl.drop 1).length = hl.length - 1 := List.length_drop
  obtain ⟨i3, hi3, _, hsz, _⟩ := info_parts info9
  clear hq
  go_upto_region 7 with (first | (go_at_call 33; refine (depotref12_head.calls k a0 hl hr true _ HHD.out).mono ?_; rintro e w1 ⟨v, rfl, ho, hb⟩; obtain ⟨A0, c0, rfl, hlc, hC0⟩ := Kd.R_reads ho; obtain ⟨bk, o, rfl, hbk, hcells⟩ := Hand.C_cells hC0 hp0; have x0 := hcells 0 hl[0] (List.getElem?_eq_getElem hp0); rw [Nat.add_zero] at x0; have hD := Kd.C_drop (m := 1) hC0 hp0 hlc; have hcut := cut_from (P := Tryz.prog) 59 9 .i64 Tryz.underlying59 hi3 1 hsz (some ⟨bk, o, none⟩) hl.length c0 1 (by omega) i2; have e1 : (1 : Int).toNat = 1 := rfl; rw [e1] at hcut; rw [show Kd.string.sz = 1 from rfl] at hD; obtain ⟨Aq, hAq⟩ : ∃ A1, A1 = (if c0 = 1 then some (⟨bk, o, none⟩ : Addr) else Option.map (fun x => x.add (1 * 1)) (some (⟨bk, o, none⟩ : Addr))) := ⟨_, rfl⟩; rw [← hAq] at hcut hD; have HD := Aside0.mk hD; have HLC := Aside0.mk hlc; have HB1 := Aside0.mk (below_step HB0.out hb); have HZ1 := Aside0.mk (blk_below HZ0.out hb); clear HHD HB0 HZ0 hAq ho hb hC0 hcells hbk hD e1) | (go_at_call 42; refine (depotref10_Status.calls k hl[0] q1 q2 q3 q4 _ HQ.out).mono ?_; rintro e w2 ⟨rfl, n2, rfl⟩; have hb := pw_below_drewN (Below.refl w1.heap.size w1) n2; have HB2 := Aside0.mk (below_step HB1.out hb); have HZ2 := Aside0.mk (blk_below HZ1.out hb); have HD2 := Aside0.mk (Kd.C_below HD.out hb); clear HQ HB1 HZ1 HD x0 hb))
  by_cases h2 : q4 = 0
  case neg =>
    rw [if_neg h2] at h
    obtain ⟨rfl, rfl, rfl, rfl, rfl, rfl⟩ : 0 = r1 ∧ (⟨#[]⟩ : ByteArray) = r2 ∧ 0 = r3 ∧ [] = r4 ∧ (⟨#[]⟩ : ByteArray) = r5 ∧ q4 = r6 := by simpa using h
    have e2 : (q4 != 0) = true := bne_iff_ne.2 h2
    have z0 := blk_cell HZ2.out 0
    have zf0 := blk_frozen HZ2.out 0
    have z1 := blk_cell HZ2.out 1
    have zf1 := blk_frozen HZ2.out 1
    have z2 := blk_cell HZ2.out 2
    have zf2 := blk_frozen HZ2.out 2
    have z3 := blk_cell HZ2.out 3
    have zf3 := blk_frozen HZ2.out 3
    have z4 := blk_cell HZ2.out 4
    have zf4 := blk_frozen HZ2.out 4
    clear h h2
    go_wp2
    refine bodyPost_ret (results_ct rfl _ _ w.heap.size 34 #[.int .i64 0, .string (⟨#[]⟩ : ByteArray), .int .i64 0, .slice none 0 0, .string (⟨#[]⟩ : ByteArray)] (0, 0) _ rfl (blk_put (blk_put (blk_put (blk_put (blk_put HZ2.out 0 (.int .i64 0) rfl) 1 (.string (⟨#[]⟩ : ByteArray)) rfl) 2 (.int .i64 0) rfl) 3 (.slice none 0 0) rfl) 4 (.string (⟨#[]⟩ : ByteArray)) rfl) Tryz.underlying34 rfl (by kernel_rfl)) rfl ?_
    exact ⟨_, rfl, Kd.R_nil _ _ _ _ _, (((((HB2.out.setCell (Nat.le_refl _) _).setCell (Nat.le_refl _) _).setCell (Nat.le_refl _) _).setCell (Nat.le_refl _) _).setCell (Nat.le_refl _) _)⟩
  subst h2
  rw [if_pos rfl] at h
  by_cases hc : q1 < 200
  · rw [if_pos hc] at h
    obtain ⟨rfl, rfl, rfl, rfl, rfl, rfl⟩ : 0 = r1 ∧ (⟨#[]⟩ : ByteArray) = r2 ∧ 0 = r3 ∧ [] = r4 ∧ (⟨#[]⟩ : ByteArray) = r5 ∧ 20 = r6 := by simpa using h
    have ec : decide (q1 < 200) = true := decide_eq_true hc
    have z0 := blk_cell HZ2.out 0
    have zf0 := blk_frozen HZ2.out 0
    have z1 := blk_cell HZ2.out 1
    have zf1 := blk_frozen HZ2.out 1
    have z2 := blk_cell HZ2.out 2
    have zf2 := blk_frozen HZ2.out 2
    have z3 := blk_cell HZ2.out 3
    have zf3 := blk_frozen HZ2.out 3
    have z4 := blk_cell HZ2.out 4
    have zf4 := blk_frozen HZ2.out 4
    clear h hc
    go_wp2
    refine bodyPost_ret (results_ct rfl _ _ w.heap.size 34 #[.int .i64 0, .string (⟨#[]⟩ : ByteArray), .int .i64 0, .slice none 0 0, .string (⟨#[]⟩ : ByteArray)] (0, 0) _ rfl (blk_put (blk_put (blk_put (blk_put (blk_put HZ2.out 0 (.int .i64 0) rfl) 1 (.string (⟨#[]⟩ : ByteArray)) rfl) 2 (.int .i64 0) rfl) 3 (.slice none 0 0) rfl) 4 (.string (⟨#[]⟩ : ByteArray)) rfl) Tryz.underlying34 rfl (by kernel_rfl)) rfl ?_
    exact ⟨_, rfl, Kd.R_nil _ _ _ _ _, (((((HB2.out.setCell (Nat.le_refl _) _).setCell (Nat.le_refl _) _).setCell (Nat.le_refl _) _).setCell (Nat.le_refl _) _).setCell (Nat.le_refl _) _)⟩
  rw [if_neg hc] at h
  have ec : decide (q1 < 200) = false := decide_eq_false hc
  clear hc
  obtain ⟨⟨s2, s1⟩, hs, h⟩ := Option.bind_eq_some_iff.1 h
  simp only at h
  have hDD := HD2.out
  have HRW := Aside0.mk (depotref12_rows.calls k Aq (c0 - 1) (hl.drop 1) s2 s1 _ hDD (by have := HLC.out; omega) hs)
  rw [hdl] at HRW
  clear hDD HD2 hs
  go_upto_region 12 with (go_at_call 35; refine HRW.out.mono ?_; rintro e w3 ⟨v, rfl, ho, hb⟩; obtain ⟨A3, c3, rfl, hl3, hC3⟩ := Kd.R_reads ho; have HB3 := Aside0.mk (below_step HB2.out hb); have HZ3 := Aside0.mk (blk_below HZ2.out hb); have HC3 := Aside0.mk hC3; clear HRW HB2 HZ2 ho hb hC3)
  by_cases h4 : s1 = 0
  case neg =>
    rw [if_neg h4] at h
    obtain ⟨rfl, rfl, rfl, rfl, rfl, rfl⟩ : 0 = r1 ∧ (⟨#[]⟩ : ByteArray) = r2 ∧ 0 = r3 ∧ [] = r4 ∧ (⟨#[]⟩ : ByteArray) = r5 ∧ s1 = r6 := by simpa using h
    have e4 : (s1 != 0) = true := bne_iff_ne.2 h4
    have z0 := blk_cell HZ3.out 0
    have zf0 := blk_frozen HZ3.out 0
    have z1 := blk_cell HZ3.out 1
    have zf1 := blk_frozen HZ3.out 1
    have z2 := blk_cell HZ3.out 2
    have zf2 := blk_frozen HZ3.out 2
    have z3 := blk_cell HZ3.out 3
    have zf3 := blk_frozen HZ3.out 3
    have z4 := blk_cell HZ3.out 4
    have zf4 := blk_frozen HZ3.out 4
    clear h h4
    go_wp2
    refine bodyPost_ret (results_ct rfl _ _ w.heap.size 34 #[.int .i64 0, .string (⟨#[]⟩ : ByteArray), .int .i64 0, .slice none 0 0, .string (⟨#[]⟩ : ByteArray)] (0, 0) _ rfl (blk_put (blk_put (blk_put (blk_put (blk_put HZ3.out 0 (.int .i64 0) rfl) 1 (.string (⟨#[]⟩ : ByteArray)) rfl) 2 (.int .i64 0) rfl) 3 (.slice none 0 0) rfl) 4 (.string (⟨#[]⟩ : ByteArray)) rfl) Tryz.underlying34 rfl (by kernel_rfl)) rfl ?_
    exact ⟨_, rfl, Kd.R_nil _ _ _ _ _, (((((HB3.out.setCell (Nat.le_refl _) _).setCell (Nat.le_refl _) _).setCell (Nat.le_refl _) _).setCell (Nat.le_refl _) _).setCell (Nat.le_refl _) _)⟩
  subst h4
  rw [if_pos rfl] at h
  obtain ⟨fr, hfr, h⟩ := Option.bind_eq_some_iff.1 h
  obtain ⟨fs, hfs, h⟩ := Option.bind_eq_some_iff.1 h
  obtain ⟨nb, hnb, h⟩ := Option.bind_eq_some_iff.1 h
  have HFR := Aside0.mk hfr
  have HFS := Aside0.mk hfs
  have HNB := Aside0.mk hnb
  clear hfr hfs hnb
  go_upto_region 15 with (first | (go_at_call 39; refine (depotref12_framing.calls fr _ HFR.out).mono ?_; rintro e w4 ⟨v, rfl, ho, hb⟩; obtain ⟨A5, c5, rfl, hl5, hC5⟩ := Kd.R_reads ho; have HB4 := Aside0.mk (below_step HB3.out hb); have HZ4 := Aside0.mk (blk_below HZ3.out hb); have HC4 := Aside0.mk (Kd.C_below HC3.out hb); have HC5 := Aside0.mk hC5; clear HFR HB3 HZ3 HC3 ho hb hC5) | (go_at_call 38; refine (depotref09_Drop.calls k A3 c3 s2 A5 c5 fr fs _ HC4.out hl3 HC5.out hl5 HFS.out).mono ?_; rintro e w5 ⟨v, rfl, hv, hb⟩; obtain ⟨A4, c4, rfl⟩ := Kd.R_slice hv; have hsz5 := hb.size; have hz4 := blk_lt HZ4.out; have HB5 := Aside0.mk (below_step HB4.out hb); have HZ5 := Aside0.mk (blk_below HZ4.out hb); have HC6 := Aside0.mk (Kd.C_below HC4.out hb); have HV := Aside0.mk (Kd.R_lower (Kd.R_mono (ok' := fun k => k ≠ w5.heap.size ∧ k ≠ w.heap.size) (Kd.R_bound hv) (fun k hk => ⟨by have h9 := hk.2.2; omega, by have h9 : w4.heap.size ≤ k := hk.2.1; omega⟩)) (show w.heap.size ≤ w4.heap.size by omega)); clear HFS HB4 HZ4 HC4 HC5 hv hb))
  have hgz : w.heap.size ≠ w5.heap.size := by have := blk_lt HZ5.out; omega
  have hgw : w.heap.size ≤ w5.heap.size := by have := blk_lt HZ5.out; omega
  have HG := Aside0.mk (blk_new w5 (.cells #[.int .i64 q1, .string q2, .int .i64 q3, .slice A4 fs.length c4, .string (⟨#[]⟩ : ByteArray)] 34))
  have hb := Hand.alloc_below w5 (.cells #[.int .i64 q1, .string q2, .int .i64 q3, .slice A4 fs.length c4, .string (⟨#[]⟩ : ByteArray)] 34)
  have HB6 := Aside0.mk (below_step HB5.out hb)
  have HZ6 := Aside0.mk (blk_below HZ5.out hb)
  have RW := Aside0.mk (Kd.R_below HV.out hb)
  have HC7 := Aside0.mk (Kd.C_below HC6.out hb)
  clear HV HC6 HB5 HZ5 hb
  generalize w5.alloc (.cells #[.int .i64 q1, .string q2, .int .i64 q3, .slice A4 fs.length c4, .string (⟨#[]⟩ : ByteArray)] 34) = w6 at HG HB6 HZ6 RW HC7 ⊢
  generalize w5.heap.size = g at HG RW hgz hgw ⊢
  by_cases hm : (a1.toList == [72, 69, 65, 68]) = true
  · rw [hm, Bool.true_or, if_pos rfl] at h
    by_cases h6 : hr.size = 0
    · rw [if_pos h6] at h
      obtain ⟨rfl, rfl, rfl, rfl, rfl, rfl⟩ : q1 = r1 ∧ q2 = r2 ∧ q3 = r3 ∧ fs = r4 ∧ (⟨#[]⟩ : ByteArray) = r5 ∧ 0 = r6 := by simpa using h
      have y1 := rempty_beq h6
      have y2 := rempty_ise h6
      have y3 := rempty_bne h6
      clear h h6
      have z0 := blk_cell HZ6.out 0
      have zf0 := blk_frozen HZ6.out 0
      have z1 := blk_cell HZ6.out 1
      have zf1 := blk_frozen HZ6.out 1
      have z2 := blk_cell HZ6.out 2
      have zf2 := blk_frozen HZ6.out 2
      have z3 := blk_cell HZ6.out 3
      have zf3 := blk_frozen HZ6.out 3
      have z4 := blk_cell HZ6.out 4
      have zf4 := blk_frozen HZ6.out 4
      have dd0 := blk_cell HG.out 0
      have dd1 := blk_cell HG.out 1
      have dd2 := blk_cell HG.out 2
      have dd3 := blk_cell HG.out 3
      have dd4 := blk_cell HG.out 4
      go_wp2
      refine bodyPost_ret (results_ct rfl _ _ w.heap.size 34 #[.int .i64 q1, .string q2, .int .i64 q3, .slice A4 fs.length c4, .string (⟨#[]⟩ : ByteArray)] (0, 0) _ rfl (blk_put (blk_put (blk_put (blk_put (blk_put HZ6.out 0 (.int .i64 q1) rfl) 1 (.string q2) rfl) 2 (.int .i64 q3) rfl) 3 (.slice A4 fs.length c4) rfl) 4 (.string (⟨#[]⟩ : ByteArray)) rfl) Tryz.underlying34 rfl (by kernel_rfl)) rfl ?_
      exact ⟨_, rfl, Kd.R_mono (Kd.R_far (p := ⟨w.heap.size, 4, none⟩) (Kd.R_far (p := ⟨w.heap.size, 3, none⟩) (Kd.R_far (p := ⟨w.heap.size, 2, none⟩) (Kd.R_far (p := ⟨w.heap.size, 1, none⟩) (Kd.R_far (p := ⟨w.heap.size, 0, none⟩) RW.out (fun k hk => hk.2) (.int .i64 q1)) (fun k hk => hk.2) (.string q2)) (fun k hk => hk.2) (.int .i64 q3)) (fun k hk => hk.2) (.slice A4 fs.length c4)) (fun k hk => hk.2) (.string (⟨#[]⟩ : ByteArray))) (fun _ _ => trivial), (((((HB6.out.setCell (Nat.le_refl _) _).setCell (Nat.le_refl _) _).setCell (Nat.le_refl _) _).setCell (Nat.le_refl _) _).setCell (Nat.le_refl _) _)⟩
    · rw [if_neg h6] at h
      obtain ⟨rfl, rfl, rfl, rfl, rfl, rfl⟩ : 0 = r1 ∧ (⟨#[]⟩ : ByteArray) = r2 ∧ 0 = r3 ∧ [] = r4 ∧ (⟨#[]⟩ : ByteArray) = r5 ∧ 22 = r6 := by simpa using h
      have y1 := rempty_ne h6
      have y2 := rempty_isn h6
      have y3 := rempty_bnn h6
      clear h h6
      have z0 := blk_cell HZ6.out 0
      have zf0 := blk_frozen HZ6.out 0
      have z1 := blk_cell HZ6.out 1
      have zf1 := blk_frozen HZ6.out 1
      have z2 := blk_cell HZ6.out 2
      have zf2 := blk_frozen HZ6.out 2
      have z3 := blk_cell HZ6.out 3
      have zf3 := blk_frozen HZ6.out 3
      have z4 := blk_cell HZ6.out 4
      have zf4 := blk_frozen HZ6.out 4
      go_wp2
      refine bodyPost_ret (results_ct rfl _ _ w.heap.size 34 #[.int .i64 0, .string (⟨#[]⟩ : ByteArray), .int .i64 0, .slice none 0 0, .string (⟨#[]⟩ : ByteArray)] (0, 0) _ rfl (blk_put (blk_put (blk_put (blk_put (blk_put HZ6.out 0 (.int .i64 0) rfl) 1 (.string (⟨#[]⟩ : ByteArray)) rfl) 2 (.int .i64 0) rfl) 3 (.slice none 0 0) rfl) 4 (.string (⟨#[]⟩ : ByteArray)) rfl) Tryz.underlying34 rfl (by kernel_rfl)) rfl ?_
      exact ⟨_, rfl, Kd.R_nil _ _ _ _ _, (((((HB6.out.setCell (Nat.le_refl _) _).setCell (Nat.le_refl _) _).setCell (Nat.le_refl _) _).setCell (Nat.le_refl _) _).setCell (Nat.le_refl _) _)⟩
  · rw [Bool.not_eq_true] at hm
    rw [hm, Bool.false_or] at h
    cases nb
    case true =>
      rw [if_pos rfl] at h
      by_cases h6 : hr.size = 0
      · rw [if_pos h6] at h
        obtain ⟨rfl, rfl, rfl, rfl, rfl, rfl⟩ : q1 = r1 ∧ q2 = r2 ∧ q3 = r3 ∧ fs = r4 ∧ (⟨#[]⟩ : ByteArray) = r5 ∧ 0 = r6 := by simpa using h
        have y1 := rempty_beq h6
        have y2 := rempty_ise h6
        have y3 := rempty_bne h6
        clear h h6
        go_wp2_with (go_at_call 26; refine (depotref12_Bodiless.calls q1 true _ HNB.out).mono ?_; rintro e w7 ⟨rfl, n2, rfl⟩; have hb := pw_below_drewN (Below.refl w6.heap.size w6) n2; have HB7 := Aside0.mk (below_step HB6.out hb); have HZ7 := Aside0.mk (blk_below HZ6.out hb); have RX := Aside0.mk (Kd.R_drewN RW.out n2); have HG7 := blk_below HG.out hb; have z0 := blk_cell HZ7.out 0; have zf0 := blk_frozen HZ7.out 0; have z1 := blk_cell HZ7.out 1; have zf1 := blk_frozen HZ7.out 1; have z2 := blk_cell HZ7.out 2; have zf2 := blk_frozen HZ7.out 2; have z3 := blk_cell HZ7.out 3; have zf3 := blk_frozen HZ7.out 3; have z4 := blk_cell HZ7.out 4; have zf4 := blk_frozen HZ7.out 4; have dd0 := blk_cell HG7 0; have dd1 := blk_cell HG7 1; have dd2 := blk_cell HG7 2; have dd3 := blk_cell HG7 3; have dd4 := blk_cell HG7 4; clear HB6 HZ6 RW HG hb)
        refine bodyPost_ret (results_ct rfl _ _ w.heap.size 34 #[.int .i64 q1, .string q2, .int .i64 q3, .slice A4 fs.length c4, .string (⟨#[]⟩ : ByteArray)] (0, 0) _ rfl (blk_put (blk_put (blk_put (blk_put (blk_put HZ7.out 0 (.int .i64 q1) rfl) 1 (.string q2) rfl) 2 (.int .i64 q3) rfl) 3 (.slice A4 fs.length c4) rfl) 4 (.string (⟨#[]⟩ : ByteArray)) rfl) Tryz.underlying34 rfl (by kernel_rfl)) rfl ?_
        exact ⟨_, rfl, Kd.R_mono (Kd.R_far (p := ⟨w.heap.size, 4, none⟩) (Kd.R_far (p := ⟨w.heap.size, 3, none⟩) (Kd.R_far (p := ⟨w.heap.size, 2, none⟩) (Kd.R_far (p := ⟨w.heap.size, 1, none⟩) (Kd.R_far (p := ⟨w.heap.size, 0, none⟩) RX.out (fun k hk => hk.2) (.int .i64 q1)) (fun k hk => hk.2) (.string q2)) (fun k hk => hk.2) (.int .i64 q3)) (fun k hk => hk.2) (.slice A4 fs.length c4)) (fun k hk => hk.2) (.string (⟨#[]⟩ : ByteArray))) (fun _ _ => trivial), (((((HB7.out.setCell (Nat.le_refl _) _).setCell (Nat.le_refl _) _).setCell (Nat.le_refl _) _).setCell (Nat.le_refl _) _).setCell (Nat.le_refl _) _)⟩
      · rw [if_neg h6] at h
        obtain ⟨rfl, rfl, rfl, rfl, rfl, rfl⟩ : 0 = r1 ∧ (⟨#[]⟩ : ByteArray) = r2 ∧ 0 = r3 ∧ [] = r4 ∧ (⟨#[]⟩ : ByteArray) = r5 ∧ 22 = r6 := by simpa using h
        have y1 := rempty_ne h6
        have y2 := rempty_isn h6
        have y3 := rempty_bnn h6
        clear h h6
        go_wp2_with (go_at_call 26; refine (depotref12_Bodiless.calls q1 true _ HNB.out).mono ?_; rintro e w7 ⟨rfl, n2, rfl⟩; have hb := pw_below_drewN (Below.refl w6.heap.size w6) n2; have HB7 := Aside0.mk (below_step HB6.out hb); have HZ7 := Aside0.mk (blk_below HZ6.out hb); have z0 := blk_cell HZ7.out 0; have zf0 := blk_frozen HZ7.out 0; have z1 := blk_cell HZ7.out 1; have zf1 := blk_frozen HZ7.out 1; have z2 := blk_cell HZ7.out 2; have zf2 := blk_frozen HZ7.out 2; have z3 := blk_cell HZ7.out 3; have zf3 := blk_frozen HZ7.out 3; have z4 := blk_cell HZ7.out 4; have zf4 := blk_frozen HZ7.out 4; clear HB6 HZ6 RW HG hb)
        refine bodyPost_ret (results_ct rfl _ _ w.heap.size 34 #[.int .i64 0, .string (⟨#[]⟩ : ByteArray), .int .i64 0, .slice none 0 0, .string (⟨#[]⟩ : ByteArray)] (0, 0) _ rfl (blk_put (blk_put (blk_put (blk_put (blk_put HZ7.out 0 (.int .i64 0) rfl) 1 (.string (⟨#[]⟩ : ByteArray)) rfl) 2 (.int .i64 0) rfl) 3 (.slice none 0 0) rfl) 4 (.string (⟨#[]⟩ : ByteArray)) rfl) Tryz.underlying34 rfl (by kernel_rfl)) rfl ?_
        exact ⟨_, rfl, Kd.R_nil _ _ _ _ _, (((((HB7.out.setCell (Nat.le_refl _) _).setCell (Nat.le_refl _) _).setCell (Nat.le_refl _) _).setCell (Nat.le_refl _) _).setCell (Nat.le_refl _) _)⟩
    case false =>
      rw [if_neg (by simp)] at h
      obtain ⟨⟨d1, d2⟩, hd, h⟩ := Option.bind_eq_some_iff.1 h
      simp only at h
      have HD := Aside0.mk hd
      clear hd
      by_cases h5 : d2 = 0
      · subst h5
        rw [if_pos rfl] at h
        obtain ⟨rfl, rfl, rfl, rfl, rfl, rfl⟩ : q1 = r1 ∧ q2 = r2 ∧ q3 = r3 ∧ fs = r4 ∧ d1 = r5 ∧ 0 = r6 := by simpa using h
        clear h
        go_upto_region 23 with (first | (go_at_call 26; refine (depotref12_Bodiless.calls q1 false _ HNB.out).mono ?_; rintro e w7 ⟨rfl, n2, rfl⟩; have hb := pw_below_drewN (Below.refl w6.heap.size w6) n2; have HB7 := Aside0.mk (below_step HB6.out hb); have HZ7 := Aside0.mk (blk_below HZ6.out hb); have RX := Aside0.mk (Kd.R_drewN RW.out n2); have HG7 := Aside0.mk (blk_below HG.out hb); have HC8 := Aside0.mk (Kd.C_below HC7.out hb); clear HB6 HZ6 RW HG HC7 hb) | (go_at_call 37; refine (depotref12_body.calls k A3 c3 s2 hr q3 true d1 0 _ HC8.out hl3 HD.out).mono ?_; rintro e w8 ⟨rfl, hb⟩; have HB8 := Aside0.mk (below_step HB7.out hb); have HZ8 := Aside0.mk (blk_below HZ7.out hb); have HG8 := Aside0.mk (blk_below HG7.out hb); have RY := Aside0.mk (Kd.R_far (p := ⟨g, 4, none⟩) (Kd.R_below RX.out hb) (fun k hk => hk.1) (.string d1)); have d4 := blk_cell HG8.out 4; have f4 := blk_frozen HG8.out 4; clear HB7 HZ7 RX HG7 HC8 HD hb))
        have HG9 := Aside0.mk (blk_put HG8.out 4 (.string d1) (cs' := #[.int .i64 q1, .string q2, .int .i64 q3, .slice A4 fs.length c4, .string d1]) rfl)
        have HZ9 := Aside0.mk (blk_far HZ8.out (p := ⟨g, 4, none⟩) hgz (.string d1))
        have HB9 := Aside0.mk (HB8.out.setCell (p := ⟨g, 4, none⟩) hgw (.string d1))
        clear HG8 HZ8 HB8 d4 f4
        generalize w8.setCell ⟨g, 4, none⟩ (.string d1) = w9 at HG9 HZ9 HB9 RY ⊢
        have z0 := blk_cell HZ9.out 0
        have zf0 := blk_frozen HZ9.out 0
        have z1 := blk_cell HZ9.out 1
        have zf1 := blk_frozen HZ9.out 1
        have z2 := blk_cell HZ9.out 2
        have zf2 := blk_frozen HZ9.out 2
        have z3 := blk_cell HZ9.out 3
        have zf3 := blk_frozen HZ9.out 3
        have z4 := blk_cell HZ9.out 4
        have zf4 := blk_frozen HZ9.out 4
        have dd0 := blk_cell HG9.out 0
        have dd1 := blk_cell HG9.out 1
        have dd2 := blk_cell HG9.out 2
        have dd3 := blk_cell HG9.out 3
        have dd4 := blk_cell HG9.out 4
        go_wp2
        refine bodyPost_ret (results_ct rfl _ _ w.heap.size 34 #[.int .i64 q1, .string q2, .int .i64 q3, .slice A4 fs.length c4, .string d1] (0, 0) _ rfl (blk_put (blk_put (blk_put (blk_put (blk_put HZ9.out 0 (.int .i64 q1) rfl) 1 (.string q2) rfl) 2 (.int .i64 q3) rfl) 3 (.slice A4 fs.length c4) rfl) 4 (.string d1) rfl) Tryz.underlying34 rfl (by kernel_rfl)) rfl ?_
        exact ⟨_, rfl, Kd.R_mono (Kd.R_far (p := ⟨w.heap.size, 4, none⟩) (Kd.R_far (p := ⟨w.heap.size, 3, none⟩) (Kd.R_far (p := ⟨w.heap.size, 2, none⟩) (Kd.R_far (p := ⟨w.heap.size, 1, none⟩) (Kd.R_far (p := ⟨w.heap.size, 0, none⟩) RY.out (fun k hk => hk.2) (.int .i64 q1)) (fun k hk => hk.2) (.string q2)) (fun k hk => hk.2) (.int .i64 q3)) (fun k hk => hk.2) (.slice A4 fs.length c4)) (fun k hk => hk.2) (.string d1)) (fun _ _ => trivial), (((((HB9.out.setCell (Nat.le_refl _) _).setCell (Nat.le_refl _) _).setCell (Nat.le_refl _) _).setCell (Nat.le_refl _) _).setCell (Nat.le_refl _) _)⟩
      · rw [if_neg h5] at h
        obtain ⟨rfl, rfl, rfl, rfl, rfl, rfl⟩ : 0 = r1 ∧ (⟨#[]⟩ : ByteArray) = r2 ∧ 0 = r3 ∧ [] = r4 ∧ (⟨#[]⟩ : ByteArray) = r5 ∧ d2 = r6 := by simpa using h
        have e5 : (d2 != 0) = true := bne_iff_ne.2 h5
        clear h h5
        go_wp2_with (first | (go_at_call 26; refine (depotref12_Bodiless.calls q1 false _ HNB.out).mono ?_; rintro e w7 ⟨rfl, n2, rfl⟩; have hb := pw_below_drewN (Below.refl w6.heap.size w6) n2; have HB7 := Aside0.mk (below_step HB6.out hb); have HZ7 := Aside0.mk (blk_below HZ6.out hb); have HC8 := Aside0.mk (Kd.C_below HC7.out hb); clear HB6 HZ6 RW HG HC7 hb) | (go_at_call 37; refine (depotref12_body.calls k A3 c3 s2 hr q3 true d1 d2 _ HC8.out hl3 HD.out).mono ?_; rintro e w8 ⟨rfl, hb⟩; have HB8 := Aside0.mk (below_step HB7.out hb); have HZ8 := Aside0.mk (blk_below HZ7.out hb); have z0 := blk_cell HZ8.out 0; have zf0 := blk_frozen HZ8.out 0; have z1 := blk_cell HZ8.out 1; have zf1 := blk_frozen HZ8.out 1; have z2 := blk_cell HZ8.out 2; have zf2 := blk_frozen HZ8.out 2; have z3 := blk_cell HZ8.out 3; have zf3 := blk_frozen HZ8.out 3; have z4 := blk_cell HZ8.out 4; have zf4 := blk_frozen HZ8.out 4; clear HB7 HZ7 HC8 HD hb))
        refine bodyPost_ret (results_ct rfl _ _ w.heap.size 34 #[.int .i64 0, .string (⟨#[]⟩ : ByteArray), .int .i64 0, .slice none 0 0, .string (⟨#[]⟩ : ByteArray)] (0, 0) _ rfl (blk_put (blk_put (blk_put (blk_put (blk_put HZ8.out 0 (.int .i64 0) rfl) 1 (.string (⟨#[]⟩ : ByteArray)) rfl) 2 (.int .i64 0) rfl) 3 (.slice none 0 0) rfl) 4 (.string (⟨#[]⟩ : ByteArray)) rfl) Tryz.underlying34 rfl (by kernel_rfl)) rfl ?_
        exact ⟨_, rfl, Kd.R_nil _ _ _ _ _, (((((HB8.out.setCell (Nat.le_refl _) _).setCell (Nat.le_refl _) _).setCell (Nat.le_refl _) _).setCell (Nat.le_refl _) _).setCell (Nat.le_refl _) _)⟩

end Go.Proofs.YtjaklgikfcahdaaGreatDoor.PV
