-- Halved: the indents of this text are half of the print's.
-- Out of the translation, by a program of this session: each function that a law comes to as a Lean function, and that the machine's call does what it says. Lean checks it.
import Derived.Test.YtjaklgikfcahdaaGreatDoorPU0
import Derived.Test.YtjaklgikfcahdaaGreatDoorPU16
import Derived.Test.YtjaklgikfcahdaaGreatDoorPU20
import Derived.Test.YtjaklgikfcahdaaGreatDoorPU23
namespace Go.Proofs.YtjaklgikfcahdaaGreatDoor.PU
open Go.RowKit Go.Proofs.YtjaklgikfcahdaaGreatDoorW.PrintWords Go.Proofs.YtjaklgikfcahdaaGreatDoorW.PrintLast Go.Proofs.YtjaklgikfcahdaaGreatDoorW.PrintMore
attribute [local go_sem] max2_int min2_int max_two min_two max_three min_three max_four min_four   -- for this text's walks alone
set_option linter.unusedVariables false
set_option linter.unusedSimpArgs false

/-! ### depotref10_Status: function 42 -/
def depotref10_Status.j0 : Nat → ByteArray → Bool → Option (Int × ByteArray × Int × Int)
 | 0, _, _ => none
 | k + 1, x0, x29 => if x29 = true then (some (0, (⟨#[]⟩ : ByteArray), 0, 20)) else (if 9 ≤ 12 then (if 12 ≤ (x0.size : Int) then ((depotref02_Number.f k (x0.extract 9 12) 599).bind fun bt280 => (if bt280.2 = 0 then (if bt280.1 < 100 then (some (0, (⟨#[]⟩ : ByteArray), 0, 20)) else (if 13 ≤ (x0.size : Int) then ((depotref01_IsText.f k (x0.extract 13 x0.size)).bind fun t282 => (if t282 = true then (if 0 ≤ 8 then (if 8 ≤ (x0.size : Int) then ((depotref10_version.f (x0.extract 0 8)).bind fun t283 => (some (bt280.1, x0.extract 13 x0.size, t283, 0))) else (none)) else (none)) else (some (0, (⟨#[]⟩ : ByteArray), 0, 20)))) else (none))) else (some (0, (⟨#[]⟩ : ByteArray), 0, 20)))) else (none)) else (none))
def depotref10_Status.f (k : Nat) (a0 : ByteArray) : Option (Int × ByteArray × Int × Int) := if (a0.size : Int) > 8192 then (some (0, (⟨#[]⟩ : ByteArray), 0, 4)) else (if (a0.size : Int) < 13 then (depotref10_Status.j0 k a0 true) else (if 0 ≤ 8 then (if 8 ≤ (a0.size : Int) then ((depotref10_version.f (a0.extract 0 8)).bind fun t279 => (if t279 < 0 then (depotref10_Status.j0 k a0 true) else (if 8 < (a0.size : Int) then (if (bt a0 8) = 32 then (if 12 < (a0.size : Int) then (depotref10_Status.j0 k a0 ((bt a0 12) != 32)) else (none)) else (depotref10_Status.j0 k a0 true)) else (none)))) else (none)) else (none)))
theorem depotref10_Status.mono_l : ∀ k, (∀ y0 y1, LeO (depotref10_Status.j0 k y0 y1) (depotref10_Status.j0 (k + 1) y0 y1))
 | 0 => fun _ _ r h => by simp [depotref10_Status.j0] at h
 | k + 1 => by
  have ih0 := depotref10_Status.mono_l k
  ·intro y0 y1
   unfold depotref10_Status.j0
   repeat' first
   | (with_reducible exact ih0 _ _)
   | (with_reducible exact depotref01_IsText.mono _ _)
   | (with_reducible exact depotref02_Number.mono _ _ _)
   | (with_reducible exact LeO.refl _)
   | (with_reducible exact LeO.none _)
   | (with_reducible refine LeO.ite ?_ ?_)
   | (with_reducible refine LeO.bind ?_ (fun _ => ?_))
   | exact ih0 _ _
   | exact depotref01_IsText.mono _ _
   | exact depotref02_Number.mono _ _ _
   | exact LeO.none _
   | refine LeO.ite ?_ ?_
   | refine LeO.bind ?_ (fun _ => ?_)
theorem depotref10_Status.mono : ∀ a0 k, LeO (depotref10_Status.f k a0) (depotref10_Status.f (k + 1) a0) := by
 intro a0 k
 have ih0 := depotref10_Status.mono_l k
 unfold depotref10_Status.f
 repeat' first
   | (with_reducible exact ih0 _ _)
   | (with_reducible exact depotref01_IsText.mono _ _)
   | (with_reducible exact depotref02_Number.mono _ _ _)
   | (with_reducible exact LeO.refl _)
   | (with_reducible exact LeO.none _)
   | (with_reducible refine LeO.ite ?_ ?_)
   | (with_reducible refine LeO.bind ?_ (fun _ => ?_))
   | exact ih0 _ _
   | exact depotref01_IsText.mono _ _
   | exact depotref02_Number.mono _ _ _
   | exact LeO.none _
   | refine LeO.ite ?_ ?_
   | refine LeO.bind ?_ (fun _ => ?_)
set_option maxHeartbeats 8000000 in
set_option maxRecDepth 100000 in
theorem depotref10_Status.calls (k : Nat) (a0 : ByteArray) (r1 : Int) (r2 : ByteArray) (r3 : Int) (r4 : Int) (w : World) (h : depotref10_Status.f k a0 = some (r1, r2, r3, r4)) :
  Calls Tryz.prog 42 #[.string a0] w fun e w' => e = .returned (.tuple #[.int .i64 r1, .string r2, .int .i64 r3, .int .i64 r4]) ∧ Drawn0 w w' := by
 have H : (if (a0.size : Int) > 8192 then (some (0, (⟨#[]⟩ : ByteArray), 0, 4)) else (if (a0.size : Int) < 13 then (depotref10_Status.j0 k a0 true) else (if 0 ≤ 8 then (if 8 ≤ (a0.size : Int) then ((depotref10_version.f (a0.extract 0 8)).bind fun t279 => (if t279 < 0 then (depotref10_Status.j0 k a0 true) else (if 8 < (a0.size : Int) then (if (bt a0 8) = 32 then (if 12 < (a0.size : Int) then (depotref10_Status.j0 k a0 ((bt a0 12) != 32)) else (none)) else (depotref10_Status.j0 k a0 true)) else (none)))) else (none)) else (none)))) = some (r1, r2, r3, r4) := h
 clear h
 by_cases c2 : (a0.size : Int) > 8192
 ·rw [if_pos c2] at H
  have c2b0 : decide (8192 < (a0.size : Int)) = true := decide_eq_true c2
  have c2b1 : decide (8192 < a0.size) = true := decide_eq_true (by omega)
  clear c2
  simp only [Option.some.injEq, Prod.mk.injEq] at H
  obtain ⟨rfl, rfl, rfl, rfl⟩ := H
  go_enter Tryz.func42, Tryz.ntmps42
  go_wp2
  repeat (go_quiet (fail); try go_wp2)
  refine bodyPost_ret (results_list (rs := [.tmp 2, .tmp 3, .tmp 4, .tmp 5]) rfl (by simp) (.tmp (.tmp (.tmp (.tmp .nil))))) rfl ?_
  exact ⟨by first | rfl | (simp; done) | (simp [*]; done) | (simp; exact Hand.isEmpty_ne _), by repeat (first | exact Drawn0.refl _ | apply Drawn0.step)⟩
 ·rw [if_neg c2] at H
  have c2b0 : decide (8192 < (a0.size : Int)) = false := decide_eq_false c2
  have c2b1 : decide (8192 < a0.size) = false := decide_eq_false (by omega)
  clear c2
  have HC3 := Aside0.mk H
  clear H
  go_enter Tryz.func42, Tryz.ntmps42
  go_upto_region 3 with (fail)
  repeat (go_quiet (fail); go_upto_region 3 with (fail))
  go_cut [29] (fun v29 wc => ∃ (kq : Nat) (x29_2 : Bool), v29 = .bool x29_2 ∧ Aside0 (depotref10_Status.j0 kq a0 x29_2 = some (r1, r2, r3, r4)) ∧ Aside0 (kq ≤ k) ∧ Drawn0 w wc)
  case first =>
   have H := HC3.out
   clear HC3
   by_cases c4 : (a0.size : Int) < 13
   ·rw [if_pos c4] at H
    have c4b0 : decide ((a0.size : Int) < 13) = true := decide_eq_true c4
    have c4b1 : decide (a0.size < 13) = true := decide_eq_true (by omega)
    clear c4
    (first | rw [c4b0] | (simp only [i64_w, i32_w]; rw [c4b0]) | skip)
    have H' := Aside0.mk H
    clear H
    go_wp2
    repeat (go_quiet (fail); try go_wp2)
    go_meet
    case rel => exact ⟨_, (true), (by first | rfl | (simp; done) | (simp [*]; done) | (simp; exact Hand.isEmpty_ne _)), H', ⟨by first | omega | exact Nat.le_refl _⟩, by repeat (first | exact Drawn0.refl _ | apply Drawn0.step)⟩
   ·rw [if_neg c4] at H
    have c4b0 : decide ((a0.size : Int) < 13) = false := decide_eq_false c4
    have c4b1 : decide (a0.size < 13) = false := decide_eq_false (by omega)
    clear c4
    (first | rw [c4b0] | (simp only [i64_w, i32_w]; rw [c4b0]) | skip)
    by_cases c5 : 0 ≤ 8
    ·rw [if_pos c5] at H
     have c5b0 := eq_true c5
     have c5b1 : decide (0 ≤ 8) = true := decide_eq_true c5
     clear c5
     by_cases c6 : 8 ≤ (a0.size : Int)
     ·rw [if_pos c6] at H
      have c6b0 := eq_true c6
      have c6b1 : decide (8 ≤ (a0.size : Int)) = true := decide_eq_true c6
      clear c6
      replace H := Option.bind_eq_some_iff.mp H
      obtain ⟨t279, A70, H⟩ := H
      replace H : (if t279 < 0 then (depotref10_Status.j0 k a0 true) else (if 8 < (a0.size : Int) then (if (bt a0 8) = 32 then (if 12 < (a0.size : Int) then (depotref10_Status.j0 k a0 ((bt a0 12) != 32)) else (none)) else (depotref10_Status.j0 k a0 true)) else (none))) = some (r1, r2, r3, r4) := H
      have A7 := Aside0.mk A70
      clear A70
      by_cases c8 : t279 < 0
      ·rw [if_pos c8] at H
       have c8b0 : decide (t279 < 0) = true := decide_eq_true c8
       clear c8
       have H' := Aside0.mk H
       clear H
       go_wp2_with (first | (go_at_call 67; (with_reducible refine (depotref10_version.calls (a0.extract 0 8) t279 _ A7.out).mono ?_); rintro e w' ⟨rfl, ⟨nd, rfl⟩⟩; (try first | exact ⟨rfl, _, World.drewN_drewN _ _ _⟩ | exact ⟨rfl, _, Eq.trans (World.drewN_drewN _ _ _) (congrArg (World.drewN _) (Nat.add_assoc _ _ _))⟩)))
       repeat (go_quiet (first | (go_at_call 67; (with_reducible refine (depotref10_version.calls (a0.extract 0 8) t279 _ A7.out).mono ?_); rintro e w' ⟨rfl, ⟨nd, rfl⟩⟩; (try first | exact ⟨rfl, _, World.drewN_drewN _ _ _⟩ | exact ⟨rfl, _, Eq.trans (World.drewN_drewN _ _ _) (congrArg (World.drewN _) (Nat.add_assoc _ _ _))⟩))); try go_wp2_with (first | (go_at_call 67; (with_reducible refine (depotref10_version.calls (a0.extract 0 8) t279 _ A7.out).mono ?_); rintro e w' ⟨rfl, ⟨nd, rfl⟩⟩; (try first | exact ⟨rfl, _, World.drewN_drewN _ _ _⟩ | exact ⟨rfl, _, Eq.trans (World.drewN_drewN _ _ _) (congrArg (World.drewN _) (Nat.add_assoc _ _ _))⟩))))
       go_meet
       case rel => exact ⟨_, (true), (by first | rfl | (simp; done) | (simp [*]; done) | (simp; exact Hand.isEmpty_ne _)), H', ⟨by first | omega | exact Nat.le_refl _⟩, by repeat (first | exact Drawn0.refl _ | apply Drawn0.step)⟩
      ·rw [if_neg c8] at H
       have c8b0 : decide (t279 < 0) = false := decide_eq_false c8
       clear c8
       by_cases c9 : 8 < (a0.size : Int)
       ·rw [if_pos c9] at H
        have c9b0 : decide (8 < (a0.size : Int)) = true := decide_eq_true c9
        have c9b1 : decide (8 < a0.size) = true := decide_eq_true (by omega)
        clear c9
        by_cases c11 : (bt a0 8) = 32
        ·rw [if_pos c11] at H
         have c11b0 : ((bt a0 8) == 32) = true := beq_iff_eq.mpr c11
         have c11b1 : ((bt a0 8) != 32) = false := bne_eq_false_iff_eq.mpr c11
         clear c11
         by_cases c12 : 12 < (a0.size : Int)
         ·rw [if_pos c12] at H
          have c12b0 : decide (12 < (a0.size : Int)) = true := decide_eq_true c12
          have c12b1 : decide (12 < a0.size) = true := decide_eq_true (by omega)
          clear c12
          have H' := Aside0.mk H
          clear H
          go_wp2_with (first | (go_at_call 67; (with_reducible refine (depotref10_version.calls (a0.extract 0 8) t279 _ A7.out).mono ?_); rintro e w' ⟨rfl, ⟨nd, rfl⟩⟩; (try first | exact ⟨rfl, _, World.drewN_drewN _ _ _⟩ | exact ⟨rfl, _, Eq.trans (World.drewN_drewN _ _ _) (congrArg (World.drewN _) (Nat.add_assoc _ _ _))⟩); have p10 : 0 ≤ (8 : Int) := (by omega); have q10 : 8 < a0.size := (by have : (8 : Int) < (a0.size : Int) := of_decide_eq_true (by first | (with_reducible assumption) | assumption); omega); have hx10 : ∀ h : 8 < a0.size, ((a0[8]'h).toNat : Int) = bt a0 8 := bt_at a0 8; clear p10; have qi10 : (8 < (a0.size : Int)) = True := eq_true (of_decide_eq_true (by first | (with_reducible assumption) | assumption)); replace q10 := eq_true q10; have p13 : 0 ≤ (12 : Int) := (by omega); have q13 : 12 < a0.size := (by have : (12 : Int) < (a0.size : Int) := of_decide_eq_true (by first | (with_reducible assumption) | assumption); omega); have hx13 : ∀ h : 12 < a0.size, ((a0[12]'h).toNat : Int) = bt a0 12 := bt_at a0 12; clear p13; have qi13 : (12 < (a0.size : Int)) = True := eq_true (of_decide_eq_true (by first | (with_reducible assumption) | assumption)); replace q13 := eq_true q13))
          repeat (go_quiet (first | (go_at_call 67; (with_reducible refine (depotref10_version.calls (a0.extract 0 8) t279 _ A7.out).mono ?_); rintro e w' ⟨rfl, ⟨nd, rfl⟩⟩; (try first | exact ⟨rfl, _, World.drewN_drewN _ _ _⟩ | exact ⟨rfl, _, Eq.trans (World.drewN_drewN _ _ _) (congrArg (World.drewN _) (Nat.add_assoc _ _ _))⟩); have p10 : 0 ≤ (8 : Int) := (by omega); have q10 : 8 < a0.size := (by have : (8 : Int) < (a0.size : Int) := of_decide_eq_true (by first | (with_reducible assumption) | assumption); omega); have hx10 : ∀ h : 8 < a0.size, ((a0[8]'h).toNat : Int) = bt a0 8 := bt_at a0 8; clear p10; have qi10 : (8 < (a0.size : Int)) = True := eq_true (of_decide_eq_true (by first | (with_reducible assumption) | assumption)); replace q10 := eq_true q10; have p13 : 0 ≤ (12 : Int) := (by omega); have q13 : 12 < a0.size := (by have : (12 : Int) < (a0.size : Int) := of_decide_eq_true (by first | (with_reducible assumption) | assumption); omega); have hx13 : ∀ h : 12 < a0.size, ((a0[12]'h).toNat : Int) = bt a0 12 := bt_at a0 12; clear p13; have qi13 : (12 < (a0.size : Int)) = True := eq_true (of_decide_eq_true (by first | (with_reducible assumption) | assumption)); replace q13 := eq_true q13)); try go_wp2_with (first | (go_at_call 67; (with_reducible refine (depotref10_version.calls (a0.extract 0 8) t279 _ A7.out).mono ?_); rintro e w' ⟨rfl, ⟨nd, rfl⟩⟩; (try first | exact ⟨rfl, _, World.drewN_drewN _ _ _⟩ | exact ⟨rfl, _, Eq.trans (World.drewN_drewN _ _ _) (congrArg (World.drewN _) (Nat.add_assoc _ _ _))⟩); have p10 : 0 ≤ (8 : Int) := (by omega); have q10 : 8 < a0.size := (by have : (8 : Int) < (a0.size : Int) := of_decide_eq_true (by first | (with_reducible assumption) | assumption); omega); have hx10 : ∀ h : 8 < a0.size, ((a0[8]'h).toNat : Int) = bt a0 8 := bt_at a0 8; clear p10; have qi10 : (8 < (a0.size : Int)) = True := eq_true (of_decide_eq_true (by first | (with_reducible assumption) | assumption)); replace q10 := eq_true q10; have p13 : 0 ≤ (12 : Int) := (by omega); have q13 : 12 < a0.size := (by have : (12 : Int) < (a0.size : Int) := of_decide_eq_true (by first | (with_reducible assumption) | assumption); omega); have hx13 : ∀ h : 12 < a0.size, ((a0[12]'h).toNat : Int) = bt a0 12 := bt_at a0 12; clear p13; have qi13 : (12 < (a0.size : Int)) = True := eq_true (of_decide_eq_true (by first | (with_reducible assumption) | assumption)); replace q13 := eq_true q13)))
          go_meet
          case rel => exact ⟨_, (((bt a0 12) != 32)), (by first | rfl | (simp; done) | (simp [*]; done) | (simp; exact Hand.isEmpty_ne _)), H', ⟨by first | omega | exact Nat.le_refl _⟩, by repeat (first | exact Drawn0.refl _ | apply Drawn0.step)⟩
         ·rw [if_neg c12] at H
          exact absurd H (by simp)
        ·rw [if_neg c11] at H
         have c11b0 : ((bt a0 8) == 32) = false := beq_eq_false_iff_ne.mpr c11
         have c11b1 : ((bt a0 8) != 32) = true := bne_iff_ne.mpr c11
         have H' := Aside0.mk H
         clear H
         go_wp2_with (first | (go_at_call 67; (with_reducible refine (depotref10_version.calls (a0.extract 0 8) t279 _ A7.out).mono ?_); rintro e w' ⟨rfl, ⟨nd, rfl⟩⟩; (try first | exact ⟨rfl, _, World.drewN_drewN _ _ _⟩ | exact ⟨rfl, _, Eq.trans (World.drewN_drewN _ _ _) (congrArg (World.drewN _) (Nat.add_assoc _ _ _))⟩); have p10 : 0 ≤ (8 : Int) := (by omega); have q10 : 8 < a0.size := (by have : (8 : Int) < (a0.size : Int) := of_decide_eq_true (by first | (with_reducible assumption) | assumption); omega); have hx10 : ∀ h : 8 < a0.size, ((a0[8]'h).toNat : Int) = bt a0 8 := bt_at a0 8; clear p10; have qi10 : (8 < (a0.size : Int)) = True := eq_true (of_decide_eq_true (by first | (with_reducible assumption) | assumption)); replace q10 := eq_true q10))
         repeat (go_quiet (first | (go_at_call 67; (with_reducible refine (depotref10_version.calls (a0.extract 0 8) t279 _ A7.out).mono ?_); rintro e w' ⟨rfl, ⟨nd, rfl⟩⟩; (try first | exact ⟨rfl, _, World.drewN_drewN _ _ _⟩ | exact ⟨rfl, _, Eq.trans (World.drewN_drewN _ _ _) (congrArg (World.drewN _) (Nat.add_assoc _ _ _))⟩); have p10 : 0 ≤ (8 : Int) := (by omega); have q10 : 8 < a0.size := (by have : (8 : Int) < (a0.size : Int) := of_decide_eq_true (by first | (with_reducible assumption) | assumption); omega); have hx10 : ∀ h : 8 < a0.size, ((a0[8]'h).toNat : Int) = bt a0 8 := bt_at a0 8; clear p10; have qi10 : (8 < (a0.size : Int)) = True := eq_true (of_decide_eq_true (by first | (with_reducible assumption) | assumption)); replace q10 := eq_true q10)); try go_wp2_with (first | (go_at_call 67; (with_reducible refine (depotref10_version.calls (a0.extract 0 8) t279 _ A7.out).mono ?_); rintro e w' ⟨rfl, ⟨nd, rfl⟩⟩; (try first | exact ⟨rfl, _, World.drewN_drewN _ _ _⟩ | exact ⟨rfl, _, Eq.trans (World.drewN_drewN _ _ _) (congrArg (World.drewN _) (Nat.add_assoc _ _ _))⟩); have p10 : 0 ≤ (8 : Int) := (by omega); have q10 : 8 < a0.size := (by have : (8 : Int) < (a0.size : Int) := of_decide_eq_true (by first | (with_reducible assumption) | assumption); omega); have hx10 : ∀ h : 8 < a0.size, ((a0[8]'h).toNat : Int) = bt a0 8 := bt_at a0 8; clear p10; have qi10 : (8 < (a0.size : Int)) = True := eq_true (of_decide_eq_true (by first | (with_reducible assumption) | assumption)); replace q10 := eq_true q10)))
         go_meet
         case rel => exact ⟨_, (true), (by first | rfl | (simp; done) | (simp [*]; done) | (simp; exact Hand.isEmpty_ne _)), H', ⟨by first | omega | exact Nat.le_refl _⟩, by repeat (first | exact Drawn0.refl _ | apply Drawn0.step)⟩
       ·rw [if_neg c9] at H
        exact absurd H (by simp)
     ·rw [if_neg c6] at H
      exact absurd H (by simp)
    ·rw [if_neg c5] at H
     exact absurd H (by simp)
  case rest =>
   clear HC3
   try clear c1
   try clear p1
   try clear q1
   try clear hx1
   try clear qi1
   try clear c2
   try clear c2b0
   try clear c2b1
   try clear p2
   try clear c4
   try clear c4b0
   try clear c4b1
   try clear c5
   try clear c5b0
   try clear c5b1
   try clear c6
   try clear c6b0
   try clear c6b1
   try clear c8
   try clear c8b0
   try clear c9
   try clear c9b0
   try clear c9b1
   try clear p10
   try clear q10
   try clear hx10
   try clear qi10
   try clear c11
   try clear c11b0
   try clear c11b1
   try clear c12
   try clear c12b0
   try clear c12b1
   try clear p13
   try clear q13
   try clear hx13
   try clear qi13
   try clear p10
   try clear p13
   try clear q10
   try clear q13
   obtain ⟨kq, x29_2, rfl, HA, HJ2, ⟨mc2, rfl⟩⟩ := hcut
   cases kq with
   | zero => exact absurd HA.out (by simp [depotref10_Status.j0])
   | succ kj2 =>
    have H := HA.out
    clear HA
    simp only [depotref10_Status.j0] at H
    by_cases c14 : x29_2 = true
    ·subst c14
     have H1 : (some (0, (⟨#[]⟩ : ByteArray), 0, 20)) = some (r1, r2, r3, r4) := by rw [if_pos rfl] at H; exact H
     clear H
     have H := H1
     clear H1
     simp only [Option.some.injEq, Prod.mk.injEq] at H
     obtain ⟨rfl, rfl, rfl, rfl⟩ := H
     go_wp2
     repeat (go_quiet (fail); try go_wp2)
     refine bodyPost_ret (results_list (rs := [.tmp 2, .tmp 3, .tmp 4, .tmp 5]) rfl (by simp) (.tmp (.tmp (.tmp (.tmp .nil))))) rfl ?_
     exact ⟨by first | rfl | (simp; done) | (simp [*]; done) | (simp; exact Hand.isEmpty_ne _), by repeat (first | exact Drawn0.refl _ | apply Drawn0.step)⟩
    ·replace c14 := Bool.eq_false_iff.mpr c14
     subst c14
     have H1 : (if 9 ≤ 12 then (if 12 ≤ (a0.size : Int) then ((depotref02_Number.f kj2 (a0.extract 9 12) 599).bind fun bt280 => (if bt280.2 = 0 then (if bt280.1 < 100 then (some (0, (⟨#[]⟩ : ByteArray), 0, 20)) else (if 13 ≤ (a0.size : Int) then ((depotref01_IsText.f kj2 (a0.extract 13 a0.size)).bind fun t282 => (if t282 = true then (if 0 ≤ 8 then (if 8 ≤ (a0.size : Int) then ((depotref10_version.f (a0.extract 0 8)).bind fun t283 => (some (bt280.1, a0.extract 13 a0.size, t283, 0))) else (none)) else (none)) else (some (0, (⟨#[]⟩ : ByteArray), 0, 20)))) else (none))) else (some (0, (⟨#[]⟩ : ByteArray), 0, 20)))) else (none)) else (none)) = some (r1, r2, r3, r4) := by rw [if_neg (show ¬ (false = true) by decide)] at H; exact H
     clear H
     have H := H1
     clear H1
     by_cases c15 : 9 ≤ 12
     ·rw [if_pos c15] at H
      have c15b0 := eq_true c15
      have c15b1 : decide (9 ≤ 12) = true := decide_eq_true c15
      clear c15
      by_cases c16 : 12 ≤ (a0.size : Int)
      ·rw [if_pos c16] at H
       have c16b0 := eq_true c16
       have c16b1 : decide (12 ≤ (a0.size : Int)) = true := decide_eq_true c16
       clear c16
       replace H := Option.bind_eq_some_iff.mp H
       obtain ⟨⟨t280, t281⟩, A170, H⟩ := H
       replace H : (if t281 = 0 then (if t280 < 100 then (some (0, (⟨#[]⟩ : ByteArray), 0, 20)) else (if 13 ≤ (a0.size : Int) then ((depotref01_IsText.f kj2 (a0.extract 13 a0.size)).bind fun t282 => (if t282 = true then (if 0 ≤ 8 then (if 8 ≤ (a0.size : Int) then ((depotref10_version.f (a0.extract 0 8)).bind fun t283 => (some (t280, a0.extract 13 a0.size, t283, 0))) else (none)) else (none)) else (some (0, (⟨#[]⟩ : ByteArray), 0, 20)))) else (none))) else (some (0, (⟨#[]⟩ : ByteArray), 0, 20))) = some (r1, r2, r3, r4) := H
       have A17 := Aside0.mk A170
       clear A170
       by_cases c18 : t281 = 0
       ·rw [if_pos c18] at H
        have c18b0 : (t281 == 0) = true := beq_iff_eq.mpr c18
        have c18b1 : (t281 != 0) = false := bne_eq_false_iff_eq.mpr c18
        clear c18
        by_cases c19 : t280 < 100
        ·rw [if_pos c19] at H
         have c19b0 : decide (t280 < 100) = true := decide_eq_true c19
         clear c19
         simp only [Option.some.injEq, Prod.mk.injEq] at H
         obtain ⟨rfl, rfl, rfl, rfl⟩ := H
         go_wp2_with (first | (go_at_call 77; (with_reducible refine (depotref02_Number.calls kj2 (a0.extract 9 12) 599 t280 t281 _ A17.out).mono ?_); rintro e w' ⟨rfl, ⟨nd, rfl⟩⟩; (try first | exact ⟨rfl, _, World.drewN_drewN _ _ _⟩ | exact ⟨rfl, _, Eq.trans (World.drewN_drewN _ _ _) (congrArg (World.drewN _) (Nat.add_assoc _ _ _))⟩)))
         repeat (go_quiet (first | (go_at_call 77; (with_reducible refine (depotref02_Number.calls kj2 (a0.extract 9 12) 599 t280 t281 _ A17.out).mono ?_); rintro e w' ⟨rfl, ⟨nd, rfl⟩⟩; (try first | exact ⟨rfl, _, World.drewN_drewN _ _ _⟩ | exact ⟨rfl, _, Eq.trans (World.drewN_drewN _ _ _) (congrArg (World.drewN _) (Nat.add_assoc _ _ _))⟩))); try go_wp2_with (first | (go_at_call 77; (with_reducible refine (depotref02_Number.calls kj2 (a0.extract 9 12) 599 t280 t281 _ A17.out).mono ?_); rintro e w' ⟨rfl, ⟨nd, rfl⟩⟩; (try first | exact ⟨rfl, _, World.drewN_drewN _ _ _⟩ | exact ⟨rfl, _, Eq.trans (World.drewN_drewN _ _ _) (congrArg (World.drewN _) (Nat.add_assoc _ _ _))⟩))))
         refine bodyPost_ret (results_list (rs := [.tmp 2, .tmp 3, .tmp 4, .tmp 5]) rfl (by simp) (.tmp (.tmp (.tmp (.tmp .nil))))) rfl ?_
         exact ⟨by first | rfl | (simp; done) | (simp [*]; done) | (simp; exact Hand.isEmpty_ne _), by repeat (first | exact Drawn0.refl _ | apply Drawn0.step)⟩
        ·rw [if_neg c19] at H
         have c19b0 : decide (t280 < 100) = false := decide_eq_false c19
         clear c19
         by_cases c20 : 13 ≤ (a0.size : Int)
         ·rw [if_pos c20] at H
          have c20b0 := eq_true c20
          have c20b1 : decide (13 ≤ (a0.size : Int)) = true := decide_eq_true c20
          clear c20
          replace H := Option.bind_eq_some_iff.mp H
          obtain ⟨t282, A210, H⟩ := H
          replace H : (if t282 = true then (if 0 ≤ 8 then (if 8 ≤ (a0.size : Int) then ((depotref10_version.f (a0.extract 0 8)).bind fun t283 => (some (t280, a0.extract 13 a0.size, t283, 0))) else (none)) else (none)) else (some (0, (⟨#[]⟩ : ByteArray), 0, 20))) = some (r1, r2, r3, r4) := H
          have A21 := Aside0.mk A210
          clear A210
          by_cases c22 : t282 = true
          ·subst c22
           have H1 : (if 0 ≤ 8 then (if 8 ≤ (a0.size : Int) then ((depotref10_version.f (a0.extract 0 8)).bind fun t283 => (some (t280, a0.extract 13 a0.size, t283, 0))) else (none)) else (none)) = some (r1, r2, r3, r4) := by rw [if_pos rfl] at H; exact H
           clear H
           have H := H1
           clear H1
           have c23b0 := eq_true (of_decide_eq_true (by first | (with_reducible assumption) | assumption) : 13 ≤ (a0.size : Int))
           by_cases c24 : 0 ≤ 8
           ·rw [if_pos c24] at H
            have c24b0 := eq_true c24
            have c24b1 : decide (0 ≤ 8) = true := decide_eq_true c24
            clear c24
            by_cases c25 : 8 ≤ (a0.size : Int)
            ·rw [if_pos c25] at H
             have c25b0 := eq_true c25
             have c25b1 : decide (8 ≤ (a0.size : Int)) = true := decide_eq_true c25
             clear c25
             replace H := Option.bind_eq_some_iff.mp H
             obtain ⟨t283, A260, H⟩ := H
             replace H : (some (t280, a0.extract 13 a0.size, t283, 0)) = some (r1, r2, r3, r4) := H
             have A26 := Aside0.mk A260
             clear A260
             simp only [Option.some.injEq, Prod.mk.injEq] at H
             obtain ⟨rfl, rfl, rfl, rfl⟩ := H
             go_wp2_with (first | (go_at_call 77; (with_reducible refine (depotref02_Number.calls kj2 (a0.extract 9 12) 599 t280 t281 _ A17.out).mono ?_); rintro e w' ⟨rfl, ⟨nd, rfl⟩⟩; (try first | exact ⟨rfl, _, World.drewN_drewN _ _ _⟩ | exact ⟨rfl, _, Eq.trans (World.drewN_drewN _ _ _) (congrArg (World.drewN _) (Nat.add_assoc _ _ _))⟩)) | (go_at_call 78; (with_reducible refine (depotref01_IsText.calls kj2 (a0.extract 13 a0.size) true _ A21.out).mono ?_); rintro e w' ⟨rfl, ⟨nd, rfl⟩⟩; (try first | exact ⟨rfl, _, World.drewN_drewN _ _ _⟩ | exact ⟨rfl, _, Eq.trans (World.drewN_drewN _ _ _) (congrArg (World.drewN _) (Nat.add_assoc _ _ _))⟩)) | (go_at_call 67; (with_reducible refine (depotref10_version.calls (a0.extract 0 8) t283 _ A26.out).mono ?_); rintro e w' ⟨rfl, ⟨nd, rfl⟩⟩; (try first | exact ⟨rfl, _, World.drewN_drewN _ _ _⟩ | exact ⟨rfl, _, Eq.trans (World.drewN_drewN _ _ _) (congrArg (World.drewN _) (Nat.add_assoc _ _ _))⟩)))
             repeat (go_quiet (first | (go_at_call 77; (with_reducible refine (depotref02_Number.calls kj2 (a0.extract 9 12) 599 t280 t281 _ A17.out).mono ?_); rintro e w' ⟨rfl, ⟨nd, rfl⟩⟩; (try first | exact ⟨rfl, _, World.drewN_drewN _ _ _⟩ | exact ⟨rfl, _, Eq.trans (World.drewN_drewN _ _ _) (congrArg (World.drewN _) (Nat.add_assoc _ _ _))⟩)) | (go_at_call 78; (with_reducible refine (depotref01_IsText.calls kj2 (a0.extract 13 a0.size) true _ A21.out).mono ?_); rintro e w' ⟨rfl, ⟨nd, rfl⟩⟩; (try first | exact ⟨rfl, _, World.drewN_drewN _ _ _⟩ | exact ⟨rfl, _, Eq.trans (World.drewN_drewN _ _ _) (congrArg (World.drewN _) (Nat.add_assoc _ _ _))⟩)) | (go_at_call 67; (with_reducible refine (depotref10_version.calls (a0.extract 0 8) t283 _ A26.out).mono ?_); rintro e w' ⟨rfl, ⟨nd, rfl⟩⟩; (try first | exact ⟨rfl, _, World.drewN_drewN _ _ _⟩ | exact ⟨rfl, _, Eq.trans (World.drewN_drewN _ _ _) (congrArg (World.drewN _) (Nat.add_assoc _ _ _))⟩))); try go_wp2_with (first | (go_at_call 77; (with_reducible refine (depotref02_Number.calls kj2 (a0.extract 9 12) 599 t280 t281 _ A17.out).mono ?_); rintro e w' ⟨rfl, ⟨nd, rfl⟩⟩; (try first | exact ⟨rfl, _, World.drewN_drewN _ _ _⟩ | exact ⟨rfl, _, Eq.trans (World.drewN_drewN _ _ _) (congrArg (World.drewN _) (Nat.add_assoc _ _ _))⟩)) | (go_at_call 78; (with_reducible refine (depotref01_IsText.calls kj2 (a0.extract 13 a0.size) true _ A21.out).mono ?_); rintro e w' ⟨rfl, ⟨nd, rfl⟩⟩; (try first | exact ⟨rfl, _, World.drewN_drewN _ _ _⟩ | exact ⟨rfl, _, Eq.trans (World.drewN_drewN _ _ _) (congrArg (World.drewN _) (Nat.add_assoc _ _ _))⟩)) | (go_at_call 67; (with_reducible refine (depotref10_version.calls (a0.extract 0 8) t283 _ A26.out).mono ?_); rintro e w' ⟨rfl, ⟨nd, rfl⟩⟩; (try first | exact ⟨rfl, _, World.drewN_drewN _ _ _⟩ | exact ⟨rfl, _, Eq.trans (World.drewN_drewN _ _ _) (congrArg (World.drewN _) (Nat.add_assoc _ _ _))⟩))))
             refine bodyPost_ret (results_list (rs := [.tmp 2, .tmp 3, .tmp 4, .tmp 5]) rfl (by simp) (.tmp (.tmp (.tmp (.tmp .nil))))) rfl ?_
             exact ⟨by first | rfl | (simp; done) | (simp [*]; done) | (simp; exact Hand.isEmpty_ne _), by repeat (first | exact Drawn0.refl _ | apply Drawn0.step)⟩
            ·rw [if_neg c25] at H
             exact absurd H (by simp)
           ·rw [if_neg c24] at H
            exact absurd H (by simp)
          ·replace c22 := Bool.eq_false_iff.mpr c22
           subst c22
           have H1 : (some (0, (⟨#[]⟩ : ByteArray), 0, 20)) = some (r1, r2, r3, r4) := by rw [if_neg (show ¬ (false = true) by decide)] at H; exact H
           clear H
           have H := H1
           clear H1
           simp only [Option.some.injEq, Prod.mk.injEq] at H
           obtain ⟨rfl, rfl, rfl, rfl⟩ := H
           go_wp2_with (first | (go_at_call 77; (with_reducible refine (depotref02_Number.calls kj2 (a0.extract 9 12) 599 t280 t281 _ A17.out).mono ?_); rintro e w' ⟨rfl, ⟨nd, rfl⟩⟩; (try first | exact ⟨rfl, _, World.drewN_drewN _ _ _⟩ | exact ⟨rfl, _, Eq.trans (World.drewN_drewN _ _ _) (congrArg (World.drewN _) (Nat.add_assoc _ _ _))⟩)) | (go_at_call 78; (with_reducible refine (depotref01_IsText.calls kj2 (a0.extract 13 a0.size) false _ A21.out).mono ?_); rintro e w' ⟨rfl, ⟨nd, rfl⟩⟩; (try first | exact ⟨rfl, _, World.drewN_drewN _ _ _⟩ | exact ⟨rfl, _, Eq.trans (World.drewN_drewN _ _ _) (congrArg (World.drewN _) (Nat.add_assoc _ _ _))⟩)))
           repeat (go_quiet (first | (go_at_call 77; (with_reducible refine (depotref02_Number.calls kj2 (a0.extract 9 12) 599 t280 t281 _ A17.out).mono ?_); rintro e w' ⟨rfl, ⟨nd, rfl⟩⟩; (try first | exact ⟨rfl, _, World.drewN_drewN _ _ _⟩ | exact ⟨rfl, _, Eq.trans (World.drewN_drewN _ _ _) (congrArg (World.drewN _) (Nat.add_assoc _ _ _))⟩)) | (go_at_call 78; (with_reducible refine (depotref01_IsText.calls kj2 (a0.extract 13 a0.size) false _ A21.out).mono ?_); rintro e w' ⟨rfl, ⟨nd, rfl⟩⟩; (try first | exact ⟨rfl, _, World.drewN_drewN _ _ _⟩ | exact ⟨rfl, _, Eq.trans (World.drewN_drewN _ _ _) (congrArg (World.drewN _) (Nat.add_assoc _ _ _))⟩))); try go_wp2_with (first | (go_at_call 77; (with_reducible refine (depotref02_Number.calls kj2 (a0.extract 9 12) 599 t280 t281 _ A17.out).mono ?_); rintro e w' ⟨rfl, ⟨nd, rfl⟩⟩; (try first | exact ⟨rfl, _, World.drewN_drewN _ _ _⟩ | exact ⟨rfl, _, Eq.trans (World.drewN_drewN _ _ _) (congrArg (World.drewN _) (Nat.add_assoc _ _ _))⟩)) | (go_at_call 78; (with_reducible refine (depotref01_IsText.calls kj2 (a0.extract 13 a0.size) false _ A21.out).mono ?_); rintro e w' ⟨rfl, ⟨nd, rfl⟩⟩; (try first | exact ⟨rfl, _, World.drewN_drewN _ _ _⟩ | exact ⟨rfl, _, Eq.trans (World.drewN_drewN _ _ _) (congrArg (World.drewN _) (Nat.add_assoc _ _ _))⟩))))
           refine bodyPost_ret (results_list (rs := [.tmp 2, .tmp 3, .tmp 4, .tmp 5]) rfl (by simp) (.tmp (.tmp (.tmp (.tmp .nil))))) rfl ?_
           exact ⟨by first | rfl | (simp; done) | (simp [*]; done) | (simp; exact Hand.isEmpty_ne _), by repeat (first | exact Drawn0.refl _ | apply Drawn0.step)⟩
         ·rw [if_neg c20] at H
          exact absurd H (by simp)
       ·rw [if_neg c18] at H
        have c18b0 : (t281 == 0) = false := beq_eq_false_iff_ne.mpr c18
        have c18b1 : (t281 != 0) = true := bne_iff_ne.mpr c18
        simp only [Option.some.injEq, Prod.mk.injEq] at H
        obtain ⟨rfl, rfl, rfl, rfl⟩ := H
        go_wp2_with (first | (go_at_call 77; (with_reducible refine (depotref02_Number.calls kj2 (a0.extract 9 12) 599 t280 t281 _ A17.out).mono ?_); rintro e w' ⟨rfl, ⟨nd, rfl⟩⟩; (try first | exact ⟨rfl, _, World.drewN_drewN _ _ _⟩ | exact ⟨rfl, _, Eq.trans (World.drewN_drewN _ _ _) (congrArg (World.drewN _) (Nat.add_assoc _ _ _))⟩)))
        repeat (go_quiet (first | (go_at_call 77; (with_reducible refine (depotref02_Number.calls kj2 (a0.extract 9 12) 599 t280 t281 _ A17.out).mono ?_); rintro e w' ⟨rfl, ⟨nd, rfl⟩⟩; (try first | exact ⟨rfl, _, World.drewN_drewN _ _ _⟩ | exact ⟨rfl, _, Eq.trans (World.drewN_drewN _ _ _) (congrArg (World.drewN _) (Nat.add_assoc _ _ _))⟩))); try go_wp2_with (first | (go_at_call 77; (with_reducible refine (depotref02_Number.calls kj2 (a0.extract 9 12) 599 t280 t281 _ A17.out).mono ?_); rintro e w' ⟨rfl, ⟨nd, rfl⟩⟩; (try first | exact ⟨rfl, _, World.drewN_drewN _ _ _⟩ | exact ⟨rfl, _, Eq.trans (World.drewN_drewN _ _ _) (congrArg (World.drewN _) (Nat.add_assoc _ _ _))⟩))))
        refine bodyPost_ret (results_list (rs := [.tmp 2, .tmp 3, .tmp 4, .tmp 5]) rfl (by simp) (.tmp (.tmp (.tmp (.tmp .nil))))) rfl ?_
        exact ⟨by first | rfl | (simp; done) | (simp [*]; done) | (simp; exact Hand.isEmpty_ne _), by repeat (first | exact Drawn0.refl _ | apply Drawn0.step)⟩
      ·rw [if_neg c16] at H
       exact absurd H (by simp)
     ·rw [if_neg c15] at H
      exact absurd H (by simp)

end Go.Proofs.YtjaklgikfcahdaaGreatDoor.PU
