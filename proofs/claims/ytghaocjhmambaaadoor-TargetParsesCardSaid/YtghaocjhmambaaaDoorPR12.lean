-- Out of the translation, by a program of this session: each function that a law comes to as a Lean function, and that the machine's call does what it says. Lean checks it.
import Derived.Test.YtghaocjhmambaaaDoorPR0
namespace Go.Proofs.YtghaocjhmambaaaDoor.PR
open Go.RowKit Go.Proofs.YtghaocjhmambaaaDoorW.PrintWords Go.Proofs.YtghaocjhmambaaaDoorW.PrintLast Go.Proofs.YtghaocjhmambaaaDoorW.PrintMore
attribute [local go_sem] max2_int min2_int max_two min_two max_three min_three max_four min_four   -- for this text's walks alone
set_option linter.unusedVariables false
set_option linter.unusedSimpArgs false

/-! ### depotref08_dots: function 28 -/
mutual
def depotref08_dots.l0 : Nat → ByteArray → ByteArray → Option (ByteArray)
  | 0, _, _ => none
  | k + 1, x0, x3 => if (x0.size : Int) > 0 then (depotref08_dots.l1 k x0 x3 1) else (if x3.toList = ([] : List UInt8) then (some (⟨#[47]⟩ : ByteArray)) else (some x3))
def depotref08_dots.j2 : Nat → ByteArray → ByteArray → Int → Option (ByteArray)
  | 0, _, _, _ => none
  | k + 1, x0, x3, x4 => if 0 ≤ x4 then (if x4 ≤ (x0.size : Int) then (if (x0.extract 0 (x4 : Int).toNat).toList = ([47, 46, 46] : List UInt8) then (depotref08_dots.l2 k (x0.extract (x4 : Int).toNat x0.size) x3 (x0.extract 0 (x4 : Int).toNat) (x4 == (x0.size : Int))) else (depotref08_dots.j4 k (x0.extract (x4 : Int).toNat x0.size) x3 (x0.extract 0 (x4 : Int).toNat) (x4 == (x0.size : Int)))) else (none)) else (none)
def depotref08_dots.j4 : Nat → ByteArray → ByteArray → ByteArray → Bool → Option (ByteArray)
  | 0, _, _, _, _ => none
  | k + 1, x0, x3, x5, x6 => if x5.toList = ([47, 46] : List UInt8) then (depotref08_dots.j5 k x0 x3 x5 x6 false) else (depotref08_dots.j5 k x0 x3 x5 x6 (x5.toList != ([47, 46, 46] : List UInt8)))
def depotref08_dots.j5 : Nat → ByteArray → ByteArray → ByteArray → Bool → Bool → Option (ByteArray)
  | 0, _, _, _, _, _ => none
  | k + 1, x0, x3, x5, x6, x63 => if x63 = true then (if x3.size + x5.size ≤ 9223372036854775807 then (depotref08_dots.l0 k x0 (x3 ++ x5)) else (none)) else (if x6 = true then (if x3.size + 1 ≤ 9223372036854775807 then (depotref08_dots.l0 k x0 (x3 ++ (⟨#[47]⟩ : ByteArray))) else (none)) else (depotref08_dots.l0 k x0 x3))
def depotref08_dots.l2 : Nat → ByteArray → ByteArray → ByteArray → Bool → Option (ByteArray)
  | 0, _, _, _, _ => none
  | k + 1, x0, x3, x5, x6 => if (x3.size : Int) > 0 then (if 0 ≤ (wrap64 ((x3.size : Int) - 1)) then (if (wrap64 ((x3.size : Int) - 1)) < (x3.size : Int) then (if (bt x3 (wrap64 ((x3.size : Int) - 1))) = 47 then (if (wrap64 ((x3.size : Int) - 1)) ≤ (x3.size : Int) then (depotref08_dots.j4 k x0 (x3.extract 0 ((wrap64 ((x3.size : Int) - 1)) : Int).toNat) x5 x6) else (none)) else (if (wrap64 ((x3.size : Int) - 1)) ≤ (x3.size : Int) then (depotref08_dots.l2 k x0 (x3.extract 0 ((wrap64 ((x3.size : Int) - 1)) : Int).toNat) x5 x6) else (none))) else (none)) else (none)) else (depotref08_dots.j4 k x0 x3 x5 x6)
def depotref08_dots.l1 : Nat → ByteArray → ByteArray → Int → Option (ByteArray)
  | 0, _, _, _ => none
  | k + 1, x0, x3, x4 => if x4 < (x0.size : Int) then (if 0 ≤ x4 then (if (bt x0 x4) = 47 then (depotref08_dots.j2 k x0 x3 x4) else (depotref08_dots.l1 k x0 x3 (wrap64 (x4 + 1)))) else (none)) else (depotref08_dots.j2 k x0 x3 x4)
end
def depotref08_dots.f (k : Nat) (a0 : ByteArray) : Option (ByteArray) := depotref08_dots.l0 k a0 (⟨#[]⟩ : ByteArray)
theorem depotref08_dots.mono_l : ∀ k, (∀ y0 y1, LeO (depotref08_dots.l0 k y0 y1) (depotref08_dots.l0 (k + 1) y0 y1)) ∧ (∀ y0 y1 y2, LeO (depotref08_dots.j2 k y0 y1 y2) (depotref08_dots.j2 (k + 1) y0 y1 y2)) ∧ (∀ y0 y1 y2 y3, LeO (depotref08_dots.j4 k y0 y1 y2 y3) (depotref08_dots.j4 (k + 1) y0 y1 y2 y3)) ∧ (∀ y0 y1 y2 y3 y4, LeO (depotref08_dots.j5 k y0 y1 y2 y3 y4) (depotref08_dots.j5 (k + 1) y0 y1 y2 y3 y4)) ∧ (∀ y0 y1 y2 y3, LeO (depotref08_dots.l2 k y0 y1 y2 y3) (depotref08_dots.l2 (k + 1) y0 y1 y2 y3)) ∧ (∀ y0 y1 y2, LeO (depotref08_dots.l1 k y0 y1 y2) (depotref08_dots.l1 (k + 1) y0 y1 y2))
  | 0 => ⟨fun _ _ r h => by simp [depotref08_dots.l0] at h, fun _ _ _ r h => by simp [depotref08_dots.j2] at h, fun _ _ _ _ r h => by simp [depotref08_dots.j4] at h, fun _ _ _ _ _ r h => by simp [depotref08_dots.j5] at h, fun _ _ _ _ r h => by simp [depotref08_dots.l2] at h, fun _ _ _ r h => by simp [depotref08_dots.l1] at h⟩
  | k + 1 => by
    obtain ⟨ih0, ih1, ih2, ih3, ih4, ih5⟩ := depotref08_dots.mono_l k
    refine ⟨?_, ?_, ?_, ?_, ?_, ?_⟩
    · intro y0 y1
      unfold depotref08_dots.l0
      repeat' first
      | (with_reducible exact ih0 _ _)
      | (with_reducible exact ih1 _ _ _)
      | (with_reducible exact ih2 _ _ _ _)
      | (with_reducible exact ih3 _ _ _ _ _)
      | (with_reducible exact ih4 _ _ _ _)
      | (with_reducible exact ih5 _ _ _)
      | (with_reducible exact LeO.refl _)
      | (with_reducible exact LeO.none _)
      | (with_reducible refine LeO.ite ?_ ?_)
      | (with_reducible refine LeO.bind ?_ (fun _ => ?_))
      | exact ih0 _ _
      | exact ih1 _ _ _
      | exact ih2 _ _ _ _
      | exact ih3 _ _ _ _ _
      | exact ih4 _ _ _ _
      | exact ih5 _ _ _
      | exact LeO.none _
      | refine LeO.ite ?_ ?_
      | refine LeO.bind ?_ (fun _ => ?_)
    · intro y0 y1 y2
      unfold depotref08_dots.j2
      repeat' first
      | (with_reducible exact ih0 _ _)
      | (with_reducible exact ih1 _ _ _)
      | (with_reducible exact ih2 _ _ _ _)
      | (with_reducible exact ih3 _ _ _ _ _)
      | (with_reducible exact ih4 _ _ _ _)
      | (with_reducible exact ih5 _ _ _)
      | (with_reducible exact LeO.refl _)
      | (with_reducible exact LeO.none _)
      | (with_reducible refine LeO.ite ?_ ?_)
      | (with_reducible refine LeO.bind ?_ (fun _ => ?_))
      | exact ih0 _ _
      | exact ih1 _ _ _
      | exact ih2 _ _ _ _
      | exact ih3 _ _ _ _ _
      | exact ih4 _ _ _ _
      | exact ih5 _ _ _
      | exact LeO.none _
      | refine LeO.ite ?_ ?_
      | refine LeO.bind ?_ (fun _ => ?_)
    · intro y0 y1 y2 y3
      unfold depotref08_dots.j4
      repeat' first
      | (with_reducible exact ih0 _ _)
      | (with_reducible exact ih1 _ _ _)
      | (with_reducible exact ih2 _ _ _ _)
      | (with_reducible exact ih3 _ _ _ _ _)
      | (with_reducible exact ih4 _ _ _ _)
      | (with_reducible exact ih5 _ _ _)
      | (with_reducible exact LeO.refl _)
      | (with_reducible exact LeO.none _)
      | (with_reducible refine LeO.ite ?_ ?_)
      | (with_reducible refine LeO.bind ?_ (fun _ => ?_))
      | exact ih0 _ _
      | exact ih1 _ _ _
      | exact ih2 _ _ _ _
      | exact ih3 _ _ _ _ _
      | exact ih4 _ _ _ _
      | exact ih5 _ _ _
      | exact LeO.none _
      | refine LeO.ite ?_ ?_
      | refine LeO.bind ?_ (fun _ => ?_)
    · intro y0 y1 y2 y3 y4
      unfold depotref08_dots.j5
      repeat' first
      | (with_reducible exact ih0 _ _)
      | (with_reducible exact ih1 _ _ _)
      | (with_reducible exact ih2 _ _ _ _)
      | (with_reducible exact ih3 _ _ _ _ _)
      | (with_reducible exact ih4 _ _ _ _)
      | (with_reducible exact ih5 _ _ _)
      | (with_reducible exact LeO.refl _)
      | (with_reducible exact LeO.none _)
      | (with_reducible refine LeO.ite ?_ ?_)
      | (with_reducible refine LeO.bind ?_ (fun _ => ?_))
      | exact ih0 _ _
      | exact ih1 _ _ _
      | exact ih2 _ _ _ _
      | exact ih3 _ _ _ _ _
      | exact ih4 _ _ _ _
      | exact ih5 _ _ _
      | exact LeO.none _
      | refine LeO.ite ?_ ?_
      | refine LeO.bind ?_ (fun _ => ?_)
    · intro y0 y1 y2 y3
      unfold depotref08_dots.l2
      repeat' first
      | (with_reducible exact ih0 _ _)
      | (with_reducible exact ih1 _ _ _)
      | (with_reducible exact ih2 _ _ _ _)
      | (with_reducible exact ih3 _ _ _ _ _)
      | (with_reducible exact ih4 _ _ _ _)
      | (with_reducible exact ih5 _ _ _)
      | (with_reducible exact LeO.refl _)
      | (with_reducible exact LeO.none _)
      | (with_reducible refine LeO.ite ?_ ?_)
      | (with_reducible refine LeO.bind ?_ (fun _ => ?_))
      | exact ih0 _ _
      | exact ih1 _ _ _
      | exact ih2 _ _ _ _
      | exact ih3 _ _ _ _ _
      | exact ih4 _ _ _ _
      | exact ih5 _ _ _
      | exact LeO.none _
      | refine LeO.ite ?_ ?_
      | refine LeO.bind ?_ (fun _ => ?_)
    · intro y0 y1 y2
      unfold depotref08_dots.l1
      repeat' first
      | (with_reducible exact ih0 _ _)
      | (with_reducible exact ih1 _ _ _)
      | (with_reducible exact ih2 _ _ _ _)
      | (with_reducible exact ih3 _ _ _ _ _)
      | (with_reducible exact ih4 _ _ _ _)
      | (with_reducible exact ih5 _ _ _)
      | (with_reducible exact LeO.refl _)
      | (with_reducible exact LeO.none _)
      | (with_reducible refine LeO.ite ?_ ?_)
      | (with_reducible refine LeO.bind ?_ (fun _ => ?_))
      | exact ih0 _ _
      | exact ih1 _ _ _
      | exact ih2 _ _ _ _
      | exact ih3 _ _ _ _ _
      | exact ih4 _ _ _ _
      | exact ih5 _ _ _
      | exact LeO.none _
      | refine LeO.ite ?_ ?_
      | refine LeO.bind ?_ (fun _ => ?_)
theorem depotref08_dots.mono : ∀ a0 k, LeO (depotref08_dots.f k a0) (depotref08_dots.f (k + 1) a0) := by
  intro a0 k
  obtain ⟨ih0, ih1, ih2, ih3, ih4, ih5⟩ := depotref08_dots.mono_l k
  unfold depotref08_dots.f
  repeat' first
      | (with_reducible exact ih0 _ _)
      | (with_reducible exact ih1 _ _ _)
      | (with_reducible exact ih2 _ _ _ _)
      | (with_reducible exact ih3 _ _ _ _ _)
      | (with_reducible exact ih4 _ _ _ _)
      | (with_reducible exact ih5 _ _ _)
      | (with_reducible exact LeO.refl _)
      | (with_reducible exact LeO.none _)
      | (with_reducible refine LeO.ite ?_ ?_)
      | (with_reducible refine LeO.bind ?_ (fun _ => ?_))
      | exact ih0 _ _
      | exact ih1 _ _ _
      | exact ih2 _ _ _ _
      | exact ih3 _ _ _ _ _
      | exact ih4 _ _ _ _
      | exact ih5 _ _ _
      | exact LeO.none _
      | refine LeO.ite ?_ ?_
      | refine LeO.bind ?_ (fun _ => ?_)
set_option maxHeartbeats 8000000 in
set_option maxRecDepth 100000 in
theorem depotref08_dots.calls (k : Nat) (a0 : ByteArray) (r : ByteArray) (w : World) (h : depotref08_dots.f k a0 = some r) :
    Calls Tryd.prog 28 #[.string a0] w fun e w' => e = .returned (.string r) ∧ Drawn0 w w' := by
  have H : (depotref08_dots.l0 k a0 (⟨#[]⟩ : ByteArray)) = some r := h
  clear h
  have H' := Aside0.mk H
  clear H
  go_enter Tryd.func28, Tryd.ntmps28
  go_wp2
  go_loopg [0, 3] k (fun kq v0 v3 w' => ∃ (x0_1 : ByteArray) (x3_1 : ByteArray), v0 = .string x0_1 ∧ v3 = .string x3_1 ∧ Aside0 (depotref08_dots.l0 kq x0_1 x3_1 = some r) ∧ Aside0 (kq ≤ k) ∧ Drawn0 w w')
  case atStart => exact ⟨(a0), ((⟨#[]⟩ : ByteArray)), (by first | rfl | (simp; done) | (simp [*]; done) | (simp; exact Hand.isEmpty_ne _)), (by first | rfl | (simp; done) | (simp [*]; done) | (simp; exact Hand.isEmpty_ne _)), H', ⟨Nat.le_refl _⟩, by repeat (first | exact Drawn0.refl _ | apply Drawn0.step)⟩
  case round =>
    clear H'
    obtain ⟨x0_1, x3_1, rfl, rfl, HA, HK1, ⟨m1, rfl⟩⟩ := hrel
    cases gk with
    | zero => exact absurd HA.out (by simp [depotref08_dots.l0])
    | succ k1 =>
      have H := HA.out
      clear HA
      simp only [depotref08_dots.l0] at H
      by_cases c2 : (x0_1.size : Int) > 0
      · rw [if_pos c2] at H
        have c2b0 : decide (0 < (x0_1.size : Int)) = true := decide_eq_true c2
        have c2b1 : decide (0 < x0_1.size) = true := decide_eq_true (by omega)
        clear c2
        have HC3 := Aside0.mk H
        clear H
        go_upto_block 2 with (fail)
        go_cut [4] (fun v4 wc => ∃ (kq : Nat) (x4_2 : Int), v4 = .int .i64 x4_2 ∧ Aside0 (depotref08_dots.j2 kq x0_1 x3_1 x4_2 = some r) ∧ Aside0 (kq ≤ k1) ∧ Drawn0 w wc)
        case first =>
          have H := HC3.out
          clear HC3
          have H' := Aside0.mk H
          clear H
          go_wp2
          go_loopg [4] k1 (fun kq v4 w' => ∃ (x4_2 : Int), v4 = .int .i64 x4_2 ∧ Aside0 (depotref08_dots.l1 kq x0_1 x3_1 x4_2 = some r) ∧ Aside0 (kq ≤ k1) ∧ Drawn0 w w')
          case atStart => exact ⟨(1), (by first | rfl | (simp; done) | (simp [*]; done) | (simp; exact Hand.isEmpty_ne _)), H', ⟨Nat.le_refl _⟩, by repeat (first | exact Drawn0.refl _ | apply Drawn0.step)⟩
          case round =>
            clear H'
            try clear c2
            try clear c2b0
            try clear c2b1
            try clear p2
            obtain ⟨x4_2, rfl, HA, HK2, ⟨m2, rfl⟩⟩ := hrel
            cases gk with
            | zero => exact absurd HA.out (by simp [depotref08_dots.l1])
            | succ k2 =>
              have H := HA.out
              clear HA
              simp only [depotref08_dots.l1] at H
              by_cases c4 : x4_2 < (x0_1.size : Int)
              · rw [if_pos c4] at H
                have c4b0 : decide (x4_2 < (x0_1.size : Int)) = true := decide_eq_true c4
                clear c4
                (first | rw [c4b0] | (simp only [i64_w, i32_w]; rw [c4b0]) | skip)
                by_cases c5 : 0 ≤ x4_2
                · rw [if_pos c5] at H
                  have c5b0 : decide (0 ≤ x4_2) = true := decide_eq_true c5
                  clear c5
                  by_cases c7 : (bt x0_1 x4_2) = 47
                  · rw [if_pos c7] at H
                    have c7b0 : ((bt x0_1 x4_2) == 47) = true := beq_iff_eq.mpr c7
                    have c7b1 : ((bt x0_1 x4_2) != 47) = false := bne_eq_false_iff_eq.mpr c7
                    clear c7
                    have H' := Aside0.mk H
                    clear H
                    have p6 : 0 ≤ (x4_2 : Int) := of_decide_eq_true (by first | (with_reducible assumption) | assumption)
                    have q6 : x4_2 < (x0_1.size : Int) := of_decide_eq_true (by first | (with_reducible assumption) | assumption)
                    have hx6 := bt_at x0_1 x4_2
                    replace p6 := eq_true p6
                    replace q6 := eq_true q6
                    go_wp2
                    go_meet
                    case rel => exact ⟨_, (x4_2), (by first | rfl | (simp; done) | (simp [*]; done) | (simp; exact Hand.isEmpty_ne _)), H', ⟨by have := HK1.out; have := HK2.out; first | omega | exact Nat.le_refl _⟩, by repeat (first | exact Drawn0.refl _ | apply Drawn0.step)⟩
                  · rw [if_neg c7] at H
                    have c7b0 : ((bt x0_1 x4_2) == 47) = false := beq_eq_false_iff_ne.mpr c7
                    have c7b1 : ((bt x0_1 x4_2) != 47) = true := bne_iff_ne.mpr c7
                    have H' := Aside0.mk H
                    clear H
                    have p6 : 0 ≤ (x4_2 : Int) := of_decide_eq_true (by first | (with_reducible assumption) | assumption)
                    have q6 : x4_2 < (x0_1.size : Int) := of_decide_eq_true (by first | (with_reducible assumption) | assumption)
                    have hx6 := bt_at x0_1 x4_2
                    replace p6 := eq_true p6
                    replace q6 := eq_true q6
                    go_wp2
                    go_roundg k2
                    case measure => have := HK1.out; have := HK2.out; omega
                    case rel => exact ⟨(wrap64 (x4_2 + 1)), (by first | rfl | (simp; done) | (simp [*]; done) | (simp; exact Hand.isEmpty_ne _)), H', ⟨by have := HK1.out; have := HK2.out; omega⟩, by repeat (first | exact Drawn0.refl _ | apply Drawn0.step)⟩
                · rw [if_neg c5] at H
                  exact absurd H (by simp)
              · rw [if_neg c4] at H
                have c4b0 : decide (x4_2 < (x0_1.size : Int)) = false := decide_eq_false c4
                clear c4
                (first | rw [c4b0] | (simp only [i64_w, i32_w]; rw [c4b0]) | skip)
                have H' := Aside0.mk H
                clear H
                go_wp2
                go_meet
                case rel => exact ⟨_, (x4_2), (by first | rfl | (simp; done) | (simp [*]; done) | (simp; exact Hand.isEmpty_ne _)), H', ⟨by have := HK1.out; have := HK2.out; first | omega | exact Nat.le_refl _⟩, by repeat (first | exact Drawn0.refl _ | apply Drawn0.step)⟩
        case rest =>
          clear HC3
          try clear c2
          try clear c2b0
          try clear c2b1
          try clear p2
          try clear c4
          try clear c4b0
          try clear c5
          try clear c5b0
          try clear p6
          try clear q6
          try clear hx6
          try clear c7
          try clear c7b0
          try clear c7b1
          try clear p2
          try clear p6
          try clear q6
          obtain ⟨kq, x4_2, rfl, HA, HJ2, ⟨mc2, rfl⟩⟩ := hcut
          cases kq with
          | zero => exact absurd HA.out (by simp [depotref08_dots.j2])
          | succ kj2 =>
            have H := HA.out
            clear HA
            simp only [depotref08_dots.j2] at H
            by_cases c8 : 0 ≤ x4_2
            · rw [if_pos c8] at H
              have c8b0 := eq_true c8
              have c8b1 : decide (0 ≤ x4_2) = true := decide_eq_true c8
              clear c8
              by_cases c9 : x4_2 ≤ (x0_1.size : Int)
              · rw [if_pos c9] at H
                have c9b0 := eq_true c9
                have c9b1 : decide (x4_2 ≤ (x0_1.size : Int)) = true := decide_eq_true c9
                clear c9
                have c10b0 := eq_true (of_decide_eq_true (by first | (with_reducible assumption) | assumption) : 0 ≤ x4_2)
                have c11b0 := eq_true (of_decide_eq_true (by first | (with_reducible assumption) | assumption) : x4_2 ≤ (x0_1.size : Int))
                have HC12 := Aside0.mk H
                clear H
                go_upto_if 33 with (fail)
                go_cut [3, 33] (fun v3 v33 wc => ∃ (kq : Nat) (x3_11 : ByteArray), v3 = .string x3_11 ∧ Aside0 (depotref08_dots.j4 kq (x0_1.extract (x4_2 : Int).toNat x0_1.size) x3_11 (x0_1.extract 0 (x4_2 : Int).toNat) (x4_2 == (x0_1.size : Int)) = some r) ∧ Aside0 (kq ≤ kj2) ∧ Drawn0 w wc)
                case first =>
                  have H := HC12.out
                  clear HC12
                  by_cases c13 : (x0_1.extract 0 (x4_2 : Int).toNat).toList = ([47, 46, 46] : List UInt8)
                  · rw [if_pos c13] at H
                    have c13b0 : ((x0_1.extract 0 (x4_2 : Int).toNat).toList == ([47, 46, 46] : List UInt8)) = true := beq_iff_eq.mpr c13
                    have c13b1 : ((x0_1.extract 0 (x4_2 : Int).toNat).toList != ([47, 46, 46] : List UInt8)) = false := bne_eq_false_iff_eq.mpr c13
                    (try (have c13b20 := c13b0; simp only [ByteArray.size_extract] at c13b20))
                    (try (have c13b21 := c13b1; simp only [ByteArray.size_extract] at c13b21))
                    (try (have c13b40 := c13b0; simp only [ByteArray.size_extract, Nat.min_self] at c13b40))
                    (try (have c13b41 := c13b1; simp only [ByteArray.size_extract, Nat.min_self] at c13b41))
                    clear c13
                    (first | rw [c13b0] | (simp only [i64_w, i32_w]; rw [c13b0]) | skip)
                    have H' := Aside0.mk H
                    clear H
                    go_wp2
                    go_loopg [3] kj2 (fun kq v3 w' => ∃ (x3_3 : ByteArray), v3 = .string x3_3 ∧ Aside0 (depotref08_dots.l2 kq (x0_1.extract (x4_2 : Int).toNat x0_1.size) x3_3 (x0_1.extract 0 (x4_2 : Int).toNat) (x4_2 == (x0_1.size : Int)) = some r) ∧ Aside0 (kq ≤ kj2) ∧ Drawn0 w w')
                    case atStart => exact ⟨(x3_1), (by first | rfl | (simp; done) | (simp [*]; done) | (simp; exact Hand.isEmpty_ne _)), H', ⟨Nat.le_refl _⟩, by repeat (first | exact Drawn0.refl _ | apply Drawn0.step)⟩
                    case round =>
                      clear H'
                      try clear c1
                      try clear c2
                      try clear c2b0
                      try clear c2b1
                      try clear p2
                      try clear c4
                      try clear c4b0
                      try clear c5
                      try clear c5b0
                      try clear p6
                      try clear q6
                      try clear hx6
                      try clear c7
                      try clear c7b0
                      try clear c7b1
                      try clear c8
                      try clear c8b0
                      try clear c8b1
                      try clear c9
                      try clear c9b0
                      try clear c9b1
                      try clear c10
                      try clear c10b0
                      try clear c11
                      try clear c11b0
                      try clear c13
                      try clear c13b0
                      try clear c13b1
                      try clear c13b2
                      try clear p2
                      try clear p6
                      try clear q6
                      obtain ⟨x3_3, rfl, HA, HK3, ⟨m3, rfl⟩⟩ := hrel
                      cases gk with
                      | zero => exact absurd HA.out (by simp [depotref08_dots.l2])
                      | succ k3 =>
                        have H := HA.out
                        clear HA
                        simp only [depotref08_dots.l2] at H
                        by_cases c14 : (x3_3.size : Int) > 0
                        · rw [if_pos c14] at H
                          have c14b0 : decide (0 < (x3_3.size : Int)) = true := decide_eq_true c14
                          have c14b1 : decide (0 < x3_3.size) = true := decide_eq_true (by omega)
                          clear c14
                          obtain ⟨ji15, hji15⟩ : ∃ j_ : Int, (wrap64 ((x3_3.size : Int) - 1)) = j_ := ⟨_, rfl⟩
                          replace H : (if 0 ≤ (ji15) then (if (ji15) < (x3_3.size : Int) then (if (bt x3_3 (ji15)) = 47 then (if (ji15) ≤ (x3_3.size : Int) then (depotref08_dots.j4 k3 (x0_1.extract (x4_2 : Int).toNat x0_1.size) (x3_3.extract 0 ((ji15) : Int).toNat) (x0_1.extract 0 (x4_2 : Int).toNat) (x4_2 == (x0_1.size : Int))) else (none)) else (if (ji15) ≤ (x3_3.size : Int) then (depotref08_dots.l2 k3 (x0_1.extract (x4_2 : Int).toNat x0_1.size) (x3_3.extract 0 ((ji15) : Int).toNat) (x0_1.extract 0 (x4_2 : Int).toNat) (x4_2 == (x0_1.size : Int))) else (none))) else (none)) else (none)) = some r := by first | (rw [hji15] at H; exact H) | (simp only [hji15] at H ⊢; exact H)
                          have hji15w : (IntKind.i64.wrap ((x3_3.size : Int) - 1)) = ji15 := (i64_w _).trans hji15
                          by_cases c16 : 0 ≤ (ji15)
                          · rw [if_pos c16] at H
                            have c16b0 : decide (0 ≤ (ji15)) = true := decide_eq_true c16
                            clear c16
                            by_cases c17 : (ji15) < (x3_3.size : Int)
                            · rw [if_pos c17] at H
                              have c17b0 : decide ((ji15) < (x3_3.size : Int)) = true := decide_eq_true c17
                              clear c17
                              by_cases c19 : (bt x3_3 (ji15)) = 47
                              · rw [if_pos c19] at H
                                have c19b0 : ((bt x3_3 (ji15)) == 47) = true := beq_iff_eq.mpr c19
                                have c19b1 : ((bt x3_3 (ji15)) != 47) = false := bne_eq_false_iff_eq.mpr c19
                                clear c19
                                have c20b0 := eq_true (of_decide_eq_true (by first | (with_reducible assumption) | assumption) : 0 ≤ (ji15))
                                by_cases c21 : (ji15) ≤ (x3_3.size : Int)
                                · rw [if_pos c21] at H
                                  have c21b0 := eq_true c21
                                  have c21b1 : decide ((ji15) ≤ (x3_3.size : Int)) = true := decide_eq_true c21
                                  clear c21
                                  have H' := Aside0.mk H
                                  clear H
                                  have p18 : 0 ≤ ((ji15) : Int) := of_decide_eq_true (by first | (with_reducible assumption) | assumption)
                                  have q18 : (ji15) < (x3_3.size : Int) := of_decide_eq_true (by first | (with_reducible assumption) | assumption)
                                  have hx18 := bt_at x3_3 (ji15)
                                  replace p18 := eq_true p18
                                  replace q18 := eq_true q18
                                  go_wp2
                                  go_meet
                                  case rel => exact ⟨_, (x3_3.extract 0 ((ji15) : Int).toNat), (by first | rfl | (simp; done) | (simp only [← hji15] <;> (first | rfl | simp)) | (simp [*]; done)), H', ⟨by have := HK1.out; have := HJ2.out; have := HK3.out; first | omega | exact Nat.le_refl _⟩, by repeat (first | exact Drawn0.refl _ | apply Drawn0.step)⟩
                                · rw [if_neg c21] at H
                                  exact absurd H (by simp)
                              · rw [if_neg c19] at H
                                have c19b0 : ((bt x3_3 (ji15)) == 47) = false := beq_eq_false_iff_ne.mpr c19
                                have c19b1 : ((bt x3_3 (ji15)) != 47) = true := bne_iff_ne.mpr c19
                                have c22b0 := eq_true (of_decide_eq_true (by first | (with_reducible assumption) | assumption) : 0 ≤ (ji15))
                                by_cases c23 : (ji15) ≤ (x3_3.size : Int)
                                · rw [if_pos c23] at H
                                  have c23b0 := eq_true c23
                                  have c23b1 : decide ((ji15) ≤ (x3_3.size : Int)) = true := decide_eq_true c23
                                  clear c23
                                  have H' := Aside0.mk H
                                  clear H
                                  have p18 : 0 ≤ ((ji15) : Int) := of_decide_eq_true (by first | (with_reducible assumption) | assumption)
                                  have q18 : (ji15) < (x3_3.size : Int) := of_decide_eq_true (by first | (with_reducible assumption) | assumption)
                                  have hx18 := bt_at x3_3 (ji15)
                                  replace p18 := eq_true p18
                                  replace q18 := eq_true q18
                                  go_wp2
                                  go_roundg k3
                                  case measure => have := HK1.out; have := HJ2.out; have := HK3.out; omega
                                  case rel => exact ⟨(x3_3.extract 0 ((ji15) : Int).toNat), (by first | rfl | (simp; done) | (simp only [← hji15] <;> (first | rfl | simp)) | (simp [*]; done)), H', ⟨by have := HK1.out; have := HJ2.out; have := HK3.out; omega⟩, by repeat (first | exact Drawn0.refl _ | apply Drawn0.step)⟩
                                · rw [if_neg c23] at H
                                  exact absurd H (by simp)
                            · rw [if_neg c17] at H
                              exact absurd H (by simp)
                          · rw [if_neg c16] at H
                            exact absurd H (by simp)
                        · rw [if_neg c14] at H
                          have c14b0 : decide (0 < (x3_3.size : Int)) = false := decide_eq_false c14
                          have c14b1 : decide (0 < x3_3.size) = false := decide_eq_false (by omega)
                          clear c14
                          have H' := Aside0.mk H
                          clear H
                          go_wp2
                          go_meet
                          case rel => exact ⟨_, (x3_3), (by first | rfl | (simp; done) | (simp [*]; done) | (simp; exact Hand.isEmpty_ne _)), H', ⟨by have := HK1.out; have := HJ2.out; have := HK3.out; first | omega | exact Nat.le_refl _⟩, by repeat (first | exact Drawn0.refl _ | apply Drawn0.step)⟩
                  · rw [if_neg c13] at H
                    have c13b0 : ((x0_1.extract 0 (x4_2 : Int).toNat).toList == ([47, 46, 46] : List UInt8)) = false := beq_eq_false_iff_ne.mpr c13
                    have c13b1 : ((x0_1.extract 0 (x4_2 : Int).toNat).toList != ([47, 46, 46] : List UInt8)) = true := bne_iff_ne.mpr c13
                    (try (have c13b20 := c13b0; simp only [ByteArray.size_extract] at c13b20))
                    (try (have c13b21 := c13b1; simp only [ByteArray.size_extract] at c13b21))
                    (try (have c13b40 := c13b0; simp only [ByteArray.size_extract, Nat.min_self] at c13b40))
                    (try (have c13b41 := c13b1; simp only [ByteArray.size_extract, Nat.min_self] at c13b41))
                    (first | rw [c13b0] | (simp only [i64_w, i32_w]; rw [c13b0]) | skip)
                    have H' := Aside0.mk H
                    clear H
                    go_wp2
                    go_meet
                    case rel => exact ⟨_, (x3_1), (by first | rfl | (simp; done) | (simp [*]; done) | (simp; exact Hand.isEmpty_ne _)), H', ⟨by have := HK1.out; have := HJ2.out; first | omega | exact Nat.le_refl _⟩, by repeat (first | exact Drawn0.refl _ | apply Drawn0.step)⟩
                case rest =>
                  clear HC12
                  try clear c1
                  try clear p1
                  try clear q1
                  try clear hx1
                  try clear c2
                  try clear c2b0
                  try clear c2b1
                  try clear p2
                  try clear c4
                  try clear c4b0
                  try clear c5
                  try clear c5b0
                  try clear p6
                  try clear q6
                  try clear hx6
                  try clear c7
                  try clear c7b0
                  try clear c7b1
                  try clear c8
                  try clear c8b0
                  try clear c8b1
                  try clear c9
                  try clear c9b0
                  try clear c9b1
                  try clear c10
                  try clear c10b0
                  try clear c11
                  try clear c11b0
                  try clear c13
                  try clear c13b0
                  try clear c13b1
                  try clear c13b2
                  try clear c14
                  try clear c14b0
                  try clear c14b1
                  try clear c16
                  try clear c16b0
                  try clear c17
                  try clear c17b0
                  try clear p18
                  try clear q18
                  try clear hx18
                  try clear c19
                  try clear c19b0
                  try clear c19b1
                  try clear c20
                  try clear c20b0
                  try clear c21
                  try clear c21b0
                  try clear c21b1
                  try clear c22
                  try clear c22b0
                  try clear c23
                  try clear c23b0
                  try clear c23b1
                  try clear p18
                  try clear p2
                  try clear p6
                  try clear q18
                  try clear q6
                  obtain ⟨kq, x3_11, rfl, HA, HJ11, ⟨mc11, rfl⟩⟩ := hcut
                  cases kq with
                  | zero => exact absurd HA.out (by simp [depotref08_dots.j4])
                  | succ kj11 =>
                    have H := HA.out
                    clear HA
                    simp only [depotref08_dots.j4] at H
                    have HC24 := Aside0.mk H
                    clear H
                    go_upto_region 14 with (fail)
                    go_cut [63] (fun v63 wc => ∃ (kq : Nat) (x63_23 : Bool), v63 = .bool x63_23 ∧ Aside0 (depotref08_dots.j5 kq (x0_1.extract (x4_2 : Int).toNat x0_1.size) x3_11 (x0_1.extract 0 (x4_2 : Int).toNat) (x4_2 == (x0_1.size : Int)) x63_23 = some r) ∧ Aside0 (kq ≤ kj11) ∧ Drawn0 w wc)
                    case first =>
                      have H := HC24.out
                      clear HC24
                      by_cases c25 : (x0_1.extract 0 (x4_2 : Int).toNat).toList = ([47, 46] : List UInt8)
                      · rw [if_pos c25] at H
                        have c25b0 : ((x0_1.extract 0 (x4_2 : Int).toNat).toList == ([47, 46] : List UInt8)) = true := beq_iff_eq.mpr c25
                        have c25b1 : ((x0_1.extract 0 (x4_2 : Int).toNat).toList != ([47, 46] : List UInt8)) = false := bne_eq_false_iff_eq.mpr c25
                        (try (have c25b20 := c25b0; simp only [ByteArray.size_extract] at c25b20))
                        (try (have c25b21 := c25b1; simp only [ByteArray.size_extract] at c25b21))
                        (try (have c25b40 := c25b0; simp only [ByteArray.size_extract, Nat.min_self] at c25b40))
                        (try (have c25b41 := c25b1; simp only [ByteArray.size_extract, Nat.min_self] at c25b41))
                        clear c25
                        (first | rw [c25b0] | (simp only [i64_w, i32_w]; rw [c25b0]) | skip)
                        have H' := Aside0.mk H
                        clear H
                        go_wp2
                        go_meet
                        case rel => exact ⟨_, (false), (by first | rfl | (simp; done) | (simp [*]; done) | (simp; exact Hand.isEmpty_ne _)), H', ⟨by have := HK1.out; have := HJ2.out; have := HJ11.out; first | omega | exact Nat.le_refl _⟩, by repeat (first | exact Drawn0.refl _ | apply Drawn0.step)⟩
                      · rw [if_neg c25] at H
                        have c25b0 : ((x0_1.extract 0 (x4_2 : Int).toNat).toList == ([47, 46] : List UInt8)) = false := beq_eq_false_iff_ne.mpr c25
                        have c25b1 : ((x0_1.extract 0 (x4_2 : Int).toNat).toList != ([47, 46] : List UInt8)) = true := bne_iff_ne.mpr c25
                        (try (have c25b20 := c25b0; simp only [ByteArray.size_extract] at c25b20))
                        (try (have c25b21 := c25b1; simp only [ByteArray.size_extract] at c25b21))
                        (try (have c25b40 := c25b0; simp only [ByteArray.size_extract, Nat.min_self] at c25b40))
                        (try (have c25b41 := c25b1; simp only [ByteArray.size_extract, Nat.min_self] at c25b41))
                        (first | rw [c25b0] | (simp only [i64_w, i32_w]; rw [c25b0]) | skip)
                        have H' := Aside0.mk H
                        clear H
                        go_wp2
                        go_meet
                        case rel => exact ⟨_, (((x0_1.extract 0 (x4_2 : Int).toNat).toList != ([47, 46, 46] : List UInt8))), (by first | rfl | (simp; done) | (simp [*]; done) | (simp; exact Hand.isEmpty_ne _)), H', ⟨by have := HK1.out; have := HJ2.out; have := HJ11.out; first | omega | exact Nat.le_refl _⟩, by repeat (first | exact Drawn0.refl _ | apply Drawn0.step)⟩
                    case rest =>
                      clear HC24
                      try clear c1
                      try clear p1
                      try clear q1
                      try clear hx1
                      try clear c2
                      try clear c2b0
                      try clear c2b1
                      try clear p2
                      try clear c4
                      try clear c4b0
                      try clear c5
                      try clear c5b0
                      try clear p6
                      try clear q6
                      try clear hx6
                      try clear c7
                      try clear c7b0
                      try clear c7b1
                      try clear c8
                      try clear c8b0
                      try clear c8b1
                      try clear c9
                      try clear c9b0
                      try clear c9b1
                      try clear c10
                      try clear c10b0
                      try clear c11
                      try clear c11b0
                      try clear c13
                      try clear c13b0
                      try clear c13b1
                      try clear c13b2
                      try clear c14
                      try clear c14b0
                      try clear c14b1
                      try clear c16
                      try clear c16b0
                      try clear c17
                      try clear c17b0
                      try clear p18
                      try clear q18
                      try clear hx18
                      try clear c19
                      try clear c19b0
                      try clear c19b1
                      try clear c20
                      try clear c20b0
                      try clear c21
                      try clear c21b0
                      try clear c21b1
                      try clear c22
                      try clear c22b0
                      try clear c23
                      try clear c23b0
                      try clear c23b1
                      try clear c25
                      try clear c25b0
                      try clear c25b1
                      try clear c25b2
                      try clear p1
                      try clear p18
                      try clear p2
                      try clear p6
                      try clear q1
                      try clear q18
                      try clear q6
                      obtain ⟨kq, x63_23, rfl, HA, HJ23, ⟨mc23, rfl⟩⟩ := hcut
                      cases kq with
                      | zero => exact absurd HA.out (by simp [depotref08_dots.j5])
                      | succ kj23 =>
                        have H := HA.out
                        clear HA
                        simp only [depotref08_dots.j5] at H
                        by_cases c26 : x63_23 = true
                        · subst c26
                          have H1 : (if x3_11.size + (x0_1.extract 0 (x4_2 : Int).toNat).size ≤ 9223372036854775807 then (depotref08_dots.l0 kj23 (x0_1.extract (x4_2 : Int).toNat x0_1.size) (x3_11 ++ (x0_1.extract 0 (x4_2 : Int).toNat))) else (none)) = some r := by rw [if_pos rfl] at H; exact H
                          clear H
                          have H := H1
                          clear H1
                          by_cases c27 : x3_11.size + (x0_1.extract 0 (x4_2 : Int).toNat).size ≤ 9223372036854775807
                          · rw [if_pos c27] at H
                            have c27b0 := eq_true c27
                            have c27b1 : decide (x3_11.size + (x0_1.extract 0 (x4_2 : Int).toNat).size ≤ 9223372036854775807) = true := decide_eq_true c27
                            (try (have c27b20 := c27b0; simp only [ByteArray.size_extract] at c27b20))
                            (try (have c27b21 := c27b1; simp only [ByteArray.size_extract] at c27b21))
                            (try (have c27b40 := c27b0; simp only [ByteArray.size_extract, Nat.min_self] at c27b40))
                            (try (have c27b41 := c27b1; simp only [ByteArray.size_extract, Nat.min_self] at c27b41))
                            try have c27b2 : (9223372036854775807 < x3_11.size + (x0_1.extract 0 (x4_2 : Int).toNat).size) = False := eq_false (Nat.not_lt.2 c27)
                            (try (have c27b42 := c27b2; simp only [ByteArray.size_extract, Nat.min_self] at c27b42))
                            have H' := Aside0.mk H
                            clear H
                            go_wp2
                            go_roundg kj23
                            case measure => have := HK1.out; have := HJ2.out; have := HJ11.out; have := HJ23.out; omega
                            case rel => exact ⟨((x0_1.extract (x4_2 : Int).toNat x0_1.size)), (x3_11 ++ (x0_1.extract 0 (x4_2 : Int).toNat)), (by first | rfl | (simp; done) | (simp [*]; done) | (simp; exact Hand.isEmpty_ne _)), (by first | rfl | (simp; done) | (simp [*]; done) | (simp; exact Hand.isEmpty_ne _)), H', ⟨by have := HK1.out; have := HJ2.out; have := HJ11.out; have := HJ23.out; omega⟩, by repeat (first | exact Drawn0.refl _ | apply Drawn0.step)⟩
                          · rw [if_neg c27] at H
                            exact absurd H (by simp)
                        · replace c26 := Bool.eq_false_iff.mpr c26
                          subst c26
                          have H1 : (if (x4_2 == (x0_1.size : Int)) = true then (if x3_11.size + 1 ≤ 9223372036854775807 then (depotref08_dots.l0 kj23 (x0_1.extract (x4_2 : Int).toNat x0_1.size) (x3_11 ++ (⟨#[47]⟩ : ByteArray))) else (none)) else (depotref08_dots.l0 kj23 (x0_1.extract (x4_2 : Int).toNat x0_1.size) x3_11)) = some r := by rw [if_neg (show ¬ (false = true) by decide)] at H; exact H
                          clear H
                          have H := H1
                          clear H1
                          by_cases c28 : (x4_2 == (x0_1.size : Int)) = true
                          · rw [if_pos c28] at H
                            have c28b0 : (x4_2 == (x0_1.size : Int)) = true := c28
                            (try (have c28b1 : decide (x4_2 = (x0_1.size : Int)) = true := by simpa using c28))
                            (try (have c28b2 : (x4_2 == (x0_1.size : Int)) = true := by simpa using c28))
                            clear c28
                            by_cases c29 : x3_11.size + 1 ≤ 9223372036854775807
                            · rw [if_pos c29] at H
                              have c29b0 := eq_true c29
                              have c29b1 : decide (x3_11.size + 1 ≤ 9223372036854775807) = true := decide_eq_true c29
                              try have c29b2 : (9223372036854775807 < x3_11.size + 1) = False := eq_false (Nat.not_lt.2 c29)
                              have H' := Aside0.mk H
                              clear H
                              go_wp2
                              go_roundg kj23
                              case measure => have := HK1.out; have := HJ2.out; have := HJ11.out; have := HJ23.out; omega
                              case rel => exact ⟨((x0_1.extract (x4_2 : Int).toNat x0_1.size)), (x3_11 ++ (⟨#[47]⟩ : ByteArray)), (by first | rfl | (simp; done) | (simp [*]; done) | (simp; exact Hand.isEmpty_ne _)), (by first | rfl | (simp; done) | (simp [*]; done) | (simp; exact Hand.isEmpty_ne _)), H', ⟨by have := HK1.out; have := HJ2.out; have := HJ11.out; have := HJ23.out; omega⟩, by repeat (first | exact Drawn0.refl _ | apply Drawn0.step)⟩
                            · rw [if_neg c29] at H
                              exact absurd H (by simp)
                          · rw [if_neg c28] at H
                            have c28b0 : (x4_2 == (x0_1.size : Int)) = false := by simpa using c28
                            (try (have c28b1 : decide (x4_2 = (x0_1.size : Int)) = false := by simpa using c28))
                            (try (have c28b2 : (x4_2 == (x0_1.size : Int)) = false := by simpa using c28))
                            (try (have c28b3 : ¬ (x4_2 = (x0_1.size : Int)) := by simpa using c28))
                            clear c28
                            have H' := Aside0.mk H
                            clear H
                            go_wp2
                            go_roundg kj23
                            case measure => have := HK1.out; have := HJ2.out; have := HJ11.out; have := HJ23.out; omega
                            case rel => exact ⟨((x0_1.extract (x4_2 : Int).toNat x0_1.size)), (x3_11), (by first | rfl | (simp; done) | (simp [*]; done) | (simp; exact Hand.isEmpty_ne _)), (by first | rfl | (simp; done) | (simp [*]; done) | (simp; exact Hand.isEmpty_ne _)), H', ⟨by have := HK1.out; have := HJ2.out; have := HJ11.out; have := HJ23.out; omega⟩, by repeat (first | exact Drawn0.refl _ | apply Drawn0.step)⟩
              · rw [if_neg c9] at H
                exact absurd H (by simp)
            · rw [if_neg c8] at H
              exact absurd H (by simp)
      · rw [if_neg c2] at H
        have c2b0 : decide (0 < (x0_1.size : Int)) = false := decide_eq_false c2
        have c2b1 : decide (0 < x0_1.size) = false := decide_eq_false (by omega)
        clear c2
        by_cases c30 : x3_1.toList = ([] : List UInt8)
        · rw [if_pos c30] at H
          have c30b0 : (x3_1.toList == ([] : List UInt8)) = true := beq_iff_eq.mpr c30
          have c30b1 : (x3_1.toList != ([] : List UInt8)) = false := bne_eq_false_iff_eq.mpr c30
          clear c30
          obtain rfl := Option.some.inj H
          go_wp2
          go_ret
          exact ⟨by first | rfl | (simp; done) | (simp [*]; done) | (simp; exact Hand.isEmpty_ne _), by repeat (first | exact Drawn0.refl _ | apply Drawn0.step)⟩
        · rw [if_neg c30] at H
          have c30b0 : (x3_1.toList == ([] : List UInt8)) = false := beq_eq_false_iff_ne.mpr c30
          have c30b1 : (x3_1.toList != ([] : List UInt8)) = true := bne_iff_ne.mpr c30
          obtain rfl := Option.some.inj H
          go_wp2
          go_ret
          exact ⟨by first | rfl | (simp; done) | (simp [*]; done) | (simp; exact Hand.isEmpty_ne _), by repeat (first | exact Drawn0.refl _ | apply Drawn0.step)⟩

end Go.Proofs.YtghaocjhmambaaaDoor.PR
