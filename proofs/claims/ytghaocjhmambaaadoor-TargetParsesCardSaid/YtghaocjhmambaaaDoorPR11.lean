-- Out of the translation, by a program of this session: each function that a law comes to as a Lean function, and that the machine's call does what it says. Lean checks it.
import Derived.Test.YtghaocjhmambaaaDoorPR0
import Derived.Test.YtghaocjhmambaaaDoorPR9
import Derived.Test.YtghaocjhmambaaaDoorPR10
namespace Go.Proofs.YtghaocjhmambaaaDoor.PR
open Go.RowKit Go.Proofs.YtghaocjhmambaaaDoorW.PrintWords Go.Proofs.YtghaocjhmambaaaDoorW.PrintLast Go.Proofs.YtghaocjhmambaaaDoorW.PrintMore
attribute [local go_sem] max2_int min2_int max_two min_two max_three min_three max_four min_four   -- for this text's walks alone
set_option linter.unusedVariables false
set_option linter.unusedSimpArgs false

/-! ### depotref08_plain: function 27 -/
mutual
def depotref08_plain.l0 : Nat → ByteArray → ByteArray → ByteArray → Int → Option (ByteArray × Bool)
  | 0, _, _, _, _ => none
  | k + 1, x0, x1, x6, x7 => if x7 < (x0.size : Int) then (if 0 ≤ x7 then (if (bt x0 x7) = 37 then (if (wrap64 (x7 + 2)) ≥ (x0.size : Int) then (some ((⟨#[]⟩ : ByteArray), false)) else (if 0 ≤ (wrap64 (x7 + 1)) then (if (wrap64 (x7 + 1)) < (x0.size : Int) then ((depotref01_Hex.f k (bt x0 (wrap64 (x7 + 1)))).bind fun bt185 => (if 0 ≤ (wrap64 (x7 + 2)) then (if (wrap64 (x7 + 2)) < (x0.size : Int) then ((depotref01_Hex.f k (bt x0 (wrap64 (x7 + 2)))).bind fun bt187 => (if bt185.2 = true then (depotref08_plain.j1 k x0 x1 x6 x7 bt185.1 bt187.1 (!bt187.2)) else (depotref08_plain.j1 k x0 x1 x6 x7 bt185.1 bt187.1 true))) else (none)) else (none))) else (none)) else (none))) else ((depotref08_letter.f (bt x0 x7)).bind fun t183 => (if t183 = true then (if x7 ≤ (wrap64 (x7 + 1)) then (if (wrap64 (x7 + 1)) ≤ (x0.size : Int) then (if x6.size + (x0.extract (x7 : Int).toNat ((wrap64 (x7 + 1)) : Int).toNat).size ≤ 9223372036854775807 then (depotref08_plain.l0 k x0 x1 (x6 ++ (x0.extract (x7 : Int).toNat ((wrap64 (x7 + 1)) : Int).toNat)) (wrap64 (x7 + 1))) else (none)) else (none)) else (none)) else ((depotref08_in.f k (bt x0 x7) x1).bind fun t184 => (if t184 = true then (if x7 ≤ (wrap64 (x7 + 1)) then (if (wrap64 (x7 + 1)) ≤ (x0.size : Int) then (if x6.size + (x0.extract (x7 : Int).toNat ((wrap64 (x7 + 1)) : Int).toNat).size ≤ 9223372036854775807 then (depotref08_plain.l0 k x0 x1 (x6 ++ (x0.extract (x7 : Int).toNat ((wrap64 (x7 + 1)) : Int).toNat)) (wrap64 (x7 + 1))) else (none)) else (none)) else (none)) else (some ((⟨#[]⟩ : ByteArray), false))))))) else (none)) else (some (x6, true))
def depotref08_plain.j1 : Nat → ByteArray → ByteArray → ByteArray → Int → Int → Int → Bool → Option (ByteArray × Bool)
  | 0, _, _, _, _, _, _, _ => none
  | k + 1, x0, x1, x6, x7, x8, x10, x70 => if x70 = true then (some ((⟨#[]⟩ : ByteArray), false)) else ((depotref08_letter.f ((wrap64 ((wrap64 (16 * x8)) + x10)) % 256)).bind fun t189 => (if t189 = true then ((some (([(wrap64 ((wrap64 (16 * x8)) + x10)) % 256] : List Int) : List Int)).bind fun y190 => (if x6.size + (strOfNums y190).size ≤ 9223372036854775807 then (depotref08_plain.l0 k x0 x1 (x6 ++ (strOfNums y190)) (wrap64 ((wrap64 (x7 + 2)) + 1))) else (none))) else ((depotref08_in.f k ((wrap64 ((wrap64 (16 * x8)) + x10)) % 256) (⟨#[45, 46, 95, 126]⟩ : ByteArray)).bind fun t193 => (if t193 = true then ((some (([(wrap64 ((wrap64 (16 * x8)) + x10)) % 256] : List Int) : List Int)).bind fun y194 => (if x6.size + (strOfNums y194).size ≤ 9223372036854775807 then (depotref08_plain.l0 k x0 x1 (x6 ++ (strOfNums y194)) (wrap64 ((wrap64 (x7 + 2)) + 1))) else (none))) else (if x6.size + 1 ≤ 9223372036854775807 then (if 0 ≤ x8 then (if x8 ≤ (wrap64 (x8 + 1)) then (if (wrap64 (x8 + 1)) ≤ 16 then (if (x6 ++ (⟨#[37]⟩ : ByteArray)).size + ((⟨#[48, 49, 50, 51, 52, 53, 54, 55, 56, 57, 65, 66, 67, 68, 69, 70]⟩ : ByteArray).extract (x8 : Int).toNat ((wrap64 (x8 + 1)) : Int).toNat).size ≤ 9223372036854775807 then (if 0 ≤ x10 then (if x10 ≤ (wrap64 (x10 + 1)) then (if (wrap64 (x10 + 1)) ≤ 16 then (if ((x6 ++ (⟨#[37]⟩ : ByteArray)) ++ ((⟨#[48, 49, 50, 51, 52, 53, 54, 55, 56, 57, 65, 66, 67, 68, 69, 70]⟩ : ByteArray).extract (x8 : Int).toNat ((wrap64 (x8 + 1)) : Int).toNat)).size + ((⟨#[48, 49, 50, 51, 52, 53, 54, 55, 56, 57, 65, 66, 67, 68, 69, 70]⟩ : ByteArray).extract (x10 : Int).toNat ((wrap64 (x10 + 1)) : Int).toNat).size ≤ 9223372036854775807 then (depotref08_plain.l0 k x0 x1 (((x6 ++ (⟨#[37]⟩ : ByteArray)) ++ ((⟨#[48, 49, 50, 51, 52, 53, 54, 55, 56, 57, 65, 66, 67, 68, 69, 70]⟩ : ByteArray).extract (x8 : Int).toNat ((wrap64 (x8 + 1)) : Int).toNat)) ++ ((⟨#[48, 49, 50, 51, 52, 53, 54, 55, 56, 57, 65, 66, 67, 68, 69, 70]⟩ : ByteArray).extract (x10 : Int).toNat ((wrap64 (x10 + 1)) : Int).toNat)) (wrap64 ((wrap64 (x7 + 2)) + 1))) else (none)) else (none)) else (none)) else (none)) else (none)) else (none)) else (none)) else (none)) else (none))))))
end
def depotref08_plain.f (k : Nat) (a0 : ByteArray) (a1 : ByteArray) : Option (ByteArray × Bool) := depotref08_plain.l0 k a0 a1 (⟨#[]⟩ : ByteArray) 0
theorem depotref08_plain.mono_l : ∀ k, (∀ y0 y1 y2 y3, LeO (depotref08_plain.l0 k y0 y1 y2 y3) (depotref08_plain.l0 (k + 1) y0 y1 y2 y3)) ∧ (∀ y0 y1 y2 y3 y4 y5 y6, LeO (depotref08_plain.j1 k y0 y1 y2 y3 y4 y5 y6) (depotref08_plain.j1 (k + 1) y0 y1 y2 y3 y4 y5 y6))
  | 0 => ⟨fun _ _ _ _ r h => by simp [depotref08_plain.l0] at h, fun _ _ _ _ _ _ _ r h => by simp [depotref08_plain.j1] at h⟩
  | k + 1 => by
    obtain ⟨ih0, ih1⟩ := depotref08_plain.mono_l k
    refine ⟨?_, ?_⟩
    · intro y0 y1 y2 y3
      unfold depotref08_plain.l0
      repeat' first
      | (with_reducible exact ih0 _ _ _ _)
      | (with_reducible exact ih1 _ _ _ _ _ _ _)
      | (with_reducible exact depotref01_Hex.mono _ _)
      | (with_reducible exact depotref08_in.mono _ _ _)
      | (with_reducible exact LeO.refl _)
      | (with_reducible exact LeO.none _)
      | (with_reducible refine LeO.ite ?_ ?_)
      | (with_reducible refine LeO.bind ?_ (fun _ => ?_))
      | exact ih0 _ _ _ _
      | exact ih1 _ _ _ _ _ _ _
      | exact depotref01_Hex.mono _ _
      | exact depotref08_in.mono _ _ _
      | exact LeO.none _
      | refine LeO.ite ?_ ?_
      | refine LeO.bind ?_ (fun _ => ?_)
    · intro y0 y1 y2 y3 y4 y5 y6
      unfold depotref08_plain.j1
      repeat' first
      | (with_reducible exact ih0 _ _ _ _)
      | (with_reducible exact ih1 _ _ _ _ _ _ _)
      | (with_reducible exact depotref01_Hex.mono _ _)
      | (with_reducible exact depotref08_in.mono _ _ _)
      | (with_reducible exact LeO.refl _)
      | (with_reducible exact LeO.none _)
      | (with_reducible refine LeO.ite ?_ ?_)
      | (with_reducible refine LeO.bind ?_ (fun _ => ?_))
      | exact ih0 _ _ _ _
      | exact ih1 _ _ _ _ _ _ _
      | exact depotref01_Hex.mono _ _
      | exact depotref08_in.mono _ _ _
      | exact LeO.none _
      | refine LeO.ite ?_ ?_
      | refine LeO.bind ?_ (fun _ => ?_)
theorem depotref08_plain.mono : ∀ a0 a1 k, LeO (depotref08_plain.f k a0 a1) (depotref08_plain.f (k + 1) a0 a1) := by
  intro a0 a1 k
  obtain ⟨ih0, ih1⟩ := depotref08_plain.mono_l k
  unfold depotref08_plain.f
  repeat' first
      | (with_reducible exact ih0 _ _ _ _)
      | (with_reducible exact ih1 _ _ _ _ _ _ _)
      | (with_reducible exact depotref01_Hex.mono _ _)
      | (with_reducible exact depotref08_in.mono _ _ _)
      | (with_reducible exact LeO.refl _)
      | (with_reducible exact LeO.none _)
      | (with_reducible refine LeO.ite ?_ ?_)
      | (with_reducible refine LeO.bind ?_ (fun _ => ?_))
      | exact ih0 _ _ _ _
      | exact ih1 _ _ _ _ _ _ _
      | exact depotref01_Hex.mono _ _
      | exact depotref08_in.mono _ _ _
      | exact LeO.none _
      | refine LeO.ite ?_ ?_
      | refine LeO.bind ?_ (fun _ => ?_)
set_option maxHeartbeats 8000000 in
set_option maxRecDepth 100000 in
theorem depotref08_plain.calls (k : Nat) (a0 : ByteArray) (a1 : ByteArray) (r1 : ByteArray) (r2 : Bool) (w : World) (h : depotref08_plain.f k a0 a1 = some (r1, r2)) :
    Calls Tryd.prog 27 #[.string a0, .string a1] w fun e w' => e = .returned (.tuple #[.string r1, .bool r2]) ∧ Below w.heap.size w w' := by
  have HB := Aside0.mk (Below.refl w.heap.size w)
  have H : (depotref08_plain.l0 k a0 a1 (⟨#[]⟩ : ByteArray) 0) = some (r1, r2) := h
  clear h
  have H' := Aside0.mk H
  clear H
  go_enter Tryd.func27, Tryd.ntmps27
  go_wp2
  repeat (go_quiet (fail); try go_wp2)
  go_loopg [6, 7] k (fun kq v6 v7 w' => ∃ (x6_1 : ByteArray) (x7_1 : Int), v6 = .string x6_1 ∧ v7 = .int .i64 x7_1 ∧ Aside0 (depotref08_plain.l0 kq a0 a1 x6_1 x7_1 = some (r1, r2)) ∧ Aside0 (kq ≤ k) ∧ Aside0 (Below w.heap.size w w'))
  case atStart => exact ⟨((⟨#[]⟩ : ByteArray)), (0), (by first | rfl | (simp; done) | (simp [*]; done) | (simp; exact Hand.isEmpty_ne _)), (by first | rfl | (simp; done) | (simp [*]; done) | (simp; exact Hand.isEmpty_ne _)), H', ⟨Nat.le_refl _⟩, ⟨by repeat (first | (with_reducible first | exact HB.out | apply below_alloc | apply pw_below_drewN | apply below_drew1) | exact HB.out)⟩⟩
  case round =>
    clear H'
    try clear c2
    try clear p2
    obtain ⟨x6_1, x7_1, rfl, rfl, HA, HK1, HB⟩ := hrel
    cases gk with
    | zero => exact absurd HA.out (by simp [depotref08_plain.l0])
    | succ k1 =>
      have H := HA.out
      clear HA
      simp only [depotref08_plain.l0] at H
      by_cases c3 : x7_1 < (a0.size : Int)
      · rw [if_pos c3] at H
        have c3b0 : decide (x7_1 < (a0.size : Int)) = true := decide_eq_true c3
        clear c3
        by_cases c4 : 0 ≤ x7_1
        · rw [if_pos c4] at H
          have c4b0 : decide (0 ≤ x7_1) = true := decide_eq_true c4
          clear c4
          by_cases c6 : (bt a0 x7_1) = 37
          · rw [if_pos c6] at H
            have c6b0 : ((bt a0 x7_1) == 37) = true := beq_iff_eq.mpr c6
            have c6b1 : ((bt a0 x7_1) != 37) = false := bne_eq_false_iff_eq.mpr c6
            clear c6
            by_cases c7 : (wrap64 (x7_1 + 2)) ≥ (a0.size : Int)
            · rw [if_pos c7] at H
              have c7b0 : decide ((a0.size : Int) ≤ (wrap64 (x7_1 + 2))) = true := decide_eq_true c7
              clear c7
              simp only [Option.some.injEq, Prod.mk.injEq] at H
              obtain ⟨rfl, rfl⟩ := H
              have p5 : 0 ≤ (x7_1 : Int) := of_decide_eq_true (by first | (with_reducible assumption) | assumption)
              have q5 : x7_1 < (a0.size : Int) := of_decide_eq_true (by first | (with_reducible assumption) | assumption)
              have hx5 := bt_at a0 x7_1
              replace p5 := eq_true p5
              replace q5 := eq_true q5
              go_wp2
              repeat (go_quiet (fail); try go_wp2)
              go_ret2
              exact ⟨by first | rfl | (simp [errW_none, errW_some] <;> rfl) | (simp [*, errW_none, errW_some] <;> rfl), by repeat (first | (with_reducible first | exact HB.out | apply below_alloc | apply pw_below_drewN | apply below_drew1) | exact HB.out)⟩
            · rw [if_neg c7] at H
              have c7b0 : decide ((a0.size : Int) ≤ (wrap64 (x7_1 + 2))) = false := decide_eq_false c7
              clear c7
              obtain ⟨ji8, hji8⟩ : ∃ j_ : Int, (wrap64 (x7_1 + 1)) = j_ := ⟨_, rfl⟩
              replace H : (if 0 ≤ (ji8) then (if (ji8) < (a0.size : Int) then ((depotref01_Hex.f k1 (bt a0 (ji8))).bind fun bt185 => (if 0 ≤ (wrap64 (x7_1 + 2)) then (if (wrap64 (x7_1 + 2)) < (a0.size : Int) then ((depotref01_Hex.f k1 (bt a0 (wrap64 (x7_1 + 2)))).bind fun bt187 => (if bt185.2 = true then (depotref08_plain.j1 k1 a0 a1 x6_1 x7_1 bt185.1 bt187.1 (!bt187.2)) else (depotref08_plain.j1 k1 a0 a1 x6_1 x7_1 bt185.1 bt187.1 true))) else (none)) else (none))) else (none)) else (none)) = some (r1, r2) := by first | (rw [hji8] at H; exact H) | (simp only [hji8] at H ⊢; exact H)
              (try (have hji9v8 := hji9; rw [hji8] at hji9v8))
              (try (have hji9wv8 := hji9w; rw [hji8] at hji9wv8))
              have hji8w : (IntKind.i64.wrap (x7_1 + 1)) = ji8 := (i64_w _).trans hji8
              by_cases c9 : 0 ≤ (ji8)
              · rw [if_pos c9] at H
                have c9b0 : decide (0 ≤ (ji8)) = true := decide_eq_true c9
                clear c9
                by_cases c10 : (ji8) < (a0.size : Int)
                · rw [if_pos c10] at H
                  have c10b0 : decide ((ji8) < (a0.size : Int)) = true := decide_eq_true c10
                  clear c10
                  replace H := Option.bind_eq_some_iff.mp H
                  obtain ⟨⟨t185, t186⟩, A120, H⟩ := H
                  replace H : (if 0 ≤ (wrap64 (x7_1 + 2)) then (if (wrap64 (x7_1 + 2)) < (a0.size : Int) then ((depotref01_Hex.f k1 (bt a0 (wrap64 (x7_1 + 2)))).bind fun bt187 => (if t186 = true then (depotref08_plain.j1 k1 a0 a1 x6_1 x7_1 t185 bt187.1 (!bt187.2)) else (depotref08_plain.j1 k1 a0 a1 x6_1 x7_1 t185 bt187.1 true))) else (none)) else (none)) = some (r1, r2) := H
                  have A12 := Aside0.mk A120
                  clear A120
                  obtain ⟨ji13, hji13⟩ : ∃ j_ : Int, (wrap64 (x7_1 + 2)) = j_ := ⟨_, rfl⟩
                  replace H : (if 0 ≤ (ji13) then (if (ji13) < (a0.size : Int) then ((depotref01_Hex.f k1 (bt a0 (ji13))).bind fun bt187 => (if t186 = true then (depotref08_plain.j1 k1 a0 a1 x6_1 x7_1 t185 bt187.1 (!bt187.2)) else (depotref08_plain.j1 k1 a0 a1 x6_1 x7_1 t185 bt187.1 true))) else (none)) else (none)) = some (r1, r2) := by first | (rw [hji13] at H; exact H) | (simp only [hji13] at H ⊢; exact H)
                  (try rw [hji13] at c7b0)
                  (try rw [hji13] at A12)
                  have hji13w : (IntKind.i64.wrap (x7_1 + 2)) = ji13 := (i64_w _).trans hji13
                  by_cases c14 : 0 ≤ (ji13)
                  · rw [if_pos c14] at H
                    have c14b0 : decide (0 ≤ (ji13)) = true := decide_eq_true c14
                    clear c14
                    by_cases c15 : (ji13) < (a0.size : Int)
                    · rw [if_pos c15] at H
                      have c15b0 : decide ((ji13) < (a0.size : Int)) = true := decide_eq_true c15
                      clear c15
                      replace H := Option.bind_eq_some_iff.mp H
                      obtain ⟨⟨t187, t188⟩, A170, H⟩ := H
                      replace H : (if t186 = true then (depotref08_plain.j1 k1 a0 a1 x6_1 x7_1 t185 t187 (!t188)) else (depotref08_plain.j1 k1 a0 a1 x6_1 x7_1 t185 t187 true)) = some (r1, r2) := H
                      have A17 := Aside0.mk A170
                      clear A170
                      have HC18 := Aside0.mk H
                      clear H
                      have p5 : 0 ≤ (x7_1 : Int) := of_decide_eq_true (by first | (with_reducible assumption) | assumption)
                      have q5 : x7_1 < (a0.size : Int) := of_decide_eq_true (by first | (with_reducible assumption) | assumption)
                      have hx5 := bt_at a0 x7_1
                      replace p5 := eq_true p5
                      replace q5 := eq_true q5
                      have p11 : 0 ≤ ((ji8) : Int) := of_decide_eq_true (by first | (with_reducible assumption) | assumption)
                      have q11 : (ji8) < (a0.size : Int) := of_decide_eq_true (by first | (with_reducible assumption) | assumption)
                      have hx11 := bt_at a0 (ji8)
                      replace p11 := eq_true p11
                      replace q11 := eq_true q11
                      go_upto_region 13 with (first | (go_at_call 48; (with_reducible refine (depotref01_Hex.calls k1 (bt a0 (ji8)) t185 t186 _ A12.out).mono ?_); rintro e w' ⟨rfl, ⟨nd, rfl⟩⟩; (try first | exact ⟨rfl, _, World.drewN_drewN _ _ _⟩ | exact ⟨rfl, _, Eq.trans (World.drewN_drewN _ _ _) (congrArg (World.drewN _) (Nat.add_assoc _ _ _))⟩); have p16 : 0 ≤ ((ji13) : Int) := of_decide_eq_true (by first | (with_reducible assumption) | assumption); have q16 : (ji13) < (a0.size : Int) := of_decide_eq_true (by first | (with_reducible assumption) | assumption); have hx16 := bt_at a0 (ji13); replace p16 := eq_true p16; replace q16 := eq_true q16) | (go_at_call 48; (with_reducible refine (depotref01_Hex.calls k1 (bt a0 (ji13)) t187 t188 _ A17.out).mono ?_); rintro e w' ⟨rfl, ⟨nd, rfl⟩⟩; (try first | exact ⟨rfl, _, World.drewN_drewN _ _ _⟩ | exact ⟨rfl, _, Eq.trans (World.drewN_drewN _ _ _) (congrArg (World.drewN _) (Nat.add_assoc _ _ _))⟩)))
                      repeat (go_quiet (first | (go_at_call 48; (with_reducible refine (depotref01_Hex.calls k1 (bt a0 (ji8)) t185 t186 _ A12.out).mono ?_); rintro e w' ⟨rfl, ⟨nd, rfl⟩⟩; (try first | exact ⟨rfl, _, World.drewN_drewN _ _ _⟩ | exact ⟨rfl, _, Eq.trans (World.drewN_drewN _ _ _) (congrArg (World.drewN _) (Nat.add_assoc _ _ _))⟩); have p16 : 0 ≤ ((ji13) : Int) := of_decide_eq_true (by first | (with_reducible assumption) | assumption); have q16 : (ji13) < (a0.size : Int) := of_decide_eq_true (by first | (with_reducible assumption) | assumption); have hx16 := bt_at a0 (ji13); replace p16 := eq_true p16; replace q16 := eq_true q16) | (go_at_call 48; (with_reducible refine (depotref01_Hex.calls k1 (bt a0 (ji13)) t187 t188 _ A17.out).mono ?_); rintro e w' ⟨rfl, ⟨nd, rfl⟩⟩; (try first | exact ⟨rfl, _, World.drewN_drewN _ _ _⟩ | exact ⟨rfl, _, Eq.trans (World.drewN_drewN _ _ _) (congrArg (World.drewN _) (Nat.add_assoc _ _ _))⟩))); go_upto_region 13 with (first | (go_at_call 48; (with_reducible refine (depotref01_Hex.calls k1 (bt a0 (ji8)) t185 t186 _ A12.out).mono ?_); rintro e w' ⟨rfl, ⟨nd, rfl⟩⟩; (try first | exact ⟨rfl, _, World.drewN_drewN _ _ _⟩ | exact ⟨rfl, _, Eq.trans (World.drewN_drewN _ _ _) (congrArg (World.drewN _) (Nat.add_assoc _ _ _))⟩); have p16 : 0 ≤ ((ji13) : Int) := of_decide_eq_true (by first | (with_reducible assumption) | assumption); have q16 : (ji13) < (a0.size : Int) := of_decide_eq_true (by first | (with_reducible assumption) | assumption); have hx16 := bt_at a0 (ji13); replace p16 := eq_true p16; replace q16 := eq_true q16) | (go_at_call 48; (with_reducible refine (depotref01_Hex.calls k1 (bt a0 (ji13)) t187 t188 _ A17.out).mono ?_); rintro e w' ⟨rfl, ⟨nd, rfl⟩⟩; (try first | exact ⟨rfl, _, World.drewN_drewN _ _ _⟩ | exact ⟨rfl, _, Eq.trans (World.drewN_drewN _ _ _) (congrArg (World.drewN _) (Nat.add_assoc _ _ _))⟩))))
                      (try simp only [Act.put, List.setIfInBounds_toArray, List.set_cons_zero, List.set_cons_succ])
                      go_cut [70] (fun v70 wc => ∃ (kq : Nat) (x70_17 : Bool), v70 = .bool x70_17 ∧ Aside0 (depotref08_plain.j1 kq a0 a1 x6_1 x7_1 t185 t187 x70_17 = some (r1, r2)) ∧ Aside0 (kq ≤ k1) ∧ Aside0 (Below w.heap.size w wc))
                      case first => as_aux_lemma =>
                        have H := HC18.out
                        clear HC18
                        by_cases c19 : t186 = true
                        · subst c19
                          have H1 : (depotref08_plain.j1 k1 a0 a1 x6_1 x7_1 t185 t187 (!t188)) = some (r1, r2) := by rw [if_pos rfl] at H; exact H
                          clear H
                          have H := H1
                          clear H1
                          have H' := Aside0.mk H
                          clear H
                          go_wp2
                          repeat (go_quiet (fail); try go_wp2)
                          go_meet
                          case rel => exact ⟨_, (!t188), (by first | rfl | (simp; done) | (simp [*]; done) | (simp; exact Hand.isEmpty_ne _)), H', ⟨by have := HK1.out; first | omega | exact Nat.le_refl _⟩, ⟨by repeat (first | (with_reducible first | exact HB.out | apply below_alloc | apply pw_below_drewN | apply below_drew1) | exact HB.out)⟩⟩
                        · replace c19 := Bool.eq_false_iff.mpr c19
                          subst c19
                          have H1 : (depotref08_plain.j1 k1 a0 a1 x6_1 x7_1 t185 t187 true) = some (r1, r2) := by rw [if_neg (show ¬ (false = true) by decide)] at H; exact H
                          clear H
                          have H := H1
                          clear H1
                          have H' := Aside0.mk H
                          clear H
                          go_wp2
                          repeat (go_quiet (fail); try go_wp2)
                          go_meet
                          case rel => exact ⟨_, (true), (by first | rfl | (simp; done) | (simp [*]; done) | (simp; exact Hand.isEmpty_ne _)), H', ⟨by have := HK1.out; first | omega | exact Nat.le_refl _⟩, ⟨by repeat (first | (with_reducible first | exact HB.out | apply below_alloc | apply pw_below_drewN | apply below_drew1) | exact HB.out)⟩⟩
                      case rest => as_aux_lemma =>
                        clear HC18
                        try clear c1
                        try clear p1
                        try clear q1
                        try clear hx1
                        try clear c2
                        try clear p2
                        try clear c3
                        try clear c3b0
                        try clear c4
                        try clear c4b0
                        try clear p5
                        try clear q5
                        try clear hx5
                        try clear c6
                        try clear c6b0
                        try clear c6b1
                        try clear p6
                        try clear c7
                        try clear c7b0
                        try clear c9
                        try clear c9b0
                        try clear c10
                        try clear c10b0
                        try clear p11
                        try clear q11
                        try clear hx11
                        try clear c14
                        try clear c14b0
                        try clear c15
                        try clear c15b0
                        try clear p16
                        try clear q16
                        try clear hx16
                        try clear c19
                        try clear p11
                        try clear p16
                        try clear p2
                        try clear p5
                        try clear q11
                        try clear q16
                        try clear q5
                        obtain ⟨kq, x70_17, rfl, HA, HJ17, HB⟩ := hcut
                        cases kq with
                        | zero => exact absurd HA.out (by simp [depotref08_plain.j1])
                        | succ kj17 =>
                          have H := HA.out
                          clear HA
                          simp only [depotref08_plain.j1] at H
                          by_cases c20 : x70_17 = true
                          · subst c20
                            have H1 : (some ((⟨#[]⟩ : ByteArray), false)) = some (r1, r2) := by rw [if_pos rfl] at H; exact H
                            clear H
                            have H := H1
                            clear H1
                            simp only [Option.some.injEq, Prod.mk.injEq] at H
                            obtain ⟨rfl, rfl⟩ := H
                            go_wp2
                            repeat (go_quiet (fail); try go_wp2)
                            go_ret2
                            exact ⟨by first | rfl | (simp [errW_none, errW_some] <;> rfl) | (simp only [← hji8, ← hji13]; first | rfl | (simp [errW_none, errW_some] <;> rfl)) | (simp [*, errW_none, errW_some] <;> rfl), by repeat (first | (with_reducible first | exact HB.out | apply below_alloc | apply pw_below_drewN | apply below_drew1) | exact HB.out)⟩
                          · replace c20 := Bool.eq_false_iff.mpr c20
                            subst c20
                            have H1 : ((depotref08_letter.f ((wrap64 ((wrap64 (16 * t185)) + t187)) % 256)).bind fun t189 => (if t189 = true then ((some (([(wrap64 ((wrap64 (16 * t185)) + t187)) % 256] : List Int) : List Int)).bind fun y190 => (if x6_1.size + (strOfNums y190).size ≤ 9223372036854775807 then (depotref08_plain.l0 kj17 a0 a1 (x6_1 ++ (strOfNums y190)) (wrap64 ((wrap64 (x7_1 + 2)) + 1))) else (none))) else ((depotref08_in.f kj17 ((wrap64 ((wrap64 (16 * t185)) + t187)) % 256) (⟨#[45, 46, 95, 126]⟩ : ByteArray)).bind fun t193 => (if t193 = true then ((some (([(wrap64 ((wrap64 (16 * t185)) + t187)) % 256] : List Int) : List Int)).bind fun y194 => (if x6_1.size + (strOfNums y194).size ≤ 9223372036854775807 then (depotref08_plain.l0 kj17 a0 a1 (x6_1 ++ (strOfNums y194)) (wrap64 ((wrap64 (x7_1 + 2)) + 1))) else (none))) else (if x6_1.size + 1 ≤ 9223372036854775807 then (if 0 ≤ t185 then (if t185 ≤ (wrap64 (t185 + 1)) then (if (wrap64 (t185 + 1)) ≤ 16 then (if (x6_1 ++ (⟨#[37]⟩ : ByteArray)).size + ((⟨#[48, 49, 50, 51, 52, 53, 54, 55, 56, 57, 65, 66, 67, 68, 69, 70]⟩ : ByteArray).extract (t185 : Int).toNat ((wrap64 (t185 + 1)) : Int).toNat).size ≤ 9223372036854775807 then (if 0 ≤ t187 then (if t187 ≤ (wrap64 (t187 + 1)) then (if (wrap64 (t187 + 1)) ≤ 16 then (if ((x6_1 ++ (⟨#[37]⟩ : ByteArray)) ++ ((⟨#[48, 49, 50, 51, 52, 53, 54, 55, 56, 57, 65, 66, 67, 68, 69, 70]⟩ : ByteArray).extract (t185 : Int).toNat ((wrap64 (t185 + 1)) : Int).toNat)).size + ((⟨#[48, 49, 50, 51, 52, 53, 54, 55, 56, 57, 65, 66, 67, 68, 69, 70]⟩ : ByteArray).extract (t187 : Int).toNat ((wrap64 (t187 + 1)) : Int).toNat).size ≤ 9223372036854775807 then (depotref08_plain.l0 kj17 a0 a1 (((x6_1 ++ (⟨#[37]⟩ : ByteArray)) ++ ((⟨#[48, 49, 50, 51, 52, 53, 54, 55, 56, 57, 65, 66, 67, 68, 69, 70]⟩ : ByteArray).extract (t185 : Int).toNat ((wrap64 (t185 + 1)) : Int).toNat)) ++ ((⟨#[48, 49, 50, 51, 52, 53, 54, 55, 56, 57, 65, 66, 67, 68, 69, 70]⟩ : ByteArray).extract (t187 : Int).toNat ((wrap64 (t187 + 1)) : Int).toNat)) (wrap64 ((wrap64 (x7_1 + 2)) + 1))) else (none)) else (none)) else (none)) else (none)) else (none)) else (none)) else (none)) else (none)) else (none)))))) = some (r1, r2) := by rw [if_neg (show ¬ (false = true) by decide)] at H; exact H
                            clear H
                            have H := H1
                            clear H1
                            replace H := Option.bind_eq_some_iff.mp H
                            obtain ⟨t189, A210, H⟩ := H
                            replace H : (if t189 = true then ((some (([(wrap64 ((wrap64 (16 * t185)) + t187)) % 256] : List Int) : List Int)).bind fun y190 => (if x6_1.size + (strOfNums y190).size ≤ 9223372036854775807 then (depotref08_plain.l0 kj17 a0 a1 (x6_1 ++ (strOfNums y190)) (wrap64 ((wrap64 (x7_1 + 2)) + 1))) else (none))) else ((depotref08_in.f kj17 ((wrap64 ((wrap64 (16 * t185)) + t187)) % 256) (⟨#[45, 46, 95, 126]⟩ : ByteArray)).bind fun t193 => (if t193 = true then ((some (([(wrap64 ((wrap64 (16 * t185)) + t187)) % 256] : List Int) : List Int)).bind fun y194 => (if x6_1.size + (strOfNums y194).size ≤ 9223372036854775807 then (depotref08_plain.l0 kj17 a0 a1 (x6_1 ++ (strOfNums y194)) (wrap64 ((wrap64 (x7_1 + 2)) + 1))) else (none))) else (if x6_1.size + 1 ≤ 9223372036854775807 then (if 0 ≤ t185 then (if t185 ≤ (wrap64 (t185 + 1)) then (if (wrap64 (t185 + 1)) ≤ 16 then (if (x6_1 ++ (⟨#[37]⟩ : ByteArray)).size + ((⟨#[48, 49, 50, 51, 52, 53, 54, 55, 56, 57, 65, 66, 67, 68, 69, 70]⟩ : ByteArray).extract (t185 : Int).toNat ((wrap64 (t185 + 1)) : Int).toNat).size ≤ 9223372036854775807 then (if 0 ≤ t187 then (if t187 ≤ (wrap64 (t187 + 1)) then (if (wrap64 (t187 + 1)) ≤ 16 then (if ((x6_1 ++ (⟨#[37]⟩ : ByteArray)) ++ ((⟨#[48, 49, 50, 51, 52, 53, 54, 55, 56, 57, 65, 66, 67, 68, 69, 70]⟩ : ByteArray).extract (t185 : Int).toNat ((wrap64 (t185 + 1)) : Int).toNat)).size + ((⟨#[48, 49, 50, 51, 52, 53, 54, 55, 56, 57, 65, 66, 67, 68, 69, 70]⟩ : ByteArray).extract (t187 : Int).toNat ((wrap64 (t187 + 1)) : Int).toNat).size ≤ 9223372036854775807 then (depotref08_plain.l0 kj17 a0 a1 (((x6_1 ++ (⟨#[37]⟩ : ByteArray)) ++ ((⟨#[48, 49, 50, 51, 52, 53, 54, 55, 56, 57, 65, 66, 67, 68, 69, 70]⟩ : ByteArray).extract (t185 : Int).toNat ((wrap64 (t185 + 1)) : Int).toNat)) ++ ((⟨#[48, 49, 50, 51, 52, 53, 54, 55, 56, 57, 65, 66, 67, 68, 69, 70]⟩ : ByteArray).extract (t187 : Int).toNat ((wrap64 (t187 + 1)) : Int).toNat)) (wrap64 ((wrap64 (x7_1 + 2)) + 1))) else (none)) else (none)) else (none)) else (none)) else (none)) else (none)) else (none)) else (none)) else (none))))) = some (r1, r2) := H
                            have A21 := Aside0.mk A210
                            clear A210
                            by_cases c22 : t189 = true
                            · subst c22
                              have H1 : ((some (([(wrap64 ((wrap64 (16 * t185)) + t187)) % 256] : List Int) : List Int)).bind fun y190 => (if x6_1.size + (strOfNums y190).size ≤ 9223372036854775807 then (depotref08_plain.l0 kj17 a0 a1 (x6_1 ++ (strOfNums y190)) (wrap64 ((wrap64 (x7_1 + 2)) + 1))) else (none))) = some (r1, r2) := by rw [if_pos rfl] at H; exact H
                              clear H
                              have H := H1
                              clear H1
                              obtain ⟨y190, hy190⟩ : ∃ y_ : List Int, y_ = (([(wrap64 ((wrap64 (16 * t185)) + t187)) % 256] : List Int)) := ⟨_, rfl⟩
                              replace H : (if x6_1.size + (strOfNums y190).size ≤ 9223372036854775807 then (depotref08_plain.l0 kj17 a0 a1 (x6_1 ++ (strOfNums y190)) (wrap64 ((wrap64 (x7_1 + 2)) + 1))) else (none)) = some (r1, r2) := by first | (rw [hy190]; with_reducible exact H) | (have H2_ := (Option.bind_some _ _).symm.trans H; rw [hy190]; with_reducible exact H2_) | (have H2_ := (Option.bind_some _ _).symm.trans H; with_reducible exact H2_) | with_reducible exact H | (rw [hy190]; exact H) | exact H
                              have Ny190 := Aside0.mk hy190
                              clear hy190
                              by_cases c23 : x6_1.size + (strOfNums y190).size ≤ 9223372036854775807
                              · rw [if_pos c23] at H
                                have c23b0 := eq_true c23
                                have c23b1 : decide (x6_1.size + (strOfNums y190).size ≤ 9223372036854775807) = true := decide_eq_true c23
                                try have c23b2 : (9223372036854775807 < x6_1.size + (strOfNums y190).size) = False := eq_false (Nat.not_lt.2 c23)
                                have H' := Aside0.mk H
                                clear H
                                go_wp2_with (first | (go_at_call 32; (with_reducible refine (depotref08_letter.calls ((wrap64 ((wrap64 (16 * t185)) + t187)) % 256) true _ A21.out).mono ?_); rintro e w' ⟨rfl, ⟨nd, rfl⟩⟩; (try first | exact ⟨rfl, _, World.drewN_drewN _ _ _⟩ | exact ⟨rfl, _, Eq.trans (World.drewN_drewN _ _ _) (congrArg (World.drewN _) (Nat.add_assoc _ _ _))⟩)) | ((with_reducible refine gate_dst (N := 84) rfl ?_); refine Kd.R_lit (Kd.int .u8) _ 5 ?hg (N := 84) ?hd (xs := ([(wrap64 ((wrap64 (16 * t185)) + t187)) % 256] : List Int)) (inner := [.int .u8 ((wrap64 ((wrap64 (16 * t185)) + t187)) % 256)]) (ok := fun _ => True) (okp := fun _ => True) ?hr ?hp (fun _ hk => hk) trivial (Below.refl _ _) (Nat.le_refl _) (by simp) ?_; (case hd => rfl); (case hg => rfl); (case hr => first | (go_simp; done) | (go_simp; rfl)); (case hp => exact (Reps.one (show Kd.M (Kd.int .u8) _ _ _ ((wrap64 ((wrap64 (16 * t185)) + t187)) % 256) [.int .u8 ((wrap64 ((wrap64 (16 * t185)) + t187)) % 256)] from rfl) (Reps.none _ _))); intro v191 w24 ho25 hb hg_ hnew_; clear hg_ hnew_; (first | rw [← Ny190.out] at ho25 | (simp only [Int.reduceToNat] at ho25; rw [← Ny190.out] at ho25)); have n0_ := Aside0.mk (Kd.R_lower ho25 (below_size (by repeat (first | (with_reducible first | exact HB.out | apply below_alloc | apply pw_below_drewN | apply below_drew1) | exact HB.out)))); have n1_ := Aside0.mk (below_step (by repeat (first | (with_reducible first | exact HB.out | apply below_alloc | apply pw_below_drewN | apply below_drew1) | exact HB.out)) hb); clear HB; have HO192 := n0_; have HB := n1_; clear n0_ n1_; clear hb ho25; have hcv26 := own_string (P := Tryd.prog) Tryd.underlying65 Tryd.underlying5 Tryd.underlying9 (Kd.own_of_R HO192.out)))
                                repeat (go_quiet (first | (go_at_call 32; (with_reducible refine (depotref08_letter.calls ((wrap64 ((wrap64 (16 * t185)) + t187)) % 256) true _ A21.out).mono ?_); rintro e w' ⟨rfl, ⟨nd, rfl⟩⟩; (try first | exact ⟨rfl, _, World.drewN_drewN _ _ _⟩ | exact ⟨rfl, _, Eq.trans (World.drewN_drewN _ _ _) (congrArg (World.drewN _) (Nat.add_assoc _ _ _))⟩)) | ((with_reducible refine gate_dst (N := 84) rfl ?_); refine Kd.R_lit (Kd.int .u8) _ 5 ?hg (N := 84) ?hd (xs := ([(wrap64 ((wrap64 (16 * t185)) + t187)) % 256] : List Int)) (inner := [.int .u8 ((wrap64 ((wrap64 (16 * t185)) + t187)) % 256)]) (ok := fun _ => True) (okp := fun _ => True) ?hr ?hp (fun _ hk => hk) trivial (Below.refl _ _) (Nat.le_refl _) (by simp) ?_; (case hd => rfl); (case hg => rfl); (case hr => first | (go_simp; done) | (go_simp; rfl)); (case hp => exact (Reps.one (show Kd.M (Kd.int .u8) _ _ _ ((wrap64 ((wrap64 (16 * t185)) + t187)) % 256) [.int .u8 ((wrap64 ((wrap64 (16 * t185)) + t187)) % 256)] from rfl) (Reps.none _ _))); intro v191 w24 ho25 hb hg_ hnew_; clear hg_ hnew_; (first | rw [← Ny190.out] at ho25 | (simp only [Int.reduceToNat] at ho25; rw [← Ny190.out] at ho25)); have n0_ := Aside0.mk (Kd.R_lower ho25 (below_size (by repeat (first | (with_reducible first | exact HB.out | apply below_alloc | apply pw_below_drewN | apply below_drew1) | exact HB.out)))); have n1_ := Aside0.mk (below_step (by repeat (first | (with_reducible first | exact HB.out | apply below_alloc | apply pw_below_drewN | apply below_drew1) | exact HB.out)) hb); clear HB; have HO192 := n0_; have HB := n1_; clear n0_ n1_; clear hb ho25; have hcv26 := own_string (P := Tryd.prog) Tryd.underlying65 Tryd.underlying5 Tryd.underlying9 (Kd.own_of_R HO192.out))); try go_wp2_with (first | (go_at_call 32; (with_reducible refine (depotref08_letter.calls ((wrap64 ((wrap64 (16 * t185)) + t187)) % 256) true _ A21.out).mono ?_); rintro e w' ⟨rfl, ⟨nd, rfl⟩⟩; (try first | exact ⟨rfl, _, World.drewN_drewN _ _ _⟩ | exact ⟨rfl, _, Eq.trans (World.drewN_drewN _ _ _) (congrArg (World.drewN _) (Nat.add_assoc _ _ _))⟩)) | ((with_reducible refine gate_dst (N := 84) rfl ?_); refine Kd.R_lit (Kd.int .u8) _ 5 ?hg (N := 84) ?hd (xs := ([(wrap64 ((wrap64 (16 * t185)) + t187)) % 256] : List Int)) (inner := [.int .u8 ((wrap64 ((wrap64 (16 * t185)) + t187)) % 256)]) (ok := fun _ => True) (okp := fun _ => True) ?hr ?hp (fun _ hk => hk) trivial (Below.refl _ _) (Nat.le_refl _) (by simp) ?_; (case hd => rfl); (case hg => rfl); (case hr => first | (go_simp; done) | (go_simp; rfl)); (case hp => exact (Reps.one (show Kd.M (Kd.int .u8) _ _ _ ((wrap64 ((wrap64 (16 * t185)) + t187)) % 256) [.int .u8 ((wrap64 ((wrap64 (16 * t185)) + t187)) % 256)] from rfl) (Reps.none _ _))); intro v191 w24 ho25 hb hg_ hnew_; clear hg_ hnew_; (first | rw [← Ny190.out] at ho25 | (simp only [Int.reduceToNat] at ho25; rw [← Ny190.out] at ho25)); have n0_ := Aside0.mk (Kd.R_lower ho25 (below_size (by repeat (first | (with_reducible first | exact HB.out | apply below_alloc | apply pw_below_drewN | apply below_drew1) | exact HB.out)))); have n1_ := Aside0.mk (below_step (by repeat (first | (with_reducible first | exact HB.out | apply below_alloc | apply pw_below_drewN | apply below_drew1) | exact HB.out)) hb); clear HB; have HO192 := n0_; have HB := n1_; clear n0_ n1_; clear hb ho25; have hcv26 := own_string (P := Tryd.prog) Tryd.underlying65 Tryd.underlying5 Tryd.underlying9 (Kd.own_of_R HO192.out))))
                                go_roundg kj17
                                case measure => have := HK1.out; have := HJ17.out; omega
                                case rel => exact ⟨(x6_1 ++ (strOfNums y190)), (wrap64 ((wrap64 (x7_1 + 2)) + 1)), (by first | rfl | (simp; done) | (simp [*]; done) | (simp; exact Hand.isEmpty_ne _)), (by first | rfl | (simp; done) | (simp [*]; done) | (simp; exact Hand.isEmpty_ne _)), H', ⟨by have := HK1.out; have := HJ17.out; omega⟩, ⟨by repeat (first | (with_reducible first | exact HB.out | apply below_alloc | apply pw_below_drewN | apply below_drew1) | exact HB.out)⟩⟩
                              · rw [if_neg c23] at H
                                exact absurd H (by simp)
                            · replace c22 := Bool.eq_false_iff.mpr c22
                              subst c22
                              have H1 : ((depotref08_in.f kj17 ((wrap64 ((wrap64 (16 * t185)) + t187)) % 256) (⟨#[45, 46, 95, 126]⟩ : ByteArray)).bind fun t193 => (if t193 = true then ((some (([(wrap64 ((wrap64 (16 * t185)) + t187)) % 256] : List Int) : List Int)).bind fun y194 => (if x6_1.size + (strOfNums y194).size ≤ 9223372036854775807 then (depotref08_plain.l0 kj17 a0 a1 (x6_1 ++ (strOfNums y194)) (wrap64 ((wrap64 (x7_1 + 2)) + 1))) else (none))) else (if x6_1.size + 1 ≤ 9223372036854775807 then (if 0 ≤ t185 then (if t185 ≤ (wrap64 (t185 + 1)) then (if (wrap64 (t185 + 1)) ≤ 16 then (if (x6_1 ++ (⟨#[37]⟩ : ByteArray)).size + ((⟨#[48, 49, 50, 51, 52, 53, 54, 55, 56, 57, 65, 66, 67, 68, 69, 70]⟩ : ByteArray).extract (t185 : Int).toNat ((wrap64 (t185 + 1)) : Int).toNat).size ≤ 9223372036854775807 then (if 0 ≤ t187 then (if t187 ≤ (wrap64 (t187 + 1)) then (if (wrap64 (t187 + 1)) ≤ 16 then (if ((x6_1 ++ (⟨#[37]⟩ : ByteArray)) ++ ((⟨#[48, 49, 50, 51, 52, 53, 54, 55, 56, 57, 65, 66, 67, 68, 69, 70]⟩ : ByteArray).extract (t185 : Int).toNat ((wrap64 (t185 + 1)) : Int).toNat)).size + ((⟨#[48, 49, 50, 51, 52, 53, 54, 55, 56, 57, 65, 66, 67, 68, 69, 70]⟩ : ByteArray).extract (t187 : Int).toNat ((wrap64 (t187 + 1)) : Int).toNat).size ≤ 9223372036854775807 then (depotref08_plain.l0 kj17 a0 a1 (((x6_1 ++ (⟨#[37]⟩ : ByteArray)) ++ ((⟨#[48, 49, 50, 51, 52, 53, 54, 55, 56, 57, 65, 66, 67, 68, 69, 70]⟩ : ByteArray).extract (t185 : Int).toNat ((wrap64 (t185 + 1)) : Int).toNat)) ++ ((⟨#[48, 49, 50, 51, 52, 53, 54, 55, 56, 57, 65, 66, 67, 68, 69, 70]⟩ : ByteArray).extract (t187 : Int).toNat ((wrap64 (t187 + 1)) : Int).toNat)) (wrap64 ((wrap64 (x7_1 + 2)) + 1))) else (none)) else (none)) else (none)) else (none)) else (none)) else (none)) else (none)) else (none)) else (none)))) = some (r1, r2) := by rw [if_neg (show ¬ (false = true) by decide)] at H; exact H
                              clear H
                              have H := H1
                              clear H1
                              replace H := Option.bind_eq_some_iff.mp H
                              obtain ⟨t193, A270, H⟩ := H
                              replace H : (if t193 = true then ((some (([(wrap64 ((wrap64 (16 * t185)) + t187)) % 256] : List Int) : List Int)).bind fun y194 => (if x6_1.size + (strOfNums y194).size ≤ 9223372036854775807 then (depotref08_plain.l0 kj17 a0 a1 (x6_1 ++ (strOfNums y194)) (wrap64 ((wrap64 (x7_1 + 2)) + 1))) else (none))) else (if x6_1.size + 1 ≤ 9223372036854775807 then (if 0 ≤ t185 then (if t185 ≤ (wrap64 (t185 + 1)) then (if (wrap64 (t185 + 1)) ≤ 16 then (if (x6_1 ++ (⟨#[37]⟩ : ByteArray)).size + ((⟨#[48, 49, 50, 51, 52, 53, 54, 55, 56, 57, 65, 66, 67, 68, 69, 70]⟩ : ByteArray).extract (t185 : Int).toNat ((wrap64 (t185 + 1)) : Int).toNat).size ≤ 9223372036854775807 then (if 0 ≤ t187 then (if t187 ≤ (wrap64 (t187 + 1)) then (if (wrap64 (t187 + 1)) ≤ 16 then (if ((x6_1 ++ (⟨#[37]⟩ : ByteArray)) ++ ((⟨#[48, 49, 50, 51, 52, 53, 54, 55, 56, 57, 65, 66, 67, 68, 69, 70]⟩ : ByteArray).extract (t185 : Int).toNat ((wrap64 (t185 + 1)) : Int).toNat)).size + ((⟨#[48, 49, 50, 51, 52, 53, 54, 55, 56, 57, 65, 66, 67, 68, 69, 70]⟩ : ByteArray).extract (t187 : Int).toNat ((wrap64 (t187 + 1)) : Int).toNat).size ≤ 9223372036854775807 then (depotref08_plain.l0 kj17 a0 a1 (((x6_1 ++ (⟨#[37]⟩ : ByteArray)) ++ ((⟨#[48, 49, 50, 51, 52, 53, 54, 55, 56, 57, 65, 66, 67, 68, 69, 70]⟩ : ByteArray).extract (t185 : Int).toNat ((wrap64 (t185 + 1)) : Int).toNat)) ++ ((⟨#[48, 49, 50, 51, 52, 53, 54, 55, 56, 57, 65, 66, 67, 68, 69, 70]⟩ : ByteArray).extract (t187 : Int).toNat ((wrap64 (t187 + 1)) : Int).toNat)) (wrap64 ((wrap64 (x7_1 + 2)) + 1))) else (none)) else (none)) else (none)) else (none)) else (none)) else (none)) else (none)) else (none)) else (none))) = some (r1, r2) := H
                              have A27 := Aside0.mk A270
                              clear A270
                              by_cases c28 : t193 = true
                              · subst c28
                                have H1 : ((some (([(wrap64 ((wrap64 (16 * t185)) + t187)) % 256] : List Int) : List Int)).bind fun y194 => (if x6_1.size + (strOfNums y194).size ≤ 9223372036854775807 then (depotref08_plain.l0 kj17 a0 a1 (x6_1 ++ (strOfNums y194)) (wrap64 ((wrap64 (x7_1 + 2)) + 1))) else (none))) = some (r1, r2) := by rw [if_pos rfl] at H; exact H
                                clear H
                                have H := H1
                                clear H1
                                obtain ⟨y194, hy194⟩ : ∃ y_ : List Int, y_ = (([(wrap64 ((wrap64 (16 * t185)) + t187)) % 256] : List Int)) := ⟨_, rfl⟩
                                replace H : (if x6_1.size + (strOfNums y194).size ≤ 9223372036854775807 then (depotref08_plain.l0 kj17 a0 a1 (x6_1 ++ (strOfNums y194)) (wrap64 ((wrap64 (x7_1 + 2)) + 1))) else (none)) = some (r1, r2) := by first | (rw [hy194]; with_reducible exact H) | (have H2_ := (Option.bind_some _ _).symm.trans H; rw [hy194]; with_reducible exact H2_) | (have H2_ := (Option.bind_some _ _).symm.trans H; with_reducible exact H2_) | with_reducible exact H | (rw [hy194]; exact H) | exact H
                                have Ny194 := Aside0.mk hy194
                                clear hy194
                                by_cases c29 : x6_1.size + (strOfNums y194).size ≤ 9223372036854775807
                                · rw [if_pos c29] at H
                                  have c29b0 := eq_true c29
                                  have c29b1 : decide (x6_1.size + (strOfNums y194).size ≤ 9223372036854775807) = true := decide_eq_true c29
                                  try have c29b2 : (9223372036854775807 < x6_1.size + (strOfNums y194).size) = False := eq_false (Nat.not_lt.2 c29)
                                  have H' := Aside0.mk H
                                  clear H
                                  go_wp2_with (first | (go_at_call 32; (with_reducible refine (depotref08_letter.calls ((wrap64 ((wrap64 (16 * t185)) + t187)) % 256) false _ A21.out).mono ?_); rintro e w' ⟨rfl, ⟨nd, rfl⟩⟩; (try first | exact ⟨rfl, _, World.drewN_drewN _ _ _⟩ | exact ⟨rfl, _, Eq.trans (World.drewN_drewN _ _ _) (congrArg (World.drewN _) (Nat.add_assoc _ _ _))⟩)) | (go_at_call 33; (with_reducible refine (depotref08_in.calls kj17 ((wrap64 ((wrap64 (16 * t185)) + t187)) % 256) (⟨#[45, 46, 95, 126]⟩ : ByteArray) true _ A27.out).mono ?_); rintro e w' ⟨rfl, ⟨nd, rfl⟩⟩; (try first | exact ⟨rfl, _, World.drewN_drewN _ _ _⟩ | exact ⟨rfl, _, Eq.trans (World.drewN_drewN _ _ _) (congrArg (World.drewN _) (Nat.add_assoc _ _ _))⟩)) | ((with_reducible refine gate_dst (N := 84) rfl ?_); refine Kd.R_lit (Kd.int .u8) _ 5 ?hg (N := 84) ?hd (xs := ([(wrap64 ((wrap64 (16 * t185)) + t187)) % 256] : List Int)) (inner := [.int .u8 ((wrap64 ((wrap64 (16 * t185)) + t187)) % 256)]) (ok := fun _ => True) (okp := fun _ => True) ?hr ?hp (fun _ hk => hk) trivial (Below.refl _ _) (Nat.le_refl _) (by simp) ?_; (case hd => rfl); (case hg => rfl); (case hr => first | (go_simp; done) | (go_simp; rfl)); (case hp => exact (Reps.one (show Kd.M (Kd.int .u8) _ _ _ ((wrap64 ((wrap64 (16 * t185)) + t187)) % 256) [.int .u8 ((wrap64 ((wrap64 (16 * t185)) + t187)) % 256)] from rfl) (Reps.none _ _))); intro v195 w30 ho31 hb hg_ hnew_; clear hg_ hnew_; (first | rw [← Ny194.out] at ho31 | (simp only [Int.reduceToNat] at ho31; rw [← Ny194.out] at ho31)); have n0_ := Aside0.mk (Kd.R_lower ho31 (below_size (by repeat (first | (with_reducible first | exact HB.out | apply below_alloc | apply pw_below_drewN | apply below_drew1) | exact HB.out)))); have n1_ := Aside0.mk (below_step (by repeat (first | (with_reducible first | exact HB.out | apply below_alloc | apply pw_below_drewN | apply below_drew1) | exact HB.out)) hb); clear HB; have HO196 := n0_; have HB := n1_; clear n0_ n1_; clear hb ho31; have hcv32 := own_string (P := Tryd.prog) Tryd.underlying65 Tryd.underlying5 Tryd.underlying9 (Kd.own_of_R HO196.out)))
                                  repeat (go_quiet (first | (go_at_call 32; (with_reducible refine (depotref08_letter.calls ((wrap64 ((wrap64 (16 * t185)) + t187)) % 256) false _ A21.out).mono ?_); rintro e w' ⟨rfl, ⟨nd, rfl⟩⟩; (try first | exact ⟨rfl, _, World.drewN_drewN _ _ _⟩ | exact ⟨rfl, _, Eq.trans (World.drewN_drewN _ _ _) (congrArg (World.drewN _) (Nat.add_assoc _ _ _))⟩)) | (go_at_call 33; (with_reducible refine (depotref08_in.calls kj17 ((wrap64 ((wrap64 (16 * t185)) + t187)) % 256) (⟨#[45, 46, 95, 126]⟩ : ByteArray) true _ A27.out).mono ?_); rintro e w' ⟨rfl, ⟨nd, rfl⟩⟩; (try first | exact ⟨rfl, _, World.drewN_drewN _ _ _⟩ | exact ⟨rfl, _, Eq.trans (World.drewN_drewN _ _ _) (congrArg (World.drewN _) (Nat.add_assoc _ _ _))⟩)) | ((with_reducible refine gate_dst (N := 84) rfl ?_); refine Kd.R_lit (Kd.int .u8) _ 5 ?hg (N := 84) ?hd (xs := ([(wrap64 ((wrap64 (16 * t185)) + t187)) % 256] : List Int)) (inner := [.int .u8 ((wrap64 ((wrap64 (16 * t185)) + t187)) % 256)]) (ok := fun _ => True) (okp := fun _ => True) ?hr ?hp (fun _ hk => hk) trivial (Below.refl _ _) (Nat.le_refl _) (by simp) ?_; (case hd => rfl); (case hg => rfl); (case hr => first | (go_simp; done) | (go_simp; rfl)); (case hp => exact (Reps.one (show Kd.M (Kd.int .u8) _ _ _ ((wrap64 ((wrap64 (16 * t185)) + t187)) % 256) [.int .u8 ((wrap64 ((wrap64 (16 * t185)) + t187)) % 256)] from rfl) (Reps.none _ _))); intro v195 w30 ho31 hb hg_ hnew_; clear hg_ hnew_; (first | rw [← Ny194.out] at ho31 | (simp only [Int.reduceToNat] at ho31; rw [← Ny194.out] at ho31)); have n0_ := Aside0.mk (Kd.R_lower ho31 (below_size (by repeat (first | (with_reducible first | exact HB.out | apply below_alloc | apply pw_below_drewN | apply below_drew1) | exact HB.out)))); have n1_ := Aside0.mk (below_step (by repeat (first | (with_reducible first | exact HB.out | apply below_alloc | apply pw_below_drewN | apply below_drew1) | exact HB.out)) hb); clear HB; have HO196 := n0_; have HB := n1_; clear n0_ n1_; clear hb ho31; have hcv32 := own_string (P := Tryd.prog) Tryd.underlying65 Tryd.underlying5 Tryd.underlying9 (Kd.own_of_R HO196.out))); try go_wp2_with (first | (go_at_call 32; (with_reducible refine (depotref08_letter.calls ((wrap64 ((wrap64 (16 * t185)) + t187)) % 256) false _ A21.out).mono ?_); rintro e w' ⟨rfl, ⟨nd, rfl⟩⟩; (try first | exact ⟨rfl, _, World.drewN_drewN _ _ _⟩ | exact ⟨rfl, _, Eq.trans (World.drewN_drewN _ _ _) (congrArg (World.drewN _) (Nat.add_assoc _ _ _))⟩)) | (go_at_call 33; (with_reducible refine (depotref08_in.calls kj17 ((wrap64 ((wrap64 (16 * t185)) + t187)) % 256) (⟨#[45, 46, 95, 126]⟩ : ByteArray) true _ A27.out).mono ?_); rintro e w' ⟨rfl, ⟨nd, rfl⟩⟩; (try first | exact ⟨rfl, _, World.drewN_drewN _ _ _⟩ | exact ⟨rfl, _, Eq.trans (World.drewN_drewN _ _ _) (congrArg (World.drewN _) (Nat.add_assoc _ _ _))⟩)) | ((with_reducible refine gate_dst (N := 84) rfl ?_); refine Kd.R_lit (Kd.int .u8) _ 5 ?hg (N := 84) ?hd (xs := ([(wrap64 ((wrap64 (16 * t185)) + t187)) % 256] : List Int)) (inner := [.int .u8 ((wrap64 ((wrap64 (16 * t185)) + t187)) % 256)]) (ok := fun _ => True) (okp := fun _ => True) ?hr ?hp (fun _ hk => hk) trivial (Below.refl _ _) (Nat.le_refl _) (by simp) ?_; (case hd => rfl); (case hg => rfl); (case hr => first | (go_simp; done) | (go_simp; rfl)); (case hp => exact (Reps.one (show Kd.M (Kd.int .u8) _ _ _ ((wrap64 ((wrap64 (16 * t185)) + t187)) % 256) [.int .u8 ((wrap64 ((wrap64 (16 * t185)) + t187)) % 256)] from rfl) (Reps.none _ _))); intro v195 w30 ho31 hb hg_ hnew_; clear hg_ hnew_; (first | rw [← Ny194.out] at ho31 | (simp only [Int.reduceToNat] at ho31; rw [← Ny194.out] at ho31)); have n0_ := Aside0.mk (Kd.R_lower ho31 (below_size (by repeat (first | (with_reducible first | exact HB.out | apply below_alloc | apply pw_below_drewN | apply below_drew1) | exact HB.out)))); have n1_ := Aside0.mk (below_step (by repeat (first | (with_reducible first | exact HB.out | apply below_alloc | apply pw_below_drewN | apply below_drew1) | exact HB.out)) hb); clear HB; have HO196 := n0_; have HB := n1_; clear n0_ n1_; clear hb ho31; have hcv32 := own_string (P := Tryd.prog) Tryd.underlying65 Tryd.underlying5 Tryd.underlying9 (Kd.own_of_R HO196.out))))
                                  go_roundg kj17
                                  case measure => have := HK1.out; have := HJ17.out; omega
                                  case rel => exact ⟨(x6_1 ++ (strOfNums y194)), (wrap64 ((wrap64 (x7_1 + 2)) + 1)), (by first | rfl | (simp; done) | (simp [*]; done) | (simp; exact Hand.isEmpty_ne _)), (by first | rfl | (simp; done) | (simp [*]; done) | (simp; exact Hand.isEmpty_ne _)), H', ⟨by have := HK1.out; have := HJ17.out; omega⟩, ⟨by repeat (first | (with_reducible first | exact HB.out | apply below_alloc | apply pw_below_drewN | apply below_drew1) | exact HB.out)⟩⟩
                                · rw [if_neg c29] at H
                                  exact absurd H (by simp)
                              · replace c28 := Bool.eq_false_iff.mpr c28
                                subst c28
                                have H1 : (if x6_1.size + 1 ≤ 9223372036854775807 then (if 0 ≤ t185 then (if t185 ≤ (wrap64 (t185 + 1)) then (if (wrap64 (t185 + 1)) ≤ 16 then (if (x6_1 ++ (⟨#[37]⟩ : ByteArray)).size + ((⟨#[48, 49, 50, 51, 52, 53, 54, 55, 56, 57, 65, 66, 67, 68, 69, 70]⟩ : ByteArray).extract (t185 : Int).toNat ((wrap64 (t185 + 1)) : Int).toNat).size ≤ 9223372036854775807 then (if 0 ≤ t187 then (if t187 ≤ (wrap64 (t187 + 1)) then (if (wrap64 (t187 + 1)) ≤ 16 then (if ((x6_1 ++ (⟨#[37]⟩ : ByteArray)) ++ ((⟨#[48, 49, 50, 51, 52, 53, 54, 55, 56, 57, 65, 66, 67, 68, 69, 70]⟩ : ByteArray).extract (t185 : Int).toNat ((wrap64 (t185 + 1)) : Int).toNat)).size + ((⟨#[48, 49, 50, 51, 52, 53, 54, 55, 56, 57, 65, 66, 67, 68, 69, 70]⟩ : ByteArray).extract (t187 : Int).toNat ((wrap64 (t187 + 1)) : Int).toNat).size ≤ 9223372036854775807 then (depotref08_plain.l0 kj17 a0 a1 (((x6_1 ++ (⟨#[37]⟩ : ByteArray)) ++ ((⟨#[48, 49, 50, 51, 52, 53, 54, 55, 56, 57, 65, 66, 67, 68, 69, 70]⟩ : ByteArray).extract (t185 : Int).toNat ((wrap64 (t185 + 1)) : Int).toNat)) ++ ((⟨#[48, 49, 50, 51, 52, 53, 54, 55, 56, 57, 65, 66, 67, 68, 69, 70]⟩ : ByteArray).extract (t187 : Int).toNat ((wrap64 (t187 + 1)) : Int).toNat)) (wrap64 ((wrap64 (x7_1 + 2)) + 1))) else (none)) else (none)) else (none)) else (none)) else (none)) else (none)) else (none)) else (none)) else (none)) = some (r1, r2) := by rw [if_neg (show ¬ (false = true) by decide)] at H; exact H
                                clear H
                                have H := H1
                                clear H1
                                by_cases c33 : x6_1.size + 1 ≤ 9223372036854775807
                                · rw [if_pos c33] at H
                                  have c33b0 := eq_true c33
                                  have c33b1 : decide (x6_1.size + 1 ≤ 9223372036854775807) = true := decide_eq_true c33
                                  try have c33b2 : (9223372036854775807 < x6_1.size + 1) = False := eq_false (Nat.not_lt.2 c33)
                                  by_cases c34 : 0 ≤ t185
                                  · rw [if_pos c34] at H
                                    have c34b0 := eq_true c34
                                    have c34b1 : decide (0 ≤ t185) = true := decide_eq_true c34
                                    clear c34
                                    by_cases c35 : t185 ≤ (wrap64 (t185 + 1))
                                    · rw [if_pos c35] at H
                                      have c35b0 := eq_true c35
                                      have c35b1 : decide (t185 ≤ (wrap64 (t185 + 1))) = true := decide_eq_true c35
                                      by_cases c36 : (wrap64 (t185 + 1)) ≤ 16
                                      · rw [if_pos c36] at H
                                        have c36b0 := eq_true c36
                                        have c36b1 : decide ((wrap64 (t185 + 1)) ≤ 16) = true := decide_eq_true c36
                                        by_cases c37 : (x6_1 ++ (⟨#[37]⟩ : ByteArray)).size + ((⟨#[48, 49, 50, 51, 52, 53, 54, 55, 56, 57, 65, 66, 67, 68, 69, 70]⟩ : ByteArray).extract (t185 : Int).toNat ((wrap64 (t185 + 1)) : Int).toNat).size ≤ 9223372036854775807
                                        · rw [if_pos c37] at H
                                          have c37b0 := eq_true c37
                                          have c37b1 : decide ((x6_1 ++ (⟨#[37]⟩ : ByteArray)).size + ((⟨#[48, 49, 50, 51, 52, 53, 54, 55, 56, 57, 65, 66, 67, 68, 69, 70]⟩ : ByteArray).extract (t185 : Int).toNat ((wrap64 (t185 + 1)) : Int).toNat).size ≤ 9223372036854775807) = true := decide_eq_true c37
                                          (try (have c37b20 := c37b0; simp only [ByteArray.size_extract] at c37b20))
                                          (try (have c37b21 := c37b1; simp only [ByteArray.size_extract] at c37b21))
                                          (try (have c37b40 := c37b0; simp only [ByteArray.size_extract, Nat.min_self] at c37b40))
                                          (try (have c37b41 := c37b1; simp only [ByteArray.size_extract, Nat.min_self] at c37b41))
                                          try have c37b2 : (9223372036854775807 < (x6_1 ++ (⟨#[37]⟩ : ByteArray)).size + ((⟨#[48, 49, 50, 51, 52, 53, 54, 55, 56, 57, 65, 66, 67, 68, 69, 70]⟩ : ByteArray).extract (t185 : Int).toNat ((wrap64 (t185 + 1)) : Int).toNat).size) = False := eq_false (Nat.not_lt.2 c37)
                                          (try (have c37b42 := c37b2; simp only [ByteArray.size_extract, Nat.min_self] at c37b42))
                                          try have c37b3 := c37b2
                                          try conv at c37b3 => lhs; simp only [ByteArray.size_append, show (⟨#[37]⟩ : ByteArray).size = 1 from rfl, show (⟨#[48, 49, 50, 51, 52, 53, 54, 55, 56, 57, 65, 66, 67, 68, 69, 70]⟩ : ByteArray).size = 16 from rfl]
                                          (try (have c37b42 := c37b2; simp only [ByteArray.size_extract, Nat.min_self] at c37b42))
                                          try have c37b4 := c37b3
                                          try conv at c37b4 => lhs; simp only [ByteArray.size_extract, Nat.sub_zero]
                                          (try (have c37b5 := c37b4; rw [Nat.min_eq_left] at c37b5; rotate_left; exact Int.toNat_le.2 (of_decide_eq_true (by assumption))))
                                          by_cases c38 : 0 ≤ t187
                                          · rw [if_pos c38] at H
                                            have c38b0 := eq_true c38
                                            have c38b1 : decide (0 ≤ t187) = true := decide_eq_true c38
                                            clear c38
                                            by_cases c39 : t187 ≤ (wrap64 (t187 + 1))
                                            · rw [if_pos c39] at H
                                              have c39b0 := eq_true c39
                                              have c39b1 : decide (t187 ≤ (wrap64 (t187 + 1))) = true := decide_eq_true c39
                                              by_cases c40 : (wrap64 (t187 + 1)) ≤ 16
                                              · rw [if_pos c40] at H
                                                have c40b0 := eq_true c40
                                                have c40b1 : decide ((wrap64 (t187 + 1)) ≤ 16) = true := decide_eq_true c40
                                                by_cases c41 : ((x6_1 ++ (⟨#[37]⟩ : ByteArray)) ++ ((⟨#[48, 49, 50, 51, 52, 53, 54, 55, 56, 57, 65, 66, 67, 68, 69, 70]⟩ : ByteArray).extract (t185 : Int).toNat ((wrap64 (t185 + 1)) : Int).toNat)).size + ((⟨#[48, 49, 50, 51, 52, 53, 54, 55, 56, 57, 65, 66, 67, 68, 69, 70]⟩ : ByteArray).extract (t187 : Int).toNat ((wrap64 (t187 + 1)) : Int).toNat).size ≤ 9223372036854775807
                                                · rw [if_pos c41] at H
                                                  have c41b0 := eq_true c41
                                                  have c41b1 : decide (((x6_1 ++ (⟨#[37]⟩ : ByteArray)) ++ ((⟨#[48, 49, 50, 51, 52, 53, 54, 55, 56, 57, 65, 66, 67, 68, 69, 70]⟩ : ByteArray).extract (t185 : Int).toNat ((wrap64 (t185 + 1)) : Int).toNat)).size + ((⟨#[48, 49, 50, 51, 52, 53, 54, 55, 56, 57, 65, 66, 67, 68, 69, 70]⟩ : ByteArray).extract (t187 : Int).toNat ((wrap64 (t187 + 1)) : Int).toNat).size ≤ 9223372036854775807) = true := decide_eq_true c41
                                                  (try (have c41b20 := c41b0; simp only [ByteArray.size_extract] at c41b20))
                                                  (try (have c41b21 := c41b1; simp only [ByteArray.size_extract] at c41b21))
                                                  (try (have c41b40 := c41b0; simp only [ByteArray.size_extract, Nat.min_self] at c41b40))
                                                  (try (have c41b41 := c41b1; simp only [ByteArray.size_extract, Nat.min_self] at c41b41))
                                                  try have c41b2 : (9223372036854775807 < ((x6_1 ++ (⟨#[37]⟩ : ByteArray)) ++ ((⟨#[48, 49, 50, 51, 52, 53, 54, 55, 56, 57, 65, 66, 67, 68, 69, 70]⟩ : ByteArray).extract (t185 : Int).toNat ((wrap64 (t185 + 1)) : Int).toNat)).size + ((⟨#[48, 49, 50, 51, 52, 53, 54, 55, 56, 57, 65, 66, 67, 68, 69, 70]⟩ : ByteArray).extract (t187 : Int).toNat ((wrap64 (t187 + 1)) : Int).toNat).size) = False := eq_false (Nat.not_lt.2 c41)
                                                  (try (have c41b42 := c41b2; simp only [ByteArray.size_extract, Nat.min_self] at c41b42))
                                                  try have c41b3 := c41b2
                                                  try conv at c41b3 => lhs; simp only [ByteArray.size_append, show (⟨#[37]⟩ : ByteArray).size = 1 from rfl, show (⟨#[48, 49, 50, 51, 52, 53, 54, 55, 56, 57, 65, 66, 67, 68, 69, 70]⟩ : ByteArray).size = 16 from rfl]
                                                  (try (have c41b42 := c41b2; simp only [ByteArray.size_extract, Nat.min_self] at c41b42))
                                                  try have c41b4 := c41b3
                                                  try conv at c41b4 => lhs; simp only [ByteArray.size_extract, Nat.sub_zero]
                                                  (try (have c41b5 := c41b4; rw [Nat.min_eq_left] at c41b5; rotate_left; exact Int.toNat_le.2 (of_decide_eq_true (by assumption))))
                                                  have H' := Aside0.mk H
                                                  clear H
                                                  go_wp2_with (first | (go_at_call 32; (with_reducible refine (depotref08_letter.calls ((wrap64 ((wrap64 (16 * t185)) + t187)) % 256) false _ A21.out).mono ?_); rintro e w' ⟨rfl, ⟨nd, rfl⟩⟩; (try first | exact ⟨rfl, _, World.drewN_drewN _ _ _⟩ | exact ⟨rfl, _, Eq.trans (World.drewN_drewN _ _ _) (congrArg (World.drewN _) (Nat.add_assoc _ _ _))⟩)) | (go_at_call 33; (with_reducible refine (depotref08_in.calls kj17 ((wrap64 ((wrap64 (16 * t185)) + t187)) % 256) (⟨#[45, 46, 95, 126]⟩ : ByteArray) false _ A27.out).mono ?_); rintro e w' ⟨rfl, ⟨nd, rfl⟩⟩; (try first | exact ⟨rfl, _, World.drewN_drewN _ _ _⟩ | exact ⟨rfl, _, Eq.trans (World.drewN_drewN _ _ _) (congrArg (World.drewN _) (Nat.add_assoc _ _ _))⟩)))
                                                  repeat (go_quiet (first | (go_at_call 32; (with_reducible refine (depotref08_letter.calls ((wrap64 ((wrap64 (16 * t185)) + t187)) % 256) false _ A21.out).mono ?_); rintro e w' ⟨rfl, ⟨nd, rfl⟩⟩; (try first | exact ⟨rfl, _, World.drewN_drewN _ _ _⟩ | exact ⟨rfl, _, Eq.trans (World.drewN_drewN _ _ _) (congrArg (World.drewN _) (Nat.add_assoc _ _ _))⟩)) | (go_at_call 33; (with_reducible refine (depotref08_in.calls kj17 ((wrap64 ((wrap64 (16 * t185)) + t187)) % 256) (⟨#[45, 46, 95, 126]⟩ : ByteArray) false _ A27.out).mono ?_); rintro e w' ⟨rfl, ⟨nd, rfl⟩⟩; (try first | exact ⟨rfl, _, World.drewN_drewN _ _ _⟩ | exact ⟨rfl, _, Eq.trans (World.drewN_drewN _ _ _) (congrArg (World.drewN _) (Nat.add_assoc _ _ _))⟩))); try go_wp2_with (first | (go_at_call 32; (with_reducible refine (depotref08_letter.calls ((wrap64 ((wrap64 (16 * t185)) + t187)) % 256) false _ A21.out).mono ?_); rintro e w' ⟨rfl, ⟨nd, rfl⟩⟩; (try first | exact ⟨rfl, _, World.drewN_drewN _ _ _⟩ | exact ⟨rfl, _, Eq.trans (World.drewN_drewN _ _ _) (congrArg (World.drewN _) (Nat.add_assoc _ _ _))⟩)) | (go_at_call 33; (with_reducible refine (depotref08_in.calls kj17 ((wrap64 ((wrap64 (16 * t185)) + t187)) % 256) (⟨#[45, 46, 95, 126]⟩ : ByteArray) false _ A27.out).mono ?_); rintro e w' ⟨rfl, ⟨nd, rfl⟩⟩; (try first | exact ⟨rfl, _, World.drewN_drewN _ _ _⟩ | exact ⟨rfl, _, Eq.trans (World.drewN_drewN _ _ _) (congrArg (World.drewN _) (Nat.add_assoc _ _ _))⟩))))
                                                  go_roundg kj17
                                                  case measure => have := HK1.out; have := HJ17.out; omega
                                                  case rel => exact ⟨(((x6_1 ++ (⟨#[37]⟩ : ByteArray)) ++ ((⟨#[48, 49, 50, 51, 52, 53, 54, 55, 56, 57, 65, 66, 67, 68, 69, 70]⟩ : ByteArray).extract (t185 : Int).toNat ((wrap64 (t185 + 1)) : Int).toNat)) ++ ((⟨#[48, 49, 50, 51, 52, 53, 54, 55, 56, 57, 65, 66, 67, 68, 69, 70]⟩ : ByteArray).extract (t187 : Int).toNat ((wrap64 (t187 + 1)) : Int).toNat)), (wrap64 ((wrap64 (x7_1 + 2)) + 1)), (by first | rfl | (simp; done) | (simp [*]; done) | (simp; exact Hand.isEmpty_ne _)), (by first | rfl | (simp; done) | (simp [*]; done) | (simp; exact Hand.isEmpty_ne _)), H', ⟨by have := HK1.out; have := HJ17.out; omega⟩, ⟨by repeat (first | (with_reducible first | exact HB.out | apply below_alloc | apply pw_below_drewN | apply below_drew1) | exact HB.out)⟩⟩
                                                · rw [if_neg c41] at H
                                                  exact absurd H (by simp)
                                              · rw [if_neg c40] at H
                                                exact absurd H (by simp)
                                            · rw [if_neg c39] at H
                                              exact absurd H (by simp)
                                          · rw [if_neg c38] at H
                                            exact absurd H (by simp)
                                        · rw [if_neg c37] at H
                                          exact absurd H (by simp)
                                      · rw [if_neg c36] at H
                                        exact absurd H (by simp)
                                    · rw [if_neg c35] at H
                                      exact absurd H (by simp)
                                  · rw [if_neg c34] at H
                                    exact absurd H (by simp)
                                · rw [if_neg c33] at H
                                  exact absurd H (by simp)
                    · rw [if_neg c15] at H
                      exact absurd H (by simp)
                  · rw [if_neg c14] at H
                    exact absurd H (by simp)
                · rw [if_neg c10] at H
                  exact absurd H (by simp)
              · rw [if_neg c9] at H
                exact absurd H (by simp)
          · rw [if_neg c6] at H
            have c6b0 : ((bt a0 x7_1) == 37) = false := beq_eq_false_iff_ne.mpr c6
            have c6b1 : ((bt a0 x7_1) != 37) = true := bne_iff_ne.mpr c6
            replace H := Option.bind_eq_some_iff.mp H
            obtain ⟨t183, A430, H⟩ := H
            replace H : (if t183 = true then (if x7_1 ≤ (wrap64 (x7_1 + 1)) then (if (wrap64 (x7_1 + 1)) ≤ (a0.size : Int) then (if x6_1.size + (a0.extract (x7_1 : Int).toNat ((wrap64 (x7_1 + 1)) : Int).toNat).size ≤ 9223372036854775807 then (depotref08_plain.l0 k1 a0 a1 (x6_1 ++ (a0.extract (x7_1 : Int).toNat ((wrap64 (x7_1 + 1)) : Int).toNat)) (wrap64 (x7_1 + 1))) else (none)) else (none)) else (none)) else ((depotref08_in.f k1 (bt a0 x7_1) a1).bind fun t184 => (if t184 = true then (if x7_1 ≤ (wrap64 (x7_1 + 1)) then (if (wrap64 (x7_1 + 1)) ≤ (a0.size : Int) then (if x6_1.size + (a0.extract (x7_1 : Int).toNat ((wrap64 (x7_1 + 1)) : Int).toNat).size ≤ 9223372036854775807 then (depotref08_plain.l0 k1 a0 a1 (x6_1 ++ (a0.extract (x7_1 : Int).toNat ((wrap64 (x7_1 + 1)) : Int).toNat)) (wrap64 (x7_1 + 1))) else (none)) else (none)) else (none)) else (some ((⟨#[]⟩ : ByteArray), false))))) = some (r1, r2) := H
            have A43 := Aside0.mk A430
            clear A430
            by_cases c44 : t183 = true
            · subst c44
              have H1 : (if x7_1 ≤ (wrap64 (x7_1 + 1)) then (if (wrap64 (x7_1 + 1)) ≤ (a0.size : Int) then (if x6_1.size + (a0.extract (x7_1 : Int).toNat ((wrap64 (x7_1 + 1)) : Int).toNat).size ≤ 9223372036854775807 then (depotref08_plain.l0 k1 a0 a1 (x6_1 ++ (a0.extract (x7_1 : Int).toNat ((wrap64 (x7_1 + 1)) : Int).toNat)) (wrap64 (x7_1 + 1))) else (none)) else (none)) else (none)) = some (r1, r2) := by rw [if_pos rfl] at H; exact H
              clear H
              have H := H1
              clear H1
              have c45b0 := eq_true (of_decide_eq_true (by first | (with_reducible assumption) | assumption) : 0 ≤ x7_1)
              by_cases c46 : x7_1 ≤ (wrap64 (x7_1 + 1))
              · rw [if_pos c46] at H
                have c46b0 := eq_true c46
                have c46b1 : decide (x7_1 ≤ (wrap64 (x7_1 + 1))) = true := decide_eq_true c46
                by_cases c47 : (wrap64 (x7_1 + 1)) ≤ (a0.size : Int)
                · rw [if_pos c47] at H
                  have c47b0 := eq_true c47
                  have c47b1 : decide ((wrap64 (x7_1 + 1)) ≤ (a0.size : Int)) = true := decide_eq_true c47
                  by_cases c48 : x6_1.size + (a0.extract (x7_1 : Int).toNat ((wrap64 (x7_1 + 1)) : Int).toNat).size ≤ 9223372036854775807
                  · rw [if_pos c48] at H
                    have c48b0 := eq_true c48
                    have c48b1 : decide (x6_1.size + (a0.extract (x7_1 : Int).toNat ((wrap64 (x7_1 + 1)) : Int).toNat).size ≤ 9223372036854775807) = true := decide_eq_true c48
                    (try (have c48b20 := c48b0; simp only [ByteArray.size_extract] at c48b20))
                    (try (have c48b21 := c48b1; simp only [ByteArray.size_extract] at c48b21))
                    (try (have c48b40 := c48b0; simp only [ByteArray.size_extract, Nat.min_self] at c48b40))
                    (try (have c48b41 := c48b1; simp only [ByteArray.size_extract, Nat.min_self] at c48b41))
                    try have c48b2 : (9223372036854775807 < x6_1.size + (a0.extract (x7_1 : Int).toNat ((wrap64 (x7_1 + 1)) : Int).toNat).size) = False := eq_false (Nat.not_lt.2 c48)
                    (try (have c48b42 := c48b2; simp only [ByteArray.size_extract, Nat.min_self] at c48b42))
                    have H' := Aside0.mk H
                    clear H
                    have p5 : 0 ≤ (x7_1 : Int) := of_decide_eq_true (by first | (with_reducible assumption) | assumption)
                    have q5 : x7_1 < (a0.size : Int) := of_decide_eq_true (by first | (with_reducible assumption) | assumption)
                    have hx5 := bt_at a0 x7_1
                    replace p5 := eq_true p5
                    replace q5 := eq_true q5
                    have p42 : 0 ≤ (x7_1 : Int) := of_decide_eq_true (by first | (with_reducible assumption) | assumption)
                    have q42 : x7_1 < (a0.size : Int) := of_decide_eq_true (by first | (with_reducible assumption) | assumption)
                    have hx42 := bt_at a0 x7_1
                    replace p42 := eq_true p42
                    replace q42 := eq_true q42
                    go_wp2_with (first | (go_at_call 32; (with_reducible refine (depotref08_letter.calls (bt a0 x7_1) true _ A43.out).mono ?_); rintro e w' ⟨rfl, ⟨nd, rfl⟩⟩; (try first | exact ⟨rfl, _, World.drewN_drewN _ _ _⟩ | exact ⟨rfl, _, Eq.trans (World.drewN_drewN _ _ _) (congrArg (World.drewN _) (Nat.add_assoc _ _ _))⟩)))
                    repeat (go_quiet (first | (go_at_call 32; (with_reducible refine (depotref08_letter.calls (bt a0 x7_1) true _ A43.out).mono ?_); rintro e w' ⟨rfl, ⟨nd, rfl⟩⟩; (try first | exact ⟨rfl, _, World.drewN_drewN _ _ _⟩ | exact ⟨rfl, _, Eq.trans (World.drewN_drewN _ _ _) (congrArg (World.drewN _) (Nat.add_assoc _ _ _))⟩))); try go_wp2_with (first | (go_at_call 32; (with_reducible refine (depotref08_letter.calls (bt a0 x7_1) true _ A43.out).mono ?_); rintro e w' ⟨rfl, ⟨nd, rfl⟩⟩; (try first | exact ⟨rfl, _, World.drewN_drewN _ _ _⟩ | exact ⟨rfl, _, Eq.trans (World.drewN_drewN _ _ _) (congrArg (World.drewN _) (Nat.add_assoc _ _ _))⟩))))
                    go_roundg k1
                    case measure => have := HK1.out; omega
                    case rel => exact ⟨(x6_1 ++ (a0.extract (x7_1 : Int).toNat ((wrap64 (x7_1 + 1)) : Int).toNat)), (wrap64 (x7_1 + 1)), (by first | rfl | (simp; done) | (simp [*]; done) | (simp; exact Hand.isEmpty_ne _)), (by first | rfl | (simp; done) | (simp [*]; done) | (simp; exact Hand.isEmpty_ne _)), H', ⟨by have := HK1.out; omega⟩, ⟨by repeat (first | (with_reducible first | exact HB.out | apply below_alloc | apply pw_below_drewN | apply below_drew1) | exact HB.out)⟩⟩
                  · rw [if_neg c48] at H
                    exact absurd H (by simp)
                · rw [if_neg c47] at H
                  exact absurd H (by simp)
              · rw [if_neg c46] at H
                exact absurd H (by simp)
            · replace c44 := Bool.eq_false_iff.mpr c44
              subst c44
              have H1 : ((depotref08_in.f k1 (bt a0 x7_1) a1).bind fun t184 => (if t184 = true then (if x7_1 ≤ (wrap64 (x7_1 + 1)) then (if (wrap64 (x7_1 + 1)) ≤ (a0.size : Int) then (if x6_1.size + (a0.extract (x7_1 : Int).toNat ((wrap64 (x7_1 + 1)) : Int).toNat).size ≤ 9223372036854775807 then (depotref08_plain.l0 k1 a0 a1 (x6_1 ++ (a0.extract (x7_1 : Int).toNat ((wrap64 (x7_1 + 1)) : Int).toNat)) (wrap64 (x7_1 + 1))) else (none)) else (none)) else (none)) else (some ((⟨#[]⟩ : ByteArray), false)))) = some (r1, r2) := by rw [if_neg (show ¬ (false = true) by decide)] at H; exact H
              clear H
              have H := H1
              clear H1
              replace H := Option.bind_eq_some_iff.mp H
              obtain ⟨t184, A500, H⟩ := H
              replace H : (if t184 = true then (if x7_1 ≤ (wrap64 (x7_1 + 1)) then (if (wrap64 (x7_1 + 1)) ≤ (a0.size : Int) then (if x6_1.size + (a0.extract (x7_1 : Int).toNat ((wrap64 (x7_1 + 1)) : Int).toNat).size ≤ 9223372036854775807 then (depotref08_plain.l0 k1 a0 a1 (x6_1 ++ (a0.extract (x7_1 : Int).toNat ((wrap64 (x7_1 + 1)) : Int).toNat)) (wrap64 (x7_1 + 1))) else (none)) else (none)) else (none)) else (some ((⟨#[]⟩ : ByteArray), false))) = some (r1, r2) := H
              have A50 := Aside0.mk A500
              clear A500
              by_cases c51 : t184 = true
              · subst c51
                have H1 : (if x7_1 ≤ (wrap64 (x7_1 + 1)) then (if (wrap64 (x7_1 + 1)) ≤ (a0.size : Int) then (if x6_1.size + (a0.extract (x7_1 : Int).toNat ((wrap64 (x7_1 + 1)) : Int).toNat).size ≤ 9223372036854775807 then (depotref08_plain.l0 k1 a0 a1 (x6_1 ++ (a0.extract (x7_1 : Int).toNat ((wrap64 (x7_1 + 1)) : Int).toNat)) (wrap64 (x7_1 + 1))) else (none)) else (none)) else (none)) = some (r1, r2) := by rw [if_pos rfl] at H; exact H
                clear H
                have H := H1
                clear H1
                have c52b0 := eq_true (of_decide_eq_true (by first | (with_reducible assumption) | assumption) : 0 ≤ x7_1)
                by_cases c53 : x7_1 ≤ (wrap64 (x7_1 + 1))
                · rw [if_pos c53] at H
                  have c53b0 := eq_true c53
                  have c53b1 : decide (x7_1 ≤ (wrap64 (x7_1 + 1))) = true := decide_eq_true c53
                  by_cases c54 : (wrap64 (x7_1 + 1)) ≤ (a0.size : Int)
                  · rw [if_pos c54] at H
                    have c54b0 := eq_true c54
                    have c54b1 : decide ((wrap64 (x7_1 + 1)) ≤ (a0.size : Int)) = true := decide_eq_true c54
                    by_cases c55 : x6_1.size + (a0.extract (x7_1 : Int).toNat ((wrap64 (x7_1 + 1)) : Int).toNat).size ≤ 9223372036854775807
                    · rw [if_pos c55] at H
                      have c55b0 := eq_true c55
                      have c55b1 : decide (x6_1.size + (a0.extract (x7_1 : Int).toNat ((wrap64 (x7_1 + 1)) : Int).toNat).size ≤ 9223372036854775807) = true := decide_eq_true c55
                      (try (have c55b20 := c55b0; simp only [ByteArray.size_extract] at c55b20))
                      (try (have c55b21 := c55b1; simp only [ByteArray.size_extract] at c55b21))
                      (try (have c55b40 := c55b0; simp only [ByteArray.size_extract, Nat.min_self] at c55b40))
                      (try (have c55b41 := c55b1; simp only [ByteArray.size_extract, Nat.min_self] at c55b41))
                      try have c55b2 : (9223372036854775807 < x6_1.size + (a0.extract (x7_1 : Int).toNat ((wrap64 (x7_1 + 1)) : Int).toNat).size) = False := eq_false (Nat.not_lt.2 c55)
                      (try (have c55b42 := c55b2; simp only [ByteArray.size_extract, Nat.min_self] at c55b42))
                      have H' := Aside0.mk H
                      clear H
                      have p5 : 0 ≤ (x7_1 : Int) := of_decide_eq_true (by first | (with_reducible assumption) | assumption)
                      have q5 : x7_1 < (a0.size : Int) := of_decide_eq_true (by first | (with_reducible assumption) | assumption)
                      have hx5 := bt_at a0 x7_1
                      replace p5 := eq_true p5
                      replace q5 := eq_true q5
                      have p42 : 0 ≤ (x7_1 : Int) := of_decide_eq_true (by first | (with_reducible assumption) | assumption)
                      have q42 : x7_1 < (a0.size : Int) := of_decide_eq_true (by first | (with_reducible assumption) | assumption)
                      have hx42 := bt_at a0 x7_1
                      replace p42 := eq_true p42
                      replace q42 := eq_true q42
                      go_wp2_with (first | (go_at_call 32; (with_reducible refine (depotref08_letter.calls (bt a0 x7_1) false _ A43.out).mono ?_); rintro e w' ⟨rfl, ⟨nd, rfl⟩⟩; (try first | exact ⟨rfl, _, World.drewN_drewN _ _ _⟩ | exact ⟨rfl, _, Eq.trans (World.drewN_drewN _ _ _) (congrArg (World.drewN _) (Nat.add_assoc _ _ _))⟩); have p49 : 0 ≤ (x7_1 : Int) := of_decide_eq_true (by first | (with_reducible assumption) | assumption); have q49 : x7_1 < (a0.size : Int) := of_decide_eq_true (by first | (with_reducible assumption) | assumption); have hx49 := bt_at a0 x7_1; replace p49 := eq_true p49; replace q49 := eq_true q49) | (go_at_call 33; (with_reducible refine (depotref08_in.calls k1 (bt a0 x7_1) a1 true _ A50.out).mono ?_); rintro e w' ⟨rfl, ⟨nd, rfl⟩⟩; (try first | exact ⟨rfl, _, World.drewN_drewN _ _ _⟩ | exact ⟨rfl, _, Eq.trans (World.drewN_drewN _ _ _) (congrArg (World.drewN _) (Nat.add_assoc _ _ _))⟩)))
                      repeat (go_quiet (first | (go_at_call 32; (with_reducible refine (depotref08_letter.calls (bt a0 x7_1) false _ A43.out).mono ?_); rintro e w' ⟨rfl, ⟨nd, rfl⟩⟩; (try first | exact ⟨rfl, _, World.drewN_drewN _ _ _⟩ | exact ⟨rfl, _, Eq.trans (World.drewN_drewN _ _ _) (congrArg (World.drewN _) (Nat.add_assoc _ _ _))⟩); have p49 : 0 ≤ (x7_1 : Int) := of_decide_eq_true (by first | (with_reducible assumption) | assumption); have q49 : x7_1 < (a0.size : Int) := of_decide_eq_true (by first | (with_reducible assumption) | assumption); have hx49 := bt_at a0 x7_1; replace p49 := eq_true p49; replace q49 := eq_true q49) | (go_at_call 33; (with_reducible refine (depotref08_in.calls k1 (bt a0 x7_1) a1 true _ A50.out).mono ?_); rintro e w' ⟨rfl, ⟨nd, rfl⟩⟩; (try first | exact ⟨rfl, _, World.drewN_drewN _ _ _⟩ | exact ⟨rfl, _, Eq.trans (World.drewN_drewN _ _ _) (congrArg (World.drewN _) (Nat.add_assoc _ _ _))⟩))); try go_wp2_with (first | (go_at_call 32; (with_reducible refine (depotref08_letter.calls (bt a0 x7_1) false _ A43.out).mono ?_); rintro e w' ⟨rfl, ⟨nd, rfl⟩⟩; (try first | exact ⟨rfl, _, World.drewN_drewN _ _ _⟩ | exact ⟨rfl, _, Eq.trans (World.drewN_drewN _ _ _) (congrArg (World.drewN _) (Nat.add_assoc _ _ _))⟩); have p49 : 0 ≤ (x7_1 : Int) := of_decide_eq_true (by first | (with_reducible assumption) | assumption); have q49 : x7_1 < (a0.size : Int) := of_decide_eq_true (by first | (with_reducible assumption) | assumption); have hx49 := bt_at a0 x7_1; replace p49 := eq_true p49; replace q49 := eq_true q49) | (go_at_call 33; (with_reducible refine (depotref08_in.calls k1 (bt a0 x7_1) a1 true _ A50.out).mono ?_); rintro e w' ⟨rfl, ⟨nd, rfl⟩⟩; (try first | exact ⟨rfl, _, World.drewN_drewN _ _ _⟩ | exact ⟨rfl, _, Eq.trans (World.drewN_drewN _ _ _) (congrArg (World.drewN _) (Nat.add_assoc _ _ _))⟩))))
                      go_roundg k1
                      case measure => have := HK1.out; omega
                      case rel => exact ⟨(x6_1 ++ (a0.extract (x7_1 : Int).toNat ((wrap64 (x7_1 + 1)) : Int).toNat)), (wrap64 (x7_1 + 1)), (by first | rfl | (simp; done) | (simp [*]; done) | (simp; exact Hand.isEmpty_ne _)), (by first | rfl | (simp; done) | (simp [*]; done) | (simp; exact Hand.isEmpty_ne _)), H', ⟨by have := HK1.out; omega⟩, ⟨by repeat (first | (with_reducible first | exact HB.out | apply below_alloc | apply pw_below_drewN | apply below_drew1) | exact HB.out)⟩⟩
                    · rw [if_neg c55] at H
                      exact absurd H (by simp)
                  · rw [if_neg c54] at H
                    exact absurd H (by simp)
                · rw [if_neg c53] at H
                  exact absurd H (by simp)
              · replace c51 := Bool.eq_false_iff.mpr c51
                subst c51
                have H1 : (some ((⟨#[]⟩ : ByteArray), false)) = some (r1, r2) := by rw [if_neg (show ¬ (false = true) by decide)] at H; exact H
                clear H
                have H := H1
                clear H1
                simp only [Option.some.injEq, Prod.mk.injEq] at H
                obtain ⟨rfl, rfl⟩ := H
                have p5 : 0 ≤ (x7_1 : Int) := of_decide_eq_true (by first | (with_reducible assumption) | assumption)
                have q5 : x7_1 < (a0.size : Int) := of_decide_eq_true (by first | (with_reducible assumption) | assumption)
                have hx5 := bt_at a0 x7_1
                replace p5 := eq_true p5
                replace q5 := eq_true q5
                have p42 : 0 ≤ (x7_1 : Int) := of_decide_eq_true (by first | (with_reducible assumption) | assumption)
                have q42 : x7_1 < (a0.size : Int) := of_decide_eq_true (by first | (with_reducible assumption) | assumption)
                have hx42 := bt_at a0 x7_1
                replace p42 := eq_true p42
                replace q42 := eq_true q42
                go_wp2_with (first | (go_at_call 32; (with_reducible refine (depotref08_letter.calls (bt a0 x7_1) false _ A43.out).mono ?_); rintro e w' ⟨rfl, ⟨nd, rfl⟩⟩; (try first | exact ⟨rfl, _, World.drewN_drewN _ _ _⟩ | exact ⟨rfl, _, Eq.trans (World.drewN_drewN _ _ _) (congrArg (World.drewN _) (Nat.add_assoc _ _ _))⟩); have p49 : 0 ≤ (x7_1 : Int) := of_decide_eq_true (by first | (with_reducible assumption) | assumption); have q49 : x7_1 < (a0.size : Int) := of_decide_eq_true (by first | (with_reducible assumption) | assumption); have hx49 := bt_at a0 x7_1; replace p49 := eq_true p49; replace q49 := eq_true q49) | (go_at_call 33; (with_reducible refine (depotref08_in.calls k1 (bt a0 x7_1) a1 false _ A50.out).mono ?_); rintro e w' ⟨rfl, ⟨nd, rfl⟩⟩; (try first | exact ⟨rfl, _, World.drewN_drewN _ _ _⟩ | exact ⟨rfl, _, Eq.trans (World.drewN_drewN _ _ _) (congrArg (World.drewN _) (Nat.add_assoc _ _ _))⟩)))
                repeat (go_quiet (first | (go_at_call 32; (with_reducible refine (depotref08_letter.calls (bt a0 x7_1) false _ A43.out).mono ?_); rintro e w' ⟨rfl, ⟨nd, rfl⟩⟩; (try first | exact ⟨rfl, _, World.drewN_drewN _ _ _⟩ | exact ⟨rfl, _, Eq.trans (World.drewN_drewN _ _ _) (congrArg (World.drewN _) (Nat.add_assoc _ _ _))⟩); have p49 : 0 ≤ (x7_1 : Int) := of_decide_eq_true (by first | (with_reducible assumption) | assumption); have q49 : x7_1 < (a0.size : Int) := of_decide_eq_true (by first | (with_reducible assumption) | assumption); have hx49 := bt_at a0 x7_1; replace p49 := eq_true p49; replace q49 := eq_true q49) | (go_at_call 33; (with_reducible refine (depotref08_in.calls k1 (bt a0 x7_1) a1 false _ A50.out).mono ?_); rintro e w' ⟨rfl, ⟨nd, rfl⟩⟩; (try first | exact ⟨rfl, _, World.drewN_drewN _ _ _⟩ | exact ⟨rfl, _, Eq.trans (World.drewN_drewN _ _ _) (congrArg (World.drewN _) (Nat.add_assoc _ _ _))⟩))); try go_wp2_with (first | (go_at_call 32; (with_reducible refine (depotref08_letter.calls (bt a0 x7_1) false _ A43.out).mono ?_); rintro e w' ⟨rfl, ⟨nd, rfl⟩⟩; (try first | exact ⟨rfl, _, World.drewN_drewN _ _ _⟩ | exact ⟨rfl, _, Eq.trans (World.drewN_drewN _ _ _) (congrArg (World.drewN _) (Nat.add_assoc _ _ _))⟩); have p49 : 0 ≤ (x7_1 : Int) := of_decide_eq_true (by first | (with_reducible assumption) | assumption); have q49 : x7_1 < (a0.size : Int) := of_decide_eq_true (by first | (with_reducible assumption) | assumption); have hx49 := bt_at a0 x7_1; replace p49 := eq_true p49; replace q49 := eq_true q49) | (go_at_call 33; (with_reducible refine (depotref08_in.calls k1 (bt a0 x7_1) a1 false _ A50.out).mono ?_); rintro e w' ⟨rfl, ⟨nd, rfl⟩⟩; (try first | exact ⟨rfl, _, World.drewN_drewN _ _ _⟩ | exact ⟨rfl, _, Eq.trans (World.drewN_drewN _ _ _) (congrArg (World.drewN _) (Nat.add_assoc _ _ _))⟩))))
                go_ret2
                exact ⟨by first | rfl | (simp [errW_none, errW_some] <;> rfl) | (simp [*, errW_none, errW_some] <;> rfl), by repeat (first | (with_reducible first | exact HB.out | apply below_alloc | apply pw_below_drewN | apply below_drew1) | exact HB.out)⟩
        · rw [if_neg c4] at H
          exact absurd H (by simp)
      · rw [if_neg c3] at H
        have c3b0 : decide (x7_1 < (a0.size : Int)) = false := decide_eq_false c3
        clear c3
        simp only [Option.some.injEq, Prod.mk.injEq] at H
        obtain ⟨rfl, rfl⟩ := H
        go_wp2
        repeat (go_quiet (fail); try go_wp2)
        go_ret2
        exact ⟨by first | rfl | (simp [errW_none, errW_some] <;> rfl) | (simp [*, errW_none, errW_some] <;> rfl), by repeat (first | (with_reducible first | exact HB.out | apply below_alloc | apply pw_below_drewN | apply below_drew1) | exact HB.out)⟩

end Go.Proofs.YtghaocjhmambaaaDoor.PR
