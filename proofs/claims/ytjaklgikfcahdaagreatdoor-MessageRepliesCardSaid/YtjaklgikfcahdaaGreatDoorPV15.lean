-- Out of the translation, by a program of this session: each function that a law comes to as a Lean function, and that the machine's call does what it says. Lean checks it.
import Derived.Test.YtjaklgikfcahdaaGreatDoorPV0
import Derived.Test.YtjaklgikfcahdaaGreatDoorPV12
import Derived.Test.YtjaklgikfcahdaaGreatDoorPV13
import Derived.Test.YtjaklgikfcahdaaGreatDoorPV14
namespace Go.Proofs.YtjaklgikfcahdaaGreatDoor.PV
open Go.RowKit Go.Proofs.YtjaklgikfcahdaaGreatDoorW.PrintWords Go.Proofs.YtjaklgikfcahdaaGreatDoorW.PrintLast Go.Proofs.YtjaklgikfcahdaaGreatDoorW.PrintMore
attribute [local go_sem] max2_int min2_int max_two min_two max_three min_three max_four min_four   -- for this text's walks alone
set_option linter.unusedVariables false
set_option linter.unusedSimpArgs false

/-! ### depotref11_Decode: function 72 -/
mutual
def depotref11_Decode.l0 : Nat → ByteArray → ByteArray → Int → Option (ByteArray × Int × Int)
  | 0, _, _, _ => none
  | k + 1, x0, x5, x6 => (depotref11_end.f k x0 x6).bind fun t243 => (if t243 < 0 then (some ((⟨#[]⟩ : ByteArray), 0, 25)) else (if 0 ≤ x6 then (if x6 ≤ t243 then (if t243 ≤ (x0.size : Int) then ((depotref11_size.f k (x0.extract (x6 : Int).toNat (t243 : Int).toNat)).bind fun bt244 => (if bt244.2 = 0 then (if bt244.1 = 0 then (depotref11_Decode.l1 k x0 x5 (wrap64 (t243 + 2)) 0) else (if (wrap64 ((x5.size : Int) + bt244.1)) > 65536 then (some ((⟨#[]⟩ : ByteArray), 0, 4)) else (if (wrap64 ((wrap64 ((wrap64 (t243 + 2)) + bt244.1)) + 2)) > (x0.size : Int) then (some ((⟨#[]⟩ : ByteArray), 0, 25)) else (if 0 ≤ (wrap64 ((wrap64 (t243 + 2)) + bt244.1)) then (if (wrap64 ((wrap64 (t243 + 2)) + bt244.1)) < (x0.size : Int) then (if (bt x0 (wrap64 ((wrap64 (t243 + 2)) + bt244.1))) = 13 then (if 0 ≤ (wrap64 ((wrap64 ((wrap64 (t243 + 2)) + bt244.1)) + 1)) then (if (wrap64 ((wrap64 ((wrap64 (t243 + 2)) + bt244.1)) + 1)) < (x0.size : Int) then (if (bt x0 (wrap64 ((wrap64 ((wrap64 (t243 + 2)) + bt244.1)) + 1))) = 10 then (if 0 ≤ (wrap64 (t243 + 2)) then (if (wrap64 (t243 + 2)) ≤ (wrap64 ((wrap64 (t243 + 2)) + bt244.1)) then (if (wrap64 ((wrap64 (t243 + 2)) + bt244.1)) ≤ (x0.size : Int) then (if x5.size + (x0.extract ((wrap64 (t243 + 2)) : Int).toNat ((wrap64 ((wrap64 (t243 + 2)) + bt244.1)) : Int).toNat).size ≤ 9223372036854775807 then (depotref11_Decode.l0 k x0 (x5 ++ (x0.extract ((wrap64 (t243 + 2)) : Int).toNat ((wrap64 ((wrap64 (t243 + 2)) + bt244.1)) : Int).toNat)) (wrap64 ((wrap64 ((wrap64 (t243 + 2)) + bt244.1)) + 2))) else (none)) else (none)) else (none)) else (none)) else (some ((⟨#[]⟩ : ByteArray), 0, 25))) else (none)) else (none)) else (some ((⟨#[]⟩ : ByteArray), 0, 25))) else (none)) else (none))))) else (some ((⟨#[]⟩ : ByteArray), 0, bt244.2)))) else (none)) else (none)) else (none)))
def depotref11_Decode.l1 : Nat → ByteArray → ByteArray → Int → Int → Option (ByteArray × Int × Int)
  | 0, _, _, _, _ => none
  | k + 1, x0, x5, x6, x10 => (depotref11_end.f k x0 x6).bind fun t246 => (if t246 < 0 then (some ((⟨#[]⟩ : ByteArray), 0, 25)) else (if t246 = x6 then (some (x5, wrap64 (x6 + 2), 0)) else (if 0 ≤ x6 then (if x6 ≤ t246 then (if t246 ≤ (x0.size : Int) then ((depotref09_Parse.f k (x0.extract (x6 : Int).toNat (t246 : Int).toNat)).bind fun bt247 => (if bt247.2.2 = 0 then (if x10 ≥ 64 then (some ((⟨#[]⟩ : ByteArray), 0, 4)) else (depotref11_Decode.l1 k x0 x5 (wrap64 (t246 + 2)) (wrap64 (x10 + 1)))) else (some ((⟨#[]⟩ : ByteArray), 0, 25)))) else (none)) else (none)) else (none))))
end
def depotref11_Decode.f (k : Nat) (a0 : ByteArray) : Option (ByteArray × Int × Int) := depotref11_Decode.l0 k a0 (⟨#[]⟩ : ByteArray) 0
theorem depotref11_Decode.mono_l : ∀ k, (∀ y0 y1 y2, LeO (depotref11_Decode.l0 k y0 y1 y2) (depotref11_Decode.l0 (k + 1) y0 y1 y2)) ∧ (∀ y0 y1 y2 y3, LeO (depotref11_Decode.l1 k y0 y1 y2 y3) (depotref11_Decode.l1 (k + 1) y0 y1 y2 y3))
  | 0 => ⟨fun _ _ _ r h => by simp [depotref11_Decode.l0] at h, fun _ _ _ _ r h => by simp [depotref11_Decode.l1] at h⟩
  | k + 1 => by
    obtain ⟨ih0, ih1⟩ := depotref11_Decode.mono_l k
    refine ⟨?_, ?_⟩
    · intro y0 y1 y2
      unfold depotref11_Decode.l0
      repeat' first
      | (with_reducible exact ih0 _ _ _)
      | (with_reducible exact ih1 _ _ _ _)
      | (with_reducible exact depotref09_Parse.mono _ _)
      | (with_reducible exact depotref11_end.mono _ _ _)
      | (with_reducible exact depotref11_size.mono _ _)
      | (with_reducible exact LeO.refl _)
      | (with_reducible exact LeO.none _)
      | (with_reducible refine LeO.ite ?_ ?_)
      | (with_reducible refine LeO.bind ?_ (fun _ => ?_))
      | exact ih0 _ _ _
      | exact ih1 _ _ _ _
      | exact depotref09_Parse.mono _ _
      | exact depotref11_end.mono _ _ _
      | exact depotref11_size.mono _ _
      | exact LeO.none _
      | refine LeO.ite ?_ ?_
      | refine LeO.bind ?_ (fun _ => ?_)
    · intro y0 y1 y2 y3
      unfold depotref11_Decode.l1
      repeat' first
      | (with_reducible exact ih0 _ _ _)
      | (with_reducible exact ih1 _ _ _ _)
      | (with_reducible exact depotref09_Parse.mono _ _)
      | (with_reducible exact depotref11_end.mono _ _ _)
      | (with_reducible exact depotref11_size.mono _ _)
      | (with_reducible exact LeO.refl _)
      | (with_reducible exact LeO.none _)
      | (with_reducible refine LeO.ite ?_ ?_)
      | (with_reducible refine LeO.bind ?_ (fun _ => ?_))
      | exact ih0 _ _ _
      | exact ih1 _ _ _ _
      | exact depotref09_Parse.mono _ _
      | exact depotref11_end.mono _ _ _
      | exact depotref11_size.mono _ _
      | exact LeO.none _
      | refine LeO.ite ?_ ?_
      | refine LeO.bind ?_ (fun _ => ?_)
theorem depotref11_Decode.mono : ∀ a0 k, LeO (depotref11_Decode.f k a0) (depotref11_Decode.f (k + 1) a0) := by
  intro a0 k
  obtain ⟨ih0, ih1⟩ := depotref11_Decode.mono_l k
  unfold depotref11_Decode.f
  repeat' first
      | (with_reducible exact ih0 _ _ _)
      | (with_reducible exact ih1 _ _ _ _)
      | (with_reducible exact depotref09_Parse.mono _ _)
      | (with_reducible exact depotref11_end.mono _ _ _)
      | (with_reducible exact depotref11_size.mono _ _)
      | (with_reducible exact LeO.refl _)
      | (with_reducible exact LeO.none _)
      | (with_reducible refine LeO.ite ?_ ?_)
      | (with_reducible refine LeO.bind ?_ (fun _ => ?_))
      | exact ih0 _ _ _
      | exact ih1 _ _ _ _
      | exact depotref09_Parse.mono _ _
      | exact depotref11_end.mono _ _ _
      | exact depotref11_size.mono _ _
      | exact LeO.none _
      | refine LeO.ite ?_ ?_
      | refine LeO.bind ?_ (fun _ => ?_)
set_option maxHeartbeats 8000000 in
set_option maxRecDepth 100000 in
theorem depotref11_Decode.calls (k : Nat) (a0 : ByteArray) (r1 : ByteArray) (r2 : Int) (r3 : Int) (w : World) (h : depotref11_Decode.f k a0 = some (r1, r2, r3)) :
    Calls Tryz.prog 72 #[.string a0] w fun e w' => e = .returned (.tuple #[.string r1, .int .i64 r2, .int .i64 r3]) ∧ Below w.heap.size w w' := by
  have hu98 := Tryz.underlying98
  have HB := Aside0.mk (Below.refl w.heap.size w)
  have H : (depotref11_Decode.l0 k a0 (⟨#[]⟩ : ByteArray) 0) = some (r1, r2, r3) := h
  clear h
  have H' := Aside0.mk H
  clear H
  go_enter Tryz.func72, Tryz.ntmps72
  go_wp2
  go_loopg [5, 6] k (fun kq v5 v6 w' => ∃ (x5_1 : ByteArray) (x6_1 : Int), v5 = .string x5_1 ∧ v6 = .int .i64 x6_1 ∧ Aside0 (depotref11_Decode.l0 kq a0 x5_1 x6_1 = some (r1, r2, r3)) ∧ Aside0 (kq ≤ k) ∧ Aside0 (Below w.heap.size w w'))
  case atStart => exact ⟨((⟨#[]⟩ : ByteArray)), (0), (by first | rfl | (simp; done) | (simp [*]; done) | (simp; exact Hand.isEmpty_ne _)), (by first | rfl | (simp; done) | (simp [*]; done) | (simp; exact Hand.isEmpty_ne _)), H', ⟨Nat.le_refl _⟩, ⟨by repeat (first | (with_reducible first | exact HB.out | apply below_alloc | apply pw_below_drewN | apply below_drew1) | exact HB.out)⟩⟩
  case round =>
    clear H'
    obtain ⟨x5_1, x6_1, rfl, rfl, HA, HK1, HB⟩ := hrel
    cases gk with
    | zero => exact absurd HA.out (by simp [depotref11_Decode.l0])
    | succ k1 =>
      have H := HA.out
      clear HA
      simp only [depotref11_Decode.l0] at H
      replace H := Option.bind_eq_some_iff.mp H
      obtain ⟨t243, A20, H⟩ := H
      replace H : (if t243 < 0 then (some ((⟨#[]⟩ : ByteArray), 0, 25)) else (if 0 ≤ x6_1 then (if x6_1 ≤ t243 then (if t243 ≤ (a0.size : Int) then ((depotref11_size.f k1 (a0.extract (x6_1 : Int).toNat (t243 : Int).toNat)).bind fun bt244 => (if bt244.2 = 0 then (if bt244.1 = 0 then (depotref11_Decode.l1 k1 a0 x5_1 (wrap64 (t243 + 2)) 0) else (if (wrap64 ((x5_1.size : Int) + bt244.1)) > 65536 then (some ((⟨#[]⟩ : ByteArray), 0, 4)) else (if (wrap64 ((wrap64 ((wrap64 (t243 + 2)) + bt244.1)) + 2)) > (a0.size : Int) then (some ((⟨#[]⟩ : ByteArray), 0, 25)) else (if 0 ≤ (wrap64 ((wrap64 (t243 + 2)) + bt244.1)) then (if (wrap64 ((wrap64 (t243 + 2)) + bt244.1)) < (a0.size : Int) then (if (bt a0 (wrap64 ((wrap64 (t243 + 2)) + bt244.1))) = 13 then (if 0 ≤ (wrap64 ((wrap64 ((wrap64 (t243 + 2)) + bt244.1)) + 1)) then (if (wrap64 ((wrap64 ((wrap64 (t243 + 2)) + bt244.1)) + 1)) < (a0.size : Int) then (if (bt a0 (wrap64 ((wrap64 ((wrap64 (t243 + 2)) + bt244.1)) + 1))) = 10 then (if 0 ≤ (wrap64 (t243 + 2)) then (if (wrap64 (t243 + 2)) ≤ (wrap64 ((wrap64 (t243 + 2)) + bt244.1)) then (if (wrap64 ((wrap64 (t243 + 2)) + bt244.1)) ≤ (a0.size : Int) then (if x5_1.size + (a0.extract ((wrap64 (t243 + 2)) : Int).toNat ((wrap64 ((wrap64 (t243 + 2)) + bt244.1)) : Int).toNat).size ≤ 9223372036854775807 then (depotref11_Decode.l0 k1 a0 (x5_1 ++ (a0.extract ((wrap64 (t243 + 2)) : Int).toNat ((wrap64 ((wrap64 (t243 + 2)) + bt244.1)) : Int).toNat)) (wrap64 ((wrap64 ((wrap64 (t243 + 2)) + bt244.1)) + 2))) else (none)) else (none)) else (none)) else (none)) else (some ((⟨#[]⟩ : ByteArray), 0, 25))) else (none)) else (none)) else (some ((⟨#[]⟩ : ByteArray), 0, 25))) else (none)) else (none))))) else (some ((⟨#[]⟩ : ByteArray), 0, bt244.2)))) else (none)) else (none)) else (none))) = some (r1, r2, r3) := H
      have A2 := Aside0.mk A20
      clear A20
      by_cases c3 : t243 < 0
      · rw [if_pos c3] at H
        have c3b0 : decide (t243 < 0) = true := decide_eq_true c3
        clear c3
        simp only [Option.some.injEq, Prod.mk.injEq] at H
        obtain ⟨rfl, rfl, rfl⟩ := H
        go_wp2_with (first | ((with_reducible refine gate_callee (f := 103) rfl ?_); refine goesL_ (some 16) rfl rfl Tryz.func103 (by kernel_rfl) rfl #[.string a0, .int .i64 x6_1] rfl (by (try simp only [List.map_toArray, List.map_cons, List.map_nil]); first | done | rfl | (simp only [List.length_drop, List.length_take]; rfl)) ?_; (with_reducible refine (depotref11_end.calls k1 a0 x6_1 t243 _ A2.out).mono ?_); rintro e w' ⟨rfl, ⟨nd, rfl⟩⟩; refine ⟨_, rfl, ?_⟩))
        go_ret3
        exact ⟨by first | rfl | (simp [errW_none, errW_some] <;> rfl) | (simp [*, errW_none, errW_some] <;> rfl), by repeat (first | (with_reducible first | exact HB.out | apply below_alloc | apply pw_below_drewN | apply below_drew1) | exact HB.out)⟩
      · rw [if_neg c3] at H
        have c3b0 : decide (t243 < 0) = false := decide_eq_false c3
        clear c3
        by_cases c4 : 0 ≤ x6_1
        · rw [if_pos c4] at H
          have c4b0 := eq_true c4
          have c4b1 : decide (0 ≤ x6_1) = true := decide_eq_true c4
          clear c4
          by_cases c5 : x6_1 ≤ t243
          · rw [if_pos c5] at H
            have c5b0 := eq_true c5
            have c5b1 : decide (x6_1 ≤ t243) = true := decide_eq_true c5
            clear c5
            by_cases c6 : t243 ≤ (a0.size : Int)
            · rw [if_pos c6] at H
              have c6b0 := eq_true c6
              have c6b1 : decide (t243 ≤ (a0.size : Int)) = true := decide_eq_true c6
              clear c6
              replace H := Option.bind_eq_some_iff.mp H
              obtain ⟨⟨t244, t245⟩, A70, H⟩ := H
              replace H : (if t245 = 0 then (if t244 = 0 then (depotref11_Decode.l1 k1 a0 x5_1 (wrap64 (t243 + 2)) 0) else (if (wrap64 ((x5_1.size : Int) + t244)) > 65536 then (some ((⟨#[]⟩ : ByteArray), 0, 4)) else (if (wrap64 ((wrap64 ((wrap64 (t243 + 2)) + t244)) + 2)) > (a0.size : Int) then (some ((⟨#[]⟩ : ByteArray), 0, 25)) else (if 0 ≤ (wrap64 ((wrap64 (t243 + 2)) + t244)) then (if (wrap64 ((wrap64 (t243 + 2)) + t244)) < (a0.size : Int) then (if (bt a0 (wrap64 ((wrap64 (t243 + 2)) + t244))) = 13 then (if 0 ≤ (wrap64 ((wrap64 ((wrap64 (t243 + 2)) + t244)) + 1)) then (if (wrap64 ((wrap64 ((wrap64 (t243 + 2)) + t244)) + 1)) < (a0.size : Int) then (if (bt a0 (wrap64 ((wrap64 ((wrap64 (t243 + 2)) + t244)) + 1))) = 10 then (if 0 ≤ (wrap64 (t243 + 2)) then (if (wrap64 (t243 + 2)) ≤ (wrap64 ((wrap64 (t243 + 2)) + t244)) then (if (wrap64 ((wrap64 (t243 + 2)) + t244)) ≤ (a0.size : Int) then (if x5_1.size + (a0.extract ((wrap64 (t243 + 2)) : Int).toNat ((wrap64 ((wrap64 (t243 + 2)) + t244)) : Int).toNat).size ≤ 9223372036854775807 then (depotref11_Decode.l0 k1 a0 (x5_1 ++ (a0.extract ((wrap64 (t243 + 2)) : Int).toNat ((wrap64 ((wrap64 (t243 + 2)) + t244)) : Int).toNat)) (wrap64 ((wrap64 ((wrap64 (t243 + 2)) + t244)) + 2))) else (none)) else (none)) else (none)) else (none)) else (some ((⟨#[]⟩ : ByteArray), 0, 25))) else (none)) else (none)) else (some ((⟨#[]⟩ : ByteArray), 0, 25))) else (none)) else (none))))) else (some ((⟨#[]⟩ : ByteArray), 0, t245))) = some (r1, r2, r3) := H
              have A7 := Aside0.mk A70
              clear A70
              by_cases c8 : t245 = 0
              · rw [if_pos c8] at H
                have c8b0 : (t245 == 0) = true := beq_iff_eq.mpr c8
                have c8b1 : (t245 != 0) = false := bne_eq_false_iff_eq.mpr c8
                clear c8
                by_cases c9 : t244 = 0
                · rw [if_pos c9] at H
                  have c9b0 : (t244 == 0) = true := beq_iff_eq.mpr c9
                  have c9b1 : (t244 != 0) = false := bne_eq_false_iff_eq.mpr c9
                  clear c9
                  have H' := Aside0.mk H
                  clear H
                  go_wp2_with (first | ((with_reducible refine gate_callee (f := 103) rfl ?_); refine goesL_ (some 16) rfl rfl Tryz.func103 (by kernel_rfl) rfl #[.string a0, .int .i64 x6_1] rfl (by (try simp only [List.map_toArray, List.map_cons, List.map_nil]); first | done | rfl | (simp only [List.length_drop, List.length_take]; rfl)) ?_; (with_reducible refine (depotref11_end.calls k1 a0 x6_1 t243 _ A2.out).mono ?_); rintro e w' ⟨rfl, ⟨nd, rfl⟩⟩; refine ⟨_, rfl, ?_⟩) | ((with_reducible refine gate_callee (f := 104) rfl ?_); refine goesL_ (some 24) rfl rfl Tryz.func104 (by kernel_rfl) rfl #[.string (a0.extract (x6_1 : Int).toNat (t243 : Int).toNat)] rfl (by (try simp only [List.map_toArray, List.map_cons, List.map_nil]); first | done | rfl | (simp only [List.length_drop, List.length_take]; rfl)) ?_; (with_reducible refine (depotref11_size.calls k1 (a0.extract (x6_1 : Int).toNat (t243 : Int).toNat) t244 t245 _ A7.out).mono ?_); rintro e w' ⟨rfl, ⟨nd, rfl⟩⟩; refine ⟨_, rfl, ?_⟩))
                  go_loopg [6, 10] k1 (fun kq v6 v10 w' => ∃ (x6_2 : Int) (x10_2 : Int), v6 = .int .i64 x6_2 ∧ v10 = .int .i64 x10_2 ∧ Aside0 (depotref11_Decode.l1 kq a0 x5_1 x6_2 x10_2 = some (r1, r2, r3)) ∧ Aside0 (kq ≤ k1) ∧ Aside0 (Below w.heap.size w w'))
                  case atStart => exact ⟨(wrap64 (t243 + 2)), (0), (by first | rfl | (simp; done) | (simp [*]; done) | (simp; exact Hand.isEmpty_ne _)), (by first | rfl | (simp; done) | (simp [*]; done) | (simp; exact Hand.isEmpty_ne _)), H', ⟨Nat.le_refl _⟩, ⟨by repeat (first | (with_reducible first | exact HB.out | apply below_alloc | apply pw_below_drewN | apply below_drew1) | exact HB.out)⟩⟩
                  case round =>
                    clear H'
                    try clear c1
                    try clear p2
                    try clear c3
                    try clear c3b0
                    try clear c4
                    try clear c4b0
                    try clear c4b1
                    try clear c5
                    try clear c5b0
                    try clear c5b1
                    try clear c6
                    try clear c6b0
                    try clear c6b1
                    try clear p6
                    try clear c7
                    try clear c8
                    try clear c8b0
                    try clear c8b1
                    try clear c9
                    try clear c9b0
                    try clear c9b1
                    obtain ⟨x6_2, x10_2, rfl, rfl, HA, HK2, HB⟩ := hrel
                    cases gk with
                    | zero => exact absurd HA.out (by simp [depotref11_Decode.l1])
                    | succ k2 =>
                      have H := HA.out
                      clear HA
                      simp only [depotref11_Decode.l1] at H
                      replace H := Option.bind_eq_some_iff.mp H
                      obtain ⟨t246, A100, H⟩ := H
                      replace H : (if t246 < 0 then (some ((⟨#[]⟩ : ByteArray), 0, 25)) else (if t246 = x6_2 then (some (x5_1, wrap64 (x6_2 + 2), 0)) else (if 0 ≤ x6_2 then (if x6_2 ≤ t246 then (if t246 ≤ (a0.size : Int) then ((depotref09_Parse.f k2 (a0.extract (x6_2 : Int).toNat (t246 : Int).toNat)).bind fun bt247 => (if bt247.2.2 = 0 then (if x10_2 ≥ 64 then (some ((⟨#[]⟩ : ByteArray), 0, 4)) else (depotref11_Decode.l1 k2 a0 x5_1 (wrap64 (t246 + 2)) (wrap64 (x10_2 + 1)))) else (some ((⟨#[]⟩ : ByteArray), 0, 25)))) else (none)) else (none)) else (none)))) = some (r1, r2, r3) := H
                      have A10 := Aside0.mk A100
                      clear A100
                      by_cases c11 : t246 < 0
                      · rw [if_pos c11] at H
                        have c11b0 : decide (t246 < 0) = true := decide_eq_true c11
                        clear c11
                        simp only [Option.some.injEq, Prod.mk.injEq] at H
                        obtain ⟨rfl, rfl, rfl⟩ := H
                        go_wp2_with (first | ((with_reducible refine gate_callee (f := 103) rfl ?_); refine goesL_ (some 79) rfl rfl Tryz.func103 (by kernel_rfl) rfl #[.string a0, .int .i64 x6_2] rfl (by (try simp only [List.map_toArray, List.map_cons, List.map_nil]); first | done | rfl | (simp only [List.length_drop, List.length_take]; rfl)) ?_; (with_reducible refine (depotref11_end.calls k2 a0 x6_2 t246 _ A10.out).mono ?_); rintro e w' ⟨rfl, ⟨nd, rfl⟩⟩; refine ⟨_, rfl, ?_⟩))
                        go_ret3
                        exact ⟨by first | rfl | (simp [errW_none, errW_some] <;> rfl) | (simp [*, errW_none, errW_some] <;> rfl), by repeat (first | (with_reducible first | exact HB.out | apply below_alloc | apply pw_below_drewN | apply below_drew1) | exact HB.out)⟩
                      · rw [if_neg c11] at H
                        have c11b0 : decide (t246 < 0) = false := decide_eq_false c11
                        clear c11
                        by_cases c12 : t246 = x6_2
                        · rw [if_pos c12] at H
                          have c12b0 : (t246 == x6_2) = true := beq_iff_eq.mpr c12
                          have c12b1 : (t246 != x6_2) = false := bne_eq_false_iff_eq.mpr c12
                          clear c12
                          simp only [Option.some.injEq, Prod.mk.injEq] at H
                          obtain ⟨rfl, rfl, rfl⟩ := H
                          go_wp2_with (first | ((with_reducible refine gate_callee (f := 103) rfl ?_); refine goesL_ (some 79) rfl rfl Tryz.func103 (by kernel_rfl) rfl #[.string a0, .int .i64 x6_2] rfl (by (try simp only [List.map_toArray, List.map_cons, List.map_nil]); first | done | rfl | (simp only [List.length_drop, List.length_take]; rfl)) ?_; (with_reducible refine (depotref11_end.calls k2 a0 x6_2 t246 _ A10.out).mono ?_); rintro e w' ⟨rfl, ⟨nd, rfl⟩⟩; refine ⟨_, rfl, ?_⟩))
                          go_ret3
                          exact ⟨by first | rfl | (simp [errW_none, errW_some] <;> rfl) | (simp [*, errW_none, errW_some] <;> rfl), by repeat (first | (with_reducible first | exact HB.out | apply below_alloc | apply pw_below_drewN | apply below_drew1) | exact HB.out)⟩
                        · rw [if_neg c12] at H
                          have c12b0 : (t246 == x6_2) = false := beq_eq_false_iff_ne.mpr c12
                          have c12b1 : (t246 != x6_2) = true := bne_iff_ne.mpr c12
                          by_cases c13 : 0 ≤ x6_2
                          · rw [if_pos c13] at H
                            have c13b0 := eq_true c13
                            have c13b1 : decide (0 ≤ x6_2) = true := decide_eq_true c13
                            clear c13
                            by_cases c14 : x6_2 ≤ t246
                            · rw [if_pos c14] at H
                              have c14b0 := eq_true c14
                              have c14b1 : decide (x6_2 ≤ t246) = true := decide_eq_true c14
                              clear c14
                              by_cases c15 : t246 ≤ (a0.size : Int)
                              · rw [if_pos c15] at H
                                have c15b0 := eq_true c15
                                have c15b1 : decide (t246 ≤ (a0.size : Int)) = true := decide_eq_true c15
                                clear c15
                                replace H := Option.bind_eq_some_iff.mp H
                                obtain ⟨⟨t247, t248, t249⟩, A160, H⟩ := H
                                replace H : (if t249 = 0 then (if x10_2 ≥ 64 then (some ((⟨#[]⟩ : ByteArray), 0, 4)) else (depotref11_Decode.l1 k2 a0 x5_1 (wrap64 (t246 + 2)) (wrap64 (x10_2 + 1)))) else (some ((⟨#[]⟩ : ByteArray), 0, 25))) = some (r1, r2, r3) := H
                                have A16 := Aside0.mk A160
                                clear A160
                                by_cases c17 : t249 = 0
                                · rw [if_pos c17] at H
                                  have c17b0 : (t249 == 0) = true := beq_iff_eq.mpr c17
                                  have c17b1 : (t249 != 0) = false := bne_eq_false_iff_eq.mpr c17
                                  clear c17
                                  by_cases c18 : x10_2 ≥ 64
                                  · rw [if_pos c18] at H
                                    have c18b0 : decide (64 ≤ x10_2) = true := decide_eq_true c18
                                    clear c18
                                    simp only [Option.some.injEq, Prod.mk.injEq] at H
                                    obtain ⟨rfl, rfl, rfl⟩ := H
                                    go_wp2_with (first | ((with_reducible refine gate_callee (f := 103) rfl ?_); refine goesL_ (some 79) rfl rfl Tryz.func103 (by kernel_rfl) rfl #[.string a0, .int .i64 x6_2] rfl (by (try simp only [List.map_toArray, List.map_cons, List.map_nil]); first | done | rfl | (simp only [List.length_drop, List.length_take]; rfl)) ?_; (with_reducible refine (depotref11_end.calls k2 a0 x6_2 t246 _ A10.out).mono ?_); rintro e w' ⟨rfl, ⟨nd, rfl⟩⟩; refine ⟨_, rfl, ?_⟩; (try (rw [drewN_self wr]; generalize hq_ : World.drewN wr _ = wr; have n0_ : Aside0 (Below w.heap.size w wr) := ⟨by rw [← hq_]; exact (by repeat (first | (with_reducible first | exact HB.out | apply below_alloc | apply pw_below_drewN | apply below_drew1) | exact HB.out))⟩; clear HB hq_; have HB := n0_; clear n0_))) | ((with_reducible refine gate_callee (f := 69) rfl ?_); refine goesL_ (some 93) rfl rfl Tryz.func69 (by kernel_rfl) rfl #[.string (a0.extract (x6_2 : Int).toNat (t246 : Int).toNat)] rfl (by (try simp only [List.map_toArray, List.map_cons, List.map_nil]); first | done | rfl | (simp only [List.length_drop, List.length_take]; rfl)) ?_; (with_reducible refine (depotref09_Parse.calls k2 (a0.extract (x6_2 : Int).toNat (t246 : Int).toNat) t247 t248 t249 _ A16.out).mono ?_); rintro e w19 ⟨rfl, hb⟩; refine ⟨_, rfl, ?_⟩; have n0_ := Aside0.mk (below_step (by repeat (first | (with_reducible first | exact HB.out | apply below_alloc | apply pw_below_drewN | apply below_drew1) | exact HB.out)) hb); clear HB; have HB := n0_; clear n0_; (try clear hb); (try clear hb2); (try clear hk); (try clear hi)) | ((with_reducible refine gate_dst (N := 12) rfl ?_); refine box_event ?hg (N := 12) ?hd (cs := #[.string (⟨#[]⟩ : ByteArray), .string (⟨#[]⟩ : ByteArray)]) (t := 98) ?hr ?_; (case hd => rfl); (case hg => rfl); (case hr => first | (go_simp; done) | (go_simp; rfl)); intro gb250 hg w20 hbox hb; have n0_ := Aside0.mk (below_step (by repeat (first | (with_reducible first | exact HB.out | apply below_alloc | apply pw_below_drewN | apply below_drew1) | exact HB.out)) hb); have n1_ := Aside0.mk (hbox); have n2_ := Aside0.mk ((by rw [hg]; exact (below_size (by repeat (first | (with_reducible first | exact HB.out | apply below_alloc | apply pw_below_drewN | apply below_drew1) | exact HB.out))) : w.heap.size ≤ gb250)); have n3_ := Aside0.mk ((by rw [hg]; exact (below_size (by repeat (first | (with_reducible first | exact HB.out | apply below_alloc | apply pw_below_drewN | apply below_drew1) | exact HB.out))) : w.heap.size ≤ gb250)); clear HB; have HB := n0_; have BK250 := n1_; have GW250 := n2_; have GE250 := n3_; clear n0_ n1_ n2_ n3_; clear hb hbox hg; have hcz21_0 : w20.cell? ⟨gb250, 0, none⟩ = some (.string (⟨#[]⟩ : ByteArray)) := (blk_cell BK250.out 0).trans rfl; have hcz21_1 : w20.cell? ⟨gb250, 1, none⟩ = some (.string (⟨#[]⟩ : ByteArray)) := (blk_cell BK250.out 1).trans rfl; have hfz21_0 := blk_frozen BK250.out 0; have hfz21_1 := blk_frozen BK250.out 1))
                                    go_ret3
                                    exact ⟨by first | rfl | (simp [errW_none, errW_some] <;> rfl) | (simp [*, errW_none, errW_some] <;> rfl), by repeat (first | (with_reducible first | exact HB.out | apply below_alloc | apply pw_below_drewN | apply below_drew1 | refine below_set ?_ GE250.out) | exact HB.out)⟩
                                  · rw [if_neg c18] at H
                                    have c18b0 : decide (64 ≤ x10_2) = false := decide_eq_false c18
                                    clear c18
                                    have H' := Aside0.mk H
                                    clear H
                                    go_wp2_with (first | ((with_reducible refine gate_callee (f := 103) rfl ?_); refine goesL_ (some 79) rfl rfl Tryz.func103 (by kernel_rfl) rfl #[.string a0, .int .i64 x6_2] rfl (by (try simp only [List.map_toArray, List.map_cons, List.map_nil]); first | done | rfl | (simp only [List.length_drop, List.length_take]; rfl)) ?_; (with_reducible refine (depotref11_end.calls k2 a0 x6_2 t246 _ A10.out).mono ?_); rintro e w' ⟨rfl, ⟨nd, rfl⟩⟩; refine ⟨_, rfl, ?_⟩; (try (rw [drewN_self wr]; generalize hq_ : World.drewN wr _ = wr; have n0_ : Aside0 (Below w.heap.size w wr) := ⟨by rw [← hq_]; exact (by repeat (first | (with_reducible first | exact HB.out | apply below_alloc | apply pw_below_drewN | apply below_drew1) | exact HB.out))⟩; clear HB hq_; have HB := n0_; clear n0_))) | ((with_reducible refine gate_callee (f := 69) rfl ?_); refine goesL_ (some 93) rfl rfl Tryz.func69 (by kernel_rfl) rfl #[.string (a0.extract (x6_2 : Int).toNat (t246 : Int).toNat)] rfl (by (try simp only [List.map_toArray, List.map_cons, List.map_nil]); first | done | rfl | (simp only [List.length_drop, List.length_take]; rfl)) ?_; (with_reducible refine (depotref09_Parse.calls k2 (a0.extract (x6_2 : Int).toNat (t246 : Int).toNat) t247 t248 t249 _ A16.out).mono ?_); rintro e w22 ⟨rfl, hb⟩; refine ⟨_, rfl, ?_⟩; have n0_ := Aside0.mk (below_step (by repeat (first | (with_reducible first | exact HB.out | apply below_alloc | apply pw_below_drewN | apply below_drew1) | exact HB.out)) hb); clear HB; have HB := n0_; clear n0_; (try clear hb); (try clear hb2); (try clear hk); (try clear hi)) | ((with_reducible refine gate_dst (N := 12) rfl ?_); refine box_event ?hg (N := 12) ?hd (cs := #[.string (⟨#[]⟩ : ByteArray), .string (⟨#[]⟩ : ByteArray)]) (t := 98) ?hr ?_; (case hd => rfl); (case hg => rfl); (case hr => first | (go_simp; done) | (go_simp; rfl)); intro gb250 hg w23 hbox hb; have n0_ := Aside0.mk (below_step (by repeat (first | (with_reducible first | exact HB.out | apply below_alloc | apply pw_below_drewN | apply below_drew1) | exact HB.out)) hb); have n1_ := Aside0.mk (hbox); have n2_ := Aside0.mk ((by rw [hg]; exact (below_size (by repeat (first | (with_reducible first | exact HB.out | apply below_alloc | apply pw_below_drewN | apply below_drew1) | exact HB.out))) : w.heap.size ≤ gb250)); have n3_ := Aside0.mk ((by rw [hg]; exact (below_size (by repeat (first | (with_reducible first | exact HB.out | apply below_alloc | apply pw_below_drewN | apply below_drew1) | exact HB.out))) : w.heap.size ≤ gb250)); clear HB; have HB := n0_; have BK250 := n1_; have GW250 := n2_; have GE250 := n3_; clear n0_ n1_ n2_ n3_; clear hb hbox hg; have hcz24_0 : w23.cell? ⟨gb250, 0, none⟩ = some (.string (⟨#[]⟩ : ByteArray)) := (blk_cell BK250.out 0).trans rfl; have hcz24_1 : w23.cell? ⟨gb250, 1, none⟩ = some (.string (⟨#[]⟩ : ByteArray)) := (blk_cell BK250.out 1).trans rfl; have hfz24_0 := blk_frozen BK250.out 0; have hfz24_1 := blk_frozen BK250.out 1))
                                    go_roundg k2
                                    case measure => have := HK1.out; have := HK2.out; omega
                                    case rel => exact ⟨(wrap64 (t246 + 2)), (wrap64 (x10_2 + 1)), (by first | rfl | (simp; done) | (simp [*]; done) | (simp; exact Hand.isEmpty_ne _)), (by first | rfl | (simp; done) | (simp [*]; done) | (simp; exact Hand.isEmpty_ne _)), H', ⟨by have := HK1.out; have := HK2.out; omega⟩, ⟨by repeat (first | (with_reducible first | exact HB.out | apply below_alloc | apply pw_below_drewN | apply below_drew1 | refine below_set ?_ GE250.out) | exact HB.out)⟩⟩
                                · rw [if_neg c17] at H
                                  have c17b0 : (t249 == 0) = false := beq_eq_false_iff_ne.mpr c17
                                  have c17b1 : (t249 != 0) = true := bne_iff_ne.mpr c17
                                  simp only [Option.some.injEq, Prod.mk.injEq] at H
                                  obtain ⟨rfl, rfl, rfl⟩ := H
                                  go_wp2_with (first | ((with_reducible refine gate_callee (f := 103) rfl ?_); refine goesL_ (some 79) rfl rfl Tryz.func103 (by kernel_rfl) rfl #[.string a0, .int .i64 x6_2] rfl (by (try simp only [List.map_toArray, List.map_cons, List.map_nil]); first | done | rfl | (simp only [List.length_drop, List.length_take]; rfl)) ?_; (with_reducible refine (depotref11_end.calls k2 a0 x6_2 t246 _ A10.out).mono ?_); rintro e w' ⟨rfl, ⟨nd, rfl⟩⟩; refine ⟨_, rfl, ?_⟩; (try (rw [drewN_self wr]; generalize hq_ : World.drewN wr _ = wr; have n0_ : Aside0 (Below w.heap.size w wr) := ⟨by rw [← hq_]; exact (by repeat (first | (with_reducible first | exact HB.out | apply below_alloc | apply pw_below_drewN | apply below_drew1) | exact HB.out))⟩; clear HB hq_; have HB := n0_; clear n0_))) | ((with_reducible refine gate_callee (f := 69) rfl ?_); refine goesL_ (some 93) rfl rfl Tryz.func69 (by kernel_rfl) rfl #[.string (a0.extract (x6_2 : Int).toNat (t246 : Int).toNat)] rfl (by (try simp only [List.map_toArray, List.map_cons, List.map_nil]); first | done | rfl | (simp only [List.length_drop, List.length_take]; rfl)) ?_; (with_reducible refine (depotref09_Parse.calls k2 (a0.extract (x6_2 : Int).toNat (t246 : Int).toNat) t247 t248 t249 _ A16.out).mono ?_); rintro e w25 ⟨rfl, hb⟩; refine ⟨_, rfl, ?_⟩; have n0_ := Aside0.mk (below_step (by repeat (first | (with_reducible first | exact HB.out | apply below_alloc | apply pw_below_drewN | apply below_drew1) | exact HB.out)) hb); clear HB; have HB := n0_; clear n0_; (try clear hb); (try clear hb2); (try clear hk); (try clear hi)) | ((with_reducible refine gate_dst (N := 12) rfl ?_); refine box_event ?hg (N := 12) ?hd (cs := #[.string (⟨#[]⟩ : ByteArray), .string (⟨#[]⟩ : ByteArray)]) (t := 98) ?hr ?_; (case hd => rfl); (case hg => rfl); (case hr => first | (go_simp; done) | (go_simp; rfl)); intro gb250 hg w26 hbox hb; have n0_ := Aside0.mk (below_step (by repeat (first | (with_reducible first | exact HB.out | apply below_alloc | apply pw_below_drewN | apply below_drew1) | exact HB.out)) hb); have n1_ := Aside0.mk (hbox); have n2_ := Aside0.mk ((by rw [hg]; exact (below_size (by repeat (first | (with_reducible first | exact HB.out | apply below_alloc | apply pw_below_drewN | apply below_drew1) | exact HB.out))) : w.heap.size ≤ gb250)); have n3_ := Aside0.mk ((by rw [hg]; exact (below_size (by repeat (first | (with_reducible first | exact HB.out | apply below_alloc | apply pw_below_drewN | apply below_drew1) | exact HB.out))) : w.heap.size ≤ gb250)); clear HB; have HB := n0_; have BK250 := n1_; have GW250 := n2_; have GE250 := n3_; clear n0_ n1_ n2_ n3_; clear hb hbox hg; have hcz27_0 : w26.cell? ⟨gb250, 0, none⟩ = some (.string (⟨#[]⟩ : ByteArray)) := (blk_cell BK250.out 0).trans rfl; have hcz27_1 : w26.cell? ⟨gb250, 1, none⟩ = some (.string (⟨#[]⟩ : ByteArray)) := (blk_cell BK250.out 1).trans rfl; have hfz27_0 := blk_frozen BK250.out 0; have hfz27_1 := blk_frozen BK250.out 1))
                                  go_ret3
                                  exact ⟨by first | rfl | (simp [errW_none, errW_some] <;> rfl) | (simp [*, errW_none, errW_some] <;> rfl), by repeat (first | (with_reducible first | exact HB.out | apply below_alloc | apply pw_below_drewN | apply below_drew1 | refine below_set ?_ GE250.out) | exact HB.out)⟩
                              · rw [if_neg c15] at H
                                exact absurd H (by simp)
                            · rw [if_neg c14] at H
                              exact absurd H (by simp)
                          · rw [if_neg c13] at H
                            exact absurd H (by simp)
                · rw [if_neg c9] at H
                  have c9b0 : (t244 == 0) = false := beq_eq_false_iff_ne.mpr c9
                  have c9b1 : (t244 != 0) = true := bne_iff_ne.mpr c9
                  by_cases c28 : (wrap64 ((x5_1.size : Int) + t244)) > 65536
                  · rw [if_pos c28] at H
                    have c28b0 : decide (65536 < (wrap64 ((x5_1.size : Int) + t244))) = true := decide_eq_true c28
                    clear c28
                    simp only [Option.some.injEq, Prod.mk.injEq] at H
                    obtain ⟨rfl, rfl, rfl⟩ := H
                    go_wp2_with (first | ((with_reducible refine gate_callee (f := 103) rfl ?_); refine goesL_ (some 16) rfl rfl Tryz.func103 (by kernel_rfl) rfl #[.string a0, .int .i64 x6_1] rfl (by (try simp only [List.map_toArray, List.map_cons, List.map_nil]); first | done | rfl | (simp only [List.length_drop, List.length_take]; rfl)) ?_; (with_reducible refine (depotref11_end.calls k1 a0 x6_1 t243 _ A2.out).mono ?_); rintro e w' ⟨rfl, ⟨nd, rfl⟩⟩; refine ⟨_, rfl, ?_⟩) | ((with_reducible refine gate_callee (f := 104) rfl ?_); refine goesL_ (some 24) rfl rfl Tryz.func104 (by kernel_rfl) rfl #[.string (a0.extract (x6_1 : Int).toNat (t243 : Int).toNat)] rfl (by (try simp only [List.map_toArray, List.map_cons, List.map_nil]); first | done | rfl | (simp only [List.length_drop, List.length_take]; rfl)) ?_; (with_reducible refine (depotref11_size.calls k1 (a0.extract (x6_1 : Int).toNat (t243 : Int).toNat) t244 t245 _ A7.out).mono ?_); rintro e w' ⟨rfl, ⟨nd, rfl⟩⟩; refine ⟨_, rfl, ?_⟩))
                    go_ret3
                    exact ⟨by first | rfl | (simp [errW_none, errW_some] <;> rfl) | (simp [*, errW_none, errW_some] <;> rfl), by repeat (first | (with_reducible first | exact HB.out | apply below_alloc | apply pw_below_drewN | apply below_drew1) | exact HB.out)⟩
                  · rw [if_neg c28] at H
                    have c28b0 : decide (65536 < (wrap64 ((x5_1.size : Int) + t244))) = false := decide_eq_false c28
                    clear c28
                    by_cases c29 : (wrap64 ((wrap64 ((wrap64 (t243 + 2)) + t244)) + 2)) > (a0.size : Int)
                    · rw [if_pos c29] at H
                      have c29b0 : decide ((a0.size : Int) < (wrap64 ((wrap64 ((wrap64 (t243 + 2)) + t244)) + 2))) = true := decide_eq_true c29
                      clear c29
                      simp only [Option.some.injEq, Prod.mk.injEq] at H
                      obtain ⟨rfl, rfl, rfl⟩ := H
                      go_wp2_with (first | ((with_reducible refine gate_callee (f := 103) rfl ?_); refine goesL_ (some 16) rfl rfl Tryz.func103 (by kernel_rfl) rfl #[.string a0, .int .i64 x6_1] rfl (by (try simp only [List.map_toArray, List.map_cons, List.map_nil]); first | done | rfl | (simp only [List.length_drop, List.length_take]; rfl)) ?_; (with_reducible refine (depotref11_end.calls k1 a0 x6_1 t243 _ A2.out).mono ?_); rintro e w' ⟨rfl, ⟨nd, rfl⟩⟩; refine ⟨_, rfl, ?_⟩) | ((with_reducible refine gate_callee (f := 104) rfl ?_); refine goesL_ (some 24) rfl rfl Tryz.func104 (by kernel_rfl) rfl #[.string (a0.extract (x6_1 : Int).toNat (t243 : Int).toNat)] rfl (by (try simp only [List.map_toArray, List.map_cons, List.map_nil]); first | done | rfl | (simp only [List.length_drop, List.length_take]; rfl)) ?_; (with_reducible refine (depotref11_size.calls k1 (a0.extract (x6_1 : Int).toNat (t243 : Int).toNat) t244 t245 _ A7.out).mono ?_); rintro e w' ⟨rfl, ⟨nd, rfl⟩⟩; refine ⟨_, rfl, ?_⟩))
                      go_ret3
                      exact ⟨by first | rfl | (simp [errW_none, errW_some] <;> rfl) | (simp [*, errW_none, errW_some] <;> rfl), by repeat (first | (with_reducible first | exact HB.out | apply below_alloc | apply pw_below_drewN | apply below_drew1) | exact HB.out)⟩
                    · rw [if_neg c29] at H
                      have c29b0 : decide ((a0.size : Int) < (wrap64 ((wrap64 ((wrap64 (t243 + 2)) + t244)) + 2))) = false := decide_eq_false c29
                      clear c29
                      obtain ⟨ji30, hji30⟩ : ∃ j_ : Int, (wrap64 ((wrap64 (t243 + 2)) + t244)) = j_ := ⟨_, rfl⟩
                      replace H : (if 0 ≤ (ji30) then (if (ji30) < (a0.size : Int) then (if (bt a0 (ji30)) = 13 then (if 0 ≤ (wrap64 ((ji30) + 1)) then (if (wrap64 ((ji30) + 1)) < (a0.size : Int) then (if (bt a0 (wrap64 ((ji30) + 1))) = 10 then (if 0 ≤ (wrap64 (t243 + 2)) then (if (wrap64 (t243 + 2)) ≤ (ji30) then (if (ji30) ≤ (a0.size : Int) then (if x5_1.size + (a0.extract ((wrap64 (t243 + 2)) : Int).toNat ((ji30) : Int).toNat).size ≤ 9223372036854775807 then (depotref11_Decode.l0 k1 a0 (x5_1 ++ (a0.extract ((wrap64 (t243 + 2)) : Int).toNat ((ji30) : Int).toNat)) (wrap64 ((ji30) + 2))) else (none)) else (none)) else (none)) else (none)) else (some ((⟨#[]⟩ : ByteArray), 0, 25))) else (none)) else (none)) else (some ((⟨#[]⟩ : ByteArray), 0, 25))) else (none)) else (none)) = some (r1, r2, r3) := by first | (rw [hji30] at H; exact H) | (simp only [hji30] at H ⊢; exact H)
                      (try rw [hji30] at c29b0)
                      (try rw [hji30] at A2)
                      (try rw [hji30] at A7)
                      have hji30w : (IntKind.i64.wrap ((wrap64 (t243 + 2)) + t244)) = ji30 := (i64_w _).trans hji30
                      by_cases c31 : 0 ≤ (ji30)
                      · rw [if_pos c31] at H
                        have c31b0 : decide (0 ≤ (ji30)) = true := decide_eq_true c31
                        clear c31
                        by_cases c32 : (ji30) < (a0.size : Int)
                        · rw [if_pos c32] at H
                          have c32b0 : decide ((ji30) < (a0.size : Int)) = true := decide_eq_true c32
                          clear c32
                          by_cases c34 : (bt a0 (ji30)) = 13
                          · rw [if_pos c34] at H
                            have c34b0 : ((bt a0 (ji30)) == 13) = true := beq_iff_eq.mpr c34
                            have c34b1 : ((bt a0 (ji30)) != 13) = false := bne_eq_false_iff_eq.mpr c34
                            clear c34
                            obtain ⟨ji35, hji35⟩ : ∃ j_ : Int, (wrap64 ((ji30) + 1)) = j_ := ⟨_, rfl⟩
                            replace H : (if 0 ≤ (ji35) then (if (ji35) < (a0.size : Int) then (if (bt a0 (ji35)) = 10 then (if 0 ≤ (wrap64 (t243 + 2)) then (if (wrap64 (t243 + 2)) ≤ (ji30) then (if (ji30) ≤ (a0.size : Int) then (if x5_1.size + (a0.extract ((wrap64 (t243 + 2)) : Int).toNat ((ji30) : Int).toNat).size ≤ 9223372036854775807 then (depotref11_Decode.l0 k1 a0 (x5_1 ++ (a0.extract ((wrap64 (t243 + 2)) : Int).toNat ((ji30) : Int).toNat)) (wrap64 ((ji30) + 2))) else (none)) else (none)) else (none)) else (none)) else (some ((⟨#[]⟩ : ByteArray), 0, 25))) else (none)) else (none)) = some (r1, r2, r3) := by first | (rw [hji35] at H; exact H) | (simp only [hji35] at H ⊢; exact H)
                            (try rw [hji35] at A2)
                            (try rw [hji35] at A7)
                            have hji35w : (IntKind.i64.wrap ((ji30) + 1)) = ji35 := (i64_w _).trans hji35
                            by_cases c36 : 0 ≤ (ji35)
                            · rw [if_pos c36] at H
                              have c36b0 : decide (0 ≤ (ji35)) = true := decide_eq_true c36
                              clear c36
                              by_cases c37 : (ji35) < (a0.size : Int)
                              · rw [if_pos c37] at H
                                have c37b0 : decide ((ji35) < (a0.size : Int)) = true := decide_eq_true c37
                                clear c37
                                by_cases c39 : (bt a0 (ji35)) = 10
                                · rw [if_pos c39] at H
                                  have c39b0 : ((bt a0 (ji35)) == 10) = true := beq_iff_eq.mpr c39
                                  have c39b1 : ((bt a0 (ji35)) != 10) = false := bne_eq_false_iff_eq.mpr c39
                                  clear c39
                                  obtain ⟨ji40, hji40⟩ : ∃ j_ : Int, (wrap64 (t243 + 2)) = j_ := ⟨_, rfl⟩
                                  replace H : (if 0 ≤ (ji40) then (if (ji40) ≤ (ji30) then (if (ji30) ≤ (a0.size : Int) then (if x5_1.size + (a0.extract ((ji40) : Int).toNat ((ji30) : Int).toNat).size ≤ 9223372036854775807 then (depotref11_Decode.l0 k1 a0 (x5_1 ++ (a0.extract ((ji40) : Int).toNat ((ji30) : Int).toNat)) (wrap64 ((ji30) + 2))) else (none)) else (none)) else (none)) else (none)) = some (r1, r2, r3) := by first | (rw [hji40] at H; exact H) | (simp only [hji40] at H ⊢; exact H)
                                  (try rw [hji40] at c29b0)
                                  (try (have hji30v40 := hji30; rw [hji40] at hji30v40))
                                  (try (have hji30wv40 := hji30w; rw [hji40] at hji30wv40))
                                  (try rw [hji40] at A2)
                                  (try rw [hji40] at A7)
                                  have hji40w : (IntKind.i64.wrap (t243 + 2)) = ji40 := (i64_w _).trans hji40
                                  by_cases c41 : 0 ≤ (ji40)
                                  · rw [if_pos c41] at H
                                    have c41b0 := eq_true c41
                                    have c41b1 : decide (0 ≤ (ji40)) = true := decide_eq_true c41
                                    clear c41
                                    by_cases c42 : (ji40) ≤ (ji30)
                                    · rw [if_pos c42] at H
                                      have c42b0 := eq_true c42
                                      have c42b1 : decide ((ji40) ≤ (ji30)) = true := decide_eq_true c42
                                      clear c42
                                      by_cases c43 : (ji30) ≤ (a0.size : Int)
                                      · rw [if_pos c43] at H
                                        have c43b0 := eq_true c43
                                        have c43b1 : decide ((ji30) ≤ (a0.size : Int)) = true := decide_eq_true c43
                                        clear c43
                                        by_cases c44 : x5_1.size + (a0.extract ((ji40) : Int).toNat ((ji30) : Int).toNat).size ≤ 9223372036854775807
                                        · rw [if_pos c44] at H
                                          have c44b0 := eq_true c44
                                          have c44b1 : decide (x5_1.size + (a0.extract ((ji40) : Int).toNat ((ji30) : Int).toNat).size ≤ 9223372036854775807) = true := decide_eq_true c44
                                          (try (have c44b20 := c44b0; simp only [ByteArray.size_extract] at c44b20))
                                          (try (have c44b21 := c44b1; simp only [ByteArray.size_extract] at c44b21))
                                          (try (have c44b40 := c44b0; simp only [ByteArray.size_extract, Nat.min_self] at c44b40))
                                          (try (have c44b41 := c44b1; simp only [ByteArray.size_extract, Nat.min_self] at c44b41))
                                          try have c44b2 : (9223372036854775807 < x5_1.size + (a0.extract ((ji40) : Int).toNat ((ji30) : Int).toNat).size) = False := eq_false (Nat.not_lt.2 c44)
                                          (try (have c44b42 := c44b2; simp only [ByteArray.size_extract, Nat.min_self] at c44b42))
                                          have H' := Aside0.mk H
                                          clear H
                                          go_wp2_with (first | ((with_reducible refine gate_callee (f := 103) rfl ?_); refine goesL_ (some 16) rfl rfl Tryz.func103 (by kernel_rfl) rfl #[.string a0, .int .i64 x6_1] rfl (by (try simp only [List.map_toArray, List.map_cons, List.map_nil]); first | done | rfl | (simp only [List.length_drop, List.length_take]; rfl)) ?_; (with_reducible refine (depotref11_end.calls k1 a0 x6_1 t243 _ A2.out).mono ?_); rintro e w' ⟨rfl, ⟨nd, rfl⟩⟩; refine ⟨_, rfl, ?_⟩) | ((with_reducible refine gate_callee (f := 104) rfl ?_); refine goesL_ (some 24) rfl rfl Tryz.func104 (by kernel_rfl) rfl #[.string (a0.extract (x6_1 : Int).toNat (t243 : Int).toNat)] rfl (by (try simp only [List.map_toArray, List.map_cons, List.map_nil]); first | done | rfl | (simp only [List.length_drop, List.length_take]; rfl)) ?_; (with_reducible refine (depotref11_size.calls k1 (a0.extract (x6_1 : Int).toNat (t243 : Int).toNat) t244 t245 _ A7.out).mono ?_); rintro e w' ⟨rfl, ⟨nd, rfl⟩⟩; refine ⟨_, rfl, ?_⟩; have p33 : 0 ≤ ((ji30) : Int) := of_decide_eq_true (by first | (with_reducible assumption) | assumption); have q33 : (ji30) < (a0.size : Int) := of_decide_eq_true (by first | (with_reducible assumption) | assumption); have hx33 := bt_at a0 (ji30); replace p33 := eq_true p33; replace q33 := eq_true q33; have p38 : 0 ≤ ((ji35) : Int) := of_decide_eq_true (by first | (with_reducible assumption) | assumption); have q38 : (ji35) < (a0.size : Int) := of_decide_eq_true (by first | (with_reducible assumption) | assumption); have hx38 := bt_at a0 (ji35); replace p38 := eq_true p38; replace q38 := eq_true q38))
                                          go_roundg k1
                                          case measure => have := HK1.out; omega
                                          case rel => exact ⟨(x5_1 ++ (a0.extract ((ji40) : Int).toNat ((ji30) : Int).toNat)), (wrap64 ((ji30) + 2)), (by first | rfl | (simp; done) | (simp only [← hji30, ← hji40] <;> (first | rfl | simp)) | (simp [*]; done)), (by first | rfl | (simp; done) | (simp only [← hji30] <;> (first | rfl | simp)) | (simp [*]; done)), H', ⟨by have := HK1.out; omega⟩, ⟨by repeat (first | (with_reducible first | exact HB.out | apply below_alloc | apply pw_below_drewN | apply below_drew1) | exact HB.out)⟩⟩
                                        · rw [if_neg c44] at H
                                          exact absurd H (by simp)
                                      · rw [if_neg c43] at H
                                        exact absurd H (by simp)
                                    · rw [if_neg c42] at H
                                      exact absurd H (by simp)
                                  · rw [if_neg c41] at H
                                    exact absurd H (by simp)
                                · rw [if_neg c39] at H
                                  have c39b0 : ((bt a0 (ji35)) == 10) = false := beq_eq_false_iff_ne.mpr c39
                                  have c39b1 : ((bt a0 (ji35)) != 10) = true := bne_iff_ne.mpr c39
                                  simp only [Option.some.injEq, Prod.mk.injEq] at H
                                  obtain ⟨rfl, rfl, rfl⟩ := H
                                  go_wp2_with (first | ((with_reducible refine gate_callee (f := 103) rfl ?_); refine goesL_ (some 16) rfl rfl Tryz.func103 (by kernel_rfl) rfl #[.string a0, .int .i64 x6_1] rfl (by (try simp only [List.map_toArray, List.map_cons, List.map_nil]); first | done | rfl | (simp only [List.length_drop, List.length_take]; rfl)) ?_; (with_reducible refine (depotref11_end.calls k1 a0 x6_1 t243 _ A2.out).mono ?_); rintro e w' ⟨rfl, ⟨nd, rfl⟩⟩; refine ⟨_, rfl, ?_⟩) | ((with_reducible refine gate_callee (f := 104) rfl ?_); refine goesL_ (some 24) rfl rfl Tryz.func104 (by kernel_rfl) rfl #[.string (a0.extract (x6_1 : Int).toNat (t243 : Int).toNat)] rfl (by (try simp only [List.map_toArray, List.map_cons, List.map_nil]); first | done | rfl | (simp only [List.length_drop, List.length_take]; rfl)) ?_; (with_reducible refine (depotref11_size.calls k1 (a0.extract (x6_1 : Int).toNat (t243 : Int).toNat) t244 t245 _ A7.out).mono ?_); rintro e w' ⟨rfl, ⟨nd, rfl⟩⟩; refine ⟨_, rfl, ?_⟩; have p33 : 0 ≤ ((ji30) : Int) := of_decide_eq_true (by first | (with_reducible assumption) | assumption); have q33 : (ji30) < (a0.size : Int) := of_decide_eq_true (by first | (with_reducible assumption) | assumption); have hx33 := bt_at a0 (ji30); replace p33 := eq_true p33; replace q33 := eq_true q33; have p38 : 0 ≤ ((ji35) : Int) := of_decide_eq_true (by first | (with_reducible assumption) | assumption); have q38 : (ji35) < (a0.size : Int) := of_decide_eq_true (by first | (with_reducible assumption) | assumption); have hx38 := bt_at a0 (ji35); replace p38 := eq_true p38; replace q38 := eq_true q38))
                                  go_ret3
                                  exact ⟨by first | rfl | (simp [errW_none, errW_some] <;> rfl) | (simp only [← hji30, ← hji35]; first | rfl | (simp [errW_none, errW_some] <;> rfl)) | (simp [*, errW_none, errW_some] <;> rfl), by repeat (first | (with_reducible first | exact HB.out | apply below_alloc | apply pw_below_drewN | apply below_drew1) | exact HB.out)⟩
                              · rw [if_neg c37] at H
                                exact absurd H (by simp)
                            · rw [if_neg c36] at H
                              exact absurd H (by simp)
                          · rw [if_neg c34] at H
                            have c34b0 : ((bt a0 (ji30)) == 13) = false := beq_eq_false_iff_ne.mpr c34
                            have c34b1 : ((bt a0 (ji30)) != 13) = true := bne_iff_ne.mpr c34
                            simp only [Option.some.injEq, Prod.mk.injEq] at H
                            obtain ⟨rfl, rfl, rfl⟩ := H
                            go_wp2_with (first | ((with_reducible refine gate_callee (f := 103) rfl ?_); refine goesL_ (some 16) rfl rfl Tryz.func103 (by kernel_rfl) rfl #[.string a0, .int .i64 x6_1] rfl (by (try simp only [List.map_toArray, List.map_cons, List.map_nil]); first | done | rfl | (simp only [List.length_drop, List.length_take]; rfl)) ?_; (with_reducible refine (depotref11_end.calls k1 a0 x6_1 t243 _ A2.out).mono ?_); rintro e w' ⟨rfl, ⟨nd, rfl⟩⟩; refine ⟨_, rfl, ?_⟩) | ((with_reducible refine gate_callee (f := 104) rfl ?_); refine goesL_ (some 24) rfl rfl Tryz.func104 (by kernel_rfl) rfl #[.string (a0.extract (x6_1 : Int).toNat (t243 : Int).toNat)] rfl (by (try simp only [List.map_toArray, List.map_cons, List.map_nil]); first | done | rfl | (simp only [List.length_drop, List.length_take]; rfl)) ?_; (with_reducible refine (depotref11_size.calls k1 (a0.extract (x6_1 : Int).toNat (t243 : Int).toNat) t244 t245 _ A7.out).mono ?_); rintro e w' ⟨rfl, ⟨nd, rfl⟩⟩; refine ⟨_, rfl, ?_⟩; have p33 : 0 ≤ ((ji30) : Int) := of_decide_eq_true (by first | (with_reducible assumption) | assumption); have q33 : (ji30) < (a0.size : Int) := of_decide_eq_true (by first | (with_reducible assumption) | assumption); have hx33 := bt_at a0 (ji30); replace p33 := eq_true p33; replace q33 := eq_true q33))
                            go_ret3
                            exact ⟨by first | rfl | (simp [errW_none, errW_some] <;> rfl) | (simp only [← hji30]; first | rfl | (simp [errW_none, errW_some] <;> rfl)) | (simp [*, errW_none, errW_some] <;> rfl), by repeat (first | (with_reducible first | exact HB.out | apply below_alloc | apply pw_below_drewN | apply below_drew1) | exact HB.out)⟩
                        · rw [if_neg c32] at H
                          exact absurd H (by simp)
                      · rw [if_neg c31] at H
                        exact absurd H (by simp)
              · rw [if_neg c8] at H
                have c8b0 : (t245 == 0) = false := beq_eq_false_iff_ne.mpr c8
                have c8b1 : (t245 != 0) = true := bne_iff_ne.mpr c8
                simp only [Option.some.injEq, Prod.mk.injEq] at H
                obtain ⟨rfl, rfl, rfl⟩ := H
                go_wp2_with (first | ((with_reducible refine gate_callee (f := 103) rfl ?_); refine goesL_ (some 16) rfl rfl Tryz.func103 (by kernel_rfl) rfl #[.string a0, .int .i64 x6_1] rfl (by (try simp only [List.map_toArray, List.map_cons, List.map_nil]); first | done | rfl | (simp only [List.length_drop, List.length_take]; rfl)) ?_; (with_reducible refine (depotref11_end.calls k1 a0 x6_1 t243 _ A2.out).mono ?_); rintro e w' ⟨rfl, ⟨nd, rfl⟩⟩; refine ⟨_, rfl, ?_⟩) | ((with_reducible refine gate_callee (f := 104) rfl ?_); refine goesL_ (some 24) rfl rfl Tryz.func104 (by kernel_rfl) rfl #[.string (a0.extract (x6_1 : Int).toNat (t243 : Int).toNat)] rfl (by (try simp only [List.map_toArray, List.map_cons, List.map_nil]); first | done | rfl | (simp only [List.length_drop, List.length_take]; rfl)) ?_; (with_reducible refine (depotref11_size.calls k1 (a0.extract (x6_1 : Int).toNat (t243 : Int).toNat) t244 t245 _ A7.out).mono ?_); rintro e w' ⟨rfl, ⟨nd, rfl⟩⟩; refine ⟨_, rfl, ?_⟩))
                go_ret3
                exact ⟨by first | rfl | (simp [errW_none, errW_some] <;> rfl) | (simp [*, errW_none, errW_some] <;> rfl), by repeat (first | (with_reducible first | exact HB.out | apply below_alloc | apply pw_below_drewN | apply below_drew1) | exact HB.out)⟩
            · rw [if_neg c6] at H
              exact absurd H (by simp)
          · rw [if_neg c5] at H
            exact absurd H (by simp)
        · rw [if_neg c4] at H
          exact absurd H (by simp)

/-! ### depotref02_Number: function 77 -/
def depotref02_Number.f (k : Nat) (a0 : ByteArray) (a1 : Int) : Option (Int × Int) := (depotref02_read.f k a0 10 18 a1).bind fun bt251 => (some (bt251.1, bt251.2))
theorem depotref02_Number.mono : ∀ a0 a1 k, LeO (depotref02_Number.f k a0 a1) (depotref02_Number.f (k + 1) a0 a1) := by
  intro a0 a1 k
  unfold depotref02_Number.f
  repeat' first
      | (with_reducible exact depotref02_read.mono _ _ _ _ _)
      | (with_reducible exact LeO.refl _)
      | (with_reducible exact LeO.none _)
      | (with_reducible refine LeO.ite ?_ ?_)
      | (with_reducible refine LeO.bind ?_ (fun _ => ?_))
      | exact depotref02_read.mono _ _ _ _ _
      | exact LeO.none _
      | refine LeO.ite ?_ ?_
      | refine LeO.bind ?_ (fun _ => ?_)
set_option maxHeartbeats 8000000 in
set_option maxRecDepth 100000 in
theorem depotref02_Number.calls (k : Nat) (a0 : ByteArray) (a1 : Int) (r1 : Int) (r2 : Int) (w : World) (h : depotref02_Number.f k a0 a1 = some (r1, r2)) :
    Calls Tryz.prog 77 #[.string a0, .int .i64 a1] w fun e w' => e = .returned (.tuple #[.int .i64 r1, .int .i64 r2]) ∧ Drawn0 w w' := by
  have H : ((depotref02_read.f k a0 10 18 a1).bind fun bt251 => (some (bt251.1, bt251.2))) = some (r1, r2) := h
  clear h
  replace H := Option.bind_eq_some_iff.mp H
  obtain ⟨⟨t251, t252⟩, A30, H⟩ := H
  replace H : (some (t251, t252)) = some (r1, r2) := H
  have A3 := Aside0.mk A30
  clear A30
  simp only [Option.some.injEq, Prod.mk.injEq] at H
  obtain ⟨rfl, rfl⟩ := H
  go_enter Tryz.func77, Tryz.ntmps77
  go_wp2_with (first | ((with_reducible refine gate_callee (f := 109) rfl ?_); refine goesL_ (some 8) rfl rfl Tryz.func109 (by kernel_rfl) rfl #[.string a0, .int .i64 10, .int .i64 18, .int .i64 a1] rfl (by (try simp only [List.map_toArray, List.map_cons, List.map_nil]); first | done | rfl | (simp only [List.length_drop, List.length_take]; rfl)) ?_; (with_reducible refine (depotref02_read.calls k a0 10 18 a1 t251 t252 _ A3.out).mono ?_); rintro e w' ⟨rfl, ⟨nd, rfl⟩⟩; refine ⟨_, rfl, ?_⟩))
  go_ret2
  exact ⟨by first | rfl | (simp; done) | (simp [*]; done) | (simp; exact Hand.isEmpty_ne _), by repeat (first | exact Drawn0.refl _ | apply Drawn0.step)⟩

end Go.Proofs.YtjaklgikfcahdaaGreatDoor.PV
