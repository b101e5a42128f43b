-- Out of the translation, by a program of this session: each function that a law comes to as a Lean function, and that the machine's call does what it says. Lean checks it.
import Derived.Test.YtmmmfippfoginaaDoorPR0
import Derived.Test.YtmmmfippfoginaaDoorPR2
namespace Go.Proofs.YtmmmfippfoginaaDoor.PR
open Go.RowKit Go.Proofs.YtmmmfippfoginaaDoorW.PrintWords Go.Proofs.YtmmmfippfoginaaDoorW.PrintLast Go.Proofs.YtmmmfippfoginaaDoorW.PrintMore
attribute [local go_sem] max2_int min2_int max_two min_two max_three min_three max_four min_four   -- for this text's walks alone
set_option linter.unusedVariables false
set_option linter.unusedSimpArgs false

/-! ### depotlaw11_ChunkAgain: function 6 -/
mutual
def depotlaw11_ChunkAgain.j0 : Nat → ByteArray → ByteArray → Bool → Option (Bool)
  | 0, _, _, _ => none
  | k + 1, x0, x1, x23 => if x23 = true then ((depotlaw11_chunks.f k).bind fun t183 => (some t183)) else ((chunk_Decode.f x0).bind fun bt184 => (if bt184.2.2 = 0 then (if bt184.2.1 < 5 then (depotlaw11_ChunkAgain.j1 k x0 x1 bt184.1 bt184.2.1 true) else (if bt184.2.1 > (x0.size : Int) then (depotlaw11_ChunkAgain.j1 k x0 x1 bt184.1 bt184.2.1 true) else (depotlaw11_ChunkAgain.j1 k x0 x1 bt184.1 bt184.2.1 (decide ((bt184.1.size : Int) > bt184.2.1))))) else (if bt184.1.toList = ([] : List UInt8) then (if bt184.2.1 = 0 then (if bt184.2.2 = 25 then ((depotlaw11_chunks.f k).bind fun t187 => (some t187)) else (if bt184.2.2 = 4 then ((depotlaw11_chunks.f k).bind fun t188 => (some t188)) else (some false))) else (some false)) else (some false))))
def depotlaw11_ChunkAgain.j1 : Nat → ByteArray → ByteArray → ByteArray → Int → Bool → Option (Bool)
  | 0, _, _, _, _, _ => none
  | k + 1, x0, x1, x5, x6, x63 => if x63 = true then (some false) else (if 0 ≤ x6 then (if x6 ≤ (x0.size : Int) then (if (x0.extract 0 (x6 : Int).toNat).size + x1.size ≤ 9223372036854775807 then ((chunk_Decode.f ((x0.extract 0 (x6 : Int).toNat) ++ x1)).bind fun bt189 => ((chunk_Encode.f k x5 7).bind fun bt192 => ((chunk_Decode.f bt192.1).bind fun bt194 => (if bt189.1.toList = x5.toList then (if bt189.2.1 = x6 then (if bt189.2.2 = 0 then (if bt192.2 = 0 then (if bt194.1.toList = x5.toList then (if bt194.2.2 = 0 then ((depotlaw11_chunks.f k).bind fun t197 => (some t197)) else (some false)) else (some false)) else (some false)) else (some false)) else (some false)) else (some false))))) else (none)) else (none)) else (none))
end
def depotlaw11_ChunkAgain.f (k : Nat) (a0 : ByteArray) (a1 : ByteArray) : Option (Bool) := if (a0.size : Int) > 3000 then (depotlaw11_ChunkAgain.j0 k a0 a1 true) else (depotlaw11_ChunkAgain.j0 k a0 a1 (decide ((a1.size : Int) > 3000)))
theorem depotlaw11_ChunkAgain.mono_l : ∀ k, (∀ y0 y1 y2, LeO (depotlaw11_ChunkAgain.j0 k y0 y1 y2) (depotlaw11_ChunkAgain.j0 (k + 1) y0 y1 y2)) ∧ (∀ y0 y1 y2 y3 y4, LeO (depotlaw11_ChunkAgain.j1 k y0 y1 y2 y3 y4) (depotlaw11_ChunkAgain.j1 (k + 1) y0 y1 y2 y3 y4))
  | 0 => ⟨fun _ _ _ r h => by simp [depotlaw11_ChunkAgain.j0] at h, fun _ _ _ _ _ r h => by simp [depotlaw11_ChunkAgain.j1] at h⟩
  | k + 1 => by
    obtain ⟨ih0, ih1⟩ := depotlaw11_ChunkAgain.mono_l k
    refine ⟨?_, ?_⟩
    · intro y0 y1 y2
      unfold depotlaw11_ChunkAgain.j0
      repeat' first
      | (with_reducible exact ih0 _ _ _)
      | (with_reducible exact ih1 _ _ _ _ _)
      | (with_reducible exact chunk_Encode.mono _ _ _)
      | (with_reducible exact depotlaw11_chunks.mono _)
      | (with_reducible exact LeO.refl _)
      | (with_reducible exact LeO.none _)
      | (with_reducible refine LeO.ite ?_ ?_)
      | (with_reducible refine LeO.bind ?_ (fun _ => ?_))
      | exact ih0 _ _ _
      | exact ih1 _ _ _ _ _
      | exact chunk_Encode.mono _ _ _
      | exact depotlaw11_chunks.mono _
      | exact LeO.none _
      | refine LeO.ite ?_ ?_
      | refine LeO.bind ?_ (fun _ => ?_)
    · intro y0 y1 y2 y3 y4
      unfold depotlaw11_ChunkAgain.j1
      repeat' first
      | (with_reducible exact ih0 _ _ _)
      | (with_reducible exact ih1 _ _ _ _ _)
      | (with_reducible exact chunk_Encode.mono _ _ _)
      | (with_reducible exact depotlaw11_chunks.mono _)
      | (with_reducible exact LeO.refl _)
      | (with_reducible exact LeO.none _)
      | (with_reducible refine LeO.ite ?_ ?_)
      | (with_reducible refine LeO.bind ?_ (fun _ => ?_))
      | exact ih0 _ _ _
      | exact ih1 _ _ _ _ _
      | exact chunk_Encode.mono _ _ _
      | exact depotlaw11_chunks.mono _
      | exact LeO.none _
      | refine LeO.ite ?_ ?_
      | refine LeO.bind ?_ (fun _ => ?_)
theorem depotlaw11_ChunkAgain.mono : ∀ a0 a1 k, LeO (depotlaw11_ChunkAgain.f k a0 a1) (depotlaw11_ChunkAgain.f (k + 1) a0 a1) := by
  intro a0 a1 k
  obtain ⟨ih0, ih1⟩ := depotlaw11_ChunkAgain.mono_l k
  unfold depotlaw11_ChunkAgain.f
  repeat' first
      | (with_reducible exact ih0 _ _ _)
      | (with_reducible exact ih1 _ _ _ _ _)
      | (with_reducible exact chunk_Encode.mono _ _ _)
      | (with_reducible exact depotlaw11_chunks.mono _)
      | (with_reducible exact LeO.refl _)
      | (with_reducible exact LeO.none _)
      | (with_reducible refine LeO.ite ?_ ?_)
      | (with_reducible refine LeO.bind ?_ (fun _ => ?_))
      | exact ih0 _ _ _
      | exact ih1 _ _ _ _ _
      | exact chunk_Encode.mono _ _ _
      | exact depotlaw11_chunks.mono _
      | exact LeO.none _
      | refine LeO.ite ?_ ?_
      | refine LeO.bind ?_ (fun _ => ?_)
set_option maxHeartbeats 8000000 in
set_option maxRecDepth 100000 in
theorem depotlaw11_ChunkAgain.calls (k : Nat) (a0 : ByteArray) (a1 : ByteArray) (r : Bool) (w : World) (HTRUE : Aside0 (r = true)) (HT : Aside0 (Hand.Laid w)) (h : depotlaw11_ChunkAgain.f k a0 a1 = some r) :
    Calls Tryd.prog 6 #[.string a0, .string a1] w fun e w' => e = .returned (.bool r) ∧ Below w.heap.size w w' := by
  have HB := Aside0.mk (Below.refl w.heap.size w)
  have H : (if (a0.size : Int) > 3000 then (depotlaw11_ChunkAgain.j0 k a0 a1 true) else (depotlaw11_ChunkAgain.j0 k a0 a1 (decide ((a1.size : Int) > 3000)))) = some r := h
  clear h
  have HC3 := Aside0.mk H
  clear H
  go_enter Tryd.func6, Tryd.ntmps6
  go_upto_region 1 with (fail)
  go_cut [23] (fun v23 wc => ∃ (kq : Nat) (x23_2 : Bool), v23 = .bool x23_2 ∧ Aside0 (depotlaw11_ChunkAgain.j0 kq a0 a1 x23_2 = some r) ∧ Aside0 (kq ≤ k) ∧ Aside0 (Below w.heap.size w wc))
  case first =>
    have H := HC3.out
    clear HC3
    by_cases c4 : (a0.size : Int) > 3000
    · rw [if_pos c4] at H
      have c4b0 : decide (3000 < (a0.size : Int)) = true := decide_eq_true c4
      have c4b1 : decide (3000 < a0.size) = true := decide_eq_true (by omega)
      clear c4
      (first | rw [c4b0] | (simp only [i64_w, i32_w]; rw [c4b0]) | skip)
      have H' := Aside0.mk H
      clear H
      go_wp2
      go_meet
      case rel => exact ⟨_, (true), (by first | rfl | (simp; done) | (simp [*]; done)), H', ⟨by first | omega | exact Nat.le_refl _⟩, ⟨by repeat (first | (with_reducible first | exact HB.out | apply below_alloc | apply pw_below_drewN | apply below_drew1) | exact HB.out)⟩⟩
    · rw [if_neg c4] at H
      have c4b0 : decide (3000 < (a0.size : Int)) = false := decide_eq_false c4
      have c4b1 : decide (3000 < a0.size) = false := decide_eq_false (by omega)
      clear c4
      (first | rw [c4b0] | (simp only [i64_w, i32_w]; rw [c4b0]) | skip)
      have H' := Aside0.mk H
      clear H
      go_wp2
      go_meet
      case rel => exact ⟨_, (decide ((a1.size : Int) > 3000)), (by first | rfl | (simp; done) | (simp [*]; done)), H', ⟨by first | omega | exact Nat.le_refl _⟩, ⟨by repeat (first | (with_reducible first | exact HB.out | apply below_alloc | apply pw_below_drewN | apply below_drew1) | exact HB.out)⟩⟩
  case rest =>
    clear HC3
    try clear p2
    try clear c4
    try clear c4b0
    try clear c4b1
    obtain ⟨kq, x23_2, rfl, HA, HJ2, HB⟩ := hcut
    cases kq with
    | zero => exact absurd HA.out (by simp [depotlaw11_ChunkAgain.j0])
    | succ kj2 =>
      have H := HA.out
      clear HA
      simp only [depotlaw11_ChunkAgain.j0] at H
      by_cases c5 : x23_2 = true
      · subst c5
        have H1 : ((depotlaw11_chunks.f kj2).bind fun t183 => (some t183)) = some r := by rw [if_pos rfl] at H; exact H
        clear H
        have H := H1
        clear H1
        replace H := Option.bind_eq_some_iff.mp H
        obtain ⟨t183, A60, H⟩ := H
        replace H : (some t183) = some r := H
        have A6 := Aside0.mk A60
        clear A60
        obtain rfl := Option.some.inj H
        go_wp2_with (first | ((with_reducible refine gate_callee (f := 7) rfl ?_); refine goesL_ (some 24) rfl rfl Tryd.func7 (by kernel_rfl) rfl #[] rfl (by (try simp only [List.map_toArray, List.map_cons, List.map_nil]); first | done | rfl | (simp only [List.length_drop, List.length_take]; rfl)) ?_; (with_reducible refine (depotlaw11_chunks.calls kj2  t183 _ ?side2 ?side1 A6.out).mono ?_); (case side1 => first | exact HT | exact ⟨Hand.Laid.below HT.out (by repeat (first | (with_reducible first | exact HB.out | apply below_alloc | apply pw_below_drewN | apply below_drew1) | exact HB.out))⟩); (case side2 => first | exact ⟨rfl⟩ | exact HTRUE); rintro e w7 ⟨rfl, hb⟩; refine ⟨_, rfl, ?_⟩; have n0_ := Aside0.mk (below_step (by repeat (first | (with_reducible first | exact HB.out | apply below_alloc | apply pw_below_drewN | apply below_drew1) | exact HB.out)) hb); clear HB; have HB := n0_; clear n0_; (try clear hb); (try clear hb2); (try clear hk); (try clear hi)))
        go_ret
        exact ⟨by first | rfl | (simp [errW_none, errW_some] <;> rfl) | (simp [*, errW_none, errW_some] <;> rfl), by repeat (first | (with_reducible first | exact HB.out | apply below_alloc | apply pw_below_drewN | apply below_drew1) | exact HB.out)⟩
      · replace c5 := Bool.eq_false_iff.mpr c5
        subst c5
        have H1 : ((chunk_Decode.f a0).bind fun bt184 => (if bt184.2.2 = 0 then (if bt184.2.1 < 5 then (depotlaw11_ChunkAgain.j1 kj2 a0 a1 bt184.1 bt184.2.1 true) else (if bt184.2.1 > (a0.size : Int) then (depotlaw11_ChunkAgain.j1 kj2 a0 a1 bt184.1 bt184.2.1 true) else (depotlaw11_ChunkAgain.j1 kj2 a0 a1 bt184.1 bt184.2.1 (decide ((bt184.1.size : Int) > bt184.2.1))))) else (if bt184.1.toList = ([] : List UInt8) then (if bt184.2.1 = 0 then (if bt184.2.2 = 25 then ((depotlaw11_chunks.f kj2).bind fun t187 => (some t187)) else (if bt184.2.2 = 4 then ((depotlaw11_chunks.f kj2).bind fun t188 => (some t188)) else (some false))) else (some false)) else (some false)))) = some r := by rw [if_neg (show ¬ (false = true) by decide)] at H; exact H
        clear H
        have H := H1
        clear H1
        replace H := Option.bind_eq_some_iff.mp H
        obtain ⟨⟨t184, t185, t186⟩, A80, H⟩ := H
        replace H : (if t186 = 0 then (if t185 < 5 then (depotlaw11_ChunkAgain.j1 kj2 a0 a1 t184 t185 true) else (if t185 > (a0.size : Int) then (depotlaw11_ChunkAgain.j1 kj2 a0 a1 t184 t185 true) else (depotlaw11_ChunkAgain.j1 kj2 a0 a1 t184 t185 (decide ((t184.size : Int) > t185))))) else (if t184.toList = ([] : List UInt8) then (if t185 = 0 then (if t186 = 25 then ((depotlaw11_chunks.f kj2).bind fun t187 => (some t187)) else (if t186 = 4 then ((depotlaw11_chunks.f kj2).bind fun t188 => (some t188)) else (some false))) else (some false)) else (some false))) = some r := H
        have A8 := Aside0.mk A80
        clear A80
        by_cases c9 : t186 = 0
        · rw [if_pos c9] at H
          have c9b0 : (t186 == 0) = true := beq_iff_eq.mpr c9
          have c9b1 : (t186 != 0) = false := bne_eq_false_iff_eq.mpr c9
          clear c9
          have HC10 := Aside0.mk H
          clear H
          go_upto_region 6 with (first | ((with_reducible refine gate_callee (f := 8) rfl ?_); refine goesL_ (some 27) rfl rfl Tryd.func8 (by kernel_rfl) rfl #[.string a0] rfl (by (try simp only [List.map_toArray, List.map_cons, List.map_nil]); first | done | rfl | (simp only [List.length_drop, List.length_take]; rfl)) ?_; (with_reducible refine (chunk_Decode.calls a0 t184 t185 t186 _ ?side1 A8.out).mono ?_); (case side1 => first | exact HT | exact ⟨Hand.Laid.below HT.out (by repeat (first | (with_reducible first | exact HB.out | apply below_alloc | apply pw_below_drewN | apply below_drew1) | exact HB.out))⟩); rintro e w11 ⟨rfl, hb⟩; refine ⟨_, rfl, ?_⟩; have n0_ := Aside0.mk (below_step (by repeat (first | (with_reducible first | exact HB.out | apply below_alloc | apply pw_below_drewN | apply below_drew1) | exact HB.out)) hb); clear HB; have HB := n0_; clear n0_; (try clear hb); (try clear hb2); (try clear hk); (try clear hi)))
          (try simp only [Act.put, List.setIfInBounds_toArray, List.set_cons_zero, List.set_cons_succ])
          go_cut [63] (fun v63 wc => ∃ (kq : Nat) (x63_9 : Bool), v63 = .bool x63_9 ∧ Aside0 (depotlaw11_ChunkAgain.j1 kq a0 a1 t184 t185 x63_9 = some r) ∧ Aside0 (kq ≤ kj2) ∧ Aside0 (Below w.heap.size w wc))
          case first =>
            have H := HC10.out
            clear HC10
            by_cases c12 : t185 < 5
            · rw [if_pos c12] at H
              have c12b0 : decide (t185 < 5) = true := decide_eq_true c12
              clear c12
              (first | rw [c12b0] | (simp only [i64_w, i32_w]; rw [c12b0]) | skip)
              have H' := Aside0.mk H
              clear H
              go_wp2
              go_meet
              case rel => exact ⟨_, (true), (by first | rfl | (simp; done) | (simp [*]; done)), H', ⟨by have := HJ2.out; first | omega | exact Nat.le_refl _⟩, ⟨by repeat (first | (with_reducible first | exact HB.out | apply below_alloc | apply pw_below_drewN | apply below_drew1) | exact HB.out)⟩⟩
            · rw [if_neg c12] at H
              have c12b0 : decide (t185 < 5) = false := decide_eq_false c12
              clear c12
              (first | rw [c12b0] | (simp only [i64_w, i32_w]; rw [c12b0]) | skip)
              by_cases c13 : t185 > (a0.size : Int)
              · rw [if_pos c13] at H
                have c13b0 : decide ((a0.size : Int) < t185) = true := decide_eq_true c13
                clear c13
                have H' := Aside0.mk H
                clear H
                go_wp2
                go_meet
                case rel => exact ⟨_, (true), (by first | rfl | (simp; done) | (simp [*]; done)), H', ⟨by have := HJ2.out; first | omega | exact Nat.le_refl _⟩, ⟨by repeat (first | (with_reducible first | exact HB.out | apply below_alloc | apply pw_below_drewN | apply below_drew1) | exact HB.out)⟩⟩
              · rw [if_neg c13] at H
                have c13b0 : decide ((a0.size : Int) < t185) = false := decide_eq_false c13
                clear c13
                have H' := Aside0.mk H
                clear H
                go_wp2
                go_meet
                case rel => exact ⟨_, (decide ((t184.size : Int) > t185)), (by first | rfl | (simp; done) | (simp [*]; done)), H', ⟨by have := HJ2.out; first | omega | exact Nat.le_refl _⟩, ⟨by repeat (first | (with_reducible first | exact HB.out | apply below_alloc | apply pw_below_drewN | apply below_drew1) | exact HB.out)⟩⟩
          case rest =>
            clear HC10
            try clear c1
            try clear p2
            try clear c4
            try clear c4b0
            try clear c4b1
            try clear c5
            try clear c6
            try clear c7
            try clear c8
            try clear c9
            try clear c9b0
            try clear c9b1
            try clear c12
            try clear c12b0
            try clear c13
            try clear c13b0
            try clear p2
            obtain ⟨kq, x63_9, rfl, HA, HJ9, HB⟩ := hcut
            cases kq with
            | zero => exact absurd HA.out (by simp [depotlaw11_ChunkAgain.j1])
            | succ kj9 =>
              have H := HA.out
              clear HA
              simp only [depotlaw11_ChunkAgain.j1] at H
              by_cases c14 : x63_9 = true
              · subst c14
                have H1 : (some false) = some r := by rw [if_pos rfl] at H; exact H
                clear H
                have H := H1
                clear H1
                obtain rfl := Option.some.inj H
                exact absurd HTRUE.out (by decide)
              · replace c14 := Bool.eq_false_iff.mpr c14
                subst c14
                have H1 : (if 0 ≤ t185 then (if t185 ≤ (a0.size : Int) then (if (a0.extract 0 (t185 : Int).toNat).size + a1.size ≤ 9223372036854775807 then ((chunk_Decode.f ((a0.extract 0 (t185 : Int).toNat) ++ a1)).bind fun bt189 => ((chunk_Encode.f kj9 t184 7).bind fun bt192 => ((chunk_Decode.f bt192.1).bind fun bt194 => (if bt189.1.toList = t184.toList then (if bt189.2.1 = t185 then (if bt189.2.2 = 0 then (if bt192.2 = 0 then (if bt194.1.toList = t184.toList then (if bt194.2.2 = 0 then ((depotlaw11_chunks.f kj9).bind fun t197 => (some t197)) else (some false)) else (some false)) else (some false)) else (some false)) else (some false)) else (some false))))) else (none)) else (none)) else (none)) = some r := by rw [if_neg (show ¬ (false = true) by decide)] at H; exact H
                clear H
                have H := H1
                clear H1
                by_cases c15 : 0 ≤ t185
                · rw [if_pos c15] at H
                  have c15b0 := eq_true c15
                  have c15b1 : decide (0 ≤ t185) = true := decide_eq_true c15
                  clear c15
                  by_cases c16 : t185 ≤ (a0.size : Int)
                  · rw [if_pos c16] at H
                    have c16b0 := eq_true c16
                    have c16b1 : decide (t185 ≤ (a0.size : Int)) = true := decide_eq_true c16
                    clear c16
                    by_cases c17 : (a0.extract 0 (t185 : Int).toNat).size + a1.size ≤ 9223372036854775807
                    · rw [if_pos c17] at H
                      have c17b0 := eq_true c17
                      have c17b1 : decide ((a0.extract 0 (t185 : Int).toNat).size + a1.size ≤ 9223372036854775807) = true := decide_eq_true c17
                      (try (have c17b20 := c17b0; simp only [ByteArray.size_extract] at c17b20))
                      (try (have c17b21 := c17b1; simp only [ByteArray.size_extract] at c17b21))
                      try have c17b2 : (9223372036854775807 < (a0.extract 0 (t185 : Int).toNat).size + a1.size) = False := eq_false (Nat.not_lt.2 c17)
                      replace H := Option.bind_eq_some_iff.mp H
                      obtain ⟨⟨t189, t190, t191⟩, A180, H⟩ := H
                      replace H : ((chunk_Encode.f kj9 t184 7).bind fun bt192 => ((chunk_Decode.f bt192.1).bind fun bt194 => (if t189.toList = t184.toList then (if t190 = t185 then (if t191 = 0 then (if bt192.2 = 0 then (if bt194.1.toList = t184.toList then (if bt194.2.2 = 0 then ((depotlaw11_chunks.f kj9).bind fun t197 => (some t197)) else (some false)) else (some false)) else (some false)) else (some false)) else (some false)) else (some false)))) = some r := H
                      have A18 := Aside0.mk A180
                      clear A180
                      replace H := Option.bind_eq_some_iff.mp H
                      obtain ⟨⟨t192, t193⟩, A190, H⟩ := H
                      replace H : ((chunk_Decode.f t192).bind fun bt194 => (if t189.toList = t184.toList then (if t190 = t185 then (if t191 = 0 then (if t193 = 0 then (if bt194.1.toList = t184.toList then (if bt194.2.2 = 0 then ((depotlaw11_chunks.f kj9).bind fun t197 => (some t197)) else (some false)) else (some false)) else (some false)) else (some false)) else (some false)) else (some false))) = some r := H
                      have A19 := Aside0.mk A190
                      clear A190
                      replace H := Option.bind_eq_some_iff.mp H
                      obtain ⟨⟨t194, t195, t196⟩, A200, H⟩ := H
                      replace H : (if t189.toList = t184.toList then (if t190 = t185 then (if t191 = 0 then (if t193 = 0 then (if t194.toList = t184.toList then (if t196 = 0 then ((depotlaw11_chunks.f kj9).bind fun t197 => (some t197)) else (some false)) else (some false)) else (some false)) else (some false)) else (some false)) else (some false)) = some r := H
                      have A20 := Aside0.mk A200
                      clear A200
                      by_cases c21 : t189.toList = t184.toList
                      · rw [if_pos c21] at H
                        have c21b0 : (t189.toList == t184.toList) = true := beq_iff_eq.mpr c21
                        have c21b1 : (t189.toList != t184.toList) = false := bne_eq_false_iff_eq.mpr c21
                        clear c21
                        by_cases c22 : t190 = t185
                        · rw [if_pos c22] at H
                          have c22b0 : (t190 == t185) = true := beq_iff_eq.mpr c22
                          have c22b1 : (t190 != t185) = false := bne_eq_false_iff_eq.mpr c22
                          clear c22
                          by_cases c23 : t191 = 0
                          · rw [if_pos c23] at H
                            have c23b0 : (t191 == 0) = true := beq_iff_eq.mpr c23
                            have c23b1 : (t191 != 0) = false := bne_eq_false_iff_eq.mpr c23
                            clear c23
                            by_cases c24 : t193 = 0
                            · rw [if_pos c24] at H
                              have c24b0 : (t193 == 0) = true := beq_iff_eq.mpr c24
                              have c24b1 : (t193 != 0) = false := bne_eq_false_iff_eq.mpr c24
                              clear c24
                              by_cases c25 : t194.toList = t184.toList
                              · rw [if_pos c25] at H
                                have c25b0 : (t194.toList == t184.toList) = true := beq_iff_eq.mpr c25
                                have c25b1 : (t194.toList != t184.toList) = false := bne_eq_false_iff_eq.mpr c25
                                clear c25
                                by_cases c26 : t196 = 0
                                · rw [if_pos c26] at H
                                  have c26b0 : (t196 == 0) = true := beq_iff_eq.mpr c26
                                  have c26b1 : (t196 != 0) = false := bne_eq_false_iff_eq.mpr c26
                                  clear c26
                                  replace H := Option.bind_eq_some_iff.mp H
                                  obtain ⟨t197, A270, H⟩ := H
                                  replace H : (some t197) = some r := H
                                  have A27 := Aside0.mk A270
                                  clear A270
                                  obtain rfl := Option.some.inj H
                                  go_wp2_with (first | ((with_reducible refine gate_callee (f := 8) rfl ?_); refine goesL_ (some 70) rfl rfl Tryd.func8 (by kernel_rfl) rfl #[.string ((a0.extract 0 (t185 : Int).toNat) ++ a1)] rfl (by (try simp only [List.map_toArray, List.map_cons, List.map_nil]); first | done | rfl | (simp only [List.length_drop, List.length_take]; rfl)) ?_; (with_reducible refine (chunk_Decode.calls ((a0.extract 0 (t185 : Int).toNat) ++ a1) t189 t190 t191 _ ?side1 A18.out).mono ?_); (case side1 => first | exact HT | exact ⟨Hand.Laid.below HT.out (by repeat (first | (with_reducible first | exact HB.out | apply below_alloc | apply pw_below_drewN | apply below_drew1) | exact HB.out))⟩); rintro e w28 ⟨rfl, hb⟩; refine ⟨_, rfl, ?_⟩; have n0_ := Aside0.mk (below_step (by repeat (first | (with_reducible first | exact HB.out | apply below_alloc | apply pw_below_drewN | apply below_drew1) | exact HB.out)) hb); clear HB; have HB := n0_; clear n0_; (try clear hb); (try clear hb2); (try clear hk); (try clear hi)) | ((with_reducible refine gate_callee (f := 10) rfl ?_); refine goesL_ (some 76) rfl rfl Tryd.func10 (by kernel_rfl) rfl #[.string t184, .int .i64 7] rfl (by (try simp only [List.map_toArray, List.map_cons, List.map_nil]); first | done | rfl | (simp only [List.length_drop, List.length_take]; rfl)) ?_; (with_reducible refine (chunk_Encode.calls kj9 t184 7 t192 t193 _ A19.out).mono ?_); rintro e w29 ⟨rfl, hb⟩; refine ⟨_, rfl, ?_⟩; have n0_ := Aside0.mk (below_step (by repeat (first | (with_reducible first | exact HB.out | apply below_alloc | apply pw_below_drewN | apply below_drew1) | exact HB.out)) hb); clear HB; have HB := n0_; clear n0_; (try clear hb); (try clear hb2); (try clear hk); (try clear hi)) | ((with_reducible refine gate_callee (f := 8) rfl ?_); refine goesL_ (some 81) rfl rfl Tryd.func8 (by kernel_rfl) rfl #[.string t192] rfl (by (try simp only [List.map_toArray, List.map_cons, List.map_nil]); first | done | rfl | (simp only [List.length_drop, List.length_take]; rfl)) ?_; (with_reducible refine (chunk_Decode.calls t192 t194 t195 t196 _ ?side1 A20.out).mono ?_); (case side1 => first | exact HT | exact ⟨Hand.Laid.below HT.out (by repeat (first | (with_reducible first | exact HB.out | apply below_alloc | apply pw_below_drewN | apply below_drew1) | exact HB.out))⟩); rintro e w30 ⟨rfl, hb⟩; refine ⟨_, rfl, ?_⟩; have n0_ := Aside0.mk (below_step (by repeat (first | (with_reducible first | exact HB.out | apply below_alloc | apply pw_below_drewN | apply below_drew1) | exact HB.out)) hb); clear HB; have HB := n0_; clear n0_; (try clear hb); (try clear hb2); (try clear hk); (try clear hi)) | (go_at_call 7; (with_reducible refine (depotlaw11_chunks.calls kj9  t197 _ ?side2 ?side1 A27.out).mono ?_); (case side1 => first | exact HT | exact ⟨Hand.Laid.below HT.out (by repeat (first | (with_reducible first | exact HB.out | apply below_alloc | apply pw_below_drewN | apply below_drew1) | exact HB.out))⟩); (case side2 => first | exact ⟨rfl⟩ | exact HTRUE); rintro e w31 ⟨rfl, hb⟩; have n0_ := Aside0.mk (below_step (by repeat (first | (with_reducible first | exact HB.out | apply below_alloc | apply pw_below_drewN | apply below_drew1) | exact HB.out)) hb); clear HB; have HB := n0_; clear n0_; (try clear hb); (try clear hb2); (try clear hk); (try clear hi)))
                                  go_ret
                                  exact ⟨by first | rfl | (simp [errW_none, errW_some] <;> rfl) | (simp [*, errW_none, errW_some] <;> rfl), by repeat (first | (with_reducible first | exact HB.out | apply below_alloc | apply pw_below_drewN | apply below_drew1) | exact HB.out)⟩
                                · rw [if_neg c26] at H
                                  have c26b0 : (t196 == 0) = false := beq_eq_false_iff_ne.mpr c26
                                  have c26b1 : (t196 != 0) = true := bne_iff_ne.mpr c26
                                  obtain rfl := Option.some.inj H
                                  exact absurd HTRUE.out (by decide)
                              · rw [if_neg c25] at H
                                have c25b0 : (t194.toList == t184.toList) = false := beq_eq_false_iff_ne.mpr c25
                                have c25b1 : (t194.toList != t184.toList) = true := bne_iff_ne.mpr c25
                                obtain rfl := Option.some.inj H
                                exact absurd HTRUE.out (by decide)
                            · rw [if_neg c24] at H
                              have c24b0 : (t193 == 0) = false := beq_eq_false_iff_ne.mpr c24
                              have c24b1 : (t193 != 0) = true := bne_iff_ne.mpr c24
                              obtain rfl := Option.some.inj H
                              exact absurd HTRUE.out (by decide)
                          · rw [if_neg c23] at H
                            have c23b0 : (t191 == 0) = false := beq_eq_false_iff_ne.mpr c23
                            have c23b1 : (t191 != 0) = true := bne_iff_ne.mpr c23
                            obtain rfl := Option.some.inj H
                            exact absurd HTRUE.out (by decide)
                        · rw [if_neg c22] at H
                          have c22b0 : (t190 == t185) = false := beq_eq_false_iff_ne.mpr c22
                          have c22b1 : (t190 != t185) = true := bne_iff_ne.mpr c22
                          obtain rfl := Option.some.inj H
                          exact absurd HTRUE.out (by decide)
                      · rw [if_neg c21] at H
                        have c21b0 : (t189.toList == t184.toList) = false := beq_eq_false_iff_ne.mpr c21
                        have c21b1 : (t189.toList != t184.toList) = true := bne_iff_ne.mpr c21
                        obtain rfl := Option.some.inj H
                        exact absurd HTRUE.out (by decide)
                    · rw [if_neg c17] at H
                      exact absurd H (by simp)
                  · rw [if_neg c16] at H
                    exact absurd H (by simp)
                · rw [if_neg c15] at H
                  exact absurd H (by simp)
        · rw [if_neg c9] at H
          have c9b0 : (t186 == 0) = false := beq_eq_false_iff_ne.mpr c9
          have c9b1 : (t186 != 0) = true := bne_iff_ne.mpr c9
          by_cases c32 : t184.toList = ([] : List UInt8)
          · rw [if_pos c32] at H
            have c32b0 : (t184.toList == ([] : List UInt8)) = true := beq_iff_eq.mpr c32
            have c32b1 : (t184.toList != ([] : List UInt8)) = false := bne_eq_false_iff_eq.mpr c32
            clear c32
            by_cases c33 : t185 = 0
            · rw [if_pos c33] at H
              have c33b0 : (t185 == 0) = true := beq_iff_eq.mpr c33
              have c33b1 : (t185 != 0) = false := bne_eq_false_iff_eq.mpr c33
              clear c33
              by_cases c34 : t186 = 25
              · rw [if_pos c34] at H
                have c34b0 : (t186 == 25) = true := beq_iff_eq.mpr c34
                have c34b1 : (t186 != 25) = false := bne_eq_false_iff_eq.mpr c34
                clear c34
                replace H := Option.bind_eq_some_iff.mp H
                obtain ⟨t187, A350, H⟩ := H
                replace H : (some t187) = some r := H
                have A35 := Aside0.mk A350
                clear A350
                obtain rfl := Option.some.inj H
                go_wp2_with (first | ((with_reducible refine gate_callee (f := 8) rfl ?_); refine goesL_ (some 27) rfl rfl Tryd.func8 (by kernel_rfl) rfl #[.string a0] rfl (by (try simp only [List.map_toArray, List.map_cons, List.map_nil]); first | done | rfl | (simp only [List.length_drop, List.length_take]; rfl)) ?_; (with_reducible refine (chunk_Decode.calls a0 t184 t185 t186 _ ?side1 A8.out).mono ?_); (case side1 => first | exact HT | exact ⟨Hand.Laid.below HT.out (by repeat (first | (with_reducible first | exact HB.out | apply below_alloc | apply pw_below_drewN | apply below_drew1) | exact HB.out))⟩); rintro e w36 ⟨rfl, hb⟩; refine ⟨_, rfl, ?_⟩; have n0_ := Aside0.mk (below_step (by repeat (first | (with_reducible first | exact HB.out | apply below_alloc | apply pw_below_drewN | apply below_drew1) | exact HB.out)) hb); clear HB; have HB := n0_; clear n0_; (try clear hb); (try clear hb2); (try clear hk); (try clear hi)) | (go_at_call 7; (with_reducible refine (depotlaw11_chunks.calls kj2  t187 _ ?side2 ?side1 A35.out).mono ?_); (case side1 => first | exact HT | exact ⟨Hand.Laid.below HT.out (by repeat (first | (with_reducible first | exact HB.out | apply below_alloc | apply pw_below_drewN | apply below_drew1) | exact HB.out))⟩); (case side2 => first | exact ⟨rfl⟩ | exact HTRUE); rintro e w37 ⟨rfl, hb⟩; have n0_ := Aside0.mk (below_step (by repeat (first | (with_reducible first | exact HB.out | apply below_alloc | apply pw_below_drewN | apply below_drew1) | exact HB.out)) hb); clear HB; have HB := n0_; clear n0_; (try clear hb); (try clear hb2); (try clear hk); (try clear hi)))
                go_ret
                exact ⟨by first | rfl | (simp [errW_none, errW_some] <;> rfl) | (simp [*, errW_none, errW_some] <;> rfl), by repeat (first | (with_reducible first | exact HB.out | apply below_alloc | apply pw_below_drewN | apply below_drew1) | exact HB.out)⟩
              · rw [if_neg c34] at H
                have c34b0 : (t186 == 25) = false := beq_eq_false_iff_ne.mpr c34
                have c34b1 : (t186 != 25) = true := bne_iff_ne.mpr c34
                by_cases c38 : t186 = 4
                · rw [if_pos c38] at H
                  have c38b0 : (t186 == 4) = true := beq_iff_eq.mpr c38
                  have c38b1 : (t186 != 4) = false := bne_eq_false_iff_eq.mpr c38
                  clear c38
                  replace H := Option.bind_eq_some_iff.mp H
                  obtain ⟨t188, A390, H⟩ := H
                  replace H : (some t188) = some r := H
                  have A39 := Aside0.mk A390
                  clear A390
                  obtain rfl := Option.some.inj H
                  go_wp2_with (first | ((with_reducible refine gate_callee (f := 8) rfl ?_); refine goesL_ (some 27) rfl rfl Tryd.func8 (by kernel_rfl) rfl #[.string a0] rfl (by (try simp only [List.map_toArray, List.map_cons, List.map_nil]); first | done | rfl | (simp only [List.length_drop, List.length_take]; rfl)) ?_; (with_reducible refine (chunk_Decode.calls a0 t184 t185 t186 _ ?side1 A8.out).mono ?_); (case side1 => first | exact HT | exact ⟨Hand.Laid.below HT.out (by repeat (first | (with_reducible first | exact HB.out | apply below_alloc | apply pw_below_drewN | apply below_drew1) | exact HB.out))⟩); rintro e w40 ⟨rfl, hb⟩; refine ⟨_, rfl, ?_⟩; have n0_ := Aside0.mk (below_step (by repeat (first | (with_reducible first | exact HB.out | apply below_alloc | apply pw_below_drewN | apply below_drew1) | exact HB.out)) hb); clear HB; have HB := n0_; clear n0_; (try clear hb); (try clear hb2); (try clear hk); (try clear hi)) | (go_at_call 7; (with_reducible refine (depotlaw11_chunks.calls kj2  t188 _ ?side2 ?side1 A39.out).mono ?_); (case side1 => first | exact HT | exact ⟨Hand.Laid.below HT.out (by repeat (first | (with_reducible first | exact HB.out | apply below_alloc | apply pw_below_drewN | apply below_drew1) | exact HB.out))⟩); (case side2 => first | exact ⟨rfl⟩ | exact HTRUE); rintro e w41 ⟨rfl, hb⟩; have n0_ := Aside0.mk (below_step (by repeat (first | (with_reducible first | exact HB.out | apply below_alloc | apply pw_below_drewN | apply below_drew1) | exact HB.out)) hb); clear HB; have HB := n0_; clear n0_; (try clear hb); (try clear hb2); (try clear hk); (try clear hi)))
                  go_ret
                  exact ⟨by first | rfl | (simp [errW_none, errW_some] <;> rfl) | (simp [*, errW_none, errW_some] <;> rfl), by repeat (first | (with_reducible first | exact HB.out | apply below_alloc | apply pw_below_drewN | apply below_drew1) | exact HB.out)⟩
                · rw [if_neg c38] at H
                  have c38b0 : (t186 == 4) = false := beq_eq_false_iff_ne.mpr c38
                  have c38b1 : (t186 != 4) = true := bne_iff_ne.mpr c38
                  obtain rfl := Option.some.inj H
                  exact absurd HTRUE.out (by decide)
            · rw [if_neg c33] at H
              have c33b0 : (t185 == 0) = false := beq_eq_false_iff_ne.mpr c33
              have c33b1 : (t185 != 0) = true := bne_iff_ne.mpr c33
              obtain rfl := Option.some.inj H
              exact absurd HTRUE.out (by decide)
          · rw [if_neg c32] at H
            have c32b0 : (t184.toList == ([] : List UInt8)) = false := beq_eq_false_iff_ne.mpr c32
            have c32b1 : (t184.toList != ([] : List UInt8)) = true := bne_iff_ne.mpr c32
            obtain rfl := Option.some.inj H
            exact absurd HTRUE.out (by decide)

end Go.Proofs.YtmmmfippfoginaaDoor.PR
