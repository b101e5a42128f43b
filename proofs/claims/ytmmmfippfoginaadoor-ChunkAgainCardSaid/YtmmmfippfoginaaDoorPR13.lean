-- Out of the translation, by a program of this session: each function that a law comes to as a Lean function, and that the machine's call does what it says. Lean checks it.
import Derived.Test.YtmmmfippfoginaaDoorPR0
import Derived.Test.YtmmmfippfoginaaDoorPR2
namespace Go.Proofs.YtmmmfippfoginaaDoor.PR
open Go.RowKit Go.Proofs.YtmmmfippfoginaaDoorW.PrintWords Go.Proofs.YtmmmfippfoginaaDoorW.PrintLast Go.Proofs.YtmmmfippfoginaaDoorW.PrintMore
attribute [local go_sem] max2_int min2_int max_two min_two max_three min_three max_four min_four   -- for this text's walks alone
set_option linter.unusedVariables false
set_option linter.unusedSimpArgs false

/-! ### depotlaw11_ChunkBack: function 5 -/
mutual
def depotlaw11_ChunkBack.j0 : Nat → ByteArray → Int → ByteArray → Int → Bool → Option (Bool)
  | 0, _, _, _, _, _ => none
  | k + 1, x0, x1, x2, x3, x21 => if x21 = true then ((depotlaw11_chunks.f k).bind fun t170 => (some t170)) else ((chunk_Encode.f k x0 x1).bind fun bt171 => (if bt171.2 = 0 then (if bt171.1.size + x2.size ≤ 9223372036854775807 then ((chunk_Decode.f (bt171.1 ++ x2)).bind fun bt175 => (if bt175.1.toList = x0.toList then (if bt175.2.1 = (bt171.1.size : Int) then (depotlaw11_ChunkBack.j1 k x3 bt171.1 (bt175.2.2 != 0)) else (depotlaw11_ChunkBack.j1 k x3 bt171.1 true)) else (depotlaw11_ChunkBack.j1 k x3 bt171.1 true))) else (none)) else (if bt171.1.toList = ([] : List UInt8) then (if x1 < 1 then ((depotlaw11_chunks.f k).bind fun t173 => (some t173)) else (if x1 > 65536 then ((depotlaw11_chunks.f k).bind fun t174 => (some t174)) else (some false))) else (some false))))
def depotlaw11_ChunkBack.j1 : Nat → Int → ByteArray → Bool → Option (Bool)
  | 0, _, _, _ => none
  | k + 1, x3, x9, x64 => if x64 = true then (some false) else (if x3 < 0 then (depotlaw11_ChunkBack.j2 k x3 x9 true) else (depotlaw11_ChunkBack.j2 k x3 x9 (decide (x3 ≥ (x9.size : Int)))))
def depotlaw11_ChunkBack.j2 : Nat → Int → ByteArray → Bool → Option (Bool)
  | 0, _, _, _ => none
  | k + 1, x3, x9, x72 => if x72 = true then ((depotlaw11_chunks.f k).bind fun t178 => (some t178)) else (if 0 ≤ x3 then (if x3 ≤ (x9.size : Int) then ((chunk_Decode.f (x9.extract 0 (x3 : Int).toNat)).bind fun bt179 => (if bt179.1.toList = ([] : List UInt8) then (if bt179.2.1 = 0 then (if bt179.2.2 = 25 then ((depotlaw11_chunks.f k).bind fun t182 => (some t182)) else (some false)) else (some false)) else (some false))) else (none)) else (none))
end
def depotlaw11_ChunkBack.f (k : Nat) (a0 : ByteArray) (a1 : Int) (a2 : ByteArray) (a3 : Int) : Option (Bool) := if (a0.size : Int) > 2000 then (depotlaw11_ChunkBack.j0 k a0 a1 a2 a3 true) else (depotlaw11_ChunkBack.j0 k a0 a1 a2 a3 (decide ((a2.size : Int) > 2000)))
theorem depotlaw11_ChunkBack.mono_l : ∀ k, (∀ y0 y1 y2 y3 y4, LeO (depotlaw11_ChunkBack.j0 k y0 y1 y2 y3 y4) (depotlaw11_ChunkBack.j0 (k + 1) y0 y1 y2 y3 y4)) ∧ (∀ y0 y1 y2, LeO (depotlaw11_ChunkBack.j1 k y0 y1 y2) (depotlaw11_ChunkBack.j1 (k + 1) y0 y1 y2)) ∧ (∀ y0 y1 y2, LeO (depotlaw11_ChunkBack.j2 k y0 y1 y2) (depotlaw11_ChunkBack.j2 (k + 1) y0 y1 y2))
  | 0 => ⟨fun _ _ _ _ _ r h => by simp [depotlaw11_ChunkBack.j0] at h, fun _ _ _ r h => by simp [depotlaw11_ChunkBack.j1] at h, fun _ _ _ r h => by simp [depotlaw11_ChunkBack.j2] at h⟩
  | k + 1 => by
    obtain ⟨ih0, ih1, ih2⟩ := depotlaw11_ChunkBack.mono_l k
    refine ⟨?_, ?_, ?_⟩
    · intro y0 y1 y2 y3 y4
      unfold depotlaw11_ChunkBack.j0
      repeat' first
      | (with_reducible exact ih0 _ _ _ _ _)
      | (with_reducible exact ih1 _ _ _)
      | (with_reducible exact ih2 _ _ _)
      | (with_reducible exact chunk_Encode.mono _ _ _)
      | (with_reducible exact depotlaw11_chunks.mono _)
      | (with_reducible exact LeO.refl _)
      | (with_reducible exact LeO.none _)
      | (with_reducible refine LeO.ite ?_ ?_)
      | (with_reducible refine LeO.bind ?_ (fun _ => ?_))
      | exact ih0 _ _ _ _ _
      | exact ih1 _ _ _
      | exact ih2 _ _ _
      | exact chunk_Encode.mono _ _ _
      | exact depotlaw11_chunks.mono _
      | exact LeO.none _
      | refine LeO.ite ?_ ?_
      | refine LeO.bind ?_ (fun _ => ?_)
    · intro y0 y1 y2
      unfold depotlaw11_ChunkBack.j1
      repeat' first
      | (with_reducible exact ih0 _ _ _ _ _)
      | (with_reducible exact ih1 _ _ _)
      | (with_reducible exact ih2 _ _ _)
      | (with_reducible exact chunk_Encode.mono _ _ _)
      | (with_reducible exact depotlaw11_chunks.mono _)
      | (with_reducible exact LeO.refl _)
      | (with_reducible exact LeO.none _)
      | (with_reducible refine LeO.ite ?_ ?_)
      | (with_reducible refine LeO.bind ?_ (fun _ => ?_))
      | exact ih0 _ _ _ _ _
      | exact ih1 _ _ _
      | exact ih2 _ _ _
      | exact chunk_Encode.mono _ _ _
      | exact depotlaw11_chunks.mono _
      | exact LeO.none _
      | refine LeO.ite ?_ ?_
      | refine LeO.bind ?_ (fun _ => ?_)
    · intro y0 y1 y2
      unfold depotlaw11_ChunkBack.j2
      repeat' first
      | (with_reducible exact ih0 _ _ _ _ _)
      | (with_reducible exact ih1 _ _ _)
      | (with_reducible exact ih2 _ _ _)
      | (with_reducible exact chunk_Encode.mono _ _ _)
      | (with_reducible exact depotlaw11_chunks.mono _)
      | (with_reducible exact LeO.refl _)
      | (with_reducible exact LeO.none _)
      | (with_reducible refine LeO.ite ?_ ?_)
      | (with_reducible refine LeO.bind ?_ (fun _ => ?_))
      | exact ih0 _ _ _ _ _
      | exact ih1 _ _ _
      | exact ih2 _ _ _
      | exact chunk_Encode.mono _ _ _
      | exact depotlaw11_chunks.mono _
      | exact LeO.none _
      | refine LeO.ite ?_ ?_
      | refine LeO.bind ?_ (fun _ => ?_)
theorem depotlaw11_ChunkBack.mono : ∀ a0 a1 a2 a3 k, LeO (depotlaw11_ChunkBack.f k a0 a1 a2 a3) (depotlaw11_ChunkBack.f (k + 1) a0 a1 a2 a3) := by
  intro a0 a1 a2 a3 k
  obtain ⟨ih0, ih1, ih2⟩ := depotlaw11_ChunkBack.mono_l k
  unfold depotlaw11_ChunkBack.f
  repeat' first
      | (with_reducible exact ih0 _ _ _ _ _)
      | (with_reducible exact ih1 _ _ _)
      | (with_reducible exact ih2 _ _ _)
      | (with_reducible exact chunk_Encode.mono _ _ _)
      | (with_reducible exact depotlaw11_chunks.mono _)
      | (with_reducible exact LeO.refl _)
      | (with_reducible exact LeO.none _)
      | (with_reducible refine LeO.ite ?_ ?_)
      | (with_reducible refine LeO.bind ?_ (fun _ => ?_))
      | exact ih0 _ _ _ _ _
      | exact ih1 _ _ _
      | exact ih2 _ _ _
      | exact chunk_Encode.mono _ _ _
      | exact depotlaw11_chunks.mono _
      | exact LeO.none _
      | refine LeO.ite ?_ ?_
      | refine LeO.bind ?_ (fun _ => ?_)
set_option maxHeartbeats 8000000 in
set_option maxRecDepth 100000 in
theorem depotlaw11_ChunkBack.calls (k : Nat) (a0 : ByteArray) (a1 : Int) (a2 : ByteArray) (a3 : Int) (r : Bool) (w : World) (HTRUE : Aside0 (r = true)) (HT : Aside0 (Hand.Laid w)) (h : depotlaw11_ChunkBack.f k a0 a1 a2 a3 = some r) :
    Calls Tryd.prog 5 #[.string a0, .int .i64 a1, .string a2, .int .i64 a3] w fun e w' => e = .returned (.bool r) ∧ Below w.heap.size w w' := by
  have HB := Aside0.mk (Below.refl w.heap.size w)
  have H : (if (a0.size : Int) > 2000 then (depotlaw11_ChunkBack.j0 k a0 a1 a2 a3 true) else (depotlaw11_ChunkBack.j0 k a0 a1 a2 a3 (decide ((a2.size : Int) > 2000)))) = some r := h
  clear h
  have HC5 := Aside0.mk H
  clear H
  go_enter Tryd.func5, Tryd.ntmps5
  go_upto_region 1 with (fail)
  go_cut [21] (fun v21 wc => ∃ (kq : Nat) (x21_4 : Bool), v21 = .bool x21_4 ∧ Aside0 (depotlaw11_ChunkBack.j0 kq a0 a1 a2 a3 x21_4 = some r) ∧ Aside0 (kq ≤ k) ∧ Aside0 (Below w.heap.size w wc))
  case first =>
    have H := HC5.out
    clear HC5
    by_cases c6 : (a0.size : Int) > 2000
    · rw [if_pos c6] at H
      have c6b0 : decide (2000 < (a0.size : Int)) = true := decide_eq_true c6
      have c6b1 : decide (2000 < a0.size) = true := decide_eq_true (by omega)
      clear c6
      (first | rw [c6b0] | (simp only [i64_w, i32_w]; rw [c6b0]) | skip)
      have H' := Aside0.mk H
      clear H
      go_wp2
      go_meet
      case rel => exact ⟨_, (true), (by first | rfl | (simp; done) | (simp [*]; done)), H', ⟨by first | omega | exact Nat.le_refl _⟩, ⟨by repeat (first | (with_reducible first | exact HB.out | apply below_alloc | apply pw_below_drewN | apply below_drew1) | exact HB.out)⟩⟩
    · rw [if_neg c6] at H
      have c6b0 : decide (2000 < (a0.size : Int)) = false := decide_eq_false c6
      have c6b1 : decide (2000 < a0.size) = false := decide_eq_false (by omega)
      clear c6
      (first | rw [c6b0] | (simp only [i64_w, i32_w]; rw [c6b0]) | skip)
      have H' := Aside0.mk H
      clear H
      go_wp2
      go_meet
      case rel => exact ⟨_, (decide ((a2.size : Int) > 2000)), (by first | rfl | (simp; done) | (simp [*]; done)), H', ⟨by first | omega | exact Nat.le_refl _⟩, ⟨by repeat (first | (with_reducible first | exact HB.out | apply below_alloc | apply pw_below_drewN | apply below_drew1) | exact HB.out)⟩⟩
  case rest =>
    clear HC5
    try clear p2
    try clear c5
    try clear c6
    try clear c6b0
    try clear c6b1
    obtain ⟨kq, x21_4, rfl, HA, HJ4, HB⟩ := hcut
    cases kq with
    | zero => exact absurd HA.out (by simp [depotlaw11_ChunkBack.j0])
    | succ kj4 =>
      have H := HA.out
      clear HA
      simp only [depotlaw11_ChunkBack.j0] at H
      by_cases c7 : x21_4 = true
      · subst c7
        have H1 : ((depotlaw11_chunks.f kj4).bind fun t170 => (some t170)) = some r := by rw [if_pos rfl] at H; exact H
        clear H
        have H := H1
        clear H1
        replace H := Option.bind_eq_some_iff.mp H
        obtain ⟨t170, A80, H⟩ := H
        replace H : (some t170) = some r := H
        have A8 := Aside0.mk A80
        clear A80
        obtain rfl := Option.some.inj H
        go_wp2_with (first | ((with_reducible refine gate_callee (f := 7) rfl ?_); refine goesL_ (some 22) rfl rfl Tryd.func7 (by kernel_rfl) rfl #[] rfl (by (try simp only [List.map_toArray, List.map_cons, List.map_nil]); first | done | rfl | (simp only [List.length_drop, List.length_take]; rfl)) ?_; (with_reducible refine (depotlaw11_chunks.calls kj4  t170 _ ?side2 ?side1 A8.out).mono ?_); (case side1 => first | exact HT | exact ⟨Hand.Laid.below HT.out (by repeat (first | (with_reducible first | exact HB.out | apply below_alloc | apply pw_below_drewN | apply below_drew1) | exact HB.out))⟩); (case side2 => first | exact ⟨rfl⟩ | exact HTRUE); rintro e w9 ⟨rfl, hb⟩; refine ⟨_, rfl, ?_⟩; have n0_ := Aside0.mk (below_step (by repeat (first | (with_reducible first | exact HB.out | apply below_alloc | apply pw_below_drewN | apply below_drew1) | exact HB.out)) hb); clear HB; have HB := n0_; clear n0_; (try clear hb); (try clear hb2); (try clear hk); (try clear hi)))
        go_ret
        exact ⟨by first | rfl | (simp [errW_none, errW_some] <;> rfl) | (simp [*, errW_none, errW_some] <;> rfl), by repeat (first | (with_reducible first | exact HB.out | apply below_alloc | apply pw_below_drewN | apply below_drew1) | exact HB.out)⟩
      · replace c7 := Bool.eq_false_iff.mpr c7
        subst c7
        have H1 : ((chunk_Encode.f kj4 a0 a1).bind fun bt171 => (if bt171.2 = 0 then (if bt171.1.size + a2.size ≤ 9223372036854775807 then ((chunk_Decode.f (bt171.1 ++ a2)).bind fun bt175 => (if bt175.1.toList = a0.toList then (if bt175.2.1 = (bt171.1.size : Int) then (depotlaw11_ChunkBack.j1 kj4 a3 bt171.1 (bt175.2.2 != 0)) else (depotlaw11_ChunkBack.j1 kj4 a3 bt171.1 true)) else (depotlaw11_ChunkBack.j1 kj4 a3 bt171.1 true))) else (none)) else (if bt171.1.toList = ([] : List UInt8) then (if a1 < 1 then ((depotlaw11_chunks.f kj4).bind fun t173 => (some t173)) else (if a1 > 65536 then ((depotlaw11_chunks.f kj4).bind fun t174 => (some t174)) else (some false))) else (some false)))) = some r := by rw [if_neg (show ¬ (false = true) by decide)] at H; exact H
        clear H
        have H := H1
        clear H1
        replace H := Option.bind_eq_some_iff.mp H
        obtain ⟨⟨t171, t172⟩, A100, H⟩ := H
        replace H : (if t172 = 0 then (if t171.size + a2.size ≤ 9223372036854775807 then ((chunk_Decode.f (t171 ++ a2)).bind fun bt175 => (if bt175.1.toList = a0.toList then (if bt175.2.1 = (t171.size : Int) then (depotlaw11_ChunkBack.j1 kj4 a3 t171 (bt175.2.2 != 0)) else (depotlaw11_ChunkBack.j1 kj4 a3 t171 true)) else (depotlaw11_ChunkBack.j1 kj4 a3 t171 true))) else (none)) else (if t171.toList = ([] : List UInt8) then (if a1 < 1 then ((depotlaw11_chunks.f kj4).bind fun t173 => (some t173)) else (if a1 > 65536 then ((depotlaw11_chunks.f kj4).bind fun t174 => (some t174)) else (some false))) else (some false))) = some r := H
        have A10 := Aside0.mk A100
        clear A100
        by_cases c11 : t172 = 0
        · rw [if_pos c11] at H
          have c11b0 : (t172 == 0) = true := beq_iff_eq.mpr c11
          have c11b1 : (t172 != 0) = false := bne_eq_false_iff_eq.mpr c11
          clear c11
          by_cases c12 : t171.size + a2.size ≤ 9223372036854775807
          · rw [if_pos c12] at H
            have c12b0 := eq_true c12
            have c12b1 : decide (t171.size + a2.size ≤ 9223372036854775807) = true := decide_eq_true c12
            try have c12b2 : (9223372036854775807 < t171.size + a2.size) = False := eq_false (Nat.not_lt.2 c12)
            replace H := Option.bind_eq_some_iff.mp H
            obtain ⟨⟨t175, t176, t177⟩, A130, H⟩ := H
            replace H : (if t175.toList = a0.toList then (if t176 = (t171.size : Int) then (depotlaw11_ChunkBack.j1 kj4 a3 t171 (t177 != 0)) else (depotlaw11_ChunkBack.j1 kj4 a3 t171 true)) else (depotlaw11_ChunkBack.j1 kj4 a3 t171 true)) = some r := H
            have A13 := Aside0.mk A130
            clear A130
            have HC14 := Aside0.mk H
            clear H
            go_upto_region 7 with (first | ((with_reducible refine gate_callee (f := 10) rfl ?_); refine goesL_ (some 26) rfl rfl Tryd.func10 (by kernel_rfl) rfl #[.string a0, .int .i64 a1] rfl (by (try simp only [List.map_toArray, List.map_cons, List.map_nil]); first | done | rfl | (simp only [List.length_drop, List.length_take]; rfl)) ?_; (with_reducible refine (chunk_Encode.calls kj4 a0 a1 t171 t172 _ A10.out).mono ?_); rintro e w15 ⟨rfl, hb⟩; refine ⟨_, rfl, ?_⟩; have n0_ := Aside0.mk (below_step (by repeat (first | (with_reducible first | exact HB.out | apply below_alloc | apply pw_below_drewN | apply below_drew1) | exact HB.out)) hb); clear HB; have HB := n0_; clear n0_; (try clear hb); (try clear hb2); (try clear hk); (try clear hi)) | ((with_reducible refine gate_callee (f := 8) rfl ?_); refine goesL_ (some 48) rfl rfl Tryd.func8 (by kernel_rfl) rfl #[.string (t171 ++ a2)] rfl (by (try simp only [List.map_toArray, List.map_cons, List.map_nil]); first | done | rfl | (simp only [List.length_drop, List.length_take]; rfl)) ?_; (with_reducible refine (chunk_Decode.calls (t171 ++ a2) t175 t176 t177 _ ?side1 A13.out).mono ?_); (case side1 => first | exact HT | exact ⟨Hand.Laid.below HT.out (by repeat (first | (with_reducible first | exact HB.out | apply below_alloc | apply pw_below_drewN | apply below_drew1) | exact HB.out))⟩); rintro e w16 ⟨rfl, hb⟩; refine ⟨_, rfl, ?_⟩; have n0_ := Aside0.mk (below_step (by repeat (first | (with_reducible first | exact HB.out | apply below_alloc | apply pw_below_drewN | apply below_drew1) | exact HB.out)) hb); clear HB; have HB := n0_; clear n0_; (try clear hb); (try clear hb2); (try clear hk); (try clear hi)))
            (try simp only [Act.put, List.setIfInBounds_toArray, List.set_cons_zero, List.set_cons_succ])
            go_cut [64] (fun v64 wc => ∃ (kq : Nat) (x64_13 : Bool), v64 = .bool x64_13 ∧ Aside0 (depotlaw11_ChunkBack.j1 kq a3 t171 x64_13 = some r) ∧ Aside0 (kq ≤ kj4) ∧ Aside0 (Below w.heap.size w wc))
            case first =>
              have H := HC14.out
              clear HC14
              by_cases c17 : t175.toList = a0.toList
              · rw [if_pos c17] at H
                have c17b0 : (t175.toList == a0.toList) = true := beq_iff_eq.mpr c17
                have c17b1 : (t175.toList != a0.toList) = false := bne_eq_false_iff_eq.mpr c17
                clear c17
                (first | rw [c17b0] | (simp only [i64_w, i32_w]; rw [c17b0]) | skip)
                by_cases c18 : t176 = (t171.size : Int)
                · rw [if_pos c18] at H
                  have c18b0 : (t176 == (t171.size : Int)) = true := beq_iff_eq.mpr c18
                  have c18b1 : (t176 != (t171.size : Int)) = false := bne_eq_false_iff_eq.mpr c18
                  clear c18
                  have H' := Aside0.mk H
                  clear H
                  go_wp2
                  go_meet
                  case rel => exact ⟨_, ((t177 != 0)), (by first | rfl | (simp; done) | (simp [*]; done)), H', ⟨by have := HJ4.out; first | omega | exact Nat.le_refl _⟩, ⟨by repeat (first | (with_reducible first | exact HB.out | apply below_alloc | apply pw_below_drewN | apply below_drew1) | exact HB.out)⟩⟩
                · rw [if_neg c18] at H
                  have c18b0 : (t176 == (t171.size : Int)) = false := beq_eq_false_iff_ne.mpr c18
                  have c18b1 : (t176 != (t171.size : Int)) = true := bne_iff_ne.mpr c18
                  have H' := Aside0.mk H
                  clear H
                  go_wp2
                  go_meet
                  case rel => exact ⟨_, (true), (by first | rfl | (simp; done) | (simp [*]; done)), H', ⟨by have := HJ4.out; first | omega | exact Nat.le_refl _⟩, ⟨by repeat (first | (with_reducible first | exact HB.out | apply below_alloc | apply pw_below_drewN | apply below_drew1) | exact HB.out)⟩⟩
              · rw [if_neg c17] at H
                have c17b0 : (t175.toList == a0.toList) = false := beq_eq_false_iff_ne.mpr c17
                have c17b1 : (t175.toList != a0.toList) = true := bne_iff_ne.mpr c17
                (first | rw [c17b0] | (simp only [i64_w, i32_w]; rw [c17b0]) | skip)
                have H' := Aside0.mk H
                clear H
                go_wp2
                go_meet
                case rel => exact ⟨_, (true), (by first | rfl | (simp; done) | (simp [*]; done)), H', ⟨by have := HJ4.out; first | omega | exact Nat.le_refl _⟩, ⟨by repeat (first | (with_reducible first | exact HB.out | apply below_alloc | apply pw_below_drewN | apply below_drew1) | exact HB.out)⟩⟩
            case rest =>
              clear HC14
              try clear c1
              try clear p2
              try clear c5
              try clear c6
              try clear c6b0
              try clear c6b1
              try clear c7
              try clear c8
              try clear c10
              try clear c11
              try clear c11b0
              try clear c11b1
              try clear c12
              try clear c12b0
              try clear c12b1
              try clear c12b2
              try clear c17
              try clear c17b0
              try clear c17b1
              try clear c18
              try clear c18b0
              try clear c18b1
              try clear p2
              obtain ⟨kq, x64_13, rfl, HA, HJ13, HB⟩ := hcut
              cases kq with
              | zero => exact absurd HA.out (by simp [depotlaw11_ChunkBack.j1])
              | succ kj13 =>
                have H := HA.out
                clear HA
                simp only [depotlaw11_ChunkBack.j1] at H
                by_cases c19 : x64_13 = true
                · subst c19
                  have H1 : (some false) = some r := by rw [if_pos rfl] at H; exact H
                  clear H
                  have H := H1
                  clear H1
                  obtain rfl := Option.some.inj H
                  exact absurd HTRUE.out (by decide)
                · replace c19 := Bool.eq_false_iff.mpr c19
                  subst c19
                  have H1 : (if a3 < 0 then (depotlaw11_ChunkBack.j2 kj13 a3 t171 true) else (depotlaw11_ChunkBack.j2 kj13 a3 t171 (decide (a3 ≥ (t171.size : Int))))) = some r := by rw [if_neg (show ¬ (false = true) by decide)] at H; exact H
                  clear H
                  have H := H1
                  clear H1
                  have HC20 := Aside0.mk H
                  clear H
                  go_upto_region 9 with (fail)
                  go_cut [72] (fun v72 wc => ∃ (kq : Nat) (x72_19 : Bool), v72 = .bool x72_19 ∧ Aside0 (depotlaw11_ChunkBack.j2 kq a3 t171 x72_19 = some r) ∧ Aside0 (kq ≤ kj13) ∧ Aside0 (Below w.heap.size w wc))
                  case first =>
                    have H := HC20.out
                    clear HC20
                    by_cases c21 : a3 < 0
                    · rw [if_pos c21] at H
                      have c21b0 : decide (a3 < 0) = true := decide_eq_true c21
                      clear c21
                      (first | rw [c21b0] | (simp only [i64_w, i32_w]; rw [c21b0]) | skip)
                      have H' := Aside0.mk H
                      clear H
                      go_wp2
                      go_meet
                      case rel => exact ⟨_, (true), (by first | rfl | (simp; done) | (simp [*]; done)), H', ⟨by have := HJ4.out; have := HJ13.out; first | omega | exact Nat.le_refl _⟩, ⟨by repeat (first | (with_reducible first | exact HB.out | apply below_alloc | apply pw_below_drewN | apply below_drew1) | exact HB.out)⟩⟩
                    · rw [if_neg c21] at H
                      have c21b0 : decide (a3 < 0) = false := decide_eq_false c21
                      clear c21
                      (first | rw [c21b0] | (simp only [i64_w, i32_w]; rw [c21b0]) | skip)
                      have H' := Aside0.mk H
                      clear H
                      go_wp2
                      go_meet
                      case rel => exact ⟨_, (decide (a3 ≥ (t171.size : Int))), (by first | rfl | (simp; done) | (simp [*]; done)), H', ⟨by have := HJ4.out; have := HJ13.out; first | omega | exact Nat.le_refl _⟩, ⟨by repeat (first | (with_reducible first | exact HB.out | apply below_alloc | apply pw_below_drewN | apply below_drew1) | exact HB.out)⟩⟩
                  case rest =>
                    clear HC20
                    try clear c1
                    try clear c2
                    try clear p2
                    try clear c5
                    try clear c6
                    try clear c6b0
                    try clear c6b1
                    try clear c7
                    try clear c8
                    try clear c10
                    try clear c11
                    try clear c11b0
                    try clear c11b1
                    try clear c12
                    try clear c12b0
                    try clear c12b1
                    try clear c12b2
                    try clear c17
                    try clear c17b0
                    try clear c17b1
                    try clear c18
                    try clear c18b0
                    try clear c18b1
                    try clear c19
                    try clear c21
                    try clear c21b0
                    try clear p2
                    obtain ⟨kq, x72_19, rfl, HA, HJ19, HB⟩ := hcut
                    cases kq with
                    | zero => exact absurd HA.out (by simp [depotlaw11_ChunkBack.j2])
                    | succ kj19 =>
                      have H := HA.out
                      clear HA
                      simp only [depotlaw11_ChunkBack.j2] at H
                      by_cases c22 : x72_19 = true
                      · subst c22
                        have H1 : ((depotlaw11_chunks.f kj19).bind fun t178 => (some t178)) = some r := by rw [if_pos rfl] at H; exact H
                        clear H
                        have H := H1
                        clear H1
                        replace H := Option.bind_eq_some_iff.mp H
                        obtain ⟨t178, A230, H⟩ := H
                        replace H : (some t178) = some r := H
                        have A23 := Aside0.mk A230
                        clear A230
                        obtain rfl := Option.some.inj H
                        go_wp2_with (first | ((with_reducible refine gate_callee (f := 7) rfl ?_); refine goesL_ (some 73) rfl rfl Tryd.func7 (by kernel_rfl) rfl #[] rfl (by (try simp only [List.map_toArray, List.map_cons, List.map_nil]); first | done | rfl | (simp only [List.length_drop, List.length_take]; rfl)) ?_; (with_reducible refine (depotlaw11_chunks.calls kj19  t178 _ ?side2 ?side1 A23.out).mono ?_); (case side1 => first | exact HT | exact ⟨Hand.Laid.below HT.out (by repeat (first | (with_reducible first | exact HB.out | apply below_alloc | apply pw_below_drewN | apply below_drew1) | exact HB.out))⟩); (case side2 => first | exact ⟨rfl⟩ | exact HTRUE); rintro e w24 ⟨rfl, hb⟩; refine ⟨_, rfl, ?_⟩; have n0_ := Aside0.mk (below_step (by repeat (first | (with_reducible first | exact HB.out | apply below_alloc | apply pw_below_drewN | apply below_drew1) | exact HB.out)) hb); clear HB; have HB := n0_; clear n0_; (try clear hb); (try clear hb2); (try clear hk); (try clear hi)))
                        go_ret
                        exact ⟨by first | rfl | (simp [errW_none, errW_some] <;> rfl) | (simp [*, errW_none, errW_some] <;> rfl), by repeat (first | (with_reducible first | exact HB.out | apply below_alloc | apply pw_below_drewN | apply below_drew1) | exact HB.out)⟩
                      · replace c22 := Bool.eq_false_iff.mpr c22
                        subst c22
                        have H1 : (if 0 ≤ a3 then (if a3 ≤ (t171.size : Int) then ((chunk_Decode.f (t171.extract 0 (a3 : Int).toNat)).bind fun bt179 => (if bt179.1.toList = ([] : List UInt8) then (if bt179.2.1 = 0 then (if bt179.2.2 = 25 then ((depotlaw11_chunks.f kj19).bind fun t182 => (some t182)) else (some false)) else (some false)) else (some false))) else (none)) else (none)) = some r := by rw [if_neg (show ¬ (false = true) by decide)] at H; exact H
                        clear H
                        have H := H1
                        clear H1
                        by_cases c25 : 0 ≤ a3
                        · rw [if_pos c25] at H
                          have c25b0 := eq_true c25
                          have c25b1 : decide (0 ≤ a3) = true := decide_eq_true c25
                          clear c25
                          by_cases c26 : a3 ≤ (t171.size : Int)
                          · rw [if_pos c26] at H
                            have c26b0 := eq_true c26
                            have c26b1 : decide (a3 ≤ (t171.size : Int)) = true := decide_eq_true c26
                            clear c26
                            replace H := Option.bind_eq_some_iff.mp H
                            obtain ⟨⟨t179, t180, t181⟩, A270, H⟩ := H
                            replace H : (if t179.toList = ([] : List UInt8) then (if t180 = 0 then (if t181 = 25 then ((depotlaw11_chunks.f kj19).bind fun t182 => (some t182)) else (some false)) else (some false)) else (some false)) = some r := H
                            have A27 := Aside0.mk A270
                            clear A270
                            by_cases c28 : t179.toList = ([] : List UInt8)
                            · rw [if_pos c28] at H
                              have c28b0 : (t179.toList == ([] : List UInt8)) = true := beq_iff_eq.mpr c28
                              have c28b1 : (t179.toList != ([] : List UInt8)) = false := bne_eq_false_iff_eq.mpr c28
                              clear c28
                              by_cases c29 : t180 = 0
                              · rw [if_pos c29] at H
                                have c29b0 : (t180 == 0) = true := beq_iff_eq.mpr c29
                                have c29b1 : (t180 != 0) = false := bne_eq_false_iff_eq.mpr c29
                                clear c29
                                by_cases c30 : t181 = 25
                                · rw [if_pos c30] at H
                                  have c30b0 : (t181 == 25) = true := beq_iff_eq.mpr c30
                                  have c30b1 : (t181 != 25) = false := bne_eq_false_iff_eq.mpr c30
                                  clear c30
                                  replace H := Option.bind_eq_some_iff.mp H
                                  obtain ⟨t182, A310, H⟩ := H
                                  replace H : (some t182) = some r := H
                                  have A31 := Aside0.mk A310
                                  clear A310
                                  obtain rfl := Option.some.inj H
                                  go_wp2_with (first | ((with_reducible refine gate_callee (f := 8) rfl ?_); refine goesL_ (some 78) rfl rfl Tryd.func8 (by kernel_rfl) rfl #[.string (t171.extract 0 (a3 : Int).toNat)] rfl (by (try simp only [List.map_toArray, List.map_cons, List.map_nil]); first | done | rfl | (simp only [List.length_drop, List.length_take]; rfl)) ?_; (with_reducible refine (chunk_Decode.calls (t171.extract 0 (a3 : Int).toNat) t179 t180 t181 _ ?side1 A27.out).mono ?_); (case side1 => first | exact HT | exact ⟨Hand.Laid.below HT.out (by repeat (first | (with_reducible first | exact HB.out | apply below_alloc | apply pw_below_drewN | apply below_drew1) | exact HB.out))⟩); rintro e w32 ⟨rfl, hb⟩; refine ⟨_, rfl, ?_⟩; have n0_ := Aside0.mk (below_step (by repeat (first | (with_reducible first | exact HB.out | apply below_alloc | apply pw_below_drewN | apply below_drew1) | exact HB.out)) hb); clear HB; have HB := n0_; clear n0_; (try clear hb); (try clear hb2); (try clear hk); (try clear hi)) | (go_at_call 7; (with_reducible refine (depotlaw11_chunks.calls kj19  t182 _ ?side2 ?side1 A31.out).mono ?_); (case side1 => first | exact HT | exact ⟨Hand.Laid.below HT.out (by repeat (first | (with_reducible first | exact HB.out | apply below_alloc | apply pw_below_drewN | apply below_drew1) | exact HB.out))⟩); (case side2 => first | exact ⟨rfl⟩ | exact HTRUE); rintro e w33 ⟨rfl, hb⟩; have n0_ := Aside0.mk (below_step (by repeat (first | (with_reducible first | exact HB.out | apply below_alloc | apply pw_below_drewN | apply below_drew1) | exact HB.out)) hb); clear HB; have HB := n0_; clear n0_; (try clear hb); (try clear hb2); (try clear hk); (try clear hi)))
                                  go_ret
                                  exact ⟨by first | rfl | (simp [errW_none, errW_some] <;> rfl) | (simp [*, errW_none, errW_some] <;> rfl), by repeat (first | (with_reducible first | exact HB.out | apply below_alloc | apply pw_below_drewN | apply below_drew1) | exact HB.out)⟩
                                · rw [if_neg c30] at H
                                  have c30b0 : (t181 == 25) = false := beq_eq_false_iff_ne.mpr c30
                                  have c30b1 : (t181 != 25) = true := bne_iff_ne.mpr c30
                                  obtain rfl := Option.some.inj H
                                  exact absurd HTRUE.out (by decide)
                              · rw [if_neg c29] at H
                                have c29b0 : (t180 == 0) = false := beq_eq_false_iff_ne.mpr c29
                                have c29b1 : (t180 != 0) = true := bne_iff_ne.mpr c29
                                obtain rfl := Option.some.inj H
                                exact absurd HTRUE.out (by decide)
                            · rw [if_neg c28] at H
                              have c28b0 : (t179.toList == ([] : List UInt8)) = false := beq_eq_false_iff_ne.mpr c28
                              have c28b1 : (t179.toList != ([] : List UInt8)) = true := bne_iff_ne.mpr c28
                              obtain rfl := Option.some.inj H
                              exact absurd HTRUE.out (by decide)
                          · rw [if_neg c26] at H
                            exact absurd H (by simp)
                        · rw [if_neg c25] at H
                          exact absurd H (by simp)
          · rw [if_neg c12] at H
            exact absurd H (by simp)
        · rw [if_neg c11] at H
          have c11b0 : (t172 == 0) = false := beq_eq_false_iff_ne.mpr c11
          have c11b1 : (t172 != 0) = true := bne_iff_ne.mpr c11
          by_cases c34 : t171.toList = ([] : List UInt8)
          · rw [if_pos c34] at H
            have c34b0 : (t171.toList == ([] : List UInt8)) = true := beq_iff_eq.mpr c34
            have c34b1 : (t171.toList != ([] : List UInt8)) = false := bne_eq_false_iff_eq.mpr c34
            clear c34
            by_cases c35 : a1 < 1
            · rw [if_pos c35] at H
              have c35b0 : decide (a1 < 1) = true := decide_eq_true c35
              clear c35
              replace H := Option.bind_eq_some_iff.mp H
              obtain ⟨t173, A360, H⟩ := H
              replace H : (some t173) = some r := H
              have A36 := Aside0.mk A360
              clear A360
              obtain rfl := Option.some.inj H
              go_wp2_with (first | ((with_reducible refine gate_callee (f := 10) rfl ?_); refine goesL_ (some 26) rfl rfl Tryd.func10 (by kernel_rfl) rfl #[.string a0, .int .i64 a1] rfl (by (try simp only [List.map_toArray, List.map_cons, List.map_nil]); first | done | rfl | (simp only [List.length_drop, List.length_take]; rfl)) ?_; (with_reducible refine (chunk_Encode.calls kj4 a0 a1 t171 t172 _ A10.out).mono ?_); rintro e w37 ⟨rfl, hb⟩; refine ⟨_, rfl, ?_⟩; have n0_ := Aside0.mk (below_step (by repeat (first | (with_reducible first | exact HB.out | apply below_alloc | apply pw_below_drewN | apply below_drew1) | exact HB.out)) hb); clear HB; have HB := n0_; clear n0_; (try clear hb); (try clear hb2); (try clear hk); (try clear hi)) | (go_at_call 7; (with_reducible refine (depotlaw11_chunks.calls kj4  t173 _ ?side2 ?side1 A36.out).mono ?_); (case side1 => first | exact HT | exact ⟨Hand.Laid.below HT.out (by repeat (first | (with_reducible first | exact HB.out | apply below_alloc | apply pw_below_drewN | apply below_drew1) | exact HB.out))⟩); (case side2 => first | exact ⟨rfl⟩ | exact HTRUE); rintro e w38 ⟨rfl, hb⟩; have n0_ := Aside0.mk (below_step (by repeat (first | (with_reducible first | exact HB.out | apply below_alloc | apply pw_below_drewN | apply below_drew1) | exact HB.out)) hb); clear HB; have HB := n0_; clear n0_; (try clear hb); (try clear hb2); (try clear hk); (try clear hi)))
              go_ret
              exact ⟨by first | rfl | (simp [errW_none, errW_some] <;> rfl) | (simp [*, errW_none, errW_some] <;> rfl), by repeat (first | (with_reducible first | exact HB.out | apply below_alloc | apply pw_below_drewN | apply below_drew1) | exact HB.out)⟩
            · rw [if_neg c35] at H
              have c35b0 : decide (a1 < 1) = false := decide_eq_false c35
              clear c35
              by_cases c39 : a1 > 65536
              · rw [if_pos c39] at H
                have c39b0 : decide (65536 < a1) = true := decide_eq_true c39
                clear c39
                replace H := Option.bind_eq_some_iff.mp H
                obtain ⟨t174, A400, H⟩ := H
                replace H : (some t174) = some r := H
                have A40 := Aside0.mk A400
                clear A400
                obtain rfl := Option.some.inj H
                go_wp2_with (first | ((with_reducible refine gate_callee (f := 10) rfl ?_); refine goesL_ (some 26) rfl rfl Tryd.func10 (by kernel_rfl) rfl #[.string a0, .int .i64 a1] rfl (by (try simp only [List.map_toArray, List.map_cons, List.map_nil]); first | done | rfl | (simp only [List.length_drop, List.length_take]; rfl)) ?_; (with_reducible refine (chunk_Encode.calls kj4 a0 a1 t171 t172 _ A10.out).mono ?_); rintro e w41 ⟨rfl, hb⟩; refine ⟨_, rfl, ?_⟩; have n0_ := Aside0.mk (below_step (by repeat (first | (with_reducible first | exact HB.out | apply below_alloc | apply pw_below_drewN | apply below_drew1) | exact HB.out)) hb); clear HB; have HB := n0_; clear n0_; (try clear hb); (try clear hb2); (try clear hk); (try clear hi)) | (go_at_call 7; (with_reducible refine (depotlaw11_chunks.calls kj4  t174 _ ?side2 ?side1 A40.out).mono ?_); (case side1 => first | exact HT | exact ⟨Hand.Laid.below HT.out (by repeat (first | (with_reducible first | exact HB.out | apply below_alloc | apply pw_below_drewN | apply below_drew1) | exact HB.out))⟩); (case side2 => first | exact ⟨rfl⟩ | exact HTRUE); rintro e w42 ⟨rfl, hb⟩; have n0_ := Aside0.mk (below_step (by repeat (first | (with_reducible first | exact HB.out | apply below_alloc | apply pw_below_drewN | apply below_drew1) | exact HB.out)) hb); clear HB; have HB := n0_; clear n0_; (try clear hb); (try clear hb2); (try clear hk); (try clear hi)))
                go_ret
                exact ⟨by first | rfl | (simp [errW_none, errW_some] <;> rfl) | (simp [*, errW_none, errW_some] <;> rfl), by repeat (first | (with_reducible first | exact HB.out | apply below_alloc | apply pw_below_drewN | apply below_drew1) | exact HB.out)⟩
              · rw [if_neg c39] at H
                have c39b0 : decide (65536 < a1) = false := decide_eq_false c39
                clear c39
                obtain rfl := Option.some.inj H
                exact absurd HTRUE.out (by decide)
          · rw [if_neg c34] at H
            have c34b0 : (t171.toList == ([] : List UInt8)) = false := beq_eq_false_iff_ne.mpr c34
            have c34b1 : (t171.toList != ([] : List UInt8)) = true := bne_iff_ne.mpr c34
            obtain rfl := Option.some.inj H
            exact absurd HTRUE.out (by decide)

end Go.Proofs.YtmmmfippfoginaaDoor.PR
