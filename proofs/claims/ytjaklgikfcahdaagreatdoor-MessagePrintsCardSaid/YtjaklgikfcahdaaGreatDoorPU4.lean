-- Halved: the indents of this text are half of the print's.
-- Out of the translation, by a program of this session: each function that a law comes to as a Lean function, and that the machine's call does what it says. Lean checks it.
import Derived.Test.YtjaklgikfcahdaaGreatDoorPU0
import Derived.Test.YtjaklgikfcahdaaGreatDoorPU3
namespace Go.Proofs.YtjaklgikfcahdaaGreatDoor.PU
open Go.RowKit Go.Proofs.YtjaklgikfcahdaaGreatDoorW.PrintWords Go.Proofs.YtjaklgikfcahdaaGreatDoorW.PrintLast Go.Proofs.YtjaklgikfcahdaaGreatDoorW.PrintMore
attribute [local go_sem] max2_int min2_int max_two min_two max_three min_three max_four min_four   -- for this text's walks alone
set_option linter.unusedVariables false
set_option linter.unusedSimpArgs false

/-! ### message_told: function 64 -/
mutual
def message_told.l0 : Nat → List Int → List ByteArray → Int → Int → Option (Int × Bool)
 | 0, _, _, _, _ => none
 | k + 1, x4, x15, x16, x17 => if x17 < x16 then (if 0 ≤ x17 then (if x17 < (x15.length : Int) then ((items_Split.f (rdOf ByteArray.empty x15 x17)).bind fun bt132 => (if bt132.2 = 0 then (message_told.l1 k x4 x15 x16 x17 bt132.1 (bt132.1.length : Int) 0) else (some (0, false)))) else (none)) else (none)) else (message_told.l2 k x4 x4 (x4.length : Int) 0)
def message_told.l1 : Nat → List Int → List ByteArray → Int → Int → List ByteArray → Int → Int → Option (Int × Bool)
 | 0, _, _, _, _, _, _, _ => none
 | k + 1, x4, x15, x16, x17, x28, x29, x30 => if x30 < x29 then (if 0 ≤ x30 then (if x30 < (x28.length : Int) then ((decimal_Number.f (rdOf ByteArray.empty x28 x30) 65536).bind fun bt137 => (if bt137.2 = 0 then (if x4.length < 17592186044416 then (message_told.l1 k (x4 ++ [bt137.1]) x15 x16 x17 x28 x29 (wrap64 (x30 + 1))) else (none)) else (some (0, false)))) else (none)) else (none)) else (message_told.l0 k x4 x15 x16 (wrap64 (x17 + 1)))
def message_told.l2 : Nat → List Int → List Int → Int → Int → Option (Int × Bool)
 | 0, _, _, _, _ => none
 | k + 1, x4, x47, x48, x49 => if x49 < x48 then (if 0 ≤ x49 then (if x49 < (x47.length : Int) then (if 0 < (x4.length : Int) then (if (rd x47 x49) = (rd x4 0) then (message_told.l2 k x4 x47 x48 (wrap64 (x49 + 1))) else (some (0, false))) else (none)) else (none)) else (none)) else (if (x4.length : Int) = 0 then (some (0, false)) else (if 0 < (x4.length : Int) then (some (rd x4 0, true)) else (none)))
end
def message_told.f (k : Nat) (l0 : List ByteArray) : Option (Int × Bool) := message_told.l0 k ([] : List Int) l0 (l0.length : Int) 0
theorem message_told.mono_l : ∀ k, (∀ y0 y1 y2 y3, LeO (message_told.l0 k y0 y1 y2 y3) (message_told.l0 (k + 1) y0 y1 y2 y3)) ∧ (∀ y0 y1 y2 y3 y4 y5 y6, LeO (message_told.l1 k y0 y1 y2 y3 y4 y5 y6) (message_told.l1 (k + 1) y0 y1 y2 y3 y4 y5 y6)) ∧ (∀ y0 y1 y2 y3, LeO (message_told.l2 k y0 y1 y2 y3) (message_told.l2 (k + 1) y0 y1 y2 y3))
 | 0 => ⟨fun _ _ _ _ r h => by simp [message_told.l0] at h, fun _ _ _ _ _ _ _ r h => by simp [message_told.l1] at h, fun _ _ _ _ r h => by simp [message_told.l2] at h⟩
 | k + 1 => by
  obtain ⟨ih0, ih1, ih2⟩ := message_told.mono_l k
  refine ⟨?_, ?_, ?_⟩
  ·intro y0 y1 y2 y3
   unfold message_told.l0
   repeat' first
   | (with_reducible exact ih0 _ _ _ _)
   | (with_reducible exact ih1 _ _ _ _ _ _ _)
   | (with_reducible exact ih2 _ _ _ _)
   | (with_reducible exact LeO.refl _)
   | (with_reducible exact LeO.none _)
   | (with_reducible refine LeO.ite ?_ ?_)
   | (with_reducible refine LeO.bind ?_ (fun _ => ?_))
   | exact ih0 _ _ _ _
   | exact ih1 _ _ _ _ _ _ _
   | exact ih2 _ _ _ _
   | exact LeO.none _
   | refine LeO.ite ?_ ?_
   | refine LeO.bind ?_ (fun _ => ?_)
  ·intro y0 y1 y2 y3 y4 y5 y6
   unfold message_told.l1
   repeat' first
   | (with_reducible exact ih0 _ _ _ _)
   | (with_reducible exact ih1 _ _ _ _ _ _ _)
   | (with_reducible exact ih2 _ _ _ _)
   | (with_reducible exact LeO.refl _)
   | (with_reducible exact LeO.none _)
   | (with_reducible refine LeO.ite ?_ ?_)
   | (with_reducible refine LeO.bind ?_ (fun _ => ?_))
   | exact ih0 _ _ _ _
   | exact ih1 _ _ _ _ _ _ _
   | exact ih2 _ _ _ _
   | exact LeO.none _
   | refine LeO.ite ?_ ?_
   | refine LeO.bind ?_ (fun _ => ?_)
  ·intro y0 y1 y2 y3
   unfold message_told.l2
   repeat' first
   | (with_reducible exact ih0 _ _ _ _)
   | (with_reducible exact ih1 _ _ _ _ _ _ _)
   | (with_reducible exact ih2 _ _ _ _)
   | (with_reducible exact LeO.refl _)
   | (with_reducible exact LeO.none _)
   | (with_reducible refine LeO.ite ?_ ?_)
   | (with_reducible refine LeO.bind ?_ (fun _ => ?_))
   | exact ih0 _ _ _ _
   | exact ih1 _ _ _ _ _ _ _
   | exact ih2 _ _ _ _
   | exact LeO.none _
   | refine LeO.ite ?_ ?_
   | refine LeO.bind ?_ (fun _ => ?_)
theorem message_told.mono : ∀ a0 k, LeO (message_told.f k a0) (message_told.f (k + 1) a0) := by
 intro a0 k
 obtain ⟨ih0, ih1, ih2⟩ := message_told.mono_l k
 unfold message_told.f
 repeat' first
   | (with_reducible exact ih0 _ _ _ _)
   | (with_reducible exact ih1 _ _ _ _ _ _ _)
   | (with_reducible exact ih2 _ _ _ _)
   | (with_reducible exact LeO.refl _)
   | (with_reducible exact LeO.none _)
   | (with_reducible refine LeO.ite ?_ ?_)
   | (with_reducible refine LeO.bind ?_ (fun _ => ?_))
   | exact ih0 _ _ _ _
   | exact ih1 _ _ _ _ _ _ _
   | exact ih2 _ _ _ _
   | exact LeO.none _
   | refine LeO.ite ?_ ?_
   | refine LeO.bind ?_ (fun _ => ?_)
set_option maxHeartbeats 8000000 in
set_option maxRecDepth 100000 in
theorem message_told.calls (k : Nat) (A0 : Option Addr) (c0 : Nat) (l0 : List ByteArray) (r1 : Int) (r2 : Bool) (w : World) (hr0 : Kd.C Kd.string w A0 l0.length l0) (hc0 : l0.length ≤ c0) (h : message_told.f k l0 = some (r1, r2)) :
  Calls Tryz.prog 64 #[.slice A0 l0.length c0] w fun e w' => e = .returned (.tuple #[.int .i64 r1, .bool r2]) ∧ Below w.heap.size w w' := by
 have HR0 := Aside0.mk hr0
 have HC0 := Aside0.mk hc0
 clear hr0 hc0
 have HB := Aside0.mk (Below.refl w.heap.size w)
 have H : (message_told.l0 k ([] : List Int) l0 (l0.length : Int) 0) = some (r1, r2) := h
 clear h
 have H' := Aside0.mk H
 clear H
 go_enter Tryz.func64, Tryz.ntmps64
 go_wp2
 go_loopg [4, 17] k (fun kq v4 v17 w' => ∃ (x4_1 : List Int) (x17_1 : Int), v17 = .int .i64 x17_1 ∧ Aside0 (message_told.l0 kq x4_1 l0 (l0.length : Int) x17_1 = some (r1, r2)) ∧ Aside0 (kq ≤ k) ∧ Aside0 (Kd.R (Kd.int .i64) 3 w' w.heap.size (fun _ => True) v4 x4_1) ∧ Aside0 (Below w.heap.size w w'))
 case atStart => exact ⟨(([] : List Int)), (0), (by first | rfl | (simp; done) | (simp [*]; done) | (simp; exact Hand.isEmpty_ne _)), H', ⟨Nat.le_refl _⟩, ⟨by first | exact Kd.R_nil _ _ _ _ _ | exact Kd.N_nil _ _ _ _ _ | exact Kd.V_nil _ _ _ _ _ | exact Kd.Q_nil _ _ _ _ _ | exact Kd.S_nil _ _ _ _ _⟩, ⟨by repeat (first | (with_reducible first | exact HB.out | apply below_alloc | apply pw_below_drewN | apply below_drew1) | exact HB.out)⟩⟩
 case round =>
  clear H'
  obtain ⟨x4_1, x17_1, rfl, HA, HK1, HO_4, HB⟩ := hrel
  cases gk with
  | zero => exact absurd HA.out (by simp [message_told.l0])
  | succ k1 =>
   have H := HA.out
   clear HA
   simp only [message_told.l0] at H
   by_cases c2 : x17_1 < (l0.length : Int)
   ·rw [if_pos c2] at H
    have c2b0 : decide (x17_1 < (l0.length : Int)) = true := decide_eq_true c2
    clear c2
    by_cases c3 : 0 ≤ x17_1
    ·rw [if_pos c3] at H
     have c3b0 : decide (0 ≤ x17_1) = true := decide_eq_true c3
     clear c3
     by_cases c4 : x17_1 < (l0.length : Int)
     ·rw [if_pos c4] at H
      have c4b0 : decide (x17_1 < (l0.length : Int)) = true := decide_eq_true c4
      clear c4
      replace H := Option.bind_eq_some_iff.mp H
      obtain ⟨⟨t132, t133⟩, A50, H⟩ := H
      replace H : (if t133 = 0 then (message_told.l1 k1 x4_1 l0 (l0.length : Int) x17_1 t132 (t132.length : Int) 0) else (some (0, false))) = some (r1, r2) := H
      have A5 := Aside0.mk A50
      clear A50
      by_cases c6 : t133 = 0
      ·rw [if_pos c6] at H
       have c6b0 : (t133 == 0) = true := beq_iff_eq.mpr c6
       have c6b1 : (t133 != 0) = false := bne_eq_false_iff_eq.mpr c6
       clear c6
       have H' := Aside0.mk H
       clear H
       have p131 : 0 ≤ (x17_1 : Int) := of_decide_eq_true (by first | (with_reducible assumption) | assumption)
       have q131 : x17_1 < (l0.length : Int) := of_decide_eq_true (by first | (with_reducible assumption) | assumption)
       obtain ⟨ad131, e131, hx131_0⟩ := Kd.at_string HR0.out x17_1 p131 q131
       cases e131
       replace hx131_0 := (HB.out.cell (World.block_lt_of_cell? w _ hx131_0)).trans hx131_0
       replace p131 := eq_true p131
       replace q131 := eq_true q131
       go_wp2_with (first | ((with_reducible refine gate_callee (f := 98) rfl ?_); refine goesL_ (some 23) rfl rfl Tryz.func98 (by kernel_rfl) rfl #[.string (rdOf ByteArray.empty l0 x17_1)] rfl (by (try simp only [List.map_toArray, List.map_cons, List.map_nil]); first | done | rfl | (simp only [List.length_drop, List.length_take]; rfl)) ?_; (with_reducible refine (items_Split.calls (rdOf ByteArray.empty l0 x17_1) t132 t133 _ A5.out).mono ?_); rintro e w7 ⟨v134, rfl, ho0, hb⟩; refine ⟨_, rfl, ?_⟩; have n0_ := Aside0.mk (Kd.R_below (by (with_reducible repeat (first | apply Kd.R_alloc | apply Kd.R_drewN | apply Kd.R_drew)); exact HO_4.out) hb); have n1_ := Aside0.mk (Kd.R_lower ho0 (below_size (by repeat (first | (with_reducible first | exact HB.out | apply below_alloc | apply pw_below_drewN | apply below_drew1) | exact HB.out)))); have n2_ := Aside0.mk (below_step (by repeat (first | (with_reducible first | exact HB.out | apply below_alloc | apply pw_below_drewN | apply below_drew1) | exact HB.out)) hb); clear HO_4; clear HB; have HO_4 := n0_; have HO135 := n1_; have HB := n2_; clear n0_ n1_ n2_; (try clear hb); (try clear hb2); (try clear hk); (try clear hi); (try clear ho0); obtain ⟨Ao8, co8, eo8⟩ := Kd.R_slice HO135.out; subst eo8))
       go_loopg [4, 30] k1 (fun kq v4 v30 w' => ∃ (x4_2 : List Int) (x30_2 : Int), v30 = .int .i64 x30_2 ∧ Aside0 (message_told.l1 kq x4_2 l0 (l0.length : Int) x17_1 t132 (t132.length : Int) x30_2 = some (r1, r2)) ∧ Aside0 (kq ≤ k1) ∧ Aside0 (Kd.R (Kd.int .i64) 3 w' w.heap.size (fun _ => True) v4 x4_2) ∧ Aside0 (Kd.R Kd.string 9 w' w.heap.size (fun _ => True) (.slice Ao8 t132.length co8) t132) ∧ Aside0 (Below w.heap.size w w'))
       case atStart => exact ⟨(x4_1), (0), (by first | rfl | (simp; done) | (simp [*]; done) | (simp; exact Hand.isEmpty_ne _)), H', ⟨Nat.le_refl _⟩, ⟨by (with_reducible repeat (first | apply Kd.R_alloc | apply Kd.R_drewN | apply Kd.R_drew)); exact HO_4.out⟩, ⟨by (with_reducible repeat (first | apply Kd.R_alloc | apply Kd.R_drewN | apply Kd.R_drew)); exact HO135.out⟩, ⟨by repeat (first | (with_reducible first | exact HB.out | apply below_alloc | apply pw_below_drewN | apply below_drew1) | exact HB.out)⟩⟩
       case round =>
        clear H'
        try clear p1
        try clear q1
        try clear hx1
        try clear c2
        try clear c2b0
        try clear p2
        try clear c3
        try clear c3b0
        try clear c4
        try clear c4b0
        try clear c6
        try clear c6b0
        try clear c6b1
        try clear hx131_0
        try clear p131
        try clear q131
        obtain ⟨x4_2, x30_2, rfl, HA, HK2, HO_4, HO_28, HB⟩ := hrel
        cases gk with
        | zero => exact absurd HA.out (by simp [message_told.l1])
        | succ k2 =>
         have H := HA.out
         clear HA
         simp only [message_told.l1] at H
         by_cases c9 : x30_2 < (t132.length : Int)
         ·rw [if_pos c9] at H
          have c9b0 : decide (x30_2 < (t132.length : Int)) = true := decide_eq_true c9
          clear c9
          by_cases c10 : 0 ≤ x30_2
          ·rw [if_pos c10] at H
           have c10b0 : decide (0 ≤ x30_2) = true := decide_eq_true c10
           clear c10
           by_cases c11 : x30_2 < (t132.length : Int)
           ·rw [if_pos c11] at H
            have c11b0 : decide (x30_2 < (t132.length : Int)) = true := decide_eq_true c11
            clear c11
            replace H := Option.bind_eq_some_iff.mp H
            obtain ⟨⟨t137, t138⟩, A120, H⟩ := H
            replace H : (if t138 = 0 then (if x4_2.length < 17592186044416 then (message_told.l1 k2 (x4_2 ++ [t137]) l0 (l0.length : Int) x17_1 t132 (t132.length : Int) (wrap64 (x30_2 + 1))) else (none)) else (some (0, false))) = some (r1, r2) := H
            have A12 := Aside0.mk A120
            clear A120
            by_cases c13 : t138 = 0
            ·rw [if_pos c13] at H
             have c13b0 : (t138 == 0) = true := beq_iff_eq.mpr c13
             have c13b1 : (t138 != 0) = false := bne_eq_false_iff_eq.mpr c13
             clear c13
             by_cases c14 : x4_2.length < 17592186044416
             ·rw [if_pos c14] at H
              have LMc14 := Aside0.mk c14
              clear c14
              obtain ⟨y139, hy139⟩ : ∃ y_ : List Int, y_ = (x4_2 ++ [t137]) := ⟨_, rfl⟩
              replace H : (message_told.l1 k2 y139 l0 (l0.length : Int) x17_1 t132 (t132.length : Int) (wrap64 (x30_2 + 1))) = some (r1, r2) := by first | (rw [hy139]; with_reducible exact H) | (have H2_ := (Option.bind_some _ _).symm.trans H; rw [hy139]; with_reducible exact H2_) | (have H2_ := (Option.bind_some _ _).symm.trans H; with_reducible exact H2_) | with_reducible exact H | (rw [hy139]; exact H) | exact H
              have Ny139 := Aside0.mk hy139
              clear hy139
              have H' := Aside0.mk H
              clear H
              have p136 : 0 ≤ (x30_2 : Int) := of_decide_eq_true (by first | (with_reducible assumption) | assumption)
              have q136 : x30_2 < (t132.length : Int) := of_decide_eq_true (by first | (with_reducible assumption) | assumption)
              obtain ⟨ad136, e136, hx136_0⟩ := Kd.at_string (Kd.R_reads' HO_28.out).2.2 x30_2 p136 q136
              cases e136
              replace p136 := eq_true p136
              replace q136 := eq_true q136
              go_wp2_with (first | ((with_reducible refine gate_callee (f := 75) rfl ?_); refine goesL_ (some 36) rfl rfl Tryz.func75 (by kernel_rfl) rfl #[.string (rdOf ByteArray.empty t132 x30_2), .int .i64 65536] rfl (by (try simp only [List.map_toArray, List.map_cons, List.map_nil]); first | done | rfl | (simp only [List.length_drop, List.length_take]; rfl)) ?_; (with_reducible refine (decimal_Number.calls (rdOf ByteArray.empty t132 x30_2) 65536 t137 t138 _ A12.out).mono ?_); rintro e w15 ⟨rfl, hb⟩; refine ⟨_, rfl, ?_⟩; have n0_ := Aside0.mk (Kd.R_below (by (with_reducible repeat (first | apply Kd.R_alloc | apply Kd.R_drewN | apply Kd.R_drew)); exact HO_4.out) hb); have n1_ := Aside0.mk (Kd.R_below (by (with_reducible repeat (first | apply Kd.R_alloc | apply Kd.R_drewN | apply Kd.R_drew)); exact HO_28.out) hb); have n2_ := Aside0.mk (below_step (by repeat (first | (with_reducible first | exact HB.out | apply below_alloc | apply pw_below_drewN | apply below_drew1) | exact HB.out)) hb); clear HO_4; clear HO_28; clear HB; have HO_4 := n0_; have HO_28 := n1_; have HB := n2_; clear n0_ n1_ n2_; (try clear hb); (try clear hb2); (try clear hk); (try clear hi)) | ((with_reducible refine gate_builtin (b := .append) (xs := #[.tmp 41, .tmp 43]) rfl ?_); at_builtin; refine Kd.R_append (Kd.int .i64) (w0 := w) w.heap.size rfl (.tmp 41) (.tmp 43) 132 3 (.int .i64 0) 8 rfl Tryz.underlying132 info3 rfl (by decide) (by omega) u4 x4_2 t137 [.int .i64 t137] (fun _ => True) (fun _ => False) rfl rfl ?aP (fun _ hk => hk.elim) ?aF ?aO ?aB ?aS ?aL ?_; (case aP => exact rfl); (case aB => exact (by repeat (first | (with_reducible first | exact HB.out | apply below_alloc | apply pw_below_drewN | apply below_drew1) | exact HB.out))); (case aF => exact (fun _ _ => trivial)); (case aO => exact (by (with_reducible repeat (first | apply Kd.R_alloc | apply Kd.R_drewN | apply Kd.R_drew)); exact HO_4.out)); (case aS => exact (below_size (by repeat (first | (with_reducible first | exact HB.out | apply below_alloc | apply pw_below_drewN | apply below_drew1) | exact HB.out)))); (case aL => have := LMc14.out; omega); intro v140 w16 ho hb hg hat; rw [← Ny139.out] at ho; have n0_ := Aside0.mk (Kd.R_over' (by (with_reducible repeat (first | apply Kd.R_alloc | apply Kd.R_drewN | apply Kd.R_drew)); exact HO_28.out) (Kd.R_typed (by (with_reducible repeat (first | apply Kd.R_alloc | apply Kd.R_drewN | apply Kd.R_drew)); exact HO_4.out)) (by decide) hg); have n1_ := Aside0.mk (hb); have n2_ := Aside0.mk (ho); clear HO_28; clear HB; clear HO_4; have HO_28 := n0_; have HB := n1_; have HO141 := n2_; clear n0_ n1_ n2_; clear ho hb hg hat))
              go_roundg k2
              case measure => have := HK1.out; have := HK2.out; omega
              case rel => exact ⟨(y139), (wrap64 (x30_2 + 1)), (by first | rfl | (simp; done) | (simp [*]; done) | (simp; exact Hand.isEmpty_ne _)), H', ⟨by have := HK1.out; have := HK2.out; omega⟩, ⟨by (with_reducible repeat (first | apply Kd.R_alloc | apply Kd.R_drewN | apply Kd.R_drew)); exact HO141.out⟩, ⟨by (with_reducible repeat (first | apply Kd.R_alloc | apply Kd.R_drewN | apply Kd.R_drew)); exact HO_28.out⟩, ⟨by repeat (first | (with_reducible first | exact HB.out | apply below_alloc | apply pw_below_drewN | apply below_drew1) | exact HB.out)⟩⟩
             ·rw [if_neg c14] at H
              exact absurd H (by simp)
            ·rw [if_neg c13] at H
             have c13b0 : (t138 == 0) = false := beq_eq_false_iff_ne.mpr c13
             have c13b1 : (t138 != 0) = true := bne_iff_ne.mpr c13
             simp only [Option.some.injEq, Prod.mk.injEq] at H
             obtain ⟨rfl, rfl⟩ := H
             have p136 : 0 ≤ (x30_2 : Int) := of_decide_eq_true (by first | (with_reducible assumption) | assumption)
             have q136 : x30_2 < (t132.length : Int) := of_decide_eq_true (by first | (with_reducible assumption) | assumption)
             obtain ⟨ad136, e136, hx136_0⟩ := Kd.at_string (Kd.R_reads' HO_28.out).2.2 x30_2 p136 q136
             cases e136
             replace p136 := eq_true p136
             replace q136 := eq_true q136
             go_wp2_with (first | ((with_reducible refine gate_callee (f := 75) rfl ?_); refine goesL_ (some 36) rfl rfl Tryz.func75 (by kernel_rfl) rfl #[.string (rdOf ByteArray.empty t132 x30_2), .int .i64 65536] rfl (by (try simp only [List.map_toArray, List.map_cons, List.map_nil]); first | done | rfl | (simp only [List.length_drop, List.length_take]; rfl)) ?_; (with_reducible refine (decimal_Number.calls (rdOf ByteArray.empty t132 x30_2) 65536 t137 t138 _ A12.out).mono ?_); rintro e w17 ⟨rfl, hb⟩; refine ⟨_, rfl, ?_⟩; have n0_ := Aside0.mk (Kd.R_below (by (with_reducible repeat (first | apply Kd.R_alloc | apply Kd.R_drewN | apply Kd.R_drew)); exact HO_4.out) hb); have n1_ := Aside0.mk (Kd.R_below (by (with_reducible repeat (first | apply Kd.R_alloc | apply Kd.R_drewN | apply Kd.R_drew)); exact HO_28.out) hb); have n2_ := Aside0.mk (below_step (by repeat (first | (with_reducible first | exact HB.out | apply below_alloc | apply pw_below_drewN | apply below_drew1) | exact HB.out)) hb); clear HO_4; clear HO_28; clear HB; have HO_4 := n0_; have HO_28 := n1_; have HB := n2_; clear n0_ n1_ n2_; (try clear hb); (try clear hb2); (try clear hk); (try clear hi)))
             go_ret2
             exact ⟨by first | rfl | (simp [errW_none, errW_some] <;> rfl) | (simp [*, errW_none, errW_some] <;> rfl), by repeat (first | (with_reducible first | exact HB.out | apply below_alloc | apply pw_below_drewN | apply below_drew1) | exact HB.out)⟩
           ·rw [if_neg c11] at H
            exact absurd H (by simp)
          ·rw [if_neg c10] at H
           exact absurd H (by simp)
         ·rw [if_neg c9] at H
          have c9b0 : decide (x30_2 < (t132.length : Int)) = false := decide_eq_false c9
          clear c9
          have H' := Aside0.mk H
          clear H
          go_wp2
          go_roundg k2
          case measure => have := HK1.out; have := HK2.out; omega
          case rel => exact ⟨(x4_2), (wrap64 (x17_1 + 1)), (by first | rfl | (simp; done) | (simp [*]; done) | (simp; exact Hand.isEmpty_ne _)), H', ⟨by have := HK1.out; have := HK2.out; omega⟩, ⟨by (with_reducible repeat (first | apply Kd.R_alloc | apply Kd.R_drewN | apply Kd.R_drew)); exact HO_4.out⟩, ⟨by repeat (first | (with_reducible first | exact HB.out | apply below_alloc | apply pw_below_drewN | apply below_drew1) | exact HB.out)⟩⟩
      ·rw [if_neg c6] at H
       have c6b0 : (t133 == 0) = false := beq_eq_false_iff_ne.mpr c6
       have c6b1 : (t133 != 0) = true := bne_iff_ne.mpr c6
       simp only [Option.some.injEq, Prod.mk.injEq] at H
       obtain ⟨rfl, rfl⟩ := H
       have p131 : 0 ≤ (x17_1 : Int) := of_decide_eq_true (by first | (with_reducible assumption) | assumption)
       have q131 : x17_1 < (l0.length : Int) := of_decide_eq_true (by first | (with_reducible assumption) | assumption)
       obtain ⟨ad131, e131, hx131_0⟩ := Kd.at_string HR0.out x17_1 p131 q131
       cases e131
       replace hx131_0 := (HB.out.cell (World.block_lt_of_cell? w _ hx131_0)).trans hx131_0
       replace p131 := eq_true p131
       replace q131 := eq_true q131
       go_wp2_with (first | ((with_reducible refine gate_callee (f := 98) rfl ?_); refine goesL_ (some 23) rfl rfl Tryz.func98 (by kernel_rfl) rfl #[.string (rdOf ByteArray.empty l0 x17_1)] rfl (by (try simp only [List.map_toArray, List.map_cons, List.map_nil]); first | done | rfl | (simp only [List.length_drop, List.length_take]; rfl)) ?_; (with_reducible refine (items_Split.calls (rdOf ByteArray.empty l0 x17_1) t132 t133 _ A5.out).mono ?_); rintro e w18 ⟨v134, rfl, ho0, hb⟩; refine ⟨_, rfl, ?_⟩; have n0_ := Aside0.mk (Kd.R_below (by (with_reducible repeat (first | apply Kd.R_alloc | apply Kd.R_drewN | apply Kd.R_drew)); exact HO_4.out) hb); have n1_ := Aside0.mk (Kd.R_lower ho0 (below_size (by repeat (first | (with_reducible first | exact HB.out | apply below_alloc | apply pw_below_drewN | apply below_drew1) | exact HB.out)))); have n2_ := Aside0.mk (below_step (by repeat (first | (with_reducible first | exact HB.out | apply below_alloc | apply pw_below_drewN | apply below_drew1) | exact HB.out)) hb); clear HO_4; clear HB; have HO_4 := n0_; have HO135 := n1_; have HB := n2_; clear n0_ n1_ n2_; (try clear hb); (try clear hb2); (try clear hk); (try clear hi); (try clear ho0)))
       go_ret2
       exact ⟨by first | rfl | (simp [errW_none, errW_some] <;> rfl) | (simp [*, errW_none, errW_some] <;> rfl), by repeat (first | (with_reducible first | exact HB.out | apply below_alloc | apply pw_below_drewN | apply below_drew1) | exact HB.out)⟩
     ·rw [if_neg c4] at H
      exact absurd H (by simp)
    ·rw [if_neg c3] at H
     exact absurd H (by simp)
   ·rw [if_neg c2] at H
    have c2b0 : decide (x17_1 < (l0.length : Int)) = false := decide_eq_false c2
    clear c2
    have H' := Aside0.mk H
    clear H
    obtain ⟨Ao19, co19, eo19⟩ := Kd.R_slice HO_4.out
    subst eo19
    go_wp2
    go_loopg [49] k1 (fun kq v49 w' => ∃ (x49_2 : Int), v49 = .int .i64 x49_2 ∧ Aside0 (message_told.l2 kq x4_1 x4_1 (x4_1.length : Int) x49_2 = some (r1, r2)) ∧ Aside0 (kq ≤ k1) ∧ Aside0 (Kd.R (Kd.int .i64) 3 w' w.heap.size (fun _ => True) (.slice Ao19 x4_1.length co19) x4_1) ∧ Aside0 (Kd.R (Kd.int .i64) 3 w' w.heap.size (fun _ => True) (.slice Ao19 x4_1.length co19) x4_1) ∧ Aside0 (Below w.heap.size w w'))
    case atStart => exact ⟨(0), (by first | rfl | (simp; done) | (simp [*]; done) | (simp; exact Hand.isEmpty_ne _)), H', ⟨Nat.le_refl _⟩, ⟨by (with_reducible repeat (first | apply Kd.R_alloc | apply Kd.R_drewN | apply Kd.R_drew)); exact HO_4.out⟩, ⟨by (with_reducible repeat (first | apply Kd.R_alloc | apply Kd.R_drewN | apply Kd.R_drew)); exact HO_4.out⟩, ⟨by repeat (first | (with_reducible first | exact HB.out | apply below_alloc | apply pw_below_drewN | apply below_drew1) | exact HB.out)⟩⟩
    case round =>
     clear H'
     try clear c1
     try clear p1
     try clear q1
     try clear hx1
     try clear c2
     try clear c2b0
     try clear p2
     try clear c3
     try clear c3b0
     try clear c4
     try clear c4b0
     try clear c6
     try clear c6b0
     try clear c6b1
     try clear p6
     try clear c7
     try clear c9
     try clear c9b0
     try clear c10
     try clear c10b0
     try clear c11
     try clear c11b0
     try clear c13
     try clear c13b0
     try clear c13b1
     try clear p13
     try clear q13
     try clear hx13
     try clear c14
     try clear hx131_0
     try clear hx136_0
     try clear p1
     try clear p131
     try clear p136
     try clear p2
     try clear q1
     try clear q131
     try clear q136
     obtain ⟨x49_2, rfl, HA, HK2, HO_4, HO_47, HB⟩ := hrel
     cases gk with
     | zero => exact absurd HA.out (by simp [message_told.l2])
     | succ k2 =>
      have H := HA.out
      clear HA
      simp only [message_told.l2] at H
      by_cases c20 : x49_2 < (x4_1.length : Int)
      ·rw [if_pos c20] at H
       have c20b0 : decide (x49_2 < (x4_1.length : Int)) = true := decide_eq_true c20
       clear c20
       by_cases c21 : 0 ≤ x49_2
       ·rw [if_pos c21] at H
        have c21b0 : decide (0 ≤ x49_2) = true := decide_eq_true c21
        clear c21
        by_cases c22 : x49_2 < (x4_1.length : Int)
        ·rw [if_pos c22] at H
         have c22b0 : decide (x49_2 < (x4_1.length : Int)) = true := decide_eq_true c22
         clear c22
         by_cases c23 : 0 < (x4_1.length : Int)
         ·rw [if_pos c23] at H
          have c23b0 : decide (0 < (x4_1.length : Int)) = true := decide_eq_true c23
          have c23b1 : decide (0 < x4_1.length) = true := decide_eq_true (by omega)
          clear c23
          by_cases c24 : (rd x4_1 x49_2) = (rd x4_1 0)
          ·rw [if_pos c24] at H
           have c24b0 : ((rd x4_1 x49_2) == (rd x4_1 0)) = true := beq_iff_eq.mpr c24
           have c24b1 : ((rd x4_1 x49_2) != (rd x4_1 0)) = false := bne_eq_false_iff_eq.mpr c24
           clear c24
           have H' := Aside0.mk H
           clear H
           have p142 : 0 ≤ (x49_2 : Int) := of_decide_eq_true (by first | (with_reducible assumption) | assumption)
           have q142 : x49_2 < (x4_1.length : Int) := of_decide_eq_true (by first | (with_reducible assumption) | assumption)
           obtain ⟨ad142, e142, hx142_0⟩ := Kd.at_int (Kd.R_reads' HO_47.out).2.2 x49_2 p142 q142
           cases e142
           replace p142 := eq_true p142
           replace q142 := eq_true q142
           have p143 : 0 ≤ (0 : Int) := (by omega)
           have q143 : 0 < (x4_1.length : Int) := of_decide_eq_true (by first | (with_reducible assumption) | assumption)
           obtain ⟨ad143, e143, hx143_0⟩ := Kd.at_int (Kd.R_reads' HO_4.out).2.2 0 p143 q143
           obtain rfl : ad142 = ad143 := (by injection e143)
           have qi143 : (0 < x4_1.length) = True := eq_true (by omega)
           (try rw [show ((0 : Int)).toNat = 0 from rfl] at hx143_0)
           (try rw [Addr.add_zero'] at hx143_0)
           replace p143 := eq_true p143
           replace q143 := eq_true q143
           go_wp2
           go_roundg k2
           case measure => have := HK1.out; have := HK2.out; omega
           case rel => exact ⟨(wrap64 (x49_2 + 1)), (by first | rfl | (simp; done) | (simp [*]; done) | (simp; exact Hand.isEmpty_ne _)), H', ⟨by have := HK1.out; have := HK2.out; omega⟩, ⟨by (with_reducible repeat (first | apply Kd.R_alloc | apply Kd.R_drewN | apply Kd.R_drew)); exact HO_4.out⟩, ⟨by (with_reducible repeat (first | apply Kd.R_alloc | apply Kd.R_drewN | apply Kd.R_drew)); exact HO_47.out⟩, ⟨by repeat (first | (with_reducible first | exact HB.out | apply below_alloc | apply pw_below_drewN | apply below_drew1) | exact HB.out)⟩⟩
          ·rw [if_neg c24] at H
           have c24b0 : ((rd x4_1 x49_2) == (rd x4_1 0)) = false := beq_eq_false_iff_ne.mpr c24
           have c24b1 : ((rd x4_1 x49_2) != (rd x4_1 0)) = true := bne_iff_ne.mpr c24
           simp only [Option.some.injEq, Prod.mk.injEq] at H
           obtain ⟨rfl, rfl⟩ := H
           have p142 : 0 ≤ (x49_2 : Int) := of_decide_eq_true (by first | (with_reducible assumption) | assumption)
           have q142 : x49_2 < (x4_1.length : Int) := of_decide_eq_true (by first | (with_reducible assumption) | assumption)
           obtain ⟨ad142, e142, hx142_0⟩ := Kd.at_int (Kd.R_reads' HO_47.out).2.2 x49_2 p142 q142
           cases e142
           replace p142 := eq_true p142
           replace q142 := eq_true q142
           have p143 : 0 ≤ (0 : Int) := (by omega)
           have q143 : 0 < (x4_1.length : Int) := of_decide_eq_true (by first | (with_reducible assumption) | assumption)
           obtain ⟨ad143, e143, hx143_0⟩ := Kd.at_int (Kd.R_reads' HO_4.out).2.2 0 p143 q143
           obtain rfl : ad142 = ad143 := (by injection e143)
           have qi143 : (0 < x4_1.length) = True := eq_true (by omega)
           (try rw [show ((0 : Int)).toNat = 0 from rfl] at hx143_0)
           (try rw [Addr.add_zero'] at hx143_0)
           replace p143 := eq_true p143
           replace q143 := eq_true q143
           go_wp2
           go_ret2
           exact ⟨by first | rfl | (simp [errW_none, errW_some] <;> rfl) | (simp [*, errW_none, errW_some] <;> rfl), by repeat (first | (with_reducible first | exact HB.out | apply below_alloc | apply pw_below_drewN | apply below_drew1) | exact HB.out)⟩
         ·rw [if_neg c23] at H
          exact absurd H (by simp)
        ·rw [if_neg c22] at H
         exact absurd H (by simp)
       ·rw [if_neg c21] at H
        exact absurd H (by simp)
      ·rw [if_neg c20] at H
       have c20b0 : decide (x49_2 < (x4_1.length : Int)) = false := decide_eq_false c20
       clear c20
       by_cases c25 : (x4_1.length : Int) = 0
       ·rw [if_pos c25] at H
        have c25b0 : ((x4_1.length : Int) == 0) = true := beq_iff_eq.mpr c25
        have c25b1 : ((x4_1.length : Int) != 0) = false := bne_eq_false_iff_eq.mpr c25
        clear c25
        simp only [Option.some.injEq, Prod.mk.injEq] at H
        obtain ⟨rfl, rfl⟩ := H
        go_wp2
        go_ret2
        exact ⟨by first | rfl | (simp [errW_none, errW_some] <;> rfl) | (simp [*, errW_none, errW_some] <;> rfl), by repeat (first | (with_reducible first | exact HB.out | apply below_alloc | apply pw_below_drewN | apply below_drew1) | exact HB.out)⟩
       ·rw [if_neg c25] at H
        have c25b0 : ((x4_1.length : Int) == 0) = false := beq_eq_false_iff_ne.mpr c25
        have c25b1 : ((x4_1.length : Int) != 0) = true := bne_iff_ne.mpr c25
        have c25b2 : ¬ (x4_1 = []) := fun h_ => c25 (by rw [h_]; rfl)
        by_cases c26 : 0 < (x4_1.length : Int)
        ·rw [if_pos c26] at H
         have c26b0 : decide (0 < (x4_1.length : Int)) = true := decide_eq_true c26
         have c26b1 : decide (0 < x4_1.length) = true := decide_eq_true (by omega)
         clear c26
         simp only [Option.some.injEq, Prod.mk.injEq] at H
         obtain ⟨rfl, rfl⟩ := H
         have p144 : 0 ≤ (0 : Int) := (by omega)
         have q144 : 0 < (x4_1.length : Int) := of_decide_eq_true (by first | (with_reducible assumption) | assumption)
         obtain ⟨ad144, e144, hx144_0⟩ := Kd.at_int (Kd.R_reads' HO_4.out).2.2 0 p144 q144
         cases e144
         have qi144 : (0 < x4_1.length) = True := eq_true (by omega)
         (try rw [show ((0 : Int)).toNat = 0 from rfl] at hx144_0)
         (try rw [Addr.add_zero'] at hx144_0)
         replace p144 := eq_true p144
         replace q144 := eq_true q144
         go_wp2
         go_ret2
         exact ⟨by first | rfl | (simp [errW_none, errW_some] <;> rfl) | (simp [*, errW_none, errW_some] <;> rfl), by repeat (first | (with_reducible first | exact HB.out | apply below_alloc | apply pw_below_drewN | apply below_drew1) | exact HB.out)⟩
        ·rw [if_neg c26] at H
         exact absurd H (by simp)

/-! ### fields_Drop: function 65: told by hand -/
/-- Is a field's name one of them? -/
def fields_in (names : List ByteArray) (x : S98) : Bool := names.any fun n => decide (octet_Same.f x.f0 n = some true)
def fields_Drop.f (l0 : List S98) (l1 : List ByteArray) : Option (List S98) := if l0.length < 1000000 ∧ l1.length < 1000000 ∧ ∀ x ∈ l0, ∀ n ∈ l1, (octet_Same.f x.f0 n).isSome = true then some (l0.filter fun x => !fields_in l1 x) else none
set_option maxHeartbeats 1600000 in
theorem fields_Drop1 (x : S98) (b : Nat) (A1 : Option Addr) (c1 : Nat) (names : List ByteArray) (w : World) (hc : w.cell? ⟨b, 0, none⟩ = some (.slice A1 names.length c1)) (hl : b < w.heap.size) (hr1 : Kd.C Kd.string w A1 names.length names) (hc1 : names.length ≤ c1) (hn : names.length < 1000000) (hs : ∀ n ∈ names, (octet_Same.f x.f0 n).isSome = true) :
  Calls Tryz.prog 99 #[.agg #[.string x.f0, .string x.f1], .pointer (some ⟨b, 0, none⟩)] w fun e w' => e = .returned (.bool (!fields_in names x)) ∧ Below w.heap.size w w' := by
 have hne : b ≠ w.heap.size := by omega
 have HR := Aside0.mk hr1
 have HS := Aside0.mk hs
 clear hr1 hs
 go_enter Tryz.func99, Tryz.ntmps99
 go_wp2
 go_loopw [8] (fun v8 w' => ∃ n : Nat, n ≤ names.length ∧ v8 = .int .i64 n ∧ Aside0 (fields_in names x = fields_in (names.drop n) x) ∧ Aside0 (w'.heap[w.heap.size]? = some (.cells #[.string x.f0, .string x.f1] 98 (0, 0))) ∧ Aside0 (Below w.heap.size w w')) (fun v8 _ => names.length - (intOf v8).toNat)
 case atStart => exact ⟨0, Nat.zero_le _, rfl, ⟨rfl⟩, ⟨blk_new _ _⟩, ⟨Hand.alloc_below _ _⟩⟩
 case round =>
  obtain ⟨n, hn0, rfl, HF, HK, HB⟩ := hrel
  by_cases hlt : n < names.length
  ·obtain ⟨bk, o, rfl, hbk, hcells⟩ := Hand.C_cells HR.out (by omega)
   have hx0 := (HB.out.cell (World.block_lt_of_cell? w _ (hcells n names[n] (List.getElem?_eq_getElem hlt)))).trans (hcells n names[n] (List.getElem?_eq_getElem hlt))
   obtain ⟨t, ht⟩ := Option.isSome_iff_exists.1 (HS.out names[n] (List.getElem_mem hlt))
   have hdr : fields_in (names.drop n) x = (decide (octet_Same.f x.f0 names[n] = some true) || fields_in (names.drop (n + 1)) x) := by rw [List.drop_eq_getElem_cons hlt]; rfl
   rw [ht] at hdr
   have hf := HF.out
   rw [hdr] at hf
   generalize names[n] = nm at hx0 ht
   have HT := Aside0.mk ht
   have HF2 := Aside0.mk hf
   have z0 := blk_cell HK.out 0
   clear ht hf hdr hcells HF
   cases t
   ·go_wp2_with (go_at_call 96; refine (octet_Same.calls x.f0 nm false _ HT.out).mono ?_; rintro e w1 ⟨rfl, hb⟩; have HB1 := Aside0.mk (below_step HB.out hb); have HK1 := Aside0.mk (blk_below HK.out hb); clear HB HK hb)
    go_roundw
    case rel => exact ⟨n + 1, by omega, by go_num, ⟨by rw [HF2.out]; simp⟩, HK1, HB1⟩
    case measure => simp [intOf]; omega
   ·have hfin : fields_in names x = true := by rw [HF2.out]; simp
    have HFIN := Aside0.mk hfin
    clear hfin
    go_wp2_with (go_at_call 96; refine (octet_Same.calls x.f0 nm true _ HT.out).mono ?_; rintro e w1 ⟨rfl, hb⟩; have HB1 := Aside0.mk (below_step HB.out hb); clear HB HK hb)
    go_ret
    exact ⟨by rw [HFIN.out]; rfl, HB1.out⟩
  ·have hfin : fields_in names x = false := by rw [HF.out, List.drop_of_length_le (by omega)]; rfl
   have HFIN := Aside0.mk hfin
   clear hfin HF
   go_wp2
   go_ret
   exact ⟨by rw [HFIN.out]; rfl, HB.out⟩
set_option maxHeartbeats 1600000 in
theorem fields_chosen_drop (A0 : Option Addr) (c0 : Nat) (l0 : List S98) (A1 : Option Addr) (c1 : Nat) (names : List ByteArray) (b : Nat) (w : World) (hr0 : Kd.C k98 w A0 l0.length l0) (hc0 : l0.length ≤ c0) (hc : w.cell? ⟨b, 0, none⟩ = some (.slice A1 names.length c1)) (hl : b < w.heap.size) (hr1 : Kd.C Kd.string w A1 names.length names) (hc1 : names.length ≤ c1) (hlen : l0.length < 1000000) (hn : names.length < 1000000) (hall : ∀ x ∈ l0, ∀ n ∈ names, (octet_Same.f x.f0 n).isSome = true) :
  Calls Tryz.prog 94 #[.slice A0 l0.length c0, .func (.func 99) #[] #[.pointer (some ⟨b, 0, none⟩)]] w fun e w' => ∃ v0_ : Value, e = .returned (v0_) ∧ Kd.R k98 98 w' w.heap.size (fun _ => True) v0_ (l0.filter fun x => !fields_in names x) ∧ Below w.heap.size w w' := by
 have HR0 := Aside0.mk hr0
 have HALL := Aside0.mk hall
 have HD := fun (W : World) (hb : Below w.heap.size w W) (x : S98) (hx : x ∈ l0) => fields_Drop1 x b A1 c1 names W (Hand.cell_below hb hc hl) (Nat.lt_of_lt_of_le hl hb.size) (Kd.C_below hr1 hb) hc1 hn (hall x hx)
 have HDA := Aside0.mk HD
 clear hr0 hall HD hr1 hc
 go_enter Tryz.func94, Tryz.ntmps94
 go_wp2
 go_loopw [5, 10] (fun v5 v10 w' => ∃ n : Nat, n ≤ l0.length ∧ v10 = .int .i64 n ∧ Aside0 (Kd.R k98 98 w' w.heap.size (fun _ => True) v5 ((l0.take n).filter fun x => !fields_in names x)) ∧ Aside0 (Below w.heap.size w w')) (fun _ v10 _ => l0.length - (intOf v10).toNat)
 case atStart => exact ⟨0, Nat.zero_le _, rfl, ⟨Kd.R_nil _ _ _ _ _⟩, ⟨Below.refl _ _⟩⟩
 case round =>
  obtain ⟨n, hn2, rfl, HO, HB⟩ := hrel
  by_cases hlt : n < l0.length
  ·obtain ⟨ad, e0, hx0, hx1⟩ := at_T98 HR0.out n (by omega) (by omega)
   cases e0
   replace hx0 := (HB.out.cell (World.block_lt_of_cell? w _ hx0)).trans hx0
   replace hx1 := (HB.out.cell (World.block_lt_of_cell? w _ hx1)).trans hx1
   rw [Int.toNat_natCast] at hx0 hx1
   have rdn : rd_T98 l0 n = l0[n] := by show l0.getD n _ = _; rw [List.getD_eq_getElem?_getD, List.getElem?_eq_getElem hlt]; rfl
   rw [rdn] at hx0 hx1
   clear rdn
   have htk : l0.take (n + 1) = l0.take n ++ [l0[n]] := by rw [List.take_add_one, List.getElem?_eq_getElem hlt]; rfl
   have hlen2 : ((l0.take n).filter fun x => !fields_in names x).length ≤ n := Nat.le_trans (List.length_filter_le _ _) (by rw [List.length_take]; omega)
   have HDX := fun (W : World) (hb : Below w.heap.size w W) => HDA.out W hb l0[n] (List.getElem_mem hlt)
   generalize l0[n] = x at hx0 hx1 htk HDX
   have HTK := Aside0.mk htk
   clear htk
   cases hin : fields_in names x
   ·rw [hin] at HDX
    have HIN := Aside0.mk hin
    clear hin
    go_wp2_with (first | (go_at_call 99; refine (HDX _ (HB.out.alloc HB.out.size _)).mono ?_; rintro e w1 ⟨rfl, hb⟩; have d0 : w1.cell? ⟨wr.heap.size, 0, none⟩ = some (.string x.f0) := Hand.cell_below hb (by simp [go_sem]) (by simp); have d1 : w1.cell? ⟨wr.heap.size, 1, none⟩ = some (.string x.f1) := Hand.cell_below hb (by simp [go_sem]) (by simp); have HO1 := Aside0.mk (Kd.R_below (Kd.R_alloc HO.out _) hb); have HB1 := Aside0.mk (below_step (HB.out.alloc HB.out.size _) hb); clear HO HB hb HDX) | (at_builtin; refine Kd.R_append k98 (w0 := w) w.heap.size rfl (.tmp 17) (.tmp 19) 23 98 (.agg #[(.string ⟨#[]⟩), (.string ⟨#[]⟩)]) 32 rfl Tryz.underlying23 fields_info rfl (by decide) (by omega) u5 ((l0.take n).filter fun x => !fields_in names x) x [.string x.f0, .string x.f1] (fun _ => True) (fun _ => False) rfl rfl ?aP (fun _ hk => hk.elim) ?aF ?aO ?aB ?aS ?aL ?_; (case aP => exact k98_mkM _ _ _ _); (case aB => exact HB1.out); (case aF => exact (fun _ _ => trivial)); (case aO => exact HO1.out); (case aS => exact HB1.out.size); (case aL => omega); intro v2 w2 ho hb hg hat; have HO2 := Aside0.mk ho; have HB2 := Aside0.mk hb; clear HO1 HB1 ho hb hg hat))
    go_roundw
    case rel => exact ⟨n + 1, by omega, by go_num, ⟨by rw [HTK.out, List.filter_append, show [x].filter (fun x => !fields_in names x) = [x] by simp [HIN.out]]; exact HO2.out⟩, HB2⟩
    case measure => simp [intOf]; omega
   ·rw [hin] at HDX
    have HIN := Aside0.mk hin
    clear hin
    go_wp2_with (go_at_call 99; refine (HDX _ (HB.out.alloc HB.out.size _)).mono ?_; rintro e w1 ⟨rfl, hb⟩; have HO1 := Aside0.mk (Kd.R_below (Kd.R_alloc HO.out _) hb); have HB1 := Aside0.mk (below_step (HB.out.alloc HB.out.size _) hb); clear HO HB hb HDX)
    go_roundw
    case rel => exact ⟨n + 1, by omega, by go_num, ⟨by rw [HTK.out, List.filter_append, show [x].filter (fun x => !fields_in names x) = [] by simp [HIN.out], List.append_nil]; exact HO1.out⟩, HB1⟩
    case measure => simp [intOf]; omega
  ·go_wp2
   go_ret
   exact ⟨_, rfl, by rw [List.take_of_length_le (by omega)] at HO; exact HO.out, HB.out⟩
theorem fields_Drop.calls (A0 : Option Addr) (c0 : Nat) (l0 : List S98) (A1 : Option Addr) (c1 : Nat) (l1 : List ByteArray) (r : List S98) (w : World) (hr0 : Kd.C k98 w A0 l0.length l0) (hc0 : l0.length ≤ c0) (hr1 : Kd.C Kd.string w A1 l1.length l1) (hc1 : l1.length ≤ c1) (h : fields_Drop.f l0 l1 = some r) :
  Calls Tryz.prog 65 #[.slice A0 l0.length c0, .slice A1 l1.length c1] w fun e w' => ∃ v0_ : Value, e = .returned (v0_) ∧ Kd.R k98 98 w' w.heap.size (fun _ => True) v0_ r ∧ Below w.heap.size w w' := by
 unfold fields_Drop.f at h
 split at h
 case isFalse => cases h
 case isTrue hh =>
 obtain rfl := Option.some.inj h
 clear h
 obtain ⟨hlen, hn, hall⟩ := hh
 have hb1 := Hand.alloc_below w (.cells #[.slice A1 l1.length c1] 59)
 have HC := Aside0.mk (fields_chosen_drop A0 c0 l0 A1 c1 l1 w.heap.size _ (Kd.C_below hr0 hb1) hc0 (blk_cell (blk_new w (.cells #[.slice A1 l1.length c1] 59)) 0) (by simp) (Kd.C_below hr1 hb1) hc1 hlen hn hall)
 have HB1 := Aside0.mk hb1
 clear hr0 hr1 hall hb1
 go_enter Tryz.func65, Tryz.ntmps65
 go_wp2_with (go_at_call 94; refine HC.out.mono ?_; rintro e w2 ⟨v, rfl, ho, hb2⟩; clear HC; have HO := Aside0.mk (Kd.R_lower ho HB1.out.size); have HB2 := Aside0.mk (below_then HB1.out HB1.out.size hb2); clear ho hb2)
 go_ret
 exact ⟨_, rfl, HO.out, HB2.out⟩

end Go.Proofs.YtjaklgikfcahdaaGreatDoor.PU
