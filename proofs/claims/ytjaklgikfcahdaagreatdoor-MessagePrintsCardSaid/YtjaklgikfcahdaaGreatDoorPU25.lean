-- Halved: the indents of this text are half of the print's.
-- Out of the translation, by a program of this session: each function that a law comes to as a Lean function, and that the machine's call does what it says. Lean checks it.
import Derived.Test.YtjaklgikfcahdaaGreatDoorPU0
import Derived.Test.YtjaklgikfcahdaaGreatDoorPU14
import Derived.Test.YtjaklgikfcahdaaGreatDoorPU15
import Derived.Test.YtjaklgikfcahdaaGreatDoorPU21
import Derived.Test.YtjaklgikfcahdaaGreatDoorPU24
namespace Go.Proofs.YtjaklgikfcahdaaGreatDoor.PU
open Go.RowKit Go.Proofs.YtjaklgikfcahdaaGreatDoorW.PrintWords Go.Proofs.YtjaklgikfcahdaaGreatDoorW.PrintLast Go.Proofs.YtjaklgikfcahdaaGreatDoorW.PrintMore
attribute [local go_sem] max2_int min2_int max_two min_two max_three min_three max_four min_four   -- for this text's walks alone
set_option linter.unusedVariables false
set_option linter.unusedSimpArgs false

/-! ### depotref12_CheckReply: function 24 -/
mutual
def depotref12_CheckReply.j0 : Nat → Bool → Int → ByteArray → Int → List (S98) → ByteArray → Option (Int)
 | 0, _, _, _, _, _, _ => none
 | k + 1, x25, x285000, x285001, x285002, x285003, x285004 => if x25 = true then (some 20) else ((depotref10_PrintStatus.f k x285000 x285001 x285002).bind fun t285 => ((depotref10_Status.f k t285).bind fun bt286 => (if bt286.2.2.2 = 0 then (depotref12_CheckReply.j1 k (bt286.2.1.toList != x285001.toList) x285000 x285001 x285002 x285003 x285004) else (depotref12_CheckReply.j1 k true x285000 x285001 x285002 x285003 x285004))))
def depotref12_CheckReply.j1 : Nat → Bool → Int → ByteArray → Int → List (S98) → ByteArray → Option (Int)
 | 0, _, _, _, _, _, _ => none
 | k + 1, x46, x285000, x285001, x285002, x285003, x285004 => if x46 = true then (some 20) else ((depotref12_fits.f k x285003).bind fun t290 => (if t290 = 0 then ((depotref12_Bodiless.f x285000).bind fun t291 => (if t291 = true then (depotref12_CheckReply.j2 k (x285004.toList != ([] : List UInt8)) x285000 x285001 x285002 x285003 x285004) else (depotref12_CheckReply.j2 k false x285000 x285001 x285002 x285003 x285004))) else (some t290)))
def depotref12_CheckReply.j2 : Nat → Bool → Int → ByteArray → Int → List (S98) → ByteArray → Option (Int)
 | 0, _, _, _, _, _, _ => none
 | k + 1, x60, x285000, x285001, x285002, x285003, x285004 => if x60 = true then (some 22) else ((depotref12_PrintReply.f k x285000 x285001 x285002 x285003 x285004 false).bind fun t292 => (if (t292.size : Int) > 65536 then (some 4) else ((depotref12_Bodiless.f x285000).bind fun t293 => (if t293 = true then (some 0) else (if (x285003.length : Int) ≥ 64 then (some 4) else (some 0))))))
end
def depotref12_CheckReply.f (k : Nat) (a0_0 : Int) (a0_1 : ByteArray) (a0_2 : Int) (l0_3 : List (S98)) (a0_4 : ByteArray) : Option (Int) := if a0_2 < 0 then (depotref12_CheckReply.j0 k true a0_0 a0_1 a0_2 l0_3 a0_4) else (if a0_2 > 1 then (depotref12_CheckReply.j0 k true a0_0 a0_1 a0_2 l0_3 a0_4) else (if a0_0 < 200 then (depotref12_CheckReply.j0 k true a0_0 a0_1 a0_2 l0_3 a0_4) else (depotref12_CheckReply.j0 k (decide (a0_0 > 599)) a0_0 a0_1 a0_2 l0_3 a0_4)))
theorem depotref12_CheckReply.mono_l : ∀ k, (∀ y0 y1 y2 y3 y4 y5, LeO (depotref12_CheckReply.j0 k y0 y1 y2 y3 y4 y5) (depotref12_CheckReply.j0 (k + 1) y0 y1 y2 y3 y4 y5)) ∧ (∀ y0 y1 y2 y3 y4 y5, LeO (depotref12_CheckReply.j1 k y0 y1 y2 y3 y4 y5) (depotref12_CheckReply.j1 (k + 1) y0 y1 y2 y3 y4 y5)) ∧ (∀ y0 y1 y2 y3 y4 y5, LeO (depotref12_CheckReply.j2 k y0 y1 y2 y3 y4 y5) (depotref12_CheckReply.j2 (k + 1) y0 y1 y2 y3 y4 y5))
 | 0 => ⟨fun _ _ _ _ _ _ r h => by simp [depotref12_CheckReply.j0] at h, fun _ _ _ _ _ _ r h => by simp [depotref12_CheckReply.j1] at h, fun _ _ _ _ _ _ r h => by simp [depotref12_CheckReply.j2] at h⟩
 | k + 1 => by
  obtain ⟨ih0, ih1, ih2⟩ := depotref12_CheckReply.mono_l k
  refine ⟨?_, ?_, ?_⟩
  ·intro y0 y1 y2 y3 y4 y5
   unfold depotref12_CheckReply.j0
   repeat' first
   | (with_reducible exact ih0 _ _ _ _ _ _)
   | (with_reducible exact ih1 _ _ _ _ _ _)
   | (with_reducible exact ih2 _ _ _ _ _ _)
   | (with_reducible exact depotref10_PrintStatus.mono _ _ _ _)
   | (with_reducible exact depotref10_Status.mono _ _)
   | (with_reducible exact depotref12_PrintReply.mono _ _ _ _ _ _ _)
   | (with_reducible exact depotref12_fits.mono _ _)
   | (with_reducible exact LeO.refl _)
   | (with_reducible exact LeO.none _)
   | (with_reducible refine LeO.ite ?_ ?_)
   | (with_reducible refine LeO.bind ?_ (fun _ => ?_))
   | exact ih0 _ _ _ _ _ _
   | exact ih1 _ _ _ _ _ _
   | exact ih2 _ _ _ _ _ _
   | exact depotref10_PrintStatus.mono _ _ _ _
   | exact depotref10_Status.mono _ _
   | exact depotref12_PrintReply.mono _ _ _ _ _ _ _
   | exact depotref12_fits.mono _ _
   | exact LeO.none _
   | refine LeO.ite ?_ ?_
   | refine LeO.bind ?_ (fun _ => ?_)
  ·intro y0 y1 y2 y3 y4 y5
   unfold depotref12_CheckReply.j1
   repeat' first
   | (with_reducible exact ih0 _ _ _ _ _ _)
   | (with_reducible exact ih1 _ _ _ _ _ _)
   | (with_reducible exact ih2 _ _ _ _ _ _)
   | (with_reducible exact depotref10_PrintStatus.mono _ _ _ _)
   | (with_reducible exact depotref10_Status.mono _ _)
   | (with_reducible exact depotref12_PrintReply.mono _ _ _ _ _ _ _)
   | (with_reducible exact depotref12_fits.mono _ _)
   | (with_reducible exact LeO.refl _)
   | (with_reducible exact LeO.none _)
   | (with_reducible refine LeO.ite ?_ ?_)
   | (with_reducible refine LeO.bind ?_ (fun _ => ?_))
   | exact ih0 _ _ _ _ _ _
   | exact ih1 _ _ _ _ _ _
   | exact ih2 _ _ _ _ _ _
   | exact depotref10_PrintStatus.mono _ _ _ _
   | exact depotref10_Status.mono _ _
   | exact depotref12_PrintReply.mono _ _ _ _ _ _ _
   | exact depotref12_fits.mono _ _
   | exact LeO.none _
   | refine LeO.ite ?_ ?_
   | refine LeO.bind ?_ (fun _ => ?_)
  ·intro y0 y1 y2 y3 y4 y5
   unfold depotref12_CheckReply.j2
   repeat' first
   | (with_reducible exact ih0 _ _ _ _ _ _)
   | (with_reducible exact ih1 _ _ _ _ _ _)
   | (with_reducible exact ih2 _ _ _ _ _ _)
   | (with_reducible exact depotref10_PrintStatus.mono _ _ _ _)
   | (with_reducible exact depotref10_Status.mono _ _)
   | (with_reducible exact depotref12_PrintReply.mono _ _ _ _ _ _ _)
   | (with_reducible exact depotref12_fits.mono _ _)
   | (with_reducible exact LeO.refl _)
   | (with_reducible exact LeO.none _)
   | (with_reducible refine LeO.ite ?_ ?_)
   | (with_reducible refine LeO.bind ?_ (fun _ => ?_))
   | exact ih0 _ _ _ _ _ _
   | exact ih1 _ _ _ _ _ _
   | exact ih2 _ _ _ _ _ _
   | exact depotref10_PrintStatus.mono _ _ _ _
   | exact depotref10_Status.mono _ _
   | exact depotref12_PrintReply.mono _ _ _ _ _ _ _
   | exact depotref12_fits.mono _ _
   | exact LeO.none _
   | refine LeO.ite ?_ ?_
   | refine LeO.bind ?_ (fun _ => ?_)
theorem depotref12_CheckReply.mono : ∀ a0 a1 a2 a3 a4 k, LeO (depotref12_CheckReply.f k a0 a1 a2 a3 a4) (depotref12_CheckReply.f (k + 1) a0 a1 a2 a3 a4) := by
 intro a0 a1 a2 a3 a4 k
 obtain ⟨ih0, ih1, ih2⟩ := depotref12_CheckReply.mono_l k
 unfold depotref12_CheckReply.f
 repeat' first
   | (with_reducible exact ih0 _ _ _ _ _ _)
   | (with_reducible exact ih1 _ _ _ _ _ _)
   | (with_reducible exact ih2 _ _ _ _ _ _)
   | (with_reducible exact depotref10_PrintStatus.mono _ _ _ _)
   | (with_reducible exact depotref10_Status.mono _ _)
   | (with_reducible exact depotref12_PrintReply.mono _ _ _ _ _ _ _)
   | (with_reducible exact depotref12_fits.mono _ _)
   | (with_reducible exact LeO.refl _)
   | (with_reducible exact LeO.none _)
   | (with_reducible refine LeO.ite ?_ ?_)
   | (with_reducible refine LeO.bind ?_ (fun _ => ?_))
   | exact ih0 _ _ _ _ _ _
   | exact ih1 _ _ _ _ _ _
   | exact ih2 _ _ _ _ _ _
   | exact depotref10_PrintStatus.mono _ _ _ _
   | exact depotref10_Status.mono _ _
   | exact depotref12_PrintReply.mono _ _ _ _ _ _ _
   | exact depotref12_fits.mono _ _
   | exact LeO.none _
   | refine LeO.ite ?_ ?_
   | refine LeO.bind ?_ (fun _ => ?_)
set_option maxHeartbeats 8000000 in
set_option maxRecDepth 100000 in
theorem depotref12_CheckReply.calls (k : Nat) (a0_0 : Int) (a0_1 : ByteArray) (a0_2 : Int) (A0_3 : Option Addr) (c0_3 : Nat) (l0_3 : List (S98)) (a0_4 : ByteArray) (r : Int) (w : World) (hr0_3 : Kd.C k98 w A0_3 l0_3.length l0_3) (hc0_3 : l0_3.length ≤ c0_3) (h : depotref12_CheckReply.f k a0_0 a0_1 a0_2 l0_3 a0_4 = some r) :
  Calls Tryz.prog 24 #[.agg #[.int .i64 a0_0, .string a0_1, .int .i64 a0_2, .slice A0_3 l0_3.length c0_3, .string a0_4]] w fun e w' => e = .returned (.int .i64 r) ∧ Below w.heap.size w w' := by
 have hu34 := Tryz.underlying34
 have HR0_3 := Aside0.mk hr0_3
 have HC0_3 := Aside0.mk hc0_3
 clear hr0_3 hc0_3
 have HB := Aside0.mk (Below.refl w.heap.size w)
 have H : (if a0_2 < 0 then (depotref12_CheckReply.j0 k true a0_0 a0_1 a0_2 l0_3 a0_4) else (if a0_2 > 1 then (depotref12_CheckReply.j0 k true a0_0 a0_1 a0_2 l0_3 a0_4) else (if a0_0 < 200 then (depotref12_CheckReply.j0 k true a0_0 a0_1 a0_2 l0_3 a0_4) else (depotref12_CheckReply.j0 k (decide (a0_0 > 599)) a0_0 a0_1 a0_2 l0_3 a0_4)))) = some r := h
 clear h
 have HC2 := Aside0.mk H
 clear H
 go_enter Tryz.func24, Tryz.ntmps24
 go_upto_region 1 with (first | ((with_reducible refine gate_dst (N := 1) rfl ?_); (try (refine gate_guard (by rfl) ?_; dsimp only)); refine box_event ?hg (N := 1) ?hd (cs := #[.int .i64 a0_0, .string a0_1, .int .i64 a0_2, .slice A0_3 l0_3.length c0_3, .string a0_4]) (t := 34) ?hr ?_; (case hd => rfl); (case hg => rfl); (case hr => first | (go_simp; done) | (go_simp; rfl)); intro gb284 hg w3 hbox hb; have n0_ := Aside0.mk (below_step (by repeat (first | (with_reducible first | exact HB.out | apply below_alloc | apply pw_below_drewN | apply below_drew1) | exact HB.out)) hb); have n1_ := Aside0.mk (hbox); have n2_ := Aside0.mk ((by rw [hg]; exact (below_size (by repeat (first | (with_reducible first | exact HB.out | apply below_alloc | apply pw_below_drewN | apply below_drew1) | exact HB.out))) : w.heap.size ≤ gb284)); have n3_ := Aside0.mk ((by rw [hg]; exact (below_size (by repeat (first | (with_reducible first | exact HB.out | apply below_alloc | apply pw_below_drewN | apply below_drew1) | exact HB.out))) : w.heap.size ≤ gb284)); clear HB; have HB := n0_; have BK284 := n1_; have GW284 := n2_; have GE284 := n3_; clear n0_ n1_ n2_ n3_; clear hb hbox hg))
 (try simp only [Act.put, List.setIfInBounds_toArray, List.set_cons_zero, List.set_cons_succ])
 go_cut [25] (fun v25 wc => ∃ (kq : Nat) (x25_1 : Bool), v25 = .bool x25_1 ∧ Aside0 (depotref12_CheckReply.j0 kq x25_1 a0_0 a0_1 a0_2 l0_3 a0_4 = some r) ∧ Aside0 (kq ≤ k) ∧ Aside0 (wc.heap[gb284]? = some (.cells #[.int .i64 a0_0, .string a0_1, .int .i64 a0_2, (.slice A0_3 l0_3.length c0_3), .string a0_4] 34 (0, 0))) ∧ Aside0 (Below w.heap.size w wc))
 case first => as_aux_lemma =>
  have H := HC2.out
  clear HC2
  by_cases c4 : a0_2 < 0
  ·rw [if_pos c4] at H
   have c4b0 : decide (a0_2 < 0) = true := decide_eq_true c4
   clear c4
   (first | rw [c4b0] | (simp only [i64_w, i32_w]; rw [c4b0]) | skip)
   have H' := Aside0.mk H
   clear H
   have hcz5_0 : w3.cell? ⟨gb284, 0, none⟩ = some (.int .i64 a0_0) := (blk_cell BK284.out 0).trans rfl
   have hcz5_1 : w3.cell? ⟨gb284, 1, none⟩ = some (.string a0_1) := (blk_cell BK284.out 1).trans rfl
   have hcz5_2 : w3.cell? ⟨gb284, 2, none⟩ = some (.int .i64 a0_2) := (blk_cell BK284.out 2).trans rfl
   have hcz5_3 : w3.cell? ⟨gb284, 3, none⟩ = some (.slice A0_3 l0_3.length c0_3) := (blk_cell BK284.out 3).trans rfl
   have hcz5_4 : w3.cell? ⟨gb284, 4, none⟩ = some (.string a0_4) := (blk_cell BK284.out 4).trans rfl
   have hfz5_0 := blk_frozen BK284.out 0
   have hfz5_1 := blk_frozen BK284.out 1
   have hfz5_2 := blk_frozen BK284.out 2
   have hfz5_3 := blk_frozen BK284.out 3
   have hfz5_4 := blk_frozen BK284.out 4
   go_wp2
   go_meet
   case rel => exact ⟨_, (true), (by first | rfl | (simp; done) | (simp [*]; done) | (simp; exact Hand.isEmpty_ne _)), H', ⟨by first | omega | exact Nat.le_refl _⟩, ⟨by (with_reducible repeat (first | refine blk_drewN ?_ _ | refine blk_drew ?_ | refine blk_alloc ?_ _)); exact BK284.out⟩, ⟨by repeat (first | (with_reducible first | exact HB.out | apply below_alloc | apply pw_below_drewN | apply below_drew1 | refine below_set ?_ GE284.out) | exact HB.out)⟩⟩
  ·rw [if_neg c4] at H
   have c4b0 : decide (a0_2 < 0) = false := decide_eq_false c4
   clear c4
   (first | rw [c4b0] | (simp only [i64_w, i32_w]; rw [c4b0]) | skip)
   by_cases c6 : a0_2 > 1
   ·rw [if_pos c6] at H
    have c6b0 : decide (1 < a0_2) = true := decide_eq_true c6
    clear c6
    have H' := Aside0.mk H
    clear H
    have hcz7_0 : w3.cell? ⟨gb284, 0, none⟩ = some (.int .i64 a0_0) := (blk_cell BK284.out 0).trans rfl
    have hcz7_1 : w3.cell? ⟨gb284, 1, none⟩ = some (.string a0_1) := (blk_cell BK284.out 1).trans rfl
    have hcz7_2 : w3.cell? ⟨gb284, 2, none⟩ = some (.int .i64 a0_2) := (blk_cell BK284.out 2).trans rfl
    have hcz7_3 : w3.cell? ⟨gb284, 3, none⟩ = some (.slice A0_3 l0_3.length c0_3) := (blk_cell BK284.out 3).trans rfl
    have hcz7_4 : w3.cell? ⟨gb284, 4, none⟩ = some (.string a0_4) := (blk_cell BK284.out 4).trans rfl
    have hfz7_0 := blk_frozen BK284.out 0
    have hfz7_1 := blk_frozen BK284.out 1
    have hfz7_2 := blk_frozen BK284.out 2
    have hfz7_3 := blk_frozen BK284.out 3
    have hfz7_4 := blk_frozen BK284.out 4
    go_wp2
    go_meet
    case rel => exact ⟨_, (true), (by first | rfl | (simp; done) | (simp [*]; done) | (simp; exact Hand.isEmpty_ne _)), H', ⟨by first | omega | exact Nat.le_refl _⟩, ⟨by (with_reducible repeat (first | refine blk_drewN ?_ _ | refine blk_drew ?_ | refine blk_alloc ?_ _)); exact BK284.out⟩, ⟨by repeat (first | (with_reducible first | exact HB.out | apply below_alloc | apply pw_below_drewN | apply below_drew1 | refine below_set ?_ GE284.out) | exact HB.out)⟩⟩
   ·rw [if_neg c6] at H
    have c6b0 : decide (1 < a0_2) = false := decide_eq_false c6
    clear c6
    by_cases c8 : a0_0 < 200
    ·rw [if_pos c8] at H
     have c8b0 : decide (a0_0 < 200) = true := decide_eq_true c8
     clear c8
     have H' := Aside0.mk H
     clear H
     have hcz9_0 : w3.cell? ⟨gb284, 0, none⟩ = some (.int .i64 a0_0) := (blk_cell BK284.out 0).trans rfl
     have hcz9_1 : w3.cell? ⟨gb284, 1, none⟩ = some (.string a0_1) := (blk_cell BK284.out 1).trans rfl
     have hcz9_2 : w3.cell? ⟨gb284, 2, none⟩ = some (.int .i64 a0_2) := (blk_cell BK284.out 2).trans rfl
     have hcz9_3 : w3.cell? ⟨gb284, 3, none⟩ = some (.slice A0_3 l0_3.length c0_3) := (blk_cell BK284.out 3).trans rfl
     have hcz9_4 : w3.cell? ⟨gb284, 4, none⟩ = some (.string a0_4) := (blk_cell BK284.out 4).trans rfl
     have hfz9_0 := blk_frozen BK284.out 0
     have hfz9_1 := blk_frozen BK284.out 1
     have hfz9_2 := blk_frozen BK284.out 2
     have hfz9_3 := blk_frozen BK284.out 3
     have hfz9_4 := blk_frozen BK284.out 4
     go_wp2
     go_meet
     case rel => exact ⟨_, (true), (by first | rfl | (simp; done) | (simp [*]; done) | (simp; exact Hand.isEmpty_ne _)), H', ⟨by first | omega | exact Nat.le_refl _⟩, ⟨by (with_reducible repeat (first | refine blk_drewN ?_ _ | refine blk_drew ?_ | refine blk_alloc ?_ _)); exact BK284.out⟩, ⟨by repeat (first | (with_reducible first | exact HB.out | apply below_alloc | apply pw_below_drewN | apply below_drew1 | refine below_set ?_ GE284.out) | exact HB.out)⟩⟩
    ·rw [if_neg c8] at H
     have c8b0 : decide (a0_0 < 200) = false := decide_eq_false c8
     clear c8
     have H' := Aside0.mk H
     clear H
     have hcz10_0 : w3.cell? ⟨gb284, 0, none⟩ = some (.int .i64 a0_0) := (blk_cell BK284.out 0).trans rfl
     have hcz10_1 : w3.cell? ⟨gb284, 1, none⟩ = some (.string a0_1) := (blk_cell BK284.out 1).trans rfl
     have hcz10_2 : w3.cell? ⟨gb284, 2, none⟩ = some (.int .i64 a0_2) := (blk_cell BK284.out 2).trans rfl
     have hcz10_3 : w3.cell? ⟨gb284, 3, none⟩ = some (.slice A0_3 l0_3.length c0_3) := (blk_cell BK284.out 3).trans rfl
     have hcz10_4 : w3.cell? ⟨gb284, 4, none⟩ = some (.string a0_4) := (blk_cell BK284.out 4).trans rfl
     have hfz10_0 := blk_frozen BK284.out 0
     have hfz10_1 := blk_frozen BK284.out 1
     have hfz10_2 := blk_frozen BK284.out 2
     have hfz10_3 := blk_frozen BK284.out 3
     have hfz10_4 := blk_frozen BK284.out 4
     go_wp2
     go_meet
     case rel => exact ⟨_, (decide (a0_0 > 599)), (by first | rfl | (simp; done) | (simp [*]; done) | (simp; exact Hand.isEmpty_ne _)), H', ⟨by first | omega | exact Nat.le_refl _⟩, ⟨by (with_reducible repeat (first | refine blk_drewN ?_ _ | refine blk_drew ?_ | refine blk_alloc ?_ _)); exact BK284.out⟩, ⟨by repeat (first | (with_reducible first | exact HB.out | apply below_alloc | apply pw_below_drewN | apply below_drew1 | refine below_set ?_ GE284.out) | exact HB.out)⟩⟩
 case rest => as_aux_lemma =>
  clear HC2
  try clear c2
  try clear p2
  try clear c4
  try clear c4b0
  try clear c6
  try clear c6b0
  try clear c8
  try clear c8b0
  try clear hcz10_0
  try clear hcz10_1
  try clear hcz10_2
  try clear hcz10_3
  try clear hcz10_4
  try clear hcz5_0
  try clear hcz5_1
  try clear hcz5_2
  try clear hcz5_3
  try clear hcz5_4
  try clear hcz7_0
  try clear hcz7_1
  try clear hcz7_2
  try clear hcz7_3
  try clear hcz7_4
  try clear hcz9_0
  try clear hcz9_1
  try clear hcz9_2
  try clear hcz9_3
  try clear hcz9_4
  try clear hfz10_0
  try clear hfz10_1
  try clear hfz10_2
  try clear hfz10_3
  try clear hfz10_4
  try clear hfz5_0
  try clear hfz5_1
  try clear hfz5_2
  try clear hfz5_3
  try clear hfz5_4
  try clear hfz7_0
  try clear hfz7_1
  try clear hfz7_2
  try clear hfz7_3
  try clear hfz7_4
  try clear hfz9_0
  try clear hfz9_1
  try clear hfz9_2
  try clear hfz9_3
  try clear hfz9_4
  obtain ⟨kq, x25_1, rfl, HA, HJ1, BK284, HB⟩ := hcut
  cases kq with
  | zero => exact absurd HA.out (by simp [depotref12_CheckReply.j0])
  | succ kj1 =>
   have H := HA.out
   clear HA
   simp only [depotref12_CheckReply.j0] at H
   by_cases c11 : x25_1 = true
   ·subst c11
    have H1 : (some 20) = some r := by rw [if_pos rfl] at H; exact H
    clear H
    have H := H1
    clear H1
    obtain rfl := Option.some.inj H
    go_wp2
    go_ret
    exact ⟨by first | rfl | (simp [errW_none, errW_some] <;> rfl) | (simp [*, errW_none, errW_some] <;> rfl), by repeat (first | (with_reducible first | exact HB.out | apply below_alloc | apply pw_below_drewN | apply below_drew1 | refine below_set ?_ GE284.out) | exact HB.out)⟩
   ·replace c11 := Bool.eq_false_iff.mpr c11
    subst c11
    have H1 : ((depotref10_PrintStatus.f kj1 a0_0 a0_1 a0_2).bind fun t285 => ((depotref10_Status.f kj1 t285).bind fun bt286 => (if bt286.2.2.2 = 0 then (depotref12_CheckReply.j1 kj1 (bt286.2.1.toList != a0_1.toList) a0_0 a0_1 a0_2 l0_3 a0_4) else (depotref12_CheckReply.j1 kj1 true a0_0 a0_1 a0_2 l0_3 a0_4)))) = some r := by rw [if_neg (show ¬ (false = true) by decide)] at H; exact H
    clear H
    have H := H1
    clear H1
    replace H := Option.bind_eq_some_iff.mp H
    obtain ⟨t285, A120, H⟩ := H
    replace H : ((depotref10_Status.f kj1 t285).bind fun bt286 => (if bt286.2.2.2 = 0 then (depotref12_CheckReply.j1 kj1 (bt286.2.1.toList != a0_1.toList) a0_0 a0_1 a0_2 l0_3 a0_4) else (depotref12_CheckReply.j1 kj1 true a0_0 a0_1 a0_2 l0_3 a0_4))) = some r := H
    have A12 := Aside0.mk A120
    clear A120
    replace H := Option.bind_eq_some_iff.mp H
    obtain ⟨⟨t286, t287, t288, t289⟩, A130, H⟩ := H
    replace H : (if t289 = 0 then (depotref12_CheckReply.j1 kj1 (t287.toList != a0_1.toList) a0_0 a0_1 a0_2 l0_3 a0_4) else (depotref12_CheckReply.j1 kj1 true a0_0 a0_1 a0_2 l0_3 a0_4)) = some r := H
    have A13 := Aside0.mk A130
    clear A130
    have HC14 := Aside0.mk H
    clear H
    have hcz15_0 : wc.cell? ⟨gb284, 0, none⟩ = some (.int .i64 a0_0) := (blk_cell BK284.out 0).trans rfl
    have hcz15_1 : wc.cell? ⟨gb284, 1, none⟩ = some (.string a0_1) := (blk_cell BK284.out 1).trans rfl
    have hcz15_2 : wc.cell? ⟨gb284, 2, none⟩ = some (.int .i64 a0_2) := (blk_cell BK284.out 2).trans rfl
    have hcz15_3 : wc.cell? ⟨gb284, 3, none⟩ = some (.slice A0_3 l0_3.length c0_3) := (blk_cell BK284.out 3).trans rfl
    have hcz15_4 : wc.cell? ⟨gb284, 4, none⟩ = some (.string a0_4) := (blk_cell BK284.out 4).trans rfl
    have hfz15_0 := blk_frozen BK284.out 0
    have hfz15_1 := blk_frozen BK284.out 1
    have hfz15_2 := blk_frozen BK284.out 2
    have hfz15_3 := blk_frozen BK284.out 3
    have hfz15_4 := blk_frozen BK284.out 4
    go_upto_region 4 with (first | ((with_reducible refine gate_callee (f := 51) rfl ?_); refine goesL_ (some 33) rfl rfl Tryz.func51 (by kernel_rfl) rfl #[.int .i64 a0_0, .string a0_1, .int .i64 a0_2] rfl (by (try simp only [List.map_toArray, List.map_cons, List.map_nil]); first | done | rfl | (simp only [List.length_drop, List.length_take]; rfl)) ?_; (with_reducible refine (depotref10_PrintStatus.calls kj1 a0_0 a0_1 a0_2 t285 _ A12.out).mono ?_); rintro e w' ⟨rfl, ⟨nd, rfl⟩⟩; refine ⟨_, rfl, ?_⟩) | ((with_reducible refine gate_callee (f := 42) rfl ?_); refine goesL_ (some 34) rfl rfl Tryz.func42 (by kernel_rfl) rfl #[.string t285] rfl (by (try simp only [List.map_toArray, List.map_cons, List.map_nil]); first | done | rfl | (simp only [List.length_drop, List.length_take]; rfl)) ?_; (with_reducible refine (depotref10_Status.calls kj1 t285 t286 t287 t288 t289 _ A13.out).mono ?_); rintro e w' ⟨rfl, ⟨nd, rfl⟩⟩; refine ⟨_, rfl, ?_⟩))
    (try simp only [Act.put, List.setIfInBounds_toArray, List.set_cons_zero, List.set_cons_succ])
    go_cut [46] (fun v46 wc => ∃ (kq : Nat) (x46_13 : Bool), v46 = .bool x46_13 ∧ Aside0 (depotref12_CheckReply.j1 kq x46_13 a0_0 a0_1 a0_2 l0_3 a0_4 = some r) ∧ Aside0 (kq ≤ kj1) ∧ Aside0 (wc.heap[gb284]? = some (.cells #[.int .i64 a0_0, .string a0_1, .int .i64 a0_2, (.slice A0_3 l0_3.length c0_3), .string a0_4] 34 (0, 0))) ∧ Aside0 (Below w.heap.size w wc))
    case first => as_aux_lemma =>
     have H := HC14.out
     clear HC14
     by_cases c16 : t289 = 0
     ·rw [if_pos c16] at H
      have c16b0 : (t289 == 0) = true := beq_iff_eq.mpr c16
      have c16b1 : (t289 != 0) = false := bne_eq_false_iff_eq.mpr c16
      clear c16
      (first | rw [c16b0] | (simp only [i64_w, i32_w]; rw [c16b0]) | skip)
      have H' := Aside0.mk H
      clear H
      have hcz17_0 : wc.cell? ⟨gb284, 0, none⟩ = some (.int .i64 a0_0) := (blk_cell BK284.out 0).trans rfl
      have hcz17_1 : wc.cell? ⟨gb284, 1, none⟩ = some (.string a0_1) := (blk_cell BK284.out 1).trans rfl
      have hcz17_2 : wc.cell? ⟨gb284, 2, none⟩ = some (.int .i64 a0_2) := (blk_cell BK284.out 2).trans rfl
      have hcz17_3 : wc.cell? ⟨gb284, 3, none⟩ = some (.slice A0_3 l0_3.length c0_3) := (blk_cell BK284.out 3).trans rfl
      have hcz17_4 : wc.cell? ⟨gb284, 4, none⟩ = some (.string a0_4) := (blk_cell BK284.out 4).trans rfl
      have hfz17_0 := blk_frozen BK284.out 0
      have hfz17_1 := blk_frozen BK284.out 1
      have hfz17_2 := blk_frozen BK284.out 2
      have hfz17_3 := blk_frozen BK284.out 3
      have hfz17_4 := blk_frozen BK284.out 4
      go_wp2
      go_meet
      case rel => exact ⟨_, ((t287.toList != a0_1.toList)), (by first | rfl | (simp; done) | (simp [*]; done) | (simp; exact Hand.isEmpty_ne _)), H', ⟨by have := HJ1.out; first | omega | exact Nat.le_refl _⟩, ⟨by (with_reducible repeat (first | refine blk_drewN ?_ _ | refine blk_drew ?_ | refine blk_alloc ?_ _)); exact BK284.out⟩, ⟨by repeat (first | (with_reducible first | exact HB.out | apply below_alloc | apply pw_below_drewN | apply below_drew1 | refine below_set ?_ GE284.out) | exact HB.out)⟩⟩
     ·rw [if_neg c16] at H
      have c16b0 : (t289 == 0) = false := beq_eq_false_iff_ne.mpr c16
      have c16b1 : (t289 != 0) = true := bne_iff_ne.mpr c16
      (first | rw [c16b0] | (simp only [i64_w, i32_w]; rw [c16b0]) | skip)
      have H' := Aside0.mk H
      clear H
      go_wp2
      go_meet
      case rel => exact ⟨_, (true), (by first | rfl | (simp; done) | (simp [*]; done) | (simp; exact Hand.isEmpty_ne _)), H', ⟨by have := HJ1.out; first | omega | exact Nat.le_refl _⟩, ⟨by (with_reducible repeat (first | refine blk_drewN ?_ _ | refine blk_drew ?_ | refine blk_alloc ?_ _)); exact BK284.out⟩, ⟨by repeat (first | (with_reducible first | exact HB.out | apply below_alloc | apply pw_below_drewN | apply below_drew1 | refine below_set ?_ GE284.out) | exact HB.out)⟩⟩
    case rest => as_aux_lemma =>
     clear HC14
     try clear c1
     try clear c2
     try clear p2
     try clear c4
     try clear c4b0
     try clear c5
     try clear c6
     try clear c6b0
     try clear c8
     try clear c8b0
     try clear c11
     try clear c16
     try clear c16b0
     try clear c16b1
     try clear hcz10_0
     try clear hcz10_1
     try clear hcz10_2
     try clear hcz10_3
     try clear hcz10_4
     try clear hcz15_0
     try clear hcz15_1
     try clear hcz15_2
     try clear hcz15_3
     try clear hcz15_4
     try clear hcz17_0
     try clear hcz17_1
     try clear hcz17_2
     try clear hcz17_3
     try clear hcz17_4
     try clear hcz5_0
     try clear hcz5_1
     try clear hcz5_2
     try clear hcz5_3
     try clear hcz5_4
     try clear hcz7_0
     try clear hcz7_1
     try clear hcz7_2
     try clear hcz7_3
     try clear hcz7_4
     try clear hcz9_0
     try clear hcz9_1
     try clear hcz9_2
     try clear hcz9_3
     try clear hcz9_4
     try clear hfz10_0
     try clear hfz10_1
     try clear hfz10_2
     try clear hfz10_3
     try clear hfz10_4
     try clear hfz15_0
     try clear hfz15_1
     try clear hfz15_2
     try clear hfz15_3
     try clear hfz15_4
     try clear hfz17_0
     try clear hfz17_1
     try clear hfz17_2
     try clear hfz17_3
     try clear hfz17_4
     try clear hfz5_0
     try clear hfz5_1
     try clear hfz5_2
     try clear hfz5_3
     try clear hfz5_4
     try clear hfz7_0
     try clear hfz7_1
     try clear hfz7_2
     try clear hfz7_3
     try clear hfz7_4
     try clear hfz9_0
     try clear hfz9_1
     try clear hfz9_2
     try clear hfz9_3
     try clear hfz9_4
     try clear p2
     obtain ⟨kq, x46_13, rfl, HA, HJ13, BK284, HB⟩ := hcut
     cases kq with
     | zero => exact absurd HA.out (by simp [depotref12_CheckReply.j1])
     | succ kj13 =>
      have H := HA.out
      clear HA
      simp only [depotref12_CheckReply.j1] at H
      by_cases c18 : x46_13 = true
      ·subst c18
       have H1 : (some 20) = some r := by rw [if_pos rfl] at H; exact H
       clear H
       have H := H1
       clear H1
       obtain rfl := Option.some.inj H
       go_wp2
       go_ret
       exact ⟨by first | rfl | (simp [errW_none, errW_some] <;> rfl) | (simp [*, errW_none, errW_some] <;> rfl), by repeat (first | (with_reducible first | exact HB.out | apply below_alloc | apply pw_below_drewN | apply below_drew1 | refine below_set ?_ GE284.out) | exact HB.out)⟩
      ·replace c18 := Bool.eq_false_iff.mpr c18
       subst c18
       have H1 : ((depotref12_fits.f kj13 l0_3).bind fun t290 => (if t290 = 0 then ((depotref12_Bodiless.f a0_0).bind fun t291 => (if t291 = true then (depotref12_CheckReply.j2 kj13 (a0_4.toList != ([] : List UInt8)) a0_0 a0_1 a0_2 l0_3 a0_4) else (depotref12_CheckReply.j2 kj13 false a0_0 a0_1 a0_2 l0_3 a0_4))) else (some t290))) = some r := by rw [if_neg (show ¬ (false = true) by decide)] at H; exact H
       clear H
       have H := H1
       clear H1
       replace H := Option.bind_eq_some_iff.mp H
       obtain ⟨t290, A190, H⟩ := H
       replace H : (if t290 = 0 then ((depotref12_Bodiless.f a0_0).bind fun t291 => (if t291 = true then (depotref12_CheckReply.j2 kj13 (a0_4.toList != ([] : List UInt8)) a0_0 a0_1 a0_2 l0_3 a0_4) else (depotref12_CheckReply.j2 kj13 false a0_0 a0_1 a0_2 l0_3 a0_4))) else (some t290)) = some r := H
       have A19 := Aside0.mk A190
       clear A190
       by_cases c20 : t290 = 0
       ·rw [if_pos c20] at H
        have c20b0 : (t290 == 0) = true := beq_iff_eq.mpr c20
        have c20b1 : (t290 != 0) = false := bne_eq_false_iff_eq.mpr c20
        clear c20
        have HC21 := Aside0.mk H
        clear H
        have hcz22_0 : wc.cell? ⟨gb284, 0, none⟩ = some (.int .i64 a0_0) := (blk_cell BK284.out 0).trans rfl
        have hcz22_1 : wc.cell? ⟨gb284, 1, none⟩ = some (.string a0_1) := (blk_cell BK284.out 1).trans rfl
        have hcz22_2 : wc.cell? ⟨gb284, 2, none⟩ = some (.int .i64 a0_2) := (blk_cell BK284.out 2).trans rfl
        have hcz22_3 : wc.cell? ⟨gb284, 3, none⟩ = some (.slice A0_3 l0_3.length c0_3) := (blk_cell BK284.out 3).trans rfl
        have hcz22_4 : wc.cell? ⟨gb284, 4, none⟩ = some (.string a0_4) := (blk_cell BK284.out 4).trans rfl
        have hfz22_0 := blk_frozen BK284.out 0
        have hfz22_1 := blk_frozen BK284.out 1
        have hfz22_2 := blk_frozen BK284.out 2
        have hfz22_3 := blk_frozen BK284.out 3
        have hfz22_4 := blk_frozen BK284.out 4
        go_upto_region 9 with (first | ((with_reducible refine gate_callee (f := 54) rfl ?_); refine goesL_ (some 49) rfl rfl Tryz.func54 (by kernel_rfl) rfl #[.slice A0_3 l0_3.length c0_3] rfl (by (try simp only [List.map_toArray, List.map_cons, List.map_nil]); first | done | rfl | (simp only [List.length_drop, List.length_take]; rfl)) ?_; (with_reducible refine (depotref12_fits.calls kj13 _ _ l0_3 t290 _ ?side1 ?side2 A19.out).mono ?_); (case side1 => repeat (first | exact (Kd.C_below HR0_3.out HB.out) | (with_reducible refine Kd.C_alloc ?_ _) | (with_reducible refine Kd.C_drewN ?_ _) | (with_reducible refine Kd.C_drew ?_))); (case side2 => exact HC0_3.out); rintro e w23 ⟨rfl, hb⟩; refine ⟨_, rfl, ?_⟩; have n0_ := Aside0.mk (blk_below (g := gb284) (o := .cells #[.int .i64 a0_0, .string a0_1, .int .i64 a0_2, .slice A0_3 l0_3.length c0_3, .string a0_4] 34 (0, 0)) (by (with_reducible repeat (first | refine blk_drewN ?_ _ | refine blk_drew ?_ | refine blk_alloc ?_ _)); exact BK284.out) hb); have n1_ := Aside0.mk (below_step (by repeat (first | (with_reducible first | exact HB.out | apply below_alloc | apply pw_below_drewN | apply below_drew1 | refine below_set ?_ GE284.out) | exact HB.out)) hb); clear BK284; clear HB; have BK284 := n0_; have HB := n1_; clear n0_ n1_; (try clear hb); (try clear hb2); (try clear hk); (try clear hi)))
        (try simp only [Act.put, List.setIfInBounds_toArray, List.set_cons_zero, List.set_cons_succ])
        go_cut [60] (fun v60 wc => ∃ (kq : Nat) (x60_20 : Bool), v60 = .bool x60_20 ∧ Aside0 (depotref12_CheckReply.j2 kq x60_20 a0_0 a0_1 a0_2 l0_3 a0_4 = some r) ∧ Aside0 (kq ≤ kj13) ∧ Aside0 (wc.heap[gb284]? = some (.cells #[.int .i64 a0_0, .string a0_1, .int .i64 a0_2, (.slice A0_3 l0_3.length c0_3), .string a0_4] 34 (0, 0))) ∧ Aside0 (Below w.heap.size w wc))
        case first => as_aux_lemma =>
         have H := HC21.out
         clear HC21
         replace H := Option.bind_eq_some_iff.mp H
         obtain ⟨t291, A240, H⟩ := H
         replace H : (if t291 = true then (depotref12_CheckReply.j2 kj13 (a0_4.toList != ([] : List UInt8)) a0_0 a0_1 a0_2 l0_3 a0_4) else (depotref12_CheckReply.j2 kj13 false a0_0 a0_1 a0_2 l0_3 a0_4)) = some r := H
         have A24 := Aside0.mk A240
         clear A240
         by_cases c25 : t291 = true
         ·subst c25
          have H1 : (depotref12_CheckReply.j2 kj13 (a0_4.toList != ([] : List UInt8)) a0_0 a0_1 a0_2 l0_3 a0_4) = some r := by rw [if_pos rfl] at H; exact H
          clear H
          have H := H1
          clear H1
          have H' := Aside0.mk H
          clear H
          have hcz26_0 : w23.cell? ⟨gb284, 0, none⟩ = some (.int .i64 a0_0) := (blk_cell BK284.out 0).trans rfl
          have hcz26_1 : w23.cell? ⟨gb284, 1, none⟩ = some (.string a0_1) := (blk_cell BK284.out 1).trans rfl
          have hcz26_2 : w23.cell? ⟨gb284, 2, none⟩ = some (.int .i64 a0_2) := (blk_cell BK284.out 2).trans rfl
          have hcz26_3 : w23.cell? ⟨gb284, 3, none⟩ = some (.slice A0_3 l0_3.length c0_3) := (blk_cell BK284.out 3).trans rfl
          have hcz26_4 : w23.cell? ⟨gb284, 4, none⟩ = some (.string a0_4) := (blk_cell BK284.out 4).trans rfl
          have hfz26_0 := blk_frozen BK284.out 0
          have hfz26_1 := blk_frozen BK284.out 1
          have hfz26_2 := blk_frozen BK284.out 2
          have hfz26_3 := blk_frozen BK284.out 3
          have hfz26_4 := blk_frozen BK284.out 4
          go_wp2_with (first | ((with_reducible refine gate_callee (f := 26) rfl ?_); refine goesL_ (some 55) rfl rfl Tryz.func26 (by kernel_rfl) rfl #[.int .i64 a0_0] rfl (by (try simp only [List.map_toArray, List.map_cons, List.map_nil]); first | done | rfl | (simp only [List.length_drop, List.length_take]; rfl)) ?_; (with_reducible refine (depotref12_Bodiless.calls a0_0 true _ A24.out).mono ?_); rintro e w' ⟨rfl, ⟨nd, rfl⟩⟩; refine ⟨_, rfl, ?_⟩))
          go_meet
          case rel => exact ⟨_, ((a0_4.toList != ([] : List UInt8))), (by first | rfl | (simp; done) | (simp [*]; done) | (simp; exact Hand.isEmpty_ne _)), H', ⟨by have := HJ1.out; have := HJ13.out; first | omega | exact Nat.le_refl _⟩, ⟨by (with_reducible repeat (first | refine blk_drewN ?_ _ | refine blk_drew ?_ | refine blk_alloc ?_ _)); exact BK284.out⟩, ⟨by repeat (first | (with_reducible first | exact HB.out | apply below_alloc | apply pw_below_drewN | apply below_drew1 | refine below_set ?_ GE284.out) | exact HB.out)⟩⟩
         ·replace c25 := Bool.eq_false_iff.mpr c25
          subst c25
          have H1 : (depotref12_CheckReply.j2 kj13 false a0_0 a0_1 a0_2 l0_3 a0_4) = some r := by rw [if_neg (show ¬ (false = true) by decide)] at H; exact H
          clear H
          have H := H1
          clear H1
          have H' := Aside0.mk H
          clear H
          have hcz27_0 : w23.cell? ⟨gb284, 0, none⟩ = some (.int .i64 a0_0) := (blk_cell BK284.out 0).trans rfl
          have hcz27_1 : w23.cell? ⟨gb284, 1, none⟩ = some (.string a0_1) := (blk_cell BK284.out 1).trans rfl
          have hcz27_2 : w23.cell? ⟨gb284, 2, none⟩ = some (.int .i64 a0_2) := (blk_cell BK284.out 2).trans rfl
          have hcz27_3 : w23.cell? ⟨gb284, 3, none⟩ = some (.slice A0_3 l0_3.length c0_3) := (blk_cell BK284.out 3).trans rfl
          have hcz27_4 : w23.cell? ⟨gb284, 4, none⟩ = some (.string a0_4) := (blk_cell BK284.out 4).trans rfl
          have hfz27_0 := blk_frozen BK284.out 0
          have hfz27_1 := blk_frozen BK284.out 1
          have hfz27_2 := blk_frozen BK284.out 2
          have hfz27_3 := blk_frozen BK284.out 3
          have hfz27_4 := blk_frozen BK284.out 4
          go_wp2_with (first | ((with_reducible refine gate_callee (f := 26) rfl ?_); refine goesL_ (some 55) rfl rfl Tryz.func26 (by kernel_rfl) rfl #[.int .i64 a0_0] rfl (by (try simp only [List.map_toArray, List.map_cons, List.map_nil]); first | done | rfl | (simp only [List.length_drop, List.length_take]; rfl)) ?_; (with_reducible refine (depotref12_Bodiless.calls a0_0 false _ A24.out).mono ?_); rintro e w' ⟨rfl, ⟨nd, rfl⟩⟩; refine ⟨_, rfl, ?_⟩))
          go_meet
          case rel => exact ⟨_, (false), (by first | rfl | (simp; done) | (simp [*]; done) | (simp; exact Hand.isEmpty_ne _)), H', ⟨by have := HJ1.out; have := HJ13.out; first | omega | exact Nat.le_refl _⟩, ⟨by (with_reducible repeat (first | refine blk_drewN ?_ _ | refine blk_drew ?_ | refine blk_alloc ?_ _)); exact BK284.out⟩, ⟨by repeat (first | (with_reducible first | exact HB.out | apply below_alloc | apply pw_below_drewN | apply below_drew1 | refine below_set ?_ GE284.out) | exact HB.out)⟩⟩
        case rest => as_aux_lemma =>
         clear HC21
         try clear c1
         try clear c2
         try clear p2
         try clear c4
         try clear c4b0
         try clear c5
         try clear c6
         try clear c6b0
         try clear c8
         try clear c8b0
         try clear c11
         try clear c16
         try clear c16b0
         try clear c16b1
         try clear c18
         try clear c20
         try clear c20b0
         try clear c20b1
         try clear c24
         try clear c25
         try clear c26
         try clear hcz10_0
         try clear hcz10_1
         try clear hcz10_2
         try clear hcz10_3
         try clear hcz10_4
         try clear hcz15_0
         try clear hcz15_1
         try clear hcz15_2
         try clear hcz15_3
         try clear hcz15_4
         try clear hcz17_0
         try clear hcz17_1
         try clear hcz17_2
         try clear hcz17_3
         try clear hcz17_4
         try clear hcz22_0
         try clear hcz22_1
         try clear hcz22_2
         try clear hcz22_3
         try clear hcz22_4
         try clear hcz26_0
         try clear hcz26_1
         try clear hcz26_2
         try clear hcz26_3
         try clear hcz26_4
         try clear hcz27_0
         try clear hcz27_1
         try clear hcz27_2
         try clear hcz27_3
         try clear hcz27_4
         try clear hcz5_0
         try clear hcz5_1
         try clear hcz5_2
         try clear hcz5_3
         try clear hcz5_4
         try clear hcz7_0
         try clear hcz7_1
         try clear hcz7_2
         try clear hcz7_3
         try clear hcz7_4
         try clear hcz9_0
         try clear hcz9_1
         try clear hcz9_2
         try clear hcz9_3
         try clear hcz9_4
         try clear hfz10_0
         try clear hfz10_1
         try clear hfz10_2
         try clear hfz10_3
         try clear hfz10_4
         try clear hfz15_0
         try clear hfz15_1
         try clear hfz15_2
         try clear hfz15_3
         try clear hfz15_4
         try clear hfz17_0
         try clear hfz17_1
         try clear hfz17_2
         try clear hfz17_3
         try clear hfz17_4
         try clear hfz22_0
         try clear hfz22_1
         try clear hfz22_2
         try clear hfz22_3
         try clear hfz22_4
         try clear hfz26_0
         try clear hfz26_1
         try clear hfz26_2
         try clear hfz26_3
         try clear hfz26_4
         try clear hfz27_0
         try clear hfz27_1
         try clear hfz27_2
         try clear hfz27_3
         try clear hfz27_4
         try clear hfz5_0
         try clear hfz5_1
         try clear hfz5_2
         try clear hfz5_3
         try clear hfz5_4
         try clear hfz7_0
         try clear hfz7_1
         try clear hfz7_2
         try clear hfz7_3
         try clear hfz7_4
         try clear hfz9_0
         try clear hfz9_1
         try clear hfz9_2
         try clear hfz9_3
         try clear hfz9_4
         try clear p2
         obtain ⟨kq, x60_20, rfl, HA, HJ20, BK284, HB⟩ := hcut
         cases kq with
         | zero => exact absurd HA.out (by simp [depotref12_CheckReply.j2])
         | succ kj20 =>
          have H := HA.out
          clear HA
          simp only [depotref12_CheckReply.j2] at H
          by_cases c28 : x60_20 = true
          ·subst c28
           have H1 : (some 22) = some r := by rw [if_pos rfl] at H; exact H
           clear H
           have H := H1
           clear H1
           obtain rfl := Option.some.inj H
           go_wp2
           go_ret
           exact ⟨by first | rfl | (simp [errW_none, errW_some] <;> rfl) | (simp [*, errW_none, errW_some] <;> rfl), by repeat (first | (with_reducible first | exact HB.out | apply below_alloc | apply pw_below_drewN | apply below_drew1 | refine below_set ?_ GE284.out) | exact HB.out)⟩
          ·replace c28 := Bool.eq_false_iff.mpr c28
           subst c28
           have H1 : ((depotref12_PrintReply.f kj20 a0_0 a0_1 a0_2 l0_3 a0_4 false).bind fun t292 => (if (t292.size : Int) > 65536 then (some 4) else ((depotref12_Bodiless.f a0_0).bind fun t293 => (if t293 = true then (some 0) else (if (l0_3.length : Int) ≥ 64 then (some 4) else (some 0)))))) = some r := by rw [if_neg (show ¬ (false = true) by decide)] at H; exact H
           clear H
           have H := H1
           clear H1
           replace H := Option.bind_eq_some_iff.mp H
           obtain ⟨t292, A290, H⟩ := H
           replace H : (if (t292.size : Int) > 65536 then (some 4) else ((depotref12_Bodiless.f a0_0).bind fun t293 => (if t293 = true then (some 0) else (if (l0_3.length : Int) ≥ 64 then (some 4) else (some 0))))) = some r := H
           have A29 := Aside0.mk A290
           clear A290
           by_cases c30 : (t292.size : Int) > 65536
           ·rw [if_pos c30] at H
            have c30b0 : decide (65536 < (t292.size : Int)) = true := decide_eq_true c30
            have c30b1 : decide (65536 < t292.size) = true := decide_eq_true (by omega)
            clear c30
            obtain rfl := Option.some.inj H
            have hcz31_0 : wc.cell? ⟨gb284, 0, none⟩ = some (.int .i64 a0_0) := (blk_cell BK284.out 0).trans rfl
            have hcz31_1 : wc.cell? ⟨gb284, 1, none⟩ = some (.string a0_1) := (blk_cell BK284.out 1).trans rfl
            have hcz31_2 : wc.cell? ⟨gb284, 2, none⟩ = some (.int .i64 a0_2) := (blk_cell BK284.out 2).trans rfl
            have hcz31_3 : wc.cell? ⟨gb284, 3, none⟩ = some (.slice A0_3 l0_3.length c0_3) := (blk_cell BK284.out 3).trans rfl
            have hcz31_4 : wc.cell? ⟨gb284, 4, none⟩ = some (.string a0_4) := (blk_cell BK284.out 4).trans rfl
            have hfz31_0 := blk_frozen BK284.out 0
            have hfz31_1 := blk_frozen BK284.out 1
            have hfz31_2 := blk_frozen BK284.out 2
            have hfz31_3 := blk_frozen BK284.out 3
            have hfz31_4 := blk_frozen BK284.out 4
            go_wp2_with (first | ((with_reducible refine gate_callee (f := 20) rfl ?_); refine goesL_ (some 62) rfl rfl Tryz.func20 (by kernel_rfl) rfl #[.agg #[.int .i64 a0_0, .string a0_1, .int .i64 a0_2, .slice A0_3 l0_3.length c0_3, .string a0_4], .bool false] rfl (by (try simp only [List.map_toArray, List.map_cons, List.map_nil]); first | done | rfl | (simp only [List.length_drop, List.length_take]; rfl)) ?_; (with_reducible refine (depotref12_PrintReply.calls kj20 a0_0 a0_1 a0_2 _ _ l0_3 a0_4 false t292 _ ?side1 ?side2 A29.out).mono ?_); (case side1 => repeat (first | exact (Kd.C_below HR0_3.out HB.out) | (with_reducible refine Kd.C_alloc ?_ _) | (with_reducible refine Kd.C_drewN ?_ _) | (with_reducible refine Kd.C_drew ?_))); (case side2 => exact HC0_3.out); rintro e w32 ⟨rfl, hb⟩; refine ⟨_, rfl, ?_⟩; have n0_ := Aside0.mk (blk_below (g := gb284) (o := .cells #[.int .i64 a0_0, .string a0_1, .int .i64 a0_2, .slice A0_3 l0_3.length c0_3, .string a0_4] 34 (0, 0)) (by (with_reducible repeat (first | refine blk_drewN ?_ _ | refine blk_drew ?_ | refine blk_alloc ?_ _)); exact BK284.out) hb); have n1_ := Aside0.mk (below_step (by repeat (first | (with_reducible first | exact HB.out | apply below_alloc | apply pw_below_drewN | apply below_drew1 | refine below_set ?_ GE284.out) | exact HB.out)) hb); clear BK284; clear HB; have BK284 := n0_; have HB := n1_; clear n0_ n1_; (try clear hb); (try clear hb2); (try clear hk); (try clear hi)))
            go_ret
            exact ⟨by first | rfl | (simp [errW_none, errW_some] <;> rfl) | (simp [*, errW_none, errW_some] <;> rfl), by repeat (first | (with_reducible first | exact HB.out | apply below_alloc | apply pw_below_drewN | apply below_drew1 | refine below_set ?_ GE284.out) | exact HB.out)⟩
           ·rw [if_neg c30] at H
            have c30b0 : decide (65536 < (t292.size : Int)) = false := decide_eq_false c30
            have c30b1 : decide (65536 < t292.size) = false := decide_eq_false (by omega)
            clear c30
            replace H := Option.bind_eq_some_iff.mp H
            obtain ⟨t293, A330, H⟩ := H
            replace H : (if t293 = true then (some 0) else (if (l0_3.length : Int) ≥ 64 then (some 4) else (some 0))) = some r := H
            have A33 := Aside0.mk A330
            clear A330
            by_cases c34 : t293 = true
            ·subst c34
             have H1 : (some 0) = some r := by rw [if_pos rfl] at H; exact H
             clear H
             have H := H1
             clear H1
             obtain rfl := Option.some.inj H
             have hcz35_0 : wc.cell? ⟨gb284, 0, none⟩ = some (.int .i64 a0_0) := (blk_cell BK284.out 0).trans rfl
             have hcz35_1 : wc.cell? ⟨gb284, 1, none⟩ = some (.string a0_1) := (blk_cell BK284.out 1).trans rfl
             have hcz35_2 : wc.cell? ⟨gb284, 2, none⟩ = some (.int .i64 a0_2) := (blk_cell BK284.out 2).trans rfl
             have hcz35_3 : wc.cell? ⟨gb284, 3, none⟩ = some (.slice A0_3 l0_3.length c0_3) := (blk_cell BK284.out 3).trans rfl
             have hcz35_4 : wc.cell? ⟨gb284, 4, none⟩ = some (.string a0_4) := (blk_cell BK284.out 4).trans rfl
             have hfz35_0 := blk_frozen BK284.out 0
             have hfz35_1 := blk_frozen BK284.out 1
             have hfz35_2 := blk_frozen BK284.out 2
             have hfz35_3 := blk_frozen BK284.out 3
             have hfz35_4 := blk_frozen BK284.out 4
             go_wp2_with (first | ((with_reducible refine gate_callee (f := 20) rfl ?_); refine goesL_ (some 62) rfl rfl Tryz.func20 (by kernel_rfl) rfl #[.agg #[.int .i64 a0_0, .string a0_1, .int .i64 a0_2, .slice A0_3 l0_3.length c0_3, .string a0_4], .bool false] rfl (by (try simp only [List.map_toArray, List.map_cons, List.map_nil]); first | done | rfl | (simp only [List.length_drop, List.length_take]; rfl)) ?_; (with_reducible refine (depotref12_PrintReply.calls kj20 a0_0 a0_1 a0_2 _ _ l0_3 a0_4 false t292 _ ?side1 ?side2 A29.out).mono ?_); (case side1 => repeat (first | exact (Kd.C_below HR0_3.out HB.out) | (with_reducible refine Kd.C_alloc ?_ _) | (with_reducible refine Kd.C_drewN ?_ _) | (with_reducible refine Kd.C_drew ?_))); (case side2 => exact HC0_3.out); rintro e w36 ⟨rfl, hb⟩; refine ⟨_, rfl, ?_⟩; have n0_ := Aside0.mk (blk_below (g := gb284) (o := .cells #[.int .i64 a0_0, .string a0_1, .int .i64 a0_2, .slice A0_3 l0_3.length c0_3, .string a0_4] 34 (0, 0)) (by (with_reducible repeat (first | refine blk_drewN ?_ _ | refine blk_drew ?_ | refine blk_alloc ?_ _)); exact BK284.out) hb); have n1_ := Aside0.mk (below_step (by repeat (first | (with_reducible first | exact HB.out | apply below_alloc | apply pw_below_drewN | apply below_drew1 | refine below_set ?_ GE284.out) | exact HB.out)) hb); clear BK284; clear HB; have BK284 := n0_; have HB := n1_; clear n0_ n1_; (try clear hb); (try clear hb2); (try clear hk); (try clear hi); have hcz37_0 : w36.cell? ⟨gb284, 0, none⟩ = some (.int .i64 a0_0) := (blk_cell BK284.out 0).trans rfl; have hcz37_1 : w36.cell? ⟨gb284, 1, none⟩ = some (.string a0_1) := (blk_cell BK284.out 1).trans rfl; have hcz37_2 : w36.cell? ⟨gb284, 2, none⟩ = some (.int .i64 a0_2) := (blk_cell BK284.out 2).trans rfl; have hcz37_3 : w36.cell? ⟨gb284, 3, none⟩ = some (.slice A0_3 l0_3.length c0_3) := (blk_cell BK284.out 3).trans rfl; have hcz37_4 : w36.cell? ⟨gb284, 4, none⟩ = some (.string a0_4) := (blk_cell BK284.out 4).trans rfl; have hfz37_0 := blk_frozen BK284.out 0; have hfz37_1 := blk_frozen BK284.out 1; have hfz37_2 := blk_frozen BK284.out 2; have hfz37_3 := blk_frozen BK284.out 3; have hfz37_4 := blk_frozen BK284.out 4) | (go_at_call 26; (with_reducible refine (depotref12_Bodiless.calls a0_0 true _ A33.out).mono ?_); rintro e w' ⟨rfl, ⟨nd, rfl⟩⟩))
             go_ret
             exact ⟨by first | rfl | (simp [errW_none, errW_some] <;> rfl) | (simp [*, errW_none, errW_some] <;> rfl), by repeat (first | (with_reducible first | exact HB.out | apply below_alloc | apply pw_below_drewN | apply below_drew1 | refine below_set ?_ GE284.out) | exact HB.out)⟩
            ·replace c34 := Bool.eq_false_iff.mpr c34
             subst c34
             have H1 : (if (l0_3.length : Int) ≥ 64 then (some 4) else (some 0)) = some r := by rw [if_neg (show ¬ (false = true) by decide)] at H; exact H
             clear H
             have H := H1
             clear H1
             by_cases c38 : (l0_3.length : Int) ≥ 64
             ·rw [if_pos c38] at H
              have c38b0 : decide (64 ≤ (l0_3.length : Int)) = true := decide_eq_true c38
              have c38b1 : decide (64 ≤ l0_3.length) = true := decide_eq_true (by omega)
              clear c38
              obtain rfl := Option.some.inj H
              have hcz39_0 : wc.cell? ⟨gb284, 0, none⟩ = some (.int .i64 a0_0) := (blk_cell BK284.out 0).trans rfl
              have hcz39_1 : wc.cell? ⟨gb284, 1, none⟩ = some (.string a0_1) := (blk_cell BK284.out 1).trans rfl
              have hcz39_2 : wc.cell? ⟨gb284, 2, none⟩ = some (.int .i64 a0_2) := (blk_cell BK284.out 2).trans rfl
              have hcz39_3 : wc.cell? ⟨gb284, 3, none⟩ = some (.slice A0_3 l0_3.length c0_3) := (blk_cell BK284.out 3).trans rfl
              have hcz39_4 : wc.cell? ⟨gb284, 4, none⟩ = some (.string a0_4) := (blk_cell BK284.out 4).trans rfl
              have hfz39_0 := blk_frozen BK284.out 0
              have hfz39_1 := blk_frozen BK284.out 1
              have hfz39_2 := blk_frozen BK284.out 2
              have hfz39_3 := blk_frozen BK284.out 3
              have hfz39_4 := blk_frozen BK284.out 4
              go_wp2_with (first | ((with_reducible refine gate_callee (f := 20) rfl ?_); refine goesL_ (some 62) rfl rfl Tryz.func20 (by kernel_rfl) rfl #[.agg #[.int .i64 a0_0, .string a0_1, .int .i64 a0_2, .slice A0_3 l0_3.length c0_3, .string a0_4], .bool false] rfl (by (try simp only [List.map_toArray, List.map_cons, List.map_nil]); first | done | rfl | (simp only [List.length_drop, List.length_take]; rfl)) ?_; (with_reducible refine (depotref12_PrintReply.calls kj20 a0_0 a0_1 a0_2 _ _ l0_3 a0_4 false t292 _ ?side1 ?side2 A29.out).mono ?_); (case side1 => repeat (first | exact (Kd.C_below HR0_3.out HB.out) | (with_reducible refine Kd.C_alloc ?_ _) | (with_reducible refine Kd.C_drewN ?_ _) | (with_reducible refine Kd.C_drew ?_))); (case side2 => exact HC0_3.out); rintro e w40 ⟨rfl, hb⟩; refine ⟨_, rfl, ?_⟩; have n0_ := Aside0.mk (blk_below (g := gb284) (o := .cells #[.int .i64 a0_0, .string a0_1, .int .i64 a0_2, .slice A0_3 l0_3.length c0_3, .string a0_4] 34 (0, 0)) (by (with_reducible repeat (first | refine blk_drewN ?_ _ | refine blk_drew ?_ | refine blk_alloc ?_ _)); exact BK284.out) hb); have n1_ := Aside0.mk (below_step (by repeat (first | (with_reducible first | exact HB.out | apply below_alloc | apply pw_below_drewN | apply below_drew1 | refine below_set ?_ GE284.out) | exact HB.out)) hb); clear BK284; clear HB; have BK284 := n0_; have HB := n1_; clear n0_ n1_; (try clear hb); (try clear hb2); (try clear hk); (try clear hi); have hcz41_0 : w40.cell? ⟨gb284, 0, none⟩ = some (.int .i64 a0_0) := (blk_cell BK284.out 0).trans rfl; have hcz41_1 : w40.cell? ⟨gb284, 1, none⟩ = some (.string a0_1) := (blk_cell BK284.out 1).trans rfl; have hcz41_2 : w40.cell? ⟨gb284, 2, none⟩ = some (.int .i64 a0_2) := (blk_cell BK284.out 2).trans rfl; have hcz41_3 : w40.cell? ⟨gb284, 3, none⟩ = some (.slice A0_3 l0_3.length c0_3) := (blk_cell BK284.out 3).trans rfl; have hcz41_4 : w40.cell? ⟨gb284, 4, none⟩ = some (.string a0_4) := (blk_cell BK284.out 4).trans rfl; have hfz41_0 := blk_frozen BK284.out 0; have hfz41_1 := blk_frozen BK284.out 1; have hfz41_2 := blk_frozen BK284.out 2; have hfz41_3 := blk_frozen BK284.out 3; have hfz41_4 := blk_frozen BK284.out 4) | (go_at_call 26; (with_reducible refine (depotref12_Bodiless.calls a0_0 false _ A33.out).mono ?_); rintro e w' ⟨rfl, ⟨nd, rfl⟩⟩))
              go_ret
              exact ⟨by first | rfl | (simp [errW_none, errW_some] <;> rfl) | (simp [*, errW_none, errW_some] <;> rfl), by repeat (first | (with_reducible first | exact HB.out | apply below_alloc | apply pw_below_drewN | apply below_drew1 | refine below_set ?_ GE284.out) | exact HB.out)⟩
             ·rw [if_neg c38] at H
              have c38b0 : decide (64 ≤ (l0_3.length : Int)) = false := decide_eq_false c38
              have c38b1 : decide (64 ≤ l0_3.length) = false := decide_eq_false (by omega)
              clear c38
              obtain rfl := Option.some.inj H
              have hcz42_0 : wc.cell? ⟨gb284, 0, none⟩ = some (.int .i64 a0_0) := (blk_cell BK284.out 0).trans rfl
              have hcz42_1 : wc.cell? ⟨gb284, 1, none⟩ = some (.string a0_1) := (blk_cell BK284.out 1).trans rfl
              have hcz42_2 : wc.cell? ⟨gb284, 2, none⟩ = some (.int .i64 a0_2) := (blk_cell BK284.out 2).trans rfl
              have hcz42_3 : wc.cell? ⟨gb284, 3, none⟩ = some (.slice A0_3 l0_3.length c0_3) := (blk_cell BK284.out 3).trans rfl
              have hcz42_4 : wc.cell? ⟨gb284, 4, none⟩ = some (.string a0_4) := (blk_cell BK284.out 4).trans rfl
              have hfz42_0 := blk_frozen BK284.out 0
              have hfz42_1 := blk_frozen BK284.out 1
              have hfz42_2 := blk_frozen BK284.out 2
              have hfz42_3 := blk_frozen BK284.out 3
              have hfz42_4 := blk_frozen BK284.out 4
              go_wp2_with (first | ((with_reducible refine gate_callee (f := 20) rfl ?_); refine goesL_ (some 62) rfl rfl Tryz.func20 (by kernel_rfl) rfl #[.agg #[.int .i64 a0_0, .string a0_1, .int .i64 a0_2, .slice A0_3 l0_3.length c0_3, .string a0_4], .bool false] rfl (by (try simp only [List.map_toArray, List.map_cons, List.map_nil]); first | done | rfl | (simp only [List.length_drop, List.length_take]; rfl)) ?_; (with_reducible refine (depotref12_PrintReply.calls kj20 a0_0 a0_1 a0_2 _ _ l0_3 a0_4 false t292 _ ?side1 ?side2 A29.out).mono ?_); (case side1 => repeat (first | exact (Kd.C_below HR0_3.out HB.out) | (with_reducible refine Kd.C_alloc ?_ _) | (with_reducible refine Kd.C_drewN ?_ _) | (with_reducible refine Kd.C_drew ?_))); (case side2 => exact HC0_3.out); rintro e w43 ⟨rfl, hb⟩; refine ⟨_, rfl, ?_⟩; have n0_ := Aside0.mk (blk_below (g := gb284) (o := .cells #[.int .i64 a0_0, .string a0_1, .int .i64 a0_2, .slice A0_3 l0_3.length c0_3, .string a0_4] 34 (0, 0)) (by (with_reducible repeat (first | refine blk_drewN ?_ _ | refine blk_drew ?_ | refine blk_alloc ?_ _)); exact BK284.out) hb); have n1_ := Aside0.mk (below_step (by repeat (first | (with_reducible first | exact HB.out | apply below_alloc | apply pw_below_drewN | apply below_drew1 | refine below_set ?_ GE284.out) | exact HB.out)) hb); clear BK284; clear HB; have BK284 := n0_; have HB := n1_; clear n0_ n1_; (try clear hb); (try clear hb2); (try clear hk); (try clear hi); have hcz44_0 : w43.cell? ⟨gb284, 0, none⟩ = some (.int .i64 a0_0) := (blk_cell BK284.out 0).trans rfl; have hcz44_1 : w43.cell? ⟨gb284, 1, none⟩ = some (.string a0_1) := (blk_cell BK284.out 1).trans rfl; have hcz44_2 : w43.cell? ⟨gb284, 2, none⟩ = some (.int .i64 a0_2) := (blk_cell BK284.out 2).trans rfl; have hcz44_3 : w43.cell? ⟨gb284, 3, none⟩ = some (.slice A0_3 l0_3.length c0_3) := (blk_cell BK284.out 3).trans rfl; have hcz44_4 : w43.cell? ⟨gb284, 4, none⟩ = some (.string a0_4) := (blk_cell BK284.out 4).trans rfl; have hfz44_0 := blk_frozen BK284.out 0; have hfz44_1 := blk_frozen BK284.out 1; have hfz44_2 := blk_frozen BK284.out 2; have hfz44_3 := blk_frozen BK284.out 3; have hfz44_4 := blk_frozen BK284.out 4) | (go_at_call 26; (with_reducible refine (depotref12_Bodiless.calls a0_0 false _ A33.out).mono ?_); rintro e w' ⟨rfl, ⟨nd, rfl⟩⟩))
              go_ret
              exact ⟨by first | rfl | (simp [errW_none, errW_some] <;> rfl) | (simp [*, errW_none, errW_some] <;> rfl), by repeat (first | (with_reducible first | exact HB.out | apply below_alloc | apply pw_below_drewN | apply below_drew1 | refine below_set ?_ GE284.out) | exact HB.out)⟩
       ·rw [if_neg c20] at H
        have c20b0 : (t290 == 0) = false := beq_eq_false_iff_ne.mpr c20
        have c20b1 : (t290 != 0) = true := bne_iff_ne.mpr c20
        obtain rfl := Option.some.inj H
        have hcz45_0 : wc.cell? ⟨gb284, 0, none⟩ = some (.int .i64 a0_0) := (blk_cell BK284.out 0).trans rfl
        have hcz45_1 : wc.cell? ⟨gb284, 1, none⟩ = some (.string a0_1) := (blk_cell BK284.out 1).trans rfl
        have hcz45_2 : wc.cell? ⟨gb284, 2, none⟩ = some (.int .i64 a0_2) := (blk_cell BK284.out 2).trans rfl
        have hcz45_3 : wc.cell? ⟨gb284, 3, none⟩ = some (.slice A0_3 l0_3.length c0_3) := (blk_cell BK284.out 3).trans rfl
        have hcz45_4 : wc.cell? ⟨gb284, 4, none⟩ = some (.string a0_4) := (blk_cell BK284.out 4).trans rfl
        have hfz45_0 := blk_frozen BK284.out 0
        have hfz45_1 := blk_frozen BK284.out 1
        have hfz45_2 := blk_frozen BK284.out 2
        have hfz45_3 := blk_frozen BK284.out 3
        have hfz45_4 := blk_frozen BK284.out 4
        go_wp2_with (first | ((with_reducible refine gate_callee (f := 54) rfl ?_); refine goesL_ (some 49) rfl rfl Tryz.func54 (by kernel_rfl) rfl #[.slice A0_3 l0_3.length c0_3] rfl (by (try simp only [List.map_toArray, List.map_cons, List.map_nil]); first | done | rfl | (simp only [List.length_drop, List.length_take]; rfl)) ?_; (with_reducible refine (depotref12_fits.calls kj13 _ _ l0_3 t290 _ ?side1 ?side2 A19.out).mono ?_); (case side1 => repeat (first | exact (Kd.C_below HR0_3.out HB.out) | (with_reducible refine Kd.C_alloc ?_ _) | (with_reducible refine Kd.C_drewN ?_ _) | (with_reducible refine Kd.C_drew ?_))); (case side2 => exact HC0_3.out); rintro e w46 ⟨rfl, hb⟩; refine ⟨_, rfl, ?_⟩; have n0_ := Aside0.mk (blk_below (g := gb284) (o := .cells #[.int .i64 a0_0, .string a0_1, .int .i64 a0_2, .slice A0_3 l0_3.length c0_3, .string a0_4] 34 (0, 0)) (by (with_reducible repeat (first | refine blk_drewN ?_ _ | refine blk_drew ?_ | refine blk_alloc ?_ _)); exact BK284.out) hb); have n1_ := Aside0.mk (below_step (by repeat (first | (with_reducible first | exact HB.out | apply below_alloc | apply pw_below_drewN | apply below_drew1 | refine below_set ?_ GE284.out) | exact HB.out)) hb); clear BK284; clear HB; have BK284 := n0_; have HB := n1_; clear n0_ n1_; (try clear hb); (try clear hb2); (try clear hk); (try clear hi)))
        go_ret
        exact ⟨by first | rfl | (simp [errW_none, errW_some] <;> rfl) | (simp [*, errW_none, errW_some] <;> rfl), by repeat (first | (with_reducible first | exact HB.out | apply below_alloc | apply pw_below_drewN | apply below_drew1 | refine below_set ?_ GE284.out) | exact HB.out)⟩

end Go.Proofs.YtjaklgikfcahdaaGreatDoor.PU
