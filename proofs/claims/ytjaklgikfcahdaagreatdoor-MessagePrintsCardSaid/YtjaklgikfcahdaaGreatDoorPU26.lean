-- Halved: the indents of this text are half of the print's.
-- Out of the translation, by a program of this session: each function that a law comes to as a Lean function, and that the machine's call does what it says. Lean checks it.
import Derived.Test.YtjaklgikfcahdaaGreatDoorPU0
import Derived.Test.YtjaklgikfcahdaaGreatDoorPU7
import Derived.Test.YtjaklgikfcahdaaGreatDoorPU9
import Derived.Test.YtjaklgikfcahdaaGreatDoorPU10
import Derived.Test.YtjaklgikfcahdaaGreatDoorPU11
import Derived.Test.YtjaklgikfcahdaaGreatDoorPU12
import Derived.Test.YtjaklgikfcahdaaGreatDoorPU14
import Derived.Test.YtjaklgikfcahdaaGreatDoorPU15
import Derived.Test.YtjaklgikfcahdaaGreatDoorPU22
import Derived.Test.YtjaklgikfcahdaaGreatDoorPU25
namespace Go.Proofs.YtjaklgikfcahdaaGreatDoor.PU
open Go.RowKit Go.Proofs.YtjaklgikfcahdaaGreatDoorW.PrintWords Go.Proofs.YtjaklgikfcahdaaGreatDoorW.PrintLast Go.Proofs.YtjaklgikfcahdaaGreatDoorW.PrintMore
attribute [local go_sem] max2_int min2_int max_two min_two max_three min_three max_four min_four   -- for this text's walks alone
set_option linter.unusedVariables false
set_option linter.unusedSimpArgs false

/-! ### depotlaw12_MessagePrints: function 5: told by hand -/
def depotlaw12_MessagePrints.f (k : Nat) (a0_0 : ByteArray) (a0_1 : ByteArray) (a0_2 : Int) (l0_3 : List S98) (a0_4 : ByteArray) (a1_0 : Int) (a1_1 : ByteArray) (a1_2 : Int) (l1_3 : List S98) (a1_4 : ByteArray) (a2 : Bool) : Option Bool :=
 (depotref12_FewRequest.f k a0_0 a0_1 a0_2 l0_3 a0_4 2000).bind fun x => if x = true then ((depotref12_FewReply.f k a1_0 a1_1 a1_2 l1_3 a1_4 2000).bind fun y => if y = true then ((message_PrintRequest.f k a0_0 a0_1 a0_2 l0_3 a0_4).bind fun p => (depotref12_PrintRequest.f k a0_0 a0_1 a0_2 l0_3 a0_4).bind fun p' => (message_PrintReply.f k a1_0 a1_1 a1_2 l1_3 a1_4 a2).bind fun q => (depotref12_PrintReply.f k a1_0 a1_1 a1_2 l1_3 a1_4 a2).bind fun q' => (message_CheckRequest.f k a0_0 a0_1 a0_2 l0_3 a0_4).bind fun c => (depotref12_CheckRequest.f k a0_0 a0_1 a0_2 l0_3 a0_4).bind fun c' => (message_CheckReply.f k a1_0 a1_1 a1_2 l1_3 a1_4).bind fun d => (depotref12_CheckReply.f k a1_0 a1_1 a1_2 l1_3 a1_4).bind fun d' => (message_Bodiless.f a1_0).bind fun n => (depotref12_Bodiless.f a1_0).bind fun n' => if p = p' ∧ q = q' ∧ c = c' ∧ d = d' ∧ n = n' then depotlaw12_messages.f k else some false) else depotlaw12_messages.f k) else depotlaw12_messages.f k
set_option maxHeartbeats 3200000 in
set_option maxRecDepth 100000 in
theorem depotlaw12_MessagePrints.calls (k : Nat) (a0_0 : ByteArray) (a0_1 : ByteArray) (a0_2 : Int) (A0_3 : Option Addr) (c0_3 : Nat) (l0_3 : List (S98)) (a0_4 : ByteArray) (a1_0 : Int) (a1_1 : ByteArray) (a1_2 : Int) (A1_3 : Option Addr) (c1_3 : Nat) (l1_3 : List (S98)) (a1_4 : ByteArray) (a2 : Bool) (r : Bool) (w : World) (HTRUE : Aside0 (r = true)) (HT : Aside0 (Hand.Laid w)) (hr0_3 : Kd.C k98 w A0_3 l0_3.length l0_3) (hc0_3 : l0_3.length ≤ c0_3) (hr1_3 : Kd.C k98 w A1_3 l1_3.length l1_3) (hc1_3 : l1_3.length ≤ c1_3) (h : depotlaw12_MessagePrints.f k a0_0 a0_1 a0_2 l0_3 a0_4 a1_0 a1_1 a1_2 l1_3 a1_4 a2 = some r) :
  Calls Tryz.prog 5 #[.agg #[.string a0_0, .string a0_1, .int .i64 a0_2, .slice A0_3 l0_3.length c0_3, .string a0_4], .agg #[.int .i64 a1_0, .string a1_1, .int .i64 a1_2, .slice A1_3 l1_3.length c1_3, .string a1_4], .bool a2] w fun e w' => e = .returned (.bool r) ∧ Below w.heap.size w w' := by
 obtain rfl := HTRUE.out
 have HRr := Aside0.mk hr0_3
 have HRs := Aside0.mk hr1_3
 have hX := blk_new w (.cells #[.string a0_0, .string a0_1, .int .i64 a0_2, .slice A0_3 l0_3.length c0_3, .string a0_4] 25)
 have hB := Hand.alloc_below w (.cells #[.string a0_0, .string a0_1, .int .i64 a0_2, .slice A0_3 l0_3.length c0_3, .string a0_4] 25)
 have HH := Aside0.mk h
 clear h hr0_3 hr1_3
 go_enter Tryz.func5, Tryz.ntmps5
 go_upto_region 1 with (fail)
 have hX0 := blk_alloc hX (.cells #[.int .i64 a1_0, .string a1_1, .int .i64 a1_2, .slice A1_3 l1_3.length c1_3, .string a1_4] 34)
 have hX1 := blk_new (w.alloc (.cells #[.string a0_0, .string a0_1, .int .i64 a0_2, .slice A0_3 l0_3.length c0_3, .string a0_4] 25)) (.cells #[.int .i64 a1_0, .string a1_1, .int .i64 a1_2, .slice A1_3 l1_3.length c1_3, .string a1_4] 34)
 have HB_0 := Aside0.mk (hB.alloc hB.size (.cells #[.int .i64 a1_0, .string a1_1, .int .i64 a1_2, .slice A1_3 l1_3.length c1_3, .string a1_4] 34))
 rw [show (w.alloc (.cells #[.string a0_0, .string a0_1, .int .i64 a0_2, .slice A0_3 l0_3.length c0_3, .string a0_4] 25)).heap.size = w.heap.size + 1 by simp] at hX1
 clear hX hB
 have HXr_0 := Aside0.mk hX0
 have HXs_0 := Aside0.mk hX1
 clear hX0 hX1
 generalize (w.alloc (.cells #[.string a0_0, .string a0_1, .int .i64 a0_2, .slice A0_3 l0_3.length c0_3, .string a0_4] 25)).alloc (.cells #[.int .i64 a1_0, .string a1_1, .int .i64 a1_2, .slice A1_3 l1_3.length c1_3, .string a1_4] 34) = w0 at HXr_0 HXs_0 HB_0 ⊢
 obtain ⟨cr0, cr1, cr2, cr3, cr4⟩ := cells5z HXr_0.out
 obtain ⟨cs0, cs1, cs2, cs3, cs4⟩ := cells5z HXs_0.out
 have h := HH.out
 clear HH
 unfold depotlaw12_MessagePrints.f at h
 replace h := Option.bind_eq_some_iff.1 h
 obtain ⟨x, hx, h⟩ := h
 have HF := Aside0.mk hx
 clear hx
 cases x
 ·rw [if_neg (by simp)] at h
  have HM := Aside0.mk h
  clear h
  go_wp2_with (first | (go_at_call 15; refine (depotref12_FewRequest.calls k a0_0 a0_1 a0_2 A0_3 c0_3 l0_3 a0_4 2000 false _ (Kd.C_below HRr.out HB_0.out) hc0_3 HF.out).mono ?_; rintro e w1 ⟨rfl, hb⟩; have HB_1 := Aside0.mk (below_step HB_0.out hb); have HXr_1 := Aside0.mk (blk_below HXr_0.out hb); have HXs_1 := Aside0.mk (blk_below HXs_0.out hb); clear HB_0 HXr_0 HXs_0 hb; clear cr0 cr1 cr2 cr3 cr4 cs0 cs1 cs2 cs3 cs4; obtain ⟨cr0, cr1, cr2, cr3, cr4⟩ := cells5z HXr_1.out; obtain ⟨cs0, cs1, cs2, cs3, cs4⟩ := cells5z HXs_1.out; clear HF) | (go_at_call 8; refine (depotlaw12_messages.calls k true _ ⟨rfl⟩ ⟨HT.out.below HB_1.out⟩ HM.out).mono ?_; rintro e w2 ⟨rfl, hb⟩; have HB_2 := Aside0.mk (below_step HB_1.out hb); clear HB_1 HXr_1 HXs_1 hb; clear cr0 cr1 cr2 cr3 cr4 cs0 cs1 cs2 cs3 cs4))
  go_ret
  exact ⟨rfl, HB_2.out⟩
 rw [if_pos rfl] at h
 replace h := Option.bind_eq_some_iff.1 h
 obtain ⟨y, hy, h⟩ := h
 have HG := Aside0.mk hy
 clear hy
 cases y
 ·rw [if_neg (by simp)] at h
  have HM := Aside0.mk h
  clear h
  go_wp2_with (first | (go_at_call 15; refine (depotref12_FewRequest.calls k a0_0 a0_1 a0_2 A0_3 c0_3 l0_3 a0_4 2000 true _ (Kd.C_below HRr.out HB_0.out) hc0_3 HF.out).mono ?_; rintro e w1 ⟨rfl, hb⟩; have HB_1 := Aside0.mk (below_step HB_0.out hb); have HXr_1 := Aside0.mk (blk_below HXr_0.out hb); have HXs_1 := Aside0.mk (blk_below HXs_0.out hb); clear HB_0 HXr_0 HXs_0 hb; clear cr0 cr1 cr2 cr3 cr4 cs0 cs1 cs2 cs3 cs4; obtain ⟨cr0, cr1, cr2, cr3, cr4⟩ := cells5z HXr_1.out; obtain ⟨cs0, cs1, cs2, cs3, cs4⟩ := cells5z HXs_1.out; clear HF) | (go_at_call 16; refine (depotref12_FewReply.calls k a1_0 a1_1 a1_2 A1_3 c1_3 l1_3 a1_4 2000 false _ (Kd.C_below HRs.out HB_1.out) hc1_3 HG.out).mono ?_; rintro e w2 ⟨rfl, hb⟩; have HB_2 := Aside0.mk (below_step HB_1.out hb); have HXr_2 := Aside0.mk (blk_below HXr_1.out hb); have HXs_2 := Aside0.mk (blk_below HXs_1.out hb); clear HB_1 HXr_1 HXs_1 hb; clear cr0 cr1 cr2 cr3 cr4 cs0 cs1 cs2 cs3 cs4; obtain ⟨cr0, cr1, cr2, cr3, cr4⟩ := cells5z HXr_2.out; obtain ⟨cs0, cs1, cs2, cs3, cs4⟩ := cells5z HXs_2.out; clear HG) | (go_at_call 8; refine (depotlaw12_messages.calls k true _ ⟨rfl⟩ ⟨HT.out.below HB_2.out⟩ HM.out).mono ?_; rintro e w3 ⟨rfl, hb⟩; have HB_3 := Aside0.mk (below_step HB_2.out hb); clear HB_2 HXr_2 HXs_2 hb; clear cr0 cr1 cr2 cr3 cr4 cs0 cs1 cs2 cs3 cs4))
  go_ret
  exact ⟨rfl, HB_3.out⟩
 rw [if_pos rfl] at h
 go_upto_region 3 with (first | (go_at_call 15; refine (depotref12_FewRequest.calls k a0_0 a0_1 a0_2 A0_3 c0_3 l0_3 a0_4 2000 true _ (Kd.C_below HRr.out HB_0.out) hc0_3 HF.out).mono ?_; rintro e w1 ⟨rfl, hb⟩; have HB_1 := Aside0.mk (below_step HB_0.out hb); have HXr_1 := Aside0.mk (blk_below HXr_0.out hb); have HXs_1 := Aside0.mk (blk_below HXs_0.out hb); clear HB_0 HXr_0 HXs_0 hb; clear cr0 cr1 cr2 cr3 cr4 cs0 cs1 cs2 cs3 cs4; obtain ⟨cr0, cr1, cr2, cr3, cr4⟩ := cells5z HXr_1.out; obtain ⟨cs0, cs1, cs2, cs3, cs4⟩ := cells5z HXs_1.out; clear HF) | (go_at_call 16; refine (depotref12_FewReply.calls k a1_0 a1_1 a1_2 A1_3 c1_3 l1_3 a1_4 2000 true _ (Kd.C_below HRs.out HB_1.out) hc1_3 HG.out).mono ?_; rintro e w2 ⟨rfl, hb⟩; have HB_2 := Aside0.mk (below_step HB_1.out hb); have HXr_2 := Aside0.mk (blk_below HXr_1.out hb); have HXs_2 := Aside0.mk (blk_below HXs_1.out hb); clear HB_1 HXr_1 HXs_1 hb; clear cr0 cr1 cr2 cr3 cr4 cs0 cs1 cs2 cs3 cs4; obtain ⟨cr0, cr1, cr2, cr3, cr4⟩ := cells5z HXr_2.out; obtain ⟨cs0, cs1, cs2, cs3, cs4⟩ := cells5z HXs_2.out; clear HG))
 replace h := Option.bind_eq_some_iff.1 h
 obtain ⟨p, hx, h⟩ := h
 have HP := Aside0.mk hx
 clear hx
 replace h := Option.bind_eq_some_iff.1 h
 obtain ⟨p', hx, h⟩ := h
 have HP' := Aside0.mk hx
 clear hx
 replace h := Option.bind_eq_some_iff.1 h
 obtain ⟨q, hx, h⟩ := h
 have HQ := Aside0.mk hx
 clear hx
 replace h := Option.bind_eq_some_iff.1 h
 obtain ⟨q', hx, h⟩ := h
 have HQ' := Aside0.mk hx
 clear hx
 replace h := Option.bind_eq_some_iff.1 h
 obtain ⟨c, hx, h⟩ := h
 have HC := Aside0.mk hx
 clear hx
 replace h := Option.bind_eq_some_iff.1 h
 obtain ⟨c', hx, h⟩ := h
 have HC' := Aside0.mk hx
 clear hx
 replace h := Option.bind_eq_some_iff.1 h
 obtain ⟨d, hx, h⟩ := h
 have HD := Aside0.mk hx
 clear hx
 replace h := Option.bind_eq_some_iff.1 h
 obtain ⟨d', hx, h⟩ := h
 have HD' := Aside0.mk hx
 clear hx
 replace h := Option.bind_eq_some_iff.1 h
 obtain ⟨n, hx, h⟩ := h
 have HN := Aside0.mk hx
 clear hx
 replace h := Option.bind_eq_some_iff.1 h
 obtain ⟨n', hx, h⟩ := h
 have HN' := Aside0.mk hx
 clear hx
 split at h
 case isFalse => cases h
 case isTrue hh =>
 obtain ⟨rfl, rfl, rfl, rfl, rfl⟩ := hh
 have HM := Aside0.mk h
 clear h
 have ep : (p.toList == p.toList) = true := beq_self_eq_true _
 have eq_ : (q.toList == q.toList) = true := beq_self_eq_true _
 have ec : (c == c) = true := beq_self_eq_true _
 have ed : (d == d) = true := beq_self_eq_true _
 have en : (n == n) = true := beq_self_eq_true _
 have HBz := Aside0.mk (Below.refl w2.heap.size w2)
 clear cr0 cr1 cr2 cr3 cr4 cs0 cs1 cs2 cs3 cs4
 have hrw : w.heap.size < w2.heap.size := blk_lt HXr_2.out
 have hsw : w.heap.size + 1 < w2.heap.size := blk_lt HXs_2.out
 have hz : (fun w' => w'.cell? ⟨w.heap.size, 0, none⟩ = some (.string a0_0) ∧ w'.cell? ⟨w.heap.size, 1, none⟩ = some (.string a0_1) ∧ w'.cell? ⟨w.heap.size, 2, none⟩ = some (.int .i64 a0_2) ∧ w'.cell? ⟨w.heap.size, 3, none⟩ = some (.slice A0_3 l0_3.length c0_3) ∧ w'.cell? ⟨w.heap.size, 4, none⟩ = some (.string a0_4) ∧ w'.cell? ⟨w.heap.size + 1, 0, none⟩ = some (.int .i64 a1_0) ∧ w'.cell? ⟨w.heap.size + 1, 1, none⟩ = some (.string a1_1) ∧ w'.cell? ⟨w.heap.size + 1, 2, none⟩ = some (.int .i64 a1_2) ∧ w'.cell? ⟨w.heap.size + 1, 3, none⟩ = some (.slice A1_3 l1_3.length c1_3) ∧ w'.cell? ⟨w.heap.size + 1, 4, none⟩ = some (.string a1_4)) w2 := by
  obtain ⟨x0, x1, x2, x3, x4⟩ := cells5z HXr_2.out
  obtain ⟨y0, y1, y2, y3, y4⟩ := cells5z HXs_2.out
  exact ⟨x0, x1, x2, x3, x4, y0, y1, y2, y3, y4⟩
 obtain ⟨cr0, cr1, cr2, cr3, cr4, cs0, cs1, cs2, cs3, cs4⟩ := hz
 have HXr := HXr_2
 have HXs := HXs_2
 have HB := HB_2
 go_region_held3 (fun w' => w'.cell? ⟨w.heap.size, 0, none⟩ = some (.string a0_0) ∧ w'.cell? ⟨w.heap.size, 1, none⟩ = some (.string a0_1) ∧ w'.cell? ⟨w.heap.size, 2, none⟩ = some (.int .i64 a0_2) ∧ w'.cell? ⟨w.heap.size, 3, none⟩ = some (.slice A0_3 l0_3.length c0_3) ∧ w'.cell? ⟨w.heap.size, 4, none⟩ = some (.string a0_4) ∧ w'.cell? ⟨w.heap.size + 1, 0, none⟩ = some (.int .i64 a1_0) ∧ w'.cell? ⟨w.heap.size + 1, 1, none⟩ = some (.string a1_1) ∧ w'.cell? ⟨w.heap.size + 1, 2, none⟩ = some (.int .i64 a1_2) ∧ w'.cell? ⟨w.heap.size + 1, 3, none⟩ = some (.slice A1_3 l1_3.length c1_3) ∧ w'.cell? ⟨w.heap.size + 1, 4, none⟩ = some (.string a1_4)) (first | exact ⟨cr0, cr1, cr2, cr3, cr4, cs0, cs1, cs2, cs3, cs4⟩ | exact hz1 | exact hz2 | exact hz3 | exact hz4 | exact hz5 | exact hz6 | exact hz7 | exact hz8 | exact hz9 | exact hz10 | exact hz11) (first | (go_at_call 17; refine (message_PrintRequest.calls k a0_0 a0_1 a0_2 A0_3 c0_3 l0_3 a0_4 p _ ⟨HT.out.below (below_step HB.out (Below.drew (Below.refl _ _)))⟩ (Kd.C_below HRr.out (below_step HB.out (Below.drew (Below.refl _ _)))) hc0_3 HP.out).mono ?_; rintro e v1 ⟨rfl, hb⟩; have G1 := Aside0.mk (below_step (Below.drew (Below.refl _ _)) hb); have hz1 : (fun w' => w'.cell? ⟨w.heap.size, 0, none⟩ = some (.string a0_0) ∧ w'.cell? ⟨w.heap.size, 1, none⟩ = some (.string a0_1) ∧ w'.cell? ⟨w.heap.size, 2, none⟩ = some (.int .i64 a0_2) ∧ w'.cell? ⟨w.heap.size, 3, none⟩ = some (.slice A0_3 l0_3.length c0_3) ∧ w'.cell? ⟨w.heap.size, 4, none⟩ = some (.string a0_4) ∧ w'.cell? ⟨w.heap.size + 1, 0, none⟩ = some (.int .i64 a1_0) ∧ w'.cell? ⟨w.heap.size + 1, 1, none⟩ = some (.string a1_1) ∧ w'.cell? ⟨w.heap.size + 1, 2, none⟩ = some (.int .i64 a1_2) ∧ w'.cell? ⟨w.heap.size + 1, 3, none⟩ = some (.slice A1_3 l1_3.length c1_3) ∧ w'.cell? ⟨w.heap.size + 1, 4, none⟩ = some (.string a1_4)) v1 := (by obtain ⟨x0, x1, x2, x3, x4⟩ := cells5z (blk_below HXr.out G1.out); obtain ⟨y0, y1, y2, y3, y4⟩ := cells5z (blk_below HXs.out G1.out); exact ⟨x0, x1, x2, x3, x4, y0, y1, y2, y3, y4⟩); clear hb) | (go_at_call 18; refine (depotref12_PrintRequest.calls k a0_0 a0_1 a0_2 A0_3 c0_3 l0_3 a0_4 p _ (Kd.C_below HRr.out (below_step HB.out G1.out)) hc0_3 HP'.out).mono ?_; rintro e v2 ⟨rfl, hb⟩; have G2 := Aside0.mk (below_step G1.out hb); have hz2 : (fun w' => w'.cell? ⟨w.heap.size, 0, none⟩ = some (.string a0_0) ∧ w'.cell? ⟨w.heap.size, 1, none⟩ = some (.string a0_1) ∧ w'.cell? ⟨w.heap.size, 2, none⟩ = some (.int .i64 a0_2) ∧ w'.cell? ⟨w.heap.size, 3, none⟩ = some (.slice A0_3 l0_3.length c0_3) ∧ w'.cell? ⟨w.heap.size, 4, none⟩ = some (.string a0_4) ∧ w'.cell? ⟨w.heap.size + 1, 0, none⟩ = some (.int .i64 a1_0) ∧ w'.cell? ⟨w.heap.size + 1, 1, none⟩ = some (.string a1_1) ∧ w'.cell? ⟨w.heap.size + 1, 2, none⟩ = some (.int .i64 a1_2) ∧ w'.cell? ⟨w.heap.size + 1, 3, none⟩ = some (.slice A1_3 l1_3.length c1_3) ∧ w'.cell? ⟨w.heap.size + 1, 4, none⟩ = some (.string a1_4)) v2 := (by obtain ⟨x0, x1, x2, x3, x4⟩ := cells5z (blk_below HXr.out G2.out); obtain ⟨y0, y1, y2, y3, y4⟩ := cells5z (blk_below HXs.out G2.out); exact ⟨x0, x1, x2, x3, x4, y0, y1, y2, y3, y4⟩); clear hb) | (go_at_call 19; refine (message_PrintReply.calls k a1_0 a1_1 a1_2 A1_3 c1_3 l1_3 a1_4 a2 q _ ⟨HT.out.below (below_step HB.out G2.out)⟩ (Kd.C_below HRs.out (below_step HB.out G2.out)) hc1_3 HQ.out).mono ?_; rintro e v3 ⟨rfl, hb⟩; have G3 := Aside0.mk (below_step G2.out hb); have hz3 : (fun w' => w'.cell? ⟨w.heap.size, 0, none⟩ = some (.string a0_0) ∧ w'.cell? ⟨w.heap.size, 1, none⟩ = some (.string a0_1) ∧ w'.cell? ⟨w.heap.size, 2, none⟩ = some (.int .i64 a0_2) ∧ w'.cell? ⟨w.heap.size, 3, none⟩ = some (.slice A0_3 l0_3.length c0_3) ∧ w'.cell? ⟨w.heap.size, 4, none⟩ = some (.string a0_4) ∧ w'.cell? ⟨w.heap.size + 1, 0, none⟩ = some (.int .i64 a1_0) ∧ w'.cell? ⟨w.heap.size + 1, 1, none⟩ = some (.string a1_1) ∧ w'.cell? ⟨w.heap.size + 1, 2, none⟩ = some (.int .i64 a1_2) ∧ w'.cell? ⟨w.heap.size + 1, 3, none⟩ = some (.slice A1_3 l1_3.length c1_3) ∧ w'.cell? ⟨w.heap.size + 1, 4, none⟩ = some (.string a1_4)) v3 := (by obtain ⟨x0, x1, x2, x3, x4⟩ := cells5z (blk_below HXr.out G3.out); obtain ⟨y0, y1, y2, y3, y4⟩ := cells5z (blk_below HXs.out G3.out); exact ⟨x0, x1, x2, x3, x4, y0, y1, y2, y3, y4⟩); clear hb) | (go_at_call 20; refine (depotref12_PrintReply.calls k a1_0 a1_1 a1_2 A1_3 c1_3 l1_3 a1_4 a2 q _ (Kd.C_below HRs.out (below_step HB.out G3.out)) hc1_3 HQ'.out).mono ?_; rintro e v4 ⟨rfl, hb⟩; have G4 := Aside0.mk (below_step G3.out hb); have hz4 : (fun w' => w'.cell? ⟨w.heap.size, 0, none⟩ = some (.string a0_0) ∧ w'.cell? ⟨w.heap.size, 1, none⟩ = some (.string a0_1) ∧ w'.cell? ⟨w.heap.size, 2, none⟩ = some (.int .i64 a0_2) ∧ w'.cell? ⟨w.heap.size, 3, none⟩ = some (.slice A0_3 l0_3.length c0_3) ∧ w'.cell? ⟨w.heap.size, 4, none⟩ = some (.string a0_4) ∧ w'.cell? ⟨w.heap.size + 1, 0, none⟩ = some (.int .i64 a1_0) ∧ w'.cell? ⟨w.heap.size + 1, 1, none⟩ = some (.string a1_1) ∧ w'.cell? ⟨w.heap.size + 1, 2, none⟩ = some (.int .i64 a1_2) ∧ w'.cell? ⟨w.heap.size + 1, 3, none⟩ = some (.slice A1_3 l1_3.length c1_3) ∧ w'.cell? ⟨w.heap.size + 1, 4, none⟩ = some (.string a1_4)) v4 := (by obtain ⟨x0, x1, x2, x3, x4⟩ := cells5z (blk_below HXr.out G4.out); obtain ⟨y0, y1, y2, y3, y4⟩ := cells5z (blk_below HXs.out G4.out); exact ⟨x0, x1, x2, x3, x4, y0, y1, y2, y3, y4⟩); clear hb) | (go_at_call 21; refine (message_CheckRequest.calls k a0_0 a0_1 a0_2 A0_3 c0_3 l0_3 a0_4 c _ ⟨HT.out.below (below_step HB.out G4.out)⟩ (Kd.C_below HRr.out (below_step HB.out G4.out)) hc0_3 HC.out).mono ?_; rintro e v5 ⟨rfl, hb⟩; have G5 := Aside0.mk (below_step G4.out hb); have hz5 : (fun w' => w'.cell? ⟨w.heap.size, 0, none⟩ = some (.string a0_0) ∧ w'.cell? ⟨w.heap.size, 1, none⟩ = some (.string a0_1) ∧ w'.cell? ⟨w.heap.size, 2, none⟩ = some (.int .i64 a0_2) ∧ w'.cell? ⟨w.heap.size, 3, none⟩ = some (.slice A0_3 l0_3.length c0_3) ∧ w'.cell? ⟨w.heap.size, 4, none⟩ = some (.string a0_4) ∧ w'.cell? ⟨w.heap.size + 1, 0, none⟩ = some (.int .i64 a1_0) ∧ w'.cell? ⟨w.heap.size + 1, 1, none⟩ = some (.string a1_1) ∧ w'.cell? ⟨w.heap.size + 1, 2, none⟩ = some (.int .i64 a1_2) ∧ w'.cell? ⟨w.heap.size + 1, 3, none⟩ = some (.slice A1_3 l1_3.length c1_3) ∧ w'.cell? ⟨w.heap.size + 1, 4, none⟩ = some (.string a1_4)) v5 := (by obtain ⟨x0, x1, x2, x3, x4⟩ := cells5z (blk_below HXr.out G5.out); obtain ⟨y0, y1, y2, y3, y4⟩ := cells5z (blk_below HXs.out G5.out); exact ⟨x0, x1, x2, x3, x4, y0, y1, y2, y3, y4⟩); clear hb) | (go_at_call 22; refine (depotref12_CheckRequest.calls k a0_0 a0_1 a0_2 A0_3 c0_3 l0_3 a0_4 c _ (Kd.C_below HRr.out (below_step HB.out G5.out)) hc0_3 HC'.out).mono ?_; rintro e v6 ⟨rfl, hb⟩; have G6 := Aside0.mk (below_step G5.out hb); have hz6 : (fun w' => w'.cell? ⟨w.heap.size, 0, none⟩ = some (.string a0_0) ∧ w'.cell? ⟨w.heap.size, 1, none⟩ = some (.string a0_1) ∧ w'.cell? ⟨w.heap.size, 2, none⟩ = some (.int .i64 a0_2) ∧ w'.cell? ⟨w.heap.size, 3, none⟩ = some (.slice A0_3 l0_3.length c0_3) ∧ w'.cell? ⟨w.heap.size, 4, none⟩ = some (.string a0_4) ∧ w'.cell? ⟨w.heap.size + 1, 0, none⟩ = some (.int .i64 a1_0) ∧ w'.cell? ⟨w.heap.size + 1, 1, none⟩ = some (.string a1_1) ∧ w'.cell? ⟨w.heap.size + 1, 2, none⟩ = some (.int .i64 a1_2) ∧ w'.cell? ⟨w.heap.size + 1, 3, none⟩ = some (.slice A1_3 l1_3.length c1_3) ∧ w'.cell? ⟨w.heap.size + 1, 4, none⟩ = some (.string a1_4)) v6 := (by obtain ⟨x0, x1, x2, x3, x4⟩ := cells5z (blk_below HXr.out G6.out); obtain ⟨y0, y1, y2, y3, y4⟩ := cells5z (blk_below HXs.out G6.out); exact ⟨x0, x1, x2, x3, x4, y0, y1, y2, y3, y4⟩); clear hb) | (go_at_call 23; refine (message_CheckReply.calls k a1_0 a1_1 a1_2 A1_3 c1_3 l1_3 a1_4 d _ ⟨HT.out.below (below_step HB.out G6.out)⟩ (Kd.C_below HRs.out (below_step HB.out G6.out)) hc1_3 HD.out).mono ?_; rintro e v7 ⟨rfl, hb⟩; have G7 := Aside0.mk (below_step G6.out hb); have hz7 : (fun w' => w'.cell? ⟨w.heap.size, 0, none⟩ = some (.string a0_0) ∧ w'.cell? ⟨w.heap.size, 1, none⟩ = some (.string a0_1) ∧ w'.cell? ⟨w.heap.size, 2, none⟩ = some (.int .i64 a0_2) ∧ w'.cell? ⟨w.heap.size, 3, none⟩ = some (.slice A0_3 l0_3.length c0_3) ∧ w'.cell? ⟨w.heap.size, 4, none⟩ = some (.string a0_4) ∧ w'.cell? ⟨w.heap.size + 1, 0, none⟩ = some (.int .i64 a1_0) ∧ w'.cell? ⟨w.heap.size + 1, 1, none⟩ = some (.string a1_1) ∧ w'.cell? ⟨w.heap.size + 1, 2, none⟩ = some (.int .i64 a1_2) ∧ w'.cell? ⟨w.heap.size + 1, 3, none⟩ = some (.slice A1_3 l1_3.length c1_3) ∧ w'.cell? ⟨w.heap.size + 1, 4, none⟩ = some (.string a1_4)) v7 := (by obtain ⟨x0, x1, x2, x3, x4⟩ := cells5z (blk_below HXr.out G7.out); obtain ⟨y0, y1, y2, y3, y4⟩ := cells5z (blk_below HXs.out G7.out); exact ⟨x0, x1, x2, x3, x4, y0, y1, y2, y3, y4⟩); clear hb) | (go_at_call 24; refine (depotref12_CheckReply.calls k a1_0 a1_1 a1_2 A1_3 c1_3 l1_3 a1_4 d _ (Kd.C_below HRs.out (below_step HB.out G7.out)) hc1_3 HD'.out).mono ?_; rintro e v8 ⟨rfl, hb⟩; have G8 := Aside0.mk (below_step G7.out hb); have hz8 : (fun w' => w'.cell? ⟨w.heap.size, 0, none⟩ = some (.string a0_0) ∧ w'.cell? ⟨w.heap.size, 1, none⟩ = some (.string a0_1) ∧ w'.cell? ⟨w.heap.size, 2, none⟩ = some (.int .i64 a0_2) ∧ w'.cell? ⟨w.heap.size, 3, none⟩ = some (.slice A0_3 l0_3.length c0_3) ∧ w'.cell? ⟨w.heap.size, 4, none⟩ = some (.string a0_4) ∧ w'.cell? ⟨w.heap.size + 1, 0, none⟩ = some (.int .i64 a1_0) ∧ w'.cell? ⟨w.heap.size + 1, 1, none⟩ = some (.string a1_1) ∧ w'.cell? ⟨w.heap.size + 1, 2, none⟩ = some (.int .i64 a1_2) ∧ w'.cell? ⟨w.heap.size + 1, 3, none⟩ = some (.slice A1_3 l1_3.length c1_3) ∧ w'.cell? ⟨w.heap.size + 1, 4, none⟩ = some (.string a1_4)) v8 := (by obtain ⟨x0, x1, x2, x3, x4⟩ := cells5z (blk_below HXr.out G8.out); obtain ⟨y0, y1, y2, y3, y4⟩ := cells5z (blk_below HXs.out G8.out); exact ⟨x0, x1, x2, x3, x4, y0, y1, y2, y3, y4⟩); clear hb) | (go_at_call 25; refine (message_Bodiless.calls a1_0 n _ HN.out).mono ?_; rintro e v9 ⟨rfl, n9, hw⟩; have G9 := Aside0.mk (show Below w2.heap.size w2 v9 from hw ▸ pw_below_drewN G8.out n9); have hz9 : (fun w' => w'.cell? ⟨w.heap.size, 0, none⟩ = some (.string a0_0) ∧ w'.cell? ⟨w.heap.size, 1, none⟩ = some (.string a0_1) ∧ w'.cell? ⟨w.heap.size, 2, none⟩ = some (.int .i64 a0_2) ∧ w'.cell? ⟨w.heap.size, 3, none⟩ = some (.slice A0_3 l0_3.length c0_3) ∧ w'.cell? ⟨w.heap.size, 4, none⟩ = some (.string a0_4) ∧ w'.cell? ⟨w.heap.size + 1, 0, none⟩ = some (.int .i64 a1_0) ∧ w'.cell? ⟨w.heap.size + 1, 1, none⟩ = some (.string a1_1) ∧ w'.cell? ⟨w.heap.size + 1, 2, none⟩ = some (.int .i64 a1_2) ∧ w'.cell? ⟨w.heap.size + 1, 3, none⟩ = some (.slice A1_3 l1_3.length c1_3) ∧ w'.cell? ⟨w.heap.size + 1, 4, none⟩ = some (.string a1_4)) v9 := (by obtain ⟨x0, x1, x2, x3, x4⟩ := cells5z (blk_below HXr.out G9.out); obtain ⟨y0, y1, y2, y3, y4⟩ := cells5z (blk_below HXs.out G9.out); exact ⟨x0, x1, x2, x3, x4, y0, y1, y2, y3, y4⟩); clear hw) | (go_at_call 26; refine (depotref12_Bodiless.calls a1_0 n _ HN'.out).mono ?_; rintro e v10 ⟨rfl, n10, hw⟩; have G10 := Aside0.mk (show Below w2.heap.size w2 v10 from hw ▸ pw_below_drewN G9.out n10); have hz10 : (fun w' => w'.cell? ⟨w.heap.size, 0, none⟩ = some (.string a0_0) ∧ w'.cell? ⟨w.heap.size, 1, none⟩ = some (.string a0_1) ∧ w'.cell? ⟨w.heap.size, 2, none⟩ = some (.int .i64 a0_2) ∧ w'.cell? ⟨w.heap.size, 3, none⟩ = some (.slice A0_3 l0_3.length c0_3) ∧ w'.cell? ⟨w.heap.size, 4, none⟩ = some (.string a0_4) ∧ w'.cell? ⟨w.heap.size + 1, 0, none⟩ = some (.int .i64 a1_0) ∧ w'.cell? ⟨w.heap.size + 1, 1, none⟩ = some (.string a1_1) ∧ w'.cell? ⟨w.heap.size + 1, 2, none⟩ = some (.int .i64 a1_2) ∧ w'.cell? ⟨w.heap.size + 1, 3, none⟩ = some (.slice A1_3 l1_3.length c1_3) ∧ w'.cell? ⟨w.heap.size + 1, 4, none⟩ = some (.string a1_4)) v10 := (by obtain ⟨x0, x1, x2, x3, x4⟩ := cells5z (blk_below HXr.out G10.out); obtain ⟨y0, y1, y2, y3, y4⟩ := cells5z (blk_below HXs.out G10.out); exact ⟨x0, x1, x2, x3, x4, y0, y1, y2, y3, y4⟩); clear hw) | (go_at_call 8; refine (depotlaw12_messages.calls k true _ ⟨rfl⟩ ⟨HT.out.below (below_step HB.out G10.out)⟩ HM.out).mono ?_; rintro e v11 ⟨rfl, hb⟩; have G11 := Aside0.mk (below_step (below_step HB.out G10.out) hb); have hz11 : (fun w' => w'.cell? ⟨w.heap.size, 0, none⟩ = some (.string a0_0) ∧ w'.cell? ⟨w.heap.size, 1, none⟩ = some (.string a0_1) ∧ w'.cell? ⟨w.heap.size, 2, none⟩ = some (.int .i64 a0_2) ∧ w'.cell? ⟨w.heap.size, 3, none⟩ = some (.slice A0_3 l0_3.length c0_3) ∧ w'.cell? ⟨w.heap.size, 4, none⟩ = some (.string a0_4) ∧ w'.cell? ⟨w.heap.size + 1, 0, none⟩ = some (.int .i64 a1_0) ∧ w'.cell? ⟨w.heap.size + 1, 1, none⟩ = some (.string a1_1) ∧ w'.cell? ⟨w.heap.size + 1, 2, none⟩ = some (.int .i64 a1_2) ∧ w'.cell? ⟨w.heap.size + 1, 3, none⟩ = some (.slice A1_3 l1_3.length c1_3) ∧ w'.cell? ⟨w.heap.size + 1, 4, none⟩ = some (.string a1_4)) v11 := (by obtain ⟨x0, x1, x2, x3, x4⟩ := cells5z (blk_below (blk_below HXr.out G10.out) hb); obtain ⟨y0, y1, y2, y3, y4⟩ := cells5z (blk_below (blk_below HXs.out G10.out) hb); exact ⟨x0, x1, x2, x3, x4, y0, y1, y2, y3, y4⟩); clear hb))
 all_goals
  go_wp2_with fail
  go_ret
  exact ⟨rfl, G11.out⟩

end Go.Proofs.YtjaklgikfcahdaaGreatDoor.PU
