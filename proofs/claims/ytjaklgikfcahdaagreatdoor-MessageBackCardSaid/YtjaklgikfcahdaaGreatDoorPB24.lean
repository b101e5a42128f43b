-- Out of the translation, by a program of this session: each function that a law comes to as a Lean function, and that the machine's call does what it says. Lean checks it.
import Derived.Test.YtjaklgikfcahdaaGreatDoorPB0
import Derived.Test.YtjaklgikfcahdaaGreatDoorPB11
import Derived.Test.YtjaklgikfcahdaaGreatDoorPB13
import Derived.Test.YtjaklgikfcahdaaGreatDoorPB16
import Derived.Test.YtjaklgikfcahdaaGreatDoorPB17
import Derived.Test.YtjaklgikfcahdaaGreatDoorPB18
import Derived.Test.YtjaklgikfcahdaaGreatDoorPB19
import Derived.Test.YtjaklgikfcahdaaGreatDoorPB20
import Derived.Test.YtjaklgikfcahdaaGreatDoorPB21
import Derived.Test.YtjaklgikfcahdaaGreatDoorPB23
namespace Go.Proofs.YtjaklgikfcahdaaGreatDoor.PB
open Go.RowKit Go.Proofs.YtjaklgikfcahdaaGreatDoorW.PrintWords Go.Proofs.YtjaklgikfcahdaaGreatDoorW.PrintLast Go.Proofs.YtjaklgikfcahdaaGreatDoorW.PrintMore
attribute [local go_sem] max2_int min2_int max_two min_two max_three min_three max_four min_four   -- for this text's walks alone
set_option linter.unusedVariables false
set_option linter.unusedSimpArgs false

/-! ### depotlaw12_MessageBack: function 6: told by hand -/
/-- What MessageBack asks of a reply. -/
def depotlaw12_MessageBack.tail (k : Nat) (a1_0 : Int) (a1_1 : ByteArray) (a1_2 : Int) (l1_3 : List S98) (a1_4 : ByteArray) : Option Bool :=
  (message_CheckReply.f k a1_0 a1_1 a1_2 l1_3 a1_4).bind fun e => if e = 0 then ((message_PrintReply.f k a1_0 a1_1 a1_2 l1_3 a1_4 false).bind fun p => (message_ParseReply.f k p (⟨#[71, 69, 84]⟩ : ByteArray)).bind fun a => (message_PrintReply.f k a1_0 a1_1 a1_2 l1_3 a1_4 true).bind fun q => (message_ParseReply.f k q (⟨#[72, 69, 65, 68]⟩ : ByteArray)).bind fun b => (depotref12_SameReply.f k a.1 a.2.1 a.2.2.1 a.2.2.2.1 a.2.2.2.2.1 a1_0 a1_1 a1_2 l1_3 a1_4).bind fun s => (depotref12_SameReply.f k b.1 b.2.1 b.2.2.1 b.2.2.2.1 b.2.2.2.2.1 a1_0 a1_1 a1_2 l1_3 (⟨#[]⟩ : ByteArray)).bind fun t => if s = true ∧ a.2.2.2.2.2 = 0 ∧ b.2.2.2.2.2 = 0 ∧ t = true then depotlaw12_messages.f k else some false) else depotlaw12_messages.f k
def depotlaw12_MessageBack.f (k : Nat) (a0_0 : ByteArray) (a0_1 : ByteArray) (a0_2 : Int) (l0_3 : List S98) (a0_4 : ByteArray) (a1_0 : Int) (a1_1 : ByteArray) (a1_2 : Int) (l1_3 : List S98) (a1_4 : ByteArray) : Option Bool :=
  (depotref12_FewRequest.f k a0_0 a0_1 a0_2 l0_3 a0_4 2000).bind fun x => if x = true then ((depotref12_FewReply.f k a1_0 a1_1 a1_2 l1_3 a1_4 2000).bind fun y => if y = true then ((message_CheckRequest.f k a0_0 a0_1 a0_2 l0_3 a0_4).bind fun e => if e = 0 then ((message_PrintRequest.f k a0_0 a0_1 a0_2 l0_3 a0_4).bind fun p => (message_ParseRequest.f k p).bind fun a => (depotref12_SameRequest.f k a.1 a.2.1 a.2.2.1 a.2.2.2.1 a.2.2.2.2.1 a0_0 a0_1 a0_2 l0_3 a0_4).bind fun s => if s = true ∧ a.2.2.2.2.2 = 0 then depotlaw12_MessageBack.tail k a1_0 a1_1 a1_2 l1_3 a1_4 else some false) else depotlaw12_MessageBack.tail k a1_0 a1_1 a1_2 l1_3 a1_4) else depotlaw12_messages.f k) else depotlaw12_messages.f k
set_option maxHeartbeats 3200000 in
set_option maxRecDepth 100000 in
theorem depotlaw12_MessageBack.calls (k : Nat) (a0_0 : ByteArray) (a0_1 : ByteArray) (a0_2 : Int) (A0_3 : Option Addr) (c0_3 : Nat) (l0_3 : List (S98)) (a0_4 : ByteArray) (a1_0 : Int) (a1_1 : ByteArray) (a1_2 : Int) (A1_3 : Option Addr) (c1_3 : Nat) (l1_3 : List (S98)) (a1_4 : ByteArray) (r : Bool) (w : World) (HTRUE : Aside0 (r = true)) (HT : Aside0 (Hand.Laid w)) (hr0_3 : Kd.C k98 w A0_3 l0_3.length l0_3) (hc0_3 : l0_3.length ≤ c0_3) (hr1_3 : Kd.C k98 w A1_3 l1_3.length l1_3) (hc1_3 : l1_3.length ≤ c1_3) (h : depotlaw12_MessageBack.f k a0_0 a0_1 a0_2 l0_3 a0_4 a1_0 a1_1 a1_2 l1_3 a1_4 = some r) :
    Calls Tryz.prog 6 #[.agg #[.string a0_0, .string a0_1, .int .i64 a0_2, .slice A0_3 l0_3.length c0_3, .string a0_4], .agg #[.int .i64 a1_0, .string a1_1, .int .i64 a1_2, .slice A1_3 l1_3.length c1_3, .string a1_4]] w fun e w' => e = .returned (.bool r) ∧ Below w.heap.size w w' := by
  obtain rfl := HTRUE.out
  have HRr := Aside0.mk hr0_3
  have HRs := Aside0.mk hr1_3
  have hX := blk_new w (.cells #[.string a0_0, .string a0_1, .int .i64 a0_2, .slice A0_3 l0_3.length c0_3, .string a0_4] 25)
  have hB := Hand.alloc_below w (.cells #[.string a0_0, .string a0_1, .int .i64 a0_2, .slice A0_3 l0_3.length c0_3, .string a0_4] 25)
  have HH := Aside0.mk h
  clear h hr0_3 hr1_3
  go_enter Tryz.func6, Tryz.ntmps6
  go_upto_region 1 with (fail)
  have hX0 := blk_alloc hX (.cells #[.int .i64 a1_0, .string a1_1, .int .i64 a1_2, .slice A1_3 l1_3.length c1_3, .string a1_4] 34)
  have hX1 := blk_new (w.alloc (.cells #[.string a0_0, .string a0_1, .int .i64 a0_2, .slice A0_3 l0_3.length c0_3, .string a0_4] 25)) (.cells #[.int .i64 a1_0, .string a1_1, .int .i64 a1_2, .slice A1_3 l1_3.length c1_3, .string a1_4] 34)
  have HB_0 := Aside0.mk (hB.alloc hB.size (.cells #[.int .i64 a1_0, .string a1_1, .int .i64 a1_2, .slice A1_3 l1_3.length c1_3, .string a1_4] 34))
  rw [show (w.alloc (.cells #[.string a0_0, .string a0_1, .int .i64 a0_2, .slice A0_3 l0_3.length c0_3, .string a0_4] 25)).heap.size = w.heap.size + 1 by simp] at hX1
  clear hX hB
  have HXr_0 := Aside0.mk hX0
  have HXs_0 := Aside0.mk hX1
  clear hX0 hX1
  generalize (w.alloc (.cells #[.string a0_0, .string a0_1, .int .i64 a0_2, .slice A0_3 l0_3.length c0_3, .string a0_4] 25)).alloc (.cells #[.int .i64 a1_0, .string a1_1, .int .i64 a1_2, .slice A1_3 l1_3.length c1_3, .string a1_4] 34) = w0 at HXr_0 HXs_0 HB_0 ⊢
  obtain ⟨cr0, cr1, cr2, cr3, cr4⟩ := cells5z HXr_0.out
  obtain ⟨cs0, cs1, cs2, cs3, cs4⟩ := cells5z HXs_0.out
  have h := HH.out
  clear HH
  unfold depotlaw12_MessageBack.f at h
  replace h := Option.bind_eq_some_iff.1 h
  obtain ⟨x, hx, h⟩ := h
  have HF := Aside0.mk hx
  clear hx
  cases x
  · rw [if_neg (by simp)] at h
    have HM := Aside0.mk h
    clear h
    go_wp2_with (first | (go_at_call 15; refine (depotref12_FewRequest.calls k a0_0 a0_1 a0_2 A0_3 c0_3 l0_3 a0_4 2000 false _ (Kd.C_below HRr.out HB_0.out) hc0_3 HF.out).mono ?_; rintro e w1 ⟨rfl, hb⟩; have HB_1 := Aside0.mk (below_step HB_0.out hb); have HXr_1 := Aside0.mk (blk_below HXr_0.out hb); have HXs_1 := Aside0.mk (blk_below HXs_0.out hb); clear HB_0 HXr_0 HXs_0 hb; clear cr0 cr1 cr2 cr3 cr4 cs0 cs1 cs2 cs3 cs4; obtain ⟨cr0, cr1, cr2, cr3, cr4⟩ := cells5z HXr_1.out; obtain ⟨cs0, cs1, cs2, cs3, cs4⟩ := cells5z HXs_1.out; clear HF) | (go_at_call 8; refine (depotlaw12_messages.calls k true _ ⟨rfl⟩ ⟨HT.out.below HB_1.out⟩ HM.out).mono ?_; rintro e w2 ⟨rfl, hb⟩; have HB_2 := Aside0.mk (below_step HB_1.out hb); clear HB_1 HXr_1 HXs_1 hb; clear cr0 cr1 cr2 cr3 cr4 cs0 cs1 cs2 cs3 cs4))
    go_ret
    exact ⟨rfl, HB_2.out⟩
  rw [if_pos rfl] at h
  replace h := Option.bind_eq_some_iff.1 h
  obtain ⟨y, hy, h⟩ := h
  have HG := Aside0.mk hy
  clear hy
  cases y
  · rw [if_neg (by simp)] at h
    have HM := Aside0.mk h
    clear h
    go_wp2_with (first | (go_at_call 15; refine (depotref12_FewRequest.calls k a0_0 a0_1 a0_2 A0_3 c0_3 l0_3 a0_4 2000 true _ (Kd.C_below HRr.out HB_0.out) hc0_3 HF.out).mono ?_; rintro e w1 ⟨rfl, hb⟩; have HB_1 := Aside0.mk (below_step HB_0.out hb); have HXr_1 := Aside0.mk (blk_below HXr_0.out hb); have HXs_1 := Aside0.mk (blk_below HXs_0.out hb); clear HB_0 HXr_0 HXs_0 hb; clear cr0 cr1 cr2 cr3 cr4 cs0 cs1 cs2 cs3 cs4; obtain ⟨cr0, cr1, cr2, cr3, cr4⟩ := cells5z HXr_1.out; obtain ⟨cs0, cs1, cs2, cs3, cs4⟩ := cells5z HXs_1.out; clear HF) | (go_at_call 16; refine (depotref12_FewReply.calls k a1_0 a1_1 a1_2 A1_3 c1_3 l1_3 a1_4 2000 false _ (Kd.C_below HRs.out HB_1.out) hc1_3 HG.out).mono ?_; rintro e w2 ⟨rfl, hb⟩; have HB_2 := Aside0.mk (below_step HB_1.out hb); have HXr_2 := Aside0.mk (blk_below HXr_1.out hb); have HXs_2 := Aside0.mk (blk_below HXs_1.out hb); clear HB_1 HXr_1 HXs_1 hb; clear cr0 cr1 cr2 cr3 cr4 cs0 cs1 cs2 cs3 cs4; obtain ⟨cr0, cr1, cr2, cr3, cr4⟩ := cells5z HXr_2.out; obtain ⟨cs0, cs1, cs2, cs3, cs4⟩ := cells5z HXs_2.out; clear HG) | (go_at_call 8; refine (depotlaw12_messages.calls k true _ ⟨rfl⟩ ⟨HT.out.below HB_2.out⟩ HM.out).mono ?_; rintro e w3 ⟨rfl, hb⟩; have HB_3 := Aside0.mk (below_step HB_2.out hb); clear HB_2 HXr_2 HXs_2 hb; clear cr0 cr1 cr2 cr3 cr4 cs0 cs1 cs2 cs3 cs4))
    go_ret
    exact ⟨rfl, HB_3.out⟩
  rw [if_pos rfl] at h
  replace h := Option.bind_eq_some_iff.1 h
  obtain ⟨e, he, h⟩ := h
  have HE := Aside0.mk he
  clear he
  go_upto_region 3 with (first | (go_at_call 15; refine (depotref12_FewRequest.calls k a0_0 a0_1 a0_2 A0_3 c0_3 l0_3 a0_4 2000 true _ (Kd.C_below HRr.out HB_0.out) hc0_3 HF.out).mono ?_; rintro e w1 ⟨rfl, hb⟩; have HB_1 := Aside0.mk (below_step HB_0.out hb); have HXr_1 := Aside0.mk (blk_below HXr_0.out hb); have HXs_1 := Aside0.mk (blk_below HXs_0.out hb); clear HB_0 HXr_0 HXs_0 hb; clear cr0 cr1 cr2 cr3 cr4 cs0 cs1 cs2 cs3 cs4; obtain ⟨cr0, cr1, cr2, cr3, cr4⟩ := cells5z HXr_1.out; obtain ⟨cs0, cs1, cs2, cs3, cs4⟩ := cells5z HXs_1.out; clear HF) | (go_at_call 16; refine (depotref12_FewReply.calls k a1_0 a1_1 a1_2 A1_3 c1_3 l1_3 a1_4 2000 true _ (Kd.C_below HRs.out HB_1.out) hc1_3 HG.out).mono ?_; rintro e w2 ⟨rfl, hb⟩; have HB_2 := Aside0.mk (below_step HB_1.out hb); have HXr_2 := Aside0.mk (blk_below HXr_1.out hb); have HXs_2 := Aside0.mk (blk_below HXs_1.out hb); clear HB_1 HXr_1 HXs_1 hb; clear cr0 cr1 cr2 cr3 cr4 cs0 cs1 cs2 cs3 cs4; obtain ⟨cr0, cr1, cr2, cr3, cr4⟩ := cells5z HXr_2.out; obtain ⟨cs0, cs1, cs2, cs3, cs4⟩ := cells5z HXs_2.out; clear HG))
  by_cases he : e = 0
  · subst he
    rw [if_pos rfl] at h
    replace h := Option.bind_eq_some_iff.1 h
    obtain ⟨p, hp, h⟩ := h
    have HP := Aside0.mk hp
    clear hp
    replace h := Option.bind_eq_some_iff.1 h
    obtain ⟨⟨a1, a2, a3, a4, a5, a6⟩, ha, h⟩ := h
    have HA := Aside0.mk ha
    clear ha
    replace h := Option.bind_eq_some_iff.1 h
    obtain ⟨s, hs, h⟩ := h
    have HS := Aside0.mk hs
    clear hs
    simp only at h
    split at h
    case isFalse => cases h
    case isTrue hh =>
    obtain ⟨rfl, rfl⟩ := hh
    have HTL := Aside0.mk h
    clear h
    go_upto_region 5 with (first | (go_at_call 21; refine (message_CheckRequest.calls k a0_0 a0_1 a0_2 A0_3 c0_3 l0_3 a0_4 0 _ ⟨HT.out.below HB_2.out⟩ (Kd.C_below HRr.out HB_2.out) hc0_3 HE.out).mono ?_; rintro e w3 ⟨rfl, hb⟩; have HB_3 := Aside0.mk (below_step HB_2.out hb); have HXr_3 := Aside0.mk (blk_below HXr_2.out hb); have HXs_3 := Aside0.mk (blk_below HXs_2.out hb); clear HB_2 HXr_2 HXs_2 hb; clear cr0 cr1 cr2 cr3 cr4 cs0 cs1 cs2 cs3 cs4; obtain ⟨cr0, cr1, cr2, cr3, cr4⟩ := cells5z HXr_3.out; obtain ⟨cs0, cs1, cs2, cs3, cs4⟩ := cells5z HXs_3.out; clear HE) | (go_at_call 17; refine (message_PrintRequest.calls k a0_0 a0_1 a0_2 A0_3 c0_3 l0_3 a0_4 p _ ⟨HT.out.below HB_3.out⟩ (Kd.C_below HRr.out HB_3.out) hc0_3 HP.out).mono ?_; rintro e w4 ⟨rfl, hb⟩; have HB_4 := Aside0.mk (below_step HB_3.out hb); have HXr_4 := Aside0.mk (blk_below HXr_3.out hb); have HXs_4 := Aside0.mk (blk_below HXs_3.out hb); clear HB_3 HXr_3 HXs_3 hb; clear cr0 cr1 cr2 cr3 cr4 cs0 cs1 cs2 cs3 cs4; obtain ⟨cr0, cr1, cr2, cr3, cr4⟩ := cells5z HXr_4.out; obtain ⟨cs0, cs1, cs2, cs3, cs4⟩ := cells5z HXs_4.out; clear HP) | (go_at_call 9; refine (message_ParseRequest.calls k p a1 a2 a3 a4 a5 0 _ ⟨HT.out.below HB_4.out⟩ HA.out).mono ?_; rintro e w5 ⟨v, rfl, hv, hb⟩; obtain ⟨Aa, ca, rfl, hla, hC⟩ := Kd.R_reads hv; have HB_5 := Aside0.mk (below_step HB_4.out hb); have HXr_5 := Aside0.mk (blk_below HXr_4.out hb); have HXs_5 := Aside0.mk (blk_below HXs_4.out hb); have HKa_5 := Aside0.mk (hC); clear HB_4 HXr_4 HXs_4 hb; clear cr0 cr1 cr2 cr3 cr4 cs0 cs1 cs2 cs3 cs4; obtain ⟨cr0, cr1, cr2, cr3, cr4⟩ := cells5z HXr_5.out; obtain ⟨cs0, cs1, cs2, cs3, cs4⟩ := cells5z HXs_5.out; clear hv hC HA))
    have hb := Hand.alloc_below w5 (.cells #[.string a1, .string a2, .int .i64 a3, .slice Aa a4.length ca, .string a5] 25)
    have HB_6 := Aside0.mk (below_step HB_5.out hb)
    have HXr_6 := Aside0.mk (blk_below HXr_5.out hb)
    have HXs_6 := Aside0.mk (blk_below HXs_5.out hb)
    have HKa_6 := Aside0.mk (Kd.C_below HKa_5.out hb)
    have HXa_6 := Aside0.mk (blk_new w5 (.cells #[.string a1, .string a2, .int .i64 a3, .slice Aa a4.length ca, .string a5] 25))
    clear HB_5 HXr_5 HXs_5 HKa_5 hb
    generalize w5.alloc (.cells #[.string a1, .string a2, .int .i64 a3, .slice Aa a4.length ca, .string a5] 25) = w6 at HB_6 HXr_6 HXs_6 HKa_6 HXa_6 ⊢
    generalize w5.heap.size = ba at HXa_6 ⊢
    clear cr0 cr1 cr2 cr3 cr4 cs0 cs1 cs2 cs3 cs4
    obtain ⟨cr0, cr1, cr2, cr3, cr4⟩ := cells5z HXr_6.out
    obtain ⟨cs0, cs1, cs2, cs3, cs4⟩ := cells5z HXs_6.out
    obtain ⟨ca0, ca1, ca2, ca3, ca4⟩ := cells5z HXa_6.out
    go_upto_region 7 with (go_at_call 11; refine (depotref12_SameRequest.calls k a1 a2 a3 Aa ca a4 a5 a0_0 a0_1 a0_2 A0_3 c0_3 l0_3 a0_4 true _ HKa_6.out hla (Kd.C_below HRr.out HB_6.out) hc0_3 HS.out).mono ?_; rintro e w7 ⟨rfl, hb⟩; have HB_7 := Aside0.mk (below_step HB_6.out hb); have HXs_7 := Aside0.mk (blk_below HXs_6.out hb); clear HB_6 HXr_6 HXs_6 HKa_6 HXa_6 hb; clear cr0 cr1 cr2 cr3 cr4 cs0 cs1 cs2 cs3 cs4 ca0 ca1 ca2 ca3 ca4; obtain ⟨cs0, cs1, cs2, cs3, cs4⟩ := cells5z HXs_7.out; clear HS)
    have h := HTL.out
    clear HTL
    unfold depotlaw12_MessageBack.tail at h
    replace h := Option.bind_eq_some_iff.1 h
    obtain ⟨f, hf, h⟩ := h
    have HC := Aside0.mk hf
    clear hf
    by_cases hf : f = 0
    · subst hf
      rw [if_pos rfl] at h
      replace h := Option.bind_eq_some_iff.1 h
      obtain ⟨u, hu, h⟩ := h
      have HU := Aside0.mk hu
      clear hu
      replace h := Option.bind_eq_some_iff.1 h
      obtain ⟨⟨b1, b2, b3, b4, b5, b6⟩, hb_, h⟩ := h
      have HBB := Aside0.mk hb_
      clear hb_
      replace h := Option.bind_eq_some_iff.1 h
      obtain ⟨v, hv_, h⟩ := h
      have HVV := Aside0.mk hv_
      clear hv_
      replace h := Option.bind_eq_some_iff.1 h
      obtain ⟨⟨d1, d2, d3, d4, d5, d6⟩, hd, h⟩ := h
      have HD := Aside0.mk hd
      clear hd
      replace h := Option.bind_eq_some_iff.1 h
      obtain ⟨s1, hs1, h⟩ := h
      have HS1 := Aside0.mk hs1
      clear hs1
      replace h := Option.bind_eq_some_iff.1 h
      obtain ⟨s2, hs2, h⟩ := h
      have HS2 := Aside0.mk hs2
      clear hs2
      simp only at h
      split at h
      case isFalse => cases h
      case isTrue hh =>
      obtain ⟨rfl, rfl, rfl, rfl⟩ := hh
      have HM := Aside0.mk h
      clear h
      go_upto_region 9 with (first | (go_at_call 23; refine (message_CheckReply.calls k a1_0 a1_1 a1_2 A1_3 c1_3 l1_3 a1_4 0 _ ⟨HT.out.below HB_7.out⟩ (Kd.C_below HRs.out HB_7.out) hc1_3 HC.out).mono ?_; rintro e w8 ⟨rfl, hb⟩; have HB_8 := Aside0.mk (below_step HB_7.out hb); have HXs_8 := Aside0.mk (blk_below HXs_7.out hb); clear HB_7 HXs_7 hb; clear cs0 cs1 cs2 cs3 cs4; obtain ⟨cs0, cs1, cs2, cs3, cs4⟩ := cells5z HXs_8.out; clear HC) | (go_at_call 19; refine (message_PrintReply.calls k a1_0 a1_1 a1_2 A1_3 c1_3 l1_3 a1_4 false u _ ⟨HT.out.below HB_8.out⟩ (Kd.C_below HRs.out HB_8.out) hc1_3 HU.out).mono ?_; rintro e w9 ⟨rfl, hb⟩; have HB_9 := Aside0.mk (below_step HB_8.out hb); have HXs_9 := Aside0.mk (blk_below HXs_8.out hb); clear HB_8 HXs_8 hb; clear cs0 cs1 cs2 cs3 cs4; obtain ⟨cs0, cs1, cs2, cs3, cs4⟩ := cells5z HXs_9.out; clear HU) | (go_at_call 12; refine (message_ParseReply.calls k u (⟨#[71, 69, 84]⟩ : ByteArray) b1 b2 b3 b4 b5 0 _ ⟨HT.out.below HB_9.out⟩ HBB.out).mono ?_; rintro e w10 ⟨v, rfl, hv, hb⟩; obtain ⟨Ab, cb, rfl, hlb, hC⟩ := Kd.R_reads hv; have HB_10 := Aside0.mk (below_step HB_9.out hb); have HXs_10 := Aside0.mk (blk_below HXs_9.out hb); have HKb_10 := Aside0.mk (hC); clear HB_9 HXs_9 hb; clear cs0 cs1 cs2 cs3 cs4; obtain ⟨cs0, cs1, cs2, cs3, cs4⟩ := cells5z HXs_10.out; clear hv hC HBB))
      have hb := Hand.alloc_below w10 (.cells #[.int .i64 b1, .string b2, .int .i64 b3, .slice Ab b4.length cb, .string b5] 34)
      have HB_11 := Aside0.mk (below_step HB_10.out hb)
      have HXs_11 := Aside0.mk (blk_below HXs_10.out hb)
      have HKb_11 := Aside0.mk (Kd.C_below HKb_10.out hb)
      have HXb_11 := Aside0.mk (blk_new w10 (.cells #[.int .i64 b1, .string b2, .int .i64 b3, .slice Ab b4.length cb, .string b5] 34))
      clear HB_10 HXs_10 HKb_10 hb
      generalize w10.alloc (.cells #[.int .i64 b1, .string b2, .int .i64 b3, .slice Ab b4.length cb, .string b5] 34) = w11 at HB_11 HXs_11 HKb_11 HXb_11 ⊢
      generalize w10.heap.size = bb at HXb_11 ⊢
      clear cs0 cs1 cs2 cs3 cs4
      obtain ⟨cs0, cs1, cs2, cs3, cs4⟩ := cells5z HXs_11.out
      obtain ⟨cb0, cb1, cb2, cb3, cb4⟩ := cells5z HXb_11.out
      go_upto_region 10 with (first | (go_at_call 19; refine (message_PrintReply.calls k a1_0 a1_1 a1_2 A1_3 c1_3 l1_3 a1_4 true v _ ⟨HT.out.below HB_11.out⟩ (Kd.C_below HRs.out HB_11.out) hc1_3 HVV.out).mono ?_; rintro e w12 ⟨rfl, hb⟩; have HB_12 := Aside0.mk (below_step HB_11.out hb); have HXs_12 := Aside0.mk (blk_below HXs_11.out hb); have HKb_12 := Aside0.mk (Kd.C_below HKb_11.out hb); have HXb_12 := Aside0.mk (blk_below HXb_11.out hb); clear HB_11 HXs_11 HKb_11 HXb_11 hb; clear cs0 cs1 cs2 cs3 cs4 cb0 cb1 cb2 cb3 cb4; obtain ⟨cs0, cs1, cs2, cs3, cs4⟩ := cells5z HXs_12.out; obtain ⟨cb0, cb1, cb2, cb3, cb4⟩ := cells5z HXb_12.out; clear HVV) | (go_at_call 12; refine (message_ParseReply.calls k v (⟨#[72, 69, 65, 68]⟩ : ByteArray) d1 d2 d3 d4 d5 0 _ ⟨HT.out.below HB_12.out⟩ HD.out).mono ?_; rintro e w13 ⟨v, rfl, hv, hb⟩; obtain ⟨Ad, cd, rfl, hld, hC⟩ := Kd.R_reads hv; have HB_13 := Aside0.mk (below_step HB_12.out hb); have HXs_13 := Aside0.mk (blk_below HXs_12.out hb); have HKb_13 := Aside0.mk (Kd.C_below HKb_12.out hb); have HXb_13 := Aside0.mk (blk_below HXb_12.out hb); have HKd_13 := Aside0.mk (hC); have HVd_13 := Aside0.mk (hv); clear HB_12 HXs_12 HKb_12 HXb_12 hb; clear cs0 cs1 cs2 cs3 cs4 cb0 cb1 cb2 cb3 cb4; obtain ⟨cs0, cs1, cs2, cs3, cs4⟩ := cells5z HXs_13.out; obtain ⟨cb0, cb1, cb2, cb3, cb4⟩ := cells5z HXb_13.out; clear hv hC HD))
      have hne : w13.heap.size ≠ w.heap.size + 1 := Nat.ne_of_gt (blk_lt HXs_13.out)
      have HNE := Aside0.mk hne
      clear hne
      have hb := Hand.alloc_below w13 (.cells #[.int .i64 d1, .string d2, .int .i64 d3, .slice Ad d4.length cd, .string d5] 34)
      have HB_14 := Aside0.mk (below_step HB_13.out hb)
      have HXs_14 := Aside0.mk (blk_below HXs_13.out hb)
      have HKb_14 := Aside0.mk (Kd.C_below HKb_13.out hb)
      have HXb_14 := Aside0.mk (blk_below HXb_13.out hb)
      have HVd_14 := Aside0.mk (Kd.R_below HVd_13.out hb)
      have HXd_14 := Aside0.mk (blk_new w13 (.cells #[.int .i64 d1, .string d2, .int .i64 d3, .slice Ad d4.length cd, .string d5] 34))
      clear HB_13 HXs_13 HKb_13 HXb_13 HKd_13 HVd_13 hb
      generalize w13.alloc (.cells #[.int .i64 d1, .string d2, .int .i64 d3, .slice Ad d4.length cd, .string d5] 34) = w14 at HB_14 HXs_14 HKb_14 HXb_14 HVd_14 HXd_14 ⊢
      generalize w13.heap.size = bd at HXd_14 HNE ⊢
      clear cs0 cs1 cs2 cs3 cs4 cb0 cb1 cb2 cb3 cb4
      obtain ⟨cs0, cs1, cs2, cs3, cs4⟩ := cells5z HXs_14.out
      obtain ⟨cb0, cb1, cb2, cb3, cb4⟩ := cells5z HXb_14.out
      obtain ⟨cd0, cd1, cd2, cd3, cd4⟩ := cells5z HXd_14.out
      go_upto_region 12 with (go_at_call 14; refine (depotref12_SameReply.calls k b1 b2 b3 Ab cb b4 b5 a1_0 a1_1 a1_2 A1_3 c1_3 l1_3 a1_4 true _ HKb_14.out hlb (Kd.C_below HRs.out HB_14.out) hc1_3 HS1.out).mono ?_; rintro e w15 ⟨rfl, hb⟩; have HB_15 := Aside0.mk (below_step HB_14.out hb); have HXs_15 := Aside0.mk (blk_below HXs_14.out hb); have HVd_15 := Aside0.mk (Kd.R_below HVd_14.out hb); have HXd_15 := Aside0.mk (blk_below HXd_14.out hb); clear HB_14 HXs_14 HKb_14 HXb_14 HVd_14 HXd_14 hb; clear cs0 cs1 cs2 cs3 cs4 cb0 cb1 cb2 cb3 cb4 cd0 cd1 cd2 cd3 cd4; obtain ⟨cs0, cs1, cs2, cs3, cs4⟩ := cells5z HXs_15.out; obtain ⟨cd0, cd1, cd2, cd3, cd4⟩ := cells5z HXd_15.out; clear HS1)
      have zf := blk_frozen HXs_15.out 4
      go_upto_region 13 with (fail)
      have HB_16 := Aside0.mk (below_set (j := 4) (v := .string (⟨#[]⟩ : ByteArray)) HB_15.out (Nat.le_succ w.heap.size))
      have HXs_16 := Aside0.mk (blk_put HXs_15.out 4 (.string (⟨#[]⟩ : ByteArray)) (cs' := #[.int .i64 a1_0, .string a1_1, .int .i64 a1_2, .slice A1_3 l1_3.length c1_3, .string (⟨#[]⟩ : ByteArray)]) rfl)
      have HXd_16 := Aside0.mk (blk_far (p := ⟨w.heap.size + 1, 4, none⟩) HXd_15.out HNE.out (.string (⟨#[]⟩ : ByteArray)))
      have HVd_16 := Aside0.mk (Kd.R_set HVd_15.out HXs_15.out (by decide) 4 (.string (⟨#[]⟩ : ByteArray)))
      clear HB_15 HXs_15 HVd_15 HXd_15 zf cs0 cs1 cs2 cs3 cs4 cd0 cd1 cd2 cd3 cd4
      generalize w15.setCell ⟨w.heap.size + 1, 4, none⟩ (.string (⟨#[]⟩ : ByteArray)) = w16 at HB_16 HXs_16 HXd_16 HVd_16 ⊢
      obtain ⟨cs0, cs1, cs2, cs3, cs4⟩ := cells5z HXs_16.out
      obtain ⟨cd0, cd1, cd2, cd3, cd4⟩ := cells5z HXd_16.out
      obtain ⟨-, -, hCd⟩ := Kd.R_reads' HVd_16.out
      have HCD := Aside0.mk hCd
      clear hCd
      go_wp2_with (first | (go_at_call 14; refine (depotref12_SameReply.calls k d1 d2 d3 Ad cd d4 d5 a1_0 a1_1 a1_2 A1_3 c1_3 l1_3 (⟨#[]⟩ : ByteArray) true _ HCD.out hld (Kd.C_below HRs.out HB_16.out) hc1_3 HS2.out).mono ?_; rintro e w17 ⟨rfl, hb⟩; have HB_17 := Aside0.mk (below_step HB_16.out hb); clear HB_16 HXs_16 HXd_16 HVd_16 hb; clear cs0 cs1 cs2 cs3 cs4 cd0 cd1 cd2 cd3 cd4; clear HS2) | (go_at_call 8; refine (depotlaw12_messages.calls k true _ ⟨rfl⟩ ⟨HT.out.below HB_17.out⟩ HM.out).mono ?_; rintro e w18 ⟨rfl, hb⟩; have HB_18 := Aside0.mk (below_step HB_17.out hb); clear HB_17 hb))
      go_ret
      exact ⟨rfl, HB_18.out⟩
    rw [if_neg hf] at h
    have HM := Aside0.mk h
    have hf1 : (f == 0) = false := beq_false_of_ne hf
    clear h hf
    go_wp2_with (first | (go_at_call 23; refine (message_CheckReply.calls k a1_0 a1_1 a1_2 A1_3 c1_3 l1_3 a1_4 f _ ⟨HT.out.below HB_7.out⟩ (Kd.C_below HRs.out HB_7.out) hc1_3 HC.out).mono ?_; rintro e w8 ⟨rfl, hb⟩; have HB_8 := Aside0.mk (below_step HB_7.out hb); have HXs_8 := Aside0.mk (blk_below HXs_7.out hb); clear HB_7 HXs_7 hb; clear cs0 cs1 cs2 cs3 cs4; obtain ⟨cs0, cs1, cs2, cs3, cs4⟩ := cells5z HXs_8.out; clear HC) | (go_at_call 8; refine (depotlaw12_messages.calls k true _ ⟨rfl⟩ ⟨HT.out.below HB_8.out⟩ HM.out).mono ?_; rintro e w9 ⟨rfl, hb⟩; have HB_9 := Aside0.mk (below_step HB_8.out hb); clear HB_8 HXs_8 hb; clear cs0 cs1 cs2 cs3 cs4))
    go_ret
    exact ⟨rfl, HB_9.out⟩
  rw [if_neg he] at h
  have HTL := Aside0.mk h
  have he1 : (e == 0) = false := beq_false_of_ne he
  clear h he
  go_upto_region 7 with (go_at_call 21; refine (message_CheckRequest.calls k a0_0 a0_1 a0_2 A0_3 c0_3 l0_3 a0_4 e _ ⟨HT.out.below HB_2.out⟩ (Kd.C_below HRr.out HB_2.out) hc0_3 HE.out).mono ?_; rintro e w3 ⟨rfl, hb⟩; have HB_3 := Aside0.mk (below_step HB_2.out hb); have HXr_3 := Aside0.mk (blk_below HXr_2.out hb); have HXs_3 := Aside0.mk (blk_below HXs_2.out hb); clear HB_2 HXr_2 HXs_2 hb; clear cr0 cr1 cr2 cr3 cr4 cs0 cs1 cs2 cs3 cs4; obtain ⟨cr0, cr1, cr2, cr3, cr4⟩ := cells5z HXr_3.out; obtain ⟨cs0, cs1, cs2, cs3, cs4⟩ := cells5z HXs_3.out; clear HE)
  have h := HTL.out
  clear HTL
  unfold depotlaw12_MessageBack.tail at h
  replace h := Option.bind_eq_some_iff.1 h
  obtain ⟨f, hf, h⟩ := h
  have HC := Aside0.mk hf
  clear hf
  by_cases hf : f = 0
  · subst hf
    rw [if_pos rfl] at h
    replace h := Option.bind_eq_some_iff.1 h
    obtain ⟨u, hu, h⟩ := h
    have HU := Aside0.mk hu
    clear hu
    replace h := Option.bind_eq_some_iff.1 h
    obtain ⟨⟨b1, b2, b3, b4, b5, b6⟩, hb_, h⟩ := h
    have HBB := Aside0.mk hb_
    clear hb_
    replace h := Option.bind_eq_some_iff.1 h
    obtain ⟨v, hv_, h⟩ := h
    have HVV := Aside0.mk hv_
    clear hv_
    replace h := Option.bind_eq_some_iff.1 h
    obtain ⟨⟨d1, d2, d3, d4, d5, d6⟩, hd, h⟩ := h
    have HD := Aside0.mk hd
    clear hd
    replace h := Option.bind_eq_some_iff.1 h
    obtain ⟨s1, hs1, h⟩ := h
    have HS1 := Aside0.mk hs1
    clear hs1
    replace h := Option.bind_eq_some_iff.1 h
    obtain ⟨s2, hs2, h⟩ := h
    have HS2 := Aside0.mk hs2
    clear hs2
    simp only at h
    split at h
    case isFalse => cases h
    case isTrue hh =>
    obtain ⟨rfl, rfl, rfl, rfl⟩ := hh
    have HM := Aside0.mk h
    clear h
    go_upto_region 9 with (first | (go_at_call 23; refine (message_CheckReply.calls k a1_0 a1_1 a1_2 A1_3 c1_3 l1_3 a1_4 0 _ ⟨HT.out.below HB_3.out⟩ (Kd.C_below HRs.out HB_3.out) hc1_3 HC.out).mono ?_; rintro e w4 ⟨rfl, hb⟩; have HB_4 := Aside0.mk (below_step HB_3.out hb); have HXr_4 := Aside0.mk (blk_below HXr_3.out hb); have HXs_4 := Aside0.mk (blk_below HXs_3.out hb); clear HB_3 HXr_3 HXs_3 hb; clear cr0 cr1 cr2 cr3 cr4 cs0 cs1 cs2 cs3 cs4; obtain ⟨cr0, cr1, cr2, cr3, cr4⟩ := cells5z HXr_4.out; obtain ⟨cs0, cs1, cs2, cs3, cs4⟩ := cells5z HXs_4.out; clear HC) | (go_at_call 19; refine (message_PrintReply.calls k a1_0 a1_1 a1_2 A1_3 c1_3 l1_3 a1_4 false u _ ⟨HT.out.below HB_4.out⟩ (Kd.C_below HRs.out HB_4.out) hc1_3 HU.out).mono ?_; rintro e w5 ⟨rfl, hb⟩; have HB_5 := Aside0.mk (below_step HB_4.out hb); have HXr_5 := Aside0.mk (blk_below HXr_4.out hb); have HXs_5 := Aside0.mk (blk_below HXs_4.out hb); clear HB_4 HXr_4 HXs_4 hb; clear cr0 cr1 cr2 cr3 cr4 cs0 cs1 cs2 cs3 cs4; obtain ⟨cr0, cr1, cr2, cr3, cr4⟩ := cells5z HXr_5.out; obtain ⟨cs0, cs1, cs2, cs3, cs4⟩ := cells5z HXs_5.out; clear HU) | (go_at_call 12; refine (message_ParseReply.calls k u (⟨#[71, 69, 84]⟩ : ByteArray) b1 b2 b3 b4 b5 0 _ ⟨HT.out.below HB_5.out⟩ HBB.out).mono ?_; rintro e w6 ⟨v, rfl, hv, hb⟩; obtain ⟨Ab, cb, rfl, hlb, hC⟩ := Kd.R_reads hv; have HB_6 := Aside0.mk (below_step HB_5.out hb); have HXr_6 := Aside0.mk (blk_below HXr_5.out hb); have HXs_6 := Aside0.mk (blk_below HXs_5.out hb); have HKb_6 := Aside0.mk (hC); clear HB_5 HXr_5 HXs_5 hb; clear cr0 cr1 cr2 cr3 cr4 cs0 cs1 cs2 cs3 cs4; obtain ⟨cr0, cr1, cr2, cr3, cr4⟩ := cells5z HXr_6.out; obtain ⟨cs0, cs1, cs2, cs3, cs4⟩ := cells5z HXs_6.out; clear hv hC HBB))
    have hb := Hand.alloc_below w6 (.cells #[.int .i64 b1, .string b2, .int .i64 b3, .slice Ab b4.length cb, .string b5] 34)
    have HB_7 := Aside0.mk (below_step HB_6.out hb)
    have HXr_7 := Aside0.mk (blk_below HXr_6.out hb)
    have HXs_7 := Aside0.mk (blk_below HXs_6.out hb)
    have HKb_7 := Aside0.mk (Kd.C_below HKb_6.out hb)
    have HXb_7 := Aside0.mk (blk_new w6 (.cells #[.int .i64 b1, .string b2, .int .i64 b3, .slice Ab b4.length cb, .string b5] 34))
    clear HB_6 HXr_6 HXs_6 HKb_6 hb
    generalize w6.alloc (.cells #[.int .i64 b1, .string b2, .int .i64 b3, .slice Ab b4.length cb, .string b5] 34) = w7 at HB_7 HXr_7 HXs_7 HKb_7 HXb_7 ⊢
    generalize w6.heap.size = bb at HXb_7 ⊢
    clear cr0 cr1 cr2 cr3 cr4 cs0 cs1 cs2 cs3 cs4
    obtain ⟨cr0, cr1, cr2, cr3, cr4⟩ := cells5z HXr_7.out
    obtain ⟨cs0, cs1, cs2, cs3, cs4⟩ := cells5z HXs_7.out
    obtain ⟨cb0, cb1, cb2, cb3, cb4⟩ := cells5z HXb_7.out
    go_upto_region 10 with (first | (go_at_call 19; refine (message_PrintReply.calls k a1_0 a1_1 a1_2 A1_3 c1_3 l1_3 a1_4 true v _ ⟨HT.out.below HB_7.out⟩ (Kd.C_below HRs.out HB_7.out) hc1_3 HVV.out).mono ?_; rintro e w8 ⟨rfl, hb⟩; have HB_8 := Aside0.mk (below_step HB_7.out hb); have HXr_8 := Aside0.mk (blk_below HXr_7.out hb); have HXs_8 := Aside0.mk (blk_below HXs_7.out hb); have HKb_8 := Aside0.mk (Kd.C_below HKb_7.out hb); have HXb_8 := Aside0.mk (blk_below HXb_7.out hb); clear HB_7 HXr_7 HXs_7 HKb_7 HXb_7 hb; clear cr0 cr1 cr2 cr3 cr4 cs0 cs1 cs2 cs3 cs4 cb0 cb1 cb2 cb3 cb4; obtain ⟨cr0, cr1, cr2, cr3, cr4⟩ := cells5z HXr_8.out; obtain ⟨cs0, cs1, cs2, cs3, cs4⟩ := cells5z HXs_8.out; obtain ⟨cb0, cb1, cb2, cb3, cb4⟩ := cells5z HXb_8.out; clear HVV) | (go_at_call 12; refine (message_ParseReply.calls k v (⟨#[72, 69, 65, 68]⟩ : ByteArray) d1 d2 d3 d4 d5 0 _ ⟨HT.out.below HB_8.out⟩ HD.out).mono ?_; rintro e w9 ⟨v, rfl, hv, hb⟩; obtain ⟨Ad, cd, rfl, hld, hC⟩ := Kd.R_reads hv; have HB_9 := Aside0.mk (below_step HB_8.out hb); have HXr_9 := Aside0.mk (blk_below HXr_8.out hb); have HXs_9 := Aside0.mk (blk_below HXs_8.out hb); have HKb_9 := Aside0.mk (Kd.C_below HKb_8.out hb); have HXb_9 := Aside0.mk (blk_below HXb_8.out hb); have HKd_9 := Aside0.mk (hC); have HVd_9 := Aside0.mk (hv); clear HB_8 HXr_8 HXs_8 HKb_8 HXb_8 hb; clear cr0 cr1 cr2 cr3 cr4 cs0 cs1 cs2 cs3 cs4 cb0 cb1 cb2 cb3 cb4; obtain ⟨cr0, cr1, cr2, cr3, cr4⟩ := cells5z HXr_9.out; obtain ⟨cs0, cs1, cs2, cs3, cs4⟩ := cells5z HXs_9.out; obtain ⟨cb0, cb1, cb2, cb3, cb4⟩ := cells5z HXb_9.out; clear hv hC HD))
    have hne : w9.heap.size ≠ w.heap.size + 1 := Nat.ne_of_gt (blk_lt HXs_9.out)
    have HNE := Aside0.mk hne
    clear hne
    have hb := Hand.alloc_below w9 (.cells #[.int .i64 d1, .string d2, .int .i64 d3, .slice Ad d4.length cd, .string d5] 34)
    have HB_10 := Aside0.mk (below_step HB_9.out hb)
    have HXr_10 := Aside0.mk (blk_below HXr_9.out hb)
    have HXs_10 := Aside0.mk (blk_below HXs_9.out hb)
    have HKb_10 := Aside0.mk (Kd.C_below HKb_9.out hb)
    have HXb_10 := Aside0.mk (blk_below HXb_9.out hb)
    have HVd_10 := Aside0.mk (Kd.R_below HVd_9.out hb)
    have HXd_10 := Aside0.mk (blk_new w9 (.cells #[.int .i64 d1, .string d2, .int .i64 d3, .slice Ad d4.length cd, .string d5] 34))
    clear HB_9 HXr_9 HXs_9 HKb_9 HXb_9 HKd_9 HVd_9 hb
    generalize w9.alloc (.cells #[.int .i64 d1, .string d2, .int .i64 d3, .slice Ad d4.length cd, .string d5] 34) = w10 at HB_10 HXr_10 HXs_10 HKb_10 HXb_10 HVd_10 HXd_10 ⊢
    generalize w9.heap.size = bd at HXd_10 HNE ⊢
    clear cr0 cr1 cr2 cr3 cr4 cs0 cs1 cs2 cs3 cs4 cb0 cb1 cb2 cb3 cb4
    obtain ⟨cr0, cr1, cr2, cr3, cr4⟩ := cells5z HXr_10.out
    obtain ⟨cs0, cs1, cs2, cs3, cs4⟩ := cells5z HXs_10.out
    obtain ⟨cb0, cb1, cb2, cb3, cb4⟩ := cells5z HXb_10.out
    obtain ⟨cd0, cd1, cd2, cd3, cd4⟩ := cells5z HXd_10.out
    go_upto_region 12 with (go_at_call 14; refine (depotref12_SameReply.calls k b1 b2 b3 Ab cb b4 b5 a1_0 a1_1 a1_2 A1_3 c1_3 l1_3 a1_4 true _ HKb_10.out hlb (Kd.C_below HRs.out HB_10.out) hc1_3 HS1.out).mono ?_; rintro e w11 ⟨rfl, hb⟩; have HB_11 := Aside0.mk (below_step HB_10.out hb); have HXs_11 := Aside0.mk (blk_below HXs_10.out hb); have HVd_11 := Aside0.mk (Kd.R_below HVd_10.out hb); have HXd_11 := Aside0.mk (blk_below HXd_10.out hb); clear HB_10 HXr_10 HXs_10 HKb_10 HXb_10 HVd_10 HXd_10 hb; clear cr0 cr1 cr2 cr3 cr4 cs0 cs1 cs2 cs3 cs4 cb0 cb1 cb2 cb3 cb4 cd0 cd1 cd2 cd3 cd4; obtain ⟨cs0, cs1, cs2, cs3, cs4⟩ := cells5z HXs_11.out; obtain ⟨cd0, cd1, cd2, cd3, cd4⟩ := cells5z HXd_11.out; clear HS1)
    have zf := blk_frozen HXs_11.out 4
    go_upto_region 13 with (fail)
    have HB_12 := Aside0.mk (below_set (j := 4) (v := .string (⟨#[]⟩ : ByteArray)) HB_11.out (Nat.le_succ w.heap.size))
    have HXs_12 := Aside0.mk (blk_put HXs_11.out 4 (.string (⟨#[]⟩ : ByteArray)) (cs' := #[.int .i64 a1_0, .string a1_1, .int .i64 a1_2, .slice A1_3 l1_3.length c1_3, .string (⟨#[]⟩ : ByteArray)]) rfl)
    have HXd_12 := Aside0.mk (blk_far (p := ⟨w.heap.size + 1, 4, none⟩) HXd_11.out HNE.out (.string (⟨#[]⟩ : ByteArray)))
    have HVd_12 := Aside0.mk (Kd.R_set HVd_11.out HXs_11.out (by decide) 4 (.string (⟨#[]⟩ : ByteArray)))
    clear HB_11 HXs_11 HVd_11 HXd_11 zf cs0 cs1 cs2 cs3 cs4 cd0 cd1 cd2 cd3 cd4
    generalize w11.setCell ⟨w.heap.size + 1, 4, none⟩ (.string (⟨#[]⟩ : ByteArray)) = w12 at HB_12 HXs_12 HXd_12 HVd_12 ⊢
    obtain ⟨cs0, cs1, cs2, cs3, cs4⟩ := cells5z HXs_12.out
    obtain ⟨cd0, cd1, cd2, cd3, cd4⟩ := cells5z HXd_12.out
    obtain ⟨-, -, hCd⟩ := Kd.R_reads' HVd_12.out
    have HCD := Aside0.mk hCd
    clear hCd
    go_wp2_with (first | (go_at_call 14; refine (depotref12_SameReply.calls k d1 d2 d3 Ad cd d4 d5 a1_0 a1_1 a1_2 A1_3 c1_3 l1_3 (⟨#[]⟩ : ByteArray) true _ HCD.out hld (Kd.C_below HRs.out HB_12.out) hc1_3 HS2.out).mono ?_; rintro e w13 ⟨rfl, hb⟩; have HB_13 := Aside0.mk (below_step HB_12.out hb); clear HB_12 HXs_12 HXd_12 HVd_12 hb; clear cs0 cs1 cs2 cs3 cs4 cd0 cd1 cd2 cd3 cd4; clear HS2) | (go_at_call 8; refine (depotlaw12_messages.calls k true _ ⟨rfl⟩ ⟨HT.out.below HB_13.out⟩ HM.out).mono ?_; rintro e w14 ⟨rfl, hb⟩; have HB_14 := Aside0.mk (below_step HB_13.out hb); clear HB_13 hb))
    go_ret
    exact ⟨rfl, HB_14.out⟩
  rw [if_neg hf] at h
  have HM := Aside0.mk h
  have hf1 : (f == 0) = false := beq_false_of_ne hf
  clear h hf
  go_wp2_with (first | (go_at_call 23; refine (message_CheckReply.calls k a1_0 a1_1 a1_2 A1_3 c1_3 l1_3 a1_4 f _ ⟨HT.out.below HB_3.out⟩ (Kd.C_below HRs.out HB_3.out) hc1_3 HC.out).mono ?_; rintro e w4 ⟨rfl, hb⟩; have HB_4 := Aside0.mk (below_step HB_3.out hb); have HXr_4 := Aside0.mk (blk_below HXr_3.out hb); have HXs_4 := Aside0.mk (blk_below HXs_3.out hb); clear HB_3 HXr_3 HXs_3 hb; clear cr0 cr1 cr2 cr3 cr4 cs0 cs1 cs2 cs3 cs4; obtain ⟨cr0, cr1, cr2, cr3, cr4⟩ := cells5z HXr_4.out; obtain ⟨cs0, cs1, cs2, cs3, cs4⟩ := cells5z HXs_4.out; clear HC) | (go_at_call 8; refine (depotlaw12_messages.calls k true _ ⟨rfl⟩ ⟨HT.out.below HB_4.out⟩ HM.out).mono ?_; rintro e w5 ⟨rfl, hb⟩; have HB_5 := Aside0.mk (below_step HB_4.out hb); clear HB_4 HXr_4 HXs_4 hb; clear cr0 cr1 cr2 cr3 cr4 cs0 cs1 cs2 cs3 cs4))
  go_ret
  exact ⟨rfl, HB_5.out⟩

end Go.Proofs.YtjaklgikfcahdaaGreatDoor.PB
