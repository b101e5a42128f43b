-- Out of the translation, by a program of this session: each function that a law comes to as a Lean function, and that the machine's call does what it says. Lean checks it.
import Derived.Test.YtjaklgikfcahdaaGreatDoorPB0
import Derived.Test.YtjaklgikfcahdaaGreatDoorPB11
import Derived.Test.YtjaklgikfcahdaaGreatDoorPB13
import Derived.Test.YtjaklgikfcahdaaGreatDoorPB16
import Derived.Test.YtjaklgikfcahdaaGreatDoorPB17
import Derived.Test.YtjaklgikfcahdaaGreatDoorPB18
import Derived.Test.YtjaklgikfcahdaaGreatDoorPB19
import Derived.Test.YtjaklgikfcahdaaGreatDoorPB20
import Derived.Test.YtjaklgikfcahdaaGreatDoorPB21
namespace Go.Proofs.YtjaklgikfcahdaaGreatDoor.PB
open Go.RowKit Go.Proofs.YtjaklgikfcahdaaGreatDoorW.PrintWords Go.Proofs.YtjaklgikfcahdaaGreatDoorW.PrintLast Go.Proofs.YtjaklgikfcahdaaGreatDoorW.PrintMore
attribute [local go_sem] max2_int min2_int max_two min_two max_three min_three max_four min_four   -- for this text's walks alone
set_option linter.unusedVariables false
set_option linter.unusedSimpArgs false

/-! ### depotlaw12_MessageAgain: function 7: told by hand -/
def depotlaw12_MessageAgain.f (k : Nat) (a0 : ByteArray) : Option Bool := if 5000 < a0.size then depotlaw12_messages.f k else
  (message_ParseRequest.f k a0).bind fun r => (message_ParseReply.f k a0 (⟨#[71, 69, 84]⟩ : ByteArray)).bind fun s => if r.2.2.2.2.2 = 0 then (if s.2.2.2.2.2 = 0 then some false else ((message_CheckRequest.f k r.1 r.2.1 r.2.2.1 r.2.2.2.1 r.2.2.2.2.1).bind fun f => (message_PrintRequest.f k r.1 r.2.1 r.2.2.1 r.2.2.2.1 r.2.2.2.2.1).bind fun p => (message_ParseRequest.f k p).bind fun a => if f = 0 then (if a.2.2.2.2.2 = 0 then ((depotref12_SameRequest.f k a.1 a.2.1 a.2.2.1 a.2.2.2.1 a.2.2.2.2.1 r.1 r.2.1 r.2.2.1 r.2.2.2.1 r.2.2.2.2.1).bind fun t => if t = true then depotlaw12_messages.f k else some false) else some false) else if f = 4 then depotlaw12_messages.f k else some false)) else if s.2.2.2.2.2 = 0 then ((message_CheckReply.f k s.1 s.2.1 s.2.2.1 s.2.2.2.1 s.2.2.2.2.1).bind fun f => (message_PrintReply.f k s.1 s.2.1 s.2.2.1 s.2.2.2.1 s.2.2.2.2.1 false).bind fun p => (message_ParseReply.f k p (⟨#[71, 69, 84]⟩ : ByteArray)).bind fun a => if f = 0 then (if a.2.2.2.2.2 = 0 then ((depotref12_SameReply.f k a.1 a.2.1 a.2.2.1 a.2.2.2.1 a.2.2.2.2.1 s.1 s.2.1 s.2.2.1 s.2.2.2.1 s.2.2.2.2.1).bind fun t => if t = true then depotlaw12_messages.f k else some false) else some false) else if f = 4 then depotlaw12_messages.f k else some false) else depotlaw12_messages.f k
set_option maxHeartbeats 3200000 in
set_option maxRecDepth 100000 in
theorem depotlaw12_MessageAgain.calls (k : Nat) (a0 : ByteArray) (r : Bool) (w : World) (HTRUE : Aside0 (r = true)) (HT : Aside0 (Hand.Laid w)) (h : depotlaw12_MessageAgain.f k a0 = some r) :
    Calls Tryz.prog 7 #[.string a0] w fun e w' => e = .returned (.bool r) ∧ Below w.heap.size w w' := by
  obtain rfl := HTRUE.out
  unfold depotlaw12_MessageAgain.f at h
  have HB_0 := Aside0.mk (Below.refl w.heap.size w)
  by_cases h0 : 5000 < a0.size
  · rw [if_pos h0] at h
    have HM := Aside0.mk h
    have c1 : decide (5000 < (a0.size : Int)) = true := decide_eq_true (by omega)
    have c2 : decide (5000 < a0.size) = true := decide_eq_true h0
    clear h h0
    go_enter Tryz.func7, Tryz.ntmps7
    go_wp2_with (first | (go_at_call 8; refine (depotlaw12_messages.calls k true _ ⟨rfl⟩ ⟨HT.out.below HB_0.out⟩ HM.out).mono ?_; rintro e w1 ⟨rfl, hb⟩; have HB_1 := Aside0.mk (below_step HB_0.out hb); clear HB_0 hb))
    go_ret
    exact ⟨rfl, HB_1.out⟩
  rw [if_neg h0] at h
  have c1 : decide (5000 < (a0.size : Int)) = false := decide_eq_false (by omega)
  have c2 : decide (5000 < a0.size) = false := decide_eq_false h0
  clear h0
  replace h := Option.bind_eq_some_iff.1 h
  obtain ⟨⟨r1, r2, r3, r4, r5, r6⟩, hr, h⟩ := h
  have HR := Aside0.mk hr
  clear hr
  replace h := Option.bind_eq_some_iff.1 h
  obtain ⟨⟨s1, s2, s3, s4, s5, s6⟩, hs, h⟩ := h
  have HS := Aside0.mk hs
  clear hs
  simp only at h
  have HH := Aside0.mk h
  clear h
  go_enter Tryz.func7, Tryz.ntmps7
  go_upto_region 4 with (go_at_call 9; refine (message_ParseRequest.calls k a0 r1 r2 r3 r4 r5 r6 _ ⟨HT.out.below HB_0.out⟩ HR.out).mono ?_; rintro e w1 ⟨v, rfl, hv, hb⟩; obtain ⟨Ar, cr, rfl, hlr, hC⟩ := Kd.R_reads hv; have HB_1 := Aside0.mk (below_step HB_0.out hb); have HKr_1 := Aside0.mk (hC); clear HB_0 hb; clear hv hC HR)
  have hb := Hand.alloc_below w1 (.cells #[.string r1, .string r2, .int .i64 r3, .slice Ar r4.length cr, .string r5] 25)
  have HB_2 := Aside0.mk (below_step HB_1.out hb)
  have HKr_2 := Aside0.mk (Kd.C_below HKr_1.out hb)
  have HXr_2 := Aside0.mk (blk_new w1 (.cells #[.string r1, .string r2, .int .i64 r3, .slice Ar r4.length cr, .string r5] 25))
  clear HB_1 HKr_1 hb
  generalize w1.alloc (.cells #[.string r1, .string r2, .int .i64 r3, .slice Ar r4.length cr, .string r5] 25) = w2 at HB_2 HKr_2 HXr_2 ⊢
  generalize w1.heap.size = br at HXr_2 ⊢
  obtain ⟨cr0, cr1, cr2, cr3, cr4⟩ := cells5z HXr_2.out
  have h := HH.out
  clear HH
  by_cases hr6 : r6 = 0
  · subst hr6
    rw [if_pos rfl] at h
    split at h
    case isTrue => cases h
    case isFalse hs6 =>
    have e1 : (s6 == 0) = false := beq_false_of_ne hs6
    have e2 : (s6 != 0) = true := bne_iff_ne.2 hs6
    clear hs6
    replace h := Option.bind_eq_some_iff.1 h
    obtain ⟨f, hf, h⟩ := h
    have HF := Aside0.mk hf
    clear hf
    replace h := Option.bind_eq_some_iff.1 h
    obtain ⟨p, hp, h⟩ := h
    have HP := Aside0.mk hp
    clear hp
    replace h := Option.bind_eq_some_iff.1 h
    obtain ⟨⟨a1, a2, a3, a4, a5, a6⟩, ha, h⟩ := h
    have HA := Aside0.mk ha
    clear ha
    simp only at h
    by_cases hf0 : f = 0
    · subst hf0
      rw [if_pos rfl] at h
      split at h
      case isFalse => cases h
      case isTrue h6 =>
      subst h6
      replace h := Option.bind_eq_some_iff.1 h
      obtain ⟨t, ht, h⟩ := h
      have HE := Aside0.mk ht
      clear ht
      split at h
      case isFalse => cases h
      case isTrue h7 =>
      subst h7
      have HM := Aside0.mk h
      clear h
      go_upto_region 6 with (go_at_call 21; refine (message_CheckRequest.calls k r1 r2 r3 Ar cr r4 r5 0 _ ⟨HT.out.below HB_2.out⟩ HKr_2.out hlr HF.out).mono ?_; rintro e w3 ⟨rfl, hb⟩; have HB_3 := Aside0.mk (below_step HB_2.out hb); have HKr_3 := Aside0.mk (Kd.C_below HKr_2.out hb); have HXr_3 := Aside0.mk (blk_below HXr_2.out hb); clear HB_2 HKr_2 HXr_2 hb; clear cr0 cr1 cr2 cr3 cr4; obtain ⟨cr0, cr1, cr2, cr3, cr4⟩ := cells5z HXr_3.out; clear HF)
      go_upto_region 7 with (first | (go_at_call 17; refine (message_PrintRequest.calls k r1 r2 r3 Ar cr r4 r5 p _ ⟨HT.out.below HB_3.out⟩ HKr_3.out hlr HP.out).mono ?_; rintro e w4 ⟨rfl, hb⟩; have HB_4 := Aside0.mk (below_step HB_3.out hb); have HKr_4 := Aside0.mk (Kd.C_below HKr_3.out hb); have HXr_4 := Aside0.mk (blk_below HXr_3.out hb); clear HB_3 HKr_3 HXr_3 hb; clear cr0 cr1 cr2 cr3 cr4; obtain ⟨cr0, cr1, cr2, cr3, cr4⟩ := cells5z HXr_4.out; clear HP) | (go_at_call 9; refine (message_ParseRequest.calls k p a1 a2 a3 a4 a5 0 _ ⟨HT.out.below HB_4.out⟩ HA.out).mono ?_; rintro e w5 ⟨v, rfl, hv, hb⟩; obtain ⟨Aa, ca, rfl, hla, hC⟩ := Kd.R_reads hv; have HB_5 := Aside0.mk (below_step HB_4.out hb); have HKr_5 := Aside0.mk (Kd.C_below HKr_4.out hb); have HXr_5 := Aside0.mk (blk_below HXr_4.out hb); have HKa_5 := Aside0.mk (hC); clear HB_4 HKr_4 HXr_4 hb; clear cr0 cr1 cr2 cr3 cr4; obtain ⟨cr0, cr1, cr2, cr3, cr4⟩ := cells5z HXr_5.out; clear hv hC HA))
      have hb := Hand.alloc_below w5 (.cells #[.string a1, .string a2, .int .i64 a3, .slice Aa a4.length ca, .string a5] 25)
      have HB_6 := Aside0.mk (below_step HB_5.out hb)
      have HKr_6 := Aside0.mk (Kd.C_below HKr_5.out hb)
      have HXr_6 := Aside0.mk (blk_below HXr_5.out hb)
      have HKa_6 := Aside0.mk (Kd.C_below HKa_5.out hb)
      have HXa_6 := Aside0.mk (blk_new w5 (.cells #[.string a1, .string a2, .int .i64 a3, .slice Aa a4.length ca, .string a5] 25))
      clear HB_5 HKr_5 HXr_5 HKa_5 hb
      generalize w5.alloc (.cells #[.string a1, .string a2, .int .i64 a3, .slice Aa a4.length ca, .string a5] 25) = w6 at HB_6 HKr_6 HXr_6 HKa_6 HXa_6 ⊢
      generalize w5.heap.size = ba at HXa_6 ⊢
      clear cr0 cr1 cr2 cr3 cr4
      obtain ⟨cr0, cr1, cr2, cr3, cr4⟩ := cells5z HXr_6.out
      obtain ⟨ca0, ca1, ca2, ca3, ca4⟩ := cells5z HXa_6.out
      go_upto_region 9 with (go_at_call 11; refine (depotref12_SameRequest.calls k a1 a2 a3 Aa ca a4 a5 r1 r2 r3 Ar cr r4 r5 true _ HKa_6.out hla HKr_6.out hlr HE.out).mono ?_; rintro e w7 ⟨rfl, hb⟩; have HB_7 := Aside0.mk (below_step HB_6.out hb); clear HB_6 HKr_6 HXr_6 HKa_6 HXa_6 hb; clear cr0 cr1 cr2 cr3 cr4 ca0 ca1 ca2 ca3 ca4; clear HE)
      go_upto_region 10 with (go_at_call 12; refine (message_ParseReply.calls k a0 (⟨#[71, 69, 84]⟩ : ByteArray) s1 s2 s3 s4 s5 s6 _ ⟨HT.out.below HB_7.out⟩ HS.out).mono ?_; rintro e w8 ⟨v, rfl, hv, hb⟩; obtain ⟨As, cs, rfl, hls, hC⟩ := Kd.R_reads hv; have HB_8 := Aside0.mk (below_step HB_7.out hb); have HKs_8 := Aside0.mk (hC); clear HB_7 hb; clear hv hC HS)
      have hb := Hand.alloc_below w8 (.cells #[.int .i64 s1, .string s2, .int .i64 s3, .slice As s4.length cs, .string s5] 34)
      have HB_9 := Aside0.mk (below_step HB_8.out hb)
      have HKs_9 := Aside0.mk (Kd.C_below HKs_8.out hb)
      have HXs_9 := Aside0.mk (blk_new w8 (.cells #[.int .i64 s1, .string s2, .int .i64 s3, .slice As s4.length cs, .string s5] 34))
      clear HB_8 HKs_8 hb
      generalize w8.alloc (.cells #[.int .i64 s1, .string s2, .int .i64 s3, .slice As s4.length cs, .string s5] 34) = w9 at HB_9 HKs_9 HXs_9 ⊢
      generalize w8.heap.size = bs at HXs_9 ⊢
      obtain ⟨cs0, cs1, cs2, cs3, cs4⟩ := cells5z HXs_9.out
      go_wp2_with (first | (go_at_call 8; refine (depotlaw12_messages.calls k true _ ⟨rfl⟩ ⟨HT.out.below HB_9.out⟩ HM.out).mono ?_; rintro e w10 ⟨rfl, hb⟩; have HB_10 := Aside0.mk (below_step HB_9.out hb); clear HB_9 HKs_9 HXs_9 hb; clear cs0 cs1 cs2 cs3 cs4))
      go_ret
      exact ⟨rfl, HB_10.out⟩
    rw [if_neg hf0] at h
    split at h
    case isFalse => cases h
    case isTrue h6 =>
    subst h6
    have HM := Aside0.mk h
    clear h hf0
    go_upto_region 6 with (go_at_call 21; refine (message_CheckRequest.calls k r1 r2 r3 Ar cr r4 r5 4 _ ⟨HT.out.below HB_2.out⟩ HKr_2.out hlr HF.out).mono ?_; rintro e w3 ⟨rfl, hb⟩; have HB_3 := Aside0.mk (below_step HB_2.out hb); have HKr_3 := Aside0.mk (Kd.C_below HKr_2.out hb); have HXr_3 := Aside0.mk (blk_below HXr_2.out hb); clear HB_2 HKr_2 HXr_2 hb; clear cr0 cr1 cr2 cr3 cr4; obtain ⟨cr0, cr1, cr2, cr3, cr4⟩ := cells5z HXr_3.out; clear HF)
    go_upto_region 7 with (first | (go_at_call 17; refine (message_PrintRequest.calls k r1 r2 r3 Ar cr r4 r5 p _ ⟨HT.out.below HB_3.out⟩ HKr_3.out hlr HP.out).mono ?_; rintro e w4 ⟨rfl, hb⟩; have HB_4 := Aside0.mk (below_step HB_3.out hb); have HKr_4 := Aside0.mk (Kd.C_below HKr_3.out hb); have HXr_4 := Aside0.mk (blk_below HXr_3.out hb); clear HB_3 HKr_3 HXr_3 hb; clear cr0 cr1 cr2 cr3 cr4; obtain ⟨cr0, cr1, cr2, cr3, cr4⟩ := cells5z HXr_4.out; clear HP) | (go_at_call 9; refine (message_ParseRequest.calls k p a1 a2 a3 a4 a5 a6 _ ⟨HT.out.below HB_4.out⟩ HA.out).mono ?_; rintro e w5 ⟨v, rfl, hv, hb⟩; obtain ⟨Aa, ca, rfl, hla, hC⟩ := Kd.R_reads hv; have HB_5 := Aside0.mk (below_step HB_4.out hb); have HKr_5 := Aside0.mk (Kd.C_below HKr_4.out hb); have HXr_5 := Aside0.mk (blk_below HXr_4.out hb); have HKa_5 := Aside0.mk (hC); clear HB_4 HKr_4 HXr_4 hb; clear cr0 cr1 cr2 cr3 cr4; obtain ⟨cr0, cr1, cr2, cr3, cr4⟩ := cells5z HXr_5.out; clear hv hC HA))
    have hb := Hand.alloc_below w5 (.cells #[.string a1, .string a2, .int .i64 a3, .slice Aa a4.length ca, .string a5] 25)
    have HB_6 := Aside0.mk (below_step HB_5.out hb)
    have HKr_6 := Aside0.mk (Kd.C_below HKr_5.out hb)
    have HXr_6 := Aside0.mk (blk_below HXr_5.out hb)
    have HKa_6 := Aside0.mk (Kd.C_below HKa_5.out hb)
    have HXa_6 := Aside0.mk (blk_new w5 (.cells #[.string a1, .string a2, .int .i64 a3, .slice Aa a4.length ca, .string a5] 25))
    clear HB_5 HKr_5 HXr_5 HKa_5 hb
    generalize w5.alloc (.cells #[.string a1, .string a2, .int .i64 a3, .slice Aa a4.length ca, .string a5] 25) = w6 at HB_6 HKr_6 HXr_6 HKa_6 HXa_6 ⊢
    generalize w5.heap.size = ba at HXa_6 ⊢
    clear cr0 cr1 cr2 cr3 cr4
    obtain ⟨cr0, cr1, cr2, cr3, cr4⟩ := cells5z HXr_6.out
    obtain ⟨ca0, ca1, ca2, ca3, ca4⟩ := cells5z HXa_6.out
    clear HXa_6
    clear HKa_6
    clear HXr_6
    clear HKr_6
    clear cr0 cr1 cr2 cr3 cr4 ca0 ca1 ca2 ca3 ca4
    go_upto_region 10 with (go_at_call 12; refine (message_ParseReply.calls k a0 (⟨#[71, 69, 84]⟩ : ByteArray) s1 s2 s3 s4 s5 s6 _ ⟨HT.out.below HB_6.out⟩ HS.out).mono ?_; rintro e w7 ⟨v, rfl, hv, hb⟩; obtain ⟨As, cs, rfl, hls, hC⟩ := Kd.R_reads hv; have HB_7 := Aside0.mk (below_step HB_6.out hb); have HKs_7 := Aside0.mk (hC); clear HB_6 hb; clear hv hC HS)
    have hb := Hand.alloc_below w7 (.cells #[.int .i64 s1, .string s2, .int .i64 s3, .slice As s4.length cs, .string s5] 34)
    have HB_8 := Aside0.mk (below_step HB_7.out hb)
    have HKs_8 := Aside0.mk (Kd.C_below HKs_7.out hb)
    have HXs_8 := Aside0.mk (blk_new w7 (.cells #[.int .i64 s1, .string s2, .int .i64 s3, .slice As s4.length cs, .string s5] 34))
    clear HB_7 HKs_7 hb
    generalize w7.alloc (.cells #[.int .i64 s1, .string s2, .int .i64 s3, .slice As s4.length cs, .string s5] 34) = w8 at HB_8 HKs_8 HXs_8 ⊢
    generalize w7.heap.size = bs at HXs_8 ⊢
    obtain ⟨cs0, cs1, cs2, cs3, cs4⟩ := cells5z HXs_8.out
    go_wp2_with (first | (go_at_call 8; refine (depotlaw12_messages.calls k true _ ⟨rfl⟩ ⟨HT.out.below HB_8.out⟩ HM.out).mono ?_; rintro e w9 ⟨rfl, hb⟩; have HB_9 := Aside0.mk (below_step HB_8.out hb); clear HB_8 HKs_8 HXs_8 hb; clear cs0 cs1 cs2 cs3 cs4))
    go_ret
    exact ⟨rfl, HB_9.out⟩
  rw [if_neg hr6] at h
  have e1 : (r6 == 0) = false := beq_false_of_ne hr6
  have e2 : (r6 != 0) = true := bne_iff_ne.2 hr6
  clear hr6 HXr_2 HKr_2 cr0 cr1 cr2 cr3 cr4
  by_cases hs6 : s6 = 0
  · subst hs6
    rw [if_pos rfl] at h
    have HH := Aside0.mk h
    clear h
    go_upto_region 10 with (go_at_call 12; refine (message_ParseReply.calls k a0 (⟨#[71, 69, 84]⟩ : ByteArray) s1 s2 s3 s4 s5 0 _ ⟨HT.out.below HB_2.out⟩ HS.out).mono ?_; rintro e w3 ⟨v, rfl, hv, hb⟩; obtain ⟨As, cs, rfl, hls, hC⟩ := Kd.R_reads hv; have HB_3 := Aside0.mk (below_step HB_2.out hb); have HKs_3 := Aside0.mk (hC); clear HB_2 hb; clear hv hC HS)
    have hb := Hand.alloc_below w3 (.cells #[.int .i64 s1, .string s2, .int .i64 s3, .slice As s4.length cs, .string s5] 34)
    have HB_4 := Aside0.mk (below_step HB_3.out hb)
    have HKs_4 := Aside0.mk (Kd.C_below HKs_3.out hb)
    have HXs_4 := Aside0.mk (blk_new w3 (.cells #[.int .i64 s1, .string s2, .int .i64 s3, .slice As s4.length cs, .string s5] 34))
    clear HB_3 HKs_3 hb
    generalize w3.alloc (.cells #[.int .i64 s1, .string s2, .int .i64 s3, .slice As s4.length cs, .string s5] 34) = w4 at HB_4 HKs_4 HXs_4 ⊢
    generalize w3.heap.size = bs at HXs_4 ⊢
    obtain ⟨cs0, cs1, cs2, cs3, cs4⟩ := cells5z HXs_4.out
    have h := HH.out
    clear HH
    replace h := Option.bind_eq_some_iff.1 h
    obtain ⟨f, hf, h⟩ := h
    have HF := Aside0.mk hf
    clear hf
    replace h := Option.bind_eq_some_iff.1 h
    obtain ⟨p, hp, h⟩ := h
    have HP := Aside0.mk hp
    clear hp
    replace h := Option.bind_eq_some_iff.1 h
    obtain ⟨⟨a1, a2, a3, a4, a5, a6⟩, ha, h⟩ := h
    have HA := Aside0.mk ha
    clear ha
    simp only at h
    by_cases hf0 : f = 0
    · subst hf0
      rw [if_pos rfl] at h
      split at h
      case isFalse => cases h
      case isTrue h6 =>
      subst h6
      replace h := Option.bind_eq_some_iff.1 h
      obtain ⟨t, ht, h⟩ := h
      have HE := Aside0.mk ht
      clear ht
      split at h
      case isFalse => cases h
      case isTrue h7 =>
      subst h7
      have HM := Aside0.mk h
      clear h
      go_upto_region 12 with (go_at_call 23; refine (message_CheckReply.calls k s1 s2 s3 As cs s4 s5 0 _ ⟨HT.out.below HB_4.out⟩ HKs_4.out hls HF.out).mono ?_; rintro e w5 ⟨rfl, hb⟩; have HB_5 := Aside0.mk (below_step HB_4.out hb); have HKs_5 := Aside0.mk (Kd.C_below HKs_4.out hb); have HXs_5 := Aside0.mk (blk_below HXs_4.out hb); clear HB_4 HKs_4 HXs_4 hb; clear cs0 cs1 cs2 cs3 cs4; obtain ⟨cs0, cs1, cs2, cs3, cs4⟩ := cells5z HXs_5.out; clear HF)
      go_upto_region 13 with (first | (go_at_call 19; refine (message_PrintReply.calls k s1 s2 s3 As cs s4 s5 false p _ ⟨HT.out.below HB_5.out⟩ HKs_5.out hls HP.out).mono ?_; rintro e w6 ⟨rfl, hb⟩; have HB_6 := Aside0.mk (below_step HB_5.out hb); have HKs_6 := Aside0.mk (Kd.C_below HKs_5.out hb); have HXs_6 := Aside0.mk (blk_below HXs_5.out hb); clear HB_5 HKs_5 HXs_5 hb; clear cs0 cs1 cs2 cs3 cs4; obtain ⟨cs0, cs1, cs2, cs3, cs4⟩ := cells5z HXs_6.out; clear HP) | (go_at_call 12; refine (message_ParseReply.calls k p (⟨#[71, 69, 84]⟩ : ByteArray) a1 a2 a3 a4 a5 0 _ ⟨HT.out.below HB_6.out⟩ HA.out).mono ?_; rintro e w7 ⟨v, rfl, hv, hb⟩; obtain ⟨Aa, ca, rfl, hla, hC⟩ := Kd.R_reads hv; have HB_7 := Aside0.mk (below_step HB_6.out hb); have HKs_7 := Aside0.mk (Kd.C_below HKs_6.out hb); have HXs_7 := Aside0.mk (blk_below HXs_6.out hb); have HKa_7 := Aside0.mk (hC); clear HB_6 HKs_6 HXs_6 hb; clear cs0 cs1 cs2 cs3 cs4; obtain ⟨cs0, cs1, cs2, cs3, cs4⟩ := cells5z HXs_7.out; clear hv hC HA))
      have hb := Hand.alloc_below w7 (.cells #[.int .i64 a1, .string a2, .int .i64 a3, .slice Aa a4.length ca, .string a5] 34)
      have HB_8 := Aside0.mk (below_step HB_7.out hb)
      have HKs_8 := Aside0.mk (Kd.C_below HKs_7.out hb)
      have HXs_8 := Aside0.mk (blk_below HXs_7.out hb)
      have HKa_8 := Aside0.mk (Kd.C_below HKa_7.out hb)
      have HXa_8 := Aside0.mk (blk_new w7 (.cells #[.int .i64 a1, .string a2, .int .i64 a3, .slice Aa a4.length ca, .string a5] 34))
      clear HB_7 HKs_7 HXs_7 HKa_7 hb
      generalize w7.alloc (.cells #[.int .i64 a1, .string a2, .int .i64 a3, .slice Aa a4.length ca, .string a5] 34) = w8 at HB_8 HKs_8 HXs_8 HKa_8 HXa_8 ⊢
      generalize w7.heap.size = ba at HXa_8 ⊢
      clear cs0 cs1 cs2 cs3 cs4
      obtain ⟨cs0, cs1, cs2, cs3, cs4⟩ := cells5z HXs_8.out
      obtain ⟨ca0, ca1, ca2, ca3, ca4⟩ := cells5z HXa_8.out
      go_wp2_with (first | (go_at_call 14; refine (depotref12_SameReply.calls k a1 a2 a3 Aa ca a4 a5 s1 s2 s3 As cs s4 s5 true _ HKa_8.out hla HKs_8.out hls HE.out).mono ?_; rintro e w9 ⟨rfl, hb⟩; have HB_9 := Aside0.mk (below_step HB_8.out hb); clear HB_8 HKs_8 HXs_8 HKa_8 HXa_8 hb; clear cs0 cs1 cs2 cs3 cs4 ca0 ca1 ca2 ca3 ca4; clear HE) | (go_at_call 8; refine (depotlaw12_messages.calls k true _ ⟨rfl⟩ ⟨HT.out.below HB_9.out⟩ HM.out).mono ?_; rintro e w10 ⟨rfl, hb⟩; have HB_10 := Aside0.mk (below_step HB_9.out hb); clear HB_9 hb))
      go_ret
      exact ⟨rfl, HB_10.out⟩
    rw [if_neg hf0] at h
    split at h
    case isFalse => cases h
    case isTrue h6 =>
    subst h6
    have HM := Aside0.mk h
    clear h hf0
    go_upto_region 12 with (go_at_call 23; refine (message_CheckReply.calls k s1 s2 s3 As cs s4 s5 4 _ ⟨HT.out.below HB_4.out⟩ HKs_4.out hls HF.out).mono ?_; rintro e w5 ⟨rfl, hb⟩; have HB_5 := Aside0.mk (below_step HB_4.out hb); have HKs_5 := Aside0.mk (Kd.C_below HKs_4.out hb); have HXs_5 := Aside0.mk (blk_below HXs_4.out hb); clear HB_4 HKs_4 HXs_4 hb; clear cs0 cs1 cs2 cs3 cs4; obtain ⟨cs0, cs1, cs2, cs3, cs4⟩ := cells5z HXs_5.out; clear HF)
    go_upto_region 13 with (first | (go_at_call 19; refine (message_PrintReply.calls k s1 s2 s3 As cs s4 s5 false p _ ⟨HT.out.below HB_5.out⟩ HKs_5.out hls HP.out).mono ?_; rintro e w6 ⟨rfl, hb⟩; have HB_6 := Aside0.mk (below_step HB_5.out hb); have HKs_6 := Aside0.mk (Kd.C_below HKs_5.out hb); have HXs_6 := Aside0.mk (blk_below HXs_5.out hb); clear HB_5 HKs_5 HXs_5 hb; clear cs0 cs1 cs2 cs3 cs4; obtain ⟨cs0, cs1, cs2, cs3, cs4⟩ := cells5z HXs_6.out; clear HP) | (go_at_call 12; refine (message_ParseReply.calls k p (⟨#[71, 69, 84]⟩ : ByteArray) a1 a2 a3 a4 a5 a6 _ ⟨HT.out.below HB_6.out⟩ HA.out).mono ?_; rintro e w7 ⟨v, rfl, hv, hb⟩; obtain ⟨Aa, ca, rfl, hla, hC⟩ := Kd.R_reads hv; have HB_7 := Aside0.mk (below_step HB_6.out hb); have HKs_7 := Aside0.mk (Kd.C_below HKs_6.out hb); have HXs_7 := Aside0.mk (blk_below HXs_6.out hb); have HKa_7 := Aside0.mk (hC); clear HB_6 HKs_6 HXs_6 hb; clear cs0 cs1 cs2 cs3 cs4; obtain ⟨cs0, cs1, cs2, cs3, cs4⟩ := cells5z HXs_7.out; clear hv hC HA))
    have hb := Hand.alloc_below w7 (.cells #[.int .i64 a1, .string a2, .int .i64 a3, .slice Aa a4.length ca, .string a5] 34)
    have HB_8 := Aside0.mk (below_step HB_7.out hb)
    have HKs_8 := Aside0.mk (Kd.C_below HKs_7.out hb)
    have HXs_8 := Aside0.mk (blk_below HXs_7.out hb)
    have HKa_8 := Aside0.mk (Kd.C_below HKa_7.out hb)
    have HXa_8 := Aside0.mk (blk_new w7 (.cells #[.int .i64 a1, .string a2, .int .i64 a3, .slice Aa a4.length ca, .string a5] 34))
    clear HB_7 HKs_7 HXs_7 HKa_7 hb
    generalize w7.alloc (.cells #[.int .i64 a1, .string a2, .int .i64 a3, .slice Aa a4.length ca, .string a5] 34) = w8 at HB_8 HKs_8 HXs_8 HKa_8 HXa_8 ⊢
    generalize w7.heap.size = ba at HXa_8 ⊢
    clear cs0 cs1 cs2 cs3 cs4
    obtain ⟨cs0, cs1, cs2, cs3, cs4⟩ := cells5z HXs_8.out
    obtain ⟨ca0, ca1, ca2, ca3, ca4⟩ := cells5z HXa_8.out
    go_wp2_with (first | (go_at_call 8; refine (depotlaw12_messages.calls k true _ ⟨rfl⟩ ⟨HT.out.below HB_8.out⟩ HM.out).mono ?_; rintro e w9 ⟨rfl, hb⟩; have HB_9 := Aside0.mk (below_step HB_8.out hb); clear HB_8 HKs_8 HXs_8 HKa_8 HXa_8 hb; clear cs0 cs1 cs2 cs3 cs4 ca0 ca1 ca2 ca3 ca4))
    go_ret
    exact ⟨rfl, HB_9.out⟩
  rw [if_neg hs6] at h
  have e3 : (s6 == 0) = false := beq_false_of_ne hs6
  have e4 : (s6 != 0) = true := bne_iff_ne.2 hs6
  have HM := Aside0.mk h
  clear h hs6
  go_upto_region 10 with (go_at_call 12; refine (message_ParseReply.calls k a0 (⟨#[71, 69, 84]⟩ : ByteArray) s1 s2 s3 s4 s5 s6 _ ⟨HT.out.below HB_2.out⟩ HS.out).mono ?_; rintro e w3 ⟨v, rfl, hv, hb⟩; obtain ⟨As, cs, rfl, hls, hC⟩ := Kd.R_reads hv; have HB_3 := Aside0.mk (below_step HB_2.out hb); have HKs_3 := Aside0.mk (hC); clear HB_2 hb; clear hv hC HS)
  have hb := Hand.alloc_below w3 (.cells #[.int .i64 s1, .string s2, .int .i64 s3, .slice As s4.length cs, .string s5] 34)
  have HB_4 := Aside0.mk (below_step HB_3.out hb)
  have HKs_4 := Aside0.mk (Kd.C_below HKs_3.out hb)
  have HXs_4 := Aside0.mk (blk_new w3 (.cells #[.int .i64 s1, .string s2, .int .i64 s3, .slice As s4.length cs, .string s5] 34))
  clear HB_3 HKs_3 hb
  generalize w3.alloc (.cells #[.int .i64 s1, .string s2, .int .i64 s3, .slice As s4.length cs, .string s5] 34) = w4 at HB_4 HKs_4 HXs_4 ⊢
  generalize w3.heap.size = bs at HXs_4 ⊢
  obtain ⟨cs0, cs1, cs2, cs3, cs4⟩ := cells5z HXs_4.out
  go_wp2_with (first | (go_at_call 8; refine (depotlaw12_messages.calls k true _ ⟨rfl⟩ ⟨HT.out.below HB_4.out⟩ HM.out).mono ?_; rintro e w5 ⟨rfl, hb⟩; have HB_5 := Aside0.mk (below_step HB_4.out hb); clear HB_4 HKs_4 HXs_4 hb; clear cs0 cs1 cs2 cs3 cs4))
  go_ret
  exact ⟨rfl, HB_5.out⟩

end Go.Proofs.YtjaklgikfcahdaaGreatDoor.PB
