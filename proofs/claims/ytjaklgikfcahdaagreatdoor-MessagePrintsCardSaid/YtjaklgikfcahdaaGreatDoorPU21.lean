-- Halved: the indents of this text are half of the print's.
-- Out of the translation, by a program of this session: each function that a law comes to as a Lean function, and that the machine's call does what it says. Lean checks it.
import Derived.Test.YtjaklgikfcahdaaGreatDoorPU0
import Derived.Test.YtjaklgikfcahdaaGreatDoorPU17
import Derived.Test.YtjaklgikfcahdaaGreatDoorPU19
import Derived.Test.YtjaklgikfcahdaaGreatDoorPU20
namespace Go.Proofs.YtjaklgikfcahdaaGreatDoor.PU
open Go.RowKit Go.Proofs.YtjaklgikfcahdaaGreatDoorW.PrintWords Go.Proofs.YtjaklgikfcahdaaGreatDoorW.PrintLast Go.Proofs.YtjaklgikfcahdaaGreatDoorW.PrintMore
attribute [local go_sem] max2_int min2_int max_two min_two max_three min_three max_four min_four   -- for this text's walks alone
set_option linter.unusedVariables false
set_option linter.unusedSimpArgs false

/-! ### depotref09_Check: function 86: told by hand -/
/-- Are all fields fine, one by one? -/
def refChk (k : Nat) : List S98 → Option Bool
 | [] => some true
 | x :: l => (depotref01_IsToken.f k x.f0).bind fun a => if a = true then
   ((depotref01_IsText.f k x.f1).bind fun b => if b = true then
    ((depotref01_Trim.f k x.f1).bind fun t => if (t.toList == x.f1.toList) = true then refChk k l else some false) else some false) else some false
theorem refChk.mono : ∀ l k, LeO (refChk k l) (refChk (k + 1) l)
 | [], k => LeO.refl _
 | x :: l, k => by
  unfold refChk
  exact LeO.bind (depotref01_IsToken.mono _ k) fun _ => LeO.ite (LeO.bind (depotref01_IsText.mono _ k) fun _ => LeO.ite (LeO.bind (depotref01_Trim.mono _ k) fun _ => LeO.ite (refChk.mono l k) (LeO.refl _)) (LeO.refl _)) (LeO.refl _)
/-- Is one of them too long? -/
def refLong (l : List S98) : Bool := l.any fun x => decide (8192 < x.f0.size + x.f1.size + 2)
def depotref09_Check.f (k : Nat) (l0 : List S98) : Option Int := if 64 < l0.length then some 4 else if (∀ x ∈ l0, x.f0.size ≤ 1000000 ∧ x.f1.size ≤ 1000000) then (refChk k l0).bind fun b => some (if b = true then (if refLong l0 = true then 4 else 0) else 21) else none
theorem depotref09_Check.mono : ∀ l0 k, LeO (depotref09_Check.f k l0) (depotref09_Check.f (k + 1) l0) := fun l0 k => by
 unfold depotref09_Check.f
 exact LeO.ite (LeO.refl _) (LeO.ite (LeO.bind (refChk.mono _ k) fun _ => LeO.refl _) (LeO.refl _))
set_option maxHeartbeats 3200000 in
set_option maxRecDepth 100000 in
theorem depotref09_Check.calls (k : Nat) (A0 : Option Addr) (c0 : Nat) (l0 : List S98) (r : Int) (w : World) (hr0 : Kd.C k98 w A0 l0.length l0) (hc0 : l0.length ≤ c0) (h : depotref09_Check.f k l0 = some r) :
  Calls Tryz.prog 86 #[.slice A0 l0.length c0] w fun e w' => e = .returned (.int .i64 r) ∧ Below w.heap.size w w' := by
 unfold depotref09_Check.f at h
 have HR := Aside0.mk hr0
 clear hr0
 by_cases h0 : 64 < l0.length
 ·rw [if_pos h0] at h
  obtain rfl := Option.some.inj h
  have e1 : decide (64 < (l0.length : Int)) = true := decide_eq_true (by omega)
  have e2 : decide (64 < l0.length) = true := decide_eq_true h0
  clear h h0
  go_enter Tryz.func86, Tryz.ntmps86
  go_wp2
  go_ret
  exact ⟨rfl, Below.refl _ _⟩
 rw [if_neg h0] at h
 have e1 : decide (64 < (l0.length : Int)) = false := decide_eq_false (by omega)
 have e2 : decide (64 < l0.length) = false := decide_eq_false h0
 split at h
 case isFalse => cases h
 case isTrue hs =>
 obtain ⟨b, hb, h⟩ := Option.bind_eq_some_iff.1 h
 have HF := Aside0.mk hb
 have HS := Aside0.mk hs
 have HE := Aside0.mk (Option.some.inj h)
 have h64 : l0.length ≤ 64 := Nat.le_of_not_lt h0
 clear h hb hs h0
 go_enter Tryz.func86, Tryz.ntmps86
 go_wp2
 go_loopw [3] (fun v3 wx => ∃ n : Nat, n ≤ l0.length ∧ v3 = .int .i64 n ∧ Aside0 (refChk k (l0.drop n) = some b) ∧ Aside0 (Below w.heap.size w wx)) (fun v3 _ => l0.length - (intOf v3).toNat)
 case atStart => exact ⟨0, Nat.zero_le _, rfl, HF, ⟨Below.refl _ _⟩⟩
 case round =>
  clear HF
  obtain ⟨n, hn, rfl, HF, HB⟩ := hrel
  by_cases hlt : n < l0.length
  ·obtain ⟨ad, e0, hx0, hx1⟩ := at_T98 HR.out n (by omega) (by omega)
   cases e0
   replace hx0 := (HB.out.cell (World.block_lt_of_cell? w _ hx0)).trans hx0
   replace hx1 := (HB.out.cell (World.block_lt_of_cell? w _ hx1)).trans hx1
   rw [Int.toNat_natCast] at hx0 hx1
   have rdn : rd_T98 l0 n = l0[n] := by show l0.getD n _ = _; rw [List.getD_eq_getElem?_getD, List.getElem?_eq_getElem hlt]; rfl
   rw [rdn] at hx0 hx1
   have hf := HF.out
   rw [List.drop_eq_getElem_cons hlt, refChk] at hf
   generalize l0[n] = x at hx0 hx1 hf
   clear rdn HF
   obtain ⟨a, ha, hf⟩ := Option.bind_eq_some_iff.1 hf
   have HA := Aside0.mk ha
   clear ha
   go_upto_region 6 with (fail)
   cases a
   ·obtain rfl : false = b := by simpa using hf
    obtain rfl : 21 = r := HE.out
    clear hf
    as_aux_lemma =>
     go_quiet ((go_at_call 68; exact Calls.quiet_of ((depotref01_IsToken.calls k x.f0 false _ HA.out).mono (fun _ _ h => ⟨h.1, h.2.out⟩))))
     go_wp2_with fail
     go_ret
     exact ⟨rfl, pw_below_drewN HB.out _⟩
   rw [if_pos rfl] at hf
   replace hf := Option.bind_eq_some_iff.1 hf
   obtain ⟨a, ha, hf⟩ := hf
   have HI := Aside0.mk ha
   clear ha
   cases a
   ·obtain rfl : false = b := by simpa using hf
    obtain rfl : 21 = r := HE.out
    clear hf
    as_aux_lemma =>
     go_quiet (first | (go_at_call 68; exact Calls.quiet_of ((depotref01_IsToken.calls k x.f0 true _ HA.out).mono (fun _ _ h => ⟨h.1, h.2.out⟩))) | (go_at_call 78; exact Calls.quiet_of ((depotref01_IsText.calls k x.f1 false _ HI.out).mono (fun _ _ h => ⟨h.1, h.2.out⟩))))
     go_wp2_with fail
     go_ret
     exact ⟨rfl, pw_below_drewN HB.out _⟩
   rw [if_pos rfl] at hf
   replace hf := Option.bind_eq_some_iff.1 hf
   obtain ⟨t, ht, hf⟩ := hf
   have HT := Aside0.mk ht
   clear ht
   by_cases h3 : (t.toList == x.f1.toList) = true
   case neg =>
    rw [if_neg h3] at hf
    obtain rfl : false = b := by simpa using hf
    obtain rfl : 21 = r := HE.out
    rw [Bool.not_eq_true] at h3
    have h4 : (t.toList != x.f1.toList) = true := by rw [bne, h3]; rfl
    clear hf
    as_aux_lemma =>
     go_quiet (first | (go_at_call 68; exact Calls.quiet_of ((depotref01_IsToken.calls k x.f0 true _ HA.out).mono (fun _ _ h => ⟨h.1, h.2.out⟩))) | (go_at_call 78; exact Calls.quiet_of ((depotref01_IsText.calls k x.f1 true _ HI.out).mono (fun _ _ h => ⟨h.1, h.2.out⟩))) | (go_at_call 101; exact Calls.quiet_of ((depotref01_Trim.calls k x.f1 t _ HT.out).mono (fun _ _ h => ⟨h.1, h.2.out⟩))))
     go_wp2_with fail
     go_ret
     exact ⟨rfl, pw_below_drewN HB.out _⟩
   rw [if_pos h3] at hf
   have h4 : (t.toList != x.f1.toList) = false := by rw [bne, h3]; rfl
   have HF2 := Aside0.mk hf
   clear hf
   as_aux_lemma =>
    go_quiet (first | (go_at_call 68; exact Calls.quiet_of ((depotref01_IsToken.calls k x.f0 true _ HA.out).mono (fun _ _ h => ⟨h.1, h.2.out⟩))) | (go_at_call 78; exact Calls.quiet_of ((depotref01_IsText.calls k x.f1 true _ HI.out).mono (fun _ _ h => ⟨h.1, h.2.out⟩))) | (go_at_call 101; exact Calls.quiet_of ((depotref01_Trim.calls k x.f1 t _ HT.out).mono (fun _ _ h => ⟨h.1, h.2.out⟩))))
    go_wp2_with fail
    have hw1 : wrap64 ((n : Int) + 1) = ((n + 1 : Nat) : Int) := by unfold wrap64; omega
    refine ⟨⟨n + 1, by omega, by first | rw [hw1] | go_num, HF2, ⟨pw_below_drewN HB.out _⟩⟩, by simp [intOf, hw1] <;> omega⟩
  ·have hf := HF.out
   rw [List.drop_of_length_le (by omega), refChk] at hf
   obtain rfl := Option.some.inj hf
   have HL : Aside0 (refLong (l0.drop 0) = refLong l0) := ⟨by rw [List.drop_zero]⟩
   clear hf HF
   go_wp2
   go_loopw [4] (fun v4 wx => ∃ m : Nat, m ≤ l0.length ∧ v4 = .int .i64 m ∧ Aside0 (refLong (l0.drop m) = refLong l0) ∧ Aside0 (Below w.heap.size w wx)) (fun v4 _ => l0.length - (intOf v4).toNat)
   case atStart => exact ⟨0, Nat.zero_le _, rfl, HL, HB⟩
   case round =>
    clear HL HB
    obtain ⟨m, hm, rfl, HL, HB⟩ := hrel
    by_cases hlt2 : m < l0.length
    ·obtain ⟨ad, e0, hx0, hx1⟩ := at_T98 HR.out m (by omega) (by omega)
     cases e0
     replace hx0 := (HB.out.cell (World.block_lt_of_cell? w _ hx0)).trans hx0
     replace hx1 := (HB.out.cell (World.block_lt_of_cell? w _ hx1)).trans hx1
     rw [Int.toNat_natCast] at hx0 hx1
     have rdn : rd_T98 l0 m = l0[m] := by show l0.getD m _ = _; rw [List.getD_eq_getElem?_getD, List.getElem?_eq_getElem hlt2]; rfl
     rw [rdn] at hx0 hx1
     obtain ⟨z0, z1⟩ := HS.out l0[m] (List.getElem_mem hlt2)
     have hl := HL.out
     rw [List.drop_eq_getElem_cons hlt2] at hl
     unfold refLong at hl
     rw [List.any_cons] at hl
     generalize l0[m] = x at hx0 hx1 hl z0 z1
     clear rdn HL
     have s1 : IntKind.i64.wrap ((x.f0.size : Int) + (x.f1.size : Int)) = (x.f0.size : Int) + (x.f1.size : Int) := by rw [IntKind.wrap_i64]; omega
     have s2 : IntKind.i64.wrap ((x.f0.size : Int) + (x.f1.size : Int) + 2) = (x.f0.size : Int) + (x.f1.size : Int) + 2 := by rw [IntKind.wrap_i64]; omega
     go_upto_region 11 with (fail)
     by_cases c : 8192 < x.f0.size + x.f1.size + 2
     ·have q1 : decide (8192 < (x.f0.size : Int) + (x.f1.size : Int) + 2) = true := decide_eq_true (by omega)
      rw [decide_eq_true c, Bool.true_or] at hl
      have hr := HE.out
      simp only [if_true, show refLong l0 = true from hl.symm] at hr
      subst hr
      clear hl
      as_aux_lemma =>
       go_quiet (fail)
       go_wp2_with fail
       go_ret
       exact ⟨rfl, pw_below_drewN HB.out _⟩
     ·have q1 : decide (8192 < (x.f0.size : Int) + (x.f1.size : Int) + 2) = false := decide_eq_false (by omega)
      rw [decide_eq_false c, Bool.false_or] at hl
      have HL := Aside0.mk hl
      clear hl
      as_aux_lemma =>
       go_quiet (fail)
       go_wp2_with fail
       have hw1 : wrap64 ((m : Int) + 1) = ((m + 1 : Nat) : Int) := by unfold wrap64; omega
       refine ⟨⟨m + 1, by omega, by first | rw [hw1] | go_num, HL, ⟨pw_below_drewN HB.out _⟩⟩, by simp [intOf, hw1] <;> omega⟩
    ·have hl := HL.out
     rw [List.drop_of_length_le (by omega)] at hl
     have hr := HE.out
     simp only [if_true, show refLong l0 = false from hl.symm.trans rfl, Bool.false_eq_true, if_false] at hr
     subst hr
     clear hl
     go_wp2
     go_ret
     exact ⟨rfl, HB.out⟩

/-! ### depotref12_fits: function 54 -/
def depotref12_fits.f (k : Nat) (l0 : List (S98)) : Option (Int) := (depotref09_Check.f k l0).bind fun t259 => (if t259 = 0 then ((depotref12_framing.f).bind fun t260 => ((depotref09_Drop.f k l0 t260).bind fun t263 => (if (t263.length : Int) = (l0.length : Int) then (some 0) else (some 21)))) else (some t259))
theorem depotref12_fits.mono : ∀ a0 k, LeO (depotref12_fits.f k a0) (depotref12_fits.f (k + 1) a0) := by
 intro a0 k
 unfold depotref12_fits.f
 repeat' first
   | (with_reducible exact depotref09_Check.mono _ _)
   | (with_reducible exact depotref09_Drop.mono _ _ _)
   | (with_reducible exact LeO.refl _)
   | (with_reducible exact LeO.none _)
   | (with_reducible refine LeO.ite ?_ ?_)
   | (with_reducible refine LeO.bind ?_ (fun _ => ?_))
   | exact depotref09_Check.mono _ _
   | exact depotref09_Drop.mono _ _ _
   | exact LeO.none _
   | refine LeO.ite ?_ ?_
   | refine LeO.bind ?_ (fun _ => ?_)
set_option maxHeartbeats 8000000 in
set_option maxRecDepth 100000 in
theorem depotref12_fits.calls (k : Nat) (A0 : Option Addr) (c0 : Nat) (l0 : List (S98)) (r : Int) (w : World) (hr0 : Kd.C k98 w A0 l0.length l0) (hc0 : l0.length ≤ c0) (h : depotref12_fits.f k l0 = some r) :
  Calls Tryz.prog 54 #[.slice A0 l0.length c0] w fun e w' => e = .returned (.int .i64 r) ∧ Below w.heap.size w w' := by
 have HR0 := Aside0.mk hr0
 have HC0 := Aside0.mk hc0
 clear hr0 hc0
 have HB := Aside0.mk (Below.refl w.heap.size w)
 have H : ((depotref09_Check.f k l0).bind fun t259 => (if t259 = 0 then ((depotref12_framing.f).bind fun t260 => ((depotref09_Drop.f k l0 t260).bind fun t263 => (if (t263.length : Int) = (l0.length : Int) then (some 0) else (some 21)))) else (some t259))) = some r := h
 clear h
 replace H := Option.bind_eq_some_iff.mp H
 obtain ⟨t259, A20, H⟩ := H
 replace H : (if t259 = 0 then ((depotref12_framing.f).bind fun t260 => ((depotref09_Drop.f k l0 t260).bind fun t263 => (if (t263.length : Int) = (l0.length : Int) then (some 0) else (some 21)))) else (some t259)) = some r := H
 have A2 := Aside0.mk A20
 clear A20
 by_cases c3 : t259 = 0
 ·rw [if_pos c3] at H
  have c3b0 : (t259 == 0) = true := beq_iff_eq.mpr c3
  have c3b1 : (t259 != 0) = false := bne_eq_false_iff_eq.mpr c3
  clear c3
  replace H := Option.bind_eq_some_iff.mp H
  obtain ⟨t260, A40, H⟩ := H
  replace H : ((depotref09_Drop.f k l0 t260).bind fun t263 => (if (t263.length : Int) = (l0.length : Int) then (some 0) else (some 21))) = some r := H
  have A4 := Aside0.mk A40
  clear A40
  replace H := Option.bind_eq_some_iff.mp H
  obtain ⟨t263, A50, H⟩ := H
  replace H : (if (t263.length : Int) = (l0.length : Int) then (some 0) else (some 21)) = some r := H
  have A5 := Aside0.mk A50
  clear A50
  by_cases c6 : (t263.length : Int) = (l0.length : Int)
  ·rw [if_pos c6] at H
   have c6b0 : ((t263.length : Int) == (l0.length : Int)) = true := beq_iff_eq.mpr c6
   have c6b1 : ((t263.length : Int) != (l0.length : Int)) = false := bne_eq_false_iff_eq.mpr c6
   have c6b2 : (t263.length == l0.length) = true := by first | simpa using c6 | (simp at c6 ⊢; omega)
   clear c6
   obtain rfl := Option.some.inj H
   go_enter Tryz.func54, Tryz.ntmps54
   go_wp2_with (first | ((with_reducible refine gate_callee (f := 86) rfl ?_); refine goesL_ (some 5) rfl rfl Tryz.func86 (by kernel_rfl) rfl #[.slice A0 l0.length c0] rfl (by (try simp only [List.map_toArray, List.map_cons, List.map_nil]); first | done | rfl | (simp only [List.length_drop, List.length_take]; rfl)) ?_; (with_reducible refine (depotref09_Check.calls k _ _ l0 t259 _ ?side1 ?side2 A2.out).mono ?_); (case side1 => repeat (first | exact HR0.out | (with_reducible refine Kd.C_alloc ?_ _) | (with_reducible refine Kd.C_drewN ?_ _) | (with_reducible refine Kd.C_drew ?_))); (case side2 => exact HC0.out); rintro e w7 ⟨rfl, hb⟩; refine ⟨_, rfl, ?_⟩; have n0_ := Aside0.mk (below_step (by repeat (first | (with_reducible first | exact HB.out | apply below_alloc | apply pw_below_drewN | apply below_drew1) | exact HB.out)) hb); clear HB; have HB := n0_; clear n0_; (try clear hb); (try clear hb2); (try clear hk); (try clear hi)) | ((with_reducible refine gate_callee (f := 39) rfl ?_); refine goesL_ (some 10) rfl rfl Tryz.func39 (by kernel_rfl) rfl #[] rfl (by (try simp only [List.map_toArray, List.map_cons, List.map_nil]); first | done | rfl | (simp only [List.length_drop, List.length_take]; rfl)) ?_; (with_reducible refine (depotref12_framing.calls  t260 _ A4.out).mono ?_); rintro e w8 ⟨v261, rfl, ho0, hb⟩; refine ⟨_, rfl, ?_⟩; have n0_ := Aside0.mk (Kd.R_lower ho0 (below_size (by repeat (first | (with_reducible first | exact HB.out | apply below_alloc | apply pw_below_drewN | apply below_drew1) | exact HB.out)))); have n1_ := Aside0.mk (below_step (by repeat (first | (with_reducible first | exact HB.out | apply below_alloc | apply pw_below_drewN | apply below_drew1) | exact HB.out)) hb); clear HB; have HO262 := n0_; have HB := n1_; clear n0_ n1_; (try clear hb); (try clear hb2); (try clear hk); (try clear hi); (try clear ho0); obtain ⟨Ao9, co9, eo9⟩ := Kd.R_slice HO262.out; subst eo9) | ((with_reducible refine gate_callee (f := 38) rfl ?_); refine goesL_ (some 11) rfl rfl Tryz.func38 (by kernel_rfl) rfl #[.slice A0 l0.length c0, .slice Ao9 t260.length co9] rfl (by (try simp only [List.map_toArray, List.map_cons, List.map_nil]); first | done | rfl | (simp only [List.length_drop, List.length_take]; rfl)) ?_; (with_reducible refine (depotref09_Drop.calls k _ _ l0 _ _ t260 t263 _ ?side1 ?side2 ?side3 ?side4 A5.out).mono ?_); (case side1 => repeat (first | exact (Kd.C_below HR0.out HB.out) | (with_reducible refine Kd.C_alloc ?_ _) | (with_reducible refine Kd.C_drewN ?_ _) | (with_reducible refine Kd.C_drew ?_))); (case side2 => exact HC0.out); (case side3 => repeat (first | exact (Kd.R_reads' HO262.out).2.2 | (with_reducible refine Kd.C_alloc ?_ _) | (with_reducible refine Kd.C_drewN ?_ _) | (with_reducible refine Kd.C_drew ?_))); (case side4 => exact (Kd.R_reads' HO262.out).2.1); rintro e w10 ⟨v264, rfl, ho0, hb⟩; refine ⟨_, rfl, ?_⟩; have n0_ := Aside0.mk (Kd.R_below (by (with_reducible repeat (first | apply Kd.R_alloc | apply Kd.R_drewN | apply Kd.R_drew)); exact HO262.out) hb); have n1_ := Aside0.mk (Kd.R_lower ho0 (below_size (by repeat (first | (with_reducible first | exact HB.out | apply below_alloc | apply pw_below_drewN | apply below_drew1) | exact HB.out)))); have n2_ := Aside0.mk (below_step (by repeat (first | (with_reducible first | exact HB.out | apply below_alloc | apply pw_below_drewN | apply below_drew1) | exact HB.out)) hb); clear HO262; clear HB; have HO262 := n0_; have HO265 := n1_; have HB := n2_; clear n0_ n1_ n2_; (try clear hb); (try clear hb2); (try clear hk); (try clear hi); (try clear ho0); obtain ⟨Ao11, co11, eo11⟩ := Kd.R_slice HO265.out; subst eo11))
   go_ret
   exact ⟨by first | rfl | (simp [errW_none, errW_some] <;> rfl) | (simp [*, errW_none, errW_some] <;> rfl), by repeat (first | (with_reducible first | exact HB.out | apply below_alloc | apply pw_below_drewN | apply below_drew1) | exact HB.out)⟩
  ·rw [if_neg c6] at H
   have c6b0 : ((t263.length : Int) == (l0.length : Int)) = false := beq_eq_false_iff_ne.mpr c6
   have c6b1 : ((t263.length : Int) != (l0.length : Int)) = true := bne_iff_ne.mpr c6
   have c6b2 : (t263.length == l0.length) = false := by first | simpa using c6 | (simp at c6 ⊢; omega)
   obtain rfl := Option.some.inj H
   go_enter Tryz.func54, Tryz.ntmps54
   go_wp2_with (first | ((with_reducible refine gate_callee (f := 86) rfl ?_); refine goesL_ (some 5) rfl rfl Tryz.func86 (by kernel_rfl) rfl #[.slice A0 l0.length c0] rfl (by (try simp only [List.map_toArray, List.map_cons, List.map_nil]); first | done | rfl | (simp only [List.length_drop, List.length_take]; rfl)) ?_; (with_reducible refine (depotref09_Check.calls k _ _ l0 t259 _ ?side1 ?side2 A2.out).mono ?_); (case side1 => repeat (first | exact HR0.out | (with_reducible refine Kd.C_alloc ?_ _) | (with_reducible refine Kd.C_drewN ?_ _) | (with_reducible refine Kd.C_drew ?_))); (case side2 => exact HC0.out); rintro e w12 ⟨rfl, hb⟩; refine ⟨_, rfl, ?_⟩; have n0_ := Aside0.mk (below_step (by repeat (first | (with_reducible first | exact HB.out | apply below_alloc | apply pw_below_drewN | apply below_drew1) | exact HB.out)) hb); clear HB; have HB := n0_; clear n0_; (try clear hb); (try clear hb2); (try clear hk); (try clear hi)) | ((with_reducible refine gate_callee (f := 39) rfl ?_); refine goesL_ (some 10) rfl rfl Tryz.func39 (by kernel_rfl) rfl #[] rfl (by (try simp only [List.map_toArray, List.map_cons, List.map_nil]); first | done | rfl | (simp only [List.length_drop, List.length_take]; rfl)) ?_; (with_reducible refine (depotref12_framing.calls  t260 _ A4.out).mono ?_); rintro e w13 ⟨v261, rfl, ho0, hb⟩; refine ⟨_, rfl, ?_⟩; have n0_ := Aside0.mk (Kd.R_lower ho0 (below_size (by repeat (first | (with_reducible first | exact HB.out | apply below_alloc | apply pw_below_drewN | apply below_drew1) | exact HB.out)))); have n1_ := Aside0.mk (below_step (by repeat (first | (with_reducible first | exact HB.out | apply below_alloc | apply pw_below_drewN | apply below_drew1) | exact HB.out)) hb); clear HB; have HO262 := n0_; have HB := n1_; clear n0_ n1_; (try clear hb); (try clear hb2); (try clear hk); (try clear hi); (try clear ho0); obtain ⟨Ao14, co14, eo14⟩ := Kd.R_slice HO262.out; subst eo14) | ((with_reducible refine gate_callee (f := 38) rfl ?_); refine goesL_ (some 11) rfl rfl Tryz.func38 (by kernel_rfl) rfl #[.slice A0 l0.length c0, .slice Ao14 t260.length co14] rfl (by (try simp only [List.map_toArray, List.map_cons, List.map_nil]); first | done | rfl | (simp only [List.length_drop, List.length_take]; rfl)) ?_; (with_reducible refine (depotref09_Drop.calls k _ _ l0 _ _ t260 t263 _ ?side1 ?side2 ?side3 ?side4 A5.out).mono ?_); (case side1 => repeat (first | exact (Kd.C_below HR0.out HB.out) | (with_reducible refine Kd.C_alloc ?_ _) | (with_reducible refine Kd.C_drewN ?_ _) | (with_reducible refine Kd.C_drew ?_))); (case side2 => exact HC0.out); (case side3 => repeat (first | exact (Kd.R_reads' HO262.out).2.2 | (with_reducible refine Kd.C_alloc ?_ _) | (with_reducible refine Kd.C_drewN ?_ _) | (with_reducible refine Kd.C_drew ?_))); (case side4 => exact (Kd.R_reads' HO262.out).2.1); rintro e w15 ⟨v264, rfl, ho0, hb⟩; refine ⟨_, rfl, ?_⟩; have n0_ := Aside0.mk (Kd.R_below (by (with_reducible repeat (first | apply Kd.R_alloc | apply Kd.R_drewN | apply Kd.R_drew)); exact HO262.out) hb); have n1_ := Aside0.mk (Kd.R_lower ho0 (below_size (by repeat (first | (with_reducible first | exact HB.out | apply below_alloc | apply pw_below_drewN | apply below_drew1) | exact HB.out)))); have n2_ := Aside0.mk (below_step (by repeat (first | (with_reducible first | exact HB.out | apply below_alloc | apply pw_below_drewN | apply below_drew1) | exact HB.out)) hb); clear HO262; clear HB; have HO262 := n0_; have HO265 := n1_; have HB := n2_; clear n0_ n1_ n2_; (try clear hb); (try clear hb2); (try clear hk); (try clear hi); (try clear ho0); obtain ⟨Ao16, co16, eo16⟩ := Kd.R_slice HO265.out; subst eo16))
   go_ret
   exact ⟨by first | rfl | (simp [errW_none, errW_some] <;> rfl) | (simp [*, errW_none, errW_some] <;> rfl), by repeat (first | (with_reducible first | exact HB.out | apply below_alloc | apply pw_below_drewN | apply below_drew1) | exact HB.out)⟩
 ·rw [if_neg c3] at H
  have c3b0 : (t259 == 0) = false := beq_eq_false_iff_ne.mpr c3
  have c3b1 : (t259 != 0) = true := bne_iff_ne.mpr c3
  obtain rfl := Option.some.inj H
  go_enter Tryz.func54, Tryz.ntmps54
  go_wp2_with (first | ((with_reducible refine gate_callee (f := 86) rfl ?_); refine goesL_ (some 5) rfl rfl Tryz.func86 (by kernel_rfl) rfl #[.slice A0 l0.length c0] rfl (by (try simp only [List.map_toArray, List.map_cons, List.map_nil]); first | done | rfl | (simp only [List.length_drop, List.length_take]; rfl)) ?_; (with_reducible refine (depotref09_Check.calls k _ _ l0 t259 _ ?side1 ?side2 A2.out).mono ?_); (case side1 => repeat (first | exact HR0.out | (with_reducible refine Kd.C_alloc ?_ _) | (with_reducible refine Kd.C_drewN ?_ _) | (with_reducible refine Kd.C_drew ?_))); (case side2 => exact HC0.out); rintro e w17 ⟨rfl, hb⟩; refine ⟨_, rfl, ?_⟩; have n0_ := Aside0.mk (below_step (by repeat (first | (with_reducible first | exact HB.out | apply below_alloc | apply pw_below_drewN | apply below_drew1) | exact HB.out)) hb); clear HB; have HB := n0_; clear n0_; (try clear hb); (try clear hb2); (try clear hk); (try clear hi)))
  go_ret
  exact ⟨by first | rfl | (simp [errW_none, errW_some] <;> rfl) | (simp [*, errW_none, errW_some] <;> rfl), by repeat (first | (with_reducible first | exact HB.out | apply below_alloc | apply pw_below_drewN | apply below_drew1) | exact HB.out)⟩

end Go.Proofs.YtjaklgikfcahdaaGreatDoor.PU
