-- Halved: the indents of this text are half of the print's.
-- Out of the translation, by a program of this session: each function that a law comes to as a Lean function, and that the machine's call does what it says. Lean checks it.
import Derived.Test.YtjaklgikfcahdaaGreatDoorPU0
import Derived.Test.YtjaklgikfcahdaaGreatDoorPU2
import Derived.Test.YtjaklgikfcahdaaGreatDoorPU3
import Derived.Test.YtjaklgikfcahdaaGreatDoorPU6
import Derived.Test.YtjaklgikfcahdaaGreatDoorPU8
import Derived.Test.YtjaklgikfcahdaaGreatDoorPU9
namespace Go.Proofs.YtjaklgikfcahdaaGreatDoor.PU
open Go.RowKit Go.Proofs.YtjaklgikfcahdaaGreatDoorW.PrintWords Go.Proofs.YtjaklgikfcahdaaGreatDoorW.PrintLast Go.Proofs.YtjaklgikfcahdaaGreatDoorW.PrintMore
attribute [local go_sem] max2_int min2_int max_two min_two max_three min_three max_four min_four   -- for this text's walks alone
set_option linter.unusedVariables false
set_option linter.unusedSimpArgs false

/-! ### message_fit: function 52: told by hand -/
def message_fit.f (l0 : List S98) : Option Int := (fields_Check.f l0).bind fun e => if e = 0 then (bareP l0).bind fun d => some (if d.length < l0.length then 21 else 0) else some e
set_option maxHeartbeats 1600000 in
set_option maxRecDepth 100000 in
theorem message_fit.calls (A0 : Option Addr) (c0 : Nat) (l0 : List S98) (r : Int) (w : World) (HT : Aside0 (Hand.Laid w)) (hr0 : Kd.C k98 w A0 l0.length l0) (hc0 : l0.length ≤ c0) (h : message_fit.f l0 = some r) :
  Calls Tryz.prog 52 #[.slice A0 l0.length c0] w fun e w' => e = .returned (.int .i64 r) ∧ Below w.heap.size w w' := by
 unfold message_fit.f at h
 obtain ⟨e, he, h⟩ := Option.bind_eq_some_iff.1 h
 have HR := Aside0.mk hr0
 have HE := Aside0.mk he
 clear hr0 he
 by_cases h1 : e = 0
 ·subst h1
  rw [if_pos rfl] at h
  obtain ⟨d, hd, h⟩ := Option.bind_eq_some_iff.1 h
  have HD := Aside0.mk hd
  clear hd
  go_enter Tryz.func52, Tryz.ntmps52
  go_upto_region 4 with (go_at_call 85; refine (fields_Check.calls A0 c0 l0 0 _ HR.out hc0 HE.out).mono ?_; rintro e w1 ⟨rfl, hb⟩; have HB1 := Aside0.mk hb; clear HE hb)
  go_upto_region 5 with (fail)
  have hx := blk_new w1 (.cells #[.string (⟨#[]⟩ : ByteArray), .slice A0 l0.length c0, .int .i64 0] 58)
  have HB2 := Aside0.mk (HB1.out.alloc HB1.out.size (.cells #[.string (⟨#[]⟩ : ByteArray), .slice A0 l0.length c0, .int .i64 0] 58))
  generalize w1.alloc (.cells #[.string (⟨#[]⟩ : ByteArray), .slice A0 l0.length c0, .int .i64 0] 58) = w2 at hx HB2 ⊢
  generalize w1.heap.size = bx at hx ⊢
  have k1 := blk_cell hx 1
  have HBA := Aside0.mk (message_bare A0 c0 l0 d bx w2 k1 (Kd.C_below HR.out HB2.out) hc0 HD.out)
  clear hx k1 HD HB1
  by_cases h2 : d.length < l0.length
  ·rw [if_pos h2] at h
   obtain rfl := Option.some.inj h
   have e1 : decide ((d.length : Int) < (l0.length : Int)) = true := decide_eq_true (by omega)
   have e2 : decide (d.length < l0.length) = true := decide_eq_true h2
   clear h h2
   go_wp2_with (go_at_call 32; refine HBA.out.mono ?_; rintro e w3 ⟨v, rfl, hv, hb⟩; obtain ⟨A4, c4, rfl⟩ := Kd.R_slice hv; have HB3 := Aside0.mk (below_step HB2.out hb); clear HBA hv hb)
   go_ret
   exact ⟨rfl, HB3.out⟩
  ·rw [if_neg h2] at h
   obtain rfl := Option.some.inj h
   have e1 : decide ((d.length : Int) < (l0.length : Int)) = false := decide_eq_false (by omega)
   have e2 : decide (d.length < l0.length) = false := decide_eq_false h2
   clear h h2
   go_wp2_with (go_at_call 32; refine HBA.out.mono ?_; rintro e w3 ⟨v, rfl, hv, hb⟩; obtain ⟨A4, c4, rfl⟩ := Kd.R_slice hv; have HB3 := Aside0.mk (below_step HB2.out hb); clear HBA hv hb)
   go_ret
   exact ⟨rfl, HB3.out⟩
 ·rw [if_neg h1] at h
  obtain rfl := Option.some.inj h
  have e1 : (e != 0) = true := bne_iff_ne.2 h1
  clear h h1
  go_enter Tryz.func52, Tryz.ntmps52
  go_wp2_with (go_at_call 85; refine (fields_Check.calls A0 c0 l0 e _ HR.out hc0 HE.out).mono ?_; rintro e w1 ⟨rfl, hb⟩; have HB1 := Aside0.mk hb; clear HE hb)
  go_ret
  exact ⟨rfl, HB1.out⟩

/-! ### message_long: function 53 -/
def message_long.f (a0 : ByteArray) (a1 : Int) : Option (Bool) := if (a0.size : Int) > 65536 then (some true) else (some (decide (a1 > 64)))
set_option maxHeartbeats 8000000 in
set_option maxRecDepth 100000 in
theorem message_long.calls (a0 : ByteArray) (a1 : Int) (r : Bool) (w : World) (h : message_long.f a0 a1 = some r) :
  Calls Tryz.prog 53 #[.string a0, .int .i64 a1] w fun e w' => e = .returned (.bool r) ∧ Drawn0 w w' := by
 have H : (if (a0.size : Int) > 65536 then (some true) else (some (decide (a1 > 64)))) = some r := h
 clear h
 by_cases c3 : (a0.size : Int) > 65536
 ·rw [if_pos c3] at H
  have c3b0 : decide (65536 < (a0.size : Int)) = true := decide_eq_true c3
  have c3b1 : decide (65536 < a0.size) = true := decide_eq_true (by omega)
  clear c3
  obtain rfl := Option.some.inj H
  go_enter Tryz.func53, Tryz.ntmps53
  go_wp2
  go_ret
  exact ⟨by first | rfl | (simp; done) | (simp [*]; done) | (simp; exact Hand.isEmpty_ne _), by repeat (first | exact Drawn0.refl _ | apply Drawn0.step)⟩
 ·rw [if_neg c3] at H
  have c3b0 : decide (65536 < (a0.size : Int)) = false := decide_eq_false c3
  have c3b1 : decide (65536 < a0.size) = false := decide_eq_false (by omega)
  clear c3
  obtain rfl := Option.some.inj H
  go_enter Tryz.func53, Tryz.ntmps53
  go_wp2
  go_ret
  exact ⟨by first | rfl | (simp; done) | (simp [*]; done) | (simp; exact Hand.isEmpty_ne _), by repeat (first | exact Drawn0.refl _ | apply Drawn0.step)⟩

/-! ### message_CheckRequest: function 21: told by hand -/
theorem hostedP_len {fs : List S98} {m : Int} {r : Bool} (h : hostedP fs m = some r) : fs.length < 1000000 := by
 unfold hostedP at h
 obtain ⟨l, hl, _⟩ := Option.bind_eq_some_iff.1 h
 unfold fields_All.f at hl
 split at hl
 case isTrue hh => exact hh.1
 case isFalse => cases hl
def message_CheckRequest.f (k : Nat) (a0 a1 : ByteArray) (a2 : Int) (l3 : List S98) (a4 : ByteArray) : Option Int :=
 (line_PrintRequest.f a0 a1 a2).bind fun s => (line_Request.f k s).bind fun q => if q.2.2.2 = 0 then
  ((message_fit.f l3).bind fun e => if e = 0 then
   ((hostedP l3 a2).bind fun ho => if ho = true then
    ((message_PrintRequest.f k a0 a1 a2 l3 a4).bind fun t => (message_long.f t (if a4.size = 0 then (l3.length : Int) else (l3.length : Int) + 1)).bind fun lg => some (if lg = true then 4 else 0))
   else some 26)
  else some e)
 else some 20
theorem message_CheckRequest.mono : ∀ a0 a1 a2 l3 a4 k, LeO (message_CheckRequest.f k a0 a1 a2 l3 a4) (message_CheckRequest.f (k + 1) a0 a1 a2 l3 a4) := fun a0 a1 a2 l3 a4 k => by
 unfold message_CheckRequest.f
 exact LeO.bind (LeO.refl _) fun _ => LeO.bind (line_Request.mono _ k) fun _ => LeO.ite (LeO.bind (LeO.refl _) fun _ => LeO.ite (LeO.bind (LeO.refl _) fun _ => LeO.ite (LeO.bind (message_PrintRequest.mono _ _ _ _ _ k) fun _ => LeO.refl _) (LeO.refl _)) (LeO.refl _)) (LeO.refl _)
set_option maxHeartbeats 1600000 in
set_option maxRecDepth 100000 in
theorem message_CheckRequest.calls (k : Nat) (a0 : ByteArray) (a1 : ByteArray) (a2 : Int) (A3 : Option Addr) (c3 : Nat) (l3 : List (S98)) (a4 : ByteArray) (r : Int) (w : World) (HT : Aside0 (Hand.Laid w)) (hr0_3 : Kd.C k98 w A3 l3.length l3) (hc0_3 : l3.length ≤ c3) (h : message_CheckRequest.f k a0 a1 a2 l3 a4 = some r) :
  Calls Tryz.prog 21 #[.agg #[.string a0, .string a1, .int .i64 a2, .slice A3 l3.length c3, .string a4]] w fun e w' => e = .returned (.int .i64 r) ∧ Below w.heap.size w w' := by
 unfold message_CheckRequest.f at h
 obtain ⟨s, hs, h⟩ := Option.bind_eq_some_iff.1 h
 obtain ⟨⟨q1, q2, q3, q4⟩, hq, h⟩ := Option.bind_eq_some_iff.1 h
 simp only at h
 have HC := Aside0.mk hr0_3
 have hc := hc0_3
 have HS := Aside0.mk hs
 have HQ := Aside0.mk hq
 have HB0 := Aside0.mk (Hand.alloc_below w (.cells #[.string a0, .string a1, .int .i64 a2, .slice A3 l3.length c3, .string a4] 25))
 have HX0 := Aside0.mk (blk_new w (.cells #[.string a0, .string a1, .int .i64 a2, .slice A3 l3.length c3, .string a4] 25))
 clear hr0_3 hs hq
 go_enter Tryz.func21, Tryz.ntmps21
 go_upto_region 1 with (fail)
 generalize w.alloc (.cells #[.string a0, .string a1, .int .i64 a2, .slice A3 l3.length c3, .string a4] 25) = W0 at HB0 HX0 ⊢

 have k0 := blk_cell HX0.out 0
 have k1 := blk_cell HX0.out 1
 have k2 := blk_cell HX0.out 2
 have k3 := blk_cell HX0.out 3
 have k4 := blk_cell HX0.out 4
 go_upto_region 3 with (first | (go_at_call 46; refine (line_PrintRequest.calls a0 a1 a2 s _ ⟨HT.out.below HB0.out⟩ HS.out).mono ?_; rintro e w1 ⟨rfl, hb⟩; have HB1 := Aside0.mk (below_step HB0.out hb); have HX1 := Aside0.mk (blk_below HX0.out hb); clear k0 k1 k2 k3 k4; have k0 := blk_cell HX1.out 0; have k1 := blk_cell HX1.out 1; have k2 := blk_cell HX1.out 2; have k3 := blk_cell HX1.out 3; have k4 := blk_cell HX1.out 4; clear HS HB0 HX0 hb) | (go_at_call 28; refine (line_Request.calls k s q1 q2 q3 q4 _ ⟨HT.out.below HB1.out⟩ HQ.out).mono ?_; rintro e w2 ⟨rfl, hb⟩; have HB2 := Aside0.mk (below_step HB1.out hb); have HX2 := Aside0.mk (blk_below HX1.out hb); clear k0 k1 k2 k3 k4; have k0 := blk_cell HX2.out 0; have k1 := blk_cell HX2.out 1; have k2 := blk_cell HX2.out 2; have k3 := blk_cell HX2.out 3; have k4 := blk_cell HX2.out 4; clear HQ HB1 HX1 hb))
 by_cases h1 : q4 = 0
 case neg =>
  rw [if_neg h1] at h
  obtain rfl := Option.some.inj h
  have e1 : (q4 != 0) = true := bne_iff_ne.2 h1
  clear h h1
  go_wp2
  go_ret
  exact ⟨rfl, HB2.out⟩
 subst h1
 rw [if_pos rfl] at h
 obtain ⟨e, he, h⟩ := Option.bind_eq_some_iff.1 h
 have HE := Aside0.mk he
 clear he
 go_upto_region 6 with (go_at_call 52; refine (message_fit.calls A3 c3 l3 e _ ⟨HT.out.below HB2.out⟩ (Kd.C_below HC.out HB2.out) hc HE.out).mono ?_; rintro x w3 ⟨rfl, hb⟩; have HB3 := Aside0.mk (below_step HB2.out hb); have HX3 := Aside0.mk (blk_below HX2.out hb); clear k0 k1 k2 k3 k4; have k0 := blk_cell HX3.out 0; have k1 := blk_cell HX3.out 1; have k2 := blk_cell HX3.out 2; have k3 := blk_cell HX3.out 3; have k4 := blk_cell HX3.out 4; clear HE HB2 HX2 hb)
 by_cases h2 : e = 0
 case neg =>
  rw [if_neg h2] at h
  obtain rfl := Option.some.inj h
  have e1 : (e != 0) = true := bne_iff_ne.2 h2
  clear h h2
  go_wp2
  go_ret
  exact ⟨rfl, HB3.out⟩
 subst h2
 rw [if_pos rfl] at h
 obtain ⟨ho, hho, h⟩ := Option.bind_eq_some_iff.1 h
 have hlen := hostedP_len hho
 have HH := Aside0.mk hho
 clear hho
 go_upto_region 9 with (fail)
 have hx := blk_new w3 (.cells #[.string (⟨#[]⟩ : ByteArray), .slice A3 l3.length c3, .int .i64 a2] 58)
 have hb := Hand.alloc_below w3 (.cells #[.string (⟨#[]⟩ : ByteArray), .slice A3 l3.length c3, .int .i64 a2] 58)
 have HB4 := Aside0.mk (below_step HB3.out hb)
 have HX4 := Aside0.mk (blk_below HX3.out hb)
 clear k0 k1 k2 k3 k4
 have k0 := blk_cell HX4.out 0
 have k1 := blk_cell HX4.out 1
 have k2 := blk_cell HX4.out 2
 have k3 := blk_cell HX4.out 3
 have k4 := blk_cell HX4.out 4
 clear HB3 HX3 hb
 generalize w3.alloc (.cells #[.string (⟨#[]⟩ : ByteArray), .slice A3 l3.length c3, .int .i64 a2] 58) = w4 at hx HB4 HX4 k0 k1 k2 k3 k4 ⊢
 generalize w3.heap.size = bx at hx ⊢
 have j1 := blk_cell hx 1
 have j2 := blk_cell hx 2
 clear hx
 cases ho
 case false =>
  rw [if_neg (by simp)] at h
  obtain rfl := Option.some.inj h
  clear h
  go_wp2_with (go_at_call 30; refine (message_hosted A3 c3 l3 a2 false bx w4 j1 j2 (Kd.C_below HC.out HB4.out) hc HH.out).mono ?_; rintro x w5 ⟨rfl, hb⟩; have HB5 := Aside0.mk (below_step HB4.out hb); have HX5 := Aside0.mk (blk_below HX4.out hb); clear k0 k1 k2 k3 k4; have k0 := blk_cell HX5.out 0; have k1 := blk_cell HX5.out 1; have k2 := blk_cell HX5.out 2; have k3 := blk_cell HX5.out 3; have k4 := blk_cell HX5.out 4; clear HH HB4 HX4 hb)
  go_ret
  exact ⟨rfl, HB5.out⟩
 case true =>
 rw [if_pos rfl] at h
 obtain ⟨t, ht, h⟩ := Option.bind_eq_some_iff.1 h
 obtain ⟨lg, hlg, h⟩ := Option.bind_eq_some_iff.1 h
 have HP := Aside0.mk ht
 clear ht
 by_cases h3 : a4.size = 0
 ·rw [if_pos h3] at hlg
  have HL := Aside0.mk hlg
  have y1 := empty_beq h3
  have y2 := empty_ise h3
  have y3 := empty_bne h3
  clear hlg h3
  cases lg
  ·obtain rfl : 0 = r := by simpa using h
   clear h
   go_wp2_with (first | (go_at_call 30; refine (message_hosted A3 c3 l3 a2 true bx w4 j1 j2 (Kd.C_below HC.out HB4.out) hc HH.out).mono ?_; rintro x w5 ⟨rfl, hb⟩; have HB5 := Aside0.mk (below_step HB4.out hb); have HX5 := Aside0.mk (blk_below HX4.out hb); clear k0 k1 k2 k3 k4; have k0 := blk_cell HX5.out 0; have k1 := blk_cell HX5.out 1; have k2 := blk_cell HX5.out 2; have k3 := blk_cell HX5.out 3; have k4 := blk_cell HX5.out 4; clear HH HB4 HX4 hb) | (go_at_call 17; refine (message_PrintRequest.calls k a0 a1 a2 A3 c3 l3 a4 t _ ⟨HT.out.below HB5.out⟩ (Kd.C_below HC.out HB5.out) hc HP.out).mono ?_; rintro x w6 ⟨rfl, hb⟩; have HB6 := Aside0.mk (below_step HB5.out hb); have HX6 := Aside0.mk (blk_below HX5.out hb); clear k0 k1 k2 k3 k4; have k0 := blk_cell HX6.out 0; have k1 := blk_cell HX6.out 1; have k2 := blk_cell HX6.out 2; have k3 := blk_cell HX6.out 3; have k4 := blk_cell HX6.out 4; clear HP HB5 HX5 hb) | (go_at_call 53; refine (message_long.calls t (l3.length : Int) false _ HL.out).mono ?_; rintro x w7 ⟨rfl, n7, rfl⟩; have HB7 := Aside0.mk (pw_below_drewN HB6.out n7); clear HB6 HX6 HL))
   go_ret
   exact ⟨rfl, HB7.out⟩
  ·obtain rfl : 4 = r := by simpa using h
   clear h
   go_wp2_with (first | (go_at_call 30; refine (message_hosted A3 c3 l3 a2 true bx w4 j1 j2 (Kd.C_below HC.out HB4.out) hc HH.out).mono ?_; rintro x w5 ⟨rfl, hb⟩; have HB5 := Aside0.mk (below_step HB4.out hb); have HX5 := Aside0.mk (blk_below HX4.out hb); clear k0 k1 k2 k3 k4; have k0 := blk_cell HX5.out 0; have k1 := blk_cell HX5.out 1; have k2 := blk_cell HX5.out 2; have k3 := blk_cell HX5.out 3; have k4 := blk_cell HX5.out 4; clear HH HB4 HX4 hb) | (go_at_call 17; refine (message_PrintRequest.calls k a0 a1 a2 A3 c3 l3 a4 t _ ⟨HT.out.below HB5.out⟩ (Kd.C_below HC.out HB5.out) hc HP.out).mono ?_; rintro x w6 ⟨rfl, hb⟩; have HB6 := Aside0.mk (below_step HB5.out hb); have HX6 := Aside0.mk (blk_below HX5.out hb); clear k0 k1 k2 k3 k4; have k0 := blk_cell HX6.out 0; have k1 := blk_cell HX6.out 1; have k2 := blk_cell HX6.out 2; have k3 := blk_cell HX6.out 3; have k4 := blk_cell HX6.out 4; clear HP HB5 HX5 hb) | (go_at_call 53; refine (message_long.calls t (l3.length : Int) true _ HL.out).mono ?_; rintro x w7 ⟨rfl, n7, rfl⟩; have HB7 := Aside0.mk (pw_below_drewN HB6.out n7); clear HB6 HX6 HL))
   go_ret
   exact ⟨rfl, HB7.out⟩
 ·rw [if_neg h3] at hlg
  have HL := Aside0.mk hlg
  have y1 := empty_ne h3
  have y2 := empty_isn h3
  have y3 := empty_bnn h3
  have hw : IntKind.i64.wrap ((l3.length : Int) + 1) = (l3.length : Int) + 1 := by rw [i64_w]; unfold wrap64; omega
  have hw2 : wrap64 ((l3.length : Int) + 1) = (l3.length : Int) + 1 := by unfold wrap64; omega
  clear hlg h3
  cases lg
  ·obtain rfl : 0 = r := by simpa using h
   clear h
   go_wp2_with (first | (go_at_call 30; refine (message_hosted A3 c3 l3 a2 true bx w4 j1 j2 (Kd.C_below HC.out HB4.out) hc HH.out).mono ?_; rintro x w5 ⟨rfl, hb⟩; have HB5 := Aside0.mk (below_step HB4.out hb); have HX5 := Aside0.mk (blk_below HX4.out hb); clear k0 k1 k2 k3 k4; have k0 := blk_cell HX5.out 0; have k1 := blk_cell HX5.out 1; have k2 := blk_cell HX5.out 2; have k3 := blk_cell HX5.out 3; have k4 := blk_cell HX5.out 4; clear HH HB4 HX4 hb) | (go_at_call 17; refine (message_PrintRequest.calls k a0 a1 a2 A3 c3 l3 a4 t _ ⟨HT.out.below HB5.out⟩ (Kd.C_below HC.out HB5.out) hc HP.out).mono ?_; rintro x w6 ⟨rfl, hb⟩; have HB6 := Aside0.mk (below_step HB5.out hb); have HX6 := Aside0.mk (blk_below HX5.out hb); clear k0 k1 k2 k3 k4; have k0 := blk_cell HX6.out 0; have k1 := blk_cell HX6.out 1; have k2 := blk_cell HX6.out 2; have k3 := blk_cell HX6.out 3; have k4 := blk_cell HX6.out 4; clear HP HB5 HX5 hb) | (go_at_call 53; refine (message_long.calls t ((l3.length : Int) + 1) false _ HL.out).mono ?_; rintro x w7 ⟨rfl, n7, rfl⟩; have HB7 := Aside0.mk (pw_below_drewN HB6.out n7); clear HB6 HX6 HL))
   go_ret
   exact ⟨rfl, HB7.out⟩
  ·obtain rfl : 4 = r := by simpa using h
   clear h
   go_wp2_with (first | (go_at_call 30; refine (message_hosted A3 c3 l3 a2 true bx w4 j1 j2 (Kd.C_below HC.out HB4.out) hc HH.out).mono ?_; rintro x w5 ⟨rfl, hb⟩; have HB5 := Aside0.mk (below_step HB4.out hb); have HX5 := Aside0.mk (blk_below HX4.out hb); clear k0 k1 k2 k3 k4; have k0 := blk_cell HX5.out 0; have k1 := blk_cell HX5.out 1; have k2 := blk_cell HX5.out 2; have k3 := blk_cell HX5.out 3; have k4 := blk_cell HX5.out 4; clear HH HB4 HX4 hb) | (go_at_call 17; refine (message_PrintRequest.calls k a0 a1 a2 A3 c3 l3 a4 t _ ⟨HT.out.below HB5.out⟩ (Kd.C_below HC.out HB5.out) hc HP.out).mono ?_; rintro x w6 ⟨rfl, hb⟩; have HB6 := Aside0.mk (below_step HB5.out hb); have HX6 := Aside0.mk (blk_below HX5.out hb); clear k0 k1 k2 k3 k4; have k0 := blk_cell HX6.out 0; have k1 := blk_cell HX6.out 1; have k2 := blk_cell HX6.out 2; have k3 := blk_cell HX6.out 3; have k4 := blk_cell HX6.out 4; clear HP HB5 HX5 hb) | (go_at_call 53; refine (message_long.calls t ((l3.length : Int) + 1) true _ HL.out).mono ?_; rintro x w7 ⟨rfl, n7, rfl⟩; have HB7 := Aside0.mk (pw_below_drewN HB6.out n7); clear HB6 HX6 HL))
   go_ret
   exact ⟨rfl, HB7.out⟩

end Go.Proofs.YtjaklgikfcahdaaGreatDoor.PU
