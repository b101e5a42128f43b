-- Halved: the indents of this text are half of the print's.
-- Out of the translation, by a program of this session: each function that a law comes to as a Lean function, and that the machine's call does what it says. Lean checks it.
import Derived.Test.YtjaklgikfcahdaaGreatDoorPU0
import Derived.Test.YtjaklgikfcahdaaGreatDoorPU1
import Derived.Test.YtjaklgikfcahdaaGreatDoorPU2
import Derived.Test.YtjaklgikfcahdaaGreatDoorPU3
import Derived.Test.YtjaklgikfcahdaaGreatDoorPU6
namespace Go.Proofs.YtjaklgikfcahdaaGreatDoor.PU
open Go.RowKit Go.Proofs.YtjaklgikfcahdaaGreatDoorW.PrintWords Go.Proofs.YtjaklgikfcahdaaGreatDoorW.PrintLast Go.Proofs.YtjaklgikfcahdaaGreatDoorW.PrintMore
attribute [local go_sem] max2_int min2_int max_two min_two max_three min_three max_four min_four   -- for this text's walks alone
set_option linter.unusedVariables false
set_option linter.unusedSimpArgs false

/-! ### message_Bodiless: function 25 -/
def message_Bodiless.f (a0 : Int) : Option (Bool) := if a0 = 204 then (some true) else (some (a0 == 304))
set_option maxHeartbeats 8000000 in
set_option maxRecDepth 100000 in
theorem message_Bodiless.calls (a0 : Int) (r : Bool) (w : World) (h : message_Bodiless.f a0 = some r) :
  Calls Tryz.prog 25 #[.int .i64 a0] w fun e w' => e = .returned (.bool r) ∧ Drawn0 w w' := by
 have H : (if a0 = 204 then (some true) else (some (a0 == 304))) = some r := h
 clear h
 by_cases c2 : a0 = 204
 ·rw [if_pos c2] at H
  have c2b0 : (a0 == 204) = true := beq_iff_eq.mpr c2
  have c2b1 : (a0 != 204) = false := bne_eq_false_iff_eq.mpr c2
  clear c2
  obtain rfl := Option.some.inj H
  go_enter Tryz.func25, Tryz.ntmps25
  go_wp2
  go_ret
  exact ⟨by first | rfl | (simp; done) | (simp [*]; done) | (simp; exact Hand.isEmpty_ne _), by repeat (first | exact Drawn0.refl _ | apply Drawn0.step)⟩
 ·rw [if_neg c2] at H
  have c2b0 : (a0 == 204) = false := beq_eq_false_iff_ne.mpr c2
  have c2b1 : (a0 != 204) = true := bne_iff_ne.mpr c2
  obtain rfl := Option.some.inj H
  go_enter Tryz.func25, Tryz.ntmps25
  go_wp2
  go_ret
  exact ⟨by first | rfl | (simp; done) | (simp [*]; done) | (simp; exact Hand.isEmpty_ne _), by repeat (first | exact Drawn0.refl _ | apply Drawn0.step)⟩

/-! ### line_Status: function 41 -/
def line_Status.f (a0 : ByteArray) : Option (Int × ByteArray × Int × Int) := if (a0.size : Int) > 8192 then (some (0, (⟨#[]⟩ : ByteArray), 0, 4)) else (if 0 < 1 then ((octet_Cut.f a0 (bt (⟨#[32]⟩ : ByteArray) 0)).bind fun bt147 => ((octet_Cut.f bt147.2.1 (bt (⟨#[32]⟩ : ByteArray) 0)).bind fun bt150 => ((line_version.f bt147.1).bind fun bt153 => ((decimal_Number.f bt150.1 599).bind fun bt155 => (if bt153.2 = true then (if bt150.2.2 = true then (if bt155.2 = 0 then (if bt155.1 < 100 then (some (0, (⟨#[]⟩ : ByteArray), 0, 20)) else (if (bt150.1.size : Int) = 3 then ((octet_IsText.f bt150.2.1).bind fun t157 => (if t157 = true then (some (bt155.1, bt150.2.1, bt153.1, 0)) else (some (0, (⟨#[]⟩ : ByteArray), 0, 20)))) else (some (0, (⟨#[]⟩ : ByteArray), 0, 20)))) else (some (0, (⟨#[]⟩ : ByteArray), 0, 20))) else (some (0, (⟨#[]⟩ : ByteArray), 0, 20))) else (some (0, (⟨#[]⟩ : ByteArray), 0, 20))))))) else (none))
set_option maxHeartbeats 8000000 in
set_option maxRecDepth 100000 in
theorem line_Status.calls (a0 : ByteArray) (r1 : Int) (r2 : ByteArray) (r3 : Int) (r4 : Int) (w : World) (h : line_Status.f a0 = some (r1, r2, r3, r4)) :
  Calls Tryz.prog 41 #[.string a0] w fun e w' => e = .returned (.tuple #[.int .i64 r1, .string r2, .int .i64 r3, .int .i64 r4]) ∧ Below w.heap.size w w' := by
 have HB := Aside0.mk (Below.refl w.heap.size w)
 have H : (if (a0.size : Int) > 8192 then (some (0, (⟨#[]⟩ : ByteArray), 0, 4)) else (if 0 < 1 then ((octet_Cut.f a0 (bt (⟨#[32]⟩ : ByteArray) 0)).bind fun bt147 => ((octet_Cut.f bt147.2.1 (bt (⟨#[32]⟩ : ByteArray) 0)).bind fun bt150 => ((line_version.f bt147.1).bind fun bt153 => ((decimal_Number.f bt150.1 599).bind fun bt155 => (if bt153.2 = true then (if bt150.2.2 = true then (if bt155.2 = 0 then (if bt155.1 < 100 then (some (0, (⟨#[]⟩ : ByteArray), 0, 20)) else (if (bt150.1.size : Int) = 3 then ((octet_IsText.f bt150.2.1).bind fun t157 => (if t157 = true then (some (bt155.1, bt150.2.1, bt153.1, 0)) else (some (0, (⟨#[]⟩ : ByteArray), 0, 20)))) else (some (0, (⟨#[]⟩ : ByteArray), 0, 20)))) else (some (0, (⟨#[]⟩ : ByteArray), 0, 20))) else (some (0, (⟨#[]⟩ : ByteArray), 0, 20))) else (some (0, (⟨#[]⟩ : ByteArray), 0, 20))))))) else (none))) = some (r1, r2, r3, r4) := h
 clear h
 by_cases c2 : (a0.size : Int) > 8192
 ·rw [if_pos c2] at H
  have c2b0 : decide (8192 < (a0.size : Int)) = true := decide_eq_true c2
  have c2b1 : decide (8192 < a0.size) = true := decide_eq_true (by omega)
  clear c2
  simp only [Option.some.injEq, Prod.mk.injEq] at H
  obtain ⟨rfl, rfl, rfl, rfl⟩ := H
  go_enter Tryz.func41, Tryz.ntmps41
  go_wp2
  refine bodyPost_ret (results_list (rs := [.tmp 2, .tmp 3, .tmp 4, .tmp 5]) rfl (by simp) (.tmp (.tmp (.tmp (.tmp .nil))))) rfl ?_
  exact ⟨by first | rfl | (simp [errW_none, errW_some] <;> rfl) | (simp [*, errW_none, errW_some] <;> rfl), by repeat (first | (with_reducible first | exact HB.out | apply below_alloc | apply pw_below_drewN | apply below_drew1) | exact HB.out)⟩
 ·rw [if_neg c2] at H
  have c2b0 : decide (8192 < (a0.size : Int)) = false := decide_eq_false c2
  have c2b1 : decide (8192 < a0.size) = false := decide_eq_false (by omega)
  clear c2
  by_cases c3 : 0 < 1
  ·rw [if_pos c3] at H
   have c3b0 : decide (0 < 1) = true := decide_eq_true c3
   clear c3
   replace H := Option.bind_eq_some_iff.mp H
   obtain ⟨⟨t147, t148, t149⟩, A50, H⟩ := H
   replace H : ((octet_Cut.f t148 (bt (⟨#[32]⟩ : ByteArray) 0)).bind fun bt150 => ((line_version.f t147).bind fun bt153 => ((decimal_Number.f bt150.1 599).bind fun bt155 => (if bt153.2 = true then (if bt150.2.2 = true then (if bt155.2 = 0 then (if bt155.1 < 100 then (some (0, (⟨#[]⟩ : ByteArray), 0, 20)) else (if (bt150.1.size : Int) = 3 then ((octet_IsText.f bt150.2.1).bind fun t157 => (if t157 = true then (some (bt155.1, bt150.2.1, bt153.1, 0)) else (some (0, (⟨#[]⟩ : ByteArray), 0, 20)))) else (some (0, (⟨#[]⟩ : ByteArray), 0, 20)))) else (some (0, (⟨#[]⟩ : ByteArray), 0, 20))) else (some (0, (⟨#[]⟩ : ByteArray), 0, 20))) else (some (0, (⟨#[]⟩ : ByteArray), 0, 20)))))) = some (r1, r2, r3, r4) := H
   have A5 := Aside0.mk A50
   clear A50
   replace H := Option.bind_eq_some_iff.mp H
   obtain ⟨⟨t150, t151, t152⟩, A70, H⟩ := H
   replace H : ((line_version.f t147).bind fun bt153 => ((decimal_Number.f t150 599).bind fun bt155 => (if bt153.2 = true then (if t152 = true then (if bt155.2 = 0 then (if bt155.1 < 100 then (some (0, (⟨#[]⟩ : ByteArray), 0, 20)) else (if (t150.size : Int) = 3 then ((octet_IsText.f t151).bind fun t157 => (if t157 = true then (some (bt155.1, t151, bt153.1, 0)) else (some (0, (⟨#[]⟩ : ByteArray), 0, 20)))) else (some (0, (⟨#[]⟩ : ByteArray), 0, 20)))) else (some (0, (⟨#[]⟩ : ByteArray), 0, 20))) else (some (0, (⟨#[]⟩ : ByteArray), 0, 20))) else (some (0, (⟨#[]⟩ : ByteArray), 0, 20))))) = some (r1, r2, r3, r4) := H
   have A7 := Aside0.mk A70
   clear A70
   replace H := Option.bind_eq_some_iff.mp H
   obtain ⟨⟨t153, t154⟩, A80, H⟩ := H
   replace H : ((decimal_Number.f t150 599).bind fun bt155 => (if t154 = true then (if t152 = true then (if bt155.2 = 0 then (if bt155.1 < 100 then (some (0, (⟨#[]⟩ : ByteArray), 0, 20)) else (if (t150.size : Int) = 3 then ((octet_IsText.f t151).bind fun t157 => (if t157 = true then (some (bt155.1, t151, t153, 0)) else (some (0, (⟨#[]⟩ : ByteArray), 0, 20)))) else (some (0, (⟨#[]⟩ : ByteArray), 0, 20)))) else (some (0, (⟨#[]⟩ : ByteArray), 0, 20))) else (some (0, (⟨#[]⟩ : ByteArray), 0, 20))) else (some (0, (⟨#[]⟩ : ByteArray), 0, 20)))) = some (r1, r2, r3, r4) := H
   have A8 := Aside0.mk A80
   clear A80
   replace H := Option.bind_eq_some_iff.mp H
   obtain ⟨⟨t155, t156⟩, A90, H⟩ := H
   replace H : (if t154 = true then (if t152 = true then (if t156 = 0 then (if t155 < 100 then (some (0, (⟨#[]⟩ : ByteArray), 0, 20)) else (if (t150.size : Int) = 3 then ((octet_IsText.f t151).bind fun t157 => (if t157 = true then (some (t155, t151, t153, 0)) else (some (0, (⟨#[]⟩ : ByteArray), 0, 20)))) else (some (0, (⟨#[]⟩ : ByteArray), 0, 20)))) else (some (0, (⟨#[]⟩ : ByteArray), 0, 20))) else (some (0, (⟨#[]⟩ : ByteArray), 0, 20))) else (some (0, (⟨#[]⟩ : ByteArray), 0, 20))) = some (r1, r2, r3, r4) := H
   have A9 := Aside0.mk A90
   clear A90
   by_cases c10 : t154 = true
   ·subst c10
    have H1 : (if t152 = true then (if t156 = 0 then (if t155 < 100 then (some (0, (⟨#[]⟩ : ByteArray), 0, 20)) else (if (t150.size : Int) = 3 then ((octet_IsText.f t151).bind fun t157 => (if t157 = true then (some (t155, t151, t153, 0)) else (some (0, (⟨#[]⟩ : ByteArray), 0, 20)))) else (some (0, (⟨#[]⟩ : ByteArray), 0, 20)))) else (some (0, (⟨#[]⟩ : ByteArray), 0, 20))) else (some (0, (⟨#[]⟩ : ByteArray), 0, 20))) = some (r1, r2, r3, r4) := by rw [if_pos rfl] at H; exact H
    clear H
    have H := H1
    clear H1
    by_cases c11 : t152 = true
    ·subst c11
     have H1 : (if t156 = 0 then (if t155 < 100 then (some (0, (⟨#[]⟩ : ByteArray), 0, 20)) else (if (t150.size : Int) = 3 then ((octet_IsText.f t151).bind fun t157 => (if t157 = true then (some (t155, t151, t153, 0)) else (some (0, (⟨#[]⟩ : ByteArray), 0, 20)))) else (some (0, (⟨#[]⟩ : ByteArray), 0, 20)))) else (some (0, (⟨#[]⟩ : ByteArray), 0, 20))) = some (r1, r2, r3, r4) := by rw [if_pos rfl] at H; exact H
     clear H
     have H := H1
     clear H1
     by_cases c12 : t156 = 0
     ·rw [if_pos c12] at H
      have c12b0 : (t156 == 0) = true := beq_iff_eq.mpr c12
      have c12b1 : (t156 != 0) = false := bne_eq_false_iff_eq.mpr c12
      clear c12
      by_cases c13 : t155 < 100
      ·rw [if_pos c13] at H
       have c13b0 : decide (t155 < 100) = true := decide_eq_true c13
       clear c13
       simp only [Option.some.injEq, Prod.mk.injEq] at H
       obtain ⟨rfl, rfl, rfl, rfl⟩ := H
       have p4 : 0 ≤ (0 : Int) := (by omega)
       have q4 : 0 < (1 : Int) := (by omega)
       have hx4 := bt_at (⟨#[32]⟩ : ByteArray) 0
       replace p4 := eq_true p4
       replace q4 := eq_true q4
       go_enter Tryz.func41, Tryz.ntmps41
       go_wp2_with (first | ((with_reducible refine gate_callee (f := 74) rfl ?_); refine goesL_ (some 22) rfl rfl Tryz.func74 (by kernel_rfl) rfl #[.string a0, .int .u8 (bt (⟨#[32]⟩ : ByteArray) 0)] rfl (by (try simp only [List.map_toArray, List.map_cons, List.map_nil]); first | done | rfl | (simp only [List.length_drop, List.length_take]; rfl)) ?_; (with_reducible refine (octet_Cut.calls a0 (bt (⟨#[32]⟩ : ByteArray) 0) t147 t148 t149 _ A5.out).mono ?_); rintro e w14 ⟨rfl, hb⟩; refine ⟨_, rfl, ?_⟩; have n0_ := Aside0.mk (below_step (by repeat (first | (with_reducible first | exact HB.out | apply below_alloc | apply pw_below_drewN | apply below_drew1) | exact HB.out)) hb); clear HB; have HB := n0_; clear n0_; (try clear hb); (try clear hb2); (try clear hk); (try clear hi); have p6 : 0 ≤ (0 : Int) := (by omega); have q6 : 0 < (1 : Int) := (by omega); have hx6 := bt_at (⟨#[32]⟩ : ByteArray) 0; replace p6 := eq_true p6; replace q6 := eq_true q6) | ((with_reducible refine gate_callee (f := 74) rfl ?_); refine goesL_ (some 29) rfl rfl Tryz.func74 (by kernel_rfl) rfl #[.string t148, .int .u8 (bt (⟨#[32]⟩ : ByteArray) 0)] rfl (by (try simp only [List.map_toArray, List.map_cons, List.map_nil]); first | done | rfl | (simp only [List.length_drop, List.length_take]; rfl)) ?_; (with_reducible refine (octet_Cut.calls t148 (bt (⟨#[32]⟩ : ByteArray) 0) t150 t151 true _ A7.out).mono ?_); rintro e w15 ⟨rfl, hb⟩; refine ⟨_, rfl, ?_⟩; have n0_ := Aside0.mk (below_step (by repeat (first | (with_reducible first | exact HB.out | apply below_alloc | apply pw_below_drewN | apply below_drew1) | exact HB.out)) hb); clear HB; have HB := n0_; clear n0_; (try clear hb); (try clear hb2); (try clear hk); (try clear hi)) | ((with_reducible refine gate_callee (f := 60) rfl ?_); refine goesL_ (some 35) rfl rfl Tryz.func60 (by kernel_rfl) rfl #[.string t147] rfl (by (try simp only [List.map_toArray, List.map_cons, List.map_nil]); first | done | rfl | (simp only [List.length_drop, List.length_take]; rfl)) ?_; (with_reducible refine (line_version.calls t147 t153 true _ A8.out).mono ?_); rintro e w' ⟨rfl, ⟨nd, rfl⟩⟩; refine ⟨_, rfl, ?_⟩) | ((with_reducible refine gate_callee (f := 75) rfl ?_); refine goesL_ (some 40) rfl rfl Tryz.func75 (by kernel_rfl) rfl #[.string t150, .int .i64 599] rfl (by (try simp only [List.map_toArray, List.map_cons, List.map_nil]); first | done | rfl | (simp only [List.length_drop, List.length_take]; rfl)) ?_; (with_reducible refine (decimal_Number.calls t150 599 t155 t156 _ A9.out).mono ?_); rintro e w16 ⟨rfl, hb⟩; refine ⟨_, rfl, ?_⟩; have n0_ := Aside0.mk (below_step (by repeat (first | (with_reducible first | exact HB.out | apply below_alloc | apply pw_below_drewN | apply below_drew1) | exact HB.out)) hb); clear HB; have HB := n0_; clear n0_; (try clear hb); (try clear hb2); (try clear hk); (try clear hi)))
       refine bodyPost_ret (results_list (rs := [.tmp 2, .tmp 3, .tmp 4, .tmp 5]) rfl (by simp) (.tmp (.tmp (.tmp (.tmp .nil))))) rfl ?_
       exact ⟨by first | rfl | (simp [errW_none, errW_some] <;> rfl) | (simp [*, errW_none, errW_some] <;> rfl), by repeat (first | (with_reducible first | exact HB.out | apply below_alloc | apply pw_below_drewN | apply below_drew1) | exact HB.out)⟩
      ·rw [if_neg c13] at H
       have c13b0 : decide (t155 < 100) = false := decide_eq_false c13
       clear c13
       by_cases c17 : (t150.size : Int) = 3
       ·rw [if_pos c17] at H
        have c17b0 : ((t150.size : Int) == 3) = true := beq_iff_eq.mpr c17
        have c17b1 : ((t150.size : Int) != 3) = false := bne_eq_false_iff_eq.mpr c17
        clear c17
        replace H := Option.bind_eq_some_iff.mp H
        obtain ⟨t157, A180, H⟩ := H
        replace H : (if t157 = true then (some (t155, t151, t153, 0)) else (some (0, (⟨#[]⟩ : ByteArray), 0, 20))) = some (r1, r2, r3, r4) := H
        have A18 := Aside0.mk A180
        clear A180
        by_cases c19 : t157 = true
        ·subst c19
         have H1 : (some (t155, t151, t153, 0)) = some (r1, r2, r3, r4) := by rw [if_pos rfl] at H; exact H
         clear H
         have H := H1
         clear H1
         simp only [Option.some.injEq, Prod.mk.injEq] at H
         obtain ⟨rfl, rfl, rfl, rfl⟩ := H
         have p4 : 0 ≤ (0 : Int) := (by omega)
         have q4 : 0 < (1 : Int) := (by omega)
         have hx4 := bt_at (⟨#[32]⟩ : ByteArray) 0
         replace p4 := eq_true p4
         replace q4 := eq_true q4
         go_enter Tryz.func41, Tryz.ntmps41
         go_wp2_with (first | ((with_reducible refine gate_callee (f := 74) rfl ?_); refine goesL_ (some 22) rfl rfl Tryz.func74 (by kernel_rfl) rfl #[.string a0, .int .u8 (bt (⟨#[32]⟩ : ByteArray) 0)] rfl (by (try simp only [List.map_toArray, List.map_cons, List.map_nil]); first | done | rfl | (simp only [List.length_drop, List.length_take]; rfl)) ?_; (with_reducible refine (octet_Cut.calls a0 (bt (⟨#[32]⟩ : ByteArray) 0) t147 t148 t149 _ A5.out).mono ?_); rintro e w20 ⟨rfl, hb⟩; refine ⟨_, rfl, ?_⟩; have n0_ := Aside0.mk (below_step (by repeat (first | (with_reducible first | exact HB.out | apply below_alloc | apply pw_below_drewN | apply below_drew1) | exact HB.out)) hb); clear HB; have HB := n0_; clear n0_; (try clear hb); (try clear hb2); (try clear hk); (try clear hi); have p6 : 0 ≤ (0 : Int) := (by omega); have q6 : 0 < (1 : Int) := (by omega); have hx6 := bt_at (⟨#[32]⟩ : ByteArray) 0; replace p6 := eq_true p6; replace q6 := eq_true q6) | ((with_reducible refine gate_callee (f := 74) rfl ?_); refine goesL_ (some 29) rfl rfl Tryz.func74 (by kernel_rfl) rfl #[.string t148, .int .u8 (bt (⟨#[32]⟩ : ByteArray) 0)] rfl (by (try simp only [List.map_toArray, List.map_cons, List.map_nil]); first | done | rfl | (simp only [List.length_drop, List.length_take]; rfl)) ?_; (with_reducible refine (octet_Cut.calls t148 (bt (⟨#[32]⟩ : ByteArray) 0) t150 t151 true _ A7.out).mono ?_); rintro e w21 ⟨rfl, hb⟩; refine ⟨_, rfl, ?_⟩; have n0_ := Aside0.mk (below_step (by repeat (first | (with_reducible first | exact HB.out | apply below_alloc | apply pw_below_drewN | apply below_drew1) | exact HB.out)) hb); clear HB; have HB := n0_; clear n0_; (try clear hb); (try clear hb2); (try clear hk); (try clear hi)) | ((with_reducible refine gate_callee (f := 60) rfl ?_); refine goesL_ (some 35) rfl rfl Tryz.func60 (by kernel_rfl) rfl #[.string t147] rfl (by (try simp only [List.map_toArray, List.map_cons, List.map_nil]); first | done | rfl | (simp only [List.length_drop, List.length_take]; rfl)) ?_; (with_reducible refine (line_version.calls t147 t153 true _ A8.out).mono ?_); rintro e w' ⟨rfl, ⟨nd, rfl⟩⟩; refine ⟨_, rfl, ?_⟩) | ((with_reducible refine gate_callee (f := 75) rfl ?_); refine goesL_ (some 40) rfl rfl Tryz.func75 (by kernel_rfl) rfl #[.string t150, .int .i64 599] rfl (by (try simp only [List.map_toArray, List.map_cons, List.map_nil]); first | done | rfl | (simp only [List.length_drop, List.length_take]; rfl)) ?_; (with_reducible refine (decimal_Number.calls t150 599 t155 t156 _ A9.out).mono ?_); rintro e w22 ⟨rfl, hb⟩; refine ⟨_, rfl, ?_⟩; have n0_ := Aside0.mk (below_step (by repeat (first | (with_reducible first | exact HB.out | apply below_alloc | apply pw_below_drewN | apply below_drew1) | exact HB.out)) hb); clear HB; have HB := n0_; clear n0_; (try clear hb); (try clear hb2); (try clear hk); (try clear hi)) | (go_at_call 76; (with_reducible refine (octet_IsText.calls t151 true _ A18.out).mono ?_); rintro e w23 ⟨rfl, hb⟩; have n0_ := Aside0.mk (below_step (by repeat (first | (with_reducible first | exact HB.out | apply below_alloc | apply pw_below_drewN | apply below_drew1) | exact HB.out)) hb); clear HB; have HB := n0_; clear n0_; (try clear hb); (try clear hb2); (try clear hk); (try clear hi)))
         refine bodyPost_ret (results_list (rs := [.tmp 2, .tmp 3, .tmp 4, .tmp 5]) rfl (by simp) (.tmp (.tmp (.tmp (.tmp .nil))))) rfl ?_
         exact ⟨by first | rfl | (simp [errW_none, errW_some] <;> rfl) | (simp [*, errW_none, errW_some] <;> rfl), by repeat (first | (with_reducible first | exact HB.out | apply below_alloc | apply pw_below_drewN | apply below_drew1) | exact HB.out)⟩
        ·replace c19 := Bool.eq_false_iff.mpr c19
         subst c19
         have H1 : (some (0, (⟨#[]⟩ : ByteArray), 0, 20)) = some (r1, r2, r3, r4) := by rw [if_neg (show ¬ (false = true) by decide)] at H; exact H
         clear H
         have H := H1
         clear H1
         simp only [Option.some.injEq, Prod.mk.injEq] at H
         obtain ⟨rfl, rfl, rfl, rfl⟩ := H
         have p4 : 0 ≤ (0 : Int) := (by omega)
         have q4 : 0 < (1 : Int) := (by omega)
         have hx4 := bt_at (⟨#[32]⟩ : ByteArray) 0
         replace p4 := eq_true p4
         replace q4 := eq_true q4
         go_enter Tryz.func41, Tryz.ntmps41
         go_wp2_with (first | ((with_reducible refine gate_callee (f := 74) rfl ?_); refine goesL_ (some 22) rfl rfl Tryz.func74 (by kernel_rfl) rfl #[.string a0, .int .u8 (bt (⟨#[32]⟩ : ByteArray) 0)] rfl (by (try simp only [List.map_toArray, List.map_cons, List.map_nil]); first | done | rfl | (simp only [List.length_drop, List.length_take]; rfl)) ?_; (with_reducible refine (octet_Cut.calls a0 (bt (⟨#[32]⟩ : ByteArray) 0) t147 t148 t149 _ A5.out).mono ?_); rintro e w24 ⟨rfl, hb⟩; refine ⟨_, rfl, ?_⟩; have n0_ := Aside0.mk (below_step (by repeat (first | (with_reducible first | exact HB.out | apply below_alloc | apply pw_below_drewN | apply below_drew1) | exact HB.out)) hb); clear HB; have HB := n0_; clear n0_; (try clear hb); (try clear hb2); (try clear hk); (try clear hi); have p6 : 0 ≤ (0 : Int) := (by omega); have q6 : 0 < (1 : Int) := (by omega); have hx6 := bt_at (⟨#[32]⟩ : ByteArray) 0; replace p6 := eq_true p6; replace q6 := eq_true q6) | ((with_reducible refine gate_callee (f := 74) rfl ?_); refine goesL_ (some 29) rfl rfl Tryz.func74 (by kernel_rfl) rfl #[.string t148, .int .u8 (bt (⟨#[32]⟩ : ByteArray) 0)] rfl (by (try simp only [List.map_toArray, List.map_cons, List.map_nil]); first | done | rfl | (simp only [List.length_drop, List.length_take]; rfl)) ?_; (with_reducible refine (octet_Cut.calls t148 (bt (⟨#[32]⟩ : ByteArray) 0) t150 t151 true _ A7.out).mono ?_); rintro e w25 ⟨rfl, hb⟩; refine ⟨_, rfl, ?_⟩; have n0_ := Aside0.mk (below_step (by repeat (first | (with_reducible first | exact HB.out | apply below_alloc | apply pw_below_drewN | apply below_drew1) | exact HB.out)) hb); clear HB; have HB := n0_; clear n0_; (try clear hb); (try clear hb2); (try clear hk); (try clear hi)) | ((with_reducible refine gate_callee (f := 60) rfl ?_); refine goesL_ (some 35) rfl rfl Tryz.func60 (by kernel_rfl) rfl #[.string t147] rfl (by (try simp only [List.map_toArray, List.map_cons, List.map_nil]); first | done | rfl | (simp only [List.length_drop, List.length_take]; rfl)) ?_; (with_reducible refine (line_version.calls t147 t153 true _ A8.out).mono ?_); rintro e w' ⟨rfl, ⟨nd, rfl⟩⟩; refine ⟨_, rfl, ?_⟩) | ((with_reducible refine gate_callee (f := 75) rfl ?_); refine goesL_ (some 40) rfl rfl Tryz.func75 (by kernel_rfl) rfl #[.string t150, .int .i64 599] rfl (by (try simp only [List.map_toArray, List.map_cons, List.map_nil]); first | done | rfl | (simp only [List.length_drop, List.length_take]; rfl)) ?_; (with_reducible refine (decimal_Number.calls t150 599 t155 t156 _ A9.out).mono ?_); rintro e w26 ⟨rfl, hb⟩; refine ⟨_, rfl, ?_⟩; have n0_ := Aside0.mk (below_step (by repeat (first | (with_reducible first | exact HB.out | apply below_alloc | apply pw_below_drewN | apply below_drew1) | exact HB.out)) hb); clear HB; have HB := n0_; clear n0_; (try clear hb); (try clear hb2); (try clear hk); (try clear hi)) | (go_at_call 76; (with_reducible refine (octet_IsText.calls t151 false _ A18.out).mono ?_); rintro e w27 ⟨rfl, hb⟩; have n0_ := Aside0.mk (below_step (by repeat (first | (with_reducible first | exact HB.out | apply below_alloc | apply pw_below_drewN | apply below_drew1) | exact HB.out)) hb); clear HB; have HB := n0_; clear n0_; (try clear hb); (try clear hb2); (try clear hk); (try clear hi)))
         refine bodyPost_ret (results_list (rs := [.tmp 2, .tmp 3, .tmp 4, .tmp 5]) rfl (by simp) (.tmp (.tmp (.tmp (.tmp .nil))))) rfl ?_
         exact ⟨by first | rfl | (simp [errW_none, errW_some] <;> rfl) | (simp [*, errW_none, errW_some] <;> rfl), by repeat (first | (with_reducible first | exact HB.out | apply below_alloc | apply pw_below_drewN | apply below_drew1) | exact HB.out)⟩
       ·rw [if_neg c17] at H
        have c17b0 : ((t150.size : Int) == 3) = false := beq_eq_false_iff_ne.mpr c17
        have c17b1 : ((t150.size : Int) != 3) = true := bne_iff_ne.mpr c17
        simp only [Option.some.injEq, Prod.mk.injEq] at H
        obtain ⟨rfl, rfl, rfl, rfl⟩ := H
        have p4 : 0 ≤ (0 : Int) := (by omega)
        have q4 : 0 < (1 : Int) := (by omega)
        have hx4 := bt_at (⟨#[32]⟩ : ByteArray) 0
        replace p4 := eq_true p4
        replace q4 := eq_true q4
        go_enter Tryz.func41, Tryz.ntmps41
        go_wp2_with (first | ((with_reducible refine gate_callee (f := 74) rfl ?_); refine goesL_ (some 22) rfl rfl Tryz.func74 (by kernel_rfl) rfl #[.string a0, .int .u8 (bt (⟨#[32]⟩ : ByteArray) 0)] rfl (by (try simp only [List.map_toArray, List.map_cons, List.map_nil]); first | done | rfl | (simp only [List.length_drop, List.length_take]; rfl)) ?_; (with_reducible refine (octet_Cut.calls a0 (bt (⟨#[32]⟩ : ByteArray) 0) t147 t148 t149 _ A5.out).mono ?_); rintro e w28 ⟨rfl, hb⟩; refine ⟨_, rfl, ?_⟩; have n0_ := Aside0.mk (below_step (by repeat (first | (with_reducible first | exact HB.out | apply below_alloc | apply pw_below_drewN | apply below_drew1) | exact HB.out)) hb); clear HB; have HB := n0_; clear n0_; (try clear hb); (try clear hb2); (try clear hk); (try clear hi); have p6 : 0 ≤ (0 : Int) := (by omega); have q6 : 0 < (1 : Int) := (by omega); have hx6 := bt_at (⟨#[32]⟩ : ByteArray) 0; replace p6 := eq_true p6; replace q6 := eq_true q6) | ((with_reducible refine gate_callee (f := 74) rfl ?_); refine goesL_ (some 29) rfl rfl Tryz.func74 (by kernel_rfl) rfl #[.string t148, .int .u8 (bt (⟨#[32]⟩ : ByteArray) 0)] rfl (by (try simp only [List.map_toArray, List.map_cons, List.map_nil]); first | done | rfl | (simp only [List.length_drop, List.length_take]; rfl)) ?_; (with_reducible refine (octet_Cut.calls t148 (bt (⟨#[32]⟩ : ByteArray) 0) t150 t151 true _ A7.out).mono ?_); rintro e w29 ⟨rfl, hb⟩; refine ⟨_, rfl, ?_⟩; have n0_ := Aside0.mk (below_step (by repeat (first | (with_reducible first | exact HB.out | apply below_alloc | apply pw_below_drewN | apply below_drew1) | exact HB.out)) hb); clear HB; have HB := n0_; clear n0_; (try clear hb); (try clear hb2); (try clear hk); (try clear hi)) | ((with_reducible refine gate_callee (f := 60) rfl ?_); refine goesL_ (some 35) rfl rfl Tryz.func60 (by kernel_rfl) rfl #[.string t147] rfl (by (try simp only [List.map_toArray, List.map_cons, List.map_nil]); first | done | rfl | (simp only [List.length_drop, List.length_take]; rfl)) ?_; (with_reducible refine (line_version.calls t147 t153 true _ A8.out).mono ?_); rintro e w' ⟨rfl, ⟨nd, rfl⟩⟩; refine ⟨_, rfl, ?_⟩) | ((with_reducible refine gate_callee (f := 75) rfl ?_); refine goesL_ (some 40) rfl rfl Tryz.func75 (by kernel_rfl) rfl #[.string t150, .int .i64 599] rfl (by (try simp only [List.map_toArray, List.map_cons, List.map_nil]); first | done | rfl | (simp only [List.length_drop, List.length_take]; rfl)) ?_; (with_reducible refine (decimal_Number.calls t150 599 t155 t156 _ A9.out).mono ?_); rintro e w30 ⟨rfl, hb⟩; refine ⟨_, rfl, ?_⟩; have n0_ := Aside0.mk (below_step (by repeat (first | (with_reducible first | exact HB.out | apply below_alloc | apply pw_below_drewN | apply below_drew1) | exact HB.out)) hb); clear HB; have HB := n0_; clear n0_; (try clear hb); (try clear hb2); (try clear hk); (try clear hi)))
        refine bodyPost_ret (results_list (rs := [.tmp 2, .tmp 3, .tmp 4, .tmp 5]) rfl (by simp) (.tmp (.tmp (.tmp (.tmp .nil))))) rfl ?_
        exact ⟨by first | rfl | (simp [errW_none, errW_some] <;> rfl) | (simp [*, errW_none, errW_some] <;> rfl), by repeat (first | (with_reducible first | exact HB.out | apply below_alloc | apply pw_below_drewN | apply below_drew1) | exact HB.out)⟩
     ·rw [if_neg c12] at H
      have c12b0 : (t156 == 0) = false := beq_eq_false_iff_ne.mpr c12
      have c12b1 : (t156 != 0) = true := bne_iff_ne.mpr c12
      simp only [Option.some.injEq, Prod.mk.injEq] at H
      obtain ⟨rfl, rfl, rfl, rfl⟩ := H
      have p4 : 0 ≤ (0 : Int) := (by omega)
      have q4 : 0 < (1 : Int) := (by omega)
      have hx4 := bt_at (⟨#[32]⟩ : ByteArray) 0
      replace p4 := eq_true p4
      replace q4 := eq_true q4
      go_enter Tryz.func41, Tryz.ntmps41
      go_wp2_with (first | ((with_reducible refine gate_callee (f := 74) rfl ?_); refine goesL_ (some 22) rfl rfl Tryz.func74 (by kernel_rfl) rfl #[.string a0, .int .u8 (bt (⟨#[32]⟩ : ByteArray) 0)] rfl (by (try simp only [List.map_toArray, List.map_cons, List.map_nil]); first | done | rfl | (simp only [List.length_drop, List.length_take]; rfl)) ?_; (with_reducible refine (octet_Cut.calls a0 (bt (⟨#[32]⟩ : ByteArray) 0) t147 t148 t149 _ A5.out).mono ?_); rintro e w31 ⟨rfl, hb⟩; refine ⟨_, rfl, ?_⟩; have n0_ := Aside0.mk (below_step (by repeat (first | (with_reducible first | exact HB.out | apply below_alloc | apply pw_below_drewN | apply below_drew1) | exact HB.out)) hb); clear HB; have HB := n0_; clear n0_; (try clear hb); (try clear hb2); (try clear hk); (try clear hi); have p6 : 0 ≤ (0 : Int) := (by omega); have q6 : 0 < (1 : Int) := (by omega); have hx6 := bt_at (⟨#[32]⟩ : ByteArray) 0; replace p6 := eq_true p6; replace q6 := eq_true q6) | ((with_reducible refine gate_callee (f := 74) rfl ?_); refine goesL_ (some 29) rfl rfl Tryz.func74 (by kernel_rfl) rfl #[.string t148, .int .u8 (bt (⟨#[32]⟩ : ByteArray) 0)] rfl (by (try simp only [List.map_toArray, List.map_cons, List.map_nil]); first | done | rfl | (simp only [List.length_drop, List.length_take]; rfl)) ?_; (with_reducible refine (octet_Cut.calls t148 (bt (⟨#[32]⟩ : ByteArray) 0) t150 t151 true _ A7.out).mono ?_); rintro e w32 ⟨rfl, hb⟩; refine ⟨_, rfl, ?_⟩; have n0_ := Aside0.mk (below_step (by repeat (first | (with_reducible first | exact HB.out | apply below_alloc | apply pw_below_drewN | apply below_drew1) | exact HB.out)) hb); clear HB; have HB := n0_; clear n0_; (try clear hb); (try clear hb2); (try clear hk); (try clear hi)) | ((with_reducible refine gate_callee (f := 60) rfl ?_); refine goesL_ (some 35) rfl rfl Tryz.func60 (by kernel_rfl) rfl #[.string t147] rfl (by (try simp only [List.map_toArray, List.map_cons, List.map_nil]); first | done | rfl | (simp only [List.length_drop, List.length_take]; rfl)) ?_; (with_reducible refine (line_version.calls t147 t153 true _ A8.out).mono ?_); rintro e w' ⟨rfl, ⟨nd, rfl⟩⟩; refine ⟨_, rfl, ?_⟩) | ((with_reducible refine gate_callee (f := 75) rfl ?_); refine goesL_ (some 40) rfl rfl Tryz.func75 (by kernel_rfl) rfl #[.string t150, .int .i64 599] rfl (by (try simp only [List.map_toArray, List.map_cons, List.map_nil]); first | done | rfl | (simp only [List.length_drop, List.length_take]; rfl)) ?_; (with_reducible refine (decimal_Number.calls t150 599 t155 t156 _ A9.out).mono ?_); rintro e w33 ⟨rfl, hb⟩; refine ⟨_, rfl, ?_⟩; have n0_ := Aside0.mk (below_step (by repeat (first | (with_reducible first | exact HB.out | apply below_alloc | apply pw_below_drewN | apply below_drew1) | exact HB.out)) hb); clear HB; have HB := n0_; clear n0_; (try clear hb); (try clear hb2); (try clear hk); (try clear hi)))
      refine bodyPost_ret (results_list (rs := [.tmp 2, .tmp 3, .tmp 4, .tmp 5]) rfl (by simp) (.tmp (.tmp (.tmp (.tmp .nil))))) rfl ?_
      exact ⟨by first | rfl | (simp [errW_none, errW_some] <;> rfl) | (simp [*, errW_none, errW_some] <;> rfl), by repeat (first | (with_reducible first | exact HB.out | apply below_alloc | apply pw_below_drewN | apply below_drew1) | exact HB.out)⟩
    ·replace c11 := Bool.eq_false_iff.mpr c11
     subst c11
     have H1 : (some (0, (⟨#[]⟩ : ByteArray), 0, 20)) = some (r1, r2, r3, r4) := by rw [if_neg (show ¬ (false = true) by decide)] at H; exact H
     clear H
     have H := H1
     clear H1
     simp only [Option.some.injEq, Prod.mk.injEq] at H
     obtain ⟨rfl, rfl, rfl, rfl⟩ := H
     have p4 : 0 ≤ (0 : Int) := (by omega)
     have q4 : 0 < (1 : Int) := (by omega)
     have hx4 := bt_at (⟨#[32]⟩ : ByteArray) 0
     replace p4 := eq_true p4
     replace q4 := eq_true q4
     go_enter Tryz.func41, Tryz.ntmps41
     go_wp2_with (first | ((with_reducible refine gate_callee (f := 74) rfl ?_); refine goesL_ (some 22) rfl rfl Tryz.func74 (by kernel_rfl) rfl #[.string a0, .int .u8 (bt (⟨#[32]⟩ : ByteArray) 0)] rfl (by (try simp only [List.map_toArray, List.map_cons, List.map_nil]); first | done | rfl | (simp only [List.length_drop, List.length_take]; rfl)) ?_; (with_reducible refine (octet_Cut.calls a0 (bt (⟨#[32]⟩ : ByteArray) 0) t147 t148 t149 _ A5.out).mono ?_); rintro e w34 ⟨rfl, hb⟩; refine ⟨_, rfl, ?_⟩; have n0_ := Aside0.mk (below_step (by repeat (first | (with_reducible first | exact HB.out | apply below_alloc | apply pw_below_drewN | apply below_drew1) | exact HB.out)) hb); clear HB; have HB := n0_; clear n0_; (try clear hb); (try clear hb2); (try clear hk); (try clear hi); have p6 : 0 ≤ (0 : Int) := (by omega); have q6 : 0 < (1 : Int) := (by omega); have hx6 := bt_at (⟨#[32]⟩ : ByteArray) 0; replace p6 := eq_true p6; replace q6 := eq_true q6) | ((with_reducible refine gate_callee (f := 74) rfl ?_); refine goesL_ (some 29) rfl rfl Tryz.func74 (by kernel_rfl) rfl #[.string t148, .int .u8 (bt (⟨#[32]⟩ : ByteArray) 0)] rfl (by (try simp only [List.map_toArray, List.map_cons, List.map_nil]); first | done | rfl | (simp only [List.length_drop, List.length_take]; rfl)) ?_; (with_reducible refine (octet_Cut.calls t148 (bt (⟨#[32]⟩ : ByteArray) 0) t150 t151 false _ A7.out).mono ?_); rintro e w35 ⟨rfl, hb⟩; refine ⟨_, rfl, ?_⟩; have n0_ := Aside0.mk (below_step (by repeat (first | (with_reducible first | exact HB.out | apply below_alloc | apply pw_below_drewN | apply below_drew1) | exact HB.out)) hb); clear HB; have HB := n0_; clear n0_; (try clear hb); (try clear hb2); (try clear hk); (try clear hi)) | ((with_reducible refine gate_callee (f := 60) rfl ?_); refine goesL_ (some 35) rfl rfl Tryz.func60 (by kernel_rfl) rfl #[.string t147] rfl (by (try simp only [List.map_toArray, List.map_cons, List.map_nil]); first | done | rfl | (simp only [List.length_drop, List.length_take]; rfl)) ?_; (with_reducible refine (line_version.calls t147 t153 true _ A8.out).mono ?_); rintro e w' ⟨rfl, ⟨nd, rfl⟩⟩; refine ⟨_, rfl, ?_⟩) | ((with_reducible refine gate_callee (f := 75) rfl ?_); refine goesL_ (some 40) rfl rfl Tryz.func75 (by kernel_rfl) rfl #[.string t150, .int .i64 599] rfl (by (try simp only [List.map_toArray, List.map_cons, List.map_nil]); first | done | rfl | (simp only [List.length_drop, List.length_take]; rfl)) ?_; (with_reducible refine (decimal_Number.calls t150 599 t155 t156 _ A9.out).mono ?_); rintro e w36 ⟨rfl, hb⟩; refine ⟨_, rfl, ?_⟩; have n0_ := Aside0.mk (below_step (by repeat (first | (with_reducible first | exact HB.out | apply below_alloc | apply pw_below_drewN | apply below_drew1) | exact HB.out)) hb); clear HB; have HB := n0_; clear n0_; (try clear hb); (try clear hb2); (try clear hk); (try clear hi)))
     refine bodyPost_ret (results_list (rs := [.tmp 2, .tmp 3, .tmp 4, .tmp 5]) rfl (by simp) (.tmp (.tmp (.tmp (.tmp .nil))))) rfl ?_
     exact ⟨by first | rfl | (simp [errW_none, errW_some] <;> rfl) | (simp [*, errW_none, errW_some] <;> rfl), by repeat (first | (with_reducible first | exact HB.out | apply below_alloc | apply pw_below_drewN | apply below_drew1) | exact HB.out)⟩
   ·replace c10 := Bool.eq_false_iff.mpr c10
    subst c10
    have H1 : (some (0, (⟨#[]⟩ : ByteArray), 0, 20)) = some (r1, r2, r3, r4) := by rw [if_neg (show ¬ (false = true) by decide)] at H; exact H
    clear H
    have H := H1
    clear H1
    simp only [Option.some.injEq, Prod.mk.injEq] at H
    obtain ⟨rfl, rfl, rfl, rfl⟩ := H
    have p4 : 0 ≤ (0 : Int) := (by omega)
    have q4 : 0 < (1 : Int) := (by omega)
    have hx4 := bt_at (⟨#[32]⟩ : ByteArray) 0
    replace p4 := eq_true p4
    replace q4 := eq_true q4
    go_enter Tryz.func41, Tryz.ntmps41
    go_wp2_with (first | ((with_reducible refine gate_callee (f := 74) rfl ?_); refine goesL_ (some 22) rfl rfl Tryz.func74 (by kernel_rfl) rfl #[.string a0, .int .u8 (bt (⟨#[32]⟩ : ByteArray) 0)] rfl (by (try simp only [List.map_toArray, List.map_cons, List.map_nil]); first | done | rfl | (simp only [List.length_drop, List.length_take]; rfl)) ?_; (with_reducible refine (octet_Cut.calls a0 (bt (⟨#[32]⟩ : ByteArray) 0) t147 t148 t149 _ A5.out).mono ?_); rintro e w37 ⟨rfl, hb⟩; refine ⟨_, rfl, ?_⟩; have n0_ := Aside0.mk (below_step (by repeat (first | (with_reducible first | exact HB.out | apply below_alloc | apply pw_below_drewN | apply below_drew1) | exact HB.out)) hb); clear HB; have HB := n0_; clear n0_; (try clear hb); (try clear hb2); (try clear hk); (try clear hi); have p6 : 0 ≤ (0 : Int) := (by omega); have q6 : 0 < (1 : Int) := (by omega); have hx6 := bt_at (⟨#[32]⟩ : ByteArray) 0; replace p6 := eq_true p6; replace q6 := eq_true q6) | ((with_reducible refine gate_callee (f := 74) rfl ?_); refine goesL_ (some 29) rfl rfl Tryz.func74 (by kernel_rfl) rfl #[.string t148, .int .u8 (bt (⟨#[32]⟩ : ByteArray) 0)] rfl (by (try simp only [List.map_toArray, List.map_cons, List.map_nil]); first | done | rfl | (simp only [List.length_drop, List.length_take]; rfl)) ?_; (with_reducible refine (octet_Cut.calls t148 (bt (⟨#[32]⟩ : ByteArray) 0) t150 t151 t152 _ A7.out).mono ?_); rintro e w38 ⟨rfl, hb⟩; refine ⟨_, rfl, ?_⟩; have n0_ := Aside0.mk (below_step (by repeat (first | (with_reducible first | exact HB.out | apply below_alloc | apply pw_below_drewN | apply below_drew1) | exact HB.out)) hb); clear HB; have HB := n0_; clear n0_; (try clear hb); (try clear hb2); (try clear hk); (try clear hi)) | ((with_reducible refine gate_callee (f := 60) rfl ?_); refine goesL_ (some 35) rfl rfl Tryz.func60 (by kernel_rfl) rfl #[.string t147] rfl (by (try simp only [List.map_toArray, List.map_cons, List.map_nil]); first | done | rfl | (simp only [List.length_drop, List.length_take]; rfl)) ?_; (with_reducible refine (line_version.calls t147 t153 false _ A8.out).mono ?_); rintro e w' ⟨rfl, ⟨nd, rfl⟩⟩; refine ⟨_, rfl, ?_⟩) | ((with_reducible refine gate_callee (f := 75) rfl ?_); refine goesL_ (some 40) rfl rfl Tryz.func75 (by kernel_rfl) rfl #[.string t150, .int .i64 599] rfl (by (try simp only [List.map_toArray, List.map_cons, List.map_nil]); first | done | rfl | (simp only [List.length_drop, List.length_take]; rfl)) ?_; (with_reducible refine (decimal_Number.calls t150 599 t155 t156 _ A9.out).mono ?_); rintro e w39 ⟨rfl, hb⟩; refine ⟨_, rfl, ?_⟩; have n0_ := Aside0.mk (below_step (by repeat (first | (with_reducible first | exact HB.out | apply below_alloc | apply pw_below_drewN | apply below_drew1) | exact HB.out)) hb); clear HB; have HB := n0_; clear n0_; (try clear hb); (try clear hb2); (try clear hk); (try clear hi)))
    refine bodyPost_ret (results_list (rs := [.tmp 2, .tmp 3, .tmp 4, .tmp 5]) rfl (by simp) (.tmp (.tmp (.tmp (.tmp .nil))))) rfl ?_
    exact ⟨by first | rfl | (simp [errW_none, errW_some] <;> rfl) | (simp [*, errW_none, errW_some] <;> rfl), by repeat (first | (with_reducible first | exact HB.out | apply below_alloc | apply pw_below_drewN | apply below_drew1) | exact HB.out)⟩
  ·rw [if_neg c3] at H
   exact absurd H (by simp)

/-! ### message_ParseReply: function 12: told by hand -/
def message_ParseReply.f (k : Nat) (a0 : ByteArray) (a1 : ByteArray) : Option (Int × ByteArray × Int × (List S98) × ByteArray × Int) :=
 (msgBegin a0).bind fun g => if g.1 = 0 then
  ((line_Status.f (g.2.1.getD 0 ByteArray.empty)).bind fun q => if q.2.2.2 = 0 then
   (if q.1 < 200 then some (0, (⟨#[]⟩ : ByteArray), 0, [], (⟨#[]⟩ : ByteArray), 20) else
   (rowsS (g.2.1.drop 1)).bind fun rs => if rs.1 = 0 then
    ((bareP rs.2).bind fun fs => (message_Bodiless.f q.1).bind fun nb => if ((a1.toList == [72, 69, 65, 68]) || nb) = true then
     (if g.2.2.size = 0 then some (q.1, q.2.1, q.2.2.1, fs, (⟨#[]⟩ : ByteArray), 0) else some (0, (⟨#[]⟩ : ByteArray), 0, [], (⟨#[]⟩ : ByteArray), 22))
    else (bodyP k rs.2 g.2.2 q.2.2.1 true).bind fun bd => if bd.2 = 0 then some (q.1, q.2.1, q.2.2.1, fs, bd.1, 0) else some (0, (⟨#[]⟩ : ByteArray), 0, [], (⟨#[]⟩ : ByteArray), bd.2))
   else some (0, (⟨#[]⟩ : ByteArray), 0, [], (⟨#[]⟩ : ByteArray), rs.1))
  else some (0, (⟨#[]⟩ : ByteArray), 0, [], (⟨#[]⟩ : ByteArray), q.2.2.2))
 else some (0, (⟨#[]⟩ : ByteArray), 0, [], (⟨#[]⟩ : ByteArray), g.1)
theorem message_ParseReply.mono : ∀ a0 a1 k, LeO (message_ParseReply.f k a0 a1) (message_ParseReply.f (k + 1) a0 a1) := fun a0 a1 k => by
 unfold message_ParseReply.f
 exact LeO.bind (LeO.refl _) fun _ => LeO.ite (LeO.bind (LeO.refl _) fun _ => LeO.ite (LeO.ite (LeO.refl _) (LeO.bind (LeO.refl _) fun _ => LeO.ite (LeO.bind (LeO.refl _) fun _ => LeO.bind (LeO.refl _) fun _ => LeO.ite (LeO.refl _) (LeO.bind (bodyP_mono k _ _ _ _) fun _ => LeO.refl _)) (LeO.refl _))) (LeO.refl _)) (LeO.refl _)
set_option maxHeartbeats 1600000 in
set_option maxRecDepth 100000 in
theorem message_ParseReply.calls (k : Nat) (a0 : ByteArray) (a1 : ByteArray) (r1 : Int) (r2 : ByteArray) (r3 : Int) (r4 : List (S98)) (r5 : ByteArray) (r6 : Int) (w : World) (HT : Aside0 (Hand.Laid w)) (h : message_ParseReply.f k a0 a1 = some (r1, r2, r3, r4, r5, r6)) :
  Calls Tryz.prog 12 #[.string a0, .string a1] w fun e w' => ∃ v3_ : Value, e = .returned (.tuple #[.agg #[.int .i64 r1, .string r2, .int .i64 r3, v3_, .string r5], .int .i64 r6]) ∧ Kd.R k98 98 w' w.heap.size (fun _ => True) v3_ r4 ∧ Below w.heap.size w w' := by
 unfold message_ParseReply.f at h
 obtain ⟨⟨g1, gl, gr⟩, hg, h⟩ := Option.bind_eq_some_iff.1 h
 simp only at h
 have hb0 := Hand.alloc_below w (.cells #[.int .i64 0, .string (⟨#[]⟩ : ByteArray), .int .i64 0, .slice none 0 0, .string (⟨#[]⟩ : ByteArray)] 34)
 have hz := blk_new w (.cells #[.int .i64 0, .string (⟨#[]⟩ : ByteArray), .int .i64 0, .slice none 0 0, .string (⟨#[]⟩ : ByteArray)] 34)
 by_cases h1 : g1 = 0
 ·subst h1
  rw [if_pos rfl] at h
  obtain ⟨hl0, hbeg⟩ := message_begin_ok a0 gl gr _ ⟨HT.out.below hb0⟩ hg
  obtain ⟨⟨q1, q2, q3, q4⟩, hq, h⟩ := Option.bind_eq_some_iff.1 h
  simp only at h hq
  generalize gl.getD 0 ByteArray.empty = first at hbeg hq
  have HG := Aside0.mk hbeg
  have HQ := Aside0.mk hq
  have HB0 := Aside0.mk hb0
  have HZ := Aside0.mk hz
  have hlt0 := blk_lt hz
  clear hg hbeg hq hb0 hz
  go_enter Tryz.func12, Tryz.ntmps12
  go_upto_region 1 with (fail)
  generalize w.alloc (.cells #[.int .i64 0, .string (⟨#[]⟩ : ByteArray), .int .i64 0, .slice none 0 0, .string (⟨#[]⟩ : ByteArray)] 34) = W0 at HG HB0 HZ hlt0 ⊢
  go_upto_region 4 with (go_at_call 27; refine HG.out.mono ?_; rintro e w1 ⟨b, A, c, rfl, hk, hC, hc, ha, hB, hb⟩; obtain ⟨bl, ob, o, hbl, hA, hob, hcells⟩ := begin_rows hC (by omega) ha; have HK := Aside0.mk hk; have HOB := Aside0.mk hob; have HCE := Aside0.mk hcells; have HB1 := Aside0.mk hb; clear HG hk hC hc ha hob hcells hb)
  go_upto_region 5 with (fail)
  have P0 : Aside0 (PaAt W0 b bl ob (gl.drop 1).length #[.string first, .slice none 0 0, .int .i64 0, .slice A (gl.drop 1).length c, .string gr] (.slice none 0 0) [] w1.heap.size #[.int .i64 0, .string (⟨#[]⟩ : ByteArray), .int .i64 0, .slice none 0 0, .string (⟨#[]⟩ : ByteArray)] 34 (w1.alloc (.cells #[.int .i64 0, .string (⟨#[]⟩ : ByteArray), .int .i64 0, .slice none 0 0, .string (⟨#[]⟩ : ByteArray)] 34))) := ⟨blk_alloc HK.out _, Kd.R_nil _ _ _ _ _, fun hn => blk_alloc (HOB.out hn) _, HB1.out.alloc HB1.out.size _, hB, hbl, blk_new _ _, blk_lt HK.out, by decide, by decide⟩
  clear HK HOB HB1
  generalize w1.heap.size = g at P0 ⊢
  generalize w1.alloc (.cells #[.int .i64 0, .string (⟨#[]⟩ : ByteArray), .int .i64 0, .slice none 0 0, .string (⟨#[]⟩ : ByteArray)] 34) = w2 at P0 ⊢
  have k0 := blk_cell P0.out.k 0
  go_upto_region 6 with (go_at_call 41; refine (line_Status.calls first q1 q2 q3 q4 _ HQ.out).mono ?_; rintro e w3 ⟨rfl, hb⟩; have P1 := Aside0.mk (P0.out.below hb); have c0 := blk_cell P1.out.kg 0; have c1 := blk_cell P1.out.kg 1; have c2 := blk_cell P1.out.k 2; have f0 := blk_frozen P1.out.kg 0; have f1 := blk_frozen P1.out.kg 1; have f2 := blk_frozen P1.out.k 2; have n1 := P1.out.h3; clear P0 HQ k0 hb)
  have P2 := Aside0.mk (((P1.out.putg 0 (.int .i64 q1) rfl).putg 1 (.string q2) rfl).put 2 (.int .i64 q3) rfl)
  clear P1 c0 c1 c2 f0 f1 f2 n1
  generalize ((w3.setCell ⟨g, 0, none⟩ (.int .i64 q1)).setCell ⟨g, 1, none⟩ (.string q2)).setCell ⟨b, 2, none⟩ (.int .i64 q3) = w4 at P2 ⊢
  by_cases h2 : q4 = 0
  ·subst h2
   rw [if_pos rfl] at h
   have k0g := blk_cell P2.out.kg 0
   by_cases hc : q1 < 200
   ·rw [if_pos hc] at h
    obtain ⟨rfl, rfl, rfl, rfl, rfl, rfl⟩ : 0 = r1 ∧ (⟨#[]⟩ : ByteArray) = r2 ∧ 0 = r3 ∧ [] = r4 ∧ (⟨#[]⟩ : ByteArray) = r5 ∧ 20 = r6 := by simpa using h
    have ec : decide (q1 < 200) = true := decide_eq_true hc
    clear h hc
    have HZ2 := blk_below HZ.out P2.out.hb
    have HB2 := Aside0.mk (below_step HB0.out P2.out.hb)
    have z0 := blk_cell HZ2 0
    have zf0 := blk_frozen HZ2 0
    have z1 := blk_cell HZ2 1
    have zf1 := blk_frozen HZ2 1
    have z2 := blk_cell HZ2 2
    have zf2 := blk_frozen HZ2 2
    have z3 := blk_cell HZ2 3
    have zf3 := blk_frozen HZ2 3
    have z4 := blk_cell HZ2 4
    have zf4 := blk_frozen HZ2 4
    go_wp2
    refine bodyPost_ret (results_ct rfl _ _ w.heap.size 34 #[.int .i64 0, .string (⟨#[]⟩ : ByteArray), .int .i64 0, .slice none 0 0, .string (⟨#[]⟩ : ByteArray)] (0, 0) _ rfl (blk_put (blk_put (blk_put (blk_put (blk_put HZ2 0 (.int .i64 0) rfl) 1 (.string (⟨#[]⟩ : ByteArray)) rfl) 2 (.int .i64 0) rfl) 3 (.slice none 0 0) rfl) 4 (.string (⟨#[]⟩ : ByteArray)) rfl) Tryz.underlying34 rfl (by kernel_rfl)) rfl ?_
    exact ⟨_, rfl, Kd.R_nil _ _ _ _ _, (((((HB2.out.setCell (Nat.le_refl _) _).setCell (Nat.le_refl _) _).setCell (Nat.le_refl _) _).setCell (Nat.le_refl _) _).setCell (Nat.le_refl _) _)⟩
   rw [if_neg hc] at h
   have ec : decide (q1 < 200) = false := decide_eq_false hc
   clear hc
   obtain ⟨⟨s1, s2⟩, hs, h⟩ := Option.bind_eq_some_iff.1 h
   simp only at h
   unfold rowsS at hs
   by_cases h3 : 64 < (gl.drop 1).length
   ·rw [if_pos h3] at hs
    obtain ⟨rfl, rfl⟩ : 4 = s1 ∧ [] = s2 := by simpa using hs
    rw [if_neg (by simp)] at h
    obtain ⟨rfl, rfl, rfl, rfl, rfl, rfl⟩ : 0 = r1 ∧ (⟨#[]⟩ : ByteArray) = r2 ∧ 0 = r3 ∧ [] = r4 ∧ (⟨#[]⟩ : ByteArray) = r5 ∧ 4 = r6 := by simpa using h
    have k3 := blk_cell P2.out.k 3
    clear h hs
    go_wp2_with (go_at_call 29; refine (message_rows_long b _ c A _ k3 h3).mono ?_; rintro e w5 ⟨rfl, hb⟩; have P3 := Aside0.mk (P2.out.below hb); clear P2 k3 k0g hb; have HZ3 := blk_below HZ.out P3.out.hb; have HB3 := Aside0.mk (below_step HB0.out P3.out.hb); have z0 := blk_cell HZ3 0; have zf0 := blk_frozen HZ3 0; have z1 := blk_cell HZ3 1; have zf1 := blk_frozen HZ3 1; have z2 := blk_cell HZ3 2; have zf2 := blk_frozen HZ3 2; have z3 := blk_cell HZ3 3; have zf3 := blk_frozen HZ3 3; have z4 := blk_cell HZ3 4; have zf4 := blk_frozen HZ3 4)
    refine bodyPost_ret (results_ct rfl _ _ w.heap.size 34 #[.int .i64 0, .string (⟨#[]⟩ : ByteArray), .int .i64 0, .slice none 0 0, .string (⟨#[]⟩ : ByteArray)] (0, 0) _ rfl (blk_put (blk_put (blk_put (blk_put (blk_put HZ3 0 (.int .i64 0) rfl) 1 (.string (⟨#[]⟩ : ByteArray)) rfl) 2 (.int .i64 0) rfl) 3 (.slice none 0 0) rfl) 4 (.string (⟨#[]⟩ : ByteArray)) rfl) Tryz.underlying34 rfl (by kernel_rfl)) rfl ?_
    exact ⟨_, rfl, Kd.R_nil _ _ _ _ _, (((((HB3.out.setCell (Nat.le_refl _) _).setCell (Nat.le_refl _) _).setCell (Nat.le_refl _) _).setCell (Nat.le_refl _) _).setCell (Nat.le_refl _) _)⟩
   rw [if_neg h3] at hs
   have HRW := Aside0.mk (message_rows W0 b bl ob _ gr q3 A c (gl.drop 1) g _ 34 w4 P2.out o hA HCE.out (s1, s2) hs (by omega))
   clear hs HCE
   by_cases h4 : s1 = 0
   case neg =>
    rw [if_neg h4] at h
    obtain ⟨rfl, rfl, rfl, rfl, rfl, rfl⟩ : 0 = r1 ∧ (⟨#[]⟩ : ByteArray) = r2 ∧ 0 = r3 ∧ [] = r4 ∧ (⟨#[]⟩ : ByteArray) = r5 ∧ s1 = r6 := by simpa using h
    have e4 : (s1 != 0) = true := bne_iff_ne.2 h4
    clear h h4
    go_wp2_with (go_at_call 29; refine HRW.out.mono ?_; rintro e w5 ⟨rfl, A1, c1, hp⟩; have P3 := Aside0.mk hp; clear P2 HRW k0g hp; have HZ3 := blk_below HZ.out P3.out.hb; have HB3 := Aside0.mk (below_step HB0.out P3.out.hb); have z0 := blk_cell HZ3 0; have zf0 := blk_frozen HZ3 0; have z1 := blk_cell HZ3 1; have zf1 := blk_frozen HZ3 1; have z2 := blk_cell HZ3 2; have zf2 := blk_frozen HZ3 2; have z3 := blk_cell HZ3 3; have zf3 := blk_frozen HZ3 3; have z4 := blk_cell HZ3 4; have zf4 := blk_frozen HZ3 4)
    refine bodyPost_ret (results_ct rfl _ _ w.heap.size 34 #[.int .i64 0, .string (⟨#[]⟩ : ByteArray), .int .i64 0, .slice none 0 0, .string (⟨#[]⟩ : ByteArray)] (0, 0) _ rfl (blk_put (blk_put (blk_put (blk_put (blk_put HZ3 0 (.int .i64 0) rfl) 1 (.string (⟨#[]⟩ : ByteArray)) rfl) 2 (.int .i64 0) rfl) 3 (.slice none 0 0) rfl) 4 (.string (⟨#[]⟩ : ByteArray)) rfl) Tryz.underlying34 rfl (by kernel_rfl)) rfl ?_
    exact ⟨_, rfl, Kd.R_nil _ _ _ _ _, (((((HB3.out.setCell (Nat.le_refl _) _).setCell (Nat.le_refl _) _).setCell (Nat.le_refl _) _).setCell (Nat.le_refl _) _).setCell (Nat.le_refl _) _)⟩
   subst h4
   rw [if_pos rfl] at h
   obtain ⟨fs, hfs, h⟩ := Option.bind_eq_some_iff.1 h
   obtain ⟨nb, hnb, h⟩ := Option.bind_eq_some_iff.1 h
   have HNB := Aside0.mk hnb
   clear hnb
   go_upto_region 13 with (go_at_call 29; refine HRW.out.mono ?_; rintro e w5 ⟨rfl, A1, c1, hp⟩; have P3 := Aside0.mk hp; clear P2 HRW k0g hp)
   obtain ⟨A1', c1', heq, hl, hC⟩ := Kd.R_reads P3.out.r
   cases heq
   have P7 := Aside0.mk (P3.out.below (Below.drew (Below.refl w5.heap.size w5)))
   have k1 := blk_cell P7.out.k 1
   have HBA := Aside0.mk (message_bare A1 c1 s2 fs b w5.drew k1 (Kd.C_below hC (Below.drew (Below.refl _ _))) hl hfs)
   have k2 := blk_cell P3.out.k 2
   have hlg := blk_lt P3.out.kg
   have hlz : W0.heap.size ≤ w5.heap.size := P3.out.hb.size
   have hgw : w.heap.size ≤ g := by have := P3.out.h1; have := P3.out.h3; omega
   have hgz : w.heap.size ≠ g := by have := P3.out.h1; have := P3.out.h3; omega
   have HH := Aside0.mk h
   clear hC hfs P3 k1 h
   go_region_with (go_at_call 32; refine HBA.out.mono ?_; rintro e w9 ⟨v, rfl, hv, hb⟩; obtain ⟨A4, c4, rfl⟩ := Kd.R_slice hv; have P8 := Aside0.mk (P7.out.below hb); have HSZ : w5.heap.size ≤ w9.heap.size := hb.size; have RV := Aside0.mk (Kd.R_lower (Kd.R_mono (ok' := fun k => k ≠ g ∧ k ≠ w.heap.size) (Kd.R_bound hv) (fun k hk => ⟨by have h9 : w5.heap.size ≤ k := hk.2.1; omega, by have h9 : w5.heap.size ≤ k := hk.2.1; omega⟩)) (show w.heap.size ≤ w5.heap.size by omega)); have j2 := blk_cell P8.out.k 2; have d2_ := blk_cell P8.out.kg 2; have d3_ := blk_cell P8.out.kg 3; have f2 := blk_frozen P8.out.kg 2; have f3 := blk_frozen P8.out.kg 3; clear HBA P7 k2 hv hb)
   all_goals
    have P9 := Aside0.mk ((P8.out.putg 2 (.int .i64 q3) rfl).putg 3 (.slice A4 fs.length c4) rfl)
    have RW := Aside0.mk (Kd.R_far (p := ⟨g, 3, none⟩) (Kd.R_far (p := ⟨g, 2, none⟩) RV.out (fun k hk => hk.1) (.int .i64 q3)) (fun k hk => hk.1) (.slice A4 fs.length c4))
    clear P8 RV j2 d2_ d3_ f2 f3
    generalize (w9.setCell ⟨g, 2, none⟩ (.int .i64 q3)).setCell ⟨g, 3, none⟩ (.slice A4 fs.length c4) = w10 at P9 RW ⊢
    have h := HH.out
    clear HH
    have k4 := blk_cell P9.out.k 4
    have b0 := blk_cell P9.out.kg 0
    by_cases hm : (a1.toList == [72, 69, 65, 68]) = true
    ·rw [hm, Bool.true_or, if_pos rfl] at h
     by_cases h6 : gr.size = 0
     ·rw [if_pos h6] at h
      obtain ⟨rfl, rfl, rfl, rfl, rfl, rfl⟩ : q1 = r1 ∧ q2 = r2 ∧ q3 = r3 ∧ fs = r4 ∧ (⟨#[]⟩ : ByteArray) = r5 ∧ 0 = r6 := by simpa using h
      have y1 := empty_beq h6
      have y2 := empty_ise h6
      have y3 := empty_bne h6
      clear h h6
      have HZ9 := blk_below HZ.out P9.out.hb
      have HB9 := Aside0.mk (below_step HB0.out P9.out.hb)
      have z0 := blk_cell HZ9 0
      have zf0 := blk_frozen HZ9 0
      have z1 := blk_cell HZ9 1
      have zf1 := blk_frozen HZ9 1
      have z2 := blk_cell HZ9 2
      have zf2 := blk_frozen HZ9 2
      have z3 := blk_cell HZ9 3
      have zf3 := blk_frozen HZ9 3
      have z4 := blk_cell HZ9 4
      have zf4 := blk_frozen HZ9 4
      have dd0 := blk_cell P9.out.kg 0
      have dd1 := blk_cell P9.out.kg 1
      have dd2 := blk_cell P9.out.kg 2
      have dd3 := blk_cell P9.out.kg 3
      have dd4 := blk_cell P9.out.kg 4
      go_wp2_with fail
      refine bodyPost_ret (results_ct rfl _ _ w.heap.size 34 #[.int .i64 q1, .string q2, .int .i64 q3, .slice A4 fs.length c4, .string (⟨#[]⟩ : ByteArray)] (0, 0) _ rfl (blk_put (blk_put (blk_put (blk_put (blk_put HZ9 0 (.int .i64 q1) rfl) 1 (.string q2) rfl) 2 (.int .i64 q3) rfl) 3 (.slice A4 fs.length c4) rfl) 4 (.string (⟨#[]⟩ : ByteArray)) rfl) Tryz.underlying34 rfl (by kernel_rfl)) rfl ?_
      exact ⟨_, rfl, Kd.R_mono (Kd.R_far (p := ⟨w.heap.size, 4, none⟩) (Kd.R_far (p := ⟨w.heap.size, 3, none⟩) (Kd.R_far (p := ⟨w.heap.size, 2, none⟩) (Kd.R_far (p := ⟨w.heap.size, 1, none⟩) (Kd.R_far (p := ⟨w.heap.size, 0, none⟩) RW.out (fun k hk => hk.2) (.int .i64 q1)) (fun k hk => hk.2) (.string q2)) (fun k hk => hk.2) (.int .i64 q3)) (fun k hk => hk.2) (.slice A4 fs.length c4)) (fun k hk => hk.2) (.string (⟨#[]⟩ : ByteArray))) (fun _ _ => trivial), (((((HB9.out.setCell (Nat.le_refl _) _).setCell (Nat.le_refl _) _).setCell (Nat.le_refl _) _).setCell (Nat.le_refl _) _).setCell (Nat.le_refl _) _)⟩
     ·rw [if_neg h6] at h
      obtain ⟨rfl, rfl, rfl, rfl, rfl, rfl⟩ : 0 = r1 ∧ (⟨#[]⟩ : ByteArray) = r2 ∧ 0 = r3 ∧ [] = r4 ∧ (⟨#[]⟩ : ByteArray) = r5 ∧ 22 = r6 := by simpa using h
      have y1 := empty_ne h6
      have y2 := empty_isn h6
      have y3 := empty_bnn h6
      clear h h6
      have HZ9 := blk_below HZ.out P9.out.hb
      have HB9 := Aside0.mk (below_step HB0.out P9.out.hb)
      have z0 := blk_cell HZ9 0
      have zf0 := blk_frozen HZ9 0
      have z1 := blk_cell HZ9 1
      have zf1 := blk_frozen HZ9 1
      have z2 := blk_cell HZ9 2
      have zf2 := blk_frozen HZ9 2
      have z3 := blk_cell HZ9 3
      have zf3 := blk_frozen HZ9 3
      have z4 := blk_cell HZ9 4
      have zf4 := blk_frozen HZ9 4
      go_wp2_with fail
      refine bodyPost_ret (results_ct rfl _ _ w.heap.size 34 #[.int .i64 0, .string (⟨#[]⟩ : ByteArray), .int .i64 0, .slice none 0 0, .string (⟨#[]⟩ : ByteArray)] (0, 0) _ rfl (blk_put (blk_put (blk_put (blk_put (blk_put HZ9 0 (.int .i64 0) rfl) 1 (.string (⟨#[]⟩ : ByteArray)) rfl) 2 (.int .i64 0) rfl) 3 (.slice none 0 0) rfl) 4 (.string (⟨#[]⟩ : ByteArray)) rfl) Tryz.underlying34 rfl (by kernel_rfl)) rfl ?_
      exact ⟨_, rfl, Kd.R_nil _ _ _ _ _, (((((HB9.out.setCell (Nat.le_refl _) _).setCell (Nat.le_refl _) _).setCell (Nat.le_refl _) _).setCell (Nat.le_refl _) _).setCell (Nat.le_refl _) _)⟩
    ·rw [Bool.not_eq_true] at hm
     rw [hm, Bool.false_or] at h
     cases nb
     case true =>
      rw [if_pos rfl] at h
      by_cases h6 : gr.size = 0
      ·rw [if_pos h6] at h
       obtain ⟨rfl, rfl, rfl, rfl, rfl, rfl⟩ : q1 = r1 ∧ q2 = r2 ∧ q3 = r3 ∧ fs = r4 ∧ (⟨#[]⟩ : ByteArray) = r5 ∧ 0 = r6 := by simpa using h
       have y1 := empty_beq h6
       have y2 := empty_ise h6
       have y3 := empty_bne h6
       clear h h6
       go_wp2_with (go_at_call 25; refine (message_Bodiless.calls q1 true _ HNB.out).mono ?_; rintro e w11 ⟨rfl, n2, rfl⟩; have PA := Aside0.mk (P9.out.below (pw_below_drewN (Below.refl _ _) n2)); have RX := Aside0.mk (Kd.R_drewN RW.out n2); clear P9 RW b0 k4; have HZA := blk_below HZ.out PA.out.hb; have HBA := Aside0.mk (below_step HB0.out PA.out.hb); have z0 := blk_cell HZA 0; have zf0 := blk_frozen HZA 0; have z1 := blk_cell HZA 1; have zf1 := blk_frozen HZA 1; have z2 := blk_cell HZA 2; have zf2 := blk_frozen HZA 2; have z3 := blk_cell HZA 3; have zf3 := blk_frozen HZA 3; have z4 := blk_cell HZA 4; have zf4 := blk_frozen HZA 4; have dd0 := blk_cell PA.out.kg 0; have dd1 := blk_cell PA.out.kg 1; have dd2 := blk_cell PA.out.kg 2; have dd3 := blk_cell PA.out.kg 3; have dd4 := blk_cell PA.out.kg 4; have kA := blk_cell PA.out.k 4)
       refine bodyPost_ret (results_ct rfl _ _ w.heap.size 34 #[.int .i64 q1, .string q2, .int .i64 q3, .slice A4 fs.length c4, .string (⟨#[]⟩ : ByteArray)] (0, 0) _ rfl (blk_put (blk_put (blk_put (blk_put (blk_put HZA 0 (.int .i64 q1) rfl) 1 (.string q2) rfl) 2 (.int .i64 q3) rfl) 3 (.slice A4 fs.length c4) rfl) 4 (.string (⟨#[]⟩ : ByteArray)) rfl) Tryz.underlying34 rfl (by kernel_rfl)) rfl ?_
       exact ⟨_, rfl, Kd.R_mono (Kd.R_far (p := ⟨w.heap.size, 4, none⟩) (Kd.R_far (p := ⟨w.heap.size, 3, none⟩) (Kd.R_far (p := ⟨w.heap.size, 2, none⟩) (Kd.R_far (p := ⟨w.heap.size, 1, none⟩) (Kd.R_far (p := ⟨w.heap.size, 0, none⟩) RX.out (fun k hk => hk.2) (.int .i64 q1)) (fun k hk => hk.2) (.string q2)) (fun k hk => hk.2) (.int .i64 q3)) (fun k hk => hk.2) (.slice A4 fs.length c4)) (fun k hk => hk.2) (.string (⟨#[]⟩ : ByteArray))) (fun _ _ => trivial), (((((HBA.out.setCell (Nat.le_refl _) _).setCell (Nat.le_refl _) _).setCell (Nat.le_refl _) _).setCell (Nat.le_refl _) _).setCell (Nat.le_refl _) _)⟩
      ·rw [if_neg h6] at h
       obtain ⟨rfl, rfl, rfl, rfl, rfl, rfl⟩ : 0 = r1 ∧ (⟨#[]⟩ : ByteArray) = r2 ∧ 0 = r3 ∧ [] = r4 ∧ (⟨#[]⟩ : ByteArray) = r5 ∧ 22 = r6 := by simpa using h
       have y1 := empty_ne h6
       have y2 := empty_isn h6
       have y3 := empty_bnn h6
       clear h h6
       go_wp2_with (go_at_call 25; refine (message_Bodiless.calls q1 true _ HNB.out).mono ?_; rintro e w11 ⟨rfl, n2, rfl⟩; have PA := Aside0.mk (P9.out.below (pw_below_drewN (Below.refl _ _) n2)); clear P9 RW b0 k4; have HZA := blk_below HZ.out PA.out.hb; have HBA := Aside0.mk (below_step HB0.out PA.out.hb); have z0 := blk_cell HZA 0; have zf0 := blk_frozen HZA 0; have z1 := blk_cell HZA 1; have zf1 := blk_frozen HZA 1; have z2 := blk_cell HZA 2; have zf2 := blk_frozen HZA 2; have z3 := blk_cell HZA 3; have zf3 := blk_frozen HZA 3; have z4 := blk_cell HZA 4; have zf4 := blk_frozen HZA 4; have kA := blk_cell PA.out.k 4)
       refine bodyPost_ret (results_ct rfl _ _ w.heap.size 34 #[.int .i64 0, .string (⟨#[]⟩ : ByteArray), .int .i64 0, .slice none 0 0, .string (⟨#[]⟩ : ByteArray)] (0, 0) _ rfl (blk_put (blk_put (blk_put (blk_put (blk_put HZA 0 (.int .i64 0) rfl) 1 (.string (⟨#[]⟩ : ByteArray)) rfl) 2 (.int .i64 0) rfl) 3 (.slice none 0 0) rfl) 4 (.string (⟨#[]⟩ : ByteArray)) rfl) Tryz.underlying34 rfl (by kernel_rfl)) rfl ?_
       exact ⟨_, rfl, Kd.R_nil _ _ _ _ _, (((((HBA.out.setCell (Nat.le_refl _) _).setCell (Nat.le_refl _) _).setCell (Nat.le_refl _) _).setCell (Nat.le_refl _) _).setCell (Nat.le_refl _) _)⟩
     case false =>
      rw [if_neg (by simp)] at h
      obtain ⟨⟨d1, d2⟩, hd, h⟩ := Option.bind_eq_some_iff.1 h
      simp only at h
      have HD := Aside0.mk hd
      clear hd
      obtain ⟨A2, c2, heq, hl2, hC2⟩ := Kd.R_reads P9.out.r
      cases heq
      have HC9 := Aside0.mk hC2
      clear hC2
      by_cases h5 : d2 = 0
      ·subst h5
       rw [if_pos rfl] at h
       obtain ⟨rfl, rfl, rfl, rfl, rfl, rfl⟩ : q1 = r1 ∧ q2 = r2 ∧ q3 = r3 ∧ fs = r4 ∧ d1 = r5 ∧ 0 = r6 := by simpa using h
       clear h
       go_wp2_with (first | (go_at_call 25; refine (message_Bodiless.calls q1 false _ HNB.out).mono ?_; rintro e w11 ⟨rfl, n2, rfl⟩; have PA := Aside0.mk (P9.out.below (pw_below_drewN (Below.refl _ _) n2)); have RX := Aside0.mk (Kd.R_drewN RW.out n2); have HCA := Aside0.mk (Kd.C_below HC9.out (pw_below_drewN (Below.refl _ _) n2)); have l1 := blk_cell PA.out.k 1; have l2 := blk_cell PA.out.k 2; have l4 := blk_cell PA.out.k 4; clear P9 RW b0 k4 HC9 HNB) | (go_at_call 31; refine (message_body k A1 c1 s2 q3 gr true d1 0 b _ ⟨HT.out.below (below_step HB0.out PA.out.hb)⟩ l1 l2 l4 HCA.out hl HD.out).mono ?_; rintro e w12 ⟨rfl, hb⟩; have PB := Aside0.mk (PA.out.below hb); have RY := Aside0.mk (Kd.R_far (p := ⟨g, 4, none⟩) (Kd.R_below RX.out hb) (fun k hk => hk.1) (.string d1)); have PC := Aside0.mk (PB.out.putg 4 (.string d1) rfl); have HZC := blk_below HZ.out PC.out.hb; have HBC := Aside0.mk (below_step HB0.out PC.out.hb); have fB := blk_frozen PB.out.kg 4; have dd0 := blk_cell PB.out.kg 0; have dd1 := blk_cell PB.out.kg 1; have dd2 := blk_cell PB.out.kg 2; have dd3 := blk_cell PB.out.kg 3; have dd4 := blk_cell PB.out.kg 4; have HZB := blk_below HZ.out PB.out.hb; have z0 := blk_cell HZB 0; have zf0 := blk_frozen HZB 0; have z1 := blk_cell HZB 1; have zf1 := blk_frozen HZB 1; have z2 := blk_cell HZB 2; have zf2 := blk_frozen HZB 2; have z3 := blk_cell HZB 3; have zf3 := blk_frozen HZB 3; have z4 := blk_cell HZB 4; have zf4 := blk_frozen HZB 4; clear PA RX HCA l1 l2 l4 HD hb))
       refine bodyPost_ret (results_ct rfl _ _ w.heap.size 34 #[.int .i64 q1, .string q2, .int .i64 q3, .slice A4 fs.length c4, .string d1] (0, 0) _ rfl (blk_put (blk_put (blk_put (blk_put (blk_put HZC 0 (.int .i64 q1) rfl) 1 (.string q2) rfl) 2 (.int .i64 q3) rfl) 3 (.slice A4 fs.length c4) rfl) 4 (.string d1) rfl) Tryz.underlying34 rfl (by kernel_rfl)) rfl ?_
       exact ⟨_, rfl, Kd.R_mono (Kd.R_far (p := ⟨w.heap.size, 4, none⟩) (Kd.R_far (p := ⟨w.heap.size, 3, none⟩) (Kd.R_far (p := ⟨w.heap.size, 2, none⟩) (Kd.R_far (p := ⟨w.heap.size, 1, none⟩) (Kd.R_far (p := ⟨w.heap.size, 0, none⟩) RY.out (fun k hk => hk.2) (.int .i64 q1)) (fun k hk => hk.2) (.string q2)) (fun k hk => hk.2) (.int .i64 q3)) (fun k hk => hk.2) (.slice A4 fs.length c4)) (fun k hk => hk.2) (.string d1)) (fun _ _ => trivial), (((((HBC.out.setCell (Nat.le_refl _) _).setCell (Nat.le_refl _) _).setCell (Nat.le_refl _) _).setCell (Nat.le_refl _) _).setCell (Nat.le_refl _) _)⟩
      ·rw [if_neg h5] at h
       obtain ⟨rfl, rfl, rfl, rfl, rfl, rfl⟩ : 0 = r1 ∧ (⟨#[]⟩ : ByteArray) = r2 ∧ 0 = r3 ∧ [] = r4 ∧ (⟨#[]⟩ : ByteArray) = r5 ∧ d2 = r6 := by simpa using h
       have e5 : (d2 != 0) = true := bne_iff_ne.2 h5
       clear h h5
       go_wp2_with (first | (go_at_call 25; refine (message_Bodiless.calls q1 false _ HNB.out).mono ?_; rintro e w11 ⟨rfl, n2, rfl⟩; have PA := Aside0.mk (P9.out.below (pw_below_drewN (Below.refl _ _) n2)); have HCA := Aside0.mk (Kd.C_below HC9.out (pw_below_drewN (Below.refl _ _) n2)); have l1 := blk_cell PA.out.k 1; have l2 := blk_cell PA.out.k 2; have l4 := blk_cell PA.out.k 4; clear P9 RW b0 k4 HC9 HNB) | (go_at_call 31; refine (message_body k A1 c1 s2 q3 gr true d1 d2 b _ ⟨HT.out.below (below_step HB0.out PA.out.hb)⟩ l1 l2 l4 HCA.out hl HD.out).mono ?_; rintro e w12 ⟨rfl, hb⟩; have PB := Aside0.mk (PA.out.below hb); have PC := Aside0.mk (PB.out.putg 4 (.string d1) rfl); have HZC := blk_below HZ.out PC.out.hb; have HBC := Aside0.mk (below_step HB0.out PC.out.hb); have fB := blk_frozen PB.out.kg 4; have dd0 := blk_cell PB.out.kg 0; have dd1 := blk_cell PB.out.kg 1; have dd2 := blk_cell PB.out.kg 2; have dd3 := blk_cell PB.out.kg 3; have dd4 := blk_cell PB.out.kg 4; have HZB := blk_below HZ.out PB.out.hb; have z0 := blk_cell HZB 0; have zf0 := blk_frozen HZB 0; have z1 := blk_cell HZB 1; have zf1 := blk_frozen HZB 1; have z2 := blk_cell HZB 2; have zf2 := blk_frozen HZB 2; have z3 := blk_cell HZB 3; have zf3 := blk_frozen HZB 3; have z4 := blk_cell HZB 4; have zf4 := blk_frozen HZB 4; clear PA HCA l1 l2 l4 HD hb))
       refine bodyPost_ret (results_ct rfl _ _ w.heap.size 34 #[.int .i64 0, .string (⟨#[]⟩ : ByteArray), .int .i64 0, .slice none 0 0, .string (⟨#[]⟩ : ByteArray)] (0, 0) _ rfl (blk_put (blk_put (blk_put (blk_put (blk_put HZC 0 (.int .i64 0) rfl) 1 (.string (⟨#[]⟩ : ByteArray)) rfl) 2 (.int .i64 0) rfl) 3 (.slice none 0 0) rfl) 4 (.string (⟨#[]⟩ : ByteArray)) rfl) Tryz.underlying34 rfl (by kernel_rfl)) rfl ?_
       exact ⟨_, rfl, Kd.R_nil _ _ _ _ _, (((((HBC.out.setCell (Nat.le_refl _) _).setCell (Nat.le_refl _) _).setCell (Nat.le_refl _) _).setCell (Nat.le_refl _) _).setCell (Nat.le_refl _) _)⟩
  ·rw [if_neg h2] at h
   obtain ⟨rfl, rfl, rfl, rfl, rfl, rfl⟩ : 0 = r1 ∧ (⟨#[]⟩ : ByteArray) = r2 ∧ 0 = r3 ∧ [] = r4 ∧ (⟨#[]⟩ : ByteArray) = r5 ∧ q4 = r6 := by simpa using h
   have e2 : (q4 != 0) = true := bne_iff_ne.2 h2
   clear h h2
   have HZ2 := blk_below HZ.out P2.out.hb
   have HB2 := Aside0.mk (below_step HB0.out P2.out.hb)
   have z0 := blk_cell HZ2 0
   have zf0 := blk_frozen HZ2 0
   have z1 := blk_cell HZ2 1
   have zf1 := blk_frozen HZ2 1
   have z2 := blk_cell HZ2 2
   have zf2 := blk_frozen HZ2 2
   have z3 := blk_cell HZ2 3
   have zf3 := blk_frozen HZ2 3
   have z4 := blk_cell HZ2 4
   have zf4 := blk_frozen HZ2 4
   go_wp2
   refine bodyPost_ret (results_ct rfl _ _ w.heap.size 34 #[.int .i64 0, .string (⟨#[]⟩ : ByteArray), .int .i64 0, .slice none 0 0, .string (⟨#[]⟩ : ByteArray)] (0, 0) _ rfl (blk_put (blk_put (blk_put (blk_put (blk_put HZ2 0 (.int .i64 0) rfl) 1 (.string (⟨#[]⟩ : ByteArray)) rfl) 2 (.int .i64 0) rfl) 3 (.slice none 0 0) rfl) 4 (.string (⟨#[]⟩ : ByteArray)) rfl) Tryz.underlying34 rfl (by kernel_rfl)) rfl ?_
   exact ⟨_, rfl, Kd.R_nil _ _ _ _ _, (((((HB2.out.setCell (Nat.le_refl _) _).setCell (Nat.le_refl _) _).setCell (Nat.le_refl _) _).setCell (Nat.le_refl _) _).setCell (Nat.le_refl _) _)⟩
 ·rw [if_neg h1] at h
  obtain ⟨rfl, rfl, rfl, rfl, rfl, rfl⟩ : 0 = r1 ∧ (⟨#[]⟩ : ByteArray) = r2 ∧ 0 = r3 ∧ [] = r4 ∧ (⟨#[]⟩ : ByteArray) = r5 ∧ g1 = r6 := by simpa using h
  have e1 : (g1 != 0) = true := bne_iff_ne.2 h1
  have hgn := msgBegin_no hg h1
  rw [hgn] at hg
  have HG := Aside0.mk (message_begin_no a0 g1 h1 _ ⟨HT.out.below hb0⟩ hg)
  have HB0 := Aside0.mk hb0
  have HZ := Aside0.mk hz
  clear h hgn hg h1 hb0 hz
  go_enter Tryz.func12, Tryz.ntmps12
  go_wp2_with (go_at_call 27; refine HG.out.mono ?_; rintro e w1 ⟨rfl, hb⟩; have HZ1 := Aside0.mk (blk_below HZ.out hb); have HB1 := Aside0.mk (below_step HB0.out hb); have z0 := blk_cell HZ1.out 0; have zf0 := blk_frozen HZ1.out 0; have z1 := blk_cell HZ1.out 1; have zf1 := blk_frozen HZ1.out 1; have z2 := blk_cell HZ1.out 2; have zf2 := blk_frozen HZ1.out 2; have z3 := blk_cell HZ1.out 3; have zf3 := blk_frozen HZ1.out 3; have z4 := blk_cell HZ1.out 4; have zf4 := blk_frozen HZ1.out 4; clear HG HZ HB0 hb)
  refine bodyPost_ret (results_ct rfl _ _ w.heap.size 34 #[.int .i64 0, .string (⟨#[]⟩ : ByteArray), .int .i64 0, .slice none 0 0, .string (⟨#[]⟩ : ByteArray)] (0, 0) _ rfl (blk_put (blk_put (blk_put (blk_put (blk_put HZ1.out 0 (.int .i64 0) rfl) 1 (.string (⟨#[]⟩ : ByteArray)) rfl) 2 (.int .i64 0) rfl) 3 (.slice none 0 0) rfl) 4 (.string (⟨#[]⟩ : ByteArray)) rfl) Tryz.underlying34 rfl (by kernel_rfl)) rfl ?_
  exact ⟨_, rfl, Kd.R_nil _ _ _ _ _, (((((HB1.out.setCell (Nat.le_refl _) _).setCell (Nat.le_refl _) _).setCell (Nat.le_refl _) _).setCell (Nat.le_refl _) _).setCell (Nat.le_refl _) _)⟩

/-! ### strings_Join: function 79: told by hand -/
theorem join_extra : Builder.Extra Tryz.prog Tryz.lays156_ren := {
 sizeBuilder := by kernel_rfl
 liesBuilder := by kernel_rfl
 t5 := Tryz.underlying5
 a5 := Tryz.isAgg5
 z5 := Tryz.sizeOf5
 v5 := Tryz.zeroValue5
 infoByte := by kernel_rfl
 cellsByte := by kernel_rfl
 sizeByte := by kernel_rfl
 neB5 := by decide }
def strings_Join.f (l0 : List ByteArray) (a1 : ByteArray) : Option (ByteArray) := if l0.length ≤ 140737488355328 ∧ (Lib.join (l0.map (·.data.toList)) a1.data.toList).length ≤ 140737488355328 then some ⟨(Lib.join (l0.map (·.data.toList)) a1.data.toList).toArray⟩ else none
theorem strings_Join.calls (A0 : Option Addr) (c0 : Nat) (l0 : List ByteArray) (a1 r : ByteArray) (w : World) (hr0 : Kd.C Kd.string w A0 l0.length l0) (hc0 : l0.length ≤ c0) (h : strings_Join.f l0 a1 = some r) :
  Calls Tryz.prog 79 #[.slice A0 l0.length c0, .string a1] w fun e w' => e = .returned (.string r) ∧ Below w.heap.size w w' := by
 unfold strings_Join.f at h
 split at h
 case isFalse => cases h
 case isTrue hs =>
  obtain rfl := Option.some.inj h
  by_cases hn : 0 < l0.length
  ·obtain ⟨bk, o, rfl, hbk, hcells⟩ := Hand.C_cells hr0 hn
   exact Any.strings_Join Tryz.lays156 join_extra bk o c0 l0 a1 w hcells hbk hs.1 hc0 hs.2
  ·obtain rfl : l0 = [] := List.eq_nil_of_length_eq_zero (by omega)
   exact (Any.strings_Join_none Tryz.lays156 join_extra A0 c0 a1 w).mono fun e w' ⟨he, hw⟩ => ⟨he, hw ▸ Below.refl _ _⟩

end Go.Proofs.YtjaklgikfcahdaaGreatDoor.PU
