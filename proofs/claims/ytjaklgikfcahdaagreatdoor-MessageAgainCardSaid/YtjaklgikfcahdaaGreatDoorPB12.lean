-- Out of the translation, by a program of this session: each function that a law comes to as a Lean function, and that the machine's call does what it says. Lean checks it.
import Derived.Test.YtjaklgikfcahdaaGreatDoorPB0
import Derived.Test.YtjaklgikfcahdaaGreatDoorPB3
import Derived.Test.YtjaklgikfcahdaaGreatDoorPB5
import Derived.Test.YtjaklgikfcahdaaGreatDoorPB7
namespace Go.Proofs.YtjaklgikfcahdaaGreatDoor.PB
open Go.RowKit Go.Proofs.YtjaklgikfcahdaaGreatDoorW.PrintWords Go.Proofs.YtjaklgikfcahdaaGreatDoorW.PrintLast Go.Proofs.YtjaklgikfcahdaaGreatDoorW.PrintMore
attribute [local go_sem] max2_int min2_int max_two min_two max_three min_three max_four min_four   -- for this text's walks alone
set_option linter.unusedVariables false
set_option linter.unusedSimpArgs false

/-! ### message_Bodiless: function 25 -/
def message_Bodiless.f (a0 : Int) : Option (Bool) := if a0 = 204 then (some true) else (some (a0 == 304))
set_option maxHeartbeats 8000000 in
set_option maxRecDepth 100000 in
theorem message_Bodiless.calls (a0 : Int) (r : Bool) (w : World) (h : message_Bodiless.f a0 = some r) :
    Calls Tryz.prog 25 #[.int .i64 a0] w fun e w' => e = .returned (.bool r) ∧ Drawn0 w w' := by
  have H : (if a0 = 204 then (some true) else (some (a0 == 304))) = some r := h
  clear h
  by_cases c2 : a0 = 204
  · rw [if_pos c2] at H
    have c2b0 : (a0 == 204) = true := beq_iff_eq.mpr c2
    have c2b1 : (a0 != 204) = false := bne_eq_false_iff_eq.mpr c2
    clear c2
    obtain rfl := Option.some.inj H
    go_enter Tryz.func25, Tryz.ntmps25
    go_wp2
    go_ret
    exact ⟨by first | rfl | (simp; done) | (simp [*]; done) | (simp; exact Hand.isEmpty_ne _), by repeat (first | exact Drawn0.refl _ | apply Drawn0.step)⟩
  · rw [if_neg c2] at H
    have c2b0 : (a0 == 204) = false := beq_eq_false_iff_ne.mpr c2
    have c2b1 : (a0 != 204) = true := bne_iff_ne.mpr c2
    obtain rfl := Option.some.inj H
    go_enter Tryz.func25, Tryz.ntmps25
    go_wp2
    go_ret
    exact ⟨by first | rfl | (simp; done) | (simp [*]; done) | (simp; exact Hand.isEmpty_ne _), by repeat (first | exact Drawn0.refl _ | apply Drawn0.step)⟩

/-! ### line_Status: function 41 -/
def line_Status.f (a0 : ByteArray) : Option (Int × ByteArray × Int × Int) := if (a0.size : Int) > 8192 then (some (0, (⟨#[]⟩ : ByteArray), 0, 4)) else (if 0 < 1 then ((octet_Cut.f a0 (bt (⟨#[32]⟩ : ByteArray) 0)).bind fun bt147 => ((octet_Cut.f bt147.2.1 (bt (⟨#[32]⟩ : ByteArray) 0)).bind fun bt150 => ((line_version.f bt147.1).bind fun bt153 => ((decimal_Number.f bt150.1 599).bind fun bt155 => (if bt153.2 = true then (if bt150.2.2 = true then (if bt155.2 = 0 then (if bt155.1 < 100 then (some (0, (⟨#[]⟩ : ByteArray), 0, 20)) else (if (bt150.1.size : Int) = 3 then ((octet_IsText.f bt150.2.1).bind fun t157 => (if t157 = true then (some (bt155.1, bt150.2.1, bt153.1, 0)) else (some (0, (⟨#[]⟩ : ByteArray), 0, 20)))) else (some (0, (⟨#[]⟩ : ByteArray), 0, 20)))) else (some (0, (⟨#[]⟩ : ByteArray), 0, 20))) else (some (0, (⟨#[]⟩ : ByteArray), 0, 20))) else (some (0, (⟨#[]⟩ : ByteArray), 0, 20))))))) else (none))
set_option maxHeartbeats 8000000 in
set_option maxRecDepth 100000 in
theorem line_Status.calls (a0 : ByteArray) (r1 : Int) (r2 : ByteArray) (r3 : Int) (r4 : Int) (w : World) (h : line_Status.f a0 = some (r1, r2, r3, r4)) :
    Calls Tryz.prog 41 #[.string a0] w fun e w' => e = .returned (.tuple #[.int .i64 r1, .string r2, .int .i64 r3, .int .i64 r4]) ∧ Below w.heap.size w w' := by
  have HB := Aside0.mk (Below.refl w.heap.size w)
  have H : (if (a0.size : Int) > 8192 then (some (0, (⟨#[]⟩ : ByteArray), 0, 4)) else (if 0 < 1 then ((octet_Cut.f a0 (bt (⟨#[32]⟩ : ByteArray) 0)).bind fun bt147 => ((octet_Cut.f bt147.2.1 (bt (⟨#[32]⟩ : ByteArray) 0)).bind fun bt150 => ((line_version.f bt147.1).bind fun bt153 => ((decimal_Number.f bt150.1 599).bind fun bt155 => (if bt153.2 = true then (if bt150.2.2 = true then (if bt155.2 = 0 then (if bt155.1 < 100 then (some (0, (⟨#[]⟩ : ByteArray), 0, 20)) else (if (bt150.1.size : Int) = 3 then ((octet_IsText.f bt150.2.1).bind fun t157 => (if t157 = true then (some (bt155.1, bt150.2.1, bt153.1, 0)) else (some (0, (⟨#[]⟩ : ByteArray), 0, 20)))) else (some (0, (⟨#[]⟩ : ByteArray), 0, 20)))) else (some (0, (⟨#[]⟩ : ByteArray), 0, 20))) else (some (0, (⟨#[]⟩ : ByteArray), 0, 20))) else (some (0, (⟨#[]⟩ : ByteArray), 0, 20))))))) else (none))) = some (r1, r2, r3, r4) := h
  clear h
  by_cases c2 : (a0.size : Int) > 8192
  · rw [if_pos c2] at H
    have c2b0 : decide (8192 < (a0.size : Int)) = true := decide_eq_true c2
    have c2b1 : decide (8192 < a0.size) = true := decide_eq_true (by omega)
    clear c2
    simp only [Option.some.injEq, Prod.mk.injEq] at H
    obtain ⟨rfl, rfl, rfl, rfl⟩ := H
    go_enter Tryz.func41, Tryz.ntmps41
    go_wp2
    refine bodyPost_ret (results_list (rs := [.tmp 2, .tmp 3, .tmp 4, .tmp 5]) rfl (by simp) (.tmp (.tmp (.tmp (.tmp .nil))))) rfl ?_
    exact ⟨by first | rfl | (simp [errW_none, errW_some] <;> rfl) | (simp [*, errW_none, errW_some] <;> rfl), by repeat (first | (with_reducible first | exact HB.out | apply below_alloc | apply pw_below_drewN | apply below_drew1) | exact HB.out)⟩
  · rw [if_neg c2] at H
    have c2b0 : decide (8192 < (a0.size : Int)) = false := decide_eq_false c2
    have c2b1 : decide (8192 < a0.size) = false := decide_eq_false (by omega)
    clear c2
    by_cases c3 : 0 < 1
    · rw [if_pos c3] at H
      have c3b0 : decide (0 < 1) = true := decide_eq_true c3
      clear c3
      replace H := Option.bind_eq_some_iff.mp H
      obtain ⟨⟨t147, t148, t149⟩, A50, H⟩ := H
      replace H : ((octet_Cut.f t148 (bt (⟨#[32]⟩ : ByteArray) 0)).bind fun bt150 => ((line_version.f t147).bind fun bt153 => ((decimal_Number.f bt150.1 599).bind fun bt155 => (if bt153.2 = true then (if bt150.2.2 = true then (if bt155.2 = 0 then (if bt155.1 < 100 then (some (0, (⟨#[]⟩ : ByteArray), 0, 20)) else (if (bt150.1.size : Int) = 3 then ((octet_IsText.f bt150.2.1).bind fun t157 => (if t157 = true then (some (bt155.1, bt150.2.1, bt153.1, 0)) else (some (0, (⟨#[]⟩ : ByteArray), 0, 20)))) else (some (0, (⟨#[]⟩ : ByteArray), 0, 20)))) else (some (0, (⟨#[]⟩ : ByteArray), 0, 20))) else (some (0, (⟨#[]⟩ : ByteArray), 0, 20))) else (some (0, (⟨#[]⟩ : ByteArray), 0, 20)))))) = some (r1, r2, r3, r4) := H
      have A5 := Aside0.mk A50
      clear A50
      replace H := Option.bind_eq_some_iff.mp H
      obtain ⟨⟨t150, t151, t152⟩, A70, H⟩ := H
      replace H : ((line_version.f t147).bind fun bt153 => ((decimal_Number.f t150 599).bind fun bt155 => (if bt153.2 = true then (if t152 = true then (if bt155.2 = 0 then (if bt155.1 < 100 then (some (0, (⟨#[]⟩ : ByteArray), 0, 20)) else (if (t150.size : Int) = 3 then ((octet_IsText.f t151).bind fun t157 => (if t157 = true then (some (bt155.1, t151, bt153.1, 0)) else (some (0, (⟨#[]⟩ : ByteArray), 0, 20)))) else (some (0, (⟨#[]⟩ : ByteArray), 0, 20)))) else (some (0, (⟨#[]⟩ : ByteArray), 0, 20))) else (some (0, (⟨#[]⟩ : ByteArray), 0, 20))) else (some (0, (⟨#[]⟩ : ByteArray), 0, 20))))) = some (r1, r2, r3, r4) := H
      have A7 := Aside0.mk A70
      clear A70
      replace H := Option.bind_eq_some_iff.mp H
      obtain ⟨⟨t153, t154⟩, A80, H⟩ := H
      replace H : ((decimal_Number.f t150 599).bind fun bt155 => (if t154 = true then (if t152 = true then (if bt155.2 = 0 then (if bt155.1 < 100 then (some (0, (⟨#[]⟩ : ByteArray), 0, 20)) else (if (t150.size : Int) = 3 then ((octet_IsText.f t151).bind fun t157 => (if t157 = true then (some (bt155.1, t151, t153, 0)) else (some (0, (⟨#[]⟩ : ByteArray), 0, 20)))) else (some (0, (⟨#[]⟩ : ByteArray), 0, 20)))) else (some (0, (⟨#[]⟩ : ByteArray), 0, 20))) else (some (0, (⟨#[]⟩ : ByteArray), 0, 20))) else (some (0, (⟨#[]⟩ : ByteArray), 0, 20)))) = some (r1, r2, r3, r4) := H
      have A8 := Aside0.mk A80
      clear A80
      replace H := Option.bind_eq_some_iff.mp H
      obtain ⟨⟨t155, t156⟩, A90, H⟩ := H
      replace H : (if t154 = true then (if t152 = true then (if t156 = 0 then (if t155 < 100 then (some (0, (⟨#[]⟩ : ByteArray), 0, 20)) else (if (t150.size : Int) = 3 then ((octet_IsText.f t151).bind fun t157 => (if t157 = true then (some (t155, t151, t153, 0)) else (some (0, (⟨#[]⟩ : ByteArray), 0, 20)))) else (some (0, (⟨#[]⟩ : ByteArray), 0, 20)))) else (some (0, (⟨#[]⟩ : ByteArray), 0, 20))) else (some (0, (⟨#[]⟩ : ByteArray), 0, 20))) else (some (0, (⟨#[]⟩ : ByteArray), 0, 20))) = some (r1, r2, r3, r4) := H
      have A9 := Aside0.mk A90
      clear A90
      by_cases c10 : t154 = true
      · subst c10
        have H1 : (if t152 = true then (if t156 = 0 then (if t155 < 100 then (some (0, (⟨#[]⟩ : ByteArray), 0, 20)) else (if (t150.size : Int) = 3 then ((octet_IsText.f t151).bind fun t157 => (if t157 = true then (some (t155, t151, t153, 0)) else (some (0, (⟨#[]⟩ : ByteArray), 0, 20)))) else (some (0, (⟨#[]⟩ : ByteArray), 0, 20)))) else (some (0, (⟨#[]⟩ : ByteArray), 0, 20))) else (some (0, (⟨#[]⟩ : ByteArray), 0, 20))) = some (r1, r2, r3, r4) := by rw [if_pos rfl] at H; exact H
        clear H
        have H := H1
        clear H1
        by_cases c11 : t152 = true
        · subst c11
          have H1 : (if t156 = 0 then (if t155 < 100 then (some (0, (⟨#[]⟩ : ByteArray), 0, 20)) else (if (t150.size : Int) = 3 then ((octet_IsText.f t151).bind fun t157 => (if t157 = true then (some (t155, t151, t153, 0)) else (some (0, (⟨#[]⟩ : ByteArray), 0, 20)))) else (some (0, (⟨#[]⟩ : ByteArray), 0, 20)))) else (some (0, (⟨#[]⟩ : ByteArray), 0, 20))) = some (r1, r2, r3, r4) := by rw [if_pos rfl] at H; exact H
          clear H
          have H := H1
          clear H1
          by_cases c12 : t156 = 0
          · rw [if_pos c12] at H
            have c12b0 : (t156 == 0) = true := beq_iff_eq.mpr c12
            have c12b1 : (t156 != 0) = false := bne_eq_false_iff_eq.mpr c12
            clear c12
            by_cases c13 : t155 < 100
            · rw [if_pos c13] at H
              have c13b0 : decide (t155 < 100) = true := decide_eq_true c13
              clear c13
              simp only [Option.some.injEq, Prod.mk.injEq] at H
              obtain ⟨rfl, rfl, rfl, rfl⟩ := H
              have p4 : 0 ≤ (0 : Int) := (by omega)
              have q4 : 0 < (1 : Int) := (by omega)
              have hx4 := bt_at (⟨#[32]⟩ : ByteArray) 0
              replace p4 := eq_true p4
              replace q4 := eq_true q4
              go_enter Tryz.func41, Tryz.ntmps41
              go_wp2_with (first | ((with_reducible refine gate_callee (f := 74) rfl ?_); refine goesL_ (some 22) rfl rfl Tryz.func74 (by kernel_rfl) rfl #[.string a0, .int .u8 (bt (⟨#[32]⟩ : ByteArray) 0)] rfl (by (try simp only [List.map_toArray, List.map_cons, List.map_nil]); first | done | rfl | (simp only [List.length_drop, List.length_take]; rfl)) ?_; (with_reducible refine (octet_Cut.calls a0 (bt (⟨#[32]⟩ : ByteArray) 0) t147 t148 t149 _ A5.out).mono ?_); rintro e w14 ⟨rfl, hb⟩; refine ⟨_, rfl, ?_⟩; have n0_ := Aside0.mk (below_step (by repeat (first | (with_reducible first | exact HB.out | apply below_alloc | apply pw_below_drewN | apply below_drew1) | exact HB.out)) hb); clear HB; have HB := n0_; clear n0_; (try clear hb); (try clear hb2); (try clear hk); (try clear hi); have p6 : 0 ≤ (0 : Int) := (by omega); have q6 : 0 < (1 : Int) := (by omega); have hx6 := bt_at (⟨#[32]⟩ : ByteArray) 0; replace p6 := eq_true p6; replace q6 := eq_true q6) | ((with_reducible refine gate_callee (f := 74) rfl ?_); refine goesL_ (some 29) rfl rfl Tryz.func74 (by kernel_rfl) rfl #[.string t148, .int .u8 (bt (⟨#[32]⟩ : ByteArray) 0)] rfl (by (try simp only [List.map_toArray, List.map_cons, List.map_nil]); first | done | rfl | (simp only [List.length_drop, List.length_take]; rfl)) ?_; (with_reducible refine (octet_Cut.calls t148 (bt (⟨#[32]⟩ : ByteArray) 0) t150 t151 true _ A7.out).mono ?_); rintro e w15 ⟨rfl, hb⟩; refine ⟨_, rfl, ?_⟩; have n0_ := Aside0.mk (below_step (by repeat (first | (with_reducible first | exact HB.out | apply below_alloc | apply pw_below_drewN | apply below_drew1) | exact HB.out)) hb); clear HB; have HB := n0_; clear n0_; (try clear hb); (try clear hb2); (try clear hk); (try clear hi)) | ((with_reducible refine gate_callee (f := 60) rfl ?_); refine goesL_ (some 35) rfl rfl Tryz.func60 (by kernel_rfl) rfl #[.string t147] rfl (by (try simp only [List.map_toArray, List.map_cons, List.map_nil]); first | done | rfl | (simp only [List.length_drop, List.length_take]; rfl)) ?_; (with_reducible refine (line_version.calls t147 t153 true _ A8.out).mono ?_); rintro e w' ⟨rfl, ⟨nd, rfl⟩⟩; refine ⟨_, rfl, ?_⟩) | ((with_reducible refine gate_callee (f := 75) rfl ?_); refine goesL_ (some 40) rfl rfl Tryz.func75 (by kernel_rfl) rfl #[.string t150, .int .i64 599] rfl (by (try simp only [List.map_toArray, List.map_cons, List.map_nil]); first | done | rfl | (simp only [List.length_drop, List.length_take]; rfl)) ?_; (with_reducible refine (decimal_Number.calls t150 599 t155 t156 _ A9.out).mono ?_); rintro e w16 ⟨rfl, hb⟩; refine ⟨_, rfl, ?_⟩; have n0_ := Aside0.mk (below_step (by repeat (first | (with_reducible first | exact HB.out | apply below_alloc | apply pw_below_drewN | apply below_drew1) | exact HB.out)) hb); clear HB; have HB := n0_; clear n0_; (try clear hb); (try clear hb2); (try clear hk); (try clear hi)))
              refine bodyPost_ret (results_list (rs := [.tmp 2, .tmp 3, .tmp 4, .tmp 5]) rfl (by simp) (.tmp (.tmp (.tmp (.tmp .nil))))) rfl ?_
              exact ⟨by first | rfl | (simp [errW_none, errW_some] <;> rfl) | (simp [*, errW_none, errW_some] <;> rfl), by repeat (first | (with_reducible first | exact HB.out | apply below_alloc | apply pw_below_drewN | apply below_drew1) | exact HB.out)⟩
            · rw [if_neg c13] at H
              have c13b0 : decide (t155 < 100) = false := decide_eq_false c13
              clear c13
              by_cases c17 : (t150.size : Int) = 3
              · rw [if_pos c17] at H
                have c17b0 : ((t150.size : Int) == 3) = true := beq_iff_eq.mpr c17
                have c17b1 : ((t150.size : Int) != 3) = false := bne_eq_false_iff_eq.mpr c17
                clear c17
                replace H := Option.bind_eq_some_iff.mp H
                obtain ⟨t157, A180, H⟩ := H
                replace H : (if t157 = true then (some (t155, t151, t153, 0)) else (some (0, (⟨#[]⟩ : ByteArray), 0, 20))) = some (r1, r2, r3, r4) := H
                have A18 := Aside0.mk A180
                clear A180
                by_cases c19 : t157 = true
                · subst c19
                  have H1 : (some (t155, t151, t153, 0)) = some (r1, r2, r3, r4) := by rw [if_pos rfl] at H; exact H
                  clear H
                  have H := H1
                  clear H1
                  simp only [Option.some.injEq, Prod.mk.injEq] at H
                  obtain ⟨rfl, rfl, rfl, rfl⟩ := H
                  have p4 : 0 ≤ (0 : Int) := (by omega)
                  have q4 : 0 < (1 : Int) := (by omega)
                  have hx4 := bt_at (⟨#[32]⟩ : ByteArray) 0
                  replace p4 := eq_true p4
                  replace q4 := eq_true q4
                  go_enter Tryz.func41, Tryz.ntmps41
                  go_wp2_with (first | ((with_reducible refine gate_callee (f := 74) rfl ?_); refine goesL_ (some 22) rfl rfl Tryz.func74 (by kernel_rfl) rfl #[.string a0, .int .u8 (bt (⟨#[32]⟩ : ByteArray) 0)] rfl (by (try simp only [List.map_toArray, List.map_cons, List.map_nil]); first | done | rfl | (simp only [List.length_drop, List.length_take]; rfl)) ?_; (with_reducible refine (octet_Cut.calls a0 (bt (⟨#[32]⟩ : ByteArray) 0) t147 t148 t149 _ A5.out).mono ?_); rintro e w20 ⟨rfl, hb⟩; refine ⟨_, rfl, ?_⟩; have n0_ := Aside0.mk (below_step (by repeat (first | (with_reducible first | exact HB.out | apply below_alloc | apply pw_below_drewN | apply below_drew1) | exact HB.out)) hb); clear HB; have HB := n0_; clear n0_; (try clear hb); (try clear hb2); (try clear hk); (try clear hi); have p6 : 0 ≤ (0 : Int) := (by omega); have q6 : 0 < (1 : Int) := (by omega); have hx6 := bt_at (⟨#[32]⟩ : ByteArray) 0; replace p6 := eq_true p6; replace q6 := eq_true q6) | ((with_reducible refine gate_callee (f := 74) rfl ?_); refine goesL_ (some 29) rfl rfl Tryz.func74 (by kernel_rfl) rfl #[.string t148, .int .u8 (bt (⟨#[32]⟩ : ByteArray) 0)] rfl (by (try simp only [List.map_toArray, List.map_cons, List.map_nil]); first | done | rfl | (simp only [List.length_drop, List.length_take]; rfl)) ?_; (with_reducible refine (octet_Cut.calls t148 (bt (⟨#[32]⟩ : ByteArray) 0) t150 t151 true _ A7.out).mono ?_); rintro e w21 ⟨rfl, hb⟩; refine ⟨_, rfl, ?_⟩; have n0_ := Aside0.mk (below_step (by repeat (first | (with_reducible first | exact HB.out | apply below_alloc | apply pw_below_drewN | apply below_drew1) | exact HB.out)) hb); clear HB; have HB := n0_; clear n0_; (try clear hb); (try clear hb2); (try clear hk); (try clear hi)) | ((with_reducible refine gate_callee (f := 60) rfl ?_); refine goesL_ (some 35) rfl rfl Tryz.func60 (by kernel_rfl) rfl #[.string t147] rfl (by (try simp only [List.map_toArray, List.map_cons, List.map_nil]); first | done | rfl | (simp only [List.length_drop, List.length_take]; rfl)) ?_; (with_reducible refine (line_version.calls t147 t153 true _ A8.out).mono ?_); rintro e w' ⟨rfl, ⟨nd, rfl⟩⟩; refine ⟨_, rfl, ?_⟩) | ((with_reducible refine gate_callee (f := 75) rfl ?_); refine goesL_ (some 40) rfl rfl Tryz.func75 (by kernel_rfl) rfl #[.string t150, .int .i64 599] rfl (by (try simp only [List.map_toArray, List.map_cons, List.map_nil]); first | done | rfl | (simp only [List.length_drop, List.length_take]; rfl)) ?_; (with_reducible refine (decimal_Number.calls t150 599 t155 t156 _ A9.out).mono ?_); rintro e w22 ⟨rfl, hb⟩; refine ⟨_, rfl, ?_⟩; have n0_ := Aside0.mk (below_step (by repeat (first | (with_reducible first | exact HB.out | apply below_alloc | apply pw_below_drewN | apply below_drew1) | exact HB.out)) hb); clear HB; have HB := n0_; clear n0_; (try clear hb); (try clear hb2); (try clear hk); (try clear hi)) | (go_at_call 76; (with_reducible refine (octet_IsText.calls t151 true _ A18.out).mono ?_); rintro e w23 ⟨rfl, hb⟩; have n0_ := Aside0.mk (below_step (by repeat (first | (with_reducible first | exact HB.out | apply below_alloc | apply pw_below_drewN | apply below_drew1) | exact HB.out)) hb); clear HB; have HB := n0_; clear n0_; (try clear hb); (try clear hb2); (try clear hk); (try clear hi)))
                  refine bodyPost_ret (results_list (rs := [.tmp 2, .tmp 3, .tmp 4, .tmp 5]) rfl (by simp) (.tmp (.tmp (.tmp (.tmp .nil))))) rfl ?_
                  exact ⟨by first | rfl | (simp [errW_none, errW_some] <;> rfl) | (simp [*, errW_none, errW_some] <;> rfl), by repeat (first | (with_reducible first | exact HB.out | apply below_alloc | apply pw_below_drewN | apply below_drew1) | exact HB.out)⟩
                · replace c19 := Bool.eq_false_iff.mpr c19
                  subst c19
                  have H1 : (some (0, (⟨#[]⟩ : ByteArray), 0, 20)) = some (r1, r2, r3, r4) := by rw [if_neg (show ¬ (false = true) by decide)] at H; exact H
                  clear H
                  have H := H1
                  clear H1
                  simp only [Option.some.injEq, Prod.mk.injEq] at H
                  obtain ⟨rfl, rfl, rfl, rfl⟩ := H
                  have p4 : 0 ≤ (0 : Int) := (by omega)
                  have q4 : 0 < (1 : Int) := (by omega)
                  have hx4 := bt_at (⟨#[32]⟩ : ByteArray) 0
                  replace p4 := eq_true p4
                  replace q4 := eq_true q4
                  go_enter Tryz.func41, Tryz.ntmps41
                  go_wp2_with (first | ((with_reducible refine gate_callee (f := 74) rfl ?_); refine goesL_ (some 22) rfl rfl Tryz.func74 (by kernel_rfl) rfl #[.string a0, .int .u8 (bt (⟨#[32]⟩ : ByteArray) 0)] rfl (by (try simp only [List.map_toArray, List.map_cons, List.map_nil]); first | done | rfl | (simp only [List.length_drop, List.length_take]; rfl)) ?_; (with_reducible refine (octet_Cut.calls a0 (bt (⟨#[32]⟩ : ByteArray) 0) t147 t148 t149 _ A5.out).mono ?_); rintro e w24 ⟨rfl, hb⟩; refine ⟨_, rfl, ?_⟩; have n0_ := Aside0.mk (below_step (by repeat (first | (with_reducible first | exact HB.out | apply below_alloc | apply pw_below_drewN | apply below_drew1) | exact HB.out)) hb); clear HB; have HB := n0_; clear n0_; (try clear hb); (try clear hb2); (try clear hk); (try clear hi); have p6 : 0 ≤ (0 : Int) := (by omega); have q6 : 0 < (1 : Int) := (by omega); have hx6 := bt_at (⟨#[32]⟩ : ByteArray) 0; replace p6 := eq_true p6; replace q6 := eq_true q6) | ((with_reducible refine gate_callee (f := 74) rfl ?_); refine goesL_ (some 29) rfl rfl Tryz.func74 (by kernel_rfl) rfl #[.string t148, .int .u8 (bt (⟨#[32]⟩ : ByteArray) 0)] rfl (by (try simp only [List.map_toArray, List.map_cons, List.map_nil]); first | done | rfl | (simp only [List.length_drop, List.length_take]; rfl)) ?_; (with_reducible refine (octet_Cut.calls t148 (bt (⟨#[32]⟩ : ByteArray) 0) t150 t151 true _ A7.out).mono ?_); rintro e w25 ⟨rfl, hb⟩; refine ⟨_, rfl, ?_⟩; have n0_ := Aside0.mk (below_step (by repeat (first | (with_reducible first | exact HB.out | apply below_alloc | apply pw_below_drewN | apply below_drew1) | exact HB.out)) hb); clear HB; have HB := n0_; clear n0_; (try clear hb); (try clear hb2); (try clear hk); (try clear hi)) | ((with_reducible refine gate_callee (f := 60) rfl ?_); refine goesL_ (some 35) rfl rfl Tryz.func60 (by kernel_rfl) rfl #[.string t147] rfl (by (try simp only [List.map_toArray, List.map_cons, List.map_nil]); first | done | rfl | (simp only [List.length_drop, List.length_take]; rfl)) ?_; (with_reducible refine (line_version.calls t147 t153 true _ A8.out).mono ?_); rintro e w' ⟨rfl, ⟨nd, rfl⟩⟩; refine ⟨_, rfl, ?_⟩) | ((with_reducible refine gate_callee (f := 75) rfl ?_); refine goesL_ (some 40) rfl rfl Tryz.func75 (by kernel_rfl) rfl #[.string t150, .int .i64 599] rfl (by (try simp only [List.map_toArray, List.map_cons, List.map_nil]); first | done | rfl | (simp only [List.length_drop, List.length_take]; rfl)) ?_; (with_reducible refine (decimal_Number.calls t150 599 t155 t156 _ A9.out).mono ?_); rintro e w26 ⟨rfl, hb⟩; refine ⟨_, rfl, ?_⟩; have n0_ := Aside0.mk (below_step (by repeat (first | (with_reducible first | exact HB.out | apply below_alloc | apply pw_below_drewN | apply below_drew1) | exact HB.out)) hb); clear HB; have HB := n0_; clear n0_; (try clear hb); (try clear hb2); (try clear hk); (try clear hi)) | (go_at_call 76; (with_reducible refine (octet_IsText.calls t151 false _ A18.out).mono ?_); rintro e w27 ⟨rfl, hb⟩; have n0_ := Aside0.mk (below_step (by repeat (first | (with_reducible first | exact HB.out | apply below_alloc | apply pw_below_drewN | apply below_drew1) | exact HB.out)) hb); clear HB; have HB := n0_; clear n0_; (try clear hb); (try clear hb2); (try clear hk); (try clear hi)))
                  refine bodyPost_ret (results_list (rs := [.tmp 2, .tmp 3, .tmp 4, .tmp 5]) rfl (by simp) (.tmp (.tmp (.tmp (.tmp .nil))))) rfl ?_
                  exact ⟨by first | rfl | (simp [errW_none, errW_some] <;> rfl) | (simp [*, errW_none, errW_some] <;> rfl), by repeat (first | (with_reducible first | exact HB.out | apply below_alloc | apply pw_below_drewN | apply below_drew1) | exact HB.out)⟩
              · rw [if_neg c17] at H
                have c17b0 : ((t150.size : Int) == 3) = false := beq_eq_false_iff_ne.mpr c17
                have c17b1 : ((t150.size : Int) != 3) = true := bne_iff_ne.mpr c17
                simp only [Option.some.injEq, Prod.mk.injEq] at H
                obtain ⟨rfl, rfl, rfl, rfl⟩ := H
                have p4 : 0 ≤ (0 : Int) := (by omega)
                have q4 : 0 < (1 : Int) := (by omega)
                have hx4 := bt_at (⟨#[32]⟩ : ByteArray) 0
                replace p4 := eq_true p4
                replace q4 := eq_true q4
                go_enter Tryz.func41, Tryz.ntmps41
                go_wp2_with (first | ((with_reducible refine gate_callee (f := 74) rfl ?_); refine goesL_ (some 22) rfl rfl Tryz.func74 (by kernel_rfl) rfl #[.string a0, .int .u8 (bt (⟨#[32]⟩ : ByteArray) 0)] rfl (by (try simp only [List.map_toArray, List.map_cons, List.map_nil]); first | done | rfl | (simp only [List.length_drop, List.length_take]; rfl)) ?_; (with_reducible refine (octet_Cut.calls a0 (bt (⟨#[32]⟩ : ByteArray) 0) t147 t148 t149 _ A5.out).mono ?_); rintro e w28 ⟨rfl, hb⟩; refine ⟨_, rfl, ?_⟩; have n0_ := Aside0.mk (below_step (by repeat (first | (with_reducible first | exact HB.out | apply below_alloc | apply pw_below_drewN | apply below_drew1) | exact HB.out)) hb); clear HB; have HB := n0_; clear n0_; (try clear hb); (try clear hb2); (try clear hk); (try clear hi); have p6 : 0 ≤ (0 : Int) := (by omega); have q6 : 0 < (1 : Int) := (by omega); have hx6 := bt_at (⟨#[32]⟩ : ByteArray) 0; replace p6 := eq_true p6; replace q6 := eq_true q6) | ((with_reducible refine gate_callee (f := 74) rfl ?_); refine goesL_ (some 29) rfl rfl Tryz.func74 (by kernel_rfl) rfl #[.string t148, .int .u8 (bt (⟨#[32]⟩ : ByteArray) 0)] rfl (by (try simp only [List.map_toArray, List.map_cons, List.map_nil]); first | done | rfl | (simp only [List.length_drop, List.length_take]; rfl)) ?_; (with_reducible refine (octet_Cut.calls t148 (bt (⟨#[32]⟩ : ByteArray) 0) t150 t151 true _ A7.out).mono ?_); rintro e w29 ⟨rfl, hb⟩; refine ⟨_, rfl, ?_⟩; have n0_ := Aside0.mk (below_step (by repeat (first | (with_reducible first | exact HB.out | apply below_alloc | apply pw_below_drewN | apply below_drew1) | exact HB.out)) hb); clear HB; have HB := n0_; clear n0_; (try clear hb); (try clear hb2); (try clear hk); (try clear hi)) | ((with_reducible refine gate_callee (f := 60) rfl ?_); refine goesL_ (some 35) rfl rfl Tryz.func60 (by kernel_rfl) rfl #[.string t147] rfl (by (try simp only [List.map_toArray, List.map_cons, List.map_nil]); first | done | rfl | (simp only [List.length_drop, List.length_take]; rfl)) ?_; (with_reducible refine (line_version.calls t147 t153 true _ A8.out).mono ?_); rintro e w' ⟨rfl, ⟨nd, rfl⟩⟩; refine ⟨_, rfl, ?_⟩) | ((with_reducible refine gate_callee (f := 75) rfl ?_); refine goesL_ (some 40) rfl rfl Tryz.func75 (by kernel_rfl) rfl #[.string t150, .int .i64 599] rfl (by (try simp only [List.map_toArray, List.map_cons, List.map_nil]); first | done | rfl | (simp only [List.length_drop, List.length_take]; rfl)) ?_; (with_reducible refine (decimal_Number.calls t150 599 t155 t156 _ A9.out).mono ?_); rintro e w30 ⟨rfl, hb⟩; refine ⟨_, rfl, ?_⟩; have n0_ := Aside0.mk (below_step (by repeat (first | (with_reducible first | exact HB.out | apply below_alloc | apply pw_below_drewN | apply below_drew1) | exact HB.out)) hb); clear HB; have HB := n0_; clear n0_; (try clear hb); (try clear hb2); (try clear hk); (try clear hi)))
                refine bodyPost_ret (results_list (rs := [.tmp 2, .tmp 3, .tmp 4, .tmp 5]) rfl (by simp) (.tmp (.tmp (.tmp (.tmp .nil))))) rfl ?_
                exact ⟨by first | rfl | (simp [errW_none, errW_some] <;> rfl) | (simp [*, errW_none, errW_some] <;> rfl), by repeat (first | (with_reducible first | exact HB.out | apply below_alloc | apply pw_below_drewN | apply below_drew1) | exact HB.out)⟩
          · rw [if_neg c12] at H
            have c12b0 : (t156 == 0) = false := beq_eq_false_iff_ne.mpr c12
            have c12b1 : (t156 != 0) = true := bne_iff_ne.mpr c12
            simp only [Option.some.injEq, Prod.mk.injEq] at H
            obtain ⟨rfl, rfl, rfl, rfl⟩ := H
            have p4 : 0 ≤ (0 : Int) := (by omega)
            have q4 : 0 < (1 : Int) := (by omega)
            have hx4 := bt_at (⟨#[32]⟩ : ByteArray) 0
            replace p4 := eq_true p4
            replace q4 := eq_true q4
            go_enter Tryz.func41, Tryz.ntmps41
            go_wp2_with (first | ((with_reducible refine gate_callee (f := 74) rfl ?_); refine goesL_ (some 22) rfl rfl Tryz.func74 (by kernel_rfl) rfl #[.string a0, .int .u8 (bt (⟨#[32]⟩ : ByteArray) 0)] rfl (by (try simp only [List.map_toArray, List.map_cons, List.map_nil]); first | done | rfl | (simp only [List.length_drop, List.length_take]; rfl)) ?_; (with_reducible refine (octet_Cut.calls a0 (bt (⟨#[32]⟩ : ByteArray) 0) t147 t148 t149 _ A5.out).mono ?_); rintro e w31 ⟨rfl, hb⟩; refine ⟨_, rfl, ?_⟩; have n0_ := Aside0.mk (below_step (by repeat (first | (with_reducible first | exact HB.out | apply below_alloc | apply pw_below_drewN | apply below_drew1) | exact HB.out)) hb); clear HB; have HB := n0_; clear n0_; (try clear hb); (try clear hb2); (try clear hk); (try clear hi); have p6 : 0 ≤ (0 : Int) := (by omega); have q6 : 0 < (1 : Int) := (by omega); have hx6 := bt_at (⟨#[32]⟩ : ByteArray) 0; replace p6 := eq_true p6; replace q6 := eq_true q6) | ((with_reducible refine gate_callee (f := 74) rfl ?_); refine goesL_ (some 29) rfl rfl Tryz.func74 (by kernel_rfl) rfl #[.string t148, .int .u8 (bt (⟨#[32]⟩ : ByteArray) 0)] rfl (by (try simp only [List.map_toArray, List.map_cons, List.map_nil]); first | done | rfl | (simp only [List.length_drop, List.length_take]; rfl)) ?_; (with_reducible refine (octet_Cut.calls t148 (bt (⟨#[32]⟩ : ByteArray) 0) t150 t151 true _ A7.out).mono ?_); rintro e w32 ⟨rfl, hb⟩; refine ⟨_, rfl, ?_⟩; have n0_ := Aside0.mk (below_step (by repeat (first | (with_reducible first | exact HB.out | apply below_alloc | apply pw_below_drewN | apply below_drew1) | exact HB.out)) hb); clear HB; have HB := n0_; clear n0_; (try clear hb); (try clear hb2); (try clear hk); (try clear hi)) | ((with_reducible refine gate_callee (f := 60) rfl ?_); refine goesL_ (some 35) rfl rfl Tryz.func60 (by kernel_rfl) rfl #[.string t147] rfl (by (try simp only [List.map_toArray, List.map_cons, List.map_nil]); first | done | rfl | (simp only [List.length_drop, List.length_take]; rfl)) ?_; (with_reducible refine (line_version.calls t147 t153 true _ A8.out).mono ?_); rintro e w' ⟨rfl, ⟨nd, rfl⟩⟩; refine ⟨_, rfl, ?_⟩) | ((with_reducible refine gate_callee (f := 75) rfl ?_); refine goesL_ (some 40) rfl rfl Tryz.func75 (by kernel_rfl) rfl #[.string t150, .int .i64 599] rfl (by (try simp only [List.map_toArray, List.map_cons, List.map_nil]); first | done | rfl | (simp only [List.length_drop, List.length_take]; rfl)) ?_; (with_reducible refine (decimal_Number.calls t150 599 t155 t156 _ A9.out).mono ?_); rintro e w33 ⟨rfl, hb⟩; refine ⟨_, rfl, ?_⟩; have n0_ := Aside0.mk (below_step (by repeat (first | (with_reducible first | exact HB.out | apply below_alloc | apply pw_below_drewN | apply below_drew1) | exact HB.out)) hb); clear HB; have HB := n0_; clear n0_; (try clear hb); (try clear hb2); (try clear hk); (try clear hi)))
            refine bodyPost_ret (results_list (rs := [.tmp 2, .tmp 3, .tmp 4, .tmp 5]) rfl (by simp) (.tmp (.tmp (.tmp (.tmp .nil))))) rfl ?_
            exact ⟨by first | rfl | (simp [errW_none, errW_some] <;> rfl) | (simp [*, errW_none, errW_some] <;> rfl), by repeat (first | (with_reducible first | exact HB.out | apply below_alloc | apply pw_below_drewN | apply below_drew1) | exact HB.out)⟩
        · replace c11 := Bool.eq_false_iff.mpr c11
          subst c11
          have H1 : (some (0, (⟨#[]⟩ : ByteArray), 0, 20)) = some (r1, r2, r3, r4) := by rw [if_neg (show ¬ (false = true) by decide)] at H; exact H
          clear H
          have H := H1
          clear H1
          simp only [Option.some.injEq, Prod.mk.injEq] at H
          obtain ⟨rfl, rfl, rfl, rfl⟩ := H
          have p4 : 0 ≤ (0 : Int) := (by omega)
          have q4 : 0 < (1 : Int) := (by omega)
          have hx4 := bt_at (⟨#[32]⟩ : ByteArray) 0
          replace p4 := eq_true p4
          replace q4 := eq_true q4
          go_enter Tryz.func41, Tryz.ntmps41
          go_wp2_with (first | ((with_reducible refine gate_callee (f := 74) rfl ?_); refine goesL_ (some 22) rfl rfl Tryz.func74 (by kernel_rfl) rfl #[.string a0, .int .u8 (bt (⟨#[32]⟩ : ByteArray) 0)] rfl (by (try simp only [List.map_toArray, List.map_cons, List.map_nil]); first | done | rfl | (simp only [List.length_drop, List.length_take]; rfl)) ?_; (with_reducible refine (octet_Cut.calls a0 (bt (⟨#[32]⟩ : ByteArray) 0) t147 t148 t149 _ A5.out).mono ?_); rintro e w34 ⟨rfl, hb⟩; refine ⟨_, rfl, ?_⟩; have n0_ := Aside0.mk (below_step (by repeat (first | (with_reducible first | exact HB.out | apply below_alloc | apply pw_below_drewN | apply below_drew1) | exact HB.out)) hb); clear HB; have HB := n0_; clear n0_; (try clear hb); (try clear hb2); (try clear hk); (try clear hi); have p6 : 0 ≤ (0 : Int) := (by omega); have q6 : 0 < (1 : Int) := (by omega); have hx6 := bt_at (⟨#[32]⟩ : ByteArray) 0; replace p6 := eq_true p6; replace q6 := eq_true q6) | ((with_reducible refine gate_callee (f := 74) rfl ?_); refine goesL_ (some 29) rfl rfl Tryz.func74 (by kernel_rfl) rfl #[.string t148, .int .u8 (bt (⟨#[32]⟩ : ByteArray) 0)] rfl (by (try simp only [List.map_toArray, List.map_cons, List.map_nil]); first | done | rfl | (simp only [List.length_drop, List.length_take]; rfl)) ?_; (with_reducible refine (octet_Cut.calls t148 (bt (⟨#[32]⟩ : ByteArray) 0) t150 t151 false _ A7.out).mono ?_); rintro e w35 ⟨rfl, hb⟩; refine ⟨_, rfl, ?_⟩; have n0_ := Aside0.mk (below_step (by repeat (first | (with_reducible first | exact HB.out | apply below_alloc | apply pw_below_drewN | apply below_drew1) | exact HB.out)) hb); clear HB; have HB := n0_; clear n0_; (try clear hb); (try clear hb2); (try clear hk); (try clear hi)) | ((with_reducible refine gate_callee (f := 60) rfl ?_); refine goesL_ (some 35) rfl rfl Tryz.func60 (by kernel_rfl) rfl #[.string t147] rfl (by (try simp only [List.map_toArray, List.map_cons, List.map_nil]); first | done | rfl | (simp only [List.length_drop, List.length_take]; rfl)) ?_; (with_reducible refine (line_version.calls t147 t153 true _ A8.out).mono ?_); rintro e w' ⟨rfl, ⟨nd, rfl⟩⟩; refine ⟨_, rfl, ?_⟩) | ((with_reducible refine gate_callee (f := 75) rfl ?_); refine goesL_ (some 40) rfl rfl Tryz.func75 (by kernel_rfl) rfl #[.string t150, .int .i64 599] rfl (by (try simp only [List.map_toArray, List.map_cons, List.map_nil]); first | done | rfl | (simp only [List.length_drop, List.length_take]; rfl)) ?_; (with_reducible refine (decimal_Number.calls t150 599 t155 t156 _ A9.out).mono ?_); rintro e w36 ⟨rfl, hb⟩; refine ⟨_, rfl, ?_⟩; have n0_ := Aside0.mk (below_step (by repeat (first | (with_reducible first | exact HB.out | apply below_alloc | apply pw_below_drewN | apply below_drew1) | exact HB.out)) hb); clear HB; have HB := n0_; clear n0_; (try clear hb); (try clear hb2); (try clear hk); (try clear hi)))
          refine bodyPost_ret (results_list (rs := [.tmp 2, .tmp 3, .tmp 4, .tmp 5]) rfl (by simp) (.tmp (.tmp (.tmp (.tmp .nil))))) rfl ?_
          exact ⟨by first | rfl | (simp [errW_none, errW_some] <;> rfl) | (simp [*, errW_none, errW_some] <;> rfl), by repeat (first | (with_reducible first | exact HB.out | apply below_alloc | apply pw_below_drewN | apply below_drew1) | exact HB.out)⟩
      · replace c10 := Bool.eq_false_iff.mpr c10
        subst c10
        have H1 : (some (0, (⟨#[]⟩ : ByteArray), 0, 20)) = some (r1, r2, r3, r4) := by rw [if_neg (show ¬ (false = true) by decide)] at H; exact H
        clear H
        have H := H1
        clear H1
        simp only [Option.some.injEq, Prod.mk.injEq] at H
        obtain ⟨rfl, rfl, rfl, rfl⟩ := H
        have p4 : 0 ≤ (0 : Int) := (by omega)
        have q4 : 0 < (1 : Int) := (by omega)
        have hx4 := bt_at (⟨#[32]⟩ : ByteArray) 0
        replace p4 := eq_true p4
        replace q4 := eq_true q4
        go_enter Tryz.func41, Tryz.ntmps41
        go_wp2_with (first | ((with_reducible refine gate_callee (f := 74) rfl ?_); refine goesL_ (some 22) rfl rfl Tryz.func74 (by kernel_rfl) rfl #[.string a0, .int .u8 (bt (⟨#[32]⟩ : ByteArray) 0)] rfl (by (try simp only [List.map_toArray, List.map_cons, List.map_nil]); first | done | rfl | (simp only [List.length_drop, List.length_take]; rfl)) ?_; (with_reducible refine (octet_Cut.calls a0 (bt (⟨#[32]⟩ : ByteArray) 0) t147 t148 t149 _ A5.out).mono ?_); rintro e w37 ⟨rfl, hb⟩; refine ⟨_, rfl, ?_⟩; have n0_ := Aside0.mk (below_step (by repeat (first | (with_reducible first | exact HB.out | apply below_alloc | apply pw_below_drewN | apply below_drew1) | exact HB.out)) hb); clear HB; have HB := n0_; clear n0_; (try clear hb); (try clear hb2); (try clear hk); (try clear hi); have p6 : 0 ≤ (0 : Int) := (by omega); have q6 : 0 < (1 : Int) := (by omega); have hx6 := bt_at (⟨#[32]⟩ : ByteArray) 0; replace p6 := eq_true p6; replace q6 := eq_true q6) | ((with_reducible refine gate_callee (f := 74) rfl ?_); refine goesL_ (some 29) rfl rfl Tryz.func74 (by kernel_rfl) rfl #[.string t148, .int .u8 (bt (⟨#[32]⟩ : ByteArray) 0)] rfl (by (try simp only [List.map_toArray, List.map_cons, List.map_nil]); first | done | rfl | (simp only [List.length_drop, List.length_take]; rfl)) ?_; (with_reducible refine (octet_Cut.calls t148 (bt (⟨#[32]⟩ : ByteArray) 0) t150 t151 t152 _ A7.out).mono ?_); rintro e w38 ⟨rfl, hb⟩; refine ⟨_, rfl, ?_⟩; have n0_ := Aside0.mk (below_step (by repeat (first | (with_reducible first | exact HB.out | apply below_alloc | apply pw_below_drewN | apply below_drew1) | exact HB.out)) hb); clear HB; have HB := n0_; clear n0_; (try clear hb); (try clear hb2); (try clear hk); (try clear hi)) | ((with_reducible refine gate_callee (f := 60) rfl ?_); refine goesL_ (some 35) rfl rfl Tryz.func60 (by kernel_rfl) rfl #[.string t147] rfl (by (try simp only [List.map_toArray, List.map_cons, List.map_nil]); first | done | rfl | (simp only [List.length_drop, List.length_take]; rfl)) ?_; (with_reducible refine (line_version.calls t147 t153 false _ A8.out).mono ?_); rintro e w' ⟨rfl, ⟨nd, rfl⟩⟩; refine ⟨_, rfl, ?_⟩) | ((with_reducible refine gate_callee (f := 75) rfl ?_); refine goesL_ (some 40) rfl rfl Tryz.func75 (by kernel_rfl) rfl #[.string t150, .int .i64 599] rfl (by (try simp only [List.map_toArray, List.map_cons, List.map_nil]); first | done | rfl | (simp only [List.length_drop, List.length_take]; rfl)) ?_; (with_reducible refine (decimal_Number.calls t150 599 t155 t156 _ A9.out).mono ?_); rintro e w39 ⟨rfl, hb⟩; refine ⟨_, rfl, ?_⟩; have n0_ := Aside0.mk (below_step (by repeat (first | (with_reducible first | exact HB.out | apply below_alloc | apply pw_below_drewN | apply below_drew1) | exact HB.out)) hb); clear HB; have HB := n0_; clear n0_; (try clear hb); (try clear hb2); (try clear hk); (try clear hi)))
        refine bodyPost_ret (results_list (rs := [.tmp 2, .tmp 3, .tmp 4, .tmp 5]) rfl (by simp) (.tmp (.tmp (.tmp (.tmp .nil))))) rfl ?_
        exact ⟨by first | rfl | (simp [errW_none, errW_some] <;> rfl) | (simp [*, errW_none, errW_some] <;> rfl), by repeat (first | (with_reducible first | exact HB.out | apply below_alloc | apply pw_below_drewN | apply below_drew1) | exact HB.out)⟩
    · rw [if_neg c3] at H
      exact absurd H (by simp)

end Go.Proofs.YtjaklgikfcahdaaGreatDoor.PB
