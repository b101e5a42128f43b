-- Out of the translation, by a program of this session: each function that a law comes to as a Lean function, and that the machine's call does what it says. Lean checks it.
import Derived.Test.YtljikgfhglihhaaDoorPR0
import Derived.Test.YtljikgfhglihhaaDoorPR3
namespace Go.Proofs.YtljikgfhglihhaaDoor.PR
open Go.RowKit Go.Proofs.YtljikgfhglihhaaDoorW.PrintWords Go.Proofs.YtljikgfhglihhaaDoorW.PrintLast Go.Proofs.YtljikgfhglihhaaDoorW.PrintMore
attribute [local go_sem] max2_int min2_int max_two min_two max_three min_three max_four min_four   -- for this text's walks alone
set_option linter.unusedVariables false
set_option linter.unusedSimpArgs false

/-! ### decimal_Plain: function 32 -/
def decimal_Plain.f (a0 : Int) : Option (ByteArray) := (strconv_Itoa.f a0).bind fun t133 => (some t133)
set_option maxHeartbeats 8000000 in
set_option maxRecDepth 100000 in
theorem decimal_Plain.calls (a0 : Int) (r : ByteArray) (w : World) (HT : Aside0 (Hand.Laid w)) (h : decimal_Plain.f a0 = some r) :
    Calls Tryd.prog 32 #[.int .i64 a0] w fun e w' => e = .returned (.string r) ∧ Below w.heap.size w w' := by
  have HB := Aside0.mk (Below.refl w.heap.size w)
  have H : ((strconv_Itoa.f a0).bind fun t133 => (some t133)) = some r := h
  clear h
  replace H := Option.bind_eq_some_iff.mp H
  obtain ⟨t133, A20, H⟩ := H
  replace H : (some t133) = some r := H
  have A2 := Aside0.mk A20
  clear A20
  obtain rfl := Option.some.inj H
  go_enter Tryd.func32, Tryd.ntmps32
  go_wp2_with (first | ((with_reducible refine gate_callee (f := 45) rfl ?_); refine goesL_ (some 4) rfl rfl Tryd.func45 (by kernel_rfl) rfl #[.int .i64 a0] rfl (by (try simp only [List.map_toArray, List.map_cons, List.map_nil]); first | done | rfl | (simp only [List.length_drop, List.length_take]; rfl)) ?_; (with_reducible refine (strconv_Itoa.calls a0 t133 _ ?side1 A2.out).mono ?_); (case side1 => first | exact HT | exact ⟨Hand.Laid.below HT.out (by repeat (first | (with_reducible first | exact HB.out | apply below_alloc | apply pw_below_drewN | apply below_drew1) | exact HB.out))⟩); rintro e w3 ⟨rfl, hb⟩; refine ⟨_, rfl, ?_⟩; have n0_ := Aside0.mk (below_step (by repeat (first | (with_reducible first | exact HB.out | apply below_alloc | apply pw_below_drewN | apply below_drew1) | exact HB.out)) hb); clear HB; have HB := n0_; clear n0_; (try clear hb); (try clear hb2); (try clear hk); (try clear hi)))
  go_ret
  exact ⟨by first | rfl | (simp [errW_none, errW_some] <;> rfl) | (simp [*, errW_none, errW_some] <;> rfl), by repeat (first | (with_reducible first | exact HB.out | apply below_alloc | apply pw_below_drewN | apply below_drew1) | exact HB.out)⟩

/-! ### line_PrintRequest: function 11 -/
def line_PrintRequest.f (a0 : ByteArray) (a1 : ByteArray) (a2 : Int) : Option (ByteArray) := (decimal_Plain.f a2).bind fun t134 => (if 7 + t134.size ≤ 9223372036854775807 then ((line_words.f (([a0, a1, (⟨#[72, 84, 84, 80, 47, 49, 46]⟩ : ByteArray) ++ t134] : List ByteArray))).bind fun t138 => (some t138)) else (none))
set_option maxHeartbeats 8000000 in
set_option maxRecDepth 100000 in
theorem line_PrintRequest.calls (a0 : ByteArray) (a1 : ByteArray) (a2 : Int) (r : ByteArray) (w : World) (HT : Aside0 (Hand.Laid w)) (h : line_PrintRequest.f a0 a1 a2 = some r) :
    Calls Tryd.prog 11 #[.string a0, .string a1, .int .i64 a2] w fun e w' => e = .returned (.string r) ∧ Below w.heap.size w w' := by
  have HB := Aside0.mk (Below.refl w.heap.size w)
  have H : ((decimal_Plain.f a2).bind fun t134 => (if 7 + t134.size ≤ 9223372036854775807 then ((line_words.f (([a0, a1, (⟨#[72, 84, 84, 80, 47, 49, 46]⟩ : ByteArray) ++ t134] : List ByteArray))).bind fun t138 => (some t138)) else (none))) = some r := h
  clear h
  replace H := Option.bind_eq_some_iff.mp H
  obtain ⟨t134, A40, H⟩ := H
  replace H : (if 7 + t134.size ≤ 9223372036854775807 then ((line_words.f (([a0, a1, (⟨#[72, 84, 84, 80, 47, 49, 46]⟩ : ByteArray) ++ t134] : List ByteArray))).bind fun t138 => (some t138)) else (none)) = some r := H
  have A4 := Aside0.mk A40
  clear A40
  by_cases c5 : 7 + t134.size ≤ 9223372036854775807
  · rw [if_pos c5] at H
    have c5b0 := eq_true c5
    have c5b1 : decide (7 + t134.size ≤ 9223372036854775807) = true := decide_eq_true c5
    try have c5b2 : (9223372036854775807 < 7 + t134.size) = False := eq_false (Nat.not_lt.2 c5)
    obtain ⟨y135, hy135⟩ : ∃ y_ : List ByteArray, y_ = (([a0, a1, (⟨#[72, 84, 84, 80, 47, 49, 46]⟩ : ByteArray) ++ t134] : List ByteArray)) := ⟨_, rfl⟩
    replace H : ((line_words.f y135).bind fun t138 => (some t138)) = some r := by first | (rw [hy135]; with_reducible exact H) | (have H2_ := (Option.bind_some _ _).symm.trans H; rw [hy135]; with_reducible exact H2_) | (have H2_ := (Option.bind_some _ _).symm.trans H; with_reducible exact H2_) | with_reducible exact H | (rw [hy135]; exact H) | exact H
    have Ny135 := Aside0.mk hy135
    clear hy135
    replace H := Option.bind_eq_some_iff.mp H
    obtain ⟨t138, A60, H⟩ := H
    replace H : (some t138) = some r := H
    have A6 := Aside0.mk A60
    clear A60
    obtain rfl := Option.some.inj H
    go_enter Tryd.func11, Tryd.ntmps11
    go_wp2_with (first | ((with_reducible refine gate_callee (f := 32) rfl ?_); refine goesL_ (some 10) rfl rfl Tryd.func32 (by kernel_rfl) rfl #[.int .i64 a2] rfl (by (try simp only [List.map_toArray, List.map_cons, List.map_nil]); first | done | rfl | (simp only [List.length_drop, List.length_take]; rfl)) ?_; (with_reducible refine (decimal_Plain.calls a2 t134 _ ?side1 A4.out).mono ?_); (case side1 => first | exact HT | exact ⟨Hand.Laid.below HT.out (by repeat (first | (with_reducible first | exact HB.out | apply below_alloc | apply pw_below_drewN | apply below_drew1) | exact HB.out))⟩); rintro e w7 ⟨rfl, hb⟩; refine ⟨_, rfl, ?_⟩; have n0_ := Aside0.mk (below_step (by repeat (first | (with_reducible first | exact HB.out | apply below_alloc | apply pw_below_drewN | apply below_drew1) | exact HB.out)) hb); clear HB; have HB := n0_; clear n0_; (try clear hb); (try clear hb2); (try clear hk); (try clear hi)) | ((with_reducible refine gate_dst (N := 12) rfl ?_); refine Kd.R_lit Kd.string _ 9 ?hg (N := 12) ?hd (xs := ([a0, a1, (⟨#[72, 84, 84, 80, 47, 49, 46]⟩ : ByteArray) ++ t134] : List ByteArray)) (inner := [.string a0, .string a1, .string ((⟨#[72, 84, 84, 80, 47, 49, 46]⟩ : ByteArray) ++ t134)]) (ok := fun _ => True) (okp := fun _ => True) ?hr ?hp (fun _ hk => hk) trivial (Below.refl _ _) (Nat.le_refl _) (by simp) ?_; (case hd => rfl); (case hg => rfl); (case hr => first | (go_simp; done) | (go_simp; rfl)); (case hp => exact (Reps.one (show Kd.M Kd.string _ _ _ a0 [.string a0] from rfl) (Reps.one (show Kd.M Kd.string _ _ _ a1 [.string a1] from rfl) (Reps.one (show Kd.M Kd.string _ _ _ ((⟨#[72, 84, 84, 80, 47, 49, 46]⟩ : ByteArray) ++ t134) [.string ((⟨#[72, 84, 84, 80, 47, 49, 46]⟩ : ByteArray) ++ t134)] from rfl) (Reps.none _ _))))); intro v136 w8 ho9 hb hg_ hnew_; clear hg_ hnew_; (first | rw [← Ny135.out] at ho9 | (simp only [Int.reduceToNat] at ho9; rw [← Ny135.out] at ho9)); have n0_ := Aside0.mk (Kd.R_lower ho9 (below_size (by repeat (first | (with_reducible first | exact HB.out | apply below_alloc | apply pw_below_drewN | apply below_drew1) | exact HB.out)))); have n1_ := Aside0.mk (below_step (by repeat (first | (with_reducible first | exact HB.out | apply below_alloc | apply pw_below_drewN | apply below_drew1) | exact HB.out)) hb); clear HB; have HO137 := n0_; have HB := n1_; clear n0_ n1_; clear hb ho9; obtain ⟨Ao10, co10, eo10⟩ := Kd.R_slice HO137.out; subst eo10) | ((with_reducible refine gate_callee (f := 31) rfl ?_); refine goesL_ (some 13) rfl rfl Tryd.func31 (by kernel_rfl) rfl #[.slice Ao10 y135.length co10] rfl (by (try simp only [List.map_toArray, List.map_cons, List.map_nil]); first | done | rfl | (simp only [List.length_drop, List.length_take]; rfl)) ?_; (with_reducible refine (line_words.calls _ _ y135 t138 _ ?side1 ?side2 A6.out).mono ?_); (case side1 => repeat (first | exact (Kd.R_reads' HO137.out).2.2 | (with_reducible refine Kd.C_alloc ?_ _) | (with_reducible refine Kd.C_drewN ?_ _) | (with_reducible refine Kd.C_drew ?_))); (case side2 => exact (Kd.R_reads' HO137.out).2.1); rintro e w11 ⟨rfl, hb⟩; refine ⟨_, rfl, ?_⟩; have n0_ := Aside0.mk (Kd.R_below (by (with_reducible repeat (first | apply Kd.R_alloc | apply Kd.R_drewN | apply Kd.R_drew)); exact HO137.out) hb); have n1_ := Aside0.mk (below_step (by repeat (first | (with_reducible first | exact HB.out | apply below_alloc | apply pw_below_drewN | apply below_drew1) | exact HB.out)) hb); clear HO137; clear HB; have HO137 := n0_; have HB := n1_; clear n0_ n1_; (try clear hb); (try clear hb2); (try clear hk); (try clear hi)))
    go_ret
    exact ⟨by first | rfl | (simp [errW_none, errW_some] <;> rfl) | (simp [*, errW_none, errW_some] <;> rfl), by repeat (first | (with_reducible first | exact HB.out | apply below_alloc | apply pw_below_drewN | apply below_drew1) | exact HB.out)⟩
  · rw [if_neg c5] at H
    exact absurd H (by simp)

/-! ### line_PrintStatus: function 13 -/
def line_PrintStatus.f (a0 : Int) (a1 : ByteArray) (a2 : Int) : Option (ByteArray) := (decimal_Plain.f a2).bind fun t139 => (if 7 + t139.size ≤ 9223372036854775807 then ((decimal_Plain.f a0).bind fun t140 => ((line_words.f (([(⟨#[72, 84, 84, 80, 47, 49, 46]⟩ : ByteArray) ++ t139, t140, a1] : List ByteArray))).bind fun t144 => (some t144))) else (none))
set_option maxHeartbeats 8000000 in
set_option maxRecDepth 100000 in
theorem line_PrintStatus.calls (a0 : Int) (a1 : ByteArray) (a2 : Int) (r : ByteArray) (w : World) (HT : Aside0 (Hand.Laid w)) (h : line_PrintStatus.f a0 a1 a2 = some r) :
    Calls Tryd.prog 13 #[.int .i64 a0, .string a1, .int .i64 a2] w fun e w' => e = .returned (.string r) ∧ Below w.heap.size w w' := by
  have HB := Aside0.mk (Below.refl w.heap.size w)
  have H : ((decimal_Plain.f a2).bind fun t139 => (if 7 + t139.size ≤ 9223372036854775807 then ((decimal_Plain.f a0).bind fun t140 => ((line_words.f (([(⟨#[72, 84, 84, 80, 47, 49, 46]⟩ : ByteArray) ++ t139, t140, a1] : List ByteArray))).bind fun t144 => (some t144))) else (none))) = some r := h
  clear h
  replace H := Option.bind_eq_some_iff.mp H
  obtain ⟨t139, A40, H⟩ := H
  replace H : (if 7 + t139.size ≤ 9223372036854775807 then ((decimal_Plain.f a0).bind fun t140 => ((line_words.f (([(⟨#[72, 84, 84, 80, 47, 49, 46]⟩ : ByteArray) ++ t139, t140, a1] : List ByteArray))).bind fun t144 => (some t144))) else (none)) = some r := H
  have A4 := Aside0.mk A40
  clear A40
  by_cases c5 : 7 + t139.size ≤ 9223372036854775807
  · rw [if_pos c5] at H
    have c5b0 := eq_true c5
    have c5b1 : decide (7 + t139.size ≤ 9223372036854775807) = true := decide_eq_true c5
    try have c5b2 : (9223372036854775807 < 7 + t139.size) = False := eq_false (Nat.not_lt.2 c5)
    replace H := Option.bind_eq_some_iff.mp H
    obtain ⟨t140, A60, H⟩ := H
    replace H : ((line_words.f (([(⟨#[72, 84, 84, 80, 47, 49, 46]⟩ : ByteArray) ++ t139, t140, a1] : List ByteArray))).bind fun t144 => (some t144)) = some r := H
    have A6 := Aside0.mk A60
    clear A60
    obtain ⟨y141, hy141⟩ : ∃ y_ : List ByteArray, y_ = (([(⟨#[72, 84, 84, 80, 47, 49, 46]⟩ : ByteArray) ++ t139, t140, a1] : List ByteArray)) := ⟨_, rfl⟩
    replace H : ((line_words.f y141).bind fun t144 => (some t144)) = some r := by first | (rw [hy141]; with_reducible exact H) | (have H2_ := (Option.bind_some _ _).symm.trans H; rw [hy141]; with_reducible exact H2_) | (have H2_ := (Option.bind_some _ _).symm.trans H; with_reducible exact H2_) | with_reducible exact H | (rw [hy141]; exact H) | exact H
    have Ny141 := Aside0.mk hy141
    clear hy141
    replace H := Option.bind_eq_some_iff.mp H
    obtain ⟨t144, A70, H⟩ := H
    replace H : (some t144) = some r := H
    have A7 := Aside0.mk A70
    clear A70
    obtain rfl := Option.some.inj H
    go_enter Tryd.func13, Tryd.ntmps13
    go_wp2_with (first | ((with_reducible refine gate_callee (f := 32) rfl ?_); refine goesL_ (some 8) rfl rfl Tryd.func32 (by kernel_rfl) rfl #[.int .i64 a2] rfl (by (try simp only [List.map_toArray, List.map_cons, List.map_nil]); first | done | rfl | (simp only [List.length_drop, List.length_take]; rfl)) ?_; (with_reducible refine (decimal_Plain.calls a2 t139 _ ?side1 A4.out).mono ?_); (case side1 => first | exact HT | exact ⟨Hand.Laid.below HT.out (by repeat (first | (with_reducible first | exact HB.out | apply below_alloc | apply pw_below_drewN | apply below_drew1) | exact HB.out))⟩); rintro e w8 ⟨rfl, hb⟩; refine ⟨_, rfl, ?_⟩; have n0_ := Aside0.mk (below_step (by repeat (first | (with_reducible first | exact HB.out | apply below_alloc | apply pw_below_drewN | apply below_drew1) | exact HB.out)) hb); clear HB; have HB := n0_; clear n0_; (try clear hb); (try clear hb2); (try clear hk); (try clear hi)) | ((with_reducible refine gate_callee (f := 32) rfl ?_); refine goesL_ (some 11) rfl rfl Tryd.func32 (by kernel_rfl) rfl #[.int .i64 a0] rfl (by (try simp only [List.map_toArray, List.map_cons, List.map_nil]); first | done | rfl | (simp only [List.length_drop, List.length_take]; rfl)) ?_; (with_reducible refine (decimal_Plain.calls a0 t140 _ ?side1 A6.out).mono ?_); (case side1 => first | exact HT | exact ⟨Hand.Laid.below HT.out (by repeat (first | (with_reducible first | exact HB.out | apply below_alloc | apply pw_below_drewN | apply below_drew1) | exact HB.out))⟩); rintro e w9 ⟨rfl, hb⟩; refine ⟨_, rfl, ?_⟩; have n0_ := Aside0.mk (below_step (by repeat (first | (with_reducible first | exact HB.out | apply below_alloc | apply pw_below_drewN | apply below_drew1) | exact HB.out)) hb); clear HB; have HB := n0_; clear n0_; (try clear hb); (try clear hb2); (try clear hk); (try clear hi)) | ((with_reducible refine gate_dst (N := 13) rfl ?_); refine Kd.R_lit Kd.string _ 9 ?hg (N := 13) ?hd (xs := ([(⟨#[72, 84, 84, 80, 47, 49, 46]⟩ : ByteArray) ++ t139, t140, a1] : List ByteArray)) (inner := [.string ((⟨#[72, 84, 84, 80, 47, 49, 46]⟩ : ByteArray) ++ t139), .string t140, .string a1]) (ok := fun _ => True) (okp := fun _ => True) ?hr ?hp (fun _ hk => hk) trivial (Below.refl _ _) (Nat.le_refl _) (by simp) ?_; (case hd => rfl); (case hg => rfl); (case hr => first | (go_simp; done) | (go_simp; rfl)); (case hp => exact (Reps.one (show Kd.M Kd.string _ _ _ ((⟨#[72, 84, 84, 80, 47, 49, 46]⟩ : ByteArray) ++ t139) [.string ((⟨#[72, 84, 84, 80, 47, 49, 46]⟩ : ByteArray) ++ t139)] from rfl) (Reps.one (show Kd.M Kd.string _ _ _ t140 [.string t140] from rfl) (Reps.one (show Kd.M Kd.string _ _ _ a1 [.string a1] from rfl) (Reps.none _ _))))); intro v142 w10 ho11 hb hg_ hnew_; clear hg_ hnew_; (first | rw [← Ny141.out] at ho11 | (simp only [Int.reduceToNat] at ho11; rw [← Ny141.out] at ho11)); have n0_ := Aside0.mk (Kd.R_lower ho11 (below_size (by repeat (first | (with_reducible first | exact HB.out | apply below_alloc | apply pw_below_drewN | apply below_drew1) | exact HB.out)))); have n1_ := Aside0.mk (below_step (by repeat (first | (with_reducible first | exact HB.out | apply below_alloc | apply pw_below_drewN | apply below_drew1) | exact HB.out)) hb); clear HB; have HO143 := n0_; have HB := n1_; clear n0_ n1_; clear hb ho11; obtain ⟨Ao12, co12, eo12⟩ := Kd.R_slice HO143.out; subst eo12) | ((with_reducible refine gate_callee (f := 31) rfl ?_); refine goesL_ (some 14) rfl rfl Tryd.func31 (by kernel_rfl) rfl #[.slice Ao12 y141.length co12] rfl (by (try simp only [List.map_toArray, List.map_cons, List.map_nil]); first | done | rfl | (simp only [List.length_drop, List.length_take]; rfl)) ?_; (with_reducible refine (line_words.calls _ _ y141 t144 _ ?side1 ?side2 A7.out).mono ?_); (case side1 => repeat (first | exact (Kd.R_reads' HO143.out).2.2 | (with_reducible refine Kd.C_alloc ?_ _) | (with_reducible refine Kd.C_drewN ?_ _) | (with_reducible refine Kd.C_drew ?_))); (case side2 => exact (Kd.R_reads' HO143.out).2.1); rintro e w13 ⟨rfl, hb⟩; refine ⟨_, rfl, ?_⟩; have n0_ := Aside0.mk (Kd.R_below (by (with_reducible repeat (first | apply Kd.R_alloc | apply Kd.R_drewN | apply Kd.R_drew)); exact HO143.out) hb); have n1_ := Aside0.mk (below_step (by repeat (first | (with_reducible first | exact HB.out | apply below_alloc | apply pw_below_drewN | apply below_drew1) | exact HB.out)) hb); clear HO143; clear HB; have HO143 := n0_; have HB := n1_; clear n0_ n1_; (try clear hb); (try clear hb2); (try clear hk); (try clear hi)))
    go_ret
    exact ⟨by first | rfl | (simp [errW_none, errW_some] <;> rfl) | (simp [*, errW_none, errW_some] <;> rfl), by repeat (first | (with_reducible first | exact HB.out | apply below_alloc | apply pw_below_drewN | apply below_drew1) | exact HB.out)⟩
  · rw [if_neg c5] at H
    exact absurd H (by simp)

/-! ### line_Safe: function 15 -/
def line_Safe.f (a0 : ByteArray) : Option (Bool) := if a0.toList = ([71, 69, 84] : List UInt8) then (some true) else (if a0.toList = ([72, 69, 65, 68] : List UInt8) then (some true) else (if a0.toList = ([79, 80, 84, 73, 79, 78, 83] : List UInt8) then (some true) else (if a0.toList = ([84, 82, 65, 67, 69] : List UInt8) then (some true) else (some false))))
set_option maxHeartbeats 8000000 in
set_option maxRecDepth 100000 in
theorem line_Safe.calls (a0 : ByteArray) (r : Bool) (w : World) (h : line_Safe.f a0 = some r) :
    Calls Tryd.prog 15 #[.string a0] w fun e w' => e = .returned (.bool r) ∧ Drawn0 w w' := by
  have H : (if a0.toList = ([71, 69, 84] : List UInt8) then (some true) else (if a0.toList = ([72, 69, 65, 68] : List UInt8) then (some true) else (if a0.toList = ([79, 80, 84, 73, 79, 78, 83] : List UInt8) then (some true) else (if a0.toList = ([84, 82, 65, 67, 69] : List UInt8) then (some true) else (some false))))) = some r := h
  clear h
  by_cases c2 : a0.toList = ([71, 69, 84] : List UInt8)
  · rw [if_pos c2] at H
    have c2b0 : (a0.toList == ([71, 69, 84] : List UInt8)) = true := beq_iff_eq.mpr c2
    have c2b1 : (a0.toList != ([71, 69, 84] : List UInt8)) = false := bne_eq_false_iff_eq.mpr c2
    clear c2
    obtain rfl := Option.some.inj H
    go_enter Tryd.func15, Tryd.ntmps15
    go_wp2
    go_ret
    exact ⟨by first | rfl | (simp; done) | (simp [*]; done) | (simp; exact Hand.isEmpty_ne _), by repeat (first | exact Drawn0.refl _ | apply Drawn0.step)⟩
  · rw [if_neg c2] at H
    have c2b0 : (a0.toList == ([71, 69, 84] : List UInt8)) = false := beq_eq_false_iff_ne.mpr c2
    have c2b1 : (a0.toList != ([71, 69, 84] : List UInt8)) = true := bne_iff_ne.mpr c2
    by_cases c3 : a0.toList = ([72, 69, 65, 68] : List UInt8)
    · rw [if_pos c3] at H
      have c3b0 : (a0.toList == ([72, 69, 65, 68] : List UInt8)) = true := beq_iff_eq.mpr c3
      have c3b1 : (a0.toList != ([72, 69, 65, 68] : List UInt8)) = false := bne_eq_false_iff_eq.mpr c3
      clear c3
      obtain rfl := Option.some.inj H
      go_enter Tryd.func15, Tryd.ntmps15
      go_wp2
      go_ret
      exact ⟨by first | rfl | (simp; done) | (simp [*]; done) | (simp; exact Hand.isEmpty_ne _), by repeat (first | exact Drawn0.refl _ | apply Drawn0.step)⟩
    · rw [if_neg c3] at H
      have c3b0 : (a0.toList == ([72, 69, 65, 68] : List UInt8)) = false := beq_eq_false_iff_ne.mpr c3
      have c3b1 : (a0.toList != ([72, 69, 65, 68] : List UInt8)) = true := bne_iff_ne.mpr c3
      by_cases c4 : a0.toList = ([79, 80, 84, 73, 79, 78, 83] : List UInt8)
      · rw [if_pos c4] at H
        have c4b0 : (a0.toList == ([79, 80, 84, 73, 79, 78, 83] : List UInt8)) = true := beq_iff_eq.mpr c4
        have c4b1 : (a0.toList != ([79, 80, 84, 73, 79, 78, 83] : List UInt8)) = false := bne_eq_false_iff_eq.mpr c4
        clear c4
        obtain rfl := Option.some.inj H
        go_enter Tryd.func15, Tryd.ntmps15
        go_wp2
        go_ret
        exact ⟨by first | rfl | (simp; done) | (simp [*]; done) | (simp; exact Hand.isEmpty_ne _), by repeat (first | exact Drawn0.refl _ | apply Drawn0.step)⟩
      · rw [if_neg c4] at H
        have c4b0 : (a0.toList == ([79, 80, 84, 73, 79, 78, 83] : List UInt8)) = false := beq_eq_false_iff_ne.mpr c4
        have c4b1 : (a0.toList != ([79, 80, 84, 73, 79, 78, 83] : List UInt8)) = true := bne_iff_ne.mpr c4
        by_cases c5 : a0.toList = ([84, 82, 65, 67, 69] : List UInt8)
        · rw [if_pos c5] at H
          have c5b0 : (a0.toList == ([84, 82, 65, 67, 69] : List UInt8)) = true := beq_iff_eq.mpr c5
          have c5b1 : (a0.toList != ([84, 82, 65, 67, 69] : List UInt8)) = false := bne_eq_false_iff_eq.mpr c5
          clear c5
          obtain rfl := Option.some.inj H
          go_enter Tryd.func15, Tryd.ntmps15
          go_wp2
          go_ret
          exact ⟨by first | rfl | (simp; done) | (simp [*]; done) | (simp; exact Hand.isEmpty_ne _), by repeat (first | exact Drawn0.refl _ | apply Drawn0.step)⟩
        · rw [if_neg c5] at H
          have c5b0 : (a0.toList == ([84, 82, 65, 67, 69] : List UInt8)) = false := beq_eq_false_iff_ne.mpr c5
          have c5b1 : (a0.toList != ([84, 82, 65, 67, 69] : List UInt8)) = true := bne_iff_ne.mpr c5
          obtain rfl := Option.some.inj H
          go_enter Tryd.func15, Tryd.ntmps15
          go_wp2
          go_ret
          exact ⟨by first | rfl | (simp; done) | (simp [*]; done) | (simp; exact Hand.isEmpty_ne _), by repeat (first | exact Drawn0.refl _ | apply Drawn0.step)⟩

/-! ### line_Usual: function 17: told by hand -/
def reasonOf (c : Int) : ByteArray := if c = 200 then ⟨#[79, 75]⟩ else if c = 304 then ⟨#[78, 111, 116, 32, 77, 111, 100, 105, 102, 105, 101, 100]⟩ else if c = 400 then ⟨#[66, 97, 100, 32, 82, 101, 113, 117, 101, 115, 116]⟩ else if c = 502 then ⟨#[66, 97, 100, 32, 71, 97, 116, 101, 119, 97, 121]⟩ else if c = 504 then ⟨#[71, 97, 116, 101, 119, 97, 121, 32, 84, 105, 109, 101, 111, 117, 116]⟩ else ⟨#[]⟩
theorem usual_lt : 51 < Tryd.prog.types.size := of_decide_eq_true (by kernel_rfl)
theorem usual_size : (Tryd.prog.types[51]'usual_lt).size = 2 := by kernel_rfl
def line_Usual.f (a0 : Int) : Option (ByteArray) := some (reasonOf a0)
set_option maxHeartbeats 1600000 in
set_option maxRecDepth 100000 in
theorem line_Usual_any (c : Int) (w : World) (h : Hand.Laid w) :
    Calls Tryd.prog 17 #[.int .i64 c] w fun e w' => e = .returned (.string (reasonOf c)) ∧ Below w.heap.size w w' := by
  have hr := h.reasons
  have a0 : w.cell? ⟨0, 0, none⟩ = some (.int .i64 200) := (hr 0 (by decide)).1
  have b0 : w.cell? ⟨0, 1, none⟩ = some (.string ⟨#[79, 75]⟩) := (hr 0 (by decide)).2
  have a1 : w.cell? ⟨0, 2, none⟩ = some (.int .i64 304) := (hr 1 (by decide)).1
  have b1 : w.cell? ⟨0, 3, none⟩ = some (.string ⟨#[78, 111, 116, 32, 77, 111, 100, 105, 102, 105, 101, 100]⟩) := (hr 1 (by decide)).2
  have a2 : w.cell? ⟨0, 4, none⟩ = some (.int .i64 400) := (hr 2 (by decide)).1
  have b2 : w.cell? ⟨0, 5, none⟩ = some (.string ⟨#[66, 97, 100, 32, 82, 101, 113, 117, 101, 115, 116]⟩) := (hr 2 (by decide)).2
  have a3 : w.cell? ⟨0, 6, none⟩ = some (.int .i64 502) := (hr 3 (by decide)).1
  have b3 : w.cell? ⟨0, 7, none⟩ = some (.string ⟨#[66, 97, 100, 32, 71, 97, 116, 101, 119, 97, 121]⟩) := (hr 3 (by decide)).2
  have a4 : w.cell? ⟨0, 8, none⟩ = some (.int .i64 504) := (hr 4 (by decide)).1
  have b4 : w.cell? ⟨0, 9, none⟩ = some (.string ⟨#[71, 97, 116, 101, 119, 97, 121, 32, 84, 105, 109, 101, 111, 117, 116]⟩) := (hr 4 (by decide)).2
  clear hr h
  go_enter Tryd.func17, Tryd.ntmps17
  go_wp2_with fail
  clear a0 b0 a1 b1 a2 b2 a3 b3 a4 b4
  go_loopw [6] (fun i w' => ∃ (k : Nat) (n : Int), n = k ∧ k ≤ 5 ∧ i = .int .i64 n ∧ Below w.heap.size w w' ∧ Hid (∀ j, j < k → c ≠ (Hand.reasonTab.getD j (0, [])).1)) (fun i _ => 5 - (intOf i).toNat)
  case atStart => exact ⟨0, 0, rfl, by decide, rfl, Below.refl _ _, Lib.hid (fun j hj => by omega)⟩
  case round =>
    obtain ⟨k, n, hn, hk, rfl, hb, hne⟩ := hrel
    have HB := Lib.hid hb; clear hb
    have h6 : k = 0 ∨ k = 1 ∨ k = 2 ∨ k = 3 ∨ k = 4 ∨ k = 5 := by omega
    rcases h6 with rfl | rfl | rfl | rfl | rfl | rfl
    · obtain rfl : n = 0 := hn
      have ix : ∀ w : World, (Instr.index 52 (.agg #[.int .i64 200, .string ⟨#[79, 75]⟩, .int .i64 304, .string ⟨#[78, 111, 116, 32, 77, 111, 100, 105, 102, 105, 101, 100]⟩, .int .i64 400, .string ⟨#[66, 97, 100, 32, 82, 101, 113, 117, 101, 115, 116]⟩, .int .i64 502, .string ⟨#[66, 97, 100, 32, 71, 97, 116, 101, 119, 97, 121]⟩, .int .i64 504, .string ⟨#[71, 97, 116, 101, 119, 97, 121, 32, 84, 105, 109, 101, 111, 117, 116]⟩]) (.int .i64 0)).run Tryd.prog w = .ok (.agg #[.int .i64 200, .string ⟨#[79, 75]⟩]) w := fun w => by kernel_rfl
      by_cases hc : c = 200
      · subst hc
        go_wp2
        go_ret
        exact ⟨rfl, HB.out.alloc HB.out.size _⟩
      · have q1 : ((200 : Int) == c) = false := beq_eq_false_iff_ne.mpr (fun e => hc e.symm)
        have HN : Hid (∀ j, j < 1 → c ≠ (Hand.reasonTab.getD j (0, [])).1) := Lib.hid (fun j hj => by
          by_cases hj' : j < 0
          · exact hne.out j hj'
          · obtain rfl : j = 0 := by omega
            exact hc)
        go_wp2
        go_round
        case rel => exact ⟨1, 1, rfl, by decide, by first | rfl | go_num, HB.out.alloc HB.out.size _, HN⟩
        case measure => decide
    · obtain rfl : n = 1 := hn
      have ix : ∀ w : World, (Instr.index 52 (.agg #[.int .i64 200, .string ⟨#[79, 75]⟩, .int .i64 304, .string ⟨#[78, 111, 116, 32, 77, 111, 100, 105, 102, 105, 101, 100]⟩, .int .i64 400, .string ⟨#[66, 97, 100, 32, 82, 101, 113, 117, 101, 115, 116]⟩, .int .i64 502, .string ⟨#[66, 97, 100, 32, 71, 97, 116, 101, 119, 97, 121]⟩, .int .i64 504, .string ⟨#[71, 97, 116, 101, 119, 97, 121, 32, 84, 105, 109, 101, 111, 117, 116]⟩]) (.int .i64 1)).run Tryd.prog w = .ok (.agg #[.int .i64 304, .string ⟨#[78, 111, 116, 32, 77, 111, 100, 105, 102, 105, 101, 100]⟩]) w := fun w => by kernel_rfl
      by_cases hc : c = 304
      · subst hc
        go_wp2
        go_ret
        exact ⟨rfl, HB.out.alloc HB.out.size _⟩
      · have q1 : ((304 : Int) == c) = false := beq_eq_false_iff_ne.mpr (fun e => hc e.symm)
        have HN : Hid (∀ j, j < 2 → c ≠ (Hand.reasonTab.getD j (0, [])).1) := Lib.hid (fun j hj => by
          by_cases hj' : j < 1
          · exact hne.out j hj'
          · obtain rfl : j = 1 := by omega
            exact hc)
        go_wp2
        go_round
        case rel => exact ⟨2, 2, rfl, by decide, by first | rfl | go_num, HB.out.alloc HB.out.size _, HN⟩
        case measure => decide
    · obtain rfl : n = 2 := hn
      have ix : ∀ w : World, (Instr.index 52 (.agg #[.int .i64 200, .string ⟨#[79, 75]⟩, .int .i64 304, .string ⟨#[78, 111, 116, 32, 77, 111, 100, 105, 102, 105, 101, 100]⟩, .int .i64 400, .string ⟨#[66, 97, 100, 32, 82, 101, 113, 117, 101, 115, 116]⟩, .int .i64 502, .string ⟨#[66, 97, 100, 32, 71, 97, 116, 101, 119, 97, 121]⟩, .int .i64 504, .string ⟨#[71, 97, 116, 101, 119, 97, 121, 32, 84, 105, 109, 101, 111, 117, 116]⟩]) (.int .i64 2)).run Tryd.prog w = .ok (.agg #[.int .i64 400, .string ⟨#[66, 97, 100, 32, 82, 101, 113, 117, 101, 115, 116]⟩]) w := fun w => by kernel_rfl
      by_cases hc : c = 400
      · subst hc
        go_wp2
        go_ret
        exact ⟨rfl, HB.out.alloc HB.out.size _⟩
      · have q1 : ((400 : Int) == c) = false := beq_eq_false_iff_ne.mpr (fun e => hc e.symm)
        have HN : Hid (∀ j, j < 3 → c ≠ (Hand.reasonTab.getD j (0, [])).1) := Lib.hid (fun j hj => by
          by_cases hj' : j < 2
          · exact hne.out j hj'
          · obtain rfl : j = 2 := by omega
            exact hc)
        go_wp2
        go_round
        case rel => exact ⟨3, 3, rfl, by decide, by first | rfl | go_num, HB.out.alloc HB.out.size _, HN⟩
        case measure => decide
    · obtain rfl : n = 3 := hn
      have ix : ∀ w : World, (Instr.index 52 (.agg #[.int .i64 200, .string ⟨#[79, 75]⟩, .int .i64 304, .string ⟨#[78, 111, 116, 32, 77, 111, 100, 105, 102, 105, 101, 100]⟩, .int .i64 400, .string ⟨#[66, 97, 100, 32, 82, 101, 113, 117, 101, 115, 116]⟩, .int .i64 502, .string ⟨#[66, 97, 100, 32, 71, 97, 116, 101, 119, 97, 121]⟩, .int .i64 504, .string ⟨#[71, 97, 116, 101, 119, 97, 121, 32, 84, 105, 109, 101, 111, 117, 116]⟩]) (.int .i64 3)).run Tryd.prog w = .ok (.agg #[.int .i64 502, .string ⟨#[66, 97, 100, 32, 71, 97, 116, 101, 119, 97, 121]⟩]) w := fun w => by kernel_rfl
      by_cases hc : c = 502
      · subst hc
        go_wp2
        go_ret
        exact ⟨rfl, HB.out.alloc HB.out.size _⟩
      · have q1 : ((502 : Int) == c) = false := beq_eq_false_iff_ne.mpr (fun e => hc e.symm)
        have HN : Hid (∀ j, j < 4 → c ≠ (Hand.reasonTab.getD j (0, [])).1) := Lib.hid (fun j hj => by
          by_cases hj' : j < 3
          · exact hne.out j hj'
          · obtain rfl : j = 3 := by omega
            exact hc)
        go_wp2
        go_round
        case rel => exact ⟨4, 4, rfl, by decide, by first | rfl | go_num, HB.out.alloc HB.out.size _, HN⟩
        case measure => decide
    · obtain rfl : n = 4 := hn
      have ix : ∀ w : World, (Instr.index 52 (.agg #[.int .i64 200, .string ⟨#[79, 75]⟩, .int .i64 304, .string ⟨#[78, 111, 116, 32, 77, 111, 100, 105, 102, 105, 101, 100]⟩, .int .i64 400, .string ⟨#[66, 97, 100, 32, 82, 101, 113, 117, 101, 115, 116]⟩, .int .i64 502, .string ⟨#[66, 97, 100, 32, 71, 97, 116, 101, 119, 97, 121]⟩, .int .i64 504, .string ⟨#[71, 97, 116, 101, 119, 97, 121, 32, 84, 105, 109, 101, 111, 117, 116]⟩]) (.int .i64 4)).run Tryd.prog w = .ok (.agg #[.int .i64 504, .string ⟨#[71, 97, 116, 101, 119, 97, 121, 32, 84, 105, 109, 101, 111, 117, 116]⟩]) w := fun w => by kernel_rfl
      by_cases hc : c = 504
      · subst hc
        go_wp2
        go_ret
        exact ⟨rfl, HB.out.alloc HB.out.size _⟩
      · have q1 : ((504 : Int) == c) = false := beq_eq_false_iff_ne.mpr (fun e => hc e.symm)
        have HN : Hid (∀ j, j < 5 → c ≠ (Hand.reasonTab.getD j (0, [])).1) := Lib.hid (fun j hj => by
          by_cases hj' : j < 4
          · exact hne.out j hj'
          · obtain rfl : j = 4 := by omega
            exact hc)
        go_wp2
        go_round
        case rel => exact ⟨5, 5, rfl, by decide, by first | rfl | go_num, HB.out.alloc HB.out.size _, HN⟩
        case measure => decide
    · obtain rfl : n = 5 := hn
      go_wp2
      go_ret
      refine ⟨?_, HB.out⟩
      have n0 : ¬ c = 200 := hne.out 0 (by decide)
      have n1 : ¬ c = 304 := hne.out 1 (by decide)
      have n2 : ¬ c = 400 := hne.out 2 (by decide)
      have n3 : ¬ c = 502 := hne.out 3 (by decide)
      have n4 : ¬ c = 504 := hne.out 4 (by decide)
      unfold reasonOf
      rw [if_neg n0, if_neg n1, if_neg n2, if_neg n3, if_neg n4]
      rfl
theorem line_Usual.calls (a0 : Int) (r : ByteArray) (w : World) (HT : Aside0 (Hand.Laid w)) (h : line_Usual.f a0 = some r) :
    Calls Tryd.prog 17 #[.int .i64 a0] w fun e w' => e = .returned (.string r) ∧ Below w.heap.size w w' := by
  obtain rfl := Option.some.inj h
  exact line_Usual_any a0 w HT.out

end Go.Proofs.YtljikgfhglihhaaDoor.PR
