-- Out of the translation, by a program of this session: each function that a law comes to as a Lean function, and that the machine's call does what it says. Lean checks it.
import Derived.Test.YtheimnfgiigfoaaDoorPR0
import Derived.Test.YtheimnfgiigfoaaDoorPR1
import Derived.Test.YtheimnfgiigfoaaDoorPR2
import Derived.Test.YtheimnfgiigfoaaDoorPR3
namespace Go.Proofs.YtheimnfgiigfoaaDoor.PR
open Go.RowKit Go.Proofs.YtheimnfgiigfoaaDoorW.PrintWords Go.Proofs.YtheimnfgiigfoaaDoorW.PrintLast Go.Proofs.YtheimnfgiigfoaaDoorW.PrintMore
attribute [local go_sem] max2_int min2_int max_two min_two max_three min_three max_four min_four   -- for this text's walks alone
set_option linter.unusedVariables false
set_option linter.unusedSimpArgs false

/-! ### decimal_held: function 33 -/
def decimal_held.f (k : Nat) (a0 : Int) : Option (Int) := (decimal_least.f k (mx a0 0) (([2147483648] : List Int))).bind fun t122 => (some t122)
theorem decimal_held.mono : ∀ a0 k, LeO (decimal_held.f k a0) (decimal_held.f (k + 1) a0) := by
  intro a0 k
  unfold decimal_held.f
  repeat' first
      | (with_reducible exact decimal_least.mono _ _ _)
      | (with_reducible exact LeO.refl _)
      | (with_reducible exact LeO.none _)
      | (with_reducible refine LeO.ite ?_ ?_)
      | (with_reducible refine LeO.bind ?_ (fun _ => ?_))
      | exact decimal_least.mono _ _ _
      | exact LeO.none _
      | refine LeO.ite ?_ ?_
      | refine LeO.bind ?_ (fun _ => ?_)
set_option maxHeartbeats 8000000 in
set_option maxRecDepth 100000 in
theorem decimal_held.calls (k : Nat) (a0 : Int) (r : Int) (w : World) (h : decimal_held.f k a0 = some r) :
    Calls Tryd.prog 33 #[.int .i64 a0] w fun e w' => e = .returned (.int .i64 r) ∧ Below w.heap.size w w' := by
  have HB := Aside0.mk (Below.refl w.heap.size w)
  have H : ((decimal_least.f k (mx a0 0) (([2147483648] : List Int))).bind fun t122 => (some t122)) = some r := h
  clear h
  obtain ⟨ji2, hji2⟩ : ∃ j_ : Int, (mx a0 0) = j_ := ⟨_, rfl⟩
  replace H : ((decimal_least.f k (ji2) (([2147483648] : List Int))).bind fun t122 => (some t122)) = some r := by first | (rw [hji2] at H; exact H) | (simp only [hji2] at H ⊢; exact H)
  (try (have hji2l : 0 ≤ ji2 := by (rw [← hji2]; unfold mx; (repeat' split) <;> omega)))
  (try (have hji2m : 0 ≤ ji2 := by omega))
  have hji2_ : (if a0 < 0 then 0 else a0) = ji2 := hji2
  obtain ⟨y119, hy119⟩ : ∃ y_ : List Int, y_ = (([2147483648] : List Int)) := ⟨_, rfl⟩
  replace H : ((decimal_least.f k (ji2) y119).bind fun t122 => (some t122)) = some r := by first | (rw [hy119]; with_reducible exact H) | (have H2_ := (Option.bind_some _ _).symm.trans H; rw [hy119]; with_reducible exact H2_) | (have H2_ := (Option.bind_some _ _).symm.trans H; with_reducible exact H2_) | with_reducible exact H | (rw [hy119]; exact H) | exact H
  have Ny119 := Aside0.mk hy119
  clear hy119
  replace H := Option.bind_eq_some_iff.mp H
  obtain ⟨t122, A30, H⟩ := H
  replace H : (some t122) = some r := H
  have A3 := Aside0.mk A30
  clear A30
  obtain rfl := Option.some.inj H
  go_enter Tryd.func33, Tryd.ntmps33
  go_wp2_with (first | ((with_reducible refine gate_dst (N := 5) rfl ?_); refine Kd.R_lit (Kd.int .i64) _ 3 ?hg (N := 5) ?hd (xs := ([2147483648] : List Int)) (inner := [.int .i64 2147483648]) (ok := fun _ => True) (okp := fun _ => True) ?hr ?hp (fun _ hk => hk) trivial (Below.refl _ _) (Nat.le_refl _) (by simp) ?_; (case hd => rfl); (case hg => rfl); (case hr => first | (go_simp; done) | (go_simp; rfl)); (case hp => exact (Reps.one (show Kd.M (Kd.int .i64) _ _ _ 2147483648 [.int .i64 2147483648] from rfl) (Reps.none _ _))); intro v120 w4 ho5 hb hg_ hnew_; clear hg_ hnew_; (first | rw [← Ny119.out] at ho5 | (simp only [Int.reduceToNat] at ho5; rw [← Ny119.out] at ho5)); have n0_ := Aside0.mk (Kd.R_lower ho5 (below_size (by repeat (first | (with_reducible first | exact HB.out | apply below_alloc | apply pw_below_drewN | apply below_drew1) | exact HB.out)))); have n1_ := Aside0.mk (below_step (by repeat (first | (with_reducible first | exact HB.out | apply below_alloc | apply pw_below_drewN | apply below_drew1) | exact HB.out)) hb); clear HB; have HO121 := n0_; have HB := n1_; clear n0_ n1_; clear hb ho5; obtain ⟨Ao6, co6, eo6⟩ := Kd.R_slice HO121.out; subst eo6) | ((with_reducible refine gate_callee (f := 31) rfl ?_); refine goesL_ (some 6) rfl rfl Tryd.func31 (by kernel_rfl) rfl #[.int .i64 ji2, .slice Ao6 y119.length co6] rfl (by (try simp only [List.map_toArray, List.map_cons, List.map_nil]); first | done | (simp only [hji2]; rfl) | rfl | (simp only [List.length_drop, List.length_take]; rfl)) ?_; (with_reducible refine (decimal_least.calls k ji2 _ _ y119 t122 _ ?side1 ?side2 A3.out).mono ?_); (case side1 => repeat (first | exact (Kd.R_reads' HO121.out).2.2 | (with_reducible refine Kd.C_alloc ?_ _) | (with_reducible refine Kd.C_drewN ?_ _) | (with_reducible refine Kd.C_drew ?_))); (case side2 => exact (Kd.R_reads' HO121.out).2.1); rintro e w' ⟨rfl, ⟨nd, rfl⟩⟩; refine ⟨_, rfl, ?_⟩))
  go_ret
  exact ⟨by first | rfl | (simp [errW_none, errW_some] <;> rfl) | (simp only [← hji2]; first | rfl | (simp [errW_none, errW_some] <;> rfl)) | (simp [*, errW_none, errW_some] <;> rfl), by repeat (first | (with_reducible first | exact HB.out | apply below_alloc | apply pw_below_drewN | apply below_drew1) | exact HB.out)⟩

/-! ### decimal_Add: function 21 -/
def decimal_Add.f (k : Nat) (a0 : Int) (a1 : Int) : Option (Int) := (decimal_held.f k a0).bind fun t123 => ((decimal_held.f k a1).bind fun t124 => ((decimal_held.f k (wrap64 (t123 + t124))).bind fun t125 => (some t125)))
theorem decimal_Add.mono : ∀ a0 a1 k, LeO (decimal_Add.f k a0 a1) (decimal_Add.f (k + 1) a0 a1) := by
  intro a0 a1 k
  unfold decimal_Add.f
  repeat' first
      | (with_reducible exact decimal_held.mono _ _)
      | (with_reducible exact LeO.refl _)
      | (with_reducible exact LeO.none _)
      | (with_reducible refine LeO.ite ?_ ?_)
      | (with_reducible refine LeO.bind ?_ (fun _ => ?_))
      | exact decimal_held.mono _ _
      | exact LeO.none _
      | refine LeO.ite ?_ ?_
      | refine LeO.bind ?_ (fun _ => ?_)
set_option maxHeartbeats 8000000 in
set_option maxRecDepth 100000 in
theorem decimal_Add.calls (k : Nat) (a0 : Int) (a1 : Int) (r : Int) (w : World) (h : decimal_Add.f k a0 a1 = some r) :
    Calls Tryd.prog 21 #[.int .i64 a0, .int .i64 a1] w fun e w' => e = .returned (.int .i64 r) ∧ Below w.heap.size w w' := by
  have HB := Aside0.mk (Below.refl w.heap.size w)
  have H : ((decimal_held.f k a0).bind fun t123 => ((decimal_held.f k a1).bind fun t124 => ((decimal_held.f k (wrap64 (t123 + t124))).bind fun t125 => (some t125)))) = some r := h
  clear h
  replace H := Option.bind_eq_some_iff.mp H
  obtain ⟨t123, A30, H⟩ := H
  replace H : ((decimal_held.f k a1).bind fun t124 => ((decimal_held.f k (wrap64 (t123 + t124))).bind fun t125 => (some t125))) = some r := H
  have A3 := Aside0.mk A30
  clear A30
  replace H := Option.bind_eq_some_iff.mp H
  obtain ⟨t124, A40, H⟩ := H
  replace H : ((decimal_held.f k (wrap64 (t123 + t124))).bind fun t125 => (some t125)) = some r := H
  have A4 := Aside0.mk A40
  clear A40
  replace H := Option.bind_eq_some_iff.mp H
  obtain ⟨t125, A50, H⟩ := H
  replace H : (some t125) = some r := H
  have A5 := Aside0.mk A50
  clear A50
  obtain rfl := Option.some.inj H
  go_enter Tryd.func21, Tryd.ntmps21
  go_wp2_with (first | ((with_reducible refine gate_callee (f := 33) rfl ?_); refine goesL_ (some 6) rfl rfl Tryd.func33 (by kernel_rfl) rfl #[.int .i64 a0] rfl (by (try simp only [List.map_toArray, List.map_cons, List.map_nil]); first | done | rfl | (simp only [List.length_drop, List.length_take]; rfl)) ?_; (with_reducible refine (decimal_held.calls k a0 t123 _ A3.out).mono ?_); rintro e w6 ⟨rfl, hb⟩; refine ⟨_, rfl, ?_⟩; have n0_ := Aside0.mk (below_step (by repeat (first | (with_reducible first | exact HB.out | apply below_alloc | apply pw_below_drewN | apply below_drew1) | exact HB.out)) hb); clear HB; have HB := n0_; clear n0_; (try clear hb); (try clear hb2); (try clear hk); (try clear hi)) | ((with_reducible refine gate_callee (f := 33) rfl ?_); refine goesL_ (some 8) rfl rfl Tryd.func33 (by kernel_rfl) rfl #[.int .i64 a1] rfl (by (try simp only [List.map_toArray, List.map_cons, List.map_nil]); first | done | rfl | (simp only [List.length_drop, List.length_take]; rfl)) ?_; (with_reducible refine (decimal_held.calls k a1 t124 _ A4.out).mono ?_); rintro e w7 ⟨rfl, hb⟩; refine ⟨_, rfl, ?_⟩; have n0_ := Aside0.mk (below_step (by repeat (first | (with_reducible first | exact HB.out | apply below_alloc | apply pw_below_drewN | apply below_drew1) | exact HB.out)) hb); clear HB; have HB := n0_; clear n0_; (try clear hb); (try clear hb2); (try clear hk); (try clear hi)) | ((with_reducible refine gate_callee (f := 33) rfl ?_); refine goesL_ (some 10) rfl rfl Tryd.func33 (by kernel_rfl) rfl #[.int .i64 (wrap64 (t123 + t124))] rfl (by (try simp only [List.map_toArray, List.map_cons, List.map_nil]); first | done | rfl | (simp only [List.length_drop, List.length_take]; rfl)) ?_; (with_reducible refine (decimal_held.calls k (wrap64 (t123 + t124)) t125 _ A5.out).mono ?_); rintro e w8 ⟨rfl, hb⟩; refine ⟨_, rfl, ?_⟩; have n0_ := Aside0.mk (below_step (by repeat (first | (with_reducible first | exact HB.out | apply below_alloc | apply pw_below_drewN | apply below_drew1) | exact HB.out)) hb); clear HB; have HB := n0_; clear n0_; (try clear hb); (try clear hb2); (try clear hk); (try clear hi)))
  go_ret
  exact ⟨by first | rfl | (simp [errW_none, errW_some] <;> rfl) | (simp [*, errW_none, errW_some] <;> rfl), by repeat (first | (with_reducible first | exact HB.out | apply below_alloc | apply pw_below_drewN | apply below_drew1) | exact HB.out)⟩

/-! ### decimal_Less: function 23 -/
def decimal_Less.f (k : Nat) (a0 : Int) (a1 : Int) : Option (Int) := (decimal_held.f k a0).bind fun t126 => ((decimal_held.f k a1).bind fun t127 => ((decimal_held.f k (wrap64 (t126 - t127))).bind fun t128 => (some t128)))
theorem decimal_Less.mono : ∀ a0 a1 k, LeO (decimal_Less.f k a0 a1) (decimal_Less.f (k + 1) a0 a1) := by
  intro a0 a1 k
  unfold decimal_Less.f
  repeat' first
      | (with_reducible exact decimal_held.mono _ _)
      | (with_reducible exact LeO.refl _)
      | (with_reducible exact LeO.none _)
      | (with_reducible refine LeO.ite ?_ ?_)
      | (with_reducible refine LeO.bind ?_ (fun _ => ?_))
      | exact decimal_held.mono _ _
      | exact LeO.none _
      | refine LeO.ite ?_ ?_
      | refine LeO.bind ?_ (fun _ => ?_)
set_option maxHeartbeats 8000000 in
set_option maxRecDepth 100000 in
theorem decimal_Less.calls (k : Nat) (a0 : Int) (a1 : Int) (r : Int) (w : World) (h : decimal_Less.f k a0 a1 = some r) :
    Calls Tryd.prog 23 #[.int .i64 a0, .int .i64 a1] w fun e w' => e = .returned (.int .i64 r) ∧ Below w.heap.size w w' := by
  have HB := Aside0.mk (Below.refl w.heap.size w)
  have H : ((decimal_held.f k a0).bind fun t126 => ((decimal_held.f k a1).bind fun t127 => ((decimal_held.f k (wrap64 (t126 - t127))).bind fun t128 => (some t128)))) = some r := h
  clear h
  replace H := Option.bind_eq_some_iff.mp H
  obtain ⟨t126, A30, H⟩ := H
  replace H : ((decimal_held.f k a1).bind fun t127 => ((decimal_held.f k (wrap64 (t126 - t127))).bind fun t128 => (some t128))) = some r := H
  have A3 := Aside0.mk A30
  clear A30
  replace H := Option.bind_eq_some_iff.mp H
  obtain ⟨t127, A40, H⟩ := H
  replace H : ((decimal_held.f k (wrap64 (t126 - t127))).bind fun t128 => (some t128)) = some r := H
  have A4 := Aside0.mk A40
  clear A40
  replace H := Option.bind_eq_some_iff.mp H
  obtain ⟨t128, A50, H⟩ := H
  replace H : (some t128) = some r := H
  have A5 := Aside0.mk A50
  clear A50
  obtain rfl := Option.some.inj H
  go_enter Tryd.func23, Tryd.ntmps23
  go_wp2_with (first | ((with_reducible refine gate_callee (f := 33) rfl ?_); refine goesL_ (some 6) rfl rfl Tryd.func33 (by kernel_rfl) rfl #[.int .i64 a0] rfl (by (try simp only [List.map_toArray, List.map_cons, List.map_nil]); first | done | rfl | (simp only [List.length_drop, List.length_take]; rfl)) ?_; (with_reducible refine (decimal_held.calls k a0 t126 _ A3.out).mono ?_); rintro e w6 ⟨rfl, hb⟩; refine ⟨_, rfl, ?_⟩; have n0_ := Aside0.mk (below_step (by repeat (first | (with_reducible first | exact HB.out | apply below_alloc | apply pw_below_drewN | apply below_drew1) | exact HB.out)) hb); clear HB; have HB := n0_; clear n0_; (try clear hb); (try clear hb2); (try clear hk); (try clear hi)) | ((with_reducible refine gate_callee (f := 33) rfl ?_); refine goesL_ (some 8) rfl rfl Tryd.func33 (by kernel_rfl) rfl #[.int .i64 a1] rfl (by (try simp only [List.map_toArray, List.map_cons, List.map_nil]); first | done | rfl | (simp only [List.length_drop, List.length_take]; rfl)) ?_; (with_reducible refine (decimal_held.calls k a1 t127 _ A4.out).mono ?_); rintro e w7 ⟨rfl, hb⟩; refine ⟨_, rfl, ?_⟩; have n0_ := Aside0.mk (below_step (by repeat (first | (with_reducible first | exact HB.out | apply below_alloc | apply pw_below_drewN | apply below_drew1) | exact HB.out)) hb); clear HB; have HB := n0_; clear n0_; (try clear hb); (try clear hb2); (try clear hk); (try clear hi)) | ((with_reducible refine gate_callee (f := 33) rfl ?_); refine goesL_ (some 10) rfl rfl Tryd.func33 (by kernel_rfl) rfl #[.int .i64 (wrap64 (t126 - t127))] rfl (by (try simp only [List.map_toArray, List.map_cons, List.map_nil]); first | done | rfl | (simp only [List.length_drop, List.length_take]; rfl)) ?_; (with_reducible refine (decimal_held.calls k (wrap64 (t126 - t127)) t128 _ A5.out).mono ?_); rintro e w8 ⟨rfl, hb⟩; refine ⟨_, rfl, ?_⟩; have n0_ := Aside0.mk (below_step (by repeat (first | (with_reducible first | exact HB.out | apply below_alloc | apply pw_below_drewN | apply below_drew1) | exact HB.out)) hb); clear HB; have HB := n0_; clear n0_; (try clear hb); (try clear hb2); (try clear hk); (try clear hi)))
  go_ret
  exact ⟨by first | rfl | (simp [errW_none, errW_some] <;> rfl) | (simp [*, errW_none, errW_some] <;> rfl), by repeat (first | (with_reducible first | exact HB.out | apply below_alloc | apply pw_below_drewN | apply below_drew1) | exact HB.out)⟩

/-! ### depotlaw02_counts: function 14 -/
def depotlaw02_counts.f (k : Nat)  : Option (Bool) := (decimal_Number.f (⟨#[48, 48, 55]⟩ : ByteArray) 9).bind fun bt129 => ((decimal_Seconds.f (⟨#[57, 57, 57, 57, 57, 57, 57, 57, 57, 57, 57, 57, 57, 57, 57, 57, 57, 57, 57, 57]⟩ : ByteArray)).bind fun bt131 => ((decimal_ReadHex.f (⟨#[102, 70]⟩ : ByteArray) 255).bind fun bt133 => ((decimal_Number.f (⟨#[49, 48]⟩ : ByteArray) 9).bind fun bt135 => ((decimal_Plain.f (-5)).bind fun t137 => (if t137.toList = ([45, 53] : List UInt8) then ((decimal_Pad.f 7 2).bind fun t138 => (if t138.toList = ([48, 55] : List UInt8) then (if bt129.1 = 7 then (if bt129.2 = 0 then (if bt131.1 = 2147483648 then (if bt131.2 = true then ((decimal_Hex.f k 255).bind fun t139 => (if t139.toList = ([102, 102] : List UInt8) then (if bt133.1 = 255 then (if bt133.2 = 0 then (if bt135.2 = 3 then ((decimal_Add.f k 2147483648 1).bind fun t140 => (if t140 = 2147483648 then ((decimal_Less.f k 5 3).bind fun t141 => (some (t141 == 2))) else (some false))) else (some false)) else (some false)) else (some false)) else (some false))) else (some false)) else (some false)) else (some false)) else (some false)) else (some false))) else (some false))))))
theorem depotlaw02_counts.mono : ∀ k, LeO (depotlaw02_counts.f k ) (depotlaw02_counts.f (k + 1) ) := by
  intro  k
  unfold depotlaw02_counts.f
  repeat' first
      | (with_reducible exact decimal_Add.mono _ _ _)
      | (with_reducible exact decimal_Hex.mono _ _)
      | (with_reducible exact decimal_Less.mono _ _ _)
      | (with_reducible exact LeO.refl _)
      | (with_reducible exact LeO.none _)
      | (with_reducible refine LeO.ite ?_ ?_)
      | (with_reducible refine LeO.bind ?_ (fun _ => ?_))
      | exact decimal_Add.mono _ _ _
      | exact decimal_Hex.mono _ _
      | exact decimal_Less.mono _ _ _
      | exact LeO.none _
      | refine LeO.ite ?_ ?_
      | refine LeO.bind ?_ (fun _ => ?_)
set_option maxHeartbeats 8000000 in
set_option maxRecDepth 100000 in
theorem depotlaw02_counts.calls (k : Nat)  (r : Bool) (w : World) (HTRUE : Aside0 (r = true)) (HT : Aside0 (Hand.Laid w)) (h : depotlaw02_counts.f k  = some r) :
    Calls Tryd.prog 14 #[] w fun e w' => e = .returned (.bool r) ∧ Below w.heap.size w w' := by
  have HB := Aside0.mk (Below.refl w.heap.size w)
  have H : ((decimal_Number.f (⟨#[48, 48, 55]⟩ : ByteArray) 9).bind fun bt129 => ((decimal_Seconds.f (⟨#[57, 57, 57, 57, 57, 57, 57, 57, 57, 57, 57, 57, 57, 57, 57, 57, 57, 57, 57, 57]⟩ : ByteArray)).bind fun bt131 => ((decimal_ReadHex.f (⟨#[102, 70]⟩ : ByteArray) 255).bind fun bt133 => ((decimal_Number.f (⟨#[49, 48]⟩ : ByteArray) 9).bind fun bt135 => ((decimal_Plain.f (-5)).bind fun t137 => (if t137.toList = ([45, 53] : List UInt8) then ((decimal_Pad.f 7 2).bind fun t138 => (if t138.toList = ([48, 55] : List UInt8) then (if bt129.1 = 7 then (if bt129.2 = 0 then (if bt131.1 = 2147483648 then (if bt131.2 = true then ((decimal_Hex.f k 255).bind fun t139 => (if t139.toList = ([102, 102] : List UInt8) then (if bt133.1 = 255 then (if bt133.2 = 0 then (if bt135.2 = 3 then ((decimal_Add.f k 2147483648 1).bind fun t140 => (if t140 = 2147483648 then ((decimal_Less.f k 5 3).bind fun t141 => (some (t141 == 2))) else (some false))) else (some false)) else (some false)) else (some false)) else (some false))) else (some false)) else (some false)) else (some false)) else (some false)) else (some false))) else (some false))))))) = some r := h
  clear h
  replace H := Option.bind_eq_some_iff.mp H
  obtain ⟨⟨t129, t130⟩, A10, H⟩ := H
  replace H : ((decimal_Seconds.f (⟨#[57, 57, 57, 57, 57, 57, 57, 57, 57, 57, 57, 57, 57, 57, 57, 57, 57, 57, 57, 57]⟩ : ByteArray)).bind fun bt131 => ((decimal_ReadHex.f (⟨#[102, 70]⟩ : ByteArray) 255).bind fun bt133 => ((decimal_Number.f (⟨#[49, 48]⟩ : ByteArray) 9).bind fun bt135 => ((decimal_Plain.f (-5)).bind fun t137 => (if t137.toList = ([45, 53] : List UInt8) then ((decimal_Pad.f 7 2).bind fun t138 => (if t138.toList = ([48, 55] : List UInt8) then (if t129 = 7 then (if t130 = 0 then (if bt131.1 = 2147483648 then (if bt131.2 = true then ((decimal_Hex.f k 255).bind fun t139 => (if t139.toList = ([102, 102] : List UInt8) then (if bt133.1 = 255 then (if bt133.2 = 0 then (if bt135.2 = 3 then ((decimal_Add.f k 2147483648 1).bind fun t140 => (if t140 = 2147483648 then ((decimal_Less.f k 5 3).bind fun t141 => (some (t141 == 2))) else (some false))) else (some false)) else (some false)) else (some false)) else (some false))) else (some false)) else (some false)) else (some false)) else (some false)) else (some false))) else (some false)))))) = some r := H
  have A1 := Aside0.mk A10
  clear A10
  replace H := Option.bind_eq_some_iff.mp H
  obtain ⟨⟨t131, t132⟩, A20, H⟩ := H
  replace H : ((decimal_ReadHex.f (⟨#[102, 70]⟩ : ByteArray) 255).bind fun bt133 => ((decimal_Number.f (⟨#[49, 48]⟩ : ByteArray) 9).bind fun bt135 => ((decimal_Plain.f (-5)).bind fun t137 => (if t137.toList = ([45, 53] : List UInt8) then ((decimal_Pad.f 7 2).bind fun t138 => (if t138.toList = ([48, 55] : List UInt8) then (if t129 = 7 then (if t130 = 0 then (if t131 = 2147483648 then (if t132 = true then ((decimal_Hex.f k 255).bind fun t139 => (if t139.toList = ([102, 102] : List UInt8) then (if bt133.1 = 255 then (if bt133.2 = 0 then (if bt135.2 = 3 then ((decimal_Add.f k 2147483648 1).bind fun t140 => (if t140 = 2147483648 then ((decimal_Less.f k 5 3).bind fun t141 => (some (t141 == 2))) else (some false))) else (some false)) else (some false)) else (some false)) else (some false))) else (some false)) else (some false)) else (some false)) else (some false)) else (some false))) else (some false))))) = some r := H
  have A2 := Aside0.mk A20
  clear A20
  replace H := Option.bind_eq_some_iff.mp H
  obtain ⟨⟨t133, t134⟩, A30, H⟩ := H
  replace H : ((decimal_Number.f (⟨#[49, 48]⟩ : ByteArray) 9).bind fun bt135 => ((decimal_Plain.f (-5)).bind fun t137 => (if t137.toList = ([45, 53] : List UInt8) then ((decimal_Pad.f 7 2).bind fun t138 => (if t138.toList = ([48, 55] : List UInt8) then (if t129 = 7 then (if t130 = 0 then (if t131 = 2147483648 then (if t132 = true then ((decimal_Hex.f k 255).bind fun t139 => (if t139.toList = ([102, 102] : List UInt8) then (if t133 = 255 then (if t134 = 0 then (if bt135.2 = 3 then ((decimal_Add.f k 2147483648 1).bind fun t140 => (if t140 = 2147483648 then ((decimal_Less.f k 5 3).bind fun t141 => (some (t141 == 2))) else (some false))) else (some false)) else (some false)) else (some false)) else (some false))) else (some false)) else (some false)) else (some false)) else (some false)) else (some false))) else (some false)))) = some r := H
  have A3 := Aside0.mk A30
  clear A30
  replace H := Option.bind_eq_some_iff.mp H
  obtain ⟨⟨t135, t136⟩, A40, H⟩ := H
  replace H : ((decimal_Plain.f (-5)).bind fun t137 => (if t137.toList = ([45, 53] : List UInt8) then ((decimal_Pad.f 7 2).bind fun t138 => (if t138.toList = ([48, 55] : List UInt8) then (if t129 = 7 then (if t130 = 0 then (if t131 = 2147483648 then (if t132 = true then ((decimal_Hex.f k 255).bind fun t139 => (if t139.toList = ([102, 102] : List UInt8) then (if t133 = 255 then (if t134 = 0 then (if t136 = 3 then ((decimal_Add.f k 2147483648 1).bind fun t140 => (if t140 = 2147483648 then ((decimal_Less.f k 5 3).bind fun t141 => (some (t141 == 2))) else (some false))) else (some false)) else (some false)) else (some false)) else (some false))) else (some false)) else (some false)) else (some false)) else (some false)) else (some false))) else (some false))) = some r := H
  have A4 := Aside0.mk A40
  clear A40
  replace H := Option.bind_eq_some_iff.mp H
  obtain ⟨t137, A50, H⟩ := H
  replace H : (if t137.toList = ([45, 53] : List UInt8) then ((decimal_Pad.f 7 2).bind fun t138 => (if t138.toList = ([48, 55] : List UInt8) then (if t129 = 7 then (if t130 = 0 then (if t131 = 2147483648 then (if t132 = true then ((decimal_Hex.f k 255).bind fun t139 => (if t139.toList = ([102, 102] : List UInt8) then (if t133 = 255 then (if t134 = 0 then (if t136 = 3 then ((decimal_Add.f k 2147483648 1).bind fun t140 => (if t140 = 2147483648 then ((decimal_Less.f k 5 3).bind fun t141 => (some (t141 == 2))) else (some false))) else (some false)) else (some false)) else (some false)) else (some false))) else (some false)) else (some false)) else (some false)) else (some false)) else (some false))) else (some false)) = some r := H
  have A5 := Aside0.mk A50
  clear A50
  by_cases c6 : t137.toList = ([45, 53] : List UInt8)
  · rw [if_pos c6] at H
    have c6b0 : (t137.toList == ([45, 53] : List UInt8)) = true := beq_iff_eq.mpr c6
    have c6b1 : (t137.toList != ([45, 53] : List UInt8)) = false := bne_eq_false_iff_eq.mpr c6
    clear c6
    replace H := Option.bind_eq_some_iff.mp H
    obtain ⟨t138, A70, H⟩ := H
    replace H : (if t138.toList = ([48, 55] : List UInt8) then (if t129 = 7 then (if t130 = 0 then (if t131 = 2147483648 then (if t132 = true then ((decimal_Hex.f k 255).bind fun t139 => (if t139.toList = ([102, 102] : List UInt8) then (if t133 = 255 then (if t134 = 0 then (if t136 = 3 then ((decimal_Add.f k 2147483648 1).bind fun t140 => (if t140 = 2147483648 then ((decimal_Less.f k 5 3).bind fun t141 => (some (t141 == 2))) else (some false))) else (some false)) else (some false)) else (some false)) else (some false))) else (some false)) else (some false)) else (some false)) else (some false)) else (some false)) = some r := H
    have A7 := Aside0.mk A70
    clear A70
    by_cases c8 : t138.toList = ([48, 55] : List UInt8)
    · rw [if_pos c8] at H
      have c8b0 : (t138.toList == ([48, 55] : List UInt8)) = true := beq_iff_eq.mpr c8
      have c8b1 : (t138.toList != ([48, 55] : List UInt8)) = false := bne_eq_false_iff_eq.mpr c8
      clear c8
      by_cases c9 : t129 = 7
      · rw [if_pos c9] at H
        have c9b0 : (t129 == 7) = true := beq_iff_eq.mpr c9
        have c9b1 : (t129 != 7) = false := bne_eq_false_iff_eq.mpr c9
        clear c9
        by_cases c10 : t130 = 0
        · rw [if_pos c10] at H
          have c10b0 : (t130 == 0) = true := beq_iff_eq.mpr c10
          have c10b1 : (t130 != 0) = false := bne_eq_false_iff_eq.mpr c10
          clear c10
          by_cases c11 : t131 = 2147483648
          · rw [if_pos c11] at H
            have c11b0 : (t131 == 2147483648) = true := beq_iff_eq.mpr c11
            have c11b1 : (t131 != 2147483648) = false := bne_eq_false_iff_eq.mpr c11
            clear c11
            by_cases c12 : t132 = true
            · subst c12
              have H1 : ((decimal_Hex.f k 255).bind fun t139 => (if t139.toList = ([102, 102] : List UInt8) then (if t133 = 255 then (if t134 = 0 then (if t136 = 3 then ((decimal_Add.f k 2147483648 1).bind fun t140 => (if t140 = 2147483648 then ((decimal_Less.f k 5 3).bind fun t141 => (some (t141 == 2))) else (some false))) else (some false)) else (some false)) else (some false)) else (some false))) = some r := by rw [if_pos rfl] at H; exact H
              clear H
              have H := H1
              clear H1
              replace H := Option.bind_eq_some_iff.mp H
              obtain ⟨t139, A130, H⟩ := H
              replace H : (if t139.toList = ([102, 102] : List UInt8) then (if t133 = 255 then (if t134 = 0 then (if t136 = 3 then ((decimal_Add.f k 2147483648 1).bind fun t140 => (if t140 = 2147483648 then ((decimal_Less.f k 5 3).bind fun t141 => (some (t141 == 2))) else (some false))) else (some false)) else (some false)) else (some false)) else (some false)) = some r := H
              have A13 := Aside0.mk A130
              clear A130
              by_cases c14 : t139.toList = ([102, 102] : List UInt8)
              · rw [if_pos c14] at H
                have c14b0 : (t139.toList == ([102, 102] : List UInt8)) = true := beq_iff_eq.mpr c14
                have c14b1 : (t139.toList != ([102, 102] : List UInt8)) = false := bne_eq_false_iff_eq.mpr c14
                clear c14
                by_cases c15 : t133 = 255
                · rw [if_pos c15] at H
                  have c15b0 : (t133 == 255) = true := beq_iff_eq.mpr c15
                  have c15b1 : (t133 != 255) = false := bne_eq_false_iff_eq.mpr c15
                  clear c15
                  by_cases c16 : t134 = 0
                  · rw [if_pos c16] at H
                    have c16b0 : (t134 == 0) = true := beq_iff_eq.mpr c16
                    have c16b1 : (t134 != 0) = false := bne_eq_false_iff_eq.mpr c16
                    clear c16
                    by_cases c17 : t136 = 3
                    · rw [if_pos c17] at H
                      have c17b0 : (t136 == 3) = true := beq_iff_eq.mpr c17
                      have c17b1 : (t136 != 3) = false := bne_eq_false_iff_eq.mpr c17
                      clear c17
                      replace H := Option.bind_eq_some_iff.mp H
                      obtain ⟨t140, A180, H⟩ := H
                      replace H : (if t140 = 2147483648 then ((decimal_Less.f k 5 3).bind fun t141 => (some (t141 == 2))) else (some false)) = some r := H
                      have A18 := Aside0.mk A180
                      clear A180
                      by_cases c19 : t140 = 2147483648
                      · rw [if_pos c19] at H
                        have c19b0 : (t140 == 2147483648) = true := beq_iff_eq.mpr c19
                        have c19b1 : (t140 != 2147483648) = false := bne_eq_false_iff_eq.mpr c19
                        clear c19
                        replace H := Option.bind_eq_some_iff.mp H
                        obtain ⟨t141, A200, H⟩ := H
                        replace H : (some (t141 == 2)) = some r := H
                        have A20 := Aside0.mk A200
                        clear A200
                        obtain rfl := Option.some.inj H
                        go_enter Tryd.func14, Tryd.ntmps14
                        go_wp2_with (first | ((with_reducible refine gate_callee (f := 15) rfl ?_); refine goesL_ (some 10) rfl rfl Tryd.func15 (by kernel_rfl) rfl #[.string (⟨#[48, 48, 55]⟩ : ByteArray), .int .i64 9] rfl (by (try simp only [List.map_toArray, List.map_cons, List.map_nil]); first | done | rfl | (simp only [List.length_drop, List.length_take]; rfl)) ?_; (with_reducible refine (decimal_Number.calls (⟨#[48, 48, 55]⟩ : ByteArray) 9 t129 t130 _ A1.out).mono ?_); rintro e w21 ⟨rfl, hb⟩; refine ⟨_, rfl, ?_⟩; have n0_ := Aside0.mk (below_step (by repeat (first | (with_reducible first | exact HB.out | apply below_alloc | apply pw_below_drewN | apply below_drew1) | exact HB.out)) hb); clear HB; have HB := n0_; clear n0_; (try clear hb); (try clear hb2); (try clear hk); (try clear hi)) | ((with_reducible refine gate_callee (f := 19) rfl ?_); refine goesL_ (some 14) rfl rfl Tryd.func19 (by kernel_rfl) rfl #[.string (⟨#[57, 57, 57, 57, 57, 57, 57, 57, 57, 57, 57, 57, 57, 57, 57, 57, 57, 57, 57, 57]⟩ : ByteArray)] rfl (by (try simp only [List.map_toArray, List.map_cons, List.map_nil]); first | done | rfl | (simp only [List.length_drop, List.length_take]; rfl)) ?_; (with_reducible refine (decimal_Seconds.calls (⟨#[57, 57, 57, 57, 57, 57, 57, 57, 57, 57, 57, 57, 57, 57, 57, 57, 57, 57, 57, 57]⟩ : ByteArray) t131 true _ A2.out).mono ?_); rintro e w22 ⟨rfl, hb⟩; refine ⟨_, rfl, ?_⟩; have n0_ := Aside0.mk (below_step (by repeat (first | (with_reducible first | exact HB.out | apply below_alloc | apply pw_below_drewN | apply below_drew1) | exact HB.out)) hb); clear HB; have HB := n0_; clear n0_; (try clear hb); (try clear hb2); (try clear hk); (try clear hi)) | ((with_reducible refine gate_callee (f := 17) rfl ?_); refine goesL_ (some 18) rfl rfl Tryd.func17 (by kernel_rfl) rfl #[.string (⟨#[102, 70]⟩ : ByteArray), .int .i64 255] rfl (by (try simp only [List.map_toArray, List.map_cons, List.map_nil]); first | done | rfl | (simp only [List.length_drop, List.length_take]; rfl)) ?_; (with_reducible refine (decimal_ReadHex.calls (⟨#[102, 70]⟩ : ByteArray) 255 t133 t134 _ A3.out).mono ?_); rintro e w23 ⟨rfl, hb⟩; refine ⟨_, rfl, ?_⟩; have n0_ := Aside0.mk (below_step (by repeat (first | (with_reducible first | exact HB.out | apply below_alloc | apply pw_below_drewN | apply below_drew1) | exact HB.out)) hb); clear HB; have HB := n0_; clear n0_; (try clear hb); (try clear hb2); (try clear hk); (try clear hi)) | ((with_reducible refine gate_callee (f := 15) rfl ?_); refine goesL_ (some 22) rfl rfl Tryd.func15 (by kernel_rfl) rfl #[.string (⟨#[49, 48]⟩ : ByteArray), .int .i64 9] rfl (by (try simp only [List.map_toArray, List.map_cons, List.map_nil]); first | done | rfl | (simp only [List.length_drop, List.length_take]; rfl)) ?_; (with_reducible refine (decimal_Number.calls (⟨#[49, 48]⟩ : ByteArray) 9 t135 t136 _ A4.out).mono ?_); rintro e w24 ⟨rfl, hb⟩; refine ⟨_, rfl, ?_⟩; have n0_ := Aside0.mk (below_step (by repeat (first | (with_reducible first | exact HB.out | apply below_alloc | apply pw_below_drewN | apply below_drew1) | exact HB.out)) hb); clear HB; have HB := n0_; clear n0_; (try clear hb); (try clear hb2); (try clear hk); (try clear hi)) | ((with_reducible refine gate_callee (f := 8) rfl ?_); refine goesL_ (some 25) rfl rfl Tryd.func8 (by kernel_rfl) rfl #[.int .i64 (-5)] rfl (by (try simp only [List.map_toArray, List.map_cons, List.map_nil]); first | done | rfl | (simp only [List.length_drop, List.length_take]; rfl)) ?_; (with_reducible refine (decimal_Plain.calls (-5) t137 _ ?side1 A5.out).mono ?_); (case side1 => first | exact HT | exact ⟨Hand.Laid.below HT.out (by repeat (first | (with_reducible first | exact HB.out | apply below_alloc | apply pw_below_drewN | apply below_drew1) | exact HB.out))⟩); rintro e w25 ⟨rfl, hb⟩; refine ⟨_, rfl, ?_⟩; have n0_ := Aside0.mk (below_step (by repeat (first | (with_reducible first | exact HB.out | apply below_alloc | apply pw_below_drewN | apply below_drew1) | exact HB.out)) hb); clear HB; have HB := n0_; clear n0_; (try clear hb); (try clear hb2); (try clear hk); (try clear hi)) | (go_at_call 10; (with_reducible refine (decimal_Pad.calls 7 2 t138 _ ?side1 A7.out).mono ?_); (case side1 => first | exact HT | exact ⟨Hand.Laid.below HT.out (by repeat (first | (with_reducible first | exact HB.out | apply below_alloc | apply pw_below_drewN | apply below_drew1) | exact HB.out))⟩); rintro e w26 ⟨rfl, hb⟩; have n0_ := Aside0.mk (below_step (by repeat (first | (with_reducible first | exact HB.out | apply below_alloc | apply pw_below_drewN | apply below_drew1) | exact HB.out)) hb); clear HB; have HB := n0_; clear n0_; (try clear hb); (try clear hb2); (try clear hk); (try clear hi)) | (go_at_call 12; (with_reducible refine (decimal_Hex.calls k 255 t139 _ A13.out).mono ?_); rintro e w27 ⟨rfl, hb⟩; have n0_ := Aside0.mk (below_step (by repeat (first | (with_reducible first | exact HB.out | apply below_alloc | apply pw_below_drewN | apply below_drew1) | exact HB.out)) hb); clear HB; have HB := n0_; clear n0_; (try clear hb); (try clear hb2); (try clear hk); (try clear hi)) | (go_at_call 21; (with_reducible refine (decimal_Add.calls k 2147483648 1 t140 _ A18.out).mono ?_); rintro e w28 ⟨rfl, hb⟩; have n0_ := Aside0.mk (below_step (by repeat (first | (with_reducible first | exact HB.out | apply below_alloc | apply pw_below_drewN | apply below_drew1) | exact HB.out)) hb); clear HB; have HB := n0_; clear n0_; (try clear hb); (try clear hb2); (try clear hk); (try clear hi)) | (go_at_call 23; (with_reducible refine (decimal_Less.calls k 5 3 t141 _ A20.out).mono ?_); rintro e w29 ⟨rfl, hb⟩; have n0_ := Aside0.mk (below_step (by repeat (first | (with_reducible first | exact HB.out | apply below_alloc | apply pw_below_drewN | apply below_drew1) | exact HB.out)) hb); clear HB; have HB := n0_; clear n0_; (try clear hb); (try clear hb2); (try clear hk); (try clear hi)))
                        go_ret
                        exact ⟨by first | rfl | (simp [errW_none, errW_some] <;> rfl) | (simp [*, errW_none, errW_some] <;> rfl), by repeat (first | (with_reducible first | exact HB.out | apply below_alloc | apply pw_below_drewN | apply below_drew1) | exact HB.out)⟩
                      · rw [if_neg c19] at H
                        have c19b0 : (t140 == 2147483648) = false := beq_eq_false_iff_ne.mpr c19
                        have c19b1 : (t140 != 2147483648) = true := bne_iff_ne.mpr c19
                        obtain rfl := Option.some.inj H
                        exact absurd HTRUE.out (by decide)
                    · rw [if_neg c17] at H
                      have c17b0 : (t136 == 3) = false := beq_eq_false_iff_ne.mpr c17
                      have c17b1 : (t136 != 3) = true := bne_iff_ne.mpr c17
                      obtain rfl := Option.some.inj H
                      exact absurd HTRUE.out (by decide)
                  · rw [if_neg c16] at H
                    have c16b0 : (t134 == 0) = false := beq_eq_false_iff_ne.mpr c16
                    have c16b1 : (t134 != 0) = true := bne_iff_ne.mpr c16
                    obtain rfl := Option.some.inj H
                    exact absurd HTRUE.out (by decide)
                · rw [if_neg c15] at H
                  have c15b0 : (t133 == 255) = false := beq_eq_false_iff_ne.mpr c15
                  have c15b1 : (t133 != 255) = true := bne_iff_ne.mpr c15
                  obtain rfl := Option.some.inj H
                  exact absurd HTRUE.out (by decide)
              · rw [if_neg c14] at H
                have c14b0 : (t139.toList == ([102, 102] : List UInt8)) = false := beq_eq_false_iff_ne.mpr c14
                have c14b1 : (t139.toList != ([102, 102] : List UInt8)) = true := bne_iff_ne.mpr c14
                obtain rfl := Option.some.inj H
                exact absurd HTRUE.out (by decide)
            · replace c12 := Bool.eq_false_iff.mpr c12
              subst c12
              have H1 : (some false) = some r := by rw [if_neg (show ¬ (false = true) by decide)] at H; exact H
              clear H
              have H := H1
              clear H1
              obtain rfl := Option.some.inj H
              exact absurd HTRUE.out (by decide)
          · rw [if_neg c11] at H
            have c11b0 : (t131 == 2147483648) = false := beq_eq_false_iff_ne.mpr c11
            have c11b1 : (t131 != 2147483648) = true := bne_iff_ne.mpr c11
            obtain rfl := Option.some.inj H
            exact absurd HTRUE.out (by decide)
        · rw [if_neg c10] at H
          have c10b0 : (t130 == 0) = false := beq_eq_false_iff_ne.mpr c10
          have c10b1 : (t130 != 0) = true := bne_iff_ne.mpr c10
          obtain rfl := Option.some.inj H
          exact absurd HTRUE.out (by decide)
      · rw [if_neg c9] at H
        have c9b0 : (t129 == 7) = false := beq_eq_false_iff_ne.mpr c9
        have c9b1 : (t129 != 7) = true := bne_iff_ne.mpr c9
        obtain rfl := Option.some.inj H
        exact absurd HTRUE.out (by decide)
    · rw [if_neg c8] at H
      have c8b0 : (t138.toList == ([48, 55] : List UInt8)) = false := beq_eq_false_iff_ne.mpr c8
      have c8b1 : (t138.toList != ([48, 55] : List UInt8)) = true := bne_iff_ne.mpr c8
      obtain rfl := Option.some.inj H
      exact absurd HTRUE.out (by decide)
  · rw [if_neg c6] at H
    have c6b0 : (t137.toList == ([45, 53] : List UInt8)) = false := beq_eq_false_iff_ne.mpr c6
    have c6b1 : (t137.toList != ([45, 53] : List UInt8)) = true := bne_iff_ne.mpr c6
    obtain rfl := Option.some.inj H
    exact absurd HTRUE.out (by decide)

end Go.Proofs.YtheimnfgiigfoaaDoor.PR
