-- Halved: the indents of this text are half of the print's.
-- Out of the translation, by a program of this session: each function that a law comes to as a Lean function, and that the machine's call does what it says. Lean checks it.
import Derived.Test.YtjaklgikfcahdaaGreatDoorPU0
namespace Go.Proofs.YtjaklgikfcahdaaGreatDoor.PU
open Go.RowKit Go.Proofs.YtjaklgikfcahdaaGreatDoorW.PrintWords Go.Proofs.YtjaklgikfcahdaaGreatDoorW.PrintLast Go.Proofs.YtjaklgikfcahdaaGreatDoorW.PrintMore
attribute [local go_sem] max2_int min2_int max_two min_two max_three min_three max_four min_four   -- for this text's walks alone
set_option linter.unusedVariables false
set_option linter.unusedSimpArgs false

/-! ### strings_Split: function 57: told by hand -/
def strings_Split.f (a0 a1 : ByteArray) : Option (List ByteArray) := if a0.size < 4294967281 ∧ 1 ≤ a1.size then some (Lib.splitB a1 0 (Lib.countB a0 a1) a0) else none
theorem strings_Split.calls (a0 a1 : ByteArray) (r : List ByteArray) (w : World) (HT : Aside0 (Hand.Laid w)) (h : strings_Split.f a0 a1 = some r) :
  Calls Tryz.prog 57 #[.string a0, .string a1] w fun e w' => ∃ v_ : Value, e = .returned v_ ∧ Kd.R Kd.string 9 w' w.heap.size (fun _ => True) v_ r ∧ Below w.heap.size w w' := by
 unfold strings_Split.f at h
 split at h
 case isFalse => cases h
 case isTrue hs =>
  obtain rfl := Option.some.inj h
  have hle := Lib.countB_le a1 hs.2 a0.size a0 (Nat.le_refl _)
  have hlen := Lib.splitB_all a1 hs.2 0 _ a0 rfl
  refine (Any.strings_Split_shaped Tryz.laysM146 a0 a1 w HT.out.shaped hs.1 hs.2).mono fun e w' ⟨he, hw⟩ => ⟨_, he, ?_, ?_⟩
  ·rw [hw]
   refine Kd.R_of_own ?_ (fun _ _ => trivial)
   rw [hlen]
   refine ⟨by simp [encs, hlen], .inr ⟨_, _, _, rfl, Nat.le_refl _, Array.getElem?_push_size, Nat.le_refl _, ?_, by simp [hlen], ?_⟩⟩
   ·show _ ≤ 9223372036854775807
    omega
   ·rw [List.take_of_length_le (by simp [hlen])]; rfl
  ·rw [hw]
   exact Hand.alloc_below _ _

/-! ### octet_IsToken: function 58: told by hand -/
def octet_isToken (s : ByteArray) : Bool := if s.size = 0 then false else Hand.allB Hand.tokenB s s.size
def octet_IsToken.f (a0 : ByteArray) : Option (Bool) := if a0.size ≤ 9223372036854775807 then some (octet_isToken a0) else none
theorem octet_IsToken.calls (a0 : ByteArray) (r : Bool) (w : World) (h : octet_IsToken.f a0 = some r) :
  Calls Tryz.prog 58 #[.string a0] w fun e w' => e = .returned (.bool r) ∧ Below w.heap.size w w' := by
 unfold octet_IsToken.f at h
 split at h
 case isFalse => cases h
 case isTrue hs =>
  obtain rfl := Option.some.inj h
  clear h
  have HA := Hand.all_Token a0 w (by omega)
  by_cases hz : a0.size = 0
  ·have hl : a0.toList = [] := Hand.toList_nil_of hz
   have K : Hid (octet_isToken a0 = false) := by show _ = _; rw [octet_isToken, if_pos hz]
   go_enter Tryz.func58, Tryz.ntmps58
   go_wp2_with fail
   go_ret
   exact ⟨by rw [K.out]; rfl, Below.refl _ _⟩
  ·have hl : (a0.toList == []) = false := Hand.toList_cons_of hz
   have K : Hid (octet_isToken a0 = Hand.allB Hand.tokenB a0 a0.size) := by show _ = _; rw [octet_isToken, if_neg hz]
   generalize Hand.allB Hand.tokenB a0 a0.size = b at HA K
   go_enter Tryz.func58, Tryz.ntmps58
   cases b
   all_goals
    go_wp2_with (go_at_call 90; refine HA.mono ?_; rintro e w' ⟨rfl, hb2⟩; clear HA)
    go_ret
    exact ⟨by rw [K.out]; rfl, hb2⟩

/-! ### line_visible: function 59: told by hand -/
def visB (c : Int) : Bool := decide (33 ≤ c) && decide (c ≤ 126)
def line_visible.f (a0 : ByteArray) : Option Bool := if a0.size ≤ 9223372036854775807 then some (Hand.allB visB a0 a0.size && !(a0.toList == [])) else none
def VisPost (x : ByteArray) (w : World) (e : Ending) (w' : World) : Prop := e = .returned (.bool (Hand.allB visB x x.size && !(x.toList == []))) ∧ Below w.heap.size w w'
set_option maxHeartbeats 1600000 in
theorem line_visible_any (x : ByteArray) (w : World) (hm : (x.size : Int) ≤ 9223372036854775807) :
 Calls Tryz.prog 59 #[.string x] w (VisPost x w) := by
 have hcv := fun (w : World) (x : ByteArray) => Lib.run_convert_string_bytes (P := Tryz.prog) w 9 123 5 x Tryz.underlying9 Tryz.underlying123 Tryz.underlying5
 go_enter Tryz.func59, Tryz.ntmps59
 go_wp2_with fail
 clear hcv
 have hL := bytes_below (Below.refl w.heap.size w) (Nat.le_refl _) 5 x
 have hc : ∀ k : Nat, k < x.size → (Lib.bytesWorld w 5 x).cell? ⟨w.heap.size, k, none⟩ = some (.int .u8 (bt x k)) := fun k hk => Hand.bytes_cell_bt w 5 x k hk
 have hz : w.heap.size < (Lib.bytesWorld w 5 x).heap.size := by rw [Lib.bytesWorld_size]; omega
 generalize Lib.bytesWorld _ _ _ = wL at hL hc hz ⊢
 generalize grownCap _ _ _ _ = cp
 have HL := Lib.hid hL; have HC := Lib.hid hc; have HZ := Lib.hid hz
 clear hL hc hz
 go_loopw [8] (fun i w' => ∃ k : Nat, k ≤ x.size ∧ i = .int .i64 k ∧ Hand.allB visB x k = true ∧ w' = wL) (fun i _ => x.size - (intOf i).toNat)
 case atStart => exact ⟨0, Nat.zero_le _, rfl, rfl, rfl⟩
 case round =>
  obtain ⟨k, hk, rfl, HA0, rfl⟩ := hrel
  have HA := Lib.hid HA0; clear HA0
  by_cases hlt : k < x.size
  ·have hcell := HC.out k hlt
   have hbr := bt_range x k
   have e32 : (((⟨#[32]⟩ : ByteArray)[0]'(by decide)).toNat : Int) = 32 := rfl
   by_cases h1 : bt x k ≤ 32
   ·have HI : Hid (visB (bt x k) = false) := Lib.hid (by unfold visB; rw [decide_eq_false (by omega)]; rfl)
    have hd : bt x k ≤ (((⟨#[32]⟩ : ByteArray)[0]'(by decide)).toNat : Int) := by rw [e32]; exact h1
    have hd1 := decide_eq_true hd
    clear e32
    go_wp2
    go_ret
    exact ⟨by rw [Hand.allB_false _ x k _ hlt HI.out]; rfl, HL.out⟩
   ·have hd : ¬ bt x k ≤ (((⟨#[32]⟩ : ByteArray)[0]'(by decide)).toNat : Int) := by rw [e32]; exact h1
    have hd1 := decide_eq_false hd
    clear e32
    by_cases h2 : 126 < bt x k
    ·have HI : Hid (visB (bt x k) = false) := Lib.hid (by unfold visB; rw [decide_eq_false (p := bt x k ≤ 126) (by omega), Bool.and_false])
     go_wp2
     go_ret
     exact ⟨by rw [Hand.allB_false _ x k _ hlt HI.out]; rfl, HL.out⟩
    ·have HI : Hid (visB (bt x k) = true) := Lib.hid (by unfold visB; rw [decide_eq_true (by omega), decide_eq_true (by omega)]; rfl)
     go_wp2
     go_round
     case rel => exact ⟨k + 1, by omega, by go_num, by rw [Hand.allB_succ, HA.out, HI.out]; rfl, trivial⟩
     case measure => simp [intOf]; omega
  ·go_wp2
   go_ret
   exact ⟨by rw [show x.size = k by omega, HA.out]; simp [bne], HL.out⟩
theorem line_visible.calls (a0 : ByteArray) (r : Bool) (w : World) (h : line_visible.f a0 = some r) :
  Calls Tryz.prog 59 #[.string a0] w fun e w' => e = .returned (.bool r) ∧ Below w.heap.size w w' := by
 unfold line_visible.f at h
 split at h
 case isFalse => cases h
 case isTrue hs =>
  obtain rfl := Option.some.inj h
  exact line_visible_any a0 w (by omega)

/-! ### stringslite_HasPrefix: function 88 -/
def stringslite_HasPrefix.f (a0 : ByteArray) (a1 : ByteArray) : Option (Bool) := if (a0.size : Int) ≥ (a1.size : Int) then (if 0 ≤ (a1.size : Int) then (if (a1.size : Int) ≤ (a0.size : Int) then (some ((a0.extract 0 ((a1.size : Int) : Int).toNat).toList == a1.toList)) else (none)) else (none)) else (some false)
set_option maxHeartbeats 8000000 in
set_option maxRecDepth 100000 in
theorem stringslite_HasPrefix.calls (a0 : ByteArray) (a1 : ByteArray) (r : Bool) (w : World) (h : stringslite_HasPrefix.f a0 a1 = some r) :
  Calls Tryz.prog 88 #[.string a0, .string a1] w fun e w' => e = .returned (.bool r) ∧ Drawn0 w w' := by
 have H : (if (a0.size : Int) ≥ (a1.size : Int) then (if 0 ≤ (a1.size : Int) then (if (a1.size : Int) ≤ (a0.size : Int) then (some ((a0.extract 0 ((a1.size : Int) : Int).toNat).toList == a1.toList)) else (none)) else (none)) else (some false)) = some r := h
 clear h
 by_cases c3 : (a0.size : Int) ≥ (a1.size : Int)
 ·rw [if_pos c3] at H
  have c3b0 : decide ((a1.size : Int) ≤ (a0.size : Int)) = true := decide_eq_true c3
  have c3b1 : decide (a1.size ≤ a0.size) = true := decide_eq_true (Int.ofNat_le.mp c3)
  clear c3
  by_cases c4 : 0 ≤ (a1.size : Int)
  ·rw [if_pos c4] at H
   have c4b0 := eq_true c4
   have c4b1 : decide (0 ≤ (a1.size : Int)) = true := decide_eq_true c4
   clear c4
   by_cases c5 : (a1.size : Int) ≤ (a0.size : Int)
   ·rw [if_pos c5] at H
    have c5b0 := eq_true c5
    have c5b1 : decide ((a1.size : Int) ≤ (a0.size : Int)) = true := decide_eq_true c5
    clear c5
    obtain rfl := Option.some.inj H
    go_enter Tryz.func88, Tryz.ntmps88
    go_wp2
    go_ret
    exact ⟨by first | rfl | (simp; done) | (simp [*]; done) | (simp; exact Hand.isEmpty_ne _), by repeat (first | exact Drawn0.refl _ | apply Drawn0.step)⟩
   ·rw [if_neg c5] at H
    exact absurd H (by simp)
  ·rw [if_neg c4] at H
   exact absurd H (by simp)
 ·rw [if_neg c3] at H
  have c3b0 : decide ((a1.size : Int) ≤ (a0.size : Int)) = false := decide_eq_false c3
  have c3b1 : decide (a1.size ≤ a0.size) = false := decide_eq_false (fun h => c3 (Int.ofNat_le.mpr h))
  clear c3
  obtain rfl := Option.some.inj H
  go_enter Tryz.func88, Tryz.ntmps88
  go_wp2
  go_ret
  exact ⟨by first | rfl | (simp; done) | (simp [*]; done) | (simp; exact Hand.isEmpty_ne _), by repeat (first | exact Drawn0.refl _ | apply Drawn0.step)⟩

/-! ### stringslite_CutPrefix: function 123 -/
def stringslite_CutPrefix.f (a0 : ByteArray) (a1 : ByteArray) : Option (ByteArray × Bool) := (stringslite_HasPrefix.f a0 a1).bind fun t101 => (if t101 = true then (if 0 ≤ (a1.size : Int) then (if (a1.size : Int) ≤ (a0.size : Int) then (some (a0.extract ((a1.size : Int) : Int).toNat a0.size, true)) else (none)) else (none)) else (some (a0, false)))
set_option maxHeartbeats 8000000 in
set_option maxRecDepth 100000 in
theorem stringslite_CutPrefix.calls (a0 : ByteArray) (a1 : ByteArray) (r1 : ByteArray) (r2 : Bool) (w : World) (h : stringslite_CutPrefix.f a0 a1 = some (r1, r2)) :
  Calls Tryz.prog 123 #[.string a0, .string a1] w fun e w' => e = .returned (.tuple #[.string r1, .bool r2]) ∧ Drawn0 w w' := by
 have H : ((stringslite_HasPrefix.f a0 a1).bind fun t101 => (if t101 = true then (if 0 ≤ (a1.size : Int) then (if (a1.size : Int) ≤ (a0.size : Int) then (some (a0.extract ((a1.size : Int) : Int).toNat a0.size, true)) else (none)) else (none)) else (some (a0, false)))) = some (r1, r2) := h
 clear h
 replace H := Option.bind_eq_some_iff.mp H
 obtain ⟨t101, A30, H⟩ := H
 replace H : (if t101 = true then (if 0 ≤ (a1.size : Int) then (if (a1.size : Int) ≤ (a0.size : Int) then (some (a0.extract ((a1.size : Int) : Int).toNat a0.size, true)) else (none)) else (none)) else (some (a0, false))) = some (r1, r2) := H
 have A3 := Aside0.mk A30
 clear A30
 by_cases c4 : t101 = true
 ·subst c4
  have H1 : (if 0 ≤ (a1.size : Int) then (if (a1.size : Int) ≤ (a0.size : Int) then (some (a0.extract ((a1.size : Int) : Int).toNat a0.size, true)) else (none)) else (none)) = some (r1, r2) := by rw [if_pos rfl] at H; exact H
  clear H
  have H := H1
  clear H1
  by_cases c5 : 0 ≤ (a1.size : Int)
  ·rw [if_pos c5] at H
   have c5b0 := eq_true c5
   have c5b1 : decide (0 ≤ (a1.size : Int)) = true := decide_eq_true c5
   clear c5
   by_cases c6 : (a1.size : Int) ≤ (a0.size : Int)
   ·rw [if_pos c6] at H
    have c6b0 := eq_true c6
    have c6b1 : decide ((a1.size : Int) ≤ (a0.size : Int)) = true := decide_eq_true c6
    clear c6
    simp only [Option.some.injEq, Prod.mk.injEq] at H
    obtain ⟨rfl, rfl⟩ := H
    go_enter Tryz.func123, Tryz.ntmps123
    go_wp2_with (first | ((with_reducible refine gate_callee (f := 88) rfl ?_); refine goesL_ (some 8) rfl rfl Tryz.func88 (by kernel_rfl) rfl #[.string a0, .string a1] rfl (by (try simp only [List.map_toArray, List.map_cons, List.map_nil]); first | done | rfl | (simp only [List.length_drop, List.length_take]; rfl)) ?_; (with_reducible refine (stringslite_HasPrefix.calls a0 a1 true _ A3.out).mono ?_); rintro e w' ⟨rfl, ⟨nd, rfl⟩⟩; refine ⟨_, rfl, ?_⟩))
    go_ret2
    exact ⟨by first | rfl | (simp; done) | (simp [*]; done) | (simp; exact Hand.isEmpty_ne _), by repeat (first | exact Drawn0.refl _ | apply Drawn0.step)⟩
   ·rw [if_neg c6] at H
    exact absurd H (by simp)
  ·rw [if_neg c5] at H
   exact absurd H (by simp)
 ·replace c4 := Bool.eq_false_iff.mpr c4
  subst c4
  have H1 : (some (a0, false)) = some (r1, r2) := by rw [if_neg (show ¬ (false = true) by decide)] at H; exact H
  clear H
  have H := H1
  clear H1
  simp only [Option.some.injEq, Prod.mk.injEq] at H
  obtain ⟨rfl, rfl⟩ := H
  go_enter Tryz.func123, Tryz.ntmps123
  go_wp2_with (first | ((with_reducible refine gate_callee (f := 88) rfl ?_); refine goesL_ (some 8) rfl rfl Tryz.func88 (by kernel_rfl) rfl #[.string a0, .string a1] rfl (by (try simp only [List.map_toArray, List.map_cons, List.map_nil]); first | done | rfl | (simp only [List.length_drop, List.length_take]; rfl)) ?_; (with_reducible refine (stringslite_HasPrefix.calls a0 a1 false _ A3.out).mono ?_); rintro e w' ⟨rfl, ⟨nd, rfl⟩⟩; refine ⟨_, rfl, ?_⟩))
  go_ret2
  exact ⟨by first | rfl | (simp; done) | (simp [*]; done) | (simp; exact Hand.isEmpty_ne _), by repeat (first | exact Drawn0.refl _ | apply Drawn0.step)⟩

/-! ### strings_CutPrefix: function 92 -/
def strings_CutPrefix.f (a0 : ByteArray) (a1 : ByteArray) : Option (ByteArray × Bool) := (stringslite_CutPrefix.f a0 a1).bind fun bt102 => (some (bt102.1, bt102.2))
set_option maxHeartbeats 8000000 in
set_option maxRecDepth 100000 in
theorem strings_CutPrefix.calls (a0 : ByteArray) (a1 : ByteArray) (r1 : ByteArray) (r2 : Bool) (w : World) (h : strings_CutPrefix.f a0 a1 = some (r1, r2)) :
  Calls Tryz.prog 92 #[.string a0, .string a1] w fun e w' => e = .returned (.tuple #[.string r1, .bool r2]) ∧ Drawn0 w w' := by
 have H : ((stringslite_CutPrefix.f a0 a1).bind fun bt102 => (some (bt102.1, bt102.2))) = some (r1, r2) := h
 clear h
 replace H := Option.bind_eq_some_iff.mp H
 obtain ⟨⟨t102, t103⟩, A30, H⟩ := H
 replace H : (some (t102, t103)) = some (r1, r2) := H
 have A3 := Aside0.mk A30
 clear A30
 simp only [Option.some.injEq, Prod.mk.injEq] at H
 obtain ⟨rfl, rfl⟩ := H
 go_enter Tryz.func92, Tryz.ntmps92
 go_wp2_with (first | ((with_reducible refine gate_callee (f := 123) rfl ?_); refine goesL_ (some 8) rfl rfl Tryz.func123 (by kernel_rfl) rfl #[.string a0, .string a1] rfl (by (try simp only [List.map_toArray, List.map_cons, List.map_nil]); first | done | rfl | (simp only [List.length_drop, List.length_take]; rfl)) ?_; (with_reducible refine (stringslite_CutPrefix.calls a0 a1 t102 t103 _ A3.out).mono ?_); rintro e w' ⟨rfl, ⟨nd, rfl⟩⟩; refine ⟨_, rfl, ?_⟩))
 go_ret2
 exact ⟨by first | rfl | (simp; done) | (simp [*]; done) | (simp; exact Hand.isEmpty_ne _), by repeat (first | exact Drawn0.refl _ | apply Drawn0.step)⟩

/-! ### line_version: function 60 -/
def line_version.f (a0 : ByteArray) : Option (Int × Bool) := (strings_CutPrefix.f a0 (⟨#[72, 84, 84, 80, 47, 49, 46]⟩ : ByteArray)).bind fun bt104 => (if bt104.2 = true then (if bt104.1.toList = ([48] : List UInt8) then (if 0 < (bt104.1.size : Int) then (some (((bt bt104.1 0) - 48) % 256, true)) else (none)) else (if bt104.1.toList = ([49] : List UInt8) then (if 0 < (bt104.1.size : Int) then (some (((bt bt104.1 0) - 48) % 256, true)) else (none)) else (some (0, false)))) else (some (0, false)))
set_option maxHeartbeats 8000000 in
set_option maxRecDepth 100000 in
theorem line_version.calls (a0 : ByteArray) (r1 : Int) (r2 : Bool) (w : World) (h : line_version.f a0 = some (r1, r2)) :
  Calls Tryz.prog 60 #[.string a0] w fun e w' => e = .returned (.tuple #[.int .i64 r1, .bool r2]) ∧ Drawn0 w w' := by
 have H : ((strings_CutPrefix.f a0 (⟨#[72, 84, 84, 80, 47, 49, 46]⟩ : ByteArray)).bind fun bt104 => (if bt104.2 = true then (if bt104.1.toList = ([48] : List UInt8) then (if 0 < (bt104.1.size : Int) then (some (((bt bt104.1 0) - 48) % 256, true)) else (none)) else (if bt104.1.toList = ([49] : List UInt8) then (if 0 < (bt104.1.size : Int) then (some (((bt bt104.1 0) - 48) % 256, true)) else (none)) else (some (0, false)))) else (some (0, false)))) = some (r1, r2) := h
 clear h
 replace H := Option.bind_eq_some_iff.mp H
 obtain ⟨⟨t104, t105⟩, A20, H⟩ := H
 replace H : (if t105 = true then (if t104.toList = ([48] : List UInt8) then (if 0 < (t104.size : Int) then (some (((bt t104 0) - 48) % 256, true)) else (none)) else (if t104.toList = ([49] : List UInt8) then (if 0 < (t104.size : Int) then (some (((bt t104 0) - 48) % 256, true)) else (none)) else (some (0, false)))) else (some (0, false))) = some (r1, r2) := H
 have A2 := Aside0.mk A20
 clear A20
 by_cases c3 : t105 = true
 ·subst c3
  have H1 : (if t104.toList = ([48] : List UInt8) then (if 0 < (t104.size : Int) then (some (((bt t104 0) - 48) % 256, true)) else (none)) else (if t104.toList = ([49] : List UInt8) then (if 0 < (t104.size : Int) then (some (((bt t104 0) - 48) % 256, true)) else (none)) else (some (0, false)))) = some (r1, r2) := by rw [if_pos rfl] at H; exact H
  clear H
  have H := H1
  clear H1
  by_cases c4 : t104.toList = ([48] : List UInt8)
  ·rw [if_pos c4] at H
   have c4b0 : (t104.toList == ([48] : List UInt8)) = true := beq_iff_eq.mpr c4
   have c4b1 : (t104.toList != ([48] : List UInt8)) = false := bne_eq_false_iff_eq.mpr c4
   clear c4
   by_cases c5 : 0 < (t104.size : Int)
   ·rw [if_pos c5] at H
    have c5b0 : decide (0 < (t104.size : Int)) = true := decide_eq_true c5
    have c5b1 : decide (0 < t104.size) = true := decide_eq_true (by omega)
    clear c5
    simp only [Option.some.injEq, Prod.mk.injEq] at H
    obtain ⟨rfl, rfl⟩ := H
    go_enter Tryz.func60, Tryz.ntmps60
    go_wp2_with (first | ((with_reducible refine gate_callee (f := 92) rfl ?_); refine goesL_ (some 8) rfl rfl Tryz.func92 (by kernel_rfl) rfl #[.string a0, .string (⟨#[72, 84, 84, 80, 47, 49, 46]⟩ : ByteArray)] rfl (by (try simp only [List.map_toArray, List.map_cons, List.map_nil]); first | done | rfl | (simp only [List.length_drop, List.length_take]; rfl)) ?_; (with_reducible refine (strings_CutPrefix.calls a0 (⟨#[72, 84, 84, 80, 47, 49, 46]⟩ : ByteArray) t104 true _ A2.out).mono ?_); rintro e w' ⟨rfl, ⟨nd, rfl⟩⟩; refine ⟨_, rfl, ?_⟩; have p6 : 0 ≤ (0 : Int) := (by omega); have q6 : 0 < t104.size := (by have : (0 : Int) < (t104.size : Int) := of_decide_eq_true (by first | (with_reducible assumption) | assumption); omega); have hx6 : ∀ h : 0 < t104.size, ((t104[0]'h).toNat : Int) = bt t104 0 := bt_at t104 0; clear p6; have qi6 : (0 < (t104.size : Int)) = True := eq_true (of_decide_eq_true (by first | (with_reducible assumption) | assumption)); replace q6 := eq_true q6))
    go_ret2
    exact ⟨by first | rfl | (simp; done) | (simp [*]; done) | (simp; exact Hand.isEmpty_ne _), by repeat (first | exact Drawn0.refl _ | apply Drawn0.step)⟩
   ·rw [if_neg c5] at H
    exact absurd H (by simp)
  ·rw [if_neg c4] at H
   have c4b0 : (t104.toList == ([48] : List UInt8)) = false := beq_eq_false_iff_ne.mpr c4
   have c4b1 : (t104.toList != ([48] : List UInt8)) = true := bne_iff_ne.mpr c4
   by_cases c7 : t104.toList = ([49] : List UInt8)
   ·rw [if_pos c7] at H
    have c7b0 : (t104.toList == ([49] : List UInt8)) = true := beq_iff_eq.mpr c7
    have c7b1 : (t104.toList != ([49] : List UInt8)) = false := bne_eq_false_iff_eq.mpr c7
    clear c7
    by_cases c8 : 0 < (t104.size : Int)
    ·rw [if_pos c8] at H
     have c8b0 : decide (0 < (t104.size : Int)) = true := decide_eq_true c8
     have c8b1 : decide (0 < t104.size) = true := decide_eq_true (by omega)
     clear c8
     simp only [Option.some.injEq, Prod.mk.injEq] at H
     obtain ⟨rfl, rfl⟩ := H
     go_enter Tryz.func60, Tryz.ntmps60
     go_wp2_with (first | ((with_reducible refine gate_callee (f := 92) rfl ?_); refine goesL_ (some 8) rfl rfl Tryz.func92 (by kernel_rfl) rfl #[.string a0, .string (⟨#[72, 84, 84, 80, 47, 49, 46]⟩ : ByteArray)] rfl (by (try simp only [List.map_toArray, List.map_cons, List.map_nil]); first | done | rfl | (simp only [List.length_drop, List.length_take]; rfl)) ?_; (with_reducible refine (strings_CutPrefix.calls a0 (⟨#[72, 84, 84, 80, 47, 49, 46]⟩ : ByteArray) t104 true _ A2.out).mono ?_); rintro e w' ⟨rfl, ⟨nd, rfl⟩⟩; refine ⟨_, rfl, ?_⟩; have p9 : 0 ≤ (0 : Int) := (by omega); have q9 : 0 < t104.size := (by have : (0 : Int) < (t104.size : Int) := of_decide_eq_true (by first | (with_reducible assumption) | assumption); omega); have hx9 : ∀ h : 0 < t104.size, ((t104[0]'h).toNat : Int) = bt t104 0 := bt_at t104 0; clear p9; have qi9 : (0 < (t104.size : Int)) = True := eq_true (of_decide_eq_true (by first | (with_reducible assumption) | assumption)); replace q9 := eq_true q9))
     go_ret2
     exact ⟨by first | rfl | (simp; done) | (simp [*]; done) | (simp; exact Hand.isEmpty_ne _), by repeat (first | exact Drawn0.refl _ | apply Drawn0.step)⟩
    ·rw [if_neg c8] at H
     exact absurd H (by simp)
   ·rw [if_neg c7] at H
    have c7b0 : (t104.toList == ([49] : List UInt8)) = false := beq_eq_false_iff_ne.mpr c7
    have c7b1 : (t104.toList != ([49] : List UInt8)) = true := bne_iff_ne.mpr c7
    simp only [Option.some.injEq, Prod.mk.injEq] at H
    obtain ⟨rfl, rfl⟩ := H
    go_enter Tryz.func60, Tryz.ntmps60
    go_wp2_with (first | ((with_reducible refine gate_callee (f := 92) rfl ?_); refine goesL_ (some 8) rfl rfl Tryz.func92 (by kernel_rfl) rfl #[.string a0, .string (⟨#[72, 84, 84, 80, 47, 49, 46]⟩ : ByteArray)] rfl (by (try simp only [List.map_toArray, List.map_cons, List.map_nil]); first | done | rfl | (simp only [List.length_drop, List.length_take]; rfl)) ?_; (with_reducible refine (strings_CutPrefix.calls a0 (⟨#[72, 84, 84, 80, 47, 49, 46]⟩ : ByteArray) t104 true _ A2.out).mono ?_); rintro e w' ⟨rfl, ⟨nd, rfl⟩⟩; refine ⟨_, rfl, ?_⟩))
    go_ret2
    exact ⟨by first | rfl | (simp; done) | (simp [*]; done) | (simp; exact Hand.isEmpty_ne _), by repeat (first | exact Drawn0.refl _ | apply Drawn0.step)⟩
 ·replace c3 := Bool.eq_false_iff.mpr c3
  subst c3
  have H1 : (some (0, false)) = some (r1, r2) := by rw [if_neg (show ¬ (false = true) by decide)] at H; exact H
  clear H
  have H := H1
  clear H1
  simp only [Option.some.injEq, Prod.mk.injEq] at H
  obtain ⟨rfl, rfl⟩ := H
  go_enter Tryz.func60, Tryz.ntmps60
  go_wp2_with (first | ((with_reducible refine gate_callee (f := 92) rfl ?_); refine goesL_ (some 8) rfl rfl Tryz.func92 (by kernel_rfl) rfl #[.string a0, .string (⟨#[72, 84, 84, 80, 47, 49, 46]⟩ : ByteArray)] rfl (by (try simp only [List.map_toArray, List.map_cons, List.map_nil]); first | done | rfl | (simp only [List.length_drop, List.length_take]; rfl)) ?_; (with_reducible refine (strings_CutPrefix.calls a0 (⟨#[72, 84, 84, 80, 47, 49, 46]⟩ : ByteArray) t104 false _ A2.out).mono ?_); rintro e w' ⟨rfl, ⟨nd, rfl⟩⟩; refine ⟨_, rfl, ?_⟩))
  go_ret2
  exact ⟨by first | rfl | (simp; done) | (simp [*]; done) | (simp; exact Hand.isEmpty_ne _), by repeat (first | exact Drawn0.refl _ | apply Drawn0.step)⟩

end Go.Proofs.YtjaklgikfcahdaaGreatDoor.PU
