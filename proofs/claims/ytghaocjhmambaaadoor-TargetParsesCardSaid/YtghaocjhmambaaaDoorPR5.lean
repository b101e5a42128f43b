-- Out of the translation, by a program of this session: each function that a law comes to as a Lean function, and that the machine's call does what it says. Lean checks it.
import Derived.Test.YtghaocjhmambaaaDoorPR0
namespace Go.Proofs.YtghaocjhmambaaaDoor.PR
open Go.RowKit Go.Proofs.YtghaocjhmambaaaDoorW.PrintWords Go.Proofs.YtghaocjhmambaaaDoorW.PrintLast Go.Proofs.YtghaocjhmambaaaDoorW.PrintMore
attribute [local go_sem] max2_int min2_int max_two min_two max_three min_three max_four min_four   -- for this text's walks alone
set_option linter.unusedVariables false
set_option linter.unusedSimpArgs false

/-! ### stringslite_HasPrefix: function 39 -/
def stringslite_HasPrefix.f (a0 : ByteArray) (a1 : ByteArray) : Option (Bool) := if (a0.size : Int) ≥ (a1.size : Int) then (if 0 ≤ (a1.size : Int) then (if (a1.size : Int) ≤ (a0.size : Int) then (some ((a0.extract 0 ((a1.size : Int) : Int).toNat).toList == a1.toList)) else (none)) else (none)) else (some false)
set_option maxHeartbeats 8000000 in
set_option maxRecDepth 100000 in
theorem stringslite_HasPrefix.calls (a0 : ByteArray) (a1 : ByteArray) (r : Bool) (w : World) (h : stringslite_HasPrefix.f a0 a1 = some r) :
    Calls Tryd.prog 39 #[.string a0, .string a1] w fun e w' => e = .returned (.bool r) ∧ Drawn0 w w' := by
  have H : (if (a0.size : Int) ≥ (a1.size : Int) then (if 0 ≤ (a1.size : Int) then (if (a1.size : Int) ≤ (a0.size : Int) then (some ((a0.extract 0 ((a1.size : Int) : Int).toNat).toList == a1.toList)) else (none)) else (none)) else (some false)) = some r := h
  clear h
  by_cases c3 : (a0.size : Int) ≥ (a1.size : Int)
  · rw [if_pos c3] at H
    have c3b0 : decide ((a1.size : Int) ≤ (a0.size : Int)) = true := decide_eq_true c3
    have c3b1 : decide (a1.size ≤ a0.size) = true := decide_eq_true (Int.ofNat_le.mp c3)
    clear c3
    by_cases c4 : 0 ≤ (a1.size : Int)
    · rw [if_pos c4] at H
      have c4b0 := eq_true c4
      have c4b1 : decide (0 ≤ (a1.size : Int)) = true := decide_eq_true c4
      clear c4
      by_cases c5 : (a1.size : Int) ≤ (a0.size : Int)
      · rw [if_pos c5] at H
        have c5b0 := eq_true c5
        have c5b1 : decide ((a1.size : Int) ≤ (a0.size : Int)) = true := decide_eq_true c5
        clear c5
        obtain rfl := Option.some.inj H
        go_enter Tryd.func39, Tryd.ntmps39
        go_wp2
        go_ret
        exact ⟨by first | rfl | (simp; done) | (simp [*]; done) | (simp; exact Hand.isEmpty_ne _), by repeat (first | exact Drawn0.refl _ | apply Drawn0.step)⟩
      · rw [if_neg c5] at H
        exact absurd H (by simp)
    · rw [if_neg c4] at H
      exact absurd H (by simp)
  · rw [if_neg c3] at H
    have c3b0 : decide ((a1.size : Int) ≤ (a0.size : Int)) = false := decide_eq_false c3
    have c3b1 : decide (a1.size ≤ a0.size) = false := decide_eq_false (fun h => c3 (Int.ofNat_le.mpr h))
    clear c3
    obtain rfl := Option.some.inj H
    go_enter Tryd.func39, Tryd.ntmps39
    go_wp2
    go_ret
    exact ⟨by first | rfl | (simp; done) | (simp [*]; done) | (simp; exact Hand.isEmpty_ne _), by repeat (first | exact Drawn0.refl _ | apply Drawn0.step)⟩

/-! ### strings_HasPrefix: function 21 -/
def strings_HasPrefix.f (a0 : ByteArray) (a1 : ByteArray) : Option (Bool) := (stringslite_HasPrefix.f a0 a1).bind fun t137 => (some t137)
set_option maxHeartbeats 8000000 in
set_option maxRecDepth 100000 in
theorem strings_HasPrefix.calls (a0 : ByteArray) (a1 : ByteArray) (r : Bool) (w : World) (h : strings_HasPrefix.f a0 a1 = some r) :
    Calls Tryd.prog 21 #[.string a0, .string a1] w fun e w' => e = .returned (.bool r) ∧ Drawn0 w w' := by
  have H : ((stringslite_HasPrefix.f a0 a1).bind fun t137 => (some t137)) = some r := h
  clear h
  replace H := Option.bind_eq_some_iff.mp H
  obtain ⟨t137, A30, H⟩ := H
  replace H : (some t137) = some r := H
  have A3 := Aside0.mk A30
  clear A30
  obtain rfl := Option.some.inj H
  go_enter Tryd.func21, Tryd.ntmps21
  go_wp2_with (first | ((with_reducible refine gate_callee (f := 39) rfl ?_); refine goesL_ (some 7) rfl rfl Tryd.func39 (by kernel_rfl) rfl #[.string a0, .string a1] rfl (by (try simp only [List.map_toArray, List.map_cons, List.map_nil]); first | done | rfl | (simp only [List.length_drop, List.length_take]; rfl)) ?_; (with_reducible refine (stringslite_HasPrefix.calls a0 a1 t137 _ A3.out).mono ?_); rintro e w' ⟨rfl, ⟨nd, rfl⟩⟩; refine ⟨_, rfl, ?_⟩))
  go_ret
  exact ⟨by first | rfl | (simp; done) | (simp [*]; done) | (simp; exact Hand.isEmpty_ne _), by repeat (first | exact Drawn0.refl _ | apply Drawn0.step)⟩

/-! ### octet_Lower: function 30: told by hand -/
def octet_Lower.f (a0 : ByteArray) : Option ByteArray := if a0.size ≤ 9223372036854775807 then some (Hand.lowerS a0) else none
theorem octet_Lower.calls (a0 : ByteArray) (r : ByteArray) (w : World) (h : octet_Lower.f a0 = some r) :
    Calls Tryd.prog 30 #[.string a0] w fun e w' => e = .returned (.string r) ∧ Below w.heap.size w w' := by
  unfold octet_Lower.f at h
  split at h
  case isFalse => cases h
  case isTrue hs =>
    obtain rfl := Option.some.inj h
    exact Hand.Lower_any a0 w (by omega)

/-! ### strings_IndexAny: function 52: told by hand -/
def strings_IndexAny.f (a0 a1 : ByteArray) : Option (Int) := if a0.size < 4294967281 ∧ a1.data.toList = [47, 63] then some (Lib.indexAny a0.data.toList [47, 63]) else none
theorem strings_IndexAny.calls (a0 a1 : ByteArray) (r : Int) (w : World) (h : strings_IndexAny.f a0 a1 = some r) :
    Calls Tryd.prog 52 #[.string a0, .string a1] w fun e w' => e = .returned (.int .i64 r) ∧ Below w.heap.size w w' := by
  unfold strings_IndexAny.f at h
  split at h
  case isFalse => cases h
  case isTrue hs =>
    obtain rfl := Option.some.inj h
    obtain ⟨h0, h1⟩ := hs
    have e : a1 = ⟨#[47, 63]⟩ := by
      cases a1 with
      | mk d => cases d with
        | mk l => exact congrArg (fun l => (⟨⟨l⟩⟩ : ByteArray)) h1
    subst e
    exact Hand.any_any a0 w h0

/-! ### target_absolute: function 36 -/
def target_absolute.j0 : Nat → ByteArray → Bool → Option (ByteArray × ByteArray × Bool)
  | 0, _, _ => none
  | k + 1, x0, x14 => if x14 = true then (some ((⟨#[]⟩ : ByteArray), (⟨#[]⟩ : ByteArray), false)) else (if 7 ≤ (x0.size : Int) then ((strings_IndexAny.f (x0.extract 7 x0.size) (⟨#[47, 63]⟩ : ByteArray)).bind fun t139 => (if t139 < 0 then (some (x0.extract 7 x0.size, (⟨#[47]⟩ : ByteArray), true)) else (if 0 ≤ t139 then (if t139 < ((x0.extract 7 x0.size).size : Int) then (if (bt (x0.extract 7 x0.size) t139) = 63 then (if t139 ≤ ((x0.extract 7 x0.size).size : Int) then (if 1 + ((x0.extract 7 x0.size).extract (t139 : Int).toNat (x0.extract 7 x0.size).size).size ≤ 9223372036854775807 then (some ((x0.extract 7 x0.size).extract 0 (t139 : Int).toNat, (⟨#[47]⟩ : ByteArray) ++ ((x0.extract 7 x0.size).extract (t139 : Int).toNat (x0.extract 7 x0.size).size), true)) else (none)) else (none)) else (if t139 ≤ ((x0.extract 7 x0.size).size : Int) then (some ((x0.extract 7 x0.size).extract 0 (t139 : Int).toNat, (x0.extract 7 x0.size).extract (t139 : Int).toNat (x0.extract 7 x0.size).size, true)) else (none))) else (none)) else (none)))) else (none))
def target_absolute.f (k : Nat) (a0 : ByteArray) : Option (ByteArray × ByteArray × Bool) := if (a0.size : Int) < 7 then (target_absolute.j0 k a0 true) else (if 0 ≤ 7 then (if 7 ≤ (a0.size : Int) then ((octet_Lower.f (a0.extract 0 7)).bind fun t138 => (target_absolute.j0 k a0 (t138.toList != ([104, 116, 116, 112, 58, 47, 47] : List UInt8)))) else (none)) else (none))
theorem target_absolute.mono_l : ∀ k, (∀ y0 y1, LeO (target_absolute.j0 k y0 y1) (target_absolute.j0 (k + 1) y0 y1))
  | 0 => fun _ _ r h => by simp [target_absolute.j0] at h
  | k + 1 => by
    have ih0 := target_absolute.mono_l k
    · intro y0 y1
      unfold target_absolute.j0
      repeat' first
      | (with_reducible exact ih0 _ _)
      | (with_reducible exact LeO.refl _)
      | (with_reducible exact LeO.none _)
      | (with_reducible refine LeO.ite ?_ ?_)
      | (with_reducible refine LeO.bind ?_ (fun _ => ?_))
      | exact ih0 _ _
      | exact LeO.none _
      | refine LeO.ite ?_ ?_
      | refine LeO.bind ?_ (fun _ => ?_)
theorem target_absolute.mono : ∀ a0 k, LeO (target_absolute.f k a0) (target_absolute.f (k + 1) a0) := by
  intro a0 k
  have ih0 := target_absolute.mono_l k
  unfold target_absolute.f
  repeat' first
      | (with_reducible exact ih0 _ _)
      | (with_reducible exact LeO.refl _)
      | (with_reducible exact LeO.none _)
      | (with_reducible refine LeO.ite ?_ ?_)
      | (with_reducible refine LeO.bind ?_ (fun _ => ?_))
      | exact ih0 _ _
      | exact LeO.none _
      | refine LeO.ite ?_ ?_
      | refine LeO.bind ?_ (fun _ => ?_)
set_option maxHeartbeats 8000000 in
set_option maxRecDepth 100000 in
theorem target_absolute.calls (k : Nat) (a0 : ByteArray) (r1 : ByteArray) (r2 : ByteArray) (r3 : Bool) (w : World) (h : target_absolute.f k a0 = some (r1, r2, r3)) :
    Calls Tryd.prog 36 #[.string a0] w fun e w' => e = .returned (.tuple #[.string r1, .string r2, .bool r3]) ∧ Below w.heap.size w w' := by
  have HB := Aside0.mk (Below.refl w.heap.size w)
  have H : (if (a0.size : Int) < 7 then (target_absolute.j0 k a0 true) else (if 0 ≤ 7 then (if 7 ≤ (a0.size : Int) then ((octet_Lower.f (a0.extract 0 7)).bind fun t138 => (target_absolute.j0 k a0 (t138.toList != ([104, 116, 116, 112, 58, 47, 47] : List UInt8)))) else (none)) else (none))) = some (r1, r2, r3) := h
  clear h
  have HC2 := Aside0.mk H
  clear H
  go_enter Tryd.func36, Tryd.ntmps36
  go_upto_region 1 with (fail)
  repeat (go_quiet (fail); go_upto_region 1 with (fail))
  go_cut [14] (fun v14 wc => ∃ (kq : Nat) (x14_1 : Bool), v14 = .bool x14_1 ∧ Aside0 (target_absolute.j0 kq a0 x14_1 = some (r1, r2, r3)) ∧ Aside0 (kq ≤ k) ∧ Aside0 (Below w.heap.size w wc))
  case first =>
    have H := HC2.out
    clear HC2
    by_cases c3 : (a0.size : Int) < 7
    · rw [if_pos c3] at H
      have c3b0 : decide ((a0.size : Int) < 7) = true := decide_eq_true c3
      have c3b1 : decide (a0.size < 7) = true := decide_eq_true (by omega)
      clear c3
      (first | rw [c3b0] | (simp only [i64_w, i32_w]; rw [c3b0]) | skip)
      have H' := Aside0.mk H
      clear H
      go_wp2
      repeat (go_quiet (fail); try go_wp2)
      go_meet
      case rel => exact ⟨_, (true), (by first | rfl | (simp; done) | (simp [*]; done) | (simp; exact Hand.isEmpty_ne _)), H', ⟨by first | omega | exact Nat.le_refl _⟩, ⟨by repeat (first | (with_reducible first | exact HB.out | apply below_alloc | apply pw_below_drewN | apply below_drew1) | exact HB.out)⟩⟩
    · rw [if_neg c3] at H
      have c3b0 : decide ((a0.size : Int) < 7) = false := decide_eq_false c3
      have c3b1 : decide (a0.size < 7) = false := decide_eq_false (by omega)
      clear c3
      (first | rw [c3b0] | (simp only [i64_w, i32_w]; rw [c3b0]) | skip)
      by_cases c4 : 0 ≤ 7
      · rw [if_pos c4] at H
        have c4b0 := eq_true c4
        have c4b1 : decide (0 ≤ 7) = true := decide_eq_true c4
        clear c4
        by_cases c5 : 7 ≤ (a0.size : Int)
        · rw [if_pos c5] at H
          have c5b0 := eq_true c5
          have c5b1 : decide (7 ≤ (a0.size : Int)) = true := decide_eq_true c5
          clear c5
          replace H := Option.bind_eq_some_iff.mp H
          obtain ⟨t138, A60, H⟩ := H
          replace H : (target_absolute.j0 k a0 (t138.toList != ([104, 116, 116, 112, 58, 47, 47] : List UInt8))) = some (r1, r2, r3) := H
          have A6 := Aside0.mk A60
          clear A60
          have H' := Aside0.mk H
          clear H
          go_wp2_with (first | (go_at_call 30; (with_reducible refine (octet_Lower.calls (a0.extract 0 7) t138 _ A6.out).mono ?_); rintro e w7 ⟨rfl, hb⟩; have n0_ := Aside0.mk (below_step (by repeat (first | (with_reducible first | exact HB.out | apply below_alloc | apply pw_below_drewN | apply below_drew1) | exact HB.out)) hb); clear HB; have HB := n0_; clear n0_; (try clear hb); (try clear hb2); (try clear hk); (try clear hi)))
          repeat (go_quiet (first | (go_at_call 30; (with_reducible refine (octet_Lower.calls (a0.extract 0 7) t138 _ A6.out).mono ?_); rintro e w7 ⟨rfl, hb⟩; have n0_ := Aside0.mk (below_step (by repeat (first | (with_reducible first | exact HB.out | apply below_alloc | apply pw_below_drewN | apply below_drew1) | exact HB.out)) hb); clear HB; have HB := n0_; clear n0_; (try clear hb); (try clear hb2); (try clear hk); (try clear hi))); try go_wp2_with (first | (go_at_call 30; (with_reducible refine (octet_Lower.calls (a0.extract 0 7) t138 _ A6.out).mono ?_); rintro e w7 ⟨rfl, hb⟩; have n0_ := Aside0.mk (below_step (by repeat (first | (with_reducible first | exact HB.out | apply below_alloc | apply pw_below_drewN | apply below_drew1) | exact HB.out)) hb); clear HB; have HB := n0_; clear n0_; (try clear hb); (try clear hb2); (try clear hk); (try clear hi))))
          go_meet
          case rel => exact ⟨_, ((t138.toList != ([104, 116, 116, 112, 58, 47, 47] : List UInt8))), (by first | rfl | (simp; done) | (simp [*]; done) | (simp; exact Hand.isEmpty_ne _)), H', ⟨by first | omega | exact Nat.le_refl _⟩, ⟨by repeat (first | (with_reducible first | exact HB.out | apply below_alloc | apply pw_below_drewN | apply below_drew1) | exact HB.out)⟩⟩
        · rw [if_neg c5] at H
          exact absurd H (by simp)
      · rw [if_neg c4] at H
        exact absurd H (by simp)
  case rest =>
    clear HC2
    try clear p2
    try clear c3
    try clear c3b0
    try clear c3b1
    try clear c4
    try clear c4b0
    try clear c4b1
    try clear c5
    try clear c5b0
    try clear c5b1
    obtain ⟨kq, x14_1, rfl, HA, HJ1, HB⟩ := hcut
    cases kq with
    | zero => exact absurd HA.out (by simp [target_absolute.j0])
    | succ kj1 =>
      have H := HA.out
      clear HA
      simp only [target_absolute.j0] at H
      by_cases c8 : x14_1 = true
      · subst c8
        have H1 : (some ((⟨#[]⟩ : ByteArray), (⟨#[]⟩ : ByteArray), false)) = some (r1, r2, r3) := by rw [if_pos rfl] at H; exact H
        clear H
        have H := H1
        clear H1
        simp only [Option.some.injEq, Prod.mk.injEq] at H
        obtain ⟨rfl, rfl, rfl⟩ := H
        go_wp2
        repeat (go_quiet (fail); try go_wp2)
        go_ret3
        exact ⟨by first | rfl | (simp [errW_none, errW_some] <;> rfl) | (simp [*, errW_none, errW_some] <;> rfl), by repeat (first | (with_reducible first | exact HB.out | apply below_alloc | apply pw_below_drewN | apply below_drew1) | exact HB.out)⟩
      · replace c8 := Bool.eq_false_iff.mpr c8
        subst c8
        have H1 : (if 7 ≤ (a0.size : Int) then ((strings_IndexAny.f (a0.extract 7 a0.size) (⟨#[47, 63]⟩ : ByteArray)).bind fun t139 => (if t139 < 0 then (some (a0.extract 7 a0.size, (⟨#[47]⟩ : ByteArray), true)) else (if 0 ≤ t139 then (if t139 < ((a0.extract 7 a0.size).size : Int) then (if (bt (a0.extract 7 a0.size) t139) = 63 then (if t139 ≤ ((a0.extract 7 a0.size).size : Int) then (if 1 + ((a0.extract 7 a0.size).extract (t139 : Int).toNat (a0.extract 7 a0.size).size).size ≤ 9223372036854775807 then (some ((a0.extract 7 a0.size).extract 0 (t139 : Int).toNat, (⟨#[47]⟩ : ByteArray) ++ ((a0.extract 7 a0.size).extract (t139 : Int).toNat (a0.extract 7 a0.size).size), true)) else (none)) else (none)) else (if t139 ≤ ((a0.extract 7 a0.size).size : Int) then (some ((a0.extract 7 a0.size).extract 0 (t139 : Int).toNat, (a0.extract 7 a0.size).extract (t139 : Int).toNat (a0.extract 7 a0.size).size, true)) else (none))) else (none)) else (none)))) else (none)) = some (r1, r2, r3) := by rw [if_neg (show ¬ (false = true) by decide)] at H; exact H
        clear H
        have H := H1
        clear H1
        by_cases c9 : 7 ≤ (a0.size : Int)
        · rw [if_pos c9] at H
          have c9b0 := eq_true c9
          have c9b1 : decide (7 ≤ (a0.size : Int)) = true := decide_eq_true c9
          clear c9
          replace H := Option.bind_eq_some_iff.mp H
          obtain ⟨t139, A100, H⟩ := H
          replace H : (if t139 < 0 then (some (a0.extract 7 a0.size, (⟨#[47]⟩ : ByteArray), true)) else (if 0 ≤ t139 then (if t139 < ((a0.extract 7 a0.size).size : Int) then (if (bt (a0.extract 7 a0.size) t139) = 63 then (if t139 ≤ ((a0.extract 7 a0.size).size : Int) then (if 1 + ((a0.extract 7 a0.size).extract (t139 : Int).toNat (a0.extract 7 a0.size).size).size ≤ 9223372036854775807 then (some ((a0.extract 7 a0.size).extract 0 (t139 : Int).toNat, (⟨#[47]⟩ : ByteArray) ++ ((a0.extract 7 a0.size).extract (t139 : Int).toNat (a0.extract 7 a0.size).size), true)) else (none)) else (none)) else (if t139 ≤ ((a0.extract 7 a0.size).size : Int) then (some ((a0.extract 7 a0.size).extract 0 (t139 : Int).toNat, (a0.extract 7 a0.size).extract (t139 : Int).toNat (a0.extract 7 a0.size).size, true)) else (none))) else (none)) else (none))) = some (r1, r2, r3) := H
          have A10 := Aside0.mk A100
          clear A100
          by_cases c11 : t139 < 0
          · rw [if_pos c11] at H
            have c11b0 : decide (t139 < 0) = true := decide_eq_true c11
            clear c11
            simp only [Option.some.injEq, Prod.mk.injEq] at H
            obtain ⟨rfl, rfl, rfl⟩ := H
            go_wp2_with (first | (go_at_call 52; (with_reducible refine (strings_IndexAny.calls (a0.extract 7 a0.size) (⟨#[47, 63]⟩ : ByteArray) t139 _ A10.out).mono ?_); rintro e w12 ⟨rfl, hb⟩; have n0_ := Aside0.mk (below_step (by repeat (first | (with_reducible first | exact HB.out | apply below_alloc | apply pw_below_drewN | apply below_drew1) | exact HB.out)) hb); clear HB; have HB := n0_; clear n0_; (try clear hb); (try clear hb2); (try clear hk); (try clear hi)))
            repeat (go_quiet (first | (go_at_call 52; (with_reducible refine (strings_IndexAny.calls (a0.extract 7 a0.size) (⟨#[47, 63]⟩ : ByteArray) t139 _ A10.out).mono ?_); rintro e w12 ⟨rfl, hb⟩; have n0_ := Aside0.mk (below_step (by repeat (first | (with_reducible first | exact HB.out | apply below_alloc | apply pw_below_drewN | apply below_drew1) | exact HB.out)) hb); clear HB; have HB := n0_; clear n0_; (try clear hb); (try clear hb2); (try clear hk); (try clear hi))); try go_wp2_with (first | (go_at_call 52; (with_reducible refine (strings_IndexAny.calls (a0.extract 7 a0.size) (⟨#[47, 63]⟩ : ByteArray) t139 _ A10.out).mono ?_); rintro e w12 ⟨rfl, hb⟩; have n0_ := Aside0.mk (below_step (by repeat (first | (with_reducible first | exact HB.out | apply below_alloc | apply pw_below_drewN | apply below_drew1) | exact HB.out)) hb); clear HB; have HB := n0_; clear n0_; (try clear hb); (try clear hb2); (try clear hk); (try clear hi))))
            go_ret3
            exact ⟨by first | rfl | (simp [errW_none, errW_some] <;> rfl) | (simp [*, errW_none, errW_some] <;> rfl), by repeat (first | (with_reducible first | exact HB.out | apply below_alloc | apply pw_below_drewN | apply below_drew1) | exact HB.out)⟩
          · rw [if_neg c11] at H
            have c11b0 : decide (t139 < 0) = false := decide_eq_false c11
            clear c11
            by_cases c13 : 0 ≤ t139
            · rw [if_pos c13] at H
              have c13b0 : decide (0 ≤ t139) = true := decide_eq_true c13
              clear c13
              by_cases c14 : t139 < ((a0.extract 7 a0.size).size : Int)
              · rw [if_pos c14] at H
                have c14b0 : decide (t139 < ((a0.extract 7 a0.size).size : Int)) = true := decide_eq_true c14
                (try (have c14b20 := c14b0; simp only [ByteArray.size_extract] at c14b20))
                (try (have c14b21 := c14b1; simp only [ByteArray.size_extract] at c14b21))
                (try (have c14b40 := c14b0; simp only [ByteArray.size_extract, Nat.min_self] at c14b40))
                (try (have c14b41 := c14b1; simp only [ByteArray.size_extract, Nat.min_self] at c14b41))
                clear c14
                by_cases c16 : (bt (a0.extract 7 a0.size) t139) = 63
                · rw [if_pos c16] at H
                  have c16b0 : ((bt (a0.extract 7 a0.size) t139) == 63) = true := beq_iff_eq.mpr c16
                  have c16b1 : ((bt (a0.extract 7 a0.size) t139) != 63) = false := bne_eq_false_iff_eq.mpr c16
                  (try (have c16b20 := c16b0; simp only [ByteArray.size_extract] at c16b20))
                  (try (have c16b21 := c16b1; simp only [ByteArray.size_extract] at c16b21))
                  (try (have c16b40 := c16b0; simp only [ByteArray.size_extract, Nat.min_self] at c16b40))
                  (try (have c16b41 := c16b1; simp only [ByteArray.size_extract, Nat.min_self] at c16b41))
                  clear c16
                  have c17b0 := eq_true (of_decide_eq_true (by first | (with_reducible assumption) | assumption) : 0 ≤ t139)
                  by_cases c18 : t139 ≤ ((a0.extract 7 a0.size).size : Int)
                  · rw [if_pos c18] at H
                    have c18b0 := eq_true c18
                    have c18b1 : decide (t139 ≤ ((a0.extract 7 a0.size).size : Int)) = true := decide_eq_true c18
                    (try (have c18b20 := c18b0; simp only [ByteArray.size_extract] at c18b20))
                    (try (have c18b21 := c18b1; simp only [ByteArray.size_extract] at c18b21))
                    (try (have c18b40 := c18b0; simp only [ByteArray.size_extract, Nat.min_self] at c18b40))
                    (try (have c18b41 := c18b1; simp only [ByteArray.size_extract, Nat.min_self] at c18b41))
                    clear c18
                    have c19b0 := eq_true (of_decide_eq_true (by first | (with_reducible assumption) | assumption) : 0 ≤ t139)
                    have c20b0 := eq_true (of_decide_eq_true (by first | (with_reducible assumption) | assumption) : t139 ≤ ((a0.extract 7 a0.size).size : Int))
                    by_cases c21 : 1 + ((a0.extract 7 a0.size).extract (t139 : Int).toNat (a0.extract 7 a0.size).size).size ≤ 9223372036854775807
                    · rw [if_pos c21] at H
                      have c21b0 := eq_true c21
                      have c21b1 : decide (1 + ((a0.extract 7 a0.size).extract (t139 : Int).toNat (a0.extract 7 a0.size).size).size ≤ 9223372036854775807) = true := decide_eq_true c21
                      (try (have c21b20 := c21b0; simp only [ByteArray.size_extract] at c21b20))
                      (try (have c21b21 := c21b1; simp only [ByteArray.size_extract] at c21b21))
                      (try (have c21b40 := c21b0; simp only [ByteArray.size_extract, Nat.min_self] at c21b40))
                      (try (have c21b41 := c21b1; simp only [ByteArray.size_extract, Nat.min_self] at c21b41))
                      try have c21b2 : (9223372036854775807 < 1 + ((a0.extract 7 a0.size).extract (t139 : Int).toNat (a0.extract 7 a0.size).size).size) = False := eq_false (Nat.not_lt.2 c21)
                      (try (have c21b42 := c21b2; simp only [ByteArray.size_extract, Nat.min_self] at c21b42))
                      simp only [Option.some.injEq, Prod.mk.injEq] at H
                      obtain ⟨rfl, rfl, rfl⟩ := H
                      go_wp2_with (first | (go_at_call 52; (with_reducible refine (strings_IndexAny.calls (a0.extract 7 a0.size) (⟨#[47, 63]⟩ : ByteArray) t139 _ A10.out).mono ?_); rintro e w22 ⟨rfl, hb⟩; have n0_ := Aside0.mk (below_step (by repeat (first | (with_reducible first | exact HB.out | apply below_alloc | apply pw_below_drewN | apply below_drew1) | exact HB.out)) hb); clear HB; have HB := n0_; clear n0_; (try clear hb); (try clear hb2); (try clear hk); (try clear hi); have p15 : 0 ≤ (t139 : Int) := of_decide_eq_true (by first | (with_reducible assumption) | assumption); have q15 : t139 < ((a0.extract 7 a0.size).size : Int) := of_decide_eq_true (by first | (with_reducible assumption) | assumption); (try (have q15m := q15; simp only [ByteArray.size_extract, Nat.min_self] at q15m; replace q15m := eq_true q15m)); have hx15 := bt_at (a0.extract 7 a0.size) t139; replace p15 := eq_true p15; replace q15 := eq_true q15))
                      repeat (go_quiet (first | (go_at_call 52; (with_reducible refine (strings_IndexAny.calls (a0.extract 7 a0.size) (⟨#[47, 63]⟩ : ByteArray) t139 _ A10.out).mono ?_); rintro e w22 ⟨rfl, hb⟩; have n0_ := Aside0.mk (below_step (by repeat (first | (with_reducible first | exact HB.out | apply below_alloc | apply pw_below_drewN | apply below_drew1) | exact HB.out)) hb); clear HB; have HB := n0_; clear n0_; (try clear hb); (try clear hb2); (try clear hk); (try clear hi); have p15 : 0 ≤ (t139 : Int) := of_decide_eq_true (by first | (with_reducible assumption) | assumption); have q15 : t139 < ((a0.extract 7 a0.size).size : Int) := of_decide_eq_true (by first | (with_reducible assumption) | assumption); (try (have q15m := q15; simp only [ByteArray.size_extract, Nat.min_self] at q15m; replace q15m := eq_true q15m)); have hx15 := bt_at (a0.extract 7 a0.size) t139; replace p15 := eq_true p15; replace q15 := eq_true q15)); try go_wp2_with (first | (go_at_call 52; (with_reducible refine (strings_IndexAny.calls (a0.extract 7 a0.size) (⟨#[47, 63]⟩ : ByteArray) t139 _ A10.out).mono ?_); rintro e w22 ⟨rfl, hb⟩; have n0_ := Aside0.mk (below_step (by repeat (first | (with_reducible first | exact HB.out | apply below_alloc | apply pw_below_drewN | apply below_drew1) | exact HB.out)) hb); clear HB; have HB := n0_; clear n0_; (try clear hb); (try clear hb2); (try clear hk); (try clear hi); have p15 : 0 ≤ (t139 : Int) := of_decide_eq_true (by first | (with_reducible assumption) | assumption); have q15 : t139 < ((a0.extract 7 a0.size).size : Int) := of_decide_eq_true (by first | (with_reducible assumption) | assumption); (try (have q15m := q15; simp only [ByteArray.size_extract, Nat.min_self] at q15m; replace q15m := eq_true q15m)); have hx15 := bt_at (a0.extract 7 a0.size) t139; replace p15 := eq_true p15; replace q15 := eq_true q15)))
                      go_ret3
                      exact ⟨by first | rfl | (simp [errW_none, errW_some] <;> rfl) | (simp [*, errW_none, errW_some] <;> rfl), by repeat (first | (with_reducible first | exact HB.out | apply below_alloc | apply pw_below_drewN | apply below_drew1) | exact HB.out)⟩
                    · rw [if_neg c21] at H
                      exact absurd H (by simp)
                  · rw [if_neg c18] at H
                    exact absurd H (by simp)
                · rw [if_neg c16] at H
                  have c16b0 : ((bt (a0.extract 7 a0.size) t139) == 63) = false := beq_eq_false_iff_ne.mpr c16
                  have c16b1 : ((bt (a0.extract 7 a0.size) t139) != 63) = true := bne_iff_ne.mpr c16
                  (try (have c16b20 := c16b0; simp only [ByteArray.size_extract] at c16b20))
                  (try (have c16b21 := c16b1; simp only [ByteArray.size_extract] at c16b21))
                  (try (have c16b40 := c16b0; simp only [ByteArray.size_extract, Nat.min_self] at c16b40))
                  (try (have c16b41 := c16b1; simp only [ByteArray.size_extract, Nat.min_self] at c16b41))
                  have c23b0 := eq_true (of_decide_eq_true (by first | (with_reducible assumption) | assumption) : 0 ≤ t139)
                  by_cases c24 : t139 ≤ ((a0.extract 7 a0.size).size : Int)
                  · rw [if_pos c24] at H
                    have c24b0 := eq_true c24
                    have c24b1 : decide (t139 ≤ ((a0.extract 7 a0.size).size : Int)) = true := decide_eq_true c24
                    (try (have c24b20 := c24b0; simp only [ByteArray.size_extract] at c24b20))
                    (try (have c24b21 := c24b1; simp only [ByteArray.size_extract] at c24b21))
                    (try (have c24b40 := c24b0; simp only [ByteArray.size_extract, Nat.min_self] at c24b40))
                    (try (have c24b41 := c24b1; simp only [ByteArray.size_extract, Nat.min_self] at c24b41))
                    clear c24
                    have c25b0 := eq_true (of_decide_eq_true (by first | (with_reducible assumption) | assumption) : 0 ≤ t139)
                    have c26b0 := eq_true (of_decide_eq_true (by first | (with_reducible assumption) | assumption) : t139 ≤ ((a0.extract 7 a0.size).size : Int))
                    simp only [Option.some.injEq, Prod.mk.injEq] at H
                    obtain ⟨rfl, rfl, rfl⟩ := H
                    go_wp2_with (first | (go_at_call 52; (with_reducible refine (strings_IndexAny.calls (a0.extract 7 a0.size) (⟨#[47, 63]⟩ : ByteArray) t139 _ A10.out).mono ?_); rintro e w27 ⟨rfl, hb⟩; have n0_ := Aside0.mk (below_step (by repeat (first | (with_reducible first | exact HB.out | apply below_alloc | apply pw_below_drewN | apply below_drew1) | exact HB.out)) hb); clear HB; have HB := n0_; clear n0_; (try clear hb); (try clear hb2); (try clear hk); (try clear hi); have p15 : 0 ≤ (t139 : Int) := of_decide_eq_true (by first | (with_reducible assumption) | assumption); have q15 : t139 < ((a0.extract 7 a0.size).size : Int) := of_decide_eq_true (by first | (with_reducible assumption) | assumption); (try (have q15m := q15; simp only [ByteArray.size_extract, Nat.min_self] at q15m; replace q15m := eq_true q15m)); have hx15 := bt_at (a0.extract 7 a0.size) t139; replace p15 := eq_true p15; replace q15 := eq_true q15))
                    repeat (go_quiet (first | (go_at_call 52; (with_reducible refine (strings_IndexAny.calls (a0.extract 7 a0.size) (⟨#[47, 63]⟩ : ByteArray) t139 _ A10.out).mono ?_); rintro e w27 ⟨rfl, hb⟩; have n0_ := Aside0.mk (below_step (by repeat (first | (with_reducible first | exact HB.out | apply below_alloc | apply pw_below_drewN | apply below_drew1) | exact HB.out)) hb); clear HB; have HB := n0_; clear n0_; (try clear hb); (try clear hb2); (try clear hk); (try clear hi); have p15 : 0 ≤ (t139 : Int) := of_decide_eq_true (by first | (with_reducible assumption) | assumption); have q15 : t139 < ((a0.extract 7 a0.size).size : Int) := of_decide_eq_true (by first | (with_reducible assumption) | assumption); (try (have q15m := q15; simp only [ByteArray.size_extract, Nat.min_self] at q15m; replace q15m := eq_true q15m)); have hx15 := bt_at (a0.extract 7 a0.size) t139; replace p15 := eq_true p15; replace q15 := eq_true q15)); try go_wp2_with (first | (go_at_call 52; (with_reducible refine (strings_IndexAny.calls (a0.extract 7 a0.size) (⟨#[47, 63]⟩ : ByteArray) t139 _ A10.out).mono ?_); rintro e w27 ⟨rfl, hb⟩; have n0_ := Aside0.mk (below_step (by repeat (first | (with_reducible first | exact HB.out | apply below_alloc | apply pw_below_drewN | apply below_drew1) | exact HB.out)) hb); clear HB; have HB := n0_; clear n0_; (try clear hb); (try clear hb2); (try clear hk); (try clear hi); have p15 : 0 ≤ (t139 : Int) := of_decide_eq_true (by first | (with_reducible assumption) | assumption); have q15 : t139 < ((a0.extract 7 a0.size).size : Int) := of_decide_eq_true (by first | (with_reducible assumption) | assumption); (try (have q15m := q15; simp only [ByteArray.size_extract, Nat.min_self] at q15m; replace q15m := eq_true q15m)); have hx15 := bt_at (a0.extract 7 a0.size) t139; replace p15 := eq_true p15; replace q15 := eq_true q15)))
                    go_ret3
                    exact ⟨by first | rfl | (simp [errW_none, errW_some] <;> rfl) | (simp [*, errW_none, errW_some] <;> rfl), by repeat (first | (with_reducible first | exact HB.out | apply below_alloc | apply pw_below_drewN | apply below_drew1) | exact HB.out)⟩
                  · rw [if_neg c24] at H
                    exact absurd H (by simp)
              · rw [if_neg c14] at H
                exact absurd H (by simp)
            · rw [if_neg c13] at H
              exact absurd H (by simp)
        · rw [if_neg c9] at H
          exact absurd H (by simp)

end Go.Proofs.YtghaocjhmambaaaDoor.PR
