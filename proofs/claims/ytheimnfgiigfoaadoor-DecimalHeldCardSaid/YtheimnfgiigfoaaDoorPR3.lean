-- Out of the translation, by a program of this session: each function that a law comes to as a Lean function, and that the machine's call does what it says. Lean checks it.
import Derived.Test.YtheimnfgiigfoaaDoorPR0
namespace Go.Proofs.YtheimnfgiigfoaaDoor.PR
open Go.RowKit Go.Proofs.YtheimnfgiigfoaaDoorW.PrintWords Go.Proofs.YtheimnfgiigfoaaDoorW.PrintLast Go.Proofs.YtheimnfgiigfoaaDoorW.PrintMore
attribute [local go_sem] max2_int min2_int max_two min_two max_three min_three max_four min_four   -- for this text's walks alone
set_option linter.unusedVariables false
set_option linter.unusedSimpArgs false

/-! ### decimal_read: function 28: told by hand -/
def readGo (s : ByteArray) (base : Int) : Nat → Int → Nat → Option Int
  | 0, acc, _ => some acc
  | k + 1, acc, i => if Hand.dig (bt s i) base < 0 then none else readGo s base k (wrap64 (wrap64 (acc * base) + Hand.dig (bt s i) base)) (i + 1)
def readEnd (most : Int) : Option Int → Int × Int
  | none => (0, 5)
  | some n => if most < n then (0, 3) else (n, 0)
def readP (s : ByteArray) (base long most : Int) : Int × Int := if s.size = 0 then (0, 5) else if long < s.size then (0, 5) else readEnd most (readGo s base s.size 0 0)
def ReadPost (w : World) (p : Int × Int) (e : Ending) (w' : World) : Prop := e = .returned (.tuple #[.int .i64 p.1, .int .i64 p.2]) ∧ Below w.heap.size w w'
set_option maxHeartbeats 800000 in
theorem read_empty (s : ByteArray) (base long most : Int) (w : World) (h : s.toList = []) : Calls Tryd.prog 28 #[.string s, .int .i64 base, .int .i64 long, .int .i64 most] w (ReadPost w (0, 5)) := by
  go_enter Tryd.func28, Tryd.ntmps28
  go_wp2_with fail
  go_ret2
  exact ⟨rfl, Below.refl _ _⟩
set_option maxHeartbeats 800000 in
theorem read_long (s : ByteArray) (base long most : Int) (w : World) (h : (s.toList == []) = false) (hl : long < (s.size : Int)) : Calls Tryd.prog 28 #[.string s, .int .i64 base, .int .i64 long, .int .i64 most] w (ReadPost w (0, 5)) := by
  go_enter Tryd.func28, Tryd.ntmps28
  go_wp2_with fail
  go_ret2
  exact ⟨rfl, Below.refl _ _⟩
set_option maxHeartbeats 1600000 in
theorem read_loop (s : ByteArray) (base long most : Int) (w : World) (hb : 1 ≤ base) (hb2 : base ≤ 16) (hm : (s.size : Int) ≤ 9223372036854775807) (h : (s.toList == []) = false) (hl : (s.size : Int) ≤ long) :
    Calls Tryd.prog 28 #[.string s, .int .i64 base, .int .i64 long, .int .i64 most] w (ReadPost w (readEnd most (readGo s base s.size 0 0))) := by
  go_enter Tryd.func28, Tryd.ntmps28
  go_wp2_with fail
  go_loopw [10] (fun n w' => ∃ (k : Nat) (acc : Int), k ≤ s.size ∧ w' = w.iter s k ∧ n = .int .i64 acc ∧ Hid (readGo s base (s.size - k) acc k = readGo s base s.size 0 0)) (fun _ w' => s.size - w'.iterPos w.heap.size)
  case atStart => exact ⟨0, 0, Nat.zero_le _, rfl, rfl, Lib.hid rfl⟩
  case round =>
    obtain ⟨k, acc, hk, rfl, rfl, HA⟩ := hrel
    by_cases hp : k < s.size
    · have hgo : Hid (readGo s base (s.size - k) acc k = if Hand.dig (bt s k) base < 0 then none else readGo s base (s.size - (k + 1)) (wrap64 (wrap64 (acc * base) + Hand.dig (bt s k) base)) (k + 1)) := by
        have e : s.size - k = (s.size - (k + 1)) + 1 := by omega
        show _ = _
        rw [e, readGo]
      have hbt : ((s[k]'hp).toNat : Int) = bt s k := bt_at s (k : Int) hp
      by_cases hneg : Hand.dig (bt s k) base < 0
      · have hnone : Hid (readGo s base s.size 0 0 = none) := by
          show _ = _
          rw [← HA.out, hgo.out, if_pos hneg]
        clear hgo HA
        obtain ⟨r, p, hr, hnx⟩ : ∃ (r : Int) (p : Nat), Hid (Hand.dig r base < 0) ∧ ∀ ty, (Instr.next (.pointer (some ⟨w.heap.size, 0, none⟩)) true ty).run Tryd.prog (w.iter s k) = .ok (.tuple #[.bool true, .int .i64 k, .int .i32 r]) (w.iter s p) := by
          by_cases ha : (s[k]'hp).toNat < 128
          · refine ⟨bt s k, k + 1, hneg, fun ty => ?_⟩
            rw [run_next_any w s k ty hp, decode_ascii s k hp ha, ← hbt]
          · refine ⟨((Utf8.decode s k).1 : Int), _, ?_, fun ty => run_next_any w s k ty hp⟩
            have := (decode_high s k hp (by omega)).1
            show Hand.dig _ _ < 0
            rw [Hand.dig, Hand.dig0, if_neg (by omega), if_neg (by omega), if_neg (by omega)]
            split <;> omega
        have hdv : Hand.dig r base = -1 := by
          have := hr.out
          unfold Hand.dig at this ⊢
          unfold Hand.dig0 at this ⊢
          repeat' split at this
          all_goals (first | omega | (repeat' split) <;> omega)
        have H := Hand.digit_any r base
        rw [hdv] at H
        clear hdv hneg hbt
        go_wp2_with (go_at_call 30; refine (H _ hb hb2).mono ?_; rintro e w' ⟨rfl, rfl⟩; clear H)
        go_ret2
        exact ⟨by rw [hnone.out]; rfl, Hand.below_iter _ _ _⟩
      · have ha : (s[k]'hp).toNat < 128 := by
          rcases Nat.lt_or_ge (s[k]'hp).toNat 128 with h | h
          · exact h
          · exfalso
            apply hneg
            rw [← hbt, Hand.dig, Hand.dig0, if_neg (by omega), if_neg (by omega), if_neg (by omega)]
            split <;> omega
        have hnx : ∀ ty, (Instr.next (.pointer (some ⟨w.heap.size, 0, none⟩)) true ty).run Tryd.prog (w.iter s k) = .ok (.tuple #[.bool true, .int .i64 k, .int .i32 (bt s k)]) (w.iter s (k + 1)) := by
          intro ty
          rw [run_next_any w s k ty hp, decode_ascii s k hp ha, ← hbt]
        have H := Hand.digit_any (bt s k) base
        have hgo2 : Hid (readGo s base (s.size - (k + 1)) (wrap64 (wrap64 (acc * base) + Hand.dig (bt s k) base)) (k + 1) = readGo s base s.size 0 0) := by
          show _ = _
          rw [← HA.out, hgo.out, if_neg hneg]
        have hd0 : 0 ≤ Hand.dig (bt s k) base := by omega
        clear hgo HA hbt hneg
        generalize Hand.dig (bt s k) base = dg at H hgo2 hd0
        go_wp2_with (go_at_call 30; refine (H _ hb hb2).mono ?_; rintro e w' ⟨rfl, rfl⟩; clear H)
        go_roundw
        case rel => exact ⟨k + 1, _, by omega, rfl, rfl, hgo2⟩
        case measure => simp; omega
    · have hnx : ∀ ty, (Instr.next (.pointer (some ⟨w.heap.size, 0, none⟩)) true ty).run Tryd.prog (w.iter s k) = _ := fun ty => run_next_end w s k ty hp
      have hfin : Hid (readGo s base s.size 0 0 = some acc) := by
        show _ = _
        rw [← HA.out, show s.size - k = 0 by omega]; rfl
      clear HA
      by_cases hgt : most < acc
      · have hE : Hid (readEnd most (some acc) = (0, 3)) := by show _ = _; simp [readEnd, hgt]
        go_wp2
        go_ret2
        exact ⟨by rw [hfin.out, hE.out]; rfl, Hand.below_iter _ _ _⟩
      · have hE : Hid (readEnd most (some acc) = (acc, 0)) := by show _ = _; simp [readEnd, hgt]
        go_wp2
        go_ret2
        exact ⟨by rw [hfin.out, hE.out]; rfl, Hand.below_iter _ _ _⟩
def decimal_read.f (a0 : ByteArray) (a1 : Int) (a2 : Int) (a3 : Int) : Option (Int × Int) := if 1 ≤ a1 ∧ a1 ≤ 16 ∧ a0.size ≤ 9223372036854775807 then some (readP a0 a1 a2 a3) else none
theorem decimal_read.calls (a0 : ByteArray) (a1 : Int) (a2 : Int) (a3 : Int) (r1 : Int) (r2 : Int) (w : World) (h : decimal_read.f a0 a1 a2 a3 = some (r1, r2)) :
    Calls Tryd.prog 28 #[.string a0, .int .i64 a1, .int .i64 a2, .int .i64 a3] w fun e w' => e = .returned (.tuple #[.int .i64 r1, .int .i64 r2]) ∧ Below w.heap.size w w' := by
  unfold decimal_read.f at h
  split at h
  case isFalse => cases h
  case isTrue hs =>
    obtain ⟨h1, h2, h3⟩ := hs
    have e := Option.some.inj h
    have fin : Calls Tryd.prog 28 #[.string a0, .int .i64 a1, .int .i64 a2, .int .i64 a3] w (ReadPost w (readP a0 a1 a2 a3)) := by
      unfold readP
      by_cases c1 : a0.size = 0
      · rw [if_pos c1]
        exact read_empty a0 a1 a2 a3 w (by rw [ByteArray.toList_eq]; exact List.eq_nil_of_length_eq_zero (by rw [data_length]; exact c1))
      · rw [if_neg c1]
        have hne : (a0.toList == []) = false := by
          rw [ByteArray.toList_eq]
          have : a0.data.toList ≠ [] := fun e => c1 (by rw [← data_length, e]; rfl)
          simpa using this
        by_cases c2 : a2 < a0.size
        · rw [if_pos c2]
          exact read_long a0 a1 a2 a3 w hne c2
        · rw [if_neg c2]
          exact read_loop a0 a1 a2 a3 w h1 h2 (by omega) hne (by omega)
    rw [e] at fin
    exact fin

/-! ### decimal_Number: function 15 -/
def decimal_Number.f (a0 : ByteArray) (a1 : Int) : Option (Int × Int) := (decimal_read.f a0 10 18 a1).bind fun bt114 => (some (bt114.1, bt114.2))
set_option maxHeartbeats 8000000 in
set_option maxRecDepth 100000 in
theorem decimal_Number.calls (a0 : ByteArray) (a1 : Int) (r1 : Int) (r2 : Int) (w : World) (h : decimal_Number.f a0 a1 = some (r1, r2)) :
    Calls Tryd.prog 15 #[.string a0, .int .i64 a1] w fun e w' => e = .returned (.tuple #[.int .i64 r1, .int .i64 r2]) ∧ Below w.heap.size w w' := by
  have HB := Aside0.mk (Below.refl w.heap.size w)
  have H : ((decimal_read.f a0 10 18 a1).bind fun bt114 => (some (bt114.1, bt114.2))) = some (r1, r2) := h
  clear h
  replace H := Option.bind_eq_some_iff.mp H
  obtain ⟨⟨t114, t115⟩, A30, H⟩ := H
  replace H : (some (t114, t115)) = some (r1, r2) := H
  have A3 := Aside0.mk A30
  clear A30
  simp only [Option.some.injEq, Prod.mk.injEq] at H
  obtain ⟨rfl, rfl⟩ := H
  go_enter Tryd.func15, Tryd.ntmps15
  go_wp2_with (first | ((with_reducible refine gate_callee (f := 28) rfl ?_); refine goesL_ (some 8) rfl rfl Tryd.func28 (by kernel_rfl) rfl #[.string a0, .int .i64 10, .int .i64 18, .int .i64 a1] rfl (by (try simp only [List.map_toArray, List.map_cons, List.map_nil]); first | done | rfl | (simp only [List.length_drop, List.length_take]; rfl)) ?_; (with_reducible refine (decimal_read.calls a0 10 18 a1 t114 t115 _ A3.out).mono ?_); rintro e w4 ⟨rfl, hb⟩; refine ⟨_, rfl, ?_⟩; have n0_ := Aside0.mk (below_step (by repeat (first | (with_reducible first | exact HB.out | apply below_alloc | apply pw_below_drewN | apply below_drew1) | exact HB.out)) hb); clear HB; have HB := n0_; clear n0_; (try clear hb); (try clear hb2); (try clear hk); (try clear hi)))
  go_ret2
  exact ⟨by first | rfl | (simp [errW_none, errW_some] <;> rfl) | (simp [*, errW_none, errW_some] <;> rfl), by repeat (first | (with_reducible first | exact HB.out | apply below_alloc | apply pw_below_drewN | apply below_drew1) | exact HB.out)⟩

/-! ### decimal_ReadHex: function 17 -/
def decimal_ReadHex.f (a0 : ByteArray) (a1 : Int) : Option (Int × Int) := (decimal_read.f a0 16 15 a1).bind fun bt116 => (some (bt116.1, bt116.2))
set_option maxHeartbeats 8000000 in
set_option maxRecDepth 100000 in
theorem decimal_ReadHex.calls (a0 : ByteArray) (a1 : Int) (r1 : Int) (r2 : Int) (w : World) (h : decimal_ReadHex.f a0 a1 = some (r1, r2)) :
    Calls Tryd.prog 17 #[.string a0, .int .i64 a1] w fun e w' => e = .returned (.tuple #[.int .i64 r1, .int .i64 r2]) ∧ Below w.heap.size w w' := by
  have HB := Aside0.mk (Below.refl w.heap.size w)
  have H : ((decimal_read.f a0 16 15 a1).bind fun bt116 => (some (bt116.1, bt116.2))) = some (r1, r2) := h
  clear h
  replace H := Option.bind_eq_some_iff.mp H
  obtain ⟨⟨t116, t117⟩, A30, H⟩ := H
  replace H : (some (t116, t117)) = some (r1, r2) := H
  have A3 := Aside0.mk A30
  clear A30
  simp only [Option.some.injEq, Prod.mk.injEq] at H
  obtain ⟨rfl, rfl⟩ := H
  go_enter Tryd.func17, Tryd.ntmps17
  go_wp2_with (first | ((with_reducible refine gate_callee (f := 28) rfl ?_); refine goesL_ (some 8) rfl rfl Tryd.func28 (by kernel_rfl) rfl #[.string a0, .int .i64 16, .int .i64 15, .int .i64 a1] rfl (by (try simp only [List.map_toArray, List.map_cons, List.map_nil]); first | done | rfl | (simp only [List.length_drop, List.length_take]; rfl)) ?_; (with_reducible refine (decimal_read.calls a0 16 15 a1 t116 t117 _ A3.out).mono ?_); rintro e w4 ⟨rfl, hb⟩; refine ⟨_, rfl, ?_⟩; have n0_ := Aside0.mk (below_step (by repeat (first | (with_reducible first | exact HB.out | apply below_alloc | apply pw_below_drewN | apply below_drew1) | exact HB.out)) hb); clear HB; have HB := n0_; clear n0_; (try clear hb); (try clear hb2); (try clear hk); (try clear hi)))
  go_ret2
  exact ⟨by first | rfl | (simp [errW_none, errW_some] <;> rfl) | (simp [*, errW_none, errW_some] <;> rfl), by repeat (first | (with_reducible first | exact HB.out | apply below_alloc | apply pw_below_drewN | apply below_drew1) | exact HB.out)⟩

/-! ### decimal_least: function 31 -/
def decimal_least.l0 : Nat → Int → List Int → Int → Int → Option (Int)
  | 0, _, _, _, _ => none
  | k + 1, x0, x7, x8, x9 => if x9 < x8 then (if 0 ≤ x9 then (if x9 < (x7.length : Int) then (if (rd x7 x9) < x0 then (decimal_least.l0 k (rd x7 x9) x7 x8 (wrap64 (x9 + 1))) else (decimal_least.l0 k x0 x7 x8 (wrap64 (x9 + 1)))) else (none)) else (none)) else (some x0)
def decimal_least.f (k : Nat) (a0 : Int) (l1 : List Int) : Option (Int) := decimal_least.l0 k a0 l1 (l1.length : Int) 0
theorem decimal_least.mono_l : ∀ k, (∀ y0 y1 y2 y3, LeO (decimal_least.l0 k y0 y1 y2 y3) (decimal_least.l0 (k + 1) y0 y1 y2 y3))
  | 0 => fun _ _ _ _ r h => by simp [decimal_least.l0] at h
  | k + 1 => by
    have ih0 := decimal_least.mono_l k
    · intro y0 y1 y2 y3
      unfold decimal_least.l0
      repeat' first
      | (with_reducible exact ih0 _ _ _ _)
      | (with_reducible exact LeO.refl _)
      | (with_reducible exact LeO.none _)
      | (with_reducible refine LeO.ite ?_ ?_)
      | (with_reducible refine LeO.bind ?_ (fun _ => ?_))
      | exact ih0 _ _ _ _
      | exact LeO.none _
      | refine LeO.ite ?_ ?_
      | refine LeO.bind ?_ (fun _ => ?_)
theorem decimal_least.mono : ∀ a0 a1 k, LeO (decimal_least.f k a0 a1) (decimal_least.f (k + 1) a0 a1) := by
  intro a0 a1 k
  have ih0 := decimal_least.mono_l k
  unfold decimal_least.f
  repeat' first
      | (with_reducible exact ih0 _ _ _ _)
      | (with_reducible exact LeO.refl _)
      | (with_reducible exact LeO.none _)
      | (with_reducible refine LeO.ite ?_ ?_)
      | (with_reducible refine LeO.bind ?_ (fun _ => ?_))
      | exact ih0 _ _ _ _
      | exact LeO.none _
      | refine LeO.ite ?_ ?_
      | refine LeO.bind ?_ (fun _ => ?_)
set_option maxHeartbeats 8000000 in
set_option maxRecDepth 100000 in
theorem decimal_least.calls (k : Nat) (a0 : Int) (A1 : Option Addr) (c1 : Nat) (l1 : List Int) (r : Int) (w : World) (hr1 : Kd.C (Kd.int .i64) w A1 l1.length l1) (hc1 : l1.length ≤ c1) (h : decimal_least.f k a0 l1 = some r) :
    Calls Tryd.prog 31 #[.int .i64 a0, .slice A1 l1.length c1] w fun e w' => e = .returned (.int .i64 r) ∧ Drawn0 w w' := by
  have HR1 := Aside0.mk hr1
  have HC1 := Aside0.mk hc1
  clear hr1 hc1
  have H : (decimal_least.l0 k a0 l1 (l1.length : Int) 0) = some r := h
  clear h
  have H' := Aside0.mk H
  clear H
  go_enter Tryd.func31, Tryd.ntmps31
  go_wp2
  go_loopg [0, 9] k (fun kq v0 v9 w' => ∃ (x0_1 : Int) (x9_1 : Int), v0 = .int .i64 x0_1 ∧ v9 = .int .i64 x9_1 ∧ Aside0 (decimal_least.l0 kq x0_1 l1 (l1.length : Int) x9_1 = some r) ∧ Aside0 (kq ≤ k) ∧ Drawn0 w w')
  case atStart => exact ⟨(a0), (0), (by first | rfl | (simp; done) | (simp [*]; done)), (by first | rfl | (simp; done) | (simp [*]; done)), H', ⟨Nat.le_refl _⟩, by repeat (first | exact Drawn0.refl _ | apply Drawn0.step)⟩
  case round =>
    clear H'
    try clear c1
    try clear p2
    obtain ⟨x0_1, x9_1, rfl, rfl, HA, HK1, ⟨m1, rfl⟩⟩ := hrel
    cases gk with
    | zero => exact absurd HA.out (by simp [decimal_least.l0])
    | succ k1 =>
      have H := HA.out
      clear HA
      simp only [decimal_least.l0] at H
      by_cases c3 : x9_1 < (l1.length : Int)
      · rw [if_pos c3] at H
        have c3b0 : decide (x9_1 < (l1.length : Int)) = true := decide_eq_true c3
        clear c3
        by_cases c4 : 0 ≤ x9_1
        · rw [if_pos c4] at H
          have c4b0 : decide (0 ≤ x9_1) = true := decide_eq_true c4
          clear c4
          by_cases c5 : x9_1 < (l1.length : Int)
          · rw [if_pos c5] at H
            have c5b0 : decide (x9_1 < (l1.length : Int)) = true := decide_eq_true c5
            clear c5
            by_cases c6 : (rd l1 x9_1) < x0_1
            · rw [if_pos c6] at H
              have c6b0 : decide ((rd l1 x9_1) < x0_1) = true := decide_eq_true c6
              clear c6
              have H' := Aside0.mk H
              clear H
              have p118 : 0 ≤ (x9_1 : Int) := of_decide_eq_true (by first | (with_reducible assumption) | assumption)
              have q118 : x9_1 < (l1.length : Int) := of_decide_eq_true (by first | (with_reducible assumption) | assumption)
              obtain ⟨ad118, e118, hx118_0⟩ := Kd.at_int HR1.out x9_1 p118 q118
              cases e118
              replace p118 := eq_true p118
              replace q118 := eq_true q118
              go_wp2
              go_roundg k1
              case measure => have := HK1.out; omega
              case rel => exact ⟨(rd l1 x9_1), (wrap64 (x9_1 + 1)), (by first | rfl | (simp; done) | (simp [*]; done)), (by first | rfl | (simp; done) | (simp [*]; done)), H', ⟨by have := HK1.out; omega⟩, by repeat (first | exact Drawn0.refl _ | apply Drawn0.step)⟩
            · rw [if_neg c6] at H
              have c6b0 : decide ((rd l1 x9_1) < x0_1) = false := decide_eq_false c6
              clear c6
              have H' := Aside0.mk H
              clear H
              have p118 : 0 ≤ (x9_1 : Int) := of_decide_eq_true (by first | (with_reducible assumption) | assumption)
              have q118 : x9_1 < (l1.length : Int) := of_decide_eq_true (by first | (with_reducible assumption) | assumption)
              obtain ⟨ad118, e118, hx118_0⟩ := Kd.at_int HR1.out x9_1 p118 q118
              cases e118
              replace p118 := eq_true p118
              replace q118 := eq_true q118
              go_wp2
              go_roundg k1
              case measure => have := HK1.out; omega
              case rel => exact ⟨(x0_1), (wrap64 (x9_1 + 1)), (by first | rfl | (simp; done) | (simp [*]; done)), (by first | rfl | (simp; done) | (simp [*]; done)), H', ⟨by have := HK1.out; omega⟩, by repeat (first | exact Drawn0.refl _ | apply Drawn0.step)⟩
          · rw [if_neg c5] at H
            exact absurd H (by simp)
        · rw [if_neg c4] at H
          exact absurd H (by simp)
      · rw [if_neg c3] at H
        have c3b0 : decide (x9_1 < (l1.length : Int)) = false := decide_eq_false c3
        clear c3
        obtain rfl := Option.some.inj H
        go_wp2
        go_ret
        exact ⟨by first | rfl | (simp; done) | (simp [*]; done), by repeat (first | exact Drawn0.refl _ | apply Drawn0.step)⟩

/-! ### decimal_Seconds: function 19: told by hand -/
def leastI (a b : Int) : Int := if b < a then b else a
theorem least_one (a b : Int) : decimal_least.f 2 a [b] = some (leastI a b) := by
  unfold decimal_least.f leastI
  rw [show (([b] : List Int).length : Int) = 1 from rfl, decimal_least.l0, if_pos (by decide), if_pos (by decide), if_pos (by simp)]
  have h1 : wrap64 (0 + 1) = 1 := IntWalk.wrap64_in _ (by omega)
  have h0 : rd [b] 0 = b := rfl
  rw [h0, h1]
  by_cases h : b < a
  · rw [if_pos h, if_pos h, decimal_least.l0, if_neg (by decide)]
  · rw [if_neg h, if_neg h, decimal_least.l0, if_neg (by decide)]
def secGo (s : ByteArray) : Nat → Int → Nat → Option Int
  | 0, acc, _ => some acc
  | k + 1, acc, i => if Hand.dig (bt s i) 10 < 0 then none else secGo s k (leastI (wrap64 (wrap64 (acc * 10) + Hand.dig (bt s i) 10)) 2147483648) (i + 1)
def secEnd (s : ByteArray) : Option Int → Int × Bool
  | none => (0, false)
  | some n => (n, !(s.toList == []))
def secP (s : ByteArray) : Int × Bool := secEnd s (secGo s s.size 0 0)
def SecPost (w : World) (p : Int × Bool) (e : Ending) (w' : World) : Prop := e = .returned (.tuple #[.int .i64 p.1, .bool p.2]) ∧ Below w.heap.size w w'
set_option maxHeartbeats 1600000 in
theorem sec_loop (s : ByteArray) (w : World) (hm : (s.size : Int) ≤ 9223372036854775807) :
    Calls Tryd.prog 19 #[.string s] w (SecPost w (secP s)) := by
  go_enter Tryd.func19, Tryd.ntmps19
  go_wp2_with fail
  go_loopw [4] (fun n w' => ∃ (k : Nat) (acc : Int), k ≤ s.size ∧ n = .int .i64 acc ∧ Hid (secGo s (s.size - k) acc k = secGo s s.size 0 0) ∧ Hid (w'.heap[w.heap.size]? = some (.stringIter s k)) ∧ Hid (Below w.heap.size w w')) (fun _ w' => s.size - w'.iterPos w.heap.size)
  case atStart => exact ⟨0, 0, Nat.zero_le _, rfl, Lib.hid rfl, Lib.hid (World.iter_heap w s 0), Lib.hid (Hand.below_iter w s 0)⟩
  case round =>
    obtain ⟨k, acc, hk, rfl, HA, HI, HB⟩ := hrel
    have hpos : wr.iterPos w.heap.size = k := by simp [World.iterPos, HI.out]
    by_cases hp : k < s.size
    · have hgo : Hid (secGo s (s.size - k) acc k = if Hand.dig (bt s k) 10 < 0 then none else secGo s (s.size - (k + 1)) (leastI (wrap64 (wrap64 (acc * 10) + Hand.dig (bt s k) 10)) 2147483648) (k + 1)) := by
        have e : s.size - k = (s.size - (k + 1)) + 1 := by omega
        show _ = _
        rw [e, secGo]
      have hbt : ((s[k]'hp).toNat : Int) = bt s k := bt_at s (k : Int) hp
      by_cases hneg : Hand.dig (bt s k) 10 < 0
      · have hnone : Hid (secGo s s.size 0 0 = none) := by
          show _ = _
          rw [← HA.out, hgo.out, if_pos hneg]
        clear hgo HA
        obtain ⟨r, p, hr, hnx⟩ : ∃ (r : Int) (p : Nat), Hid (Hand.dig r 10 < 0) ∧ ∀ ty, (Instr.next (.pointer (some ⟨w.heap.size, 0, none⟩)) true ty).run Tryd.prog wr = .ok (.tuple #[.bool true, .int .i64 k, .int .i32 r]) (wr.iterAt w.heap.size s p) := by
          by_cases ha : (s[k]'hp).toNat < 128
          · refine ⟨bt s k, k + 1, hneg, fun ty => ?_⟩
            rw [Lib.run_next_any_at wr _ s k ty HI.out hp, decode_ascii s k hp ha, ← hbt]
          · refine ⟨((Utf8.decode s k).1 : Int), _, ?_, fun ty => Lib.run_next_any_at wr _ s k ty HI.out hp⟩
            have := (decode_high s k hp (by omega)).1
            show Hand.dig _ _ < 0
            rw [Hand.dig, Hand.dig0, if_neg (by omega), if_neg (by omega), if_neg (by omega)]
            split <;> omega
        have hdv : Hand.dig r 10 = -1 := by
          have := hr.out
          unfold Hand.dig at this ⊢
          unfold Hand.dig0 at this ⊢
          repeat' split at this
          all_goals (first | omega | (repeat' split) <;> omega)
        have H := fun w => Hand.digit_any r 10 w (by decide) (by decide)
        rw [hdv] at H
        clear hdv hneg hbt hpos
        go_wp2_with (go_at_call 30; refine (H _).mono ?_; rintro e w' ⟨rfl, rfl⟩; clear H)
        go_ret2
        exact ⟨by unfold secP; rw [hnone.out]; rfl, Hand.below_iterAt HB.out _ (Nat.le_refl _) _ _⟩
      · have ha : (s[k]'hp).toNat < 128 := by
          rcases Nat.lt_or_ge (s[k]'hp).toNat 128 with h | h
          · exact h
          · exfalso
            apply hneg
            rw [← hbt, Hand.dig, Hand.dig0, if_neg (by omega), if_neg (by omega), if_neg (by omega)]
            split <;> omega
        have hnx : ∀ ty, (Instr.next (.pointer (some ⟨w.heap.size, 0, none⟩)) true ty).run Tryd.prog wr = .ok (.tuple #[.bool true, .int .i64 k, .int .i32 (bt s k)]) (wr.iterAt w.heap.size s (k + 1)) := by
          intro ty
          rw [Lib.run_next_any_at wr _ s k ty HI.out hp, decode_ascii s k hp ha, ← hbt]
        have H := fun w => Hand.digit_any (bt s k) 10 w (by decide) (by decide)
        have hgo2 : Hid (secGo s (s.size - (k + 1)) (leastI (wrap64 (wrap64 (acc * 10) + Hand.dig (bt s k) 10)) 2147483648) (k + 1) = secGo s s.size 0 0) := by
          show _ = _
          rw [← HA.out, hgo.out, if_neg hneg]
        have hd0 : 0 ≤ Hand.dig (bt s k) 10 := by omega
        clear hgo HA hbt hneg
        have hlt : w.heap.size < wr.heap.size := (Array.getElem?_eq_some_iff.1 HI.out).1
        have HB2 : Hid (Below w.heap.size w (wr.iterAt w.heap.size s (k + 1))) := Lib.hid (Hand.below_iterAt HB.out _ (Nat.le_refl _) _ _)
        have HI2 : Hid ((wr.iterAt w.heap.size s (k + 1)).heap[w.heap.size]? = some (.stringIter s (k + 1))) := Lib.hid (Hand.iterAt_at _ _ _ _ hlt)
        have HS2 : Hid (w.heap.size < (wr.iterAt w.heap.size s (k + 1)).heap.size) := by show _ < _; rw [Hand.iterAt_size]; exact hlt
        clear HB HI
        generalize Hand.dig (bt s k) 10 = dg at H hgo2 hd0
        generalize wr.iterAt w.heap.size s (k + 1) = w2 at hnx HB2 HI2 HS2
        go_wp2_with (first | (go_at_call 30; refine (H _).mono ?_; rintro e w' ⟨rfl, rfl⟩; clear H) | (go_at_call 31; refine (decimal_least.calls 2 _ (some ⟨_, 0, none⟩) 1 [2147483648] _ _ (Hand.one_read _ _ _ _) (by decide) (least_one _ _)).mono ?_; rintro e w' ⟨rfl, ⟨nd, rfl⟩⟩))
        go_roundw
        case rel =>
          refine ⟨k + 1, _, by omega, rfl, hgo2, ?_, ?_⟩
          · show _ = _
            rw [World.heap_drewN, Below.heap_alloc _ _ _ HS2.out]
            exact HI2.out
          · exact Lib.hid (pw_below_drewN (HB2.out.alloc (Nat.le_of_lt HS2.out) _) _)
        case measure =>
          have e2 : ∀ x : World, x.heap[w.heap.size]? = some (.stringIter s (k + 1)) → x.iterPos w.heap.size = k + 1 := fun x hx => by simp [World.iterPos, hx]
          rw [hpos, e2 _ (by rw [World.heap_drewN, Below.heap_alloc _ _ _ HS2.out]; exact HI2.out)]
          omega
    · have hnx : ∀ ty, (Instr.next (.pointer (some ⟨w.heap.size, 0, none⟩)) true ty).run Tryd.prog wr = _ := fun ty => Lib.run_next_end_at wr _ s k ty HI.out hp
      have hfin : Hid (secGo s s.size 0 0 = some acc) := by
        show _ = _
        rw [← HA.out, show s.size - k = 0 by omega]; rfl
      clear HA hpos
      go_wp2
      go_ret2
      exact ⟨by unfold secP; rw [hfin.out]; first | rfl | simp [secEnd], HB.out⟩
def decimal_Seconds.f (a0 : ByteArray) : Option (Int × Bool) := if a0.size ≤ 9223372036854775807 then some (secP a0) else none
theorem decimal_Seconds.calls (a0 : ByteArray) (r1 : Int) (r2 : Bool) (w : World) (h : decimal_Seconds.f a0 = some (r1, r2)) :
    Calls Tryd.prog 19 #[.string a0] w fun e w' => e = .returned (.tuple #[.int .i64 r1, .bool r2]) ∧ Below w.heap.size w w' := by
  unfold decimal_Seconds.f at h
  split at h
  case isFalse => cases h
  case isTrue hs =>
    have e := Option.some.inj h
    have fin := sec_loop a0 w (by omega)
    rw [e] at fin
    exact fin

end Go.Proofs.YtheimnfgiigfoaaDoor.PR
