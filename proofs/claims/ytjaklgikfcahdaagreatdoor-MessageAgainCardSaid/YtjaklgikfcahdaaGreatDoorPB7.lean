-- Out of the translation, by a program of this session: each function that a law comes to as a Lean function, and that the machine's call does what it says. Lean checks it.
import Derived.Test.YtjaklgikfcahdaaGreatDoorPB0
namespace Go.Proofs.YtjaklgikfcahdaaGreatDoor.PB
open Go.RowKit Go.Proofs.YtjaklgikfcahdaaGreatDoorW.PrintWords Go.Proofs.YtjaklgikfcahdaaGreatDoorW.PrintLast Go.Proofs.YtjaklgikfcahdaaGreatDoorW.PrintMore
attribute [local go_sem] max2_int min2_int max_two min_two max_three min_three max_four min_four   -- for this text's walks alone
set_option linter.unusedVariables false
set_option linter.unusedSimpArgs false

/-! ### decimal_read: function 107: told by hand -/
def readGo (s : ByteArray) (base : Int) : Nat → Int → Nat → Option Int
  | 0, acc, _ => some acc
  | k + 1, acc, i => if Hand.dig (bt s i) base < 0 then none else readGo s base k (wrap64 (wrap64 (acc * base) + Hand.dig (bt s i) base)) (i + 1)
def readEnd (most : Int) : Option Int → Int × Int
  | none => (0, 5)
  | some n => if most < n then (0, 3) else (n, 0)
def readP (s : ByteArray) (base long most : Int) : Int × Int := if s.size = 0 then (0, 5) else if long < s.size then (0, 5) else readEnd most (readGo s base s.size 0 0)
def ReadPost (w : World) (p : Int × Int) (e : Ending) (w' : World) : Prop := e = .returned (.tuple #[.int .i64 p.1, .int .i64 p.2]) ∧ Below w.heap.size w w'
set_option maxHeartbeats 800000 in
theorem read_empty (s : ByteArray) (base long most : Int) (w : World) (h : s.toList = []) : Calls Tryz.prog 107 #[.string s, .int .i64 base, .int .i64 long, .int .i64 most] w (ReadPost w (0, 5)) := by
  go_enter Tryz.func107, Tryz.ntmps107
  go_wp2_with fail
  go_ret2
  exact ⟨rfl, Below.refl _ _⟩
set_option maxHeartbeats 800000 in
theorem read_long (s : ByteArray) (base long most : Int) (w : World) (h : (s.toList == []) = false) (hl : long < (s.size : Int)) : Calls Tryz.prog 107 #[.string s, .int .i64 base, .int .i64 long, .int .i64 most] w (ReadPost w (0, 5)) := by
  go_enter Tryz.func107, Tryz.ntmps107
  go_wp2_with fail
  go_ret2
  exact ⟨rfl, Below.refl _ _⟩
set_option maxHeartbeats 1600000 in
theorem read_loop (s : ByteArray) (base long most : Int) (w : World) (hb : 1 ≤ base) (hb2 : base ≤ 16) (hm : (s.size : Int) ≤ 9223372036854775807) (h : (s.toList == []) = false) (hl : (s.size : Int) ≤ long) :
    Calls Tryz.prog 107 #[.string s, .int .i64 base, .int .i64 long, .int .i64 most] w (ReadPost w (readEnd most (readGo s base s.size 0 0))) := by
  go_enter Tryz.func107, Tryz.ntmps107
  go_wp2_with fail
  go_loopw [10] (fun n w' => ∃ (k : Nat) (acc : Int), k ≤ s.size ∧ w' = w.iter s k ∧ n = .int .i64 acc ∧ Hid (readGo s base (s.size - k) acc k = readGo s base s.size 0 0)) (fun _ w' => s.size - w'.iterPos w.heap.size)
  case atStart => exact ⟨0, 0, Nat.zero_le _, rfl, rfl, Lib.hid rfl⟩
  case round =>
    obtain ⟨k, acc, hk, rfl, rfl, HA⟩ := hrel
    by_cases hp : k < s.size
    · have hgo : Hid (readGo s base (s.size - k) acc k = if Hand.dig (bt s k) base < 0 then none else readGo s base (s.size - (k + 1)) (wrap64 (wrap64 (acc * base) + Hand.dig (bt s k) base)) (k + 1)) := by
        have e : s.size - k = (s.size - (k + 1)) + 1 := by omega
        show _ = _
        rw [e, readGo]
      have hbt : ((s[k]'hp).toNat : Int) = bt s k := bt_at s (k : Int) hp
      by_cases hneg : Hand.dig (bt s k) base < 0
      · have hnone : Hid (readGo s base s.size 0 0 = none) := by
          show _ = _
          rw [← HA.out, hgo.out, if_pos hneg]
        clear hgo HA
        obtain ⟨r, p, hr, hnx⟩ : ∃ (r : Int) (p : Nat), Hid (Hand.dig r base < 0) ∧ ∀ ty, (Instr.next (.pointer (some ⟨w.heap.size, 0, none⟩)) true ty).run Tryz.prog (w.iter s k) = .ok (.tuple #[.bool true, .int .i64 k, .int .i32 r]) (w.iter s p) := by
          by_cases ha : (s[k]'hp).toNat < 128
          · refine ⟨bt s k, k + 1, hneg, fun ty => ?_⟩
            rw [run_next_any w s k ty hp, decode_ascii s k hp ha, ← hbt]
          · refine ⟨((Utf8.decode s k).1 : Int), _, ?_, fun ty => run_next_any w s k ty hp⟩
            have := (decode_high s k hp (by omega)).1
            show Hand.dig _ _ < 0
            rw [Hand.dig, Hand.dig0, if_neg (by omega), if_neg (by omega), if_neg (by omega)]
            split <;> omega
        have hdv : Hand.dig r base = -1 := by
          have := hr.out
          unfold Hand.dig at this ⊢
          unfold Hand.dig0 at this ⊢
          repeat' split at this
          all_goals (first | omega | (repeat' split) <;> omega)
        have H := Hand.digit_any r base
        rw [hdv] at H
        clear hdv hneg hbt
        go_wp2_with (go_at_call 134; refine (H _ hb hb2).mono ?_; rintro e w' ⟨rfl, rfl⟩; clear H)
        go_ret2
        exact ⟨by rw [hnone.out]; rfl, Hand.below_iter _ _ _⟩
      · have ha : (s[k]'hp).toNat < 128 := by
          rcases Nat.lt_or_ge (s[k]'hp).toNat 128 with h | h
          · exact h
          · exfalso
            apply hneg
            rw [← hbt, Hand.dig, Hand.dig0, if_neg (by omega), if_neg (by omega), if_neg (by omega)]
            split <;> omega
        have hnx : ∀ ty, (Instr.next (.pointer (some ⟨w.heap.size, 0, none⟩)) true ty).run Tryz.prog (w.iter s k) = .ok (.tuple #[.bool true, .int .i64 k, .int .i32 (bt s k)]) (w.iter s (k + 1)) := by
          intro ty
          rw [run_next_any w s k ty hp, decode_ascii s k hp ha, ← hbt]
        have H := Hand.digit_any (bt s k) base
        have hgo2 : Hid (readGo s base (s.size - (k + 1)) (wrap64 (wrap64 (acc * base) + Hand.dig (bt s k) base)) (k + 1) = readGo s base s.size 0 0) := by
          show _ = _
          rw [← HA.out, hgo.out, if_neg hneg]
        have hd0 : 0 ≤ Hand.dig (bt s k) base := by omega
        clear hgo HA hbt hneg
        generalize Hand.dig (bt s k) base = dg at H hgo2 hd0
        go_wp2_with (go_at_call 134; refine (H _ hb hb2).mono ?_; rintro e w' ⟨rfl, rfl⟩; clear H)
        go_roundw
        case rel => exact ⟨k + 1, _, by omega, rfl, rfl, hgo2⟩
        case measure => simp; omega
    · have hnx : ∀ ty, (Instr.next (.pointer (some ⟨w.heap.size, 0, none⟩)) true ty).run Tryz.prog (w.iter s k) = _ := fun ty => run_next_end w s k ty hp
      have hfin : Hid (readGo s base s.size 0 0 = some acc) := by
        show _ = _
        rw [← HA.out, show s.size - k = 0 by omega]; rfl
      clear HA
      by_cases hgt : most < acc
      · have hE : Hid (readEnd most (some acc) = (0, 3)) := by show _ = _; simp [readEnd, hgt]
        go_wp2
        go_ret2
        exact ⟨by rw [hfin.out, hE.out]; rfl, Hand.below_iter _ _ _⟩
      · have hE : Hid (readEnd most (some acc) = (acc, 0)) := by show _ = _; simp [readEnd, hgt]
        go_wp2
        go_ret2
        exact ⟨by rw [hfin.out, hE.out]; rfl, Hand.below_iter _ _ _⟩
def decimal_read.f (a0 : ByteArray) (a1 : Int) (a2 : Int) (a3 : Int) : Option (Int × Int) := if 1 ≤ a1 ∧ a1 ≤ 16 ∧ a0.size ≤ 9223372036854775807 then some (readP a0 a1 a2 a3) else none
theorem decimal_read.calls (a0 : ByteArray) (a1 : Int) (a2 : Int) (a3 : Int) (r1 : Int) (r2 : Int) (w : World) (h : decimal_read.f a0 a1 a2 a3 = some (r1, r2)) :
    Calls Tryz.prog 107 #[.string a0, .int .i64 a1, .int .i64 a2, .int .i64 a3] w fun e w' => e = .returned (.tuple #[.int .i64 r1, .int .i64 r2]) ∧ Below w.heap.size w w' := by
  unfold decimal_read.f at h
  split at h
  case isFalse => cases h
  case isTrue hs =>
    obtain ⟨h1, h2, h3⟩ := hs
    have e := Option.some.inj h
    have fin : Calls Tryz.prog 107 #[.string a0, .int .i64 a1, .int .i64 a2, .int .i64 a3] w (ReadPost w (readP a0 a1 a2 a3)) := by
      unfold readP
      by_cases c1 : a0.size = 0
      · rw [if_pos c1]
        exact read_empty a0 a1 a2 a3 w (by rw [ByteArray.toList_eq]; exact List.eq_nil_of_length_eq_zero (by rw [data_length]; exact c1))
      · rw [if_neg c1]
        have hne : (a0.toList == []) = false := by
          rw [ByteArray.toList_eq]
          have : a0.data.toList ≠ [] := fun e => c1 (by rw [← data_length, e]; rfl)
          simpa using this
        by_cases c2 : a2 < a0.size
        · rw [if_pos c2]
          exact read_long a0 a1 a2 a3 w hne c2
        · rw [if_neg c2]
          exact read_loop a0 a1 a2 a3 w h1 h2 (by omega) hne (by omega)
    rw [e] at fin
    exact fin

/-! ### decimal_Number: function 75 -/
def decimal_Number.f (a0 : ByteArray) (a1 : Int) : Option (Int × Int) := (decimal_read.f a0 10 18 a1).bind fun bt129 => (some (bt129.1, bt129.2))
set_option maxHeartbeats 8000000 in
set_option maxRecDepth 100000 in
theorem decimal_Number.calls (a0 : ByteArray) (a1 : Int) (r1 : Int) (r2 : Int) (w : World) (h : decimal_Number.f a0 a1 = some (r1, r2)) :
    Calls Tryz.prog 75 #[.string a0, .int .i64 a1] w fun e w' => e = .returned (.tuple #[.int .i64 r1, .int .i64 r2]) ∧ Below w.heap.size w w' := by
  have HB := Aside0.mk (Below.refl w.heap.size w)
  have H : ((decimal_read.f a0 10 18 a1).bind fun bt129 => (some (bt129.1, bt129.2))) = some (r1, r2) := h
  clear h
  replace H := Option.bind_eq_some_iff.mp H
  obtain ⟨⟨t129, t130⟩, A30, H⟩ := H
  replace H : (some (t129, t130)) = some (r1, r2) := H
  have A3 := Aside0.mk A30
  clear A30
  simp only [Option.some.injEq, Prod.mk.injEq] at H
  obtain ⟨rfl, rfl⟩ := H
  go_enter Tryz.func75, Tryz.ntmps75
  go_wp2_with (first | ((with_reducible refine gate_callee (f := 107) rfl ?_); refine goesL_ (some 8) rfl rfl Tryz.func107 (by kernel_rfl) rfl #[.string a0, .int .i64 10, .int .i64 18, .int .i64 a1] rfl (by (try simp only [List.map_toArray, List.map_cons, List.map_nil]); first | done | rfl | (simp only [List.length_drop, List.length_take]; rfl)) ?_; (with_reducible refine (decimal_read.calls a0 10 18 a1 t129 t130 _ A3.out).mono ?_); rintro e w4 ⟨rfl, hb⟩; refine ⟨_, rfl, ?_⟩; have n0_ := Aside0.mk (below_step (by repeat (first | (with_reducible first | exact HB.out | apply below_alloc | apply pw_below_drewN | apply below_drew1) | exact HB.out)) hb); clear HB; have HB := n0_; clear n0_; (try clear hb); (try clear hb2); (try clear hk); (try clear hi)))
  go_ret2
  exact ⟨by first | rfl | (simp [errW_none, errW_some] <;> rfl) | (simp [*, errW_none, errW_some] <;> rfl), by repeat (first | (with_reducible first | exact HB.out | apply below_alloc | apply pw_below_drewN | apply below_drew1) | exact HB.out)⟩

end Go.Proofs.YtjaklgikfcahdaaGreatDoor.PB
