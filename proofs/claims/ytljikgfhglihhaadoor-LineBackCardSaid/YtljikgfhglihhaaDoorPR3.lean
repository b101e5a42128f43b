-- Out of the translation, by a program of this session: each function that a law comes to as a Lean function, and that the machine's call does what it says. Lean checks it.
import Derived.Test.YtljikgfhglihhaaDoorPR0
import Derived.Test.YtljikgfhglihhaaDoorPR1
import Derived.Test.YtljikgfhglihhaaDoorPR2
namespace Go.Proofs.YtljikgfhglihhaaDoor.PR
open Go.RowKit Go.Proofs.YtljikgfhglihhaaDoorW.PrintWords Go.Proofs.YtljikgfhglihhaaDoorW.PrintLast Go.Proofs.YtljikgfhglihhaaDoorW.PrintMore
attribute [local go_sem] max2_int min2_int max_two min_two max_three min_three max_four min_four   -- for this text's walks alone
set_option linter.unusedVariables false
set_option linter.unusedSimpArgs false

/-! ### decimal_read: function 41: told by hand -/
def readGo (s : ByteArray) (base : Int) : Nat → Int → Nat → Option Int
  | 0, acc, _ => some acc
  | k + 1, acc, i => if Hand.dig (bt s i) base < 0 then none else readGo s base k (wrap64 (wrap64 (acc * base) + Hand.dig (bt s i) base)) (i + 1)
def readEnd (most : Int) : Option Int → Int × Int
  | none => (0, 5)
  | some n => if most < n then (0, 3) else (n, 0)
def readP (s : ByteArray) (base long most : Int) : Int × Int := if s.size = 0 then (0, 5) else if long < s.size then (0, 5) else readEnd most (readGo s base s.size 0 0)
def ReadPost (w : World) (p : Int × Int) (e : Ending) (w' : World) : Prop := e = .returned (.tuple #[.int .i64 p.1, .int .i64 p.2]) ∧ Below w.heap.size w w'
set_option maxHeartbeats 800000 in
theorem read_empty (s : ByteArray) (base long most : Int) (w : World) (h : s.toList = []) : Calls Tryd.prog 41 #[.string s, .int .i64 base, .int .i64 long, .int .i64 most] w (ReadPost w (0, 5)) := by
  go_enter Tryd.func41, Tryd.ntmps41
  go_wp2_with fail
  go_ret2
  exact ⟨rfl, Below.refl _ _⟩
set_option maxHeartbeats 800000 in
theorem read_long (s : ByteArray) (base long most : Int) (w : World) (h : (s.toList == []) = false) (hl : long < (s.size : Int)) : Calls Tryd.prog 41 #[.string s, .int .i64 base, .int .i64 long, .int .i64 most] w (ReadPost w (0, 5)) := by
  go_enter Tryd.func41, Tryd.ntmps41
  go_wp2_with fail
  go_ret2
  exact ⟨rfl, Below.refl _ _⟩
set_option maxHeartbeats 1600000 in
theorem read_loop (s : ByteArray) (base long most : Int) (w : World) (hb : 1 ≤ base) (hb2 : base ≤ 16) (hm : (s.size : Int) ≤ 9223372036854775807) (h : (s.toList == []) = false) (hl : (s.size : Int) ≤ long) :
    Calls Tryd.prog 41 #[.string s, .int .i64 base, .int .i64 long, .int .i64 most] w (ReadPost w (readEnd most (readGo s base s.size 0 0))) := by
  go_enter Tryd.func41, Tryd.ntmps41
  go_wp2_with fail
  go_loopw [10] (fun n w' => ∃ (k : Nat) (acc : Int), k ≤ s.size ∧ w' = w.iter s k ∧ n = .int .i64 acc ∧ Hid (readGo s base (s.size - k) acc k = readGo s base s.size 0 0)) (fun _ w' => s.size - w'.iterPos w.heap.size)
  case atStart => exact ⟨0, 0, Nat.zero_le _, rfl, rfl, Lib.hid rfl⟩
  case round =>
    obtain ⟨k, acc, hk, rfl, rfl, HA⟩ := hrel
    by_cases hp : k < s.size
    · have hgo : Hid (readGo s base (s.size - k) acc k = if Hand.dig (bt s k) base < 0 then none else readGo s base (s.size - (k + 1)) (wrap64 (wrap64 (acc * base) + Hand.dig (bt s k) base)) (k + 1)) := by
        have e : s.size - k = (s.size - (k + 1)) + 1 := by omega
        show _ = _
        rw [e, readGo]
      have hbt : ((s[k]'hp).toNat : Int) = bt s k := bt_at s (k : Int) hp
      by_cases hneg : Hand.dig (bt s k) base < 0
      · have hnone : Hid (readGo s base s.size 0 0 = none) := by
          show _ = _
          rw [← HA.out, hgo.out, if_pos hneg]
        clear hgo HA
        obtain ⟨r, p, hr, hnx⟩ : ∃ (r : Int) (p : Nat), Hid (Hand.dig r base < 0) ∧ ∀ ty, (Instr.next (.pointer (some ⟨w.heap.size, 0, none⟩)) true ty).run Tryd.prog (w.iter s k) = .ok (.tuple #[.bool true, .int .i64 k, .int .i32 r]) (w.iter s p) := by
          by_cases ha : (s[k]'hp).toNat < 128
          · refine ⟨bt s k, k + 1, hneg, fun ty => ?_⟩
            rw [run_next_any w s k ty hp, decode_ascii s k hp ha, ← hbt]
          · refine ⟨((Utf8.decode s k).1 : Int), _, ?_, fun ty => run_next_any w s k ty hp⟩
            have := (decode_high s k hp (by omega)).1
            show Hand.dig _ _ < 0
            rw [Hand.dig, Hand.dig0, if_neg (by omega), if_neg (by omega), if_neg (by omega)]
            split <;> omega
        have hdv : Hand.dig r base = -1 := by
          have := hr.out
          unfold Hand.dig at this ⊢
          unfold Hand.dig0 at this ⊢
          repeat' split at this
          all_goals (first | omega | (repeat' split) <;> omega)
        have H := Hand.digit_any r base
        rw [hdv] at H
        clear hdv hneg hbt
        go_wp2_with (go_at_call 56; refine (H _ hb hb2).mono ?_; rintro e w' ⟨rfl, rfl⟩; clear H)
        go_ret2
        exact ⟨by rw [hnone.out]; rfl, Hand.below_iter _ _ _⟩
      · have ha : (s[k]'hp).toNat < 128 := by
          rcases Nat.lt_or_ge (s[k]'hp).toNat 128 with h | h
          · exact h
          · exfalso
            apply hneg
            rw [← hbt, Hand.dig, Hand.dig0, if_neg (by omega), if_neg (by omega), if_neg (by omega)]
            split <;> omega
        have hnx : ∀ ty, (Instr.next (.pointer (some ⟨w.heap.size, 0, none⟩)) true ty).run Tryd.prog (w.iter s k) = .ok (.tuple #[.bool true, .int .i64 k, .int .i32 (bt s k)]) (w.iter s (k + 1)) := by
          intro ty
          rw [run_next_any w s k ty hp, decode_ascii s k hp ha, ← hbt]
        have H := Hand.digit_any (bt s k) base
        have hgo2 : Hid (readGo s base (s.size - (k + 1)) (wrap64 (wrap64 (acc * base) + Hand.dig (bt s k) base)) (k + 1) = readGo s base s.size 0 0) := by
          show _ = _
          rw [← HA.out, hgo.out, if_neg hneg]
        have hd0 : 0 ≤ Hand.dig (bt s k) base := by omega
        clear hgo HA hbt hneg
        generalize Hand.dig (bt s k) base = dg at H hgo2 hd0
        go_wp2_with (go_at_call 56; refine (H _ hb hb2).mono ?_; rintro e w' ⟨rfl, rfl⟩; clear H)
        go_roundw
        case rel => exact ⟨k + 1, _, by omega, rfl, rfl, hgo2⟩
        case measure => simp; omega
    · have hnx : ∀ ty, (Instr.next (.pointer (some ⟨w.heap.size, 0, none⟩)) true ty).run Tryd.prog (w.iter s k) = _ := fun ty => run_next_end w s k ty hp
      have hfin : Hid (readGo s base s.size 0 0 = some acc) := by
        show _ = _
        rw [← HA.out, show s.size - k = 0 by omega]; rfl
      clear HA
      by_cases hgt : most < acc
      · have hE : Hid (readEnd most (some acc) = (0, 3)) := by show _ = _; simp [readEnd, hgt]
        go_wp2
        go_ret2
        exact ⟨by rw [hfin.out, hE.out]; rfl, Hand.below_iter _ _ _⟩
      · have hE : Hid (readEnd most (some acc) = (acc, 0)) := by show _ = _; simp [readEnd, hgt]
        go_wp2
        go_ret2
        exact ⟨by rw [hfin.out, hE.out]; rfl, Hand.below_iter _ _ _⟩
def decimal_read.f (a0 : ByteArray) (a1 : Int) (a2 : Int) (a3 : Int) : Option (Int × Int) := if 1 ≤ a1 ∧ a1 ≤ 16 ∧ a0.size ≤ 9223372036854775807 then some (readP a0 a1 a2 a3) else none
theorem decimal_read.calls (a0 : ByteArray) (a1 : Int) (a2 : Int) (a3 : Int) (r1 : Int) (r2 : Int) (w : World) (h : decimal_read.f a0 a1 a2 a3 = some (r1, r2)) :
    Calls Tryd.prog 41 #[.string a0, .int .i64 a1, .int .i64 a2, .int .i64 a3] w fun e w' => e = .returned (.tuple #[.int .i64 r1, .int .i64 r2]) ∧ Below w.heap.size w w' := by
  unfold decimal_read.f at h
  split at h
  case isFalse => cases h
  case isTrue hs =>
    obtain ⟨h1, h2, h3⟩ := hs
    have e := Option.some.inj h
    have fin : Calls Tryd.prog 41 #[.string a0, .int .i64 a1, .int .i64 a2, .int .i64 a3] w (ReadPost w (readP a0 a1 a2 a3)) := by
      unfold readP
      by_cases c1 : a0.size = 0
      · rw [if_pos c1]
        exact read_empty a0 a1 a2 a3 w (by rw [ByteArray.toList_eq]; exact List.eq_nil_of_length_eq_zero (by rw [data_length]; exact c1))
      · rw [if_neg c1]
        have hne : (a0.toList == []) = false := by
          rw [ByteArray.toList_eq]
          have : a0.data.toList ≠ [] := fun e => c1 (by rw [← data_length, e]; rfl)
          simpa using this
        by_cases c2 : a2 < a0.size
        · rw [if_pos c2]
          exact read_long a0 a1 a2 a3 w hne c2
        · rw [if_neg c2]
          exact read_loop a0 a1 a2 a3 w h1 h2 (by omega) hne (by omega)
    rw [e] at fin
    exact fin

/-! ### decimal_Number: function 28 -/
def decimal_Number.f (a0 : ByteArray) (a1 : Int) : Option (Int × Int) := (decimal_read.f a0 10 18 a1).bind fun bt119 => (some (bt119.1, bt119.2))
set_option maxHeartbeats 8000000 in
set_option maxRecDepth 100000 in
theorem decimal_Number.calls (a0 : ByteArray) (a1 : Int) (r1 : Int) (r2 : Int) (w : World) (h : decimal_Number.f a0 a1 = some (r1, r2)) :
    Calls Tryd.prog 28 #[.string a0, .int .i64 a1] w fun e w' => e = .returned (.tuple #[.int .i64 r1, .int .i64 r2]) ∧ Below w.heap.size w w' := by
  have HB := Aside0.mk (Below.refl w.heap.size w)
  have H : ((decimal_read.f a0 10 18 a1).bind fun bt119 => (some (bt119.1, bt119.2))) = some (r1, r2) := h
  clear h
  replace H := Option.bind_eq_some_iff.mp H
  obtain ⟨⟨t119, t120⟩, A30, H⟩ := H
  replace H : (some (t119, t120)) = some (r1, r2) := H
  have A3 := Aside0.mk A30
  clear A30
  simp only [Option.some.injEq, Prod.mk.injEq] at H
  obtain ⟨rfl, rfl⟩ := H
  go_enter Tryd.func28, Tryd.ntmps28
  go_wp2_with (first | ((with_reducible refine gate_callee (f := 41) rfl ?_); refine goesL_ (some 8) rfl rfl Tryd.func41 (by kernel_rfl) rfl #[.string a0, .int .i64 10, .int .i64 18, .int .i64 a1] rfl (by (try simp only [List.map_toArray, List.map_cons, List.map_nil]); first | done | rfl | (simp only [List.length_drop, List.length_take]; rfl)) ?_; (with_reducible refine (decimal_read.calls a0 10 18 a1 t119 t120 _ A3.out).mono ?_); rintro e w4 ⟨rfl, hb⟩; refine ⟨_, rfl, ?_⟩; have n0_ := Aside0.mk (below_step (by repeat (first | (with_reducible first | exact HB.out | apply below_alloc | apply pw_below_drewN | apply below_drew1) | exact HB.out)) hb); clear HB; have HB := n0_; clear n0_; (try clear hb); (try clear hb2); (try clear hk); (try clear hi)))
  go_ret2
  exact ⟨by first | rfl | (simp [errW_none, errW_some] <;> rfl) | (simp [*, errW_none, errW_some] <;> rfl), by repeat (first | (with_reducible first | exact HB.out | apply below_alloc | apply pw_below_drewN | apply below_drew1) | exact HB.out)⟩

/-! ### line_Status: function 9 -/
def line_Status.f (a0 : ByteArray) : Option (Int × ByteArray × Int × Int) := if (a0.size : Int) > 8192 then (some (0, (⟨#[]⟩ : ByteArray), 0, 4)) else (if 0 < 1 then ((octet_Cut.f a0 (bt (⟨#[32]⟩ : ByteArray) 0)).bind fun bt121 => ((octet_Cut.f bt121.2.1 (bt (⟨#[32]⟩ : ByteArray) 0)).bind fun bt124 => ((line_version.f bt121.1).bind fun bt127 => ((decimal_Number.f bt124.1 599).bind fun bt129 => (if bt127.2 = true then (if bt124.2.2 = true then (if bt129.2 = 0 then (if bt129.1 < 100 then (some (0, (⟨#[]⟩ : ByteArray), 0, 20)) else (if (bt124.1.size : Int) = 3 then ((octet_IsText.f bt124.2.1).bind fun t131 => (if t131 = true then (some (bt129.1, bt124.2.1, bt127.1, 0)) else (some (0, (⟨#[]⟩ : ByteArray), 0, 20)))) else (some (0, (⟨#[]⟩ : ByteArray), 0, 20)))) else (some (0, (⟨#[]⟩ : ByteArray), 0, 20))) else (some (0, (⟨#[]⟩ : ByteArray), 0, 20))) else (some (0, (⟨#[]⟩ : ByteArray), 0, 20))))))) else (none))
set_option maxHeartbeats 8000000 in
set_option maxRecDepth 100000 in
theorem line_Status.calls (a0 : ByteArray) (r1 : Int) (r2 : ByteArray) (r3 : Int) (r4 : Int) (w : World) (h : line_Status.f a0 = some (r1, r2, r3, r4)) :
    Calls Tryd.prog 9 #[.string a0] w fun e w' => e = .returned (.tuple #[.int .i64 r1, .string r2, .int .i64 r3, .int .i64 r4]) ∧ Below w.heap.size w w' := by
  have HB := Aside0.mk (Below.refl w.heap.size w)
  have H : (if (a0.size : Int) > 8192 then (some (0, (⟨#[]⟩ : ByteArray), 0, 4)) else (if 0 < 1 then ((octet_Cut.f a0 (bt (⟨#[32]⟩ : ByteArray) 0)).bind fun bt121 => ((octet_Cut.f bt121.2.1 (bt (⟨#[32]⟩ : ByteArray) 0)).bind fun bt124 => ((line_version.f bt121.1).bind fun bt127 => ((decimal_Number.f bt124.1 599).bind fun bt129 => (if bt127.2 = true then (if bt124.2.2 = true then (if bt129.2 = 0 then (if bt129.1 < 100 then (some (0, (⟨#[]⟩ : ByteArray), 0, 20)) else (if (bt124.1.size : Int) = 3 then ((octet_IsText.f bt124.2.1).bind fun t131 => (if t131 = true then (some (bt129.1, bt124.2.1, bt127.1, 0)) else (some (0, (⟨#[]⟩ : ByteArray), 0, 20)))) else (some (0, (⟨#[]⟩ : ByteArray), 0, 20)))) else (some (0, (⟨#[]⟩ : ByteArray), 0, 20))) else (some (0, (⟨#[]⟩ : ByteArray), 0, 20))) else (some (0, (⟨#[]⟩ : ByteArray), 0, 20))))))) else (none))) = some (r1, r2, r3, r4) := h
  clear h
  by_cases c2 : (a0.size : Int) > 8192
  · rw [if_pos c2] at H
    have c2b0 : decide (8192 < (a0.size : Int)) = true := decide_eq_true c2
    have c2b1 : decide (8192 < a0.size) = true := decide_eq_true (by omega)
    clear c2
    simp only [Option.some.injEq, Prod.mk.injEq] at H
    obtain ⟨rfl, rfl, rfl, rfl⟩ := H
    go_enter Tryd.func9, Tryd.ntmps9
    go_wp2
    refine bodyPost_ret (results_list (rs := [.tmp 2, .tmp 3, .tmp 4, .tmp 5]) rfl (by simp) (.tmp (.tmp (.tmp (.tmp .nil))))) rfl ?_
    exact ⟨by first | rfl | (simp [errW_none, errW_some] <;> rfl) | (simp [*, errW_none, errW_some] <;> rfl), by repeat (first | (with_reducible first | exact HB.out | apply below_alloc | apply pw_below_drewN | apply below_drew1) | exact HB.out)⟩
  · rw [if_neg c2] at H
    have c2b0 : decide (8192 < (a0.size : Int)) = false := decide_eq_false c2
    have c2b1 : decide (8192 < a0.size) = false := decide_eq_false (by omega)
    clear c2
    by_cases c3 : 0 < 1
    · rw [if_pos c3] at H
      have c3b0 : decide (0 < 1) = true := decide_eq_true c3
      clear c3
      replace H := Option.bind_eq_some_iff.mp H
      obtain ⟨⟨t121, t122, t123⟩, A50, H⟩ := H
      replace H : ((octet_Cut.f t122 (bt (⟨#[32]⟩ : ByteArray) 0)).bind fun bt124 => ((line_version.f t121).bind fun bt127 => ((decimal_Number.f bt124.1 599).bind fun bt129 => (if bt127.2 = true then (if bt124.2.2 = true then (if bt129.2 = 0 then (if bt129.1 < 100 then (some (0, (⟨#[]⟩ : ByteArray), 0, 20)) else (if (bt124.1.size : Int) = 3 then ((octet_IsText.f bt124.2.1).bind fun t131 => (if t131 = true then (some (bt129.1, bt124.2.1, bt127.1, 0)) else (some (0, (⟨#[]⟩ : ByteArray), 0, 20)))) else (some (0, (⟨#[]⟩ : ByteArray), 0, 20)))) else (some (0, (⟨#[]⟩ : ByteArray), 0, 20))) else (some (0, (⟨#[]⟩ : ByteArray), 0, 20))) else (some (0, (⟨#[]⟩ : ByteArray), 0, 20)))))) = some (r1, r2, r3, r4) := H
      have A5 := Aside0.mk A50
      clear A50
      replace H := Option.bind_eq_some_iff.mp H
      obtain ⟨⟨t124, t125, t126⟩, A70, H⟩ := H
      replace H : ((line_version.f t121).bind fun bt127 => ((decimal_Number.f t124 599).bind fun bt129 => (if bt127.2 = true then (if t126 = true then (if bt129.2 = 0 then (if bt129.1 < 100 then (some (0, (⟨#[]⟩ : ByteArray), 0, 20)) else (if (t124.size : Int) = 3 then ((octet_IsText.f t125).bind fun t131 => (if t131 = true then (some (bt129.1, t125, bt127.1, 0)) else (some (0, (⟨#[]⟩ : ByteArray), 0, 20)))) else (some (0, (⟨#[]⟩ : ByteArray), 0, 20)))) else (some (0, (⟨#[]⟩ : ByteArray), 0, 20))) else (some (0, (⟨#[]⟩ : ByteArray), 0, 20))) else (some (0, (⟨#[]⟩ : ByteArray), 0, 20))))) = some (r1, r2, r3, r4) := H
      have A7 := Aside0.mk A70
      clear A70
      replace H := Option.bind_eq_some_iff.mp H
      obtain ⟨⟨t127, t128⟩, A80, H⟩ := H
      replace H : ((decimal_Number.f t124 599).bind fun bt129 => (if t128 = true then (if t126 = true then (if bt129.2 = 0 then (if bt129.1 < 100 then (some (0, (⟨#[]⟩ : ByteArray), 0, 20)) else (if (t124.size : Int) = 3 then ((octet_IsText.f t125).bind fun t131 => (if t131 = true then (some (bt129.1, t125, t127, 0)) else (some (0, (⟨#[]⟩ : ByteArray), 0, 20)))) else (some (0, (⟨#[]⟩ : ByteArray), 0, 20)))) else (some (0, (⟨#[]⟩ : ByteArray), 0, 20))) else (some (0, (⟨#[]⟩ : ByteArray), 0, 20))) else (some (0, (⟨#[]⟩ : ByteArray), 0, 20)))) = some (r1, r2, r3, r4) := H
      have A8 := Aside0.mk A80
      clear A80
      replace H := Option.bind_eq_some_iff.mp H
      obtain ⟨⟨t129, t130⟩, A90, H⟩ := H
      replace H : (if t128 = true then (if t126 = true then (if t130 = 0 then (if t129 < 100 then (some (0, (⟨#[]⟩ : ByteArray), 0, 20)) else (if (t124.size : Int) = 3 then ((octet_IsText.f t125).bind fun t131 => (if t131 = true then (some (t129, t125, t127, 0)) else (some (0, (⟨#[]⟩ : ByteArray), 0, 20)))) else (some (0, (⟨#[]⟩ : ByteArray), 0, 20)))) else (some (0, (⟨#[]⟩ : ByteArray), 0, 20))) else (some (0, (⟨#[]⟩ : ByteArray), 0, 20))) else (some (0, (⟨#[]⟩ : ByteArray), 0, 20))) = some (r1, r2, r3, r4) := H
      have A9 := Aside0.mk A90
      clear A90
      by_cases c10 : t128 = true
      · subst c10
        have H1 : (if t126 = true then (if t130 = 0 then (if t129 < 100 then (some (0, (⟨#[]⟩ : ByteArray), 0, 20)) else (if (t124.size : Int) = 3 then ((octet_IsText.f t125).bind fun t131 => (if t131 = true then (some (t129, t125, t127, 0)) else (some (0, (⟨#[]⟩ : ByteArray), 0, 20)))) else (some (0, (⟨#[]⟩ : ByteArray), 0, 20)))) else (some (0, (⟨#[]⟩ : ByteArray), 0, 20))) else (some (0, (⟨#[]⟩ : ByteArray), 0, 20))) = some (r1, r2, r3, r4) := by rw [if_pos rfl] at H; exact H
        clear H
        have H := H1
        clear H1
        by_cases c11 : t126 = true
        · subst c11
          have H1 : (if t130 = 0 then (if t129 < 100 then (some (0, (⟨#[]⟩ : ByteArray), 0, 20)) else (if (t124.size : Int) = 3 then ((octet_IsText.f t125).bind fun t131 => (if t131 = true then (some (t129, t125, t127, 0)) else (some (0, (⟨#[]⟩ : ByteArray), 0, 20)))) else (some (0, (⟨#[]⟩ : ByteArray), 0, 20)))) else (some (0, (⟨#[]⟩ : ByteArray), 0, 20))) = some (r1, r2, r3, r4) := by rw [if_pos rfl] at H; exact H
          clear H
          have H := H1
          clear H1
          by_cases c12 : t130 = 0
          · rw [if_pos c12] at H
            have c12b0 : (t130 == 0) = true := beq_iff_eq.mpr c12
            have c12b1 : (t130 != 0) = false := bne_eq_false_iff_eq.mpr c12
            clear c12
            by_cases c13 : t129 < 100
            · rw [if_pos c13] at H
              have c13b0 : decide (t129 < 100) = true := decide_eq_true c13
              clear c13
              simp only [Option.some.injEq, Prod.mk.injEq] at H
              obtain ⟨rfl, rfl, rfl, rfl⟩ := H
              have p4 : 0 ≤ (0 : Int) := (by omega)
              have q4 : 0 < (1 : Int) := (by omega)
              have hx4 := bt_at (⟨#[32]⟩ : ByteArray) 0
              replace p4 := eq_true p4
              replace q4 := eq_true q4
              go_enter Tryd.func9, Tryd.ntmps9
              go_wp2_with (first | ((with_reducible refine gate_callee (f := 27) rfl ?_); refine goesL_ (some 22) rfl rfl Tryd.func27 (by kernel_rfl) rfl #[.string a0, .int .u8 (bt (⟨#[32]⟩ : ByteArray) 0)] rfl (by (try simp only [List.map_toArray, List.map_cons, List.map_nil]); first | done | rfl | (simp only [List.length_drop, List.length_take]; rfl)) ?_; (with_reducible refine (octet_Cut.calls a0 (bt (⟨#[32]⟩ : ByteArray) 0) t121 t122 t123 _ A5.out).mono ?_); rintro e w14 ⟨rfl, hb⟩; refine ⟨_, rfl, ?_⟩; have n0_ := Aside0.mk (below_step (by repeat (first | (with_reducible first | exact HB.out | apply below_alloc | apply pw_below_drewN | apply below_drew1) | exact HB.out)) hb); clear HB; have HB := n0_; clear n0_; (try clear hb); (try clear hb2); (try clear hk); (try clear hi); have p6 : 0 ≤ (0 : Int) := (by omega); have q6 : 0 < (1 : Int) := (by omega); have hx6 := bt_at (⟨#[32]⟩ : ByteArray) 0; replace p6 := eq_true p6; replace q6 := eq_true q6) | ((with_reducible refine gate_callee (f := 27) rfl ?_); refine goesL_ (some 29) rfl rfl Tryd.func27 (by kernel_rfl) rfl #[.string t122, .int .u8 (bt (⟨#[32]⟩ : ByteArray) 0)] rfl (by (try simp only [List.map_toArray, List.map_cons, List.map_nil]); first | done | rfl | (simp only [List.length_drop, List.length_take]; rfl)) ?_; (with_reducible refine (octet_Cut.calls t122 (bt (⟨#[32]⟩ : ByteArray) 0) t124 t125 true _ A7.out).mono ?_); rintro e w15 ⟨rfl, hb⟩; refine ⟨_, rfl, ?_⟩; have n0_ := Aside0.mk (below_step (by repeat (first | (with_reducible first | exact HB.out | apply below_alloc | apply pw_below_drewN | apply below_drew1) | exact HB.out)) hb); clear HB; have HB := n0_; clear n0_; (try clear hb); (try clear hb2); (try clear hk); (try clear hi)) | ((with_reducible refine gate_callee (f := 23) rfl ?_); refine goesL_ (some 35) rfl rfl Tryd.func23 (by kernel_rfl) rfl #[.string t121] rfl (by (try simp only [List.map_toArray, List.map_cons, List.map_nil]); first | done | rfl | (simp only [List.length_drop, List.length_take]; rfl)) ?_; (with_reducible refine (line_version.calls t121 t127 true _ A8.out).mono ?_); rintro e w' ⟨rfl, ⟨nd, rfl⟩⟩; refine ⟨_, rfl, ?_⟩) | ((with_reducible refine gate_callee (f := 28) rfl ?_); refine goesL_ (some 40) rfl rfl Tryd.func28 (by kernel_rfl) rfl #[.string t124, .int .i64 599] rfl (by (try simp only [List.map_toArray, List.map_cons, List.map_nil]); first | done | rfl | (simp only [List.length_drop, List.length_take]; rfl)) ?_; (with_reducible refine (decimal_Number.calls t124 599 t129 t130 _ A9.out).mono ?_); rintro e w16 ⟨rfl, hb⟩; refine ⟨_, rfl, ?_⟩; have n0_ := Aside0.mk (below_step (by repeat (first | (with_reducible first | exact HB.out | apply below_alloc | apply pw_below_drewN | apply below_drew1) | exact HB.out)) hb); clear HB; have HB := n0_; clear n0_; (try clear hb); (try clear hb2); (try clear hk); (try clear hi)))
              refine bodyPost_ret (results_list (rs := [.tmp 2, .tmp 3, .tmp 4, .tmp 5]) rfl (by simp) (.tmp (.tmp (.tmp (.tmp .nil))))) rfl ?_
              exact ⟨by first | rfl | (simp [errW_none, errW_some] <;> rfl) | (simp [*, errW_none, errW_some] <;> rfl), by repeat (first | (with_reducible first | exact HB.out | apply below_alloc | apply pw_below_drewN | apply below_drew1) | exact HB.out)⟩
            · rw [if_neg c13] at H
              have c13b0 : decide (t129 < 100) = false := decide_eq_false c13
              clear c13
              by_cases c17 : (t124.size : Int) = 3
              · rw [if_pos c17] at H
                have c17b0 : ((t124.size : Int) == 3) = true := beq_iff_eq.mpr c17
                have c17b1 : ((t124.size : Int) != 3) = false := bne_eq_false_iff_eq.mpr c17
                clear c17
                replace H := Option.bind_eq_some_iff.mp H
                obtain ⟨t131, A180, H⟩ := H
                replace H : (if t131 = true then (some (t129, t125, t127, 0)) else (some (0, (⟨#[]⟩ : ByteArray), 0, 20))) = some (r1, r2, r3, r4) := H
                have A18 := Aside0.mk A180
                clear A180
                by_cases c19 : t131 = true
                · subst c19
                  have H1 : (some (t129, t125, t127, 0)) = some (r1, r2, r3, r4) := by rw [if_pos rfl] at H; exact H
                  clear H
                  have H := H1
                  clear H1
                  simp only [Option.some.injEq, Prod.mk.injEq] at H
                  obtain ⟨rfl, rfl, rfl, rfl⟩ := H
                  have p4 : 0 ≤ (0 : Int) := (by omega)
                  have q4 : 0 < (1 : Int) := (by omega)
                  have hx4 := bt_at (⟨#[32]⟩ : ByteArray) 0
                  replace p4 := eq_true p4
                  replace q4 := eq_true q4
                  go_enter Tryd.func9, Tryd.ntmps9
                  go_wp2_with (first | ((with_reducible refine gate_callee (f := 27) rfl ?_); refine goesL_ (some 22) rfl rfl Tryd.func27 (by kernel_rfl) rfl #[.string a0, .int .u8 (bt (⟨#[32]⟩ : ByteArray) 0)] rfl (by (try simp only [List.map_toArray, List.map_cons, List.map_nil]); first | done | rfl | (simp only [List.length_drop, List.length_take]; rfl)) ?_; (with_reducible refine (octet_Cut.calls a0 (bt (⟨#[32]⟩ : ByteArray) 0) t121 t122 t123 _ A5.out).mono ?_); rintro e w20 ⟨rfl, hb⟩; refine ⟨_, rfl, ?_⟩; have n0_ := Aside0.mk (below_step (by repeat (first | (with_reducible first | exact HB.out | apply below_alloc | apply pw_below_drewN | apply below_drew1) | exact HB.out)) hb); clear HB; have HB := n0_; clear n0_; (try clear hb); (try clear hb2); (try clear hk); (try clear hi); have p6 : 0 ≤ (0 : Int) := (by omega); have q6 : 0 < (1 : Int) := (by omega); have hx6 := bt_at (⟨#[32]⟩ : ByteArray) 0; replace p6 := eq_true p6; replace q6 := eq_true q6) | ((with_reducible refine gate_callee (f := 27) rfl ?_); refine goesL_ (some 29) rfl rfl Tryd.func27 (by kernel_rfl) rfl #[.string t122, .int .u8 (bt (⟨#[32]⟩ : ByteArray) 0)] rfl (by (try simp only [List.map_toArray, List.map_cons, List.map_nil]); first | done | rfl | (simp only [List.length_drop, List.length_take]; rfl)) ?_; (with_reducible refine (octet_Cut.calls t122 (bt (⟨#[32]⟩ : ByteArray) 0) t124 t125 true _ A7.out).mono ?_); rintro e w21 ⟨rfl, hb⟩; refine ⟨_, rfl, ?_⟩; have n0_ := Aside0.mk (below_step (by repeat (first | (with_reducible first | exact HB.out | apply below_alloc | apply pw_below_drewN | apply below_drew1) | exact HB.out)) hb); clear HB; have HB := n0_; clear n0_; (try clear hb); (try clear hb2); (try clear hk); (try clear hi)) | ((with_reducible refine gate_callee (f := 23) rfl ?_); refine goesL_ (some 35) rfl rfl Tryd.func23 (by kernel_rfl) rfl #[.string t121] rfl (by (try simp only [List.map_toArray, List.map_cons, List.map_nil]); first | done | rfl | (simp only [List.length_drop, List.length_take]; rfl)) ?_; (with_reducible refine (line_version.calls t121 t127 true _ A8.out).mono ?_); rintro e w' ⟨rfl, ⟨nd, rfl⟩⟩; refine ⟨_, rfl, ?_⟩) | ((with_reducible refine gate_callee (f := 28) rfl ?_); refine goesL_ (some 40) rfl rfl Tryd.func28 (by kernel_rfl) rfl #[.string t124, .int .i64 599] rfl (by (try simp only [List.map_toArray, List.map_cons, List.map_nil]); first | done | rfl | (simp only [List.length_drop, List.length_take]; rfl)) ?_; (with_reducible refine (decimal_Number.calls t124 599 t129 t130 _ A9.out).mono ?_); rintro e w22 ⟨rfl, hb⟩; refine ⟨_, rfl, ?_⟩; have n0_ := Aside0.mk (below_step (by repeat (first | (with_reducible first | exact HB.out | apply below_alloc | apply pw_below_drewN | apply below_drew1) | exact HB.out)) hb); clear HB; have HB := n0_; clear n0_; (try clear hb); (try clear hb2); (try clear hk); (try clear hi)) | (go_at_call 20; (with_reducible refine (octet_IsText.calls t125 true _ A18.out).mono ?_); rintro e w23 ⟨rfl, hb⟩; have n0_ := Aside0.mk (below_step (by repeat (first | (with_reducible first | exact HB.out | apply below_alloc | apply pw_below_drewN | apply below_drew1) | exact HB.out)) hb); clear HB; have HB := n0_; clear n0_; (try clear hb); (try clear hb2); (try clear hk); (try clear hi)))
                  refine bodyPost_ret (results_list (rs := [.tmp 2, .tmp 3, .tmp 4, .tmp 5]) rfl (by simp) (.tmp (.tmp (.tmp (.tmp .nil))))) rfl ?_
                  exact ⟨by first | rfl | (simp [errW_none, errW_some] <;> rfl) | (simp [*, errW_none, errW_some] <;> rfl), by repeat (first | (with_reducible first | exact HB.out | apply below_alloc | apply pw_below_drewN | apply below_drew1) | exact HB.out)⟩
                · replace c19 := Bool.eq_false_iff.mpr c19
                  subst c19
                  have H1 : (some (0, (⟨#[]⟩ : ByteArray), 0, 20)) = some (r1, r2, r3, r4) := by rw [if_neg (show ¬ (false = true) by decide)] at H; exact H
                  clear H
                  have H := H1
                  clear H1
                  simp only [Option.some.injEq, Prod.mk.injEq] at H
                  obtain ⟨rfl, rfl, rfl, rfl⟩ := H
                  have p4 : 0 ≤ (0 : Int) := (by omega)
                  have q4 : 0 < (1 : Int) := (by omega)
                  have hx4 := bt_at (⟨#[32]⟩ : ByteArray) 0
                  replace p4 := eq_true p4
                  replace q4 := eq_true q4
                  go_enter Tryd.func9, Tryd.ntmps9
                  go_wp2_with (first | ((with_reducible refine gate_callee (f := 27) rfl ?_); refine goesL_ (some 22) rfl rfl Tryd.func27 (by kernel_rfl) rfl #[.string a0, .int .u8 (bt (⟨#[32]⟩ : ByteArray) 0)] rfl (by (try simp only [List.map_toArray, List.map_cons, List.map_nil]); first | done | rfl | (simp only [List.length_drop, List.length_take]; rfl)) ?_; (with_reducible refine (octet_Cut.calls a0 (bt (⟨#[32]⟩ : ByteArray) 0) t121 t122 t123 _ A5.out).mono ?_); rintro e w24 ⟨rfl, hb⟩; refine ⟨_, rfl, ?_⟩; have n0_ := Aside0.mk (below_step (by repeat (first | (with_reducible first | exact HB.out | apply below_alloc | apply pw_below_drewN | apply below_drew1) | exact HB.out)) hb); clear HB; have HB := n0_; clear n0_; (try clear hb); (try clear hb2); (try clear hk); (try clear hi); have p6 : 0 ≤ (0 : Int) := (by omega); have q6 : 0 < (1 : Int) := (by omega); have hx6 := bt_at (⟨#[32]⟩ : ByteArray) 0; replace p6 := eq_true p6; replace q6 := eq_true q6) | ((with_reducible refine gate_callee (f := 27) rfl ?_); refine goesL_ (some 29) rfl rfl Tryd.func27 (by kernel_rfl) rfl #[.string t122, .int .u8 (bt (⟨#[32]⟩ : ByteArray) 0)] rfl (by (try simp only [List.map_toArray, List.map_cons, List.map_nil]); first | done | rfl | (simp only [List.length_drop, List.length_take]; rfl)) ?_; (with_reducible refine (octet_Cut.calls t122 (bt (⟨#[32]⟩ : ByteArray) 0) t124 t125 true _ A7.out).mono ?_); rintro e w25 ⟨rfl, hb⟩; refine ⟨_, rfl, ?_⟩; have n0_ := Aside0.mk (below_step (by repeat (first | (with_reducible first | exact HB.out | apply below_alloc | apply pw_below_drewN | apply below_drew1) | exact HB.out)) hb); clear HB; have HB := n0_; clear n0_; (try clear hb); (try clear hb2); (try clear hk); (try clear hi)) | ((with_reducible refine gate_callee (f := 23) rfl ?_); refine goesL_ (some 35) rfl rfl Tryd.func23 (by kernel_rfl) rfl #[.string t121] rfl (by (try simp only [List.map_toArray, List.map_cons, List.map_nil]); first | done | rfl | (simp only [List.length_drop, List.length_take]; rfl)) ?_; (with_reducible refine (line_version.calls t121 t127 true _ A8.out).mono ?_); rintro e w' ⟨rfl, ⟨nd, rfl⟩⟩; refine ⟨_, rfl, ?_⟩) | ((with_reducible refine gate_callee (f := 28) rfl ?_); refine goesL_ (some 40) rfl rfl Tryd.func28 (by kernel_rfl) rfl #[.string t124, .int .i64 599] rfl (by (try simp only [List.map_toArray, List.map_cons, List.map_nil]); first | done | rfl | (simp only [List.length_drop, List.length_take]; rfl)) ?_; (with_reducible refine (decimal_Number.calls t124 599 t129 t130 _ A9.out).mono ?_); rintro e w26 ⟨rfl, hb⟩; refine ⟨_, rfl, ?_⟩; have n0_ := Aside0.mk (below_step (by repeat (first | (with_reducible first | exact HB.out | apply below_alloc | apply pw_below_drewN | apply below_drew1) | exact HB.out)) hb); clear HB; have HB := n0_; clear n0_; (try clear hb); (try clear hb2); (try clear hk); (try clear hi)) | (go_at_call 20; (with_reducible refine (octet_IsText.calls t125 false _ A18.out).mono ?_); rintro e w27 ⟨rfl, hb⟩; have n0_ := Aside0.mk (below_step (by repeat (first | (with_reducible first | exact HB.out | apply below_alloc | apply pw_below_drewN | apply below_drew1) | exact HB.out)) hb); clear HB; have HB := n0_; clear n0_; (try clear hb); (try clear hb2); (try clear hk); (try clear hi)))
                  refine bodyPost_ret (results_list (rs := [.tmp 2, .tmp 3, .tmp 4, .tmp 5]) rfl (by simp) (.tmp (.tmp (.tmp (.tmp .nil))))) rfl ?_
                  exact ⟨by first | rfl | (simp [errW_none, errW_some] <;> rfl) | (simp [*, errW_none, errW_some] <;> rfl), by repeat (first | (with_reducible first | exact HB.out | apply below_alloc | apply pw_below_drewN | apply below_drew1) | exact HB.out)⟩
              · rw [if_neg c17] at H
                have c17b0 : ((t124.size : Int) == 3) = false := beq_eq_false_iff_ne.mpr c17
                have c17b1 : ((t124.size : Int) != 3) = true := bne_iff_ne.mpr c17
                simp only [Option.some.injEq, Prod.mk.injEq] at H
                obtain ⟨rfl, rfl, rfl, rfl⟩ := H
                have p4 : 0 ≤ (0 : Int) := (by omega)
                have q4 : 0 < (1 : Int) := (by omega)
                have hx4 := bt_at (⟨#[32]⟩ : ByteArray) 0
                replace p4 := eq_true p4
                replace q4 := eq_true q4
                go_enter Tryd.func9, Tryd.ntmps9
                go_wp2_with (first | ((with_reducible refine gate_callee (f := 27) rfl ?_); refine goesL_ (some 22) rfl rfl Tryd.func27 (by kernel_rfl) rfl #[.string a0, .int .u8 (bt (⟨#[32]⟩ : ByteArray) 0)] rfl (by (try simp only [List.map_toArray, List.map_cons, List.map_nil]); first | done | rfl | (simp only [List.length_drop, List.length_take]; rfl)) ?_; (with_reducible refine (octet_Cut.calls a0 (bt (⟨#[32]⟩ : ByteArray) 0) t121 t122 t123 _ A5.out).mono ?_); rintro e w28 ⟨rfl, hb⟩; refine ⟨_, rfl, ?_⟩; have n0_ := Aside0.mk (below_step (by repeat (first | (with_reducible first | exact HB.out | apply below_alloc | apply pw_below_drewN | apply below_drew1) | exact HB.out)) hb); clear HB; have HB := n0_; clear n0_; (try clear hb); (try clear hb2); (try clear hk); (try clear hi); have p6 : 0 ≤ (0 : Int) := (by omega); have q6 : 0 < (1 : Int) := (by omega); have hx6 := bt_at (⟨#[32]⟩ : ByteArray) 0; replace p6 := eq_true p6; replace q6 := eq_true q6) | ((with_reducible refine gate_callee (f := 27) rfl ?_); refine goesL_ (some 29) rfl rfl Tryd.func27 (by kernel_rfl) rfl #[.string t122, .int .u8 (bt (⟨#[32]⟩ : ByteArray) 0)] rfl (by (try simp only [List.map_toArray, List.map_cons, List.map_nil]); first | done | rfl | (simp only [List.length_drop, List.length_take]; rfl)) ?_; (with_reducible refine (octet_Cut.calls t122 (bt (⟨#[32]⟩ : ByteArray) 0) t124 t125 true _ A7.out).mono ?_); rintro e w29 ⟨rfl, hb⟩; refine ⟨_, rfl, ?_⟩; have n0_ := Aside0.mk (below_step (by repeat (first | (with_reducible first | exact HB.out | apply below_alloc | apply pw_below_drewN | apply below_drew1) | exact HB.out)) hb); clear HB; have HB := n0_; clear n0_; (try clear hb); (try clear hb2); (try clear hk); (try clear hi)) | ((with_reducible refine gate_callee (f := 23) rfl ?_); refine goesL_ (some 35) rfl rfl Tryd.func23 (by kernel_rfl) rfl #[.string t121] rfl (by (try simp only [List.map_toArray, List.map_cons, List.map_nil]); first | done | rfl | (simp only [List.length_drop, List.length_take]; rfl)) ?_; (with_reducible refine (line_version.calls t121 t127 true _ A8.out).mono ?_); rintro e w' ⟨rfl, ⟨nd, rfl⟩⟩; refine ⟨_, rfl, ?_⟩) | ((with_reducible refine gate_callee (f := 28) rfl ?_); refine goesL_ (some 40) rfl rfl Tryd.func28 (by kernel_rfl) rfl #[.string t124, .int .i64 599] rfl (by (try simp only [List.map_toArray, List.map_cons, List.map_nil]); first | done | rfl | (simp only [List.length_drop, List.length_take]; rfl)) ?_; (with_reducible refine (decimal_Number.calls t124 599 t129 t130 _ A9.out).mono ?_); rintro e w30 ⟨rfl, hb⟩; refine ⟨_, rfl, ?_⟩; have n0_ := Aside0.mk (below_step (by repeat (first | (with_reducible first | exact HB.out | apply below_alloc | apply pw_below_drewN | apply below_drew1) | exact HB.out)) hb); clear HB; have HB := n0_; clear n0_; (try clear hb); (try clear hb2); (try clear hk); (try clear hi)))
                refine bodyPost_ret (results_list (rs := [.tmp 2, .tmp 3, .tmp 4, .tmp 5]) rfl (by simp) (.tmp (.tmp (.tmp (.tmp .nil))))) rfl ?_
                exact ⟨by first | rfl | (simp [errW_none, errW_some] <;> rfl) | (simp [*, errW_none, errW_some] <;> rfl), by repeat (first | (with_reducible first | exact HB.out | apply below_alloc | apply pw_below_drewN | apply below_drew1) | exact HB.out)⟩
          · rw [if_neg c12] at H
            have c12b0 : (t130 == 0) = false := beq_eq_false_iff_ne.mpr c12
            have c12b1 : (t130 != 0) = true := bne_iff_ne.mpr c12
            simp only [Option.some.injEq, Prod.mk.injEq] at H
            obtain ⟨rfl, rfl, rfl, rfl⟩ := H
            have p4 : 0 ≤ (0 : Int) := (by omega)
            have q4 : 0 < (1 : Int) := (by omega)
            have hx4 := bt_at (⟨#[32]⟩ : ByteArray) 0
            replace p4 := eq_true p4
            replace q4 := eq_true q4
            go_enter Tryd.func9, Tryd.ntmps9
            go_wp2_with (first | ((with_reducible refine gate_callee (f := 27) rfl ?_); refine goesL_ (some 22) rfl rfl Tryd.func27 (by kernel_rfl) rfl #[.string a0, .int .u8 (bt (⟨#[32]⟩ : ByteArray) 0)] rfl (by (try simp only [List.map_toArray, List.map_cons, List.map_nil]); first | done | rfl | (simp only [List.length_drop, List.length_take]; rfl)) ?_; (with_reducible refine (octet_Cut.calls a0 (bt (⟨#[32]⟩ : ByteArray) 0) t121 t122 t123 _ A5.out).mono ?_); rintro e w31 ⟨rfl, hb⟩; refine ⟨_, rfl, ?_⟩; have n0_ := Aside0.mk (below_step (by repeat (first | (with_reducible first | exact HB.out | apply below_alloc | apply pw_below_drewN | apply below_drew1) | exact HB.out)) hb); clear HB; have HB := n0_; clear n0_; (try clear hb); (try clear hb2); (try clear hk); (try clear hi); have p6 : 0 ≤ (0 : Int) := (by omega); have q6 : 0 < (1 : Int) := (by omega); have hx6 := bt_at (⟨#[32]⟩ : ByteArray) 0; replace p6 := eq_true p6; replace q6 := eq_true q6) | ((with_reducible refine gate_callee (f := 27) rfl ?_); refine goesL_ (some 29) rfl rfl Tryd.func27 (by kernel_rfl) rfl #[.string t122, .int .u8 (bt (⟨#[32]⟩ : ByteArray) 0)] rfl (by (try simp only [List.map_toArray, List.map_cons, List.map_nil]); first | done | rfl | (simp only [List.length_drop, List.length_take]; rfl)) ?_; (with_reducible refine (octet_Cut.calls t122 (bt (⟨#[32]⟩ : ByteArray) 0) t124 t125 true _ A7.out).mono ?_); rintro e w32 ⟨rfl, hb⟩; refine ⟨_, rfl, ?_⟩; have n0_ := Aside0.mk (below_step (by repeat (first | (with_reducible first | exact HB.out | apply below_alloc | apply pw_below_drewN | apply below_drew1) | exact HB.out)) hb); clear HB; have HB := n0_; clear n0_; (try clear hb); (try clear hb2); (try clear hk); (try clear hi)) | ((with_reducible refine gate_callee (f := 23) rfl ?_); refine goesL_ (some 35) rfl rfl Tryd.func23 (by kernel_rfl) rfl #[.string t121] rfl (by (try simp only [List.map_toArray, List.map_cons, List.map_nil]); first | done | rfl | (simp only [List.length_drop, List.length_take]; rfl)) ?_; (with_reducible refine (line_version.calls t121 t127 true _ A8.out).mono ?_); rintro e w' ⟨rfl, ⟨nd, rfl⟩⟩; refine ⟨_, rfl, ?_⟩) | ((with_reducible refine gate_callee (f := 28) rfl ?_); refine goesL_ (some 40) rfl rfl Tryd.func28 (by kernel_rfl) rfl #[.string t124, .int .i64 599] rfl (by (try simp only [List.map_toArray, List.map_cons, List.map_nil]); first | done | rfl | (simp only [List.length_drop, List.length_take]; rfl)) ?_; (with_reducible refine (decimal_Number.calls t124 599 t129 t130 _ A9.out).mono ?_); rintro e w33 ⟨rfl, hb⟩; refine ⟨_, rfl, ?_⟩; have n0_ := Aside0.mk (below_step (by repeat (first | (with_reducible first | exact HB.out | apply below_alloc | apply pw_below_drewN | apply below_drew1) | exact HB.out)) hb); clear HB; have HB := n0_; clear n0_; (try clear hb); (try clear hb2); (try clear hk); (try clear hi)))
            refine bodyPost_ret (results_list (rs := [.tmp 2, .tmp 3, .tmp 4, .tmp 5]) rfl (by simp) (.tmp (.tmp (.tmp (.tmp .nil))))) rfl ?_
            exact ⟨by first | rfl | (simp [errW_none, errW_some] <;> rfl) | (simp [*, errW_none, errW_some] <;> rfl), by repeat (first | (with_reducible first | exact HB.out | apply below_alloc | apply pw_below_drewN | apply below_drew1) | exact HB.out)⟩
        · replace c11 := Bool.eq_false_iff.mpr c11
          subst c11
          have H1 : (some (0, (⟨#[]⟩ : ByteArray), 0, 20)) = some (r1, r2, r3, r4) := by rw [if_neg (show ¬ (false = true) by decide)] at H; exact H
          clear H
          have H := H1
          clear H1
          simp only [Option.some.injEq, Prod.mk.injEq] at H
          obtain ⟨rfl, rfl, rfl, rfl⟩ := H
          have p4 : 0 ≤ (0 : Int) := (by omega)
          have q4 : 0 < (1 : Int) := (by omega)
          have hx4 := bt_at (⟨#[32]⟩ : ByteArray) 0
          replace p4 := eq_true p4
          replace q4 := eq_true q4
          go_enter Tryd.func9, Tryd.ntmps9
          go_wp2_with (first | ((with_reducible refine gate_callee (f := 27) rfl ?_); refine goesL_ (some 22) rfl rfl Tryd.func27 (by kernel_rfl) rfl #[.string a0, .int .u8 (bt (⟨#[32]⟩ : ByteArray) 0)] rfl (by (try simp only [List.map_toArray, List.map_cons, List.map_nil]); first | done | rfl | (simp only [List.length_drop, List.length_take]; rfl)) ?_; (with_reducible refine (octet_Cut.calls a0 (bt (⟨#[32]⟩ : ByteArray) 0) t121 t122 t123 _ A5.out).mono ?_); rintro e w34 ⟨rfl, hb⟩; refine ⟨_, rfl, ?_⟩; have n0_ := Aside0.mk (below_step (by repeat (first | (with_reducible first | exact HB.out | apply below_alloc | apply pw_below_drewN | apply below_drew1) | exact HB.out)) hb); clear HB; have HB := n0_; clear n0_; (try clear hb); (try clear hb2); (try clear hk); (try clear hi); have p6 : 0 ≤ (0 : Int) := (by omega); have q6 : 0 < (1 : Int) := (by omega); have hx6 := bt_at (⟨#[32]⟩ : ByteArray) 0; replace p6 := eq_true p6; replace q6 := eq_true q6) | ((with_reducible refine gate_callee (f := 27) rfl ?_); refine goesL_ (some 29) rfl rfl Tryd.func27 (by kernel_rfl) rfl #[.string t122, .int .u8 (bt (⟨#[32]⟩ : ByteArray) 0)] rfl (by (try simp only [List.map_toArray, List.map_cons, List.map_nil]); first | done | rfl | (simp only [List.length_drop, List.length_take]; rfl)) ?_; (with_reducible refine (octet_Cut.calls t122 (bt (⟨#[32]⟩ : ByteArray) 0) t124 t125 false _ A7.out).mono ?_); rintro e w35 ⟨rfl, hb⟩; refine ⟨_, rfl, ?_⟩; have n0_ := Aside0.mk (below_step (by repeat (first | (with_reducible first | exact HB.out | apply below_alloc | apply pw_below_drewN | apply below_drew1) | exact HB.out)) hb); clear HB; have HB := n0_; clear n0_; (try clear hb); (try clear hb2); (try clear hk); (try clear hi)) | ((with_reducible refine gate_callee (f := 23) rfl ?_); refine goesL_ (some 35) rfl rfl Tryd.func23 (by kernel_rfl) rfl #[.string t121] rfl (by (try simp only [List.map_toArray, List.map_cons, List.map_nil]); first | done | rfl | (simp only [List.length_drop, List.length_take]; rfl)) ?_; (with_reducible refine (line_version.calls t121 t127 true _ A8.out).mono ?_); rintro e w' ⟨rfl, ⟨nd, rfl⟩⟩; refine ⟨_, rfl, ?_⟩) | ((with_reducible refine gate_callee (f := 28) rfl ?_); refine goesL_ (some 40) rfl rfl Tryd.func28 (by kernel_rfl) rfl #[.string t124, .int .i64 599] rfl (by (try simp only [List.map_toArray, List.map_cons, List.map_nil]); first | done | rfl | (simp only [List.length_drop, List.length_take]; rfl)) ?_; (with_reducible refine (decimal_Number.calls t124 599 t129 t130 _ A9.out).mono ?_); rintro e w36 ⟨rfl, hb⟩; refine ⟨_, rfl, ?_⟩; have n0_ := Aside0.mk (below_step (by repeat (first | (with_reducible first | exact HB.out | apply below_alloc | apply pw_below_drewN | apply below_drew1) | exact HB.out)) hb); clear HB; have HB := n0_; clear n0_; (try clear hb); (try clear hb2); (try clear hk); (try clear hi)))
          refine bodyPost_ret (results_list (rs := [.tmp 2, .tmp 3, .tmp 4, .tmp 5]) rfl (by simp) (.tmp (.tmp (.tmp (.tmp .nil))))) rfl ?_
          exact ⟨by first | rfl | (simp [errW_none, errW_some] <;> rfl) | (simp [*, errW_none, errW_some] <;> rfl), by repeat (first | (with_reducible first | exact HB.out | apply below_alloc | apply pw_below_drewN | apply below_drew1) | exact HB.out)⟩
      · replace c10 := Bool.eq_false_iff.mpr c10
        subst c10
        have H1 : (some (0, (⟨#[]⟩ : ByteArray), 0, 20)) = some (r1, r2, r3, r4) := by rw [if_neg (show ¬ (false = true) by decide)] at H; exact H
        clear H
        have H := H1
        clear H1
        simp only [Option.some.injEq, Prod.mk.injEq] at H
        obtain ⟨rfl, rfl, rfl, rfl⟩ := H
        have p4 : 0 ≤ (0 : Int) := (by omega)
        have q4 : 0 < (1 : Int) := (by omega)
        have hx4 := bt_at (⟨#[32]⟩ : ByteArray) 0
        replace p4 := eq_true p4
        replace q4 := eq_true q4
        go_enter Tryd.func9, Tryd.ntmps9
        go_wp2_with (first | ((with_reducible refine gate_callee (f := 27) rfl ?_); refine goesL_ (some 22) rfl rfl Tryd.func27 (by kernel_rfl) rfl #[.string a0, .int .u8 (bt (⟨#[32]⟩ : ByteArray) 0)] rfl (by (try simp only [List.map_toArray, List.map_cons, List.map_nil]); first | done | rfl | (simp only [List.length_drop, List.length_take]; rfl)) ?_; (with_reducible refine (octet_Cut.calls a0 (bt (⟨#[32]⟩ : ByteArray) 0) t121 t122 t123 _ A5.out).mono ?_); rintro e w37 ⟨rfl, hb⟩; refine ⟨_, rfl, ?_⟩; have n0_ := Aside0.mk (below_step (by repeat (first | (with_reducible first | exact HB.out | apply below_alloc | apply pw_below_drewN | apply below_drew1) | exact HB.out)) hb); clear HB; have HB := n0_; clear n0_; (try clear hb); (try clear hb2); (try clear hk); (try clear hi); have p6 : 0 ≤ (0 : Int) := (by omega); have q6 : 0 < (1 : Int) := (by omega); have hx6 := bt_at (⟨#[32]⟩ : ByteArray) 0; replace p6 := eq_true p6; replace q6 := eq_true q6) | ((with_reducible refine gate_callee (f := 27) rfl ?_); refine goesL_ (some 29) rfl rfl Tryd.func27 (by kernel_rfl) rfl #[.string t122, .int .u8 (bt (⟨#[32]⟩ : ByteArray) 0)] rfl (by (try simp only [List.map_toArray, List.map_cons, List.map_nil]); first | done | rfl | (simp only [List.length_drop, List.length_take]; rfl)) ?_; (with_reducible refine (octet_Cut.calls t122 (bt (⟨#[32]⟩ : ByteArray) 0) t124 t125 t126 _ A7.out).mono ?_); rintro e w38 ⟨rfl, hb⟩; refine ⟨_, rfl, ?_⟩; have n0_ := Aside0.mk (below_step (by repeat (first | (with_reducible first | exact HB.out | apply below_alloc | apply pw_below_drewN | apply below_drew1) | exact HB.out)) hb); clear HB; have HB := n0_; clear n0_; (try clear hb); (try clear hb2); (try clear hk); (try clear hi)) | ((with_reducible refine gate_callee (f := 23) rfl ?_); refine goesL_ (some 35) rfl rfl Tryd.func23 (by kernel_rfl) rfl #[.string t121] rfl (by (try simp only [List.map_toArray, List.map_cons, List.map_nil]); first | done | rfl | (simp only [List.length_drop, List.length_take]; rfl)) ?_; (with_reducible refine (line_version.calls t121 t127 false _ A8.out).mono ?_); rintro e w' ⟨rfl, ⟨nd, rfl⟩⟩; refine ⟨_, rfl, ?_⟩) | ((with_reducible refine gate_callee (f := 28) rfl ?_); refine goesL_ (some 40) rfl rfl Tryd.func28 (by kernel_rfl) rfl #[.string t124, .int .i64 599] rfl (by (try simp only [List.map_toArray, List.map_cons, List.map_nil]); first | done | rfl | (simp only [List.length_drop, List.length_take]; rfl)) ?_; (with_reducible refine (decimal_Number.calls t124 599 t129 t130 _ A9.out).mono ?_); rintro e w39 ⟨rfl, hb⟩; refine ⟨_, rfl, ?_⟩; have n0_ := Aside0.mk (below_step (by repeat (first | (with_reducible first | exact HB.out | apply below_alloc | apply pw_below_drewN | apply below_drew1) | exact HB.out)) hb); clear HB; have HB := n0_; clear n0_; (try clear hb); (try clear hb2); (try clear hk); (try clear hi)))
        refine bodyPost_ret (results_list (rs := [.tmp 2, .tmp 3, .tmp 4, .tmp 5]) rfl (by simp) (.tmp (.tmp (.tmp (.tmp .nil))))) rfl ?_
        exact ⟨by first | rfl | (simp [errW_none, errW_some] <;> rfl) | (simp [*, errW_none, errW_some] <;> rfl), by repeat (first | (with_reducible first | exact HB.out | apply below_alloc | apply pw_below_drewN | apply below_drew1) | exact HB.out)⟩
    · rw [if_neg c3] at H
      exact absurd H (by simp)

/-! ### strings_Join: function 44: told by hand -/
theorem join_extra : Builder.Extra Tryd.prog Tryd.lays156_ren := {
  sizeBuilder := by kernel_rfl
  liesBuilder := by kernel_rfl
  t5 := Tryd.underlying5
  a5 := Tryd.isAgg5
  z5 := Tryd.sizeOf5
  v5 := Tryd.zeroValue5
  infoByte := by kernel_rfl
  cellsByte := by kernel_rfl
  sizeByte := by kernel_rfl
  neB5 := by decide }
def strings_Join.f (l0 : List ByteArray) (a1 : ByteArray) : Option (ByteArray) := if l0.length ≤ 140737488355328 ∧ (Lib.join (l0.map (·.data.toList)) a1.data.toList).length ≤ 140737488355328 then some ⟨(Lib.join (l0.map (·.data.toList)) a1.data.toList).toArray⟩ else none
theorem strings_Join.calls (A0 : Option Addr) (c0 : Nat) (l0 : List ByteArray) (a1 r : ByteArray) (w : World) (hr0 : Kd.C Kd.string w A0 l0.length l0) (hc0 : l0.length ≤ c0) (h : strings_Join.f l0 a1 = some r) :
    Calls Tryd.prog 44 #[.slice A0 l0.length c0, .string a1] w fun e w' => e = .returned (.string r) ∧ Below w.heap.size w w' := by
  unfold strings_Join.f at h
  split at h
  case isFalse => cases h
  case isTrue hs =>
    obtain rfl := Option.some.inj h
    by_cases hn : 0 < l0.length
    · obtain ⟨bk, o, rfl, hbk, hcells⟩ := Hand.C_cells hr0 hn
      exact Any.strings_Join Tryd.lays156 join_extra bk o c0 l0 a1 w hcells hbk hs.1 hc0 hs.2
    · obtain rfl : l0 = [] := List.eq_nil_of_length_eq_zero (by omega)
      exact (Any.strings_Join_none Tryd.lays156 join_extra A0 c0 a1 w).mono fun e w' ⟨he, hw⟩ => ⟨he, hw ▸ Below.refl _ _⟩

/-! ### line_words: function 31 -/
def line_words.f (l0 : List ByteArray) : Option (ByteArray) := (strings_Join.f l0 (⟨#[32]⟩ : ByteArray)).bind fun t132 => (some t132)
set_option maxHeartbeats 8000000 in
set_option maxRecDepth 100000 in
theorem line_words.calls (A0 : Option Addr) (c0 : Nat) (l0 : List ByteArray) (r : ByteArray) (w : World) (hr0 : Kd.C Kd.string w A0 l0.length l0) (hc0 : l0.length ≤ c0) (h : line_words.f l0 = some r) :
    Calls Tryd.prog 31 #[.slice A0 l0.length c0] w fun e w' => e = .returned (.string r) ∧ Below w.heap.size w w' := by
  have HR0 := Aside0.mk hr0
  have HC0 := Aside0.mk hc0
  clear hr0 hc0
  have HB := Aside0.mk (Below.refl w.heap.size w)
  have H : ((strings_Join.f l0 (⟨#[32]⟩ : ByteArray)).bind fun t132 => (some t132)) = some r := h
  clear h
  replace H := Option.bind_eq_some_iff.mp H
  obtain ⟨t132, A20, H⟩ := H
  replace H : (some t132) = some r := H
  have A2 := Aside0.mk A20
  clear A20
  obtain rfl := Option.some.inj H
  go_enter Tryd.func31, Tryd.ntmps31
  go_wp2_with (first | ((with_reducible refine gate_callee (f := 44) rfl ?_); refine goesL_ (some 4) rfl rfl Tryd.func44 (by kernel_rfl) rfl #[.slice A0 l0.length c0, .string (⟨#[32]⟩ : ByteArray)] rfl (by (try simp only [List.map_toArray, List.map_cons, List.map_nil]); first | done | rfl | (simp only [List.length_drop, List.length_take]; rfl)) ?_; (with_reducible refine (strings_Join.calls _ _ l0 (⟨#[32]⟩ : ByteArray) t132 _ ?side1 ?side2 A2.out).mono ?_); (case side1 => repeat (first | exact HR0.out | (with_reducible refine Kd.C_alloc ?_ _) | (with_reducible refine Kd.C_drewN ?_ _) | (with_reducible refine Kd.C_drew ?_))); (case side2 => exact HC0.out); rintro e w3 ⟨rfl, hb⟩; refine ⟨_, rfl, ?_⟩; have n0_ := Aside0.mk (below_step (by repeat (first | (with_reducible first | exact HB.out | apply below_alloc | apply pw_below_drewN | apply below_drew1) | exact HB.out)) hb); clear HB; have HB := n0_; clear n0_; (try clear hb); (try clear hb2); (try clear hk); (try clear hi)))
  go_ret
  exact ⟨by first | rfl | (simp [errW_none, errW_some] <;> rfl) | (simp [*, errW_none, errW_some] <;> rfl), by repeat (first | (with_reducible first | exact HB.out | apply below_alloc | apply pw_below_drewN | apply below_drew1) | exact HB.out)⟩

/-! ### strconv_Itoa: function 45: told by hand -/
def strconv_Itoa.f (a0 : Int) : Option (ByteArray) := if -9223372036854775808 ≤ a0 ∧ a0 ≤ 9223372036854775807 then some ⟨(Lib.itoa a0).toArray⟩ else none
theorem strconv_Itoa.calls (a0 : Int) (r : ByteArray) (w : World) (HT : Aside0 (Hand.Laid w)) (h : strconv_Itoa.f a0 = some r) :
    Calls Tryd.prog 45 #[.int .i64 a0] w fun e w' => e = .returned (.string r) ∧ Below w.heap.size w w' := by
  unfold strconv_Itoa.f at h
  split at h
  case isFalse => cases h
  case isTrue hs =>
    obtain rfl := Option.some.inj h
    refine (Any.strconv_Itoa Tryd.laysM171 a0 hs.1 hs.2 w HT.out.pow10).mono ?_
    rintro e w' ⟨rfl, k, os, rfl⟩
    exact ⟨rfl, Lib.below_grow _ w (Nat.le_refl _) k os⟩

end Go.Proofs.YtljikgfhglihhaaDoor.PR
