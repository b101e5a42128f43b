/- strings.IndexRune and IndexAny at '/' and '?', whatever the text: by walks. -/
import Derived.Test.YtghaocjhmambaaaDoorHand
import Derived.Test.YtghaocjhmambaaaDoorShelf
import Derived.Test.YtghaocjhmambaaaDoorDigit
import Derived.Stop.FmtQuoteTie
import Derived.Laws.RangeAny
namespace Go.Proofs.YtghaocjhmambaaaDoor.Hand
open Go.RowKit Go.Proofs.YtghaocjhmambaaaDoorW.PrintWords
set_option linter.unusedVariables false
set_option linter.unusedSimpArgs false
set_option maxRecDepth 10000
set_option maxHeartbeats 800000 in
set_option maxRecDepth 100000 in
theorem idx_err (w : World) : Calls Tryd.prog 64 #[.string ⟨#[47, 63]⟩, .int .i32 65533] w fun e w' => e = .returned (.int .i64 (-1)) ∧ Below w.heap.size w w' := by
  go_enter Tryd.func64, Tryd.ntmps64
  go_wp2_with fail
  go_loopw [5] (fun _ w' => ∃ k : Nat, k ≤ 2 ∧ w' = w.iter ⟨#[47, 63]⟩ k) (fun _ w' => 2 - w'.iterPos w.heap.size)
  case atStart => exact ⟨0, by decide, rfl⟩
  case round =>
    obtain ⟨k, hk, rfl⟩ := hrel
    have h3 : k = 0 ∨ k = 1 ∨ k = 2 := by omega
    rcases h3 with rfl | rfl | rfl
    · have n0 : ∀ ty, (Instr.next (.pointer (some ⟨w.heap.size, 0, none⟩)) true ty).run Tryd.prog (w.iter ⟨#[47, 63]⟩ 0) = .ok (.tuple #[.bool true, .int .i64 0, .int .i32 47]) (w.iter ⟨#[47, 63]⟩ 1) := fun ty => by
        rw [run_next_any w ⟨#[47, 63]⟩ 0 ty (by decide), decode_ascii _ 0 (by decide) (by decide)]; rfl
      go_wp2
      go_roundw
      case rel => exact ⟨1, by decide, rfl⟩
      case measure => simp
    · have n1 : ∀ ty, (Instr.next (.pointer (some ⟨w.heap.size, 0, none⟩)) true ty).run Tryd.prog (w.iter ⟨#[47, 63]⟩ 1) = .ok (.tuple #[.bool true, .int .i64 1, .int .i32 63]) (w.iter ⟨#[47, 63]⟩ 2) := fun ty => by
        rw [run_next_any w ⟨#[47, 63]⟩ 1 ty (by decide), decode_ascii _ 1 (by decide) (by decide)]; rfl
      go_wp2
      go_roundw
      case rel => exact ⟨2, by decide, rfl⟩
      case measure => simp
    · have n2 : ∀ ty, (Instr.next (.pointer (some ⟨w.heap.size, 0, none⟩)) true ty).run Tryd.prog (w.iter ⟨#[47, 63]⟩ 2) = _ := fun ty => run_next_end w ⟨#[47, 63]⟩ 2 ty (by decide)
      go_wp2
      go_ret
      exact ⟨rfl, below_iter _ _ _⟩
def validR (c : Int) : Bool := (decide (0 ≤ c) && decide (c < 55296)) || (decide (57343 < c) && decide (c ≤ 1114111))
theorem valid_any (c : Int) (h : 128 ≤ c ∧ c ≤ 1114111) (w : World) : Calls Tryd.prog 75 #[.int .i32 c] w fun e w' => e = .returned (.bool (validR c)) ∧ w' = w := by
  have h0 : 0 ≤ c := by omega
  have h3 : c ≤ 1114111 := by omega
  by_cases h1 : c < 55296
  · have K : Hid (validR c = true) := by show _ = _; unfold validR; rw [decide_eq_true h0, decide_eq_true h1]; rfl
    go_enter Tryd.func75, Tryd.ntmps75
    go_wp2
    go_ret
    exact ⟨by rw [K.out]; rfl, rfl⟩
  · by_cases h2 : 57343 < c
    · have K : Hid (validR c = true) := by show _ = _; unfold validR; rw [decide_eq_true h2, decide_eq_true h3]; simp
      go_enter Tryd.func75, Tryd.ntmps75
      go_wp2
      go_ret
      exact ⟨by rw [K.out]; rfl, rfl⟩
    · have K : Hid (validR c = false) := by show _ = _; unfold validR; rw [decide_eq_false h1, decide_eq_false h2]; simp
      go_enter Tryd.func75, Tryd.ntmps75
      go_wp2
      go_ret
      exact ⟨by rw [K.out]; rfl, rfl⟩
set_option maxHeartbeats 800000 in
set_option maxRecDepth 100000 in
theorem idx_bad (c : Int) (h : 55296 ≤ c ∧ c ≤ 57343) (w : World) : Calls Tryd.prog 64 #[.string ⟨#[47, 63]⟩, .int .i32 c] w fun e w' => e = .returned (.int .i64 (-1)) ∧ w' = w := by
  have q1 : (c == 65533) = false := beq_eq_false_iff_ne.mpr (by omega)
  have q2 : ¬ c < 128 := by omega
  have q3 : 0 ≤ c := by omega
  have V := valid_any c (by omega) w
  have e : validR c = false := by unfold validR; rw [decide_eq_false (p := c < 55296) (by omega), decide_eq_false (p := 57343 < c) (by omega)]; simp
  rw [e] at V
  clear e
  go_enter Tryd.func64, Tryd.ntmps64
  go_wp2_with (go_at_call 75; refine V.mono ?_; rintro e w' ⟨rfl, rfl⟩; clear V)
  go_ret
  exact ⟨rfl, rfl⟩
set_option maxHeartbeats 800000 in
set_option maxRecDepth 100000 in
theorem idx_long (c : Int) (h : 128 ≤ c ∧ c ≤ 1114111) (hs : validR c = true) (he : c ≠ 65533) (hsz : 3 ≤ (Utf8.encode c).size ∧ (Utf8.encode c).size ≤ 4) (w : World) : Calls Tryd.prog 64 #[.string ⟨#[47, 63]⟩, .int .i32 c] w fun e w' => e = .returned (.int .i64 (-1)) ∧ w' = w := by
  have q1 : (c == 65533) = false := beq_eq_false_iff_ne.mpr he
  have q2 : ¬ c < 128 := by omega
  have q3 : 0 ≤ c := by omega
  have V := valid_any c h w
  rw [hs] at V
  obtain ⟨s1, s2⟩ := hsz
  have hw : wrap64 (((Utf8.encode c).size : Int) - 1) = ((Utf8.encode c).size : Int) - 1 := by unfold wrap64; omega
  clear hs he
  go_enter Tryd.func64, Tryd.ntmps64
  go_wp2_with (go_at_call 75; refine V.mono ?_; rintro e w' ⟨rfl, rfl⟩; clear V)
  go_step3
  go_wp2
  have q7 : ¬ (((Utf8.encode c).size : Int) - 1 < 2) := by omega
  go_loopw [9] (fun v w1 => v = .int .i64 (((Utf8.encode c).size : Int) - 1) ∧ w1 = w') (fun _ _ => 0)
  case atStart => exact ⟨by first | rfl | (rw [hw]), rfl⟩
  case round =>
    obtain ⟨rfl, rfl⟩ := hrel
    go_wp2
    (try rw [Exit.noGoto_ret])
    go_ret
    exact ⟨rfl, rfl⟩
set_option maxHeartbeats 1600000 in
set_option maxRecDepth 100000 in
theorem idx_two (c : Int) (h : 128 ≤ c ∧ c ≤ 1114111) (hs : validR c = true) (he : c ≠ 65533) (hsz : (Utf8.encode c).size = 2) (hl : ∀ hh : 1 < (Utf8.encode c).size, ((((Utf8.encode c)[1]'hh).toNat : Nat) : Int) ≠ 63) (w : World) : Calls Tryd.prog 64 #[.string ⟨#[47, 63]⟩, .int .i32 c] w fun e w' => e = .returned (.int .i64 (-1)) ∧ Below w.heap.size w w' := by
  have q1 : (c == 65533) = false := beq_eq_false_iff_ne.mpr he
  have q2 : ¬ c < 128 := by omega
  have q3 : 0 ≤ c := by omega
  have V := valid_any c h w
  rw [hs] at V
  have hw : wrap64 (((Utf8.encode c).size : Int) - 1) = 1 := by rw [hsz]; unfold wrap64; omega
  clear hs he
  go_enter Tryd.func64, Tryd.ntmps64
  go_wp2_with (go_at_call 75; refine V.mono ?_; rintro e w' ⟨rfl, rfl⟩; clear V)
  go_step3
  go_wp2
  go_loopw [9] (fun v w1 => v = .int .i64 1 ∧ w1 = w') (fun _ _ => 0)
  case atStart => exact ⟨by first | rfl | (rw [hw]), rfl⟩
  case round =>
    obtain ⟨rfl, rfl⟩ := hrel
    have hh : 1 < (Utf8.encode c).size := by omega
    have hl1 := hl hh
    have q8 : (((((⟨#[47, 63]⟩ : ByteArray)[1]'(by decide)).toNat : Nat) : Int) != ((((Utf8.encode c)[1]'hh).toNat : Nat) : Int)) = true := bne_iff_ne.mpr (Ne.symm hl1)
    have q9 := bne_iff_ne.mp q8
    go_wp2_with fail
    go_step3
    go_wp2_with fail
    go_region
    go_wp2_with fail
    have hm1 : Lib.indexByte [] ((Utf8.encode c)[1]'hh) = -1 := rfl
    go_region_with (go_at_call 40; refine (Any.strings_IndexByte Tryd.lays137 _ _ _).mono ?_; rintro e w' ⟨rfl, rfl⟩)
    all_goals
      go_wp2
      rw [Exit.noGoto_ret]
      simp (config := { zetaDelta := true }) only [Exit.inBlock, Exit.then]
      (try rw [Exit.noGoto_ret])
      (try simp (config := { zetaDelta := true }) only [Exit.inBlock, Exit.then])
      go_ret
      exact ⟨rfl, Below.drew (Below.drew (Below.refl _ _))⟩
theorem data_size {s : ByteArray} {l : List UInt8} (h : s.data.toList = l) : s.size = l.length := by rw [← h]; exact (data_length s).symm
theorem byte_at_idx (s : ByteArray) (hh : 1 < s.size) : s.data.toList[1]? = some (s[1]'hh) := Go.Proofs.byte_at s 1 hh
theorem last_ne (r : Nat) : (((UInt8.ofNat (128 + r % 64)).toNat : Nat) : Int) ≠ 63 := by
  rw [UInt8.toNat_ofNat']
  omega
theorem second_ne (s : ByteArray) (a : UInt8) (r : Nat) (e : s.data.toList = [a, UInt8.ofNat (128 + r % 64)]) : ∀ hh : 1 < s.size, (((s[1]'hh).toNat : Nat) : Int) ≠ 63 := by
  intro hh
  have h3 := byte_at_idx s hh
  rw [e] at h3
  have h4 : UInt8.ofNat (128 + r % 64) = s[1]'hh := Option.some.inj h3
  rw [← h4]
  exact last_ne r
theorem idx_rune (c : Int) (h : 128 ≤ c ∧ c ≤ 1114111) (w : World) : Calls Tryd.prog 64 #[.string ⟨#[47, 63]⟩, .int .i32 c] w fun e w' => e = .returned (.int .i64 (-1)) ∧ Below w.heap.size w w' := by
  by_cases he : c = 65533
  · subst he; exact idx_err w
  · by_cases hv : 55296 ≤ c ∧ c ≤ 57343
    · exact (idx_bad c hv w).mono fun e w' ⟨h1, h2⟩ => ⟨h1, h2 ▸ Below.refl _ _⟩
    · have hs : validR c = true := by
        unfold validR
        by_cases h1 : c < 55296
        · rw [decide_eq_true (p := 0 ≤ c) (by omega), decide_eq_true h1]; rfl
        · rw [decide_eq_true (p := 57343 < c) (by omega), decide_eq_true h.2]; simp
      obtain ⟨r, hr⟩ : ∃ r : Nat, c = (r : Int) := ⟨c.toNat, by omega⟩
      by_cases c2 : r < 2048
      · have e : (Utf8.encode c).data.toList = [UInt8.ofNat (192 + r / 64), UInt8.ofNat (128 + r % 64)] := by rw [hr]; exact Go.Extern.FmtText.enc2 r (by omega) c2
        have hsz := data_size e
        exact idx_two c h hs he hsz (second_ne _ _ r e) w
      · by_cases c3 : r < 65536
        · have e : (Utf8.encode c).data.toList = [UInt8.ofNat (224 + r / 4096), UInt8.ofNat (128 + r / 64 % 64), UInt8.ofNat (128 + r % 64)] := by rw [hr]; exact Go.Extern.FmtText.enc3 r c2 c3 (by omega)
          have hsz := data_size e
          exact (idx_long c h hs he (by rw [hsz]; simp) w).mono fun e w' ⟨h1, h2⟩ => ⟨h1, h2 ▸ Below.refl _ _⟩
        · have e : (Utf8.encode c).data.toList = [UInt8.ofNat (240 + r / 262144), UInt8.ofNat (128 + r / 4096 % 64), UInt8.ofNat (128 + r / 64 % 64), UInt8.ofNat (128 + r % 64)] := by rw [hr]; exact Go.Extern.FmtText.enc4 r c3 (by omega)
          have hsz := data_size e
          exact (idx_long c h hs he (by rw [hsz]; simp) w).mono fun e w' ⟨h1, h2⟩ => ⟨h1, h2 ▸ Below.refl _ _⟩
/-! what a rune that is no ASCII byte spans -/
theorem decode_span (s : ByteArray) (i : Nat) (h : i < s.size) (hb : 128 ≤ (s.get! i).toNat) : (Utf8.decode s i).1 ≤ 1114111 ∧ i + (Utf8.decode s i).2 ≤ s.size ∧ ∀ j, i ≤ j → j < i + (Utf8.decode s i).2 → 128 ≤ (s.get! j).toNat := by
  have one : ∀ j, i ≤ j → j < i + 1 → 128 ≤ (s.get! j).toNat := fun j h1 h2 => by have e : j = i := by omega
                                                                                  rw [e]; exact hb
  have hb' : ¬ (s.get! (i + 0)).toNat < 128 := by rw [Nat.add_zero]; omega
  have hv : ∀ c : Nat, Utf8.valid c = true → c ≤ 1114111 := by
    intro c hc
    simp [Utf8.valid] at hc
    omega
  unfold Utf8.decode
  simp only
  rw [if_neg hb']
  have lt := (s.get! (i + 0)).toNat_lt
  have lt1 := (s.get! (i + 1)).toNat_lt
  split
  case isTrue c1 =>
    simp at c1
    split
    · refine ⟨by show _ ≤ 1114111; omega, by show i + 2 ≤ s.size; omega, fun j h1 h2 => ?_⟩
      have : j = i ∨ j = i + 1 := by have : j < i + 2 := h2; omega
      rcases this with rfl | rfl
      · exact hb
      · omega
    · exact ⟨by show (65533 : Nat) ≤ 1114111; decide, h, one⟩
  case isFalse =>
    split
    case isTrue c1 =>
      simp at c1
      split
      case isTrue c2 =>
        simp at c2
        refine ⟨hv _ c2.2, by show i + 3 ≤ s.size; omega, fun j h1 h2 => ?_⟩
        have : j = i ∨ j = i + 1 ∨ j = i + 2 := by have : j < i + 3 := h2; omega
        rcases this with rfl | rfl | rfl
        · exact hb
        · omega
        · omega
      · exact ⟨by show (65533 : Nat) ≤ 1114111; decide, h, one⟩
    case isFalse =>
      split
      case isTrue c1 =>
        simp at c1
        split
        case isTrue c2 =>
          simp at c2
          refine ⟨hv _ c2.2, by show i + 4 ≤ s.size; omega, fun j h1 h2 => ?_⟩
          have : j = i ∨ j = i + 1 ∨ j = i + 2 ∨ j = i + 3 := by have : j < i + 4 := h2; omega
          rcases this with rfl | rfl | rfl | rfl
          · exact hb
          · omega
          · omega
          · omega
        · exact ⟨by show (65533 : Nat) ≤ 1114111; decide, h, one⟩
      · exact ⟨by show (65533 : Nat) ≤ 1114111; decide, h, one⟩
end Go.Proofs.YtghaocjhmambaaaDoor.Hand
