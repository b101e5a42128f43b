/- strings.IndexAny at '/?', whatever the text. -/
import Derived.Test.YtghaocjhmambaaaDoorIdx
import Derived.Lib.OthersKept
import Derived.Shelf.Strings.IndexAnyAll
namespace Go.Proofs.YtghaocjhmambaaaDoor.Hand
open Go.RowKit Go.Proofs.YtghaocjhmambaaaDoorW.PrintWords
set_option linter.unusedVariables false
set_option linter.unusedSimpArgs false
set_option maxRecDepth 10000
theorem high_not (x : UInt8) (h : 128 ≤ x.toNat) : ([47, 63] : List UInt8).contains x = false := by
  have h1 : x ≠ 47 := fun e => by subst e; exact absurd h (by decide)
  have h2 : x ≠ 63 := fun e => by subst e; exact absurd h (by decide)
  simp [h1, h2]
theorem noAny_span {s : ByteArray} {i d : Nat} (h : Lib.NoAny s.data.toList [47, 63] i) (hd : ∀ j, i ≤ j → j < i + d → 128 ≤ (s.get! j).toNat) (hs : i + d ≤ s.size) : Lib.NoAny s.data.toList [47, 63] (i + d) := by
  intro j b hj hb
  by_cases hi : j < i
  · exact h j b hi hb
  · have h3 := hd j (by omega) hj
    have hl : j < s.size := by omega
    have h4 := get_at s j hl
    rw [Nat.add_zero] at h4
    rw [h4] at h3
    rw [Go.Proofs.byte_at s j hl] at hb
    have : s[j] = b := Option.some.inj hb
    rw [← this]
    exact high_not _ h3
set_option maxHeartbeats 800000 in
theorem short_wide (n : Int) (w : World) : Calls Tryd.prog 65 #[.int .i64 n] w fun e w' => e = .returned (.bool (decide (8 < n))) ∧ w' = w := Any.strings_shouldUseASCIISet { Tryd.lays153 with } n w
theorem idx_ascii (c : UInt8) (h : c.toNat < 128) (w : World) : Calls Tryd.prog 64 #[.string ⟨#[47, 63]⟩, .int .i32 c.toNat] w fun e w' => e = .returned (.int .i64 (Lib.indexByte [47, 63] c)) ∧ w' = w := by
  have := Any.strings_IndexRune_ascii (P := Tryd.prog) { Tryd.lays153 with } ⟨#[47, 63]⟩ (c.toNat : Int) w (by omega) (by omega)
  have hb : ((c.toNat : Int)).toNat.toUInt8 = c := by simp
  rw [hb] at this
  exact this
set_option maxHeartbeats 3200000 in
set_option maxRecDepth 100000 in
theorem any_short (s : ByteArray) (w : World) (h8 : s.size ≤ 8) :
    Calls Tryd.prog 52 #[.string s, .string ⟨#[47, 63]⟩] w fun e w' => e = .returned (.int .i64 (Lib.indexAny s.data.toList [47, 63])) ∧ Below w.heap.size w w' := by
  have h8z : decide ((8 : Int) < (s.size : Int)) = false := decide_eq_false (by omega)
  go_enter Tryd.func52, Tryd.ntmps52
  go_wp2_with (go_at_call 65; refine (short_wide _ _).mono ?_; rintro e w' ⟨rfl, hw⟩; rw [hw, h8z])
  go_loopw [9, 10] (fun _ _ wr => ∃ pos : Nat, wr.heap[w.heap.size]? = some (.stringIter s pos) ∧ Below w.heap.size w wr ∧ pos ≤ s.size ∧ Lib.NoAny s.data.toList [47, 63] pos) (fun _ _ wr => s.size - wr.iterPos w.heap.size)
  case atStart =>
    exact ⟨0, World.iter_heap w s 0, below_iter _ _ _, by omega, Lib.NoAny.zero _ _⟩
  case round =>
    obtain ⟨pos, hit, hbw, hle, hno⟩ := hrel
    have HN : Aside (Lib.NoAny s.data.toList [47, 63] pos) := hno
    clear hno
    have hsz : w.heap.size < wr.heap.size := (Array.getElem?_eq_some_iff.1 hit).1
    by_cases hp : pos < s.size
    · have hnx : ∀ ty, (Instr.next (.pointer (some ⟨w.heap.size, 0, none⟩)) true ty).run Tryd.prog wr = _ := fun ty => Lib.run_next_any_at wr w.heap.size s pos ty hit hp
      have hit2 := Lib.iterAt_heap wr w.heap.size s pos (pos + (Utf8.decode s pos).2) hit
      have hbw2 := Lib.below_iterAt hbw (k := w.heap.size) (Nat.le_refl _) s (pos + (Utf8.decode s pos).2)
      have hs2 := Lib.iterAt_size wr w.heap.size s (pos + (Utf8.decode s pos).2)
      obtain ⟨x, hx⟩ : ∃ x : UInt8, s[pos]'hp = x := ⟨_, rfl⟩
      have Hx : Aside (s.data.toList[pos]? = some x) := by show _ = _; rw [← hx]; exact Lib.data_getElem? s pos hp
      by_cases ha : x.toNat < 128
      · have hd := decode_ascii s pos hp (by rw [hx]; exact ha)
        rw [hd] at hnx hit2 hbw2 hs2
        rw [hx] at hnx
        clear hx hd
        have hcon := Lib.contains_iff_indexByte [47, 63] x
        cases hin : ([47, 63] : List UInt8).contains x
        · rw [hin] at hcon
          have hlt : ¬ ((0 : Int) ≤ Lib.indexByte [47, 63] x) := of_decide_eq_false hcon.symm
          clear hcon
          go_wp2_with (go_at_call 64; refine (idx_ascii x ha _).mono ?_; rintro e w' ⟨rfl, hw⟩; rw [hw])
          go_roundw
          case rel => exact ⟨pos + 1, hit2, hbw2, by omega, HN.out.succ Hx.out hin⟩
          case measure => simp only [World.iterPos, hit2, hit]; omega
        · rw [hin] at hcon
          have hge : (0 : Int) ≤ Lib.indexByte [47, 63] x := of_decide_eq_true hcon.symm
          clear hcon
          go_wp2_with (go_at_call 64; refine (idx_ascii x ha _).mono ?_; rintro e w' ⟨rfl, hw⟩; rw [hw])
          go_ret
          exact ⟨by rw [Lib.indexAny_hit HN.out Hx.out hin]; rfl, hbw2⟩
      · have hdh := decode_high s pos hp (by rw [hx]; omega)
        have hg := get_at s pos hp
        rw [Nat.add_zero] at hg
        obtain ⟨d1, d2, d3⟩ := decode_span s pos hp (by rw [hg, hx]; omega)
        have HN2 : Aside (Lib.NoAny s.data.toList [47, 63] (pos + (Utf8.decode s pos).2)) := noAny_span HN.out d3 d2
        clear hx hg d3 HN
        have I := idx_rune ((Utf8.decode s pos).1 : Int) (by omega)
        go_wp2_with (go_at_call 64; refine (I _).mono ?_; rintro e W1 ⟨rfl, hw⟩)
        have hit3 : W1.heap[w.heap.size]? = some (.stringIter s (pos + (Utf8.decode s pos).2)) := by rw [hw.block _ (by rw [hs2]; exact hsz)]; exact hit2
        go_wp2
        go_roundw
        case rel => exact ⟨pos + (Utf8.decode s pos).2, hit3, hbw2.trans (hw.mono (by rw [hs2]; omega)), d2, HN2.out⟩
        case measure => simp only [World.iterPos, hit3, hit]; omega
    · have hnx : ∀ ty, (Instr.next (.pointer (some ⟨w.heap.size, 0, none⟩)) true ty).run Tryd.prog wr = _ := fun ty => Lib.run_next_end_at wr w.heap.size s pos ty hit hp
      have hpe : pos = s.size := by omega
      go_wp2
      go_ret
      exact ⟨by rw [Lib.indexAny_none (by rw [← Lib.size_eq, ← hpe]; exact HN.out)]; rfl, hbw⟩
theorem any_any (s : ByteArray) (w : World) (hs : s.size < 4294967281) :
    Calls Tryd.prog 52 #[.string s, .string ⟨#[47, 63]⟩] w fun e w' => e = .returned (.int .i64 (Lib.indexAny s.data.toList [47, 63])) ∧ Below w.heap.size w w' := by
  by_cases h8 : s.size ≤ 8
  · exact any_short s w h8
  · have h116 : (Tryd.prog.info? (Tryd.lays153_ren.t 116)).map (fun i => (i.zero, i.size)) = some (some (.agg (Array.replicate 256 (.bool false))), 256) := by kernel_rfl
    refine (Any.strings_IndexAny_long Tryd.lays153 (zero_of_info h116).1 (zero_of_info h116).2 s ⟨#[47, 63]⟩ w (by decide) (by omega) hs (by decide) ?_).mono fun e w' ⟨h1, h2⟩ => ⟨h1, ?_⟩
    · intro j b hb
      have := List.mem_of_getElem? hb
      have h4 : b ∈ ([47, 63] : List UInt8) := this
      rcases List.mem_cons.1 h4 with rfl | h5
      · decide
      · rcases List.mem_cons.1 h5 with rfl | h6
        · decide
        · cases h6
    · rw [h2]
      exact ((Below.refl _ _).alloc (Nat.le_refl _) _).alloc (by simp) _
end Go.Proofs.YtghaocjhmambaaaDoor.Hand
