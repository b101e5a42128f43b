/- Small letters: octet.Lower, the reference's Lower, by walks; octet.from's closures. -/
import Derived.Test.YtjaklgikfcahdaaGreatDoorHand
import Derived.LoopN
import Derived.Lib.SlBytesRow
namespace Go.Proofs.YtjaklgikfcahdaaGreatDoor.Hand
open Go.RowKit Go.Proofs.YtjaklgikfcahdaaGreatDoorW.PrintWords
set_option linter.unusedVariables false
set_option linter.unusedSimpArgs false
def rangeB (a b c : Int) : Bool := decide (a ≤ c) && decide (c ≤ b)
theorem cell_below {w w' : World} {b : Nat} {i : Nat} {v : Value} (hb : Below w.heap.size w w') (h : w.cell? ⟨b, i, none⟩ = some v) (hl : b < w.heap.size) : w'.cell? ⟨b, i, none⟩ = some v := by
  rw [← h]
  exact World.cell?_of_block (hb.block b hl)
theorem from1_any (c lo hi : Int) (b1 b2 : Nat) (w : World) (h1 : w.cell? ⟨b1, 0, none⟩ = some (.int .u8 lo)) (h2 : w.cell? ⟨b2, 0, none⟩ = some (.int .u8 hi)) :
    Calls Tryz.prog 145 #[.int .u8 c, .pointer (some ⟨b1, 0, none⟩), .pointer (some ⟨b2, 0, none⟩)] w fun e w' => e = .returned (.bool (rangeB lo hi c)) ∧ w' = w := by
  by_cases a : lo ≤ c
  · by_cases b : c ≤ hi
    · go_enter Tryz.func145, Tryz.ntmps145
      go_wp2
      go_ret
      exact ⟨by rw [rangeB, decide_eq_true a, decide_eq_true b]; rfl, rfl⟩
    · go_enter Tryz.func145, Tryz.ntmps145
      go_wp2
      go_ret
      exact ⟨by rw [rangeB, decide_eq_true a, decide_eq_false (by omega)]; rfl, rfl⟩
  · go_enter Tryz.func145, Tryz.ntmps145
    go_wp2
    go_ret
    exact ⟨by rw [rangeB, decide_eq_false (by omega)]; rfl, rfl⟩
theorem from_any (lo hi : Int) (w : World) :
    Calls Tryz.prog 121 #[.int .u8 lo, .int .u8 hi] w fun e w' => (∃ b1 b2, e = .returned (.func (.func 145) #[] #[.pointer (some ⟨b1, 0, none⟩), .pointer (some ⟨b2, 0, none⟩)]) ∧ w'.cell? ⟨b1, 0, none⟩ = some (.int .u8 lo) ∧ w'.cell? ⟨b2, 0, none⟩ = some (.int .u8 hi) ∧ b1 < w'.heap.size ∧ b2 < w'.heap.size) ∧ Below w.heap.size w w' := by
  go_enter Tryz.func121, Tryz.ntmps121
  go_wp2
  refine bodyPost_ret (v := .func (.func 145) #[] #[.pointer (some ⟨w.heap.size, 0, none⟩), .pointer (some ⟨w.heap.size + 1, 0, none⟩)]) (by simp [results, Tryz.results121, go_sem]) rfl ⟨⟨_, _, rfl, by simp [go_sem], by simp [go_sem], by simp; omega, by simp⟩, ?_⟩
  exact ((Below.refl _ _).alloc (Nat.le_refl _) _).alloc (by simp) _
theorem range_le {a b c : Int} (h : rangeB a b c = true) : a ≤ c ∧ c ≤ b := by
  unfold rangeB at h
  simpa using h
/-! small letters -/
def lowerC (c : Int) : Int := if rangeB 65 90 c = true then c + 32 else c
def lowerD (l : List UInt8) : List UInt8 := l.map fun b => (lowerC (b.toNat : Int)).toNat.toUInt8
def lowerS (s : ByteArray) : ByteArray := ⟨(lowerD s.data.toList).toArray⟩
theorem lowerS_size (s : ByteArray) : (lowerS s).size = s.size := by
  show (lowerD s.data.toList).toArray.size = s.data.size
  rw [List.size_toArray, lowerD, List.length_map, Array.length_toList]
theorem u8_back (n : Int) (h : 0 ≤ n ∧ n ≤ 255) : ((n.toNat.toUInt8).toNat : Int) = n := by
  have : n.toNat.toUInt8.toNat = n.toNat % 256 := rfl
  omega
theorem lowerS_bt (s : ByteArray) (k : Nat) (hk : k < s.size) : bt (lowerS s) k = lowerC (bt s k) := by
  have h1 := bt_at (lowerS s) k (by rw [lowerS_size]; exact hk)
  have h2 := bt_at s k hk
  have e : (lowerS s)[k]'(by rw [lowerS_size]; exact hk) = (lowerC ((s[k]'hk).toNat : Int)).toNat.toUInt8 := by
    show (lowerD s.data.toList).toArray[k]'_ = _
    simp [lowerD]
    rfl
  have hb := bt_range s k
  have h2' : ((s[k]'hk).toNat : Int) = bt s k := h2
  have h1' : (((lowerS s)[k]'(by rw [lowerS_size]; exact hk)).toNat : Int) = bt (lowerS s) k := h1
  rw [← h1', e, h2']
  refine u8_back _ ?_
  unfold lowerC
  split
  case isTrue h => have := range_le h; omega
  case isFalse => exact hb
theorem bytes_thawed (w : World) (e : TypeId) (x : ByteArray) (j : Nat) (hj : j < x.size) : (Lib.bytesWorld w e x).frozen? ⟨w.heap.size, j, none⟩ = false := by
  have hs : x.size ≤ (Lib.bytesCells w e x).size := by
    unfold Lib.bytesCells
    rw [Array.size_append, Array.size_map]
    exact Nat.le_add_right _ _
  unfold World.frozen?
  rw [show (Lib.bytesWorld w e x).heap[(⟨w.heap.size, j, none⟩ : Addr).block]? = _ from Lib.bytesWorld_at_new w e x]
  show (decide ((Lib.bytesCells w e x).size ≤ j) && _) = false
  rw [decide_eq_false (by omega)]
  rfl
structure LowAt (w : World) (x : ByteArray) (B b1 b2 k : Nat) (w' : World) : Prop where
  cs : ∀ j : Nat, j < x.size → w'.cell? ⟨B, j, none⟩ = some (.int .u8 (if j < k then bt (lowerS x) j else bt x j))
  fr : ∀ j : Nat, j < x.size → w'.frozen? ⟨B, j, none⟩ = false
  k1 : w'.cell? ⟨b1, 0, none⟩ = some (.int .u8 65)
  k2 : w'.cell? ⟨b2, 0, none⟩ = some (.int .u8 90)
  n1 : b1 ≠ B
  n2 : b2 ≠ B
  le : w.heap.size ≤ B
  below : Below w.heap.size w w'
theorem LowAt.next {w w' : World} {x : ByteArray} {B b1 b2 k : Nat} (h : LowAt w x B b1 b2 k w') (hk : k < x.size) (hn : bt (lowerS x) k = bt x k) : LowAt w x B b1 b2 (k + 1) w' :=
  ⟨fun j hj => by
    rw [h.cs j hj]
    by_cases e : j = k
    · subst e; rw [if_neg (by omega), if_pos (by omega), hn]
    · by_cases l : j < k
      · rw [if_pos l, if_pos (by omega)]
      · rw [if_neg l, if_neg (by omega)], h.fr, h.k1, h.k2, h.n1, h.n2, h.le, h.below⟩
theorem LowAt.store {w w' : World} {x : ByteArray} {B b1 b2 k : Nat} (h : LowAt w x B b1 b2 k w') (hk : k < x.size) (v : Int) (hn : bt (lowerS x) k = v) : LowAt w x B b1 b2 (k + 1) (w'.setCell ⟨B, k, none⟩ (.int .u8 v)) :=
  ⟨fun j hj => by
    by_cases e : j = k
    · subst e
      rw [World.cell?_setCell_same _ _ _ (h.cs j hj), if_pos (by omega), hn]
    · rw [World.cell?_setCell_other _ _ _ _ (by simp [e]), h.cs j hj]
      by_cases l : j < k
      · rw [if_pos l, if_pos (by omega)]
      · rw [if_neg l, if_neg (by omega)], fun j hj => by rw [World.frozen?_setCell]; exact h.fr j hj, by
    rw [World.cell?_setCell_other _ _ _ _ (by simp; intro e; exact absurd e.symm h.n1)]; exact h.k1, by
    rw [World.cell?_setCell_other _ _ _ _ (by simp; intro e; exact absurd e.symm h.n2)]; exact h.k2, h.n1, h.n2, h.le, h.below.setCell h.le _⟩
theorem LowAt.whole {w w' : World} {x : ByteArray} {B b1 b2 : Nat} (h : LowAt w x B b1 b2 x.size w') (cp : Nat) :
    (convert 123 9 (.slice (some ⟨B, 0, none⟩) x.size cp)).run Tryz.prog w' = .ok (.string (lowerS x)) w' := by
  have hb : Lib.Bytes w' B 0 (lowerS x) := by
    intro i hi
    rw [lowerS_size] at hi
    rw [Nat.zero_add, h.cs i hi, if_pos hi, ← bt_at (lowerS x) i (by rw [lowerS_size]; exact hi)]
    rfl
  have := Lib.run_convert_whole (P := Tryz.prog) w' 123 5 9 Tryz.underlying123 Tryz.underlying5 Tryz.underlying9 B 0 (lowerS x) hb cp
  rwa [lowerS_size] at this
set_option maxHeartbeats 1600000 in
theorem Lower_any (x : ByteArray) (w : World) (hm : (x.size : Int) ≤ 9223372036854775807) :
    Calls Tryz.prog 126 #[.string x] w fun e w' => e = .returned (.string (lowerS x)) ∧ Below w.heap.size w w' := by
  have hcv := fun (w : World) (x : ByteArray) => Lib.run_convert_string_bytes (P := Tryz.prog) w 9 123 5 x Tryz.underlying9 Tryz.underlying123 Tryz.underlying5
  go_enter Tryz.func126, Tryz.ntmps126
  go_wp2_with (go_at_call 121; refine (from_any _ _ _).mono ?_; rintro e w1 ⟨⟨b1, b2, rfl, h1, h2, l1, l2⟩, hb⟩)
  clear hcv
  have hL := bytes_below (Below.refl w1.heap.size w1) (Nat.le_refl _) 5 x
  have hS : LowAt w x w1.heap.size b1 b2 0 (Lib.bytesWorld w1 5 x) :=
    ⟨fun j hj => by rw [if_neg (by omega)]; exact bytes_cell_bt w1 5 x j hj, fun j hj => bytes_thawed w1 5 x j hj, cell_below hL h1 l1, cell_below hL h2 l2, by omega, by omega, hb.size, below_then hb hb.size hL⟩
  clear hL h1 h2 l1 l2 hb
  generalize Lib.bytesWorld _ _ _ = wL at hS ⊢
  generalize grownCap _ _ _ _ = cp
  generalize w1.heap.size = B at hS ⊢
  have HS := Lib.hid hS; clear hS
  go_loopw [12] (fun i w' => ∃ k : Nat, k ≤ x.size ∧ i = .int .i64 k ∧ LowAt w x B b1 b2 k w') (fun i _ => x.size - (intOf i).toNat)
  case atStart => exact ⟨0, Nat.zero_le _, rfl, HS.out⟩
  case round =>
    obtain ⟨k, hk, rfl, h⟩ := hrel
    by_cases hlt : k < x.size
    · have hcell := h.cs k hlt
      rw [if_neg (by omega)] at hcell
      have hfr := h.fr k hlt
      have hbr := bt_range x k
      have H := from1_any (bt x k) 65 90 b1 b2 wr h.k1 h.k2
      have hlo := lowerS_bt x k hlt
      have HH := Lib.hid h; clear h
      cases hi : rangeB 65 90 (bt x k)
      · rw [hi] at H
        have hn : Hid (bt (lowerS x) k = bt x k) := by show _ = _; rw [hlo, lowerC, hi]; rfl
        clear hi hlo
        go_wp2_with (go_at_call 145; refine H.mono ?_; rintro e w' ⟨rfl, rfl⟩; clear H)
        go_round
        case rel => exact ⟨k + 1, by omega, by go_num, HH.out.next hlt hn.out⟩
        case measure => simp [intOf]; omega
      · rw [hi] at H
        have hn : Hid (bt (lowerS x) k = bt x k + 32) := by show _ = _; rw [hlo, lowerC, hi]; rfl
        have hr := range_le hi
        clear hi hlo
        go_wp2_with (go_at_call 145; refine H.mono ?_; rintro e w' ⟨rfl, rfl⟩; clear H)
        go_round
        case rel => exact ⟨k + 1, by omega, by go_num, HH.out.store hlt _ (by rw [hn.out]; omega)⟩
        case measure => simp [intOf]; omega
    · obtain rfl : k = x.size := by omega
      have hw := h.whole cp
      have HH := Lib.hid h; clear h
      go_wp2
      go_ret
      exact ⟨rfl, HH.out.below⟩
structure LowR (w : World) (x : ByteArray) (B k : Nat) (w' : World) : Prop where
  cs : ∀ j : Nat, j < x.size → w'.cell? ⟨B, j, none⟩ = some (.int .u8 (if j < k then bt (lowerS x) j else bt x j))
  fr : ∀ j : Nat, j < x.size → w'.frozen? ⟨B, j, none⟩ = false
  le : w.heap.size ≤ B
  below : Below w.heap.size w w'
theorem LowR.next {w w' : World} {x : ByteArray} {B k : Nat} (h : LowR w x B k w') (hk : k < x.size) (hn : bt (lowerS x) k = bt x k) : LowR w x B (k + 1) w' :=
  ⟨fun j hj => by
    rw [h.cs j hj]
    by_cases e : j = k
    · subst e; rw [if_neg (by omega), if_pos (by omega), hn]
    · by_cases l : j < k
      · rw [if_pos l, if_pos (by omega)]
      · rw [if_neg l, if_neg (by omega)], h.fr, h.le, h.below⟩
theorem LowR.store {w w' : World} {x : ByteArray} {B k : Nat} (h : LowR w x B k w') (hk : k < x.size) (v : Int) (hn : bt (lowerS x) k = v) : LowR w x B (k + 1) (w'.setCell ⟨B, k, none⟩ (.int .u8 v)) :=
  ⟨fun j hj => by
    by_cases e : j = k
    · subst e
      rw [World.cell?_setCell_same _ _ _ (h.cs j hj), if_pos (by omega), hn]
    · rw [World.cell?_setCell_other _ _ _ _ (by simp [e]), h.cs j hj]
      by_cases l : j < k
      · rw [if_pos l, if_pos (by omega)]
      · rw [if_neg l, if_neg (by omega)], fun j hj => by rw [World.frozen?_setCell]; exact h.fr j hj, h.le, h.below.setCell h.le _⟩
theorem LowR.whole {w w' : World} {x : ByteArray} {B : Nat} (h : LowR w x B x.size w') (cp : Nat) :
    (convert 123 9 (.slice (some ⟨B, 0, none⟩) x.size cp)).run Tryz.prog w' = .ok (.string (lowerS x)) w' := by
  have hb : Lib.Bytes w' B 0 (lowerS x) := by
    intro i hi
    rw [lowerS_size] at hi
    rw [Nat.zero_add, h.cs i hi, if_pos hi, ← bt_at (lowerS x) i (by rw [lowerS_size]; exact hi)]
    rfl
  have := Lib.run_convert_whole (P := Tryz.prog) w' 123 5 9 Tryz.underlying123 Tryz.underlying5 Tryz.underlying9 B 0 (lowerS x) hb cp
  rwa [lowerS_size] at this
set_option maxHeartbeats 1600000 in
theorem RLower_any (x : ByteArray) (w : World) (hm : (x.size : Int) ≤ 9223372036854775807) :
    Calls Tryz.prog 102 #[.string x] w fun e w' => e = .returned (.string (lowerS x)) ∧ Below w.heap.size w w' := by
  have hcv := fun (w : World) (x : ByteArray) => Lib.run_convert_string_bytes (P := Tryz.prog) w 9 123 5 x Tryz.underlying9 Tryz.underlying123 Tryz.underlying5
  go_enter Tryz.func102, Tryz.ntmps102
  go_wp2_with fail
  clear hcv
  have hL := bytes_below (Below.refl w.heap.size w) (Nat.le_refl _) 5 x
  have hS : LowR w x w.heap.size 0 (Lib.bytesWorld w 5 x) :=
    ⟨fun j hj => by rw [if_neg (by omega)]; exact bytes_cell_bt w 5 x j hj, fun j hj => bytes_thawed w 5 x j hj, Nat.le_refl _, hL⟩
  clear hL
  generalize Lib.bytesWorld _ _ _ = wL at hS ⊢
  generalize grownCap _ _ _ _ = cp
  generalize hB : w.heap.size = B at hS ⊢
  have HBq := Lib.hid hB; clear hB
  have HS := Lib.hid hS; clear hS
  go_loopw [4] (fun i w' => ∃ k : Nat, k ≤ x.size ∧ i = .int .i64 k ∧ LowR w x B k w') (fun i _ => x.size - (intOf i).toNat)
  case atStart => exact ⟨0, Nat.zero_le _, rfl, HS.out⟩
  case round =>
    obtain ⟨k, hk, rfl, h⟩ := hrel
    by_cases hlt : k < x.size
    · have hcell := h.cs k hlt
      rw [if_neg (by omega)] at hcell
      have hfr := h.fr k hlt
      have hbr := bt_range x k
      have hlo := lowerS_bt x k hlt
      have HH := Lib.hid h; clear h
      by_cases h1 : 65 ≤ bt x k
      · by_cases h2 : bt x k ≤ 90
        · have hn : Hid (bt (lowerS x) k = bt x k + 32) := by show _ = _; rw [hlo, lowerC, if_pos (by unfold rangeB; rw [decide_eq_true h1, decide_eq_true h2]; rfl)]
          clear hlo
          go_wp2
          go_round
          case rel => exact ⟨k + 1, by omega, by go_num, HH.out.store hlt _ hn.out⟩
          case measure => simp [intOf]; omega
        · have hn : Hid (bt (lowerS x) k = bt x k) := by show _ = _; rw [hlo, lowerC, if_neg (fun h => h2 (range_le h).2)]
          clear hlo
          go_wp2
          go_round
          case rel => exact ⟨k + 1, by omega, by go_num, HH.out.next hlt hn.out⟩
          case measure => simp [intOf]; omega
      · have hn : Hid (bt (lowerS x) k = bt x k) := by show _ = _; rw [hlo, lowerC, if_neg (fun h => h1 (range_le h).1)]
        clear hlo
        go_wp2
        go_round
        case rel => exact ⟨k + 1, by omega, by go_num, HH.out.next hlt hn.out⟩
        case measure => simp [intOf]; omega
    · obtain rfl : k = x.size := by omega
      have hw := h.whole cp
      have HH := Lib.hid h; clear h
      go_wp2
      go_ret
      exact ⟨rfl, HH.out.below⟩
end Go.Proofs.YtjaklgikfcahdaaGreatDoor.Hand
