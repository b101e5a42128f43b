/- Kinds of bytes of octet and of target: closures, by walks (for seats without octet.oneOf). -/
import Derived.Test.YtghaocjhmambaaaDoorHand
import Derived.Test.YtghaocjhmambaaaDoorShelf
import Derived.LoopN
import Derived.Shelf.Strings.BuilderK
import Derived.Lib.SlBytesRow
namespace Go.Proofs.YtghaocjhmambaaaDoor.Hand
open Go.RowKit Go.Proofs.YtghaocjhmambaaaDoorW.PrintWords
set_option linter.unusedVariables false
set_option linter.unusedSimpArgs false
def rangeB (a b c : Int) : Bool := decide (a ≤ c) && decide (c ≤ b)
def inB (s : ByteArray) (c : Int) : Bool := decide (0 ≤ Lib.indexByte s.data.toList c.toNat.toUInt8)
def digitB (c : Int) : Bool := rangeB 48 57 c
theorem cell_below {w w' : World} {b : Nat} {i : Nat} {v : Value} (hb : Below w.heap.size w w') (h : w.cell? ⟨b, i, none⟩ = some v) (hl : b < w.heap.size) : w'.cell? ⟨b, i, none⟩ = some v := by
  rw [← h]
  exact World.cell?_of_block (hb.block b hl)
theorem from1_any (c lo hi : Int) (b1 b2 : Nat) (w : World) (h1 : w.cell? ⟨b1, 0, none⟩ = some (.int .u8 lo)) (h2 : w.cell? ⟨b2, 0, none⟩ = some (.int .u8 hi)) :
    Calls Tryd.prog 62 #[.int .u8 c, .pointer (some ⟨b1, 0, none⟩), .pointer (some ⟨b2, 0, none⟩)] w fun e w' => e = .returned (.bool (rangeB lo hi c)) ∧ w' = w := by
  by_cases a : lo ≤ c
  · by_cases b : c ≤ hi
    · go_enter Tryd.func62, Tryd.ntmps62
      go_wp2
      go_ret
      exact ⟨by rw [rangeB, decide_eq_true a, decide_eq_true b]; rfl, rfl⟩
    · go_enter Tryd.func62, Tryd.ntmps62
      go_wp2
      go_ret
      exact ⟨by rw [rangeB, decide_eq_true a, decide_eq_false (by omega)]; rfl, rfl⟩
  · go_enter Tryd.func62, Tryd.ntmps62
    go_wp2
    go_ret
    exact ⟨by rw [rangeB, decide_eq_false (by omega)]; rfl, rfl⟩
theorem from_any (lo hi : Int) (w : World) :
    Calls Tryd.prog 49 #[.int .u8 lo, .int .u8 hi] w fun e w' => (∃ b1 b2, e = .returned (.func (.func 62) #[] #[.pointer (some ⟨b1, 0, none⟩), .pointer (some ⟨b2, 0, none⟩)]) ∧ w'.cell? ⟨b1, 0, none⟩ = some (.int .u8 lo) ∧ w'.cell? ⟨b2, 0, none⟩ = some (.int .u8 hi) ∧ b1 < w'.heap.size ∧ b2 < w'.heap.size) ∧ Below w.heap.size w w' := by
  go_enter Tryd.func49, Tryd.ntmps49
  go_wp2
  refine bodyPost_ret (v := .func (.func 62) #[] #[.pointer (some ⟨w.heap.size, 0, none⟩), .pointer (some ⟨w.heap.size + 1, 0, none⟩)]) (by simp [results, Tryd.results49, go_sem]) rfl ⟨⟨_, _, rfl, by simp [go_sem], by simp [go_sem], by simp; omega, by simp⟩, ?_⟩
  exact ((Below.refl _ _).alloc (Nat.le_refl _) _).alloc (by simp) _
theorem is1_any (c lo hi : Int) (b b1 b2 : Nat) (w : World) (hb : w.cell? ⟨b, 0, none⟩ = some (.func (.func 62) #[] #[.pointer (some ⟨b1, 0, none⟩), .pointer (some ⟨b2, 0, none⟩)])) (h1 : w.cell? ⟨b1, 0, none⟩ = some (.int .u8 lo)) (h2 : w.cell? ⟨b2, 0, none⟩ = some (.int .u8 hi)) :
    Calls Tryd.prog 58 #[.int .u8 c, .slice (some ⟨b, 0, none⟩) 1 1] w fun e w' => e = .returned (.bool (rangeB lo hi c)) ∧ w' = w := by
  have H := from1_any c lo hi b1 b2 w h1 h2
  clear h1 h2
  go_enter Tryd.func58, Tryd.ntmps58
  go_wp2
  go_loopw [9] (fun i w' => ∃ n : Int, (n = 0 ∨ (n = 1 ∧ rangeB lo hi c = false)) ∧ i = .int .i64 n ∧ w' = w) (fun i _ => 1 - (intOf i).toNat)
  case atStart => exact ⟨0, Or.inl rfl, rfl, rfl⟩
  case round =>
    obtain ⟨n, hn, rfl, rfl⟩ := hrel
    rcases hn with rfl | ⟨rfl, hv⟩
    · cases hv2 : rangeB lo hi c
      · rw [hv2] at H
        have HV := Lib.hid hv2; clear hv2
        go_wp2_with (go_at_call 62; refine H.mono ?_; rintro e w' ⟨rfl, rfl⟩; clear H)
        go_round
        case rel => exact ⟨1, Or.inr ⟨rfl, by first | exact HV.out | trivial⟩, by first | rfl | go_num, by first | rfl | trivial⟩
        case measure => decide
      · rw [hv2] at H
        have HV := Lib.hid hv2; clear hv2
        go_wp2_with (go_at_call 62; refine H.mono ?_; rintro e w' ⟨rfl, rfl⟩; clear H)
        go_ret
        exact ⟨by rw [HV.out]; rfl, rfl⟩
    · clear H
      have HV := Lib.hid hv; clear hv
      go_wp2
      go_ret
      exact ⟨by rw [HV.out]; rfl, rfl⟩
theorem Digit_any (c : Int) (w : World) : Calls Tryd.prog 57 #[.int .u8 c] w fun e w' => e = .returned (.bool (digitB c)) ∧ Below w.heap.size w w' := by
  go_enter Tryd.func57, Tryd.ntmps57
  go_wp2_with (go_at_call 49; refine (from_any _ _ _).mono ?_; rintro e w1 ⟨⟨b1, b2, rfl, h1, h2, l1, l2⟩, hb⟩)
  have k1 := cell_below (alloc_below w1 (.cells #[.func (.func 62) #[] #[.pointer (some ⟨b1, 0, none⟩), .pointer (some ⟨b2, 0, none⟩)]] 77)) h1 l1
  have k2 := cell_below (alloc_below w1 (.cells #[.func (.func 62) #[] #[.pointer (some ⟨b1, 0, none⟩), .pointer (some ⟨b2, 0, none⟩)]] 77)) h2 l2
  go_wp2_with (go_at_call 58; refine (is1_any _ _ _ _ b1 b2 _ (by simp [go_sem]) k1 k2).mono ?_; rintro e w2 ⟨rfl, rfl⟩)
  go_ret
  exact ⟨rfl, below_then hb hb.size (alloc_below _ _)⟩
def lowB (c : Int) : Int := bits BinOp.or IntKind.u8 c 32
def alnumB (c : Int) : Bool := digitB c || (decide (97 ≤ lowB c) && decide (lowB c ≤ 122))
theorem alnum_any (c : Int) (w : World) : Calls Tryd.prog 46 #[.int .u8 c] w fun e w' => e = .returned (.bool (alnumB c)) ∧ Below w.heap.size w w' := by
  have H := Digit_any c w
  have key : Hid (alnumB c = (digitB c || (decide (97 ≤ bits BinOp.or IntKind.u8 c 32) && decide (bits BinOp.or IntKind.u8 c 32 ≤ 122)))) := rfl
  cases hv : digitB c
  · rw [hv] at H
    have HV := Lib.hid hv; clear hv
    by_cases h1 : 97 ≤ bits BinOp.or IntKind.u8 c 32
    · by_cases h2 : bits BinOp.or IntKind.u8 c 32 ≤ 122
      · go_enter Tryd.func46, Tryd.ntmps46
        go_wp2_with (go_at_call 57; refine H.mono ?_; rintro e w1 ⟨rfl, hb⟩; clear H)
        go_ret
        exact ⟨by rw [key.out, HV.out]; simp [h1, h2], hb⟩
      · go_enter Tryd.func46, Tryd.ntmps46
        go_wp2_with (go_at_call 57; refine H.mono ?_; rintro e w1 ⟨rfl, hb⟩; clear H)
        go_ret
        exact ⟨by rw [key.out, HV.out]; simp [h1, h2], hb⟩
    · go_enter Tryd.func46, Tryd.ntmps46
      go_wp2_with (go_at_call 57; refine H.mono ?_; rintro e w1 ⟨rfl, hb⟩; clear H)
      go_ret
      exact ⟨by rw [key.out, HV.out, decide_eq_false (by omega)]; rfl, hb⟩
  · rw [hv] at H
    have HV := Lib.hid hv; clear hv
    go_enter Tryd.func46, Tryd.ntmps46
    go_wp2_with (go_at_call 57; refine H.mono ?_; rintro e w1 ⟨rfl, hb⟩; clear H)
    go_ret
    exact ⟨by rw [key.out, HV.out]; simp, hb⟩
/-! kinds of target: letters, digits, and a text's bytes -/
def ofB (more : ByteArray) (c : Int) : Bool := alnumB c || inB more c
theorem of1_any (c : Int) (more : ByteArray) (b : Nat) (w : World) (h1 : w.cell? ⟨b, 0, none⟩ = some (.string more)) (l1 : b < w.heap.size) :
    Calls Tryd.prog 45 #[.int .u8 c, .pointer (some ⟨b, 0, none⟩)] w fun e w' => e = .returned (.bool (ofB more c)) ∧ Below w.heap.size w w' := by
  have HA := alnum_any c w
  have H := fun w => Any.strings_IndexByte Tryd.lays137 more c w
  have K : Hid (ofB more c = (alnumB c || decide (0 ≤ Lib.indexByte more.data.toList c.toNat.toUInt8))) := rfl
  generalize Lib.indexByte more.data.toList c.toNat.toUInt8 = n at H K
  have H1 := Lib.hid h1; clear h1
  cases hv : alnumB c
  · rw [hv] at HA K
    go_enter Tryd.func45, Tryd.ntmps45
    go_wp2_with (go_at_call 46; refine HA.mono ?_; rintro e w1 ⟨rfl, hb⟩; clear HA; have h2 := cell_below hb H1.out l1)
    go_wp2_with (go_at_call 40; refine (H _).mono ?_; rintro e w' ⟨rfl, rfl⟩; clear H)
    go_ret
    exact ⟨by rw [K.out]; rfl, hb⟩
  · rw [hv] at HA K
    go_enter Tryd.func45, Tryd.ntmps45
    go_wp2_with (go_at_call 46; refine HA.mono ?_; rintro e w1 ⟨rfl, hb⟩; clear HA)
    go_ret
    exact ⟨by rw [K.out]; rfl, hb⟩
theorem join_extra' : Builder.Extra Tryd.prog Tryd.lays156_ren := {
  sizeBuilder := by kernel_rfl
  liesBuilder := by kernel_rfl
  t5 := Tryd.underlying5
  a5 := Tryd.isAgg5
  z5 := Tryd.sizeOf5
  v5 := Tryd.zeroValue5
  infoByte := by kernel_rfl
  cellsByte := by kernel_rfl
  sizeByte := by kernel_rfl
  neB5 := by decide }
/-- A closure of target.of over a text. -/
structure OfAt (w : World) (v : Value) (more : ByteArray) : Prop where
  out : ∃ b, v = .func (.func 45) #[] #[.pointer (some ⟨b, 0, none⟩)] ∧ w.cell? ⟨b, 0, none⟩ = some (.string more) ∧ b < w.heap.size
theorem OfAt.below {w w' : World} {v : Value} {more : ByteArray} (h : OfAt w v more) (hb : Below w.heap.size w w') : OfAt w' v more := by
  obtain ⟨b, e, h1, h2⟩ := h.out
  exact ⟨⟨b, e, cell_below hb h1 h2, Nat.lt_of_lt_of_le h2 hb.size⟩⟩
theorem of_any (xs : List ByteArray) (n bk : Nat) (more : ByteArray) (hm : more = ⟨(Lib.join (xs.map (·.data.toList)) []).toArray⟩) (hn : xs.length = n) (w : World) (hc : ∀ (j : Nat) x, xs[j]? = some x → w.cell? ⟨bk, j, none⟩ = some (.string x)) (hbk : bk < w.heap.size) (hN : n ≤ 1000) (hlen : more.size ≤ 100000) :
    Calls Tryd.prog 24 #[.slice (some ⟨bk, 0, none⟩) n n] w fun e w' => (∃ v, e = .returned v ∧ OfAt w' v more) ∧ Below w.heap.size w w' := by
  subst hn
  have hl : (Lib.join (xs.map (·.data.toList)) []).length = more.size := by rw [hm]; simp [ByteArray.size]
  have H := Any.strings_Join Tryd.lays156 join_extra' bk 0 xs.length xs ⟨#[]⟩ w (fun j x h => by rw [Nat.zero_add]; exact hc j x h) hbk (by omega) (Nat.le_refl _) (by show (Lib.join (xs.map (·.data.toList)) []).length ≤ _; omega)
  rw [show (⟨(Lib.join (xs.map (·.data.toList)) (⟨#[]⟩ : ByteArray).data.toList).toArray⟩ : ByteArray) = more from hm.symm] at H
  clear hc hm hl
  go_enter Tryd.func24, Tryd.ntmps24
  go_wp2_with (go_at_call 44; refine H.mono ?_; rintro e w1 ⟨rfl, hb⟩; clear H)
  refine bodyPost_ret (v := .func (.func 45) #[] #[.pointer (some ⟨w1.heap.size, 0, none⟩)]) (by simp [results, Tryd.results24, go_sem]) rfl ⟨⟨_, rfl, ⟨⟨_, rfl, by simp [go_sem], by simp⟩⟩⟩, ?_⟩
  exact hb.alloc hb.size _
set_option maxHeartbeats 800000 in
theorem all_of (x more : ByteArray) (v : Value) (w : World) (hk : OfAt w v more) (hm : (x.size : Int) ≤ 9223372036854775807) :
   Calls Tryd.prog 29 #[.string x, v] w fun e w' => e = .returned (.bool (allB (ofB more) x x.size)) ∧ Below w.heap.size w w' := by
  obtain ⟨b, rfl, hcb, hlb⟩ := hk.out
  clear hk
  have hcv := fun (w : World) (x : ByteArray) => Lib.run_convert_string_bytes (P := Tryd.prog) w 9 65 5 x Tryd.underlying9 Tryd.underlying65 Tryd.underlying5
  have hL := bytes_below (Below.refl w.heap.size w) (Nat.le_refl _) 5 x
  have hkc := cell_below hL hcb hlb
  have hkl := Nat.lt_of_lt_of_le hlb hL.size
  have HCB := Lib.hid hkc; have HLB := Lib.hid hkl
  clear hcb hkc hlb hkl
  go_enter Tryd.func29, Tryd.ntmps29
  go_wp2_with fail
  clear hcv
  have hc : ∀ k : Nat, k < x.size → (Lib.bytesWorld w 5 x).cell? ⟨w.heap.size, k, none⟩ = some (.int .u8 (bt x k)) := fun k hk => bytes_cell_bt w 5 x k hk
  have hz : w.heap.size < (Lib.bytesWorld w 5 x).heap.size := by rw [Lib.bytesWorld_size]; omega
  generalize Lib.bytesWorld _ _ _ = wL at hL hc hz HCB HLB ⊢
  generalize grownCap _ _ _ _ = cp
  have HL := Lib.hid hL; have HC := Lib.hid hc; have HZ := Lib.hid hz
  clear hL hc hz
  go_loopw [10] (fun i w' => ∃ k : Nat, k ≤ x.size ∧ i = .int .i64 k ∧ allB (ofB more) x k = true ∧ Below wL.heap.size wL w') (fun i _ => x.size - (intOf i).toNat)
  case atStart => exact ⟨0, Nat.zero_le _, rfl, rfl, Below.refl _ _⟩
  case round =>
    obtain ⟨k, hk, rfl, HA0, hb⟩ := hrel
    have HA := Lib.hid HA0; clear HA0
    by_cases hlt : k < x.size
    · have hcell := cell_below hb (HC.out k hlt) HZ.out
      have hbr := bt_range x k
      have H := of1_any (bt x k) more b wr (cell_below hb HCB.out HLB.out) (Nat.lt_of_lt_of_le HLB.out hb.size)
      have HB := Lib.hid hb; clear hb
      cases hi : ofB more (bt x k)
      · rw [hi] at H
        have HI := Lib.hid hi; clear hi
        go_wp2_with (go_at_call 45; refine H.mono ?_; rintro e w' ⟨rfl, hb2⟩; clear H)
        go_ret
        exact ⟨by rw [allB_false _ x k _ hlt HI.out]; rfl, below_then HL.out HL.out.size (below_then HB.out HB.out.size hb2)⟩
      · rw [hi] at H
        have HI := Lib.hid hi; clear hi
        go_wp2_with (go_at_call 45; refine H.mono ?_; rintro e w' ⟨rfl, hb2⟩; clear H)
        go_round
        case rel => exact ⟨k + 1, by omega, by go_num, by rw [allB_succ, HA.out, HI.out]; rfl, below_then HB.out HB.out.size hb2⟩
        case measure => simp [intOf]; omega
    · have HB := Lib.hid hb; clear hb
      go_wp2
      go_ret
      exact ⟨by rw [show x.size = k by omega, HA.out]; rfl, below_then HL.out HL.out.size HB.out⟩
/-! hexadecimal digits -/
def hexP (c : Int) : Int × Bool := if digitB c = true then (c - 48, true) else if rangeB 97 102 c = true then (c - 97 + 10, true) else if rangeB 65 70 c = true then (c - 65 + 10, true) else (0, false)
theorem range_le {a b c : Int} (h : rangeB a b c = true) : a ≤ c ∧ c ≤ b := by
  unfold rangeB at h
  simpa using h
theorem hex_from {w1 : World} {lo hi : Int} {b1 b2 : Nat} (h1 : w1.cell? ⟨b1, 0, none⟩ = some (.int .u8 lo)) (h2 : w1.cell? ⟨b2, 0, none⟩ = some (.int .u8 hi)) (l1 : b1 < w1.heap.size) (l2 : b2 < w1.heap.size) (c : Int) :
    Calls Tryd.prog 58 #[.int .u8 c, .slice (some ⟨w1.heap.size, 0, none⟩) 1 1] (w1.alloc (.cells #[.func (.func 62) #[] #[.pointer (some ⟨b1, 0, none⟩), .pointer (some ⟨b2, 0, none⟩)]] 77)) fun e w' => e = .returned (.bool (rangeB lo hi c)) ∧ Below w1.heap.size w1 w' := by
  have k1 := cell_below (alloc_below w1 (.cells #[.func (.func 62) #[] #[.pointer (some ⟨b1, 0, none⟩), .pointer (some ⟨b2, 0, none⟩)]] 77)) h1 l1
  have k2 := cell_below (alloc_below w1 (.cells #[.func (.func 62) #[] #[.pointer (some ⟨b1, 0, none⟩), .pointer (some ⟨b2, 0, none⟩)]] 77)) h2 l2
  exact (is1_any _ _ _ _ b1 b2 _ (by simp [go_sem]) k1 k2).mono fun e w' ⟨he, hw⟩ => ⟨he, hw ▸ alloc_below _ _⟩
def HexPost (c : Int) (w : World) (e : Ending) (w' : World) : Prop := e = .returned (.tuple #[.int .i64 (hexP c).1, .bool (hexP c).2]) ∧ Below w.heap.size w w'
theorem Hex_any (c : Int) (w : World) (hc : 0 ≤ c ∧ c ≤ 255) : Calls Tryd.prog 42 #[.int .u8 c] w (HexPost c w) := by
  have HD := Digit_any c w
  cases hd : digitB c
  · rw [hd] at HD
    have IS1 : ∀ (w1 : World) (b1 b2 : Nat) h1 h2 l1 l2, _ := fun (w1 : World) (b1 b2 : Nat) h1 h2 l1 l2 => @hex_from w1 97 102 b1 b2 h1 h2 l1 l2 c
    have IS2 : ∀ (w1 : World) (b1 b2 : Nat) h1 h2 l1 l2, _ := fun (w1 : World) (b1 b2 : Nat) h1 h2 l1 l2 => @hex_from w1 65 70 b1 b2 h1 h2 l1 l2 c
    cases v1 : rangeB 97 102 c
    · rw [v1] at IS1
      cases v2 : rangeB 65 70 c
      · rw [v2] at IS2
        have K : Hid (hexP c = (0, false)) := by show _ = _; unfold hexP; rw [hd, v1, v2]; rfl
        clear hd v1 v2
        go_enter Tryd.func42, Tryd.ntmps42
        go_wp2_with (go_at_call 57; refine HD.mono ?_; rintro e w1 ⟨rfl, hb⟩; clear HD)
        go_wp2_with (go_at_call 49; refine (from_any _ _ _).mono ?_; rintro e w2 ⟨⟨b1, b2, rfl, h1, h2, l1, l2⟩, hb2⟩)
        go_wp2_with (go_at_call 58; refine (IS1 _ b1 b2 h1 h2 l1 l2).mono ?_; rintro e w3 ⟨rfl, hb3⟩)
        go_wp2_with (go_at_call 49; refine (from_any _ _ _).mono ?_; rintro e w4 ⟨⟨c1, c2, rfl, g1, g2, m1, m2⟩, hb4⟩)
        go_wp2_with (go_at_call 58; refine (IS2 _ c1 c2 g1 g2 m1 m2).mono ?_; rintro e w5 ⟨rfl, hb5⟩)
        go_ret2
        exact ⟨by rw [K.out]; rfl, below_then hb hb.size (below_then hb2 hb2.size (below_then hb3 hb3.size (below_then hb4 hb4.size hb5)))⟩
      · rw [v2] at IS2
        have r := range_le v2
        have K : Hid (hexP c = (c - 65 + 10, true)) := by show _ = _; unfold hexP; rw [hd, v1, v2]; rfl
        clear hd v1 v2
        go_enter Tryd.func42, Tryd.ntmps42
        go_wp2_with (go_at_call 57; refine HD.mono ?_; rintro e w1 ⟨rfl, hb⟩; clear HD)
        go_wp2_with (go_at_call 49; refine (from_any _ _ _).mono ?_; rintro e w2 ⟨⟨b1, b2, rfl, h1, h2, l1, l2⟩, hb2⟩)
        go_wp2_with (go_at_call 58; refine (IS1 _ b1 b2 h1 h2 l1 l2).mono ?_; rintro e w3 ⟨rfl, hb3⟩)
        go_wp2_with (go_at_call 49; refine (from_any _ _ _).mono ?_; rintro e w4 ⟨⟨c1, c2, rfl, g1, g2, m1, m2⟩, hb4⟩)
        go_wp2_with (go_at_call 58; refine (IS2 _ c1 c2 g1 g2 m1 m2).mono ?_; rintro e w5 ⟨rfl, hb5⟩)
        go_ret2
        exact ⟨by rw [K.out]; rfl, below_then hb hb.size (below_then hb2 hb2.size (below_then hb3 hb3.size (below_then hb4 hb4.size hb5)))⟩
    · rw [v1] at IS1
      have r := range_le v1
      have K : Hid (hexP c = (c - 97 + 10, true)) := by show _ = _; unfold hexP; rw [hd, v1]; rfl
      clear hd v1
      go_enter Tryd.func42, Tryd.ntmps42
      go_wp2_with (go_at_call 57; refine HD.mono ?_; rintro e w1 ⟨rfl, hb⟩; clear HD)
      go_wp2_with (go_at_call 49; refine (from_any _ _ _).mono ?_; rintro e w2 ⟨⟨b1, b2, rfl, h1, h2, l1, l2⟩, hb2⟩)
      go_wp2_with (go_at_call 58; refine (IS1 _ b1 b2 h1 h2 l1 l2).mono ?_; rintro e w3 ⟨rfl, hb3⟩)
      go_ret2
      exact ⟨by rw [K.out]; rfl, below_then hb hb.size (below_then hb2 hb2.size hb3)⟩
  · rw [hd] at HD
    have r := range_le hd
    have K : Hid (hexP c = (c - 48, true)) := by show _ = _; unfold hexP; rw [hd]; rfl
    clear hd
    go_enter Tryd.func42, Tryd.ntmps42
    go_wp2_with (go_at_call 57; refine HD.mono ?_; rintro e w1 ⟨rfl, hb⟩; clear HD)
    go_ret2
    exact ⟨by rw [K.out]; rfl, hb⟩
/-! small letters -/
def lowerC (c : Int) : Int := if rangeB 65 90 c = true then c + 32 else c
def lowerD (l : List UInt8) : List UInt8 := l.map fun b => (lowerC (b.toNat : Int)).toNat.toUInt8
def lowerS (s : ByteArray) : ByteArray := ⟨(lowerD s.data.toList).toArray⟩
theorem lowerS_size (s : ByteArray) : (lowerS s).size = s.size := by
  show (lowerD s.data.toList).toArray.size = s.data.size
  rw [List.size_toArray, lowerD, List.length_map, Array.length_toList]
theorem u8_back (n : Int) (h : 0 ≤ n ∧ n ≤ 255) : ((n.toNat.toUInt8).toNat : Int) = n := by
  have : n.toNat.toUInt8.toNat = n.toNat % 256 := rfl
  omega
theorem lowerS_bt (s : ByteArray) (k : Nat) (hk : k < s.size) : bt (lowerS s) k = lowerC (bt s k) := by
  have h1 := bt_at (lowerS s) k (by rw [lowerS_size]; exact hk)
  have h2 := bt_at s k hk
  have e : (lowerS s)[k]'(by rw [lowerS_size]; exact hk) = (lowerC ((s[k]'hk).toNat : Int)).toNat.toUInt8 := by
    show (lowerD s.data.toList).toArray[k]'_ = _
    simp [lowerD]
    rfl
  have hb := bt_range s k
  have h2' : ((s[k]'hk).toNat : Int) = bt s k := h2
  have h1' : (((lowerS s)[k]'(by rw [lowerS_size]; exact hk)).toNat : Int) = bt (lowerS s) k := h1
  rw [← h1', e, h2']
  refine u8_back _ ?_
  unfold lowerC
  split
  case isTrue h => have := range_le h; omega
  case isFalse => exact hb
theorem bytes_thawed (w : World) (e : TypeId) (x : ByteArray) (j : Nat) (hj : j < x.size) : (Lib.bytesWorld w e x).frozen? ⟨w.heap.size, j, none⟩ = false := by
  have hs : x.size ≤ (Lib.bytesCells w e x).size := by
    unfold Lib.bytesCells
    rw [Array.size_append, Array.size_map]
    exact Nat.le_add_right _ _
  unfold World.frozen?
  rw [show (Lib.bytesWorld w e x).heap[(⟨w.heap.size, j, none⟩ : Addr).block]? = _ from Lib.bytesWorld_at_new w e x]
  show (decide ((Lib.bytesCells w e x).size ≤ j) && _) = false
  rw [decide_eq_false (by omega)]
  rfl
structure LowAt (w : World) (x : ByteArray) (B b1 b2 k : Nat) (w' : World) : Prop where
  cs : ∀ j : Nat, j < x.size → w'.cell? ⟨B, j, none⟩ = some (.int .u8 (if j < k then bt (lowerS x) j else bt x j))
  fr : ∀ j : Nat, j < x.size → w'.frozen? ⟨B, j, none⟩ = false
  k1 : w'.cell? ⟨b1, 0, none⟩ = some (.int .u8 65)
  k2 : w'.cell? ⟨b2, 0, none⟩ = some (.int .u8 90)
  n1 : b1 ≠ B
  n2 : b2 ≠ B
  le : w.heap.size ≤ B
  below : Below w.heap.size w w'
theorem LowAt.next {w w' : World} {x : ByteArray} {B b1 b2 k : Nat} (h : LowAt w x B b1 b2 k w') (hk : k < x.size) (hn : bt (lowerS x) k = bt x k) : LowAt w x B b1 b2 (k + 1) w' :=
  ⟨fun j hj => by
    rw [h.cs j hj]
    by_cases e : j = k
    · subst e; rw [if_neg (by omega), if_pos (by omega), hn]
    · by_cases l : j < k
      · rw [if_pos l, if_pos (by omega)]
      · rw [if_neg l, if_neg (by omega)], h.fr, h.k1, h.k2, h.n1, h.n2, h.le, h.below⟩
theorem LowAt.store {w w' : World} {x : ByteArray} {B b1 b2 k : Nat} (h : LowAt w x B b1 b2 k w') (hk : k < x.size) (v : Int) (hn : bt (lowerS x) k = v) : LowAt w x B b1 b2 (k + 1) (w'.setCell ⟨B, k, none⟩ (.int .u8 v)) :=
  ⟨fun j hj => by
    by_cases e : j = k
    · subst e
      rw [World.cell?_setCell_same _ _ _ (h.cs j hj), if_pos (by omega), hn]
    · rw [World.cell?_setCell_other _ _ _ _ (by simp [e]), h.cs j hj]
      by_cases l : j < k
      · rw [if_pos l, if_pos (by omega)]
      · rw [if_neg l, if_neg (by omega)], fun j hj => by rw [World.frozen?_setCell]; exact h.fr j hj, by
    rw [World.cell?_setCell_other _ _ _ _ (by simp; intro e; exact absurd e.symm h.n1)]; exact h.k1, by
    rw [World.cell?_setCell_other _ _ _ _ (by simp; intro e; exact absurd e.symm h.n2)]; exact h.k2, h.n1, h.n2, h.le, h.below.setCell h.le _⟩
theorem LowAt.whole {w w' : World} {x : ByteArray} {B b1 b2 : Nat} (h : LowAt w x B b1 b2 x.size w') (cp : Nat) :
    (convert 65 9 (.slice (some ⟨B, 0, none⟩) x.size cp)).run Tryd.prog w' = .ok (.string (lowerS x)) w' := by
  have hb : Lib.Bytes w' B 0 (lowerS x) := by
    intro i hi
    rw [lowerS_size] at hi
    rw [Nat.zero_add, h.cs i hi, if_pos hi, ← bt_at (lowerS x) i (by rw [lowerS_size]; exact hi)]
    rfl
  have := Lib.run_convert_whole (P := Tryd.prog) w' 65 5 9 Tryd.underlying65 Tryd.underlying5 Tryd.underlying9 B 0 (lowerS x) hb cp
  rwa [lowerS_size] at this
set_option maxHeartbeats 1600000 in
theorem Lower_any (x : ByteArray) (w : World) (hm : (x.size : Int) ≤ 9223372036854775807) :
    Calls Tryd.prog 30 #[.string x] w fun e w' => e = .returned (.string (lowerS x)) ∧ Below w.heap.size w w' := by
  have hcv := fun (w : World) (x : ByteArray) => Lib.run_convert_string_bytes (P := Tryd.prog) w 9 65 5 x Tryd.underlying9 Tryd.underlying65 Tryd.underlying5
  go_enter Tryd.func30, Tryd.ntmps30
  go_wp2_with (go_at_call 49; refine (from_any _ _ _).mono ?_; rintro e w1 ⟨⟨b1, b2, rfl, h1, h2, l1, l2⟩, hb⟩)
  clear hcv
  have hL := bytes_below (Below.refl w1.heap.size w1) (Nat.le_refl _) 5 x
  have hS : LowAt w x w1.heap.size b1 b2 0 (Lib.bytesWorld w1 5 x) :=
    ⟨fun j hj => by rw [if_neg (by omega)]; exact bytes_cell_bt w1 5 x j hj, fun j hj => bytes_thawed w1 5 x j hj, cell_below hL h1 l1, cell_below hL h2 l2, by omega, by omega, hb.size, below_then hb hb.size hL⟩
  clear hL h1 h2 l1 l2 hb
  generalize Lib.bytesWorld _ _ _ = wL at hS ⊢
  generalize grownCap _ _ _ _ = cp
  generalize w1.heap.size = B at hS ⊢
  have HS := Lib.hid hS; clear hS
  go_loopw [12] (fun i w' => ∃ k : Nat, k ≤ x.size ∧ i = .int .i64 k ∧ LowAt w x B b1 b2 k w') (fun i _ => x.size - (intOf i).toNat)
  case atStart => exact ⟨0, Nat.zero_le _, rfl, HS.out⟩
  case round =>
    obtain ⟨k, hk, rfl, h⟩ := hrel
    by_cases hlt : k < x.size
    · have hcell := h.cs k hlt
      rw [if_neg (by omega)] at hcell
      have hfr := h.fr k hlt
      have hbr := bt_range x k
      have H := from1_any (bt x k) 65 90 b1 b2 wr h.k1 h.k2
      have hlo := lowerS_bt x k hlt
      have HH := Lib.hid h; clear h
      cases hi : rangeB 65 90 (bt x k)
      · rw [hi] at H
        have hn : Hid (bt (lowerS x) k = bt x k) := by show _ = _; rw [hlo, lowerC, hi]; rfl
        clear hi hlo
        go_wp2_with (go_at_call 62; refine H.mono ?_; rintro e w' ⟨rfl, rfl⟩; clear H)
        go_round
        case rel => exact ⟨k + 1, by omega, by go_num, HH.out.next hlt hn.out⟩
        case measure => simp [intOf]; omega
      · rw [hi] at H
        have hn : Hid (bt (lowerS x) k = bt x k + 32) := by show _ = _; rw [hlo, lowerC, hi]; rfl
        have hr := range_le hi
        clear hi hlo
        go_wp2_with (go_at_call 62; refine H.mono ?_; rintro e w' ⟨rfl, rfl⟩; clear H)
        go_round
        case rel => exact ⟨k + 1, by omega, by go_num, HH.out.store hlt _ (by rw [hn.out]; omega)⟩
        case measure => simp [intOf]; omega
    · obtain rfl : k = x.size := by omega
      have hw := h.whole cp
      have HH := Lib.hid h; clear h
      go_wp2
      go_ret
      exact ⟨rfl, HH.out.below⟩
structure LowR (w : World) (x : ByteArray) (B k : Nat) (w' : World) : Prop where
  cs : ∀ j : Nat, j < x.size → w'.cell? ⟨B, j, none⟩ = some (.int .u8 (if j < k then bt (lowerS x) j else bt x j))
  fr : ∀ j : Nat, j < x.size → w'.frozen? ⟨B, j, none⟩ = false
  le : w.heap.size ≤ B
  below : Below w.heap.size w w'
theorem LowR.next {w w' : World} {x : ByteArray} {B k : Nat} (h : LowR w x B k w') (hk : k < x.size) (hn : bt (lowerS x) k = bt x k) : LowR w x B (k + 1) w' :=
  ⟨fun j hj => by
    rw [h.cs j hj]
    by_cases e : j = k
    · subst e; rw [if_neg (by omega), if_pos (by omega), hn]
    · by_cases l : j < k
      · rw [if_pos l, if_pos (by omega)]
      · rw [if_neg l, if_neg (by omega)], h.fr, h.le, h.below⟩
theorem LowR.store {w w' : World} {x : ByteArray} {B k : Nat} (h : LowR w x B k w') (hk : k < x.size) (v : Int) (hn : bt (lowerS x) k = v) : LowR w x B (k + 1) (w'.setCell ⟨B, k, none⟩ (.int .u8 v)) :=
  ⟨fun j hj => by
    by_cases e : j = k
    · subst e
      rw [World.cell?_setCell_same _ _ _ (h.cs j hj), if_pos (by omega), hn]
    · rw [World.cell?_setCell_other _ _ _ _ (by simp [e]), h.cs j hj]
      by_cases l : j < k
      · rw [if_pos l, if_pos (by omega)]
      · rw [if_neg l, if_neg (by omega)], fun j hj => by rw [World.frozen?_setCell]; exact h.fr j hj, h.le, h.below.setCell h.le _⟩
theorem LowR.whole {w w' : World} {x : ByteArray} {B : Nat} (h : LowR w x B x.size w') (cp : Nat) :
    (convert 65 9 (.slice (some ⟨B, 0, none⟩) x.size cp)).run Tryd.prog w' = .ok (.string (lowerS x)) w' := by
  have hb : Lib.Bytes w' B 0 (lowerS x) := by
    intro i hi
    rw [lowerS_size] at hi
    rw [Nat.zero_add, h.cs i hi, if_pos hi, ← bt_at (lowerS x) i (by rw [lowerS_size]; exact hi)]
    rfl
  have := Lib.run_convert_whole (P := Tryd.prog) w' 65 5 9 Tryd.underlying65 Tryd.underlying5 Tryd.underlying9 B 0 (lowerS x) hb cp
  rwa [lowerS_size] at this
set_option maxHeartbeats 1600000 in
theorem RLower_any (x : ByteArray) (w : World) (hm : (x.size : Int) ≤ 9223372036854775807) :
    Calls Tryd.prog 35 #[.string x] w fun e w' => e = .returned (.string (lowerS x)) ∧ Below w.heap.size w w' := by
  have hcv := fun (w : World) (x : ByteArray) => Lib.run_convert_string_bytes (P := Tryd.prog) w 9 65 5 x Tryd.underlying9 Tryd.underlying65 Tryd.underlying5
  go_enter Tryd.func35, Tryd.ntmps35
  go_wp2_with fail
  clear hcv
  have hL := bytes_below (Below.refl w.heap.size w) (Nat.le_refl _) 5 x
  have hS : LowR w x w.heap.size 0 (Lib.bytesWorld w 5 x) :=
    ⟨fun j hj => by rw [if_neg (by omega)]; exact bytes_cell_bt w 5 x j hj, fun j hj => bytes_thawed w 5 x j hj, Nat.le_refl _, hL⟩
  clear hL
  generalize Lib.bytesWorld _ _ _ = wL at hS ⊢
  generalize grownCap _ _ _ _ = cp
  generalize hB : w.heap.size = B at hS ⊢
  have HBq := Lib.hid hB; clear hB
  have HS := Lib.hid hS; clear hS
  go_loopw [4] (fun i w' => ∃ k : Nat, k ≤ x.size ∧ i = .int .i64 k ∧ LowR w x B k w') (fun i _ => x.size - (intOf i).toNat)
  case atStart => exact ⟨0, Nat.zero_le _, rfl, HS.out⟩
  case round =>
    obtain ⟨k, hk, rfl, h⟩ := hrel
    by_cases hlt : k < x.size
    · have hcell := h.cs k hlt
      rw [if_neg (by omega)] at hcell
      have hfr := h.fr k hlt
      have hbr := bt_range x k
      have hlo := lowerS_bt x k hlt
      have HH := Lib.hid h; clear h
      by_cases h1 : 65 ≤ bt x k
      · by_cases h2 : bt x k ≤ 90
        · have hn : Hid (bt (lowerS x) k = bt x k + 32) := by show _ = _; rw [hlo, lowerC, if_pos (by unfold rangeB; rw [decide_eq_true h1, decide_eq_true h2]; rfl)]
          clear hlo
          go_wp2
          go_round
          case rel => exact ⟨k + 1, by omega, by go_num, HH.out.store hlt _ hn.out⟩
          case measure => simp [intOf]; omega
        · have hn : Hid (bt (lowerS x) k = bt x k) := by show _ = _; rw [hlo, lowerC, if_neg (fun h => h2 (range_le h).2)]
          clear hlo
          go_wp2
          go_round
          case rel => exact ⟨k + 1, by omega, by go_num, HH.out.next hlt hn.out⟩
          case measure => simp [intOf]; omega
      · have hn : Hid (bt (lowerS x) k = bt x k) := by show _ = _; rw [hlo, lowerC, if_neg (fun h => h1 (range_le h).1)]
        clear hlo
        go_wp2
        go_round
        case rel => exact ⟨k + 1, by omega, by go_num, HH.out.next hlt hn.out⟩
        case measure => simp [intOf]; omega
    · obtain rfl : k = x.size := by omega
      have hw := h.whole cp
      have HH := Lib.hid h; clear h
      go_wp2
      go_ret
      exact ⟨rfl, HH.out.below⟩
end Go.Proofs.YtghaocjhmambaaaDoor.Hand
