/- The kinds of bytes of octet: closures, lists of them, by walks. -/
import Derived.Test.YtjaklgikfcahdaaGreatDoorLower
import Derived.Test.YtjaklgikfcahdaaGreatDoorShelf
namespace Go.Proofs.YtjaklgikfcahdaaGreatDoor.Hand
open Go.RowKit Go.Proofs.YtjaklgikfcahdaaGreatDoorW.PrintWords
set_option linter.unusedVariables false
set_option linter.unusedSimpArgs false
def inB (s : ByteArray) (c : Int) : Bool := decide (0 ≤ Lib.indexByte s.data.toList c.toNat.toUInt8)
def digitB (c : Int) : Bool := rangeB 48 57 c
inductive KindAt (d : Bool) (w : World) : Value → (Int → Bool) → Prop where
  | from (b1 b2 : Nat) (lo hi : Int) (h1 : w.cell? ⟨b1, 0, none⟩ = some (.int .u8 lo)) (h2 : w.cell? ⟨b2, 0, none⟩ = some (.int .u8 hi)) (l1 : b1 < w.heap.size) (l2 : b2 < w.heap.size) :
      KindAt d w (.func (.func 145) #[] #[.pointer (some ⟨b1, 0, none⟩), .pointer (some ⟨b2, 0, none⟩)]) (rangeB lo hi)
  | oneOf (b1 : Nat) (s : ByteArray) (h1 : w.cell? ⟨b1, 0, none⟩ = some (.string s)) (l1 : b1 < w.heap.size) :
      KindAt d w (.func (.func 146) #[] #[.pointer (some ⟨b1, 0, none⟩)]) (inB s)
  | digit (hd : d = true) : KindAt d w (.func (.func 120) #[] #[]) digitB
theorem KindAt.below {d : Bool} {w w' : World} {v : Value} {p : Int → Bool} (h : KindAt d w v p) (hb : Below w.heap.size w w') : KindAt d w' v p := by
  cases h with
  | «from» b1 b2 lo hi h1 h2 l1 l2 => exact .from b1 b2 lo hi (cell_below hb h1 l1) (cell_below hb h2 l2) (Nat.lt_of_lt_of_le l1 hb.size) (Nat.lt_of_lt_of_le l2 hb.size)
  | oneOf b1 s h1 l1 => exact .oneOf b1 s (cell_below hb h1 l1) (Nat.lt_of_lt_of_le l1 hb.size)
  | digit hd => exact .digit hd
theorem fromK_any (d : Bool) (lo hi : Int) (w : World) :
    Calls Tryz.prog 121 #[.int .u8 lo, .int .u8 hi] w fun e w' => (∃ fn fs cs, e = .returned (.func fn fs cs) ∧ KindAt d w' (.func fn fs cs) (rangeB lo hi)) ∧ Below w.heap.size w w' := by
  have k : KindAt d ((w.alloc (.cells #[.int .u8 lo] 5)).alloc (.cells #[.int .u8 hi] 5)) (.func (.func 145) #[] #[.pointer (some ⟨w.heap.size, 0, none⟩), .pointer (some ⟨w.heap.size + 1, 0, none⟩)]) (rangeB lo hi) :=
    .from _ _ lo hi (by simp [go_sem]) (by simp [go_sem]) (by simp; omega) (by simp)
  go_enter Tryz.func121, Tryz.ntmps121
  go_wp2
  refine bodyPost_ret (v := .func (.func 145) #[] #[.pointer (some ⟨w.heap.size, 0, none⟩), .pointer (some ⟨w.heap.size + 1, 0, none⟩)]) (by simp [results, Tryz.results121, go_sem]) rfl ⟨⟨_, _, _, rfl, k⟩, ?_⟩
  exact ((Below.refl _ _).alloc (Nat.le_refl _) _).alloc (by simp) _
theorem oneOf1_any (c : Int) (s : ByteArray) (b1 : Nat) (w : World) (h1 : w.cell? ⟨b1, 0, none⟩ = some (.string s)) :
    Calls Tryz.prog 146 #[.int .u8 c, .pointer (some ⟨b1, 0, none⟩)] w fun e w' => e = .returned (.bool (inB s c)) ∧ w' = w := by
  have H := fun w => Any.strings_IndexByte Tryz.lays137 s c w
  have K : Hid (inB s c = decide (0 ≤ Lib.indexByte s.data.toList c.toNat.toUInt8)) := rfl
  generalize Lib.indexByte s.data.toList c.toNat.toUInt8 = n at H K
  go_enter Tryz.func146, Tryz.ntmps146
  go_wp2_with (go_at_call 106; refine (H _).mono ?_; rintro e w' ⟨rfl, rfl⟩; clear H)
  go_ret
  exact ⟨by rw [K.out]; rfl, rfl⟩
theorem oneOf_any (d : Bool) (s : ByteArray) (w : World) :
    Calls Tryz.prog 122 #[.string s] w fun e w' => (∃ fn fs cs, e = .returned (.func fn fs cs) ∧ KindAt d w' (.func fn fs cs) (inB s)) ∧ Below w.heap.size w w' := by
  have k : KindAt d (w.alloc (.cells #[.string s] 9)) (.func (.func 146) #[] #[.pointer (some ⟨w.heap.size, 0, none⟩)]) (inB s) :=
    .oneOf _ s (by simp [go_sem]) (by simp)
  go_enter Tryz.func122, Tryz.ntmps122
  go_wp2
  refine bodyPost_ret (v := .func (.func 146) #[] #[.pointer (some ⟨w.heap.size, 0, none⟩)]) (by simp [results, Tryz.results122, go_sem]) rfl ⟨⟨_, _, _, rfl, k⟩, ?_⟩
  exact (Below.refl _ _).alloc (Nat.le_refl _) _
/-- A list of kinds in memory. -/
structure KindsAt (d : Bool) (w : World) (b : Nat) (ps : List (Int → Bool)) : Prop where
  lt : b < w.heap.size
  at' : ∀ (i : Nat) p, ps[i]? = some p → ∃ v, w.cell? ⟨b, i, none⟩ = some v ∧ KindAt d w v p
theorem KindsAt.below {d : Bool} {w w' : World} {b : Nat} {ps : List (Int → Bool)} (h : KindsAt d w b ps) (hb : Below w.heap.size w w') : KindsAt d w' b ps :=
  ⟨Nat.lt_of_lt_of_le h.lt hb.size, fun i p hp => by
    obtain ⟨v, hv, hk⟩ := h.at' i p hp
    exact ⟨v, cell_below hb hv h.lt, hk.below hb⟩⟩
def anyB (ps : List (Int → Bool)) (c : Int) : Bool := ps.any fun p => p c
def DigitOk (d : Bool) : Prop := d = true → ∀ (c : Int) (w : World), Calls Tryz.prog 120 #[.int .u8 c] w fun e w' => e = .returned (.bool (digitB c)) ∧ Below w.heap.size w w'
set_option maxHeartbeats 800000 in
theorem is_any (d : Bool) (D : DigitOk d) (c : Int) (b : Nat) (ps : List (Int → Bool)) (n : Nat) (hn : ps.length = n) (hm : (n : Int) ≤ 9223372036854775807) (w : World) (h : KindsAt d w b ps) :
    Calls Tryz.prog 119 #[.int .u8 c, .slice (some ⟨b, 0, none⟩) n n] w fun e w' => e = .returned (.bool (anyB ps c)) ∧ Below w.heap.size w w' := by
  have HH := Lib.hid h; clear h
  have DD := Lib.hid D; clear D
  go_enter Tryz.func119, Tryz.ntmps119
  go_wp2
  go_loopw [9] (fun i w' => ∃ k : Nat, k ≤ n ∧ i = .int .i64 k ∧ anyB (ps.take k) c = false ∧ Below w.heap.size w w') (fun i _ => n - (intOf i).toNat)
  case atStart => exact ⟨0, Nat.zero_le _, rfl, rfl, Below.refl _ _⟩
  case round =>
    obtain ⟨k, hk, rfl, ha, hb⟩ := hrel
    by_cases hlt : k < n
    · have hp : ps[k]? = some (ps[k]'(by omega)) := List.getElem?_eq_getElem (by omega)
      have hat := HH.out.below hb
      obtain ⟨v, hv, hkd⟩ := hat.at' k _ hp
      have hta : anyB (ps.take (k + 1)) c = (ps[k]'(by omega)) c := by
        have e : ps.take (k + 1) = ps.take k ++ [ps[k]'(by omega)] := by rw [List.take_add_one, hp]; rfl
        unfold anyB at ha ⊢
        rw [e, List.any_append, ha]; simp
      have hyes : (ps[k]'(by omega)) c = true → anyB ps c = true := fun h => List.any_eq_true.2 ⟨_, List.getElem_mem _, h⟩
      generalize ps[k]'(by omega) = p at hkd hta hyes hp
      have HA := Lib.hid ha; have HB := Lib.hid hb; have HT := Lib.hid hta; have HY := Lib.hid hyes; have HP := Lib.hid hp; have HL := Lib.hid hat
      clear ha hb hta hyes hp hat
      cases hkd with
      | «from» b1 b2 lo hi h1 h2 l1 l2 =>
        have H := from1_any c lo hi b1 b2 wr h1 h2
        cases hv2 : rangeB lo hi c
        · rw [hv2] at H
          have HV := Lib.hid hv2; clear hv2
          go_wp2_with (go_at_call 145; refine H.mono ?_; rintro e w' ⟨rfl, rfl⟩; clear H)
          go_round
          case rel => exact ⟨k + 1, by omega, by go_num, by rw [HT.out, HV.out], HB.out⟩
          case measure => simp [intOf]; omega
        · rw [hv2] at H
          have HV := Lib.hid hv2; clear hv2
          go_wp2_with (go_at_call 145; refine H.mono ?_; rintro e w' ⟨rfl, rfl⟩; clear H)
          go_ret
          exact ⟨by rw [HY.out HV.out]; rfl, HB.out⟩
      | oneOf b1 s h1 l1 =>
        have H := oneOf1_any c s b1 wr h1
        cases hv2 : inB s c
        · rw [hv2] at H
          have HV := Lib.hid hv2; clear hv2
          go_wp2_with (go_at_call 146; refine H.mono ?_; rintro e w' ⟨rfl, rfl⟩; clear H)
          go_round
          case rel => exact ⟨k + 1, by omega, by go_num, by rw [HT.out, HV.out], HB.out⟩
          case measure => simp [intOf]; omega
        · rw [hv2] at H
          have HV := Lib.hid hv2; clear hv2
          go_wp2_with (go_at_call 146; refine H.mono ?_; rintro e w' ⟨rfl, rfl⟩; clear H)
          go_ret
          exact ⟨by rw [HY.out HV.out]; rfl, HB.out⟩
      | digit hd =>
        have H := DD.out hd c wr
        cases hv2 : digitB c
        · rw [hv2] at H
          have HV := Lib.hid hv2; clear hv2
          go_wp2_with (go_at_call 120; refine H.mono ?_; rintro e w' ⟨rfl, hb2⟩; clear H)
          go_round
          case rel => exact ⟨k + 1, by omega, by go_num, by rw [HT.out, HV.out], below_then HB.out HB.out.size hb2⟩
          case measure => simp [intOf]; omega
        · rw [hv2] at H
          have HV := Lib.hid hv2; clear hv2
          go_wp2_with (go_at_call 120; refine H.mono ?_; rintro e w' ⟨rfl, hb2⟩; clear H)
          go_ret
          exact ⟨by rw [HY.out HV.out]; rfl, below_then HB.out HB.out.size hb2⟩
    · have hk' : k = n := by omega
      have hno : anyB ps c = false := by rw [← ha, hk', ← hn, List.take_length]
      clear HH DD ha
      go_wp2
      go_ret
      exact ⟨by rw [hno]; rfl, hb⟩
theorem digit_false : DigitOk false := fun h => by cases h
theorem kinds1 {d : Bool} {w : World} {v1 : Value} {p1 : Int → Bool} (h1 : KindAt d w v1 p1) (t : TypeId) : KindsAt d (w.alloc (.cells #[v1] t)) w.heap.size [p1] :=
  ⟨by simp, fun i p hp => by
    match i, hp with
    | 0, hp => simp at hp; subst hp; exact ⟨v1, by simp [go_sem], h1.below (alloc_below _ _)⟩⟩
theorem kinds3 {d : Bool} {w : World} {v1 v2 v3 : Value} {p1 p2 p3 : Int → Bool} (h1 : KindAt d w v1 p1) (h2 : KindAt d w v2 p2) (h3 : KindAt d w v3 p3) (t : TypeId) : KindsAt d (w.alloc (.cells #[v1, v2, v3] t)) w.heap.size [p1, p2, p3] :=
  ⟨by simp, fun i p hp => by
    match i, hp with
    | 0, hp => simp at hp; subst hp; exact ⟨v1, by simp [go_sem], h1.below (alloc_below _ _)⟩
    | 1, hp => simp at hp; subst hp; exact ⟨v2, by simp [go_sem], h2.below (alloc_below _ _)⟩
    | 2, hp => simp at hp; subst hp; exact ⟨v3, by simp [go_sem], h3.below (alloc_below _ _)⟩⟩
theorem kinds4 {d : Bool} {w : World} {v1 v2 v3 v4 : Value} {p1 p2 p3 p4 : Int → Bool} (h1 : KindAt d w v1 p1) (h2 : KindAt d w v2 p2) (h3 : KindAt d w v3 p3) (h4 : KindAt d w v4 p4) (t : TypeId) : KindsAt d (w.alloc (.cells #[v1, v2, v3, v4] t)) w.heap.size [p1, p2, p3, p4] :=
  ⟨by simp, fun i p hp => by
    match i, hp with
    | 0, hp => simp at hp; subst hp; exact ⟨v1, by simp [go_sem], h1.below (alloc_below _ _)⟩
    | 1, hp => simp at hp; subst hp; exact ⟨v2, by simp [go_sem], h2.below (alloc_below _ _)⟩
    | 2, hp => simp at hp; subst hp; exact ⟨v3, by simp [go_sem], h3.below (alloc_below _ _)⟩
    | 3, hp => simp at hp; subst hp; exact ⟨v4, by simp [go_sem], h4.below (alloc_below _ _)⟩⟩
theorem Digit_any (c : Int) (w : World) : Calls Tryz.prog 120 #[.int .u8 c] w fun e w' => e = .returned (.bool (digitB c)) ∧ Below w.heap.size w w' := by
  go_enter Tryz.func120, Tryz.ntmps120
  go_wp2_with (go_at_call 121; refine (fromK_any false _ _ _).mono ?_; rintro e w1 ⟨⟨fn, fs, cs, rfl, hk⟩, hb⟩)
  go_wp2_with (go_at_call 119; refine (is_any false digit_false _ _ [rangeB 48 57] 1 rfl (by decide) _ (kinds1 hk _)).mono ?_; rintro e w2 ⟨rfl, hb2⟩)
  go_ret
  exact ⟨by rw [anyB]; simp [digitB], below_then hb hb.size (below_then (alloc_below _ _) (by simp) hb2)⟩
def marks : ByteArray := ⟨#[33, 35, 36, 37, 38, 39, 42, 43, 45, 46, 94, 95, 96, 124, 126]⟩
def tokenB (c : Int) : Bool := anyB [digitB, rangeB 65 90, rangeB 97 122, inB marks] c
theorem Token_any (c : Int) (w : World) : Calls Tryz.prog 91 #[.int .u8 c] w fun e w' => e = .returned (.bool (tokenB c)) ∧ Below w.heap.size w w' := by
  go_enter Tryz.func91, Tryz.ntmps91
  go_wp2_with fail
  go_at_call 121
  refine (fromK_any true _ _ _).mono ?_; rintro e w1 ⟨⟨fn1, fs1, cs1, rfl, k1⟩, hb1⟩
  go_wp2_with fail
  go_at_call 121
  refine (fromK_any true _ _ _).mono ?_; rintro e w2 ⟨⟨fn2, fs2, cs2, rfl, k2⟩, hb2⟩
  go_wp2_with fail
  go_at_call 122
  refine (oneOf_any true _ _).mono ?_; rintro e w3 ⟨⟨fn3, fs3, cs3, rfl, k3⟩, hb3⟩
  go_wp2_with fail
  go_at_call 119
  refine (is_any true (fun _ => Digit_any) _ _ [digitB, rangeB 65 90, rangeB 97 122, inB marks] 4 rfl (by decide) _ (kinds4 (.digit rfl) ((k1.below hb2).below hb3) (k2.below hb3) k3 _)).mono ?_; rintro e w4 ⟨rfl, hb4⟩
  go_wp2_with fail
  go_ret
  exact ⟨rfl, below_then hb1 hb1.size (below_then hb2 hb2.size (below_then hb3 hb3.size (below_then (alloc_below _ _) (by simp) hb4)))⟩
def textB (c : Int) : Bool := anyB [rangeB 32 126, inB ⟨#[9]⟩, rangeB 128 255] c
theorem Text_any (c : Int) (w : World) : Calls Tryz.prog 108 #[.int .u8 c] w fun e w' => e = .returned (.bool (textB c)) ∧ Below w.heap.size w w' := by
  go_enter Tryz.func108, Tryz.ntmps108
  go_wp2_with fail
  go_at_call 121
  refine (fromK_any true _ _ _).mono ?_; rintro e w1 ⟨⟨fn1, fs1, cs1, rfl, k1⟩, hb1⟩
  go_wp2_with fail
  go_at_call 122
  refine (oneOf_any true _ _).mono ?_; rintro e w2 ⟨⟨fn2, fs2, cs2, rfl, k2⟩, hb2⟩
  go_wp2_with fail
  go_at_call 121
  refine (fromK_any true _ _ _).mono ?_; rintro e w3 ⟨⟨fn3, fs3, cs3, rfl, k3⟩, hb3⟩
  go_wp2_with fail
  go_at_call 119
  refine (is_any true (fun _ => Digit_any) _ _ [rangeB 32 126, inB ⟨#[9]⟩, rangeB 128 255] 3 rfl (by decide) _ (kinds3 ((k1.below hb2).below hb3) (k2.below hb3) k3 _)).mono ?_; rintro e w4 ⟨rfl, hb4⟩
  go_wp2_with fail
  go_ret
  exact ⟨rfl, below_then hb1 hb1.size (below_then hb2 hb2.size (below_then hb3 hb3.size (below_then (alloc_below _ _) (by simp) hb4)))⟩
/-! ALL -/
set_option maxHeartbeats 800000 in
theorem all_Token (x : ByteArray) (w : World) (hm : (x.size : Int) ≤ 9223372036854775807) :
   Calls Tryz.prog 90 #[.string x, .func (.func 91) #[] #[]] w fun e w' => e = .returned (.bool (allB tokenB x x.size)) ∧ Below w.heap.size w w' := by
  have hcv := fun (w : World) (x : ByteArray) => Lib.run_convert_string_bytes (P := Tryz.prog) w 9 123 5 x Tryz.underlying9 Tryz.underlying123 Tryz.underlying5
  go_enter Tryz.func90, Tryz.ntmps90
  go_wp2_with fail
  clear hcv
  have hL := bytes_below (Below.refl w.heap.size w) (Nat.le_refl _) 5 x
  have hc : ∀ k : Nat, k < x.size → (Lib.bytesWorld w 5 x).cell? ⟨w.heap.size, k, none⟩ = some (.int .u8 (bt x k)) := fun k hk => bytes_cell_bt w 5 x k hk
  have hz : w.heap.size < (Lib.bytesWorld w 5 x).heap.size := by rw [Lib.bytesWorld_size]; omega
  generalize Lib.bytesWorld _ _ _ = wL at hL hc hz ⊢
  generalize grownCap _ _ _ _ = cp
  have HL := Lib.hid hL; have HC := Lib.hid hc; have HZ := Lib.hid hz
  clear hL hc hz
  go_loopw [10] (fun i w' => ∃ k : Nat, k ≤ x.size ∧ i = .int .i64 k ∧ allB tokenB x k = true ∧ Below wL.heap.size wL w') (fun i _ => x.size - (intOf i).toNat)
  case atStart => exact ⟨0, Nat.zero_le _, rfl, rfl, Below.refl _ _⟩
  case round =>
    obtain ⟨k, hk, rfl, HA0, hb⟩ := hrel
    have HA := Lib.hid HA0; clear HA0
    by_cases hlt : k < x.size
    · have hcell := cell_below hb (HC.out k hlt) HZ.out
      have HB := Lib.hid hb; clear hb
      have hbr := bt_range x k
      have H := Token_any (bt x k) wr
      cases hi : tokenB (bt x k)
      · rw [hi] at H
        have HI := Lib.hid hi; clear hi
        go_wp2_with (go_at_call 91; refine H.mono ?_; rintro e w' ⟨rfl, hb2⟩; clear H)
        go_ret
        exact ⟨by rw [allB_false _ x k _ hlt HI.out]; rfl, below_then HL.out HL.out.size (below_then HB.out HB.out.size hb2)⟩
      · rw [hi] at H
        have HI := Lib.hid hi; clear hi
        go_wp2_with (go_at_call 91; refine H.mono ?_; rintro e w' ⟨rfl, hb2⟩; clear H)
        go_round
        case rel => exact ⟨k + 1, by omega, by go_num, by rw [allB_succ, HA.out, HI.out]; rfl, below_then HB.out HB.out.size hb2⟩
        case measure => simp [intOf]; omega
    · have HB := Lib.hid hb; clear hb
      go_wp2
      go_ret
      exact ⟨by rw [show x.size = k by omega, HA.out]; rfl, below_then HL.out HL.out.size HB.out⟩
set_option maxHeartbeats 800000 in
theorem all_Text (x : ByteArray) (w : World) (hm : (x.size : Int) ≤ 9223372036854775807) :
   Calls Tryz.prog 90 #[.string x, .func (.func 108) #[] #[]] w fun e w' => e = .returned (.bool (allB textB x x.size)) ∧ Below w.heap.size w w' := by
  have hcv := fun (w : World) (x : ByteArray) => Lib.run_convert_string_bytes (P := Tryz.prog) w 9 123 5 x Tryz.underlying9 Tryz.underlying123 Tryz.underlying5
  go_enter Tryz.func90, Tryz.ntmps90
  go_wp2_with fail
  clear hcv
  have hL := bytes_below (Below.refl w.heap.size w) (Nat.le_refl _) 5 x
  have hc : ∀ k : Nat, k < x.size → (Lib.bytesWorld w 5 x).cell? ⟨w.heap.size, k, none⟩ = some (.int .u8 (bt x k)) := fun k hk => bytes_cell_bt w 5 x k hk
  have hz : w.heap.size < (Lib.bytesWorld w 5 x).heap.size := by rw [Lib.bytesWorld_size]; omega
  generalize Lib.bytesWorld _ _ _ = wL at hL hc hz ⊢
  generalize grownCap _ _ _ _ = cp
  have HL := Lib.hid hL; have HC := Lib.hid hc; have HZ := Lib.hid hz
  clear hL hc hz
  go_loopw [10] (fun i w' => ∃ k : Nat, k ≤ x.size ∧ i = .int .i64 k ∧ allB textB x k = true ∧ Below wL.heap.size wL w') (fun i _ => x.size - (intOf i).toNat)
  case atStart => exact ⟨0, Nat.zero_le _, rfl, rfl, Below.refl _ _⟩
  case round =>
    obtain ⟨k, hk, rfl, HA0, hb⟩ := hrel
    have HA := Lib.hid HA0; clear HA0
    by_cases hlt : k < x.size
    · have hcell := cell_below hb (HC.out k hlt) HZ.out
      have HB := Lib.hid hb; clear hb
      have hbr := bt_range x k
      have H := Text_any (bt x k) wr
      cases hi : textB (bt x k)
      · rw [hi] at H
        have HI := Lib.hid hi; clear hi
        go_wp2_with (go_at_call 108; refine H.mono ?_; rintro e w' ⟨rfl, hb2⟩; clear H)
        go_ret
        exact ⟨by rw [allB_false _ x k _ hlt HI.out]; rfl, below_then HL.out HL.out.size (below_then HB.out HB.out.size hb2)⟩
      · rw [hi] at H
        have HI := Lib.hid hi; clear hi
        go_wp2_with (go_at_call 108; refine H.mono ?_; rintro e w' ⟨rfl, hb2⟩; clear H)
        go_round
        case rel => exact ⟨k + 1, by omega, by go_num, by rw [allB_succ, HA.out, HI.out]; rfl, below_then HB.out HB.out.size hb2⟩
        case measure => simp [intOf]; omega
    · have HB := Lib.hid hb; clear hb
      go_wp2
      go_ret
      exact ⟨by rw [show x.size = k by omega, HA.out]; rfl, below_then HL.out HL.out.size HB.out⟩
end Go.Proofs.YtjaklgikfcahdaaGreatDoor.Hand
