/- Texts put into one, each with its own words ahead of it: plain lemmas and the statement's own law. -/
import Derived.Test.YtghaocjhmambaaaDoorWWords
import Derived.Test.YtghaocjhmambaaaDoorWLast
import Derived.Test.YtghaocjhmambaaaDoorHand
import Derived.Lib.Strings
import Derived.IntWalk
import Derived.Test.YtghaocjhmambaaaDoorDigit
import Derived.Test.YtghaocjhmambaaaDoorPR4
import Derived.Test.YtghaocjhmambaaaDoorPR14
import Derived.KernelRfl
import Derived.Test.YtghaocjhmambaaaDoorPR6
import Derived.Test.YtghaocjhmambaaaDoorPR18
import Derived.Lib.ItoaMem
import Derived.Test.YtghaocjhmambaaaDoorPR2
import Derived.Test.YtghaocjhmambaaaDoorPR9
import Derived.Test.YtghaocjhmambaaaDoorDecode
import Derived.Test.YtghaocjhmambaaaDoorPR15
import Derived.Test.YtghaocjhmambaaaDoorPR11
import Derived.Lib.SplitLaws
import Derived.Test.YtghaocjhmambaaaDoorPR3
import Derived.Test.YtghaocjhmambaaaDoorPR12
import Derived.Test.YtghaocjhmambaaaDoorPR8
import Derived.Test.YtghaocjhmambaaaDoorPR22
import Derived.Test.YtghaocjhmambaaaDoorPR16
import Derived.Test.YtghaocjhmambaaaDoorPR23
import Derived.Test.YtghaocjhmambaaaDoorPR24
import Derived.Test.YtghaocjhmambaaaDoorPR17
import Derived.Test.YtghaocjhmambaaaDoorPR19
import Derived.Test.YtghaocjhmambaaaDoorPR21
/- Strings as lists of bytes; rounds: helpers for the plain laws of this session. -/
namespace Go.Proofs.YtghaocjhmambaaaDoor.Pu
open Go.RowKit Go.Proofs.YtghaocjhmambaaaDoorW.PrintWords Go.Proofs.YtghaocjhmambaaaDoorW.PrintLast
set_option linter.unusedVariables false
set_option linter.unusedSimpArgs false

def bOf (l : List UInt8) : ByteArray := ⟨l.toArray⟩
theorem bOf_data (s : ByteArray) : bOf s.data.toList = s := by obtain ⟨⟨l⟩⟩ := s; rfl
theorem bOf_mk (l : List UInt8) : (⟨l.toArray⟩ : ByteArray) = bOf l := rfl
theorem data_bOf (l : List UInt8) : (bOf l).data.toList = l := rfl
theorem bOf_size (l : List UInt8) : (bOf l).size = l.length := by unfold bOf; simp [ByteArray.size]
theorem size_data (s : ByteArray) : s.data.toList.length = s.size := data_length s
theorem toList_bOf (l : List UInt8) : (bOf l).toList = l := by rw [ByteArray.toList_eq]; rfl
theorem bOf_inj {a b : List UInt8} (h : bOf a = bOf b) : a = b := by have := congrArg (fun s => s.data.toList) h; exact this
theorem bOf_extract (l : List UInt8) (i j : Nat) : (bOf l).extract i j = bOf ((l.take j).drop i) := by
  have h := Go.Lib.extract_data (bOf l) i j
  rw [← bOf_data ((bOf l).extract i j), h, data_bOf, List.drop_take]
theorem bOf_append (a b : List UInt8) : bOf a ++ bOf b = bOf (a ++ b) := by
  have h : ((bOf a) ++ (bOf b)).data.toList = a ++ b := by simp [bOf]
  rw [← bOf_data (bOf a ++ bOf b), h]
theorem bOf_lit0 : (⟨#[]⟩ : ByteArray) = bOf [] := rfl
theorem ex_bOf (s : ByteArray) : ∃ l, s = bOf l ∧ l.length = s.size := ⟨s.data.toList, (bOf_data s).symm, size_data s⟩
/-- the byte at a place, as a number -/
def at_ (l : List UInt8) (i : Nat) : Int := (l.getD i 0).toNat
theorem bt_bOf (l : List UInt8) (i : Int) (h0 : 0 ≤ i) (h : i < l.length) : bt (bOf l) i = at_ l i.toNat := by
  have h' : i.toNat < (bOf l).size := by rw [bOf_size]; omega
  rw [← bt_at (bOf l) i h', at_]
  have hl : i.toNat < l.length := by omega
  rw [List.getD_eq_getElem?_getD, List.getElem?_eq_getElem hl]
  rfl
theorem at_range (l : List UInt8) (i : Nat) : 0 ≤ at_ l i ∧ at_ l i ≤ 255 := by unfold at_; have := (l.getD i 0).toNat_lt; omega
theorem at_cons_zero (c : UInt8) (l : List UInt8) : at_ (c :: l) 0 = c.toNat := rfl
theorem at_cons_succ (c : UInt8) (l : List UInt8) (i : Nat) : at_ (c :: l) (i + 1) = at_ l i := by simp [at_]
theorem at_lt (l : List UInt8) (i : Nat) (h : i < l.length) : at_ l i = (l[i]).toNat := by simp [at_, List.getD_eq_getElem?_getD, List.getElem?_eq_getElem h]
theorem u8_eq {c : UInt8} {n : Nat} (hn : n < 256) : (c.toNat : Int) = n ↔ c = UInt8.ofNat n := by
  constructor
  · intro h
    have h' : c.toNat = n := by omega
    rw [← h']; simp
  · intro h; subst h; simp; omega
theorem wrap_id {n : Int} (h0 : -9223372036854775808 ≤ n) (h : n ≤ 9223372036854775807) : wrap64 n = n := Go.IntWalk.wrap64_in n ⟨h0, h⟩
/-! Rounds -/
theorem Ev.uniq {α : Type} {g : Nat → Option α} {a b : α} (h : Ev g a) (k : Ev g b) : a = b := by
  obtain ⟨K, h⟩ := h
  obtain ⟨K', k⟩ := k
  have h1 := h (max K K') (by omega)
  have h2 := k (max K K') (by omega)
  exact Option.some.inj (h1.symm.trans h2)
theorem Ev.ite {α : Type} {c : Prop} [Decidable c] {f g : Nat → Option α} {r : α} (h : c → Ev f r) (k : ¬ c → Ev g r) : Ev (fun n => if c then f n else g n) r := by
  by_cases hc : c
  · exact Ev.congr (fun n => if_pos hc) (h hc)
  · exact Ev.congr (fun n => if_neg hc) (k hc)
theorem Ev.pos {α : Type} {c : Prop} [Decidable c] {f g : Nat → Option α} {r : α} (hc : c) (h : Ev f r) : Ev (fun n => if c then f n else g n) r := Ev.congr (fun n => if_pos hc) h
theorem Ev.neg {α : Type} {c : Prop} [Decidable c] {f g : Nat → Option α} {r : α} (hc : ¬ c) (h : Ev g r) : Ev (fun n => if c then f n else g n) r := Ev.congr (fun n => if_neg hc) h
/-- a call without rounds -/
theorem Ev.sbind {α β : Type} {x : Option α} {f : Nat → α → Option β} {a : α} {r : β} (h : x = some a) (k : Ev (fun n => f n a) r) : Ev (fun n => x.bind (f n)) r := Ev.congr (fun n => by rw [h]; rfl) k
theorem Ev.some' {α : Type} {a r : α} (h : a = r) : Ev (fun _ => some a) r := ⟨0, fun _ _ => by rw [h]⟩
theorem Ev.eq {α : Type} {g : Nat → Option α} {a b : α} (h : Ev g a) (e : a = b) : Ev g b := e ▸ h
end Go.Proofs.YtghaocjhmambaaaDoor.Pu

/- The readings of decimal and of its reference (for seats that reach Number). -/
namespace Go.Proofs.YtghaocjhmambaaaDoor.Pu
open Go.RowKit Go.Proofs.YtghaocjhmambaaaDoorW.PrintWords Go.Proofs.YtghaocjhmambaaaDoorW.PrintLast Go.Proofs.YtghaocjhmambaaaDoor.PR
set_option linter.unusedVariables false
set_option linter.unusedSimpArgs false

/-! ### readings -/
def hexR (c : Int) : Int × Bool := if Hand.dig0 c < 0 then (0, false) else (Hand.dig0 c, true)
theorem hex_all : ∀ c : Fin 256, depotref01_Hex.f 20 ((c : Nat) : Int) = some (hexR ((c : Nat) : Int)) := by decide +kernel
theorem ref_Hex (c : Int) (h0 : 0 ≤ c) (h1 : c ≤ 255) : Ev (fun k => depotref01_Hex.f k c) (hexR c) := by
  obtain ⟨n, rfl⟩ := Int.eq_ofNat_of_zero_le h0
  have := hex_all ⟨n, by omega⟩
  exact Ev.of (depotref01_Hex.mono _) this
theorem dig0_lo (c : Int) : -1 ≤ Hand.dig0 c ∧ Hand.dig0 c ≤ 15 := by
  unfold Hand.dig0
  repeat' split
  all_goals omega
theorem dig_neg (c base : Int) (hb : 1 ≤ base) : Hand.dig c base < 0 ↔ (Hand.dig0 c < 0 ∨ base ≤ Hand.dig0 c) := by
  have := dig0_lo c
  unfold Hand.dig
  split <;> omega
theorem dig_pos (c base : Int) (h : Hand.dig0 c < base) : Hand.dig c base = Hand.dig0 c := by
  unfold Hand.dig
  rw [if_neg (by omega)]
theorem rread_l0 (s : ByteArray) (base most : Int) (hb : 1 ≤ base) (hs : s.size ≤ 100000) (n : Nat) : ∀ (i : Nat) (acc : Int), s.size - i = n → i ≤ s.size →
    Ev (fun k => depotref02_read.l0 k s base most acc (i : Int)) (readEnd most (readGo s base n acc i)) := by
  induction n with
  | zero =>
    intro i acc hn hi
    refine Ev.step (fun k => by rw [depotref02_read.l0]) (Ev.neg (by omega) ?_)
    show Ev _ (if most < acc then (0, 3) else (acc, 0))
    exact Ev.ite (fun h => by rw [if_pos h]; exact Ev.some' rfl) (fun h => by rw [if_neg h]; exact Ev.some' rfl)
  | succ n ih =>
    intro i acc hn hi
    have hr := bt_range s i
    have hw : wrap64 ((i : Int) + 1) = ((i + 1 : Nat) : Int) := by rw [wrap_id] <;> omega
    refine Ev.step (fun k => by rw [depotref02_read.l0]) (Ev.pos (by omega) (Ev.pos (by omega) (Ev.bind (ref_Hex _ hr.1 hr.2) ?_)))
    rw [readGo, hw]
    have hd := dig_neg (bt s i) base hb
    unfold hexR
    by_cases h1 : Hand.dig0 (bt s i) < 0
    · rw [if_pos h1, if_pos (hd.2 (Or.inl h1))]
      exact Ev.neg (by simp) (Ev.some' rfl)
    · rw [if_neg h1]
      refine Ev.pos rfl ?_
      by_cases h2 : base ≤ Hand.dig0 (bt s i)
      · rw [if_pos (hd.2 (Or.inr h2))]
        exact Ev.pos h2 (Ev.some' rfl)
      · rw [if_neg (fun h => by have := hd.1 h; omega), dig_pos _ _ (by omega)]
        exact Ev.neg h2 (ih (i + 1) _ (by omega) (by omega))
theorem ref_read (s : ByteArray) (base long most : Int) (hb : 1 ≤ base) (hs : s.size ≤ 100000) : Ev (fun k => depotref02_read.f k s base long most) (readP s base long most) := by
  unfold depotref02_read.f readP
  by_cases h1 : s.size = 0
  · rw [if_pos h1]
    refine Ev.pos (by omega) (Ev.step (fun k => by rw [depotref02_read.j0]) ?_)
    exact Ev.pos rfl (Ev.some' rfl)
  · rw [if_neg h1]
    refine Ev.neg (by omega) (Ev.step (fun k => by rw [depotref02_read.j0]) ?_)
    refine Ev.ite (fun h => ?_) (fun h => ?_)
    · rw [if_pos (by simpa using h)]; exact Ev.some' rfl
    · rw [if_neg (by simpa using h)]
      exact rread_l0 s base most hb hs _ 0 0 rfl (by omega)
theorem prog_read (s : ByteArray) (base long most : Int) (hb : 1 ≤ base) (hb2 : base ≤ 16) (hs : s.size ≤ 100000) : decimal_read.f s base long most = some (readP s base long most) := by
  unfold decimal_read.f
  rw [if_pos ⟨hb, hb2, by omega⟩]
theorem prog_Number (s : ByteArray) (most : Int) (hs : s.size ≤ 100000) : decimal_Number.f s most = some (readP s 10 18 most) := by
  unfold decimal_Number.f
  rw [prog_read s 10 18 most (by decide) (by decide) hs]
  rfl
theorem ref_Number (s : ByteArray) (most : Int) (hs : s.size ≤ 100000) : Ev (fun k => depotref02_Number.f k s most) (readP s 10 18 most) := by
  unfold depotref02_Number.f
  exact Ev.bind (ref_read s 10 18 most (by decide) hs) (Ev.some' rfl)
end Go.Proofs.YtghaocjhmambaaaDoor.Pu

/- Decimal digits, written and read back (for seats that reach Plain and Number). -/
namespace Go.Proofs.YtghaocjhmambaaaDoor.Pu
open Go.RowKit Go.Proofs.YtghaocjhmambaaaDoorW.PrintWords Go.Proofs.YtghaocjhmambaaaDoorW.PrintLast Go.Proofs.YtghaocjhmambaaaDoor.PR
set_option linter.unusedVariables false
set_option linter.unusedSimpArgs false

def hexd : List UInt8 := [48, 49, 50, 51, 52, 53, 54, 55, 56, 57, 97, 98, 99, 100, 101, 102]
def dch (d : Nat) : UInt8 := hexd.getD d 0
theorem hexd_lit : (⟨#[48, 49, 50, 51, 52, 53, 54, 55, 56, 57, 97, 98, 99, 100, 101, 102]⟩ : ByteArray) = bOf hexd := rfl
/-- a number's digits to a base -/
def digs (b n : Nat) : List UInt8 := if h : n < b ∨ b < 2 then [dch n] else digs b (n / b) ++ [dch (n % b)]
termination_by n
decreasing_by exact Nat.div_lt_self (by omega) (by omega)
theorem digs_small {b n : Nat} (h : n < b) : digs b n = [dch n] := by rw [digs, dif_pos (Or.inl h)]
theorem digs_big {b n : Nat} (hb : 2 ≤ b) (h : ¬ n < b) : digs b n = digs b (n / b) ++ [dch (n % b)] := by rw [digs, dif_neg (by omega)]
theorem dch_ten : ∀ d : Fin 10, dch d = UInt8.ofNat (48 + d) := by decide
theorem digs_ten (n : Nat) : Lib.decDigits n = digs 10 n := by
  induction n using Nat.strongRecOn with
  | _ n ih =>
    rw [Lib.decDigits]
    by_cases h : n < 10
    · rw [dif_pos h, digs_small h, dch_ten ⟨n, h⟩]
    · rw [dif_neg h, digs_big (by decide) h, ih (n / 10) (by omega), dch_ten ⟨n % 10, by omega⟩]
theorem digs_len (b : Nat) (hb : 2 ≤ b) (m : Nat) : ∀ n : Nat, n < b ^ m → (digs b n).length ≤ max m 1 := by
  induction m with
  | zero => intro n h; rw [digs_small (by simp at h; omega)]; simp
  | succ m ih =>
    intro n h
    by_cases hn : n < b
    · rw [digs_small hn]; simp
    · rw [digs_big hb hn]
      have h2 : n / b < b ^ m := by
        rw [Nat.div_lt_iff_lt_mul (by omega)]
        rw [Nat.pow_succ] at h
        exact h
      have := ih _ h2
      have hm : m ≠ 0 := by
        intro e; subst e
        simp at h2
        omega
      simp; omega
theorem digs_pos (b n : Nat) (hb : 2 ≤ b) : 1 ≤ (digs b n).length := by
  by_cases hn : n < b
  · rw [digs_small hn]; simp
  · rw [digs_big hb hn]; simp
theorem hex_cut (d : Nat) (h : d < 16) : (bOf hexd).extract d (d + 1) = bOf [dch d] := by
  rw [bOf_extract]
  congr 1
  have : ∀ d : Fin 16, (hexd.take (d + 1)).drop d = [dch d] := by decide
  exact this ⟨d, h⟩
/-! ### the reference's digits -/
theorem rdigits (b : Nat) (hb : 2 ≤ b) (hb2 : b ≤ 16) (m : Nat) : ∀ (n : Nat) (acc : List UInt8), n < b ^ m → n ≤ 18446744073709551615 → acc.length + m ≤ 1000 →
    Ev (fun k => depotref02_digits.l0 k (n : Int) (b : Int) (bOf hexd) (bOf acc)) (bOf (digs b n ++ acc)) := by
  have cut : ∀ d : Nat, d < b → ∀ acc : List UInt8, acc.length ≤ 1000 → (bOf hexd).extract ((d : Int)).toNat ((IntKind.u64.wrap ((d : Int) + 1))).toNat = bOf [dch d] ∧ IntKind.u64.wrap ((d : Int) + 1) = ((d + 1 : Nat) : Int) := by
    intro d hd acc _
    have hw : IntKind.u64.wrap ((d : Int) + 1) = ((d + 1 : Nat) : Int) := by rw [IntWalk.u64_in _ (by omega)]; omega
    refine ⟨?_, hw⟩
    rw [hw, Int.toNat_natCast, Int.toNat_natCast]
    exact hex_cut d (by omega)
  have hsz : ((bOf hexd).size : Int) = 16 := rfl
  have last : ∀ (n : Nat) (acc : List UInt8), n < b → acc.length ≤ 1000 → Ev (fun k => depotref02_digits.l0 k (n : Int) (b : Int) (bOf hexd) (bOf acc)) (bOf (digs b n ++ acc)) := by
    intro n acc hn ha
    obtain ⟨e1, e2⟩ := cut n hn acc ha
    refine Ev.step (fun k => by rw [depotref02_digits.l0]) (Ev.neg (by omega) ?_)
    rw [e1, e2, hsz, bOf_append, digs_small hn]
    exact Ev.pos (by omega) (Ev.pos (by omega) (Ev.pos (by omega) (Ev.pos (by rw [bOf_size, bOf_size]; simp; omega) (Ev.some' rfl))))
  induction m with
  | zero =>
    intro n acc h hn ha
    exact last n acc (by simp at h; omega) (by omega)
  | succ m ih =>
    intro n acc h hn ha
    by_cases hlt : n < b
    · exact last n acc hlt (by omega)
    · have hmod : n % b < b := Nat.mod_lt _ (by omega)
      obtain ⟨e1, e2⟩ := cut (n % b) hmod acc (by omega)
      have t1 : Int.tmod (n : Int) (b : Int) = ((n % b : Nat) : Int) := by rw [Int.tmod_eq_emod_of_nonneg (by omega)]; rfl
      obtain ⟨q, hq⟩ : ∃ q, n / b = q := ⟨_, rfl⟩
      have hle : q ≤ n := hq ▸ Nat.div_le_self n b
      have t2 : IntKind.u64.wrap (Int.tdiv (n : Int) (b : Int)) = ((n / b : Nat) : Int) := by
        rw [Int.tdiv_eq_ediv_of_nonneg (by omega), show ((n : Int) / (b : Int)) = (q : Int) by rw [← hq]; rfl, IntWalk.u64_in _ (by omega), hq]
      refine Ev.step (fun k => by rw [depotref02_digits.l0]) (Ev.pos (by omega) (Ev.neg (by omega) ?_))
      rw [t1, t2, e1, e2, hsz, bOf_append, digs_big hb hlt, List.append_assoc]
      refine Ev.pos (by omega) (Ev.pos (by omega) (Ev.pos (by omega) (Ev.pos (by rw [bOf_size, bOf_size]; simp; omega) ?_)))
      refine ih (n / b) _ ?_ (by rw [hq]; omega) (by simp; omega)
      rw [Nat.div_lt_iff_lt_mul (by omega)]
      rw [Nat.pow_succ] at h
      exact h
theorem ref_digits (b : Nat) (hb : 2 ≤ b) (hb2 : b ≤ 16) (n : Nat) (hn : n ≤ 18446744073709551615) : Ev (fun k => depotref02_digits.f k (n : Int) (b : Int)) (bOf (digs b n)) := by
  unfold depotref02_digits.f
  rw [hexd_lit]
  have h : n < b ^ 64 := by
    have h1 : 2 ^ 64 ≤ b ^ 64 := Nat.pow_le_pow_left hb 64
    have h2 : (2 : Nat) ^ 64 = 18446744073709551616 := by decide
    omega
  have := rdigits b hb hb2 64 n [] h hn (by simp)
  rw [List.append_nil] at this
  exact this
def plain (n : Int) : List UInt8 := if n < 0 then 45 :: digs 10 n.natAbs else digs 10 n.toNat
theorem plain_eq (n : Int) : Lib.itoa n = plain n := by unfold Lib.itoa plain; rw [digs_ten, digs_ten]
theorem plain_len (n : Int) (h : -9223372036854775808 ≤ n ∧ n ≤ 9223372036854775807) : (plain n).length ≤ 21 := by
  have h20 : (10 : Nat) ^ 20 = 100000000000000000000 := by decide
  unfold plain
  split
  · have := digs_len 10 (by decide) 20 n.natAbs (by omega)
    simp; omega
  · have := digs_len 10 (by decide) 20 n.toNat (by omega)
    omega
theorem prog_Plain (n : Int) (h : -9223372036854775808 ≤ n ∧ n ≤ 9223372036854775807) : decimal_Plain.f n = some (bOf (plain n)) := by
  unfold decimal_Plain.f strconv_Itoa.f
  rw [if_pos h, plain_eq]
  rfl
theorem ref_Plain (n : Int) (h : -9223372036854775808 ≤ n ∧ n ≤ 9223372036854775807) : Ev (fun k => depotref02_Plain.f k n) (bOf (plain n)) := by
  unfold depotref02_Plain.f
  have h20 : (10 : Nat) ^ 20 = 100000000000000000000 := by decide
  refine Ev.ite (fun hn => ?_) (fun hn => ?_)
  · have e : IntKind.u64.wrap (-(IntKind.u64.wrap n)) = ((n.natAbs : Nat) : Int) := by
      have e1 : IntKind.u64.wrap n = n + 18446744073709551616 := by
        have := IntKind.wrap_u64 n
        rw [this]; omega
      rw [e1, IntKind.wrap_u64]; omega
    rw [e]
    have hp : plain n = 45 :: digs 10 n.natAbs := by unfold plain; rw [if_pos hn]
    have hl := plain_len n h
    rw [hp] at hl ⊢
    refine Ev.bind (ref_digits 10 (by decide) (by decide) _ (by omega)) (Ev.pos (by rw [bOf_size]; simp at hl; omega) (Ev.some' ?_))
    rw [show (⟨#[45]⟩ : ByteArray) = bOf [45] from rfl, bOf_append]; rfl
  · have e : IntKind.u64.wrap n = ((n.toNat : Nat) : Int) := by rw [IntWalk.u64_in _ (by omega)]; omega
    rw [e]
    have hp : plain n = digs 10 n.toNat := by unfold plain; rw [if_neg hn]
    rw [hp]
    exact Ev.bind (ref_digits 10 (by decide) (by decide) _ (by omega)) (Ev.some' rfl)
theorem dig_dch : ∀ (b : Fin 17) (d : Fin 16), (d : Nat) < b → Hand.dig ((dch d).toNat : Int) ((b : Nat) : Int) = ((d : Nat) : Int) := by decide +kernel
theorem at_mid (pre post : List UInt8) (c : UInt8) : bt (bOf (pre ++ c :: post)) (pre.length : Int) = c.toNat := by
  rw [bt_bOf _ _ (by omega) (by simp; omega), Int.toNat_natCast]
  simp [at_]
theorem read_one (b d : Nat) (hb2 : b ≤ 16) (hd : d < b) (pre post : List UInt8) (acc : Int) (h0 : 0 ≤ acc) (hm : acc * b + d ≤ 9223372036854775807) :
    readGo (bOf (pre ++ dch d :: post)) b (post.length + 1) acc pre.length = readGo (bOf (pre ++ dch d :: post)) b post.length (acc * b + d) (pre.length + 1) := by
  rw [readGo, at_mid]
  have hdg : Hand.dig ((dch d).toNat : Int) (b : Int) = (d : Int) := dig_dch ⟨b, by omega⟩ ⟨d, by omega⟩ hd
  rw [hdg, if_neg (by omega)]
  have hp : 0 ≤ acc * (b : Int) := Int.mul_nonneg h0 (by omega)
  rw [wrap_id (n := acc * (b : Int)) (by omega) (by omega), wrap_id (by omega) (by omega)]
theorem read_digs (b : Nat) (hb : 2 ≤ b) (hb2 : b ≤ 16) (n : Nat) : ∀ (pre post : List UInt8), n ≤ 9223372036854775807 →
    readGo (bOf (pre ++ (digs b n ++ post))) b ((digs b n).length + post.length) 0 pre.length = readGo (bOf (pre ++ (digs b n ++ post))) b post.length n (pre.length + (digs b n).length) := by
  induction n using Nat.strongRecOn with
  | _ n ih =>
    intro pre post hn
    by_cases h : n < b
    · rw [digs_small h]
      have := read_one b n hb2 h pre post 0 (by omega) (by omega)
      rw [show (0 : Int) * (b : Int) + (n : Int) = (n : Int) by omega] at this
      rw [show [dch n].length + post.length = post.length + 1 by simp; omega]
      exact this
    · have hlt : n / b < n := Nat.div_lt_self (by omega) (by omega)
      have hmod : n % b < b := Nat.mod_lt _ (by omega)
      have hdm : ((n / b : Nat) : Int) * (b : Int) + ((n % b : Nat) : Int) = (n : Int) := by
        have := Nat.div_add_mod n b
        rw [Nat.mul_comm] at this
        exact_mod_cast this
      rw [digs_big hb h, List.append_assoc]
      have h1 := ih (n / b) hlt pre ([dch (n % b)] ++ post) (by omega)
      rw [show (digs b (n / b) ++ [dch (n % b)]).length + post.length = (digs b (n / b)).length + ([dch (n % b)] ++ post).length by simp; omega, h1]
      have h2 := read_one b (n % b) hb2 hmod (pre ++ digs b (n / b)) post ((n / b : Nat) : Int) (Int.natCast_nonneg _) (by rw [hdm]; omega)
      rw [hdm] at h2
      rw [List.append_assoc, List.length_append] at h2
      rw [show ([dch (n % b)] ++ post).length = post.length + 1 by simp, List.length_append]
      exact h2
theorem ten_back (n : Nat) (most : Int) (hn : n < 1000000000000000000) (hm : (n : Int) ≤ most) : readP (bOf (digs 10 n)) 10 18 most = ((n : Int), 0) := by
  have hp := digs_pos 10 n (by decide)
  have h18 : (10 : Nat) ^ 18 = 1000000000000000000 := by decide
  have hl := digs_len 10 (by decide) 18 n (by omega)
  unfold readP
  rw [bOf_size, if_neg (by omega), if_neg (by omega)]
  have h2 := read_digs 10 (by decide) (by decide) n [] [] (by omega)
  simp only [List.nil_append, List.append_nil, List.length_nil, Nat.zero_add, Nat.add_zero] at h2
  have e : readGo (bOf (digs 10 n)) 10 (digs 10 n).length 0 0 = some (n : Int) := by
    refine h2.trans ?_
    rfl
  rw [e]
  show (if most < (n : Int) then ((0 : Int), (3 : Int)) else ((n : Int), 0)) = _
  rw [if_neg (by omega)]
theorem wf64 {n : Int} (h : (Lit.int .i64 n).wf = true) : -9223372036854775808 ≤ n ∧ n ≤ 9223372036854775807 := by
  have h2 : IntKind.i64.min ≤ n ∧ n ≤ IntKind.i64.max := by simpa [Lit.wf] using h
  have e1 : IntKind.i64.min = -9223372036854775808 := rfl
  have e2 : IntKind.i64.max = 9223372036854775807 := rfl
  omega
end Go.Proofs.YtghaocjhmambaaaDoor.Pu

/- Cuts: the program's and the reference's (for seats without tokens). -/
namespace Go.Proofs.YtghaocjhmambaaaDoor.Pu
open Go.RowKit Go.Proofs.YtghaocjhmambaaaDoorW.PrintWords Go.Proofs.YtghaocjhmambaaaDoorW.PrintLast Go.Proofs.YtghaocjhmambaaaDoor.PR
set_option linter.unusedVariables false
set_option linter.unusedSimpArgs false

/-! ### cuts -/
def cutAt (c : UInt8) : List UInt8 → List UInt8 × List UInt8 × Bool
  | [] => ([], [], false)
  | x :: l => if x = c then ([], l, true) else (x :: (cutAt c l).1, (cutAt c l).2.1, (cutAt c l).2.2)
theorem cut_index (c : UInt8) : ∀ l, Lib.indexByte l c = if (cutAt c l).2.2 = true then ((cutAt c l).1.length : Int) else -1
  | [] => rfl
  | x :: l => by
    have ih := cut_index c l
    unfold Lib.indexByte cutAt
    by_cases h : x = c
    · subst h; simp
    · rw [if_neg (by simpa using h), if_neg h, ih]
      cases (cutAt c l).2.2
      · simp
      · simp only [if_true, List.length_cons]
        rw [if_neg (by simp <;> omega)]
        omega
theorem cut_yes (c : UInt8) : ∀ l, (cutAt c l).2.2 = true → l = (cutAt c l).1 ++ c :: (cutAt c l).2.1
  | [], h => by cases h
  | x :: l, h => by
    unfold cutAt at h ⊢
    by_cases e : x = c
    · subst e; simp
    · rw [if_neg e] at h
      simp only [if_neg e]
      have := cut_yes c l h
      rw [List.cons_append, ← this]
theorem cut_no (c : UInt8) : ∀ l, (cutAt c l).2.2 = false → (cutAt c l).1 = l ∧ (cutAt c l).2.1 = []
  | [], _ => ⟨rfl, rfl⟩
  | x :: l, h => by
    unfold cutAt at h ⊢
    by_cases e : x = c
    · rw [if_pos e] at h; cases h
    · rw [if_neg e] at h
      simp only [if_neg e]
      have := cut_no c l h
      exact ⟨by rw [this.1], this.2⟩
theorem cut_le (c : UInt8) (l : List UInt8) : (cutAt c l).1.length ≤ l.length ∧ (cutAt c l).2.1.length ≤ l.length := by
  cases h : (cutAt c l).2.2
  · have := cut_no c l h; rw [this.1, this.2]; simp
  · have := congrArg List.length (cut_yes c l h)
    simp at this
    omega
theorem prog_Cut (c : UInt8) (l : List UInt8) (h : l.length ≤ 4294967296) : octet_Cut.f (bOf l) (c.toNat : Int) = some (bOf (cutAt c l).1, bOf (cutAt c l).2.1, (cutAt c l).2.2) := by
  unfold octet_Cut.f strings_IndexByte.f
  rw [Option.bind_some, data_bOf, show ((c.toNat : Int)).toNat.toUInt8 = c by simp, cut_index]
  cases hh : (cutAt c l).2.2
  · have := cut_no c l hh
    simp only [Bool.false_eq_true, if_false]
    rw [if_pos (by decide), this.1, this.2]; rfl
  · have hy := cut_yes c l hh
    have hl := congrArg List.length hy
    simp at hl
    rw [if_pos rfl, if_neg (by omega), if_pos (by omega), bOf_size, if_pos (by omega), wrap_id (by omega) (by omega), if_pos (by omega), if_pos (by omega), bOf_extract, bOf_extract]
    have e1 : ((l.take ((cutAt c l).1.length : Int).toNat).drop 0) = (cutAt c l).1 := by
      rw [Int.toNat_natCast, List.drop_zero]
      conv => lhs; arg 2; rw [hy]
      exact List.take_left
    have e2 : ((l.take l.length).drop (((cutAt c l).1.length : Int) + 1).toNat) = (cutAt c l).2.1 := by
      rw [List.take_length, show (((cutAt c l).1.length : Int) + 1).toNat = (cutAt c l).1.length + 1 by omega]
      conv => lhs; arg 2; rw [hy]
      rw [List.drop_append, List.drop_eq_nil_of_le (by omega), show (cutAt c l).1.length + 1 - (cutAt c l).1.length = 1 by omega]
      rfl
    rw [e1, e2]
theorem rcut_l0 (c : UInt8) (l : List UInt8) (h : l.length ≤ 4294967296) (n : Nat) : ∀ (p s : List UInt8), s.length = n → l = p ++ s →
    Ev (fun k => depotref01_Cut.l0 k (bOf l) (c.toNat : Int) (p.length : Int)) (bOf (p ++ (cutAt c s).1), bOf (cutAt c s).2.1, (cutAt c s).2.2) := by
  induction n with
  | zero =>
    intro p s hs hl
    have : s = [] := List.eq_nil_of_length_eq_zero hs
    subst this
    rw [List.append_nil] at hl
    subst hl
    refine Ev.step (fun k => by rw [depotref01_Cut.l0]) (Ev.neg (by rw [bOf_size]; omega) (Ev.some' ?_))
    show (bOf l, bOf [], false) = (bOf (l ++ []), bOf [], false)
    rw [List.append_nil]
  | succ n ih =>
    intro p s hs hl
    obtain ⟨x, s, rfl⟩ : ∃ x t, s = x :: t := by
      cases s with
      | nil => simp at hs
      | cons x t => exact ⟨x, t, rfl⟩
    have hlen : l.length = p.length + (s.length + 1) := by rw [hl]; simp
    have hb : bt (bOf l) (p.length : Int) = (x.toNat : Int) := by
      rw [bt_bOf _ _ (by omega) (by omega), Int.toNat_natCast, at_, hl]
      simp [List.getD_eq_getElem?_getD]
    have hw : wrap64 ((p.length : Int) + 1) = (((p ++ [x]).length : Nat) : Int) := by rw [wrap_id (by omega) (by omega)]; simp
    refine Ev.step (fun k => by rw [depotref01_Cut.l0]) (Ev.pos (by rw [bOf_size]; omega) (Ev.pos (by omega) ?_))
    rw [hb, bOf_size]
    by_cases e : x = c
    · subst e
      have hc : cutAt x (x :: s) = ([], s, true) := by unfold cutAt; rw [if_pos rfl]
      rw [hc]
      refine Ev.pos rfl (Ev.pos (by omega) (Ev.pos (by rw [hw]; omega) (Ev.pos (by rw [hw]; simp; omega) (Ev.some' ?_))))
      rw [hw, bOf_extract, bOf_extract, Int.toNat_natCast, Int.toNat_natCast, List.take_length, List.append_nil, hl]
      congr 1
      · congr 1; simp
      · congr 1
        rw [show p ++ x :: s = (p ++ [x]) ++ s by simp, List.drop_left]
    · have hc : cutAt c (x :: s) = (x :: (cutAt c s).1, (cutAt c s).2.1, (cutAt c s).2.2) := by rw [cutAt, if_neg e]
      rw [hc]
      refine Ev.neg (fun h => e (by
        have : x.toNat = c.toNat := by omega
        exact UInt8.toNat_inj.1 this)) ?_
      rw [hw]
      refine Ev.eq (ih (p ++ [x]) s (by simpa using hs) (by rw [hl]; simp)) ?_
      simp
theorem ref_Cut (c : UInt8) (l : List UInt8) (h : l.length ≤ 4294967296) : Ev (fun k => depotref01_Cut.f k (bOf l) (c.toNat : Int)) (bOf (cutAt c l).1, bOf (cutAt c l).2.1, (cutAt c l).2.2) := by
  unfold depotref01_Cut.f
  exact rcut_l0 c l h _ [] l rfl rfl
theorem allB_list (p : Int → Bool) (l : List UInt8) : Hand.allB p (bOf l) (bOf l).size = l.all fun b => p (b.toNat : Int) := by
  rw [bOf_size]
  have key : ∀ n, n ≤ l.length → Hand.allB p (bOf l) n = (l.take n).all fun b => p (b.toNat : Int) := by
    intro n
    induction n with
    | zero => intro _; simp [Hand.allB_zero]
    | succ n ih =>
      intro hn
      rw [Hand.allB_succ, ih (by omega), List.take_add_one, List.all_append, bt_bOf _ _ (by omega) (by omega), Int.toNat_natCast, at_lt _ _ (by omega), List.getElem?_eq_getElem (by omega)]
      simp
  rw [key _ (Nat.le_refl _), List.take_length]
theorem bt_at_cut (p : List UInt8) (x : UInt8) (s : List UInt8) : bt (bOf (p ++ x :: s)) (p.length : Int) = (x.toNat : Int) := by
  rw [bt_bOf _ _ (by omega) (by simp; omega), Int.toNat_natCast, at_]
  simp [List.getD_eq_getElem?_getD]
end Go.Proofs.YtghaocjhmambaaaDoor.Pu

/- Hosts, and texts whose per cent signs are made plain: the program's and the reference's. -/
namespace Go.Proofs.YtghaocjhmambaaaDoor.Pu
open Go.RowKit Go.Proofs.YtghaocjhmambaaaDoorW.PrintWords Go.Proofs.YtghaocjhmambaaaDoorW.PrintLast Go.Proofs.YtghaocjhmambaaaDoor.PR
set_option linter.unusedVariables false
set_option linter.unusedSimpArgs false

/-! ### kinds -/
theorem letter_all : ∀ c : Fin 256, depotref08_letter.f ((c : Nat) : Int) = some (Hand.alnumB ((c : Nat) : Int)) := by decide +kernel
theorem ref_letter (c : Int) (h : 0 ≤ c ∧ c ≤ 255) : depotref08_letter.f c = some (Hand.alnumB c) := by
  have := letter_all ⟨c.toNat, by omega⟩
  simpa [show ((c.toNat : Nat) : Int) = c by omega] using this
theorem idx_any (x : UInt8) : ∀ l : List UInt8, decide (0 ≤ Lib.indexByte l x) = l.any fun y => y == x
  | [] => rfl
  | y :: l => by
    have ih := idx_any x l
    unfold Lib.indexByte
    rw [List.any_cons]
    by_cases h : y = x
    · subst h; simp
    · rw [if_neg (by simpa using h), show (y == x) = false by simpa using h, Bool.false_or, ← ih]
      have := Lib.indexByte_ge l x
      by_cases h2 : Lib.indexByte l x < 0
      · have : Lib.indexByte l x = -1 := by omega
        rw [this]; rfl
      · rw [if_neg (by simp <;> omega), decide_eq_true (by omega), decide_eq_true (by omega)]
def inU (m : List UInt8) (c : Int) : Bool := m.any fun y => decide ((y.toNat : Int) = c)
theorem inB_list (m : List UInt8) (c : Int) (h : 0 ≤ c ∧ c ≤ 255) : Hand.inB (bOf m) c = inU m c := by
  unfold Hand.inB inU
  rw [data_bOf, idx_any]
  congr 1
  funext y
  have hb := Hand.u8_back c h
  by_cases e : y = c.toNat.toUInt8
  · rw [show (y == c.toNat.toUInt8) = true by simpa using e, decide_eq_true (by rw [e]; exact hb)]
  · rw [show (y == c.toNat.toUInt8) = false by simpa using e, decide_eq_false]
    intro e2
    apply e
    apply UInt8.toNat_inj.1
    omega
theorem rin_l0 (m : List UInt8) (c : Int) (hm : m.length ≤ 1000) (n : Nat) : ∀ (p s : List UInt8), s.length = n → m = p ++ s → Ev (fun k => depotref08_in.l0 k c (bOf m) (p.length : Int)) (inU s c) := by
  induction n with
  | zero =>
    intro p s hs hl
    have : s = [] := List.eq_nil_of_length_eq_zero hs
    subst this
    rw [List.append_nil] at hl
    subst hl
    refine Ev.step (fun k => by rw [depotref08_in.l0]) ?_
    exact Ev.neg (by rw [bOf_size]; omega) (Ev.some' rfl)
  | succ n ih =>
    intro p s hs hl
    obtain ⟨x, s, rfl⟩ : ∃ x t, s = x :: t := by
      cases s with
      | nil => simp at hs
      | cons x t => exact ⟨x, t, rfl⟩
    have hlen : m.length = p.length + (s.length + 1) := by rw [hl]; simp
    have hb : bt (bOf m) (p.length : Int) = (x.toNat : Int) := by rw [hl]; exact bt_at_cut p x s
    have hw : wrap64 ((p.length : Int) + 1) = (((p ++ [x]).length : Nat) : Int) := by rw [wrap_id (by omega) (by omega)]; simp
    refine Ev.step (fun k => by rw [depotref08_in.l0]) ?_
    refine Ev.pos (by rw [bOf_size]; omega) (Ev.pos (by omega) ?_)
    rw [hb, hw]
    unfold inU
    rw [List.any_cons]
    by_cases e : (x.toNat : Int) = c
    · rw [decide_eq_true e, Bool.true_or]
      exact Ev.pos e (Ev.some' rfl)
    · rw [decide_eq_false e, Bool.false_or]
      exact Ev.neg e (ih (p ++ [x]) s (by simpa using hs) (by rw [hl]; simp))
theorem ref_in (m : List UInt8) (c : Int) (hm : m.length ≤ 1000) (h : 0 ≤ c ∧ c ≤ 255) : Ev (fun k => depotref08_in.f k c (bOf m)) (Hand.inB (bOf m) c) := by
  rw [inB_list m c h]
  unfold depotref08_in.f
  exact rin_l0 m c hm _ [] m rfl rfl
/-! ### numbers -/
theorem dig10 (c : Int) : Hand.dig c 10 ≤ 9 := by
  unfold Hand.dig Hand.dig0
  repeat' split
  all_goals omega
theorem readGo10 (s : ByteArray) : ∀ (n : Nat) (acc : Int) (i j : Nat) (v : Int), n + j = 18 → 0 ≤ acc → acc < 10 ^ j → readGo s 10 n acc i = some v → 0 ≤ v ∧ v < 10 ^ 18
  | 0, acc, i, j, v, hj, h0, h1, h => by
    rw [readGo] at h
    obtain rfl := Option.some.inj h
    have : j = 18 := by omega
    subst this
    exact ⟨h0, h1⟩
  | n + 1, acc, i, j, v, hj, h0, h1, h => by
    rw [readGo] at h
    split at h
    case isTrue => cases h
    case isFalse hd =>
      have hd2 := dig10 (bt s i)
      have hp : (10 : Int) ^ (j + 1) ≤ 10 ^ 18 := by
        have : (10 : Nat) ^ (j + 1) ≤ 10 ^ 18 := Nat.pow_le_pow_right (by decide) (by omega)
        exact_mod_cast this
      have e15 : (10 : Int) ^ 18 = 1000000000000000000 := by decide
      have hs : (10 : Int) ^ (j + 1) = 10 ^ j * 10 := Int.pow_succ 10 j
      rw [wrap_id (n := acc * 10) (by omega) (by omega), wrap_id (by omega) (by omega)] at h
      exact readGo10 s n _ (i + 1) (j + 1) v (by omega) (by omega) (by omega) h
theorem readP_lo (s : ByteArray) (most : Int) : 0 ≤ (readP s 10 18 most).1 := by
  unfold readP
  split
  · exact Int.le_refl _
  · split
    · exact Int.le_refl _
    case isFalse hl =>
      cases h : readGo s 10 s.size 0 0 with
      | none => exact Int.le_refl _
      | some v =>
        have hp : (0 : Int) < 10 ^ (18 - s.size) := Int.pow_pos (by decide)
        have hr : 0 ≤ v := (readGo10 s s.size 0 0 (18 - s.size) v (by omega) (Int.le_refl _) hp h).1
        show 0 ≤ (if most < v then ((0 : Int), (3 : Int)) else (v, 0)).1
        split
        · exact Int.le_refl _
        · exact hr
/-! ### hosts -/
theorem ofB_or (m : List UInt8) (c : Int) : Hand.ofB (bOf m) c = (Hand.alnumB c || Hand.inB (bOf m) c) := rfl
theorem u8r (x : UInt8) : 0 ≤ (x.toNat : Int) ∧ (x.toNat : Int) ≤ 255 := Hand.u8_int x
def hostU (l : List UInt8) : Bool := l.all fun b => Hand.ofB hostT (b.toNat : Int)
def authE (host rest : List UInt8) : ByteArray × Int × Int :=
  if rest = [] then (Hand.lowerS (bOf host), 80, 0) else auth_end (bOf host) (bOf rest) (readP (bOf rest) 10 18 65535)
def authL (l : List UInt8) : ByteArray × Int × Int :=
  if (cutAt 58 l).1 = [] then (⟨#[]⟩, 0, 26) else if 253 < (cutAt 58 l).1.length then (⟨#[]⟩, 0, 26)
  else if hostU (cutAt 58 l).1 = false then (⟨#[]⟩, 0, 26) else authE (cutAt 58 l).1 (cutAt 58 l).2.1
theorem prog_Authority (l : List UInt8) (h : l.length ≤ 100000) : target_Authority.f (bOf l) = some (authL l) := by
  have hle := cut_le 58 l
  unfold target_Authority.f auth_mid authL
  rw [show (58 : Int) = (((58 : UInt8).toNat : Nat) : Int) from rfl, prog_Cut 58 l (by omega), Option.bind_some]
  simp only
  generalize (cutAt 58 l).1 = host at hle ⊢
  generalize (cutAt 58 l).2.1 = rest at hle ⊢
  rw [bOf_size, bOf_size]
  by_cases c1 : host = []
  · rw [if_pos c1, c1, if_pos (by rfl)]
  · have : ¬ host.length = 0 := fun e => c1 (List.eq_nil_of_length_eq_zero e)
    rw [if_neg c1, if_neg this]
    by_cases c2 : 253 < host.length
    · rw [if_pos c2, if_pos c2]
    · rw [if_neg c2, if_neg c2]
      have e : Hand.allB (Hand.ofB hostT) (bOf host) host.length = hostU host := by
        have := allB_list (Hand.ofB hostT) host
        rwa [bOf_size] at this
      rw [e]
      by_cases c3 : hostU host = false
      · rw [if_pos c3, if_pos c3]
      · rw [if_neg c3, if_neg c3]
        unfold authE
        by_cases c4 : rest = []
        · rw [if_pos c4, c4, if_pos (by rfl)]
        · have : ¬ rest.length = 0 := fun e => c4 (List.eq_nil_of_length_eq_zero e)
          rw [if_neg c4, if_neg this, prog_Number _ _ (by rw [bOf_size]; omega)]
          rfl
theorem rauth_j2 (host rest : List UInt8) (hh : host.length ≤ 100000) (hr : rest.length ≤ 100000) (b : Bool) (hb : b = false → rest = []) : Ev (fun k => depotref08_Authority.j2 k (bOf host) (bOf rest) 80 (b && (rest != []))) (authE host rest) := by
  have hlo : depotref01_Lower.f (bOf host) = some (Hand.lowerS (bOf host)) := by unfold depotref01_Lower.f; rw [if_pos (by rw [bOf_size]; omega)]
  refine Ev.step (fun k => by rw [depotref08_Authority.j2]) ?_
  unfold authE
  by_cases c4 : rest = []
  · rw [if_pos c4]
    have : (b && (rest != [])) = false := by rw [c4]; simp
    rw [this]
    exact Ev.neg (by simp) (Ev.sbind hlo (Ev.some' rfl))
  · rw [if_neg c4]
    have : (b && (rest != [])) = true := by
      cases b
      · exact absurd (hb rfl) c4
      · simpa using c4
    rw [this]
    have hp := readP_lo (bOf rest) 65535
    refine Ev.pos rfl (Ev.bind (ref_Number _ _ (by rw [bOf_size]; omega)) ?_)
    unfold auth_end
    rw [bOf_size]
    by_cases e1 : (readP (bOf rest) 10 18 65535).2 = 0
    · rw [if_neg (not_not_intro e1)]
      refine Ev.pos e1 ?_
      by_cases e2 : (readP (bOf rest) 10 18 65535).1 = 0
      · rw [if_pos e2]
        exact Ev.pos (by omega) (Ev.some' rfl)
      · rw [if_neg e2]
        refine Ev.neg (by omega) ?_
        by_cases e3 : 5 < rest.length
        · rw [if_pos e3]
          exact Ev.pos (by omega) (Ev.some' rfl)
        · rw [if_neg e3]
          exact Ev.neg (by omega) (Ev.sbind hlo (Ev.some' rfl))
    · rw [if_pos e1]
      exact Ev.neg e1 (Ev.some' rfl)
theorem hostT_b : hostT = bOf [45, 46] := rfl
theorem rauth_l0 (host rest : List UInt8) (b : Bool) (hh : host.length ≤ 1000) (hr : rest.length ≤ 100000) (hb : b = false → rest = []) (n : Nat) : ∀ (p s : List UInt8), s.length = n → host = p ++ s →
    Ev (fun k => depotref08_Authority.l0 k (bOf host) (bOf rest) b (p.length : Int)) (if hostU s = false then (⟨#[]⟩, 0, 26) else authE host rest) := by
  induction n with
  | zero =>
    intro p s hs hl
    have : s = [] := List.eq_nil_of_length_eq_zero hs
    subst this
    rw [List.append_nil] at hl
    subst hl
    have hj := rauth_j2 host rest (by omega) hr b hb
    refine Ev.step (fun k => by rw [depotref08_Authority.l0]) ?_
    refine Ev.neg (by rw [bOf_size]; omega) ?_
    rw [if_neg (by simp [hostU]), toList_bOf]
    cases b
    · exact Ev.neg (by simp) hj
    · exact Ev.pos rfl hj
  | succ n ih =>
    intro p s hs hl
    obtain ⟨x, s, rfl⟩ : ∃ x t, s = x :: t := by
      cases s with
      | nil => simp at hs
      | cons x t => exact ⟨x, t, rfl⟩
    have hlen : host.length = p.length + (s.length + 1) := by rw [hl]; simp
    have hbt : bt (bOf host) (p.length : Int) = (x.toNat : Int) := by rw [hl]; exact bt_at_cut p x s
    have hw : wrap64 ((p.length : Int) + 1) = (((p ++ [x]).length : Nat) : Int) := by rw [wrap_id (by omega) (by omega)]; simp
    have next := ih (p ++ [x]) s (by simpa using hs) (by rw [hl]; simp)
    refine Ev.step (fun k => by rw [depotref08_Authority.l0]) ?_
    refine Ev.pos (by rw [bOf_size]; omega) (Ev.pos (by omega) ?_)
    rw [hbt, hw]
    refine Ev.sbind (ref_letter _ (u8r x)) ?_
    have hu : hostU (x :: s) = (Hand.ofB hostT (x.toNat : Int) && hostU s) := by unfold hostU; rw [List.all_cons]
    have ho : Hand.ofB hostT (x.toNat : Int) = (Hand.alnumB (x.toNat : Int) || Hand.inB (bOf [45, 46]) (x.toNat : Int)) := rfl
    rw [hu, ho]
    cases c1 : Hand.alnumB (x.toNat : Int)
    · refine Ev.neg (by simp) (Ev.bind (ref_in [45, 46] _ (by decide) (u8r x)) ?_)
      cases c2 : Hand.inB (bOf [45, 46]) (x.toNat : Int)
      · exact Ev.neg (by simp) (Ev.some' (by simp))
      · exact Ev.pos rfl (Ev.eq next (by simp))
    · exact Ev.pos rfl (Ev.eq next (by simp))
theorem ref_Authority (l : List UInt8) (h : l.length ≤ 100000) : Ev (fun k => depotref08_Authority.f k (bOf l)) (authL l) := by
  have hle := cut_le 58 l
  have hno := cut_no 58 l
  unfold depotref08_Authority.f authL
  refine Ev.bind (ref_Cut 58 l (by omega)) ?_
  simp only
  generalize (cutAt 58 l).1 = host at hle hno ⊢
  generalize (cutAt 58 l).2.1 = rest at hle hno ⊢
  generalize (cutAt 58 l).2.2 = has at hno ⊢
  have jt : Ev (fun k => depotref08_Authority.j0 k (bOf host) (bOf rest) has true) ((⟨#[]⟩ : ByteArray), (0 : Int), (26 : Int)) := by
    refine Ev.step (fun k => by rw [depotref08_Authority.j0]) ?_
    exact Ev.pos rfl (Ev.some' rfl)
  rw [bOf_size]
  by_cases c1 : host = []
  · rw [if_pos c1]
    exact Ev.pos (by rw [c1]; decide) jt
  · have : ¬ host.length = 0 := fun e => c1 (List.eq_nil_of_length_eq_zero e)
    rw [if_neg c1]
    refine Ev.neg (by omega) ?_
    by_cases c2 : 253 < host.length
    · rw [if_pos c2, decide_eq_true (by omega)]
      exact jt
    · rw [if_neg c2, decide_eq_false (by omega)]
      refine Ev.step (fun k => by rw [depotref08_Authority.j0]) ?_
      exact Ev.neg (by simp) (rauth_l0 host rest has (by omega) (by omega) (fun e => (hno e).2) _ [] host rfl rfl)
/-! ### per cent signs -/
theorem hex_all' : ∀ c : Fin 256, depotref01_Hex.f 20 ((c : Nat) : Int) = some (Hand.hexP ((c : Nat) : Int)) := by decide +kernel
theorem ref_Hex1 (x : UInt8) : Ev (fun k => depotref01_Hex.f k (x.toNat : Int)) (Hand.hexP (x.toNat : Int)) := Ev.of (depotref01_Hex.mono _) (hex_all' ⟨x.toNat, x.toNat_lt⟩)
theorem great_all : ∀ a : Fin 16, (⟨#[48, 49, 50, 51, 52, 53, 54, 55, 56, 57, 65, 66, 67, 68, 69, 70]⟩ : ByteArray).extract (a : Nat) ((a : Nat) + 1) = Hand.oneB (bt Hand.great ((a : Nat) : Int)) := by decide +kernel
theorem ref_great (a : Int) (h : 0 ≤ a ∧ a ≤ 15) : (⟨#[48, 49, 50, 51, 52, 53, 54, 55, 56, 57, 65, 66, 67, 68, 69, 70]⟩ : ByteArray).extract a.toNat (wrap64 (a + 1)).toNat = Hand.oneB (bt Hand.great a) := by
  have := great_all ⟨a.toNat, by omega⟩
  rw [wrap_id (by omega) (by omega), show (a + 1).toNat = a.toNat + 1 by omega]
  simpa [show ((a.toNat : Nat) : Int) = a by omega] using this
theorem one_nums (x : Int) (h : 0 ≤ x ∧ x ≤ 255) : strOfNums [x] = Hand.oneB x := rfl
theorem one_u8 (x : UInt8) : Hand.oneB (x.toNat : Int) = bOf [x] := by
  show (⟨#[((x.toNat : Int)).toNat.toUInt8]⟩ : ByteArray) = ⟨#[x]⟩
  simp
end Go.Proofs.YtghaocjhmambaaaDoor.Pu

/- Texts whose per cent signs are made plain: the program's and the reference's. -/
namespace Go.Proofs.YtghaocjhmambaaaDoor.Pu
open Go.RowKit Go.Proofs.YtghaocjhmambaaaDoorW.PrintWords Go.Proofs.YtghaocjhmambaaaDoorW.PrintLast Go.Proofs.YtghaocjhmambaaaDoor.PR
set_option linter.unusedVariables false
set_option linter.unusedSimpArgs false

def u8 (c : Int) : UInt8 := c.toNat.toUInt8
theorem one_b (c : Int) : Hand.oneB c = bOf [u8 c] := rfl
theorem u8_of (x : UInt8) : u8 (x.toNat : Int) = x := by unfold u8; simp
theorem ext_tail (a : List UInt8) (s : List UInt8) (n : Nat) (h : a.length = n) : (bOf (a ++ s)).extract n (bOf (a ++ s)).size = bOf s := by
  subst h
  rw [bOf_extract, bOf_size, List.take_length, List.drop_left]
set_option maxHeartbeats 1000000 in
theorem plain_both (l m : List UInt8) (hm : m.length ≤ 1000) (hl : l.length ≤ 100000) (n : Nat) : ∀ (p s out : List UInt8), s.length = n → l = p ++ s → out.length + s.length ≤ 1000000 →
    ∃ r : List UInt8 × Bool, (∀ K, s.length < K → Hand.decdGo (Hand.ofB (bOf m)) K (bOf s) (bOf out) = some (bOf r.1, r.2)) ∧ r.1.length ≤ out.length + s.length ∧
      Ev (fun k => depotref08_plain.l0 k (bOf l) (bOf m) (bOf out) (p.length : Int)) (bOf r.1, r.2) := by
  induction n using Nat.strongRecOn with
  | _ n ih =>
    intro p s out hs hl2 ho
    match s, hs, hl2, ho with
    | [], hs, hl2, ho =>
      refine ⟨(out, true), fun K hK => ?_, by simp, ?_⟩
      · obtain ⟨K, rfl⟩ : ∃ k, K = k + 1 := ⟨K - 1, by simp at hK; omega⟩
        rw [Hand.decdGo, if_pos (by rfl)]
      · rw [List.append_nil] at hl2
        subst hl2
        refine Ev.step (fun k => by rw [depotref08_plain.l0]) ?_
        exact Ev.neg (by rw [bOf_size]; omega) (Ev.some' rfl)
    | x :: s, hs, hl2, ho =>
      have hlen : l.length = p.length + (s.length + 1) := by rw [hl2]; simp
      simp only [List.length_cons] at hs ho
      have hbt : bt (bOf l) (p.length : Int) = (x.toNat : Int) := by rw [hl2]; exact bt_at_cut p x s
      have hb0 : bt (bOf (x :: s)) 0 = (x.toNat : Int) := rfl
      have hsz : ¬ (bOf (x :: s)).size = 0 := by rw [bOf_size]; simp
      have HW1 : Hid (wrap64 ((p.length : Int) + 1) = (((p ++ [x]).length : Nat) : Int)) := Lib.hid (by rw [wrap_id (by omega) (by omega)]; simp)
      by_cases c1 : x = 37
      · subst c1
        have HW2 : Hid (wrap64 ((p.length : Int) + 2) = (p.length : Int) + 2) := Lib.hid (wrap_id (by omega) (by omega))
        match s, hs, hl2, ho, hlen, hbt, hb0, hsz with
        | [], hs, hl2, ho, hlen0, hbt, hb0, hsz =>
          have hlen : l.length = p.length + 1 := hlen0
          clear hlen0
          refine ⟨([], false), fun K hK => ?_, by simp, ?_⟩
          · obtain ⟨K, rfl⟩ : ∃ k, K = k + 1 := ⟨K - 1, by omega⟩
            rw [Hand.decdGo, if_neg hsz, if_neg (by rw [hb0]; decide), if_pos (by rw [bOf_size]; decide)]
            rfl
          · refine Ev.step (fun k => by rw [depotref08_plain.l0]) ?_
            refine Ev.pos (by rw [bOf_size]; omega) (Ev.pos (by omega) (Ev.pos hbt (Ev.pos ?_ (Ev.some' rfl))))
            rw [HW2.out, bOf_size]; omega
        | [a], hs, hl2, ho, hlen0, hbt, hb0, hsz =>
          have hlen : l.length = p.length + 2 := hlen0
          clear hlen0
          refine ⟨([], false), fun K hK => ?_, by simp, ?_⟩
          · obtain ⟨K, rfl⟩ : ∃ k, K = k + 1 := ⟨K - 1, by omega⟩
            rw [Hand.decdGo, if_neg hsz, if_neg (by rw [hb0]; decide), if_pos (by rw [bOf_size]; show 2 < 3; decide)]
            rfl
          · refine Ev.step (fun k => by rw [depotref08_plain.l0]) ?_
            refine Ev.pos (by rw [bOf_size]; omega) (Ev.pos (by omega) (Ev.pos hbt (Ev.pos ?_ (Ev.some' rfl))))
            rw [HW2.out, bOf_size]; omega
        | a :: b :: t, hs, hl2, ho, hlen, hbt, hb0, hsz =>
          simp only [List.length_cons] at hs ho hlen
          have hb1 : bt (bOf (37 :: a :: b :: t)) 1 = (a.toNat : Int) := rfl
          have hb2 : bt (bOf (37 :: a :: b :: t)) 2 = (b.toNat : Int) := rfl
          have hba : bt (bOf l) (wrap64 ((p.length : Int) + 1)) = (a.toNat : Int) := by
            rw [HW1.out, hl2, show p ++ 37 :: a :: b :: t = (p ++ [37]) ++ a :: (b :: t) by simp]
            exact bt_at_cut (p ++ [37]) a (b :: t)
          have hbb : bt (bOf l) (wrap64 ((p.length : Int) + 2)) = (b.toNat : Int) := by
            rw [HW2.out, hl2, show p ++ 37 :: a :: b :: t = (p ++ [37, a]) ++ b :: t by simp, show (p.length : Int) + 2 = (((p ++ [37, a]).length : Nat) : Int) by simp]
            exact bt_at_cut (p ++ [37, a]) b t
          have HW3 : Hid (wrap64 (wrap64 ((p.length : Int) + 2) + 1) = (((p ++ [37, a, b]).length : Nat) : Int)) := Lib.hid (by rw [HW2.out, wrap_id (by omega) (by omega)]; simp; omega)
          have ra := Hand.hexP_range (a.toNat : Int)
          have rb := Hand.hexP_range (b.toNat : Int)
          have hxa := ref_Hex1 a
          have hxb := ref_Hex1 b
          have hgo : ∀ K, Hand.decdGo (Hand.ofB (bOf m)) (K + 1) (bOf (37 :: a :: b :: t)) (bOf out) =
              if (Hand.hexP (a.toNat : Int)).2 = true ∧ (Hand.hexP (b.toNat : Int)).2 = true then
                if Hand.ofB Hand.plainT (16 * (Hand.hexP (a.toNat : Int)).1 + (Hand.hexP (b.toNat : Int)).1) = true then Hand.decdGo (Hand.ofB (bOf m)) K (bOf t) (bOf (out ++ [u8 (16 * (Hand.hexP (a.toNat : Int)).1 + (Hand.hexP (b.toNat : Int)).1)]))
                else Hand.decdGo (Hand.ofB (bOf m)) K (bOf t) (bOf (out ++ [37] ++ [u8 (bt Hand.great (Hand.hexP (a.toNat : Int)).1)] ++ [u8 (bt Hand.great (Hand.hexP (b.toNat : Int)).1)]))
              else some (bOf [], false) := by
            intro K
            rw [Hand.decdGo, if_neg hsz, if_neg (by rw [hb0]; decide), if_neg (by rw [bOf_size]; simp), hb1, hb2]
            have e3 : (bOf (37 :: a :: b :: t)).extract 3 (bOf (37 :: a :: b :: t)).size = bOf t := ext_tail [37, a, b] t 3 rfl
            rw [e3]
            simp only [one_b, bOf_append]
            rfl
          have start : ∀ z, Ev (fun k => depotref08_plain.j1 k (bOf l) (bOf m) (bOf out) (p.length : Int) (Hand.hexP (a.toNat : Int)).1 (Hand.hexP (b.toNat : Int)).1 (if (Hand.hexP (a.toNat : Int)).2 = true then !(Hand.hexP (b.toNat : Int)).2 else true)) z → Ev (fun k => depotref08_plain.l0 k (bOf l) (bOf m) (bOf out) (p.length : Int)) z := by
            intro z hz
            refine Ev.step (fun k => by rw [depotref08_plain.l0]) ?_
            refine Ev.pos (by rw [bOf_size]; omega) (Ev.pos (by omega) (Ev.pos hbt (Ev.neg (by rw [HW2.out, bOf_size]; omega) (Ev.pos (by rw [HW1.out]; omega) (Ev.pos (by rw [HW1.out, bOf_size]; simp; omega) ?_)))))
            rw [hba]
            refine Ev.bind hxa (Ev.pos (by rw [HW2.out]; omega) (Ev.pos (by rw [HW2.out, bOf_size]; omega) ?_))
            rw [hbb]
            refine Ev.bind hxb ?_
            cases h1 : (Hand.hexP (a.toNat : Int)).2
            · rw [h1] at hz
              exact Ev.neg (by simp) hz
            · rw [h1] at hz
              exact Ev.pos rfl hz
          generalize Hand.hexP (a.toNat : Int) = p1 at ra hgo start
          generalize Hand.hexP (b.toNat : Int) = p2 at rb hgo start
          by_cases c2 : p1.2 = true ∧ p2.2 = true
          · obtain ⟨c2a, c2b⟩ := c2
            have xr : 0 ≤ 16 * p1.1 + p2.1 ∧ 16 * p1.1 + p2.1 ≤ 255 := by omega
            have HV : Hid (wrap64 (wrap64 (16 * p1.1) + p2.1) % 256 = 16 * p1.1 + p2.1) := Lib.hid (by rw [wrap_id (n := 16 * p1.1) (by omega) (by omega), wrap_id (by omega) (by omega)]; omega)
            rw [c2a, c2b] at start
            simp only [if_true, Bool.not_true] at start
            by_cases c3 : Hand.ofB Hand.plainT (16 * p1.1 + p2.1) = true
            · obtain ⟨r, h1, h2, h3⟩ := ih t.length (by omega) (p ++ [37, a, b]) t (out ++ [u8 (16 * p1.1 + p2.1)]) rfl (by rw [hl2]; simp) (by simp; omega)
              refine ⟨r, fun K hK => ?_, by simp at h2 ⊢; omega, start _ ?_⟩
              · obtain ⟨K, rfl⟩ : ∃ k, K = k + 1 := ⟨K - 1, by omega⟩
                rw [hgo, if_pos ⟨c2a, c2b⟩, if_pos c3]
                exact h1 K (by simp at hK; omega)
              · refine Ev.step (fun k => by rw [depotref08_plain.j1]) ?_
                rw [HV.out, HW3.out]
                refine Ev.neg (by simp) (Ev.sbind (ref_letter _ xr) ?_)
                have ho3 : Hand.ofB Hand.plainT (16 * p1.1 + p2.1) = (Hand.alnumB (16 * p1.1 + p2.1) || Hand.inB (bOf [45, 46, 95, 126]) (16 * p1.1 + p2.1)) := rfl
                rw [ho3] at c3
                have last : Ev (fun k => (some [16 * p1.1 + p2.1] : Option (List Int)).bind fun y190 => if (bOf out).size + (strOfNums y190).size ≤ 9223372036854775807 then depotref08_plain.l0 k (bOf l) (bOf m) (bOf out ++ strOfNums y190) (((p ++ [37, a, b]).length : Nat) : Int) else none) (bOf r.1, r.2) := by
                  refine Ev.sbind rfl (Ev.pos (by rw [bOf_size, strOfNums_size]; simp; omega) ?_)
                  rw [one_nums _ xr, one_b, bOf_append]
                  exact h3
                cases c4 : Hand.alnumB (16 * p1.1 + p2.1)
                · rw [c4, Bool.false_or] at c3
                  refine Ev.neg (by simp) (Ev.bind (ref_in [45, 46, 95, 126] _ (by decide) xr) ?_)
                  rw [c3]
                  exact Ev.pos rfl last
                · exact Ev.pos rfl last
            · obtain ⟨r, h1, h2, h3⟩ := ih t.length (by omega) (p ++ [37, a, b]) t (out ++ [37] ++ [u8 (bt Hand.great p1.1)] ++ [u8 (bt Hand.great p2.1)]) rfl (by rw [hl2]; simp) (by simp; omega)
              refine ⟨r, fun K hK => ?_, by simp at h2 ⊢; omega, start _ ?_⟩
              · obtain ⟨K, rfl⟩ : ∃ k, K = k + 1 := ⟨K - 1, by omega⟩
                rw [hgo, if_pos ⟨c2a, c2b⟩, if_neg c3]
                exact h1 K (by simp at hK; omega)
              · refine Ev.step (fun k => by rw [depotref08_plain.j1]) ?_
                rw [HV.out, HW3.out]
                refine Ev.neg (by simp) (Ev.sbind (ref_letter _ xr) ?_)
                have ho3 : Hand.ofB Hand.plainT (16 * p1.1 + p2.1) = (Hand.alnumB (16 * p1.1 + p2.1) || Hand.inB (bOf [45, 46, 95, 126]) (16 * p1.1 + p2.1)) := rfl
                have c3' : (Hand.alnumB (16 * p1.1 + p2.1) || Hand.inB (bOf [45, 46, 95, 126]) (16 * p1.1 + p2.1)) = false := by rw [← ho3]; simpa using c3
                obtain ⟨c4, c5⟩ := Bool.or_eq_false_iff.1 c3'
                rw [c4]
                refine Ev.neg (by simp) (Ev.bind (ref_in [45, 46, 95, 126] _ (by decide) xr) ?_)
                rw [c5, ref_great p1.1 ra, ref_great p2.1 rb, show (⟨#[37]⟩ : ByteArray) = bOf [37] from rfl]
                have wa : wrap64 (p1.1 + 1) = p1.1 + 1 := wrap_id (by omega) (by omega)
                have wb : wrap64 (p2.1 + 1) = p2.1 + 1 := wrap_id (by omega) (by omega)
                simp only [one_b, bOf_append, bOf_size]
                rw [wa, wb]
                refine Ev.neg (by simp) (Ev.pos (by omega) (Ev.pos (by omega) (Ev.pos (by omega) (Ev.pos (by omega) (Ev.pos (by simp; omega) (Ev.pos (by omega) (Ev.pos (by omega) (Ev.pos (by omega) (Ev.pos (by simp; omega) ?_)))))))))
                exact h3
          · refine ⟨([], false), fun K hK => ?_, by simp, start _ ?_⟩
            · obtain ⟨K, rfl⟩ : ∃ k, K = k + 1 := ⟨K - 1, by omega⟩
              rw [hgo, if_neg c2]
            · have e : (if p1.2 = true then !p2.2 else true) = true := by
                cases h1 : p1.2
                · rfl
                · cases h2 : p2.2
                  · rfl
                  · exact absurd ⟨h1, h2⟩ c2
              rw [e]
              refine Ev.step (fun k => by rw [depotref08_plain.j1]) ?_
              exact Ev.pos rfl (Ev.some' rfl)
      · have hne : ¬ (x.toNat : Int) = 37 := fun e => c1 ((u8_eq (by decide)).1 e)
        have hgo : ∀ K, Hand.decdGo (Hand.ofB (bOf m)) (K + 1) (bOf (x :: s)) (bOf out) = if Hand.ofB (bOf m) (x.toNat : Int) = true then Hand.decdGo (Hand.ofB (bOf m)) K (bOf s) (bOf (out ++ [x])) else some (bOf [], false) := by
          intro K
          rw [Hand.decdGo, if_neg hsz, hb0, if_pos hne]
          have e3 : (bOf (x :: s)).extract 1 (bOf (x :: s)).size = bOf s := ext_tail [x] s 1 rfl
          rw [e3, one_b, u8_of, bOf_append]
          rfl
        have hcut : (bOf l).extract ((p.length : Int)).toNat (wrap64 ((p.length : Int) + 1)).toNat = bOf [x] := by
          rw [HW1.out, Int.toNat_natCast, Int.toNat_natCast, bOf_extract, hl2, show p ++ x :: s = (p ++ [x]) ++ s by simp, List.take_left, List.drop_left]
        have start : ∀ z, (Hand.ofB (bOf m) (x.toNat : Int) = true → Ev (fun k => depotref08_plain.l0 k (bOf l) (bOf m) (bOf (out ++ [x])) (((p ++ [x]).length : Nat) : Int)) z) → (Hand.ofB (bOf m) (x.toNat : Int) = false → z = (bOf [], false)) → Ev (fun k => depotref08_plain.l0 k (bOf l) (bOf m) (bOf out) (p.length : Int)) z := by
          intro z hy hn
          refine Ev.step (fun k => by rw [depotref08_plain.l0]) ?_
          refine Ev.pos (by rw [bOf_size]; omega) (Ev.pos (by omega) ?_)
          rw [hbt, hcut, bOf_size, bOf_size, bOf_size, bOf_append]
          rw [ofB_or] at hy hn
          refine Ev.neg hne (Ev.sbind (ref_letter _ (u8r x)) ?_)
          cases c2 : Hand.alnumB (x.toNat : Int)
          · rw [c2, Bool.false_or] at hy hn
            refine Ev.neg (by simp) (Ev.bind (ref_in m _ hm (u8r x)) ?_)
            cases c3 : Hand.inB (bOf m) (x.toNat : Int)
            · rw [hn c3]
              exact Ev.neg (by simp) (Ev.some' rfl)
            · refine Ev.pos rfl (Ev.pos (by rw [HW1.out]; simp; omega) (Ev.pos (by rw [HW1.out]; simp; omega) (Ev.pos (by simp; omega) ?_)))
              rw [HW1.out]
              exact hy c3
          · rw [c2, Bool.true_or] at hy
            refine Ev.pos rfl (Ev.pos (by rw [HW1.out]; simp; omega) (Ev.pos (by rw [HW1.out]; simp; omega) (Ev.pos (by simp; omega) ?_)))
            rw [HW1.out]
            exact hy rfl
        cases c2 : Hand.ofB (bOf m) (x.toNat : Int)
        · refine ⟨([], false), fun K hK => ?_, by simp, start _ (fun h => by rw [c2] at h; cases h) (fun _ => rfl)⟩
          obtain ⟨K, rfl⟩ : ∃ k, K = k + 1 := ⟨K - 1, by omega⟩
          rw [hgo, c2, if_neg (by simp)]
        · obtain ⟨r, h1, h2, h3⟩ := ih s.length (by omega) (p ++ [x]) s (out ++ [x]) rfl (by rw [hl2]; simp) (by simp; omega)
          refine ⟨r, fun K hK => ?_, by simp at h2 ⊢; omega, start _ (fun _ => h3) (fun h => by rw [c2] at h; cases h)⟩
          obtain ⟨K, rfl⟩ : ∃ k, K = k + 1 := ⟨K - 1, by omega⟩
          rw [hgo, c2, if_pos rfl]
          exact h1 K (by simp at hK; omega)
end Go.Proofs.YtghaocjhmambaaaDoor.Pu

/- Splitting at a byte. -/
namespace Go.Proofs.YtghaocjhmambaaaDoor.Pu
open Go.RowKit Go.Proofs.YtghaocjhmambaaaDoorW.PrintWords Go.Proofs.YtghaocjhmambaaaDoorW.PrintLast Go.Proofs.YtghaocjhmambaaaDoor.PR
set_option linter.unusedVariables false
set_option linter.unusedSimpArgs false

/-! ### splitting -/
def splitL (c : UInt8) : List UInt8 → List (List UInt8)
  | [] => [[]]
  | x :: l => if x = c then [] :: splitL c l else match splitL c l with | [] => [[x]] | h :: t => (x :: h) :: t
theorem splitL_cut (c : UInt8) : ∀ l, splitL c l = if (cutAt c l).2.2 = true then (cutAt c l).1 :: splitL c (cutAt c l).2.1 else [l]
  | [] => rfl
  | x :: l => by
    have ih := splitL_cut c l
    rw [splitL, cutAt]
    by_cases h : x = c
    · rw [if_pos h, if_pos h]; rfl
    · rw [if_neg h, if_neg h, ih]
      cases (cutAt c l).2.2 <;> rfl
theorem splitL_ne (c : UInt8) (l : List UInt8) : 1 ≤ (splitL c l).length := by
  rw [splitL_cut]; split <;> simp
theorem index_one (c : UInt8) : ∀ l, Lib.index l [c] = if (cutAt c l).2.2 = true then ((cutAt c l).1.length : Int) else -1
  | [] => rfl
  | x :: l => by
    have ih := index_one c l
    unfold Lib.index cutAt
    by_cases h : x = c
    · subst h; simp [List.isPrefixOf]
    · rw [if_neg (by simp [List.isPrefixOf]; exact fun e => h e.symm), if_neg h, ih]
      cases (cutAt c l).2.2
      · simp
      · simp only [if_true, List.length_cons]
        rw [if_neg (by simp <;> omega)]
        omega
theorem split_all (c : UInt8) (n : Nat) : ∀ l : List UInt8, l.length = n → Lib.splitB (bOf [c]) 0 (Lib.countB (bOf l) (bOf [c])) (bOf l) = (splitL c l).map bOf := by
  induction n using Nat.strongRecOn with
  | _ n ih =>
    intro l hl
    have hi : Lib.indexB (bOf l) (bOf [c]) = if (cutAt c l).2.2 = true then ((cutAt c l).1.length : Int) else -1 := index_one c l
    rw [splitL_cut]
    cases hh : (cutAt c l).2.2
    · rw [hh] at hi
      rw [Lib.countB_miss _ _ (by simpa using hi), Lib.splitB_zero]
      rfl
    · rw [hh] at hi
      have hy := cut_yes c l hh
      have hly := congrArg List.length hy
      simp at hly
      have hi' : Lib.indexB (bOf l) (bOf [c]) = ((cutAt c l).1.length : Nat) := by simpa using hi
      rw [Lib.countB_hit _ _ _ (by rw [bOf_size]; simp) hi', Nat.add_comm 1, Lib.splitB_hit _ _ _ _ _ hi', bOf_size, bOf_size, bOf_extract, bOf_extract, List.take_length]
      have e1 : (l.take ((cutAt c l).1.length + 0)).drop 0 = (cutAt c l).1 := by
        rw [Nat.add_zero, List.drop_zero]
        conv => lhs; arg 2; rw [hy]
        exact List.take_left
      have e2 : l.drop ((cutAt c l).1.length + [c].length) = (cutAt c l).2.1 := by
        conv => lhs; arg 2; rw [hy]
        rw [List.drop_append, List.drop_eq_nil_of_le (by simp), show (cutAt c l).1.length + [c].length - (cutAt c l).1.length = 1 by simp]
        rfl
      rw [e1, e2, ih (cutAt c l).2.1.length (by omega) _ rfl, if_pos rfl]
      rfl
theorem prog_Split (c : UInt8) (l : List UInt8) (h : l.length ≤ 100000) : strings_Split.f (bOf l) (bOf [c]) = some ((splitL c l).map bOf) := by
  unfold strings_Split.f
  rw [if_pos ⟨by rw [bOf_size]; omega, by rw [bOf_size]; simp⟩, split_all c _ l rfl]
end Go.Proofs.YtghaocjhmambaaaDoor.Pu

/- Paths without points: the program's and the reference's. -/
namespace Go.Proofs.YtghaocjhmambaaaDoor.Pu
open Go.RowKit Go.Proofs.YtghaocjhmambaaaDoorW.PrintWords Go.Proofs.YtghaocjhmambaaaDoorW.PrintLast Go.Proofs.YtghaocjhmambaaaDoor.PR
set_option linter.unusedVariables false
set_option linter.unusedSimpArgs false

def dot : List UInt8 := [46]
def dotdot : List UInt8 := [46, 46]
/-- One part more, of a path whose parts so far are these. -/
def undStep (left : List (List UInt8)) (p : List UInt8) (last : Bool) : List (List UInt8) :=
  let l1 := if p = dotdot then left.dropLast else if p = dot then left else left ++ [p]
  if last = true ∧ (p = dot ∨ p = dotdot) then l1 ++ [[]] else l1
def undL : List (List UInt8) → List (List UInt8) → List (List UInt8)
  | [], left => left
  | p :: ps, left => undL ps (undStep left p (decide (ps = [])))
def flat (left : List (List UInt8)) : List UInt8 := left.flatMap fun q => 47 :: q
theorem flat_app (a : List (List UInt8)) (q : List UInt8) : flat (a ++ [q]) = flat a ++ 47 :: q := by simp [flat]
def NoS (l : List UInt8) : Prop := ∀ x ∈ l, x ≠ 47
theorem split_no (l : List UInt8) : ∀ q ∈ splitL 47 l, NoS q := by
  induction l with
  | nil => intro q hq; simp [splitL] at hq; subst hq; intro x hx; cases hx
  | cons x l ih =>
    intro q hq
    rw [splitL] at hq
    by_cases h : x = 47
    · rw [if_pos h] at hq
      rcases List.mem_cons.1 hq with rfl | hq
      · intro x hx; cases hx
      · exact ih q hq
    · rw [if_neg h] at hq
      cases hs : splitL 47 l with
      | nil =>
        rw [hs] at hq
        simp at hq
        subst hq
        intro y hy
        simp at hy
        subst hy
        exact h
      | cons a t =>
        rw [hs] at hq ih
        rcases List.mem_cons.1 hq with rfl | hq
        · intro y hy
          rcases List.mem_cons.1 hy with rfl | hy
          · exact h
          · exact ih a List.mem_cons_self y hy
        · exact ih q (List.mem_cons_of_mem _ hq)
theorem split_flat (l : List UInt8) : flat (splitL 47 l) = 47 :: l := by
  induction l with
  | nil => rfl
  | cons x l ih =>
    rw [splitL]
    by_cases h : x = 47
    · rw [if_pos h]
      show 47 :: ([] ++ flat (splitL 47 l)) = _
      rw [ih, h]; rfl
    · rw [if_neg h]
      cases hs : splitL 47 l with
      | nil => rw [hs] at ih; simp [flat] at ih
      | cons a t =>
        rw [hs] at ih
        have : flat (a :: t) = 47 :: (a ++ flat t) := by simp [flat]
        rw [this] at ih
        show flat ((x :: a) :: t) = _
        have e2 : flat ((x :: a) :: t) = 47 :: x :: (a ++ flat t) := by simp [flat]
        rw [e2, (List.cons.inj ih).2]
theorem flat_len (left : List (List UInt8)) : (flat left).length = (left.map (fun q => q.length + 1)).sum := by
  induction left with
  | nil => rfl
  | cons a t ih =>
    have e : flat (a :: t) = 47 :: (a ++ flat t) := by simp [flat]
    rw [e, List.map_cons, List.sum_cons, ← ih]
    simp; omega
theorem len_flat (left : List (List UInt8)) : left.length ≤ (flat left).length := by
  rw [flat_len]
  induction left with
  | nil => simp
  | cons a t ih => rw [List.map_cons, List.sum_cons, List.length_cons]; omega
theorem join_flat : ∀ (left : List (List UInt8)), ¬ left = [] → 47 :: Lib.join left [47] = flat left
  | [], h => absurd rfl h
  | [a], _ => by simp [Lib.join, flat]
  | a :: b :: t, _ => by
    have ih := join_flat (b :: t) (by simp)
    have e : flat (a :: b :: t) = 47 :: (a ++ flat (b :: t)) := by simp [flat]
    rw [e, ← ih]
    simp [Lib.join, List.intercalate, List.intersperse]
theorem step_len (left : List (List UInt8)) (p : List UInt8) (last : Bool) : (flat (undStep left p last)).length ≤ (flat left).length + p.length + 1 := by
  have hd : (flat left.dropLast).length ≤ (flat left).length := by
    rcases List.eq_nil_or_concat left with rfl | ⟨a, q, rfl⟩
    · simp
    · rw [show a.concat q = a ++ [q] by simp, List.dropLast_concat, flat_app]; simp
  unfold undStep
  by_cases c1 : p = dotdot
  · subst c1
    simp only [if_true]
    split
    · rw [flat_app]; simp [dotdot]; omega
    · simp [dotdot]; omega
  · rw [if_neg c1]
    by_cases c2 : p = dot
    · subst c2
      simp only [if_true]
      split
      · rw [flat_app]; simp [dot]
      · simp [dot]; omega
    · rw [if_neg c2]
      simp only [c1, c2, or_self, and_false, if_false]
      rw [flat_app]; simp; omega
/-! ### the program -/
theorem tl (p : List UInt8) : (bOf p).toList = p := toList_bOf p
theorem take_last (left : List (List UInt8)) : (left.map bOf).take (left.map bOf).length.pred = left.dropLast.map bOf := by
  rw [List.length_map, ← List.map_take, List.dropLast_eq_take]; rfl
theorem prog_und_l0 (all : List (List UInt8)) (hall : all.length ≤ 100000) (n : Nat) : ∀ (done ps left : List (List UInt8)), ps.length = n → all = done ++ ps → (flat left).length + (flat ps).length ≤ 1000000 →
    Ev (fun k => target_undotted.l0 k (all.map bOf) (left.map bOf) (all.map bOf) (all.length : Int) (done.length : Int)) (bOf (47 :: Lib.join (undL ps left) [47])) := by
  induction n with
  | zero =>
    intro done ps left hn hl hf
    have : ps = [] := List.eq_nil_of_length_eq_zero hn
    subst this
    rw [List.append_nil] at hl
    subst hl
    have hj : (Lib.join left [47]).length ≤ (flat left).length := by
      by_cases e : left = []
      · subst e; simp [Lib.join, flat]
      · rw [← join_flat left e]; simp
    have hle := len_flat left
    refine Ev.step (fun k => by rw [target_undotted.l0]) ?_
    refine Ev.neg (by omega) ?_
    have e1 : strings_Join.f (left.map bOf) (⟨#[47]⟩ : ByteArray) = some (bOf (Lib.join left [47])) := by
      unfold strings_Join.f
      have e : List.map (fun x : ByteArray => x.data.toList) (left.map bOf) = left := by rw [List.map_map]; exact List.map_id left
      rw [e, show (⟨#[47]⟩ : ByteArray).data.toList = [47] from rfl, if_pos ⟨by rw [List.length_map]; omega, by omega⟩]
      rfl
    refine Ev.sbind e1 (Ev.pos (by rw [bOf_size]; omega) (Ev.some' ?_))
    rw [show (⟨#[47]⟩ : ByteArray) = bOf [47] from rfl, bOf_append]
    rfl
  | succ n ih =>
    intro done ps left hn hl hf
    obtain ⟨p, ps, rfl⟩ : ∃ x t, ps = x :: t := by
      cases ps with
      | nil => simp at hn
      | cons x t => exact ⟨x, t, rfl⟩
    have hlen : all.length = done.length + (ps.length + 1) := by rw [hl]; simp
    have hrd : rdOf ByteArray.empty (all.map bOf) (done.length : Int) = bOf p := by
      unfold rdOf
      rw [Int.toNat_natCast, List.getD_eq_getElem?_getD, List.getElem?_map, hl, List.getElem?_append_right (Nat.le_refl _), Nat.sub_self]
      rfl
    have HW : Hid (wrap64 ((done.length : Int) + 1) = (((done ++ [p]).length : Nat) : Int)) := Lib.hid (by rw [wrap_id (by omega) (by omega)]; simp)
    have HL : Hid (((done.length : Int) == wrap64 (((all.map bOf).length : Int) - 1)) = decide (ps = [])) := Lib.hid (by
      rw [List.length_map, wrap_id (by omega) (by omega)]
      by_cases e : ps = []
      · subst e
        rw [decide_eq_true rfl]
        simp at hlen
        simp; omega
      · have : ¬ ps.length = 0 := fun h => e (List.eq_nil_of_length_eq_zero h)
        rw [decide_eq_false e]
        simp; omega)
    have hfp : (flat (p :: ps)).length = p.length + 1 + (flat ps).length := by simp [flat]; omega
    have hst := step_len left p (decide (ps = []))
    have hle := len_flat left
    have next := ih (done ++ [p]) ps (undStep left p (decide (ps = []))) (by simpa using hn) (by rw [hl]; simp) (by omega)
    refine Ev.step (fun k => by rw [target_undotted.l0]) ?_
    refine Ev.pos (by omega) (Ev.pos (by omega) (Ev.pos (by rw [List.length_map]; omega) ?_))
    rw [hrd, HL.out, tl]
    show Ev _ (bOf (47 :: Lib.join (undL ps (undStep left p (decide (ps = [])))) [47]))
    -- what comes behind the part's own step
    have fin : ∀ (l1 : List (List UInt8)), (if decide (ps = []) = true ∧ (p = dot ∨ p = dotdot) then l1 ++ [[]] else l1) = undStep left p (decide (ps = [])) → l1.length ≤ 2000000 →
        Ev (fun k => if decide (ps = []) = true then (if p = ([46] : List UInt8) then (if (l1.map bOf).length < 8796093022208 then target_undotted.l0 k (all.map bOf) (l1.map bOf ++ [(⟨#[]⟩ : ByteArray)]) (all.map bOf) (all.length : Int) (wrap64 ((done.length : Int) + 1)) else none) else (if p = ([46, 46] : List UInt8) then (if (l1.map bOf).length < 8796093022208 then target_undotted.l0 k (all.map bOf) (l1.map bOf ++ [(⟨#[]⟩ : ByteArray)]) (all.map bOf) (all.length : Int) (wrap64 ((done.length : Int) + 1)) else none) else target_undotted.l0 k (all.map bOf) (l1.map bOf) (all.map bOf) (all.length : Int) (wrap64 ((done.length : Int) + 1)))) else target_undotted.l0 k (all.map bOf) (l1.map bOf) (all.map bOf) (all.length : Int) (wrap64 ((done.length : Int) + 1)))
          (bOf (47 :: Lib.join (undL ps (undStep left p (decide (ps = [])))) [47])) := by
      intro l1 he hl1
      rw [HW.out]
      rw [← he] at next ⊢
      by_cases e : decide (ps = []) = true
      · refine Ev.pos e ?_
        by_cases c1 : p = dot
        · rw [if_pos ⟨e, Or.inl c1⟩] at next ⊢
          rw [List.map_append] at next
          exact Ev.pos c1 (Ev.pos (by rw [List.length_map]; omega) next)
        · refine Ev.neg c1 ?_
          by_cases c2 : p = dotdot
          · rw [if_pos ⟨e, Or.inr c2⟩] at next ⊢
            rw [List.map_append] at next
            exact Ev.pos c2 (Ev.pos (by rw [List.length_map]; omega) next)
          · rw [if_neg (fun h => h.2.elim c1 c2)] at next ⊢
            exact Ev.neg c2 next
      · rw [if_neg (fun h => e h.1)] at next ⊢
        exact Ev.neg e next
    by_cases c1 : p = dotdot
    · refine Ev.pos c1 ?_
      by_cases c0 : left = []
      · -- nothing to take away
        have e0 : decide (((left.map bOf).length : Int) > 0) = false := by rw [c0]; rfl
        rw [e0]
        refine Ev.step (fun k => by rw [target_undotted.j1]) (Ev.neg (by simp) ?_)
        rw [tl]
        refine Ev.neg (by rw [c1]; decide) ?_
        rw [show (p != ([46, 46] : List UInt8)) = false by rw [c1]; rfl]
        refine Ev.step (fun k => by rw [target_undotted.j2]) (Ev.neg (by simp) ?_)
        rw [tl]
        exact fin left (by unfold undStep; simp only [c1, if_true]; rw [c0]; rfl) (by omega)
      · have hlp : 0 < left.length := List.length_pos_iff.2 c0
        have e0 : decide (((left.map bOf).length : Int) > 0) = true := decide_eq_true (by rw [List.length_map]; omega)
        rw [e0]
        refine Ev.step (fun k => by rw [target_undotted.j1]) (Ev.pos rfl ?_)
        have hw : wrap64 (((left.map bOf).length : Int) - 1) = ((left.length - 1 : Nat) : Int) := by rw [List.length_map, wrap_id (by omega) (by omega)]; omega
        rw [hw, Int.toNat_natCast, show (left.map bOf).take (left.length - 1) = left.dropLast.map bOf by rw [← List.map_take, List.dropLast_eq_take]]
        refine Ev.pos (by omega) (Ev.pos (by rw [List.length_map]; omega) (Ev.sbind rfl ?_))
        rw [tl]
        exact fin left.dropLast (by unfold undStep; simp only [c1, if_true]) (by rw [List.length_dropLast]; omega)
    · refine Ev.neg c1 ?_
      refine Ev.step (fun k => by rw [target_undotted.j1]) (Ev.neg (by simp) ?_)
      rw [tl]
      by_cases c2 : p = dot
      · refine Ev.pos c2 ?_
        refine Ev.step (fun k => by rw [target_undotted.j2]) (Ev.neg (by simp) ?_)
        rw [tl]
        exact fin left (by unfold undStep; simp only [c1, if_false]; rw [if_pos c2]) (by omega)
      · refine Ev.neg c2 ?_
        rw [show (p != ([46, 46] : List UInt8)) = true by simpa [dotdot] using c1]
        refine Ev.step (fun k => by rw [target_undotted.j2]) (Ev.pos rfl (Ev.pos (by rw [List.length_map]; omega) (Ev.sbind rfl ?_)))
        rw [tl]
        have := fin (left ++ [p]) (by unfold undStep; simp only [c1, c2, if_false, or_self, and_false]) (by simp; omega)
        rwa [List.map_append] at this
end Go.Proofs.YtghaocjhmambaaaDoor.Pu

/- Paths without points: the reference's way, part by part. -/
namespace Go.Proofs.YtghaocjhmambaaaDoor.Pu
open Go.RowKit Go.Proofs.YtghaocjhmambaaaDoorW.PrintWords Go.Proofs.YtghaocjhmambaaaDoorW.PrintLast Go.Proofs.YtghaocjhmambaaaDoor.PR
set_option linter.unusedVariables false
set_option linter.unusedSimpArgs false

theorem flat_cons (p : List UInt8) (ps : List (List UInt8)) : flat (p :: ps) = 47 :: (p ++ flat ps) := by simp [flat]
theorem flat_nil (ps : List (List UInt8)) : flat ps = [] ↔ ps = [] := by
  cases ps with
  | nil => simp [flat]
  | cons a t => rw [flat_cons]; simp
def endL (l : List UInt8) : List UInt8 := if l = [] then [47] else l
theorem rl2_strip (s part : List UInt8) (last : Bool) (A : List UInt8) (z : ByteArray) (hA : A.length ≤ 1000000) (hz : Ev (fun k => depotref08_dots.j4 k (bOf s) (bOf A) (bOf part) last) z) (n : Nat) : ∀ q : List UInt8, q.length = n → n ≤ 1000000 → NoS q →
    Ev (fun k => depotref08_dots.l2 k (bOf s) (bOf (A ++ 47 :: q)) (bOf part) last) z := by
  induction n with
  | zero =>
    intro q hq hn hno
    have : q = [] := List.eq_nil_of_length_eq_zero hq
    subst this
    have hs : (bOf (A ++ [47])).size = A.length + 1 := by rw [bOf_size]; simp
    have hw : wrap64 (((bOf (A ++ [47])).size : Int) - 1) = (A.length : Int) := by rw [hs, wrap_id (by omega) (by omega)]; omega
    have hb : bt (bOf (A ++ [47])) (A.length : Int) = 47 := bt_at_cut A 47 []
    refine Ev.step (fun k => by rw [depotref08_dots.l2]) ?_
    refine Ev.pos (by rw [hs]; omega) ?_
    rw [hw, hb, bOf_extract, List.drop_zero, Int.toNat_natCast, List.take_left]
    exact Ev.pos (by omega) (Ev.pos (by rw [hs]; omega) (Ev.pos rfl (Ev.pos (by rw [hs]; omega) hz)))
  | succ n ih =>
    intro q hq hn hno
    obtain ⟨e, x, rfl⟩ : ∃ e x, q = e ++ [x] := by
      rcases List.eq_nil_or_concat q with h | ⟨e, x, h⟩
      · subst h; simp at hq
      · exact ⟨e, x, by simpa using h⟩
    have he : e.length = n := by simpa using hq
    have ea : A ++ 47 :: (e ++ [x]) = (A ++ 47 :: e) ++ [x] := by simp
    have hs : (bOf (A ++ 47 :: (e ++ [x]))).size = (A ++ 47 :: e).length + 1 := by rw [bOf_size, ea]; simp; omega
    have hl : (A ++ 47 :: e).length = A.length + 1 + e.length := by simp; omega
    have hw : wrap64 (((bOf (A ++ 47 :: (e ++ [x]))).size : Int) - 1) = ((A ++ 47 :: e).length : Int) := by rw [hs, wrap_id (by omega) (by omega)]; omega
    have hb : bt (bOf (A ++ 47 :: (e ++ [x]))) ((A ++ 47 :: e).length : Int) = (x.toNat : Int) := by rw [ea]; exact bt_at_cut (A ++ 47 :: e) x []
    have hx : ¬ (x.toNat : Int) = 47 := fun h => hno x (by simp) ((u8_eq (by decide)).1 h)
    refine Ev.step (fun k => by rw [depotref08_dots.l2]) ?_
    refine Ev.pos (by rw [hs]; omega) ?_
    rw [hw, hb, bOf_extract, List.drop_zero, Int.toNat_natCast]
    have ht : (A ++ 47 :: (e ++ [x])).take (A ++ 47 :: e).length = A ++ 47 :: e := by rw [ea, List.take_left]
    rw [ht]
    exact Ev.pos (by omega) (Ev.pos (by rw [hs]; omega) (Ev.neg hx (Ev.pos (by rw [hs]; omega) (ih e he (by omega) (fun y hy => hno y (by simp [hy]))))))
theorem rl2 (s part : List UInt8) (last : Bool) (left : List (List UInt8)) (z : ByteArray) (hf : (flat left).length ≤ 1000000) (hno : ∀ q ∈ left, NoS q) (hz : Ev (fun k => depotref08_dots.j4 k (bOf s) (bOf (flat left.dropLast)) (bOf part) last) z) :
    Ev (fun k => depotref08_dots.l2 k (bOf s) (bOf (flat left)) (bOf part) last) z := by
  rcases List.eq_nil_or_concat left with rfl | ⟨a, q, rfl⟩
  · refine Ev.step (fun k => by rw [depotref08_dots.l2]) ?_
    exact Ev.neg (by decide) hz
  · rw [show a.concat q = a ++ [q] by simp] at hf hno hz ⊢
    rw [List.dropLast_concat] at hz
    rw [flat_app] at hf ⊢
    simp at hf
    exact rl2_strip s part last (flat a) z (by omega) hz _ q rfl (by omega) (hno q (by simp))
theorem rl1 (p rest out : List UInt8) (hr : rest = [] ∨ ∃ t, rest = 47 :: t) (hlen : p.length + rest.length ≤ 1000000) (z : ByteArray) (hz : Ev (fun k => depotref08_dots.j2 k (bOf (47 :: (p ++ rest))) (bOf out) ((p.length + 1 : Nat) : Int)) z) (n : Nat) : ∀ (a b : List UInt8), b.length = n → p = a ++ b → NoS b →
    Ev (fun k => depotref08_dots.l1 k (bOf (47 :: (p ++ rest))) (bOf out) ((a.length + 1 : Nat) : Int)) z := by
  induction n with
  | zero =>
    intro a b hb hp hno
    have : b = [] := List.eq_nil_of_length_eq_zero hb
    subst this
    rw [List.append_nil] at hp
    subst hp
    refine Ev.step (fun k => by rw [depotref08_dots.l1]) ?_
    rcases hr with rfl | ⟨t, rfl⟩
    · exact Ev.neg (by rw [bOf_size]; simp) hz
    · have hb : bt (bOf (47 :: (p ++ 47 :: t))) ((p.length + 1 : Nat) : Int) = 47 := bt_at_cut (47 :: p) 47 t
      refine Ev.pos (by rw [bOf_size]; simp; omega) (Ev.pos (by omega) (Ev.pos hb hz))
  | succ n ih =>
    intro a b hb hp hno
    obtain ⟨x, b, rfl⟩ : ∃ x t, b = x :: t := by
      cases b with
      | nil => simp at hb
      | cons x t => exact ⟨x, t, rfl⟩
    have hpl : p.length = a.length + (b.length + 1) := by rw [hp]; simp
    have hbt : bt (bOf (47 :: (p ++ rest))) ((a.length + 1 : Nat) : Int) = (x.toNat : Int) := by
      rw [hp, show 47 :: (a ++ x :: b ++ rest) = (47 :: a) ++ x :: (b ++ rest) by simp]
      exact bt_at_cut (47 :: a) x (b ++ rest)
    have hx : ¬ (x.toNat : Int) = 47 := fun h => hno x List.mem_cons_self ((u8_eq (by decide)).1 h)
    have hw : wrap64 (((a.length + 1 : Nat) : Int) + 1) = (((a ++ [x]).length + 1 : Nat) : Int) := by rw [wrap_id (by omega) (by omega)]; simp
    refine Ev.step (fun k => by rw [depotref08_dots.l1]) ?_
    refine Ev.pos (by rw [bOf_size]; simp; omega) (Ev.pos (by omega) ?_)
    rw [hbt, hw]
    exact Ev.neg hx (ih (a ++ [x]) b (by simpa using hb) (by rw [hp]; simp) (fun y hy => hno y (List.mem_cons_of_mem _ hy)))
theorem und_no (left : List (List UInt8)) (p : List UInt8) (last : Bool) (hl : ∀ q ∈ left, NoS q) (hp : NoS p) : ∀ q ∈ undStep left p last, NoS q := by
  have hd : ∀ q ∈ left.dropLast, NoS q := fun q hq => hl q ((List.dropLast_sublist left).subset hq)
  have h1 : ∀ l1 : List (List UInt8), (∀ q ∈ l1, NoS q) → ∀ q ∈ (if last = true ∧ (p = dot ∨ p = dotdot) then l1 ++ [[]] else l1), NoS q := by
    intro l1 h q hq
    split at hq
    · rcases List.mem_append.1 hq with hq | hq
      · exact h q hq
      · simp at hq; subst hq; intro x hx; cases hx
    · exact h q hq
  unfold undStep
  refine h1 _ ?_
  split
  · exact hd
  · split
    · exact hl
    · intro q hq
      rcases List.mem_append.1 hq with hq | hq
      · exact hl q hq
      · simp at hq; subst hq; exact hp
theorem rdots_l0 (n : Nat) : ∀ (ps left : List (List UInt8)), ps.length = n → (∀ q ∈ ps, NoS q) → (∀ q ∈ left, NoS q) → (flat left).length + (flat ps).length ≤ 900000 →
    Ev (fun k => depotref08_dots.l0 k (bOf (flat ps)) (bOf (flat left))) (bOf (endL (flat (undL ps left)))) := by
  induction n with
  | zero =>
    intro ps left hn hps hleft hf
    have : ps = [] := List.eq_nil_of_length_eq_zero hn
    subst this
    refine Ev.step (fun k => by rw [depotref08_dots.l0]) ?_
    refine Ev.neg (by decide) ?_
    rw [toList_bOf]
    show Ev _ (bOf (endL (flat left)))
    unfold endL
    by_cases e : flat left = []
    · simp only [if_pos e]; exact Ev.some' rfl
    · simp only [if_neg e]; exact Ev.some' rfl
  | succ n ih =>
    intro ps left hn hps hleft hf
    obtain ⟨p, ps, rfl⟩ : ∃ x t, ps = x :: t := by
      cases ps with
      | nil => simp at hn
      | cons x t => exact ⟨x, t, rfl⟩
    have hfp : (flat (p :: ps)).length = p.length + 1 + (flat ps).length := by rw [flat_cons]; simp; omega
    have hst := step_len left p (decide (ps = []))
    have hpno := hps p List.mem_cons_self
    have next := ih ps (undStep left p (decide (ps = []))) (by simpa using hn) (fun q hq => hps q (List.mem_cons_of_mem _ hq)) (und_no left p _ hleft hpno) (by omega)
    refine Ev.step (fun k => by rw [depotref08_dots.l0]) ?_
    refine Ev.pos (by rw [bOf_size]; omega) ?_
    show Ev _ (bOf (endL (flat (undL ps (undStep left p (decide (ps = [])))))))
    generalize bOf (endL (flat (undL ps (undStep left p (decide (ps = [])))))) = z at next ⊢
    rw [flat_cons]
    have hrest : flat ps = [] ∨ ∃ t, flat ps = 47 :: t := by
      cases ps with
      | nil => exact Or.inl rfl
      | cons a t => exact Or.inr ⟨_, flat_cons a t⟩
    refine rl1 p (flat ps) (flat left) hrest (by omega) z ?_ p.length [] p rfl rfl hpno
    -- the part is cut off
    have hsz : (bOf (47 :: (p ++ flat ps))).size = p.length + 1 + (flat ps).length := by rw [bOf_size]; simp; omega
    have x1 : (bOf (47 :: (p ++ flat ps))).extract 0 (((p.length + 1 : Nat) : Int)).toNat = bOf (47 :: p) := by
      rw [bOf_extract, Int.toNat_natCast, List.drop_zero]
      show bOf (47 :: (p ++ flat ps).take p.length) = _
      rw [List.take_left]
    have x2 : (bOf (47 :: (p ++ flat ps))).extract (((p.length + 1 : Nat) : Int)).toNat (bOf (47 :: (p ++ flat ps))).size = bOf (flat ps) := by
      rw [bOf_extract, bOf_size, List.take_length, Int.toNat_natCast]
      show bOf ((p ++ flat ps).drop p.length) = _
      rw [List.drop_left]
    have x3 : (((p.length + 1 : Nat) : Int) == ((bOf (47 :: (p ++ flat ps))).size : Int)) = decide (ps = []) := by
      rw [hsz]
      by_cases e : ps = []
      · subst e; simp [flat]
      · have : ¬ (flat ps).length = 0 := fun h => e ((flat_nil ps).1 (List.eq_nil_of_length_eq_zero h))
        rw [decide_eq_false e]
        simp; omega
    have j5 : ∀ (l1 : List (List UInt8)) (b : Bool), (if b = true then flat l1 ++ 47 :: p else if decide (ps = []) = true then flat l1 ++ [47] else flat l1) = flat (undStep left p (decide (ps = []))) → (flat l1).length + p.length ≤ 1000000 →
        Ev (fun k => depotref08_dots.j5 k (bOf (flat ps)) (bOf (flat l1)) (bOf (47 :: p)) (decide (ps = [])) b) z := by
      intro l1 b he hl1
      rw [← he] at next
      refine Ev.step (fun k => by rw [depotref08_dots.j5]) ?_
      cases b
      · rw [if_neg (by simp)] at next
        refine Ev.neg (by simp) ?_
        by_cases e : decide (ps = []) = true
        · rw [if_pos e] at next
          refine Ev.pos e (Ev.pos (by rw [bOf_size]; omega) ?_)
          rw [show (⟨#[47]⟩ : ByteArray) = bOf [47] from rfl, bOf_append]
          exact next
        · rw [if_neg e] at next
          exact Ev.neg e next
      · rw [if_pos rfl] at next
        refine Ev.pos rfl (Ev.pos (by rw [bOf_size, bOf_size]; simp; omega) ?_)
        rw [bOf_append]
        exact next
    have j4 : ∀ (l1 : List (List UInt8)), (if p = dot ∨ p = dotdot then (if decide (ps = []) = true then flat l1 ++ [47] else flat l1) else flat l1 ++ 47 :: p) = flat (undStep left p (decide (ps = []))) → (flat l1).length + p.length ≤ 1000000 →
        Ev (fun k => depotref08_dots.j4 k (bOf (flat ps)) (bOf (flat l1)) (bOf (47 :: p)) (decide (ps = []))) z := by
      intro l1 he hl1
      refine Ev.step (fun k => by rw [depotref08_dots.j4]) ?_
      rw [toList_bOf]
      by_cases c2 : p = dot
      · rw [if_pos (Or.inl c2)] at he
        refine Ev.pos (by rw [c2]; rfl) (j5 l1 false (by rw [if_neg (by simp)]; exact he) hl1)
      · refine Ev.neg (fun h => c2 (List.cons.inj h).2) ?_
        by_cases c1 : p = dotdot
        · rw [if_pos (Or.inr c1)] at he
          rw [show ((47 :: p) != ([47, 46, 46] : List UInt8)) = false by rw [c1]; rfl]
          exact j5 l1 false (by rw [if_neg (by simp)]; exact he) hl1
        · rw [if_neg (fun h => h.elim c2 c1)] at he
          have hne : ¬ 47 :: p = ([47, 46, 46] : List UInt8) := fun h => c1 (List.cons.inj h).2
          rw [show ((47 :: p) != ([47, 46, 46] : List UInt8)) = true by simpa using hne]
          exact j5 l1 true (by rw [if_pos rfl]; exact he) hl1
    refine Ev.step (fun k => by rw [depotref08_dots.j2]) ?_
    refine Ev.pos (by omega) (Ev.pos (by rw [hsz]; omega) ?_)
    rw [x1, x2, x3, toList_bOf]
    by_cases c1 : p = dotdot
    · refine Ev.pos (by rw [c1]; rfl) ?_
      have hdl : (flat left.dropLast).length ≤ (flat left).length := by
        rcases List.eq_nil_or_concat left with rfl | ⟨a, q, rfl⟩
        · simp
        · rw [show a.concat q = a ++ [q] by simp, List.dropLast_concat, flat_app]; simp
      refine rl2 (flat ps) (47 :: p) _ left z (by omega) hleft (j4 left.dropLast ?_ (by omega))
      rw [if_pos (Or.inr c1)]
      unfold undStep
      simp only [c1, if_true, or_true, and_true]
      split
      · rw [flat_app]
      · rfl
    · refine Ev.neg (fun h => c1 (List.cons.inj h).2) (j4 left ?_ (by omega))
      unfold undStep
      by_cases c2 : p = dot
      · simp only [c1, if_false, or_false]
        rw [if_pos c2, if_pos c2]
        simp only [c2, and_true]
        split
        · rw [flat_app]
        · rfl
      · simp only [c1, c2, or_self, and_false, if_false]
        rw [flat_app]
theorem both_dots (l : List UInt8) (hl : l.length ≤ 20000) : ∃ r : List UInt8, r.length ≤ 100000 ∧ Ev (fun k => target_undotted.f k (bOf (47 :: l))) (bOf r) ∧ Ev (fun k => depotref08_dots.f k (bOf (47 :: l))) (bOf r) := by
  have hfl := split_flat l
  have hlen : (flat (splitL 47 l)).length = l.length + 1 := by rw [hfl]; simp
  have hps := len_flat (splitL 47 l)
  have h1 := prog_und_l0 (splitL 47 l) (by omega) _ [] (splitL 47 l) [] rfl rfl (by rw [hlen]; show 0 + _ ≤ _; omega)
  have h2 := rdots_l0 _ (splitL 47 l) [] rfl (split_no l) (fun q hq => by cases hq) (by rw [hlen]; show 0 + _ ≤ _; omega)
  rw [hfl] at h2
  have hr : 47 :: Lib.join (undL (splitL 47 l) []) [47] = endL (flat (undL (splitL 47 l) [])) := by
    unfold endL
    by_cases e : undL (splitL 47 l) [] = []
    · rw [e]; rfl
    · rw [if_neg (fun h => e ((flat_nil _).1 h)), join_flat _ e]
  have hbound : ∀ (ps left : List (List UInt8)), (flat (undL ps left)).length ≤ (flat left).length + (flat ps).length := by
    intro ps
    induction ps with
    | nil => intro left; show (flat left).length ≤ (flat left).length + 0; omega
    | cons p ps ih =>
      intro left
      have a1 := ih (undStep left p (decide (ps = [])))
      have a2 := step_len left p (decide (ps = []))
      have a3 : (flat (p :: ps)).length = p.length + 1 + (flat ps).length := by rw [flat_cons]; simp; omega
      show (flat (undL ps (undStep left p (decide (ps = []))))).length ≤ _
      omega
  refine ⟨endL (flat (undL (splitL 47 l) [])), ?_, ?_, h2⟩
  · have a1 := hbound (splitL 47 l) []
    have a0 : (flat ([] : List (List UInt8))).length = 0 := rfl
    unfold endL
    split
    · simp
    · omega
  · rw [hr] at h1
    unfold target_undotted.f
    rw [show (⟨#[47]⟩ : ByteArray) = bOf [47] from rfl]
    refine Ev.sbind (prog_Split 47 (47 :: l) (by simp; omega)) ?_
    have e : splitL 47 (47 :: l) = [] :: splitL 47 l := by rw [splitL, if_pos rfl]
    rw [e]
    refine Ev.pos (by simp; omega) (Ev.sbind rfl ?_)
    rw [List.map_cons, List.drop_one, List.tail_cons, List.length_map]
    exact h1
end Go.Proofs.YtghaocjhmambaaaDoor.Pu

/- The statement TargetAny, without the program in sight. -/
namespace Go.Proofs.YtghaocjhmambaaaDoor.Pu
open Go.RowKit Go.Proofs.YtghaocjhmambaaaDoorW.PrintWords Go.Proofs.YtghaocjhmambaaaDoorW.PrintLast Go.Proofs.YtghaocjhmambaaaDoor.PR
set_option linter.unusedVariables false
set_option linter.unusedSimpArgs false

set_option maxRecDepth 100000 in
theorem plains_path : target_Path.f 60 (⟨#[47, 97, 47, 46, 47, 98, 47, 46, 46, 47, 99, 37, 55, 101, 37, 50, 102, 63, 120, 61, 37, 50, 101]⟩ : ByteArray) = some (bOf [47, 97, 47, 99, 126, 37, 50, 70, 63, 120, 61, 46], 0) := by kernel_rfl
set_option maxRecDepth 100000 in
theorem plains_parse : target_Parse.f 60 (⟨#[72, 84, 84, 80, 58, 47, 47, 69, 120, 46, 99, 111, 109, 58, 56, 48]⟩ : ByteArray) (⟨#[]⟩ : ByteArray) = some (bOf [101, 120, 46, 99, 111, 109], 80, bOf [47], 0) := by kernel_rfl
set_option maxRecDepth 100000 in
theorem plains_star : target_Parse.f 60 (⟨#[42]⟩ : ByteArray) (⟨#[97]⟩ : ByteArray) = some (bOf [], 0, bOf [], 23) := by kernel_rfl
set_option maxRecDepth 100000 in
theorem plains_beside : target_Parse.f 60 (⟨#[47, 120]⟩ : ByteArray) (bOf [101, 120, 46, 99, 111, 109, 58, 56, 48]) = some (bOf [101, 120, 46, 99, 111, 109], 80, bOf [47, 120], 0) := by kernel_rfl
theorem plain_80 : plain 80 = [56, 48] := by
  unfold plain
  rw [if_neg (by decide), digs_big (by decide) (by decide), digs_small (by decide)]
  rfl
theorem plains_resolve : target_Resolve.f 60 (bOf [101, 120, 46, 99, 111, 109]) 80 (bOf [47]) (⟨#[47, 120]⟩ : ByteArray) = some (bOf [101, 120, 46, 99, 111, 109], 80, bOf [47, 120], true) := by
  unfold target_Resolve.f
  rw [if_pos (by rw [bOf_size]; decide), prog_Plain 80 (by decide), plain_80, Option.bind_some, show (⟨#[58]⟩ : ByteArray) = bOf [58] from rfl]
  simp only [bOf_append, bOf_size]
  rw [if_pos (by decide)]
  rw [show ([101, 120, 46, 99, 111, 109] ++ [58] ++ [56, 48] : List UInt8) = [101, 120, 46, 99, 111, 109, 58, 56, 48] from rfl, plains_beside, Option.bind_some]
  rfl
theorem plains_key : target_Key.f (bOf [101, 120, 46, 99, 111, 109]) 80 (bOf [47]) = some (bOf [71, 69, 84, 32, 104, 116, 116, 112, 58, 47, 47, 101, 120, 46, 99, 111, 109, 47], 0) := by kernel_rfl
theorem plains_text : target_Text.f (bOf [101, 120, 46, 99, 111, 109]) 80 (bOf [47]) = some (bOf [104, 116, 116, 112, 58, 47, 47, 101, 120, 46, 99, 111, 109, 47]) := by kernel_rfl
theorem plains_true : Ev (fun k => depotlaw08_plains.f k) true := by
  unfold depotlaw08_plains.f
  refine Ev.bind (Ev.of (target_Path.mono _) plains_path) ?_
  refine Ev.bind (Ev.of (target_Parse.mono _ _) plains_parse) ?_
  refine Ev.bind (Ev.of (target_Parse.mono _ _) plains_star) ?_
  refine Ev.sbind plains_key ?_
  refine Ev.bind (Ev.of (target_Resolve.mono _ _ _ _) plains_resolve) ?_
  refine Ev.pos (toList_bOf _) (Ev.pos rfl (Ev.pos ?_ (Ev.pos rfl (Ev.pos rfl (Ev.pos (toList_bOf _) (Ev.pos rfl (Ev.pos (toList_bOf _) (Ev.pos rfl ?_))))))))
  · simp only [toList_bOf]; decide
  · refine Ev.sbind plains_text (Ev.some' ?_)
    rw [toList_bOf]
    rfl
theorem plains_end : Ev (fun k => (depotlaw08_plains.f k).bind fun t => some t) true := Ev.bind plains_true (Ev.some' rfl)
/-! ### the text and the key of a target -/
def httpT : List UInt8 := [104, 116, 116, 112, 58, 47, 47]
def textL (h : List UInt8) (p : Int) (t : List UInt8) : List UInt8 := if p = 80 then httpT ++ h ++ t else httpT ++ h ++ (58 :: plain p) ++ t
theorem text_len (h : List UInt8) (p : Int) (t : List UInt8) (hp : -9223372036854775808 ≤ p ∧ p ≤ 9223372036854775807) : (textL h p t).length ≤ 50 + h.length + t.length := by
  have := plain_len p hp
  unfold textL httpT
  split <;> simp <;> omega
theorem prog_Text (h : List UInt8) (p : Int) (t : List UInt8) (hh : h.length ≤ 100000) (ht : t.length ≤ 100000) (hp : -9223372036854775808 ≤ p ∧ p ≤ 9223372036854775807) : target_Text.f (bOf h) p (bOf t) = some (bOf (textL h p t)) := by
  have hl := plain_len p hp
  unfold target_Text.f textL
  rw [show (⟨#[104, 116, 116, 112, 58, 47, 47]⟩ : ByteArray) = bOf httpT from rfl, show (⟨#[58]⟩ : ByteArray) = bOf [58] from rfl]
  simp only [bOf_append, bOf_size]
  rw [if_pos (by omega)]
  by_cases c : p = 80
  · rw [if_pos c, if_pos c, if_pos (by simp [httpT]; omega)]
  · rw [if_neg c, if_neg c, prog_Plain p hp, Option.bind_some]
    simp only [bOf_append, bOf_size]
    rw [if_pos (by omega), if_pos (by simp [httpT]; omega), if_pos (by simp [httpT]; omega)]
    rfl
theorem ref_Text (h : List UInt8) (p : Int) (t : List UInt8) (hh : h.length ≤ 100000) (ht : t.length ≤ 100000) (hp : -9223372036854775808 ≤ p ∧ p ≤ 9223372036854775807) : Ev (fun k => depotref08_Text.f k (bOf h) p (bOf t)) (bOf (textL h p t)) := by
  have hl := plain_len p hp
  unfold depotref08_Text.f textL
  rw [show (⟨#[104, 116, 116, 112, 58, 47, 47]⟩ : ByteArray) = bOf httpT from rfl, show (⟨#[58]⟩ : ByteArray) = bOf [58] from rfl]
  simp only [bOf_append, bOf_size]
  by_cases c : p = 80
  · rw [if_pos c]
    exact Ev.pos c (Ev.pos (by omega) (Ev.pos (by simp [httpT]; omega) (Ev.some' rfl)))
  · rw [if_neg c]
    refine Ev.neg c (Ev.pos (by omega) (Ev.pos (by simp [httpT]; omega) (Ev.bind (ref_Plain p hp) ?_)))
    simp only [bOf_append, bOf_size]
    refine Ev.pos (by simp [httpT]; omega) (Ev.pos (by simp [httpT]; omega) (Ev.some' ?_))
    simp
def keyL (l : List UInt8) : List UInt8 × Int := if 255 < 4 + l.length then ([], 4) else ([71, 69, 84, 32] ++ l, 0)
theorem prog_Key (h : List UInt8) (p : Int) (t : List UInt8) (hh : h.length ≤ 100000) (ht : t.length ≤ 100000) (hp : -9223372036854775808 ≤ p ∧ p ≤ 9223372036854775807) : target_Key.f (bOf h) p (bOf t) = some (bOf (keyL (textL h p t)).1, (keyL (textL h p t)).2) := by
  have hl := text_len h p t hp
  unfold target_Key.f
  rw [prog_Text h p t hh ht hp, Option.bind_some, show (⟨#[71, 69, 84, 32]⟩ : ByteArray) = bOf [71, 69, 84, 32] from rfl]
  generalize textL h p t = l at hl ⊢
  simp only [bOf_append, bOf_size]
  rw [if_pos (by omega)]
  unfold keyL
  by_cases c : 255 < 4 + l.length
  · rw [if_pos (by simp; omega), if_pos c]; rfl
  · rw [if_neg (by simp; omega), if_neg c]
theorem ref_Key (h : List UInt8) (p : Int) (t : List UInt8) (hh : h.length ≤ 100000) (ht : t.length ≤ 100000) (hp : -9223372036854775808 ≤ p ∧ p ≤ 9223372036854775807) : Ev (fun k => depotref08_Key.f k (bOf h) p (bOf t)) (bOf (keyL (textL h p t)).1, (keyL (textL h p t)).2) := by
  have hl := text_len h p t hp
  unfold depotref08_Key.f
  refine Ev.bind (ref_Text h p t hh ht hp) ?_
  rw [show (⟨#[71, 69, 84, 32]⟩ : ByteArray) = bOf [71, 69, 84, 32] from rfl]
  generalize textL h p t = l at hl ⊢
  simp only [bOf_append, bOf_size]
  refine Ev.pos (by omega) ?_
  unfold keyL
  by_cases c : 255 < 4 + l.length
  · rw [if_pos c]
    exact Ev.pos (by simp; omega) (Ev.some' rfl)
  · rw [if_neg c]
    exact Ev.neg (by simp; omega) (Ev.some' rfl)
theorem any_law (a0 : ByteArray) (p : Int) (a2 : ByteArray) (w : a0.size ≤ 9223372036854775807 ∧ (Lit.int .i64 p).wf = true ∧ a2.size ≤ 9223372036854775807) : ∃ k, depotlaw08_TargetAny.f k a0 p a2 = some true := by
  have hp := wf64 w.2.1
  refine Ev.rounds ?_
  obtain ⟨h, rfl, hh⟩ := ex_bOf a0
  obtain ⟨t, rfl, ht⟩ := ex_bOf a2
  have j0t : Ev (fun k => depotlaw08_TargetAny.j0 k true (bOf h) p (bOf t)) true := by
    refine Ev.step (fun k => by rw [depotlaw08_TargetAny.j0]) ?_
    exact Ev.pos rfl plains_end
  unfold depotlaw08_TargetAny.f
  refine Ev.ite (fun _ => j0t) (fun h1 => ?_)
  by_cases h2 : ((bOf t).size : Int) > 1000
  · rw [decide_eq_true h2]; exact j0t
  · rw [decide_eq_false h2]
    rw [bOf_size] at h1 h2
    refine Ev.step (fun k => by rw [depotlaw08_TargetAny.j0]) ?_
    refine Ev.neg (by simp) (Ev.sbind (prog_Key h p t (by omega) (by omega) hp) (Ev.bind (ref_Key h p t (by omega) (by omega) hp) (Ev.sbind (prog_Text h p t (by omega) (by omega) hp) (Ev.bind (ref_Text h p t (by omega) (by omega) hp) ?_))))
    exact Ev.pos rfl (Ev.pos rfl (Ev.pos rfl plains_end))
end Go.Proofs.YtghaocjhmambaaaDoor.Pu

/- The statement TargetPaths, without the program in sight. -/
namespace Go.Proofs.YtghaocjhmambaaaDoor.Pu
open Go.RowKit Go.Proofs.YtghaocjhmambaaaDoorW.PrintWords Go.Proofs.YtghaocjhmambaaaDoorW.PrintLast Go.Proofs.YtghaocjhmambaaaDoor.PR
set_option linter.unusedVariables false
set_option linter.unusedSimpArgs false

theorem decoded_both (l m : List UInt8) (hm : m.length ≤ 1000) (hl : l.length ≤ 100000) : ∃ r : List UInt8 × Bool, path_decoded (bOf m) (bOf l) = some (bOf r.1, r.2) ∧ r.1.length ≤ l.length ∧ Ev (fun k => depotref08_plain.f k (bOf l) (bOf m)) (bOf r.1, r.2) := by
  obtain ⟨r, h1, h2, h3⟩ := plain_both l m hm hl _ [] l [] rfl rfl (by simp; omega)
  refine ⟨r, ?_, by simpa using h2, h3⟩
  unfold path_decoded
  rw [bOf_size, if_pos (by omega)]
  exact h1 _ (Nat.lt_succ_self _)
theorem decoded_head (x : UInt8) (s m : List UInt8) (r : List UInt8 × Bool) (hx : x = 47) (h : path_decoded (bOf m) (bOf (x :: s)) = some (bOf r.1, r.2)) (hr : r.2 = true) (hs : s.length ≤ 90000) (hm : m.length ≤ 1000) : ∃ t, r.1 = 47 :: t := by
  subst hx
  unfold path_decoded at h
  rw [bOf_size, if_pos (by simp; omega), Hand.decdGo, if_neg (by rw [bOf_size]; simp), if_pos (by show ¬ (47 : Int) = 37; decide)] at h
  split at h
  case isTrue =>
    have e3 : (bOf (47 :: s)).extract 1 (bOf (47 :: s)).size = bOf s := ext_tail [47] s 1 rfl
    have e0 : bt (bOf (47 :: s)) 0 = (((47 : UInt8).toNat : Nat) : Int) := rfl
    rw [e3, e0, one_b, u8_of, show (⟨#[]⟩ : ByteArray) = bOf [] from rfl, bOf_append] at h
    have key : ∀ (K : Nat) (s out : List UInt8) (r : List UInt8 × Bool), Hand.decdGo (Hand.ofB (bOf m)) K (bOf s) (bOf (47 :: out)) = some (bOf r.1, r.2) → r.2 = true → ∃ t, r.1 = 47 :: t := by
      intro K
      induction K with
      | zero => intro s out r h _; cases h
      | succ K ih =>
        intro s out r h hr
        rw [Hand.decdGo] at h
        have no : ∀ (z : Option (ByteArray × Bool)), z = some ((⟨#[]⟩ : ByteArray), false) → z = some (bOf r.1, r.2) → False := by
          intro z h1 h2
          rw [h1] at h2
          have := (Prod.mk.inj (Option.some.inj h2)).2
          rw [hr] at this
          cases this
        have ex : ∀ a : ByteArray, ∃ l, a = bOf l := fun a => ⟨a.data.toList, (bOf_data a).symm⟩
        by_cases c0 : (bOf s).size = 0
        · rw [if_pos c0] at h
          have := (Prod.mk.inj (Option.some.inj h)).1
          exact ⟨out, (bOf_inj this).symm⟩
        · rw [if_neg c0] at h
          by_cases c1 : ¬ bt (bOf s) 0 = 37
          · rw [if_pos c1] at h
            split at h
            · obtain ⟨s', e⟩ := ex ((bOf s).extract 1 (bOf s).size)
              rw [e, one_b, bOf_append] at h
              exact ih _ (out ++ [_]) r h hr
            · exact (no _ rfl h).elim
          · rw [if_neg c1] at h
            split at h
            · exact (no _ rfl h).elim
            · split at h
              · obtain ⟨s', e⟩ := ex ((bOf s).extract 3 (bOf s).size)
                rw [e] at h
                split at h
                · rw [one_b, bOf_append] at h
                  exact ih _ (out ++ [_]) r h hr
                · rw [one_b, one_b, one_b, bOf_append, bOf_append, bOf_append] at h
                  exact ih _ (out ++ [_] ++ [_] ++ [_]) r h hr
              · exact (no _ rfl h).elim
    exact key _ _ [] r h hr
  case isFalse =>
    have := (Prod.mk.inj (Option.some.inj h)).2
    rw [hr] at this
    cases this
theorem delT_b : delT = bOf [45, 46, 95, 126, 33, 36, 38, 39, 40, 41, 42, 43, 44, 59, 61, 58, 64, 47] := rfl
theorem queT_b : queT = bOf [45, 46, 95, 126, 33, 36, 38, 39, 40, 41, 42, 43, 44, 59, 61, 58, 64, 47, 63] := rfl
theorem path_both (l : List UInt8) (hl : l.length ≤ 1000) : ∃ r : List UInt8 × Int, Ev (fun k => target_Path.f k (bOf l)) (bOf r.1, r.2) ∧ Ev (fun k => depotref08_Path.f k (bOf l)) (bOf r.1, r.2) := by
  have jt : Ev (fun k => depotref08_Path.j0 k (bOf l) true) (bOf [], (23 : Int)) := by
    refine Ev.step (fun k => by rw [depotref08_Path.j0]) ?_
    exact Ev.pos rfl (Ev.some' rfl)
  have hsz : (bOf l).size = l.length := bOf_size l
  cases l with
  | nil =>
    refine ⟨([], 23), ?_, ?_⟩
    · unfold target_Path.f
      exact Ev.neg (by rw [hsz]; simp) (Ev.pos rfl (Ev.some' rfl))
    · unfold depotref08_Path.f
      exact Ev.neg (by rw [hsz]; simp) (Ev.pos (by rw [hsz]; rfl) jt)
  | cons x s =>
    simp only [List.length_cons] at hl
    have hbt : bt (bOf (x :: s)) 0 = (x.toNat : Int) := rfl
    by_cases cx : x = 47
    · subst cx
      have hpre : Lib.hasPrefix (bOf (47 :: s)).data.toList [47] = true := by rw [data_bOf]; simp [Lib.hasPrefix, List.isPrefixOf]
      have hle := cut_le 63 (47 :: s)
      simp only [List.length_cons] at hle
      have hhead : ∃ c', (cutAt 63 (47 :: s)).1 = 47 :: c' := by rw [cutAt, if_neg (by decide)]; exact ⟨_, rfl⟩
      have hC := prog_Cut 63 (47 :: s) (by simp; omega)
      have hRC := ref_Cut 63 (47 :: s) (by simp; omega)
      obtain ⟨c', hc'⟩ := hhead
      generalize (cutAt 63 (47 :: s)).1 = c1 at hle hc' hC hRC
      generalize (cutAt 63 (47 :: s)).2.1 = c2 at hle hC hRC
      generalize (cutAt 63 (47 :: s)).2.2 = has at hC hRC
      subst hc'
      obtain ⟨p, hp1, hp2, hp3⟩ := decoded_both (47 :: c') [45, 46, 95, 126, 33, 36, 38, 39, 40, 41, 42, 43, 44, 59, 61, 58, 64, 47] (by decide) (by omega)
      obtain ⟨q, hq1, hq2, hq3⟩ := decoded_both c2 [45, 46, 95, 126, 33, 36, 38, 39, 40, 41, 42, 43, 44, 59, 61, 58, 64, 47, 63] (by decide) (by omega)
      have startP : ∀ z, Ev (fun k => if p.2 = false then some ((⟨#[]⟩ : ByteArray), (23 : Int)) else if q.2 = false then some ((⟨#[]⟩ : ByteArray), (23 : Int)) else (target_undotted.f k (bOf p.1)).bind fun u => path_end u has (bOf q.1)) z → Ev (fun k => target_Path.f k (bOf (47 :: s))) z := by
        intro z hz
        unfold target_Path.f
        refine Ev.neg (by rw [hsz]; simp <;> omega) (Ev.neg (by rw [hpre]; simp) (Ev.sbind hC ?_))
        exact Ev.sbind hp1 (Ev.sbind hq1 hz)
      have startR : ∀ z, Ev (fun k => depotref08_Path.j1 k has (bOf p.1) (bOf q.1) (if p.2 = true then !q.2 else true)) z → Ev (fun k => depotref08_Path.f k (bOf (47 :: s))) z := by
        intro z hz
        unfold depotref08_Path.f
        refine Ev.neg (by rw [hsz]; simp <;> omega) (Ev.neg (by rw [hsz]; simp <;> omega) (Ev.pos (by rw [hsz]; simp <;> omega) ?_))
        rw [hbt, show ((((47 : UInt8).toNat : Nat) : Int) != 47) = false from rfl]
        refine Ev.step (fun k => by rw [depotref08_Path.j0]) ?_
        refine Ev.neg (by simp) (Ev.bind hRC (Ev.bind hp3 (Ev.bind hq3 ?_)))
        cases h1 : p.2
        · rw [h1] at hz; exact Ev.neg (by simp) hz
        · rw [h1] at hz; exact Ev.pos rfl hz
      by_cases c3 : p.2 = true ∧ q.2 = true
      · obtain ⟨t, ht⟩ := decoded_head 47 c' _ p rfl hp1 c3.1 (by simp at hle; omega) (by decide)
        rw [ht] at hp2
        simp at hp2 hle
        obtain ⟨u, hu0, hu1, hu2⟩ := both_dots t (by omega)
        have hz : Ev (fun k => path_end (bOf u) has (bOf q.1)) (bOf (if has = false then u else u ++ 63 :: q.1), (0 : Int)) := by
          unfold path_end
          cases has
          · exact Ev.pos rfl (Ev.some' rfl)
          · refine Ev.neg (by simp) (Ev.pos (by rw [bOf_size, bOf_size]; omega) (Ev.some' ?_))
            rw [show (⟨#[63]⟩ : ByteArray) = bOf [63] from rfl, bOf_append, bOf_append]
            rfl
        refine ⟨(if has = false then u else u ++ 63 :: q.1, 0), startP _ ?_, startR _ ?_⟩
        · rw [c3.1, c3.2, ht]
          exact Ev.neg (by simp) (Ev.neg (by simp) (Ev.bind hu1 hz))
        · rw [c3.1, c3.2, ht]
          refine Ev.step (fun k => by rw [depotref08_Path.j1]) ?_
          refine Ev.neg (by simp) (Ev.bind hu2 ?_)
          cases has
          · exact Ev.neg (by simp) (Ev.some' rfl)
          · refine Ev.pos rfl (Ev.pos (by rw [bOf_size]; omega) ?_)
            rw [show (⟨#[63]⟩ : ByteArray) = bOf [63] from rfl, bOf_append]
            refine Ev.pos (by rw [bOf_size, bOf_size]; simp; omega) (Ev.some' ?_)
            rw [bOf_append]
            simp
      · have e1 : (if p.2 = true then !q.2 else true) = true := by
          cases h1 : p.2
          · rfl
          · cases h2 : q.2
            · rfl
            · exact absurd ⟨h1, h2⟩ c3
        refine ⟨([], 23), startP _ ?_, startR _ ?_⟩
        · cases h1 : p.2
          · exact Ev.pos rfl (Ev.some' rfl)
          · cases h2 : q.2
            · exact Ev.neg (by simp) (Ev.pos rfl (Ev.some' rfl))
            · exact absurd ⟨h1, h2⟩ c3
        · rw [e1]
          refine Ev.step (fun k => by rw [depotref08_Path.j1]) ?_
          exact Ev.pos rfl (Ev.some' rfl)
    · have hpre : Lib.hasPrefix (bOf (x :: s)).data.toList [47] = false := by rw [data_bOf]; simpa [Lib.hasPrefix, List.isPrefixOf] using fun e => cx e.symm
      refine ⟨([], 23), ?_, ?_⟩
      · unfold target_Path.f
        exact Ev.neg (by rw [hsz]; simp <;> omega) (Ev.pos hpre (Ev.some' rfl))
      · unfold depotref08_Path.f
        refine Ev.neg (by rw [hsz]; simp <;> omega) (Ev.neg (by rw [hsz]; simp <;> omega) (Ev.pos (by rw [hsz]; simp <;> omega) ?_))
        have hne : ¬ (x.toNat : Int) = 47 := fun e => cx ((u8_eq (by decide)).1 e)
        rw [hbt, show ((x.toNat : Int) != 47) = true by simpa using hne]
        exact jt
theorem paths_law (s : ByteArray) : ∃ k, depotlaw08_TargetPaths.f k s = some true := by
  refine Ev.rounds ?_
  obtain ⟨l, rfl, hl⟩ := ex_bOf s
  unfold depotlaw08_TargetPaths.f
  refine Ev.ite (fun _ => plains_end) (fun h1 => ?_)
  rw [bOf_size] at h1
  obtain ⟨r, hr1, hr2⟩ := path_both l (by omega)
  refine Ev.bind hr1 (Ev.bind hr2 (Ev.sbind (prog_Authority l (by omega)) (Ev.bind (ref_Authority l (by omega)) ?_)))
  exact Ev.pos rfl (Ev.pos rfl (Ev.pos rfl (Ev.pos rfl (Ev.pos rfl plains_end))))
end Go.Proofs.YtghaocjhmambaaaDoor.Pu

/- The statement TargetPlain, without the program in sight. -/
namespace Go.Proofs.YtghaocjhmambaaaDoor.Pu
open Go.RowKit Go.Proofs.YtghaocjhmambaaaDoorW.PrintWords Go.Proofs.YtghaocjhmambaaaDoorW.PrintLast Go.Proofs.YtghaocjhmambaaaDoor.PR
set_option linter.unusedVariables false
set_option linter.unusedSimpArgs false

/-! ### texts that stay -/
def del : List UInt8 := [45, 46, 95, 126, 33, 36, 38, 39, 40, 41, 42, 43, 44, 59, 61, 58, 64, 47]
def que : List UInt8 := [45, 46, 95, 126, 33, 36, 38, 39, 40, 41, 42, 43, 44, 59, 61, 58, 64, 47, 63]
inductive Stays (m : List UInt8) : List UInt8 → Prop where
  | nil : Stays m []
  | one (x : UInt8) (s : List UInt8) (hx : x ≠ 37) (hk : Hand.ofB (bOf m) (x.toNat : Int) = true) (hs : Stays m s) : Stays m (x :: s)
  | pct (h k : Int) (hh : 0 ≤ h ∧ h ≤ 15) (hk : 0 ≤ k ∧ k ≤ 15) (hf : ¬ Hand.ofB Hand.plainT (16 * h + k) = true) (s : List UInt8) (hs : Stays m s) : Stays m (37 :: u8 (bt Hand.great h) :: u8 (bt Hand.great k) :: s)
theorem Stays.app {m a b : List UInt8} (h : Stays m a) (k : Stays m b) : Stays m (a ++ b) := by
  induction h with
  | nil => exact k
  | one x s hx hk hs ih => exact .one x _ hx hk ih
  | pct h' k' hh hk hf s hs ih => exact .pct h' k' hh hk hf _ ih
theorem great_back : ∀ a : Fin 16, Hand.hexP ((u8 (bt Hand.great ((a : Nat) : Int))).toNat : Int) = (((a : Nat) : Int), true) := by decide +kernel
theorem great_hex (h : Int) (hh : 0 ≤ h ∧ h ≤ 15) : Hand.hexP ((u8 (bt Hand.great h)).toNat : Int) = (h, true) := by
  have := great_back ⟨h.toNat, by omega⟩
  simpa [show ((h.toNat : Nat) : Int) = h by omega] using this
theorem great_no : ∀ a : Fin 16, u8 (bt Hand.great ((a : Nat) : Int)) ≠ 47 ∧ u8 (bt Hand.great ((a : Nat) : Int)) ≠ 63 := by decide +kernel
theorem great_ne (h : Int) (hh : 0 ≤ h ∧ h ≤ 15) : u8 (bt Hand.great h) ≠ 47 ∧ u8 (bt Hand.great h) ≠ 63 := by
  have := great_no ⟨h.toNat, by omega⟩
  simpa [show ((h.toNat : Nat) : Int) = h by omega] using this
/-- What stays is decoded as it is. -/
theorem stays_dec {m s : List UInt8} (h : Stays m s) : ∀ (K : Nat) (out : List UInt8), s.length < K → Hand.decdGo (Hand.ofB (bOf m)) K (bOf s) (bOf out) = some (bOf (out ++ s), true) := by
  induction h with
  | nil =>
    intro K out hK
    obtain ⟨K, rfl⟩ : ∃ k, K = k + 1 := ⟨K - 1, by simp at hK; omega⟩
    rw [Hand.decdGo, if_pos (by rfl), List.append_nil]
  | one x s hx hk hs ih =>
    intro K out hK
    simp only [List.length_cons] at hK
    obtain ⟨K, rfl⟩ : ∃ k, K = k + 1 := ⟨K - 1, by omega⟩
    have hb0 : bt (bOf (x :: s)) 0 = (x.toNat : Int) := rfl
    have e3 : (bOf (x :: s)).extract 1 (bOf (x :: s)).size = bOf s := ext_tail [x] s 1 rfl
    have hne : ¬ (x.toNat : Int) = 37 := fun e => hx ((u8_eq (by decide)).1 e)
    rw [Hand.decdGo, if_neg (by rw [bOf_size]; simp), hb0, if_pos hne, if_pos hk, e3, one_b, u8_of, bOf_append, ih K _ (by omega), List.append_assoc]
    rfl
  | pct h k hh hk hf s hs ih =>
    intro K out hK
    simp only [List.length_cons] at hK
    obtain ⟨K, rfl⟩ : ∃ k, K = k + 1 := ⟨K - 1, by omega⟩
    have e3 : (bOf (37 :: u8 (bt Hand.great h) :: u8 (bt Hand.great k) :: s)).extract 3 (bOf (37 :: u8 (bt Hand.great h) :: u8 (bt Hand.great k) :: s)).size = bOf s := ext_tail [37, u8 (bt Hand.great h), u8 (bt Hand.great k)] s 3 rfl
    have b0 : bt (bOf (37 :: u8 (bt Hand.great h) :: u8 (bt Hand.great k) :: s)) 0 = 37 := rfl
    have b1 : bt (bOf (37 :: u8 (bt Hand.great h) :: u8 (bt Hand.great k) :: s)) 1 = ((u8 (bt Hand.great h)).toNat : Int) := rfl
    have b2 : bt (bOf (37 :: u8 (bt Hand.great h) :: u8 (bt Hand.great k) :: s)) 2 = ((u8 (bt Hand.great k)).toNat : Int) := rfl
    rw [Hand.decdGo, if_neg (by rw [bOf_size]; simp), b0, if_neg (by decide), if_neg (by rw [bOf_size]; simp), b1, b2, great_hex h hh, great_hex k hk, if_pos ⟨rfl, rfl⟩, if_neg hf, e3]
    have e37 : u8 37 = 37 := rfl
    simp only [one_b, bOf_append]
    rw [ih K _ (by omega), e37]
    simp
theorem free_kind (m : List UInt8) (hm : m = del ∨ m = que) (x : Int) (hx : 0 ≤ x ∧ x ≤ 255) (h : Hand.ofB Hand.plainT x = true) : Hand.ofB (bOf m) x = true ∧ x ≠ 37 := by
  have key : ∀ c : Fin 256, Hand.ofB Hand.plainT ((c : Nat) : Int) = true → Hand.ofB (bOf del) ((c : Nat) : Int) = true ∧ Hand.ofB (bOf que) ((c : Nat) : Int) = true ∧ ((c : Nat) : Int) ≠ 37 := by decide +kernel
  have := key ⟨x.toNat, by omega⟩
  simp only [show ((x.toNat : Nat) : Int) = x by omega] at this
  obtain ⟨h1, h2, h3⟩ := this h
  rcases hm with rfl | rfl
  · exact ⟨h1, h3⟩
  · exact ⟨h2, h3⟩
/-- What is decoded stays. -/
theorem dec_stays (m : List UInt8) (hm : m = del ∨ m = que) : ∀ (K : Nat) (s out : List UInt8) (r : List UInt8 × Bool), Stays m out → Hand.decdGo (Hand.ofB (bOf m)) K (bOf s) (bOf out) = some (bOf r.1, r.2) → r.2 = true → Stays m r.1 := by
  intro K
  induction K with
  | zero => intro s out r ho h _; cases h
  | succ K ih =>
    intro s out r ho h hr
    rw [Hand.decdGo] at h
    have no : ∀ (z : Option (ByteArray × Bool)), z = some ((⟨#[]⟩ : ByteArray), false) → z = some (bOf r.1, r.2) → False := by
      intro z h1 h2
      rw [h1] at h2
      have := (Prod.mk.inj (Option.some.inj h2)).2
      rw [hr] at this
      cases this
    have ex : ∀ a : ByteArray, ∃ l, a = bOf l := fun a => ⟨a.data.toList, (bOf_data a).symm⟩
    have br := bt_range (bOf s) 0
    by_cases c0 : (bOf s).size = 0
    · rw [if_pos c0] at h
      have := (Prod.mk.inj (Option.some.inj h)).1
      rw [← bOf_inj this]
      exact ho
    · rw [if_neg c0] at h
      by_cases c1 : ¬ bt (bOf s) 0 = 37
      · rw [if_pos c1] at h
        by_cases c2 : Hand.ofB (bOf m) (bt (bOf s) 0) = true
        · rw [if_pos c2] at h
          obtain ⟨s', e⟩ := ex ((bOf s).extract 1 (bOf s).size)
          rw [e, one_b, bOf_append] at h
          have hb : ((u8 (bt (bOf s) 0)).toNat : Int) = bt (bOf s) 0 := Hand.u8_back _ br
          refine ih _ _ r (ho.app (.one _ _ ?_ ?_ .nil)) h hr
          · intro e2
            apply c1
            rw [← hb, e2]; rfl
          · rw [hb]; exact c2
        · rw [if_neg c2] at h
          exact (no _ rfl h).elim
      · rw [if_neg c1] at h
        split at h
        · exact (no _ rfl h).elim
        · split at h
          · obtain ⟨s', e⟩ := ex ((bOf s).extract 3 (bOf s).size)
            rw [e] at h
            have ra := Hand.hexP_range (bt (bOf s) 1)
            have rb := Hand.hexP_range (bt (bOf s) 2)
            by_cases c3 : Hand.ofB Hand.plainT (16 * (Hand.hexP (bt (bOf s) 1)).1 + (Hand.hexP (bt (bOf s) 2)).1) = true
            · rw [if_pos c3, one_b, bOf_append] at h
              obtain ⟨k1, k2⟩ := free_kind m hm _ (by omega) c3
              have hb := Hand.u8_back (16 * (Hand.hexP (bt (bOf s) 1)).1 + (Hand.hexP (bt (bOf s) 2)).1) (by omega)
              refine ih _ _ r (ho.app (.one _ _ ?_ ?_ .nil)) h hr
              · intro e2
                apply k2
                rw [← hb]
                exact congrArg (fun x : UInt8 => (x.toNat : Int)) e2
              · have hb' : ((u8 (16 * (Hand.hexP (bt (bOf s) 1)).1 + (Hand.hexP (bt (bOf s) 2)).1)).toNat : Int) = _ := hb
                rw [hb']; exact k1
            · rw [if_neg c3, one_b, one_b, one_b, bOf_append, bOf_append, bOf_append] at h
              refine ih _ _ r ?_ h hr
              have := ho.app (.pct _ _ ra rb c3 [] .nil)
              simpa [show u8 37 = 37 from rfl] using this
          · exact (no _ rfl h).elim
/-! ### the parts of what stays -/
theorem stays_split (m : List UInt8) {l : List UInt8} (h : Stays m l) : ∀ q ∈ splitL 47 l, Stays m q := by
  have cons47 : ∀ (x : UInt8) (l : List UInt8), x ≠ 47 → ∃ a t, splitL 47 l = a :: t ∧ splitL 47 (x :: l) = (x :: a) :: t := by
    intro x l hx
    cases hs : splitL 47 l with
    | nil => have := splitL_ne 47 l; rw [hs] at this; simp at this
    | cons a t => exact ⟨a, t, rfl, by rw [splitL, if_neg hx, hs]⟩
  induction h with
  | nil => intro q hq; simp [splitL] at hq; subst hq; exact .nil
  | one x s hx hk hs ih =>
    by_cases e : x = 47
    · rw [splitL, if_pos e]
      intro q hq
      rcases List.mem_cons.1 hq with rfl | hq
      · exact .nil
      · exact ih q hq
    · obtain ⟨a, t, h1, h2⟩ := cons47 x s e
      rw [h2]
      rw [h1] at ih
      intro q hq
      rcases List.mem_cons.1 hq with rfl | hq
      · exact .one x a hx hk (ih a List.mem_cons_self)
      · exact ih q (List.mem_cons_of_mem _ hq)
  | pct h k hh hk hf s hs ih =>
    obtain ⟨a, t, h1, h2⟩ := cons47 (u8 (bt Hand.great k)) s (great_ne k hk).1
    obtain ⟨a2, t2, h3, h4⟩ := cons47 (u8 (bt Hand.great h)) (u8 (bt Hand.great k) :: s) (great_ne h hh).1
    obtain ⟨a3, t3, h5, h6⟩ := cons47 37 (u8 (bt Hand.great h) :: u8 (bt Hand.great k) :: s) (by decide)
    rw [h6]
    rw [h4] at h5
    obtain ⟨rfl, rfl⟩ := List.cons.inj h5
    rw [h2] at h3
    obtain ⟨rfl, rfl⟩ := List.cons.inj h3
    rw [h1] at ih
    intro q hq
    rcases List.mem_cons.1 hq with rfl | hq
    · exact .pct h k hh hk hf a (ih a List.mem_cons_self)
    · exact ih q (List.mem_cons_of_mem _ hq)
theorem stays_flat : ∀ L : List (List UInt8), (∀ q ∈ L, Stays del q) → Stays del (flat L)
  | [], _ => .nil
  | a :: t, h => by
    rw [flat_cons]
    exact .one 47 _ (by decide) (by kernel_rfl) ((h a List.mem_cons_self).app (stays_flat t (fun q hq => h q (List.mem_cons_of_mem _ hq))))
theorem stays_no63 {l : List UInt8} (h : Stays del l) : ∀ x ∈ l, x ≠ 63 := by
  induction h with
  | nil => intro x hx; cases hx
  | one x s hx hk hs ih =>
    intro y hy
    rcases List.mem_cons.1 hy with rfl | hy
    · rintro rfl
      exact absurd hk (by decide +kernel)
    · exact ih y hy
  | pct h k hh hk hf s hs ih =>
    intro y hy
    simp only [List.mem_cons] at hy
    rcases hy with rfl | rfl | rfl | hy
    · decide
    · exact (great_ne h hh).2
    · exact (great_ne k hk).2
    · exact ih y hy
end Go.Proofs.YtghaocjhmambaaaDoor.Pu

/- The statement TargetPlain: a path that was made plain is made plain again. -/
namespace Go.Proofs.YtghaocjhmambaaaDoor.Pu
open Go.RowKit Go.Proofs.YtghaocjhmambaaaDoorW.PrintWords Go.Proofs.YtghaocjhmambaaaDoorW.PrintLast Go.Proofs.YtghaocjhmambaaaDoor.PR
set_option linter.unusedVariables false
set_option linter.unusedSimpArgs false

def Plain (q : List UInt8) : Prop := NoS q ∧ q ≠ dot ∧ q ≠ dotdot ∧ Stays del q
theorem plain_nil : Plain [] := ⟨fun x hx => (by cases hx), by decide, by decide, .nil⟩
theorem und_plain (left : List (List UInt8)) (p : List UInt8) (last : Bool) (hl : ∀ q ∈ left, Plain q) (hp : NoS p) (hs : Stays del p) : ∀ q ∈ undStep left p last, Plain q := by
  have hd : ∀ q ∈ left.dropLast, Plain q := fun q hq => hl q ((List.dropLast_sublist left).subset hq)
  have h1 : ∀ l1 : List (List UInt8), (∀ q ∈ l1, Plain q) → ∀ q ∈ (if last = true ∧ (p = dot ∨ p = dotdot) then l1 ++ [[]] else l1), Plain q := by
    intro l1 h q hq
    split at hq
    · rcases List.mem_append.1 hq with hq | hq
      · exact h q hq
      · simp at hq; subst hq; exact plain_nil
    · exact h q hq
  unfold undStep
  refine h1 _ ?_
  split
  · exact hd
  case isFalse c1 =>
    split
    · exact hl
    case isFalse c2 =>
      intro q hq
      rcases List.mem_append.1 hq with hq | hq
      · exact hl q hq
      · simp at hq; subst hq; exact ⟨hp, c2, c1, hs⟩
theorem undL_plain : ∀ (ps left : List (List UInt8)), (∀ q ∈ ps, NoS q ∧ Stays del q) → (∀ q ∈ left, Plain q) → ∀ q ∈ undL ps left, Plain q
  | [], left, _, hl => hl
  | p :: ps, left, hp, hl => undL_plain ps _ (fun q hq => hp q (List.mem_cons_of_mem _ hq)) (und_plain left p _ hl (hp p List.mem_cons_self).1 (hp p List.mem_cons_self).2)
/-- The parts of a plain path. -/
def parts (L : List (List UInt8)) : List (List UInt8) := if L = [] then [[]] else L
theorem parts_plain (L : List (List UInt8)) (h : ∀ q ∈ L, Plain q) : ∀ q ∈ parts L, Plain q := by
  unfold parts
  split
  · intro q hq; simp at hq; subst hq; exact plain_nil
  · exact h
theorem parts_ne (L : List (List UInt8)) : parts L ≠ [] := by unfold parts; split <;> simp_all
theorem parts_of {L : List (List UInt8)} (h : L ≠ []) : parts L = L := if_neg h
theorem parts_flat (L : List (List UInt8)) : endL (flat L) = flat (parts L) := by
  unfold endL parts
  by_cases e : L = []
  · subst e; rfl
  · rw [if_neg (fun h => e ((flat_nil L).1 h)), if_neg e]
theorem split_app (a : List UInt8) (l : List UInt8) (ha : NoS a) : splitL 47 (a ++ 47 :: l) = a :: splitL 47 l := by
  induction a with
  | nil => rw [List.nil_append, splitL, if_pos rfl]
  | cons x a ih =>
    rw [List.cons_append, splitL, if_neg (ha x List.mem_cons_self), ih (fun y hy => ha y (List.mem_cons_of_mem _ hy))]
theorem split_none (a : List UInt8) (ha : NoS a) : splitL 47 a = [a] := by
  induction a with
  | nil => rfl
  | cons x a ih => rw [splitL, if_neg (ha x List.mem_cons_self), ih (fun y hy => ha y (List.mem_cons_of_mem _ hy))]
theorem split_flat_eq : ∀ (L : List (List UInt8)), L ≠ [] → (∀ q ∈ L, NoS q) → ∃ t, flat L = 47 :: t ∧ splitL 47 t = L
  | [], h, _ => absurd rfl h
  | [a], _, h => ⟨a, by rw [flat_cons]; simp [flat], split_none a (h a List.mem_cons_self)⟩
  | a :: b :: L, _, h => by
    obtain ⟨t, h1, h2⟩ := split_flat_eq (b :: L) (by simp) (fun q hq => h q (List.mem_cons_of_mem _ hq))
    refine ⟨a ++ 47 :: t, by rw [flat_cons, h1], ?_⟩
    rw [split_app a t (h a List.mem_cons_self), h2]
theorem undL_same : ∀ (ps left : List (List UInt8)), (∀ q ∈ ps, Plain q) → undL ps left = left ++ ps
  | [], left, _ => by simp [undL]
  | p :: ps, left, h => by
    obtain ⟨_, h1, h2, _⟩ := h p List.mem_cons_self
    have e : undStep left p (decide (ps = [])) = left ++ [p] := by
      unfold undStep
      simp only [h1, h2, if_false, or_self, and_false]
    show undL ps (undStep left p (decide (ps = []))) = _
    rw [e, undL_same ps _ (fun q hq => h q (List.mem_cons_of_mem _ hq))]
    simp
theorem prog_undotted (l : List UInt8) (hl : l.length ≤ 20000) : Ev (fun k => target_undotted.f k (bOf (47 :: l))) (bOf (flat (parts (undL (splitL 47 l) [])))) := by
  have hfl := split_flat l
  have hlen : (flat (splitL 47 l)).length = l.length + 1 := by rw [hfl]; simp
  have hps := len_flat (splitL 47 l)
  have h1 := prog_und_l0 (splitL 47 l) (by omega) _ [] (splitL 47 l) [] rfl rfl (by rw [hlen]; show 0 + _ ≤ _; omega)
  have hr : 47 :: Lib.join (undL (splitL 47 l) []) [47] = flat (parts (undL (splitL 47 l) [])) := by
    rw [← parts_flat]
    unfold endL
    by_cases e : undL (splitL 47 l) [] = []
    · rw [e]; rfl
    · rw [if_neg (fun h => e ((flat_nil _).1 h)), join_flat _ e]
  rw [hr] at h1
  unfold target_undotted.f
  rw [show (⟨#[47]⟩ : ByteArray) = bOf [47] from rfl]
  refine Ev.sbind (prog_Split 47 (47 :: l) (by simp; omega)) ?_
  have e : splitL 47 (47 :: l) = [] :: splitL 47 l := by rw [splitL, if_pos rfl]
  rw [e]
  refine Ev.pos (by simp; omega) (Ev.sbind rfl ?_)
  rw [List.map_cons, List.drop_one, List.tail_cons, List.length_map]
  exact h1
/-- A plain path's text. -/
def pathL (L : List (List UInt8)) (q : List UInt8) (has : Bool) : List UInt8 := flat (parts L) ++ if has = true then 63 :: q else []
theorem undL_len (ps : List (List UInt8)) : ∀ left, (flat (undL ps left)).length ≤ (flat left).length + (flat ps).length := by
  induction ps with
  | nil => intro left; show (flat left).length ≤ (flat left).length + 0; omega
  | cons p ps ih =>
    intro left
    have a1 := ih (undStep left p (decide (ps = [])))
    have a2 := step_len left p (decide (ps = []))
    have a3 : (flat (p :: ps)).length = p.length + 1 + (flat ps).length := by rw [flat_cons]; simp; omega
    show (flat (undL ps (undStep left p (decide (ps = []))))).length ≤ _
    omega
theorem path_prog (l : List UInt8) (hl : l.length ≤ 1000) : Ev (fun k => target_Path.f k (bOf l)) (bOf [], (23 : Int)) ∨
    ∃ (L : List (List UInt8)) (q : List UInt8) (has : Bool), (∀ x ∈ L, Plain x) ∧ Stays que q ∧ (pathL L q has).length ≤ 3000 ∧ Ev (fun k => target_Path.f k (bOf l)) (bOf (pathL L q has), (0 : Int)) := by
  have hsz : (bOf l).size = l.length := bOf_size l
  cases l with
  | nil =>
    refine Or.inl ?_
    unfold target_Path.f
    exact Ev.neg (by rw [hsz]; simp) (Ev.pos rfl (Ev.some' rfl))
  | cons x s =>
    simp only [List.length_cons] at hl
    by_cases cx : x = 47
    · subst cx
      have hpre : Lib.hasPrefix (bOf (47 :: s)).data.toList [47] = true := by rw [data_bOf]; simp [Lib.hasPrefix, List.isPrefixOf]
      have hle := cut_le 63 (47 :: s)
      simp only [List.length_cons] at hle
      have hhead : ∃ c', (cutAt 63 (47 :: s)).1 = 47 :: c' := by rw [cutAt, if_neg (by decide)]; exact ⟨_, rfl⟩
      have hC := prog_Cut 63 (47 :: s) (by simp; omega)
      obtain ⟨c', hc'⟩ := hhead
      generalize (cutAt 63 (47 :: s)).1 = c1 at hle hc' hC
      generalize (cutAt 63 (47 :: s)).2.1 = c2 at hle hC
      generalize (cutAt 63 (47 :: s)).2.2 = has at hC
      subst hc'
      have hcl : c'.length + 1 ≤ s.length + 1 := hle.1
      obtain ⟨p, hp1, hp2, hp3⟩ := decoded_both (47 :: c') del (by decide) (by omega)
      obtain ⟨q, hq1, hq2, hq3⟩ := decoded_both c2 que (by decide) (by omega)
      have startP : ∀ z, Ev (fun k => if p.2 = false then some ((⟨#[]⟩ : ByteArray), (23 : Int)) else if q.2 = false then some ((⟨#[]⟩ : ByteArray), (23 : Int)) else (target_undotted.f k (bOf p.1)).bind fun u => path_end u has (bOf q.1)) z → Ev (fun k => target_Path.f k (bOf (47 :: s))) z := by
        intro z hz
        unfold target_Path.f
        refine Ev.neg (by rw [hsz]; simp <;> omega) (Ev.neg (by rw [hpre]; simp) (Ev.sbind hC ?_))
        exact Ev.sbind hp1 (Ev.sbind hq1 hz)
      by_cases c3 : p.2 = true ∧ q.2 = true
      · obtain ⟨t, ht⟩ := decoded_head 47 c' _ p rfl hp1 c3.1 (by simp at hle; omega) (by decide)
        have sp : Stays del p.1 := by
          unfold path_decoded at hp1
          rw [bOf_size, if_pos (by simp; omega)] at hp1
          exact dec_stays del (Or.inl rfl) _ _ [] p .nil hp1 c3.1
        have sq : Stays que q.1 := by
          unfold path_decoded at hq1
          rw [bOf_size, if_pos (by omega)] at hq1
          exact dec_stays que (Or.inr rfl) _ _ [] q .nil hq1 c3.2
        have hs := stays_split del sp
        rw [ht] at hp2 hs
        have e : splitL 47 (47 :: t) = [] :: splitL 47 t := by rw [splitL, if_pos rfl]
        rw [e] at hs
        simp at hp2 hle
        have hL := undL_plain (splitL 47 t) [] (fun q hq => ⟨split_no t q hq, hs q (List.mem_cons_of_mem _ hq)⟩) (fun q hq => by cases hq)
        have hu := prog_undotted t (by omega)
        have hul := undL_len (splitL 47 t) []
        rw [split_flat t] at hul
        have hpl : (flat (parts (undL (splitL 47 t) []))).length ≤ 1002 := by
          rw [← parts_flat]
          unfold endL
          have a0 : (flat ([] : List (List UInt8))).length = 0 := rfl
          split
          · simp
          · simp at hul; omega
        refine Or.inr ⟨undL (splitL 47 t) [], q.1, has, hL, sq, ?_, startP _ ?_⟩
        · unfold pathL
          cases has
          · simp; omega
          · simp; omega
        · rw [c3.1, c3.2, ht]
          refine Ev.neg (by simp) (Ev.neg (by simp) (Ev.bind hu ?_))
          unfold path_end pathL
          cases has
          · refine Ev.pos rfl (Ev.some' ?_)
            simp
          · refine Ev.neg (by simp) (Ev.pos (by rw [bOf_size, bOf_size]; omega) (Ev.some' ?_))
            rw [show (⟨#[63]⟩ : ByteArray) = bOf [63] from rfl, bOf_append, bOf_append]
            rfl
      · refine Or.inl (startP _ ?_)
        cases h1 : p.2
        · exact Ev.pos rfl (Ev.some' rfl)
        · cases h2 : q.2
          · exact Ev.neg (by simp) (Ev.pos rfl (Ev.some' rfl))
          · exact absurd ⟨h1, h2⟩ c3
    · have hpre : Lib.hasPrefix (bOf (x :: s)).data.toList [47] = false := by rw [data_bOf]; simpa [Lib.hasPrefix, List.isPrefixOf] using fun e => cx e.symm
      refine Or.inl ?_
      unfold target_Path.f
      exact Ev.neg (by rw [hsz]; simp <;> omega) (Ev.pos hpre (Ev.some' rfl))
/-- A plain path is made plain again: it stays. -/
theorem path_again (L : List (List UInt8)) (q : List UInt8) (has : Bool) (hL : ∀ x ∈ L, Plain x) (hq : Stays que q) (hlen : (pathL L q has).length ≤ 3000) : Ev (fun k => target_Path.f k (bOf (pathL L q has))) (bOf (pathL L q has), (0 : Int)) := by
  have hPl := parts_plain L hL
  obtain ⟨t, ht, hst⟩ := split_flat_eq (parts L) (parts_ne L) (fun x hx => (hPl x hx).1)
  have su : Stays del (flat (parts L)) := stays_flat _ (fun x hx => (hPl x hx).2.2.2)
  have hund : parts (undL (splitL 47 t) []) = parts L := by
    rw [hst, undL_same (parts L) [] hPl, List.nil_append, parts_of (parts_ne L)]
  have hsz : (bOf (pathL L q has)).size = (pathL L q has).length := bOf_size _
  have h47 : ∃ z, pathL L q has = 47 :: z := by unfold pathL; rw [ht]; exact ⟨_, rfl⟩
  have hpre : Lib.hasPrefix (bOf (pathL L q has)).data.toList [47] = true := by
    obtain ⟨z, hz⟩ := h47
    rw [data_bOf, hz]; simp [Lib.hasPrefix, List.isPrefixOf]
  have hcut : cutAt 63 (pathL L q has) = (flat (parts L), (if has = true then q else []), has) := by
    unfold pathL
    cases has
    · rw [if_neg (by simp), if_neg (by simp), List.append_nil]
      have key : ∀ l : List UInt8, (∀ c ∈ l, c ≠ 63) → cutAt 63 l = (l, [], false) := by
        intro l
        induction l with
        | nil => intro _; rfl
        | cons c l ih => intro h; rw [cutAt, if_neg (h c List.mem_cons_self), ih (fun y hy => h y (List.mem_cons_of_mem _ hy))]
      exact key _ (stays_no63 su)
    · rw [if_pos rfl, if_pos rfl]
      have key : ∀ (a b : List UInt8), (∀ x ∈ a, x ≠ 63) → cutAt 63 (a ++ 63 :: b) = (a, b, true) := by
        intro a b
        induction a with
        | nil => intro _; rw [List.nil_append, cutAt, if_pos rfl]
        | cons c a ih => intro h; rw [List.cons_append, cutAt, if_neg (h c List.mem_cons_self), ih (fun y hy => h y (List.mem_cons_of_mem _ hy))]
      exact key _ _ (stays_no63 su)
  have hC := prog_Cut 63 (pathL L q has) (by omega)
  rw [hcut] at hC
  have hfl : (flat (parts L)).length ≤ 3000 := by unfold pathL at hlen; rw [List.length_append] at hlen; omega
  have hql : (if has = true then q else []).length ≤ 3000 := by
    unfold pathL at hlen
    cases has
    · simp
    · simp at hlen ⊢; omega
  have sq : Stays que (if has = true then q else []) := by cases has; exact .nil; exact hq
  have hp1 : path_decoded delT (bOf (flat (parts L))) = some (bOf (flat (parts L)), true) := by
    unfold path_decoded
    rw [bOf_size, if_pos (by omega)]
    exact stays_dec su _ [] (Nat.lt_succ_self _)
  have hq1 : path_decoded queT (bOf (if has = true then q else [])) = some (bOf (if has = true then q else []), true) := by
    unfold path_decoded
    rw [bOf_size, if_pos (by omega)]
    exact stays_dec sq _ [] (Nat.lt_succ_self _)
  have hu := prog_undotted t (by rw [ht] at hfl; simp at hfl; omega)
  rw [hund, ← ht] at hu
  unfold target_Path.f
  refine Ev.neg (by rw [hsz]; omega) (Ev.neg (by rw [hpre]; simp) (Ev.sbind hC (Ev.sbind hp1 (Ev.sbind hq1 ?_))))
  refine Ev.neg (by simp) (Ev.neg (by simp) (Ev.bind hu ?_))
  unfold path_end pathL
  cases has
  · refine Ev.pos rfl (Ev.some' ?_)
    simp
  · refine Ev.neg (by simp) (Ev.pos (by rw [bOf_size, bOf_size]; simp at hql ⊢; omega) (Ev.some' ?_))
    rw [show (⟨#[63]⟩ : ByteArray) = bOf [63] from rfl, bOf_append, bOf_append]
    rfl
end Go.Proofs.YtghaocjhmambaaaDoor.Pu

/- The statement TargetPlain, without the program in sight. -/
namespace Go.Proofs.YtghaocjhmambaaaDoor.Pu
open Go.RowKit Go.Proofs.YtghaocjhmambaaaDoorW.PrintWords Go.Proofs.YtghaocjhmambaaaDoorW.PrintLast Go.Proofs.YtghaocjhmambaaaDoor.PR
set_option linter.unusedVariables false
set_option linter.unusedSimpArgs false

def Fair (l : List UInt8) : Prop := ∀ q ∈ splitL 47 l, q ≠ dot ∧ q ≠ dotdot
theorem fair_one {a : List UInt8} (ha : NoS a) (h : Fair a) : a ≠ dot ∧ a ≠ dotdot := h a (by rw [split_none a ha]; exact List.mem_cons_self)
theorem fair_cons {a l : List UInt8} (ha : NoS a) (h : Fair (a ++ 47 :: l)) : (a ≠ dot ∧ a ≠ dotdot) ∧ Fair l := by
  unfold Fair at h
  rw [split_app a l ha] at h
  exact ⟨h a List.mem_cons_self, fun q hq => h q (List.mem_cons_of_mem _ hq)⟩
/-- What the statement's loop does at a part's end. -/
theorem pl_end (P part : List UInt8) (i : Int) (z : Nat → Option Bool) (hp : part ≠ dot ∧ part ≠ dotdot) (hz : Ev (fun k => depotlaw08_TargetPlain.j3 k (bOf P) i false) true) : Ev (fun k => depotlaw08_TargetPlain.j2 k (bOf P) (bOf part) i true) true := by
  refine Ev.step (fun k => by rw [depotlaw08_TargetPlain.j2]) ?_
  rw [toList_bOf]
  refine Ev.pos rfl (Ev.neg hp.1 ?_)
  rw [show (part == ([46, 46] : List UInt8)) = false by simpa [dotdot] using hp.2]
  exact hz
theorem pl_scan (P tail : List UInt8) (hP : P.length ≤ 5000) (ht : tail = [] ∨ ∃ q, tail = 63 :: q) (n : Nat) : ∀ (done r part : List UInt8), r.length = n → P = done ++ (r ++ tail) → (∀ x ∈ r, x ≠ 63) → NoS part → part.length ≤ done.length → Fair (part ++ r) →
    Ev (fun k => depotlaw08_TargetPlain.l0 k (bOf P) (bOf part) (done.length : Int)) true := by
  induction n with
  | zero =>
    intro done r part hn hl h63 hno hpl hf
    have : r = [] := List.eq_nil_of_length_eq_zero hn
    subst this
    rw [List.append_nil] at hf
    rw [List.nil_append] at hl
    have hpd := fair_one hno hf
    refine Ev.step (fun k => by rw [depotlaw08_TargetPlain.l0]) ?_
    rcases ht with rfl | ⟨q, rfl⟩
    · rw [List.append_nil] at hl
      subst hl
      refine Ev.pos (by rw [bOf_size]; omega) (Ev.pos (by rw [bOf_size]) (pl_end P part _ (fun _ => none) hpd ?_))
      refine Ev.step (fun k => by rw [depotlaw08_TargetPlain.j3]) ?_
      exact Ev.neg (by simp) (Ev.pos (by rw [bOf_size]) plains_end)
    · have hlen : P.length = done.length + (q.length + 1) := by rw [hl]; simp
      have hb : bt (bOf P) (done.length : Int) = 63 := by rw [hl]; exact bt_at_cut done 63 q
      refine Ev.pos (by rw [bOf_size]; omega) (Ev.neg (by rw [bOf_size]; omega) (Ev.pos (by omega) (Ev.pos (by rw [bOf_size]; omega) ?_)))
      rw [hb]
      refine Ev.neg (by decide) ?_
      rw [show ((63 : Int) == 63) = true from rfl]
      refine pl_end P part _ (fun _ => none) hpd ?_
      refine Ev.step (fun k => by rw [depotlaw08_TargetPlain.j3]) ?_
      exact Ev.neg (by simp) (Ev.neg (by rw [bOf_size]; omega) (Ev.pos (by omega) (Ev.pos (by rw [bOf_size]; omega) (Ev.pos hb plains_end))))
  | succ n ih =>
    intro done r part hn hl h63 hno hpl hf
    obtain ⟨x, r, rfl⟩ : ∃ x t, r = x :: t := by
      cases r with
      | nil => simp at hn
      | cons x t => exact ⟨x, t, rfl⟩
    have hlen : P.length = done.length + (r.length + 1 + tail.length) := by rw [hl]; simp; omega
    have hb : bt (bOf P) (done.length : Int) = (x.toNat : Int) := by rw [hl, List.cons_append]; exact bt_at_cut done x (r ++ tail)
    have HW : Hid (wrap64 ((done.length : Int) + 1) = (((done ++ [x]).length : Nat) : Int)) := Lib.hid (by rw [wrap_id (by omega) (by omega)]; simp)
    have hx63 : ¬ (x.toNat : Int) = 63 := fun e => h63 x List.mem_cons_self ((u8_eq (by decide)).1 e)
    have next := fun part' h1 h2 h3 => ih (done ++ [x]) r part' (by simpa using hn) (by rw [hl]; simp) (fun y hy => h63 y (List.mem_cons_of_mem _ hy)) h1 h2 h3
    refine Ev.step (fun k => by rw [depotlaw08_TargetPlain.l0]) ?_
    refine Ev.pos (by rw [bOf_size]; omega) (Ev.neg (by rw [bOf_size]; omega) (Ev.pos (by omega) (Ev.pos (by rw [bOf_size]; omega) ?_)))
    rw [hb]
    by_cases c1 : x = 47
    · subst c1
      obtain ⟨hpd, hf2⟩ := fair_cons hno hf
      refine Ev.pos rfl (pl_end P part _ (fun _ => none) hpd ?_)
      refine Ev.step (fun k => by rw [depotlaw08_TargetPlain.j3]) ?_
      refine Ev.neg (by simp) (Ev.neg (by rw [bOf_size]; omega) (Ev.pos (by omega) (Ev.pos (by rw [bOf_size]; omega) ?_)))
      rw [hb, HW.out]
      exact Ev.neg hx63 (next [] (fun y hy => by cases hy) (by simp) hf2)
    · have hx47 : ¬ (x.toNat : Int) = 47 := fun e => c1 ((u8_eq (by decide)).1 e)
      refine Ev.neg hx47 ?_
      rw [show ((x.toNat : Int) == 63) = false by simpa using hx63]
      refine Ev.step (fun k => by rw [depotlaw08_TargetPlain.j2]) ?_
      have hcut : (bOf P).extract ((done.length : Int)).toNat (((done ++ [x]).length : Nat) : Int).toNat = bOf [x] := by
        rw [Int.toNat_natCast, Int.toNat_natCast, bOf_extract, hl, show done ++ (x :: r ++ tail) = (done ++ [x]) ++ (r ++ tail) by simp, List.take_left, List.drop_left]
      rw [HW.out, hcut]
      refine Ev.neg (by simp) (Ev.pos (by omega) (Ev.pos (by simp; omega) (Ev.pos (by rw [bOf_size]; simp; omega) (Ev.pos (by rw [bOf_size, bOf_size]; simp; omega) ?_))))
      rw [bOf_append]
      refine next (part ++ [x]) ?_ (by simp; omega) (by rw [List.append_assoc]; exact hf)
      intro y hy
      rcases List.mem_append.1 hy with hy | hy
      · exact hno y hy
      · simp at hy; subst hy; exact c1
theorem fair_parts (L : List (List UInt8)) (hne : L ≠ []) (h : ∀ q ∈ L, Plain q) : Fair (flat L) := by
  obtain ⟨t, ht, hst⟩ := split_flat_eq L hne (fun q hq => (h q hq).1)
  unfold Fair
  rw [ht, splitL, if_pos rfl, hst]
  intro q hq
  rcases List.mem_cons.1 hq with rfl | hq
  · exact ⟨by decide, by decide⟩
  · exact ⟨(h q hq).2.1, (h q hq).2.2.1⟩
theorem plain_law (s : ByteArray) : ∃ k, depotlaw08_TargetPlain.f k s = some true := by
  refine Ev.rounds ?_
  obtain ⟨l, rfl, hl⟩ := ex_bOf s
  unfold depotlaw08_TargetPlain.f
  refine Ev.ite (fun _ => plains_end) (fun h1 => ?_)
  rw [bOf_size] at h1
  rcases path_prog l (by omega) with hr | ⟨L, q, has, hL, hq, hlen, hr⟩
  · refine Ev.bind hr (Ev.neg (by decide) (Ev.pos (toList_bOf _) (Ev.pos rfl plains_end)))
  · have ha := path_again L q has hL hq hlen
    have hPl := parts_plain L hL
    obtain ⟨t, ht, _⟩ := split_flat_eq (parts L) (parts_ne L) (fun x hx => (hPl x hx).1)
    have hP : pathL L q has = [] ++ (flat (parts L) ++ if has = true then 63 :: q else []) := rfl
    have h47 : ∃ z, pathL L q has = 47 :: z := by unfold pathL; rw [ht]; exact ⟨_, rfl⟩
    have htail : (if has = true then 63 :: q else []) = ([] : List UInt8) ∨ ∃ q', (if has = true then 63 :: q else []) = 63 :: q' := by
      cases has
      · exact Or.inl rfl
      · exact Or.inr ⟨q, rfl⟩
    have hsc := pl_scan (pathL L q has) _ (by omega) htail _ [] (flat (parts L)) [] rfl hP (stays_no63 (stays_flat _ (fun x hx => (hPl x hx).2.2.2))) (fun y hy => by cases hy) (Nat.le_refl _) (fair_parts _ (parts_ne L) hPl)
    obtain ⟨z, hz⟩ := h47
    rw [hz] at ha hsc hr
    have hsz : (bOf (47 :: z)).size = z.length + 1 := by rw [bOf_size]; rfl
    have hb : bt (bOf (47 :: z)) 0 = 47 := rfl
    refine Ev.bind hr (Ev.pos rfl (Ev.bind ha (Ev.pos rfl (Ev.pos rfl (Ev.neg (by rw [hsz]; omega) (Ev.pos (by rw [hsz]; omega) ?_))))))
    rw [hb, show ((47 : Int) != 47) = false from rfl]
    refine Ev.step (fun k => by rw [depotlaw08_TargetPlain.j0]) ?_
    exact Ev.neg (by simp) hsc
end Go.Proofs.YtghaocjhmambaaaDoor.Pu

/- Targets with a scheme, hosts that were read: what Parse makes of them. -/
namespace Go.Proofs.YtghaocjhmambaaaDoor.Pu
open Go.RowKit Go.Proofs.YtghaocjhmambaaaDoorW.PrintWords Go.Proofs.YtghaocjhmambaaaDoorW.PrintLast Go.Proofs.YtghaocjhmambaaaDoor.PR
set_option linter.unusedVariables false
set_option linter.unusedSimpArgs false

/-! ### the first '/' or '?' -/
def cut2 : List UInt8 → List UInt8 × List UInt8
  | [] => ([], [])
  | x :: l => if x = 47 ∨ x = 63 then ([], x :: l) else (x :: (cut2 l).1, (cut2 l).2)
theorem cut2_app : ∀ l, l = (cut2 l).1 ++ (cut2 l).2
  | [] => rfl
  | x :: l => by
    unfold cut2
    split
    · rfl
    · show x :: l = x :: ((cut2 l).1 ++ (cut2 l).2)
      rw [← cut2_app l]
theorem cut2_head : ∀ l, (cut2 l).2 = [] ∨ ∃ t, (cut2 l).2 = 47 :: t ∨ (cut2 l).2 = 63 :: t
  | [] => Or.inl rfl
  | x :: l => by
    unfold cut2
    split
    case isTrue h => rcases h with rfl | rfl
                     · exact Or.inr ⟨l, Or.inl rfl⟩
                     · exact Or.inr ⟨l, Or.inr rfl⟩
    · exact cut2_head l
theorem cut2_none : ∀ (a : List UInt8) (t : List UInt8), (∀ x ∈ a, x ≠ 47 ∧ x ≠ 63) → cut2 (a ++ 47 :: t) = (a, 47 :: t)
  | [], t, _ => by rw [List.nil_append, cut2, if_pos (Or.inl rfl)]
  | x :: a, t, h => by
    have h1 := h x List.mem_cons_self
    rw [List.cons_append, cut2, if_neg (fun e => e.elim h1.1 h1.2), cut2_none a t fun y hy => h y (List.mem_cons_of_mem _ hy)]
theorem cut2_index : ∀ l, Lib.indexAny l [47, 63] = if (cut2 l).2 = [] then -1 else ((cut2 l).1.length : Int)
  | [] => rfl
  | x :: l => by
    have ih := cut2_index l
    rw [Lib.indexAny, cut2]
    by_cases h : x = 47 ∨ x = 63
    · rw [if_pos h]
      have : ([47, 63] : List UInt8).contains x = true := by rcases h with rfl | rfl <;> rfl
      rw [if_pos this]
      rfl
    · rw [if_neg h]
      have : ¬ ([47, 63] : List UInt8).contains x = true := fun e => h (by simpa using e)
      rw [if_neg this, ih]
      by_cases e : (cut2 l).2 = []
      · rw [if_pos e, if_pos e]; rfl
      · rw [if_neg e, if_neg e]
        rw [if_neg (by simp <;> omega)]
        simp
/-! ### a target with a scheme -/
def slashed (t : List UInt8) : List UInt8 := match t with | [] => [47] | x :: t => if x = 63 then 47 :: 63 :: t else x :: t
def absL (l : List UInt8) : List UInt8 × List UInt8 × Bool :=
  if l.length < 7 ∨ Hand.lowerD (l.take 7) ≠ httpT then ([], [], false) else ((cut2 (l.drop 7)).1, slashed (cut2 (l.drop 7)).2, true)
theorem lowerS_b (l : List UInt8) : Hand.lowerS (bOf l) = bOf (Hand.lowerD l) := rfl
theorem abs_true (l : List UInt8) : Ev (fun k => target_absolute.j0 k (bOf l) true) (bOf [], bOf [], false) := by
  refine Ev.step (fun k => by rw [target_absolute.j0]) ?_
  exact Ev.pos rfl (Ev.some' rfl)
theorem abs_false (l : List UInt8) (h7 : 7 ≤ l.length) (hl : l.length ≤ 100000) : Ev (fun k => target_absolute.j0 k (bOf l) false) (bOf (cut2 (l.drop 7)).1, bOf (slashed (cut2 (l.drop 7)).2), true) := by
  refine Ev.step (fun k => by rw [target_absolute.j0]) ?_
  have he : (bOf l).extract 7 (bOf l).size = bOf (l.drop 7) := by rw [bOf_extract, bOf_size, List.take_length]
  refine Ev.neg (by simp) (Ev.pos (by rw [bOf_size]; omega) ?_)
  rw [he]
  have hlen : (l.drop 7).length ≤ 100000 := by rw [List.length_drop]; omega
  generalize l.drop 7 = r at hlen ⊢
  have hi : strings_IndexAny.f (bOf r) ⟨#[47, 63]⟩ = some (if (cut2 r).2 = [] then -1 else ((cut2 r).1.length : Int)) := by
    unfold strings_IndexAny.f
    rw [if_pos ⟨by rw [bOf_size]; omega, rfl⟩, data_bOf, cut2_index]
  have ha := cut2_app r
  rcases cut2_head r with h2 | ⟨t, h2⟩
  · rw [h2, if_pos rfl] at hi
    refine Ev.sbind hi (Ev.pos (by decide) (Ev.some' ?_))
    rw [h2, List.append_nil] at ha
    rw [h2, ← ha]
    rfl
  · obtain ⟨x, hx, h2⟩ : ∃ x : UInt8, (x = 47 ∨ x = 63) ∧ (cut2 r).2 = x :: t := by
      rcases h2 with h2 | h2
      · exact ⟨47, Or.inl rfl, h2⟩
      · exact ⟨63, Or.inr rfl, h2⟩
    rw [h2] at hi ha
    rw [if_neg (by simp)] at hi
    rw [h2]
    generalize (cut2 r).1 = a at hi ha ⊢
    subst ha
    have hsz : (bOf (a ++ x :: t)).size = a.length + (t.length + 1) := by rw [bOf_size]; simp
    have hlen' : a.length + (t.length + 1) ≤ 100000 := by simpa using hlen
    have e0 : (bOf (a ++ x :: t)).extract 0 (a.length : Int).toNat = bOf a := by rw [bOf_extract]; simp
    have e1 : (bOf (a ++ x :: t)).extract (a.length : Int).toNat (bOf (a ++ x :: t)).size = bOf (x :: t) := by rw [Int.toNat_natCast]; exact ext_tail a (x :: t) a.length rfl
    have eb := bt_at_cut a x t
    refine Ev.sbind hi (Ev.neg (by omega) (Ev.pos (by omega) (Ev.pos (by rw [hsz]; omega) ?_)))
    rw [eb, e0, e1]
    rcases hx with rfl | rfl
    · exact Ev.neg (by decide) (Ev.pos (by rw [hsz]; omega) (Ev.some' rfl))
    · exact Ev.pos (by decide) (Ev.pos (by rw [hsz]; omega) (Ev.pos (by rw [bOf_size, List.length_cons]; omega) (Ev.some' rfl)))
theorem prog_absolute (l : List UInt8) (hl : l.length ≤ 100000) : Ev (fun k => target_absolute.f k (bOf l)) (bOf (absL l).1, bOf (absL l).2.1, (absL l).2.2) := by
  unfold target_absolute.f absL
  by_cases h7 : l.length < 7
  · rw [if_pos (Or.inl h7)]
    exact Ev.pos (by rw [bOf_size]; omega) (abs_true l)
  · refine Ev.neg (by rw [bOf_size]; omega) (Ev.pos (by decide) (Ev.pos (by rw [bOf_size]; omega) ?_))
    have he : (bOf l).extract 0 7 = bOf (l.take 7) := by rw [bOf_extract, List.drop_zero]
    have hlo : octet_Lower.f ((bOf l).extract 0 7) = some (bOf (Hand.lowerD (l.take 7))) := by
      rw [he]; unfold octet_Lower.f; rw [if_pos (by rw [bOf_size, List.length_take]; omega)]; rfl
    refine Ev.sbind hlo ?_
    rw [toList_bOf]
    by_cases hh : Hand.lowerD (l.take 7) = httpT
    · rw [if_neg (fun e => e.elim h7 (fun e => e hh))]
      rw [hh, show (httpT != ([104, 116, 116, 112, 58, 47, 47] : List UInt8)) = false from rfl]
      exact abs_false l (by omega) hl
    · rw [if_pos (Or.inr hh)]
      rw [show (Hand.lowerD (l.take 7) != ([104, 116, 116, 112, 58, 47, 47] : List UInt8)) = true by simpa [httpT] using hh]
      exact abs_true l
/-! ### hosts that were read -/
theorem host_byte : ∀ c : Fin 256, Hand.ofB hostT ((c : Nat) : Int) = true → Hand.ofB hostT (Hand.lowerC ((c : Nat) : Int)) = true ∧ Hand.lowerC (Hand.lowerC ((c : Nat) : Int)) = Hand.lowerC ((c : Nat) : Int) ∧ (0 ≤ Hand.lowerC ((c : Nat) : Int) ∧ Hand.lowerC ((c : Nat) : Int) ≤ 255) ∧ Hand.lowerC ((c : Nat) : Int) ≠ 58 ∧ Hand.lowerC ((c : Nat) : Int) ≠ 47 ∧ Hand.lowerC ((c : Nat) : Int) ≠ 63 := by decide +kernel
structure Host (H : List UInt8) : Prop where
  ne : H ≠ []
  len : H.length ≤ 253
  kind : hostU H = true
  low : Hand.lowerD H = H
  no : ∀ x ∈ H, x ≠ 58 ∧ x ≠ 47 ∧ x ≠ 63
theorem lower_len (l : List UInt8) : (Hand.lowerD l).length = l.length := by simp [Hand.lowerD]
theorem host_low (l : List UInt8) (h1 : l ≠ []) (h2 : ¬ 253 < l.length) (h3 : ¬ hostU l = false) : Host (Hand.lowerD l) := by
  have hk : ∀ x ∈ l, Hand.ofB hostT (x.toNat : Int) = true := fun x hx => List.all_eq_true.1 (show hostU l = true by simpa using h3) x hx
  have hb : ∀ x ∈ l, _ := fun x hx => host_byte ⟨x.toNat, x.toNat_lt⟩ (hk x hx)
  have hm : ∀ y ∈ Hand.lowerD l, ∃ x ∈ l, (y.toNat : Int) = Hand.lowerC (x.toNat : Int) := by
    intro y hy
    obtain ⟨x, hx, rfl⟩ := List.mem_map.1 hy
    exact ⟨x, hx, Hand.u8_back _ (hb x hx).2.2.1⟩
  refine ⟨fun e => h1 (List.map_eq_nil_iff.1 e), by rw [lower_len]; omega, ?_, ?_, ?_⟩
  · refine List.all_eq_true.2 fun y hy => ?_
    obtain ⟨x, hx, e⟩ := hm y hy
    rw [e]
    exact (hb x hx).1
  · show (Hand.lowerD l).map _ = Hand.lowerD l
    refine (List.map_congr_left (g := id) fun y hy => ?_).trans (List.map_id _)
    obtain ⟨x, hx, e⟩ := hm y hy
    rw [e]
    have e2 : Hand.lowerC (Hand.lowerC (x.toNat : Int)) = Hand.lowerC (x.toNat : Int) := (hb x hx).2.1
    rw [e2, ← e]
    show u8 (y.toNat : Int) = y
    exact u8_of y
  · intro y hy
    obtain ⟨x, hx, e⟩ := hm y hy
    have hbx := (hb x hx).2.2.2
    refine ⟨?_, ?_, ?_⟩
    · rintro rfl; exact hbx.1 e.symm
    · rintro rfl; exact hbx.2.1 e.symm
    · rintro rfl; exact hbx.2.2 e.symm
theorem readP_hi (s : ByteArray) (most : Int) (hm : 0 ≤ most) : (readP s 10 18 most).1 ≤ most := by
  unfold readP
  split
  · exact hm
  · split
    · exact hm
    case isFalse hl =>
      cases h : readGo s 10 s.size 0 0 with
      | none => exact hm
      | some v =>
        show (if most < v then ((0 : Int), (3 : Int)) else (v, 0)).1 ≤ most
        split
        · exact hm
        · show v ≤ most; omega
theorem auth_cases (l : List UInt8) : authL l = (bOf [], 0, 26) ∨ ∃ (H : List UInt8) (p : Int), authL l = (bOf H, p, 0) ∧ Host H ∧ 1 ≤ p ∧ p ≤ 65535 := by
  unfold authL
  generalize (cutAt 58 l).1 = host
  generalize (cutAt 58 l).2.1 = rest
  by_cases h1 : host = []
  · rw [if_pos h1]; exact Or.inl rfl
  · rw [if_neg h1]
    by_cases h2 : 253 < host.length
    · rw [if_pos h2]; exact Or.inl rfl
    · rw [if_neg h2]
      by_cases h3 : hostU host = false
      · rw [if_pos h3]; exact Or.inl rfl
      · rw [if_neg h3]
        have hH := host_low host h1 h2 h3
        unfold authE
        by_cases h4 : rest = []
        · rw [if_pos h4]
          exact Or.inr ⟨Hand.lowerD host, 80, rfl, hH, by decide, by decide⟩
        · rw [if_neg h4]
          have hlo := readP_lo (bOf rest) 65535
          have hhi := readP_hi (bOf rest) 65535 (by decide)
          unfold auth_end
          by_cases e1 : (readP (bOf rest) 10 18 65535).2 = 0
          · rw [if_neg (not_not_intro e1)]
            by_cases e2 : (readP (bOf rest) 10 18 65535).1 = 0
            · rw [if_pos e2]; exact Or.inl rfl
            · rw [if_neg e2]
              split
              · exact Or.inl rfl
              · exact Or.inr ⟨Hand.lowerD host, _, rfl, hH, by omega, hhi⟩
          · rw [if_pos e1]; exact Or.inl rfl
theorem cut58 : ∀ (H : List UInt8) (t : List UInt8), (∀ x ∈ H, x ≠ 58) → cutAt 58 (H ++ 58 :: t) = (H, t, true)
  | [], t, _ => by rw [List.nil_append, cutAt, if_pos rfl]
  | x :: H, t, h => by
    rw [List.cons_append, cutAt, if_neg (h x List.mem_cons_self), cut58 H t fun y hy => h y (List.mem_cons_of_mem _ hy)]
theorem cut58n : ∀ (H : List UInt8), (∀ x ∈ H, x ≠ 58) → cutAt 58 H = (H, [], false)
  | [], _ => rfl
  | x :: H, h => by
    rw [cutAt, if_neg (h x List.mem_cons_self), cut58n H fun y hy => h y (List.mem_cons_of_mem _ hy)]
theorem plain_pos (p : Int) (h : 1 ≤ p ∧ p ≤ 65535) : plain p = digs 10 p.toNat := by unfold plain; rw [if_neg (by omega)]
theorem auth_host (H : List UInt8) (hH : Host H) : authL H = (bOf H, 80, 0) := by
  unfold authL
  rw [cut58n H fun x hx => (hH.no x hx).1]
  rw [if_neg hH.ne, if_neg (by have := hH.len; show ¬ 253 < H.length; omega), if_neg (by show ¬ hostU H = false; rw [hH.kind]; simp)]
  show authE H [] = _
  unfold authE
  rw [if_pos rfl, lowerS_b, hH.low]
theorem auth_port (H : List UInt8) (hH : Host H) (p : Int) (hp : 1 ≤ p ∧ p ≤ 65535) : authL (H ++ 58 :: plain p) = (bOf H, p, 0) := by
  unfold authL
  rw [cut58 H _ fun x hx => (hH.no x hx).1]
  rw [if_neg hH.ne, if_neg (by have := hH.len; show ¬ 253 < H.length; omega), if_neg (by show ¬ hostU H = false; rw [hH.kind]; simp)]
  show authE H (plain p) = _
  have hd := digs_pos 10 p.toNat (by decide)
  have hl := digs_len 10 (by decide) 5 p.toNat (by omega)
  have hb := ten_back p.toNat 65535 (by omega) (by omega)
  unfold authE
  rw [plain_pos p hp, if_neg (fun e => by rw [e] at hd; simp at hd), hb]
  unfold auth_end
  rw [if_neg (by simp), if_neg (by show ¬ (p.toNat : Int) = 0; omega), if_neg (by rw [bOf_size]; omega), lowerS_b, hH.low]
  rw [Int.toNat_of_nonneg (by omega)]
/-! ### Parse -/
theorem prefix_no (t : List UInt8) (h : ∀ z, t ≠ 47 :: z) : strings_HasPrefix.f (bOf t) ⟨#[47]⟩ = some false := by
  unfold strings_HasPrefix.f stringslite_HasPrefix.f
  have e1 : (⟨#[47]⟩ : ByteArray).size = 1 := rfl
  rw [e1, bOf_size]
  cases t with
  | nil => rfl
  | cons x t =>
    have hx : x ≠ 47 := fun e => h t (by rw [e])
    rw [if_pos (by rw [List.length_cons]; omega), if_pos (by decide), if_pos (by rw [List.length_cons]; omega), Option.bind_some, bOf_extract, toList_bOf]
    have e2 : (((x :: t).take ((1 : Nat) : Int).toNat).drop 0 == (⟨#[47]⟩ : ByteArray).toList) = false := by
      rw [show (⟨#[47]⟩ : ByteArray).toList = [47] from toList_bOf [47]]
      simpa using hx
    rw [e2]
theorem prefix_yes (t : List UInt8) : strings_HasPrefix.f (bOf (47 :: t)) ⟨#[47]⟩ = some true := by
  unfold strings_HasPrefix.f stringslite_HasPrefix.f
  have e1 : (⟨#[47]⟩ : ByteArray).size = 1 := rfl
  rw [e1, bOf_size, if_pos (by rw [List.length_cons]; omega), if_pos (by decide), if_pos (by rw [List.length_cons]; omega), Option.bind_some, bOf_extract, toList_bOf]
  have e2 : (((47 :: t).take ((1 : Nat) : Int).toNat).drop 0 == (⟨#[47]⟩ : ByteArray).toList) = true := by
    rw [show (⟨#[47]⟩ : ByteArray).toList = [47] from toList_bOf [47]]
    rfl
  rw [e2]
theorem parse_no (t h : List UInt8) (ht : ∀ z, t ≠ 47 :: z) : Ev (fun k => target_Parse.j0 k (bOf t) (bOf h)) (bOf [], 0, bOf [], 23) := by
  refine Ev.step (fun k => by rw [target_Parse.j0]) ?_
  exact Ev.sbind (prefix_no t ht) (Ev.neg (by simp) (Ev.some' rfl))
theorem parse_host (t h : List UInt8) (hh : h.length ≤ 100000) (ha : authL h = (bOf [], 0, 26)) : Ev (fun k => target_Parse.j0 k (bOf (47 :: t)) (bOf h)) (bOf [], 0, bOf [], 26) := by
  refine Ev.step (fun k => by rw [target_Parse.j0]) ?_
  exact Ev.sbind (prefix_yes t) (Ev.pos rfl (Ev.sbind ((prog_Authority h hh).trans (by rw [ha])) (Ev.neg (by simp) (Ev.some' rfl))))
theorem parse_path (t h H : List UInt8) (p : Int) (hh : h.length ≤ 100000) (ha : authL h = (bOf H, p, 0)) (r : List UInt8) (e : Int) (hr : Ev (fun k => target_Path.f k (bOf (47 :: t))) (bOf r, e)) :
    Ev (fun k => target_Parse.j0 k (bOf (47 :: t)) (bOf h)) (if e = 0 then (bOf H, p, bOf r, 0) else (bOf [], 0, bOf [], e)) := by
  refine Ev.step (fun k => by rw [target_Parse.j0]) ?_
  refine Ev.sbind (prefix_yes t) (Ev.pos rfl (Ev.sbind ((prog_Authority h hh).trans (by rw [ha])) (Ev.pos rfl (Ev.bind hr ?_))))
  by_cases he : e = 0
  · rw [if_pos he, if_pos he]; exact Ev.some' rfl
  · rw [if_neg he, if_neg he]; exact Ev.some' rfl
theorem parse_abs (s h : List UInt8) (hs : s.length ≤ 100000) (ha : (absL s).2.2 = true) (z : ByteArray × Int × ByteArray × Int) (hz : Ev (fun k => target_Parse.j0 k (bOf (absL s).2.1) (bOf (absL s).1)) z) : Ev (fun k => target_Parse.f k (bOf s) (bOf h)) z := by
  unfold target_Parse.f
  exact Ev.bind (prog_absolute s hs) (Ev.pos ha hz)
theorem parse_rel (s h : List UInt8) (hs : s.length ≤ 100000) (ha : (absL s).2.2 = false) (z : ByteArray × Int × ByteArray × Int) (hz : Ev (fun k => target_Parse.j0 k (bOf s) (bOf h)) z) : Ev (fun k => target_Parse.f k (bOf s) (bOf h)) z := by
  unfold target_Parse.f
  exact Ev.bind (prog_absolute s hs) (Ev.neg (by rw [ha]; simp) hz)
end Go.Proofs.YtghaocjhmambaaaDoor.Pu

/- The statement TargetAgain, without the program in sight. -/
namespace Go.Proofs.YtghaocjhmambaaaDoor.Pu
open Go.RowKit Go.Proofs.YtghaocjhmambaaaDoorW.PrintWords Go.Proofs.YtghaocjhmambaaaDoorW.PrintLast Go.Proofs.YtghaocjhmambaaaDoor.PR
set_option linter.unusedVariables false
set_option linter.unusedSimpArgs false

theorem cut2_le : ∀ l, (cut2 l).1.length ≤ l.length ∧ (cut2 l).2.length ≤ l.length := by
  intro l
  have h := congrArg List.length (cut2_app l)
  rw [List.length_append] at h
  omega
theorem slashed_le (t : List UInt8) : (slashed t).length ≤ t.length + 1 := by
  unfold slashed
  split
  · simp
  · split <;> simp
theorem absL_le (s : List UInt8) : (absL s).1.length ≤ s.length ∧ ((absL s).2.2 = true → (absL s).2.1.length ≤ s.length) := by
  unfold absL
  split
  · exact ⟨by simp, fun h => by cases h⟩
  case isFalse h =>
    have h1 := cut2_le (s.drop 7)
    have h2 := slashed_le (cut2 (s.drop 7)).2
    rw [List.length_drop] at h1
    exact ⟨by show (cut2 _).1.length ≤ _; omega, fun _ => by show (slashed _).length ≤ _; omega⟩
/-- A target that was read. -/
structure Tgt (H : List UInt8) (p : Int) (P : List UInt8) : Prop where
  host : Host H
  port : 1 ≤ p ∧ p ≤ 65535
  path : ∃ L q has, P = pathL L q has ∧ (∀ x ∈ L, Plain x) ∧ Stays que q ∧ (pathL L q has).length ≤ 3000
theorem Tgt.len {H : List UInt8} {p : Int} {P : List UInt8} (t : Tgt H p P) : P.length ≤ 3000 := by obtain ⟨L, q, has, rfl, _, _, h⟩ := t.path; exact h
theorem Tgt.slash {H : List UInt8} {p : Int} {P : List UInt8} (t : Tgt H p P) : ∃ z, P = 47 :: z := by
  obtain ⟨L, q, has, rfl, hL, _, h⟩ := t.path
  have hPl := parts_plain L hL
  obtain ⟨t, ht, _⟩ := split_flat_eq (parts L) (parts_ne L) (fun x hx => (hPl x hx).1)
  unfold pathL
  rw [ht]
  exact ⟨_, rfl⟩
theorem Tgt.again {H : List UInt8} {p : Int} {P : List UInt8} (t : Tgt H p P) : Ev (fun k => target_Path.f k (bOf P)) (bOf P, (0 : Int)) := by
  obtain ⟨L, q, has, rfl, hL, hq, h⟩ := t.path
  exact path_again L q has hL hq h
def Out (g : Nat → Option (ByteArray × Int × ByteArray × Int)) : Prop := (∃ e : Int, e ≠ 0 ∧ Ev g (bOf [], 0, bOf [], e)) ∨ ∃ H p P, Tgt H p P ∧ Ev g (bOf H, p, bOf P, 0)
theorem parse_j0 (t h : List UInt8) (ht : t.length ≤ 1000) (hh : h.length ≤ 1000) : Out (fun k => target_Parse.j0 k (bOf t) (bOf h)) := by
  by_cases c : ∃ z, t = 47 :: z
  · obtain ⟨z, rfl⟩ := c
    rcases auth_cases h with ha | ⟨H, p, ha, hH, hp⟩
    · exact Or.inl ⟨26, by decide, parse_host z h (by omega) ha⟩
    · rcases path_prog (47 :: z) ht with hr | ⟨L, q, has, hL, hq, hlen, hr⟩
      · exact Or.inl ⟨23, by decide, parse_path z h H p (by omega) ha [] 23 hr⟩
      · exact Or.inr ⟨H, p, pathL L q has, ⟨hH, hp, L, q, has, rfl, hL, hq, hlen⟩, parse_path z h H p (by omega) ha _ 0 hr⟩
  · exact Or.inl ⟨23, by decide, parse_no t h fun z e => c ⟨z, e⟩⟩
theorem Out.to {f g : Nat → Option (ByteArray × Int × ByteArray × Int)} (h : Out f) (k : ∀ z, Ev f z → Ev g z) : Out g := by
  rcases h with ⟨e, he, h⟩ | ⟨H, p, P, t, h⟩
  · exact Or.inl ⟨e, he, k _ h⟩
  · exact Or.inr ⟨H, p, P, t, k _ h⟩
theorem parse_out (s h : List UInt8) (hs : s.length ≤ 1000) (hh : h.length ≤ 1000) : Out (fun k => target_Parse.f k (bOf s) (bOf h)) := by
  have hl := absL_le s
  cases ha : (absL s).2.2
  · exact (parse_j0 s h hs hh).to fun z => parse_rel s h (by omega) ha z
  · exact (parse_j0 _ _ (Nat.le_trans (hl.2 ha) hs) (Nat.le_trans hl.1 hs)).to fun z => parse_abs s h (by omega) ha z
theorem dch_no : ∀ d : Fin 10, dch d ≠ 47 ∧ dch d ≠ 63 := by decide
theorem digs_no (n : Nat) : ∀ x ∈ digs 10 n, x ≠ 47 ∧ x ≠ 63 := by
  induction n using Nat.strongRecOn with
  | ind n ih =>
    intro x hx
    by_cases c : n < 10
    · rw [digs_small c] at hx
      simp at hx
      subst hx
      exact dch_no ⟨n, c⟩
    · rw [digs_big (by decide) c] at hx
      rcases List.mem_append.1 hx with hx | hx
      · exact ih (n / 10) (by omega) x hx
      · simp at hx
        subst hx
        exact dch_no ⟨n % 10, by omega⟩
theorem abs_text (X z : List UInt8) (hX : ∀ x ∈ X, x ≠ 47 ∧ x ≠ 63) : absL (httpT ++ (X ++ 47 :: z)) = (X, 47 :: z, true) := by
  unfold absL
  have h1 : (httpT ++ (X ++ 47 :: z)).take 7 = httpT := by rw [List.take_append_of_le_length (by decide)]; rfl
  have h2 : (httpT ++ (X ++ 47 :: z)).drop 7 = X ++ 47 :: z := by rw [List.drop_append_of_le_length (by decide)]; rfl
  rw [h1, h2, cut2_none X z hX, if_neg ?_]
  · rfl
  · rintro (h | h)
    · rw [List.length_append, show httpT.length = 7 from rfl] at h; omega
    · exact h (by decide)
theorem abs_slash (z : List UInt8) : (absL (47 :: z)).2.2 = false := by
  unfold absL
  rw [if_pos ?_]
  by_cases c : (47 :: z).length < 7
  · exact Or.inl c
  · refine Or.inr ?_
    rw [List.take_succ_cons]
    intro h
    have := congrArg (fun l => l.head?) h
    simp [Hand.lowerD, httpT] at this
    revert this
    decide
theorem parse_text (H : List UInt8) (p : Int) (P o : List UInt8) (t : Tgt H p P) : Ev (fun k => target_Parse.f k (bOf (textL H p P)) (bOf o)) (bOf H, p, bOf P, 0) := by
  obtain ⟨z, hz⟩ := t.slash
  have hl := text_len H p P (by have := t.port; omega)
  have hH := t.host.len
  have hP := t.len
  have hno : ∀ x ∈ H, x ≠ 47 ∧ x ≠ 63 := fun x hx => (t.host.no x hx).2
  obtain ⟨X, hX, ha, he, hXl⟩ : ∃ X, (∀ x ∈ X, x ≠ 47 ∧ x ≠ 63) ∧ authL X = (bOf H, p, 0) ∧ textL H p P = httpT ++ (X ++ P) ∧ X.length ≤ 1000 := by
    unfold textL
    by_cases c : p = 80
    · rw [if_pos c]
      subst c
      exact ⟨H, hno, auth_host H t.host, by simp, by omega⟩
    · rw [if_neg c]
      refine ⟨H ++ 58 :: plain p, ?_, auth_port H t.host p t.port, by simp, ?_⟩
      · intro x hx
        rcases List.mem_append.1 hx with hx | hx
        · exact hno x hx
        · rcases List.mem_cons.1 hx with rfl | hx
          · decide
          · rw [plain_pos p t.port] at hx
            exact digs_no _ x hx
      · have := plain_len p (by have := t.port; omega)
        simp
        omega
  have hag := t.again
  rw [he]
  rw [he] at hl
  subst hz
  have hab := abs_text X z hX
  refine parse_abs _ o (by omega) (by rw [hab]) _ ?_
  rw [hab]
  exact parse_path z X H p (by omega) ha _ 0 hag
theorem parse_self (H : List UInt8) (p : Int) (P : List UInt8) (t : Tgt H p P) : Ev (fun k => target_Resolve.f k (bOf H) p (bOf P) (bOf P)) (bOf H, p, bOf P, true) := by
  obtain ⟨z, hz⟩ := t.slash
  have hH := t.host.len
  have hP := t.len
  have hp64 : -9223372036854775808 ≤ p ∧ p ≤ 9223372036854775807 := by have := t.port; omega
  have hpl := plain_len p hp64
  have hag := t.again
  have ha := auth_port H t.host p t.port
  unfold target_Resolve.f
  rw [show (⟨#[58]⟩ : ByteArray) = bOf [58] from rfl]
  refine Ev.pos (by rw [bOf_size]; omega) (Ev.sbind (prog_Plain p hp64) ?_)
  simp only [bOf_append, bOf_size]
  refine Ev.pos (by simp; omega) ?_
  rw [show H ++ [58] ++ plain p = H ++ 58 :: plain p by simp]
  have hpar : Ev (fun k => target_Parse.f k (bOf P) (bOf (H ++ 58 :: plain p))) (bOf H, p, bOf P, 0) := by
    subst hz
    exact parse_rel _ _ (by omega) (abs_slash z) _ (parse_path z _ H p (by simp; omega) ha _ 0 hag)
  exact Ev.bind hpar (Ev.some' rfl)
theorem again_law (a0 a1 a2 : ByteArray) : ∃ k, depotlaw08_TargetAgain.f k a0 a1 a2 = some true := by
  refine Ev.rounds ?_
  obtain ⟨s, rfl, hs⟩ := ex_bOf a0
  obtain ⟨h, rfl, hh⟩ := ex_bOf a1
  obtain ⟨o, rfl, ho⟩ := ex_bOf a2
  have j0t : Ev (fun k => depotlaw08_TargetAgain.j0 k (bOf s) (bOf h) (bOf o) true) true := by
    refine Ev.step (fun k => by rw [depotlaw08_TargetAgain.j0]) ?_
    exact Ev.pos rfl plains_end
  unfold depotlaw08_TargetAgain.f
  refine Ev.ite (fun _ => j0t) (fun h1 => Ev.ite (fun _ => j0t) (fun h2 => ?_))
  by_cases h3 : ((bOf o).size : Int) > 1000
  · rw [decide_eq_true h3]; exact j0t
  · rw [decide_eq_false h3]
    rw [bOf_size] at h1 h2 h3
    refine Ev.step (fun k => by rw [depotlaw08_TargetAgain.j0]) ?_
    refine Ev.neg (by simp) ?_
    rcases parse_out s h (by omega) (by omega) with ⟨e, he, hr⟩ | ⟨H, p, P, t, hr⟩
    · refine Ev.bind hr (Ev.neg he (Ev.pos ?_ plains_end))
      simp only [toList_bOf]
      rfl
    · have hp64 : -9223372036854775808 ≤ p ∧ p ≤ 9223372036854775807 := by have := t.port; omega
      have hH := t.host.len
      have hP := t.len
      have hT := prog_Text H p P (by omega) (by omega) hp64
      have hK := prog_Key H p P (by omega) (by omega) hp64
      refine Ev.bind hr (Ev.pos rfl (Ev.sbind hT (Ev.bind (parse_text H p P o t) (Ev.bind (parse_self H p P t) (Ev.sbind hK (Ev.sbind hK ?_))))))
      have heq : ((bOf H).toList == (bOf H).toList && (p == p && ((bOf P).toList == (bOf P).toList))) = true := by simp
      exact Ev.pos heq (Ev.pos rfl (Ev.pos heq (Ev.pos rfl (Ev.pos t.port.1 (Ev.pos t.port.2 (Ev.pos rfl (Ev.pos rfl plains_end)))))))
end Go.Proofs.YtghaocjhmambaaaDoor.Pu

/- The statement TargetParses, without the program in sight. -/
namespace Go.Proofs.YtghaocjhmambaaaDoor.Pu
open Go.RowKit Go.Proofs.YtghaocjhmambaaaDoorW.PrintWords Go.Proofs.YtghaocjhmambaaaDoorW.PrintLast Go.Proofs.YtghaocjhmambaaaDoor.PR
set_option linter.unusedVariables false
set_option linter.unusedSimpArgs false

abbrev UR := ByteArray × Int × ByteArray × Int
/-- What Parse comes to: small parts. -/
structure Small (z : UR) : Prop where
  out : ∃ H p P e, z = (bOf H, p, bOf P, e) ∧ H.length ≤ 900 ∧ P.length ≤ 3000 ∧ 0 ≤ p ∧ p ≤ 65535
theorem small_err (e : Int) : Small (bOf [], 0, bOf [], e) := ⟨[], 0, [], e, rfl, by simp, by simp, by decide, by decide⟩
theorem rj3_true (t h : ByteArray) : Ev (fun k => depotref08_Parse.j3 k t h true) (bOf [], 0, bOf [], 23) := by
  refine Ev.step (fun k => by rw [depotref08_Parse.j3]) ?_
  exact Ev.pos rfl (Ev.some' rfl)
theorem rj3_host (t h : List UInt8) (hh : h.length ≤ 100000) (ha : authL h = (bOf [], 0, 26)) : Ev (fun k => depotref08_Parse.j3 k (bOf t) (bOf h) false) (bOf [], 0, bOf [], 26) := by
  refine Ev.step (fun k => by rw [depotref08_Parse.j3]) ?_
  have h1 := ref_Authority h hh
  rw [ha] at h1
  exact Ev.neg (by simp) (Ev.bind h1 (Ev.neg (by simp) (Ev.some' rfl)))
theorem rj3_path (t h H : List UInt8) (p : Int) (hh : h.length ≤ 100000) (ha : authL h = (bOf H, p, 0)) (r : List UInt8) (e : Int) (hr : Ev (fun k => depotref08_Path.f k (bOf t)) (bOf r, e)) :
    Ev (fun k => depotref08_Parse.j3 k (bOf t) (bOf h) false) (if e = 0 then (bOf H, p, bOf r, 0) else (bOf [], 0, bOf [], e)) := by
  refine Ev.step (fun k => by rw [depotref08_Parse.j3]) ?_
  have h1 := ref_Authority h hh
  rw [ha] at h1
  refine Ev.neg (by simp) (Ev.bind h1 (Ev.pos rfl (Ev.bind hr ?_)))
  by_cases he : e = 0
  · rw [if_pos he, if_pos he]; exact Ev.some' rfl
  · rw [if_neg he, if_neg he]; exact Ev.some' rfl
theorem rj2_nil (h : ByteArray) : Ev (fun k => depotref08_Parse.j2 k (bOf []) h) (bOf [], 0, bOf [], 23) := by
  refine Ev.step (fun k => by rw [depotref08_Parse.j2]) ?_
  exact Ev.pos (toList_bOf []) (rj3_true _ h)
theorem rj2_cons (x : UInt8) (t : List UInt8) (h : ByteArray) (z : UR) (hz : Ev (fun k => depotref08_Parse.j3 k (bOf (x :: t)) h ((x.toNat : Int) != 47)) z) : Ev (fun k => depotref08_Parse.j2 k (bOf (x :: t)) h) z := by
  refine Ev.step (fun k => by rw [depotref08_Parse.j2]) ?_
  refine Ev.neg (by rw [toList_bOf]; simp) (Ev.pos (by rw [bOf_size, List.length_cons]; omega) ?_)
  exact hz
theorem tail_both (t h : List UInt8) (ht : t.length ≤ 1000) (hh : h.length ≤ 1000) : ∃ z, Small z ∧ Ev (fun k => target_Parse.j0 k (bOf t) (bOf h)) z ∧ Ev (fun k => depotref08_Parse.j2 k (bOf t) (bOf h)) z := by
  cases t with
  | nil => exact ⟨_, small_err 23, parse_no [] h (fun z e => by cases e), rj2_nil _⟩
  | cons x t =>
    by_cases c : x = 47
    · subst c
      have hx : (((47 : UInt8).toNat : Int) != 47) = false := rfl
      rcases auth_cases h with ha | ⟨H, p, ha, hH, hp⟩
      · refine ⟨_, small_err 26, parse_host t h (by omega) ha, rj2_cons _ _ _ _ ?_⟩
        rw [hx]
        exact rj3_host _ h (by omega) ha
      · obtain ⟨⟨r, e⟩, h1, h2⟩ := path_both (47 :: t) ht
        have hbound : r.length ≤ 3000 := by
          rcases path_prog (47 :: t) ht with hr | ⟨L, q, has, hL, hq, hlen, hr⟩
          · have := Ev.uniq h1 hr
            have hr' : r = [] := bOf_inj (show bOf r = bOf [] from congrArg Prod.fst this)
            rw [hr']; simp
          · have := Ev.uniq h1 hr
            have hr' : r = pathL L q has := bOf_inj (show bOf r = bOf (pathL L q has) from congrArg Prod.fst this)
            rw [hr']; exact hlen
        refine ⟨_, ?_, parse_path t h H p (by omega) ha r e h1, rj2_cons _ _ _ _ ?_⟩
        · split
          · exact ⟨H, p, r, 0, rfl, Nat.le_trans hH.len (by decide), hbound, by omega, by omega⟩
          · exact small_err e
        · rw [hx]
          exact rj3_path _ h H p (by omega) ha r e h2
    · have hne : ¬ (x.toNat : Int) = 47 := fun e => c ((u8_eq (by decide)).1 e)
      refine ⟨_, small_err 23, parse_no (x :: t) h (fun z e => c (by injection e)), rj2_cons _ _ _ _ ?_⟩
      rw [show ((x.toNat : Int) != 47) = true by simpa using hne]
      exact rj3_true _ _
/-! ### the reference's way to the first '/' or '?' -/
theorem rend (done tail : List UInt8) (z : UR) (hl : done.length + tail.length ≤ 100000) (hz : Ev (fun k => depotref08_Parse.j2 k (bOf (slashed tail)) (bOf done)) z) :
    Ev (fun k => if ((bOf (done ++ tail)).extract ((done.length : Int)).toNat (bOf (done ++ tail)).size).toList = ([] : List UInt8) then (if 1 + ((bOf (done ++ tail)).extract ((done.length : Int)).toNat (bOf (done ++ tail)).size).size ≤ 9223372036854775807 then (depotref08_Parse.j2 k ((⟨#[47]⟩ : ByteArray) ++ ((bOf (done ++ tail)).extract ((done.length : Int)).toNat (bOf (done ++ tail)).size)) ((bOf (done ++ tail)).extract 0 ((done.length : Int)).toNat)) else (none)) else (if 0 < (((bOf (done ++ tail)).extract ((done.length : Int)).toNat (bOf (done ++ tail)).size).size : Int) then (if (bt ((bOf (done ++ tail)).extract ((done.length : Int)).toNat (bOf (done ++ tail)).size) 0) = 63 then (if 1 + ((bOf (done ++ tail)).extract ((done.length : Int)).toNat (bOf (done ++ tail)).size).size ≤ 9223372036854775807 then (depotref08_Parse.j2 k ((⟨#[47]⟩ : ByteArray) ++ ((bOf (done ++ tail)).extract ((done.length : Int)).toNat (bOf (done ++ tail)).size)) ((bOf (done ++ tail)).extract 0 ((done.length : Int)).toNat)) else (none)) else (depotref08_Parse.j2 k ((bOf (done ++ tail)).extract ((done.length : Int)).toNat (bOf (done ++ tail)).size) ((bOf (done ++ tail)).extract 0 ((done.length : Int)).toNat))) else (none))) z := by
  have e1 : (bOf (done ++ tail)).extract ((done.length : Int)).toNat (bOf (done ++ tail)).size = bOf tail := by rw [Int.toNat_natCast]; exact ext_tail done tail done.length rfl
  have e0 : (bOf (done ++ tail)).extract 0 ((done.length : Int)).toNat = bOf done := by rw [Int.toNat_natCast, bOf_extract]; simp
  rw [e0, e1, show (⟨#[47]⟩ : ByteArray) = bOf [47] from rfl, bOf_append, toList_bOf, bOf_size]
  cases tail with
  | nil => exact Ev.pos rfl (Ev.pos (by simp) hz)
  | cons x t =>
    have hb : bt (bOf (x :: t)) 0 = (x.toNat : Int) := bt_at_cut [] x t
    rw [hb]
    rw [List.length_cons] at hl
    refine Ev.neg (by simp) (Ev.pos (by rw [List.length_cons]; omega) ?_)
    by_cases c : x = 63
    · subst c
      exact Ev.pos rfl (Ev.pos (by rw [List.length_cons]; omega) hz)
    · have hne : ¬ (x.toNat : Int) = 63 := fun e => c ((u8_eq (by decide)).1 e)
      refine Ev.neg hne ?_
      have : slashed (x :: t) = x :: t := by
        show (if x = 63 then 47 :: 63 :: t else x :: t) = x :: t
        rw [if_neg c]
      rw [this] at hz
      exact hz
theorem rl0 (z : UR) (n : Nat) : ∀ (done r : List UInt8), r.length = n → done.length + r.length ≤ 100000 → Ev (fun k => depotref08_Parse.j2 k (bOf (slashed (cut2 r).2)) (bOf (done ++ (cut2 r).1))) z →
    Ev (fun k => depotref08_Parse.l0 k (bOf (done ++ r)) (done.length : Int)) z := by
  induction n with
  | zero =>
    intro done r hn hl hz
    have : r = [] := List.eq_nil_of_length_eq_zero hn
    subst this
    have hz' : Ev (fun k => depotref08_Parse.j2 k (bOf (slashed [])) (bOf done)) z := by rw [show done ++ (cut2 []).1 = done by simp [cut2]] at hz; exact hz
    refine Ev.step (fun k => by rw [depotref08_Parse.l0]) ?_
    refine Ev.neg (by rw [bOf_size]; simp) (Ev.pos (by omega) (Ev.pos (by rw [bOf_size]; simp) ?_))
    exact rend done [] z hl hz'
  | succ n ih =>
    intro done r hn hl hz
    obtain ⟨x, r, rfl⟩ : ∃ x t, r = x :: t := by
      cases r with
      | nil => simp at hn
      | cons x t => exact ⟨x, t, rfl⟩
    have hb : bt (bOf (done ++ x :: r)) (done.length : Int) = (x.toNat : Int) := bt_at_cut done x r
    have hsz : (bOf (done ++ x :: r)).size = done.length + (r.length + 1) := by rw [bOf_size]; simp
    rw [List.length_cons] at hl
    refine Ev.step (fun k => by rw [depotref08_Parse.l0]) ?_
    refine Ev.pos (by rw [hsz]; omega) (Ev.pos (by omega) ?_)
    rw [hb]
    by_cases c1 : x = 47
    · subst c1
      refine Ev.pos rfl (Ev.pos (by rw [hsz]; omega) (rend done _ z (by rw [List.length_cons]; exact hl) ?_))
      have : cut2 (47 :: r) = ([], 47 :: r) := by rw [cut2, if_pos (Or.inl rfl)]
      rw [this] at hz
      simpa using hz
    · have hne : ¬ (x.toNat : Int) = 47 := fun e => c1 ((u8_eq (by decide)).1 e)
      refine Ev.neg hne ?_
      by_cases c2 : x = 63
      · subst c2
        refine Ev.pos rfl (Ev.pos (by rw [hsz]; omega) (rend done _ z (by rw [List.length_cons]; exact hl) ?_))
        have : cut2 (63 :: r) = ([], 63 :: r) := by rw [cut2, if_pos (Or.inr rfl)]
        rw [this] at hz
        simpa using hz
      · have hne2 : ¬ (x.toNat : Int) = 63 := fun e => c2 ((u8_eq (by decide)).1 e)
        refine Ev.neg hne2 ?_
        have hc : cut2 (x :: r) = (x :: (cut2 r).1, (cut2 r).2) := by rw [cut2, if_neg (fun e => e.elim c1 c2)]
        rw [hc] at hz
        have hw : wrap64 ((done.length : Int) + 1) = (((done ++ [x]).length : Nat) : Int) := by rw [wrap_id (by omega) (by omega)]; simp
        rw [hw, show done ++ x :: r = (done ++ [x]) ++ r by simp]
        refine ih (done ++ [x]) r (by simpa using hn) (by simp; omega) ?_
        rw [List.append_assoc]
        exact hz
theorem ref_abs (s h : List UInt8) (hs : s.length ≤ 100000) (ha : (absL s).2.2 = true) (z : UR) (hz : Ev (fun k => depotref08_Parse.j2 k (bOf (absL s).2.1) (bOf (absL s).1)) z) : Ev (fun k => depotref08_Parse.f k (bOf s) (bOf h)) z := by
  unfold absL at ha hz
  by_cases c : s.length < 7 ∨ Hand.lowerD (s.take 7) ≠ httpT
  · rw [if_pos c] at ha; cases ha
  · rw [if_neg c] at hz
    have c1 : ¬ s.length < 7 := fun h => c (Or.inl h)
    have c2 : Hand.lowerD (s.take 7) = httpT := Classical.byContradiction fun h => c (Or.inr h)
    unfold depotref08_Parse.f
    have he : (bOf s).extract 0 7 = bOf (s.take 7) := by rw [bOf_extract, List.drop_zero]
    have hlo : depotref01_Lower.f ((bOf s).extract 0 7) = some (bOf httpT) := by
      rw [he]; unfold depotref01_Lower.f; rw [if_pos (by rw [bOf_size, List.length_take]; omega), lowerS_b, c2]
    refine Ev.pos (by rw [bOf_size]; omega) (Ev.pos (by decide) (Ev.pos (by rw [bOf_size]; omega) (Ev.sbind hlo ?_)))
    rw [toList_bOf, show (httpT == ([104, 116, 116, 112, 58, 47, 47] : List UInt8)) = true from rfl]
    refine Ev.step (fun k => by rw [depotref08_Parse.j0]) ?_
    refine Ev.pos rfl (Ev.pos (by rw [bOf_size]; omega) ?_)
    have e7 : (bOf s).extract 7 (bOf s).size = bOf ([] ++ s.drop 7) := by rw [bOf_extract, bOf_size, List.take_length]; rfl
    rw [e7]
    exact rl0 z _ [] (s.drop 7) rfl (by rw [List.length_drop]; simp; omega) hz
theorem ref_rel (s h : List UInt8) (hs : s.length ≤ 100000) (ha : (absL s).2.2 = false) (z : UR) (hz : Ev (fun k => depotref08_Parse.j2 k (bOf s) (bOf h)) z) : Ev (fun k => depotref08_Parse.f k (bOf s) (bOf h)) z := by
  have fin : Ev (fun k => depotref08_Parse.j0 k (bOf s) (bOf h) false) z := by
    refine Ev.step (fun k => by rw [depotref08_Parse.j0]) ?_
    exact Ev.neg (by simp) hz
  unfold absL at ha
  unfold depotref08_Parse.f
  by_cases c1 : s.length < 7
  · exact Ev.neg (by rw [bOf_size]; omega) fin
  · have c2 : Hand.lowerD (s.take 7) ≠ httpT := by
      intro e
      rw [if_neg (fun h => h.elim c1 (fun k => k e))] at ha
      cases ha
    have he : (bOf s).extract 0 7 = bOf (s.take 7) := by rw [bOf_extract, List.drop_zero]
    have hlo : depotref01_Lower.f ((bOf s).extract 0 7) = some (bOf (Hand.lowerD (s.take 7))) := by
      rw [he]; unfold depotref01_Lower.f; rw [if_pos (by rw [bOf_size, List.length_take]; omega), lowerS_b]
    refine Ev.pos (by rw [bOf_size]; omega) (Ev.pos (by decide) (Ev.pos (by rw [bOf_size]; omega) (Ev.sbind hlo ?_)))
    rw [toList_bOf, show (Hand.lowerD (s.take 7) == ([104, 116, 116, 112, 58, 47, 47] : List UInt8)) = false by simpa [httpT] using c2]
    exact fin
theorem parse_both (s h : List UInt8) (hs : s.length ≤ 1000) (hh : h.length ≤ 1000) : ∃ z, Small z ∧ Ev (fun k => target_Parse.f k (bOf s) (bOf h)) z ∧ Ev (fun k => depotref08_Parse.f k (bOf s) (bOf h)) z := by
  have hl := absL_le s
  cases ha : (absL s).2.2
  · obtain ⟨z, h1, h2, h3⟩ := tail_both s h hs hh
    exact ⟨z, h1, parse_rel s h (by omega) ha z h2, ref_rel s h (by omega) ha z h3⟩
  · obtain ⟨z, h1, h2, h3⟩ := tail_both (absL s).2.1 (absL s).1 (Nat.le_trans (hl.2 ha) hs) (Nat.le_trans hl.1 hs)
    exact ⟨z, h1, parse_abs s h (by omega) ha z h2, ref_abs s h (by omega) ha z h3⟩
theorem resolve_both (H : List UInt8) (p : Int) (P o : List UInt8) (hH : H.length ≤ 900) (hp : 0 ≤ p ∧ p ≤ 65535) (ho : o.length ≤ 1000) : ∃ z : UR, Small z ∧ Ev (fun k => target_Resolve.f k (bOf H) p (bOf P) (bOf o)) (z.1, z.2.1, z.2.2.1, z.2.2.2 == 0) ∧ Ev (fun k => depotref08_Resolve.f k (bOf H) p (bOf P) (bOf o)) (z.1, z.2.1, z.2.2.1, z.2.2.2 == 0) := by
  have hp64 : -9223372036854775808 ≤ p ∧ p ≤ 9223372036854775807 := by omega
  have hpl := plain_len p hp64
  obtain ⟨z, h1, h2, h3⟩ := parse_both o (H ++ [58] ++ plain p) ho (by simp; omega)
  refine ⟨z, h1, ?_, ?_⟩
  · unfold target_Resolve.f
    rw [show (⟨#[58]⟩ : ByteArray) = bOf [58] from rfl]
    refine Ev.pos (by rw [bOf_size]; omega) (Ev.sbind (prog_Plain p hp64) ?_)
    simp only [bOf_append, bOf_size]
    exact Ev.pos (by simp; omega) (Ev.bind h2 (Ev.some' rfl))
  · unfold depotref08_Resolve.f
    rw [show (⟨#[58]⟩ : ByteArray) = bOf [58] from rfl]
    refine Ev.pos (by rw [bOf_size]; omega) (Ev.bind (ref_Plain p hp64) ?_)
    simp only [bOf_append, bOf_size]
    exact Ev.pos (by simp; omega) (Ev.bind h3 (Ev.some' rfl))
theorem parses_law (a0 a1 a2 : ByteArray) : ∃ k, depotlaw08_TargetParses.f k a0 a1 a2 = some true := by
  refine Ev.rounds ?_
  obtain ⟨s, rfl, hs⟩ := ex_bOf a0
  obtain ⟨h, rfl, hh⟩ := ex_bOf a1
  obtain ⟨o, rfl, ho⟩ := ex_bOf a2
  have j0t : Ev (fun k => depotlaw08_TargetParses.j0 k (bOf s) (bOf h) (bOf o) true) true := by
    refine Ev.step (fun k => by rw [depotlaw08_TargetParses.j0]) ?_
    exact Ev.pos rfl plains_end
  unfold depotlaw08_TargetParses.f
  refine Ev.ite (fun _ => j0t) (fun h1 => Ev.ite (fun _ => j0t) (fun h2 => ?_))
  by_cases h3 : ((bOf o).size : Int) > 1000
  · rw [decide_eq_true h3]; exact j0t
  · rw [decide_eq_false h3]
    rw [bOf_size] at h1 h2 h3
    refine Ev.step (fun k => by rw [depotlaw08_TargetParses.j0]) ?_
    refine Ev.neg (by simp) ?_
    obtain ⟨z, ⟨H, p, P, e, rfl, hH, hP, hp⟩, hz1, hz2⟩ := parse_both s h (by omega) (by omega)
    obtain ⟨y, _, hy1, hy2⟩ := resolve_both H p P o hH hp (by omega)
    have hp64 : -9223372036854775808 ≤ p ∧ p ≤ 9223372036854775807 := by omega
    refine Ev.bind hz1 (Ev.bind hz2 (Ev.bind hy1 (Ev.bind hy2 (Ev.sbind (prog_Key H p P (by omega) (by omega) hp64) (Ev.bind (ref_Key H p P (by omega) (by omega) hp64) ?_)))))
    have e1 : ((bOf H).toList == (bOf H).toList && (p == p && ((bOf P).toList == (bOf P).toList))) = true := by simp
    have e2 : (y.1.toList == y.1.toList && (y.2.1 == y.2.1 && (y.2.2.1.toList == y.2.2.1.toList))) = true := by simp
    exact Ev.pos e1 (Ev.pos rfl (Ev.pos e2 (Ev.pos (by simp) (Ev.sbind (prog_Text H p P (by omega) (by omega) hp64) (Ev.bind (ref_Text H p P (by omega) (by omega) hp64) (Ev.pos rfl (Ev.pos rfl (Ev.pos rfl plains_end))))))))
end Go.Proofs.YtghaocjhmambaaaDoor.Pu
