/- Texts put into one, each with its own words ahead of it: plain lemmas and the statement's own law. -/
import Derived.Test.YtmmmfippfoginaaDoorWWords
import Derived.Test.YtmmmfippfoginaaDoorWLast
import Derived.Test.YtmmmfippfoginaaDoorHand
import Derived.Lib.Strings
import Derived.IntWalk
import Derived.Test.YtmmmfippfoginaaDoorPR7
import Derived.Lib.SlTrimSet
import Derived.Test.YtmmmfippfoginaaDoorDigit
import Derived.Test.YtmmmfippfoginaaDoorPR1
import Derived.Test.YtmmmfippfoginaaDoorPR5
import Derived.KernelRfl
import Derived.Test.YtmmmfippfoginaaDoorPR2
import Derived.Test.YtmmmfippfoginaaDoorPR11
import Derived.Lib.ItoaNum
import Derived.Test.YtmmmfippfoginaaDoorOctet
import Derived.Test.YtmmmfippfoginaaDoorPR9
import Derived.Test.YtmmmfippfoginaaDoorPR10
import Derived.Test.YtmmmfippfoginaaDoorPR12
import Derived.Test.YtmmmfippfoginaaDoorPR13
import Derived.Test.YtmmmfippfoginaaDoorPR14
/- Strings as lists of bytes; rounds: helpers for the plain laws of this session. -/
namespace Go.Proofs.YtmmmfippfoginaaDoor.Pu
open Go.RowKit Go.Proofs.YtmmmfippfoginaaDoorW.PrintWords Go.Proofs.YtmmmfippfoginaaDoorW.PrintLast
set_option linter.unusedVariables false
set_option linter.unusedSimpArgs false

def bOf (l : List UInt8) : ByteArray := ⟨l.toArray⟩
theorem bOf_data (s : ByteArray) : bOf s.data.toList = s := by obtain ⟨⟨l⟩⟩ := s; rfl
theorem bOf_mk (l : List UInt8) : (⟨l.toArray⟩ : ByteArray) = bOf l := rfl
theorem data_bOf (l : List UInt8) : (bOf l).data.toList = l := rfl
theorem bOf_size (l : List UInt8) : (bOf l).size = l.length := by unfold bOf; simp [ByteArray.size]
theorem size_data (s : ByteArray) : s.data.toList.length = s.size := data_length s
theorem toList_bOf (l : List UInt8) : (bOf l).toList = l := by rw [ByteArray.toList_eq]; rfl
theorem bOf_inj {a b : List UInt8} (h : bOf a = bOf b) : a = b := by have := congrArg (fun s => s.data.toList) h; exact this
theorem bOf_extract (l : List UInt8) (i j : Nat) : (bOf l).extract i j = bOf ((l.take j).drop i) := by
  have h := Go.Lib.extract_data (bOf l) i j
  rw [← bOf_data ((bOf l).extract i j), h, data_bOf, List.drop_take]
theorem bOf_append (a b : List UInt8) : bOf a ++ bOf b = bOf (a ++ b) := by
  have h : ((bOf a) ++ (bOf b)).data.toList = a ++ b := by simp [bOf]
  rw [← bOf_data (bOf a ++ bOf b), h]
theorem bOf_lit0 : (⟨#[]⟩ : ByteArray) = bOf [] := rfl
theorem ex_bOf (s : ByteArray) : ∃ l, s = bOf l ∧ l.length = s.size := ⟨s.data.toList, (bOf_data s).symm, size_data s⟩
/-- the byte at a place, as a number -/
def at_ (l : List UInt8) (i : Nat) : Int := (l.getD i 0).toNat
theorem bt_bOf (l : List UInt8) (i : Int) (h0 : 0 ≤ i) (h : i < l.length) : bt (bOf l) i = at_ l i.toNat := by
  have h' : i.toNat < (bOf l).size := by rw [bOf_size]; omega
  rw [← bt_at (bOf l) i h', at_]
  have hl : i.toNat < l.length := by omega
  rw [List.getD_eq_getElem?_getD, List.getElem?_eq_getElem hl]
  rfl
theorem at_range (l : List UInt8) (i : Nat) : 0 ≤ at_ l i ∧ at_ l i ≤ 255 := by unfold at_; have := (l.getD i 0).toNat_lt; omega
theorem at_cons_zero (c : UInt8) (l : List UInt8) : at_ (c :: l) 0 = c.toNat := rfl
theorem at_cons_succ (c : UInt8) (l : List UInt8) (i : Nat) : at_ (c :: l) (i + 1) = at_ l i := by simp [at_]
theorem at_lt (l : List UInt8) (i : Nat) (h : i < l.length) : at_ l i = (l[i]).toNat := by simp [at_, List.getD_eq_getElem?_getD, List.getElem?_eq_getElem h]
theorem u8_eq {c : UInt8} {n : Nat} (hn : n < 256) : (c.toNat : Int) = n ↔ c = UInt8.ofNat n := by
  constructor
  · intro h
    have h' : c.toNat = n := by omega
    rw [← h']; simp
  · intro h; subst h; simp; omega
theorem wrap_id {n : Int} (h0 : -9223372036854775808 ≤ n) (h : n ≤ 9223372036854775807) : wrap64 n = n := Go.IntWalk.wrap64_in n ⟨h0, h⟩
/-! Rounds -/
theorem Ev.uniq {α : Type} {g : Nat → Option α} {a b : α} (h : Ev g a) (k : Ev g b) : a = b := by
  obtain ⟨K, h⟩ := h
  obtain ⟨K', k⟩ := k
  have h1 := h (max K K') (by omega)
  have h2 := k (max K K') (by omega)
  exact Option.some.inj (h1.symm.trans h2)
theorem Ev.ite {α : Type} {c : Prop} [Decidable c] {f g : Nat → Option α} {r : α} (h : c → Ev f r) (k : ¬ c → Ev g r) : Ev (fun n => if c then f n else g n) r := by
  by_cases hc : c
  · exact Ev.congr (fun n => if_pos hc) (h hc)
  · exact Ev.congr (fun n => if_neg hc) (k hc)
theorem Ev.pos {α : Type} {c : Prop} [Decidable c] {f g : Nat → Option α} {r : α} (hc : c) (h : Ev f r) : Ev (fun n => if c then f n else g n) r := Ev.congr (fun n => if_pos hc) h
theorem Ev.neg {α : Type} {c : Prop} [Decidable c] {f g : Nat → Option α} {r : α} (hc : ¬ c) (h : Ev g r) : Ev (fun n => if c then f n else g n) r := Ev.congr (fun n => if_neg hc) h
/-- a call without rounds -/
theorem Ev.sbind {α β : Type} {x : Option α} {f : Nat → α → Option β} {a : α} {r : β} (h : x = some a) (k : Ev (fun n => f n a) r) : Ev (fun n => x.bind (f n)) r := Ev.congr (fun n => by rw [h]; rfl) k
theorem Ev.some' {α : Type} {a r : α} (h : a = r) : Ev (fun _ => some a) r := ⟨0, fun _ _ => by rw [h]⟩
theorem Ev.eq {α : Type} {g : Nat → Option α} {a b : α} (h : Ev g a) (e : a = b) : Ev g b := e ▸ h
end Go.Proofs.YtmmmfippfoginaaDoor.Pu

/- The reference's Trim is the library's strings.Trim at blank and tab. -/
namespace Go.Proofs.YtmmmfippfoginaaDoor.Pu
open Go.RowKit Go.Proofs.YtmmmfippfoginaaDoorW.PrintWords Go.Proofs.YtmmmfippfoginaaDoorW.PrintLast Go.Proofs.YtmmmfippfoginaaDoor.PR
set_option linter.unusedVariables false
set_option linter.unusedSimpArgs false

def isBl (c : UInt8) : Bool := ([32, 9] : List UInt8).contains c
def trimL (l : List UInt8) : List UInt8 := l.dropWhile isBl
def trimR (l : List UInt8) : List UInt8 := (l.reverse.dropWhile isBl).reverse
def trim (l : List UInt8) : List UInt8 := trimL (trimR l)
theorem trim_eq (l : List UInt8) : Lib.trimS l [32, 9] = trim l := rfl
theorem trimR_cons (x : UInt8) (l : List UInt8) : trimR (x :: l) = if trimR l = [] then (if isBl x = true then [] else [x]) else x :: trimR l := by
  unfold trimR
  rw [List.reverse_cons, List.dropWhile_append]
  by_cases h : List.dropWhile isBl l.reverse = []
  · rw [h]
    simp [List.dropWhile_cons]
    by_cases hx : isBl x = true <;> simp [hx]
  · have hb : (List.dropWhile isBl l.reverse).isEmpty = false := by simpa using h
    simp [hb, h]
theorem trimR_nil : trimR [] = [] := rfl
theorem trim_comm (l : List UInt8) : trimR (trimL l) = trimL (trimR l) := by
  induction l with
  | nil => rfl
  | cons x l ih =>
    rw [trimR_cons]
    by_cases hx : isBl x = true
    · have h1 : trimL (x :: l) = trimL l := by simp [trimL, List.dropWhile_cons, hx]
      rw [h1, ih]
      by_cases h : trimR l = []
      · rw [if_pos h, if_pos hx, h]
      · rw [if_neg h]
        simp [trimL, List.dropWhile_cons, hx]
    · have h1 : trimL (x :: l) = x :: l := by simp [trimL, List.dropWhile_cons, hx]
      rw [h1, trimR_cons]
      by_cases h : trimR l = []
      · rw [if_pos h, if_neg hx]; simp [trimL, List.dropWhile_cons, hx]
      · rw [if_neg h]; simp [trimL, List.dropWhile_cons, hx]
theorem blank_some (c : UInt8) : depotref01_blank.f (c.toNat : Int) = some (isBl c) := by
  unfold depotref01_blank.f
  by_cases h : (c.toNat : Int) = 32
  · rw [if_pos h]
    have : c = 32 := (u8_eq (by decide)).1 h
    subst this; rfl
  · rw [if_neg h]
    congr 1
    have h1 : ¬ c = 32 := fun e => h (by rw [e]; rfl)
    by_cases h2 : (c.toNat : Int) = 9
    · have : c = 9 := (u8_eq (by decide)).1 h2
      subst this; rfl
    · have h3 : ¬ c = 9 := fun e => h2 (by rw [e]; rfl)
      have : isBl c = false := by simp [isBl, h1, h3]
      rw [this]; simpa using h2
theorem trim_l1 (n : Nat) : ∀ l : List UInt8, l.length = n → n ≤ 9223372036854775807 → Ev (fun k => depotref01_Trim.l1 k (bOf l)) (bOf (trimR l)) := by
  induction n with
  | zero =>
    intro l hl _
    obtain rfl := List.length_eq_zero_iff.1 hl
    refine Ev.step (fun k => by rw [depotref01_Trim.l1]) ?_
    refine Ev.neg (by rw [bOf_size]; simp) (Ev.some' rfl)
  | succ n ih =>
    intro l hl hn
    obtain ⟨m, c, rfl⟩ : ∃ m c, l = m ++ [c] := ⟨l.dropLast, l.getLast (by intro h; simp [h] at hl), (List.dropLast_concat_getLast _).symm⟩
    have hm : m.length = n := by simpa using hl
    have hs : ((bOf (m ++ [c])).size : Int) = n + 1 := by rw [bOf_size]; simp [hm]
    have hw : wrap64 (((bOf (m ++ [c])).size : Int) - 1) = n := by rw [hs, wrap_id] <;> omega
    refine Ev.step (fun k => by rw [depotref01_Trim.l1]) ?_
    rw [hw, hs]
    refine Ev.pos (by omega) (Ev.pos (by omega) (Ev.pos (by omega) ?_))
    have hb : bt (bOf (m ++ [c])) (n : Int) = c.toNat := by
      rw [bt_bOf _ _ (by omega) (by simp [hm]; omega)]; simp [at_, ← hm]
    rw [hb]
    refine Ev.sbind (blank_some c) ?_
    have htr : trimR (m ++ [c]) = if isBl c = true then trimR m else m ++ [c] := by
      unfold trimR
      rw [List.reverse_append]
      simp [List.dropWhile_cons]
      by_cases hc : isBl c = true <;> simp [hc]
    refine Ev.ite (fun hc => ?_) (fun hc => ?_)
    · rw [htr, if_pos hc]
      refine Ev.pos (by omega) ?_
      have : (bOf (m ++ [c])).extract 0 ((n : Int)).toNat = bOf m := by rw [bOf_extract]; simp [← hm]
      rw [this]
      exact ih m hm (by omega)
    · rw [htr, if_neg hc]
      exact Ev.some' rfl
theorem trim_j1 (l : List UInt8) (h : l.length ≤ 9223372036854775807) : Ev (fun k => depotref01_Trim.j1 k (bOf l)) (bOf (trimR l)) :=
  Ev.step (fun k => by rw [depotref01_Trim.j1]) (trim_l1 _ l rfl h)
theorem trim_l0 (n : Nat) : ∀ l : List UInt8, l.length = n → n ≤ 9223372036854775807 → Ev (fun k => depotref01_Trim.l0 k (bOf l)) (bOf (trimR (trimL l))) := by
  induction n with
  | zero =>
    intro l hl hn
    obtain rfl := List.length_eq_zero_iff.1 hl
    refine Ev.step (fun k => by rw [depotref01_Trim.l0]) ?_
    exact Ev.neg (by rw [bOf_size]; simp) (trim_j1 [] (by simp))
  | succ n ih =>
    intro l hl hn
    match l, hl with
    | c :: m, hl =>
      have hm : m.length = n := by simpa using hl
      have hs : ((bOf (c :: m)).size : Int) = n + 1 := by rw [bOf_size]; simp [hm]
      refine Ev.step (fun k => by rw [depotref01_Trim.l0]) ?_
      rw [hs]
      refine Ev.pos (by omega) (Ev.pos (by omega) ?_)
      have hb : bt (bOf (c :: m)) 0 = c.toNat := by rw [bt_bOf _ _ (by omega) (by simp)]; rfl
      rw [hb]
      refine Ev.sbind (blank_some c) ?_
      refine Ev.ite (fun hc => ?_) (fun hc => ?_)
      · refine Ev.pos (by omega) ?_
        have : (bOf (c :: m)).extract 1 (bOf (c :: m)).size = bOf m := by rw [bOf_extract, bOf_size]; simp
        rw [this]
        have h1 : trimL (c :: m) = trimL m := by simp [trimL, List.dropWhile_cons, hc]
        rw [h1]
        exact ih m hm (by omega)
      · have h1 : trimL (c :: m) = c :: m := by simp [trimL, List.dropWhile_cons, hc]
        rw [h1]
        exact trim_j1 _ (by simp [hm]; omega)
theorem ref_Trim (s : ByteArray) (h : s.size ≤ 9223372036854775807) : Ev (fun k => depotref01_Trim.f k s) (bOf (trim s.data.toList)) := by
  have := trim_l0 _ s.data.toList rfl (by rw [size_data]; exact h)
  rw [bOf_data, trim_comm] at this
  exact this
theorem trim_le (l : List UInt8) : (trim l).length ≤ l.length := by
  unfold trim trimL trimR
  refine Nat.le_trans (List.dropWhile_sublist _).length_le ?_
  rw [List.length_reverse]
  refine Nat.le_trans (List.dropWhile_sublist _).length_le ?_
  rw [List.length_reverse]
  exact Nat.le_refl _
end Go.Proofs.YtmmmfippfoginaaDoor.Pu

/- The readings of decimal and of its reference (for seats that reach ReadHex). -/
namespace Go.Proofs.YtmmmfippfoginaaDoor.Pu
open Go.RowKit Go.Proofs.YtmmmfippfoginaaDoorW.PrintWords Go.Proofs.YtmmmfippfoginaaDoorW.PrintLast Go.Proofs.YtmmmfippfoginaaDoor.PR
set_option linter.unusedVariables false
set_option linter.unusedSimpArgs false

/-! ### readings -/
def hexR (c : Int) : Int × Bool := if Hand.dig0 c < 0 then (0, false) else (Hand.dig0 c, true)
theorem hex_all : ∀ c : Fin 256, depotref01_Hex.f 20 ((c : Nat) : Int) = some (hexR ((c : Nat) : Int)) := by decide +kernel
theorem ref_Hex (c : Int) (h0 : 0 ≤ c) (h1 : c ≤ 255) : Ev (fun k => depotref01_Hex.f k c) (hexR c) := by
  obtain ⟨n, rfl⟩ := Int.eq_ofNat_of_zero_le h0
  have := hex_all ⟨n, by omega⟩
  exact Ev.of (depotref01_Hex.mono _) this
theorem dig0_lo (c : Int) : -1 ≤ Hand.dig0 c ∧ Hand.dig0 c ≤ 15 := by
  unfold Hand.dig0
  repeat' split
  all_goals omega
theorem dig_neg (c base : Int) (hb : 1 ≤ base) : Hand.dig c base < 0 ↔ (Hand.dig0 c < 0 ∨ base ≤ Hand.dig0 c) := by
  have := dig0_lo c
  unfold Hand.dig
  split <;> omega
theorem dig_pos (c base : Int) (h : Hand.dig0 c < base) : Hand.dig c base = Hand.dig0 c := by
  unfold Hand.dig
  rw [if_neg (by omega)]
theorem rread_l0 (s : ByteArray) (base most : Int) (hb : 1 ≤ base) (hs : s.size ≤ 100000) (n : Nat) : ∀ (i : Nat) (acc : Int), s.size - i = n → i ≤ s.size →
    Ev (fun k => depotref02_read.l0 k s base most acc (i : Int)) (readEnd most (readGo s base n acc i)) := by
  induction n with
  | zero =>
    intro i acc hn hi
    refine Ev.step (fun k => by rw [depotref02_read.l0]) (Ev.neg (by omega) ?_)
    show Ev _ (if most < acc then (0, 3) else (acc, 0))
    exact Ev.ite (fun h => by rw [if_pos h]; exact Ev.some' rfl) (fun h => by rw [if_neg h]; exact Ev.some' rfl)
  | succ n ih =>
    intro i acc hn hi
    have hr := bt_range s i
    have hw : wrap64 ((i : Int) + 1) = ((i + 1 : Nat) : Int) := by rw [wrap_id] <;> omega
    refine Ev.step (fun k => by rw [depotref02_read.l0]) (Ev.pos (by omega) (Ev.pos (by omega) (Ev.bind (ref_Hex _ hr.1 hr.2) ?_)))
    rw [readGo, hw]
    have hd := dig_neg (bt s i) base hb
    unfold hexR
    by_cases h1 : Hand.dig0 (bt s i) < 0
    · rw [if_pos h1, if_pos (hd.2 (Or.inl h1))]
      exact Ev.neg (by simp) (Ev.some' rfl)
    · rw [if_neg h1]
      refine Ev.pos rfl ?_
      by_cases h2 : base ≤ Hand.dig0 (bt s i)
      · rw [if_pos (hd.2 (Or.inr h2))]
        exact Ev.pos h2 (Ev.some' rfl)
      · rw [if_neg (fun h => by have := hd.1 h; omega), dig_pos _ _ (by omega)]
        exact Ev.neg h2 (ih (i + 1) _ (by omega) (by omega))
theorem ref_read (s : ByteArray) (base long most : Int) (hb : 1 ≤ base) (hs : s.size ≤ 100000) : Ev (fun k => depotref02_read.f k s base long most) (readP s base long most) := by
  unfold depotref02_read.f readP
  by_cases h1 : s.size = 0
  · rw [if_pos h1]
    refine Ev.pos (by omega) (Ev.step (fun k => by rw [depotref02_read.j0]) ?_)
    exact Ev.pos rfl (Ev.some' rfl)
  · rw [if_neg h1]
    refine Ev.neg (by omega) (Ev.step (fun k => by rw [depotref02_read.j0]) ?_)
    refine Ev.ite (fun h => ?_) (fun h => ?_)
    · rw [if_pos (by simpa using h)]; exact Ev.some' rfl
    · rw [if_neg (by simpa using h)]
      exact rread_l0 s base most hb hs _ 0 0 rfl (by omega)
theorem prog_read (s : ByteArray) (base long most : Int) (hb : 1 ≤ base) (hb2 : base ≤ 16) (hs : s.size ≤ 100000) : decimal_read.f s base long most = some (readP s base long most) := by
  unfold decimal_read.f
  rw [if_pos ⟨hb, hb2, by omega⟩]
theorem prog_ReadHex (s : ByteArray) (most : Int) (hs : s.size ≤ 100000) : decimal_ReadHex.f s most = some (readP s 16 15 most) := by
  unfold decimal_ReadHex.f
  rw [prog_read s 16 15 most (by decide) (by decide) hs]
  rfl
theorem ref_ReadHex (s : ByteArray) (most : Int) (hs : s.size ≤ 100000) : Ev (fun k => depotref02_ReadHex.f k s most) (readP s 16 15 most) := by
  unfold depotref02_ReadHex.f
  exact Ev.bind (ref_read s 16 15 most (by decide) hs) (Ev.some' rfl)
end Go.Proofs.YtmmmfippfoginaaDoor.Pu

/- Digits to a base: what decimal.Hex and its reference write (for seats that reach Hex). -/
namespace Go.Proofs.YtmmmfippfoginaaDoor.Pu
open Go.RowKit Go.Proofs.YtmmmfippfoginaaDoorW.PrintWords Go.Proofs.YtmmmfippfoginaaDoorW.PrintLast Go.Proofs.YtmmmfippfoginaaDoor.PR
set_option linter.unusedVariables false
set_option linter.unusedSimpArgs false

def hexd : List UInt8 := [48, 49, 50, 51, 52, 53, 54, 55, 56, 57, 97, 98, 99, 100, 101, 102]
def dch (d : Nat) : UInt8 := hexd.getD d 0
theorem hexd_lit : (⟨#[48, 49, 50, 51, 52, 53, 54, 55, 56, 57, 97, 98, 99, 100, 101, 102]⟩ : ByteArray) = bOf hexd := rfl
/-- a number's digits to a base -/
def digs (b n : Nat) : List UInt8 := if h : n < b ∨ b < 2 then [dch n] else digs b (n / b) ++ [dch (n % b)]
termination_by n
decreasing_by exact Nat.div_lt_self (by omega) (by omega)
theorem digs_small {b n : Nat} (h : n < b) : digs b n = [dch n] := by rw [digs, dif_pos (Or.inl h)]
theorem digs_big {b n : Nat} (hb : 2 ≤ b) (h : ¬ n < b) : digs b n = digs b (n / b) ++ [dch (n % b)] := by rw [digs, dif_neg (by omega)]
theorem dch_ten : ∀ d : Fin 10, dch d = UInt8.ofNat (48 + d) := by decide
theorem digs_ten (n : Nat) : Lib.decDigits n = digs 10 n := by
  induction n using Nat.strongRecOn with
  | _ n ih =>
    rw [Lib.decDigits]
    by_cases h : n < 10
    · rw [dif_pos h, digs_small h, dch_ten ⟨n, h⟩]
    · rw [dif_neg h, digs_big (by decide) h, ih (n / 10) (by omega), dch_ten ⟨n % 10, by omega⟩]
theorem digs_len (b : Nat) (hb : 2 ≤ b) (m : Nat) : ∀ n : Nat, n < b ^ m → (digs b n).length ≤ max m 1 := by
  induction m with
  | zero => intro n h; rw [digs_small (by simp at h; omega)]; simp
  | succ m ih =>
    intro n h
    by_cases hn : n < b
    · rw [digs_small hn]; simp
    · rw [digs_big hb hn]
      have h2 : n / b < b ^ m := by
        rw [Nat.div_lt_iff_lt_mul (by omega)]
        rw [Nat.pow_succ] at h
        exact h
      have := ih _ h2
      have hm : m ≠ 0 := by
        intro e; subst e
        simp at h2
        omega
      simp; omega
theorem digs_pos (b n : Nat) (hb : 2 ≤ b) : 1 ≤ (digs b n).length := by
  by_cases hn : n < b
  · rw [digs_small hn]; simp
  · rw [digs_big hb hn]; simp
theorem hex_cut (d : Nat) (h : d < 16) : (bOf hexd).extract d (d + 1) = bOf [dch d] := by
  rw [bOf_extract]
  congr 1
  have : ∀ d : Fin 16, (hexd.take (d + 1)).drop d = [dch d] := by decide
  exact this ⟨d, h⟩
/-! ### the reference's digits -/
theorem rdigits (b : Nat) (hb : 2 ≤ b) (hb2 : b ≤ 16) (m : Nat) : ∀ (n : Nat) (acc : List UInt8), n < b ^ m → n ≤ 18446744073709551615 → acc.length + m ≤ 1000 →
    Ev (fun k => depotref02_digits.l0 k (n : Int) (b : Int) (bOf hexd) (bOf acc)) (bOf (digs b n ++ acc)) := by
  have cut : ∀ d : Nat, d < b → ∀ acc : List UInt8, acc.length ≤ 1000 → (bOf hexd).extract ((d : Int)).toNat ((IntKind.u64.wrap ((d : Int) + 1))).toNat = bOf [dch d] ∧ IntKind.u64.wrap ((d : Int) + 1) = ((d + 1 : Nat) : Int) := by
    intro d hd acc _
    have hw : IntKind.u64.wrap ((d : Int) + 1) = ((d + 1 : Nat) : Int) := by rw [IntWalk.u64_in _ (by omega)]; omega
    refine ⟨?_, hw⟩
    rw [hw, Int.toNat_natCast, Int.toNat_natCast]
    exact hex_cut d (by omega)
  have hsz : ((bOf hexd).size : Int) = 16 := rfl
  have last : ∀ (n : Nat) (acc : List UInt8), n < b → acc.length ≤ 1000 → Ev (fun k => depotref02_digits.l0 k (n : Int) (b : Int) (bOf hexd) (bOf acc)) (bOf (digs b n ++ acc)) := by
    intro n acc hn ha
    obtain ⟨e1, e2⟩ := cut n hn acc ha
    refine Ev.step (fun k => by rw [depotref02_digits.l0]) (Ev.neg (by omega) ?_)
    rw [e1, e2, hsz, bOf_append, digs_small hn]
    exact Ev.pos (by omega) (Ev.pos (by omega) (Ev.pos (by omega) (Ev.pos (by rw [bOf_size, bOf_size]; simp; omega) (Ev.some' rfl))))
  induction m with
  | zero =>
    intro n acc h hn ha
    exact last n acc (by simp at h; omega) (by omega)
  | succ m ih =>
    intro n acc h hn ha
    by_cases hlt : n < b
    · exact last n acc hlt (by omega)
    · have hmod : n % b < b := Nat.mod_lt _ (by omega)
      obtain ⟨e1, e2⟩ := cut (n % b) hmod acc (by omega)
      have t1 : Int.tmod (n : Int) (b : Int) = ((n % b : Nat) : Int) := by rw [Int.tmod_eq_emod_of_nonneg (by omega)]; rfl
      obtain ⟨q, hq⟩ : ∃ q, n / b = q := ⟨_, rfl⟩
      have hle : q ≤ n := hq ▸ Nat.div_le_self n b
      have t2 : IntKind.u64.wrap (Int.tdiv (n : Int) (b : Int)) = ((n / b : Nat) : Int) := by
        rw [Int.tdiv_eq_ediv_of_nonneg (by omega), show ((n : Int) / (b : Int)) = (q : Int) by rw [← hq]; rfl, IntWalk.u64_in _ (by omega), hq]
      refine Ev.step (fun k => by rw [depotref02_digits.l0]) (Ev.pos (by omega) (Ev.neg (by omega) ?_))
      rw [t1, t2, e1, e2, hsz, bOf_append, digs_big hb hlt, List.append_assoc]
      refine Ev.pos (by omega) (Ev.pos (by omega) (Ev.pos (by omega) (Ev.pos (by rw [bOf_size, bOf_size]; simp; omega) ?_)))
      refine ih (n / b) _ ?_ (by rw [hq]; omega) (by simp; omega)
      rw [Nat.div_lt_iff_lt_mul (by omega)]
      rw [Nat.pow_succ] at h
      exact h
theorem ref_digits (b : Nat) (hb : 2 ≤ b) (hb2 : b ≤ 16) (n : Nat) (hn : n ≤ 18446744073709551615) : Ev (fun k => depotref02_digits.f k (n : Int) (b : Int)) (bOf (digs b n)) := by
  unfold depotref02_digits.f
  rw [hexd_lit]
  have h : n < b ^ 64 := by
    have h1 : 2 ^ 64 ≤ b ^ 64 := Nat.pow_le_pow_left hb 64
    have h2 : (2 : Nat) ^ 64 = 18446744073709551616 := by decide
    omega
  have := rdigits b hb hb2 64 n [] h hn (by simp)
  rw [List.append_nil] at this
  exact this
theorem hex_bt (d : Nat) (h : d < 16) : bt (bOf hexd) (d : Int) = ((dch d).toNat : Int) := by
  rw [bt_bOf _ _ (by omega) (by show (d : Int) < 16; omega), Int.toNat_natCast]
  rfl
theorem hex_step (n : Nat) (xs : List Int) (hn : n ≤ 9223372036854775807) (hx : xs.length ≤ 1000)
    (ih : ¬ n < 16 → Ev (fun k => decimal_Hex.l0 k ((n / 16 : Nat) : Int) ([((dch (n % 16)).toNat : Int)] ++ xs)) (bOf (digs 16 (n / 16) ++ ([((dch (n % 16)).toNat : Int)] ++ xs).map fun x => UInt8.ofNat x.toNat))) :
    Ev (fun k => decimal_Hex.l0 k (n : Int) xs) (bOf (digs 16 n ++ xs.map fun x => UInt8.ofNat x.toNat)) := by
  have t1 : Int.tmod (n : Int) 16 = ((n % 16 : Nat) : Int) := by rw [Int.tmod_eq_emod_of_nonneg (by omega)]; rfl
  have t2 : wrap64 (Int.tdiv (n : Int) 16) = ((n / 16 : Nat) : Int) := by
    rw [Int.tdiv_eq_ediv_of_nonneg (by omega), show ((n : Int) / 16) = ((n / 16 : Nat) : Int) from rfl, wrap_id (by omega) (by omega)]
  refine Ev.step (fun k => by rw [decimal_Hex.l0]) ?_
  rw [t1, t2, hexd_lit, hex_bt _ (by omega)]
  refine Ev.pos (by omega) (Ev.pos (by omega) (Ev.sbind rfl (Ev.pos (by simp; omega) (Ev.sbind rfl ?_))))
  have hd : UInt8.ofNat ((dch (n % 16)).toNat : Int).toNat = dch (n % 16) := by simp
  refine Ev.ite (fun h0 => ?_) (fun h0 => ?_)
  · have hlt : n < 16 := by omega
    rw [digs_small hlt]
    refine Ev.some' ?_
    unfold strOfNums
    rw [bOf_mk]
    congr 1
    rw [List.map_append, List.map_cons, hd, show n % 16 = n by omega]
    rfl
  · have hlt : ¬ n < 16 := by omega
    have := ih hlt
    rw [digs_big (by decide) hlt]
    rw [List.map_append, List.map_cons, hd] at this
    rw [List.append_assoc]
    exact this
theorem hex_l0 (m : Nat) : ∀ (n : Nat) (xs : List Int), n < 16 ^ (m + 1) → n ≤ 9223372036854775807 → xs.length + m ≤ 1000 →
    Ev (fun k => decimal_Hex.l0 k (n : Int) xs) (bOf (digs 16 n ++ xs.map fun x => UInt8.ofNat x.toNat)) := by
  induction m with
  | zero => intro n xs h hn hx; exact hex_step n xs hn (by omega) (fun hc => absurd (by simpa using h) hc)
  | succ m ih =>
    intro n xs h hn hx
    refine hex_step n xs hn (by omega) (fun hc => ih (n / 16) _ ?_ (by omega) (by simp; omega))
    rw [Nat.div_lt_iff_lt_mul (by omega)]
    rw [Nat.pow_succ] at h
    exact h
def hexs (n : Int) : List UInt8 := if n < 0 then [] else digs 16 n.toNat
theorem prog_Hex (n : Int) (h : n ≤ 9223372036854775807) : Ev (fun k => decimal_Hex.f k n) (bOf (hexs n)) := by
  unfold decimal_Hex.f hexs
  refine Ev.ite (fun hn => ?_) (fun hn => ?_)
  · rw [if_pos hn]; exact Ev.some' rfl
  · rw [if_neg hn]
    obtain ⟨m, rfl⟩ := Int.eq_ofNat_of_zero_le (show 0 ≤ n by omega)
    have h2 : (16 : Nat) ^ 16 = 18446744073709551616 := by decide
    have := hex_l0 15 m [] (by omega) (by omega) (by simp)
    rw [List.map_nil, List.append_nil] at this
    exact this
theorem ref_Hex' (n : Int) (h : n ≤ 9223372036854775807) : Ev (fun k => depotref02_Hex.f k n) (bOf (hexs n)) := by
  unfold depotref02_Hex.f hexs
  refine Ev.ite (fun hn => ?_) (fun hn => ?_)
  · rw [if_pos hn]; exact Ev.some' rfl
  · rw [if_neg hn]
    have e : IntKind.u64.wrap n = ((n.toNat : Nat) : Int) := by rw [IntWalk.u64_in _ (by omega)]; omega
    rw [e]
    exact Ev.bind (ref_digits 16 (by decide) (by decide) _ (by omega)) (Ev.some' rfl)
/-! ### read back -/
theorem dig_dch : ∀ (b : Fin 17) (d : Fin 16), (d : Nat) < b → Hand.dig ((dch d).toNat : Int) ((b : Nat) : Int) = ((d : Nat) : Int) := by decide +kernel
end Go.Proofs.YtmmmfippfoginaaDoor.Pu

/- Cuts, texts, tokens, fields: the program's and the reference's (for seats that reach fields.Parse). -/
namespace Go.Proofs.YtmmmfippfoginaaDoor.Pu
open Go.RowKit Go.Proofs.YtmmmfippfoginaaDoorW.PrintWords Go.Proofs.YtmmmfippfoginaaDoorW.PrintLast Go.Proofs.YtmmmfippfoginaaDoor.PR
set_option linter.unusedVariables false
set_option linter.unusedSimpArgs false

/-! ### cuts -/
def cutAt (c : UInt8) : List UInt8 → List UInt8 × List UInt8 × Bool
  | [] => ([], [], false)
  | x :: l => if x = c then ([], l, true) else (x :: (cutAt c l).1, (cutAt c l).2.1, (cutAt c l).2.2)
theorem cut_index (c : UInt8) : ∀ l, Lib.indexByte l c = if (cutAt c l).2.2 = true then ((cutAt c l).1.length : Int) else -1
  | [] => rfl
  | x :: l => by
    have ih := cut_index c l
    unfold Lib.indexByte cutAt
    by_cases h : x = c
    · subst h; simp
    · rw [if_neg (by simpa using h), if_neg h, ih]
      cases (cutAt c l).2.2
      · simp
      · simp only [if_true, List.length_cons]
        rw [if_neg (by simp <;> omega)]
        omega
theorem cut_yes (c : UInt8) : ∀ l, (cutAt c l).2.2 = true → l = (cutAt c l).1 ++ c :: (cutAt c l).2.1
  | [], h => by cases h
  | x :: l, h => by
    unfold cutAt at h ⊢
    by_cases e : x = c
    · subst e; simp
    · rw [if_neg e] at h
      simp only [if_neg e]
      have := cut_yes c l h
      rw [List.cons_append, ← this]
theorem cut_no (c : UInt8) : ∀ l, (cutAt c l).2.2 = false → (cutAt c l).1 = l ∧ (cutAt c l).2.1 = []
  | [], _ => ⟨rfl, rfl⟩
  | x :: l, h => by
    unfold cutAt at h ⊢
    by_cases e : x = c
    · rw [if_pos e] at h; cases h
    · rw [if_neg e] at h
      simp only [if_neg e]
      have := cut_no c l h
      exact ⟨by rw [this.1], this.2⟩
theorem cut_le (c : UInt8) (l : List UInt8) : (cutAt c l).1.length ≤ l.length ∧ (cutAt c l).2.1.length ≤ l.length := by
  cases h : (cutAt c l).2.2
  · have := cut_no c l h; rw [this.1, this.2]; simp
  · have := congrArg List.length (cut_yes c l h)
    simp at this
    omega
theorem prog_Cut (c : UInt8) (l : List UInt8) (h : l.length ≤ 4294967296) : octet_Cut.f (bOf l) (c.toNat : Int) = some (bOf (cutAt c l).1, bOf (cutAt c l).2.1, (cutAt c l).2.2) := by
  unfold octet_Cut.f strings_IndexByte.f
  rw [Option.bind_some, data_bOf, show ((c.toNat : Int)).toNat.toUInt8 = c by simp, cut_index]
  cases hh : (cutAt c l).2.2
  · have := cut_no c l hh
    simp only [Bool.false_eq_true, if_false]
    rw [if_pos (by decide), this.1, this.2]; rfl
  · have hy := cut_yes c l hh
    have hl := congrArg List.length hy
    simp at hl
    rw [if_pos rfl, if_neg (by omega), if_pos (by omega), bOf_size, if_pos (by omega), wrap_id (by omega) (by omega), if_pos (by omega), if_pos (by omega), bOf_extract, bOf_extract]
    have e1 : ((l.take ((cutAt c l).1.length : Int).toNat).drop 0) = (cutAt c l).1 := by
      rw [Int.toNat_natCast, List.drop_zero]
      conv => lhs; arg 2; rw [hy]
      exact List.take_left
    have e2 : ((l.take l.length).drop (((cutAt c l).1.length : Int) + 1).toNat) = (cutAt c l).2.1 := by
      rw [List.take_length, show (((cutAt c l).1.length : Int) + 1).toNat = (cutAt c l).1.length + 1 by omega]
      conv => lhs; arg 2; rw [hy]
      rw [List.drop_append, List.drop_eq_nil_of_le (by omega), show (cutAt c l).1.length + 1 - (cutAt c l).1.length = 1 by omega]
      rfl
    rw [e1, e2]
theorem rcut_l0 (c : UInt8) (l : List UInt8) (h : l.length ≤ 4294967296) (n : Nat) : ∀ (p s : List UInt8), s.length = n → l = p ++ s →
    Ev (fun k => depotref01_Cut.l0 k (bOf l) (c.toNat : Int) (p.length : Int)) (bOf (p ++ (cutAt c s).1), bOf (cutAt c s).2.1, (cutAt c s).2.2) := by
  induction n with
  | zero =>
    intro p s hs hl
    have : s = [] := List.eq_nil_of_length_eq_zero hs
    subst this
    rw [List.append_nil] at hl
    subst hl
    refine Ev.step (fun k => by rw [depotref01_Cut.l0]) (Ev.neg (by rw [bOf_size]; omega) (Ev.some' ?_))
    show (bOf l, bOf [], false) = (bOf (l ++ []), bOf [], false)
    rw [List.append_nil]
  | succ n ih =>
    intro p s hs hl
    obtain ⟨x, s, rfl⟩ : ∃ x t, s = x :: t := by
      cases s with
      | nil => simp at hs
      | cons x t => exact ⟨x, t, rfl⟩
    have hlen : l.length = p.length + (s.length + 1) := by rw [hl]; simp
    have hb : bt (bOf l) (p.length : Int) = (x.toNat : Int) := by
      rw [bt_bOf _ _ (by omega) (by omega), Int.toNat_natCast, at_, hl]
      simp [List.getD_eq_getElem?_getD]
    have hw : wrap64 ((p.length : Int) + 1) = (((p ++ [x]).length : Nat) : Int) := by rw [wrap_id (by omega) (by omega)]; simp
    refine Ev.step (fun k => by rw [depotref01_Cut.l0]) (Ev.pos (by rw [bOf_size]; omega) (Ev.pos (by omega) ?_))
    rw [hb, bOf_size]
    by_cases e : x = c
    · subst e
      have hc : cutAt x (x :: s) = ([], s, true) := by unfold cutAt; rw [if_pos rfl]
      rw [hc]
      refine Ev.pos rfl (Ev.pos (by omega) (Ev.pos (by rw [hw]; omega) (Ev.pos (by rw [hw]; simp; omega) (Ev.some' ?_))))
      rw [hw, bOf_extract, bOf_extract, Int.toNat_natCast, Int.toNat_natCast, List.take_length, List.append_nil, hl]
      congr 1
      · congr 1; simp
      · congr 1
        rw [show p ++ x :: s = (p ++ [x]) ++ s by simp, List.drop_left]
    · have hc : cutAt c (x :: s) = (x :: (cutAt c s).1, (cutAt c s).2.1, (cutAt c s).2.2) := by rw [cutAt, if_neg e]
      rw [hc]
      refine Ev.neg (fun h => e (by
        have : x.toNat = c.toNat := by omega
        exact UInt8.toNat_inj.1 this)) ?_
      rw [hw]
      refine Ev.eq (ih (p ++ [x]) s (by simpa using hs) (by rw [hl]; simp)) ?_
      simp
theorem ref_Cut (c : UInt8) (l : List UInt8) (h : l.length ≤ 4294967296) : Ev (fun k => depotref01_Cut.f k (bOf l) (c.toNat : Int)) (bOf (cutAt c l).1, bOf (cutAt c l).2.1, (cutAt c l).2.2) := by
  unfold depotref01_Cut.f
  exact rcut_l0 c l h _ [] l rfl rfl
/-! ### kinds -/
def textU (b : UInt8) : Bool := Hand.textB (b.toNat : Int)
def tokU (b : UInt8) : Bool := Hand.tokenB (b.toNat : Int)
theorem allB_list (p : Int → Bool) (l : List UInt8) : Hand.allB p (bOf l) (bOf l).size = l.all fun b => p (b.toNat : Int) := by
  rw [bOf_size]
  have key : ∀ n, n ≤ l.length → Hand.allB p (bOf l) n = (l.take n).all fun b => p (b.toNat : Int) := by
    intro n
    induction n with
    | zero => intro _; simp [Hand.allB_zero]
    | succ n ih =>
      intro hn
      rw [Hand.allB_succ, ih (by omega), List.take_add_one, List.all_append, bt_bOf _ _ (by omega) (by omega), Int.toNat_natCast, at_lt _ _ (by omega), List.getElem?_eq_getElem (by omega)]
      simp
  rw [key _ (Nat.le_refl _), List.take_length]
theorem prog_IsText (l : List UInt8) (h : l.length ≤ 4294967296) : octet_IsText.f (bOf l) = some (l.all textU) := by
  unfold octet_IsText.f
  rw [if_pos (by rw [bOf_size]; omega), allB_list]; rfl
theorem prog_IsToken (l : List UInt8) (h : l.length ≤ 4294967296) : octet_IsToken.f (bOf l) = some (!l.isEmpty && l.all tokU) := by
  unfold octet_IsToken.f octet_isToken
  rw [if_pos (by rw [bOf_size]; omega)]
  cases l with
  | nil => rfl
  | cons x l => rw [if_neg (by rw [bOf_size]; simp), allB_list]; rfl
theorem text_all : ∀ c : Fin 256, depotref01_Text.f ((c : Nat) : Int) = some (Hand.textB ((c : Nat) : Int)) := by decide +kernel
theorem ref_Text (b : UInt8) : depotref01_Text.f (b.toNat : Int) = some (textU b) := text_all ⟨b.toNat, b.toNat_lt⟩
theorem tok_all : ∀ c : Fin 256, depotref01_Token.f 20 ((c : Nat) : Int) = some (Hand.tokenB ((c : Nat) : Int)) := by decide +kernel
theorem ref_Token (b : UInt8) : Ev (fun k => depotref01_Token.f k (b.toNat : Int)) (tokU b) := Ev.of (depotref01_Token.mono _) (tok_all ⟨b.toNat, b.toNat_lt⟩)
theorem bt_at_cut (p : List UInt8) (x : UInt8) (s : List UInt8) : bt (bOf (p ++ x :: s)) (p.length : Int) = (x.toNat : Int) := by
  rw [bt_bOf _ _ (by omega) (by simp; omega), Int.toNat_natCast, at_]
  simp [List.getD_eq_getElem?_getD]
theorem rtext_l0 (l : List UInt8) (h : l.length ≤ 4294967296) (n : Nat) : ∀ (p s : List UInt8), s.length = n → l = p ++ s → Ev (fun k => depotref01_IsText.l0 k (bOf l) (p.length : Int)) (s.all textU) := by
  induction n with
  | zero =>
    intro p s hs hl
    have : s = [] := List.eq_nil_of_length_eq_zero hs
    subst this
    rw [List.append_nil] at hl
    subst hl
    refine Ev.step (fun k => by rw [depotref01_IsText.l0]) (Ev.neg (by rw [bOf_size]; omega) (Ev.some' ?_))
    rfl
  | succ n ih =>
    intro p s hs hl
    obtain ⟨x, s, rfl⟩ : ∃ x t, s = x :: t := by
      cases s with
      | nil => simp at hs
      | cons x t => exact ⟨x, t, rfl⟩
    have hlen : l.length = p.length + (s.length + 1) := by rw [hl]; simp
    have hb : bt (bOf l) (p.length : Int) = (x.toNat : Int) := by rw [hl]; exact bt_at_cut p x s
    have hw : wrap64 ((p.length : Int) + 1) = (((p ++ [x]).length : Nat) : Int) := by rw [wrap_id (by omega) (by omega)]; simp
    refine Ev.step (fun k => by rw [depotref01_IsText.l0]) (Ev.pos (by rw [bOf_size]; omega) (Ev.pos (by omega) ?_))
    rw [hb]
    refine Ev.sbind (ref_Text x) ?_
    rw [List.all_cons]
    cases hx : textU x
    · exact Ev.neg (by simp) (Ev.some' rfl)
    · refine Ev.pos rfl ?_
      rw [hw]
      exact Ev.eq (ih (p ++ [x]) s (by simpa using hs) (by rw [hl]; simp)) (by simp)
theorem ref_IsText (l : List UInt8) (h : l.length ≤ 4294967296) : Ev (fun k => depotref01_IsText.f k (bOf l)) (l.all textU) := by
  unfold depotref01_IsText.f
  exact rtext_l0 l h _ [] l rfl rfl
theorem rtok_l0 (l : List UInt8) (h : l.length ≤ 4294967296) (n : Nat) : ∀ (p s : List UInt8), s.length = n → l = p ++ s → Ev (fun k => depotref01_IsToken.l0 k (bOf l) (p.length : Int)) (!l.isEmpty && s.all tokU) := by
  induction n with
  | zero =>
    intro p s hs hl
    have : s = [] := List.eq_nil_of_length_eq_zero hs
    subst this
    rw [List.append_nil] at hl
    subst hl
    refine Ev.step (fun k => by rw [depotref01_IsToken.l0]) (Ev.neg (by rw [bOf_size]; omega) (Ev.some' ?_))
    rw [bOf_size]
    cases l <;> simp
  | succ n ih =>
    intro p s hs hl
    obtain ⟨x, s, rfl⟩ : ∃ x t, s = x :: t := by
      cases s with
      | nil => simp at hs
      | cons x t => exact ⟨x, t, rfl⟩
    have hlen : l.length = p.length + (s.length + 1) := by rw [hl]; simp
    have hb : bt (bOf l) (p.length : Int) = (x.toNat : Int) := by rw [hl]; exact bt_at_cut p x s
    have hw : wrap64 ((p.length : Int) + 1) = (((p ++ [x]).length : Nat) : Int) := by rw [wrap_id (by omega) (by omega)]; simp
    refine Ev.step (fun k => by rw [depotref01_IsToken.l0]) (Ev.pos (by rw [bOf_size]; omega) (Ev.pos (by omega) ?_))
    rw [hb]
    refine Ev.bind (ref_Token x) ?_
    rw [List.all_cons]
    cases hx : tokU x
    · exact Ev.neg (by simp) (Ev.some' (by simp))
    · refine Ev.pos rfl ?_
      rw [hw]
      exact Ev.eq (ih (p ++ [x]) s (by simpa using hs) (by rw [hl]; simp)) (by simp)
theorem ref_IsToken (l : List UInt8) (h : l.length ≤ 4294967296) : Ev (fun k => depotref01_IsToken.f k (bOf l)) (!l.isEmpty && l.all tokU) := by
  unfold depotref01_IsToken.f
  exact rtok_l0 l h _ [] l rfl rfl
/-! ### fields -/
def isTok (l : List UInt8) : Bool := !l.isEmpty && l.all tokU
def isTxt (l : List UInt8) : Bool := l.all textU
def parseL (l : List UInt8) : List UInt8 × List UInt8 × Int :=
  if 8192 < l.length then ([], [], 4)
  else if (cutAt 58 l).2.2 = true ∧ isTok (cutAt 58 l).1 = true ∧ isTxt (trim (cutAt 58 l).2.1) = true then ((cutAt 58 l).1, trim (cutAt 58 l).2.1, 0)
  else ([], [], 21)
theorem prog_Trim (l : List UInt8) (h : l.length ≤ 4294967296) : octet_Trim.f (bOf l) = some (bOf (trim l)) := by
  unfold octet_Trim.f
  rw [if_pos (by rw [bOf_size]; omega), data_bOf, trim_eq]; rfl
theorem prog_Parse (l : List UInt8) (h : l.length ≤ 4294967296) : fields_Parse.f (bOf l) = some (bOf (parseL l).1, bOf (parseL l).2.1, (parseL l).2.2) := by
  unfold fields_Parse.f parseL
  have hc := cut_le 58 l
  have ht := trim_le (cutAt 58 l).2.1
  rw [bOf_size]
  by_cases c1 : 8192 < l.length
  · rw [if_pos (by omega), if_pos c1]; rfl
  · rw [if_neg (by omega), if_neg c1, show (58 : Int) = (((58 : UInt8).toNat : Nat) : Int) by rfl, prog_Cut 58 l h, Option.bind_some, prog_Trim _ (by omega), Option.bind_some, prog_IsToken _ (by omega), prog_IsText _ (by omega)]
    simp only [Option.bind_some]
    cases h1 : (cutAt 58 l).2.2
    · rw [if_neg (by simp), if_neg (by simp)]; rfl
    · rw [if_pos rfl]
      cases h2 : isTok (cutAt 58 l).1
      · unfold isTok at h2
        rw [h2, if_neg (by simp), if_neg (by simp)]; rfl
      · unfold isTok at h2
        rw [h2, if_pos rfl]
        cases h3 : isTxt (trim (cutAt 58 l).2.1)
        · unfold isTxt at h3
          rw [h3, if_neg (by simp), if_neg (by simp)]; rfl
        · unfold isTxt at h3
          rw [h3, if_pos rfl, if_pos ⟨rfl, rfl, rfl⟩]
theorem ref_Parse (l : List UInt8) (h : l.length ≤ 4294967296) : Ev (fun k => depotref09_Parse.f k (bOf l)) (bOf (parseL l).1, bOf (parseL l).2.1, (parseL l).2.2) := by
  unfold depotref09_Parse.f parseL
  have hc := cut_le 58 l
  have ht := trim_le (cutAt 58 l).2.1
  rw [bOf_size]
  by_cases c1 : 8192 < l.length
  · refine Ev.pos (by omega) (Ev.some' ?_)
    rw [if_pos c1]; rfl
  · refine Ev.neg (by omega) (Ev.bind (ref_Cut 58 l h) (Ev.bind (ref_Trim _ (by rw [bOf_size]; omega)) ?_))
    rw [if_neg c1]
    simp only [data_bOf]
    cases h1 : (cutAt 58 l).2.2
    · refine Ev.neg (by simp) (Ev.some' ?_)
      rw [if_neg (by simp)]; rfl
    · refine Ev.pos rfl (Ev.bind (ref_IsToken _ (by omega)) ?_)
      cases h2 : isTok (cutAt 58 l).1
      · unfold isTok at h2
        rw [h2]
        refine Ev.neg (by simp) (Ev.some' ?_)
        rw [if_neg (by simp)]; rfl
      · unfold isTok at h2
        rw [h2]
        refine Ev.pos rfl (Ev.bind (ref_IsText _ (by omega)) ?_)
        cases h3 : isTxt (trim (cutAt 58 l).2.1)
        · unfold isTxt at h3
          rw [h3]
          refine Ev.neg (by simp) (Ev.some' ?_)
          rw [if_neg (by simp)]; rfl
        · unfold isTxt at h3
          rw [h3]
          refine Ev.pos rfl (Ev.some' ?_)
          rw [if_pos ⟨rfl, rfl, rfl⟩]
end Go.Proofs.YtmmmfippfoginaaDoor.Pu

/- Chunks: decoding, the program's and the reference's. -/
namespace Go.Proofs.YtmmmfippfoginaaDoor.Pu
open Go.RowKit Go.Proofs.YtmmmfippfoginaaDoorW.PrintWords Go.Proofs.YtmmmfippfoginaaDoorW.PrintLast Go.Proofs.YtmmmfippfoginaaDoor.PR
set_option linter.unusedVariables false
set_option linter.unusedSimpArgs false

/-! ### lines -/
def lineL : List UInt8 → Option (List UInt8 × List UInt8)
  | [] => none
  | c :: r => if ([13, 10] : List UInt8).isPrefixOf (c :: r) = true then some ([], r.drop 1) else (lineL r).map fun p => (c :: p.1, p.2)
theorem line_eq : ∀ (l a b : List UInt8), lineL l = some (a, b) → l = a ++ 13 :: 10 :: b
  | [], a, b, h => by cases h
  | c :: r, a, b, h => by
    unfold lineL at h
    split at h
    case isTrue hp =>
      obtain ⟨rfl, rfl⟩ : [] = a ∧ r.drop 1 = b := by simpa using h
      obtain ⟨t, ht⟩ := List.isPrefixOf_iff_prefix.1 hp
      obtain ⟨rfl, rfl⟩ : 13 = c ∧ 10 :: t = r := by simpa using ht
      rfl
    case isFalse =>
      cases hr : lineL r with
      | none => rw [hr] at h; cases h
      | some q =>
        rw [hr] at h
        obtain ⟨rfl, rfl⟩ : c :: q.1 = a ∧ q.2 = b := by simpa using h
        have := line_eq r q.1 q.2 hr
        rw [List.cons_append, ← this]
theorem line_index : ∀ l : List UInt8, Lib.index l [13, 10] = match lineL l with | none => -1 | some q => (q.1.length : Int)
  | [] => rfl
  | c :: r => by
    have ih := line_index r
    unfold Lib.index lineL
    by_cases hp : ([13, 10] : List UInt8).isPrefixOf (c :: r) = true
    · rw [if_pos hp, if_pos hp]; rfl
    · rw [if_neg hp, if_neg hp, ih]
      cases lineL r with
      | none => rfl
      | some q =>
        simp only [Option.map_some, List.length_cons]
        rw [if_neg (by simp <;> omega)]
        simp
theorem lineI_list (l : List UInt8) : Hand.lineI (bOf l) = match lineL l with | none => -1 | some q => (q.1.length : Int) := line_index l
/-! ### sizes -/
def szL (l : List UInt8) : Int × Int := Hand.szR (readP (bOf (trimR (cutAt 59 l).1)) 16 15 1152921504606846976).1 (readP (bOf (trimR (cutAt 59 l).1)) 16 15 1152921504606846976).2 (isTxt (cutAt 59 l).2.1)
theorem trimR_le (l : List UInt8) : (trimR l).length ≤ l.length := by
  unfold trimR
  rw [List.length_reverse]
  have := (List.dropWhile_suffix (p := isBl) (l := l.reverse)).length_le
  simpa using this
theorem prog_sz (l : List UInt8) (h : l.length ≤ 100000) : chunk_sz (bOf l) = some (szL l) := by
  have hc := cut_le 59 l
  have ht := trimR_le (cutAt 59 l).1
  unfold chunk_sz szL
  rw [show (59 : Int) = (((59 : UInt8).toNat : Nat) : Int) by rfl, prog_Cut 59 l (by omega)]
  simp only [Option.bind_some]
  unfold strings_TrimRight.f
  rw [if_pos ⟨by rw [bOf_size]; omega, by decide, by decide⟩, Option.bind_some, data_bOf]
  have e : (⟨(Lib.trimRightS (cutAt 59 l).1 (⟨#[32, 9]⟩ : ByteArray).data.toList).toArray⟩ : ByteArray) = bOf (trimR (cutAt 59 l).1) := rfl
  rw [e, prog_ReadHex _ _ (by rw [bOf_size]; omega), Option.bind_some, prog_IsText _ (by omega)]
  rfl
theorem rsz_j2 (v : Int) (b : Bool) : Ev (fun k => depotref11_size.j2 k v b) (if b = true then (0, 25) else if 65536 < v then (0, 4) else (v, 0)) := by
  refine Ev.step (fun k => by rw [depotref11_size.j2]) (Ev.ite (fun h => Ev.some' ?_) (fun h => Ev.ite (fun h2 => Ev.some' ?_) (fun h2 => Ev.some' ?_)))
  · rw [if_pos h]
  · rw [if_neg h, if_pos (by omega)]
  · rw [if_neg h, if_neg (by omega)]
theorem rsz_j1 (d m : List UInt8) (has : Bool) (hd : d.length ≤ 100000) (hm : m.length ≤ 100000) (hh : has = false → m = []) :
    Ev (fun k => depotref11_size.j1 k (bOf d) (bOf m) has) (Hand.szR (readP (bOf d) 16 15 1152921504606846976).1 (readP (bOf d) 16 15 1152921504606846976).2 (isTxt m)) := by
  refine Ev.step (fun k => by rw [depotref11_size.j1]) (Ev.bind (ref_ReadHex _ _ (by rw [bOf_size]; omega)) ?_)
  unfold Hand.szR
  by_cases c1 : (readP (bOf d) 16 15 1152921504606846976).2 = 0
  · rw [if_neg (by simpa using c1)]
    refine Ev.pos c1 ?_
    cases has
    · refine Ev.neg (by simp) (Ev.eq (rsz_j2 _ _) ?_)
      obtain rfl := hh rfl
      rfl
    · refine Ev.pos rfl (Ev.bind (ref_IsText m (by omega)) (Ev.eq (rsz_j2 _ _) ?_))
      show _ = if isTxt m = false then _ else _
      unfold isTxt
      cases m.all textU <;> rfl
  · rw [if_pos c1]
    exact Ev.neg c1 (Ev.eq (rsz_j2 _ _) (if_pos rfl))
theorem rsz_l0 (m : List UInt8) (has : Bool) (hm : m.length ≤ 100000) (hh : has = false → m = []) (n : Nat) : ∀ d : List UInt8, d.length = n → n ≤ 100000 →
    Ev (fun k => depotref11_size.l0 k (bOf d) (bOf m) has) (Hand.szR (readP (bOf (trimR d)) 16 15 1152921504606846976).1 (readP (bOf (trimR d)) 16 15 1152921504606846976).2 (isTxt m)) := by
  induction n with
  | zero =>
    intro d hd hn
    have : d = [] := List.eq_nil_of_length_eq_zero hd
    subst this
    refine Ev.step (fun k => by rw [depotref11_size.l0]) (Ev.neg (by rw [bOf_size]; simp) ?_)
    exact rsz_j1 [] m has (by simp) hm hh
  | succ n ih =>
    intro d hd hn
    obtain ⟨e, x, rfl⟩ : ∃ e x, d = e ++ [x] := by
      rcases List.eq_nil_or_concat d with h | ⟨e, x, h⟩
      · subst h; simp at hd
      · exact ⟨e, x, by simpa using h⟩
    have he : e.length = n := by simpa using hd
    have e0 : (bOf (e ++ [x])).size = e.length + 1 := by rw [bOf_size]; simp
    have hw : wrap64 (((bOf (e ++ [x])).size : Int) - 1) = (e.length : Int) := by rw [e0, wrap_id (by omega) (by omega)]; omega
    have hb : bt (bOf (e ++ [x])) (e.length : Int) = (x.toNat : Int) := bt_at_cut e x []
    have hx : (bOf (e ++ [x])).extract 0 ((e.length : Int)).toNat = bOf e := by
      rw [bOf_extract, Int.toNat_natCast, List.drop_zero, List.take_left]
    have ht : trimR (e ++ [x]) = if isBl x = true then trimR e else e ++ [x] := by
      unfold trimR
      rw [List.reverse_append, List.reverse_singleton, List.singleton_append, List.dropWhile_cons]
      split <;> simp
    have h32 : (x.toNat : Int) = 32 ↔ x = 32 := u8_eq (by decide)
    have h9 : (x.toNat : Int) = 9 ↔ x = 9 := u8_eq (by decide)
    refine Ev.step (fun k => by rw [depotref11_size.l0]) (Ev.pos (by rw [e0]; omega) ?_)
    rw [hw, hb, hx]
    refine Ev.pos (by omega) (Ev.pos (by rw [e0]; omega) ?_)
    by_cases c1 : x = 32
    · have : isBl x = true := by subst c1; rfl
      rw [ht, if_pos this]
      exact Ev.pos (h32.2 c1) (Ev.pos (by rw [e0]; omega) (ih e he (by omega)))
    · refine Ev.neg (fun h => c1 (h32.1 h)) ?_
      by_cases c2 : x = 9
      · have : isBl x = true := by subst c2; rfl
        rw [ht, if_pos this]
        exact Ev.pos (h9.2 c2) (Ev.pos (by rw [e0]; omega) (ih e he (by omega)))
      · have : ¬ isBl x = true := by simp [isBl, c1, c2]
        rw [ht, if_neg this]
        exact Ev.neg (fun h => c2 (h9.1 h)) (rsz_j1 _ m has (by simp; omega) hm hh)
theorem ref_sz (l : List UInt8) (h : l.length ≤ 100000) : Ev (fun k => depotref11_size.f k (bOf l)) (szL l) := by
  have hc := cut_le 59 l
  unfold depotref11_size.f
  refine Ev.bind (ref_Cut 59 l (by omega)) ?_
  exact rsz_l0 _ _ (by omega) (fun h0 => (cut_no 59 l h0).2) _ _ rfl (by omega)
end Go.Proofs.YtmmmfippfoginaaDoor.Pu

/- Chunks: whole decodings, the program's and the reference's. -/
namespace Go.Proofs.YtmmmfippfoginaaDoor.Pu
open Go.RowKit Go.Proofs.YtmmmfippfoginaaDoorW.PrintWords Go.Proofs.YtmmmfippfoginaaDoorW.PrintLast Go.Proofs.YtmmmfippfoginaaDoor.PR
set_option linter.unusedVariables false
set_option linter.unusedSimpArgs false

theorem dig16 (c : Int) : Hand.dig c 16 ≤ 15 := by
  unfold Hand.dig Hand.dig0
  repeat' split
  all_goals omega
theorem readGo_range (s : ByteArray) : ∀ (n : Nat) (acc : Int) (i j : Nat) (v : Int), n + j = 15 → 0 ≤ acc → acc < 16 ^ j → readGo s 16 n acc i = some v → 0 ≤ v ∧ v < 16 ^ 15
  | 0, acc, i, j, v, hj, h0, h1, h => by
    rw [readGo] at h
    obtain rfl := Option.some.inj h
    have : j = 15 := by omega
    subst this
    exact ⟨h0, h1⟩
  | n + 1, acc, i, j, v, hj, h0, h1, h => by
    rw [readGo] at h
    split at h
    case isTrue => cases h
    case isFalse hd =>
      have hd2 := dig16 (bt s i)
      have hp : (16 : Int) ^ (j + 1) ≤ 16 ^ 15 := by
        have : (16 : Nat) ^ (j + 1) ≤ 16 ^ 15 := Nat.pow_le_pow_right (by decide) (by omega)
        exact_mod_cast this
      have e15 : (16 : Int) ^ 15 = 1152921504606846976 := by decide
      have hs : (16 : Int) ^ (j + 1) = 16 ^ j * 16 := Int.pow_succ 16 j
      rw [wrap_id (n := acc * 16) (by omega) (by omega), wrap_id (by omega) (by omega)] at h
      exact readGo_range s n _ (i + 1) (j + 1) v (by omega) (by omega) (by omega) h
theorem readP_range (s : ByteArray) (most : Int) : 0 ≤ (readP s 16 15 most).1 := by
  unfold readP
  split
  · exact Int.le_refl _
  · split
    · exact Int.le_refl _
    case isFalse hl =>
      cases h : readGo s 16 s.size 0 0 with
      | none => exact Int.le_refl _
      | some v =>
        have hr : 0 ≤ v := by
          by_cases hz : s.size = 0
          · rw [hz, readGo] at h
            obtain rfl := Option.some.inj h
            exact Int.le_refl _
          · have key : ∀ (n : Nat), n ≤ 15 → ∀ (acc : Int) (i : Nat) (v : Int), 0 ≤ acc → acc < 16 ^ (15 - n) → readGo s 16 n acc i = some v → 0 ≤ v :=
              fun n hn acc i v h0 h1 h => (readGo_range s n acc i (15 - n) v (by omega) h0 h1 h).1
            have hp : (0 : Int) < 16 ^ (15 - s.size) := Int.pow_pos (by decide)
            exact key s.size (by omega) 0 0 v (Int.le_refl _) hp h
        show 0 ≤ (if most < v then ((0 : Int), (3 : Int)) else (v, 0)).1
        split
        · exact Int.le_refl _
        · exact hr
theorem szL_range (l : List UInt8) : 0 ≤ (szL l).1 ∧ (szL l).1 ≤ 65536 := by
  refine ⟨?_, szR_le _ _ _⟩
  unfold szL Hand.szR
  have := readP_range (bOf (trimR (cutAt 59 l).1)) 1152921504606846976
  split
  · exact Int.le_refl _
  · split
    · exact Int.le_refl _
    · split
      · exact Int.le_refl _
      · exact this
/-! ### trailers, decodings: over lists -/
def trL : Nat → Nat → List UInt8 → Int → Int × Int
  | 0, _, _, _ => (25, 0)
  | k + 1, n, s, g => match lineL s with
    | none => (25, g)
    | some (a, b) => if a = [] then (0, g + 2) else if ¬ (parseL a).2.2 = 0 then (25, g) else if n = 64 then (4, g) else trL k (n + 1) b (g + (a.length + 2))
def decL : Nat → List UInt8 → Int → List UInt8 → List UInt8 × Int × Int
  | 0, _, _, _ => ([], 0, 25)
  | k + 1, s, g, body => match lineL s with
    | none => ([], 0, 25)
    | some (a, b) =>
      if ¬ (szL a).2 = 0 then ([], 0, (szL a).2)
      else if 0 < (szL a).1 then
        if 65536 < body.length + (szL a).1 then ([], 0, 4)
        else if (b.length : Int) < (szL a).1 + 2 then ([], 0, 25)
        else if (b.drop (szL a).1.toNat).take 2 = [13, 10] then decL k (b.drop ((szL a).1 + 2).toNat) (g + (a.length + 2) + ((szL a).1 + 2)) (body ++ b.take (szL a).1.toNat)
        else ([], 0, 25)
      else if (trL (b.length + 1) 0 b (g + (a.length + 2))).1 = 0 then (body, (trL (b.length + 1) 0 b (g + (a.length + 2))).2, 0) else ([], 0, (trL (b.length + 1) 0 b (g + (a.length + 2))).1)
theorem line_len {s a b : List UInt8} (h : lineL s = some (a, b)) : s.length = a.length + 2 + b.length := by
  rw [line_eq s a b h]; simp; omega
theorem cut_line {s a b : List UInt8} (h : lineL s = some (a, b)) : (bOf s).extract 0 (a.length : Int).toNat = bOf a ∧ (bOf s).extract ((a.length : Int) + 2).toNat (bOf s).size = bOf b := by
  have e := line_eq s a b h
  constructor
  · rw [bOf_extract, Int.toNat_natCast, List.drop_zero, e, List.take_left]
  · rw [bOf_extract, bOf_size, List.take_length, e, show ((a.length : Int) + 2).toNat = a.length + 2 by omega, List.drop_append, List.drop_eq_nil_of_le (by omega), show a.length + 2 - a.length = 2 by omega]
    rfl
theorem prog_tr : ∀ (k n : Nat) (s : List UInt8) (g : Int), s.length < k → s.length ≤ 100000 → Hand.trGo fields_Parse.f k n (bOf s) g = some (trL k n s g)
  | 0, n, s, g, hk, hs => by omega
  | k + 1, n, s, g, hk, hs => by
    unfold Hand.trGo trL
    rw [lineI_list]
    cases hl : lineL s with
    | none => rw [if_pos (by decide)]
    | some q =>
      obtain ⟨a, b⟩ := q
      have hlen := line_len hl
      obtain ⟨e1, e2⟩ := cut_line hl
      simp only
      rw [if_neg (by omega), if_pos (by rw [bOf_size]; omega)]
      by_cases ha : a = []
      · rw [if_pos ha, if_pos (by rw [ha]; rfl)]
      · have ha0 : ¬ (a.length : Int) = 0 := fun e => ha (List.eq_nil_of_length_eq_zero (by omega))
        rw [if_neg ha, if_neg ha0, e1, e2, prog_Parse a (by omega), Option.bind_some]
        simp only
        by_cases c1 : (parseL a).2.2 = 0
        · rw [if_neg (not_not_intro c1), if_neg (not_not_intro c1)]
          by_cases c2 : n = 64
          · rw [if_pos c2, if_pos c2]
          · rw [if_neg c2, if_neg c2]
            exact prog_tr k (n + 1) b _ (by omega) (by omega)
        · rw [if_pos c1, if_pos c1]
theorem toList_two (l : List UInt8) (i j : Nat) : (((bOf l).extract i j).toList == [13, 10]) = true ↔ (l.take j).drop i = [13, 10] := by
  rw [bOf_extract, toList_bOf]; simp
theorem prog_dec : ∀ (k : Nat) (s : List UInt8) (g : Int) (body : List UInt8), s.length < k → s.length ≤ 100000 →
    Hand.decGo fields_Parse.f chunk_sz k (bOf s) g (bOf body) = some (bOf (decL k s g body).1, (decL k s g body).2.1, (decL k s g body).2.2)
  | 0, s, g, body, hk, hs => by omega
  | k + 1, s, g, body, hk, hs => by
    unfold Hand.decGo decL
    rw [lineI_list]
    cases hl : lineL s with
    | none => rw [if_pos (by decide)]; rfl
    | some q =>
      obtain ⟨a, b⟩ := q
      have hlen := line_len hl
      obtain ⟨e1, e2⟩ := cut_line hl
      have hr := szL_range a
      simp only
      rw [if_neg (by omega), if_pos (by rw [bOf_size]; omega), e1, e2, prog_sz a (by omega), Option.bind_some]
      by_cases c1 : (szL a).2 = 0
      · rw [if_neg (not_not_intro c1), if_neg (not_not_intro c1)]
        by_cases c2 : 0 < (szL a).1
        · rw [if_pos c2, if_pos c2, bOf_size, bOf_size]
          by_cases c3 : 65536 < body.length + (szL a).1
          · rw [if_pos c3, if_pos c3]; rfl
          · rw [if_neg c3, if_neg c3]
            by_cases c4 : (b.length : Int) < (szL a).1 + 2
            · rw [if_pos c4, if_pos c4]; rfl
            · rw [if_neg c4, if_neg c4]
              have e3 : (b.take ((szL a).1 + 2).toNat).drop (szL a).1.toNat = (b.drop (szL a).1.toNat).take 2 := by
                rw [List.drop_take]
                congr 1
                omega
              by_cases c5 : (b.drop (szL a).1.toNat).take 2 = [13, 10]
              · rw [if_pos ((toList_two _ _ _).2 (e3.trans c5)), if_pos c5]
                have e4 : (bOf b).extract ((szL a).1 + 2).toNat b.length = bOf (b.drop ((szL a).1 + 2).toNat) := by rw [bOf_extract, List.take_length]
                have e5 : bOf body ++ (bOf b).extract 0 (szL a).1.toNat = bOf (body ++ b.take (szL a).1.toNat) := by rw [bOf_extract, List.drop_zero, bOf_append]
                rw [e4, e5]
                exact prog_dec k _ _ _ (by simp; omega) (by simp; omega)
              · rw [if_neg (fun h => c5 (e3.symm.trans ((toList_two _ _ _).1 h))), if_neg c5]; rfl
        · rw [if_neg c2, if_neg c2, bOf_size, prog_tr _ 0 b _ (by omega) (by omega), Option.bind_some]
          split <;> rfl
      · rw [if_pos c1, if_pos c1]; rfl
def decode (l : List UInt8) : List UInt8 × Int × Int := decL (l.length + 1) l 0 []
theorem prog_Decode (l : List UInt8) (h : l.length ≤ 100000) : chunk_Decode.f (bOf l) = some (bOf (decode l).1, (decode l).2.1, (decode l).2.2) := by
  unfold chunk_Decode.f
  rw [if_pos (by rw [bOf_size]; omega), bOf_size]
  exact prog_dec _ l 0 [] (by omega) h
end Go.Proofs.YtmmmfippfoginaaDoor.Pu

/- Chunks: the reference's decoding. -/
namespace Go.Proofs.YtmmmfippfoginaaDoor.Pu
open Go.RowKit Go.Proofs.YtmmmfippfoginaaDoorW.PrintWords Go.Proofs.YtmmmfippfoginaaDoorW.PrintLast Go.Proofs.YtmmmfippfoginaaDoor.PR
set_option linter.unusedVariables false
set_option linter.unusedSimpArgs false

def endI (n : Nat) (s : List UInt8) : Int := match lineL s with | none => -1 | some q => (n : Int) + q.1.length
theorem endI_cons (n : Nat) (c d : UInt8) (r : List UInt8) : endI n (c :: d :: r) = if c = 13 ∧ d = 10 then (n : Int) else endI (n + 1) (d :: r) := by
  unfold endI
  conv => lhs; unfold lineL
  by_cases h : c = 13 ∧ d = 10
  · obtain ⟨rfl, rfl⟩ := h
    rw [if_pos (show ([13, 10] : List UInt8).isPrefixOf (13 :: 10 :: r) = true by simp [List.isPrefixOf]), if_pos ⟨rfl, rfl⟩]
    simp
  · rw [if_neg h, if_neg (by
      intro hp
      obtain ⟨t, ht⟩ := List.isPrefixOf_iff_prefix.1 hp
      simp at ht
      exact h ⟨ht.1.symm, ht.2.1.symm⟩)]
    cases lineL (d :: r) with
    | none => rfl
    | some q => simp only [Option.map_some, List.length_cons]; omega
theorem end_l0 (l : List UInt8) (hl : l.length ≤ 100000) (n : Nat) : ∀ (p s : List UInt8), s.length = n → l = p ++ s → Ev (fun k => depotref11_end.l0 k (bOf l) (p.length : Int)) (endI p.length s) := by
  induction n with
  | zero =>
    intro p s hs he
    have : s = [] := List.eq_nil_of_length_eq_zero hs
    subst this
    rw [List.append_nil] at he
    subst he
    refine Ev.step (fun k => by rw [depotref11_end.l0]) (Ev.neg (by rw [bOf_size, wrap_id (by omega) (by omega)]; omega) (Ev.some' ?_))
    rfl
  | succ n ih =>
    intro p s hs he
    obtain ⟨x, s, rfl⟩ : ∃ x t, s = x :: t := by
      cases s with
      | nil => simp at hs
      | cons x t => exact ⟨x, t, rfl⟩
    have hlen : l.length = p.length + (s.length + 1) := by rw [he]; simp
    have hw : wrap64 ((p.length : Int) + 1) = (p.length : Int) + 1 := wrap_id (by omega) (by omega)
    refine Ev.step (fun k => by rw [depotref11_end.l0]) ?_
    rw [hw, bOf_size]
    cases s with
    | nil =>
      refine Ev.neg (by simp at hlen; omega) (Ev.some' ?_)
      unfold endI lineL
      rw [if_neg (by simp [List.isPrefixOf])]
      rfl
    | cons d r =>
      simp at hlen
      refine Ev.pos (by omega) (Ev.pos (by omega) (Ev.pos (by omega) ?_))
      have hb : bt (bOf l) (p.length : Int) = (x.toNat : Int) := by rw [he]; exact bt_at_cut p x (d :: r)
      have hl1 : ((p ++ [x]).length : Int) = (p.length : Int) + 1 := by simp
      have hb2 : bt (bOf l) ((p.length : Int) + 1) = (d.toNat : Int) := by
        rw [← hl1, he, show p ++ x :: d :: r = (p ++ [x]) ++ d :: r by simp]
        exact bt_at_cut (p ++ [x]) d r
      have hn : Ev (fun k => depotref11_end.l0 k (bOf l) ((p.length : Int) + 1)) (endI (p.length + 1) (d :: r)) := by
        have := ih (p ++ [x]) (d :: r) (by simpa using hs) (by rw [he]; simp)
        rw [hl1] at this
        simpa using this
      rw [hb, hb2, endI_cons]
      have h13 : (x.toNat : Int) = 13 ↔ x = 13 := u8_eq (by decide)
      have h10 : (d.toNat : Int) = 10 ↔ d = 10 := u8_eq (by decide)
      by_cases c1 : x = 13
      · refine Ev.pos (h13.2 c1) (Ev.pos (by omega) ?_)
        by_cases c2 : d = 10
        · rw [if_pos ⟨c1, c2⟩]
          exact Ev.pos (h10.2 c2) (Ev.some' rfl)
        · rw [if_neg (fun h => c2 h.2)]
          exact Ev.neg (fun h => c2 (h10.1 h)) hn
      · rw [if_neg (fun h => c1 h.1)]
        exact Ev.neg (fun h => c1 (h13.1 h)) hn
theorem ref_end (p s : List UInt8) (h : (p ++ s).length ≤ 100000) : Ev (fun k => depotref11_end.f k (bOf (p ++ s)) (p.length : Int)) (endI p.length s) := by
  unfold depotref11_end.f
  exact end_l0 _ h _ p s rfl rfl
theorem cut_mid (p a b : List UInt8) : (bOf (p ++ (a ++ b))).extract ((p.length : Int)).toNat ((p.length : Int) + a.length).toNat = bOf a := by
  rw [bOf_extract, show ((p.length : Int) + a.length).toNat = p.length + a.length by omega, Int.toNat_natCast, ← List.append_assoc, show p.length + a.length = (p ++ a).length by simp, List.take_left, List.drop_left]
theorem ref_tr (body : List UInt8) : ∀ (k n : Nat) (p s : List UInt8), s.length < k → (p ++ s).length ≤ 100000 → n ≤ 64 →
    Ev (fun k => depotref11_Decode.l1 k (bOf (p ++ s)) (bOf body) (p.length : Int) (n : Int)) (if (trL k n s p.length).1 = 0 then (bOf body, (trL k n s p.length).2, 0) else (bOf [], 0, (trL k n s p.length).1))
  | 0, n, p, s, hk, hs, hn => by omega
  | k + 1, n, p, s, hk, hs, hn => by
    refine Ev.step (fun k => by rw [depotref11_Decode.l1]) (Ev.bind (ref_end p s hs) ?_)
    unfold trL endI
    cases hl : lineL s with
    | none => exact Ev.pos (by show (-1 : Int) < 0; decide) (Ev.some' rfl)
    | some q =>
      obtain ⟨a, b⟩ := q
      have hlen := line_len hl
      have he := line_eq s a b hl
      have hps : (p ++ s).length = p.length + s.length := by simp
      simp only
      refine Ev.neg (by omega) ?_
      by_cases ha : a = []
      · subst ha
        refine Ev.pos (by simp) (Ev.some' ?_)
        rw [if_pos rfl, if_pos rfl, wrap_id (by omega) (by omega)]
      · have ha0 : 0 < a.length := List.length_pos_iff.2 ha
        refine Ev.neg (by omega) (Ev.pos (by omega) (Ev.pos (by omega) (Ev.pos (by rw [bOf_size]; omega) ?_)))
        have hx : (bOf (p ++ s)).extract ((p.length : Int)).toNat ((p.length : Int) + a.length).toNat = bOf a := by rw [he]; exact cut_mid p a _
        rw [hx, if_neg ha]
        refine Ev.bind (ref_Parse a (by omega)) ?_
        simp only
        by_cases c1 : (parseL a).2.2 = 0
        · refine Ev.pos c1 ?_
          rw [if_neg (not_not_intro c1)]
          by_cases c2 : n = 64
          · rw [if_pos c2]
            exact Ev.pos (by omega) (Ev.some' rfl)
          · rw [if_neg c2]
            refine Ev.neg (by omega) ?_
            have e1 : wrap64 ((p.length : Int) + a.length + 2) = (((p ++ (a ++ [13, 10])).length : Nat) : Int) := by rw [wrap_id (by omega) (by omega)]; simp; omega
            have e2 : wrap64 ((n : Int) + 1) = ((n + 1 : Nat) : Int) := by rw [wrap_id (by omega) (by omega)]; rfl
            have e3 : p ++ s = (p ++ (a ++ [13, 10])) ++ b := by rw [he]; simp
            have e4 : (p.length : Int) + (a.length + 2) = (((p ++ (a ++ [13, 10])).length : Nat) : Int) := by simp
            rw [e1, e2, e4]
            rw [e3] at hs ⊢
            clear e1 e2 e3 e4 hx he hl
            generalize p ++ (a ++ [13, 10]) = q at hs ⊢
            exact ref_tr body k (n + 1) q b (by omega) hs (by omega)
        · rw [if_pos c1]
          exact Ev.neg c1 (Ev.some' rfl)
theorem two_at (q : List UInt8) (n : Nat) (b : List UInt8) (h : n + 2 ≤ b.length) :
    bt (bOf (q ++ b)) ((q.length : Int) + n) = at_ b n ∧ bt (bOf (q ++ b)) ((q.length : Int) + n + 1) = at_ b (n + 1) ∧ ((b.drop n).take 2 = [13, 10] ↔ at_ b n = 13 ∧ at_ b (n + 1) = 10) := by
  have key : ∀ m, m < b.length → bt (bOf (q ++ b)) ((q.length : Int) + m) = at_ b m := by
    intro m hm
    rw [bt_bOf _ _ (by omega) (by simp; omega), show ((q.length : Int) + m).toNat = q.length + m by omega, at_, at_]
    simp [List.getD_eq_getElem?_getD, List.getElem?_append_right]
  refine ⟨key n (by omega), by have := key (n + 1) (by omega); rw [← this]; congr 1, ?_⟩
  have e : (b.drop n).take 2 = [b[n]'(by omega), b[n + 1]'(by omega)] := by
    rw [List.drop_eq_getElem_cons (by omega), List.drop_eq_getElem_cons (by omega)]
    rfl
  rw [e, at_lt _ _ (by omega), at_lt _ _ (by omega)]
  have h13 : ((b[n]'(by omega)).toNat : Int) = 13 ↔ b[n]'(by omega) = 13 := u8_eq (by decide)
  have h10 : ((b[n + 1]'(by omega)).toNat : Int) = 10 ↔ b[n + 1]'(by omega) = 10 := u8_eq (by decide)
  rw [h13, h10]
  simp
theorem ref_dec : ∀ (k : Nat) (p s body : List UInt8), s.length < k → (p ++ s).length ≤ 100000 → body.length ≤ 65536 →
    Ev (fun k => depotref11_Decode.l0 k (bOf (p ++ s)) (bOf body) (p.length : Int)) (bOf (decL k s p.length body).1, (decL k s p.length body).2.1, (decL k s p.length body).2.2)
  | 0, p, s, body, hk, hs, hb => by omega
  | k + 1, p, s, body, hk, hs, hb => by
    refine Ev.step (fun k => by rw [depotref11_Decode.l0]) (Ev.bind (ref_end p s hs) ?_)
    unfold decL endI
    cases hl : lineL s with
    | none => exact Ev.pos (by show (-1 : Int) < 0; decide) (Ev.some' rfl)
    | some q =>
      obtain ⟨a, b⟩ := q
      have hlen := line_len hl
      have he := line_eq s a b hl
      have hps : (p ++ s).length = p.length + s.length := by simp
      have hr := szL_range a
      simp only
      refine Ev.neg (by omega) (Ev.pos (by omega) (Ev.pos (by omega) (Ev.pos (by rw [bOf_size]; omega) ?_)))
      have hx : (bOf (p ++ s)).extract ((p.length : Int)).toNat ((p.length : Int) + a.length).toNat = bOf a := by rw [he]; exact cut_mid p a _
      have e1 : wrap64 ((p.length : Int) + a.length + 2) = (((p ++ (a ++ [13, 10])).length : Nat) : Int) := by rw [wrap_id (by omega) (by omega)]; simp; omega
      have e3 : p ++ s = (p ++ (a ++ [13, 10])) ++ b := by rw [he]; simp
      have e4 : (p.length : Int) + (a.length + 2) = (((p ++ (a ++ [13, 10])).length : Nat) : Int) := by simp
      rw [hx]
      refine Ev.bind (ref_sz a (by omega)) ?_
      rw [e1, e4, e3]
      rw [e3] at hs
      have hql : (p ++ (a ++ [13, 10])).length = p.length + a.length + 2 := by simp; omega
      generalize p ++ (a ++ [13, 10]) = q at hs hql ⊢
      have hqb : (q ++ b).length = q.length + b.length := by simp
      by_cases c1 : (szL a).2 = 0
      · refine Ev.pos c1 ?_
        rw [if_neg (not_not_intro c1)]
        by_cases c2 : 0 < (szL a).1
        · rw [if_pos c2]
          refine Ev.neg (by omega) ?_
          rw [bOf_size, bOf_size, wrap_id (n := (body.length : Int) + (szL a).1) (by omega) (by omega)]
          by_cases c3 : 65536 < body.length + (szL a).1
          · rw [if_pos c3]
            exact Ev.pos (by omega) (Ev.some' rfl)
          · rw [if_neg c3]
            refine Ev.neg (by omega) ?_
            obtain ⟨n, hn⟩ := Int.eq_ofNat_of_zero_le hr.1
            rw [hn] at c2 c3 hr ⊢
            rw [wrap_id (n := (q.length : Int) + n) (by omega) (by omega), wrap_id (n := (q.length : Int) + n + 2) (by omega) (by omega), wrap_id (n := (q.length : Int) + n + 1) (by omega) (by omega)]
            by_cases c4 : (b.length : Int) < n + 2
            · rw [if_pos c4]
              exact Ev.pos (by omega) (Ev.some' rfl)
            · rw [if_neg c4]
              obtain ⟨t1, t2, t3⟩ := two_at q n b (by omega)
              refine Ev.neg (by omega) (Ev.pos (by omega) (Ev.pos (by omega) ?_))
              rw [t1, t2]
              simp only [Int.toNat_natCast]
              by_cases c5 : (b.drop n).take 2 = [13, 10]
              · obtain ⟨d1, d2⟩ := t3.1 c5
                rw [if_pos c5]
                have hbn : b = b.take n ++ ([13, 10] ++ b.drop (n + 2)) := by
                  rw [← c5, show b.drop (n + 2) = (b.drop n).drop 2 by rw [List.drop_drop], List.take_append_drop, List.take_append_drop]
                have htn : (b.take n).length = n := by rw [List.length_take]; omega
                have hx2 : (bOf (q ++ b)).extract q.length ((q.length : Int) + n).toNat = bOf (b.take n) := by
                  have := cut_mid q (b.take n) ([13, 10] ++ b.drop (n + 2))
                  rw [htn, ← hbn, Int.toNat_natCast] at this
                  exact this
                refine Ev.pos d1 (Ev.pos (by omega) (Ev.pos (by omega) (Ev.pos d2 (Ev.pos (by omega) (Ev.pos (by omega) (Ev.pos (by omega) ?_))))))
                rw [hx2, bOf_size]
                refine Ev.pos (by rw [htn]; omega) ?_
                rw [bOf_append, show ((n : Int) + 2).toNat = n + 2 by omega]
                have e5 : (q.length : Int) + n + 2 = (((q ++ (b.take n ++ [13, 10])).length : Nat) : Int) := by simp [htn]; omega
                have e6 : q ++ b = (q ++ (b.take n ++ [13, 10])) ++ b.drop (n + 2) := by
                  conv => lhs; rw [hbn]
                  simp
                have e7 : (q.length : Int) + ((n : Int) + 2) = (((q ++ (b.take n ++ [13, 10])).length : Nat) : Int) := by simp [htn]
                rw [e5, e7, e6]
                rw [e6] at hs
                exact ref_dec k _ _ _ (by simp; omega) hs (by rw [List.length_append, htn]; omega)
              · rw [if_neg c5]
                by_cases d1 : at_ b n = 13
                · refine Ev.pos d1 (Ev.pos (by omega) (Ev.pos (by omega) (Ev.neg (fun d2 => c5 (t3.2 ⟨d1, d2⟩)) (Ev.some' rfl))))
                · exact Ev.neg d1 (Ev.some' rfl)
        · rw [if_neg c2]
          refine Ev.pos (by omega) ?_
          refine Ev.eq (ref_tr body (b.length + 1) 0 q b (by omega) hs (by omega)) ?_
          split <;> rfl
      · rw [if_pos c1]
        exact Ev.neg c1 (Ev.some' rfl)
theorem ref_Decode (l : List UInt8) (h : l.length ≤ 100000) : Ev (fun k => depotref11_Decode.f k (bOf l)) (bOf (decode l).1, (decode l).2.1, (decode l).2.2) := by
  unfold depotref11_Decode.f
  exact ref_dec _ [] l [] (by omega) (by simpa using h) (by simp)
end Go.Proofs.YtmmmfippfoginaaDoor.Pu

/- The statement ChunkDecodes, without the program in sight. -/
namespace Go.Proofs.YtmmmfippfoginaaDoor.Pu
open Go.RowKit Go.Proofs.YtmmmfippfoginaaDoorW.PrintWords Go.Proofs.YtmmmfippfoginaaDoorW.PrintLast Go.Proofs.YtmmmfippfoginaaDoor.PR
set_option linter.unusedVariables false
set_option linter.unusedSimpArgs false

theorem chunks_60 : depotlaw11_chunks.f 60 = some true := by kernel_rfl
theorem chunks_true : Ev (fun k => depotlaw11_chunks.f k) true := Ev.of depotlaw11_chunks.mono chunks_60
theorem chunks_end : Ev (fun k => (depotlaw11_chunks.f k).bind fun t => some t) true := Ev.bind chunks_true (Ev.some' rfl)
theorem decodes_law (s : ByteArray) : ∃ k, depotlaw11_ChunkDecodes.f k s = some true := by
  refine Ev.rounds ?_
  obtain ⟨l, rfl, hl⟩ := ex_bOf s
  unfold depotlaw11_ChunkDecodes.f
  refine Ev.ite (fun _ => chunks_end) (fun h => ?_)
  have hs : l.length ≤ 100000 := by rw [bOf_size] at h; omega
  refine Ev.sbind (prog_Decode l hs) (Ev.bind (ref_Decode l hs) ?_)
  exact Ev.pos rfl (Ev.pos rfl (Ev.pos rfl chunks_end))
end Go.Proofs.YtmmmfippfoginaaDoor.Pu

/- Chunks: encodings, the program's and the reference's. -/
namespace Go.Proofs.YtmmmfippfoginaaDoor.Pu
open Go.RowKit Go.Proofs.YtmmmfippfoginaaDoorW.PrintWords Go.Proofs.YtmmmfippfoginaaDoorW.PrintLast Go.Proofs.YtmmmfippfoginaaDoor.PR
set_option linter.unusedVariables false
set_option linter.unusedSimpArgs false

theorem Ev.shift {α : Type} {g : Nat → Option α} {r : α} (h : Ev g r) : Ev (fun k => g (k + 1)) r := by
  obtain ⟨K, h⟩ := h
  exact ⟨K, fun k hk => h (k + 1) (by omega)⟩
def encC : Nat → List UInt8 → Nat → List UInt8
  | 0, _, _ => []
  | k + 1, s, z => if s = [] then [48, 13, 10, 13, 10] else hexs ((min z s.length : Nat) : Int) ++ [13, 10] ++ s.take (min z s.length) ++ [13, 10] ++ encC k (s.drop (min z s.length)) z
theorem hexs_len (n : Nat) (h : n ≤ 65536) : (hexs (n : Int)).length ≤ 5 := by
  unfold hexs
  rw [if_neg (by omega), Int.toNat_natCast]
  exact digs_len 16 (by decide) 5 n (by omega)
theorem encC_len (z : Nat) (hz : 1 ≤ z) (hz1 : z ≤ 65536) : ∀ (k : Nat) (s : List UInt8), s.length < k → (encC k s z).length ≤ 10 * s.length + 5
  | 0, s, hk => by omega
  | k + 1, s, hk => by
    unfold encC
    by_cases c1 : s = []
    · rw [if_pos c1]; simp
    · have h0 : 0 < s.length := List.length_pos_iff.2 c1
      rw [if_neg c1]
      have hn1 : 1 ≤ min z s.length := by omega
      have hn2 : min z s.length ≤ s.length := by omega
      have hn3 : min z s.length ≤ 65536 := by omega
      generalize min z s.length = n at hn1 hn2 hn3 ⊢
      have hl := hexs_len n hn3
      have ih := encC_len z hz hz1 k (s.drop n) (by simp; omega)
      simp only [List.length_append, List.length_take, List.length_cons, List.length_nil, List.length_drop] at ih ⊢
      omega
theorem prog_enc (z : Nat) (hz : 1 ≤ z) (hz1 : z ≤ 65536) : ∀ (k : Nat) (hx : Nat → Int → Option ByteArray) (s out : List UInt8), (∀ n : Nat, n ≤ 65536 → Ev (fun k => hx k (n : Int)) (bOf (hexs (n : Int)))) →
    s.length < k → s.length ≤ 65536 → out.length + 10 * s.length ≤ 1000000000 → Ev (fun k => Hand.encGo (hx k) k (bOf s) (z : Int) (bOf out)) (bOf (out ++ encC k s z))
  | 0, hx, s, out, H, hk, hs, ho => by omega
  | k + 1, hx, s, out, H, hk, hs, ho => by
    refine Ev.step (fun k => by rw [Hand.encGo]) ?_
    unfold encC
    rw [bOf_size]
    by_cases c1 : s = []
    · rw [if_pos c1]
      refine Ev.pos (by rw [c1]; rfl) (Ev.some' ?_)
      rw [show (⟨#[48, 13, 10]⟩ : ByteArray) = bOf [48, 13, 10] from rfl, show Hand.crlf = bOf [13, 10] from rfl, bOf_append, bOf_append, List.append_assoc]
      rfl
    · have h0 : 0 < s.length := List.length_pos_iff.2 c1
      rw [if_neg c1]
      have hn : min (z : Int) (s.length : Int) = ((min z s.length : Nat) : Int) := by omega
      rw [hn]
      have hn1 : 1 ≤ min z s.length := by omega
      have hn2 : min z s.length ≤ s.length := by omega
      have hn3 : min z s.length ≤ 65536 := by omega
      generalize min z s.length = n at hn1 hn2 hn3 ⊢
      refine Ev.neg (by omega) (Ev.bind (Ev.shift (H n hn3)) ?_)
      have hl := hexs_len n hn3
      refine Ev.pos (by rw [bOf_size, bOf_size]; omega) ?_
      have e1 : (bOf s).extract ((n : Int)).toNat s.length = bOf (s.drop n) := by rw [bOf_extract, List.take_length, Int.toNat_natCast]
      have e2 : (bOf s).extract 0 ((n : Int)).toNat = bOf (s.take n) := by rw [bOf_extract, List.drop_zero, Int.toNat_natCast]
      rw [e1, e2, show Hand.crlf = bOf [13, 10] from rfl, bOf_append, bOf_append, bOf_append, bOf_append]
      refine Ev.eq (prog_enc z hz hz1 k (fun k => hx (k + 1)) (s.drop n) _ (fun m hm => Ev.shift (H m hm)) (by simp; omega) (by simp; omega) (by simp; omega)) ?_
      simp
theorem prog_Encode (s : List UInt8) (z : Int) (hs : s.length ≤ 65536) : Ev (fun k => chunk_Encode.f k (bOf s) z) (if z < 1 ∨ 65536 < z then (bOf [], 2) else (bOf (encC (s.length + 1) s z.toNat), 0)) := by
  unfold chunk_Encode.f
  by_cases c1 : z < 1
  · rw [if_pos (Or.inl c1)]
    exact Ev.pos c1 (Ev.some' rfl)
  · refine Ev.neg c1 ?_
    by_cases c2 : 65536 < z
    · rw [if_pos (Or.inr c2)]
      exact Ev.pos c2 (Ev.some' rfl)
    · rw [if_neg (by omega)]
      refine Ev.neg c2 (Ev.neg (by rw [bOf_size]; omega) ?_)
      obtain ⟨z, rfl⟩ := Int.eq_ofNat_of_zero_le (show 0 ≤ z by omega)
      have h := prog_enc z (by omega) (by omega) (s.length + 1) (fun k => decimal_Hex.f k) s [] (fun n hn => prog_Hex n (by omega)) (by omega) hs (by simp; omega)
      rw [List.nil_append] at h
      refine Ev.bind h (Ev.pos ?_ (Ev.some' rfl))
      rw [bOf_size]
      have := encC_len z (by omega) (by omega) (s.length + 1) s (by omega)
      omega
theorem renc_l0 (z : Nat) (hz : 1 ≤ z) (hz1 : z ≤ 65536) : ∀ (k : Nat) (s out : List UInt8), s.length < k → s.length ≤ 65536 → out.length + 10 * s.length ≤ 1000000000 →
    Ev (fun k => depotref11_Encode.l0 k (bOf s) (z : Int) (bOf out)) (bOf (out ++ encC k s z), 0)
  | 0, s, out, hk, hs, ho => by omega
  | k + 1, s, out, hk, hs, ho => by
    refine Ev.step (fun k => by rw [depotref11_Encode.l0]) ?_
    unfold encC
    rw [bOf_size]
    by_cases c1 : s = []
    · rw [if_pos c1]
      refine Ev.neg (by rw [c1]; simp) (Ev.pos (by rw [bOf_size]; omega) (Ev.some' ?_))
      rw [show (⟨#[48, 13, 10, 13, 10]⟩ : ByteArray) = bOf [48, 13, 10, 13, 10] from rfl, bOf_append]
    · have h0 : 0 < s.length := List.length_pos_iff.2 c1
      rw [if_neg c1]
      have hn : mn (z : Int) (s.length : Int) = ((min z s.length : Nat) : Int) := by unfold mn; split <;> omega
      rw [hn]
      have hn1 : 1 ≤ min z s.length := by omega
      have hn2 : min z s.length ≤ s.length := by omega
      have hn3 : min z s.length ≤ 65536 := by omega
      generalize min z s.length = n at hn1 hn2 hn3 ⊢
      refine Ev.pos (by omega) (Ev.bind (ref_Hex' n (by omega)) ?_)
      have hl := hexs_len n hn3
      have e1 : (bOf s).extract ((n : Int)).toNat s.length = bOf (s.drop n) := by rw [bOf_extract, List.take_length, Int.toNat_natCast]
      have e2 : (bOf s).extract 0 ((n : Int)).toNat = bOf (s.take n) := by rw [bOf_extract, List.drop_zero, Int.toNat_natCast]
      have hln : (s.take n).length ≤ n := by simp; omega
      rw [e1, e2, show (⟨#[13, 10]⟩ : ByteArray) = bOf [13, 10] from rfl, bOf_append, bOf_append, bOf_append, bOf_append]
      refine Ev.pos (by rw [bOf_size, bOf_size]; omega) (Ev.pos (by rw [bOf_size, List.length_append]; omega) (Ev.pos (by omega) (Ev.pos (by omega) (Ev.pos ?_ (Ev.pos ?_ ?_)))))
      · rw [bOf_size, bOf_size]
        simp only [List.length_append, List.length_cons, List.length_nil]
        omega
      · rw [bOf_size]
        simp only [List.length_append, List.length_cons, List.length_nil]
        omega
      · refine Ev.eq (renc_l0 z hz hz1 k (s.drop n) _ (by simp; omega) (by simp; omega) (by simp; omega)) ?_
        simp
theorem ref_Encode (s : List UInt8) (z : Int) (hs : s.length ≤ 65536) : Ev (fun k => depotref11_Encode.f k (bOf s) z) (if z < 1 ∨ 65536 < z then (bOf [], 2) else (bOf (encC (s.length + 1) s z.toNat), 0)) := by
  unfold depotref11_Encode.f
  by_cases c1 : z < 1
  · rw [if_pos (Or.inl c1)]
    refine Ev.pos c1 (Ev.step (fun k => by rw [depotref11_Encode.j0]) ?_)
    exact Ev.pos rfl (Ev.some' rfl)
  · refine Ev.neg c1 (Ev.step (fun k => by rw [depotref11_Encode.j0]) ?_)
    by_cases c2 : 65536 < z
    · rw [if_pos (Or.inr c2)]
      exact Ev.pos (by simpa using c2) (Ev.some' rfl)
    · rw [if_neg (by omega)]
      refine Ev.neg (by simpa using c2) (Ev.neg (by rw [bOf_size]; omega) ?_)
      obtain ⟨z, rfl⟩ := Int.eq_ofNat_of_zero_le (show 0 ≤ z by omega)
      have h := renc_l0 z (by omega) (by omega) (s.length + 1) s [] (by omega) hs (by simp; omega)
      rw [List.nil_append] at h
      exact h
theorem encodes_law (s : ByteArray) (z : Int) : ∃ k, depotlaw11_ChunkEncodes.f k s z = some true := by
  refine Ev.rounds ?_
  obtain ⟨l, rfl, hl⟩ := ex_bOf s
  unfold depotlaw11_ChunkEncodes.f
  refine Ev.ite (fun _ => chunks_end) (fun h => ?_)
  have hs : l.length ≤ 65536 := by rw [bOf_size] at h; omega
  refine Ev.bind (prog_Encode l z hs) (Ev.bind (ref_Encode l z hs) ?_)
  exact Ev.pos rfl (Ev.pos rfl chunks_end)
end Go.Proofs.YtmmmfippfoginaaDoor.Pu

/- Hexadecimal digits read back (for seats that reach Hex and ReadHex). -/
namespace Go.Proofs.YtmmmfippfoginaaDoor.Pu
open Go.RowKit Go.Proofs.YtmmmfippfoginaaDoorW.PrintWords Go.Proofs.YtmmmfippfoginaaDoorW.PrintLast Go.Proofs.YtmmmfippfoginaaDoor.PR
set_option linter.unusedVariables false
set_option linter.unusedSimpArgs false

theorem at_mid (pre post : List UInt8) (c : UInt8) : bt (bOf (pre ++ c :: post)) (pre.length : Int) = c.toNat := by
  rw [bt_bOf _ _ (by omega) (by simp; omega), Int.toNat_natCast]
  simp [at_]
theorem read_one (b d : Nat) (hb2 : b ≤ 16) (hd : d < b) (pre post : List UInt8) (acc : Int) (h0 : 0 ≤ acc) (hm : acc * b + d ≤ 9223372036854775807) :
    readGo (bOf (pre ++ dch d :: post)) b (post.length + 1) acc pre.length = readGo (bOf (pre ++ dch d :: post)) b post.length (acc * b + d) (pre.length + 1) := by
  rw [readGo, at_mid]
  have hdg : Hand.dig ((dch d).toNat : Int) (b : Int) = (d : Int) := dig_dch ⟨b, by omega⟩ ⟨d, by omega⟩ hd
  rw [hdg, if_neg (by omega)]
  have hp : 0 ≤ acc * (b : Int) := Int.mul_nonneg h0 (by omega)
  rw [wrap_id (n := acc * (b : Int)) (by omega) (by omega), wrap_id (by omega) (by omega)]
theorem read_digs (b : Nat) (hb : 2 ≤ b) (hb2 : b ≤ 16) (n : Nat) : ∀ (pre post : List UInt8), n ≤ 9223372036854775807 →
    readGo (bOf (pre ++ (digs b n ++ post))) b ((digs b n).length + post.length) 0 pre.length = readGo (bOf (pre ++ (digs b n ++ post))) b post.length n (pre.length + (digs b n).length) := by
  induction n using Nat.strongRecOn with
  | _ n ih =>
    intro pre post hn
    by_cases h : n < b
    · rw [digs_small h]
      have := read_one b n hb2 h pre post 0 (by omega) (by omega)
      rw [show (0 : Int) * (b : Int) + (n : Int) = (n : Int) by omega] at this
      rw [show [dch n].length + post.length = post.length + 1 by simp; omega]
      exact this
    · have hlt : n / b < n := Nat.div_lt_self (by omega) (by omega)
      have hmod : n % b < b := Nat.mod_lt _ (by omega)
      have hdm : ((n / b : Nat) : Int) * (b : Int) + ((n % b : Nat) : Int) = (n : Int) := by
        have := Nat.div_add_mod n b
        rw [Nat.mul_comm] at this
        exact_mod_cast this
      rw [digs_big hb h, List.append_assoc]
      have h1 := ih (n / b) hlt pre ([dch (n % b)] ++ post) (by omega)
      rw [show (digs b (n / b) ++ [dch (n % b)]).length + post.length = (digs b (n / b)).length + ([dch (n % b)] ++ post).length by simp; omega, h1]
      have h2 := read_one b (n % b) hb2 hmod (pre ++ digs b (n / b)) post ((n / b : Nat) : Int) (Int.natCast_nonneg _) (by rw [hdm]; omega)
      rw [hdm] at h2
      rw [List.append_assoc, List.length_append] at h2
      rw [show ([dch (n % b)] ++ post).length = post.length + 1 by simp, List.length_append]
      exact h2
theorem hex_back_most (n : Nat) (most : Int) (hn : n < 1000000000000000000) (hm : (n : Int) ≤ most) : readP (bOf (digs 16 n)) 16 15 most = ((n : Int), 0) := by
  have hp := digs_pos 16 n (by decide)
  have h15 : (16 : Nat) ^ 15 = 1152921504606846976 := by decide
  have hl := digs_len 16 (by decide) 15 n (by omega)
  unfold readP
  rw [bOf_size, if_neg (by omega), if_neg (by omega)]
  have h2 := read_digs 16 (by decide) (by decide) n [] [] (by omega)
  simp only [List.nil_append, List.append_nil, List.length_nil, Nat.zero_add, Nat.add_zero] at h2
  have e : readGo (bOf (digs 16 n)) 16 (digs 16 n).length 0 0 = some (n : Int) := by
    refine h2.trans ?_
    rfl
  rw [e]
  show (if most < (n : Int) then ((0 : Int), (3 : Int)) else ((n : Int), 0)) = _
  rw [if_neg (by omega)]
theorem digs_hex (n : Nat) : ∀ c ∈ digs 16 n, c ∈ hexd := by
  induction n using Nat.strongRecOn with
  | _ n ih =>
    intro c hc
    have hd : ∀ d, d < 16 → dch d ∈ hexd := by
      intro d hd
      unfold dch
      rw [List.getD_eq_getElem?_getD, List.getElem?_eq_getElem (show d < hexd.length from hd)]
      exact List.getElem_mem _
    by_cases h : n < 16
    · rw [digs_small h] at hc
      obtain rfl := List.mem_singleton.1 hc
      exact hd n h
    · rw [digs_big (by decide) h] at hc
      rcases List.mem_append.1 hc with h1 | h1
      · exact ih (n / 16) (Nat.div_lt_self (by omega) (by decide)) c h1
      · obtain rfl := List.mem_singleton.1 h1
        exact hd _ (Nat.mod_lt _ (by decide))
end Go.Proofs.YtmmmfippfoginaaDoor.Pu

/- The statement ChunkBack, without the program in sight. -/
namespace Go.Proofs.YtmmmfippfoginaaDoor.Pu
open Go.RowKit Go.Proofs.YtmmmfippfoginaaDoorW.PrintWords Go.Proofs.YtmmmfippfoginaaDoorW.PrintLast Go.Proofs.YtmmmfippfoginaaDoor.PR
set_option linter.unusedVariables false
set_option linter.unusedSimpArgs false

theorem hexs_nat (n : Nat) : hexs (n : Int) = digs 16 n := by unfold hexs; rw [if_neg (by omega), Int.toNat_natCast]
theorem line_plain : ∀ (h r : List UInt8), (∀ c ∈ h, c ≠ 13) → lineL (h ++ 13 :: 10 :: r) = some (h, r)
  | [], r, _ => by
    unfold lineL
    rw [List.nil_append] 
    simp [List.isPrefixOf]
  | c :: h, r, hh => by
    have ih := line_plain h r (fun x hx => hh x (List.mem_cons_of_mem _ hx))
    have hc := hh c (List.mem_cons_self)
    rw [List.cons_append]
    unfold lineL
    rw [if_neg (by
      intro hp
      obtain ⟨t, ht⟩ := List.isPrefixOf_iff_prefix.1 hp
      simp at ht
      exact hc ht.1.symm), ih]
    rfl
theorem line_none : ∀ (h : List UInt8), (∀ c ∈ h, c ≠ 13) → lineL h = none ∧ lineL (h ++ [13]) = none
  | [], _ => ⟨rfl, by
    show lineL [13] = none
    unfold lineL
    simp [List.isPrefixOf, lineL]⟩
  | c :: h, hh => by
    have ih := line_none h (fun x hx => hh x (List.mem_cons_of_mem _ hx))
    have hc := hh c (List.mem_cons_self)
    have np : ∀ t : List UInt8, ¬ ([13, 10] : List UInt8).isPrefixOf (c :: t) = true := by
      intro t hp
      obtain ⟨u, hu⟩ := List.isPrefixOf_iff_prefix.1 hp
      simp at hu
      exact hc hu.1.symm
    constructor
    · unfold lineL
      rw [if_neg (np _), ih.1]; rfl
    · rw [List.cons_append]
      unfold lineL
      rw [if_neg (np _), ih.2]; rfl
theorem cut_none (x : UInt8) : ∀ l : List UInt8, (∀ c ∈ l, c ≠ x) → cutAt x l = (l, [], false)
  | [], _ => rfl
  | c :: l, h => by
    have ih := cut_none x l (fun y hy => h y (List.mem_cons_of_mem _ hy))
    unfold cutAt
    rw [if_neg (h c List.mem_cons_self), ih]
theorem trimR_none (l : List UInt8) (h : ∀ c ∈ l, isBl c = false) : trimR l = l := by
  unfold trimR
  have : l.reverse.dropWhile isBl = l.reverse := by
    cases hr : l.reverse with
    | nil => rfl
    | cons x t =>
      rw [List.dropWhile_cons, if_neg]
      have := h x (by rw [← List.mem_reverse, hr]; exact List.mem_cons_self)
      simp [this]
  rw [this, List.reverse_reverse]
theorem hexd_kind : ∀ c ∈ hexd, c ≠ 13 ∧ c ≠ 59 ∧ isBl c = false := by decide
theorem szL_digs (n : Nat) (h : n ≤ 65536) : szL (digs 16 n) = ((n : Int), 0) := by
  unfold szL
  rw [cut_none 59 _ (fun c hc => (hexd_kind c (digs_hex n c hc)).2.1)]
  simp only
  rw [trimR_none _ (fun c hc => (hexd_kind c (digs_hex n c hc)).2.2), hex_back_most n _ (by omega) (by omega)]
  unfold Hand.szR
  show (if ¬ (0 : Int) = 0 then ((0 : Int), (25 : Int)) else if isTxt [] = false then (0, 25) else if 65536 < (n : Int) then (0, 4) else ((n : Int), 0)) = _
  rw [if_neg (by decide), if_neg (by decide), if_neg (by omega)]
theorem digs_no13 (n : Nat) : ∀ c ∈ digs 16 n, c ≠ 13 := fun c hc => (hexd_kind c (digs_hex n c hc)).1
theorem digs_zero : digs 16 0 = [48] := by rw [digs_small (by decide)]; rfl
theorem line_crlf (r : List UInt8) : lineL (13 :: 10 :: r) = some ([], r) := line_plain [] r (fun c hc => by cases hc)
theorem enc_end (more : List UInt8) (body : List UInt8) (g : Int) (K : Nat) : decL (K + 1) (([48, 13, 10, 13, 10] : List UInt8) ++ more) g body = (body, g + 5, 0) := by
  have hl : lineL (([48, 13, 10, 13, 10] : List UInt8) ++ more) = some (digs 16 0, 13 :: 10 :: more) := by
    rw [digs_zero]
    exact line_plain [48] (13 :: 10 :: more) (by decide)
  unfold decL
  rw [hl]
  simp only
  rw [szL_digs 0 (by decide)]
  simp only
  rw [if_neg (by decide), if_neg (by decide)]
  have ht : ∀ g', trL ((13 :: 10 :: more).length + 1) 0 (13 :: 10 :: more) g' = (0, g' + 2) := by
    intro g'
    unfold trL
    rw [line_crlf]
    simp
  rw [ht, if_pos rfl, digs_zero]
  simp only [List.length_cons, List.length_nil]
  congr 2
  omega
theorem encC_cons (k : Nat) (s : List UInt8) (z n : Nat) (hs : ¬ s = []) (hn : min z s.length = n) : encC (k + 1) s z = digs 16 n ++ 13 :: 10 :: (s.take n ++ 13 :: 10 :: encC k (s.drop n) z) := by
  rw [encC, if_neg hs, hn, hexs_nat]
  simp
theorem dec_enc (z : Nat) (hz : 1 ≤ z) (hz1 : z ≤ 65536) (more : List UInt8) : ∀ (k : Nat) (s body : List UInt8) (g : Int) (K : Nat), s.length < k → body.length + s.length ≤ 65536 → (encC k s z ++ more).length < K →
    decL K (encC k s z ++ more) g body = (body ++ s, g + (encC k s z).length, 0)
  | 0, s, body, g, K, hk, hb, hK => by omega
  | k + 1, s, body, g, 0, hk, hb, hK => by omega
  | k + 1, s, body, g, K + 1, hk, hb, hK => by
    by_cases c1 : s = []
    · have e : encC (k + 1) s z = [48, 13, 10, 13, 10] := by rw [encC, if_pos c1]
      rw [e, enc_end, c1, List.append_nil]
      rfl
    · have h0 : 0 < s.length := List.length_pos_iff.2 c1
      obtain ⟨n, hn⟩ : ∃ n, min z s.length = n := ⟨_, rfl⟩
      have hn1 : 1 ≤ n := by omega
      have hn2 : n ≤ s.length := by omega
      have hn3 : n ≤ 65536 := by omega
      have he := encC_cons k s z n c1 hn
      have htl : (s.take n).length = n := by rw [List.length_take]; omega
      have hl : lineL (encC (k + 1) s z ++ more) = some (digs 16 n, s.take n ++ 13 :: 10 :: (encC k (s.drop n) z ++ more)) := by
        rw [he]
        have := line_plain (digs 16 n) (s.take n ++ 13 :: 10 :: (encC k (s.drop n) z ++ more)) (digs_no13 n)
        simpa using this
      have hlen : (encC (k + 1) s z).length = (digs 16 n).length + 2 + n + 2 + (encC k (s.drop n) z).length := by
        rw [he]; simp [htl]; omega
      unfold decL
      rw [hl]
      simp only
      rw [szL_digs n hn3]
      simp only
      rw [if_neg (by decide), if_pos (by omega), if_neg (by omega), if_neg (by rw [List.length_append, htl]; simp; omega)]
      have e1 : ((s.take n ++ 13 :: 10 :: (encC k (s.drop n) z ++ more)).drop ((n : Int)).toNat).take 2 = [13, 10] := by
        rw [Int.toNat_natCast, List.drop_append, List.drop_eq_nil_of_le (by omega), htl, Nat.sub_self]
        rfl
      rw [if_pos e1]
      have e2 : (s.take n ++ 13 :: 10 :: (encC k (s.drop n) z ++ more)).drop ((n : Int) + 2).toNat = encC k (s.drop n) z ++ more := by
        rw [show ((n : Int) + 2).toNat = n + 2 by omega, List.drop_append, List.drop_eq_nil_of_le (by omega), htl, show n + 2 - n = 2 by omega]
        rfl
      have e3 : (s.take n ++ 13 :: 10 :: (encC k (s.drop n) z ++ more)).take ((n : Int)).toNat = s.take n := by
        rw [Int.toNat_natCast]
        have := List.take_left (l₁ := s.take n) (l₂ := 13 :: 10 :: (encC k (s.drop n) z ++ more))
        rwa [htl] at this
      rw [e2, e3, dec_enc z hz hz1 more k (s.drop n) (body ++ s.take n) _ K (by simp; omega) (by simp; omega) (by rw [List.length_append] at hK ⊢; omega)]
      rw [List.append_assoc, List.take_append_drop]
      congr 2
      omega
theorem pre_line (h r : List UInt8) (hh : ∀ c ∈ h, c ≠ 13) (j : Nat) (hj : j < h.length + 2) : lineL ((h ++ 13 :: 10 :: r).take j) = none := by
  by_cases c : j ≤ h.length
  · have e : (h ++ 13 :: 10 :: r).take j = h.take j := List.take_append_of_le_length c
    rw [e]
    exact (line_none (h.take j) (fun x hx => hh x (List.mem_of_mem_take hx))).1
  · obtain rfl : j = h.length + 1 := by omega
    have e : (h ++ 13 :: 10 :: r).take (h.length + 1) = h ++ [13] := by
      rw [List.take_append, List.take_of_length_le (by omega), show h.length + 1 - h.length = 1 by omega]
      rfl
    rw [e]
    exact (line_none h hh).2
theorem pre_more (h r : List UInt8) (hh : ∀ c ∈ h, c ≠ 13) (j : Nat) (hj : h.length + 2 ≤ j) : lineL ((h ++ 13 :: 10 :: r).take j) = some (h, r.take (j - (h.length + 2))) := by
  have e : (h ++ 13 :: 10 :: r).take j = h ++ 13 :: 10 :: r.take (j - (h.length + 2)) := by
    rw [List.take_append, List.take_of_length_le (by omega)]
    obtain ⟨m, hm⟩ : ∃ m, j - h.length = m + 2 := ⟨j - h.length - 2, by omega⟩
    rw [hm, show j - (h.length + 2) = m by omega]
    rfl
  rw [e]
  exact line_plain h _ hh
theorem dec_pre (z : Nat) (hz : 1 ≤ z) (hz1 : z ≤ 65536) : ∀ (k : Nat) (s body : List UInt8) (g : Int) (K j : Nat), s.length < k → body.length + s.length ≤ 65536 → j < (encC k s z).length → j < K →
    decL K ((encC k s z).take j) g body = ([], 0, 25)
  | 0, s, body, g, K, j, hk, hb, hj, hK => by omega
  | k + 1, s, body, g, 0, j, hk, hb, hj, hK => by omega
  | k + 1, s, body, g, K + 1, j, hk, hb, hj, hK => by
    by_cases c1 : s = []
    · have e : encC (k + 1) s z = digs 16 0 ++ 13 :: 10 :: [13, 10] := by rw [encC, if_pos c1, digs_zero]; rfl
      have hl0 : (digs 16 0).length = 1 := by rw [digs_zero]; rfl
      rw [e] at hj ⊢
      simp only [List.length_append, List.length_cons, List.length_nil, hl0] at hj
      unfold decL
      by_cases c2 : j < 3
      · rw [pre_line _ _ (digs_no13 0) j (by omega)]
      · rw [pre_more _ _ (digs_no13 0) j (by omega), hl0]
        simp only
        rw [szL_digs 0 (by decide)]
        simp only
        rw [if_neg (by decide), if_neg (by decide)]
        have ht : ∀ g', (trL ((([13, 10] : List UInt8).take (j - 3)).length + 1) 0 (([13, 10] : List UInt8).take (j - 3)) g').1 = 25 := by
          intro g'
          have hj3 : lineL (([13, 10] : List UInt8).take (j - 3)) = none := by
            have : j = 3 ∨ j = 4 := by omega
            rcases this with rfl | rfl
            · rfl
            · exact (line_none [] (fun c hc => by cases hc)).2
          unfold trL
          rw [hj3]
        rw [show j - (1 + 2) = j - 3 from rfl, ht, if_neg (by decide)]
    · have h0 : 0 < s.length := List.length_pos_iff.2 c1
      obtain ⟨n, hn⟩ : ∃ n, min z s.length = n := ⟨_, rfl⟩
      have hn1 : 1 ≤ n := by omega
      have hn2 : n ≤ s.length := by omega
      have hn3 : n ≤ 65536 := by omega
      have he := encC_cons k s z n c1 hn
      have htl : (s.take n).length = n := by rw [List.length_take]; omega
      have hlen : (encC (k + 1) s z).length = (digs 16 n).length + 2 + n + 2 + (encC k (s.drop n) z).length := by
        rw [he]; simp [htl]; omega
      rw [hlen] at hj
      rw [he]
      unfold decL
      by_cases c2 : j < (digs 16 n).length + 2
      · rw [pre_line _ _ (digs_no13 n) j c2]
      · rw [pre_more _ _ (digs_no13 n) j (by omega)]
        simp only
        rw [szL_digs n hn3]
        simp only
        rw [if_neg (by decide), if_pos (by omega), if_neg (by omega)]
        have hbl : (s.take n ++ 13 :: 10 :: encC k (s.drop n) z).length = n + 2 + (encC k (s.drop n) z).length := by simp [htl]; omega
        obtain ⟨i, hi⟩ : ∃ i, j - ((digs 16 n).length + 2) = i := ⟨_, rfl⟩
        rw [hi]
        have hil : ((s.take n ++ 13 :: 10 :: encC k (s.drop n) z).take i).length = i := by rw [List.length_take, hbl]; omega
        rw [hil]
        by_cases c3 : (i : Int) < n + 2
        · rw [if_pos c3]
        · rw [if_neg c3]
          obtain ⟨m, hm⟩ : ∃ m, i = n + 2 + m := ⟨i - (n + 2), by omega⟩
          have e1 : (s.take n ++ 13 :: 10 :: encC k (s.drop n) z).take i = s.take n ++ 13 :: 10 :: (encC k (s.drop n) z).take m := by
            rw [hm, List.take_append, List.take_of_length_le (by omega), htl, show n + 2 + m - n = m + 2 by omega]
            rfl
          rw [e1]
          have e2 : ((s.take n ++ 13 :: 10 :: (encC k (s.drop n) z).take m).drop ((n : Int)).toNat).take 2 = [13, 10] := by
            rw [Int.toNat_natCast, List.drop_append, List.drop_eq_nil_of_le (by omega), htl, Nat.sub_self]
            rfl
          rw [if_pos e2]
          have e3 : (s.take n ++ 13 :: 10 :: (encC k (s.drop n) z).take m).drop ((n : Int) + 2).toNat = (encC k (s.drop n) z).take m := by
            rw [show ((n : Int) + 2).toNat = n + 2 by omega, List.drop_append, List.drop_eq_nil_of_le (by omega), htl, show n + 2 - n = 2 by omega]
            rfl
          rw [e3]
          exact dec_pre z hz hz1 k (s.drop n) _ _ K m (by simp; omega) (by simp [htl]; omega) (by omega) (by omega)
theorem back_law (s : ByteArray) (z : Int) (more : ByteArray) (cut : Int) : ∃ k, depotlaw11_ChunkBack.f k s z more cut = some true := by
  refine Ev.rounds ?_
  obtain ⟨l, rfl, hl⟩ := ex_bOf s
  obtain ⟨m, rfl, hm⟩ := ex_bOf more
  have j0t : Ev (fun k => depotlaw11_ChunkBack.j0 k (bOf l) z (bOf m) cut true) true := by
    refine Ev.step (fun k => by rw [depotlaw11_ChunkBack.j0]) ?_
    exact Ev.pos rfl chunks_end
  unfold depotlaw11_ChunkBack.f
  refine Ev.ite (fun _ => j0t) (fun h1 => ?_)
  by_cases h2 : ((bOf m).size : Int) > 2000
  · rw [decide_eq_true h2]; exact j0t
  · rw [decide_eq_false h2]
    rw [bOf_size] at h1 h2
    refine Ev.step (fun k => by rw [depotlaw11_ChunkBack.j0]) ?_
    refine Ev.neg (by simp) (Ev.bind (prog_Encode l z (by omega)) ?_)
    by_cases c1 : z < 1 ∨ 65536 < z
    · rw [if_pos c1]
      refine Ev.neg (by simp) (Ev.pos (toList_bOf _) ?_)
      by_cases c2 : z < 1
      · exact Ev.pos c2 chunks_end
      · exact Ev.neg c2 (Ev.pos (by omega) chunks_end)
    · rw [if_neg c1]
      have hlen := encC_len z.toNat (by omega) (by omega) (l.length + 1) l (by omega)
      have hd := dec_enc z.toNat (by omega) (by omega) m (l.length + 1) l [] 0 ((encC (l.length + 1) l z.toNat ++ m).length + 1) (by omega) (by simp; omega) (by omega)
      have hp := fun j hj => dec_pre z.toNat (by omega) (by omega) (l.length + 1) l [] 0 (((encC (l.length + 1) l z.toNat).take j).length + 1) j (by omega) (by simp; omega) hj (by rw [List.length_take]; omega)
      generalize encC (l.length + 1) l z.toNat = e at hlen hd hp
      refine Ev.pos rfl (Ev.pos (by rw [bOf_size, bOf_size]; omega) ?_)
      simp only [bOf_append]
      have hdd : decode (e ++ m) = (l, (e.length : Int), 0) := by
        unfold decode
        rw [hd]; simp
      refine Ev.sbind (prog_Decode (e ++ m) (by rw [List.length_append]; omega)) ?_
      rw [hdd]
      refine Ev.pos rfl (Ev.pos (by rw [bOf_size]) ?_)
      refine Ev.step (fun k => by rw [depotlaw11_ChunkBack.j1]) ?_
      refine Ev.neg (by simp) ?_
      have j2t : Ev (fun k => depotlaw11_ChunkBack.j2 k cut (bOf e) true) true := by
        refine Ev.step (fun k => by rw [depotlaw11_ChunkBack.j2]) ?_
        exact Ev.pos rfl chunks_end
      refine Ev.ite (fun _ => j2t) (fun h3 => ?_)
      by_cases h4 : cut ≥ ((bOf e).size : Int)
      · rw [decide_eq_true h4]; exact j2t
      · rw [decide_eq_false h4]
        rw [bOf_size] at h4
        refine Ev.step (fun k => by rw [depotlaw11_ChunkBack.j2]) ?_
        refine Ev.neg (by simp) (Ev.pos (by omega) (Ev.pos (by rw [bOf_size]; omega) ?_))
        have hpp : decode (e.take cut.toNat) = ([], 0, 25) := by
          unfold decode
          exact hp cut.toNat (by omega)
        rw [bOf_extract, List.drop_zero]
        refine Ev.sbind (prog_Decode (e.take cut.toNat) (by rw [List.length_take]; omega)) ?_
        rw [hpp]
        exact Ev.pos (toList_bOf _) (Ev.pos rfl (Ev.pos rfl chunks_end))
end Go.Proofs.YtmmmfippfoginaaDoor.Pu

/- The statement ChunkAgain, without the program in sight. -/
namespace Go.Proofs.YtmmmfippfoginaaDoor.Pu
open Go.RowKit Go.Proofs.YtmmmfippfoginaaDoorW.PrintWords Go.Proofs.YtmmmfippfoginaaDoorW.PrintLast Go.Proofs.YtmmmfippfoginaaDoor.PR
set_option linter.unusedVariables false
set_option linter.unusedSimpArgs false

theorem line_app : ∀ (s a b b' : List UInt8), lineL s = some (a, b) → lineL (a ++ 13 :: 10 :: b') = some (a, b')
  | [], a, b, b', h => by cases h
  | c :: r, a, b, b', h => by
    unfold lineL at h
    split at h
    case isTrue hp =>
      obtain ⟨rfl, rfl⟩ : [] = a ∧ r.drop 1 = b := by simpa using h
      exact line_crlf b'
    case isFalse hp =>
      cases hr : lineL r with
      | none => rw [hr] at h; cases h
      | some q =>
        rw [hr] at h
        obtain ⟨rfl, rfl⟩ : c :: q.1 = a ∧ q.2 = b := by simpa using h
        have ih := line_app r q.1 q.2 b' hr
        have he := line_eq r q.1 q.2 hr
        have np : ¬ ([13, 10] : List UInt8).isPrefixOf (c :: (q.1 ++ 13 :: 10 :: b')) = true := by
          intro hq
          apply hp
          obtain ⟨t, ht⟩ := List.isPrefixOf_iff_prefix.1 hq
          obtain ⟨hc, ht2⟩ : 13 = c ∧ 10 :: t = q.1 ++ 13 :: 10 :: b' := by simpa using ht
          cases hq1 : q.1 with
          | nil => rw [hq1] at ht2; simp at ht2
          | cons x y =>
            rw [hq1] at ht2 he
            obtain ⟨rfl, _⟩ : 10 = x ∧ t = y ++ 13 :: 10 :: b' := by simpa using ht2
            rw [he, ← hc]
            rfl
        rw [List.cons_append]
        unfold lineL
        rw [if_neg np, ih]
        rfl
theorem trL_err : ∀ (k n : Nat) (s : List UInt8) (g : Int), (trL k n s g).1 = 0 ∨ (trL k n s g).1 = 25 ∨ (trL k n s g).1 = 4
  | 0, n, s, g => Or.inr (Or.inl rfl)
  | k + 1, n, s, g => by
    unfold trL
    cases lineL s with
    | none => exact Or.inr (Or.inl rfl)
    | some q =>
      simp only
      split
      · exact Or.inl rfl
      · split
        · exact Or.inr (Or.inl rfl)
        · split
          · exact Or.inr (Or.inr rfl)
          · exact trL_err k _ _ _
theorem trL_cut : ∀ (k n : Nat) (s : List UInt8) (g g' : Int), trL k n s g = (0, g') →
    ∃ c t, s = c ++ t ∧ g' = g + c.length ∧ 2 ≤ c.length ∧ ∀ (t' : List UInt8) (K : Nat), (c ++ t').length < K → trL K n (c ++ t') g = (0, g')
  | 0, n, s, g, g', h => by simp [trL] at h
  | k + 1, n, s, g, g', h => by
    unfold trL at h
    cases hl : lineL s with
    | none => rw [hl] at h; simp at h
    | some q =>
      obtain ⟨a, b⟩ := q
      rw [hl] at h
      simp only at h
      have he := line_eq s a b hl
      by_cases c1 : a = []
      · rw [if_pos c1] at h
        obtain rfl : g + 2 = g' := by simpa using h
        refine ⟨[13, 10], b, by rw [he, c1]; rfl, rfl, by simp, fun t' K hK => ?_⟩
        obtain ⟨K, rfl⟩ : ∃ m, K = m + 1 := ⟨K - 1, by omega⟩
        unfold trL
        rw [show ([13, 10] : List UInt8) ++ t' = 13 :: 10 :: t' from rfl, line_crlf]
        simp
      · rw [if_neg c1] at h
        by_cases c2 : (parseL a).2.2 = 0
        · rw [if_neg (not_not_intro c2)] at h
          by_cases c3 : n = 64
          · rw [if_pos c3] at h; simp at h
          · rw [if_neg c3] at h
            obtain ⟨c, t, hb, hg, hc, hx⟩ := trL_cut k (n + 1) b _ g' h
            refine ⟨a ++ 13 :: 10 :: c, t, by rw [he, hb]; simp, by rw [hg]; simp; omega, by simp; omega, fun t' K hK => ?_⟩
            obtain ⟨K, rfl⟩ : ∃ m, K = m + 1 := ⟨K - 1, by omega⟩
            have e : (a ++ 13 :: 10 :: c) ++ t' = a ++ 13 :: 10 :: (c ++ t') := by simp
            rw [e]
            unfold trL
            rw [line_app s a b _ hl]
            simp only
            rw [if_neg c1, if_neg (not_not_intro c2), if_neg c3]
            exact hx t' K (by simp at hK ⊢; omega)
        · rw [if_pos c2] at h; simp at h
theorem szL_err (l : List UInt8) : (szL l).2 = 0 ∨ (szL l).2 = 25 ∨ (szL l).2 = 4 := by
  unfold szL Hand.szR
  split
  · exact Or.inr (Or.inl rfl)
  · split
    · exact Or.inr (Or.inl rfl)
    · split
      · exact Or.inr (Or.inr rfl)
      · exact Or.inl rfl
theorem szL_nil : ¬ (szL []).2 = 0 := by
  have : (szL []).2 = 25 := by kernel_rfl
  rw [this]; decide
theorem decL_err : ∀ (k : Nat) (s : List UInt8) (g : Int) (body : List UInt8), ¬ (decL k s g body).2.2 = 0 →
    (decL k s g body).1 = [] ∧ (decL k s g body).2.1 = 0 ∧ ((decL k s g body).2.2 = 25 ∨ (decL k s g body).2.2 = 4)
  | 0, s, g, body, h => ⟨rfl, rfl, Or.inl rfl⟩
  | k + 1, s, g, body, h => by
    unfold decL at h ⊢
    cases hl : lineL s with
    | none => exact ⟨rfl, rfl, Or.inl rfl⟩
    | some q =>
      rw [hl] at h
      simp only at h ⊢
      by_cases c1 : (szL q.1).2 = 0
      · rw [if_neg (not_not_intro c1)] at h ⊢
        by_cases c2 : 0 < (szL q.1).1
        · rw [if_pos c2] at h ⊢
          split
          · exact ⟨rfl, rfl, Or.inr rfl⟩
          case isFalse c3 =>
            rw [if_neg c3] at h
            split
            · exact ⟨rfl, rfl, Or.inl rfl⟩
            case isFalse c4 =>
              rw [if_neg c4] at h
              split
              case isTrue c5 => rw [if_pos c5] at h; exact decL_err k _ _ _ h
              · exact ⟨rfl, rfl, Or.inl rfl⟩
        · rw [if_neg c2] at h ⊢
          have ht := trL_err (q.2.length + 1) 0 q.2 (g + (q.1.length + 2))
          by_cases c6 : (trL (q.2.length + 1) 0 q.2 (g + (q.1.length + 2))).1 = 0
          · rw [if_pos c6] at h; exact absurd rfl h
          · rw [if_neg c6]
            exact ⟨rfl, rfl, by rcases ht with h0 | h0; exact absurd h0 c6; exact h0⟩
      · rw [if_pos c1]
        have ht := szL_err q.1
        exact ⟨rfl, rfl, by rcases ht with h0 | h0; exact absurd h0 c1; exact h0⟩
theorem decL_cut : ∀ (k : Nat) (s : List UInt8) (g : Int) (body r : List UInt8) (g' : Int), decL k s g body = (r, g', 0) →
    ∃ c t, s = c ++ t ∧ g' = g + c.length ∧ 5 ≤ c.length ∧ r.length ≤ body.length + c.length ∧ ∀ (t' : List UInt8) (K : Nat), (c ++ t').length < K → decL K (c ++ t') g body = (r, g', 0)
  | 0, s, g, body, r, g', h => by simp [decL] at h
  | k + 1, s, g, body, r, g', h => by
    unfold decL at h
    cases hl : lineL s with
    | none => rw [hl] at h; simp at h
    | some q =>
      obtain ⟨a, b⟩ := q
      rw [hl] at h
      simp only at h
      have he := line_eq s a b hl
      by_cases c1 : (szL a).2 = 0
      · rw [if_neg (not_not_intro c1)] at h
        have ha : 1 ≤ a.length := by
          cases a with
          | nil => exact absurd c1 szL_nil
          | cons x y => simp
        by_cases c2 : 0 < (szL a).1
        · rw [if_pos c2] at h
          by_cases c3 : 65536 < body.length + (szL a).1
          · rw [if_pos c3] at h; simp at h
          · rw [if_neg c3] at h
            by_cases c4 : (b.length : Int) < (szL a).1 + 2
            · rw [if_pos c4] at h; simp at h
            · rw [if_neg c4] at h
              by_cases c5 : (b.drop (szL a).1.toNat).take 2 = [13, 10]
              · rw [if_pos c5] at h
                obtain ⟨c, t, hb, hg, hc, hr, hx⟩ := decL_cut k _ _ _ r g' h
                obtain ⟨n, hn⟩ : ∃ n : Nat, (szL a).1 = n := ⟨(szL a).1.toNat, by omega⟩
                have hxn := hx
                rw [hn] at c2 c3 c4 c5 hb hg hr hx
                rw [show ((n : Int)).toNat = n by omega] at c5 hr hx
                rw [show ((n : Int) + 2).toNat = n + 2 by omega] at hb
                have htl : (b.take n).length = n := by rw [List.length_take]; omega
                have eb : b = b.take n ++ 13 :: 10 :: (c ++ t) := by
                  have h1 := List.take_append_drop n b
                  have h2 := List.take_append_drop 2 (b.drop n)
                  rw [c5, List.drop_drop, hb] at h2
                  rw [← h2] at h1
                  exact h1.symm
                refine ⟨a ++ 13 :: 10 :: (b.take n ++ 13 :: 10 :: c), t, ?_, ?_, ?_, ?_, fun t' K hK => ?_⟩
                · rw [he]
                  conv => lhs; rw [eb]
                  simp
                · rw [hg]; simp [htl]; omega
                · simp; omega
                · rw [List.length_append] at hr
                  simp at hr ⊢
                  omega
                · obtain ⟨K, rfl⟩ : ∃ m, K = m + 1 := ⟨K - 1, by omega⟩
                  have e : (a ++ 13 :: 10 :: (b.take n ++ 13 :: 10 :: c)) ++ t' = a ++ 13 :: 10 :: (b.take n ++ 13 :: 10 :: (c ++ t')) := by simp
                  rw [e]
                  unfold decL
                  rw [line_app s a b _ hl]
                  simp only
                  rw [if_neg (not_not_intro c1), hn, if_pos c2, if_neg c3, if_neg (by rw [List.length_append, htl]; simp; omega), show ((n : Int)).toNat = n by omega, show ((n : Int) + 2).toNat = n + 2 by omega]
                  have e1 : ((b.take n ++ 13 :: 10 :: (c ++ t')).drop n).take 2 = [13, 10] := by
                    rw [List.drop_append, List.drop_eq_nil_of_le (by omega), htl, Nat.sub_self]
                    rfl
                  have e2 : (b.take n ++ 13 :: 10 :: (c ++ t')).drop (n + 2) = c ++ t' := by
                    rw [List.drop_append, List.drop_eq_nil_of_le (by omega), htl, show n + 2 - n = 2 by omega]
                    rfl
                  have e3 : (b.take n ++ 13 :: 10 :: (c ++ t')).take n = b.take n := by
                    have := List.take_left (l₁ := b.take n) (l₂ := 13 :: 10 :: (c ++ t'))
                    rwa [htl] at this
                  rw [if_pos e1, e2, e3]
                  refine hx t' K ?_
                  simp [htl] at hK ⊢
                  omega
              · rw [if_neg c5] at h; simp at h
        · rw [if_neg c2] at h
          by_cases c6 : (trL (b.length + 1) 0 b (g + (a.length + 2))).1 = 0
          · rw [if_pos c6] at h
            obtain ⟨rfl, hg⟩ : body = r ∧ (trL (b.length + 1) 0 b (g + (a.length + 2))).2 = g' := by simpa using h
            obtain ⟨c, t, hb, hg1, hc, hx⟩ := trL_cut _ 0 b _ g' (Prod.ext c6 hg)
            refine ⟨a ++ 13 :: 10 :: c, t, by rw [he, hb]; simp, by rw [hg1]; simp; omega, by simp; omega, by omega, fun t' K hK => ?_⟩
            obtain ⟨K, rfl⟩ : ∃ m, K = m + 1 := ⟨K - 1, by omega⟩
            have e : (a ++ 13 :: 10 :: c) ++ t' = a ++ 13 :: 10 :: (c ++ t') := by simp
            rw [e]
            unfold decL
            rw [line_app s a b _ hl]
            simp only
            rw [if_neg (not_not_intro c1), if_neg c2, hx t' _ (Nat.lt_succ_self _), if_pos rfl]
          · rw [if_neg c6] at h
            simp at h
            exact absurd h.2.2 c6
      · rw [if_pos c1] at h
        simp at h
        exact absurd h.2.2 c1
theorem again_law (s : ByteArray) (more : ByteArray) : ∃ k, depotlaw11_ChunkAgain.f k s more = some true := by
  refine Ev.rounds ?_
  obtain ⟨l, rfl, hl⟩ := ex_bOf s
  obtain ⟨m, rfl, hm⟩ := ex_bOf more
  have j0t : Ev (fun k => depotlaw11_ChunkAgain.j0 k (bOf l) (bOf m) true) true := by
    refine Ev.step (fun k => by rw [depotlaw11_ChunkAgain.j0]) ?_
    exact Ev.pos rfl chunks_end
  unfold depotlaw11_ChunkAgain.f
  refine Ev.ite (fun _ => j0t) (fun h1 => ?_)
  by_cases h2 : ((bOf m).size : Int) > 3000
  · rw [decide_eq_true h2]; exact j0t
  · rw [decide_eq_false h2]
    rw [bOf_size] at h1 h2
    refine Ev.step (fun k => by rw [depotlaw11_ChunkAgain.j0]) ?_
    refine Ev.neg (by simp) (Ev.sbind (prog_Decode l (by omega)) ?_)
    have hE := decL_err (l.length + 1) l 0 []
    have hC := decL_cut (l.length + 1) l 0 []
    change ¬ (decode l).2.2 = 0 → (decode l).1 = [] ∧ (decode l).2.1 = 0 ∧ ((decode l).2.2 = 25 ∨ (decode l).2.2 = 4) at hE
    change ∀ r g', decode l = (r, g', 0) → _ at hC
    obtain ⟨⟨r, g, e⟩, hd⟩ : ∃ q, decode l = q := ⟨_, rfl⟩
    rw [hd] at hE hC ⊢
    simp only at hE ⊢
    by_cases c1 : e = 0
    · subst c1
      obtain ⟨c, t, hl1, hg, hc5, hr, hx⟩ := hC r g rfl
      rw [Int.zero_add] at hg
      subst hg
      have hll : l.length = c.length + t.length := by rw [hl1]; simp
      simp only [List.length_nil, Nat.zero_add] at hr
      have hdm : decode (c ++ m) = (r, (c.length : Int), 0) := hx m _ (Nat.lt_succ_self _)
      have hde := dec_enc 7 (by decide) (by decide) [] (r.length + 1) r [] 0 ((encC (r.length + 1) r 7).length + 1) (by omega) (by simp; omega) (by simp)
      have hel := encC_len 7 (by decide) (by decide) (r.length + 1) r (by omega)
      rw [List.append_nil] at hde
      have hdr : decode (encC (r.length + 1) r 7) = (r, ((encC (r.length + 1) r 7).length : Int), 0) := by
        unfold decode
        rw [hde]; simp
      refine Ev.pos rfl (Ev.neg (by omega) (Ev.neg (by rw [bOf_size]; omega) ?_))
      rw [decide_eq_false (by rw [bOf_size]; omega)]
      refine Ev.step (fun k => by rw [depotlaw11_ChunkAgain.j1]) ?_
      have hx0 : (bOf l).extract 0 ((c.length : Int)).toNat = bOf c := by
        rw [bOf_extract, List.drop_zero, Int.toNat_natCast, hl1, List.take_left]
      rw [hx0]
      refine Ev.neg (by simp) (Ev.pos (by omega) (Ev.pos (by rw [bOf_size]; omega) (Ev.pos (by rw [bOf_size, bOf_size]; omega) ?_)))
      rw [bOf_append]
      refine Ev.sbind (prog_Decode (c ++ m) (by rw [List.length_append]; omega)) ?_
      rw [hdm]
      refine Ev.bind (prog_Encode r 7 (by omega)) ?_
      rw [if_neg (by decide)]
      refine Ev.sbind (prog_Decode (encC (r.length + 1) r 7) (by omega)) ?_
      rw [show ((7 : Int)).toNat = 7 from rfl, hdr]
      exact Ev.pos rfl (Ev.pos rfl (Ev.pos rfl (Ev.pos rfl (Ev.pos rfl (Ev.pos rfl chunks_end)))))
    · obtain ⟨e1, e2, e3⟩ := hE c1
      refine Ev.neg c1 ?_
      rw [e1, e2]
      refine Ev.pos (toList_bOf _) (Ev.pos rfl ?_)
      by_cases c2 : e = 25
      · exact Ev.pos c2 chunks_end
      · exact Ev.neg c2 (Ev.pos (by omega) chunks_end)
end Go.Proofs.YtmmmfippfoginaaDoor.Pu
