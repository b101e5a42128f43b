/- Plain lemmas and the statement's own law. -/
import Derived.Test.YtjaklgikfcahdaaGreatDoorWWords
import Derived.Test.YtjaklgikfcahdaaGreatDoorWLast
import Derived.Test.YtjaklgikfcahdaaGreatDoorHand
import Derived.Lib.Strings
import Derived.IntWalk
import Derived.Lib.SlTrimSet
import Derived.Test.YtjaklgikfcahdaaGreatDoorOctet
import Derived.Test.YtjaklgikfcahdaaGreatDoorPB5
import Derived.Test.YtjaklgikfcahdaaGreatDoorPB2
import Derived.KernelRfl
import Derived.Test.YtjaklgikfcahdaaGreatDoorDigit
import Derived.Test.YtjaklgikfcahdaaGreatDoorPB7
import Derived.Test.YtjaklgikfcahdaaGreatDoorPB10
import Derived.Test.YtjaklgikfcahdaaGreatDoorPB14
import Derived.Lib.ItoaMem
import Derived.Test.YtjaklgikfcahdaaGreatDoorPB4
import Derived.Test.YtjaklgikfcahdaaGreatDoorPB12
import Derived.Test.YtjaklgikfcahdaaGreatDoorPB15
import Derived.Lib.SplitLaws
import Derived.Test.YtjaklgikfcahdaaGreatDoorPB17
import Derived.Test.YtjaklgikfcahdaaGreatDoorLower
import Derived.Test.YtjaklgikfcahdaaGreatDoorPB6
import Derived.Test.YtjaklgikfcahdaaGreatDoorPB11
import Derived.Test.YtjaklgikfcahdaaGreatDoorPB20
import Derived.Test.YtjaklgikfcahdaaGreatDoorPB8
import Derived.Test.YtjaklgikfcahdaaGreatDoorPB9
import Derived.Test.YtjaklgikfcahdaaGreatDoorPB18
import Derived.Test.YtjaklgikfcahdaaGreatDoorPB19
import Derived.Test.YtjaklgikfcahdaaGreatDoorPB25
namespace Go.Proofs.YtjaklgikfcahdaaGreatDoor.Pu
open Go.RowKit Go.Proofs.YtjaklgikfcahdaaGreatDoorW.PrintWords Go.Proofs.YtjaklgikfcahdaaGreatDoorW.PrintLast
set_option linter.unusedVariables false
set_option linter.unusedSimpArgs false
def bOf (l : List UInt8) : ByteArray := ⟨l.toArray⟩
theorem bOf_data (s : ByteArray) : bOf s.data.toList = s := by obtain ⟨⟨l⟩⟩ := s; rfl
theorem bOf_mk (l : List UInt8) : (⟨l.toArray⟩ : ByteArray) = bOf l := rfl
theorem data_bOf (l : List UInt8) : (bOf l).data.toList = l := rfl
theorem bOf_size (l : List UInt8) : (bOf l).size = l.length := by unfold bOf; simp [ByteArray.size]
theorem size_data (s : ByteArray) : s.data.toList.length = s.size := data_length s
theorem toList_bOf (l : List UInt8) : (bOf l).toList = l := by rw [ByteArray.toList_eq]; rfl
theorem bOf_extract (l : List UInt8) (i j : Nat) : (bOf l).extract i j = bOf ((l.take j).drop i) := by
  have h := Go.Lib.extract_data (bOf l) i j
  rw [← bOf_data ((bOf l).extract i j), h, data_bOf, List.drop_take]
theorem bOf_append (a b : List UInt8) : bOf a ++ bOf b = bOf (a ++ b) := by
  have h : ((bOf a) ++ (bOf b)).data.toList = a ++ b := by simp [bOf]
  rw [← bOf_data (bOf a ++ bOf b), h]
theorem ex_bOf (s : ByteArray) : ∃ l, s = bOf l ∧ l.length = s.size := ⟨s.data.toList, (bOf_data s).symm, size_data s⟩
def at_ (l : List UInt8) (i : Nat) : Int := (l.getD i 0).toNat
theorem bt_bOf (l : List UInt8) (i : Int) (h0 : 0 ≤ i) (h : i < l.length) : bt (bOf l) i = at_ l i.toNat := by
  have h' : i.toNat < (bOf l).size := by rw [bOf_size]; omega
  rw [← bt_at (bOf l) i h', at_]
  have hl : i.toNat < l.length := by omega
  rw [List.getD_eq_getElem?_getD, List.getElem?_eq_getElem hl]
  rfl
theorem at_lt (l : List UInt8) (i : Nat) (h : i < l.length) : at_ l i = (l[i]).toNat := by simp [at_, List.getD_eq_getElem?_getD, List.getElem?_eq_getElem h]
theorem wrap_id {n : Int} (h0 : -9223372036854775808 ≤ n) (h : n ≤ 9223372036854775807) : wrap64 n = n := Go.IntWalk.wrap64_in n ⟨h0, h⟩
theorem Ev.pos {α : Type} {c : Prop} [Decidable c] {f g : Nat → Option α} {r : α} (hc : c) (h : Ev f r) : Ev (fun n => if c then f n else g n) r := Ev.congr (fun n => if_pos hc) h
theorem Ev.neg {α : Type} {c : Prop} [Decidable c] {f g : Nat → Option α} {r : α} (hc : ¬ c) (h : Ev g r) : Ev (fun n => if c then f n else g n) r := Ev.congr (fun n => if_neg hc) h
theorem Ev.sbind {α β : Type} {x : Option α} {f : Nat → α → Option β} {a : α} {r : β} (h : x = some a) (k : Ev (fun n => f n a) r) : Ev (fun n => x.bind (f n)) r := Ev.congr (fun n => by rw [h]; rfl) k
theorem Ev.some' {α : Type} {a r : α} (h : a = r) : Ev (fun _ => some a) r := ⟨0, fun _ _ => by rw [h]⟩
theorem Ev.eq {α : Type} {g : Nat → Option α} {a b : α} (h : Ev g a) (e : a = b) : Ev g b := e ▸ h
end Go.Proofs.YtjaklgikfcahdaaGreatDoor.Pu
namespace Go.Proofs.YtjaklgikfcahdaaGreatDoor.Pu
open Go.RowKit Go.Proofs.YtjaklgikfcahdaaGreatDoorW.PrintWords Go.Proofs.YtjaklgikfcahdaaGreatDoorW.PrintLast Go.Proofs.YtjaklgikfcahdaaGreatDoor.PB
set_option linter.unusedVariables false
set_option linter.unusedSimpArgs false
def isBl (c : UInt8) : Bool := ([32, 9] : List UInt8).contains c
def trimL (l : List UInt8) : List UInt8 := l.dropWhile isBl
def trimR (l : List UInt8) : List UInt8 := (l.reverse.dropWhile isBl).reverse
def trim (l : List UInt8) : List UInt8 := trimL (trimR l)
theorem trim_eq (l : List UInt8) : Lib.trimS l [32, 9] = trim l := rfl
theorem trimR_cons (x : UInt8) (l : List UInt8) : trimR (x :: l) = if trimR l = [] then (if isBl x = true then [] else [x]) else x :: trimR l := by
  unfold trimR
  rw [List.reverse_cons, List.dropWhile_append]
  by_cases h : List.dropWhile isBl l.reverse = []
  · rw [h]
    simp [List.dropWhile_cons]
    by_cases hx : isBl x = true <;> simp [hx]
  · have hb : (List.dropWhile isBl l.reverse).isEmpty = false := by simpa using h
    simp [hb, h]
theorem trim_comm (l : List UInt8) : trimR (trimL l) = trimL (trimR l) := by
  induction l with
  | nil => rfl
  | cons x l ih =>
    rw [trimR_cons]
    by_cases hx : isBl x = true
    · have h1 : trimL (x :: l) = trimL l := by simp [trimL, List.dropWhile_cons, hx]
      rw [h1, ih]
      by_cases h : trimR l = []
      · rw [if_pos h, if_pos hx, h]
      · rw [if_neg h]
        simp [trimL, List.dropWhile_cons, hx]
    · have h1 : trimL (x :: l) = x :: l := by simp [trimL, List.dropWhile_cons, hx]
      rw [h1, trimR_cons]
      by_cases h : trimR l = []
      · rw [if_pos h, if_neg hx]; simp [trimL, List.dropWhile_cons, hx]
      · rw [if_neg h]; simp [trimL, List.dropWhile_cons, hx]
theorem trim_le (l : List UInt8) : (trim l).length ≤ l.length := by
  unfold trim trimL trimR
  refine Nat.le_trans (List.dropWhile_sublist _).length_le ?_
  rw [List.length_reverse]
  refine Nat.le_trans (List.dropWhile_sublist _).length_le ?_
  rw [List.length_reverse]
  exact Nat.le_refl _
end Go.Proofs.YtjaklgikfcahdaaGreatDoor.Pu
namespace Go.Proofs.YtjaklgikfcahdaaGreatDoor.Pu
open Go.RowKit Go.Proofs.YtjaklgikfcahdaaGreatDoorW.PrintWords Go.Proofs.YtjaklgikfcahdaaGreatDoorW.PrintLast Go.Proofs.YtjaklgikfcahdaaGreatDoor.PB
set_option linter.unusedVariables false
set_option linter.unusedSimpArgs false
def cutAt (c : UInt8) : List UInt8 → List UInt8 × List UInt8 × Bool
  | [] => ([], [], false)
  | x :: l => if x = c then ([], l, true) else (x :: (cutAt c l).1, (cutAt c l).2.1, (cutAt c l).2.2)
theorem cut_index (c : UInt8) : ∀ l, Lib.indexByte l c = if (cutAt c l).2.2 = true then ((cutAt c l).1.length : Int) else -1
  | [] => rfl
  | x :: l => by
    have ih := cut_index c l
    unfold Lib.indexByte cutAt
    by_cases h : x = c
    · subst h; simp
    · rw [if_neg (by simpa using h), if_neg h, ih]
      cases (cutAt c l).2.2
      · simp
      · simp only [if_true, List.length_cons]
        rw [if_neg (by simp <;> omega)]
        omega
theorem cut_yes (c : UInt8) : ∀ l, (cutAt c l).2.2 = true → l = (cutAt c l).1 ++ c :: (cutAt c l).2.1
  | [], h => by cases h
  | x :: l, h => by
    unfold cutAt at h ⊢
    by_cases e : x = c
    · subst e; simp
    · rw [if_neg e] at h
      simp only [if_neg e]
      have := cut_yes c l h
      rw [List.cons_append, ← this]
theorem cut_no (c : UInt8) : ∀ l, (cutAt c l).2.2 = false → (cutAt c l).1 = l ∧ (cutAt c l).2.1 = []
  | [], _ => ⟨rfl, rfl⟩
  | x :: l, h => by
    unfold cutAt at h ⊢
    by_cases e : x = c
    · rw [if_pos e] at h; cases h
    · rw [if_neg e] at h
      simp only [if_neg e]
      have := cut_no c l h
      exact ⟨by rw [this.1], this.2⟩
theorem cut_le (c : UInt8) (l : List UInt8) : (cutAt c l).1.length ≤ l.length ∧ (cutAt c l).2.1.length ≤ l.length := by
  cases h : (cutAt c l).2.2
  · have := cut_no c l h; rw [this.1, this.2]; simp
  · have := congrArg List.length (cut_yes c l h)
    simp at this
    omega
theorem prog_Cut (c : UInt8) (l : List UInt8) (h : l.length ≤ 4294967296) : octet_Cut.f (bOf l) (c.toNat : Int) = some (bOf (cutAt c l).1, bOf (cutAt c l).2.1, (cutAt c l).2.2) := by
  unfold octet_Cut.f strings_IndexByte.f
  rw [Option.bind_some, data_bOf, show ((c.toNat : Int)).toNat.toUInt8 = c by simp, cut_index]
  cases hh : (cutAt c l).2.2
  · have := cut_no c l hh
    simp only [Bool.false_eq_true, if_false]
    rw [if_pos (by decide), this.1, this.2]; rfl
  · have hy := cut_yes c l hh
    have hl := congrArg List.length hy
    simp at hl
    rw [if_pos rfl, if_neg (by omega), if_pos (by omega), bOf_size, if_pos (by omega), wrap_id (by omega) (by omega), if_pos (by omega), if_pos (by omega), bOf_extract, bOf_extract]
    have e1 : ((l.take ((cutAt c l).1.length : Int).toNat).drop 0) = (cutAt c l).1 := by
      rw [Int.toNat_natCast, List.drop_zero]
      conv => lhs; arg 2; rw [hy]
      exact List.take_left
    have e2 : ((l.take l.length).drop (((cutAt c l).1.length : Int) + 1).toNat) = (cutAt c l).2.1 := by
      rw [List.take_length, show (((cutAt c l).1.length : Int) + 1).toNat = (cutAt c l).1.length + 1 by omega]
      conv => lhs; arg 2; rw [hy]
      rw [List.drop_append, List.drop_eq_nil_of_le (by omega), show (cutAt c l).1.length + 1 - (cutAt c l).1.length = 1 by omega]
      rfl
    rw [e1, e2]
def textU (b : UInt8) : Bool := Hand.textB (b.toNat : Int)
def tokU (b : UInt8) : Bool := Hand.tokenB (b.toNat : Int)
theorem allB_list (p : Int → Bool) (l : List UInt8) : Hand.allB p (bOf l) (bOf l).size = l.all fun b => p (b.toNat : Int) := by
  rw [bOf_size]
  have key : ∀ n, n ≤ l.length → Hand.allB p (bOf l) n = (l.take n).all fun b => p (b.toNat : Int) := by
    intro n
    induction n with
    | zero => intro _; simp [Hand.allB_zero]
    | succ n ih =>
      intro hn
      rw [Hand.allB_succ, ih (by omega), List.take_add_one, List.all_append, bt_bOf _ _ (by omega) (by omega), Int.toNat_natCast, at_lt _ _ (by omega), List.getElem?_eq_getElem (by omega)]
      simp
  rw [key _ (Nat.le_refl _), List.take_length]
theorem prog_IsText (l : List UInt8) (h : l.length ≤ 4294967296) : octet_IsText.f (bOf l) = some (l.all textU) := by
  unfold octet_IsText.f
  rw [if_pos (by rw [bOf_size]; omega), allB_list]; rfl
theorem prog_IsToken (l : List UInt8) (h : l.length ≤ 4294967296) : octet_IsToken.f (bOf l) = some (!l.isEmpty && l.all tokU) := by
  unfold octet_IsToken.f octet_isToken
  rw [if_pos (by rw [bOf_size]; omega)]
  cases l with
  | nil => rfl
  | cons x l => rw [if_neg (by rw [bOf_size]; simp), allB_list]; rfl
def isTok (l : List UInt8) : Bool := !l.isEmpty && l.all tokU
def isTxt (l : List UInt8) : Bool := l.all textU
end Go.Proofs.YtjaklgikfcahdaaGreatDoor.Pu
namespace Go.Proofs.YtjaklgikfcahdaaGreatDoor.Pu
open Go.RowKit Go.Proofs.YtjaklgikfcahdaaGreatDoorW.PrintWords Go.Proofs.YtjaklgikfcahdaaGreatDoorW.PrintLast Go.Proofs.YtjaklgikfcahdaaGreatDoor.PB
set_option linter.unusedVariables false
set_option linter.unusedSimpArgs false
def parseL (l : List UInt8) : List UInt8 × List UInt8 × Int :=
  if 8192 < l.length then ([], [], 4)
  else if (cutAt 58 l).2.2 = true ∧ isTok (cutAt 58 l).1 = true ∧ isTxt (trim (cutAt 58 l).2.1) = true then ((cutAt 58 l).1, trim (cutAt 58 l).2.1, 0)
  else ([], [], 21)
theorem prog_Trim (l : List UInt8) (h : l.length ≤ 4294967296) : octet_Trim.f (bOf l) = some (bOf (trim l)) := by
  unfold octet_Trim.f
  rw [if_pos (by rw [bOf_size]; omega), data_bOf, trim_eq]; rfl
theorem prog_Parse (l : List UInt8) (h : l.length ≤ 4294967296) : fields_Parse.f (bOf l) = some (bOf (parseL l).1, bOf (parseL l).2.1, (parseL l).2.2) := by
  unfold fields_Parse.f parseL
  have hc := cut_le 58 l
  have ht := trim_le (cutAt 58 l).2.1
  rw [bOf_size]
  by_cases c1 : 8192 < l.length
  · rw [if_pos (by omega), if_pos c1]; rfl
  · rw [if_neg (by omega), if_neg c1, show (58 : Int) = (((58 : UInt8).toNat : Nat) : Int) by rfl, prog_Cut 58 l h, Option.bind_some, prog_Trim _ (by omega), Option.bind_some, prog_IsToken _ (by omega), prog_IsText _ (by omega)]
    simp only [Option.bind_some]
    cases h1 : (cutAt 58 l).2.2
    · rw [if_neg (by simp), if_neg (by simp)]; rfl
    · rw [if_pos rfl]
      cases h2 : isTok (cutAt 58 l).1
      · unfold isTok at h2
        rw [h2, if_neg (by simp), if_neg (by simp)]; rfl
      · unfold isTok at h2
        rw [h2, if_pos rfl]
        cases h3 : isTxt (trim (cutAt 58 l).2.1)
        · unfold isTxt at h3
          rw [h3, if_neg (by simp), if_neg (by simp)]; rfl
        · unfold isTxt at h3
          rw [h3, if_pos rfl, if_pos ⟨rfl, rfl, rfl⟩]
end Go.Proofs.YtjaklgikfcahdaaGreatDoor.Pu
namespace Go.Proofs.YtjaklgikfcahdaaGreatDoor.Pu
open Go.RowKit Go.Proofs.YtjaklgikfcahdaaGreatDoorW.PrintWords Go.Proofs.YtjaklgikfcahdaaGreatDoorW.PrintLast Go.Proofs.YtjaklgikfcahdaaGreatDoor.PB
set_option linter.unusedVariables false
set_option linter.unusedSimpArgs false
theorem prog_read (s : ByteArray) (base long most : Int) (hb : 1 ≤ base) (hb2 : base ≤ 16) (hs : s.size ≤ 100000) : decimal_read.f s base long most = some (readP s base long most) := by
  unfold decimal_read.f
  rw [if_pos ⟨hb, hb2, by omega⟩]
theorem prog_Number (s : ByteArray) (most : Int) (hs : s.size ≤ 100000) : decimal_Number.f s most = some (readP s 10 18 most) := by
  unfold decimal_Number.f
  rw [prog_read s 10 18 most (by decide) (by decide) hs]
  rfl
end Go.Proofs.YtjaklgikfcahdaaGreatDoor.Pu
namespace Go.Proofs.YtjaklgikfcahdaaGreatDoor.Pu
open Go.RowKit Go.Proofs.YtjaklgikfcahdaaGreatDoorW.PrintWords Go.Proofs.YtjaklgikfcahdaaGreatDoorW.PrintLast Go.Proofs.YtjaklgikfcahdaaGreatDoor.PB
set_option linter.unusedVariables false
set_option linter.unusedSimpArgs false
theorem prog_ReadHex (s : ByteArray) (most : Int) (hs : s.size ≤ 100000) : decimal_ReadHex.f s most = some (readP s 16 15 most) := by
  unfold decimal_ReadHex.f
  rw [prog_read s 16 15 most (by decide) (by decide) hs]
  rfl
end Go.Proofs.YtjaklgikfcahdaaGreatDoor.Pu
namespace Go.Proofs.YtjaklgikfcahdaaGreatDoor.Pu
open Go.RowKit Go.Proofs.YtjaklgikfcahdaaGreatDoorW.PrintWords Go.Proofs.YtjaklgikfcahdaaGreatDoorW.PrintLast Go.Proofs.YtjaklgikfcahdaaGreatDoor.PB
set_option linter.unusedVariables false
set_option linter.unusedSimpArgs false
def hexd : List UInt8 := [48, 49, 50, 51, 52, 53, 54, 55, 56, 57, 97, 98, 99, 100, 101, 102]
def dch (d : Nat) : UInt8 := hexd.getD d 0
def digs (b n : Nat) : List UInt8 := if h : n < b ∨ b < 2 then [dch n] else digs b (n / b) ++ [dch (n % b)]
termination_by n
decreasing_by exact Nat.div_lt_self (by omega) (by omega)
theorem digs_small {b n : Nat} (h : n < b) : digs b n = [dch n] := by rw [digs, dif_pos (Or.inl h)]
theorem digs_big {b n : Nat} (hb : 2 ≤ b) (h : ¬ n < b) : digs b n = digs b (n / b) ++ [dch (n % b)] := by rw [digs, dif_neg (by omega)]
theorem dch_ten : ∀ d : Fin 10, dch d = UInt8.ofNat (48 + d) := by decide
theorem digs_ten (n : Nat) : Lib.decDigits n = digs 10 n := by
  induction n using Nat.strongRecOn with
  | _ n ih =>
    rw [Lib.decDigits]
    by_cases h : n < 10
    · rw [dif_pos h, digs_small h, dch_ten ⟨n, h⟩]
    · rw [dif_neg h, digs_big (by decide) h, ih (n / 10) (by omega), dch_ten ⟨n % 10, by omega⟩]
theorem digs_len (b : Nat) (hb : 2 ≤ b) (m : Nat) : ∀ n : Nat, n < b ^ m → (digs b n).length ≤ max m 1 := by
  induction m with
  | zero => intro n h; rw [digs_small (by simp at h; omega)]; simp
  | succ m ih =>
    intro n h
    by_cases hn : n < b
    · rw [digs_small hn]; simp
    · rw [digs_big hb hn]
      have h2 : n / b < b ^ m := by
        rw [Nat.div_lt_iff_lt_mul (by omega)]
        rw [Nat.pow_succ] at h
        exact h
      have := ih _ h2
      have hm : m ≠ 0 := by
        intro e; subst e
        simp at h2
        omega
      simp; omega
theorem digs_pos (b n : Nat) (hb : 2 ≤ b) : 1 ≤ (digs b n).length := by
  by_cases hn : n < b
  · rw [digs_small hn]; simp
  · rw [digs_big hb hn]; simp
def plain (n : Int) : List UInt8 := if n < 0 then 45 :: digs 10 n.natAbs else digs 10 n.toNat
theorem plain_eq (n : Int) : Lib.itoa n = plain n := by unfold Lib.itoa plain; rw [digs_ten, digs_ten]
theorem plain_len (n : Int) (h : -9223372036854775808 ≤ n ∧ n ≤ 9223372036854775807) : (plain n).length ≤ 21 := by
  have h20 : (10 : Nat) ^ 20 = 100000000000000000000 := by decide
  unfold plain
  split
  · have := digs_len 10 (by decide) 20 n.natAbs (by omega)
    simp; omega
  · have := digs_len 10 (by decide) 20 n.toNat (by omega)
    omega
theorem prog_Plain (n : Int) (h : -9223372036854775808 ≤ n ∧ n ≤ 9223372036854775807) : decimal_Plain.f n = some (bOf (plain n)) := by
  unfold decimal_Plain.f strconv_Itoa.f
  rw [if_pos h, plain_eq]
  rfl
theorem dig_dch : ∀ (b : Fin 17) (d : Fin 16), (d : Nat) < b → Hand.dig ((dch d).toNat : Int) ((b : Nat) : Int) = ((d : Nat) : Int) := by decide +kernel
theorem at_mid (pre post : List UInt8) (c : UInt8) : bt (bOf (pre ++ c :: post)) (pre.length : Int) = c.toNat := by
  rw [bt_bOf _ _ (by omega) (by simp; omega), Int.toNat_natCast]
  simp [at_]
theorem read_one (b d : Nat) (hb2 : b ≤ 16) (hd : d < b) (pre post : List UInt8) (acc : Int) (h0 : 0 ≤ acc) (hm : acc * b + d ≤ 9223372036854775807) :
    readGo (bOf (pre ++ dch d :: post)) b (post.length + 1) acc pre.length = readGo (bOf (pre ++ dch d :: post)) b post.length (acc * b + d) (pre.length + 1) := by
  rw [readGo, at_mid]
  have hdg : Hand.dig ((dch d).toNat : Int) (b : Int) = (d : Int) := dig_dch ⟨b, by omega⟩ ⟨d, by omega⟩ hd
  rw [hdg, if_neg (by omega)]
  have hp : 0 ≤ acc * (b : Int) := Int.mul_nonneg h0 (by omega)
  rw [wrap_id (n := acc * (b : Int)) (by omega) (by omega), wrap_id (by omega) (by omega)]
theorem read_digs (b : Nat) (hb : 2 ≤ b) (hb2 : b ≤ 16) (n : Nat) : ∀ (pre post : List UInt8), n ≤ 9223372036854775807 →
    readGo (bOf (pre ++ (digs b n ++ post))) b ((digs b n).length + post.length) 0 pre.length = readGo (bOf (pre ++ (digs b n ++ post))) b post.length n (pre.length + (digs b n).length) := by
  induction n using Nat.strongRecOn with
  | _ n ih =>
    intro pre post hn
    by_cases h : n < b
    · rw [digs_small h]
      have := read_one b n hb2 h pre post 0 (by omega) (by omega)
      rw [show (0 : Int) * (b : Int) + (n : Int) = (n : Int) by omega] at this
      rw [show [dch n].length + post.length = post.length + 1 by simp; omega]
      exact this
    · have hlt : n / b < n := Nat.div_lt_self (by omega) (by omega)
      have hmod : n % b < b := Nat.mod_lt _ (by omega)
      have hdm : ((n / b : Nat) : Int) * (b : Int) + ((n % b : Nat) : Int) = (n : Int) := by
        have := Nat.div_add_mod n b
        rw [Nat.mul_comm] at this
        exact_mod_cast this
      rw [digs_big hb h, List.append_assoc]
      have h1 := ih (n / b) hlt pre ([dch (n % b)] ++ post) (by omega)
      rw [show (digs b (n / b) ++ [dch (n % b)]).length + post.length = (digs b (n / b)).length + ([dch (n % b)] ++ post).length by simp; omega, h1]
      have h2 := read_one b (n % b) hb2 hmod (pre ++ digs b (n / b)) post ((n / b : Nat) : Int) (Int.natCast_nonneg _) (by rw [hdm]; omega)
      rw [hdm] at h2
      rw [List.append_assoc, List.length_append] at h2
      rw [show ([dch (n % b)] ++ post).length = post.length + 1 by simp, List.length_append]
      exact h2
theorem ten_back (n : Nat) (most : Int) (hn : n < 1000000000000000000) (hm : (n : Int) ≤ most) : readP (bOf (digs 10 n)) 10 18 most = ((n : Int), 0) := by
  have hp := digs_pos 10 n (by decide)
  have h18 : (10 : Nat) ^ 18 = 1000000000000000000 := by decide
  have hl := digs_len 10 (by decide) 18 n (by omega)
  unfold readP
  rw [bOf_size, if_neg (by omega), if_neg (by omega)]
  have h2 := read_digs 10 (by decide) (by decide) n [] [] (by omega)
  simp only [List.nil_append, List.append_nil, List.length_nil, Nat.zero_add, Nat.add_zero] at h2
  have e : readGo (bOf (digs 10 n)) 10 (digs 10 n).length 0 0 = some (n : Int) := by
    refine h2.trans ?_
    rfl
  rw [e]
  show (if most < (n : Int) then ((0 : Int), (3 : Int)) else ((n : Int), 0)) = _
  rw [if_neg (by omega)]
end Go.Proofs.YtjaklgikfcahdaaGreatDoor.Pu
namespace Go.Proofs.YtjaklgikfcahdaaGreatDoor.Pu
open Go.RowKit Go.Proofs.YtjaklgikfcahdaaGreatDoorW.PrintWords Go.Proofs.YtjaklgikfcahdaaGreatDoorW.PrintLast Go.Proofs.YtjaklgikfcahdaaGreatDoor.PB
set_option linter.unusedVariables false
set_option linter.unusedSimpArgs false
theorem pre_take (l p : List UInt8) (h : p.length ≤ l.length) : (l.take p.length == p) = p.isPrefixOf l := by
  have := Lib.hasPrefix_of_take l p
  unfold Lib.hasPrefix at this
  rw [← this, decide_eq_true h, Bool.true_and]
theorem prog_CutPrefix (l p : List UInt8) (h : l.length ≤ 4294967296) : strings_CutPrefix.f (bOf l) (bOf p) = some (if p.isPrefixOf l = true then (bOf (l.drop p.length), true) else (bOf l, false)) := by
  unfold strings_CutPrefix.f stringslite_CutPrefix.f stringslite_HasPrefix.f
  rw [bOf_size, bOf_size]
  by_cases hp : p.length ≤ l.length
  · rw [if_pos (by omega), if_pos (by omega), if_pos (by omega), bOf_extract, Int.toNat_natCast, List.drop_zero, toList_bOf, toList_bOf, pre_take l p hp, Option.bind_some]
    by_cases hq : p.isPrefixOf l = true
    · rw [if_pos hq, if_pos hq, if_pos (by omega), if_pos (by omega), bOf_extract, List.take_length]
      rfl
    · rw [if_neg hq, if_neg hq]
      rfl
  · have hq : ¬ p.isPrefixOf l = true := fun hq => hp (List.isPrefixOf_iff_prefix.1 hq).length_le
    rw [if_neg (by omega), Option.bind_some, if_neg (by simp), if_neg hq]
    rfl
def http : List UInt8 := [72, 84, 84, 80, 47, 49, 46]
def verL (l : List UInt8) : Int := if l = http ++ [48] then 0 else if l = http ++ [49] then 1 else -1
theorem verL_yes {l : List UInt8} (h : 0 ≤ verL l) : (l = http ++ [48] ∧ verL l = 0) ∨ (l = http ++ [49] ∧ verL l = 1) := by
  unfold verL at h ⊢
  split at h
  case isTrue c => exact Or.inl ⟨c, if_pos c⟩
  case isFalse c =>
    split at h
    case isTrue d => exact Or.inr ⟨d, by rw [if_neg c, if_pos d]⟩
    · omega
theorem prog_version (l : List UInt8) (h : l.length ≤ 4294967296) : line_version.f (bOf l) = some (if verL l < 0 then (0, false) else (verL l, true)) := by
  unfold line_version.f
  rw [show (⟨#[72, 84, 84, 80, 47, 49, 46]⟩ : ByteArray) = bOf http from rfl, prog_CutPrefix l http h, Option.bind_some]
  by_cases hp : http.isPrefixOf l = true
  · obtain ⟨t, rfl⟩ := List.isPrefixOf_iff_prefix.1 hp
    rw [if_pos hp]
    simp only [List.drop_left]
    rw [if_pos trivial, toList_bOf]
    by_cases c1 : t = [48]
    · subst c1
      rw [if_pos rfl, if_pos (by rw [bOf_size]; decide)]
      rfl
    · rw [if_neg c1]
      by_cases c2 : t = [49]
      · subst c2
        rw [if_pos rfl, if_pos (by rw [bOf_size]; decide)]
        rfl
      · rw [if_neg c2]
        have : verL (http ++ t) = -1 := by
          unfold verL
          rw [if_neg (fun e => c1 (List.append_cancel_left e)), if_neg (fun e => c2 (List.append_cancel_left e))]
        rw [this]
        rfl
  · rw [if_neg hp]
    simp only [Bool.false_eq_true, if_false]
    have : verL l = -1 := by
      unfold verL
      rw [if_neg (fun e => hp (List.isPrefixOf_iff_prefix.2 ⟨_, e.symm⟩)), if_neg (fun e => hp (List.isPrefixOf_iff_prefix.2 ⟨_, e.symm⟩))]
    rw [this]
    rfl
def splitL (c : UInt8) : List UInt8 → List (List UInt8)
  | [] => [[]]
  | x :: l => if x = c then [] :: splitL c l else match splitL c l with | [] => [[x]] | h :: t => (x :: h) :: t
theorem splitL_cut (c : UInt8) : ∀ l, splitL c l = if (cutAt c l).2.2 = true then (cutAt c l).1 :: splitL c (cutAt c l).2.1 else [l]
  | [] => rfl
  | x :: l => by
    have ih := splitL_cut c l
    rw [splitL, cutAt]
    by_cases h : x = c
    · rw [if_pos h, if_pos h]; rfl
    · rw [if_neg h, if_neg h, ih]
      cases (cutAt c l).2.2 <;> rfl
theorem splitL_ne (c : UInt8) (l : List UInt8) : 1 ≤ (splitL c l).length := by
  rw [splitL_cut]; split <;> simp
theorem index_one (c : UInt8) : ∀ l, Lib.index l [c] = if (cutAt c l).2.2 = true then ((cutAt c l).1.length : Int) else -1
  | [] => rfl
  | x :: l => by
    have ih := index_one c l
    unfold Lib.index cutAt
    by_cases h : x = c
    · subst h; simp [List.isPrefixOf]
    · rw [if_neg (by simp [List.isPrefixOf]; exact fun e => h e.symm), if_neg h, ih]
      cases (cutAt c l).2.2
      · simp
      · simp only [if_true, List.length_cons]
        rw [if_neg (by simp <;> omega)]
        omega
theorem split_all (c : UInt8) (n : Nat) : ∀ l : List UInt8, l.length = n → Lib.splitB (bOf [c]) 0 (Lib.countB (bOf l) (bOf [c])) (bOf l) = (splitL c l).map bOf := by
  induction n using Nat.strongRecOn with
  | _ n ih =>
    intro l hl
    have hi : Lib.indexB (bOf l) (bOf [c]) = if (cutAt c l).2.2 = true then ((cutAt c l).1.length : Int) else -1 := index_one c l
    rw [splitL_cut]
    cases hh : (cutAt c l).2.2
    · rw [hh] at hi
      rw [Lib.countB_miss _ _ (by simpa using hi), Lib.splitB_zero]
      rfl
    · rw [hh] at hi
      have hy := cut_yes c l hh
      have hly := congrArg List.length hy
      simp at hly
      have hi' : Lib.indexB (bOf l) (bOf [c]) = ((cutAt c l).1.length : Nat) := by simpa using hi
      rw [Lib.countB_hit _ _ _ (by rw [bOf_size]; simp) hi', Nat.add_comm 1, Lib.splitB_hit _ _ _ _ _ hi', bOf_size, bOf_size, bOf_extract, bOf_extract, List.take_length]
      have e1 : (l.take ((cutAt c l).1.length + 0)).drop 0 = (cutAt c l).1 := by
        rw [Nat.add_zero, List.drop_zero]
        conv => lhs; arg 2; rw [hy]
        exact List.take_left
      have e2 : l.drop ((cutAt c l).1.length + [c].length) = (cutAt c l).2.1 := by
        conv => lhs; arg 2; rw [hy]
        rw [List.drop_append, List.drop_eq_nil_of_le (by simp), show (cutAt c l).1.length + [c].length - (cutAt c l).1.length = 1 by simp]
        rfl
      rw [e1, e2, ih (cutAt c l).2.1.length (by omega) _ rfl, if_pos rfl]
      rfl
theorem prog_Split (c : UInt8) (l : List UInt8) (h : l.length ≤ 100000) : strings_Split.f (bOf l) (bOf [c]) = some ((splitL c l).map bOf) := by
  unfold strings_Split.f
  rw [if_pos ⟨by rw [bOf_size]; omega, by rw [bOf_size]; simp⟩, split_all c _ l rfl]
def visU (b : UInt8) : Bool := visB (b.toNat : Int)
theorem prog_visible (l : List UInt8) (h : l.length ≤ 4294967296) : line_visible.f (bOf l) = some (l.all visU && !(l == [])) := by
  unfold line_visible.f
  rw [if_pos (by rw [bOf_size]; omega), allB_list, toList_bOf]
  rfl
def ReqOk (m t r : List UInt8) : Prop := isTok m = true ∧ ¬ t = [] ∧ t.all visU = true ∧ 0 ≤ verL r
instance (m t r : List UInt8) : Decidable (ReqOk m t r) := by unfold ReqOk; exact inferInstance
def reqE (m t r : List UInt8) : List UInt8 × List UInt8 × Int × Int := if ReqOk m t r then (m, t, verL r, 0) else ([], [], 0, 20)
def reqL (l : List UInt8) : List UInt8 × List UInt8 × Int × Int :=
  if 8192 < l.length then ([], [], 0, 4) else reqE (cutAt 32 l).1 (cutAt 32 (cutAt 32 l).2.1).1 (cutAt 32 (cutAt 32 l).2.1).2.1
def reqB (q : List UInt8 × List UInt8 × Int × Int) : ByteArray × ByteArray × Int × Int := (bOf q.1, bOf q.2.1, q.2.2.1, q.2.2.2)
theorem reqE_yes {m t r : List UInt8} (h : ReqOk m t r) : reqE m t r = (m, t, verL r, 0) := if_pos h
theorem reqE_no {m t r : List UInt8} (h : ¬ ReqOk m t r) : reqE m t r = ([], [], 0, 20) := if_neg h
theorem prog_req_end (a b r : List UInt8) (hr : r.length ≤ 4294967296) (hv : visU = visU) : Ev (fun k => line_Request.j0 k [bOf a, bOf b, bOf r] (!(b.all visU && !(b == [])))) (reqB (if ¬ b = [] ∧ b.all visU = true ∧ 0 ≤ verL r then (a, b, verL r, 0) else ([], [], 0, 20))) := by
  refine Ev.step (fun k => by rw [line_Request.j0]) ?_
  by_cases c1 : ¬ b = [] ∧ b.all visU = true
  · rw [c1.2, show (b == []) = false by simpa using c1.1]
    refine Ev.neg (by decide) (Ev.pos (by simp) ?_)
    rw [show rdOf ByteArray.empty [bOf a, bOf b, bOf r] 2 = bOf r from rfl]
    refine Ev.sbind (prog_version r hr) ?_
    by_cases c2 : verL r < 0
    · rw [if_pos c2]
      refine Ev.neg (by simp) (Ev.some' ?_)
      rw [if_neg (by omega)]; rfl
    · rw [if_neg c2]
      refine Ev.pos rfl (Ev.pos (by simp) (Ev.pos (by simp) (Ev.some' ?_)))
      rw [if_pos ⟨c1.1, rfl, by omega⟩]; rfl
  · have e : (b.all visU && !(b == [])) = false := by
      cases h : b.all visU
      · rfl
      · have : b = [] := Decidable.not_not.1 (fun hn => c1 ⟨hn, h⟩)
        rw [this]; rfl
    rw [e]
    refine Ev.pos rfl (Ev.some' ?_)
    rw [if_neg (fun h => c1 ⟨h.1, h.2.1⟩)]; rfl
theorem prog_Request (l : List UInt8) (h : l.length ≤ 100000) : Ev (fun k => line_Request.f k (bOf l)) (reqB (reqL l)) := by
  unfold line_Request.f reqL
  rw [bOf_size]
  by_cases h0 : 8192 < l.length
  · rw [if_pos h0]
    exact Ev.pos (by omega) (Ev.some' rfl)
  · rw [if_neg h0]
    refine Ev.neg (by omega) ?_
    rw [show (⟨#[32]⟩ : ByteArray) = bOf [32] from rfl]
    refine Ev.sbind (prog_Split 32 l h) ?_
    have jt : ∀ xs, Ev (fun k => line_Request.j0 k xs true) (reqB ([], [], 0, 20)) := fun xs => by
      refine Ev.step (fun k => by rw [line_Request.j0]) ?_
      exact Ev.pos rfl (Ev.some' rfl)
    have hle := cut_le 32 l
    rw [splitL_cut]
    cases h1 : (cutAt 32 l).2.2
    · rw [if_neg (by simp), (cut_no 32 l h1).2]
      refine Ev.neg (by simp) (Ev.eq (jt _) ?_)
      show _ = reqB (reqE (cutAt 32 l).1 [] [])
      rw [reqE_no (fun hk => hk.2.1 rfl)]
    · rw [if_pos rfl]
      generalize (cutAt 32 l).1 = a at hle ⊢
      generalize (cutAt 32 l).2.1 = r at hle ⊢
      have hle2 := cut_le 32 r
      rw [splitL_cut]
      cases h2 : (cutAt 32 r).2.2
      · rw [if_neg (by simp), (cut_no 32 r h2).2]
        refine Ev.neg (by simp) (Ev.eq (jt _) ?_)
        rw [reqE_no (fun hk => by have := hk.2.2.2; exact absurd this (by decide))]
      · rw [if_pos rfl]
        generalize (cutAt 32 r).1 = b at hle2 ⊢
        generalize (cutAt 32 r).2.1 = t at hle2 ⊢
        rw [splitL_cut]
        cases h3 : (cutAt 32 t).2.2
        · rw [if_neg (by simp)]
          refine Ev.pos (by simp) (Ev.pos (by simp) ?_)
          rw [show rdOf ByteArray.empty (List.map bOf [a, b, t]) 0 = bOf a from rfl, show rdOf ByteArray.empty (List.map bOf [a, b, t]) 1 = bOf b from rfl]
          refine Ev.sbind (prog_IsToken a (by omega)) ?_
          by_cases c1 : isTok a = true
          · have c1' : (!a.isEmpty && a.all tokU) = true := c1
            rw [c1']
            refine Ev.pos rfl (Ev.pos (by simp) (Ev.sbind (prog_visible b (by omega)) (Ev.eq (prog_req_end a b t (by omega) rfl) ?_)))
            by_cases c2 : ¬ b = [] ∧ b.all visU = true ∧ 0 ≤ verL t
            · rw [if_pos c2, reqE_yes ⟨c1, c2⟩]
            · rw [if_neg c2, reqE_no (fun hk => c2 hk.2)]
          · have c1' : (!a.isEmpty && a.all tokU) = false := by simpa [isTok] using c1
            rw [c1']
            refine Ev.neg (by simp) (Ev.eq (jt _) ?_)
            rw [reqE_no (fun hk => c1 hk.1)]
        · rw [if_pos rfl]
          have hn := splitL_ne 32 (cutAt 32 t).2.1
          refine Ev.neg (by simp; omega) (Ev.eq (jt _) ?_)
          rw [reqE_no (fun hk => ?_)]
          rcases verL_yes hk.2.2.2 with ⟨e, _⟩ | ⟨e, _⟩
          · rw [e] at h3; exact absurd h3 (by decide)
          · rw [e] at h3; exact absurd h3 (by decide)
end Go.Proofs.YtjaklgikfcahdaaGreatDoor.Pu
namespace Go.Proofs.YtjaklgikfcahdaaGreatDoor.Pu
open Go.RowKit Go.Proofs.YtjaklgikfcahdaaGreatDoorW.PrintWords Go.Proofs.YtjaklgikfcahdaaGreatDoorW.PrintLast Go.Proofs.YtjaklgikfcahdaaGreatDoor.PB
set_option linter.unusedVariables false
set_option linter.unusedSimpArgs false
theorem cut_at (c : UInt8) : ∀ (a b : List UInt8), (∀ x ∈ a, x ≠ c) → cutAt c (a ++ c :: b) = (a, b, true)
  | [], b, _ => by rw [List.nil_append, cutAt, if_pos rfl]
  | x :: a, b, h => by
    have ih := cut_at c a b (fun y hy => h y (List.mem_cons_of_mem _ hy))
    rw [List.cons_append, cutAt, if_neg (h x List.mem_cons_self), ih]
theorem cut_first (c : UInt8) : ∀ (l : List UInt8), ∀ x ∈ (cutAt c l).1, x ≠ c
  | [], x, h => by simp [cutAt] at h
  | y :: l, x, h => by
    rw [cutAt] at h
    by_cases e : y = c
    · rw [if_pos e] at h; simp at h
    · rw [if_neg e] at h
      rcases List.mem_cons.1 h with rfl | h
      · exact e
      · exact cut_first c l x h
def dg (x : UInt8) : Int := Hand.dig (x.toNat : Int) 10
theorem dg_all : ∀ x : Fin 256, Hand.dig ((x : Nat) : Int) 10 ≤ 9 ∧ -1 ≤ Hand.dig ((x : Nat) : Int) 10 ∧ (0 ≤ Hand.dig ((x : Nat) : Int) 10 → dch (Hand.dig ((x : Nat) : Int) 10).toNat = UInt8.ofNat x ∧ (x : Nat) ≠ 32) := by decide +kernel
theorem dg_range (x : UInt8) : dg x ≤ 9 ∧ -1 ≤ dg x := ⟨(dg_all ⟨x.toNat, x.toNat_lt⟩).1, (dg_all ⟨x.toNat, x.toNat_lt⟩).2.1⟩
theorem dg_dch (x : UInt8) (h : 0 ≤ dg x) : dch (dg x).toNat = x := by
  have := ((dg_all ⟨x.toNat, x.toNat_lt⟩).2.2 h).1
  refine this.trans ?_
  simp
def num3 (a b c : UInt8) : Int × Int := if dg a < 0 ∨ dg b < 0 ∨ dg c < 0 then (0, 5) else if 599 < (dg a * 10 + dg b) * 10 + dg c then (0, 3) else ((dg a * 10 + dg b) * 10 + dg c, 0)
theorem read3 (a b c : UInt8) : readP (bOf [a, b, c]) 10 18 599 = num3 a b c := by
  have ha := dg_range a
  have hb := dg_range b
  have hc := dg_range c
  unfold readP
  rw [bOf_size, show [a, b, c].length = 3 from rfl, if_neg (by decide), if_neg (by decide)]
  have b0 : bt (bOf [a, b, c]) ((0 : Nat) : Int) = (a.toNat : Int) := rfl
  have b1 : bt (bOf [a, b, c]) ((1 : Nat) : Int) = (b.toNat : Int) := rfl
  have b2 : bt (bOf [a, b, c]) ((2 : Nat) : Int) = (c.toNat : Int) := rfl
  have g : ∀ (k : Nat) (acc : Int) (i : Nat), readGo (bOf [a, b, c]) 10 (k + 1) acc i = if Hand.dig (bt (bOf [a, b, c]) i) 10 < 0 then none else readGo (bOf [a, b, c]) 10 k (wrap64 (wrap64 (acc * 10) + Hand.dig (bt (bOf [a, b, c]) i) 10)) (i + 1) := fun k acc i => rfl
  rw [g 2 0 0, b0]
  change readEnd 599 (if dg a < 0 then none else readGo (bOf [a, b, c]) 10 2 (wrap64 (wrap64 (0 * 10) + dg a)) 1) = _
  by_cases c1 : dg a < 0
  · rw [if_pos c1, num3, if_pos (Or.inl c1)]; rfl
  · rw [if_neg c1, g 1 _ 1, b1]
    change readEnd 599 (if dg b < 0 then none else readGo (bOf [a, b, c]) 10 1 (wrap64 (wrap64 (wrap64 (wrap64 (0 * 10) + dg a) * 10) + dg b)) 2) = _
    by_cases c2 : dg b < 0
    · rw [if_pos c2, num3, if_pos (Or.inr (Or.inl c2))]; rfl
    · rw [if_neg c2, g 0 _ 2, b2]
      change readEnd 599 (if dg c < 0 then none else some (wrap64 (wrap64 (wrap64 (wrap64 (wrap64 (wrap64 (0 * 10) + dg a) * 10) + dg b) * 10) + dg c))) = _
      by_cases c3 : dg c < 0
      · rw [if_pos c3, num3, if_pos (Or.inr (Or.inr c3))]; rfl
      · rw [if_neg c3, wrap_id (n := 0 * 10) (by omega) (by omega), wrap_id (n := 0 * 10 + dg a) (by omega) (by omega), wrap_id (n := (0 * 10 + dg a) * 10) (by omega) (by omega), wrap_id (n := (0 * 10 + dg a) * 10 + dg b) (by omega) (by omega), wrap_id (n := ((0 * 10 + dg a) * 10 + dg b) * 10) (by omega) (by omega), wrap_id (by omega) (by omega)]
        rw [num3, if_neg (by omega)]
        show (if (599 : Int) < ((0 * 10 + dg a) * 10 + dg b) * 10 + dg c then ((0 : Int), (3 : Int)) else (((0 * 10 + dg a) * 10 + dg b) * 10 + dg c, 0)) = _
        rw [show ((0 * 10 + dg a) * 10 + dg b) * 10 + dg c = (dg a * 10 + dg b) * 10 + dg c by omega]
theorem num3_yes {a b c : UInt8} (h : (num3 a b c).2 = 0) : 0 ≤ dg a ∧ 0 ≤ dg b ∧ 0 ≤ dg c ∧ (num3 a b c).1 = (dg a * 10 + dg b) * 10 + dg c ∧ (num3 a b c).1 ≤ 599 := by
  unfold num3 at h ⊢
  split at h
  · simp at h
  case isFalse c1 =>
    rw [if_neg c1]
    split at h
    · simp at h
    case isFalse c2 =>
      rw [if_neg c2]
      exact ⟨by omega, by omega, by omega, rfl, by show (dg a * 10 + dg b) * 10 + dg c ≤ 599; omega⟩
theorem num3_plain {a b c : UInt8} (h : (num3 a b c).2 = 0) (h1 : 100 ≤ (num3 a b c).1) : digs 10 (num3 a b c).1.toNat = [a, b, c] := by
  obtain ⟨ha, hb, hc, he, _⟩ := num3_yes h
  have ra := dg_range a
  have rb := dg_range b
  have rc := dg_range c
  rw [he] at h1 ⊢
  have e1 : ((dg a * 10 + dg b) * 10 + dg c).toNat / 10 = (dg a * 10 + dg b).toNat := by omega
  have e2 : ((dg a * 10 + dg b) * 10 + dg c).toNat % 10 = (dg c).toNat := by omega
  have e3 : (dg a * 10 + dg b).toNat / 10 = (dg a).toNat := by omega
  have e4 : (dg a * 10 + dg b).toNat % 10 = (dg b).toNat := by omega
  rw [digs_big (by decide) (by omega), e1, e2, digs_big (by decide) (by omega), e3, e4, digs_small (by omega), dg_dch a ha, dg_dch b hb, dg_dch c hc]
  rfl
def StaOk (V C R : List UInt8) (has : Bool) : Prop := 0 ≤ verL V ∧ has = true ∧ (readP (bOf C) 10 18 599).2 = 0 ∧ 100 ≤ (readP (bOf C) 10 18 599).1 ∧ C.length = 3 ∧ isTxt R = true
instance (V C R : List UInt8) (has : Bool) : Decidable (StaOk V C R has) := by unfold StaOk; exact inferInstance
def staE (V C R : List UInt8) (has : Bool) : Int × List UInt8 × Int × Int := if StaOk V C R has then ((readP (bOf C) 10 18 599).1, R, verL V, 0) else (0, [], 0, 20)
theorem staE_yes {V C R : List UInt8} {has : Bool} (h : StaOk V C R has) : staE V C R has = ((readP (bOf C) 10 18 599).1, R, verL V, 0) := if_pos h
theorem staE_no {V C R : List UInt8} {has : Bool} (h : ¬ StaOk V C R has) : staE V C R has = (0, [], 0, 20) := if_neg h
def staL (l : List UInt8) : Int × List UInt8 × Int × Int :=
  if 8192 < l.length then (0, [], 0, 4) else staE (cutAt 32 l).1 (cutAt 32 (cutAt 32 l).2.1).1 (cutAt 32 (cutAt 32 l).2.1).2.1 (cutAt 32 (cutAt 32 l).2.1).2.2
def staB (q : Int × List UInt8 × Int × Int) : Int × ByteArray × Int × Int := (q.1, bOf q.2.1, q.2.2.1, q.2.2.2)
theorem prog_Status (l : List UInt8) (h : l.length ≤ 100000) : line_Status.f (bOf l) = some (staB (staL l)) := by
  unfold line_Status.f staL
  rw [bOf_size]
  by_cases h0 : 8192 < l.length
  · rw [if_pos h0, if_pos (by omega)]; rfl
  · rw [if_neg h0, if_neg (by omega), if_pos (by decide), show bt (⟨#[32]⟩ : ByteArray) 0 = (((32 : UInt8).toNat : Nat) : Int) from rfl]
    have hle := cut_le 32 l
    have hle2 := cut_le 32 (cutAt 32 l).2.1
    rw [prog_Cut 32 l (by omega), Option.bind_some]
    simp only
    rw [prog_Cut 32 (cutAt 32 l).2.1 (by omega), Option.bind_some]
    simp only
    generalize (cutAt 32 l).1 = V at hle ⊢
    generalize (cutAt 32 (cutAt 32 l).2.1).1 = C at hle2 ⊢
    generalize (cutAt 32 (cutAt 32 l).2.1).2.2 = has at hle2 ⊢
    generalize (cutAt 32 (cutAt 32 l).2.1).2.1 = R at hle2 ⊢
    rw [prog_version V (by omega), Option.bind_some, prog_Number _ _ (by rw [bOf_size]; omega), Option.bind_some]
    by_cases c1 : verL V < 0
    · rw [if_pos c1, staE_no (fun hk => by have := hk.1; omega)]
      rfl
    · rw [if_neg c1]
      simp only
      rw [if_pos trivial]
      cases has
      · rw [if_neg (by simp), staE_no (fun hk => by have := hk.2.1; simp at this)]
        rfl
      · rw [if_pos rfl]
        by_cases c2 : (readP (bOf C) 10 18 599).2 = 0
        · rw [if_pos c2]
          by_cases c3 : (readP (bOf C) 10 18 599).1 < 100
          · rw [if_pos c3, staE_no (fun hk => by have := hk.2.2.2.1; omega)]
            rfl
          · rw [if_neg c3, bOf_size]
            by_cases c4 : C.length = 3
            · rw [if_pos (by omega), prog_IsText R (by omega), Option.bind_some]
              by_cases c5 : isTxt R = true
              · have c5' : R.all textU = true := c5
                rw [if_pos c5', staE_yes ⟨by omega, rfl, c2, by omega, c4, c5⟩]
                rfl
              · have c5' : ¬ R.all textU = true := c5
                rw [if_neg c5', staE_no (fun hk => c5 hk.2.2.2.2.2)]
                rfl
            · rw [if_neg (by omega), staE_no (fun hk => c4 hk.2.2.2.2.1)]
              rfl
        · rw [if_neg c2, staE_no (fun hk => c2 hk.2.2.1)]
          rfl
theorem ver_facts {V : List UInt8} (h : 0 ≤ verL V) : V.length = 8 ∧ (∀ x ∈ V, x ≠ 32) ∧ V = http ++ digs 10 (verL V).toNat ∧ verL V ≤ 1 := by
  rcases verL_yes h with ⟨rfl, e⟩ | ⟨rfl, e⟩
  · rw [e]; exact ⟨rfl, by decide, by rw [show (0 : Int).toNat = 0 from rfl, digs_small (by decide)]; rfl, by decide⟩
  · rw [e]; exact ⟨rfl, by decide, by rw [show (1 : Int).toNat = 1 from rfl, digs_small (by decide)]; rfl, by decide⟩
theorem sta_shape (l : List UInt8) (hk : StaOk (cutAt 32 l).1 (cutAt 32 (cutAt 32 l).2.1).1 (cutAt 32 (cutAt 32 l).2.1).2.1 (cutAt 32 (cutAt 32 l).2.1).2.2) :
    l = (cutAt 32 l).1 ++ 32 :: ((cutAt 32 (cutAt 32 l).2.1).1 ++ 32 :: (cutAt 32 (cutAt 32 l).2.1).2.1) := by
  have h2 := hk.2.1
  cases h1 : (cutAt 32 l).2.2
  · rw [(cut_no 32 l h1).2] at h2
    simp [cutAt] at h2
  · rw [← cut_yes 32 _ h2]
    exact cut_yes 32 l h1
theorem words3 (a b c : List UInt8) (ha : a.length ≤ 100000) (hb : b.length ≤ 100000) (hc : c.length ≤ 100000) : line_words.f [bOf a, bOf b, bOf c] = some (bOf (a ++ 32 :: (b ++ 32 :: c))) := by
  unfold line_words.f strings_Join.f
  have e : Lib.join (List.map (fun x : ByteArray => x.data.toList) [bOf a, bOf b, bOf c]) (⟨#[32]⟩ : ByteArray).data.toList = a ++ 32 :: (b ++ 32 :: c) := by
    simp [Lib.join, List.intercalate, List.intersperse, data_bOf]
  rw [e, if_pos ⟨by simp, by simp; omega⟩]
  rfl
def reqW (m t : List UInt8) (v : Int) : List UInt8 := m ++ 32 :: (t ++ 32 :: (http ++ plain v))
def staW (c : Int) (r : List UInt8) (v : Int) : List UInt8 := (http ++ plain v) ++ 32 :: (plain c ++ 32 :: r)
theorem http_lit : (⟨#[72, 84, 84, 80, 47, 49, 46]⟩ : ByteArray) = bOf http := rfl
theorem prog_PrintRequest (m t : List UInt8) (v : Int) (hm : m.length ≤ 100000) (ht : t.length ≤ 100000) (h : -9223372036854775808 ≤ v ∧ v ≤ 9223372036854775807) : line_PrintRequest.f (bOf m) (bOf t) v = some (bOf (reqW m t v)) := by
  have hp := plain_len v h
  unfold line_PrintRequest.f
  rw [prog_Plain v h, Option.bind_some, if_pos (by rw [bOf_size]; omega), http_lit, bOf_append, words3 m t _ hm ht (by simp [http]; omega)]
  rfl
theorem prog_PrintStatus (c : Int) (r : List UInt8) (v : Int) (hr : r.length ≤ 100000) (hc : -9223372036854775808 ≤ c ∧ c ≤ 9223372036854775807) (h : -9223372036854775808 ≤ v ∧ v ≤ 9223372036854775807) : line_PrintStatus.f c (bOf r) v = some (bOf (staW c r v)) := by
  have hp := plain_len v h
  have hq := plain_len c hc
  unfold line_PrintStatus.f
  rw [prog_Plain v h, Option.bind_some, if_pos (by rw [bOf_size]; omega), prog_Plain c hc, Option.bind_some, http_lit, bOf_append, words3 _ _ _ (by simp [http]; omega) (by omega) hr]
  rfl
end Go.Proofs.YtjaklgikfcahdaaGreatDoor.Pu
namespace Go.Proofs.YtjaklgikfcahdaaGreatDoor.Pu
open Go.RowKit Go.Proofs.YtjaklgikfcahdaaGreatDoorW.PrintWords Go.Proofs.YtjaklgikfcahdaaGreatDoorW.PrintLast Go.Proofs.YtjaklgikfcahdaaGreatDoor.PB
set_option linter.unusedVariables false
set_option linter.unusedSimpArgs false
theorem plain_ver {V : List UInt8} (h : 0 ≤ verL V) : http ++ plain (verL V) = V := by
  obtain ⟨_, _, e, _⟩ := ver_facts h
  unfold plain
  rw [if_neg (by omega), ← e]
theorem req_cases (l : List UInt8) : (reqL l).2.2.2 = 0 ∧ ReqOk (cutAt 32 l).1 (cutAt 32 (cutAt 32 l).2.1).1 (cutAt 32 (cutAt 32 l).2.1).2.1 ∧ reqL l = ((cutAt 32 l).1, (cutAt 32 (cutAt 32 l).2.1).1, verL (cutAt 32 (cutAt 32 l).2.1).2.1, 0) ∨ ¬ (reqL l).2.2.2 = 0 := by
  unfold reqL
  by_cases h0 : 8192 < l.length
  · rw [if_pos h0]; exact Or.inr (by decide)
  · rw [if_neg h0]
    by_cases c : ReqOk (cutAt 32 l).1 (cutAt 32 (cutAt 32 l).2.1).1 (cutAt 32 (cutAt 32 l).2.1).2.1
    · rw [reqE_yes c]; exact Or.inl ⟨rfl, c, rfl⟩
    · rw [reqE_no c]; exact Or.inr (by decide)
theorem req_shape (l : List UInt8) (hk : ReqOk (cutAt 32 l).1 (cutAt 32 (cutAt 32 l).2.1).1 (cutAt 32 (cutAt 32 l).2.1).2.1) :
    l = (cutAt 32 l).1 ++ 32 :: ((cutAt 32 (cutAt 32 l).2.1).1 ++ 32 :: (cutAt 32 (cutAt 32 l).2.1).2.1) := by
  cases h2 : (cutAt 32 (cutAt 32 l).2.1).2.2
  · have h3 := hk.2.2.2
    rw [(cut_no 32 _ h2).2] at h3
    exact absurd h3 (by decide)
  · cases h1 : (cutAt 32 l).2.2
    · rw [(cut_no 32 l h1).2] at h2
      simp [cutAt] at h2
    · rw [← cut_yes 32 _ h2]
      exact cut_yes 32 l h1
theorem req_back (l : List UInt8) (h : (reqL l).2.2.2 = 0) : reqW (reqL l).1 (reqL l).2.1 (reqL l).2.2.1 = l ∧ (0 ≤ (reqL l).2.2.1 ∧ (reqL l).2.2.1 ≤ 1) := by
  rcases req_cases l with ⟨_, hk, e⟩ | hn
  · rw [e]
    have hs := req_shape l hk
    obtain ⟨_, _, _, h1⟩ := ver_facts hk.2.2.2
    refine ⟨?_, hk.2.2.2, h1⟩
    show (cutAt 32 l).1 ++ 32 :: ((cutAt 32 (cutAt 32 l).2.1).1 ++ 32 :: (http ++ plain (verL (cutAt 32 (cutAt 32 l).2.1).2.1))) = l
    rw [plain_ver hk.2.2.2]
    exact hs.symm
  · exact absurd h hn
theorem sta_cases (l : List UInt8) : (staL l).2.2.2 = 0 ∧ StaOk (cutAt 32 l).1 (cutAt 32 (cutAt 32 l).2.1).1 (cutAt 32 (cutAt 32 l).2.1).2.1 (cutAt 32 (cutAt 32 l).2.1).2.2 ∧ staL l = ((readP (bOf (cutAt 32 (cutAt 32 l).2.1).1) 10 18 599).1, (cutAt 32 (cutAt 32 l).2.1).2.1, verL (cutAt 32 l).1, 0) ∨ ¬ (staL l).2.2.2 = 0 := by
  unfold staL
  by_cases h0 : 8192 < l.length
  · rw [if_pos h0]; exact Or.inr (by decide)
  · rw [if_neg h0]
    by_cases c : StaOk (cutAt 32 l).1 (cutAt 32 (cutAt 32 l).2.1).1 (cutAt 32 (cutAt 32 l).2.1).2.1 (cutAt 32 (cutAt 32 l).2.1).2.2
    · rw [staE_yes c]; exact Or.inl ⟨rfl, c, rfl⟩
    · rw [staE_no c]; exact Or.inr (by decide)
theorem plain_read {C : List UInt8} (hl : C.length = 3) (h : (readP (bOf C) 10 18 599).2 = 0) (h1 : 100 ≤ (readP (bOf C) 10 18 599).1) : plain (readP (bOf C) 10 18 599).1 = C ∧ (readP (bOf C) 10 18 599).1 ≤ 599 := by
  match C, hl with
  | [a, b, c], _ =>
    rw [read3] at h h1 ⊢
    refine ⟨?_, (num3_yes h).2.2.2.2⟩
    unfold plain
    rw [if_neg (by omega), num3_plain h h1]
theorem sta_back (l : List UInt8) (h : (staL l).2.2.2 = 0) : staW (staL l).1 (staL l).2.1 (staL l).2.2.1 = l ∧ (0 ≤ (staL l).2.2.1 ∧ (staL l).2.2.1 ≤ 1) ∧ 0 ≤ (staL l).1 ∧ (staL l).1 ≤ 599 := by
  rcases sta_cases l with ⟨_, hk, e⟩ | hn
  · rw [e]
    have hs := sta_shape l hk
    obtain ⟨_, _, _, h1⟩ := ver_facts hk.1
    obtain ⟨hp, h599⟩ := plain_read hk.2.2.2.2.1 hk.2.2.1 hk.2.2.2.1
    refine ⟨?_, ⟨hk.1, h1⟩, ?_, h599⟩
    · show (http ++ plain (verL (cutAt 32 l).1)) ++ 32 :: (plain (readP (bOf (cutAt 32 (cutAt 32 l).2.1).1) 10 18 599).1 ++ 32 :: (cutAt 32 (cutAt 32 l).2.1).2.1) = l
      rw [plain_ver hk.1, hp]
      exact hs.symm
    · show 0 ≤ (readP (bOf (cutAt 32 (cutAt 32 l).2.1).1) 10 18 599).1
      have := hk.2.2.2.1
      omega
  · exact absurd h hn
theorem count_no {l : List UInt8} (h : ∀ x ∈ l, x ≠ 32) : l.count 32 = 0 := List.count_eq_zero.2 (fun hm => h 32 hm rfl)
theorem digs_dig (n : Nat) : ∀ x ∈ digs 10 n, 48 ≤ x.toNat ∧ x.toNat ≤ 57 := by
  have hd : ∀ d : Fin 10, 48 ≤ (dch d).toNat ∧ (dch d).toNat ≤ 57 := by decide
  induction n using Nat.strongRecOn with
  | _ n ih =>
    by_cases h : n < 10
    · rw [digs_small h]
      intro x hx
      rw [List.mem_singleton.1 hx]
      exact hd ⟨n, h⟩
    · rw [digs_big (by decide) h]
      intro x hx
      rcases List.mem_append.1 hx with hx | hx
      · exact ih (n / 10) (by omega) x hx
      · rw [List.mem_singleton.1 hx]
        exact hd ⟨n % 10, by omega⟩
theorem plain_no (v : Int) (c : UInt8) (h1 : c ≠ 45) (h2 : c.toNat < 48) : ∀ x ∈ plain v, x ≠ c := by
  have key : ∀ n, ∀ x ∈ digs 10 n, x ≠ c := fun n x hx e => by
    have := digs_dig n x hx
    rw [e] at this
    omega
  intro x hx
  unfold plain at hx
  split at hx
  · rcases List.mem_cons.1 hx with rfl | hx
    · exact fun h => h1 h.symm
    · exact key _ x hx
  · exact key _ x hx
theorem plain_one (v : Int) (d : UInt8) (hd : d = 48 ∨ d = 49) (h : plain v = [d]) : v = (d.toNat : Int) - 48 := by
  have k0 : ∀ n : Fin 10, dch n = 48 → (n : Nat) = 0 := by decide
  have k1 : ∀ n : Fin 10, dch n = 49 → (n : Nat) = 1 := by decide
  unfold plain at h
  split at h
  · have := (List.cons.inj h).1
    rcases hd with rfl | rfl <;> exact absurd this (by decide)
  case isFalse hv =>
    by_cases c : v.toNat < 10
    · rw [digs_small c] at h
      have h2 := (List.cons.inj h).1
      rcases hd with rfl | rfl
      · have := k0 ⟨v.toNat, c⟩ h2
        show v = (48 : Int) - 48
        have h3 : v.toNat = 0 := this
        omega
      · have := k1 ⟨v.toNat, c⟩ h2
        show v = (49 : Int) - 48
        have h3 : v.toNat = 1 := this
        omega
    · rw [digs_big (by decide) c] at h
      have := congrArg List.length h
      have h2 := digs_pos 10 (v.toNat / 10) (by decide)
      simp at this
      rw [this] at h2
      simp at h2
theorem ver_any (v : Int) (h : 0 ≤ verL (http ++ plain v)) : (v = 0 ∨ v = 1) ∧ verL (http ++ plain v) = v := by
  rcases verL_yes h with ⟨e, e2⟩ | ⟨e, e2⟩
  · have := plain_one v 48 (Or.inl rfl) (List.append_cancel_left e)
    have h0 : v = 0 := this
    exact ⟨Or.inl h0, by rw [e2, h0]⟩
  · have := plain_one v 49 (Or.inr rfl) (List.append_cancel_left e)
    have h1 : v = 1 := this
    exact ⟨Or.inr h1, by rw [e2, h1]⟩
theorem http_no (c : UInt8) (h : c = 32 ∨ c = 13) : ∀ x ∈ http, x ≠ c := by
  rcases h with rfl | rfl <;> decide
theorem ver_no (v : Int) (c : UInt8) (h : c = 32 ∨ c = 13) : ∀ x ∈ http ++ plain v, x ≠ c := fun x hx => by
  rcases List.mem_append.1 hx with hx | hx
  · exact http_no c h x hx
  · exact plain_no v c (by rcases h with rfl | rfl <;> decide) (by rcases h with rfl | rfl <;> decide) x hx
theorem req_any (m t : List UInt8) (v : Int) (h : (reqL (reqW m t v)).2.2.2 = 0) : (isTok m = true ∧ ¬ t = [] ∧ t.all visU = true ∧ (v = 0 ∨ v = 1)) ∧ reqL (reqW m t v) = (m, t, v, 0) := by
  rcases req_cases (reqW m t v) with ⟨_, hk, e⟩ | hn
  · have hs := congrArg (List.count 32) (req_shape _ hk)
    have z1 := count_no (cut_first 32 (reqW m t v))
    have z2 := count_no (cut_first 32 (cutAt 32 (reqW m t v)).2.1)
    have z3 := count_no (ver_facts hk.2.2.2).2.1
    have z4 := count_no (ver_no v 32 (Or.inl rfl))
    simp only [List.count_append, List.count_cons, z1, z2, z3] at hs
    unfold reqW at hs
    simp only [List.count_append, List.count_cons] at hs z4
    have zm : m.count 32 = 0 := by simp at hs; omega
    have zt : t.count 32 = 0 := by simp at hs; omega
    have nm : ∀ x ∈ m, x ≠ 32 := fun x hx e => by subst e; exact absurd hx (List.count_eq_zero.1 zm)
    have nt : ∀ x ∈ t, x ≠ 32 := fun x hx e => by subst e; exact absurd hx (List.count_eq_zero.1 zt)
    have c1 : cutAt 32 (reqW m t v) = (m, t ++ 32 :: (http ++ plain v), true) := cut_at 32 m _ nm
    have c2 : cutAt 32 (t ++ 32 :: (http ++ plain v)) = (t, http ++ plain v, true) := cut_at 32 t _ nt
    rw [e]
    rw [c1] at hk ⊢
    simp only at hk ⊢
    rw [c2] at hk ⊢
    obtain ⟨k1, k2, k3, k4⟩ := hk
    obtain ⟨hv, hv2⟩ := ver_any v k4
    exact ⟨⟨k1, k2, k3, hv⟩, by simp only [hv2]⟩
  · exact absurd h hn
theorem sta_any (c : Int) (r : List UInt8) (v : Int) (h0 : 200 ≤ c) (h1 : c ≤ 599) (h : (staL (staW c r v)).2.2.2 = 0) : (isTxt r = true ∧ (v = 0 ∨ v = 1)) ∧ staL (staW c r v) = (c, r, v, 0) := by
  have hp : plain c = digs 10 c.toNat := by unfold plain; rw [if_neg (by omega)]
  have hb := ten_back c.toNat 599 (by omega) (by omega)
  have hc : ((c.toNat : Nat) : Int) = c := by omega
  rw [hc] at hb
  have c1 : cutAt 32 (staW c r v) = (http ++ plain v, plain c ++ 32 :: r, true) := cut_at 32 _ _ (ver_no v 32 (Or.inl rfl))
  have c2 : cutAt 32 (plain c ++ 32 :: r) = (plain c, r, true) := cut_at 32 _ _ (plain_no c 32 (by decide) (by decide))
  rcases sta_cases (staW c r v) with ⟨_, hk, e⟩ | hn
  · rw [e]
    rw [c1] at hk ⊢
    simp only at hk ⊢
    rw [c2] at hk ⊢
    obtain ⟨k1, k2, k3, k4, k5, k6⟩ := hk
    obtain ⟨hv, hv2⟩ := ver_any v k1
    refine ⟨⟨k6, hv⟩, ?_⟩
    simp only [hv2, hp, hb]
  · exact absurd h hn
end Go.Proofs.YtjaklgikfcahdaaGreatDoor.Pu
namespace Go.Proofs.YtjaklgikfcahdaaGreatDoor.Pu
open Go.RowKit Go.Proofs.YtjaklgikfcahdaaGreatDoorW.PrintWords Go.Proofs.YtjaklgikfcahdaaGreatDoorW.PrintLast Go.Proofs.YtjaklgikfcahdaaGreatDoor.PB
set_option linter.unusedVariables false
set_option linter.unusedSimpArgs false
def lineL : List UInt8 → Option (List UInt8 × List UInt8)
  | [] => none
  | c :: r => if ([13, 10] : List UInt8).isPrefixOf (c :: r) = true then some ([], r.drop 1) else (lineL r).map fun p => (c :: p.1, p.2)
theorem line_eq : ∀ (l a b : List UInt8), lineL l = some (a, b) → l = a ++ 13 :: 10 :: b
  | [], a, b, h => by cases h
  | c :: r, a, b, h => by
    unfold lineL at h
    split at h
    case isTrue hp =>
      obtain ⟨rfl, rfl⟩ : [] = a ∧ r.drop 1 = b := by simpa using h
      obtain ⟨t, ht⟩ := List.isPrefixOf_iff_prefix.1 hp
      obtain ⟨rfl, rfl⟩ : 13 = c ∧ 10 :: t = r := by simpa using ht
      rfl
    case isFalse =>
      cases hr : lineL r with
      | none => rw [hr] at h; cases h
      | some q =>
        rw [hr] at h
        obtain ⟨rfl, rfl⟩ : c :: q.1 = a ∧ q.2 = b := by simpa using h
        have := line_eq r q.1 q.2 hr
        rw [List.cons_append, ← this]
theorem line_index : ∀ l : List UInt8, Lib.index l [13, 10] = match lineL l with | none => -1 | some q => (q.1.length : Int)
  | [] => rfl
  | c :: r => by
    have ih := line_index r
    unfold Lib.index lineL
    by_cases hp : ([13, 10] : List UInt8).isPrefixOf (c :: r) = true
    · rw [if_pos hp, if_pos hp]; rfl
    · rw [if_neg hp, if_neg hp, ih]
      cases lineL r with
      | none => rfl
      | some q =>
        simp only [Option.map_some, List.length_cons]
        rw [if_neg (by simp <;> omega)]
        simp
theorem lineI_list (l : List UInt8) : Hand.lineI (bOf l) = match lineL l with | none => -1 | some q => (q.1.length : Int) := line_index l
def szL (l : List UInt8) : Int × Int := Hand.szR (readP (bOf (trimR (cutAt 59 l).1)) 16 15 1152921504606846976).1 (readP (bOf (trimR (cutAt 59 l).1)) 16 15 1152921504606846976).2 (isTxt (cutAt 59 l).2.1)
theorem trimR_le (l : List UInt8) : (trimR l).length ≤ l.length := by
  unfold trimR
  rw [List.length_reverse]
  have := (List.dropWhile_suffix (p := isBl) (l := l.reverse)).length_le
  simpa using this
theorem prog_sz (l : List UInt8) (h : l.length ≤ 100000) : chunk_sz (bOf l) = some (szL l) := by
  have hc := cut_le 59 l
  have ht := trimR_le (cutAt 59 l).1
  unfold chunk_sz szL
  rw [show (59 : Int) = (((59 : UInt8).toNat : Nat) : Int) by rfl, prog_Cut 59 l (by omega)]
  simp only [Option.bind_some]
  unfold strings_TrimRight.f
  rw [if_pos ⟨by rw [bOf_size]; omega, by decide, by decide⟩, Option.bind_some, data_bOf]
  have e : (⟨(Lib.trimRightS (cutAt 59 l).1 (⟨#[32, 9]⟩ : ByteArray).data.toList).toArray⟩ : ByteArray) = bOf (trimR (cutAt 59 l).1) := rfl
  rw [e, prog_ReadHex _ _ (by rw [bOf_size]; omega), Option.bind_some, prog_IsText _ (by omega)]
  rfl
end Go.Proofs.YtjaklgikfcahdaaGreatDoor.Pu
namespace Go.Proofs.YtjaklgikfcahdaaGreatDoor.Pu
open Go.RowKit Go.Proofs.YtjaklgikfcahdaaGreatDoorW.PrintWords Go.Proofs.YtjaklgikfcahdaaGreatDoorW.PrintLast Go.Proofs.YtjaklgikfcahdaaGreatDoor.PB
set_option linter.unusedVariables false
set_option linter.unusedSimpArgs false
theorem dig16 (c : Int) : Hand.dig c 16 ≤ 15 := by
  unfold Hand.dig Hand.dig0
  repeat' split
  all_goals omega
theorem readGo_range (s : ByteArray) : ∀ (n : Nat) (acc : Int) (i j : Nat) (v : Int), n + j = 15 → 0 ≤ acc → acc < 16 ^ j → readGo s 16 n acc i = some v → 0 ≤ v ∧ v < 16 ^ 15
  | 0, acc, i, j, v, hj, h0, h1, h => by
    rw [readGo] at h
    obtain rfl := Option.some.inj h
    have : j = 15 := by omega
    subst this
    exact ⟨h0, h1⟩
  | n + 1, acc, i, j, v, hj, h0, h1, h => by
    rw [readGo] at h
    split at h
    case isTrue => cases h
    case isFalse hd =>
      have hd2 := dig16 (bt s i)
      have hp : (16 : Int) ^ (j + 1) ≤ 16 ^ 15 := by
        have : (16 : Nat) ^ (j + 1) ≤ 16 ^ 15 := Nat.pow_le_pow_right (by decide) (by omega)
        exact_mod_cast this
      have e15 : (16 : Int) ^ 15 = 1152921504606846976 := by decide
      have hs : (16 : Int) ^ (j + 1) = 16 ^ j * 16 := Int.pow_succ 16 j
      rw [wrap_id (n := acc * 16) (by omega) (by omega), wrap_id (by omega) (by omega)] at h
      exact readGo_range s n _ (i + 1) (j + 1) v (by omega) (by omega) (by omega) h
theorem readP_range (s : ByteArray) (most : Int) : 0 ≤ (readP s 16 15 most).1 := by
  unfold readP
  split
  · exact Int.le_refl _
  · split
    · exact Int.le_refl _
    case isFalse hl =>
      cases h : readGo s 16 s.size 0 0 with
      | none => exact Int.le_refl _
      | some v =>
        have hr : 0 ≤ v := by
          by_cases hz : s.size = 0
          · rw [hz, readGo] at h
            obtain rfl := Option.some.inj h
            exact Int.le_refl _
          · have key : ∀ (n : Nat), n ≤ 15 → ∀ (acc : Int) (i : Nat) (v : Int), 0 ≤ acc → acc < 16 ^ (15 - n) → readGo s 16 n acc i = some v → 0 ≤ v :=
              fun n hn acc i v h0 h1 h => (readGo_range s n acc i (15 - n) v (by omega) h0 h1 h).1
            have hp : (0 : Int) < 16 ^ (15 - s.size) := Int.pow_pos (by decide)
            exact key s.size (by omega) 0 0 v (Int.le_refl _) hp h
        show 0 ≤ (if most < v then ((0 : Int), (3 : Int)) else (v, 0)).1
        split
        · exact Int.le_refl _
        · exact hr
theorem szL_range (l : List UInt8) : 0 ≤ (szL l).1 ∧ (szL l).1 ≤ 65536 := by
  refine ⟨?_, szR_le _ _ _⟩
  unfold szL Hand.szR
  have := readP_range (bOf (trimR (cutAt 59 l).1)) 1152921504606846976
  split
  · exact Int.le_refl _
  · split
    · exact Int.le_refl _
    · split
      · exact Int.le_refl _
      · exact this
def trL : Nat → Nat → List UInt8 → Int → Int × Int
  | 0, _, _, _ => (25, 0)
  | k + 1, n, s, g => match lineL s with
    | none => (25, g)
    | some (a, b) => if a = [] then (0, g + 2) else if ¬ (parseL a).2.2 = 0 then (25, g) else if n = 64 then (4, g) else trL k (n + 1) b (g + (a.length + 2))
def decL : Nat → List UInt8 → Int → List UInt8 → List UInt8 × Int × Int
  | 0, _, _, _ => ([], 0, 25)
  | k + 1, s, g, body => match lineL s with
    | none => ([], 0, 25)
    | some (a, b) =>
      if ¬ (szL a).2 = 0 then ([], 0, (szL a).2)
      else if 0 < (szL a).1 then
        if 65536 < body.length + (szL a).1 then ([], 0, 4)
        else if (b.length : Int) < (szL a).1 + 2 then ([], 0, 25)
        else if (b.drop (szL a).1.toNat).take 2 = [13, 10] then decL k (b.drop ((szL a).1 + 2).toNat) (g + (a.length + 2) + ((szL a).1 + 2)) (body ++ b.take (szL a).1.toNat)
        else ([], 0, 25)
      else if (trL (b.length + 1) 0 b (g + (a.length + 2))).1 = 0 then (body, (trL (b.length + 1) 0 b (g + (a.length + 2))).2, 0) else ([], 0, (trL (b.length + 1) 0 b (g + (a.length + 2))).1)
theorem line_len {s a b : List UInt8} (h : lineL s = some (a, b)) : s.length = a.length + 2 + b.length := by
  rw [line_eq s a b h]; simp; omega
theorem cut_line {s a b : List UInt8} (h : lineL s = some (a, b)) : (bOf s).extract 0 (a.length : Int).toNat = bOf a ∧ (bOf s).extract ((a.length : Int) + 2).toNat (bOf s).size = bOf b := by
  have e := line_eq s a b h
  constructor
  · rw [bOf_extract, Int.toNat_natCast, List.drop_zero, e, List.take_left]
  · rw [bOf_extract, bOf_size, List.take_length, e, show ((a.length : Int) + 2).toNat = a.length + 2 by omega, List.drop_append, List.drop_eq_nil_of_le (by omega), show a.length + 2 - a.length = 2 by omega]
    rfl
theorem prog_tr : ∀ (k n : Nat) (s : List UInt8) (g : Int), s.length < k → s.length ≤ 100000 → Hand.trGo fields_Parse.f k n (bOf s) g = some (trL k n s g)
  | 0, n, s, g, hk, hs => by omega
  | k + 1, n, s, g, hk, hs => by
    unfold Hand.trGo trL
    rw [lineI_list]
    cases hl : lineL s with
    | none => rw [if_pos (by decide)]
    | some q =>
      obtain ⟨a, b⟩ := q
      have hlen := line_len hl
      obtain ⟨e1, e2⟩ := cut_line hl
      simp only
      rw [if_neg (by omega), if_pos (by rw [bOf_size]; omega)]
      by_cases ha : a = []
      · rw [if_pos ha, if_pos (by rw [ha]; rfl)]
      · have ha0 : ¬ (a.length : Int) = 0 := fun e => ha (List.eq_nil_of_length_eq_zero (by omega))
        rw [if_neg ha, if_neg ha0, e1, e2, prog_Parse a (by omega), Option.bind_some]
        simp only
        by_cases c1 : (parseL a).2.2 = 0
        · rw [if_neg (not_not_intro c1), if_neg (not_not_intro c1)]
          by_cases c2 : n = 64
          · rw [if_pos c2, if_pos c2]
          · rw [if_neg c2, if_neg c2]
            exact prog_tr k (n + 1) b _ (by omega) (by omega)
        · rw [if_pos c1, if_pos c1]
theorem toList_two (l : List UInt8) (i j : Nat) : (((bOf l).extract i j).toList == [13, 10]) = true ↔ (l.take j).drop i = [13, 10] := by
  rw [bOf_extract, toList_bOf]; simp
theorem prog_dec : ∀ (k : Nat) (s : List UInt8) (g : Int) (body : List UInt8), s.length < k → s.length ≤ 100000 →
    Hand.decGo fields_Parse.f chunk_sz k (bOf s) g (bOf body) = some (bOf (decL k s g body).1, (decL k s g body).2.1, (decL k s g body).2.2)
  | 0, s, g, body, hk, hs => by omega
  | k + 1, s, g, body, hk, hs => by
    unfold Hand.decGo decL
    rw [lineI_list]
    cases hl : lineL s with
    | none => rw [if_pos (by decide)]; rfl
    | some q =>
      obtain ⟨a, b⟩ := q
      have hlen := line_len hl
      obtain ⟨e1, e2⟩ := cut_line hl
      have hr := szL_range a
      simp only
      rw [if_neg (by omega), if_pos (by rw [bOf_size]; omega), e1, e2, prog_sz a (by omega), Option.bind_some]
      by_cases c1 : (szL a).2 = 0
      · rw [if_neg (not_not_intro c1), if_neg (not_not_intro c1)]
        by_cases c2 : 0 < (szL a).1
        · rw [if_pos c2, if_pos c2, bOf_size, bOf_size]
          by_cases c3 : 65536 < body.length + (szL a).1
          · rw [if_pos c3, if_pos c3]; rfl
          · rw [if_neg c3, if_neg c3]
            by_cases c4 : (b.length : Int) < (szL a).1 + 2
            · rw [if_pos c4, if_pos c4]; rfl
            · rw [if_neg c4, if_neg c4]
              have e3 : (b.take ((szL a).1 + 2).toNat).drop (szL a).1.toNat = (b.drop (szL a).1.toNat).take 2 := by
                rw [List.drop_take]
                congr 1
                omega
              by_cases c5 : (b.drop (szL a).1.toNat).take 2 = [13, 10]
              · rw [if_pos ((toList_two _ _ _).2 (e3.trans c5)), if_pos c5]
                have e4 : (bOf b).extract ((szL a).1 + 2).toNat b.length = bOf (b.drop ((szL a).1 + 2).toNat) := by rw [bOf_extract, List.take_length]
                have e5 : bOf body ++ (bOf b).extract 0 (szL a).1.toNat = bOf (body ++ b.take (szL a).1.toNat) := by rw [bOf_extract, List.drop_zero, bOf_append]
                rw [e4, e5]
                exact prog_dec k _ _ _ (by simp; omega) (by simp; omega)
              · rw [if_neg (fun h => c5 (e3.symm.trans ((toList_two _ _ _).1 h))), if_neg c5]; rfl
        · rw [if_neg c2, if_neg c2, bOf_size, prog_tr _ 0 b _ (by omega) (by omega), Option.bind_some]
          split <;> rfl
      · rw [if_pos c1, if_pos c1]; rfl
def decode (l : List UInt8) : List UInt8 × Int × Int := decL (l.length + 1) l 0 []
theorem prog_Decode (l : List UInt8) (h : l.length ≤ 100000) : chunk_Decode.f (bOf l) = some (bOf (decode l).1, (decode l).2.1, (decode l).2.2) := by
  unfold chunk_Decode.f
  rw [if_pos (by rw [bOf_size]; omega), bOf_size]
  exact prog_dec _ l 0 [] (by omega) h
end Go.Proofs.YtjaklgikfcahdaaGreatDoor.Pu
namespace Go.Proofs.YtjaklgikfcahdaaGreatDoor.Pu
open Go.RowKit Go.Proofs.YtjaklgikfcahdaaGreatDoorW.PrintWords Go.Proofs.YtjaklgikfcahdaaGreatDoorW.PrintLast Go.Proofs.YtjaklgikfcahdaaGreatDoor.PB
set_option linter.unusedVariables false
set_option linter.unusedSimpArgs false
end Go.Proofs.YtjaklgikfcahdaaGreatDoor.Pu
namespace Go.Proofs.YtjaklgikfcahdaaGreatDoor.Pu
open Go.RowKit Go.Proofs.YtjaklgikfcahdaaGreatDoorW.PrintWords Go.Proofs.YtjaklgikfcahdaaGreatDoorW.PrintLast Go.Proofs.YtjaklgikfcahdaaGreatDoor.PB
set_option linter.unusedVariables false
set_option linter.unusedSimpArgs false
theorem line_crlf (r : List UInt8) : lineL (13 :: 10 :: r) = some ([], r) := by
  rw [lineL, if_pos (by rfl)]; rfl
theorem line_app : ∀ (s a b b' : List UInt8), lineL s = some (a, b) → lineL (a ++ 13 :: 10 :: b') = some (a, b')
  | [], a, b, b', h => by cases h
  | c :: r, a, b, b', h => by
    unfold lineL at h
    split at h
    case isTrue hp =>
      obtain ⟨rfl, rfl⟩ : [] = a ∧ r.drop 1 = b := by simpa using h
      exact line_crlf b'
    case isFalse hp =>
      cases hr : lineL r with
      | none => rw [hr] at h; cases h
      | some q =>
        rw [hr] at h
        obtain ⟨rfl, rfl⟩ : c :: q.1 = a ∧ q.2 = b := by simpa using h
        have ih := line_app r q.1 q.2 b' hr
        have he := line_eq r q.1 q.2 hr
        have np : ¬ ([13, 10] : List UInt8).isPrefixOf (c :: (q.1 ++ 13 :: 10 :: b')) = true := by
          intro hq
          apply hp
          obtain ⟨t, ht⟩ := List.isPrefixOf_iff_prefix.1 hq
          obtain ⟨hc, ht2⟩ : 13 = c ∧ 10 :: t = q.1 ++ 13 :: 10 :: b' := by simpa using ht
          cases hq1 : q.1 with
          | nil => rw [hq1] at ht2; simp at ht2
          | cons x y =>
            rw [hq1] at ht2 he
            obtain ⟨rfl, _⟩ : 10 = x ∧ t = y ++ 13 :: 10 :: b' := by simpa using ht2
            rw [he, ← hc]
            rfl
        rw [List.cons_append]
        unfold lineL
        rw [if_neg np, ih]
        rfl
theorem trL_err : ∀ (k n : Nat) (s : List UInt8) (g : Int), (trL k n s g).1 = 0 ∨ (trL k n s g).1 = 25 ∨ (trL k n s g).1 = 4
  | 0, n, s, g => Or.inr (Or.inl rfl)
  | k + 1, n, s, g => by
    unfold trL
    cases lineL s with
    | none => exact Or.inr (Or.inl rfl)
    | some q =>
      simp only
      split
      · exact Or.inl rfl
      · split
        · exact Or.inr (Or.inl rfl)
        · split
          · exact Or.inr (Or.inr rfl)
          · exact trL_err k _ _ _
theorem trL_cut : ∀ (k n : Nat) (s : List UInt8) (g g' : Int), trL k n s g = (0, g') →
    ∃ c t, s = c ++ t ∧ g' = g + c.length ∧ 2 ≤ c.length ∧ ∀ (t' : List UInt8) (K : Nat), (c ++ t').length < K → trL K n (c ++ t') g = (0, g')
  | 0, n, s, g, g', h => by simp [trL] at h
  | k + 1, n, s, g, g', h => by
    unfold trL at h
    cases hl : lineL s with
    | none => rw [hl] at h; simp at h
    | some q =>
      obtain ⟨a, b⟩ := q
      rw [hl] at h
      simp only at h
      have he := line_eq s a b hl
      by_cases c1 : a = []
      · rw [if_pos c1] at h
        obtain rfl : g + 2 = g' := by simpa using h
        refine ⟨[13, 10], b, by rw [he, c1]; rfl, rfl, by simp, fun t' K hK => ?_⟩
        obtain ⟨K, rfl⟩ : ∃ m, K = m + 1 := ⟨K - 1, by omega⟩
        unfold trL
        rw [show ([13, 10] : List UInt8) ++ t' = 13 :: 10 :: t' from rfl, line_crlf]
        simp
      · rw [if_neg c1] at h
        by_cases c2 : (parseL a).2.2 = 0
        · rw [if_neg (not_not_intro c2)] at h
          by_cases c3 : n = 64
          · rw [if_pos c3] at h; simp at h
          · rw [if_neg c3] at h
            obtain ⟨c, t, hb, hg, hc, hx⟩ := trL_cut k (n + 1) b _ g' h
            refine ⟨a ++ 13 :: 10 :: c, t, by rw [he, hb]; simp, by rw [hg]; simp; omega, by simp; omega, fun t' K hK => ?_⟩
            obtain ⟨K, rfl⟩ : ∃ m, K = m + 1 := ⟨K - 1, by omega⟩
            have e : (a ++ 13 :: 10 :: c) ++ t' = a ++ 13 :: 10 :: (c ++ t') := by simp
            rw [e]
            unfold trL
            rw [line_app s a b _ hl]
            simp only
            rw [if_neg c1, if_neg (not_not_intro c2), if_neg c3]
            exact hx t' K (by simp at hK ⊢; omega)
        · rw [if_pos c2] at h; simp at h
theorem szL_err (l : List UInt8) : (szL l).2 = 0 ∨ (szL l).2 = 25 ∨ (szL l).2 = 4 := by
  unfold szL Hand.szR
  split
  · exact Or.inr (Or.inl rfl)
  · split
    · exact Or.inr (Or.inl rfl)
    · split
      · exact Or.inr (Or.inr rfl)
      · exact Or.inl rfl
theorem szL_nil : ¬ (szL []).2 = 0 := by
  have : (szL []).2 = 25 := by kernel_rfl
  rw [this]; decide
theorem decL_err : ∀ (k : Nat) (s : List UInt8) (g : Int) (body : List UInt8), ¬ (decL k s g body).2.2 = 0 →
    (decL k s g body).1 = [] ∧ (decL k s g body).2.1 = 0 ∧ ((decL k s g body).2.2 = 25 ∨ (decL k s g body).2.2 = 4)
  | 0, s, g, body, h => ⟨rfl, rfl, Or.inl rfl⟩
  | k + 1, s, g, body, h => by
    unfold decL at h ⊢
    cases hl : lineL s with
    | none => exact ⟨rfl, rfl, Or.inl rfl⟩
    | some q =>
      rw [hl] at h
      simp only at h ⊢
      by_cases c1 : (szL q.1).2 = 0
      · rw [if_neg (not_not_intro c1)] at h ⊢
        by_cases c2 : 0 < (szL q.1).1
        · rw [if_pos c2] at h ⊢
          split
          · exact ⟨rfl, rfl, Or.inr rfl⟩
          case isFalse c3 =>
            rw [if_neg c3] at h
            split
            · exact ⟨rfl, rfl, Or.inl rfl⟩
            case isFalse c4 =>
              rw [if_neg c4] at h
              split
              case isTrue c5 => rw [if_pos c5] at h; exact decL_err k _ _ _ h
              · exact ⟨rfl, rfl, Or.inl rfl⟩
        · rw [if_neg c2] at h ⊢
          have ht := trL_err (q.2.length + 1) 0 q.2 (g + (q.1.length + 2))
          by_cases c6 : (trL (q.2.length + 1) 0 q.2 (g + (q.1.length + 2))).1 = 0
          · rw [if_pos c6] at h; exact absurd rfl h
          · rw [if_neg c6]
            exact ⟨rfl, rfl, by rcases ht with h0 | h0; exact absurd h0 c6; exact h0⟩
      · rw [if_pos c1]
        have ht := szL_err q.1
        exact ⟨rfl, rfl, by rcases ht with h0 | h0; exact absurd h0 c1; exact h0⟩
theorem decL_cut : ∀ (k : Nat) (s : List UInt8) (g : Int) (body r : List UInt8) (g' : Int), decL k s g body = (r, g', 0) →
    ∃ c t, s = c ++ t ∧ g' = g + c.length ∧ 5 ≤ c.length ∧ r.length ≤ body.length + c.length ∧ ∀ (t' : List UInt8) (K : Nat), (c ++ t').length < K → decL K (c ++ t') g body = (r, g', 0)
  | 0, s, g, body, r, g', h => by simp [decL] at h
  | k + 1, s, g, body, r, g', h => by
    unfold decL at h
    cases hl : lineL s with
    | none => rw [hl] at h; simp at h
    | some q =>
      obtain ⟨a, b⟩ := q
      rw [hl] at h
      simp only at h
      have he := line_eq s a b hl
      by_cases c1 : (szL a).2 = 0
      · rw [if_neg (not_not_intro c1)] at h
        have ha : 1 ≤ a.length := by
          cases a with
          | nil => exact absurd c1 szL_nil
          | cons x y => simp
        by_cases c2 : 0 < (szL a).1
        · rw [if_pos c2] at h
          by_cases c3 : 65536 < body.length + (szL a).1
          · rw [if_pos c3] at h; simp at h
          · rw [if_neg c3] at h
            by_cases c4 : (b.length : Int) < (szL a).1 + 2
            · rw [if_pos c4] at h; simp at h
            · rw [if_neg c4] at h
              by_cases c5 : (b.drop (szL a).1.toNat).take 2 = [13, 10]
              · rw [if_pos c5] at h
                obtain ⟨c, t, hb, hg, hc, hr, hx⟩ := decL_cut k _ _ _ r g' h
                obtain ⟨n, hn⟩ : ∃ n : Nat, (szL a).1 = n := ⟨(szL a).1.toNat, by omega⟩
                have hxn := hx
                rw [hn] at c2 c3 c4 c5 hb hg hr hx
                rw [show ((n : Int)).toNat = n by omega] at c5 hr hx
                rw [show ((n : Int) + 2).toNat = n + 2 by omega] at hb
                have htl : (b.take n).length = n := by rw [List.length_take]; omega
                have eb : b = b.take n ++ 13 :: 10 :: (c ++ t) := by
                  have h1 := List.take_append_drop n b
                  have h2 := List.take_append_drop 2 (b.drop n)
                  rw [c5, List.drop_drop, hb] at h2
                  rw [← h2] at h1
                  exact h1.symm
                refine ⟨a ++ 13 :: 10 :: (b.take n ++ 13 :: 10 :: c), t, ?_, ?_, ?_, ?_, fun t' K hK => ?_⟩
                · rw [he]
                  conv => lhs; rw [eb]
                  simp
                · rw [hg]; simp [htl]; omega
                · simp; omega
                · rw [List.length_append] at hr
                  simp at hr ⊢
                  omega
                · obtain ⟨K, rfl⟩ : ∃ m, K = m + 1 := ⟨K - 1, by omega⟩
                  have e : (a ++ 13 :: 10 :: (b.take n ++ 13 :: 10 :: c)) ++ t' = a ++ 13 :: 10 :: (b.take n ++ 13 :: 10 :: (c ++ t')) := by simp
                  rw [e]
                  unfold decL
                  rw [line_app s a b _ hl]
                  simp only
                  rw [if_neg (not_not_intro c1), hn, if_pos c2, if_neg c3, if_neg (by rw [List.length_append, htl]; simp; omega), show ((n : Int)).toNat = n by omega, show ((n : Int) + 2).toNat = n + 2 by omega]
                  have e1 : ((b.take n ++ 13 :: 10 :: (c ++ t')).drop n).take 2 = [13, 10] := by
                    rw [List.drop_append, List.drop_eq_nil_of_le (by omega), htl, Nat.sub_self]
                    rfl
                  have e2 : (b.take n ++ 13 :: 10 :: (c ++ t')).drop (n + 2) = c ++ t' := by
                    rw [List.drop_append, List.drop_eq_nil_of_le (by omega), htl, show n + 2 - n = 2 by omega]
                    rfl
                  have e3 : (b.take n ++ 13 :: 10 :: (c ++ t')).take n = b.take n := by
                    have := List.take_left (l₁ := b.take n) (l₂ := 13 :: 10 :: (c ++ t'))
                    rwa [htl] at this
                  rw [if_pos e1, e2, e3]
                  refine hx t' K ?_
                  simp [htl] at hK ⊢
                  omega
              · rw [if_neg c5] at h; simp at h
        · rw [if_neg c2] at h
          by_cases c6 : (trL (b.length + 1) 0 b (g + (a.length + 2))).1 = 0
          · rw [if_pos c6] at h
            obtain ⟨rfl, hg⟩ : body = r ∧ (trL (b.length + 1) 0 b (g + (a.length + 2))).2 = g' := by simpa using h
            obtain ⟨c, t, hb, hg1, hc, hx⟩ := trL_cut _ 0 b _ g' (Prod.ext c6 hg)
            refine ⟨a ++ 13 :: 10 :: c, t, by rw [he, hb]; simp, by rw [hg1]; simp; omega, by simp; omega, by omega, fun t' K hK => ?_⟩
            obtain ⟨K, rfl⟩ : ∃ m, K = m + 1 := ⟨K - 1, by omega⟩
            have e : (a ++ 13 :: 10 :: c) ++ t' = a ++ 13 :: 10 :: (c ++ t') := by simp
            rw [e]
            unfold decL
            rw [line_app s a b _ hl]
            simp only
            rw [if_neg (not_not_intro c1), if_neg c2, hx t' _ (Nat.lt_succ_self _), if_pos rfl]
          · rw [if_neg c6] at h
            simp at h
            exact absurd h.2.2 c6
      · rw [if_pos c1] at h
        simp at h
        exact absurd h.2.2 c1
end Go.Proofs.YtjaklgikfcahdaaGreatDoor.Pu
namespace Go.Proofs.YtjaklgikfcahdaaGreatDoor.Pu
open Go.RowKit Go.Proofs.YtjaklgikfcahdaaGreatDoorW.PrintWords Go.Proofs.YtjaklgikfcahdaaGreatDoorW.PrintLast Go.Proofs.YtjaklgikfcahdaaGreatDoor.PB
set_option linter.unusedVariables false
set_option linter.unusedSimpArgs false
theorem rdF_at (l : List S98) (i : Nat) (h : i < l.length) : rd_T98 l i = l[i] := by
  show l.getD (i : Int).toNat _ = _
  rw [Int.toNat_natCast, List.getD_eq_getElem?_getD, List.getElem?_eq_getElem h]; rfl
theorem rdB_at (l : List ByteArray) (i : Nat) (h : i < l.length) : rdOf ByteArray.empty l i = l[i] := by
  show l.getD (i : Int).toNat _ = _
  rw [Int.toNat_natCast, List.getD_eq_getElem?_getD, List.getElem?_eq_getElem h]; rfl
theorem wrap_nat (i n : Nat) (h : i < n) (hn : n ≤ 9223372036854775807) : wrap64 ((i : Int) + 1) = ((i + 1 : Nat) : Int) := by rw [wrap_id (by omega) (by omega)]; omega
theorem toList_eq {a b : ByteArray} (h : a.toList = b.toList) : a = b := by
  rw [ByteArray.toList_eq, ByteArray.toList_eq] at h
  obtain ⟨⟨x⟩⟩ := a
  obtain ⟨⟨y⟩⟩ := b
  simp only at h
  subst h
  rfl
def smallF (n : Nat) (x : S98) : Prop := x.f0.size ≤ n ∧ x.f1.size ≤ n
def sameN (a b : ByteArray) : Bool := (Hand.lowerS a).toList == (Hand.lowerS b).toList
theorem prog_Same (a b : ByteArray) (ha : a.size ≤ 9223372036854775807) (hb : b.size ≤ 9223372036854775807) : octet_Same.f a b = some (sameN a b) := by
  unfold octet_Same.f octet_Lower.f
  by_cases h : a.size = b.size
  · rw [if_pos (by omega), if_pos ha, if_pos hb]; rfl
  · rw [if_neg (by omega)]
    congr 1
    cases hs : sameN a b with
    | false => rfl
    | true =>
      have := congrArg ByteArray.size (toList_eq (beq_iff_eq.1 hs))
      rw [Hand.lowerS_size, Hand.lowerS_size] at this
      exact absurd this h
def allS (name : ByteArray) (l : List S98) : List ByteArray := (l.filter fun x => sameN x.f0 name).map (·.f1)
theorem prog_All (l : List S98) (name : ByteArray) (n : Nat) (hn : n ≤ 1000000) (hl : l.length < 1000000) (hs : ∀ x ∈ l, smallF n x) (h2 : name.size ≤ n) : fields_All.f l name = some (allS name l) := by
  have h1 : ∀ x ∈ l, octet_Same.f x.f0 name = some (sameN x.f0 name) := fun x hx => prog_Same _ _ (by have := (hs x hx).1; omega) (by omega)
  unfold fields_All.f
  rw [if_pos ⟨hl, fun x hx => by rw [h1 x hx]; rfl⟩]
  unfold allS
  congr 2
  apply List.filter_congr
  intro x hx
  unfold fields_is
  rw [h1 x hx]
  cases sameN x.f0 name <;> rfl
theorem allS_small (name : ByteArray) (l : List S98) (n : Nat) (hs : ∀ x ∈ l, smallF n x) : (allS name l).length ≤ l.length ∧ ∀ s ∈ allS name l, s.size ≤ n := by
  unfold allS
  refine ⟨by rw [List.length_map]; exact List.length_filter_le _ _, fun s h => ?_⟩
  obtain ⟨x, hx, rfl⟩ := List.mem_map.1 h
  exact (hs x (List.mem_filter.1 hx).1).2
def isN (names : List ByteArray) (x : S98) : Bool := names.any fun n => sameN x.f0 n
def dropS (names : List ByteArray) (l : List S98) : List S98 := l.filter fun x => !isN names x
theorem prog_Drop (l : List S98) (names : List ByteArray) (n : Nat) (hn : n ≤ 1000000) (hl : l.length < 1000000) (hl2 : names.length < 1000000) (hs : ∀ x ∈ l, smallF n x) (h2 : ∀ m ∈ names, m.size ≤ n) : fields_Drop.f l names = some (dropS names l) := by
  have h1 : ∀ x ∈ l, ∀ m ∈ names, octet_Same.f x.f0 m = some (sameN x.f0 m) := fun x hx m hm => prog_Same _ _ (by have := (hs x hx).1; omega) (by have := h2 m hm; omega)
  unfold fields_Drop.f
  rw [if_pos ⟨hl, hl2, fun x hx m hm => by rw [h1 x hx m hm]; rfl⟩]
  unfold dropS
  congr 1
  apply List.filter_congr
  intro x hx
  congr 1
  unfold fields_in isN
  have h3 := h1 x hx
  clear h1 h2 hl2
  induction names with
  | nil => rfl
  | cons a t ih =>
    rw [List.any_cons, List.any_cons, ih (fun m hm => h3 m (List.mem_cons_of_mem _ hm)), h3 a List.mem_cons_self]
    cases sameN x.f0 a <;> rfl
def hostS (l : List S98) (minor : Int) : Bool := if (allS (⟨#[72, 111, 115, 116]⟩ : ByteArray) l).length = 1 then true else if (allS (⟨#[72, 111, 115, 116]⟩ : ByteArray) l).length = 0 then decide (minor = 0) else false
theorem prog_host (l : List S98) (minor : Int) (hl : l.length < 1000000) (hs : ∀ x ∈ l, smallF 1000000 x) : hostedP l minor = some (hostS l minor) := by
  unfold hostedP hostS
  rw [prog_All l _ 1000000 (Nat.le_refl _) hl hs (by decide)]
  rfl
def fldL (l : List UInt8) : S98 := ⟨bOf (parseL l).1, bOf (parseL l).2.1⟩
def rowsR : List (List UInt8) → List S98 → Int × List S98
  | [], acc => (0, acc)
  | l :: ls, acc => if (parseL l).2.2 = 0 then rowsR ls (acc ++ [fldL l]) else ((parseL l).2.2, acc)
theorem prog_rows : ∀ (ls : List (List UInt8)) (acc : List S98), (∀ l ∈ ls, l.length ≤ 100000) → rowsP (ls.map bOf) acc = some (rowsR ls acc)
  | [], acc, _ => rfl
  | l :: ls, acc, h => by
    rw [List.map_cons, rowsP, prog_Parse l (by have := h l List.mem_cons_self; omega), Option.bind_some, rowsR]
    by_cases c : (parseL l).2.2 = 0
    · rw [if_pos c, if_pos c]
      exact prog_rows ls _ (fun x hx => h x (List.mem_cons_of_mem _ hx))
    · rw [if_neg c, if_neg c]
theorem parseL_le (l : List UInt8) : (parseL l).1.length ≤ l.length ∧ (parseL l).2.1.length ≤ l.length := by
  unfold parseL
  have hc := cut_le 58 l
  have ht := trim_le (cutAt 58 l).2.1
  split
  · exact ⟨by simp, by simp⟩
  · split
    · exact ⟨hc.1, Nat.le_trans ht hc.2⟩
    · exact ⟨by simp, by simp⟩
theorem rowsR_small (n : Nat) : ∀ (ls : List (List UInt8)) (acc : List S98), (∀ l ∈ ls, l.length ≤ n) → (∀ x ∈ acc, smallF n x) → (∀ x ∈ (rowsR ls acc).2, smallF n x) ∧ (rowsR ls acc).2.length ≤ acc.length + ls.length
  | [], acc, _, h => ⟨h, by simp [rowsR]⟩
  | l :: ls, acc, hl, h => by
    rw [rowsR]
    split
    · have hp := parseL_le l
      have h1 := hl l List.mem_cons_self
      have := rowsR_small n ls (acc ++ [fldL l]) (fun x hx => hl x (List.mem_cons_of_mem _ hx)) (fun x hx => by
        rcases List.mem_append.1 hx with hx | hx
        · exact h x hx
        · rw [List.mem_singleton.1 hx]
          exact ⟨by show (bOf _).size ≤ n; rw [bOf_size]; omega, by show (bOf _).size ≤ n; rw [bOf_size]; omega⟩)
      refine ⟨this.1, ?_⟩
      have h2 := this.2
      simp at h2 ⊢
      omega
    · exact ⟨h, by simp⟩
theorem equal_l0 (l : List S98) (hl : l.length < 1000000) : ∀ (d i : Nat), d + i = l.length → Ev (fun k => depotref09_Equal.l0 k l l i) true := by
  intro d
  induction d with
  | zero =>
    intro i hd
    refine Ev.step (fun k => by rw [depotref09_Equal.l0]) ?_
    exact Ev.neg (by omega) (Ev.some' rfl)
  | succ d ih =>
    intro i hd
    have hlt : i < l.length := by omega
    refine Ev.step (fun k => by rw [depotref09_Equal.l0, rdF_at l i hlt, wrap_nat i l.length hlt (by omega)]) (Ev.pos (by omega) (Ev.pos (by omega) (Ev.pos (by omega) (Ev.neg (by simp) (ih (i + 1) (by omega))))))
theorem equal_refl (l : List S98) (hl : l.length < 1000000) : Ev (fun k => depotref09_Equal.f k l l) true := by
  unfold depotref09_Equal.f
  exact Ev.pos rfl (equal_l0 l hl l.length 0 (by omega))
end Go.Proofs.YtjaklgikfcahdaaGreatDoor.Pu
namespace Go.Proofs.YtjaklgikfcahdaaGreatDoor.Pu
open Go.RowKit Go.Proofs.YtjaklgikfcahdaaGreatDoorW.PrintWords Go.Proofs.YtjaklgikfcahdaaGreatDoorW.PrintLast Go.Proofs.YtjaklgikfcahdaaGreatDoor.PB
set_option linter.unusedVariables false
set_option linter.unusedSimpArgs false
def endL : List UInt8 → Option (List UInt8 × List UInt8)
  | [] => none
  | c :: r => if ([13, 10, 13, 10] : List UInt8).isPrefixOf (c :: r) = true then some ([], r.drop 3) else (endL r).map fun p => (c :: p.1, p.2)
theorem end_index : ∀ l : List UInt8, Lib.index l [13, 10, 13, 10] = match endL l with | none => -1 | some q => (q.1.length : Int)
  | [] => rfl
  | c :: r => by
    have ih := end_index r
    unfold Lib.index endL
    by_cases hp : ([13, 10, 13, 10] : List UInt8).isPrefixOf (c :: r) = true
    · rw [if_pos hp, if_pos hp]; rfl
    · rw [if_neg hp, if_neg hp, ih]
      cases endL r with
      | none => rfl
      | some q =>
        simp only [Option.map_some, List.length_cons]
        rw [if_neg (by simp <;> omega)]
        simp
theorem end_eq : ∀ (l a b : List UInt8), endL l = some (a, b) → l = a ++ 13 :: 10 :: 13 :: 10 :: b
  | [], a, b, h => by cases h
  | c :: r, a, b, h => by
    unfold endL at h
    split at h
    case isTrue hp =>
      obtain ⟨rfl, rfl⟩ : [] = a ∧ r.drop 3 = b := by simpa using h
      obtain ⟨t, ht⟩ := List.isPrefixOf_iff_prefix.1 hp
      obtain ⟨rfl, rfl⟩ : 13 = c ∧ 10 :: 13 :: 10 :: t = r := by simpa using ht
      rfl
    case isFalse =>
      cases hr : endL r with
      | none => rw [hr] at h; cases h
      | some q =>
        rw [hr] at h
        obtain ⟨rfl, rfl⟩ : c :: q.1 = a ∧ q.2 = b := by simpa using h
        have := end_eq r q.1 q.2 hr
        rw [List.cons_append, ← this]
theorem cut_end (l : List UInt8) : Lib.cut l [13, 10, 13, 10] = match endL l with | none => (l, [], false) | some q => (q.1, q.2, true) := by
  have hi := end_index l
  unfold Lib.cut
  cases h : endL l with
  | none => rw [h] at hi; simp only at hi; rw [hi, if_neg (by decide)]
  | some q =>
    rw [h] at hi
    simp only at hi
    have he := end_eq l q.1 q.2 h
    rw [hi, if_pos (by omega), Int.toNat_natCast]
    have e1 : l.take q.1.length = q.1 := by
      conv => lhs; arg 2; rw [he]
      exact List.take_left
    have e2 : l.drop (q.1.length + ([13, 10, 13, 10] : List UInt8).length) = q.2 := by
      conv => lhs; arg 2; rw [he]
      rw [List.drop_append, List.drop_eq_nil_of_le (by simp), show q.1.length + ([13, 10, 13, 10] : List UInt8).length - q.1.length = 4 by simp]
      rfl
    rw [e1, e2]
theorem line_pre {s : List UInt8} (h : ([13, 10] : List UInt8).isPrefixOf s = true) : lineL s = some ([], s.drop 2) := by
  cases s with
  | nil => cases h
  | cons c r => rw [lineL, if_pos h]; rfl
theorem line_nil {s r : List UInt8} (h : lineL s = some ([], r)) : ([13, 10] : List UInt8).isPrefixOf s = true := by
  rw [line_eq s [] r h]; rfl
theorem end_pre {s : List UInt8} (h : ¬ ([13, 10] : List UInt8).isPrefixOf s = true) : ¬ ([13, 10, 13, 10] : List UInt8).isPrefixOf s = true := fun e => by
  obtain ⟨t, rfl⟩ := List.isPrefixOf_iff_prefix.1 e
  exact h rfl
theorem end_line : ∀ s : List UInt8, endL s = match lineL s with | none => none | some p => if ([13, 10] : List UInt8).isPrefixOf p.2 = true then some (p.1, p.2.drop 2) else (endL p.2).map fun q => (p.1 ++ 13 :: 10 :: q.1, q.2)
  | [] => rfl
  | c :: r => by
    have ih := end_line r
    by_cases hp : ([13, 10] : List UInt8).isPrefixOf (c :: r) = true
    · obtain ⟨t, ht⟩ := List.isPrefixOf_iff_prefix.1 hp
      obtain ⟨rfl, rfl⟩ : 13 = c ∧ 10 :: t = r := by simpa using ht
      rw [lineL, if_pos hp]
      by_cases hq : ([13, 10] : List UInt8).isPrefixOf t = true
      · obtain ⟨u, rfl⟩ := List.isPrefixOf_iff_prefix.1 hq
        rfl
      · have h4 : ¬ ([13, 10, 13, 10] : List UInt8).isPrefixOf (13 :: 10 :: t) = true := fun e => hq (by
          obtain ⟨u, hu⟩ := List.isPrefixOf_iff_prefix.1 e
          obtain rfl : 13 :: 10 :: u = t := by simpa using hu
          rfl)
        have h5 : ¬ ([13, 10, 13, 10] : List UInt8).isPrefixOf (10 :: t) = true := by simp [List.isPrefixOf]
        show endL (13 :: 10 :: t) = if ([13, 10] : List UInt8).isPrefixOf t = true then some ([], t.drop 2) else (endL t).map fun q => (([] : List UInt8) ++ 13 :: 10 :: q.1, q.2)
        rw [if_neg hq, endL, if_neg h4, endL, if_neg h5]
        cases endL t <;> rfl
    · rw [lineL, if_neg hp, endL, if_neg (end_pre hp), ih]
      cases lineL r with
      | none => rfl
      | some p =>
        simp only [Option.map_some]
        by_cases hq : ([13, 10] : List UInt8).isPrefixOf p.2 = true
        · rw [if_pos hq, if_pos hq]; rfl
        · rw [if_neg hq, if_neg hq]
          cases endL p.2 <;> rfl
theorem line_none_of : ∀ (s a r : List UInt8), lineL s = some (a, r) → lineL a = none
  | [], a, r, h => by cases h
  | c :: s, a, r, h => by
    unfold lineL at h
    split at h
    case isTrue hp =>
      obtain ⟨rfl, rfl⟩ : [] = a ∧ s.drop 1 = r := by simpa using h
      rfl
    case isFalse hp =>
      cases hr : lineL s with
      | none => rw [hr] at h; cases h
      | some q =>
        rw [hr] at h
        obtain ⟨rfl, rfl⟩ : c :: q.1 = a ∧ q.2 = r := by simpa using h
        have ih := line_none_of s q.1 q.2 hr
        have he := line_eq s q.1 q.2 hr
        rw [lineL, if_neg (fun e => hp (by
          obtain ⟨u, hu⟩ := List.isPrefixOf_iff_prefix.1 e
          obtain ⟨rfl, hu2⟩ : 13 = c ∧ 10 :: u = q.1 := by simpa using hu
          rw [he, ← hu2]; rfl)), ih]
        rfl
theorem line_some_of : ∀ (a r : List UInt8), lineL a = none → lineL (a ++ 13 :: 10 :: r) = some (a, r)
  | [], r, h => rfl
  | c :: a, r, h => by
    unfold lineL at h
    split at h
    case isTrue => cases h
    case isFalse hp =>
      have ha : lineL a = none := by cases hr : lineL a with
        | none => rfl
        | some q => rw [hr] at h; cases h
      have ih := line_some_of a r ha
      rw [List.cons_append, lineL, if_neg (fun e => hp (by
        obtain ⟨u, hu⟩ := List.isPrefixOf_iff_prefix.1 e
        obtain ⟨rfl, hu2⟩ : 13 = c ∧ 10 :: u = a ++ 13 :: 10 :: r := by simpa using hu
        cases a with
        | nil => exact absurd (List.cons.inj hu2).1 (by decide)
        | cons d a => obtain ⟨rfl, _⟩ := List.cons.inj hu2; rfl)), ih]
      rfl
def headL : Nat → List UInt8 → Option (List (List UInt8) × List UInt8)
  | 0, _ => none
  | k + 1, s => match lineL s with
    | none => none
    | some p => if p.1 = [] then some ([], p.2) else (headL k p.2).map fun q => (p.1 :: q.1, q.2)
def splL : Nat → List UInt8 → List (List UInt8)
  | 0, s => [s]
  | k + 1, s => match lineL s with
    | none => [s]
    | some p => p.1 :: splL k p.2
theorem line_len' {s a b : List UInt8} (h : lineL s = some (a, b)) : s.length = a.length + 2 + b.length := by
  rw [line_eq s a b h]; simp; omega
theorem head_end : ∀ (k : Nat) (s : List UInt8), s.length < k → ¬ ([13, 10] : List UInt8).isPrefixOf s = true → ∀ K, s.length < K → headL k s = (endL s).map fun p => (splL K p.1, p.2)
  | 0, s, h, _, _, _ => by omega
  | k + 1, s, h, hp, K, hK => by
    rw [headL, end_line]
    cases hl : lineL s with
    | none => rfl
    | some p =>
      obtain ⟨a, r⟩ := p
      have hlen := line_len' hl
      have hne : ¬ a = [] := fun e => hp (line_nil (e ▸ hl))
      have hna := line_none_of s a r hl
      obtain ⟨K, rfl⟩ : ∃ m, K = m + 1 := ⟨K - 1, by omega⟩
      simp only
      rw [if_neg hne]
      by_cases hq : ([13, 10] : List UInt8).isPrefixOf r = true
      · rw [if_pos hq]
        obtain ⟨k, rfl⟩ : ∃ m, k = m + 1 := ⟨k - 1, by omega⟩
        rw [headL, line_pre hq, Option.map_some, splL, hna]
        rfl
      · rw [if_neg hq, head_end k r (by omega) hq K (by omega)]
        cases he : endL r with
        | none => rfl
        | some q =>
          simp only [Option.map_some]
          rw [splL, line_some_of a q.1 hna]
theorem head_pre {s : List UInt8} (k : Nat) (h : ([13, 10] : List UInt8).isPrefixOf s = true) : headL (k + 1) s = some ([], s.drop 2) := by
  rw [headL, line_pre h]; rfl
theorem splL_ne (K : Nat) (s : List UInt8) : splL K s ≠ [] := by
  cases K with
  | zero => exact List.cons_ne_nil _ _
  | succ K => rw [splL]; split <;> exact List.cons_ne_nil _ _
def headS (s : List UInt8) : Option (List (List UInt8) × List UInt8) := match headL (s.length + 1) s with
  | none => none
  | some p => if p.1 = [] then none else some p
theorem headS_prog (s : List UInt8) : headS s = if ([13, 10] : List UInt8).isPrefixOf s = true then none else (endL s).map fun p => (splL (s.length + 1) p.1, p.2) := by
  unfold headS
  by_cases hp : ([13, 10] : List UInt8).isPrefixOf s = true
  · rw [head_pre _ hp, if_pos hp]; rfl
  · rw [if_neg hp, head_end _ s (by omega) hp (s.length + 1) (by omega)]
    cases he : endL s with
    | none => rfl
    | some q => simp only [Option.map_some]; rw [if_neg (splL_ne _ _)]
theorem splL_fuel : ∀ (k K : Nat) (s : List UInt8), s.length < k → s.length < K → splL k s = splL K s
  | 0, _, s, h, _ => by omega
  | _, 0, s, _, h => by omega
  | k + 1, K + 1, s, h, h2 => by
    rw [splL, splL]
    cases hl : lineL s with
    | none => rfl
    | some p =>
      have := line_len' (a := p.1) (b := p.2) hl
      simp only
      rw [splL_fuel k K p.2 (by omega) (by omega)]
def joinE (l : List (List UInt8)) (rest : List UInt8) : List UInt8 := l.foldr (fun a r => a ++ 13 :: 10 :: r) (13 :: 10 :: rest)
theorem head_join : ∀ (l : List (List UInt8)) (rest : List UInt8) (k : Nat), (∀ a ∈ l, a ≠ [] ∧ lineL a = none) → (joinE l rest).length < k → headL k (joinE l rest) = some (l, rest)
  | [], rest, 0, _, h => by omega
  | [], rest, k + 1, _, _ => rfl
  | a :: l, rest, 0, _, h => by omega
  | a :: l, rest, k + 1, ha, h => by
    have h1 := ha a List.mem_cons_self
    have e : joinE (a :: l) rest = a ++ 13 :: 10 :: joinE l rest := rfl
    rw [e, headL, line_some_of a _ h1.2]
    simp only
    rw [if_neg h1.1, head_join l rest k (fun x hx => ha x (List.mem_cons_of_mem _ hx)) (by rw [e] at h; simp at h; omega)]
    rfl
theorem headS_join (l : List (List UInt8)) (rest : List UInt8) (hl : l ≠ []) (h : ∀ a ∈ l, a ≠ [] ∧ lineL a = none) : headS (joinE l rest) = some (l, rest) := by
  unfold headS
  rw [head_join l rest _ h (by omega)]
  exact if_neg hl
theorem head_back : ∀ (k : Nat) (s : List UInt8) (p : List (List UInt8) × List UInt8), headL k s = some p → s = joinE p.1 p.2 ∧ ∀ a ∈ p.1, a ≠ [] ∧ lineL a = none
  | 0, s, p, h => by cases h
  | k + 1, s, p, h => by
    rw [headL] at h
    cases hl : lineL s with
    | none => rw [hl] at h; cases h
    | some q =>
      obtain ⟨a, r⟩ := q
      rw [hl] at h
      simp only at h
      have he := line_eq s a r hl
      by_cases c : a = []
      · rw [if_pos c] at h
        obtain rfl := Option.some.inj h
        subst c
        exact ⟨he, fun _ hx => by cases hx⟩
      · rw [if_neg c] at h
        cases hh : headL k r with
        | none => rw [hh] at h; cases h
        | some z =>
          rw [hh] at h
          obtain rfl := Option.some.inj h
          obtain ⟨e1, e2⟩ := head_back k r z hh
          refine ⟨by rw [he, e1]; rfl, fun x hx => ?_⟩
          rcases List.mem_cons.1 hx with rfl | hx
          · exact ⟨c, line_none_of s x r hl⟩
          · exact e2 x hx
theorem headS_back {s : List UInt8} {p : List (List UInt8) × List UInt8} (h : headS s = some p) : s = joinE p.1 p.2 ∧ p.1 ≠ [] ∧ ∀ a ∈ p.1, a ≠ [] ∧ lineL a = none := by
  unfold headS at h
  cases hh : headL (s.length + 1) s with
  | none => rw [hh] at h; cases h
  | some q =>
    rw [hh] at h
    simp only at h
    by_cases c : q.1 = []
    · rw [if_pos c] at h; cases h
    · rw [if_neg c] at h
      obtain rfl := Option.some.inj h
      exact ⟨(head_back _ _ _ hh).1, c, (head_back _ _ _ hh).2⟩
theorem split_crlf (n : Nat) : ∀ l : List UInt8, l.length = n → Lib.splitB (bOf [13, 10]) 0 (Lib.countB (bOf l) (bOf [13, 10])) (bOf l) = (splL (l.length + 1) l).map bOf := by
  induction n using Nat.strongRecOn with
  | _ n ih =>
    intro l hl
    have hi : Lib.indexB (bOf l) (bOf [13, 10]) = match lineL l with | none => -1 | some q => (q.1.length : Int) := line_index l
    rw [splL]
    cases hh : lineL l with
    | none =>
      rw [hh] at hi
      rw [Lib.countB_miss _ _ hi, Lib.splitB_zero]
      rfl
    | some q =>
      rw [hh] at hi
      have hy := line_eq l q.1 q.2 hh
      have hly := line_len' (a := q.1) (b := q.2) hh
      have hi' : Lib.indexB (bOf l) (bOf [13, 10]) = (q.1.length : Nat) := hi
      rw [Lib.countB_hit _ _ _ (by rw [bOf_size]; simp) hi', Nat.add_comm 1, Lib.splitB_hit _ _ _ _ _ hi', bOf_size, bOf_size, bOf_extract, bOf_extract, List.take_length]
      have e1 : (l.take (q.1.length + 0)).drop 0 = q.1 := by
        rw [Nat.add_zero, List.drop_zero]
        conv => lhs; arg 2; rw [hy]
        exact List.take_left
      have e2 : l.drop (q.1.length + ([13, 10] : List UInt8).length) = q.2 := by
        conv => lhs; arg 2; rw [hy]
        rw [List.drop_append, List.drop_eq_nil_of_le (by simp), show q.1.length + ([13, 10] : List UInt8).length - q.1.length = 2 by simp]
        rfl
      rw [e1, e2, ih q.2.length (by omega) _ rfl, List.map_cons, splL_fuel (q.2.length + 1) l.length q.2 (by omega) (by omega)]
theorem pre_take' (l p : List UInt8) (h : p.length ≤ l.length) : (l.take p.length == p) = p.isPrefixOf l := by
  have := Lib.hasPrefix_of_take l p
  unfold Lib.hasPrefix at this
  rw [← this, decide_eq_true h, Bool.true_and]
theorem prog_HasPrefix (l p : List UInt8) (h : l.length ≤ 4294967296) : strings_HasPrefix.f (bOf l) (bOf p) = some (p.isPrefixOf l) := by
  unfold strings_HasPrefix.f stringslite_HasPrefix.f
  rw [bOf_size, bOf_size]
  by_cases hp : p.length ≤ l.length
  · rw [if_pos (by omega), if_pos (by omega), if_pos (by omega), bOf_extract, Int.toNat_natCast, List.drop_zero, toList_bOf, toList_bOf, pre_take' l p hp, Option.bind_some]
  · have hq : p.isPrefixOf l = false := by
      cases hq : p.isPrefixOf l
      · rfl
      · exact absurd (List.isPrefixOf_iff_prefix.1 hq).length_le hp
    rw [if_neg (by omega), Option.bind_some, hq]
def beginS (l : List UInt8) : Int × List ByteArray × ByteArray := if 65536 < l.length then (4, [], bOf []) else match headS l with
  | none => (5, [], bOf [])
  | some p => (0, p.1.map bOf, bOf p.2)
theorem prog_begin (l : List UInt8) (h : l.length ≤ 100000) : msgBegin (bOf l) = some (beginS l) := by
  unfold msgBegin beginS
  rw [bOf_size]
  by_cases c : 65536 < l.length
  · rw [if_pos c, if_pos c]; rfl
  rw [if_neg c, if_neg c]
  unfold strings_Cut.f
  rw [if_pos (by rw [bOf_size]; omega), Option.bind_some]
  simp only
  have hc := cut_end l
  rw [data_bOf, hc, headS_prog]
  cases he : endL l with
  | none =>
    rw [if_neg (by simp)]
    by_cases c2 : ([13, 10] : List UInt8).isPrefixOf l = true
    · rw [if_pos c2]; rfl
    · rw [if_neg c2]; rfl
  | some q =>
    simp only
    rw [if_pos trivial, bOf_mk, bOf_size]
    have hq := end_eq l q.1 q.2 he
    by_cases c1 : q.1.length = 0
    · rw [if_pos c1]
      have h0 : q.1 = [] := List.eq_nil_of_length_eq_zero c1
      rw [if_pos (by rw [hq, h0]; rfl)]
      rfl
    · rw [if_neg c1, show (⟨#[13, 10]⟩ : ByteArray) = bOf [13, 10] from rfl, prog_HasPrefix l [13, 10] (by omega), Option.bind_some]
      by_cases c2 : ([13, 10] : List UInt8).isPrefixOf l = true
      · rw [if_pos c2, if_pos c2]
        rfl
      · rw [if_neg c2, if_neg c2]
        have hlen := congrArg List.length hq
        simp at hlen
        unfold strings_Split.f
        rw [if_pos ⟨by rw [bOf_size]; omega, by decide⟩, Option.bind_some, split_crlf _ q.1 rfl, splL_fuel (q.1.length + 1) (l.length + 1) q.1 (by omega) (by omega)]
        rw [if_pos (by rw [List.length_map]; exact List.length_pos_iff.2 (splL_ne _ _))]
        rfl
theorem take_trim (s : ByteArray) (fr hi : Nat) (out : List ByteArray) : itemsTake s fr hi out = if trim (s.extract fr hi).data.toList = [] then out else out ++ [bOf (trim (s.extract fr hi).data.toList)] := rfl
theorem itemsTake_len (s : ByteArray) (fr hi : Nat) (out : List ByteArray) : (itemsTake s fr hi out).length ≤ out.length + 1 := by
  unfold itemsTake
  split <;> simp
theorem prog_Items (s : ByteArray) (hs : s.size < 1000000) : items_Split.f s = some (itemsGo s (s.size + 2) 0 0 false []) := if_pos hs
end Go.Proofs.YtjaklgikfcahdaaGreatDoor.Pu
namespace Go.Proofs.YtjaklgikfcahdaaGreatDoor.Pu
open Go.RowKit Go.Proofs.YtjaklgikfcahdaaGreatDoorW.PrintWords Go.Proofs.YtjaklgikfcahdaaGreatDoorW.PrintLast Go.Proofs.YtjaklgikfcahdaaGreatDoor.PB
set_option linter.unusedVariables false
set_option linter.unusedSimpArgs false
def numE (s : ByteArray) : Int × Int := readP s 10 18 65536
def numsL : List ByteArray → Option (List Int)
  | [] => some []
  | s :: l => if (numE s).2 = 0 then (numsL l).map ((numE s).1 :: ·) else none
def splS (s : ByteArray) : List ByteArray × Int := itemsGo s (s.size + 2) 0 0 false []
def numsV : List ByteArray → Option (List Int)
  | [] => some []
  | v :: vs => if (splS v).2 = 0 then (numsL (splS v).1).bind fun a => (numsV vs).map (a ++ ·) else none
def toldE : List Int → Int × Bool
  | [] => (0, false)
  | n :: t => if (n :: t).all (· == n) = true then (n, true) else (0, false)
def toldS (v : List ByteArray) : Int × Bool := match numsV v with | none => (0, false) | some ns => toldE ns
def smallB (n : Nat) (l : List ByteArray) : Prop := l.length ≤ n ∧ ∀ s ∈ l, s.size ≤ 100000
theorem itemsGo_small (s : ByteArray) (hs : s.size ≤ 100000) : ∀ (k i fr : Nat) (q : Bool) (out : List ByteArray), (∀ x ∈ out, x.size ≤ 100000) → out.length ≤ i → i ≤ 100000 + 1 → (∀ x ∈ (itemsGo s k i fr q out).1, x.size ≤ 100000) ∧ (itemsGo s k i fr q out).1.length ≤ 100002
  | 0, i, fr, q, out, _, _, _ => ⟨fun x hx => by simp [itemsGo] at hx, by simp [itemsGo]⟩
  | k + 1, i, fr, q, out, h, hl, hi => by
    have ht : ∀ hi2, (∀ x ∈ itemsTake s fr hi2 out, x.size ≤ 100000) ∧ (itemsTake s fr hi2 out).length ≤ out.length + 1 := fun hi2 => by
      refine ⟨fun x hx => ?_, itemsTake_len s fr hi2 out⟩
      rw [take_trim] at hx
      split at hx
      · exact h x hx
      · rcases List.mem_append.1 hx with hx | hx
        · exact h x hx
        · rw [List.mem_singleton.1 hx, bOf_size]
          have h1 := trim_le (s.extract fr hi2).data.toList
          have h2 : (s.extract fr hi2).data.toList.length ≤ s.size := by rw [size_data, ByteArray.size_extract]; omega
          omega
    rw [itemsGo]
    split
    · split
      · exact itemsGo_small s hs k _ _ _ _ h (by omega) (by omega)
      · split
        case isTrue hq =>
          by_cases c : i + 1 < s.size
          · exact itemsGo_small s hs k _ _ _ _ h (by omega) (by omega)
          · obtain ⟨_, rfl⟩ := hq
            cases k with
            | zero => exact ⟨fun x hx => by simp [itemsGo] at hx, by simp [itemsGo]⟩
            | succ k => rw [itemsGo, if_neg (by omega), if_pos rfl]; exact ⟨fun x hx => by simp at hx, by simp⟩
        · split
          · exact itemsGo_small s hs k _ _ _ _ (ht i).1 (by have := (ht i).2; omega) (by omega)
          · exact itemsGo_small s hs k _ _ _ _ h (by omega) (by omega)
    · split
      · exact ⟨fun x hx => by simp at hx, by simp⟩
      · exact ⟨(ht s.size).1, by have := (ht s.size).2; show (itemsTake s fr s.size out).length ≤ 100002; omega⟩
theorem splS_small (s : ByteArray) (hs : s.size ≤ 100000) : smallB 100002 (splS s).1 :=
  have := itemsGo_small s hs (s.size + 2) 0 0 false [] (fun _ h => by cases h) (Nat.le_refl _) (by omega)
  ⟨this.2, this.1⟩
theorem rd_at0 (l : List Int) (i : Nat) (h : i < l.length) : rd l i = l[i] := by
  show l.getD (i : Int).toNat _ = _
  rw [Int.toNat_natCast, List.getD_eq_getElem?_getD, List.getElem?_eq_getElem h]; rfl
theorem told_l2 (x : List Int) (hx : x.length ≤ 1000000000) : ∀ (d i : Nat), d + i = x.length → Ev (fun k => message_told.l2 k x x x.length i) (match x with | [] => (0, false) | n :: _ => if (x.drop i).all (· == n) = true then (n, true) else (0, false)) := by
  intro d
  induction d with
  | zero =>
    intro i hd
    rw [List.drop_of_length_le (by omega)]
    refine Ev.step (fun k => by rw [message_told.l2]) (Ev.neg (by omega) ?_)
    cases x with
    | nil => exact Ev.pos rfl (Ev.some' rfl)
    | cons n t => exact Ev.neg (by simp <;> omega) (Ev.pos (by simp <;> omega) (Ev.some' rfl))
  | succ d ih =>
    intro i hd
    have hlt : i < x.length := by omega
    have h0 : 0 < x.length := by omega
    refine Ev.step (fun k => by rw [message_told.l2, rd_at0 x i hlt, show rd x 0 = x[0] from rd_at0 x 0 h0, wrap_nat i x.length hlt (by omega)]) (Ev.pos (by omega) (Ev.pos (by omega) (Ev.pos (by omega) (Ev.pos (by omega) ?_))))
    rw [List.drop_eq_getElem_cons hlt]
    cases x with
    | nil => simp at h0
    | cons n t =>
      simp only [List.getElem_cons_zero]
      have hal : ((n :: t)[i] :: (n :: t).drop (i + 1)).all (· == n) = ((n :: t)[i] == n && ((n :: t).drop (i + 1)).all (· == n)) := List.all_cons
      by_cases c : (n :: t)[i] = n
      · refine Ev.pos c (Ev.eq (ih (i + 1) (by omega)) ?_)
        rw [hal, beq_iff_eq.2 c, Bool.true_and]
      · rw [hal, beq_eq_false_iff_ne.2 c, Bool.false_and]
        exact Ev.neg c (Ev.some' rfl)
def toldR (acc : List Int) (r : Option (List Int)) : Int × Bool := match r with | none => (0, false) | some ns => toldE (acc ++ ns)
theorem told_l01 (v : List ByteArray) (hv : smallB 1000 v) : ∀ (d i : Nat) (acc : List Int), d + i = v.length → acc.length ≤ i * 100002 → Ev (fun k => message_told.l0 k acc v v.length i) (toldR acc (numsV (v.drop i))) := by
  intro d
  induction d with
  | zero =>
    intro i acc hd ha
    rw [List.drop_of_length_le (by omega)]
    refine Ev.step (fun k => by rw [message_told.l0]) (Ev.neg (by omega) ?_)
    have hv1 := hv.1
    have := told_l2 acc (by omega) acc.length 0 (by omega)
    refine Ev.eq this ?_
    show _ = toldE (acc ++ [])
    rw [List.append_nil]
    cases acc <;> rfl
  | succ d ih =>
    intro i acc hd ha
    have hlt : i < v.length := by omega
    have hvi := hv.2 _ (List.getElem_mem hlt)
    have hv1 := hv.1
    have hsm := splS_small v[i] hvi
    rw [List.drop_eq_getElem_cons hlt, numsV]
    refine Ev.step (fun k => by rw [message_told.l0, rdB_at v i hlt]) (Ev.pos (by omega) (Ev.pos (by omega) (Ev.pos (by omega) ?_)))
    refine Ev.sbind (prog_Items v[i] (by omega)) ?_
    show Ev (fun k => if (splS v[i]).2 = 0 then message_told.l1 k acc v v.length i (splS v[i]).1 ((splS v[i]).1.length : Int) 0 else some (0, false)) _
    by_cases c : (splS v[i]).2 = 0
    · rw [if_pos c]
      refine Ev.pos c ?_
      generalize (splS v[i]).1 = l at hsm
      have inner : ∀ (e j : Nat) (ac : List Int), e + j = l.length → ac.length ≤ i * 100002 + j → Ev (fun k => message_told.l1 k ac v v.length i l l.length j) (toldR ac ((numsL (l.drop j)).bind fun a => (numsV (v.drop (i + 1))).map (a ++ ·))) := by
        intro e
        induction e with
        | zero =>
          intro j ac he hac
          rw [List.drop_of_length_le (by omega)]
          refine Ev.step (fun k => by rw [message_told.l1, wrap_nat i v.length hlt (by omega)]) (Ev.neg (by omega) ?_)
          have hl1 := hsm.1
          refine Ev.eq (ih (i + 1) ac (by omega) (by omega)) ?_
          show _ = toldR ac ((numsV (v.drop (i + 1))).map ([] ++ ·))
          cases numsV (v.drop (i + 1)) <;> rfl
        | succ e ih2 =>
          intro j ac he hac
          have hj : j < l.length := by omega
          have hl1 := hsm.1
          have hlj := hsm.2 _ (List.getElem_mem hj)
          rw [List.drop_eq_getElem_cons hj, numsL]
          refine Ev.step (fun k => by rw [message_told.l1, rdB_at l j hj, wrap_nat j l.length hj (by omega)]) (Ev.pos (by omega) (Ev.pos (by omega) (Ev.pos (by omega) ?_)))
          refine Ev.sbind (prog_Number l[j] 65536 hlj) ?_
          show Ev (fun k => if (numE l[j]).2 = 0 then (if ac.length < 17592186044416 then message_told.l1 k (ac ++ [(numE l[j]).1]) v v.length i l l.length ((j + 1 : Nat) : Int) else none) else some (0, false)) _
          by_cases c2 : (numE l[j]).2 = 0
          · rw [if_pos c2]
            refine Ev.pos c2 (Ev.pos (by omega) ?_)
            refine Ev.eq (ih2 (j + 1) (ac ++ [(numE l[j]).1]) (by omega) (by simp; omega)) ?_
            cases numsL (l.drop (j + 1)) with
            | none => rfl
            | some a =>
              simp only [Option.map_some, Option.bind_some]
              cases numsV (v.drop (i + 1)) with
              | none => rfl
              | some b => simp only [Option.map_some, toldR, List.append_assoc, List.singleton_append, List.cons_append, List.nil_append]
          · rw [if_neg c2]
            exact Ev.neg c2 (Ev.some' rfl)
      have h9 := inner l.length 0 acc (Nat.add_zero _) (Nat.le_trans ha (Nat.le_add_right _ _))
      rw [List.drop_zero] at h9
      exact h9
    · rw [if_neg c]
      exact Ev.neg c (Ev.some' rfl)
theorem prog_told (v : List ByteArray) (hv : smallB 1000 v) : Ev (fun k => message_told.f k v) (toldS v) := by
  unfold message_told.f
  refine Ev.eq (told_l01 v hv v.length 0 [] (by omega) (by simp)) ?_
  rw [List.drop_zero]
  unfold toldS toldR
  cases numsV v <;> rfl
end Go.Proofs.YtjaklgikfcahdaaGreatDoor.Pu
namespace Go.Proofs.YtjaklgikfcahdaaGreatDoor.Pu
open Go.RowKit Go.Proofs.YtjaklgikfcahdaaGreatDoorW.PrintWords Go.Proofs.YtjaklgikfcahdaaGreatDoorW.PrintLast Go.Proofs.YtjaklgikfcahdaaGreatDoor.PB
set_option linter.unusedVariables false
set_option linter.unusedSimpArgs false
theorem Ev.ite2 {α : Type} {c : Prop} [Decidable c] {f g : Nat → Option α} {x y : α} (h1 : c → Ev f x) (h2 : ¬ c → Ev g y) : Ev (fun k => if c then f k else g k) (if c then x else y) := by
  by_cases h : c
  · rw [if_pos h]; exact Ev.pos h (h1 h)
  · rw [if_neg h]; exact Ev.neg h (h2 h)
def nTE : ByteArray := ⟨#[84, 114, 97, 110, 115, 102, 101, 114, 45, 69, 110, 99, 111, 100, 105, 110, 103]⟩
def nCL : ByteArray := ⟨#[67, 111, 110, 116, 101, 110, 116, 45, 76, 101, 110, 103, 116, 104]⟩
def nTR : ByteArray := ⟨#[84, 114, 97, 105, 108, 101, 114]⟩
def nCH : ByteArray := ⟨#[99, 104, 117, 110, 107, 101, 100]⟩
def names3 : List ByteArray := [nCL, nTE, nTR]
abbrev E0 : ByteArray := ⟨#[]⟩
theorem decode_err (l : List UInt8) (h : ¬ (decode l).2.2 = 0) : (decode l).1 = [] := (decL_err _ l 0 [] h).1
def chunksS (te : List ByteArray) (fs : List S98) (minor : Int) (rest : List UInt8) : ByteArray × Int :=
  if minor = 0 then (E0, 22) else if 1 < te.length then (E0, 22) else if sameN (te.getD 0 ByteArray.empty) nCH = true then
    (if 0 < (allS nCL fs).length then (E0, 22) else if (decode rest).2.2 = 0 then (if (decode rest).2.1 < rest.length then (E0, 22) else (bOf (decode rest).1, 0)) else (E0, (decode rest).2.2)) else (E0, 22)
def bodyS (fs : List S98) (rest : List UInt8) (minor : Int) (op : Bool) : ByteArray × Int :=
  if 0 < (allS nTE fs).length then chunksS (allS nTE fs) fs minor rest else
  if 0 < (allS nCL fs).length then (if (toldS (allS nCL fs)).2 = true then (if (toldS (allS nCL fs)).1 < rest.length then (E0, 22) else if (rest.length : Int) < (toldS (allS nCL fs)).1 then (E0, 6) else (bOf rest, 0)) else (E0, 22))
  else if rest.length = 0 then (bOf rest, 0) else if op = true then (bOf rest, 0) else (E0, 22)
def okFs (fs : List S98) : Prop := fs.length ≤ 1000 ∧ ∀ x ∈ fs, smallF 100000 x
theorem okFs.all {fs : List S98} (h : okFs fs) (name : ByteArray) : smallB 1000 (allS name fs) := by
  have := allS_small name fs 100000 h.2
  exact ⟨by have := h.1; omega, this.2⟩
theorem okFs.s6 {fs : List S98} (h : okFs fs) : ∀ x ∈ fs, smallF 1000000 x := fun x hx => by
  have := h.2 x hx
  exact ⟨by have := this.1; omega, by have := this.2; omega⟩
theorem okFs.pAll {fs : List S98} (h : okFs fs) (name : ByteArray) (hn : name.size ≤ 1000000) : fields_All.f fs name = some (allS name fs) := prog_All fs name 1000000 (Nat.le_refl _) (by have := h.1; omega) h.s6 hn
theorem prog_chunks (te : List ByteArray) (hte : 0 < te.length) (hsm : smallB 1000 te) (fs : List S98) (hf : okFs fs) (minor : Int) (rest : List UInt8) (hr : rest.length ≤ 100000) : chunksP te fs minor (bOf rest) = some (chunksS te fs minor rest) := by
  unfold chunksP chunksS
  by_cases c1 : minor = 0
  · rw [if_pos c1, if_pos c1]
  rw [if_neg c1, if_neg c1]
  by_cases c2 : 1 < te.length
  · rw [if_pos c2, if_pos c2]
  rw [if_neg c2, if_neg c2]
  have h0 : (te.getD 0 ByteArray.empty).size ≤ 100000 := by
    rw [List.getD_eq_getElem?_getD, List.getElem?_eq_getElem hte]
    exact hsm.2 _ (List.getElem_mem hte)
  rw [show octet_Same.f (te.getD 0 ByteArray.empty) (⟨#[99, 104, 117, 110, 107, 101, 100]⟩ : ByteArray) = some (sameN (te.getD 0 ByteArray.empty) nCH) from prog_Same _ _ (by omega) (by decide), Option.bind_some]
  cases c3 : sameN (te.getD 0 ByteArray.empty) nCH
  · rw [if_neg (by simp), if_neg (by simp)]
  rw [if_pos rfl, if_pos rfl, show fields_All.f fs (⟨#[67, 111, 110, 116, 101, 110, 116, 45, 76, 101, 110, 103, 116, 104]⟩ : ByteArray) = some (allS nCL fs) from hf.pAll nCL (by decide), Option.bind_some]
  by_cases c4 : 0 < (allS nCL fs).length
  · rw [if_pos c4, if_pos c4]
  rw [if_neg c4, if_neg c4, prog_Decode rest hr, Option.bind_some, bOf_size]
  simp only
  by_cases c5 : (decode rest).2.2 = 0
  · rw [if_pos c5, if_pos c5]
    by_cases c6 : (decode rest).2.1 < rest.length
    · rw [if_pos c6, if_pos c6]
    · rw [if_neg c6, if_neg c6]
  · rw [if_neg c5, if_neg c5, decode_err rest c5]; rfl
theorem prog_body (fs : List S98) (hf : okFs fs) (rest : List UInt8) (hr : rest.length ≤ 100000) (minor : Int) (op : Bool) : Ev (fun k => bodyP k fs (bOf rest) minor op) (bodyS fs rest minor op) := by
  unfold bodyP bodyS
  refine Ev.sbind (hf.pAll nTE (by decide)) ?_
  by_cases c1 : 0 < (allS nTE fs).length
  · rw [if_pos c1]
    exact Ev.pos c1 (Ev.congr (fun _ => prog_chunks _ c1 (hf.all nTE) fs hf minor rest hr) (Ev.some' rfl))
  rw [if_neg c1]
  refine Ev.neg c1 (Ev.sbind (hf.pAll nCL (by decide)) ?_)
  by_cases c2 : 0 < (allS nCL fs).length
  · rw [if_pos c2]
    refine Ev.pos c2 (Ev.bind (prog_told _ (hf.all nCL)) ?_)
    rw [bOf_size]
    cases c3 : (toldS (allS nCL fs)).2
    · exact Ev.neg (by simp) (Ev.some' rfl)
    · refine Ev.pos rfl ?_
      rw [if_pos (rfl : true = true)]
      exact Ev.ite2 (fun c4 => Ev.some' rfl) (fun c4 => Ev.ite2 (fun c5 => Ev.some' rfl) (fun c5 => Ev.some' rfl))
  · rw [if_neg c2]
    refine Ev.neg c2 ?_
    rw [bOf_size]
    exact Ev.ite2 (fun c4 => Ev.some' rfl) (fun c4 => Ev.ite2 (fun c5 => Ev.some' rfl) (fun c5 => Ev.some' rfl))
def fieldsS (ls : List (List UInt8)) : Int × List S98 := if 64 < ls.length then (4, []) else rowsR ls []
theorem prog_rowsS (ls : List (List UInt8)) (h : ∀ l ∈ ls, l.length ≤ 100000) : rowsS (ls.map bOf) = some (fieldsS ls) := by
  unfold rowsS fieldsS
  rw [List.length_map]
  by_cases c : 64 < ls.length
  · rw [if_pos c, if_pos c]
  · rw [if_neg c, if_neg c]
    exact prog_rows ls [] h
theorem fieldsS_ok (ls : List (List UInt8)) (h : ∀ l ∈ ls, l.length ≤ 100000) : okFs (fieldsS ls).2 := by
  unfold fieldsS
  split
  · exact ⟨by simp, fun x hx => by cases hx⟩
  · have := rowsR_small 100000 ls [] h (fun x hx => by cases hx)
    exact ⟨by have h2 := this.2; simp at h2; omega, this.1⟩
abbrev Rq := ByteArray × ByteArray × Int × List S98 × ByteArray × Int
def rqE (e : Int) : Rq := (E0, E0, 0, [], E0, e)
def rqS (l : List UInt8) : Rq := if 65536 < l.length then rqE 4 else match headS l with
  | none => rqE 5
  | some p => if (reqL (p.1.getD 0 [])).2.2.2 = 0 then (if (fieldsS (p.1.drop 1)).1 = 0 then (if hostS (fieldsS (p.1.drop 1)).2 (reqL (p.1.getD 0 [])).2.2.1 = true then (if (bodyS (fieldsS (p.1.drop 1)).2 p.2 (reqL (p.1.getD 0 [])).2.2.1 false).2 = 0 then (bOf (reqL (p.1.getD 0 [])).1, bOf (reqL (p.1.getD 0 [])).2.1, (reqL (p.1.getD 0 [])).2.2.1, dropS names3 (fieldsS (p.1.drop 1)).2, (bodyS (fieldsS (p.1.drop 1)).2 p.2 (reqL (p.1.getD 0 [])).2.2.1 false).1, 0) else rqE (bodyS (fieldsS (p.1.drop 1)).2 p.2 (reqL (p.1.getD 0 [])).2.2.1 false).2) else rqE 26) else rqE (fieldsS (p.1.drop 1)).1) else rqE (reqL (p.1.getD 0 [])).2.2.2
theorem joinE_len : ∀ (ls : List (List UInt8)) (r : List UInt8), (∀ a ∈ ls, a.length ≤ (joinE ls r).length) ∧ r.length ≤ (joinE ls r).length
  | [], r => ⟨fun _ h => (by cases h), by show r.length ≤ (13 :: 10 :: r).length; simp; omega⟩
  | a :: ls, r => by
    have ih := joinE_len ls r
    have e : joinE (a :: ls) r = a ++ 13 :: 10 :: joinE ls r := rfl
    rw [e]
    refine ⟨fun x hx => ?_, by simp; omega⟩
    rcases List.mem_cons.1 hx with rfl | hx
    · simp
    · have := ih.1 x hx; simp; omega
theorem headS_len {l : List UInt8} {p : List (List UInt8) × List UInt8} (h : headS l = some p) : (∀ a ∈ p.1, a.length ≤ l.length) ∧ p.2.length ≤ l.length ∧ 0 < p.1.length := by
  obtain ⟨e, hn, _⟩ := headS_back h
  have := joinE_len p.1 p.2
  rw [← e] at this
  exact ⟨this.1, this.2, List.length_pos_iff.2 hn⟩
theorem first_bOf (ls : List (List UInt8)) (h : 0 < ls.length) : (ls.map bOf).getD 0 ByteArray.empty = bOf (ls.getD 0 []) := by
  cases ls with
  | nil => simp at h
  | cons a t => rfl
theorem prog_Req (l : List UInt8) (h : l.length ≤ 100000) : Ev (fun k => message_ParseRequest.f k (bOf l)) (rqS l) := by
  unfold message_ParseRequest.f rqS
  refine Ev.sbind (prog_begin l h) ?_
  unfold beginS
  by_cases c : 65536 < l.length
  · rw [if_pos c, if_pos c]
    exact Ev.neg (by decide) (Ev.some' rfl)
  rw [if_neg c, if_neg c]
  cases hh : headS l with
  | none => exact Ev.neg (by decide) (Ev.some' rfl)
  | some p =>
    obtain ⟨hl1, hl2, hl0⟩ := headS_len hh
    simp only
    refine Ev.pos (by simp) ?_
    have hd : ∀ a ∈ p.1.drop 1, a.length ≤ 100000 := fun a ha => by have := hl1 a (List.mem_of_mem_drop ha); omega
    have hfi : (p.1.getD 0 []).length ≤ 100000 := by
      rw [List.getD_eq_getElem?_getD, List.getElem?_eq_getElem hl0]
      have := hl1 _ (List.getElem_mem hl0)
      show p.1[0].length ≤ 100000
      omega
    rw [first_bOf p.1 hl0]
    refine Ev.bind (prog_Request _ hfi) ?_
    show Ev (fun k => if (reqL (p.1.getD 0 [])).2.2.2 = 0 then _ else _) _
    by_cases c1 : (reqL (p.1.getD 0 [])).2.2.2 = 0
    · rw [if_pos c1]
      refine Ev.pos c1 ?_
      rw [← List.map_drop]
      refine Ev.sbind (prog_rowsS _ hd) ?_
      have hok := fieldsS_ok _ hd
      by_cases c2 : (fieldsS (p.1.drop 1)).1 = 0
      · rw [if_pos c2]
        refine Ev.pos c2 (Ev.sbind (prog_host _ _ (by have := hok.1; omega) hok.s6) ?_)
        show Ev (fun k => if hostS (fieldsS (p.1.drop 1)).2 (reqL (p.1.getD 0 [])).2.2.1 = true then _ else _) _
        by_cases c3 : hostS (fieldsS (p.1.drop 1)).2 (reqL (p.1.getD 0 [])).2.2.1 = true
        · rw [if_pos c3]
          refine Ev.pos c3 (Ev.bind (prog_body _ hok p.2 (by omega) _ false) ?_)
          by_cases c4 : (bodyS (fieldsS (p.1.drop 1)).2 p.2 (reqL (p.1.getD 0 [])).2.2.1 false).2 = 0
          · rw [if_pos c4]
            refine Ev.pos c4 (Ev.sbind (prog_Drop _ names3 1000000 (Nat.le_refl _) (by have := hok.1; omega) (by decide) hok.s6 (by decide)) (Ev.some' rfl))
          · rw [if_neg c4]
            exact Ev.neg c4 (Ev.some' rfl)
        · rw [if_neg c3]
          exact Ev.neg c3 (Ev.some' rfl)
      · rw [if_neg c2]
        exact Ev.neg c2 (Ev.some' rfl)
    · rw [if_neg c1]
      exact Ev.neg c1 (Ev.some' rfl)
end Go.Proofs.YtjaklgikfcahdaaGreatDoor.Pu
namespace Go.Proofs.YtjaklgikfcahdaaGreatDoor.Pu
open Go.RowKit Go.Proofs.YtjaklgikfcahdaaGreatDoorW.PrintWords Go.Proofs.YtjaklgikfcahdaaGreatDoorW.PrintLast Go.Proofs.YtjaklgikfcahdaaGreatDoor.PB
set_option linter.unusedVariables false
set_option linter.unusedSimpArgs false
theorem lawR_messages0 : depotlaw12_messages.f 60 = some true := by kernel_rfl
theorem lawR_messages : Ev (fun k => depotlaw12_messages.f k) true := Ev.of depotlaw12_messages.mono lawR_messages0
theorem sameRq (r : Rq) (h : r.2.2.2.1.length < 1000000) : Ev (fun k => depotref12_SameRequest.f k r.1 r.2.1 r.2.2.1 r.2.2.2.1 r.2.2.2.2.1 r.1 r.2.1 r.2.2.1 r.2.2.2.1 r.2.2.2.2.1) true := by
  unfold depotref12_SameRequest.f
  exact Ev.pos ⟨beq_iff_eq.2 rfl, beq_iff_eq.2 rfl, rfl, beq_iff_eq.2 rfl⟩ (equal_refl _ h)
end Go.Proofs.YtjaklgikfcahdaaGreatDoor.Pu
namespace Go.Proofs.YtjaklgikfcahdaaGreatDoor.Pu
open Go.RowKit Go.Proofs.YtjaklgikfcahdaaGreatDoorW.PrintWords Go.Proofs.YtjaklgikfcahdaaGreatDoorW.PrintLast Go.Proofs.YtjaklgikfcahdaaGreatDoor.PB
set_option linter.unusedVariables false
set_option linter.unusedSimpArgs false
def nobody (c : Int) : Bool := if c = 204 then true else c == 304
theorem prog_nobody (c : Int) : message_Bodiless.f c = some (nobody c) := by
  unfold message_Bodiless.f nobody
  split <;> rfl
abbrev Rp := Int × ByteArray × Int × List S98 × ByteArray × Int
def rpE (e : Int) : Rp := (0, E0, 0, [], E0, e)
def rpC (q : Int × List UInt8 × Int × Int) (F : Int × List S98) (rest : List UInt8) (m : ByteArray) : Rp :=
  if q.2.2.2 = 0 then (if q.1 < 200 then rpE 20 else if F.1 = 0 then (if ((m.toList == [72, 69, 65, 68]) || nobody q.1) = true then (if rest.length = 0 then (q.1, bOf q.2.1, q.2.2.1, dropS names3 F.2, E0, 0) else rpE 22) else if (bodyS F.2 rest q.2.2.1 true).2 = 0 then (q.1, bOf q.2.1, q.2.2.1, dropS names3 F.2, (bodyS F.2 rest q.2.2.1 true).1, 0) else rpE (bodyS F.2 rest q.2.2.1 true).2) else rpE F.1) else rpE q.2.2.2
def rpS (l : List UInt8) (m : ByteArray) : Rp := if 65536 < l.length then rpE 4 else match headS l with
  | none => rpE 5
  | some p => rpC (staL (p.1.getD 0 [])) (fieldsS (p.1.drop 1)) p.2 m
theorem prog_Rep (l : List UInt8) (m : ByteArray) (h : l.length ≤ 100000) : Ev (fun k => message_ParseReply.f k (bOf l) m) (rpS l m) := by
  unfold message_ParseReply.f rpS
  refine Ev.sbind (prog_begin l h) ?_
  unfold beginS
  by_cases c : 65536 < l.length
  · rw [if_pos c, if_pos c]
    exact Ev.neg (by decide) (Ev.some' rfl)
  rw [if_neg c, if_neg c]
  cases hh : headS l with
  | none => exact Ev.neg (by decide) (Ev.some' rfl)
  | some p =>
    obtain ⟨hl1, hl2, hl0⟩ := headS_len hh
    simp only
    refine Ev.pos (by simp) ?_
    have hd : ∀ a ∈ p.1.drop 1, a.length ≤ 100000 := fun a ha => by have := hl1 a (List.mem_of_mem_drop ha); omega
    have hfi : (p.1.getD 0 []).length ≤ 100000 := by
      rw [List.getD_eq_getElem?_getD, List.getElem?_eq_getElem hl0]
      have := hl1 _ (List.getElem_mem hl0)
      show p.1[0].length ≤ 100000
      omega
    rw [first_bOf p.1 hl0]
    refine Ev.sbind (prog_Status _ hfi) ?_
    unfold rpC
    show Ev (fun k => if (staL (p.1.getD 0 [])).2.2.2 = 0 then (if (staL (p.1.getD 0 [])).1 < 200 then _ else _) else _) _
    refine Ev.ite2 (fun c1 => Ev.ite2 (fun c2 => Ev.some' rfl) (fun c2 => ?_)) (fun c1 => Ev.some' rfl)
    rw [← List.map_drop]
    refine Ev.sbind (prog_rowsS _ hd) ?_
    have hok := fieldsS_ok _ hd
    refine Ev.ite2 (fun c3 => ?_) (fun c3 => Ev.some' rfl)
    refine Ev.sbind (prog_Drop (fieldsS (p.1.drop 1)).2 names3 1000000 (Nat.le_refl _) (by have := hok.1; omega) (by decide) hok.s6 (by decide)) (Ev.sbind (prog_nobody _) ?_)
    refine Ev.ite2 (fun c4 => ?_) (fun c4 => ?_)
    · rw [bOf_size]
      exact Ev.ite2 (fun _ => Ev.some' rfl) (fun _ => Ev.some' rfl)
    · exact Ev.bind (prog_body _ hok p.2 (by omega) _ true) (Ev.ite2 (fun _ => Ev.some' rfl) fun _ => Ev.some' rfl)
theorem sameRp (r : Rp) (h : r.2.2.2.1.length < 1000000) : Ev (fun k => depotref12_SameReply.f k r.1 r.2.1 r.2.2.1 r.2.2.2.1 r.2.2.2.2.1 r.1 r.2.1 r.2.2.1 r.2.2.2.1 r.2.2.2.2.1) true := by
  unfold depotref12_SameReply.f
  exact Ev.pos ⟨rfl, beq_iff_eq.2 rfl, rfl, beq_iff_eq.2 rfl⟩ (equal_refl _ h)
end Go.Proofs.YtjaklgikfcahdaaGreatDoor.Pu
namespace Go.Proofs.YtjaklgikfcahdaaGreatDoor.Pu
open Go.RowKit Go.Proofs.YtjaklgikfcahdaaGreatDoorW.PrintWords Go.Proofs.YtjaklgikfcahdaaGreatDoorW.PrintLast Go.Proofs.YtjaklgikfcahdaaGreatDoor.PB
set_option linter.unusedVariables false
set_option linter.unusedSimpArgs false
def nmCL : List UInt8 := [67, 111, 110, 116, 101, 110, 116, 45, 76, 101, 110, 103, 116, 104]
def lnF (x : S98) : List UInt8 := x.f0.data.toList ++ 58 :: 32 :: x.f1.data.toList
def lnC (n : Int) : List UInt8 := nmCL ++ 58 :: 32 :: plain n
def linesL (first : List UInt8) (fs : List S98) (tells : Bool) (n : Int) : List (List UInt8) := first :: (fs.map lnF ++ if tells = true then [lnC n] else [])
theorem prog_Line (a b : List UInt8) (ha : a.length ≤ 1000000) (hb : b.length ≤ 1000000) : fields_Line.f (bOf a) (bOf b) = some (bOf (a ++ 58 :: 32 :: b)) := by
  unfold fields_Line.f
  rw [show (⟨#[58, 32]⟩ : ByteArray) = bOf [58, 32] from rfl, bOf_append, bOf_append, bOf_size, bOf_size, bOf_size, if_pos (by omega), if_pos (by simp; omega)]
  simp
theorem prog_LineF (x : S98) (h : smallF 1000000 x) : fields_Line.f x.f0 x.f1 = some (bOf (lnF x)) := by
  have := prog_Line x.f0.data.toList x.f1.data.toList (by rw [size_data]; exact h.1) (by rw [size_data]; exact h.2)
  rw [bOf_data, bOf_data] at this
  exact this
theorem lines_l0 (tells : Bool) (n : Int) (hn : -9223372036854775808 ≤ n ∧ n ≤ 9223372036854775807) (fs : List S98) (hf : fs.length ≤ 100000) (hs : ∀ x ∈ fs, smallF 1000000 x) : ∀ (d i : Nat) (acc : List (List UInt8)), d + i = fs.length → acc.length ≤ i + 1 →
    Ev (fun k => message_lines.l0 k tells n (acc.map bOf) fs fs.length i) ((acc ++ ((fs.drop i).map lnF ++ if tells = true then [lnC n] else [])).map bOf) := by
  intro d
  induction d with
  | zero =>
    intro i acc hd ha
    rw [List.drop_of_length_le (by omega)]
    refine Ev.step (fun k => by rw [message_lines.l0]) (Ev.neg (by omega) ?_)
    cases tells
    · exact Ev.neg (by simp) (Ev.some' (by simp))
    · have hp := plain_len n hn
      exact Ev.pos rfl (Ev.sbind (prog_Plain n hn) (Ev.sbind (prog_Line nmCL (plain n) (by decide) (by omega)) (Ev.pos (by rw [List.length_map]; omega) (Ev.some' (by simp [lnC])))))
  | succ d ih =>
    intro i acc hd ha
    have hlt : i < fs.length := by omega
    refine Ev.step (fun k => by rw [message_lines.l0, rdF_at fs i hlt, wrap_nat i fs.length hlt (by omega)]) (Ev.pos (by omega) (Ev.pos (by omega) (Ev.pos (by omega) ?_)))
    refine Ev.sbind (prog_LineF fs[i] (hs _ (List.getElem_mem hlt))) (Ev.pos (by rw [List.length_map]; omega) ?_)
    have := ih (i + 1) (acc ++ [lnF fs[i]]) (by omega) (by simp; omega)
    rw [List.map_append] at this
    refine Ev.eq this ?_
    rw [List.drop_eq_getElem_cons hlt]
    simp only [List.map_cons, List.map_append, List.append_assoc, List.singleton_append, List.cons_append, List.map_nil, List.nil_append]
theorem prog_lines (first : List UInt8) (tells : Bool) (n : Int) (hn : -9223372036854775808 ≤ n ∧ n ≤ 9223372036854775807) (fs : List S98) (hf : fs.length ≤ 100000) (hs : ∀ x ∈ fs, smallF 1000000 x) : Ev (fun k => message_lines.f k (bOf first) fs tells n) ((linesL first fs tells n).map bOf) := by
  unfold message_lines.f
  exact Ev.eq (lines_l0 tells n hn fs hf hs fs.length 0 [first] (by omega) (by simp)) (by simp [linesL])
theorem join_crlf (body : List UInt8) : ∀ (t : List (List UInt8)) (a : List UInt8), Lib.join (a :: t) [13, 10] ++ 13 :: 10 :: 13 :: 10 :: body = joinE (a :: t) body
  | [], a => by simp [Lib.join, List.intercalate, joinE]
  | b :: t, a => by
    have ih := join_crlf body t b
    have e : Lib.join (a :: b :: t) [13, 10] = a ++ 13 :: 10 :: Lib.join (b :: t) [13, 10] := by simp [Lib.join, List.intercalate, List.intersperse]
    have e2 : joinE (a :: b :: t) body = a ++ 13 :: 10 :: joinE (b :: t) body := rfl
    rw [e, e2, ← ih]
    simp
theorem joinE_count (r : List UInt8) : ∀ ls : List (List UInt8), ls.length ≤ (joinE ls r).length
  | [] => Nat.zero_le _
  | a :: t => by
    have := joinE_count r t
    have e2 : joinE (a :: t) r = a ++ 13 :: 10 :: joinE t r := rfl
    rw [e2]; simp; omega
theorem joinE_most (r : List UInt8) : ∀ ls : List (List UInt8), (∀ a ∈ ls, a.length ≤ 3000000) → (joinE ls r).length ≤ ls.length * 3000002 + 2 + r.length
  | [], _ => by show (13 :: 10 :: r).length ≤ _; simp; omega
  | a :: t, h => by
    have := joinE_most r t (fun x hx => h x (List.mem_cons_of_mem _ hx))
    have h2 := h a List.mem_cons_self
    have e2 : joinE (a :: t) r = a ++ 13 :: 10 :: joinE t r := rfl
    rw [e2, List.length_cons, List.length_append]
    simp only [List.length_cons]
    omega
theorem prog_text (a : List UInt8) (t : List (List UInt8)) (body : List UInt8) (h : (joinE (a :: t) body).length ≤ 100000000000000) : message_text.f ((a :: t).map bOf) (bOf body) = some (bOf (joinE (a :: t) body)) := by
  have e : List.map (fun x : ByteArray => x.data.toList) ((a :: t).map bOf) = a :: t := by
    rw [List.map_map]
    conv => rhs; rw [← List.map_id (a :: t)]
    exact List.map_congr_left fun x _ => data_bOf x
  have hj := join_crlf body t a
  have hjl := congrArg List.length hj
  have hc := joinE_count body (a :: t)
  simp only [List.length_append, List.length_cons] at hjl hc
  unfold message_text.f strings_Join.f
  rw [e, show (⟨#[13, 10]⟩ : ByteArray) = bOf [13, 10] from rfl, data_bOf, if_pos ⟨by rw [List.length_map]; simp only [List.length_cons]; omega, by omega⟩, Option.bind_some]
  have hx : (⟨(Lib.join (a :: t) [13, 10]).toArray⟩ : ByteArray) = bOf (Lib.join (a :: t) [13, 10]) := rfl
  rw [hx, bOf_append, bOf_append, bOf_append, bOf_size, bOf_size, bOf_size, bOf_size, if_pos (by omega), if_pos (by simp; omega), if_pos (by simp; omega)]
  rw [← hj]
  simp
theorem linesL_small (first : List UInt8) (fs : List S98) (tells : Bool) (n : Int) (h1 : first.length ≤ 3000000) (hs : ∀ x ∈ fs, smallF 1000000 x) (hn : -9223372036854775808 ≤ n ∧ n ≤ 9223372036854775807) : (∀ a ∈ linesL first fs tells n, a.length ≤ 3000000) ∧ (linesL first fs tells n).length ≤ fs.length + 2 := by
  have hp := plain_len n hn
  have hc : (lnC n).length ≤ 3000000 := by
    unfold lnC nmCL
    simp
    omega
  have hx : ∀ x ∈ fs, (lnF x).length ≤ 3000000 := fun x hx => by
    have := hs x hx
    have e1 := size_data x.f0
    have e2 := size_data x.f1
    have h1 := this.1
    have h2 := this.2
    unfold lnF
    rw [List.length_append, List.length_cons, List.length_cons]
    omega
  unfold linesL
  refine ⟨fun a ha => ?_, ?_⟩
  · rcases List.mem_cons.1 ha with rfl | ha
    · exact h1
    · rcases List.mem_append.1 ha with ha | ha
      · obtain ⟨x, hm, rfl⟩ := List.mem_map.1 ha
        exact hx x hm
      · cases tells
        · simp at ha
        · simp at ha
          rw [ha]
          exact hc
  · cases tells <;> simp
def pRq (m t : List UInt8) (v : Int) (fs : List S98) (b : List UInt8) : List UInt8 := joinE (linesL (reqW m t v) fs (decide (b ≠ [])) b.length) b
def pRp (c : Int) (r : List UInt8) (v : Int) (fs : List S98) (b : List UInt8) (hd : Bool) : List UInt8 := joinE (linesL (staW c r v) fs (!nobody c && (!hd || decide (b ≠ []))) b.length) (if (hd || nobody c) = true then [] else b)
def rng (v : Int) : Prop := -9223372036854775808 ≤ v ∧ v ≤ 9223372036854775807
def okPs (fs : List S98) : Prop := fs.length ≤ 1000 ∧ ∀ x ∈ fs, smallF 1000000 x
theorem ne_dec (b : List UInt8) : (b != ([] : List UInt8)) = decide (b ≠ []) := by cases b <;> rfl
theorem prog_pRq (m t : List UInt8) (v : Int) (fs : List S98) (b : List UInt8) (hm : m.length ≤ 100000) (ht : t.length ≤ 100000) (hv : rng v) (hf : okPs fs) (hb : b.length ≤ 1000000) : Ev (fun k => message_PrintRequest.f k (bOf m) (bOf t) v fs (bOf b)) (bOf (pRq m t v fs b)) := by
  unfold message_PrintRequest.f pRq
  have hp := plain_len v hv
  have hl := linesL_small (reqW m t v) fs (decide (b ≠ [])) b.length (by unfold reqW http; simp; omega) hf.2 (by omega)
  have hj := joinE_most b _ hl.1
  have h2 := hl.2
  have h3 := hf.1
  rw [toList_bOf, bOf_size, ne_dec]
  exact Ev.sbind (prog_PrintRequest m t v hm ht hv) (Ev.bind (prog_lines _ _ _ (by omega) fs (by omega) hf.2) (Ev.sbind (prog_text _ _ b (by show (joinE (linesL _ _ _ _) b).length ≤ _; omega)) (Ev.some' rfl)))
theorem prog_pRp (c : Int) (r : List UInt8) (v : Int) (fs : List S98) (b : List UInt8) (hd : Bool) (hr : r.length ≤ 100000) (hc : rng c) (hv : rng v) (hf : okPs fs) (hb : b.length ≤ 1000000) : Ev (fun k => message_PrintReply.f k c (bOf r) v fs (bOf b) hd) (bOf (pRp c r v fs b hd)) := by
  unfold message_PrintReply.f pRp
  have hp := plain_len v hv
  have hq := plain_len c hc
  have hl := linesL_small (staW c r v) fs (!nobody c && (!hd || decide (b ≠ []))) b.length (by unfold staW http; simp; omega) hf.2 (by omega)
  have hj := joinE_most (if (hd || nobody c) = true then [] else b) _ hl.1
  have h2 := hl.2
  have h3 := hf.1
  have h4 : (if (hd || nobody c) = true then ([] : List UInt8) else b).length ≤ 1000000 := by
    split
    · simp
    · exact hb
  have e : (if (hd || nobody c) = true then (⟨#[]⟩ : ByteArray) else bOf b) = bOf (if (hd || nobody c) = true then [] else b) := by split <;> rfl
  refine Ev.sbind (prog_nobody c) (Ev.sbind (prog_PrintStatus c r v hr hc hv) ?_)
  rw [toList_bOf, bOf_size, ne_dec, e]
  exact Ev.bind (prog_lines _ _ _ (by omega) fs (by omega) hf.2) (Ev.congr (fun _ => prog_text _ _ _ (by show (joinE (linesL _ _ _ _) _).length ≤ _; omega)) (Ev.some' rfl))
def fineF (x : S98) : Bool := isTok x.f0.data.toList && (isTxt x.f1.data.toList && trim x.f1.data.toList == x.f1.data.toList)
def longF (x : S98) : Bool := decide (8192 < (lnF x).length)
theorem toList_data (s : ByteArray) : s.toList = s.data.toList := by
  have := toList_bOf s.data.toList
  rw [bOf_data] at this
  exact this
theorem checkGo_eq : ∀ (l : List S98) (long : Bool), (∀ x ∈ l, smallF 1000000 x) → checkGo l long = some (if l.all fineF = true then (if (long || l.any longF) = true then 4 else 0) else 21)
  | [], long, _ => by rw [checkGo]; cases long <;> rfl
  | x :: l, long, h => by
    have hx := h x List.mem_cons_self
    have hl := fun y hy => h y (List.mem_cons_of_mem x hy)
    have e1 := size_data x.f0
    have e2 := size_data x.f1
    have h1 := hx.1
    have h2 := hx.2
    have a1 := prog_IsToken x.f0.data.toList (by omega)
    have a2 := prog_IsText x.f1.data.toList (by omega)
    have a3 := prog_Trim x.f1.data.toList (by omega)
    rw [bOf_data] at a1 a2 a3
    rw [checkGo, a1, Option.bind_some, a2, Option.bind_some, a3, Option.bind_some, toList_bOf, toList_data, List.all_cons, List.any_cons]
    unfold fineF isTok isTxt
    cases c1 : (!x.f0.data.toList.isEmpty && x.f0.data.toList.all tokU)
    · rfl
    cases c2 : x.f1.data.toList.all textU
    · rfl
    cases c3 : (trim x.f1.data.toList == x.f1.data.toList)
    · rfl
    rw [if_pos rfl, if_pos rfl, if_pos rfl]
    cases long
    · rw [if_neg (by simp), prog_LineF x hx, Option.bind_some, bOf_size, checkGo_eq l _ hl]
      rfl
    · rw [if_pos rfl, checkGo_eq l true hl]
      rfl
def checkS (fs : List S98) : Int := if 64 < fs.length then 4 else if fs.all fineF = true then (if fs.any longF = true then 4 else 0) else 21
theorem prog_check (fs : List S98) (h : okPs fs) : fields_Check.f fs = some (checkS fs) := by
  unfold fields_Check.f checkS
  by_cases c : 64 < fs.length
  · rw [if_pos c, if_pos c]
  · rw [if_neg c, if_neg c, checkGo_eq fs false h.2, Bool.false_or]
def fitS (fs : List S98) : Int := if checkS fs = 0 then (if (dropS names3 fs).length < fs.length then 21 else 0) else checkS fs
theorem prog_fit (fs : List S98) (h : okPs fs) : message_fit.f fs = some (fitS fs) := by
  unfold message_fit.f fitS
  rw [prog_check fs h, Option.bind_some]
  by_cases c : checkS fs = 0
  · rw [if_pos c, if_pos c, show bareP fs = some (dropS names3 fs) from prog_Drop fs names3 1000000 (Nat.le_refl _) (by have := h.1; omega) (by decide) h.2 (by decide), Option.bind_some]
  · rw [if_neg c, if_neg c]
def lngS (l : List UInt8) (n : Nat) : Int := if 65536 < l.length ∨ 64 < n then 4 else 0
theorem prog_lng (l : List UInt8) (n : Nat) : (message_long.f (bOf l) (n : Int)).bind (fun g => some (if g = true then (4 : Int) else 0)) = some (lngS l n) := by
  unfold message_long.f lngS
  rw [bOf_size]
  by_cases c : 65536 < l.length
  · rw [if_pos (by omega), if_pos (Or.inl c)]; rfl
  · rw [if_neg (by omega)]
    by_cases c2 : 64 < n
    · rw [if_pos (Or.inr c2), decide_eq_true (by omega)]; rfl
    · rw [if_neg (by omega), decide_eq_false (by omega)]; rfl
def ckRq (m t : List UInt8) (v : Int) (fs : List S98) (b : List UInt8) : Int := if (reqL (reqW m t v)).2.2.2 = 0 then (if fitS fs = 0 then (if hostS fs v = true then lngS (pRq m t v fs b) (if b = [] then fs.length else fs.length + 1) else 26) else fitS fs) else 20
theorem prog_ckRq (m t : List UInt8) (v : Int) (fs : List S98) (b : List UInt8) (hm : m.length ≤ 40000) (ht : t.length ≤ 40000) (hv : rng v) (hf : okPs fs) (hb : b.length ≤ 1000000) : Ev (fun k => message_CheckRequest.f k (bOf m) (bOf t) v fs (bOf b)) (ckRq m t v fs b) := by
  unfold message_CheckRequest.f ckRq
  have hp := plain_len v hv
  have hw : (reqW m t v).length ≤ 100000 := by unfold reqW http; simp; omega
  refine Ev.sbind (prog_PrintRequest m t v (by omega) (by omega) hv) (Ev.bind (prog_Request _ hw) ?_)
  show Ev (fun k => if (reqL (reqW m t v)).2.2.2 = 0 then _ else _) _
  refine Ev.ite2 (fun c1 => ?_) (fun c1 => Ev.some' rfl)
  refine Ev.sbind (prog_fit fs hf) (Ev.ite2 (fun c2 => ?_) (fun c2 => Ev.some' rfl))
  refine Ev.sbind (prog_host fs v (by have := hf.1; omega) hf.2) (Ev.ite2 (fun c3 => ?_) (fun c3 => Ev.some' rfl))
  refine Ev.bind (prog_pRq m t v fs b (by omega) (by omega) hv hf hb) ?_
  refine Ev.congr (fun _ => ?_) (Ev.some' rfl)
  rw [bOf_size, ← prog_lng]
  congr 2
  by_cases c : b = []
  · subst c; rfl
  · rw [if_neg c, if_neg (fun h => c (List.eq_nil_of_length_eq_zero h))]; rfl
def ckRp (c : Int) (r : List UInt8) (v : Int) (fs : List S98) (b : List UInt8) : Int := if (staL (staW c r v)).2.2.2 = 0 ∧ 200 ≤ c ∧ c ≤ 599 then (if fitS fs = 0 then (if nobody c = true then (if b = [] then lngS (pRp c r v fs b false) fs.length else 22) else lngS (pRp c r v fs b false) (fs.length + 1)) else fitS fs) else 20
theorem ckRp_j1 (c : Int) (r : List UInt8) (v : Int) (fs : List S98) (b : List UInt8) (n : Nat) (hr : r.length ≤ 40000) (hc : rng c) (hv : rng v) (hf : okPs fs) (hb : b.length ≤ 1000000) : Ev (fun k => message_CheckReply.j1 k (n : Int) c (bOf r) v fs (bOf b)) (lngS (pRp c r v fs b false) n) := by
  refine Ev.step (fun k => by rw [message_CheckReply.j1]) (Ev.bind (prog_pRp c r v fs b false (by omega) hc hv hf hb) ?_)
  have := prog_lng (pRp c r v fs b false) n
  refine Ev.congr (fun _ => ?_) (Ev.some' rfl)
  rw [← this]
  congr 1
  funext g
  cases g <;> rfl
theorem prog_ckRp (c : Int) (r : List UInt8) (v : Int) (fs : List S98) (b : List UInt8) (hr : r.length ≤ 40000) (hc : rng c) (hv : rng v) (hf : okPs fs) (hb : b.length ≤ 1000000) : Ev (fun k => message_CheckReply.f k c (bOf r) v fs (bOf b)) (ckRp c r v fs b) := by
  unfold message_CheckReply.f ckRp
  have hp := plain_len v hv
  have hq := plain_len c hc
  have hw : (staW c r v).length ≤ 100000 := by unfold staW http; simp; omega
  have hn := hf.1
  have jt : Ev (fun k => message_CheckReply.j0 k true c (bOf r) v fs (bOf b)) 20 := Ev.step (fun k => by rw [message_CheckReply.j0]) (Ev.pos rfl (Ev.some' rfl))
  refine Ev.sbind (prog_PrintStatus c r v (by omega) hc hv) (Ev.sbind (prog_Status _ hw) ?_)
  show Ev (fun k => if (staL (staW c r v)).2.2.2 = 0 then _ else _) _
  by_cases c1 : (staL (staW c r v)).2.2.2 = 0
  · refine Ev.pos c1 ?_
    by_cases c2 : c < 200
    · rw [if_neg (fun h => by have := h.2.1; omega)]
      exact Ev.pos c2 jt
    · refine Ev.neg c2 ?_
      by_cases c3 : c > 599
      · rw [if_neg (fun h => by have := h.2.2; omega), decide_eq_true c3]
        exact jt
      · rw [if_pos ⟨c1, by omega, by omega⟩, decide_eq_false c3]
        refine Ev.step (fun k => by rw [message_CheckReply.j0]) (Ev.neg (by simp) ?_)
        refine Ev.sbind (prog_fit fs hf) (Ev.ite2 (fun c4 => ?_) (fun c4 => Ev.some' rfl))
        refine Ev.sbind (prog_nobody c) (Ev.ite2 (fun c5 => ?_) (fun c5 => ?_))
        · rw [toList_bOf]
          exact Ev.ite2 (fun c6 => ckRp_j1 c r v fs b fs.length hr hc hv hf hb) (fun c6 => Ev.some' rfl)
        · rw [wrap_id (by omega) (by omega)]
          exact ckRp_j1 c r v fs b (fs.length + 1) hr hc hv hf hb
  · rw [if_neg (fun h => c1 h.1)]
    exact Ev.neg c1 jt
end Go.Proofs.YtjaklgikfcahdaaGreatDoor.Pu
namespace Go.Proofs.YtjaklgikfcahdaaGreatDoor.Pu
open Go.RowKit Go.Proofs.YtjaklgikfcahdaaGreatDoorW.PrintWords Go.Proofs.YtjaklgikfcahdaaGreatDoorW.PrintLast Go.Proofs.YtjaklgikfcahdaaGreatDoor.PB
set_option linter.unusedVariables false
set_option linter.unusedSimpArgs false
theorem line_no13 : ∀ a : List UInt8, (∀ x ∈ a, x ≠ 13) → lineL a = none
  | [], _ => rfl
  | c :: r, h => by
    have hc := h c List.mem_cons_self
    rw [lineL, if_neg (fun hp => by
      obtain ⟨u, hu⟩ := List.isPrefixOf_iff_prefix.1 hp
      exact hc (List.cons.inj hu).1.symm), line_no13 r (fun x hx => h x (List.mem_cons_of_mem _ hx))]
    rfl
theorem tok_13 : tokU 13 = false := by kernel_rfl
theorem tok_58 : tokU 58 = false := by kernel_rfl
theorem text_13 : textU 13 = false := by kernel_rfl
theorem vis_13 : visU 13 = false := by kernel_rfl
theorem all_noc (p : UInt8 → Bool) (c : UInt8) (l : List UInt8) (h : l.all p = true) (hp : p c = false) : ∀ x ∈ l, x ≠ c := by
  rintro x hx rfl
  have := List.all_eq_true.1 h x hx
  rw [hp] at this
  cases this
theorem tok_all' {m : List UInt8} (h : isTok m = true) : m.all tokU = true ∧ m ≠ [] := by
  unfold isTok at h
  cases m with
  | nil => simp at h
  | cons a t => exact ⟨by simpa using h, by simp⟩
theorem trim_blank (l : List UInt8) : trim (32 :: l) = trim l := by
  unfold trim
  rw [← trim_comm, ← trim_comm]
  rfl
theorem parse_lnF (x : S98) (h : fineF x = true) (hl : longF x = false) : parseL (lnF x) = (x.f0.data.toList, x.f1.data.toList, 0) := by
  unfold fineF at h
  rw [Bool.and_eq_true, Bool.and_eq_true] at h
  obtain ⟨h1, h2, h3⟩ := h
  have h4 : ¬ 8192 < (lnF x).length := of_decide_eq_false hl
  have hc : cutAt 58 (lnF x) = (x.f0.data.toList, 32 :: x.f1.data.toList, true) := cut_at 58 _ _ (all_noc tokU 58 _ (tok_all' h1).1 tok_58)
  unfold parseL
  rw [if_neg h4, hc]
  simp only
  rw [trim_blank, beq_iff_eq.1 h3, if_pos ⟨trivial, h1, h2⟩]
theorem fld_lnF (x : S98) (h : fineF x = true) (hl : longF x = false) : fldL (lnF x) = x := by
  unfold fldL
  rw [parse_lnF x h hl]
  simp only [bOf_data]
theorem rows_lnF : ∀ (fs acc : List S98), (∀ x ∈ fs, fineF x = true ∧ longF x = false) → rowsR (fs.map lnF) acc = (0, acc ++ fs)
  | [], acc, _ => by simp [rowsR]
  | x :: fs, acc, h => by
    obtain ⟨h1, h2⟩ := h x List.mem_cons_self
    rw [List.map_cons, rowsR, parse_lnF x h1 h2, if_pos rfl, fld_lnF x h1 h2, rows_lnF fs _ (fun y hy => h y (List.mem_cons_of_mem _ hy))]
    simp
theorem lnF_clean (x : S98) (h : fineF x = true) : lnF x ≠ [] ∧ lineL (lnF x) = none := by
  unfold fineF at h
  rw [Bool.and_eq_true, Bool.and_eq_true] at h
  obtain ⟨h1, h2, h3⟩ := h
  refine ⟨by unfold lnF; simp, line_no13 _ fun y hy => ?_⟩
  unfold lnF at hy
  rcases List.mem_append.1 hy with hy | hy
  · exact all_noc tokU 13 _ (tok_all' h1).1 tok_13 y hy
  · rcases List.mem_cons.1 hy with rfl | hy
    · decide
    · rcases List.mem_cons.1 hy with rfl | hy
      · decide
      · exact all_noc textU 13 _ h2 text_13 y hy
def clF (n : Nat) : S98 := ⟨bOf nmCL, bOf (plain n)⟩
theorem plain_nat (n : Nat) : plain (n : Int) = digs 10 n := by
  unfold plain
  rw [if_neg (by omega), Int.toNat_natCast]
theorem lnC_eq (n : Nat) : lnC n = lnF (clF n) := by
  unfold lnC lnF clF
  simp only [data_bOf]
theorem isBl_dig {x : UInt8} (h : 48 ≤ x.toNat ∧ x.toNat ≤ 57) : isBl x = false := by
  have key : ∀ c : Fin 256, 48 ≤ (c : Nat) → isBl (UInt8.ofNat c) = false := by decide +kernel
  have := key ⟨x.toNat, x.toNat_lt⟩ h.1
  simpa using this
theorem textU_dig {x : UInt8} (h : 48 ≤ x.toNat ∧ x.toNat ≤ 57) : textU x = true := by
  have key : ∀ c : Fin 256, 48 ≤ (c : Nat) → (c : Nat) ≤ 57 → textU (UInt8.ofNat c) = true := by decide +kernel
  have := key ⟨x.toNat, x.toNat_lt⟩ h.1 h.2
  simpa using this
theorem dropW_solid : ∀ l : List UInt8, (∀ x ∈ l, isBl x = false) → l.dropWhile isBl = l
  | [], _ => rfl
  | x :: t, h => by rw [List.dropWhile_cons_of_neg (by rw [h x List.mem_cons_self]; simp)]
theorem trim_solid (l : List UInt8) (h : ∀ x ∈ l, isBl x = false) : trim l = l := by
  unfold trim trimL trimR
  rw [dropW_solid l.reverse (fun x hx => h x (List.mem_reverse.1 hx)), List.reverse_reverse, dropW_solid l h]
theorem cl_fine (n : Nat) : fineF (clF n) = true := by
  have hd := digs_dig n
  unfold fineF clF
  simp only [data_bOf, plain_nat]
  rw [trim_solid _ (fun x hx => isBl_dig (hd x hx)), beq_iff_eq.2 rfl, show isTok nmCL = true from by kernel_rfl, show isTxt (digs 10 n) = true from List.all_eq_true.2 (fun x hx => textU_dig (hd x hx))]
  rfl
theorem cl_short (n : Nat) (h : n ≤ 100000) : longF (clF n) = false := by
  have := plain_len (n : Int) (by omega)
  refine decide_eq_false ?_
  rw [← lnC_eq]
  unfold lnC nmCL
  simp
  omega
theorem cl_host (n : Nat) : sameN (clF n).f0 (⟨#[72, 111, 115, 116]⟩ : ByteArray) = false := show sameN (bOf nmCL) (⟨#[72, 111, 115, 116]⟩ : ByteArray) = false from by kernel_rfl
theorem cl_te (n : Nat) : sameN (clF n).f0 nTE = false := show sameN (bOf nmCL) nTE = false from by kernel_rfl
theorem cl_cl (n : Nat) : sameN (clF n).f0 nCL = true := show sameN (bOf nmCL) nCL = true from by kernel_rfl
theorem cl_in (n : Nat) : isN names3 (clF n) = true := show (names3.any fun m => sameN (bOf nmCL) m) = true from by kernel_rfl
theorem items_plain (s : ByteArray) (hs : ∀ i : Nat, i < s.size → bt s i ≠ 34 ∧ bt s i ≠ 44) : ∀ (k i : Nat), i ≤ s.size → s.size - i < k → itemsGo s k i 0 false [] = (itemsTake s 0 s.size [], 0)
  | 0, i, _, h => by omega
  | k + 1, i, h0, h => by
    rw [itemsGo]
    by_cases c : i < s.size
    · obtain ⟨h1, h2⟩ := hs i c
      rw [if_pos c, if_neg h1, if_neg (fun h => by cases h.2), if_neg (fun h => h2 h.1)]
      exact items_plain s hs k (i + 1) (by omega) (by omega)
    · rw [if_neg c, if_neg (by simp)]
theorem told_cl (n : Nat) (h : n ≤ 65536) : toldS [bOf (plain (n : Int))] = ((n : Int), true) := by
  have hd := digs_dig n
  have hb := ten_back n 65536 (by omega) (by omega)
  have hne : digs 10 n ≠ [] := List.length_pos_iff.1 (digs_pos 10 n (by decide))
  have hsp : splS (bOf (digs 10 n)) = ([bOf (digs 10 n)], 0) := by
    unfold splS
    rw [items_plain (bOf (digs 10 n)) (fun i hi => by
      rw [bOf_size] at hi
      rw [bt_bOf _ _ (by omega) (by omega), Int.toNat_natCast, at_lt _ i hi]
      have := hd _ (List.getElem_mem hi)
      omega) _ 0 (by omega) (by omega), take_trim, bOf_size, bOf_extract, List.take_length, List.drop_zero, data_bOf, trim_solid _ (fun x hx => isBl_dig (hd x hx)), if_neg hne]
    rfl
  rw [plain_nat]
  unfold toldS
  have hn : numsV [bOf (digs 10 n)] = some [(n : Int)] := by
    rw [numsV, hsp, if_pos rfl]
    show (numsL [bOf (digs 10 n)]).bind _ = _
    rw [numsL]
    unfold numE
    rw [hb, if_pos rfl]
    rfl
  rw [hn]
  show (if ([(n : Int)].all (· == (n : Int))) = true then _ else _) = _
  rw [if_pos (by simp)]
end Go.Proofs.YtjaklgikfcahdaaGreatDoor.Pu
namespace Go.Proofs.YtjaklgikfcahdaaGreatDoor.Pu
open Go.RowKit Go.Proofs.YtjaklgikfcahdaaGreatDoorW.PrintWords Go.Proofs.YtjaklgikfcahdaaGreatDoorW.PrintLast Go.Proofs.YtjaklgikfcahdaaGreatDoor.PB
set_option linter.unusedVariables false
set_option linter.unusedSimpArgs false
def fsX (fs : List S98) (tells : Bool) (n : Nat) : List S98 := fs ++ if tells = true then [clF n] else []
theorem linesL_map (first : List UInt8) (fs : List S98) (tells : Bool) (n : Nat) : linesL first fs tells n = first :: (fsX fs tells n).map lnF := by
  unfold linesL fsX
  cases tells
  · simp
  · simp [lnC_eq]
theorem filter_full {p : S98 → Bool} : ∀ l : List S98, ¬ (l.filter p).length < l.length → ∀ x ∈ l, p x = true
  | [], _, x, hx => by cases hx
  | y :: l, h, x, hx => by
    have hle := List.length_filter_le p l
    rw [List.filter_cons] at h
    cases c : p y
    · rw [c, if_neg (by simp), List.length_cons] at h
      omega
    · rw [c, if_pos rfl, List.length_cons, List.length_cons] at h
      rcases List.mem_cons.1 hx with rfl | hx
      · exact c
      · exact filter_full l (by omega) x hx
def FitOk (fs : List S98) : Prop := fs.length ≤ 64 ∧ (∀ x ∈ fs, fineF x = true ∧ longF x = false) ∧ ∀ x ∈ fs, isN names3 x = false
theorem fit_facts (fs : List S98) (h : fitS fs = 0) : FitOk fs := by
  unfold fitS at h
  split at h
  case isFalse c => exact absurd h c
  case isTrue c =>
    split at h
    · cases h
    case isFalse c2 =>
      unfold checkS at c
      split at c
      · cases c
      case isFalse c3 =>
        split at c
        case isFalse => cases c
        case isTrue c4 =>
          split at c
          · cases c
          case isFalse c5 =>
            refine ⟨by omega, fun x hx => ⟨List.all_eq_true.1 c4 x hx, ?_⟩, fun x hx => ?_⟩
            · cases c6 : longF x
              · rfl
              · exact absurd (List.any_eq_true.2 ⟨x, hx, c6⟩) c5
            · have := filter_full fs c2 x hx
              simpa using this
theorem allS_app (name : ByteArray) (a b : List S98) : allS name (a ++ b) = allS name a ++ allS name b := by
  unfold allS
  rw [List.filter_append, List.map_append]
theorem allS_cl_no (name : ByteArray) (n : Nat) (h : sameN (clF n).f0 name = false) : allS name [clF n] = [] := by
  unfold allS
  rw [List.filter_cons, h, if_neg (by simp)]
  rfl
theorem allS_out (name : ByteArray) (hn : name ∈ names3) (fs : List S98) (h : ∀ x ∈ fs, isN names3 x = false) : allS name fs = [] := by
  unfold allS
  rw [List.filter_eq_nil_iff.2 (fun x hx => ?_)]
  · rfl
  · have := List.any_eq_false.1 (h x hx) name hn
    exact this
theorem hostS_X (fs : List S98) (tells : Bool) (n : Nat) (v : Int) : hostS (fsX fs tells n) v = hostS fs v := by
  have e : allS (⟨#[72, 111, 115, 116]⟩ : ByteArray) (fsX fs tells n) = allS (⟨#[72, 111, 115, 116]⟩ : ByteArray) fs := by
    unfold fsX
    rw [allS_app]
    cases tells
    · exact List.append_nil _
    · rw [if_pos rfl, allS_cl_no _ _ (cl_host n), List.append_nil]
  unfold hostS
  rw [e]
theorem dropS_X (fs : List S98) (tells : Bool) (n : Nat) (h : ∀ x ∈ fs, isN names3 x = false) : dropS names3 (fsX fs tells n) = fs := by
  have e : dropS names3 fs = fs := by
    unfold dropS
    exact List.filter_eq_self.2 (fun x hx => by rw [h x hx]; rfl)
  have e2 : dropS names3 [clF n] = [] := by
    unfold dropS
    rw [List.filter_cons, cl_in, if_neg (by simp)]
    rfl
  have e3 : dropS names3 (fsX fs tells n) = dropS names3 fs ++ dropS names3 (if tells = true then [clF n] else []) := by
    unfold dropS fsX
    rw [List.filter_append]
  rw [e3, e]
  cases tells
  · exact List.append_nil _
  · rw [if_pos rfl, e2, List.append_nil]
theorem te_X (fs : List S98) (tells : Bool) (n : Nat) (h : ∀ x ∈ fs, isN names3 x = false) : allS nTE (fsX fs tells n) = [] := by
  unfold fsX
  rw [allS_app, allS_out nTE (by simp [names3]) fs h]
  cases tells
  · rfl
  · rw [if_pos rfl, allS_cl_no _ _ (cl_te n)]; rfl
theorem cl_X (fs : List S98) (tells : Bool) (n : Nat) (h : ∀ x ∈ fs, isN names3 x = false) : allS nCL (fsX fs tells n) = if tells = true then [bOf (plain n)] else [] := by
  unfold fsX
  rw [allS_app, allS_out nCL (by simp [names3]) fs h]
  cases tells
  · rfl
  · rw [if_pos rfl, if_pos rfl]
    unfold allS
    rw [List.filter_cons, cl_cl, if_pos rfl]
    rfl
theorem body_X (fs : List S98) (tells : Bool) (b : List UInt8) (hb : b.length ≤ 65536) (v : Int) (op : Bool) (h : ∀ x ∈ fs, isN names3 x = false) (ht : tells = true ∨ b = []) : bodyS (fsX fs tells b.length) b v op = (bOf b, 0) := by
  unfold bodyS
  rw [te_X fs tells _ h, if_neg (by simp), cl_X fs tells _ h]
  cases tells
  · obtain rfl : b = [] := by rcases ht with ht | ht; cases ht; exact ht
    rw [if_neg (by simp : ¬ (false = true)), if_neg (by simp)]
    rfl
  · rw [if_pos rfl, if_pos (by simp), told_cl b.length hb, if_pos rfl, if_neg (by simp), if_neg (by simp)]
theorem fields_X (fs : List S98) (tells : Bool) (n : Nat) (h : FitOk fs) (hn : n ≤ 100000) (hl : fs.length + (if tells = true then 1 else 0) ≤ 64) : fieldsS ((fsX fs tells n).map lnF) = (0, fsX fs tells n) := by
  have hx : ∀ x ∈ fsX fs tells n, fineF x = true ∧ longF x = false := fun x hx => by
    unfold fsX at hx
    rcases List.mem_append.1 hx with hx | hx
    · exact h.2.1 x hx
    · cases tells
      · cases hx
      · rw [if_pos rfl] at hx
        rw [List.mem_singleton.1 hx]
        exact ⟨cl_fine n, cl_short n hn⟩
  unfold fieldsS
  rw [List.length_map, if_neg (by unfold fsX; cases tells <;> simp at hl ⊢ <;> omega), rows_lnF _ [] hx]
  rfl
theorem clean_X (fs : List S98) (tells : Bool) (n : Nat) (h : FitOk fs) : ∀ a ∈ (fsX fs tells n).map lnF, a ≠ [] ∧ lineL a = none := fun a ha => by
  obtain ⟨x, hx, rfl⟩ := List.mem_map.1 ha
  unfold fsX at hx
  rcases List.mem_append.1 hx with hx | hx
  · exact lnF_clean x (h.2.1 x hx).1
  · cases tells
    · cases hx
    · rw [if_pos rfl] at hx
      rw [List.mem_singleton.1 hx]
      exact lnF_clean _ (cl_fine n)
theorem head_X (first : List UInt8) (h1 : first ≠ [] ∧ lineL first = none) (fs : List S98) (tells : Bool) (n : Nat) (h : FitOk fs) (rest : List UInt8) : headS (joinE (linesL first fs tells n) rest) = some (first :: (fsX fs tells n).map lnF, rest) := by
  rw [linesL_map]
  refine headS_join _ _ (by simp) (fun a ha => ?_)
  rcases List.mem_cons.1 ha with rfl | ha
  · exact h1
  · exact clean_X fs tells n h a ha
theorem lng_facts {l : List UInt8} {n : Nat} (h : lngS l n = 0) : l.length ≤ 65536 ∧ n ≤ 64 := by
  unfold lngS at h
  split at h
  · cases h
  · omega
theorem reqW_clean (m t : List UInt8) (v : Int) (h : isTok m = true ∧ ¬ t = [] ∧ t.all visU = true ∧ (v = 0 ∨ v = 1)) : reqW m t v ≠ [] ∧ lineL (reqW m t v) = none := by
  refine ⟨by unfold reqW; simp, line_no13 _ fun x hx => ?_⟩
  unfold reqW at hx
  rcases List.mem_append.1 hx with hx | hx
  · exact all_noc tokU 13 _ (tok_all' h.1).1 tok_13 x hx
  · rcases List.mem_cons.1 hx with rfl | hx
    · decide
    · rcases List.mem_append.1 hx with hx | hx
      · exact all_noc visU 13 _ h.2.2.1 vis_13 x hx
      · rcases List.mem_cons.1 hx with rfl | hx
        · decide
        · exact ver_no v 13 (Or.inr rfl) x hx
def rqC (q : List UInt8 × List UInt8 × Int × Int) (F : Int × List S98) (rest : List UInt8) : Rq :=
  if q.2.2.2 = 0 then (if F.1 = 0 then (if hostS F.2 q.2.2.1 = true then (if (bodyS F.2 rest q.2.2.1 false).2 = 0 then (bOf q.1, bOf q.2.1, q.2.2.1, dropS names3 F.2, (bodyS F.2 rest q.2.2.1 false).1, 0) else rqE (bodyS F.2 rest q.2.2.1 false).2) else rqE 26) else rqE F.1) else rqE q.2.2.2
theorem rqS_of {l f : List UInt8} {ls : List (List UInt8)} {rest : List UInt8} (h0 : ¬ 65536 < l.length) (hh : headS l = some (f :: ls, rest)) : rqS l = rqC (reqL f) (fieldsS ls) rest := by
  unfold rqS
  rw [if_neg h0, hh]
  rfl
theorem back_rq (m t : List UInt8) (v : Int) (fs : List S98) (b : List UInt8) (h : ckRq m t v fs b = 0) : rqS (pRq m t v fs b) = (bOf m, bOf t, v, fs, bOf b, 0) := by
  unfold ckRq at h
  split at h
  case isFalse => cases h
  case isTrue c1 =>
  split at h
  case isFalse c2 => exact absurd h c2
  case isTrue c2 =>
  split at h
  case isFalse => cases h
  case isTrue c3 =>
  obtain ⟨l1, l2⟩ := lng_facts h
  have hF := fit_facts fs c2
  obtain ⟨hr, hq⟩ := req_any m t v c1
  have hb : b.length ≤ 65536 := by
    have := (joinE_len (linesL (reqW m t v) fs (decide (b ≠ [])) b.length) b).2
    unfold pRq at l1
    omega
  have hcount : fs.length + (if decide (b ≠ []) = true then 1 else 0) ≤ 64 := by
    by_cases c : b = []
    · rw [if_pos c] at l2
      rw [if_neg (by simp [c])]
      exact l2
    · rw [if_neg c] at l2
      rw [if_pos (by simp [c])]
      exact l2
  have hh : headS (pRq m t v fs b) = _ := head_X (reqW m t v) (reqW_clean m t v hr) fs (decide (b ≠ [])) b.length hF b
  have hbd := body_X fs (decide (b ≠ [])) b hb v false hF.2.2 (by by_cases c : b = []; exact Or.inr c; exact Or.inl (by simp [c]))
  rw [rqS_of (by omega) hh, hq, fields_X fs _ _ hF (by omega) hcount]
  unfold rqC
  rw [if_pos rfl, if_pos rfl, if_pos (by rw [hostS_X]; exact c3), if_pos (by rw [hbd])]
  simp only
  rw [dropS_X _ _ _ hF.2.2, hbd]
end Go.Proofs.YtjaklgikfcahdaaGreatDoor.Pu
namespace Go.Proofs.YtjaklgikfcahdaaGreatDoor.Pu
open Go.RowKit Go.Proofs.YtjaklgikfcahdaaGreatDoorW.PrintWords Go.Proofs.YtjaklgikfcahdaaGreatDoorW.PrintLast Go.Proofs.YtjaklgikfcahdaaGreatDoor.PB
set_option linter.unusedVariables false
set_option linter.unusedSimpArgs false
theorem staW_clean (c : Int) (r : List UInt8) (v : Int) (h : isTxt r = true) : staW c r v ≠ [] ∧ lineL (staW c r v) = none := by
  refine ⟨by unfold staW; simp, line_no13 _ fun x hx => ?_⟩
  unfold staW at hx
  rcases List.mem_append.1 hx with hx | hx
  · exact ver_no v 13 (Or.inr rfl) x hx
  · rcases List.mem_cons.1 hx with rfl | hx
    · decide
    · rcases List.mem_append.1 hx with hx | hx
      · exact plain_no c 13 (by decide) (by decide) x hx
      · rcases List.mem_cons.1 hx with rfl | hx
        · decide
        · exact all_noc textU 13 _ h text_13 x hx
theorem rpS_of {l f : List UInt8} {ls : List (List UInt8)} {rest : List UInt8} {m : ByteArray} (h0 : ¬ 65536 < l.length) (hh : headS l = some (f :: ls, rest)) : rpS l m = rpC (staL f) (fieldsS ls) rest m := by
  unfold rpS
  rw [if_neg h0, hh]
  rfl
theorem joinE_app (r : List UInt8) : ∀ a b : List (List UInt8), (joinE (a ++ b) r).length + 2 = (joinE a []).length + (joinE b r).length
  | [], b => by show (joinE b r).length + 2 = 2 + (joinE b r).length; omega
  | x :: a, b => by
    have ih := joinE_app r a b
    have e1 : joinE (x :: a ++ b) r = x ++ 13 :: 10 :: joinE (a ++ b) r := rfl
    have e2 : joinE (x :: a) [] = x ++ 13 :: 10 :: joinE a [] := rfl
    rw [e1, e2]
    simp only [List.length_append, List.length_cons]
    omega
theorem joinE_lines (first : List UInt8) (fs : List S98) (tells : Bool) (n : Int) (r : List UInt8) : (joinE (linesL first fs tells n) r).length = (joinE (first :: fs.map lnF) []).length + (if tells = true then (lnC n).length + 2 else 0) + r.length := by
  have e : linesL first fs tells n = (first :: fs.map lnF) ++ (if tells = true then [lnC n] else []) := rfl
  rw [e]
  have := joinE_app r (first :: fs.map lnF) (if tells = true then [lnC n] else [])
  cases tells
  · rw [if_neg (by simp)] at this ⊢
    rw [if_neg (by simp)]
    have e2 : (joinE [] r).length = r.length + 2 := rfl
    rw [e2] at this
    omega
  · rw [if_pos rfl] at this ⊢
    rw [if_pos rfl]
    have e2 : (joinE [lnC n] r).length = (lnC n ++ 13 :: 10 :: 13 :: 10 :: r).length := rfl
    rw [e2] at this
    simp only [List.length_append, List.length_cons] at this
    omega
def RpOk (c : Int) (r : List UInt8) (v : Int) (fs : List S98) (b : List UInt8) : Prop :=
  200 ≤ c ∧ c ≤ 599 ∧ isTxt r = true ∧ staL (staW c r v) = (c, r, v, 0) ∧ FitOk fs ∧ (nobody c = true → b = []) ∧ (pRp c r v fs b false).length ≤ 65536 ∧ fs.length + (if nobody c = true then 0 else 1) ≤ 64 ∧ b.length ≤ 65536
theorem ckRp_facts (c : Int) (r : List UInt8) (v : Int) (fs : List S98) (b : List UInt8) (h : ckRp c r v fs b = 0) : RpOk c r v fs b := by
  unfold ckRp at h
  split at h
  case isFalse => cases h
  case isTrue c1 =>
  split at h
  case isFalse c2 => exact absurd h c2
  case isTrue c2 =>
  obtain ⟨hr, hq⟩ := sta_any c r v c1.2.1 c1.2.2 c1.1
  have hF := fit_facts fs c2
  split at h
  case isTrue c3 =>
    split at h
    case isFalse => cases h
    case isTrue c4 =>
      obtain ⟨l1, l2⟩ := lng_facts h
      exact ⟨c1.2.1, c1.2.2, hr.1, hq, hF, fun _ => c4, l1, by rw [if_pos c3]; exact l2, by rw [c4]; simp⟩
  case isFalse c3 =>
    obtain ⟨l1, l2⟩ := lng_facts h
    refine ⟨c1.2.1, c1.2.2, hr.1, hq, hF, fun h => absurd h c3, l1, by rw [if_neg c3]; exact l2, ?_⟩
    have := joinE_lines (staW c r v) fs (!nobody c && (!false || decide (b ≠ []))) b.length (if (false || nobody c) = true then [] else b)
    have e : (if (false || nobody c) = true then ([] : List UInt8) else b) = b := by
      rw [if_neg (by simpa using c3)]
    rw [e] at this
    unfold pRp at l1
    rw [e] at l1
    omega
theorem back_rp (c : Int) (r : List UInt8) (v : Int) (fs : List S98) (b : List UInt8) (h : RpOk c r v fs b) : rpS (pRp c r v fs b false) (⟨#[71, 69, 84]⟩ : ByteArray) = (c, bOf r, v, fs, bOf b, 0) := by
  obtain ⟨h1, h2, h3, h4, hF, h6, h7, h8, h9⟩ := h
  have hm : (((⟨#[71, 69, 84]⟩ : ByteArray).toList == [72, 69, 65, 68]) || nobody c) = nobody c := by
    rw [show ((⟨#[71, 69, 84]⟩ : ByteArray).toList == [72, 69, 65, 68]) = false from by kernel_rfl, Bool.false_or]
  cases hn : nobody c
  · have ht : (!nobody c && (!false || decide (b ≠ []))) = true := by rw [hn]; rfl
    have he : (if (false || nobody c) = true then ([] : List UInt8) else b) = b := by rw [hn]; rfl
    have hh : headS (pRp c r v fs b false) = some (staW c r v :: (fsX fs true b.length).map lnF, b) := by
      unfold pRp
      rw [ht, he]
      exact head_X (staW c r v) (staW_clean c r v h3) fs true b.length hF b
    rw [hn, if_neg (by simp)] at h8
    have hbd := body_X fs true b h9 v true hF.2.2 (Or.inl rfl)
    rw [rpS_of (by omega) hh, h4, fields_X fs true _ hF (by omega) (by rw [if_pos rfl]; exact h8)]
    unfold rpC
    rw [if_pos rfl, if_neg (by show ¬ c < 200; omega), if_pos rfl, hm, hn, if_neg (by simp), if_pos (by rw [hbd])]
    simp only
    rw [dropS_X _ _ _ hF.2.2, hbd]
  · obtain rfl := h6 hn
    have ht : (!nobody c && (!false || decide (([] : List UInt8) ≠ []))) = false := by rw [hn]; rfl
    have he : (if (false || nobody c) = true then ([] : List UInt8) else []) = [] := by rw [hn]; rfl
    have hh : headS (pRp c r v fs [] false) = some (staW c r v :: (fsX fs false 0).map lnF, []) := by
      unfold pRp
      rw [ht, he]
      exact head_X (staW c r v) (staW_clean c r v h3) fs false 0 hF []
    rw [hn, if_pos rfl] at h8
    rw [rpS_of (by omega) hh, h4, fields_X fs false 0 hF (by omega) (by rw [if_neg (by simp)]; exact h8)]
    unfold rpC
    rw [if_pos rfl, if_neg (by show ¬ c < 200; omega), if_pos rfl, hm, if_pos hn, if_pos (show ([] : List UInt8).length = 0 from rfl)]
    simp only
    rw [dropS_X _ _ _ hF.2.2]
    rfl
end Go.Proofs.YtjaklgikfcahdaaGreatDoor.Pu
namespace Go.Proofs.YtjaklgikfcahdaaGreatDoor.Pu
open Go.RowKit Go.Proofs.YtjaklgikfcahdaaGreatDoorW.PrintWords Go.Proofs.YtjaklgikfcahdaaGreatDoorW.PrintLast Go.Proofs.YtjaklgikfcahdaaGreatDoor.PB
set_option linter.unusedVariables false
set_option linter.unusedSimpArgs false
theorem dropW_twice : ∀ l : List UInt8, (l.dropWhile isBl).dropWhile isBl = l.dropWhile isBl
  | [] => rfl
  | x :: t => by
    cases c : isBl x
    · rw [List.dropWhile_cons_of_neg (by rw [c]; simp), List.dropWhile_cons_of_neg (by rw [c]; simp)]
    · rw [List.dropWhile_cons_of_pos c]; exact dropW_twice t
theorem trim_twice (l : List UInt8) : trim (trim l) = trim l := by
  have e1 : ∀ s, trimL (trimL s) = trimL s := dropW_twice
  have e2 : ∀ s, trimR (trimR s) = trimR s := fun s => by
    unfold trimR
    rw [List.reverse_reverse, dropW_twice]
  unfold trim
  rw [trim_comm, e2, e1]
theorem parse_fine (l : List UInt8) (h : (parseL l).2.2 = 0) : fineF (fldL l) = true := by
  unfold fldL fineF
  simp only [data_bOf]
  unfold parseL at h ⊢
  split at h
  · cases h
  case isFalse c1 =>
    rw [if_neg c1]
    split at h
    case isTrue c2 =>
      rw [if_pos c2]
      simp only
      rw [c2.2.1, c2.2.2, trim_twice, beq_iff_eq.2 rfl]
      rfl
    case isFalse => cases h
theorem rows_fine : ∀ (ls : List (List UInt8)) (acc : List S98), (rowsR ls acc).1 = 0 → (∀ x ∈ acc, fineF x = true) → (∀ x ∈ (rowsR ls acc).2, fineF x = true) ∧ (rowsR ls acc).2.length = acc.length + ls.length
  | [], acc, _, h => ⟨h, rfl⟩
  | l :: ls, acc, h0, h => by
    rw [rowsR] at h0 ⊢
    split at h0
    case isTrue c =>
      rw [if_pos c]
      have := rows_fine ls (acc ++ [fldL l]) h0 (fun x hx => by
        rcases List.mem_append.1 hx with hx | hx
        · exact h x hx
        · rw [List.mem_singleton.1 hx]; exact parse_fine l c)
      refine ⟨this.1, ?_⟩
      rw [this.2]
      simp
      omega
    case isFalse c => exact absurd h0 c
theorem fields_fine (ls : List (List UInt8)) (h : (fieldsS ls).1 = 0) : (∀ x ∈ (fieldsS ls).2, fineF x = true) ∧ (fieldsS ls).2.length ≤ 64 := by
  unfold fieldsS at h ⊢
  split at h
  · cases h
  case isFalse c =>
    rw [if_neg c]
    have := rows_fine ls [] h (fun x hx => by cases hx)
    exact ⟨this.1, by rw [this.2]; simp; omega⟩
theorem drop_out (fs : List S98) : ∀ x ∈ dropS names3 fs, isN names3 x = false := fun x hx => by
  have := (List.mem_filter.1 hx).2
  simpa using this
theorem fit_read (fs : List S98) (h : ∀ x ∈ fs, fineF x = true) (hl : fs.length ≤ 64) : fitS (dropS names3 fs) = 0 ∨ fitS (dropS names3 fs) = 4 := by
  have hd : (dropS names3 fs).length ≤ fs.length := List.length_filter_le _ _
  have hf : (dropS names3 fs).all fineF = true := List.all_eq_true.2 (fun x hx => h x (List.mem_filter.1 hx).1)
  have hi : dropS names3 (dropS names3 fs) = dropS names3 fs := List.filter_eq_self.2 (fun x hx => by rw [drop_out fs x hx]; rfl)
  have hc : checkS (dropS names3 fs) = 0 ∨ checkS (dropS names3 fs) = 4 := by
    unfold checkS
    rw [if_neg (by omega), if_pos hf]
    split
    · exact Or.inr rfl
    · exact Or.inl rfl
  unfold fitS
  rcases hc with hc | hc
  · rw [hc, if_pos rfl, hi, if_neg (by omega)]; exact Or.inl rfl
  · rw [hc, if_neg (by decide)]; exact Or.inr rfl
theorem lng_two (l : List UInt8) (n : Nat) : lngS l n = 0 ∨ lngS l n = 4 := by
  unfold lngS
  split
  · exact Or.inr rfl
  · exact Or.inl rfl
theorem low_te : ((Hand.lowerS (⟨#[72, 111, 115, 116]⟩ : ByteArray)).toList == (Hand.lowerS nTE).toList) = false := by kernel_rfl
theorem low_cl : ((Hand.lowerS (⟨#[72, 111, 115, 116]⟩ : ByteArray)).toList == (Hand.lowerS nCL).toList) = false := by kernel_rfl
theorem low_tr : ((Hand.lowerS (⟨#[72, 111, 115, 116]⟩ : ByteArray)).toList == (Hand.lowerS nTR).toList) = false := by kernel_rfl
theorem host_out (x : S98) (h : sameN x.f0 (⟨#[72, 111, 115, 116]⟩ : ByteArray) = true) : isN names3 x = false := by
  unfold sameN at h
  have e := beq_iff_eq.1 h
  refine List.any_eq_false.2 (fun m hm => ?_)
  unfold sameN
  rw [e]
  simp only [names3, List.mem_cons, List.not_mem_nil, or_false] at hm
  rcases hm with rfl | rfl | rfl
  · rw [low_cl]; simp
  · rw [low_te]; simp
  · rw [low_tr]; simp
theorem host_drop (fs : List S98) (v : Int) : hostS (dropS names3 fs) v = hostS fs v := by
  have e : allS (⟨#[72, 111, 115, 116]⟩ : ByteArray) (dropS names3 fs) = allS (⟨#[72, 111, 115, 116]⟩ : ByteArray) fs := by
    unfold allS dropS
    rw [List.filter_filter]
    congr 1
    apply List.filter_congr
    intro x _
    cases c : sameN x.f0 (⟨#[72, 111, 115, 116]⟩ : ByteArray)
    · rfl
    · rw [host_out x c]; rfl
  unfold hostS
  rw [e]
theorem ckRq_read (f : List UInt8) (F : Int × List S98) (b : List UInt8) (h1 : (reqL f).2.2.2 = 0) (h2 : ∀ x ∈ F.2, fineF x = true) (h3 : F.2.length ≤ 64) (h4 : hostS F.2 (reqL f).2.2.1 = true) : ckRq (reqL f).1 (reqL f).2.1 (reqL f).2.2.1 (dropS names3 F.2) b = 0 ∨ ckRq (reqL f).1 (reqL f).2.1 (reqL f).2.2.1 (dropS names3 F.2) b = 4 := by
  unfold ckRq
  rw [(req_back f h1).1, if_pos h1, host_drop, h4]
  rcases fit_read F.2 h2 h3 with h | h
  · rw [h, if_pos rfl, if_pos rfl]; exact lng_two _ _
  · rw [h, if_neg (by decide)]; exact Or.inr rfl
theorem ckRp_read (f : List UInt8) (F : Int × List S98) (b : List UInt8) (h1 : (staL f).2.2.2 = 0) (h0 : 200 ≤ (staL f).1) (h2 : ∀ x ∈ F.2, fineF x = true) (h3 : F.2.length ≤ 64) (h4 : nobody (staL f).1 = true → b = []) : ckRp (staL f).1 (staL f).2.1 (staL f).2.2.1 (dropS names3 F.2) b = 0 ∨ ckRp (staL f).1 (staL f).2.1 (staL f).2.2.1 (dropS names3 F.2) b = 4 := by
  obtain ⟨hb, _, _, hm⟩ := sta_back f h1
  unfold ckRp
  rw [hb, if_pos ⟨h1, h0, hm⟩]
  rcases fit_read F.2 h2 h3 with h | h
  · rw [h, if_pos rfl]
    split
    case isTrue c => rw [if_pos (h4 c)]; exact lng_two _ _
    · exact lng_two _ _
  · rw [h, if_neg (by decide)]; exact Or.inr rfl
theorem not_both (f : List UInt8) (h1 : (reqL f).2.2.2 = 0) (h2 : (staL f).2.2.2 = 0) : False := by
  rcases req_cases f with ⟨_, hk, _⟩ | hn
  · rcases sta_cases f with ⟨_, hs, _⟩ | hn
    · have h := (tok_all' hk.1).1
      rcases verL_yes hs.1 with ⟨e, _⟩ | ⟨e, _⟩ <;> rw [e] at h <;> exact absurd h (by decide)
    · exact hn h2
  · exact hn h1
end Go.Proofs.YtjaklgikfcahdaaGreatDoor.Pu
namespace Go.Proofs.YtjaklgikfcahdaaGreatDoor.Pu
open Go.RowKit Go.Proofs.YtjaklgikfcahdaaGreatDoorW.PrintWords Go.Proofs.YtjaklgikfcahdaaGreatDoorW.PrintLast Go.Proofs.YtjaklgikfcahdaaGreatDoor.PB
set_option linter.unusedVariables false
set_option linter.unusedSimpArgs false
theorem again_end : Ev (fun k => depotlaw12_messages.f k) true := lawR_messages
theorem decode_len (l : List UInt8) (h : (decode l).2.2 = 0) : (decode l).1.length ≤ l.length := by
  have e : decode l = ((decode l).1, (decode l).2.1, 0) := by
    conv => lhs; rw [show decode l = ((decode l).1, (decode l).2.1, (decode l).2.2) from rfl, h]
  obtain ⟨c, t, h1, _, _, h2, _⟩ := decL_cut _ l 0 [] _ _ e
  have := congrArg List.length h1
  simp at this h2
  omega
theorem body_len (fs : List S98) (rest : List UInt8) (v : Int) (op : Bool) (hb : (bodyS fs rest v op).2 = 0) : ∃ b, (bodyS fs rest v op).1 = bOf b ∧ b.length ≤ rest.length := by
  have z : ∃ b, E0 = bOf b ∧ b.length ≤ rest.length := ⟨[], rfl, Nat.zero_le _⟩
  have y : ∃ b, bOf rest = bOf b ∧ b.length ≤ rest.length := ⟨rest, rfl, Nat.le_refl _⟩
  unfold bodyS chunksS
  repeat' split
  all_goals first
    | exact z
    | exact y
    | exact ⟨_, rfl, decode_len rest (by assumption)⟩
theorem prog_Req_any (l : List UInt8) (hl : l.length ≤ 100000000000) : Ev (fun k => message_ParseRequest.f k (bOf l)) (rqS l) := by
  by_cases h : l.length ≤ 100000
  · exact prog_Req l h
  · unfold message_ParseRequest.f rqS msgBegin
    rw [bOf_size, if_pos (by omega), if_pos (by omega)]
    exact Ev.sbind rfl (Ev.neg (by decide) (Ev.some' rfl))
theorem prog_Rep_any (l : List UInt8) (m : ByteArray) (hl : l.length ≤ 100000000000) : Ev (fun k => message_ParseReply.f k (bOf l) m) (rpS l m) := by
  by_cases h : l.length ≤ 100000
  · exact prog_Rep l m h
  · unfold message_ParseReply.f rpS msgBegin
    rw [bOf_size, if_pos (by omega), if_pos (by omega)]
    exact Ev.sbind rfl (Ev.neg (by decide) (Ev.some' rfl))
theorem drop_ps (ls : List (List UInt8)) (h : ∀ a ∈ ls, a.length ≤ 100000) : okPs (dropS names3 (fieldsS ls).2) := by
  have hok := fieldsS_ok ls h
  have hd : (dropS names3 (fieldsS ls).2).length ≤ (fieldsS ls).2.length := List.length_filter_le _ _
  exact ⟨by have := hok.1; omega, fun x hx => hok.s6 x (List.mem_filter.1 hx).1⟩
theorem head_parts {l : List UInt8} {p : List (List UInt8) × List UInt8} (hh : headS l = some p) : ∃ f ls, p.1 = f :: ls ∧ f.length ≤ l.length ∧ p.2.length ≤ l.length ∧ ∀ a ∈ ls, a.length ≤ l.length := by
  obtain ⟨hl1, hl2, hl0⟩ := headS_len hh
  cases hp : p.1 with
  | nil => rw [hp] at hl0; simp at hl0
  | cons f ls =>
    rw [hp] at hl1
    exact ⟨f, ls, rfl, hl1 f List.mem_cons_self, hl2, fun a ha => hl1 a (List.mem_cons_of_mem _ ha)⟩
theorem rqS_read (l : List UInt8) (h : l.length ≤ 5000) (h0 : (rqS l).2.2.2.2.2 = 0) : ∃ f ls rest m t v fs b, headS l = some (f :: ls, rest) ∧ (reqL f).2.2.2 = 0 ∧ rqS l = (bOf m, bOf t, v, fs, bOf b, 0) ∧ m.length ≤ 5000 ∧ t.length ≤ 5000 ∧ rng v ∧ okPs fs ∧ b.length ≤ 5000 ∧ (ckRq m t v fs b = 0 ∨ ckRq m t v fs b = 4) := by
  cases hh : headS l with
  | none =>
    unfold rqS at h0
    rw [if_neg (by omega), hh] at h0
    cases h0
  | some p =>
    obtain ⟨f, ls, hp, hf, hr, ha⟩ := head_parts hh
    obtain ⟨p1, rest⟩ := p
    simp only at hp hr
    subst hp
    rw [rqS_of (by omega) hh] at h0 ⊢
    unfold rqC at h0 ⊢
    by_cases c1 : (reqL f).2.2.2 = 0
    case neg => rw [if_neg c1] at h0; exact absurd h0 c1
    rw [if_pos c1] at h0 ⊢
    by_cases c2 : (fieldsS ls).1 = 0
    case neg => rw [if_neg c2] at h0; exact absurd h0 c2
    rw [if_pos c2] at h0 ⊢
    by_cases c3 : hostS (fieldsS ls).2 (reqL f).2.2.1 = true
    case neg => rw [if_neg c3] at h0; cases h0
    rw [if_pos c3] at h0 ⊢
    by_cases c4 : (bodyS (fieldsS ls).2 rest (reqL f).2.2.1 false).2 = 0
    case neg => rw [if_neg c4] at h0; exact absurd h0 c4
    rw [if_pos c4]
    obtain ⟨b, hb, hbl⟩ := body_len _ _ _ _ c4
    obtain ⟨hw, hv0, hv1⟩ := req_back f c1
    have hlen := congrArg List.length hw
    unfold reqW at hlen
    simp only [List.length_append, List.length_cons] at hlen
    obtain ⟨g1, g2⟩ := fields_fine ls c2
    refine ⟨f, ls, rest, (reqL f).1, (reqL f).2.1, (reqL f).2.2.1, dropS names3 (fieldsS ls).2, b, rfl, c1, by rw [hb], by omega, by omega, ⟨by omega, by omega⟩, drop_ps ls (fun a h => by have := ha a h; omega), by omega, ckRq_read f (fieldsS ls) b c1 g1 g2 c3⟩
theorem rpS_read (l : List UInt8) (h : l.length ≤ 5000) (h0 : (rpS l (⟨#[71, 69, 84]⟩ : ByteArray)).2.2.2.2.2 = 0) : ∃ f ls rest c r v fs b, headS l = some (f :: ls, rest) ∧ (staL f).2.2.2 = 0 ∧ rpS l (⟨#[71, 69, 84]⟩ : ByteArray) = (c, bOf r, v, fs, bOf b, 0) ∧ r.length ≤ 5000 ∧ rng c ∧ rng v ∧ okPs fs ∧ b.length ≤ 5000 ∧ (ckRp c r v fs b = 0 ∨ ckRp c r v fs b = 4) := by
  have hm : ((⟨#[71, 69, 84]⟩ : ByteArray).toList == [72, 69, 65, 68]) = false := by kernel_rfl
  cases hh : headS l with
  | none =>
    unfold rpS at h0
    rw [if_neg (by omega), hh] at h0
    cases h0
  | some p =>
    obtain ⟨f, ls, hp, hf, hr, ha⟩ := head_parts hh
    obtain ⟨p1, rest⟩ := p
    simp only at hp hr
    subst hp
    rw [rpS_of (by omega) hh] at h0 ⊢
    unfold rpC at h0 ⊢
    rw [hm, Bool.false_or] at h0 ⊢
    by_cases c1 : (staL f).2.2.2 = 0
    case neg => rw [if_neg c1] at h0; exact absurd h0 c1
    rw [if_pos c1] at h0 ⊢
    by_cases c5 : (staL f).1 < 200
    case pos => rw [if_pos c5] at h0; cases h0
    rw [if_neg c5] at h0 ⊢
    by_cases c2 : (fieldsS ls).1 = 0
    case neg => rw [if_neg c2] at h0; exact absurd h0 c2
    rw [if_pos c2] at h0 ⊢
    obtain ⟨hw, ⟨hv0, hv1⟩, hc0, hc1⟩ := sta_back f c1
    have hlen := congrArg List.length hw
    unfold staW at hlen
    simp only [List.length_append, List.length_cons] at hlen
    obtain ⟨g1, g2⟩ := fields_fine ls c2
    have hps := drop_ps ls (fun a h => by have := ha a h; omega)
    by_cases c6 : nobody (staL f).1 = true
    · rw [if_pos c6] at h0 ⊢
      by_cases c7 : rest.length = 0
      case neg => rw [if_neg c7] at h0; cases h0
      rw [if_pos c7]
      exact ⟨f, ls, rest, (staL f).1, (staL f).2.1, (staL f).2.2.1, dropS names3 (fieldsS ls).2, [], rfl, c1, rfl, by omega, ⟨by omega, by omega⟩, ⟨by omega, by omega⟩, hps, by simp, ckRp_read f (fieldsS ls) [] c1 (by omega) g1 g2 (fun _ => rfl)⟩
    · rw [if_neg c6] at h0 ⊢
      by_cases c4 : (bodyS (fieldsS ls).2 rest (staL f).2.2.1 true).2 = 0
      case neg => rw [if_neg c4] at h0; exact absurd h0 c4
      rw [if_pos c4]
      obtain ⟨b, hb, hbl⟩ := body_len _ _ _ _ c4
      exact ⟨f, ls, rest, (staL f).1, (staL f).2.1, (staL f).2.2.1, dropS names3 (fieldsS ls).2, b, rfl, c1, by rw [hb], by omega, ⟨by omega, by omega⟩, ⟨by omega, by omega⟩, hps, by omega, ckRp_read f (fieldsS ls) b c1 (by omega) g1 g2 (fun h => absurd h c6)⟩
theorem print_most (first : List UInt8) (fs : List S98) (tells : Bool) (n : Int) (b : List UInt8) (h1 : first.length ≤ 3000000) (hf : okPs fs) (hn : rng n) (hb : b.length ≤ 1000000) : (joinE (linesL first fs tells n) b).length ≤ 100000000000 := by
  have hl := linesL_small first fs tells n h1 hf.2 hn
  have hj := joinE_most b _ hl.1
  have h2 := hl.2
  have h3 := hf.1
  omega
theorem magain_law (a0 : ByteArray) : ∃ k, depotlaw12_MessageAgain.f k a0 = some true := by
  obtain ⟨l, rfl, hl⟩ := ex_bOf a0
  have main : Ev (fun k => depotlaw12_MessageAgain.f k (bOf l)) true := by
    unfold depotlaw12_MessageAgain.f
    rw [bOf_size]
    by_cases c : 5000 < l.length
    · exact Ev.pos (by omega) again_end
    refine Ev.neg (by omega) (Ev.bind (prog_Req l (by omega)) (Ev.bind (prog_Rep l _ (by omega)) ?_))
    by_cases h0 : (rqS l).2.2.2.2.2 = 0
    · obtain ⟨f, ls, rest, m, t, v, fs, b, hh, hf, hq, hm, ht, hv, hps, hb, hk⟩ := rqS_read l (by omega) h0
      have hne : ¬ (rpS l (⟨#[71, 69, 84]⟩ : ByteArray)).2.2.2.2.2 = 0 := fun hr => by
        obtain ⟨f', ls', rest', _, _, _, _, _, hh', hf', _⟩ := rpS_read l (by omega) hr
        rw [hh] at hh'
        have e := Option.some.inj hh'
        have e2 : f = f' := (List.cons.inj (congrArg Prod.fst e)).1
        subst e2
        exact not_both f hf hf'
      rw [hq]
      have hpl := plain_len v hv
      have hmo : (pRq m t v fs b).length ≤ 100000000000 := print_most _ fs _ _ _ (by unfold reqW http; simp; omega) hps ⟨by omega, by omega⟩ (by omega)
      have p1 := prog_pRq m t v fs b (by omega) (by omega) hv hps (by omega)
      have p2 := prog_Req_any (pRq m t v fs b) hmo
      have p3 := prog_ckRq m t v fs b (by omega) (by omega) hv hps (by omega)
      refine Ev.pos rfl (Ev.neg hne ?_)
      rcases hk with hk | hk
      · have hbk := back_rq m t v fs b hk
        have hs := sameRq (bOf m, bOf t, v, fs, bOf b, 0) (by show fs.length < 1000000; have := hps.1; omega)
        exact Ev.bind (Ev.eq p3 hk) (Ev.bind p1 (Ev.bind (Ev.eq p2 hbk) (Ev.pos rfl (Ev.pos rfl (Ev.bind hs (Ev.pos rfl again_end))))))
      · exact Ev.bind (Ev.eq p3 hk) (Ev.bind p1 (Ev.bind p2 (Ev.neg (by decide) (Ev.pos rfl again_end))))
    refine Ev.neg h0 ?_
    by_cases h1 : (rpS l (⟨#[71, 69, 84]⟩ : ByteArray)).2.2.2.2.2 = 0
    case neg => exact Ev.neg h1 again_end
    obtain ⟨f, ls, rest, c, r, v, fs, b, _, _, hq, hr, hc, hv, hps, hb, hk⟩ := rpS_read l (by omega) h1
    rw [hq]
    have hpl := plain_len v hv
    have hpc := plain_len c hc
    have hm : (pRp c r v fs b false).length ≤ 100000000000 := print_most _ fs _ _ _ (by unfold staW http; simp; omega) hps ⟨by omega, by omega⟩ (by split; exact Nat.zero_le _; omega)
    have p1 := prog_pRp c r v fs b false (by omega) hc hv hps (by omega)
    have p2 := prog_Rep_any (pRp c r v fs b false) (⟨#[71, 69, 84]⟩ : ByteArray) hm
    have p3 := prog_ckRp c r v fs b (by omega) hc hv hps (by omega)
    refine Ev.pos rfl ?_
    rcases hk with hk | hk
    · have hbk := back_rp c r v fs b (ckRp_facts c r v fs b hk)
      have hs := sameRp (c, bOf r, v, fs, bOf b, 0) (by show fs.length < 1000000; have := hps.1; omega)
      exact Ev.bind (Ev.eq p3 hk) (Ev.bind p1 (Ev.bind (Ev.eq p2 hbk) (Ev.pos rfl (Ev.pos rfl (Ev.bind hs (Ev.pos rfl again_end))))))
    · exact Ev.bind (Ev.eq p3 hk) (Ev.bind p1 (Ev.bind p2 (Ev.neg (by decide) (Ev.pos rfl again_end))))
  obtain ⟨K, hK⟩ := main
  exact ⟨K, hK K (Nat.le_refl _)⟩
end Go.Proofs.YtjaklgikfcahdaaGreatDoor.Pu
