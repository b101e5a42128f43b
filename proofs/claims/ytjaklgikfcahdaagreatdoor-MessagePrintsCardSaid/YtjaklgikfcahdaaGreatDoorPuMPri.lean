/- Plain lemmas and the statement's own law. -/
import Derived.Test.YtjaklgikfcahdaaGreatDoorWWords
import Derived.Test.YtjaklgikfcahdaaGreatDoorWLast
import Derived.Test.YtjaklgikfcahdaaGreatDoorHand
import Derived.Lib.Strings
import Derived.IntWalk
import Derived.Test.YtjaklgikfcahdaaGreatDoorPU20
import Derived.Lib.SlTrimSet
import Derived.Test.YtjaklgikfcahdaaGreatDoorOctet
import Derived.Test.YtjaklgikfcahdaaGreatDoorPU2
import Derived.Test.YtjaklgikfcahdaaGreatDoorPU1
import Derived.Test.YtjaklgikfcahdaaGreatDoorPU16
import Derived.Test.YtjaklgikfcahdaaGreatDoorPU17
import Derived.KernelRfl
import Derived.Test.YtjaklgikfcahdaaGreatDoorDigit
import Derived.Test.YtjaklgikfcahdaaGreatDoorPU3
import Derived.Test.YtjaklgikfcahdaaGreatDoorPU23
import Derived.Test.YtjaklgikfcahdaaGreatDoorPU8
import Derived.Test.YtjaklgikfcahdaaGreatDoorPU13
import Derived.Lib.ItoaMem
import Derived.Test.YtjaklgikfcahdaaGreatDoorPU7
import Derived.Test.YtjaklgikfcahdaaGreatDoorPU24
import Derived.Lib.SplitLaws
import Derived.Test.YtjaklgikfcahdaaGreatDoorPU9
import Derived.Test.YtjaklgikfcahdaaGreatDoorLower
import Derived.Test.YtjaklgikfcahdaaGreatDoorPU4
import Derived.Test.YtjaklgikfcahdaaGreatDoorPU6
import Derived.Test.YtjaklgikfcahdaaGreatDoorPU18
import Derived.Test.YtjaklgikfcahdaaGreatDoorPU19
import Derived.Test.YtjaklgikfcahdaaGreatDoorPU10
import Derived.Test.YtjaklgikfcahdaaGreatDoorPU11
import Derived.Test.YtjaklgikfcahdaaGreatDoorPU14
import Derived.Test.YtjaklgikfcahdaaGreatDoorPU15
import Derived.Test.YtjaklgikfcahdaaGreatDoorPU22
import Derived.Test.YtjaklgikfcahdaaGreatDoorPU25
import Derived.Test.YtjaklgikfcahdaaGreatDoorPU26
namespace Go.Proofs.YtjaklgikfcahdaaGreatDoor.Pu
open Go.RowKit Go.Proofs.YtjaklgikfcahdaaGreatDoorW.PrintWords Go.Proofs.YtjaklgikfcahdaaGreatDoorW.PrintLast
set_option linter.unusedVariables false
set_option linter.unusedSimpArgs false
def bOf (l : List UInt8) : ByteArray := ⟨l.toArray⟩
theorem bOf_data (s : ByteArray) : bOf s.data.toList = s := by obtain ⟨⟨l⟩⟩ := s; rfl
theorem data_bOf (l : List UInt8) : (bOf l).data.toList = l := rfl
theorem bOf_size (l : List UInt8) : (bOf l).size = l.length := by unfold bOf; simp [ByteArray.size]
theorem size_data (s : ByteArray) : s.data.toList.length = s.size := data_length s
theorem toList_bOf (l : List UInt8) : (bOf l).toList = l := by rw [ByteArray.toList_eq]; rfl
theorem bOf_extract (l : List UInt8) (i j : Nat) : (bOf l).extract i j = bOf ((l.take j).drop i) := by
  have h := Go.Lib.extract_data (bOf l) i j
  rw [← bOf_data ((bOf l).extract i j), h, data_bOf, List.drop_take]
theorem bOf_append (a b : List UInt8) : bOf a ++ bOf b = bOf (a ++ b) := by
  have h : ((bOf a) ++ (bOf b)).data.toList = a ++ b := by simp [bOf]
  rw [← bOf_data (bOf a ++ bOf b), h]
theorem ex_bOf (s : ByteArray) : ∃ l, s = bOf l ∧ l.length = s.size := ⟨s.data.toList, (bOf_data s).symm, size_data s⟩
def at_ (l : List UInt8) (i : Nat) : Int := (l.getD i 0).toNat
theorem bt_bOf (l : List UInt8) (i : Int) (h0 : 0 ≤ i) (h : i < l.length) : bt (bOf l) i = at_ l i.toNat := by
  have h' : i.toNat < (bOf l).size := by rw [bOf_size]; omega
  rw [← bt_at (bOf l) i h', at_]
  have hl : i.toNat < l.length := by omega
  rw [List.getD_eq_getElem?_getD, List.getElem?_eq_getElem hl]
  rfl
theorem at_lt (l : List UInt8) (i : Nat) (h : i < l.length) : at_ l i = (l[i]).toNat := by simp [at_, List.getD_eq_getElem?_getD, List.getElem?_eq_getElem h]
theorem u8_eq {c : UInt8} {n : Nat} (hn : n < 256) : (c.toNat : Int) = n ↔ c = UInt8.ofNat n := by
  constructor
  · intro h
    have h' : c.toNat = n := by omega
    rw [← h']; simp
  · intro h; subst h; simp; omega
theorem wrap_id {n : Int} (h0 : -9223372036854775808 ≤ n) (h : n ≤ 9223372036854775807) : wrap64 n = n := Go.IntWalk.wrap64_in n ⟨h0, h⟩
theorem Ev.ite {α : Type} {c : Prop} [Decidable c] {f g : Nat → Option α} {r : α} (h : c → Ev f r) (k : ¬ c → Ev g r) : Ev (fun n => if c then f n else g n) r := by
  by_cases hc : c
  · exact Ev.congr (fun n => if_pos hc) (h hc)
  · exact Ev.congr (fun n => if_neg hc) (k hc)
theorem Ev.pos {α : Type} {c : Prop} [Decidable c] {f g : Nat → Option α} {r : α} (hc : c) (h : Ev f r) : Ev (fun n => if c then f n else g n) r := Ev.congr (fun n => if_pos hc) h
theorem Ev.neg {α : Type} {c : Prop} [Decidable c] {f g : Nat → Option α} {r : α} (hc : ¬ c) (h : Ev g r) : Ev (fun n => if c then f n else g n) r := Ev.congr (fun n => if_neg hc) h
theorem Ev.sbind {α β : Type} {x : Option α} {f : Nat → α → Option β} {a : α} {r : β} (h : x = some a) (k : Ev (fun n => f n a) r) : Ev (fun n => x.bind (f n)) r := Ev.congr (fun n => by rw [h]; rfl) k
theorem Ev.some' {α : Type} {a r : α} (h : a = r) : Ev (fun _ => some a) r := ⟨0, fun _ _ => by rw [h]⟩
theorem Ev.eq {α : Type} {g : Nat → Option α} {a b : α} (h : Ev g a) (e : a = b) : Ev g b := e ▸ h
end Go.Proofs.YtjaklgikfcahdaaGreatDoor.Pu
namespace Go.Proofs.YtjaklgikfcahdaaGreatDoor.Pu
open Go.RowKit Go.Proofs.YtjaklgikfcahdaaGreatDoorW.PrintWords Go.Proofs.YtjaklgikfcahdaaGreatDoorW.PrintLast Go.Proofs.YtjaklgikfcahdaaGreatDoor.PU
set_option linter.unusedVariables false
set_option linter.unusedSimpArgs false
def isBl (c : UInt8) : Bool := ([32, 9] : List UInt8).contains c
def trimL (l : List UInt8) : List UInt8 := l.dropWhile isBl
def trimR (l : List UInt8) : List UInt8 := (l.reverse.dropWhile isBl).reverse
def trim (l : List UInt8) : List UInt8 := trimL (trimR l)
theorem trim_eq (l : List UInt8) : Lib.trimS l [32, 9] = trim l := rfl
theorem trimR_cons (x : UInt8) (l : List UInt8) : trimR (x :: l) = if trimR l = [] then (if isBl x = true then [] else [x]) else x :: trimR l := by
  unfold trimR
  rw [List.reverse_cons, List.dropWhile_append]
  by_cases h : List.dropWhile isBl l.reverse = []
  · rw [h]
    simp [List.dropWhile_cons]
    by_cases hx : isBl x = true <;> simp [hx]
  · have hb : (List.dropWhile isBl l.reverse).isEmpty = false := by simpa using h
    simp [hb, h]
theorem trim_comm (l : List UInt8) : trimR (trimL l) = trimL (trimR l) := by
  induction l with
  | nil => rfl
  | cons x l ih =>
    rw [trimR_cons]
    by_cases hx : isBl x = true
    · have h1 : trimL (x :: l) = trimL l := by simp [trimL, List.dropWhile_cons, hx]
      rw [h1, ih]
      by_cases h : trimR l = []
      · rw [if_pos h, if_pos hx, h]
      · rw [if_neg h]
        simp [trimL, List.dropWhile_cons, hx]
    · have h1 : trimL (x :: l) = x :: l := by simp [trimL, List.dropWhile_cons, hx]
      rw [h1, trimR_cons]
      by_cases h : trimR l = []
      · rw [if_pos h, if_neg hx]; simp [trimL, List.dropWhile_cons, hx]
      · rw [if_neg h]; simp [trimL, List.dropWhile_cons, hx]
theorem blank_some (c : UInt8) : depotref01_blank.f (c.toNat : Int) = some (isBl c) := by
  unfold depotref01_blank.f
  by_cases h : (c.toNat : Int) = 32
  · rw [if_pos h]
    have : c = 32 := (u8_eq (by decide)).1 h
    subst this; rfl
  · rw [if_neg h]
    congr 1
    have h1 : ¬ c = 32 := fun e => h (by rw [e]; rfl)
    by_cases h2 : (c.toNat : Int) = 9
    · have : c = 9 := (u8_eq (by decide)).1 h2
      subst this; rfl
    · have h3 : ¬ c = 9 := fun e => h2 (by rw [e]; rfl)
      have : isBl c = false := by simp [isBl, h1, h3]
      rw [this]; simpa using h2
theorem trim_l1 (n : Nat) : ∀ l : List UInt8, l.length = n → n ≤ 9223372036854775807 → Ev (fun k => depotref01_Trim.l1 k (bOf l)) (bOf (trimR l)) := by
  induction n with
  | zero =>
    intro l hl _
    obtain rfl := List.length_eq_zero_iff.1 hl
    refine Ev.step (fun k => by rw [depotref01_Trim.l1]) ?_
    refine Ev.neg (by rw [bOf_size]; simp) (Ev.some' rfl)
  | succ n ih =>
    intro l hl hn
    obtain ⟨m, c, rfl⟩ : ∃ m c, l = m ++ [c] := ⟨l.dropLast, l.getLast (by intro h; simp [h] at hl), (List.dropLast_concat_getLast _).symm⟩
    have hm : m.length = n := by simpa using hl
    have hs : ((bOf (m ++ [c])).size : Int) = n + 1 := by rw [bOf_size]; simp [hm]
    have hw : wrap64 (((bOf (m ++ [c])).size : Int) - 1) = n := by rw [hs, wrap_id] <;> omega
    refine Ev.step (fun k => by rw [depotref01_Trim.l1]) ?_
    rw [hw, hs]
    refine Ev.pos (by omega) (Ev.pos (by omega) (Ev.pos (by omega) ?_))
    have hb : bt (bOf (m ++ [c])) (n : Int) = c.toNat := by
      rw [bt_bOf _ _ (by omega) (by simp [hm]; omega)]; simp [at_, ← hm]
    rw [hb]
    refine Ev.sbind (blank_some c) ?_
    have htr : trimR (m ++ [c]) = if isBl c = true then trimR m else m ++ [c] := by
      unfold trimR
      rw [List.reverse_append]
      simp [List.dropWhile_cons]
      by_cases hc : isBl c = true <;> simp [hc]
    refine Ev.ite (fun hc => ?_) (fun hc => ?_)
    · rw [htr, if_pos hc]
      refine Ev.pos (by omega) ?_
      have : (bOf (m ++ [c])).extract 0 ((n : Int)).toNat = bOf m := by rw [bOf_extract]; simp [← hm]
      rw [this]
      exact ih m hm (by omega)
    · rw [htr, if_neg hc]
      exact Ev.some' rfl
theorem trim_j1 (l : List UInt8) (h : l.length ≤ 9223372036854775807) : Ev (fun k => depotref01_Trim.j1 k (bOf l)) (bOf (trimR l)) :=
  Ev.step (fun k => by rw [depotref01_Trim.j1]) (trim_l1 _ l rfl h)
theorem trim_l0 (n : Nat) : ∀ l : List UInt8, l.length = n → n ≤ 9223372036854775807 → Ev (fun k => depotref01_Trim.l0 k (bOf l)) (bOf (trimR (trimL l))) := by
  induction n with
  | zero =>
    intro l hl hn
    obtain rfl := List.length_eq_zero_iff.1 hl
    refine Ev.step (fun k => by rw [depotref01_Trim.l0]) ?_
    exact Ev.neg (by rw [bOf_size]; simp) (trim_j1 [] (by simp))
  | succ n ih =>
    intro l hl hn
    match l, hl with
    | c :: m, hl =>
      have hm : m.length = n := by simpa using hl
      have hs : ((bOf (c :: m)).size : Int) = n + 1 := by rw [bOf_size]; simp [hm]
      refine Ev.step (fun k => by rw [depotref01_Trim.l0]) ?_
      rw [hs]
      refine Ev.pos (by omega) (Ev.pos (by omega) ?_)
      have hb : bt (bOf (c :: m)) 0 = c.toNat := by rw [bt_bOf _ _ (by omega) (by simp)]; rfl
      rw [hb]
      refine Ev.sbind (blank_some c) ?_
      refine Ev.ite (fun hc => ?_) (fun hc => ?_)
      · refine Ev.pos (by omega) ?_
        have : (bOf (c :: m)).extract 1 (bOf (c :: m)).size = bOf m := by rw [bOf_extract, bOf_size]; simp
        rw [this]
        have h1 : trimL (c :: m) = trimL m := by simp [trimL, List.dropWhile_cons, hc]
        rw [h1]
        exact ih m hm (by omega)
      · have h1 : trimL (c :: m) = c :: m := by simp [trimL, List.dropWhile_cons, hc]
        rw [h1]
        exact trim_j1 _ (by simp [hm]; omega)
theorem ref_Trim (s : ByteArray) (h : s.size ≤ 9223372036854775807) : Ev (fun k => depotref01_Trim.f k s) (bOf (trim s.data.toList)) := by
  have := trim_l0 _ s.data.toList rfl (by rw [size_data]; exact h)
  rw [bOf_data, trim_comm] at this
  exact this
end Go.Proofs.YtjaklgikfcahdaaGreatDoor.Pu
namespace Go.Proofs.YtjaklgikfcahdaaGreatDoor.Pu
open Go.RowKit Go.Proofs.YtjaklgikfcahdaaGreatDoorW.PrintWords Go.Proofs.YtjaklgikfcahdaaGreatDoorW.PrintLast Go.Proofs.YtjaklgikfcahdaaGreatDoor.PU
set_option linter.unusedVariables false
set_option linter.unusedSimpArgs false
def cutAt (c : UInt8) : List UInt8 → List UInt8 × List UInt8 × Bool
  | [] => ([], [], false)
  | x :: l => if x = c then ([], l, true) else (x :: (cutAt c l).1, (cutAt c l).2.1, (cutAt c l).2.2)
theorem cut_index (c : UInt8) : ∀ l, Lib.indexByte l c = if (cutAt c l).2.2 = true then ((cutAt c l).1.length : Int) else -1
  | [] => rfl
  | x :: l => by
    have ih := cut_index c l
    unfold Lib.indexByte cutAt
    by_cases h : x = c
    · subst h; simp
    · rw [if_neg (by simpa using h), if_neg h, ih]
      cases (cutAt c l).2.2
      · simp
      · simp only [if_true, List.length_cons]
        rw [if_neg (by simp <;> omega)]
        omega
theorem cut_yes (c : UInt8) : ∀ l, (cutAt c l).2.2 = true → l = (cutAt c l).1 ++ c :: (cutAt c l).2.1
  | [], h => by cases h
  | x :: l, h => by
    unfold cutAt at h ⊢
    by_cases e : x = c
    · subst e; simp
    · rw [if_neg e] at h
      simp only [if_neg e]
      have := cut_yes c l h
      rw [List.cons_append, ← this]
theorem cut_no (c : UInt8) : ∀ l, (cutAt c l).2.2 = false → (cutAt c l).1 = l ∧ (cutAt c l).2.1 = []
  | [], _ => ⟨rfl, rfl⟩
  | x :: l, h => by
    unfold cutAt at h ⊢
    by_cases e : x = c
    · rw [if_pos e] at h; cases h
    · rw [if_neg e] at h
      simp only [if_neg e]
      have := cut_no c l h
      exact ⟨by rw [this.1], this.2⟩
theorem cut_le (c : UInt8) (l : List UInt8) : (cutAt c l).1.length ≤ l.length ∧ (cutAt c l).2.1.length ≤ l.length := by
  cases h : (cutAt c l).2.2
  · have := cut_no c l h; rw [this.1, this.2]; simp
  · have := congrArg List.length (cut_yes c l h)
    simp at this
    omega
theorem prog_Cut (c : UInt8) (l : List UInt8) (h : l.length ≤ 4294967296) : octet_Cut.f (bOf l) (c.toNat : Int) = some (bOf (cutAt c l).1, bOf (cutAt c l).2.1, (cutAt c l).2.2) := by
  unfold octet_Cut.f strings_IndexByte.f
  rw [Option.bind_some, data_bOf, show ((c.toNat : Int)).toNat.toUInt8 = c by simp, cut_index]
  cases hh : (cutAt c l).2.2
  · have := cut_no c l hh
    simp only [Bool.false_eq_true, if_false]
    rw [if_pos (by decide), this.1, this.2]; rfl
  · have hy := cut_yes c l hh
    have hl := congrArg List.length hy
    simp at hl
    rw [if_pos rfl, if_neg (by omega), if_pos (by omega), bOf_size, if_pos (by omega), wrap_id (by omega) (by omega), if_pos (by omega), if_pos (by omega), bOf_extract, bOf_extract]
    have e1 : ((l.take ((cutAt c l).1.length : Int).toNat).drop 0) = (cutAt c l).1 := by
      rw [Int.toNat_natCast, List.drop_zero]
      conv => lhs; arg 2; rw [hy]
      exact List.take_left
    have e2 : ((l.take l.length).drop (((cutAt c l).1.length : Int) + 1).toNat) = (cutAt c l).2.1 := by
      rw [List.take_length, show (((cutAt c l).1.length : Int) + 1).toNat = (cutAt c l).1.length + 1 by omega]
      conv => lhs; arg 2; rw [hy]
      rw [List.drop_append, List.drop_eq_nil_of_le (by omega), show (cutAt c l).1.length + 1 - (cutAt c l).1.length = 1 by omega]
      rfl
    rw [e1, e2]
theorem rcut_l0 (c : UInt8) (l : List UInt8) (h : l.length ≤ 4294967296) (n : Nat) : ∀ (p s : List UInt8), s.length = n → l = p ++ s →
    Ev (fun k => depotref01_Cut.l0 k (bOf l) (c.toNat : Int) (p.length : Int)) (bOf (p ++ (cutAt c s).1), bOf (cutAt c s).2.1, (cutAt c s).2.2) := by
  induction n with
  | zero =>
    intro p s hs hl
    have : s = [] := List.eq_nil_of_length_eq_zero hs
    subst this
    rw [List.append_nil] at hl
    subst hl
    refine Ev.step (fun k => by rw [depotref01_Cut.l0]) (Ev.neg (by rw [bOf_size]; omega) (Ev.some' ?_))
    show (bOf l, bOf [], false) = (bOf (l ++ []), bOf [], false)
    rw [List.append_nil]
  | succ n ih =>
    intro p s hs hl
    obtain ⟨x, s, rfl⟩ : ∃ x t, s = x :: t := by
      cases s with
      | nil => simp at hs
      | cons x t => exact ⟨x, t, rfl⟩
    have hlen : l.length = p.length + (s.length + 1) := by rw [hl]; simp
    have hb : bt (bOf l) (p.length : Int) = (x.toNat : Int) := by
      rw [bt_bOf _ _ (by omega) (by omega), Int.toNat_natCast, at_, hl]
      simp [List.getD_eq_getElem?_getD]
    have hw : wrap64 ((p.length : Int) + 1) = (((p ++ [x]).length : Nat) : Int) := by rw [wrap_id (by omega) (by omega)]; simp
    refine Ev.step (fun k => by rw [depotref01_Cut.l0]) (Ev.pos (by rw [bOf_size]; omega) (Ev.pos (by omega) ?_))
    rw [hb, bOf_size]
    by_cases e : x = c
    · subst e
      have hc : cutAt x (x :: s) = ([], s, true) := by unfold cutAt; rw [if_pos rfl]
      rw [hc]
      refine Ev.pos rfl (Ev.pos (by omega) (Ev.pos (by rw [hw]; omega) (Ev.pos (by rw [hw]; simp; omega) (Ev.some' ?_))))
      rw [hw, bOf_extract, bOf_extract, Int.toNat_natCast, Int.toNat_natCast, List.take_length, List.append_nil, hl]
      congr 1
      · congr 1; simp
      · congr 1
        rw [show p ++ x :: s = (p ++ [x]) ++ s by simp, List.drop_left]
    · have hc : cutAt c (x :: s) = (x :: (cutAt c s).1, (cutAt c s).2.1, (cutAt c s).2.2) := by rw [cutAt, if_neg e]
      rw [hc]
      refine Ev.neg (fun h => e (by
        have : x.toNat = c.toNat := by omega
        exact UInt8.toNat_inj.1 this)) ?_
      rw [hw]
      refine Ev.eq (ih (p ++ [x]) s (by simpa using hs) (by rw [hl]; simp)) ?_
      simp
theorem ref_Cut (c : UInt8) (l : List UInt8) (h : l.length ≤ 4294967296) : Ev (fun k => depotref01_Cut.f k (bOf l) (c.toNat : Int)) (bOf (cutAt c l).1, bOf (cutAt c l).2.1, (cutAt c l).2.2) := by
  unfold depotref01_Cut.f
  exact rcut_l0 c l h _ [] l rfl rfl
def textU (b : UInt8) : Bool := Hand.textB (b.toNat : Int)
def tokU (b : UInt8) : Bool := Hand.tokenB (b.toNat : Int)
theorem allB_list (p : Int → Bool) (l : List UInt8) : Hand.allB p (bOf l) (bOf l).size = l.all fun b => p (b.toNat : Int) := by
  rw [bOf_size]
  have key : ∀ n, n ≤ l.length → Hand.allB p (bOf l) n = (l.take n).all fun b => p (b.toNat : Int) := by
    intro n
    induction n with
    | zero => intro _; simp [Hand.allB_zero]
    | succ n ih =>
      intro hn
      rw [Hand.allB_succ, ih (by omega), List.take_add_one, List.all_append, bt_bOf _ _ (by omega) (by omega), Int.toNat_natCast, at_lt _ _ (by omega), List.getElem?_eq_getElem (by omega)]
      simp
  rw [key _ (Nat.le_refl _), List.take_length]
theorem prog_IsText (l : List UInt8) (h : l.length ≤ 4294967296) : octet_IsText.f (bOf l) = some (l.all textU) := by
  unfold octet_IsText.f
  rw [if_pos (by rw [bOf_size]; omega), allB_list]; rfl
theorem prog_IsToken (l : List UInt8) (h : l.length ≤ 4294967296) : octet_IsToken.f (bOf l) = some (!l.isEmpty && l.all tokU) := by
  unfold octet_IsToken.f octet_isToken
  rw [if_pos (by rw [bOf_size]; omega)]
  cases l with
  | nil => rfl
  | cons x l => rw [if_neg (by rw [bOf_size]; simp), allB_list]; rfl
theorem text_all : ∀ c : Fin 256, depotref01_Text.f ((c : Nat) : Int) = some (Hand.textB ((c : Nat) : Int)) := by decide +kernel
theorem ref_Text (b : UInt8) : depotref01_Text.f (b.toNat : Int) = some (textU b) := text_all ⟨b.toNat, b.toNat_lt⟩
theorem tok_all : ∀ c : Fin 256, depotref01_Token.f 20 ((c : Nat) : Int) = some (Hand.tokenB ((c : Nat) : Int)) := by decide +kernel
theorem ref_Token (b : UInt8) : Ev (fun k => depotref01_Token.f k (b.toNat : Int)) (tokU b) := Ev.of (depotref01_Token.mono _) (tok_all ⟨b.toNat, b.toNat_lt⟩)
theorem bt_at_cut (p : List UInt8) (x : UInt8) (s : List UInt8) : bt (bOf (p ++ x :: s)) (p.length : Int) = (x.toNat : Int) := by
  rw [bt_bOf _ _ (by omega) (by simp; omega), Int.toNat_natCast, at_]
  simp [List.getD_eq_getElem?_getD]
theorem rtext_l0 (l : List UInt8) (h : l.length ≤ 4294967296) (n : Nat) : ∀ (p s : List UInt8), s.length = n → l = p ++ s → Ev (fun k => depotref01_IsText.l0 k (bOf l) (p.length : Int)) (s.all textU) := by
  induction n with
  | zero =>
    intro p s hs hl
    have : s = [] := List.eq_nil_of_length_eq_zero hs
    subst this
    rw [List.append_nil] at hl
    subst hl
    refine Ev.step (fun k => by rw [depotref01_IsText.l0]) (Ev.neg (by rw [bOf_size]; omega) (Ev.some' ?_))
    rfl
  | succ n ih =>
    intro p s hs hl
    obtain ⟨x, s, rfl⟩ : ∃ x t, s = x :: t := by
      cases s with
      | nil => simp at hs
      | cons x t => exact ⟨x, t, rfl⟩
    have hlen : l.length = p.length + (s.length + 1) := by rw [hl]; simp
    have hb : bt (bOf l) (p.length : Int) = (x.toNat : Int) := by rw [hl]; exact bt_at_cut p x s
    have hw : wrap64 ((p.length : Int) + 1) = (((p ++ [x]).length : Nat) : Int) := by rw [wrap_id (by omega) (by omega)]; simp
    refine Ev.step (fun k => by rw [depotref01_IsText.l0]) (Ev.pos (by rw [bOf_size]; omega) (Ev.pos (by omega) ?_))
    rw [hb]
    refine Ev.sbind (ref_Text x) ?_
    rw [List.all_cons]
    cases hx : textU x
    · exact Ev.neg (by simp) (Ev.some' rfl)
    · refine Ev.pos rfl ?_
      rw [hw]
      exact Ev.eq (ih (p ++ [x]) s (by simpa using hs) (by rw [hl]; simp)) (by simp)
theorem ref_IsText (l : List UInt8) (h : l.length ≤ 4294967296) : Ev (fun k => depotref01_IsText.f k (bOf l)) (l.all textU) := by
  unfold depotref01_IsText.f
  exact rtext_l0 l h _ [] l rfl rfl
theorem rtok_l0 (l : List UInt8) (h : l.length ≤ 4294967296) (n : Nat) : ∀ (p s : List UInt8), s.length = n → l = p ++ s → Ev (fun k => depotref01_IsToken.l0 k (bOf l) (p.length : Int)) (!l.isEmpty && s.all tokU) := by
  induction n with
  | zero =>
    intro p s hs hl
    have : s = [] := List.eq_nil_of_length_eq_zero hs
    subst this
    rw [List.append_nil] at hl
    subst hl
    refine Ev.step (fun k => by rw [depotref01_IsToken.l0]) (Ev.neg (by rw [bOf_size]; omega) (Ev.some' ?_))
    rw [bOf_size]
    cases l <;> simp
  | succ n ih =>
    intro p s hs hl
    obtain ⟨x, s, rfl⟩ : ∃ x t, s = x :: t := by
      cases s with
      | nil => simp at hs
      | cons x t => exact ⟨x, t, rfl⟩
    have hlen : l.length = p.length + (s.length + 1) := by rw [hl]; simp
    have hb : bt (bOf l) (p.length : Int) = (x.toNat : Int) := by rw [hl]; exact bt_at_cut p x s
    have hw : wrap64 ((p.length : Int) + 1) = (((p ++ [x]).length : Nat) : Int) := by rw [wrap_id (by omega) (by omega)]; simp
    refine Ev.step (fun k => by rw [depotref01_IsToken.l0]) (Ev.pos (by rw [bOf_size]; omega) (Ev.pos (by omega) ?_))
    rw [hb]
    refine Ev.bind (ref_Token x) ?_
    rw [List.all_cons]
    cases hx : tokU x
    · exact Ev.neg (by simp) (Ev.some' (by simp))
    · refine Ev.pos rfl ?_
      rw [hw]
      exact Ev.eq (ih (p ++ [x]) s (by simpa using hs) (by rw [hl]; simp)) (by simp)
theorem ref_IsToken (l : List UInt8) (h : l.length ≤ 4294967296) : Ev (fun k => depotref01_IsToken.f k (bOf l)) (!l.isEmpty && l.all tokU) := by
  unfold depotref01_IsToken.f
  exact rtok_l0 l h _ [] l rfl rfl
def isTok (l : List UInt8) : Bool := !l.isEmpty && l.all tokU
def isTxt (l : List UInt8) : Bool := l.all textU
end Go.Proofs.YtjaklgikfcahdaaGreatDoor.Pu
namespace Go.Proofs.YtjaklgikfcahdaaGreatDoor.Pu
open Go.RowKit Go.Proofs.YtjaklgikfcahdaaGreatDoorW.PrintWords Go.Proofs.YtjaklgikfcahdaaGreatDoorW.PrintLast Go.Proofs.YtjaklgikfcahdaaGreatDoor.PU
set_option linter.unusedVariables false
set_option linter.unusedSimpArgs false
theorem prog_Trim (l : List UInt8) (h : l.length ≤ 4294967296) : octet_Trim.f (bOf l) = some (bOf (trim l)) := by
  unfold octet_Trim.f
  rw [if_pos (by rw [bOf_size]; omega), data_bOf, trim_eq]; rfl
end Go.Proofs.YtjaklgikfcahdaaGreatDoor.Pu
namespace Go.Proofs.YtjaklgikfcahdaaGreatDoor.Pu
open Go.RowKit Go.Proofs.YtjaklgikfcahdaaGreatDoorW.PrintWords Go.Proofs.YtjaklgikfcahdaaGreatDoorW.PrintLast Go.Proofs.YtjaklgikfcahdaaGreatDoor.PU
set_option linter.unusedVariables false
set_option linter.unusedSimpArgs false
def hexR (c : Int) : Int × Bool := if Hand.dig0 c < 0 then (0, false) else (Hand.dig0 c, true)
theorem hex_all : ∀ c : Fin 256, depotref01_Hex.f 20 ((c : Nat) : Int) = some (hexR ((c : Nat) : Int)) := by decide +kernel
theorem ref_Hex (c : Int) (h0 : 0 ≤ c) (h1 : c ≤ 255) : Ev (fun k => depotref01_Hex.f k c) (hexR c) := by
  obtain ⟨n, rfl⟩ := Int.eq_ofNat_of_zero_le h0
  have := hex_all ⟨n, by omega⟩
  exact Ev.of (depotref01_Hex.mono _) this
theorem dig0_lo (c : Int) : -1 ≤ Hand.dig0 c ∧ Hand.dig0 c ≤ 15 := by
  unfold Hand.dig0
  repeat' split
  all_goals omega
theorem dig_neg (c base : Int) (hb : 1 ≤ base) : Hand.dig c base < 0 ↔ (Hand.dig0 c < 0 ∨ base ≤ Hand.dig0 c) := by
  have := dig0_lo c
  unfold Hand.dig
  split <;> omega
theorem dig_pos (c base : Int) (h : Hand.dig0 c < base) : Hand.dig c base = Hand.dig0 c := by
  unfold Hand.dig
  rw [if_neg (by omega)]
theorem rread_l0 (s : ByteArray) (base most : Int) (hb : 1 ≤ base) (hs : s.size ≤ 100000) (n : Nat) : ∀ (i : Nat) (acc : Int), s.size - i = n → i ≤ s.size →
    Ev (fun k => depotref02_read.l0 k s base most acc (i : Int)) (readEnd most (readGo s base n acc i)) := by
  induction n with
  | zero =>
    intro i acc hn hi
    refine Ev.step (fun k => by rw [depotref02_read.l0]) (Ev.neg (by omega) ?_)
    show Ev _ (if most < acc then (0, 3) else (acc, 0))
    exact Ev.ite (fun h => by rw [if_pos h]; exact Ev.some' rfl) (fun h => by rw [if_neg h]; exact Ev.some' rfl)
  | succ n ih =>
    intro i acc hn hi
    have hr := bt_range s i
    have hw : wrap64 ((i : Int) + 1) = ((i + 1 : Nat) : Int) := by rw [wrap_id] <;> omega
    refine Ev.step (fun k => by rw [depotref02_read.l0]) (Ev.pos (by omega) (Ev.pos (by omega) (Ev.bind (ref_Hex _ hr.1 hr.2) ?_)))
    rw [readGo, hw]
    have hd := dig_neg (bt s i) base hb
    unfold hexR
    by_cases h1 : Hand.dig0 (bt s i) < 0
    · rw [if_pos h1, if_pos (hd.2 (Or.inl h1))]
      exact Ev.neg (by simp) (Ev.some' rfl)
    · rw [if_neg h1]
      refine Ev.pos rfl ?_
      by_cases h2 : base ≤ Hand.dig0 (bt s i)
      · rw [if_pos (hd.2 (Or.inr h2))]
        exact Ev.pos h2 (Ev.some' rfl)
      · rw [if_neg (fun h => by have := hd.1 h; omega), dig_pos _ _ (by omega)]
        exact Ev.neg h2 (ih (i + 1) _ (by omega) (by omega))
theorem ref_read (s : ByteArray) (base long most : Int) (hb : 1 ≤ base) (hs : s.size ≤ 100000) : Ev (fun k => depotref02_read.f k s base long most) (readP s base long most) := by
  unfold depotref02_read.f readP
  by_cases h1 : s.size = 0
  · rw [if_pos h1]
    refine Ev.pos (by omega) (Ev.step (fun k => by rw [depotref02_read.j0]) ?_)
    exact Ev.pos rfl (Ev.some' rfl)
  · rw [if_neg h1]
    refine Ev.neg (by omega) (Ev.step (fun k => by rw [depotref02_read.j0]) ?_)
    refine Ev.ite (fun h => ?_) (fun h => ?_)
    · rw [if_pos (by simpa using h)]; exact Ev.some' rfl
    · rw [if_neg (by simpa using h)]
      exact rread_l0 s base most hb hs _ 0 0 rfl (by omega)
theorem prog_read (s : ByteArray) (base long most : Int) (hb : 1 ≤ base) (hb2 : base ≤ 16) (hs : s.size ≤ 100000) : decimal_read.f s base long most = some (readP s base long most) := by
  unfold decimal_read.f
  rw [if_pos ⟨hb, hb2, by omega⟩]
theorem prog_Number (s : ByteArray) (most : Int) (hs : s.size ≤ 100000) : decimal_Number.f s most = some (readP s 10 18 most) := by
  unfold decimal_Number.f
  rw [prog_read s 10 18 most (by decide) (by decide) hs]
  rfl
theorem ref_Number (s : ByteArray) (most : Int) (hs : s.size ≤ 100000) : Ev (fun k => depotref02_Number.f k s most) (readP s 10 18 most) := by
  unfold depotref02_Number.f
  exact Ev.bind (ref_read s 10 18 most (by decide) hs) (Ev.some' rfl)
end Go.Proofs.YtjaklgikfcahdaaGreatDoor.Pu
namespace Go.Proofs.YtjaklgikfcahdaaGreatDoor.Pu
open Go.RowKit Go.Proofs.YtjaklgikfcahdaaGreatDoorW.PrintWords Go.Proofs.YtjaklgikfcahdaaGreatDoorW.PrintLast Go.Proofs.YtjaklgikfcahdaaGreatDoor.PU
set_option linter.unusedVariables false
set_option linter.unusedSimpArgs false
end Go.Proofs.YtjaklgikfcahdaaGreatDoor.Pu
namespace Go.Proofs.YtjaklgikfcahdaaGreatDoor.Pu
open Go.RowKit Go.Proofs.YtjaklgikfcahdaaGreatDoorW.PrintWords Go.Proofs.YtjaklgikfcahdaaGreatDoorW.PrintLast Go.Proofs.YtjaklgikfcahdaaGreatDoor.PU
set_option linter.unusedVariables false
set_option linter.unusedSimpArgs false
def hexd : List UInt8 := [48, 49, 50, 51, 52, 53, 54, 55, 56, 57, 97, 98, 99, 100, 101, 102]
def dch (d : Nat) : UInt8 := hexd.getD d 0
theorem hexd_lit : (⟨#[48, 49, 50, 51, 52, 53, 54, 55, 56, 57, 97, 98, 99, 100, 101, 102]⟩ : ByteArray) = bOf hexd := rfl
def digs (b n : Nat) : List UInt8 := if h : n < b ∨ b < 2 then [dch n] else digs b (n / b) ++ [dch (n % b)]
termination_by n
decreasing_by exact Nat.div_lt_self (by omega) (by omega)
theorem digs_small {b n : Nat} (h : n < b) : digs b n = [dch n] := by rw [digs, dif_pos (Or.inl h)]
theorem digs_big {b n : Nat} (hb : 2 ≤ b) (h : ¬ n < b) : digs b n = digs b (n / b) ++ [dch (n % b)] := by rw [digs, dif_neg (by omega)]
theorem dch_ten : ∀ d : Fin 10, dch d = UInt8.ofNat (48 + d) := by decide
theorem digs_ten (n : Nat) : Lib.decDigits n = digs 10 n := by
  induction n using Nat.strongRecOn with
  | _ n ih =>
    rw [Lib.decDigits]
    by_cases h : n < 10
    · rw [dif_pos h, digs_small h, dch_ten ⟨n, h⟩]
    · rw [dif_neg h, digs_big (by decide) h, ih (n / 10) (by omega), dch_ten ⟨n % 10, by omega⟩]
theorem digs_len (b : Nat) (hb : 2 ≤ b) (m : Nat) : ∀ n : Nat, n < b ^ m → (digs b n).length ≤ max m 1 := by
  induction m with
  | zero => intro n h; rw [digs_small (by simp at h; omega)]; simp
  | succ m ih =>
    intro n h
    by_cases hn : n < b
    · rw [digs_small hn]; simp
    · rw [digs_big hb hn]
      have h2 : n / b < b ^ m := by
        rw [Nat.div_lt_iff_lt_mul (by omega)]
        rw [Nat.pow_succ] at h
        exact h
      have := ih _ h2
      have hm : m ≠ 0 := by
        intro e; subst e
        simp at h2
        omega
      simp; omega
theorem digs_pos (b n : Nat) (hb : 2 ≤ b) : 1 ≤ (digs b n).length := by
  by_cases hn : n < b
  · rw [digs_small hn]; simp
  · rw [digs_big hb hn]; simp
theorem hex_cut (d : Nat) (h : d < 16) : (bOf hexd).extract d (d + 1) = bOf [dch d] := by
  rw [bOf_extract]
  congr 1
  have : ∀ d : Fin 16, (hexd.take (d + 1)).drop d = [dch d] := by decide
  exact this ⟨d, h⟩
theorem rdigits (b : Nat) (hb : 2 ≤ b) (hb2 : b ≤ 16) (m : Nat) : ∀ (n : Nat) (acc : List UInt8), n < b ^ m → n ≤ 18446744073709551615 → acc.length + m ≤ 1000 →
    Ev (fun k => depotref02_digits.l0 k (n : Int) (b : Int) (bOf hexd) (bOf acc)) (bOf (digs b n ++ acc)) := by
  have cut : ∀ d : Nat, d < b → ∀ acc : List UInt8, acc.length ≤ 1000 → (bOf hexd).extract ((d : Int)).toNat ((IntKind.u64.wrap ((d : Int) + 1))).toNat = bOf [dch d] ∧ IntKind.u64.wrap ((d : Int) + 1) = ((d + 1 : Nat) : Int) := by
    intro d hd acc _
    have hw : IntKind.u64.wrap ((d : Int) + 1) = ((d + 1 : Nat) : Int) := by rw [IntWalk.u64_in _ (by omega)]; omega
    refine ⟨?_, hw⟩
    rw [hw, Int.toNat_natCast, Int.toNat_natCast]
    exact hex_cut d (by omega)
  have hsz : ((bOf hexd).size : Int) = 16 := rfl
  have last : ∀ (n : Nat) (acc : List UInt8), n < b → acc.length ≤ 1000 → Ev (fun k => depotref02_digits.l0 k (n : Int) (b : Int) (bOf hexd) (bOf acc)) (bOf (digs b n ++ acc)) := by
    intro n acc hn ha
    obtain ⟨e1, e2⟩ := cut n hn acc ha
    refine Ev.step (fun k => by rw [depotref02_digits.l0]) (Ev.neg (by omega) ?_)
    rw [e1, e2, hsz, bOf_append, digs_small hn]
    exact Ev.pos (by omega) (Ev.pos (by omega) (Ev.pos (by omega) (Ev.pos (by rw [bOf_size, bOf_size]; simp; omega) (Ev.some' rfl))))
  induction m with
  | zero =>
    intro n acc h hn ha
    exact last n acc (by simp at h; omega) (by omega)
  | succ m ih =>
    intro n acc h hn ha
    by_cases hlt : n < b
    · exact last n acc hlt (by omega)
    · have hmod : n % b < b := Nat.mod_lt _ (by omega)
      obtain ⟨e1, e2⟩ := cut (n % b) hmod acc (by omega)
      have t1 : Int.tmod (n : Int) (b : Int) = ((n % b : Nat) : Int) := by rw [Int.tmod_eq_emod_of_nonneg (by omega)]; rfl
      obtain ⟨q, hq⟩ : ∃ q, n / b = q := ⟨_, rfl⟩
      have hle : q ≤ n := hq ▸ Nat.div_le_self n b
      have t2 : IntKind.u64.wrap (Int.tdiv (n : Int) (b : Int)) = ((n / b : Nat) : Int) := by
        rw [Int.tdiv_eq_ediv_of_nonneg (by omega), show ((n : Int) / (b : Int)) = (q : Int) by rw [← hq]; rfl, IntWalk.u64_in _ (by omega), hq]
      refine Ev.step (fun k => by rw [depotref02_digits.l0]) (Ev.pos (by omega) (Ev.neg (by omega) ?_))
      rw [t1, t2, e1, e2, hsz, bOf_append, digs_big hb hlt, List.append_assoc]
      refine Ev.pos (by omega) (Ev.pos (by omega) (Ev.pos (by omega) (Ev.pos (by rw [bOf_size, bOf_size]; simp; omega) ?_)))
      refine ih (n / b) _ ?_ (by rw [hq]; omega) (by simp; omega)
      rw [Nat.div_lt_iff_lt_mul (by omega)]
      rw [Nat.pow_succ] at h
      exact h
theorem ref_digits (b : Nat) (hb : 2 ≤ b) (hb2 : b ≤ 16) (n : Nat) (hn : n ≤ 18446744073709551615) : Ev (fun k => depotref02_digits.f k (n : Int) (b : Int)) (bOf (digs b n)) := by
  unfold depotref02_digits.f
  rw [hexd_lit]
  have h : n < b ^ 64 := by
    have h1 : 2 ^ 64 ≤ b ^ 64 := Nat.pow_le_pow_left hb 64
    have h2 : (2 : Nat) ^ 64 = 18446744073709551616 := by decide
    omega
  have := rdigits b hb hb2 64 n [] h hn (by simp)
  rw [List.append_nil] at this
  exact this
def plain (n : Int) : List UInt8 := if n < 0 then 45 :: digs 10 n.natAbs else digs 10 n.toNat
theorem plain_eq (n : Int) : Lib.itoa n = plain n := by unfold Lib.itoa plain; rw [digs_ten, digs_ten]
theorem plain_len (n : Int) (h : -9223372036854775808 ≤ n ∧ n ≤ 9223372036854775807) : (plain n).length ≤ 21 := by
  have h20 : (10 : Nat) ^ 20 = 100000000000000000000 := by decide
  unfold plain
  split
  · have := digs_len 10 (by decide) 20 n.natAbs (by omega)
    simp; omega
  · have := digs_len 10 (by decide) 20 n.toNat (by omega)
    omega
theorem prog_Plain (n : Int) (h : -9223372036854775808 ≤ n ∧ n ≤ 9223372036854775807) : decimal_Plain.f n = some (bOf (plain n)) := by
  unfold decimal_Plain.f strconv_Itoa.f
  rw [if_pos h, plain_eq]
  rfl
theorem ref_Plain (n : Int) (h : -9223372036854775808 ≤ n ∧ n ≤ 9223372036854775807) : Ev (fun k => depotref02_Plain.f k n) (bOf (plain n)) := by
  unfold depotref02_Plain.f
  have h20 : (10 : Nat) ^ 20 = 100000000000000000000 := by decide
  refine Ev.ite (fun hn => ?_) (fun hn => ?_)
  · have e : IntKind.u64.wrap (-(IntKind.u64.wrap n)) = ((n.natAbs : Nat) : Int) := by
      have e1 : IntKind.u64.wrap n = n + 18446744073709551616 := by
        have := IntKind.wrap_u64 n
        rw [this]; omega
      rw [e1, IntKind.wrap_u64]; omega
    rw [e]
    have hp : plain n = 45 :: digs 10 n.natAbs := by unfold plain; rw [if_pos hn]
    have hl := plain_len n h
    rw [hp] at hl ⊢
    refine Ev.bind (ref_digits 10 (by decide) (by decide) _ (by omega)) (Ev.pos (by rw [bOf_size]; simp at hl; omega) (Ev.some' ?_))
    rw [show (⟨#[45]⟩ : ByteArray) = bOf [45] from rfl, bOf_append]; rfl
  · have e : IntKind.u64.wrap n = ((n.toNat : Nat) : Int) := by rw [IntWalk.u64_in _ (by omega)]; omega
    rw [e]
    have hp : plain n = digs 10 n.toNat := by unfold plain; rw [if_neg hn]
    rw [hp]
    exact Ev.bind (ref_digits 10 (by decide) (by decide) _ (by omega)) (Ev.some' rfl)
theorem dig_dch : ∀ (b : Fin 17) (d : Fin 16), (d : Nat) < b → Hand.dig ((dch d).toNat : Int) ((b : Nat) : Int) = ((d : Nat) : Int) := by decide +kernel
theorem at_mid (pre post : List UInt8) (c : UInt8) : bt (bOf (pre ++ c :: post)) (pre.length : Int) = c.toNat := by
  rw [bt_bOf _ _ (by omega) (by simp; omega), Int.toNat_natCast]
  simp [at_]
theorem read_one (b d : Nat) (hb2 : b ≤ 16) (hd : d < b) (pre post : List UInt8) (acc : Int) (h0 : 0 ≤ acc) (hm : acc * b + d ≤ 9223372036854775807) :
    readGo (bOf (pre ++ dch d :: post)) b (post.length + 1) acc pre.length = readGo (bOf (pre ++ dch d :: post)) b post.length (acc * b + d) (pre.length + 1) := by
  rw [readGo, at_mid]
  have hdg : Hand.dig ((dch d).toNat : Int) (b : Int) = (d : Int) := dig_dch ⟨b, by omega⟩ ⟨d, by omega⟩ hd
  rw [hdg, if_neg (by omega)]
  have hp : 0 ≤ acc * (b : Int) := Int.mul_nonneg h0 (by omega)
  rw [wrap_id (n := acc * (b : Int)) (by omega) (by omega), wrap_id (by omega) (by omega)]
theorem read_digs (b : Nat) (hb : 2 ≤ b) (hb2 : b ≤ 16) (n : Nat) : ∀ (pre post : List UInt8), n ≤ 9223372036854775807 →
    readGo (bOf (pre ++ (digs b n ++ post))) b ((digs b n).length + post.length) 0 pre.length = readGo (bOf (pre ++ (digs b n ++ post))) b post.length n (pre.length + (digs b n).length) := by
  induction n using Nat.strongRecOn with
  | _ n ih =>
    intro pre post hn
    by_cases h : n < b
    · rw [digs_small h]
      have := read_one b n hb2 h pre post 0 (by omega) (by omega)
      rw [show (0 : Int) * (b : Int) + (n : Int) = (n : Int) by omega] at this
      rw [show [dch n].length + post.length = post.length + 1 by simp; omega]
      exact this
    · have hlt : n / b < n := Nat.div_lt_self (by omega) (by omega)
      have hmod : n % b < b := Nat.mod_lt _ (by omega)
      have hdm : ((n / b : Nat) : Int) * (b : Int) + ((n % b : Nat) : Int) = (n : Int) := by
        have := Nat.div_add_mod n b
        rw [Nat.mul_comm] at this
        exact_mod_cast this
      rw [digs_big hb h, List.append_assoc]
      have h1 := ih (n / b) hlt pre ([dch (n % b)] ++ post) (by omega)
      rw [show (digs b (n / b) ++ [dch (n % b)]).length + post.length = (digs b (n / b)).length + ([dch (n % b)] ++ post).length by simp; omega, h1]
      have h2 := read_one b (n % b) hb2 hmod (pre ++ digs b (n / b)) post ((n / b : Nat) : Int) (Int.natCast_nonneg _) (by rw [hdm]; omega)
      rw [hdm] at h2
      rw [List.append_assoc, List.length_append] at h2
      rw [show ([dch (n % b)] ++ post).length = post.length + 1 by simp, List.length_append]
      exact h2
theorem ten_back (n : Nat) (most : Int) (hn : n < 1000000000000000000) (hm : (n : Int) ≤ most) : readP (bOf (digs 10 n)) 10 18 most = ((n : Int), 0) := by
  have hp := digs_pos 10 n (by decide)
  have h18 : (10 : Nat) ^ 18 = 1000000000000000000 := by decide
  have hl := digs_len 10 (by decide) 18 n (by omega)
  unfold readP
  rw [bOf_size, if_neg (by omega), if_neg (by omega)]
  have h2 := read_digs 10 (by decide) (by decide) n [] [] (by omega)
  simp only [List.nil_append, List.append_nil, List.length_nil, Nat.zero_add, Nat.add_zero] at h2
  have e : readGo (bOf (digs 10 n)) 10 (digs 10 n).length 0 0 = some (n : Int) := by
    refine h2.trans ?_
    rfl
  rw [e]
  show (if most < (n : Int) then ((0 : Int), (3 : Int)) else ((n : Int), 0)) = _
  rw [if_neg (by omega)]
theorem wf64 {n : Int} (h : (Lit.int .i64 n).wf = true) : -9223372036854775808 ≤ n ∧ n ≤ 9223372036854775807 := by
  have h2 : IntKind.i64.min ≤ n ∧ n ≤ IntKind.i64.max := by simpa [Lit.wf] using h
  have e1 : IntKind.i64.min = -9223372036854775808 := rfl
  have e2 : IntKind.i64.max = 9223372036854775807 := rfl
  omega
end Go.Proofs.YtjaklgikfcahdaaGreatDoor.Pu
namespace Go.Proofs.YtjaklgikfcahdaaGreatDoor.Pu
open Go.RowKit Go.Proofs.YtjaklgikfcahdaaGreatDoorW.PrintWords Go.Proofs.YtjaklgikfcahdaaGreatDoorW.PrintLast Go.Proofs.YtjaklgikfcahdaaGreatDoor.PU
set_option linter.unusedVariables false
set_option linter.unusedSimpArgs false
theorem pre_take (l p : List UInt8) (h : p.length ≤ l.length) : (l.take p.length == p) = p.isPrefixOf l := by
  have := Lib.hasPrefix_of_take l p
  unfold Lib.hasPrefix at this
  rw [← this, decide_eq_true h, Bool.true_and]
theorem prog_CutPrefix (l p : List UInt8) (h : l.length ≤ 4294967296) : strings_CutPrefix.f (bOf l) (bOf p) = some (if p.isPrefixOf l = true then (bOf (l.drop p.length), true) else (bOf l, false)) := by
  unfold strings_CutPrefix.f stringslite_CutPrefix.f stringslite_HasPrefix.f
  rw [bOf_size, bOf_size]
  by_cases hp : p.length ≤ l.length
  · rw [if_pos (by omega), if_pos (by omega), if_pos (by omega), bOf_extract, Int.toNat_natCast, List.drop_zero, toList_bOf, toList_bOf, pre_take l p hp, Option.bind_some]
    by_cases hq : p.isPrefixOf l = true
    · rw [if_pos hq, if_pos hq, if_pos (by omega), if_pos (by omega), bOf_extract, List.take_length]
      rfl
    · rw [if_neg hq, if_neg hq]
      rfl
  · have hq : ¬ p.isPrefixOf l = true := fun hq => hp (List.isPrefixOf_iff_prefix.1 hq).length_le
    rw [if_neg (by omega), Option.bind_some, if_neg (by simp), if_neg hq]
    rfl
def http : List UInt8 := [72, 84, 84, 80, 47, 49, 46]
def verL (l : List UInt8) : Int := if l = http ++ [48] then 0 else if l = http ++ [49] then 1 else -1
theorem verL_yes {l : List UInt8} (h : 0 ≤ verL l) : (l = http ++ [48] ∧ verL l = 0) ∨ (l = http ++ [49] ∧ verL l = 1) := by
  unfold verL at h ⊢
  split at h
  case isTrue c => exact Or.inl ⟨c, if_pos c⟩
  case isFalse c =>
    split at h
    case isTrue d => exact Or.inr ⟨d, by rw [if_neg c, if_pos d]⟩
    · omega
theorem prog_version (l : List UInt8) (h : l.length ≤ 4294967296) : line_version.f (bOf l) = some (if verL l < 0 then (0, false) else (verL l, true)) := by
  unfold line_version.f
  rw [show (⟨#[72, 84, 84, 80, 47, 49, 46]⟩ : ByteArray) = bOf http from rfl, prog_CutPrefix l http h, Option.bind_some]
  by_cases hp : http.isPrefixOf l = true
  · obtain ⟨t, rfl⟩ := List.isPrefixOf_iff_prefix.1 hp
    rw [if_pos hp]
    simp only [List.drop_left]
    rw [if_pos trivial, toList_bOf]
    by_cases c1 : t = [48]
    · subst c1
      rw [if_pos rfl, if_pos (by rw [bOf_size]; decide)]
      rfl
    · rw [if_neg c1]
      by_cases c2 : t = [49]
      · subst c2
        rw [if_pos rfl, if_pos (by rw [bOf_size]; decide)]
        rfl
      · rw [if_neg c2]
        have : verL (http ++ t) = -1 := by
          unfold verL
          rw [if_neg (fun e => c1 (List.append_cancel_left e)), if_neg (fun e => c2 (List.append_cancel_left e))]
        rw [this]
        rfl
  · rw [if_neg hp]
    simp only [Bool.false_eq_true, if_false]
    have : verL l = -1 := by
      unfold verL
      rw [if_neg (fun e => hp (List.isPrefixOf_iff_prefix.2 ⟨_, e.symm⟩)), if_neg (fun e => hp (List.isPrefixOf_iff_prefix.2 ⟨_, e.symm⟩))]
    rw [this]
    rfl
theorem ref_version (l : List UInt8) : depotref10_version.f (bOf l) = some (verL l) := by
  unfold depotref10_version.f
  rw [toList_bOf]
  show (if l = http ++ [48] then some 0 else if l = http ++ [49] then some 1 else some (-1)) = _
  unfold verL
  split
  · rfl
  · split <;> rfl
def splitL (c : UInt8) : List UInt8 → List (List UInt8)
  | [] => [[]]
  | x :: l => if x = c then [] :: splitL c l else match splitL c l with | [] => [[x]] | h :: t => (x :: h) :: t
theorem splitL_cut (c : UInt8) : ∀ l, splitL c l = if (cutAt c l).2.2 = true then (cutAt c l).1 :: splitL c (cutAt c l).2.1 else [l]
  | [] => rfl
  | x :: l => by
    have ih := splitL_cut c l
    rw [splitL, cutAt]
    by_cases h : x = c
    · rw [if_pos h, if_pos h]; rfl
    · rw [if_neg h, if_neg h, ih]
      cases (cutAt c l).2.2 <;> rfl
theorem splitL_ne (c : UInt8) (l : List UInt8) : 1 ≤ (splitL c l).length := by
  rw [splitL_cut]; split <;> simp
theorem index_one (c : UInt8) : ∀ l, Lib.index l [c] = if (cutAt c l).2.2 = true then ((cutAt c l).1.length : Int) else -1
  | [] => rfl
  | x :: l => by
    have ih := index_one c l
    unfold Lib.index cutAt
    by_cases h : x = c
    · subst h; simp [List.isPrefixOf]
    · rw [if_neg (by simp [List.isPrefixOf]; exact fun e => h e.symm), if_neg h, ih]
      cases (cutAt c l).2.2
      · simp
      · simp only [if_true, List.length_cons]
        rw [if_neg (by simp <;> omega)]
        omega
theorem split_all (c : UInt8) (n : Nat) : ∀ l : List UInt8, l.length = n → Lib.splitB (bOf [c]) 0 (Lib.countB (bOf l) (bOf [c])) (bOf l) = (splitL c l).map bOf := by
  induction n using Nat.strongRecOn with
  | _ n ih =>
    intro l hl
    have hi : Lib.indexB (bOf l) (bOf [c]) = if (cutAt c l).2.2 = true then ((cutAt c l).1.length : Int) else -1 := index_one c l
    rw [splitL_cut]
    cases hh : (cutAt c l).2.2
    · rw [hh] at hi
      rw [Lib.countB_miss _ _ (by simpa using hi), Lib.splitB_zero]
      rfl
    · rw [hh] at hi
      have hy := cut_yes c l hh
      have hly := congrArg List.length hy
      simp at hly
      have hi' : Lib.indexB (bOf l) (bOf [c]) = ((cutAt c l).1.length : Nat) := by simpa using hi
      rw [Lib.countB_hit _ _ _ (by rw [bOf_size]; simp) hi', Nat.add_comm 1, Lib.splitB_hit _ _ _ _ _ hi', bOf_size, bOf_size, bOf_extract, bOf_extract, List.take_length]
      have e1 : (l.take ((cutAt c l).1.length + 0)).drop 0 = (cutAt c l).1 := by
        rw [Nat.add_zero, List.drop_zero]
        conv => lhs; arg 2; rw [hy]
        exact List.take_left
      have e2 : l.drop ((cutAt c l).1.length + [c].length) = (cutAt c l).2.1 := by
        conv => lhs; arg 2; rw [hy]
        rw [List.drop_append, List.drop_eq_nil_of_le (by simp), show (cutAt c l).1.length + [c].length - (cutAt c l).1.length = 1 by simp]
        rfl
      rw [e1, e2, ih (cutAt c l).2.1.length (by omega) _ rfl, if_pos rfl]
      rfl
theorem prog_Split (c : UInt8) (l : List UInt8) (h : l.length ≤ 100000) : strings_Split.f (bOf l) (bOf [c]) = some ((splitL c l).map bOf) := by
  unfold strings_Split.f
  rw [if_pos ⟨by rw [bOf_size]; omega, by rw [bOf_size]; simp⟩, split_all c _ l rfl]
def visU (b : UInt8) : Bool := visB (b.toNat : Int)
theorem prog_visible (l : List UInt8) (h : l.length ≤ 4294967296) : line_visible.f (bOf l) = some (l.all visU && !(l == [])) := by
  unfold line_visible.f
  rw [if_pos (by rw [bOf_size]; omega), allB_list, toList_bOf]
  rfl
def ReqOk (m t r : List UInt8) : Prop := isTok m = true ∧ ¬ t = [] ∧ t.all visU = true ∧ 0 ≤ verL r
instance (m t r : List UInt8) : Decidable (ReqOk m t r) := by unfold ReqOk; exact inferInstance
def reqE (m t r : List UInt8) : List UInt8 × List UInt8 × Int × Int := if ReqOk m t r then (m, t, verL r, 0) else ([], [], 0, 20)
def reqL (l : List UInt8) : List UInt8 × List UInt8 × Int × Int :=
  if 8192 < l.length then ([], [], 0, 4) else reqE (cutAt 32 l).1 (cutAt 32 (cutAt 32 l).2.1).1 (cutAt 32 (cutAt 32 l).2.1).2.1
def reqB (q : List UInt8 × List UInt8 × Int × Int) : ByteArray × ByteArray × Int × Int := (bOf q.1, bOf q.2.1, q.2.2.1, q.2.2.2)
theorem reqE_yes {m t r : List UInt8} (h : ReqOk m t r) : reqE m t r = (m, t, verL r, 0) := if_pos h
theorem reqE_no {m t r : List UInt8} (h : ¬ ReqOk m t r) : reqE m t r = ([], [], 0, 20) := if_neg h
theorem prog_req_end (a b r : List UInt8) (hr : r.length ≤ 4294967296) (hv : visU = visU) : Ev (fun k => line_Request.j0 k [bOf a, bOf b, bOf r] (!(b.all visU && !(b == [])))) (reqB (if ¬ b = [] ∧ b.all visU = true ∧ 0 ≤ verL r then (a, b, verL r, 0) else ([], [], 0, 20))) := by
  refine Ev.step (fun k => by rw [line_Request.j0]) ?_
  by_cases c1 : ¬ b = [] ∧ b.all visU = true
  · rw [c1.2, show (b == []) = false by simpa using c1.1]
    refine Ev.neg (by decide) (Ev.pos (by simp) ?_)
    rw [show rdOf ByteArray.empty [bOf a, bOf b, bOf r] 2 = bOf r from rfl]
    refine Ev.sbind (prog_version r hr) ?_
    by_cases c2 : verL r < 0
    · rw [if_pos c2]
      refine Ev.neg (by simp) (Ev.some' ?_)
      rw [if_neg (by omega)]; rfl
    · rw [if_neg c2]
      refine Ev.pos rfl (Ev.pos (by simp) (Ev.pos (by simp) (Ev.some' ?_)))
      rw [if_pos ⟨c1.1, rfl, by omega⟩]; rfl
  · have e : (b.all visU && !(b == [])) = false := by
      cases h : b.all visU
      · rfl
      · have : b = [] := Decidable.not_not.1 (fun hn => c1 ⟨hn, h⟩)
        rw [this]; rfl
    rw [e]
    refine Ev.pos rfl (Ev.some' ?_)
    rw [if_neg (fun h => c1 ⟨h.1, h.2.1⟩)]; rfl
theorem prog_Request (l : List UInt8) (h : l.length ≤ 100000) : Ev (fun k => line_Request.f k (bOf l)) (reqB (reqL l)) := by
  unfold line_Request.f reqL
  rw [bOf_size]
  by_cases h0 : 8192 < l.length
  · rw [if_pos h0]
    exact Ev.pos (by omega) (Ev.some' rfl)
  · rw [if_neg h0]
    refine Ev.neg (by omega) ?_
    rw [show (⟨#[32]⟩ : ByteArray) = bOf [32] from rfl]
    refine Ev.sbind (prog_Split 32 l h) ?_
    have jt : ∀ xs, Ev (fun k => line_Request.j0 k xs true) (reqB ([], [], 0, 20)) := fun xs => by
      refine Ev.step (fun k => by rw [line_Request.j0]) ?_
      exact Ev.pos rfl (Ev.some' rfl)
    have hle := cut_le 32 l
    rw [splitL_cut]
    cases h1 : (cutAt 32 l).2.2
    · rw [if_neg (by simp), (cut_no 32 l h1).2]
      refine Ev.neg (by simp) (Ev.eq (jt _) ?_)
      show _ = reqB (reqE (cutAt 32 l).1 [] [])
      rw [reqE_no (fun hk => hk.2.1 rfl)]
    · rw [if_pos rfl]
      generalize (cutAt 32 l).1 = a at hle ⊢
      generalize (cutAt 32 l).2.1 = r at hle ⊢
      have hle2 := cut_le 32 r
      rw [splitL_cut]
      cases h2 : (cutAt 32 r).2.2
      · rw [if_neg (by simp), (cut_no 32 r h2).2]
        refine Ev.neg (by simp) (Ev.eq (jt _) ?_)
        rw [reqE_no (fun hk => by have := hk.2.2.2; exact absurd this (by decide))]
      · rw [if_pos rfl]
        generalize (cutAt 32 r).1 = b at hle2 ⊢
        generalize (cutAt 32 r).2.1 = t at hle2 ⊢
        rw [splitL_cut]
        cases h3 : (cutAt 32 t).2.2
        · rw [if_neg (by simp)]
          refine Ev.pos (by simp) (Ev.pos (by simp) ?_)
          rw [show rdOf ByteArray.empty (List.map bOf [a, b, t]) 0 = bOf a from rfl, show rdOf ByteArray.empty (List.map bOf [a, b, t]) 1 = bOf b from rfl]
          refine Ev.sbind (prog_IsToken a (by omega)) ?_
          by_cases c1 : isTok a = true
          · have c1' : (!a.isEmpty && a.all tokU) = true := c1
            rw [c1']
            refine Ev.pos rfl (Ev.pos (by simp) (Ev.sbind (prog_visible b (by omega)) (Ev.eq (prog_req_end a b t (by omega) rfl) ?_)))
            by_cases c2 : ¬ b = [] ∧ b.all visU = true ∧ 0 ≤ verL t
            · rw [if_pos c2, reqE_yes ⟨c1, c2⟩]
            · rw [if_neg c2, reqE_no (fun hk => c2 hk.2)]
          · have c1' : (!a.isEmpty && a.all tokU) = false := by simpa [isTok] using c1
            rw [c1']
            refine Ev.neg (by simp) (Ev.eq (jt _) ?_)
            rw [reqE_no (fun hk => c1 hk.1)]
        · rw [if_pos rfl]
          have hn := splitL_ne 32 (cutAt 32 t).2.1
          refine Ev.neg (by simp; omega) (Ev.eq (jt _) ?_)
          rw [reqE_no (fun hk => ?_)]
          rcases verL_yes hk.2.2.2 with ⟨e, _⟩ | ⟨e, _⟩
          · rw [e] at h3; exact absurd h3 (by decide)
          · rw [e] at h3; exact absurd h3 (by decide)
theorem rreq_l0 (m t : List UInt8) (v : Int) (ht : t.length ≤ 100000) (n : Nat) : ∀ (p s : List UInt8), s.length = n → t = p ++ s → p.all visU = true →
    Ev (fun k => depotref10_Request.l0 k (bOf m) (bOf t) v (p.length : Int)) (reqB (if s.all visU = true then (m, t, v, 0) else ([], [], 0, 20))) := by
  induction n with
  | zero =>
    intro p s hs hl hp
    have : s = [] := List.eq_nil_of_length_eq_zero hs
    subst this
    rw [List.append_nil] at hl
    subst hl
    refine Ev.step (fun k => by rw [depotref10_Request.l0]) ?_
    exact Ev.neg (by rw [bOf_size]; omega) (Ev.some' rfl)
  | succ n ih =>
    intro p s hs hl hp
    obtain ⟨x, s, rfl⟩ : ∃ x t, s = x :: t := by
      cases s with
      | nil => simp at hs
      | cons x t => exact ⟨x, t, rfl⟩
    have hlen : t.length = p.length + (s.length + 1) := by rw [hl]; simp
    have hb : bt (bOf t) (p.length : Int) = (x.toNat : Int) := by rw [hl]; exact bt_at_cut p x s
    have hw : wrap64 ((p.length : Int) + 1) = (((p ++ [x]).length : Nat) : Int) := by rw [wrap_id (by omega) (by omega)]; simp
    refine Ev.step (fun k => by rw [depotref10_Request.l0]) (Ev.pos (by rw [bOf_size]; omega) (Ev.pos (by omega) ?_))
    rw [hb, hw, List.all_cons]
    by_cases c1 : (x.toNat : Int) < 33
    · have : visU x = false := by unfold visU visB; rw [decide_eq_false (by omega)]; rfl
      rw [this]
      exact Ev.pos c1 (Ev.some' rfl)
    · refine Ev.neg c1 ?_
      by_cases c2 : (x.toNat : Int) > 126
      · have : visU x = false := by unfold visU visB; rw [decide_eq_false (p := (x.toNat : Int) ≤ 126) (by omega), Bool.and_false]
        rw [this]
        exact Ev.pos c2 (Ev.some' rfl)
      · have : visU x = true := by unfold visU visB; rw [decide_eq_true (by omega), decide_eq_true (by omega)]; rfl
        rw [this, Bool.true_and]
        exact Ev.neg c2 (ih (p ++ [x]) s (by simpa using hs) (by rw [hl]; simp) (by rw [List.all_append, hp]; simp [this]))
theorem ref_Request (l : List UInt8) (h : l.length ≤ 100000) : Ev (fun k => depotref10_Request.f k (bOf l)) (reqB (reqL l)) := by
  unfold depotref10_Request.f reqL
  rw [bOf_size]
  by_cases h0 : 8192 < l.length
  · rw [if_pos h0]
    exact Ev.pos (by omega) (Ev.some' rfl)
  · rw [if_neg h0]
    have hle := cut_le 32 l
    have hle2 := cut_le 32 (cutAt 32 l).2.1
    refine Ev.neg (by omega) (Ev.bind (ref_Cut 32 l (by omega)) (Ev.bind (ref_Cut 32 (cutAt 32 l).2.1 (by omega)) ?_))
    simp only
    generalize (cutAt 32 l).1 = a at hle ⊢
    generalize (cutAt 32 (cutAt 32 l).2.1).1 = b at hle2 ⊢
    generalize (cutAt 32 (cutAt 32 l).2.1).2.1 = t at hle2 ⊢
    have jt : Ev (fun k => depotref10_Request.j0 k (bOf a) (bOf b) (verL t) true) (reqB ([], [], 0, 20)) := by
      refine Ev.step (fun k => by rw [depotref10_Request.j0]) ?_
      exact Ev.pos rfl (Ev.some' rfl)
    refine Ev.sbind (ref_version t) (Ev.bind (ref_IsToken a (by omega)) ?_)
    by_cases c1 : isTok a = true
    · have c1' : (!a.isEmpty && a.all tokU) = true := c1
      rw [c1']
      refine Ev.pos rfl ?_
      rw [toList_bOf]
      by_cases c2 : b = []
      · refine Ev.pos c2 (Ev.eq jt ?_)
        rw [reqE_no (fun hk => hk.2.1 c2)]
      · refine Ev.neg c2 ?_
        by_cases c3 : verL t < 0
        · rw [decide_eq_true c3]
          refine Ev.eq jt ?_
          rw [reqE_no (fun hk => by have := hk.2.2.2; omega)]
        · rw [decide_eq_false c3]
          refine Ev.step (fun k => by rw [depotref10_Request.j0]) ?_
          refine Ev.neg (by simp) (Ev.eq (rreq_l0 a b (verL t) (by omega) _ [] b rfl rfl rfl) ?_)
          by_cases c4 : b.all visU = true
          · rw [if_pos c4, reqE_yes ⟨c1, c2, c4, by omega⟩]
          · rw [if_neg c4, reqE_no (fun hk => c4 hk.2.2.1)]
    · have c1' : (!a.isEmpty && a.all tokU) = false := by simpa [isTok] using c1
      rw [c1']
      refine Ev.neg (by simp) (Ev.eq jt ?_)
      rw [reqE_no (fun hk => c1 hk.1)]
end Go.Proofs.YtjaklgikfcahdaaGreatDoor.Pu
namespace Go.Proofs.YtjaklgikfcahdaaGreatDoor.Pu
open Go.RowKit Go.Proofs.YtjaklgikfcahdaaGreatDoorW.PrintWords Go.Proofs.YtjaklgikfcahdaaGreatDoorW.PrintLast Go.Proofs.YtjaklgikfcahdaaGreatDoor.PU
set_option linter.unusedVariables false
set_option linter.unusedSimpArgs false
theorem cut_at (c : UInt8) : ∀ (a b : List UInt8), (∀ x ∈ a, x ≠ c) → cutAt c (a ++ c :: b) = (a, b, true)
  | [], b, _ => by rw [List.nil_append, cutAt, if_pos rfl]
  | x :: a, b, h => by
    have ih := cut_at c a b (fun y hy => h y (List.mem_cons_of_mem _ hy))
    rw [List.cons_append, cutAt, if_neg (h x List.mem_cons_self), ih]
theorem cut_first (c : UInt8) : ∀ (l : List UInt8), ∀ x ∈ (cutAt c l).1, x ≠ c
  | [], x, h => by simp [cutAt] at h
  | y :: l, x, h => by
    rw [cutAt] at h
    by_cases e : y = c
    · rw [if_pos e] at h; simp at h
    · rw [if_neg e] at h
      rcases List.mem_cons.1 h with rfl | h
      · exact e
      · exact cut_first c l x h
def dg (x : UInt8) : Int := Hand.dig (x.toNat : Int) 10
theorem dg_all : ∀ x : Fin 256, Hand.dig ((x : Nat) : Int) 10 ≤ 9 ∧ -1 ≤ Hand.dig ((x : Nat) : Int) 10 ∧ (0 ≤ Hand.dig ((x : Nat) : Int) 10 → dch (Hand.dig ((x : Nat) : Int) 10).toNat = UInt8.ofNat x ∧ (x : Nat) ≠ 32) := by decide +kernel
theorem dg_range (x : UInt8) : dg x ≤ 9 ∧ -1 ≤ dg x := ⟨(dg_all ⟨x.toNat, x.toNat_lt⟩).1, (dg_all ⟨x.toNat, x.toNat_lt⟩).2.1⟩
theorem dg_32 (x : UInt8) (h : 0 ≤ dg x) : x ≠ 32 := by
  have := ((dg_all ⟨x.toNat, x.toNat_lt⟩).2.2 h).2
  rintro rfl
  exact this rfl
def num3 (a b c : UInt8) : Int × Int := if dg a < 0 ∨ dg b < 0 ∨ dg c < 0 then (0, 5) else if 599 < (dg a * 10 + dg b) * 10 + dg c then (0, 3) else ((dg a * 10 + dg b) * 10 + dg c, 0)
theorem read3 (a b c : UInt8) : readP (bOf [a, b, c]) 10 18 599 = num3 a b c := by
  have ha := dg_range a
  have hb := dg_range b
  have hc := dg_range c
  unfold readP
  rw [bOf_size, show [a, b, c].length = 3 from rfl, if_neg (by decide), if_neg (by decide)]
  have b0 : bt (bOf [a, b, c]) ((0 : Nat) : Int) = (a.toNat : Int) := rfl
  have b1 : bt (bOf [a, b, c]) ((1 : Nat) : Int) = (b.toNat : Int) := rfl
  have b2 : bt (bOf [a, b, c]) ((2 : Nat) : Int) = (c.toNat : Int) := rfl
  have g : ∀ (k : Nat) (acc : Int) (i : Nat), readGo (bOf [a, b, c]) 10 (k + 1) acc i = if Hand.dig (bt (bOf [a, b, c]) i) 10 < 0 then none else readGo (bOf [a, b, c]) 10 k (wrap64 (wrap64 (acc * 10) + Hand.dig (bt (bOf [a, b, c]) i) 10)) (i + 1) := fun k acc i => rfl
  rw [g 2 0 0, b0]
  change readEnd 599 (if dg a < 0 then none else readGo (bOf [a, b, c]) 10 2 (wrap64 (wrap64 (0 * 10) + dg a)) 1) = _
  by_cases c1 : dg a < 0
  · rw [if_pos c1, num3, if_pos (Or.inl c1)]; rfl
  · rw [if_neg c1, g 1 _ 1, b1]
    change readEnd 599 (if dg b < 0 then none else readGo (bOf [a, b, c]) 10 1 (wrap64 (wrap64 (wrap64 (wrap64 (0 * 10) + dg a) * 10) + dg b)) 2) = _
    by_cases c2 : dg b < 0
    · rw [if_pos c2, num3, if_pos (Or.inr (Or.inl c2))]; rfl
    · rw [if_neg c2, g 0 _ 2, b2]
      change readEnd 599 (if dg c < 0 then none else some (wrap64 (wrap64 (wrap64 (wrap64 (wrap64 (wrap64 (0 * 10) + dg a) * 10) + dg b) * 10) + dg c))) = _
      by_cases c3 : dg c < 0
      · rw [if_pos c3, num3, if_pos (Or.inr (Or.inr c3))]; rfl
      · rw [if_neg c3, wrap_id (n := 0 * 10) (by omega) (by omega), wrap_id (n := 0 * 10 + dg a) (by omega) (by omega), wrap_id (n := (0 * 10 + dg a) * 10) (by omega) (by omega), wrap_id (n := (0 * 10 + dg a) * 10 + dg b) (by omega) (by omega), wrap_id (n := ((0 * 10 + dg a) * 10 + dg b) * 10) (by omega) (by omega), wrap_id (by omega) (by omega)]
        rw [num3, if_neg (by omega)]
        show (if (599 : Int) < ((0 * 10 + dg a) * 10 + dg b) * 10 + dg c then ((0 : Int), (3 : Int)) else (((0 * 10 + dg a) * 10 + dg b) * 10 + dg c, 0)) = _
        rw [show ((0 * 10 + dg a) * 10 + dg b) * 10 + dg c = (dg a * 10 + dg b) * 10 + dg c by omega]
theorem num3_yes {a b c : UInt8} (h : (num3 a b c).2 = 0) : 0 ≤ dg a ∧ 0 ≤ dg b ∧ 0 ≤ dg c ∧ (num3 a b c).1 = (dg a * 10 + dg b) * 10 + dg c ∧ (num3 a b c).1 ≤ 599 := by
  unfold num3 at h ⊢
  split at h
  · simp at h
  case isFalse c1 =>
    rw [if_neg c1]
    split at h
    · simp at h
    case isFalse c2 =>
      rw [if_neg c2]
      exact ⟨by omega, by omega, by omega, rfl, by show (dg a * 10 + dg b) * 10 + dg c ≤ 599; omega⟩
def StaOk (V C R : List UInt8) (has : Bool) : Prop := 0 ≤ verL V ∧ has = true ∧ (readP (bOf C) 10 18 599).2 = 0 ∧ 100 ≤ (readP (bOf C) 10 18 599).1 ∧ C.length = 3 ∧ isTxt R = true
instance (V C R : List UInt8) (has : Bool) : Decidable (StaOk V C R has) := by unfold StaOk; exact inferInstance
def staE (V C R : List UInt8) (has : Bool) : Int × List UInt8 × Int × Int := if StaOk V C R has then ((readP (bOf C) 10 18 599).1, R, verL V, 0) else (0, [], 0, 20)
theorem staE_yes {V C R : List UInt8} {has : Bool} (h : StaOk V C R has) : staE V C R has = ((readP (bOf C) 10 18 599).1, R, verL V, 0) := if_pos h
theorem staE_no {V C R : List UInt8} {has : Bool} (h : ¬ StaOk V C R has) : staE V C R has = (0, [], 0, 20) := if_neg h
def staL (l : List UInt8) : Int × List UInt8 × Int × Int :=
  if 8192 < l.length then (0, [], 0, 4) else staE (cutAt 32 l).1 (cutAt 32 (cutAt 32 l).2.1).1 (cutAt 32 (cutAt 32 l).2.1).2.1 (cutAt 32 (cutAt 32 l).2.1).2.2
def staB (q : Int × List UInt8 × Int × Int) : Int × ByteArray × Int × Int := (q.1, bOf q.2.1, q.2.2.1, q.2.2.2)
theorem prog_Status (l : List UInt8) (h : l.length ≤ 100000) : line_Status.f (bOf l) = some (staB (staL l)) := by
  unfold line_Status.f staL
  rw [bOf_size]
  by_cases h0 : 8192 < l.length
  · rw [if_pos h0, if_pos (by omega)]; rfl
  · rw [if_neg h0, if_neg (by omega), if_pos (by decide), show bt (⟨#[32]⟩ : ByteArray) 0 = (((32 : UInt8).toNat : Nat) : Int) from rfl]
    have hle := cut_le 32 l
    have hle2 := cut_le 32 (cutAt 32 l).2.1
    rw [prog_Cut 32 l (by omega), Option.bind_some]
    simp only
    rw [prog_Cut 32 (cutAt 32 l).2.1 (by omega), Option.bind_some]
    simp only
    generalize (cutAt 32 l).1 = V at hle ⊢
    generalize (cutAt 32 (cutAt 32 l).2.1).1 = C at hle2 ⊢
    generalize (cutAt 32 (cutAt 32 l).2.1).2.2 = has at hle2 ⊢
    generalize (cutAt 32 (cutAt 32 l).2.1).2.1 = R at hle2 ⊢
    rw [prog_version V (by omega), Option.bind_some, prog_Number _ _ (by rw [bOf_size]; omega), Option.bind_some]
    by_cases c1 : verL V < 0
    · rw [if_pos c1, staE_no (fun hk => by have := hk.1; omega)]
      rfl
    · rw [if_neg c1]
      simp only
      rw [if_pos trivial]
      cases has
      · rw [if_neg (by simp), staE_no (fun hk => by have := hk.2.1; simp at this)]
        rfl
      · rw [if_pos rfl]
        by_cases c2 : (readP (bOf C) 10 18 599).2 = 0
        · rw [if_pos c2]
          by_cases c3 : (readP (bOf C) 10 18 599).1 < 100
          · rw [if_pos c3, staE_no (fun hk => by have := hk.2.2.2.1; omega)]
            rfl
          · rw [if_neg c3, bOf_size]
            by_cases c4 : C.length = 3
            · rw [if_pos (by omega), prog_IsText R (by omega), Option.bind_some]
              by_cases c5 : isTxt R = true
              · have c5' : R.all textU = true := c5
                rw [if_pos c5', staE_yes ⟨by omega, rfl, c2, by omega, c4, c5⟩]
                rfl
              · have c5' : ¬ R.all textU = true := c5
                rw [if_neg c5', staE_no (fun hk => c5 hk.2.2.2.2.2)]
                rfl
            · rw [if_neg (by omega), staE_no (fun hk => c4 hk.2.2.2.2.1)]
              rfl
        · rw [if_neg c2, staE_no (fun hk => c2 hk.2.2.1)]
          rfl
theorem ver_facts {V : List UInt8} (h : 0 ≤ verL V) : V.length = 8 ∧ (∀ x ∈ V, x ≠ 32) ∧ V = http ++ digs 10 (verL V).toNat ∧ verL V ≤ 1 := by
  rcases verL_yes h with ⟨rfl, e⟩ | ⟨rfl, e⟩
  · rw [e]; exact ⟨rfl, by decide, by rw [show (0 : Int).toNat = 0 from rfl, digs_small (by decide)]; rfl, by decide⟩
  · rw [e]; exact ⟨rfl, by decide, by rw [show (1 : Int).toNat = 1 from rfl, digs_small (by decide)]; rfl, by decide⟩
theorem sta_shape (l : List UInt8) (hk : StaOk (cutAt 32 l).1 (cutAt 32 (cutAt 32 l).2.1).1 (cutAt 32 (cutAt 32 l).2.1).2.1 (cutAt 32 (cutAt 32 l).2.1).2.2) :
    l = (cutAt 32 l).1 ++ 32 :: ((cutAt 32 (cutAt 32 l).2.1).1 ++ 32 :: (cutAt 32 (cutAt 32 l).2.1).2.1) := by
  have h2 := hk.2.1
  cases h1 : (cutAt 32 l).2.2
  · rw [(cut_no 32 l h1).2] at h2
    simp [cutAt] at h2
  · rw [← cut_yes 32 _ h2]
    exact cut_yes 32 l h1
theorem sta_of (V C R : List UInt8) (hV : 0 ≤ verL V) (hC : ∀ x ∈ C, x ≠ 32) (hl : (V ++ 32 :: (C ++ 32 :: R)).length ≤ 8192) : staL (V ++ 32 :: (C ++ 32 :: R)) = staE V C R true := by
  obtain ⟨_, hv, _, _⟩ := ver_facts hV
  unfold staL
  rw [if_neg (by omega), cut_at 32 V _ hv]
  simp only
  rw [cut_at 32 C R hC]
theorem read_no32 {C : List UInt8} (hl : C.length = 3) (h : (readP (bOf C) 10 18 599).2 = 0) : ∀ x ∈ C, x ≠ 32 := by
  match C, hl with
  | [a, b, c], _ =>
    rw [read3] at h
    obtain ⟨ha, hb, hc, _⟩ := num3_yes h
    intro x hx
    simp at hx
    rcases hx with rfl | rfl | rfl
    · exact dg_32 _ ha
    · exact dg_32 _ hb
    · exact dg_32 _ hc
theorem sta_places (V : List UInt8) (x : UInt8) (C : List UInt8) (y : UInt8) (R : List UInt8) (hV : V.length = 8) (hC : C.length = 3) (hl : (V ++ x :: (C ++ y :: R)).length ≤ 8192) :
    staL (V ++ x :: (C ++ y :: R)) = if 0 ≤ verL V ∧ x = 32 ∧ y = 32 ∧ (readP (bOf C) 10 18 599).2 = 0 ∧ 100 ≤ (readP (bOf C) 10 18 599).1 ∧ isTxt R = true then ((readP (bOf C) 10 18 599).1, R, verL V, 0) else (0, [], 0, 20) := by
  by_cases q : 0 ≤ verL V ∧ x = 32 ∧ y = 32 ∧ (readP (bOf C) 10 18 599).2 = 0 ∧ 100 ≤ (readP (bOf C) 10 18 599).1 ∧ isTxt R = true
  · obtain ⟨q1, rfl, rfl, q4, q5, q6⟩ := q
    rw [if_pos ⟨q1, rfl, rfl, q4, q5, q6⟩, sta_of V C R q1 (read_no32 hC q4) hl, staE_yes ⟨q1, rfl, q4, q5, hC, q6⟩]
  · rw [if_neg q]
    unfold staL
    rw [if_neg (by omega), staE_no]
    intro hk
    have hs := sta_shape _ hk
    obtain ⟨v8, _, _, _⟩ := ver_facts hk.1
    have hc3 := hk.2.2.2.2.1
    obtain ⟨e1, e2⟩ := List.append_inj hs (by omega)
    obtain ⟨rfl, e3⟩ := List.cons.inj e2
    obtain ⟨e4, e5⟩ := List.append_inj e3 (by omega)
    obtain ⟨rfl, e6⟩ := List.cons.inj e5
    rw [← e1, ← e4, ← e6] at hk
    exact q ⟨hk.1, rfl, rfl, hk.2.2.1, hk.2.2.2.1, hk.2.2.2.2.2⟩
theorem by_places (l : List UInt8) (h : 13 ≤ l.length) : ∃ V x C y R, l = V ++ x :: (C ++ y :: R) ∧ V.length = 8 ∧ C.length = 3 := by
  have e1 := List.take_append_drop 8 l
  have l1 : (l.drop 8).length = l.length - 8 := by simp
  cases h1 : l.drop 8 with
  | nil => rw [h1] at l1; simp at l1; omega
  | cons x t =>
    rw [h1] at e1 l1
    have e2 := List.take_append_drop 3 t
    have l2 : (t.drop 3).length = t.length - 3 := by simp
    simp at l1
    cases h2 : t.drop 3 with
    | nil => rw [h2] at l2; simp at l2; omega
    | cons y R =>
      rw [h2] at e2
      exact ⟨l.take 8, x, t.take 3, y, R, by rw [e2, e1], by simp; omega, by simp; omega⟩
theorem ref_sta_short (l : List UInt8) (h : l.length < 13) : staL l = (0, [], 0, 20) := by
  unfold staL
  rw [if_neg (by omega), staE_no]
  intro hk
  have hs := congrArg List.length (sta_shape _ hk)
  obtain ⟨v8, _, _, _⟩ := ver_facts hk.1
  have hc3 := hk.2.2.2.2.1
  simp at hs
  omega
theorem ref_Status (l : List UInt8) (h : l.length ≤ 100000) : Ev (fun k => depotref10_Status.f k (bOf l)) (staB (staL l)) := by
  unfold depotref10_Status.f
  rw [bOf_size]
  have jt : Ev (fun k => depotref10_Status.j0 k (bOf l) true) (staB (0, [], 0, 20)) := by
    refine Ev.step (fun k => by rw [depotref10_Status.j0]) ?_
    exact Ev.pos rfl (Ev.some' rfl)
  by_cases h0 : 8192 < l.length
  · refine Ev.pos (by omega) (Ev.some' ?_)
    unfold staL
    rw [if_pos h0]; rfl
  · refine Ev.neg (by omega) ?_
    by_cases h1 : l.length < 13
    · rw [ref_sta_short l h1]
      exact Ev.pos (by omega) jt
    · obtain ⟨V, x, C, y, R, rfl, hV, hC⟩ := by_places l (by omega)
      have hsp := sta_places V x C y R hV hC (by omega)
      generalize staL (V ++ x :: (C ++ y :: R)) = z at hsp ⊢
      have hno := fun hk => hsp.trans (if_neg hk)
      have hyes := fun hk => hsp.trans (if_pos hk)
      clear hsp
      have hlen : (V ++ x :: (C ++ y :: R)).length = 13 + R.length := by simp [hV, hC]; omega
      have x0 : (bOf (V ++ x :: (C ++ y :: R))).extract 0 8 = bOf V := by
        rw [bOf_extract, List.drop_zero, ← hV, List.take_left]
      have x1 : bt (bOf (V ++ x :: (C ++ y :: R))) 8 = (x.toNat : Int) := by
        have := bt_at_cut V x (C ++ y :: R)
        rwa [hV] at this
      have a2 : V ++ x :: (C ++ y :: R) = (V ++ x :: C) ++ y :: R := by simp
      have l2 : (V ++ x :: C).length = 12 := by simp [hV, hC]
      have x2 : bt (bOf (V ++ x :: (C ++ y :: R))) 12 = (y.toNat : Int) := by
        rw [a2]
        have := bt_at_cut (V ++ x :: C) y R
        rwa [l2] at this
      have x3 : (bOf (V ++ x :: (C ++ y :: R))).extract 9 12 = bOf C := by
        rw [bOf_extract, a2, ← l2, List.take_left, show V ++ x :: C = (V ++ [x]) ++ C by simp, show 9 = (V ++ [x]).length by simp [hV], List.drop_left]
      have x4 : (bOf (V ++ x :: (C ++ y :: R))).extract 13 (V ++ x :: (C ++ y :: R)).length = bOf R := by
        rw [bOf_extract, List.take_length, show V ++ x :: (C ++ y :: R) = (V ++ x :: C ++ [y]) ++ R by simp, show 13 = (V ++ x :: C ++ [y]).length by simp [hV, hC], List.drop_left]
      refine Ev.neg (by omega) (Ev.pos (by decide) (Ev.pos (by omega) ?_))
      rw [x0]
      refine Ev.sbind (ref_version V) ?_
      by_cases c1 : verL V < 0
      · rw [hno (fun hk => by have := hk.1; omega)]
        exact Ev.pos c1 jt
      · refine Ev.neg c1 (Ev.pos (by omega) ?_)
        rw [x1]
        by_cases c2 : x = 32
        · subst c2
          refine Ev.pos rfl (Ev.pos (by omega) ?_)
          rw [x2]
          by_cases c3 : y = 32
          · subst c3
            rw [show ((((32 : UInt8).toNat : Nat) : Int) != 32) = false from rfl]
            refine Ev.step (fun k => by rw [depotref10_Status.j0]) ?_
            refine Ev.neg (by simp) (Ev.pos (by decide) (Ev.pos (by rw [bOf_size]; omega) ?_))
            rw [bOf_size, x3]
            refine Ev.bind (ref_Number _ _ (by rw [bOf_size]; omega)) ?_
            by_cases c4 : (readP (bOf C) 10 18 599).2 = 0
            · refine Ev.pos c4 ?_
              by_cases c5 : (readP (bOf C) 10 18 599).1 < 100
              · rw [hno (fun hk => by have := hk.2.2.2.2.1; omega)]
                exact Ev.pos c5 (Ev.some' rfl)
              · refine Ev.neg c5 (Ev.pos (by omega) ?_)
                rw [x4]
                refine Ev.bind (ref_IsText R (by simp at h; omega)) ?_
                by_cases c6 : isTxt R = true
                · have c6' : R.all textU = true := c6
                  rw [c6', hyes ⟨by omega, rfl, rfl, c4, by omega, c6⟩]
                  refine Ev.pos rfl (Ev.pos (by decide) (Ev.pos (by omega) ?_))
                  rw [x0]
                  exact Ev.sbind (ref_version V) (Ev.some' rfl)
                · have c6' : R.all textU = false := by simpa [isTxt] using c6
                  rw [c6', hno (fun hk => c6 hk.2.2.2.2.2)]
                  exact Ev.neg (by simp) (Ev.some' rfl)
            · rw [hno (fun hk => c4 hk.2.2.2.1)]
              exact Ev.neg c4 (Ev.some' rfl)
          · rw [hno (fun hk => c3 hk.2.2.1)]
            have : ((y.toNat : Int) != 32) = true := by
              have h3 : ¬ (y.toNat : Int) = 32 := fun e => c3 ((u8_eq (by decide)).1 e)
              simpa using h3
            rw [this]
            exact jt
        · rw [hno (fun hk => c2 hk.2.1)]
          refine Ev.neg (fun e => c2 ((u8_eq (by decide)).1 e)) jt
theorem words3 (a b c : List UInt8) (ha : a.length ≤ 100000) (hb : b.length ≤ 100000) (hc : c.length ≤ 100000) : line_words.f [bOf a, bOf b, bOf c] = some (bOf (a ++ 32 :: (b ++ 32 :: c))) := by
  unfold line_words.f strings_Join.f
  have e : Lib.join (List.map (fun x : ByteArray => x.data.toList) [bOf a, bOf b, bOf c]) (⟨#[32]⟩ : ByteArray).data.toList = a ++ 32 :: (b ++ 32 :: c) := by
    simp [Lib.join, List.intercalate, List.intersperse, data_bOf]
  rw [e, if_pos ⟨by simp, by simp; omega⟩]
  rfl
def reqW (m t : List UInt8) (v : Int) : List UInt8 := m ++ 32 :: (t ++ 32 :: (http ++ plain v))
def staW (c : Int) (r : List UInt8) (v : Int) : List UInt8 := (http ++ plain v) ++ 32 :: (plain c ++ 32 :: r)
theorem http_lit : (⟨#[72, 84, 84, 80, 47, 49, 46]⟩ : ByteArray) = bOf http := rfl
theorem prog_PrintRequest (m t : List UInt8) (v : Int) (hm : m.length ≤ 100000) (ht : t.length ≤ 100000) (h : -9223372036854775808 ≤ v ∧ v ≤ 9223372036854775807) : line_PrintRequest.f (bOf m) (bOf t) v = some (bOf (reqW m t v)) := by
  have hp := plain_len v h
  unfold line_PrintRequest.f
  rw [prog_Plain v h, Option.bind_some, if_pos (by rw [bOf_size]; omega), http_lit, bOf_append, words3 m t _ hm ht (by simp [http]; omega)]
  rfl
theorem prog_PrintStatus (c : Int) (r : List UInt8) (v : Int) (hr : r.length ≤ 100000) (hc : -9223372036854775808 ≤ c ∧ c ≤ 9223372036854775807) (h : -9223372036854775808 ≤ v ∧ v ≤ 9223372036854775807) : line_PrintStatus.f c (bOf r) v = some (bOf (staW c r v)) := by
  have hp := plain_len v h
  have hq := plain_len c hc
  unfold line_PrintStatus.f
  rw [prog_Plain v h, Option.bind_some, if_pos (by rw [bOf_size]; omega), prog_Plain c hc, Option.bind_some, http_lit, bOf_append, words3 _ _ _ (by simp [http]; omega) (by omega) hr]
  rfl
end Go.Proofs.YtjaklgikfcahdaaGreatDoor.Pu
namespace Go.Proofs.YtjaklgikfcahdaaGreatDoor.Pu
open Go.RowKit Go.Proofs.YtjaklgikfcahdaaGreatDoorW.PrintWords Go.Proofs.YtjaklgikfcahdaaGreatDoorW.PrintLast Go.Proofs.YtjaklgikfcahdaaGreatDoor.PU
set_option linter.unusedVariables false
set_option linter.unusedSimpArgs false
theorem req_cases (l : List UInt8) : (reqL l).2.2.2 = 0 ∧ ReqOk (cutAt 32 l).1 (cutAt 32 (cutAt 32 l).2.1).1 (cutAt 32 (cutAt 32 l).2.1).2.1 ∧ reqL l = ((cutAt 32 l).1, (cutAt 32 (cutAt 32 l).2.1).1, verL (cutAt 32 (cutAt 32 l).2.1).2.1, 0) ∨ ¬ (reqL l).2.2.2 = 0 := by
  unfold reqL
  by_cases h0 : 8192 < l.length
  · rw [if_pos h0]; exact Or.inr (by decide)
  · rw [if_neg h0]
    by_cases c : ReqOk (cutAt 32 l).1 (cutAt 32 (cutAt 32 l).2.1).1 (cutAt 32 (cutAt 32 l).2.1).2.1
    · rw [reqE_yes c]; exact Or.inl ⟨rfl, c, rfl⟩
    · rw [reqE_no c]; exact Or.inr (by decide)
theorem req_shape (l : List UInt8) (hk : ReqOk (cutAt 32 l).1 (cutAt 32 (cutAt 32 l).2.1).1 (cutAt 32 (cutAt 32 l).2.1).2.1) :
    l = (cutAt 32 l).1 ++ 32 :: ((cutAt 32 (cutAt 32 l).2.1).1 ++ 32 :: (cutAt 32 (cutAt 32 l).2.1).2.1) := by
  cases h2 : (cutAt 32 (cutAt 32 l).2.1).2.2
  · have h3 := hk.2.2.2
    rw [(cut_no 32 _ h2).2] at h3
    exact absurd h3 (by decide)
  · cases h1 : (cutAt 32 l).2.2
    · rw [(cut_no 32 l h1).2] at h2
      simp [cutAt] at h2
    · rw [← cut_yes 32 _ h2]
      exact cut_yes 32 l h1
theorem sta_cases (l : List UInt8) : (staL l).2.2.2 = 0 ∧ StaOk (cutAt 32 l).1 (cutAt 32 (cutAt 32 l).2.1).1 (cutAt 32 (cutAt 32 l).2.1).2.1 (cutAt 32 (cutAt 32 l).2.1).2.2 ∧ staL l = ((readP (bOf (cutAt 32 (cutAt 32 l).2.1).1) 10 18 599).1, (cutAt 32 (cutAt 32 l).2.1).2.1, verL (cutAt 32 l).1, 0) ∨ ¬ (staL l).2.2.2 = 0 := by
  unfold staL
  by_cases h0 : 8192 < l.length
  · rw [if_pos h0]; exact Or.inr (by decide)
  · rw [if_neg h0]
    by_cases c : StaOk (cutAt 32 l).1 (cutAt 32 (cutAt 32 l).2.1).1 (cutAt 32 (cutAt 32 l).2.1).2.1 (cutAt 32 (cutAt 32 l).2.1).2.2
    · rw [staE_yes c]; exact Or.inl ⟨rfl, c, rfl⟩
    · rw [staE_no c]; exact Or.inr (by decide)
theorem count_no {l : List UInt8} (h : ∀ x ∈ l, x ≠ 32) : l.count 32 = 0 := List.count_eq_zero.2 (fun hm => h 32 hm rfl)
theorem digs_dig (n : Nat) : ∀ x ∈ digs 10 n, 48 ≤ x.toNat ∧ x.toNat ≤ 57 := by
  have hd : ∀ d : Fin 10, 48 ≤ (dch d).toNat ∧ (dch d).toNat ≤ 57 := by decide
  induction n using Nat.strongRecOn with
  | _ n ih =>
    by_cases h : n < 10
    · rw [digs_small h]
      intro x hx
      rw [List.mem_singleton.1 hx]
      exact hd ⟨n, h⟩
    · rw [digs_big (by decide) h]
      intro x hx
      rcases List.mem_append.1 hx with hx | hx
      · exact ih (n / 10) (by omega) x hx
      · rw [List.mem_singleton.1 hx]
        exact hd ⟨n % 10, by omega⟩
theorem plain_no (v : Int) (c : UInt8) (h1 : c ≠ 45) (h2 : c.toNat < 48) : ∀ x ∈ plain v, x ≠ c := by
  have key : ∀ n, ∀ x ∈ digs 10 n, x ≠ c := fun n x hx e => by
    have := digs_dig n x hx
    rw [e] at this
    omega
  intro x hx
  unfold plain at hx
  split at hx
  · rcases List.mem_cons.1 hx with rfl | hx
    · exact fun h => h1 h.symm
    · exact key _ x hx
  · exact key _ x hx
theorem plain_one (v : Int) (d : UInt8) (hd : d = 48 ∨ d = 49) (h : plain v = [d]) : v = (d.toNat : Int) - 48 := by
  have k0 : ∀ n : Fin 10, dch n = 48 → (n : Nat) = 0 := by decide
  have k1 : ∀ n : Fin 10, dch n = 49 → (n : Nat) = 1 := by decide
  unfold plain at h
  split at h
  · have := (List.cons.inj h).1
    rcases hd with rfl | rfl <;> exact absurd this (by decide)
  case isFalse hv =>
    by_cases c : v.toNat < 10
    · rw [digs_small c] at h
      have h2 := (List.cons.inj h).1
      rcases hd with rfl | rfl
      · have := k0 ⟨v.toNat, c⟩ h2
        show v = (48 : Int) - 48
        have h3 : v.toNat = 0 := this
        omega
      · have := k1 ⟨v.toNat, c⟩ h2
        show v = (49 : Int) - 48
        have h3 : v.toNat = 1 := this
        omega
    · rw [digs_big (by decide) c] at h
      have := congrArg List.length h
      have h2 := digs_pos 10 (v.toNat / 10) (by decide)
      simp at this
      rw [this] at h2
      simp at h2
theorem ver_any (v : Int) (h : 0 ≤ verL (http ++ plain v)) : (v = 0 ∨ v = 1) ∧ verL (http ++ plain v) = v := by
  rcases verL_yes h with ⟨e, e2⟩ | ⟨e, e2⟩
  · have := plain_one v 48 (Or.inl rfl) (List.append_cancel_left e)
    have h0 : v = 0 := this
    exact ⟨Or.inl h0, by rw [e2, h0]⟩
  · have := plain_one v 49 (Or.inr rfl) (List.append_cancel_left e)
    have h1 : v = 1 := this
    exact ⟨Or.inr h1, by rw [e2, h1]⟩
theorem http_no (c : UInt8) (h : c = 32 ∨ c = 13) : ∀ x ∈ http, x ≠ c := by
  rcases h with rfl | rfl <;> decide
theorem ver_no (v : Int) (c : UInt8) (h : c = 32 ∨ c = 13) : ∀ x ∈ http ++ plain v, x ≠ c := fun x hx => by
  rcases List.mem_append.1 hx with hx | hx
  · exact http_no c h x hx
  · exact plain_no v c (by rcases h with rfl | rfl <;> decide) (by rcases h with rfl | rfl <;> decide) x hx
theorem req_any (m t : List UInt8) (v : Int) (h : (reqL (reqW m t v)).2.2.2 = 0) : (isTok m = true ∧ ¬ t = [] ∧ t.all visU = true ∧ (v = 0 ∨ v = 1)) ∧ reqL (reqW m t v) = (m, t, v, 0) := by
  rcases req_cases (reqW m t v) with ⟨_, hk, e⟩ | hn
  · have hs := congrArg (List.count 32) (req_shape _ hk)
    have z1 := count_no (cut_first 32 (reqW m t v))
    have z2 := count_no (cut_first 32 (cutAt 32 (reqW m t v)).2.1)
    have z3 := count_no (ver_facts hk.2.2.2).2.1
    have z4 := count_no (ver_no v 32 (Or.inl rfl))
    simp only [List.count_append, List.count_cons, z1, z2, z3] at hs
    unfold reqW at hs
    simp only [List.count_append, List.count_cons] at hs z4
    have zm : m.count 32 = 0 := by simp at hs; omega
    have zt : t.count 32 = 0 := by simp at hs; omega
    have nm : ∀ x ∈ m, x ≠ 32 := fun x hx e => by subst e; exact absurd hx (List.count_eq_zero.1 zm)
    have nt : ∀ x ∈ t, x ≠ 32 := fun x hx e => by subst e; exact absurd hx (List.count_eq_zero.1 zt)
    have c1 : cutAt 32 (reqW m t v) = (m, t ++ 32 :: (http ++ plain v), true) := cut_at 32 m _ nm
    have c2 : cutAt 32 (t ++ 32 :: (http ++ plain v)) = (t, http ++ plain v, true) := cut_at 32 t _ nt
    rw [e]
    rw [c1] at hk ⊢
    simp only at hk ⊢
    rw [c2] at hk ⊢
    obtain ⟨k1, k2, k3, k4⟩ := hk
    obtain ⟨hv, hv2⟩ := ver_any v k4
    exact ⟨⟨k1, k2, k3, hv⟩, by simp only [hv2]⟩
  · exact absurd h hn
theorem sta_any (c : Int) (r : List UInt8) (v : Int) (h0 : 200 ≤ c) (h1 : c ≤ 599) (h : (staL (staW c r v)).2.2.2 = 0) : (isTxt r = true ∧ (v = 0 ∨ v = 1)) ∧ staL (staW c r v) = (c, r, v, 0) := by
  have hp : plain c = digs 10 c.toNat := by unfold plain; rw [if_neg (by omega)]
  have hb := ten_back c.toNat 599 (by omega) (by omega)
  have hc : ((c.toNat : Nat) : Int) = c := by omega
  rw [hc] at hb
  have c1 : cutAt 32 (staW c r v) = (http ++ plain v, plain c ++ 32 :: r, true) := cut_at 32 _ _ (ver_no v 32 (Or.inl rfl))
  have c2 : cutAt 32 (plain c ++ 32 :: r) = (plain c, r, true) := cut_at 32 _ _ (plain_no c 32 (by decide) (by decide))
  rcases sta_cases (staW c r v) with ⟨_, hk, e⟩ | hn
  · rw [e]
    rw [c1] at hk ⊢
    simp only at hk ⊢
    rw [c2] at hk ⊢
    obtain ⟨k1, k2, k3, k4, k5, k6⟩ := hk
    obtain ⟨hv, hv2⟩ := ver_any v k1
    refine ⟨⟨k6, hv⟩, ?_⟩
    simp only [hv2, hp, hb]
  · exact absurd h hn
end Go.Proofs.YtjaklgikfcahdaaGreatDoor.Pu
namespace Go.Proofs.YtjaklgikfcahdaaGreatDoor.Pu
open Go.RowKit Go.Proofs.YtjaklgikfcahdaaGreatDoorW.PrintWords Go.Proofs.YtjaklgikfcahdaaGreatDoorW.PrintLast Go.Proofs.YtjaklgikfcahdaaGreatDoor.PU
set_option linter.unusedVariables false
set_option linter.unusedSimpArgs false
end Go.Proofs.YtjaklgikfcahdaaGreatDoor.Pu
namespace Go.Proofs.YtjaklgikfcahdaaGreatDoor.Pu
open Go.RowKit Go.Proofs.YtjaklgikfcahdaaGreatDoorW.PrintWords Go.Proofs.YtjaklgikfcahdaaGreatDoorW.PrintLast Go.Proofs.YtjaklgikfcahdaaGreatDoor.PU
set_option linter.unusedVariables false
set_option linter.unusedSimpArgs false
end Go.Proofs.YtjaklgikfcahdaaGreatDoor.Pu
namespace Go.Proofs.YtjaklgikfcahdaaGreatDoor.Pu
open Go.RowKit Go.Proofs.YtjaklgikfcahdaaGreatDoorW.PrintWords Go.Proofs.YtjaklgikfcahdaaGreatDoorW.PrintLast Go.Proofs.YtjaklgikfcahdaaGreatDoor.PU
set_option linter.unusedVariables false
set_option linter.unusedSimpArgs false
end Go.Proofs.YtjaklgikfcahdaaGreatDoor.Pu
namespace Go.Proofs.YtjaklgikfcahdaaGreatDoor.Pu
open Go.RowKit Go.Proofs.YtjaklgikfcahdaaGreatDoorW.PrintWords Go.Proofs.YtjaklgikfcahdaaGreatDoorW.PrintLast Go.Proofs.YtjaklgikfcahdaaGreatDoor.PU
set_option linter.unusedVariables false
set_option linter.unusedSimpArgs false
end Go.Proofs.YtjaklgikfcahdaaGreatDoor.Pu
namespace Go.Proofs.YtjaklgikfcahdaaGreatDoor.Pu
open Go.RowKit Go.Proofs.YtjaklgikfcahdaaGreatDoorW.PrintWords Go.Proofs.YtjaklgikfcahdaaGreatDoorW.PrintLast Go.Proofs.YtjaklgikfcahdaaGreatDoor.PU
set_option linter.unusedVariables false
set_option linter.unusedSimpArgs false
theorem rdF_at (l : List S98) (i : Nat) (h : i < l.length) : rd_T98 l i = l[i] := by
  show l.getD (i : Int).toNat _ = _
  rw [Int.toNat_natCast, List.getD_eq_getElem?_getD, List.getElem?_eq_getElem h]; rfl
theorem rdB_at (l : List ByteArray) (i : Nat) (h : i < l.length) : rdOf ByteArray.empty l i = l[i] := by
  show l.getD (i : Int).toNat _ = _
  rw [Int.toNat_natCast, List.getD_eq_getElem?_getD, List.getElem?_eq_getElem h]; rfl
theorem wrap_nat (i n : Nat) (h : i < n) (hn : n ≤ 9223372036854775807) : wrap64 ((i : Int) + 1) = ((i + 1 : Nat) : Int) := by rw [wrap_id (by omega) (by omega)]; omega
theorem toList_eq {a b : ByteArray} (h : a.toList = b.toList) : a = b := by
  rw [ByteArray.toList_eq, ByteArray.toList_eq] at h
  obtain ⟨⟨x⟩⟩ := a
  obtain ⟨⟨y⟩⟩ := b
  simp only at h
  subst h
  rfl
def smallF (n : Nat) (x : S98) : Prop := x.f0.size ≤ n ∧ x.f1.size ≤ n
def sameN (a b : ByteArray) : Bool := (Hand.lowerS a).toList == (Hand.lowerS b).toList
theorem prog_Same (a b : ByteArray) (ha : a.size ≤ 9223372036854775807) (hb : b.size ≤ 9223372036854775807) : octet_Same.f a b = some (sameN a b) := by
  unfold octet_Same.f octet_Lower.f
  by_cases h : a.size = b.size
  · rw [if_pos (by omega), if_pos ha, if_pos hb]; rfl
  · rw [if_neg (by omega)]
    congr 1
    cases hs : sameN a b with
    | false => rfl
    | true =>
      have := congrArg ByteArray.size (toList_eq (beq_iff_eq.1 hs))
      rw [Hand.lowerS_size, Hand.lowerS_size] at this
      exact absurd this h
theorem ref_Same (a b : ByteArray) (ha : a.size ≤ 9223372036854775807) (hb : b.size ≤ 9223372036854775807) : depotref01_Same.f a b = some (sameN a b) := by
  unfold depotref01_Same.f depotref01_Lower.f
  rw [if_pos ha, if_pos hb]; rfl
def allS (name : ByteArray) (l : List S98) : List ByteArray := (l.filter fun x => sameN x.f0 name).map (·.f1)
theorem prog_All (l : List S98) (name : ByteArray) (n : Nat) (hn : n ≤ 1000000) (hl : l.length < 1000000) (hs : ∀ x ∈ l, smallF n x) (h2 : name.size ≤ n) : fields_All.f l name = some (allS name l) := by
  have h1 : ∀ x ∈ l, octet_Same.f x.f0 name = some (sameN x.f0 name) := fun x hx => prog_Same _ _ (by have := (hs x hx).1; omega) (by omega)
  unfold fields_All.f
  rw [if_pos ⟨hl, fun x hx => by rw [h1 x hx]; rfl⟩]
  unfold allS
  congr 2
  apply List.filter_congr
  intro x hx
  unfold fields_is
  rw [h1 x hx]
  cases sameN x.f0 name <;> rfl
theorem allS_cons (name : ByteArray) (x : S98) (l : List S98) : allS name (x :: l) = if sameN x.f0 name = true then x.f1 :: allS name l else allS name l := by
  unfold allS
  rw [List.filter_cons]
  split <;> rfl
theorem rall_l0 (l : List S98) (name : ByteArray) (n : Nat) (hn : n ≤ 1000000) (hl : l.length < 1000000) (hs : ∀ x ∈ l, smallF n x) (h2 : name.size ≤ n) : ∀ (d i : Nat) (acc : List ByteArray), d + i = l.length → acc.length ≤ i → Ev (fun k => depotref09_All.l0 k l name acc i) (acc ++ allS name (l.drop i)) := by
  intro d
  induction d with
  | zero =>
    intro i acc hd ha
    rw [List.drop_of_length_le (by omega)]
    refine Ev.step (fun k => by rw [depotref09_All.l0]) ?_
    exact Ev.neg (by omega) (Ev.some' (by simp [allS]))
  | succ d ih =>
    intro i acc hd ha
    have hlt : i < l.length := by omega
    have hx := hs _ (List.getElem_mem hlt)
    rw [List.drop_eq_getElem_cons hlt, allS_cons]
    refine Ev.step (fun k => by rw [depotref09_All.l0, rdF_at l i hlt, wrap_nat i l.length hlt (by omega)]) (Ev.pos (by omega) (Ev.pos (by omega) ?_))
    refine Ev.sbind (ref_Same l[i].f0 name (by have := hx.1; omega) (by omega)) ?_
    by_cases c : sameN l[i].f0 name = true
    · rw [if_pos c]
      refine Ev.pos c (Ev.pos (by omega) ?_)
      have := ih (i + 1) (acc ++ [l[i].f1]) (by omega) (by simp; omega)
      rw [List.append_assoc] at this
      exact this
    · rw [if_neg c]
      exact Ev.neg c (ih (i + 1) acc (by omega) (by omega))
theorem ref_All (l : List S98) (name : ByteArray) (n : Nat) (hn : n ≤ 1000000) (hl : l.length < 1000000) (hs : ∀ x ∈ l, smallF n x) (h2 : name.size ≤ n) : Ev (fun k => depotref09_All.f k l name) (allS name l) :=
  rall_l0 l name n hn hl hs h2 l.length 0 [] (by omega) (Nat.le_refl _)
theorem allS_small (name : ByteArray) (l : List S98) (n : Nat) (hs : ∀ x ∈ l, smallF n x) : (allS name l).length ≤ l.length ∧ ∀ s ∈ allS name l, s.size ≤ n := by
  unfold allS
  refine ⟨by rw [List.length_map]; exact List.length_filter_le _ _, fun s h => ?_⟩
  obtain ⟨x, hx, rfl⟩ := List.mem_map.1 h
  exact (hs x (List.mem_filter.1 hx).1).2
def isN (names : List ByteArray) (x : S98) : Bool := names.any fun n => sameN x.f0 n
def dropS (names : List ByteArray) (l : List S98) : List S98 := l.filter fun x => !isN names x
theorem prog_Drop (l : List S98) (names : List ByteArray) (n : Nat) (hn : n ≤ 1000000) (hl : l.length < 1000000) (hl2 : names.length < 1000000) (hs : ∀ x ∈ l, smallF n x) (h2 : ∀ m ∈ names, m.size ≤ n) : fields_Drop.f l names = some (dropS names l) := by
  have h1 : ∀ x ∈ l, ∀ m ∈ names, octet_Same.f x.f0 m = some (sameN x.f0 m) := fun x hx m hm => prog_Same _ _ (by have := (hs x hx).1; omega) (by have := h2 m hm; omega)
  unfold fields_Drop.f
  rw [if_pos ⟨hl, hl2, fun x hx m hm => by rw [h1 x hx m hm]; rfl⟩]
  unfold dropS
  congr 1
  apply List.filter_congr
  intro x hx
  congr 1
  unfold fields_in isN
  have h3 := h1 x hx
  clear h1 h2 hl2
  induction names with
  | nil => rfl
  | cons a t ih =>
    rw [List.any_cons, List.any_cons, ih (fun m hm => h3 m (List.mem_cons_of_mem _ hm)), h3 a List.mem_cons_self]
    cases sameN x.f0 a <;> rfl
theorem rdrop_l1 (l : List S98) (names : List ByteArray) (acc : List S98) (i : Nat) (hi : i < l.length) (hl : l.length < 1000000) (hl2 : names.length < 1000000) (ha : acc.length < 1000000) (hx : l[i].f0.size ≤ 1000000) (h2 : ∀ m ∈ names, m.size ≤ 1000000) (r : List S98)
    (hT : Ev (fun k => depotref09_Drop.l0 k l names acc ((i + 1 : Nat) : Int)) r ∨ (isN names l[i] = false)) (hF : Ev (fun k => depotref09_Drop.l0 k l names (acc ++ [l[i]]) ((i + 1 : Nat) : Int)) r ∨ isN names l[i] = true) :
    ∀ (d j : Nat) (b : Bool), d + j = names.length → isN names l[i] = (b || isN (names.drop j) l[i]) → Ev (fun k => depotref09_Drop.l1 k l names acc i b j) r := by
  intro d
  induction d with
  | zero =>
    intro j b hd hb
    rw [List.drop_of_length_le (by omega)] at hb
    refine Ev.step (fun k => by rw [depotref09_Drop.l1, wrap_nat i l.length hi (by omega), rdF_at l i hi]) (Ev.neg (by omega) ?_)
    cases b
    · refine Ev.neg (by simp) (Ev.pos (by omega) (Ev.pos (by omega) (Ev.pos (by omega) ?_)))
      rcases hF with h | h
      · exact h
      · rw [h] at hb; cases hb
    · refine Ev.pos rfl ?_
      rcases hT with h | h
      · exact h
      · rw [h] at hb; cases hb
  | succ d ih =>
    intro j b hd hb
    have hlt : j < names.length := by omega
    rw [List.drop_eq_getElem_cons hlt] at hb
    refine Ev.step (fun k => by rw [depotref09_Drop.l1, wrap_nat j names.length hlt (by omega), rdF_at l i hi, rdB_at names j hlt]) (Ev.pos (by omega) ?_)
    cases b
    · refine Ev.neg (by simp) (Ev.pos (by omega) (Ev.pos (by omega) (Ev.pos (by omega) ?_)))
      refine Ev.sbind (ref_Same l[i].f0 names[j] (by omega) (by have := h2 _ (List.getElem_mem hlt); omega)) ?_
      exact ih (j + 1) _ (by omega) (by rw [hb]; rfl)
    · exact Ev.pos rfl (ih (j + 1) true (by omega) (by rw [hb]; rfl))
theorem rdrop_l0 (l : List S98) (names : List ByteArray) (hl : l.length < 1000000) (hl2 : names.length < 1000000) (hs : ∀ x ∈ l, smallF 1000000 x) (h2 : ∀ m ∈ names, m.size ≤ 1000000) : ∀ (d i : Nat) (acc : List S98), d + i = l.length → acc.length ≤ i → Ev (fun k => depotref09_Drop.l0 k l names acc i) (acc ++ dropS names (l.drop i)) := by
  intro d
  induction d with
  | zero =>
    intro i acc hd ha
    rw [List.drop_of_length_le (by omega)]
    refine Ev.step (fun k => by rw [depotref09_Drop.l0]) ?_
    exact Ev.neg (by omega) (Ev.some' (by simp [dropS]))
  | succ d ih =>
    intro i acc hd ha
    have hlt : i < l.length := by omega
    refine Ev.step (fun k => by rw [depotref09_Drop.l0]) (Ev.pos (by omega) ?_)
    have hcons : dropS names (l.drop i) = if isN names l[i] = true then dropS names (l.drop (i + 1)) else l[i] :: dropS names (l.drop (i + 1)) := by
      unfold dropS
      rw [List.drop_eq_getElem_cons hlt, List.filter_cons]
      cases isN names l[i] <;> rfl
    rw [hcons]
    refine rdrop_l1 l names acc i hlt hl hl2 (by omega) (hs _ (List.getElem_mem hlt)).1 h2 _ ?_ ?_ names.length 0 false (by omega) (by rw [List.drop_zero]; rfl)
    · cases c : isN names l[i]
      · exact Or.inr rfl
      · exact Or.inl (by rw [if_pos rfl]; exact ih (i + 1) acc (by omega) (by omega))
    · cases c : isN names l[i]
      · refine Or.inl ?_
        rw [if_neg (by simp)]
        have := ih (i + 1) (acc ++ [l[i]]) (by omega) (by simp; omega)
        rw [List.append_assoc] at this
        exact this
      · exact Or.inr rfl
theorem ref_Drop (l : List S98) (names : List ByteArray) (hl : l.length < 1000000) (hl2 : names.length < 1000000) (hs : ∀ x ∈ l, smallF 1000000 x) (h2 : ∀ m ∈ names, m.size ≤ 1000000) : Ev (fun k => depotref09_Drop.f k l names) (dropS names l) :=
  rdrop_l0 l names hl hl2 hs h2 l.length 0 [] (by omega) (Nat.le_refl _)
def hostS (l : List S98) (minor : Int) : Bool := if (allS (⟨#[72, 111, 115, 116]⟩ : ByteArray) l).length = 1 then true else if (allS (⟨#[72, 111, 115, 116]⟩ : ByteArray) l).length = 0 then decide (minor = 0) else false
theorem prog_host (l : List S98) (minor : Int) (hl : l.length < 1000000) (hs : ∀ x ∈ l, smallF 1000000 x) : hostedP l minor = some (hostS l minor) := by
  unfold hostedP hostS
  rw [prog_All l _ 1000000 (Nat.le_refl _) hl hs (by decide)]
  rfl
theorem ref_host (l : List S98) (minor : Int) (hl : l.length < 1000000) (hs : ∀ x ∈ l, smallF 1000000 x) : Ev (fun k => depotref12_host.f k l minor) (hostS l minor) := by
  unfold depotref12_host.f hostS
  refine Ev.bind (ref_All l _ 1000000 (Nat.le_refl _) hl hs (by decide)) ?_
  by_cases c1 : (allS (⟨#[72, 111, 115, 116]⟩ : ByteArray) l).length = 1
  · rw [if_pos c1]; exact Ev.pos (by omega) (Ev.some' rfl)
  · rw [if_neg c1]
    refine Ev.neg (by omega) ?_
    by_cases c2 : (allS (⟨#[72, 111, 115, 116]⟩ : ByteArray) l).length = 0
    · rw [if_pos c2]
      refine Ev.pos (by omega) (Ev.some' ?_)
      by_cases c3 : minor = 0
      · rw [decide_eq_true c3, beq_iff_eq.2 c3]
      · rw [decide_eq_false c3, beq_eq_false_iff_ne.2 c3]
    · rw [if_neg c2]; exact Ev.neg (by omega) (Ev.some' rfl)
end Go.Proofs.YtjaklgikfcahdaaGreatDoor.Pu
namespace Go.Proofs.YtjaklgikfcahdaaGreatDoor.Pu
open Go.RowKit Go.Proofs.YtjaklgikfcahdaaGreatDoorW.PrintWords Go.Proofs.YtjaklgikfcahdaaGreatDoorW.PrintLast Go.Proofs.YtjaklgikfcahdaaGreatDoor.PU
set_option linter.unusedVariables false
set_option linter.unusedSimpArgs false
def joinE (l : List (List UInt8)) (rest : List UInt8) : List UInt8 := l.foldr (fun a r => a ++ 13 :: 10 :: r) (13 :: 10 :: rest)
end Go.Proofs.YtjaklgikfcahdaaGreatDoor.Pu
namespace Go.Proofs.YtjaklgikfcahdaaGreatDoor.Pu
open Go.RowKit Go.Proofs.YtjaklgikfcahdaaGreatDoorW.PrintWords Go.Proofs.YtjaklgikfcahdaaGreatDoorW.PrintLast Go.Proofs.YtjaklgikfcahdaaGreatDoor.PU
set_option linter.unusedVariables false
set_option linter.unusedSimpArgs false
def smallB (n : Nat) (l : List ByteArray) : Prop := l.length ≤ n ∧ ∀ s ∈ l, s.size ≤ 100000
end Go.Proofs.YtjaklgikfcahdaaGreatDoor.Pu
namespace Go.Proofs.YtjaklgikfcahdaaGreatDoor.Pu
open Go.RowKit Go.Proofs.YtjaklgikfcahdaaGreatDoorW.PrintWords Go.Proofs.YtjaklgikfcahdaaGreatDoorW.PrintLast Go.Proofs.YtjaklgikfcahdaaGreatDoor.PU
set_option linter.unusedVariables false
set_option linter.unusedSimpArgs false
theorem Ev.ite2 {α : Type} {c : Prop} [Decidable c] {f g : Nat → Option α} {x y : α} (h1 : c → Ev f x) (h2 : ¬ c → Ev g y) : Ev (fun k => if c then f k else g k) (if c then x else y) := by
  by_cases h : c
  · rw [if_pos h]; exact Ev.pos h (h1 h)
  · rw [if_neg h]; exact Ev.neg h (h2 h)
def nTE : ByteArray := ⟨#[84, 114, 97, 110, 115, 102, 101, 114, 45, 69, 110, 99, 111, 100, 105, 110, 103]⟩
def nCL : ByteArray := ⟨#[67, 111, 110, 116, 101, 110, 116, 45, 76, 101, 110, 103, 116, 104]⟩
def nTR : ByteArray := ⟨#[84, 114, 97, 105, 108, 101, 114]⟩
def names3 : List ByteArray := [nCL, nTE, nTR]
def okFs (fs : List S98) : Prop := fs.length ≤ 1000 ∧ ∀ x ∈ fs, smallF 100000 x
theorem okFs.all {fs : List S98} (h : okFs fs) (name : ByteArray) : smallB 1000 (allS name fs) := by
  have := allS_small name fs 100000 h.2
  exact ⟨by have := h.1; omega, this.2⟩
end Go.Proofs.YtjaklgikfcahdaaGreatDoor.Pu
namespace Go.Proofs.YtjaklgikfcahdaaGreatDoor.Pu
open Go.RowKit Go.Proofs.YtjaklgikfcahdaaGreatDoorW.PrintWords Go.Proofs.YtjaklgikfcahdaaGreatDoorW.PrintLast Go.Proofs.YtjaklgikfcahdaaGreatDoor.PU
set_option linter.unusedVariables false
set_option linter.unusedSimpArgs false
theorem lawR_messages0 : depotlaw12_messages.f 60 = some true := by kernel_rfl
theorem lawR_messages : Ev (fun k => depotlaw12_messages.f k) true := Ev.of depotlaw12_messages.mono lawR_messages0
end Go.Proofs.YtjaklgikfcahdaaGreatDoor.Pu
namespace Go.Proofs.YtjaklgikfcahdaaGreatDoor.Pu
open Go.RowKit Go.Proofs.YtjaklgikfcahdaaGreatDoorW.PrintWords Go.Proofs.YtjaklgikfcahdaaGreatDoorW.PrintLast Go.Proofs.YtjaklgikfcahdaaGreatDoor.PU
set_option linter.unusedVariables false
set_option linter.unusedSimpArgs false
def nobody (c : Int) : Bool := if c = 204 then true else c == 304
theorem prog_nobody (c : Int) : message_Bodiless.f c = some (nobody c) := by
  unfold message_Bodiless.f nobody
  split <;> rfl
theorem ref_nobody (c : Int) : depotref12_Bodiless.f c = some (nobody c) := by
  unfold depotref12_Bodiless.f nobody
  split <;> rfl
end Go.Proofs.YtjaklgikfcahdaaGreatDoor.Pu
namespace Go.Proofs.YtjaklgikfcahdaaGreatDoor.Pu
open Go.RowKit Go.Proofs.YtjaklgikfcahdaaGreatDoorW.PrintWords Go.Proofs.YtjaklgikfcahdaaGreatDoorW.PrintLast Go.Proofs.YtjaklgikfcahdaaGreatDoor.PU
set_option linter.unusedVariables false
set_option linter.unusedSimpArgs false
def nmCL : List UInt8 := [67, 111, 110, 116, 101, 110, 116, 45, 76, 101, 110, 103, 116, 104]
def lnF (x : S98) : List UInt8 := x.f0.data.toList ++ 58 :: 32 :: x.f1.data.toList
def lnC (n : Int) : List UInt8 := nmCL ++ 58 :: 32 :: plain n
def linesL (first : List UInt8) (fs : List S98) (tells : Bool) (n : Int) : List (List UInt8) := first :: (fs.map lnF ++ if tells = true then [lnC n] else [])
theorem prog_Line (a b : List UInt8) (ha : a.length ≤ 1000000) (hb : b.length ≤ 1000000) : fields_Line.f (bOf a) (bOf b) = some (bOf (a ++ 58 :: 32 :: b)) := by
  unfold fields_Line.f
  rw [show (⟨#[58, 32]⟩ : ByteArray) = bOf [58, 32] from rfl, bOf_append, bOf_append, bOf_size, bOf_size, bOf_size, if_pos (by omega), if_pos (by simp; omega)]
  simp
theorem prog_LineF (x : S98) (h : smallF 1000000 x) : fields_Line.f x.f0 x.f1 = some (bOf (lnF x)) := by
  have := prog_Line x.f0.data.toList x.f1.data.toList (by rw [size_data]; exact h.1) (by rw [size_data]; exact h.2)
  rw [bOf_data, bOf_data] at this
  exact this
theorem lines_l0 (tells : Bool) (n : Int) (hn : -9223372036854775808 ≤ n ∧ n ≤ 9223372036854775807) (fs : List S98) (hf : fs.length ≤ 100000) (hs : ∀ x ∈ fs, smallF 1000000 x) : ∀ (d i : Nat) (acc : List (List UInt8)), d + i = fs.length → acc.length ≤ i + 1 →
    Ev (fun k => message_lines.l0 k tells n (acc.map bOf) fs fs.length i) ((acc ++ ((fs.drop i).map lnF ++ if tells = true then [lnC n] else [])).map bOf) := by
  intro d
  induction d with
  | zero =>
    intro i acc hd ha
    rw [List.drop_of_length_le (by omega)]
    refine Ev.step (fun k => by rw [message_lines.l0]) (Ev.neg (by omega) ?_)
    cases tells
    · exact Ev.neg (by simp) (Ev.some' (by simp))
    · have hp := plain_len n hn
      exact Ev.pos rfl (Ev.sbind (prog_Plain n hn) (Ev.sbind (prog_Line nmCL (plain n) (by decide) (by omega)) (Ev.pos (by rw [List.length_map]; omega) (Ev.some' (by simp [lnC])))))
  | succ d ih =>
    intro i acc hd ha
    have hlt : i < fs.length := by omega
    refine Ev.step (fun k => by rw [message_lines.l0, rdF_at fs i hlt, wrap_nat i fs.length hlt (by omega)]) (Ev.pos (by omega) (Ev.pos (by omega) (Ev.pos (by omega) ?_)))
    refine Ev.sbind (prog_LineF fs[i] (hs _ (List.getElem_mem hlt))) (Ev.pos (by rw [List.length_map]; omega) ?_)
    have := ih (i + 1) (acc ++ [lnF fs[i]]) (by omega) (by simp; omega)
    rw [List.map_append] at this
    refine Ev.eq this ?_
    rw [List.drop_eq_getElem_cons hlt]
    simp only [List.map_cons, List.map_append, List.append_assoc, List.singleton_append, List.cons_append, List.map_nil, List.nil_append]
theorem prog_lines (first : List UInt8) (tells : Bool) (n : Int) (hn : -9223372036854775808 ≤ n ∧ n ≤ 9223372036854775807) (fs : List S98) (hf : fs.length ≤ 100000) (hs : ∀ x ∈ fs, smallF 1000000 x) : Ev (fun k => message_lines.f k (bOf first) fs tells n) ((linesL first fs tells n).map bOf) := by
  unfold message_lines.f
  exact Ev.eq (lines_l0 tells n hn fs hf hs fs.length 0 [first] (by omega) (by simp)) (by simp [linesL])
theorem join_crlf (body : List UInt8) : ∀ (t : List (List UInt8)) (a : List UInt8), Lib.join (a :: t) [13, 10] ++ 13 :: 10 :: 13 :: 10 :: body = joinE (a :: t) body
  | [], a => by simp [Lib.join, List.intercalate, joinE]
  | b :: t, a => by
    have ih := join_crlf body t b
    have e : Lib.join (a :: b :: t) [13, 10] = a ++ 13 :: 10 :: Lib.join (b :: t) [13, 10] := by simp [Lib.join, List.intercalate, List.intersperse]
    have e2 : joinE (a :: b :: t) body = a ++ 13 :: 10 :: joinE (b :: t) body := rfl
    rw [e, e2, ← ih]
    simp
theorem joinE_count (r : List UInt8) : ∀ ls : List (List UInt8), ls.length ≤ (joinE ls r).length
  | [] => Nat.zero_le _
  | a :: t => by
    have := joinE_count r t
    have e2 : joinE (a :: t) r = a ++ 13 :: 10 :: joinE t r := rfl
    rw [e2]; simp; omega
theorem joinE_most (r : List UInt8) : ∀ ls : List (List UInt8), (∀ a ∈ ls, a.length ≤ 3000000) → (joinE ls r).length ≤ ls.length * 3000002 + 2 + r.length
  | [], _ => by show (13 :: 10 :: r).length ≤ _; simp; omega
  | a :: t, h => by
    have := joinE_most r t (fun x hx => h x (List.mem_cons_of_mem _ hx))
    have h2 := h a List.mem_cons_self
    have e2 : joinE (a :: t) r = a ++ 13 :: 10 :: joinE t r := rfl
    rw [e2, List.length_cons, List.length_append]
    simp only [List.length_cons]
    omega
theorem prog_text (a : List UInt8) (t : List (List UInt8)) (body : List UInt8) (h : (joinE (a :: t) body).length ≤ 100000000000000) : message_text.f ((a :: t).map bOf) (bOf body) = some (bOf (joinE (a :: t) body)) := by
  have e : List.map (fun x : ByteArray => x.data.toList) ((a :: t).map bOf) = a :: t := by
    rw [List.map_map]
    conv => rhs; rw [← List.map_id (a :: t)]
    exact List.map_congr_left fun x _ => data_bOf x
  have hj := join_crlf body t a
  have hjl := congrArg List.length hj
  have hc := joinE_count body (a :: t)
  simp only [List.length_append, List.length_cons] at hjl hc
  unfold message_text.f strings_Join.f
  rw [e, show (⟨#[13, 10]⟩ : ByteArray) = bOf [13, 10] from rfl, data_bOf, if_pos ⟨by rw [List.length_map]; simp only [List.length_cons]; omega, by omega⟩, Option.bind_some]
  have hx : (⟨(Lib.join (a :: t) [13, 10]).toArray⟩ : ByteArray) = bOf (Lib.join (a :: t) [13, 10]) := rfl
  rw [hx, bOf_append, bOf_append, bOf_append, bOf_size, bOf_size, bOf_size, bOf_size, if_pos (by omega), if_pos (by simp; omega), if_pos (by simp; omega)]
  rw [← hj]
  simp
theorem linesL_small (first : List UInt8) (fs : List S98) (tells : Bool) (n : Int) (h1 : first.length ≤ 3000000) (hs : ∀ x ∈ fs, smallF 1000000 x) (hn : -9223372036854775808 ≤ n ∧ n ≤ 9223372036854775807) : (∀ a ∈ linesL first fs tells n, a.length ≤ 3000000) ∧ (linesL first fs tells n).length ≤ fs.length + 2 := by
  have hp := plain_len n hn
  have hc : (lnC n).length ≤ 3000000 := by
    unfold lnC nmCL
    simp
    omega
  have hx : ∀ x ∈ fs, (lnF x).length ≤ 3000000 := fun x hx => by
    have := hs x hx
    have e1 := size_data x.f0
    have e2 := size_data x.f1
    have h1 := this.1
    have h2 := this.2
    unfold lnF
    rw [List.length_append, List.length_cons, List.length_cons]
    omega
  unfold linesL
  refine ⟨fun a ha => ?_, ?_⟩
  · rcases List.mem_cons.1 ha with rfl | ha
    · exact h1
    · rcases List.mem_append.1 ha with ha | ha
      · obtain ⟨x, hm, rfl⟩ := List.mem_map.1 ha
        exact hx x hm
      · cases tells
        · simp at ha
        · simp at ha
          rw [ha]
          exact hc
  · cases tells <;> simp
def pRq (m t : List UInt8) (v : Int) (fs : List S98) (b : List UInt8) : List UInt8 := joinE (linesL (reqW m t v) fs (decide (b ≠ [])) b.length) b
def pRp (c : Int) (r : List UInt8) (v : Int) (fs : List S98) (b : List UInt8) (hd : Bool) : List UInt8 := joinE (linesL (staW c r v) fs (!nobody c && (!hd || decide (b ≠ []))) b.length) (if (hd || nobody c) = true then [] else b)
def rng (v : Int) : Prop := -9223372036854775808 ≤ v ∧ v ≤ 9223372036854775807
def okPs (fs : List S98) : Prop := fs.length ≤ 1000 ∧ ∀ x ∈ fs, smallF 1000000 x
theorem ne_dec (b : List UInt8) : (b != ([] : List UInt8)) = decide (b ≠ []) := by cases b <;> rfl
theorem prog_pRq (m t : List UInt8) (v : Int) (fs : List S98) (b : List UInt8) (hm : m.length ≤ 100000) (ht : t.length ≤ 100000) (hv : rng v) (hf : okPs fs) (hb : b.length ≤ 1000000) : Ev (fun k => message_PrintRequest.f k (bOf m) (bOf t) v fs (bOf b)) (bOf (pRq m t v fs b)) := by
  unfold message_PrintRequest.f pRq
  have hp := plain_len v hv
  have hl := linesL_small (reqW m t v) fs (decide (b ≠ [])) b.length (by unfold reqW http; simp; omega) hf.2 (by omega)
  have hj := joinE_most b _ hl.1
  have h2 := hl.2
  have h3 := hf.1
  rw [toList_bOf, bOf_size, ne_dec]
  exact Ev.sbind (prog_PrintRequest m t v hm ht hv) (Ev.bind (prog_lines _ _ _ (by omega) fs (by omega) hf.2) (Ev.sbind (prog_text _ _ b (by show (joinE (linesL _ _ _ _) b).length ≤ _; omega)) (Ev.some' rfl)))
theorem prog_pRp (c : Int) (r : List UInt8) (v : Int) (fs : List S98) (b : List UInt8) (hd : Bool) (hr : r.length ≤ 100000) (hc : rng c) (hv : rng v) (hf : okPs fs) (hb : b.length ≤ 1000000) : Ev (fun k => message_PrintReply.f k c (bOf r) v fs (bOf b) hd) (bOf (pRp c r v fs b hd)) := by
  unfold message_PrintReply.f pRp
  have hp := plain_len v hv
  have hq := plain_len c hc
  have hl := linesL_small (staW c r v) fs (!nobody c && (!hd || decide (b ≠ []))) b.length (by unfold staW http; simp; omega) hf.2 (by omega)
  have hj := joinE_most (if (hd || nobody c) = true then [] else b) _ hl.1
  have h2 := hl.2
  have h3 := hf.1
  have h4 : (if (hd || nobody c) = true then ([] : List UInt8) else b).length ≤ 1000000 := by
    split
    · simp
    · exact hb
  have e : (if (hd || nobody c) = true then (⟨#[]⟩ : ByteArray) else bOf b) = bOf (if (hd || nobody c) = true then [] else b) := by split <;> rfl
  refine Ev.sbind (prog_nobody c) (Ev.sbind (prog_PrintStatus c r v hr hc hv) ?_)
  rw [toList_bOf, bOf_size, ne_dec, e]
  exact Ev.bind (prog_lines _ _ _ (by omega) fs (by omega) hf.2) (Ev.congr (fun _ => prog_text _ _ _ (by show (joinE (linesL _ _ _ _) _).length ≤ _; omega)) (Ev.some' rfl))
def fineF (x : S98) : Bool := isTok x.f0.data.toList && (isTxt x.f1.data.toList && trim x.f1.data.toList == x.f1.data.toList)
def longF (x : S98) : Bool := decide (8192 < (lnF x).length)
theorem toList_data (s : ByteArray) : s.toList = s.data.toList := by
  have := toList_bOf s.data.toList
  rw [bOf_data] at this
  exact this
theorem checkGo_eq : ∀ (l : List S98) (long : Bool), (∀ x ∈ l, smallF 1000000 x) → checkGo l long = some (if l.all fineF = true then (if (long || l.any longF) = true then 4 else 0) else 21)
  | [], long, _ => by rw [checkGo]; cases long <;> rfl
  | x :: l, long, h => by
    have hx := h x List.mem_cons_self
    have hl := fun y hy => h y (List.mem_cons_of_mem x hy)
    have e1 := size_data x.f0
    have e2 := size_data x.f1
    have h1 := hx.1
    have h2 := hx.2
    have a1 := prog_IsToken x.f0.data.toList (by omega)
    have a2 := prog_IsText x.f1.data.toList (by omega)
    have a3 := prog_Trim x.f1.data.toList (by omega)
    rw [bOf_data] at a1 a2 a3
    rw [checkGo, a1, Option.bind_some, a2, Option.bind_some, a3, Option.bind_some, toList_bOf, toList_data, List.all_cons, List.any_cons]
    unfold fineF isTok isTxt
    cases c1 : (!x.f0.data.toList.isEmpty && x.f0.data.toList.all tokU)
    · rfl
    cases c2 : x.f1.data.toList.all textU
    · rfl
    cases c3 : (trim x.f1.data.toList == x.f1.data.toList)
    · rfl
    rw [if_pos rfl, if_pos rfl, if_pos rfl]
    cases long
    · rw [if_neg (by simp), prog_LineF x hx, Option.bind_some, bOf_size, checkGo_eq l _ hl]
      rfl
    · rw [if_pos rfl, checkGo_eq l true hl]
      rfl
def checkS (fs : List S98) : Int := if 64 < fs.length then 4 else if fs.all fineF = true then (if fs.any longF = true then 4 else 0) else 21
theorem prog_check (fs : List S98) (h : okPs fs) : fields_Check.f fs = some (checkS fs) := by
  unfold fields_Check.f checkS
  by_cases c : 64 < fs.length
  · rw [if_pos c, if_pos c]
  · rw [if_neg c, if_neg c, checkGo_eq fs false h.2, Bool.false_or]
def fitS (fs : List S98) : Int := if checkS fs = 0 then (if (dropS names3 fs).length < fs.length then 21 else 0) else checkS fs
theorem prog_fit (fs : List S98) (h : okPs fs) : message_fit.f fs = some (fitS fs) := by
  unfold message_fit.f fitS
  rw [prog_check fs h, Option.bind_some]
  by_cases c : checkS fs = 0
  · rw [if_pos c, if_pos c, show bareP fs = some (dropS names3 fs) from prog_Drop fs names3 1000000 (Nat.le_refl _) (by have := h.1; omega) (by decide) h.2 (by decide), Option.bind_some]
  · rw [if_neg c, if_neg c]
def lngS (l : List UInt8) (n : Nat) : Int := if 65536 < l.length ∨ 64 < n then 4 else 0
theorem prog_lng (l : List UInt8) (n : Nat) : (message_long.f (bOf l) (n : Int)).bind (fun g => some (if g = true then (4 : Int) else 0)) = some (lngS l n) := by
  unfold message_long.f lngS
  rw [bOf_size]
  by_cases c : 65536 < l.length
  · rw [if_pos (by omega), if_pos (Or.inl c)]; rfl
  · rw [if_neg (by omega)]
    by_cases c2 : 64 < n
    · rw [if_pos (Or.inr c2), decide_eq_true (by omega)]; rfl
    · rw [if_neg (by omega), decide_eq_false (by omega)]; rfl
def ckRq (m t : List UInt8) (v : Int) (fs : List S98) (b : List UInt8) : Int := if (reqL (reqW m t v)).2.2.2 = 0 then (if fitS fs = 0 then (if hostS fs v = true then lngS (pRq m t v fs b) (if b = [] then fs.length else fs.length + 1) else 26) else fitS fs) else 20
theorem prog_ckRq (m t : List UInt8) (v : Int) (fs : List S98) (b : List UInt8) (hm : m.length ≤ 40000) (ht : t.length ≤ 40000) (hv : rng v) (hf : okPs fs) (hb : b.length ≤ 1000000) : Ev (fun k => message_CheckRequest.f k (bOf m) (bOf t) v fs (bOf b)) (ckRq m t v fs b) := by
  unfold message_CheckRequest.f ckRq
  have hp := plain_len v hv
  have hw : (reqW m t v).length ≤ 100000 := by unfold reqW http; simp; omega
  refine Ev.sbind (prog_PrintRequest m t v (by omega) (by omega) hv) (Ev.bind (prog_Request _ hw) ?_)
  show Ev (fun k => if (reqL (reqW m t v)).2.2.2 = 0 then _ else _) _
  refine Ev.ite2 (fun c1 => ?_) (fun c1 => Ev.some' rfl)
  refine Ev.sbind (prog_fit fs hf) (Ev.ite2 (fun c2 => ?_) (fun c2 => Ev.some' rfl))
  refine Ev.sbind (prog_host fs v (by have := hf.1; omega) hf.2) (Ev.ite2 (fun c3 => ?_) (fun c3 => Ev.some' rfl))
  refine Ev.bind (prog_pRq m t v fs b (by omega) (by omega) hv hf hb) ?_
  refine Ev.congr (fun _ => ?_) (Ev.some' rfl)
  rw [bOf_size, ← prog_lng]
  congr 2
  by_cases c : b = []
  · subst c; rfl
  · rw [if_neg c, if_neg (fun h => c (List.eq_nil_of_length_eq_zero h))]; rfl
def ckRp (c : Int) (r : List UInt8) (v : Int) (fs : List S98) (b : List UInt8) : Int := if (staL (staW c r v)).2.2.2 = 0 ∧ 200 ≤ c ∧ c ≤ 599 then (if fitS fs = 0 then (if nobody c = true then (if b = [] then lngS (pRp c r v fs b false) fs.length else 22) else lngS (pRp c r v fs b false) (fs.length + 1)) else fitS fs) else 20
theorem ckRp_j1 (c : Int) (r : List UInt8) (v : Int) (fs : List S98) (b : List UInt8) (n : Nat) (hr : r.length ≤ 40000) (hc : rng c) (hv : rng v) (hf : okPs fs) (hb : b.length ≤ 1000000) : Ev (fun k => message_CheckReply.j1 k (n : Int) c (bOf r) v fs (bOf b)) (lngS (pRp c r v fs b false) n) := by
  refine Ev.step (fun k => by rw [message_CheckReply.j1]) (Ev.bind (prog_pRp c r v fs b false (by omega) hc hv hf hb) ?_)
  have := prog_lng (pRp c r v fs b false) n
  refine Ev.congr (fun _ => ?_) (Ev.some' rfl)
  rw [← this]
  congr 1
  funext g
  cases g <;> rfl
theorem prog_ckRp (c : Int) (r : List UInt8) (v : Int) (fs : List S98) (b : List UInt8) (hr : r.length ≤ 40000) (hc : rng c) (hv : rng v) (hf : okPs fs) (hb : b.length ≤ 1000000) : Ev (fun k => message_CheckReply.f k c (bOf r) v fs (bOf b)) (ckRp c r v fs b) := by
  unfold message_CheckReply.f ckRp
  have hp := plain_len v hv
  have hq := plain_len c hc
  have hw : (staW c r v).length ≤ 100000 := by unfold staW http; simp; omega
  have hn := hf.1
  have jt : Ev (fun k => message_CheckReply.j0 k true c (bOf r) v fs (bOf b)) 20 := Ev.step (fun k => by rw [message_CheckReply.j0]) (Ev.pos rfl (Ev.some' rfl))
  refine Ev.sbind (prog_PrintStatus c r v (by omega) hc hv) (Ev.sbind (prog_Status _ hw) ?_)
  show Ev (fun k => if (staL (staW c r v)).2.2.2 = 0 then _ else _) _
  by_cases c1 : (staL (staW c r v)).2.2.2 = 0
  · refine Ev.pos c1 ?_
    by_cases c2 : c < 200
    · rw [if_neg (fun h => by have := h.2.1; omega)]
      exact Ev.pos c2 jt
    · refine Ev.neg c2 ?_
      by_cases c3 : c > 599
      · rw [if_neg (fun h => by have := h.2.2; omega), decide_eq_true c3]
        exact jt
      · rw [if_pos ⟨c1, by omega, by omega⟩, decide_eq_false c3]
        refine Ev.step (fun k => by rw [message_CheckReply.j0]) (Ev.neg (by simp) ?_)
        refine Ev.sbind (prog_fit fs hf) (Ev.ite2 (fun c4 => ?_) (fun c4 => Ev.some' rfl))
        refine Ev.sbind (prog_nobody c) (Ev.ite2 (fun c5 => ?_) (fun c5 => ?_))
        · rw [toList_bOf]
          exact Ev.ite2 (fun c6 => ckRp_j1 c r v fs b fs.length hr hc hv hf hb) (fun c6 => Ev.some' rfl)
        · rw [wrap_id (by omega) (by omega)]
          exact ckRp_j1 c r v fs b (fs.length + 1) hr hc hv hf hb
  · rw [if_neg (fun h => c1 h.1)]
    exact Ev.neg c1 jt
end Go.Proofs.YtjaklgikfcahdaaGreatDoor.Pu
namespace Go.Proofs.YtjaklgikfcahdaaGreatDoor.Pu
open Go.RowKit Go.Proofs.YtjaklgikfcahdaaGreatDoorW.PrintWords Go.Proofs.YtjaklgikfcahdaaGreatDoorW.PrintLast Go.Proofs.YtjaklgikfcahdaaGreatDoor.PU
set_option linter.unusedVariables false
set_option linter.unusedSimpArgs false
end Go.Proofs.YtjaklgikfcahdaaGreatDoor.Pu
namespace Go.Proofs.YtjaklgikfcahdaaGreatDoor.Pu
open Go.RowKit Go.Proofs.YtjaklgikfcahdaaGreatDoorW.PrintWords Go.Proofs.YtjaklgikfcahdaaGreatDoorW.PrintLast Go.Proofs.YtjaklgikfcahdaaGreatDoor.PU
set_option linter.unusedVariables false
set_option linter.unusedSimpArgs false
end Go.Proofs.YtjaklgikfcahdaaGreatDoor.Pu
namespace Go.Proofs.YtjaklgikfcahdaaGreatDoor.Pu
open Go.RowKit Go.Proofs.YtjaklgikfcahdaaGreatDoorW.PrintWords Go.Proofs.YtjaklgikfcahdaaGreatDoorW.PrintLast Go.Proofs.YtjaklgikfcahdaaGreatDoor.PU
set_option linter.unusedVariables false
set_option linter.unusedSimpArgs false
end Go.Proofs.YtjaklgikfcahdaaGreatDoor.Pu
namespace Go.Proofs.YtjaklgikfcahdaaGreatDoor.Pu
open Go.RowKit Go.Proofs.YtjaklgikfcahdaaGreatDoorW.PrintWords Go.Proofs.YtjaklgikfcahdaaGreatDoorW.PrintLast Go.Proofs.YtjaklgikfcahdaaGreatDoor.PU
set_option linter.unusedVariables false
set_option linter.unusedSimpArgs false
def FewOk (fs : List S98) : Prop := fs.length ≤ 70 ∧ ∀ y ∈ fs, smallF 2000 y
theorem few_l0 (fs : List S98) (hl : fs.length ≤ 9223372036854775807) : ∀ (d i : Nat), d + i = fs.length → (∀ y ∈ fs.take i, smallF 2000 y) → ∃ x, Ev (fun k => depotref09_Few.l0 k fs 70 2000 i) x ∧ (x = true → FewOk fs) := by
  have out : ∀ i : Nat, Ev (fun k => depotref09_Few.j1 k fs 70 2000 i false) (decide ((fs.length : Int) ≤ 70)) := fun i => Ev.step (fun k => by rw [depotref09_Few.j1]) (Ev.neg (by simp) (Ev.some' rfl))
  intro d
  induction d with
  | zero =>
    intro i hd h
    refine ⟨_, Ev.step (fun k => by rw [depotref09_Few.l0]) (Ev.neg (by omega) (out i)), fun hx => ?_⟩
    have := of_decide_eq_true hx
    rw [List.take_of_length_le (by omega)] at h
    exact ⟨by omega, h⟩
  | succ d ih =>
    intro i hd h
    have hlt : i < fs.length := by omega
    by_cases c : i ≤ 70
    · have go : ∀ x, Ev (fun k => if ((fs[i].f0.size : Int) > 2000) then some false else if ((fs[i].f1.size : Int) > 2000) then some false else depotref09_Few.l0 k fs 70 2000 ((i + 1 : Nat) : Int)) x → Ev (fun k => depotref09_Few.l0 k fs 70 2000 i) x := fun x hx => by
        refine Ev.step (fun k => by rw [depotref09_Few.l0, show decide ((i : Int) ≤ 70) = true from decide_eq_true (by omega)]) (Ev.pos (by omega) ?_)
        refine Ev.step (fun k => by rw [depotref09_Few.j1, rdF_at fs i hlt, wrap_nat i fs.length hlt (by omega)]) (Ev.pos rfl (Ev.pos (by omega) (Ev.pos (by omega) hx)))
      by_cases c1 : fs[i].f0.size > 2000
      · exact ⟨false, go _ (Ev.pos (by omega) (Ev.some' rfl)), fun h => by cases h⟩
      by_cases c2 : fs[i].f1.size > 2000
      · exact ⟨false, go _ (Ev.neg (by omega) (Ev.pos (by omega) (Ev.some' rfl))), fun h => by cases h⟩
      obtain ⟨x, hx, h2⟩ := ih (i + 1) (by omega) (fun y hy => by
        rw [List.take_add_one, List.getElem?_eq_getElem hlt] at hy
        rcases List.mem_append.1 hy with hy | hy
        · exact h y hy
        · simp at hy
          rw [hy]
          exact ⟨by omega, by omega⟩)
      exact ⟨x, go _ (Ev.neg (by omega) (Ev.neg (by omega) hx)), h2⟩
    · refine ⟨_, Ev.step (fun k => by rw [depotref09_Few.l0, show decide ((i : Int) ≤ 70) = false from decide_eq_false (by omega)]) (Ev.pos (by omega) (out i)), fun hx => ?_⟩
      have := of_decide_eq_true hx
      omega
theorem few_fs (fs : List S98) (hl : fs.length ≤ 9223372036854775807) : ∃ x, Ev (fun k => depotref09_Few.f k fs 70 2000) x ∧ (x = true → FewOk fs) := few_l0 fs hl fs.length 0 (by omega) (fun y hy => by cases hy)
theorem few_rq (a0 a1 : ByteArray) (v : Int) (fs : List S98) (a4 : ByteArray) (hl : fs.length ≤ 9223372036854775807) : ∃ x, Ev (fun k => depotref12_FewRequest.f k a0 a1 v fs a4 2000) x ∧ (x = true → a0.size ≤ 2000 ∧ a1.size ≤ 2000 ∧ a4.size ≤ 2000 ∧ FewOk fs) := by
  unfold depotref12_FewRequest.f
  by_cases c0 : a0.size ≤ 2000
  case neg => exact ⟨false, Ev.neg (by omega) (Ev.some' rfl), fun h => by cases h⟩
  by_cases c1 : a1.size ≤ 2000
  case neg => exact ⟨false, Ev.pos (by omega) (Ev.neg (by omega) (Ev.some' rfl)), fun h => by cases h⟩
  by_cases c4 : a4.size ≤ 2000
  case neg => exact ⟨false, Ev.pos (by omega) (Ev.pos (by omega) (Ev.neg (by omega) (Ev.some' rfl))), fun h => by cases h⟩
  obtain ⟨x, hx, h⟩ := few_fs fs hl
  exact ⟨x, Ev.pos (by omega) (Ev.pos (by omega) (Ev.pos (by omega) (Ev.bind hx (Ev.some' rfl)))), fun e => ⟨c0, c1, c4, h e⟩⟩
theorem few_rp (c : Int) (a1 : ByteArray) (v : Int) (fs : List S98) (a4 : ByteArray) (hl : fs.length ≤ 9223372036854775807) : ∃ x, Ev (fun k => depotref12_FewReply.f k c a1 v fs a4 2000) x ∧ (x = true → a1.size ≤ 2000 ∧ a4.size ≤ 2000 ∧ FewOk fs) := by
  unfold depotref12_FewReply.f
  by_cases c1 : a1.size ≤ 2000
  case neg => exact ⟨false, Ev.neg (by omega) (Ev.some' rfl), fun h => by cases h⟩
  by_cases c4 : a4.size ≤ 2000
  case neg => exact ⟨false, Ev.pos (by omega) (Ev.neg (by omega) (Ev.some' rfl)), fun h => by cases h⟩
  obtain ⟨x, hx, h⟩ := few_fs fs hl
  exact ⟨x, Ev.pos (by omega) (Ev.pos (by omega) (Ev.bind hx (Ev.some' rfl))), fun e => ⟨c1, c4, h e⟩⟩
theorem FewOk.ps {fs : List S98} (h : FewOk fs) : okPs fs := ⟨by have := h.1; omega, fun x hx => by have := h.2 x hx; exact ⟨by have := this.1; omega, by have := this.2; omega⟩⟩
end Go.Proofs.YtjaklgikfcahdaaGreatDoor.Pu
namespace Go.Proofs.YtjaklgikfcahdaaGreatDoor.Pu
open Go.RowKit Go.Proofs.YtjaklgikfcahdaaGreatDoorW.PrintWords Go.Proofs.YtjaklgikfcahdaaGreatDoorW.PrintLast Go.Proofs.YtjaklgikfcahdaaGreatDoor.PU
set_option linter.unusedVariables false
set_option linter.unusedSimpArgs false
theorem ref_PrintRequest (m t : List UInt8) (v : Int) (hm : m.length ≤ 100000) (ht : t.length ≤ 100000) (h : -9223372036854775808 ≤ v ∧ v ≤ 9223372036854775807) : Ev (fun k => depotref10_PrintRequest.f k (bOf m) (bOf t) v) (bOf (reqW m t v)) := by
  have hp := plain_len v h
  unfold depotref10_PrintRequest.f
  rw [show (⟨#[32]⟩ : ByteArray) = bOf [32] from rfl, show (⟨#[32, 72, 84, 84, 80, 47, 49, 46]⟩ : ByteArray) = bOf (32 :: http) from rfl]
  simp only [bOf_append, bOf_size]
  refine Ev.pos (by omega) (Ev.pos (by simp; omega) (Ev.pos (by simp; omega) (Ev.bind (ref_Plain v h) (Ev.pos (by simp [http, bOf_size]; omega) (Ev.some' ?_)))))
  rw [bOf_append]
  simp [reqW]
theorem ref_PrintStatus (c : Int) (r : List UInt8) (v : Int) (hr : r.length ≤ 100000) (hc : -9223372036854775808 ≤ c ∧ c ≤ 9223372036854775807) (h : -9223372036854775808 ≤ v ∧ v ≤ 9223372036854775807) : Ev (fun k => depotref10_PrintStatus.f k c (bOf r) v) (bOf (staW c r v)) := by
  have hp := plain_len v h
  have hq := plain_len c hc
  unfold depotref10_PrintStatus.f
  rw [http_lit, show (⟨#[32]⟩ : ByteArray) = bOf [32] from rfl]
  refine Ev.bind (ref_Plain v h) ?_
  simp only [bOf_append, bOf_size]
  refine Ev.pos (by omega) (Ev.pos (by simp [http]; omega) (Ev.bind (ref_Plain c hc) ?_))
  simp only [bOf_append, bOf_size]
  refine Ev.pos (by simp [http]; omega) (Ev.pos (by simp [http]; omega) (Ev.pos (by simp [http]; omega) (Ev.some' ?_)))
  simp [staW]
def linesR (fs : List S98) : List UInt8 := (fs.map fun x => lnF x ++ [13, 10]).flatten
theorem lnF_len (x : S98) : (lnF x).length = x.f0.size + x.f1.size + 2 := by
  have e1 := size_data x.f0
  have e2 := size_data x.f1
  unfold lnF
  rw [List.length_append, List.length_cons, List.length_cons]
  omega
theorem linesR_len : ∀ fs : List S98, (∀ x ∈ fs, smallF 1000000 x) → (linesR fs).length ≤ fs.length * 2000004
  | [], _ => by simp [linesR]
  | x :: fs, h => by
    have ih := linesR_len fs (fun y hy => h y (List.mem_cons_of_mem x hy))
    have hx := h x List.mem_cons_self
    have e := lnF_len x
    have h1 := hx.1
    have h2 := hx.2
    have e2 : linesR (x :: fs) = (lnF x ++ [13, 10]) ++ linesR fs := by simp [linesR]
    rw [e2, List.length_append, List.length_append, List.length_cons]
    simp only [List.length_cons, List.length_nil]
    omega
theorem joinE_fs (tl : List (List UInt8)) (r : List UInt8) : ∀ fs : List S98, joinE (fs.map lnF ++ tl) r = linesR fs ++ joinE tl r
  | [] => by simp [linesR]
  | x :: fs => by
    have e : joinE (lnF x :: (fs.map lnF ++ tl)) r = lnF x ++ 13 :: 10 :: joinE (fs.map lnF ++ tl) r := rfl
    rw [List.map_cons, List.cons_append, e, joinE_fs tl r fs]
    simp [linesR]
theorem ref_LineF (x : S98) (h : smallF 1000000 x) : depotref09_Line.f x.f0 x.f1 = some (bOf (lnF x)) := by
  have key : ∀ a b : List UInt8, a.length ≤ 1000000 → b.length ≤ 1000000 → depotref09_Line.f (bOf a) (bOf b) = some (bOf (a ++ 58 :: 32 :: b)) := fun a b ha hb => by
    unfold depotref09_Line.f
    rw [show (⟨#[58, 32]⟩ : ByteArray) = bOf [58, 32] from rfl, bOf_append, bOf_append, bOf_size, bOf_size, bOf_size, if_pos (by omega), if_pos (by simp; omega)]
    simp
  have := key x.f0.data.toList x.f1.data.toList (by rw [size_data]; exact h.1) (by rw [size_data]; exact h.2)
  rw [bOf_data, bOf_data] at this
  exact this
theorem ref_lines_l0 (fs : List S98) (hf : fs.length ≤ 1000) (hs : ∀ x ∈ fs, smallF 1000000 x) : ∀ (d i : Nat) (acc : List UInt8), d + i = fs.length → acc.length ≤ i * 2000004 →
    Ev (fun k => depotref12_lines.l0 k fs (bOf acc) i) (bOf (acc ++ linesR (fs.drop i))) := by
  intro d
  induction d with
  | zero =>
    intro i acc hd ha
    rw [List.drop_of_length_le (by omega)]
    exact Ev.step (fun k => by rw [depotref12_lines.l0]) (Ev.neg (by omega) (Ev.some' (by simp [linesR])))
  | succ d ih =>
    intro i acc hd ha
    have hlt : i < fs.length := by omega
    have hx := hs _ (List.getElem_mem hlt)
    have e := lnF_len fs[i]
    have h1 := hx.1
    have h2 := hx.2
    refine Ev.step (fun k => by rw [depotref12_lines.l0, rdF_at fs i hlt, wrap_nat i fs.length hlt (by omega)]) (Ev.pos (by omega) (Ev.pos (by omega) (Ev.sbind (ref_LineF fs[i] hx) ?_)))
    rw [show (⟨#[13, 10]⟩ : ByteArray) = bOf [13, 10] from rfl]
    simp only [bOf_append, bOf_size]
    refine Ev.pos (by omega) (Ev.pos (by simp; omega) ?_)
    refine Ev.eq (ih (i + 1) (acc ++ lnF fs[i] ++ [13, 10]) (by omega) (by simp; omega)) ?_
    rw [show linesR (fs.drop i) = (lnF fs[i] ++ [13, 10]) ++ linesR (fs.drop (i + 1)) by rw [List.drop_eq_getElem_cons hlt]; rfl]
    simp
theorem ref_lines (fs : List S98) (h : okPs fs) : Ev (fun k => depotref12_lines.f k fs) (bOf (linesR fs)) := by
  unfold depotref12_lines.f
  exact Ev.eq (ref_lines_l0 fs h.1 h.2 fs.length 0 [] (by omega) (by simp)) (by simp)
theorem pRq_eq (m t : List UInt8) (v : Int) (fs : List S98) (b : List UInt8) : pRq m t v fs b = reqW m t v ++ 13 :: 10 :: (linesR fs ++ (if b = [] then 13 :: 10 :: b else nmCL ++ 58 :: 32 :: (plain b.length ++ 13 :: 10 :: 13 :: 10 :: b))) := by
  unfold pRq linesL
  show reqW m t v ++ 13 :: 10 :: joinE (fs.map lnF ++ _) b = _
  rw [joinE_fs]
  by_cases c : b = []
  · subst c; rfl
  · rw [if_neg c, if_pos (decide_eq_true c)]
    show _ ++ 13 :: 10 :: (linesR fs ++ (lnC b.length ++ 13 :: 10 :: 13 :: 10 :: b)) = _
    simp [lnC]
theorem ref_pRq (m t : List UInt8) (v : Int) (fs : List S98) (b : List UInt8) (hm : m.length ≤ 100000) (ht : t.length ≤ 100000) (hv : rng v) (hf : okPs fs) (hb : b.length ≤ 1000000) : Ev (fun k => depotref12_PrintRequest.f k (bOf m) (bOf t) v fs (bOf b)) (bOf (pRq m t v fs b)) := by
  rw [pRq_eq]
  have hp := plain_len v hv
  have hw : (reqW m t v).length ≤ 300000 := by unfold reqW http; simp; omega
  have hl := linesR_len fs hf.2
  have h3 := hf.1
  have hq := plain_len (b.length : Int) (by omega)
  unfold depotref12_PrintRequest.f
  refine Ev.bind (ref_PrintRequest m t v hm ht hv) ?_
  rw [show (⟨#[13, 10]⟩ : ByteArray) = bOf [13, 10] from rfl, show (⟨#[67, 111, 110, 116, 101, 110, 116, 45, 76, 101, 110, 103, 116, 104, 58, 32]⟩ : ByteArray) = bOf (nmCL ++ [58, 32]) from rfl]
  generalize reqW m t v = W at hw ⊢
  simp only [bOf_append, bOf_size]
  refine Ev.pos (by omega) (Ev.bind (ref_lines fs hf) ?_)
  generalize linesR fs = L at hl ⊢
  simp only [bOf_append, bOf_size, toList_bOf, List.length_append, List.length_cons, List.length_nil]
  refine Ev.pos (by omega) ?_
  by_cases c : b = []
  · rw [if_pos c]
    exact Ev.pos c (Ev.pos (by omega) (Ev.pos (by omega) (Ev.some' (by simp))))
  · rw [if_neg c]
    refine Ev.neg c (Ev.pos (by omega) (Ev.bind (ref_Plain (b.length : Int) (by omega)) ?_))
    generalize plain (b.length : Int) = Q at hq ⊢
    simp only [bOf_append, bOf_size, List.length_append, List.length_cons, List.length_nil, show nmCL.length = 14 from rfl]
    exact Ev.pos (by omega) (Ev.pos (by omega) (Ev.pos (by omega) (Ev.pos (by omega) (Ev.some' (by simp)))))
theorem pRp_eq (c : Int) (r : List UInt8) (v : Int) (fs : List S98) (b : List UInt8) (hd : Bool) : pRp c r v fs b hd = staW c r v ++ 13 :: 10 :: (linesR fs ++ (if nobody c = true then [13, 10] else if hd = true then (if b = [] then [13, 10] else nmCL ++ 58 :: 32 :: (plain b.length ++ [13, 10, 13, 10])) else nmCL ++ 58 :: 32 :: (plain b.length ++ 13 :: 10 :: 13 :: 10 :: b))) := by
  have tl : ∀ r', joinE [lnC b.length] r' = nmCL ++ 58 :: 32 :: (plain b.length ++ 13 :: 10 :: 13 :: 10 :: r') := fun r' => by
    show lnC b.length ++ 13 :: 10 :: 13 :: 10 :: r' = _
    simp [lnC]
  have t0 : ∀ r', joinE ([] : List (List UInt8)) r' = 13 :: 10 :: r' := fun r' => rfl
  unfold pRp linesL
  show staW c r v ++ 13 :: 10 :: joinE (fs.map lnF ++ _) _ = _
  rw [joinE_fs]
  cases nobody c
  · cases hd
    · simp [tl]
    · by_cases h : b = []
      · simp [h, t0]
      · simp [h, tl]
  · simp [t0]
theorem ref_pRp (c : Int) (r : List UInt8) (v : Int) (fs : List S98) (b : List UInt8) (hd : Bool) (hr : r.length ≤ 100000) (hc : rng c) (hv : rng v) (hf : okPs fs) (hb : b.length ≤ 1000000) : Ev (fun k => depotref12_PrintReply.f k c (bOf r) v fs (bOf b) hd) (bOf (pRp c r v fs b hd)) := by
  rw [pRp_eq]
  have hp := plain_len v hv
  have hpc := plain_len c hc
  have hw : (staW c r v).length ≤ 300000 := by unfold staW http; simp; omega
  have hl := linesR_len fs hf.2
  have h3 := hf.1
  have hq := plain_len (b.length : Int) (by omega)
  have e1 : (⟨#[13, 10]⟩ : ByteArray) = bOf [13, 10] := rfl
  have e2 : (⟨#[67, 111, 110, 116, 101, 110, 116, 45, 76, 101, 110, 103, 116, 104, 58, 32]⟩ : ByteArray) = bOf (nmCL ++ [58, 32]) := rfl
  have e3 : nmCL.length = 14 := rfl
  unfold depotref12_PrintReply.f
  refine Ev.bind (ref_PrintStatus c r v hr hc hv) ?_
  generalize staW c r v = W at hw ⊢
  simp only [e1, bOf_append, bOf_size]
  refine Ev.pos (by omega) (Ev.bind (ref_lines fs hf) ?_)
  generalize linesR fs = L at hl ⊢
  simp only [bOf_append, bOf_size, toList_bOf, List.length_append, List.length_cons, List.length_nil]
  have jt : Ev (fun k => depotref12_PrintReply.j0 k hd (bOf (W ++ [13, 10] ++ L)) true c (bOf r) v fs (bOf b)) (bOf (W ++ 13 :: 10 :: (L ++ (nmCL ++ 58 :: 32 :: (plain b.length ++ 13 :: 10 :: 13 :: 10 :: (if hd = true then [] else b)))))) := by
    refine Ev.step (fun k => by rw [depotref12_PrintReply.j0]) (Ev.pos rfl ?_)
    rw [bOf_size, e2, e1]
    refine Ev.pos (by simp only [bOf_size, List.length_append, List.length_cons, List.length_nil]; omega) (Ev.bind (ref_Plain (b.length : Int) (by omega)) ?_)
    generalize plain (b.length : Int) = Q at hq ⊢
    simp only [bOf_append, bOf_size, List.length_append, List.length_cons, List.length_nil, e3]
    refine Ev.pos (by omega) (Ev.pos (by omega) ?_)
    cases hd
    · exact Ev.neg (by simp) (Ev.pos (by omega) (Ev.pos (by omega) (Ev.some' (by simp))))
    · exact Ev.pos rfl (Ev.pos (by omega) (Ev.some' (by simp)))
  have jf : hd = true → Ev (fun k => depotref12_PrintReply.j0 k hd (bOf (W ++ [13, 10] ++ L)) false c (bOf r) v fs (bOf b)) (bOf (W ++ 13 :: 10 :: (L ++ [13, 10]))) := fun hh => by
    subst hh
    refine Ev.step (fun k => by rw [depotref12_PrintReply.j0]) (Ev.neg (by simp) (Ev.pos rfl ?_))
    rw [bOf_size, e1, bOf_append]
    exact Ev.pos (by simp only [List.length_append, List.length_cons, List.length_nil]; omega) (Ev.some' (by simp))
  refine Ev.pos (by omega) (Ev.sbind (ref_nobody c) ?_)
  cases nobody c
  · refine Ev.neg (by simp) ?_
    cases hd
    · exact Ev.neg (by simp) (Ev.eq jt (by simp))
    · refine Ev.pos rfl ?_
      rw [ne_dec]
      by_cases h : b = []
      · rw [decide_eq_false (fun k => k h)]
        exact Ev.eq (jf rfl) (by simp [h])
      · rw [decide_eq_true h]
        exact Ev.eq jt (by simp [h])
  · exact Ev.pos rfl (Ev.pos (by omega) (Ev.some' (by simp)))
theorem refLong_eq (fs : List S98) : refLong fs = fs.any longF := by
  unfold refLong longF
  congr 1
  funext x
  rw [lnF_len]
theorem refChk_eq : ∀ l : List S98, (∀ x ∈ l, smallF 1000000 x) → Ev (fun k => refChk k l) (l.all fineF)
  | [], _ => by unfold refChk; exact Ev.some' rfl
  | x :: l, h => by
    have hx := h x List.mem_cons_self
    have ih := refChk_eq l (fun y hy => h y (List.mem_cons_of_mem x hy))
    have e1 := size_data x.f0
    have e2 := size_data x.f1
    have h1 := hx.1
    have h2 := hx.2
    have a1 := ref_IsToken x.f0.data.toList (by omega)
    have a2 := ref_IsText x.f1.data.toList (by omega)
    have a3 := ref_Trim x.f1 (by omega)
    rw [bOf_data] at a1 a2
    have goal : Ev (fun k => (depotref01_IsToken.f k x.f0).bind fun a => if a = true then ((depotref01_IsText.f k x.f1).bind fun b => if b = true then ((depotref01_Trim.f k x.f1).bind fun t => if (t.toList == x.f1.toList) = true then refChk k l else some false) else some false) else some false) ((x :: l).all fineF) := by
      rw [List.all_cons]
      unfold fineF isTok isTxt
      refine Ev.bind a1 ?_
      cases c1 : (!x.f0.data.toList.isEmpty && x.f0.data.toList.all tokU)
      · exact Ev.neg (by simp) (Ev.some' rfl)
      refine Ev.pos rfl (Ev.bind a2 ?_)
      cases c2 : x.f1.data.toList.all textU
      · exact Ev.neg (by simp) (Ev.some' rfl)
      refine Ev.pos rfl (Ev.bind a3 ?_)
      rw [toList_bOf, toList_data]
      cases c3 : (trim x.f1.data.toList == x.f1.data.toList)
      · exact Ev.neg (by simp) (Ev.some' rfl)
      exact Ev.pos rfl ih
    exact Ev.congr (fun k => by rw [refChk]) goal
theorem ref_check (fs : List S98) (h : okPs fs) : Ev (fun k => depotref09_Check.f k fs) (checkS fs) := by
  unfold depotref09_Check.f checkS
  refine Ev.ite2 (fun _ => Ev.some' rfl) (fun _ => ?_)
  refine Ev.pos (fun x hx => h.2 x hx) (Ev.bind (refChk_eq fs h.2) (Ev.some' ?_))
  rw [refLong_eq]
theorem drop_le (fs : List S98) : (dropS names3 fs).length ≤ fs.length := List.length_filter_le _ _
theorem ref_fits (fs : List S98) (h : okPs fs) : Ev (fun k => depotref12_fits.f k fs) (fitS fs) := by
  have hd := drop_le fs
  unfold depotref12_fits.f fitS
  refine Ev.bind (ref_check fs h) (Ev.ite2 (fun _ => ?_) (fun _ => Ev.some' rfl))
  refine Ev.sbind (show depotref12_framing.f = some names3 from rfl) (Ev.bind (ref_Drop fs names3 (by have := h.1; omega) (by decide) h.2 (by decide)) ?_)
  by_cases c : (dropS names3 fs).length < fs.length
  · rw [if_pos c]
    exact Ev.neg (by omega) (Ev.some' rfl)
  · rw [if_neg c]
    exact Ev.pos (by omega) (Ev.some' rfl)
theorem fit_le {fs : List S98} (h : fitS fs = 0) : fs.length ≤ 64 := by
  unfold fitS at h
  by_cases c : checkS fs = 0
  · unfold checkS at c
    by_cases c2 : 64 < fs.length
    · rw [if_pos c2] at c; cases c
    · omega
  · rw [if_neg c] at h; exact absurd h c
theorem lng_long {l : List UInt8} {n : Nat} (h : 65536 < l.length) : lngS l n = 4 := if_pos (Or.inl h)
theorem lng_rows {l : List UInt8} {n : Nat} (h : 64 < n) : lngS l n = 4 := if_pos (Or.inr h)
theorem lng_ok {l : List UInt8} {n : Nat} (h : ¬ 65536 < l.length) (h2 : ¬ 64 < n) : lngS l n = 0 := if_neg (fun k => k.elim h h2)
theorem ref_ckRq (m t : List UInt8) (v : Int) (fs : List S98) (b : List UInt8) (hm : m.length ≤ 40000) (ht : t.length ≤ 40000) (hv : rng v) (hf : okPs fs) (hb : b.length ≤ 1000000) : Ev (fun k => depotref12_CheckRequest.f k (bOf m) (bOf t) v fs (bOf b)) (ckRq m t v fs b) := by
  have hp := plain_len v hv
  have hw : (reqW m t v).length ≤ 100000 := by unfold reqW http; simp; omega
  have no : ¬ (v = 0 ∨ v = 1) → ckRq m t v fs b = 20 := fun h => by
    unfold ckRq
    exact if_neg (fun h0 => h (req_any m t v h0).1.2.2.2)
  have jt : Ev (fun k => depotref12_CheckRequest.j0 k true (bOf m) (bOf t) v fs (bOf b)) 20 := Ev.step (fun k => by rw [depotref12_CheckRequest.j0]) (Ev.pos rfl (Ev.some' rfl))
  have jt1 : Ev (fun k => depotref12_CheckRequest.j1 k true (bOf m) (bOf t) v fs (bOf b)) 20 := Ev.step (fun k => by rw [depotref12_CheckRequest.j1]) (Ev.pos rfl (Ev.some' rfl))
  unfold depotref12_CheckRequest.f
  by_cases c0 : v < 0
  · exact Ev.pos c0 (Ev.eq jt (no (by omega)).symm)
  refine Ev.neg c0 ?_
  by_cases c1 : v > 1
  · rw [decide_eq_true c1]
    exact Ev.eq jt (no (by omega)).symm
  rw [decide_eq_false c1]
  refine Ev.step (fun k => by rw [depotref12_CheckRequest.j0]) (Ev.neg (by simp) (Ev.bind (ref_PrintRequest m t v (by omega) (by omega) hv) (Ev.bind (ref_Request _ hw) ?_)))
  by_cases h0 : (reqL (reqW m t v)).2.2.2 = 0
  case neg =>
    have e : ckRq m t v fs b = 20 := by unfold ckRq; exact if_neg h0
    rw [e]
    exact Ev.neg h0 jt1
  obtain ⟨_, hr⟩ := req_any m t v h0
  unfold ckRq
  rw [if_pos h0, hr]
  refine Ev.pos rfl (Ev.pos rfl ?_)
  rw [show ((reqB (m, t, v, 0)).2.1.toList != (bOf t).toList) = false from by show ((bOf t).toList != (bOf t).toList) = false; simp]
  refine Ev.step (fun k => by rw [depotref12_CheckRequest.j1]) (Ev.neg (by simp) (Ev.bind (ref_fits fs hf) ?_))
  refine Ev.ite2 (fun c2 => ?_) (fun _ => Ev.some' rfl)
  refine Ev.bind (ref_host fs v (by have := hf.1; omega) hf.2) (Ev.ite2 (fun c3 => ?_) (fun _ => Ev.some' rfl))
  refine Ev.bind (ref_pRq m t v fs b (by omega) (by omega) hv hf hb) ?_
  have h64 := fit_le c2
  rw [bOf_size, toList_bOf]
  by_cases c4 : 65536 < (pRq m t v fs b).length
  · rw [lng_long c4]
    exact Ev.pos (by omega) (Ev.some' rfl)
  refine Ev.neg (by omega) ?_
  by_cases c5 : b = []
  · have e : (if b = [] then fs.length else fs.length + 1) = fs.length := if_pos c5
    rw [e, lng_ok c4 (by omega)]
    exact Ev.pos c5 (Ev.some' rfl)
  have e : (if b = [] then fs.length else fs.length + 1) = fs.length + 1 := if_neg c5
  rw [e]
  refine Ev.neg c5 ?_
  by_cases c6 : 64 < fs.length + 1
  · rw [lng_rows c6]
    exact Ev.pos (by omega) (Ev.some' rfl)
  · rw [lng_ok c4 c6]
    exact Ev.neg (by omega) (Ev.some' rfl)
theorem ref_ckRp (c : Int) (r : List UInt8) (v : Int) (fs : List S98) (b : List UInt8) (hr : r.length ≤ 40000) (hc : rng c) (hv : rng v) (hf : okPs fs) (hb : b.length ≤ 1000000) : Ev (fun k => depotref12_CheckReply.f k c (bOf r) v fs (bOf b)) (ckRp c r v fs b) := by
  have hp := plain_len v hv
  have hpc := plain_len c hc
  have hw : (staW c r v).length ≤ 100000 := by unfold staW http; simp; omega
  have no : ¬ ((staL (staW c r v)).2.2.2 = 0 ∧ 200 ≤ c ∧ c ≤ 599) → ckRp c r v fs b = 20 := fun h => by
    unfold ckRp
    exact if_neg h
  have nov : ¬ (v = 0 ∨ v = 1) → ckRp c r v fs b = 20 := fun h => no (fun hh => h (sta_any c r v hh.2.1 hh.2.2 hh.1).1.2)
  have jt : Ev (fun k => depotref12_CheckReply.j0 k true c (bOf r) v fs (bOf b)) 20 := Ev.step (fun k => by rw [depotref12_CheckReply.j0]) (Ev.pos rfl (Ev.some' rfl))
  have jt1 : Ev (fun k => depotref12_CheckReply.j1 k true c (bOf r) v fs (bOf b)) 20 := Ev.step (fun k => by rw [depotref12_CheckReply.j1]) (Ev.pos rfl (Ev.some' rfl))
  have jt2 : Ev (fun k => depotref12_CheckReply.j2 k true c (bOf r) v fs (bOf b)) 22 := Ev.step (fun k => by rw [depotref12_CheckReply.j2]) (Ev.pos rfl (Ev.some' rfl))
  unfold depotref12_CheckReply.f
  by_cases c0 : v < 0
  · exact Ev.pos c0 (Ev.eq jt (nov (by omega)).symm)
  refine Ev.neg c0 ?_
  by_cases c1 : v > 1
  · exact Ev.pos c1 (Ev.eq jt (nov (by omega)).symm)
  refine Ev.neg c1 ?_
  by_cases c2 : c < 200
  · exact Ev.pos c2 (Ev.eq jt (no (by omega)).symm)
  refine Ev.neg c2 ?_
  by_cases c3 : c > 599
  · rw [decide_eq_true c3]
    exact Ev.eq jt (no (by omega)).symm
  rw [decide_eq_false c3]
  refine Ev.step (fun k => by rw [depotref12_CheckReply.j0]) (Ev.neg (by simp) (Ev.bind (ref_PrintStatus c r v (by omega) hc hv) (Ev.bind (ref_Status _ hw) ?_)))
  by_cases h0 : (staL (staW c r v)).2.2.2 = 0
  case neg => exact Ev.neg h0 (Ev.eq jt1 (no (fun h => h0 h.1)).symm)
  obtain ⟨_, hs⟩ := sta_any c r v (by omega) (by omega) h0
  unfold ckRp
  rw [if_pos ⟨h0, by omega, by omega⟩, hs]
  refine Ev.pos rfl ?_
  rw [show ((staB (c, r, v, 0)).2.1.toList != (bOf r).toList) = false from by show ((bOf r).toList != (bOf r).toList) = false; simp]
  refine Ev.step (fun k => by rw [depotref12_CheckReply.j1]) (Ev.neg (by simp) (Ev.bind (ref_fits fs hf) ?_))
  refine Ev.ite2 (fun c4 => ?_) (fun _ => Ev.some' rfl)
  have h64 := fit_le c4
  have pr := ref_pRp c r v fs b false (by omega) hc hv hf hb
  refine Ev.sbind (ref_nobody c) ?_
  cases hn : nobody c
  · refine Ev.neg (by simp) ?_
    rw [if_neg (by simp)]
    refine Ev.step (fun k => by rw [depotref12_CheckReply.j2]) (Ev.neg (by simp) (Ev.bind pr ?_))
    rw [bOf_size]
    by_cases c5 : 65536 < (pRp c r v fs b false).length
    · rw [lng_long c5]
      exact Ev.pos (by omega) (Ev.some' rfl)
    refine Ev.neg (by omega) (Ev.sbind ((ref_nobody c).trans (congrArg some hn)) (Ev.neg (by simp) ?_))
    by_cases c6 : 64 < fs.length + 1
    · rw [lng_rows c6]
      exact Ev.pos (by omega) (Ev.some' rfl)
    · rw [lng_ok c5 c6]
      exact Ev.neg (by omega) (Ev.some' rfl)
  · refine Ev.pos rfl ?_
    rw [if_pos rfl, toList_bOf, ne_dec]
    by_cases c7 : b = []
    · rw [if_pos c7, decide_eq_false (fun k => k c7)]
      refine Ev.step (fun k => by rw [depotref12_CheckReply.j2]) (Ev.neg (by simp) (Ev.bind pr ?_))
      rw [bOf_size]
      by_cases c5 : 65536 < (pRp c r v fs b false).length
      · rw [lng_long c5]
        exact Ev.pos (by omega) (Ev.some' rfl)
      rw [lng_ok c5 (by omega)]
      refine Ev.neg (by omega) (Ev.sbind ((ref_nobody c).trans (congrArg some hn)) ?_)
      exact Ev.pos rfl (Ev.some' rfl)
    · rw [if_neg c7, decide_eq_true c7]
      exact jt2
theorem mprints_law (a0 a1 : ByteArray) (v : Int) (fs : List S98) (a4 : ByteArray) (c : Int) (b1 : ByteArray) (v2 : Int) (gs : List S98) (b4 : ByteArray) (head : Bool) (hv : (Lit.int .i64 v).wf = true) (hc : (Lit.int .i64 c).wf = true) (hv2 : (Lit.int .i64 v2).wf = true) (hfs : fs.length ≤ 9223372036854775807) (hgs : gs.length ≤ 9223372036854775807) : ∃ k, depotlaw12_MessagePrints.f k a0 a1 v fs a4 c b1 v2 gs b4 head = some true := by
  have hv : rng v := wf64 hv
  have hc : rng c := wf64 hc
  have hv2 : rng v2 := wf64 hv2
  obtain ⟨m, rfl, hm⟩ := ex_bOf a0
  obtain ⟨t, rfl, ht⟩ := ex_bOf a1
  obtain ⟨b, rfl, hb⟩ := ex_bOf a4
  obtain ⟨r, rfl, hr⟩ := ex_bOf b1
  obtain ⟨d, rfl, hd⟩ := ex_bOf b4
  have main : Ev (fun k => depotlaw12_MessagePrints.f k (bOf m) (bOf t) v fs (bOf b) c (bOf r) v2 gs (bOf d) head) true := by
    unfold depotlaw12_MessagePrints.f
    obtain ⟨x, hx, h1⟩ := few_rq (bOf m) (bOf t) v fs (bOf b) hfs
    refine Ev.bind hx ?_
    cases x
    · exact Ev.neg (by simp) lawR_messages
    obtain ⟨m1, t1, q1, f1⟩ := h1 rfl
    rw [bOf_size] at m1 t1 q1
    refine Ev.pos rfl ?_
    obtain ⟨y, hy, h2⟩ := few_rp c (bOf r) v2 gs (bOf d) hgs
    refine Ev.bind hy ?_
    cases y
    · exact Ev.neg (by simp) lawR_messages
    obtain ⟨r1, d1, g1⟩ := h2 rfl
    rw [bOf_size] at r1 d1
    have hps := f1.ps
    have hqs := g1.ps
    refine Ev.pos rfl (Ev.bind (prog_pRq m t v fs b (by omega) (by omega) hv hps (by omega)) (Ev.bind (ref_pRq m t v fs b (by omega) (by omega) hv hps (by omega)) (Ev.bind (prog_pRp c r v2 gs d head (by omega) hc hv2 hqs (by omega)) (Ev.bind (ref_pRp c r v2 gs d head (by omega) hc hv2 hqs (by omega)) ?_))))
    refine Ev.bind (prog_ckRq m t v fs b (by omega) (by omega) hv hps (by omega)) (Ev.bind (ref_ckRq m t v fs b (by omega) (by omega) hv hps (by omega)) (Ev.bind (prog_ckRp c r v2 gs d (by omega) hc hv2 hqs (by omega)) (Ev.bind (ref_ckRp c r v2 gs d (by omega) hc hv2 hqs (by omega)) ?_)))
    exact Ev.sbind (prog_nobody c) (Ev.sbind (ref_nobody c) (Ev.pos ⟨rfl, rfl, rfl, rfl, rfl⟩ lawR_messages))
  obtain ⟨K, hK⟩ := main
  exact ⟨K, hK K (Nat.le_refl _)⟩
end Go.Proofs.YtjaklgikfcahdaaGreatDoor.Pu
