/- Plain lemmas and the statement's own law. -/
import Derived.Test.YtjaklgikfcahdaaGreatDoorWWords
import Derived.Test.YtjaklgikfcahdaaGreatDoorWLast
import Derived.Test.YtjaklgikfcahdaaGreatDoorHand
import Derived.Lib.Strings
import Derived.IntWalk
import Derived.Test.YtjaklgikfcahdaaGreatDoorPV12
import Derived.Lib.SlTrimSet
import Derived.Test.YtjaklgikfcahdaaGreatDoorOctet
import Derived.Test.YtjaklgikfcahdaaGreatDoorPV2
import Derived.Test.YtjaklgikfcahdaaGreatDoorPV3
import Derived.Test.YtjaklgikfcahdaaGreatDoorPV10
import Derived.Test.YtjaklgikfcahdaaGreatDoorPV11
import Derived.KernelRfl
import Derived.Test.YtjaklgikfcahdaaGreatDoorDigit
import Derived.Test.YtjaklgikfcahdaaGreatDoorPV15
import Derived.Test.YtjaklgikfcahdaaGreatDoorPV4
import Derived.Test.YtjaklgikfcahdaaGreatDoorPV13
import Derived.Test.YtjaklgikfcahdaaGreatDoorPV6
import Derived.Lib.ItoaMem
import Derived.Test.YtjaklgikfcahdaaGreatDoorPV20
import Derived.Lib.SplitLaws
import Derived.Test.YtjaklgikfcahdaaGreatDoorLower
import Derived.Test.YtjaklgikfcahdaaGreatDoorPV5
import Derived.Test.YtjaklgikfcahdaaGreatDoorPV19
import Derived.Test.YtjaklgikfcahdaaGreatDoorPV21
import Derived.Test.YtjaklgikfcahdaaGreatDoorPV16
import Derived.Test.YtjaklgikfcahdaaGreatDoorPV17
import Derived.Test.YtjaklgikfcahdaaGreatDoorPV18
namespace Go.Proofs.YtjaklgikfcahdaaGreatDoor.Pu
open Go.RowKit Go.Proofs.YtjaklgikfcahdaaGreatDoorW.PrintWords Go.Proofs.YtjaklgikfcahdaaGreatDoorW.PrintLast
set_option linter.unusedVariables false
set_option linter.unusedSimpArgs false
def bOf (l : List UInt8) : ByteArray := ⟨l.toArray⟩
theorem bOf_data (s : ByteArray) : bOf s.data.toList = s := by obtain ⟨⟨l⟩⟩ := s; rfl
theorem bOf_mk (l : List UInt8) : (⟨l.toArray⟩ : ByteArray) = bOf l := rfl
theorem data_bOf (l : List UInt8) : (bOf l).data.toList = l := rfl
theorem bOf_size (l : List UInt8) : (bOf l).size = l.length := by unfold bOf; simp [ByteArray.size]
theorem size_data (s : ByteArray) : s.data.toList.length = s.size := data_length s
theorem toList_bOf (l : List UInt8) : (bOf l).toList = l := by rw [ByteArray.toList_eq]; rfl
theorem bOf_extract (l : List UInt8) (i j : Nat) : (bOf l).extract i j = bOf ((l.take j).drop i) := by
  have h := Go.Lib.extract_data (bOf l) i j
  rw [← bOf_data ((bOf l).extract i j), h, data_bOf, List.drop_take]
theorem bOf_append (a b : List UInt8) : bOf a ++ bOf b = bOf (a ++ b) := by
  have h : ((bOf a) ++ (bOf b)).data.toList = a ++ b := by simp [bOf]
  rw [← bOf_data (bOf a ++ bOf b), h]
theorem ex_bOf (s : ByteArray) : ∃ l, s = bOf l ∧ l.length = s.size := ⟨s.data.toList, (bOf_data s).symm, size_data s⟩
def at_ (l : List UInt8) (i : Nat) : Int := (l.getD i 0).toNat
theorem bt_bOf (l : List UInt8) (i : Int) (h0 : 0 ≤ i) (h : i < l.length) : bt (bOf l) i = at_ l i.toNat := by
  have h' : i.toNat < (bOf l).size := by rw [bOf_size]; omega
  rw [← bt_at (bOf l) i h', at_]
  have hl : i.toNat < l.length := by omega
  rw [List.getD_eq_getElem?_getD, List.getElem?_eq_getElem hl]
  rfl
theorem at_lt (l : List UInt8) (i : Nat) (h : i < l.length) : at_ l i = (l[i]).toNat := by simp [at_, List.getD_eq_getElem?_getD, List.getElem?_eq_getElem h]
theorem u8_eq {c : UInt8} {n : Nat} (hn : n < 256) : (c.toNat : Int) = n ↔ c = UInt8.ofNat n := by
  constructor
  · intro h
    have h' : c.toNat = n := by omega
    rw [← h']; simp
  · intro h; subst h; simp; omega
theorem wrap_id {n : Int} (h0 : -9223372036854775808 ≤ n) (h : n ≤ 9223372036854775807) : wrap64 n = n := Go.IntWalk.wrap64_in n ⟨h0, h⟩
theorem Ev.ite {α : Type} {c : Prop} [Decidable c] {f g : Nat → Option α} {r : α} (h : c → Ev f r) (k : ¬ c → Ev g r) : Ev (fun n => if c then f n else g n) r := by
  by_cases hc : c
  · exact Ev.congr (fun n => if_pos hc) (h hc)
  · exact Ev.congr (fun n => if_neg hc) (k hc)
theorem Ev.pos {α : Type} {c : Prop} [Decidable c] {f g : Nat → Option α} {r : α} (hc : c) (h : Ev f r) : Ev (fun n => if c then f n else g n) r := Ev.congr (fun n => if_pos hc) h
theorem Ev.neg {α : Type} {c : Prop} [Decidable c] {f g : Nat → Option α} {r : α} (hc : ¬ c) (h : Ev g r) : Ev (fun n => if c then f n else g n) r := Ev.congr (fun n => if_neg hc) h
theorem Ev.sbind {α β : Type} {x : Option α} {f : Nat → α → Option β} {a : α} {r : β} (h : x = some a) (k : Ev (fun n => f n a) r) : Ev (fun n => x.bind (f n)) r := Ev.congr (fun n => by rw [h]; rfl) k
theorem Ev.some' {α : Type} {a r : α} (h : a = r) : Ev (fun _ => some a) r := ⟨0, fun _ _ => by rw [h]⟩
theorem Ev.eq {α : Type} {g : Nat → Option α} {a b : α} (h : Ev g a) (e : a = b) : Ev g b := e ▸ h
end Go.Proofs.YtjaklgikfcahdaaGreatDoor.Pu
namespace Go.Proofs.YtjaklgikfcahdaaGreatDoor.Pu
open Go.RowKit Go.Proofs.YtjaklgikfcahdaaGreatDoorW.PrintWords Go.Proofs.YtjaklgikfcahdaaGreatDoorW.PrintLast Go.Proofs.YtjaklgikfcahdaaGreatDoor.PV
set_option linter.unusedVariables false
set_option linter.unusedSimpArgs false
def isBl (c : UInt8) : Bool := ([32, 9] : List UInt8).contains c
def trimL (l : List UInt8) : List UInt8 := l.dropWhile isBl
def trimR (l : List UInt8) : List UInt8 := (l.reverse.dropWhile isBl).reverse
def trim (l : List UInt8) : List UInt8 := trimL (trimR l)
theorem trim_eq (l : List UInt8) : Lib.trimS l [32, 9] = trim l := rfl
theorem trimR_cons (x : UInt8) (l : List UInt8) : trimR (x :: l) = if trimR l = [] then (if isBl x = true then [] else [x]) else x :: trimR l := by
  unfold trimR
  rw [List.reverse_cons, List.dropWhile_append]
  by_cases h : List.dropWhile isBl l.reverse = []
  · rw [h]
    simp [List.dropWhile_cons]
    by_cases hx : isBl x = true <;> simp [hx]
  · have hb : (List.dropWhile isBl l.reverse).isEmpty = false := by simpa using h
    simp [hb, h]
theorem trim_comm (l : List UInt8) : trimR (trimL l) = trimL (trimR l) := by
  induction l with
  | nil => rfl
  | cons x l ih =>
    rw [trimR_cons]
    by_cases hx : isBl x = true
    · have h1 : trimL (x :: l) = trimL l := by simp [trimL, List.dropWhile_cons, hx]
      rw [h1, ih]
      by_cases h : trimR l = []
      · rw [if_pos h, if_pos hx, h]
      · rw [if_neg h]
        simp [trimL, List.dropWhile_cons, hx]
    · have h1 : trimL (x :: l) = x :: l := by simp [trimL, List.dropWhile_cons, hx]
      rw [h1, trimR_cons]
      by_cases h : trimR l = []
      · rw [if_pos h, if_neg hx]; simp [trimL, List.dropWhile_cons, hx]
      · rw [if_neg h]; simp [trimL, List.dropWhile_cons, hx]
theorem blank_some (c : UInt8) : depotref01_blank.f (c.toNat : Int) = some (isBl c) := by
  unfold depotref01_blank.f
  by_cases h : (c.toNat : Int) = 32
  · rw [if_pos h]
    have : c = 32 := (u8_eq (by decide)).1 h
    subst this; rfl
  · rw [if_neg h]
    congr 1
    have h1 : ¬ c = 32 := fun e => h (by rw [e]; rfl)
    by_cases h2 : (c.toNat : Int) = 9
    · have : c = 9 := (u8_eq (by decide)).1 h2
      subst this; rfl
    · have h3 : ¬ c = 9 := fun e => h2 (by rw [e]; rfl)
      have : isBl c = false := by simp [isBl, h1, h3]
      rw [this]; simpa using h2
theorem trim_l1 (n : Nat) : ∀ l : List UInt8, l.length = n → n ≤ 9223372036854775807 → Ev (fun k => depotref01_Trim.l1 k (bOf l)) (bOf (trimR l)) := by
  induction n with
  | zero =>
    intro l hl _
    obtain rfl := List.length_eq_zero_iff.1 hl
    refine Ev.step (fun k => by rw [depotref01_Trim.l1]) ?_
    refine Ev.neg (by rw [bOf_size]; simp) (Ev.some' rfl)
  | succ n ih =>
    intro l hl hn
    obtain ⟨m, c, rfl⟩ : ∃ m c, l = m ++ [c] := ⟨l.dropLast, l.getLast (by intro h; simp [h] at hl), (List.dropLast_concat_getLast _).symm⟩
    have hm : m.length = n := by simpa using hl
    have hs : ((bOf (m ++ [c])).size : Int) = n + 1 := by rw [bOf_size]; simp [hm]
    have hw : wrap64 (((bOf (m ++ [c])).size : Int) - 1) = n := by rw [hs, wrap_id] <;> omega
    refine Ev.step (fun k => by rw [depotref01_Trim.l1]) ?_
    rw [hw, hs]
    refine Ev.pos (by omega) (Ev.pos (by omega) (Ev.pos (by omega) ?_))
    have hb : bt (bOf (m ++ [c])) (n : Int) = c.toNat := by
      rw [bt_bOf _ _ (by omega) (by simp [hm]; omega)]; simp [at_, ← hm]
    rw [hb]
    refine Ev.sbind (blank_some c) ?_
    have htr : trimR (m ++ [c]) = if isBl c = true then trimR m else m ++ [c] := by
      unfold trimR
      rw [List.reverse_append]
      simp [List.dropWhile_cons]
      by_cases hc : isBl c = true <;> simp [hc]
    refine Ev.ite (fun hc => ?_) (fun hc => ?_)
    · rw [htr, if_pos hc]
      refine Ev.pos (by omega) ?_
      have : (bOf (m ++ [c])).extract 0 ((n : Int)).toNat = bOf m := by rw [bOf_extract]; simp [← hm]
      rw [this]
      exact ih m hm (by omega)
    · rw [htr, if_neg hc]
      exact Ev.some' rfl
theorem trim_j1 (l : List UInt8) (h : l.length ≤ 9223372036854775807) : Ev (fun k => depotref01_Trim.j1 k (bOf l)) (bOf (trimR l)) :=
  Ev.step (fun k => by rw [depotref01_Trim.j1]) (trim_l1 _ l rfl h)
theorem trim_l0 (n : Nat) : ∀ l : List UInt8, l.length = n → n ≤ 9223372036854775807 → Ev (fun k => depotref01_Trim.l0 k (bOf l)) (bOf (trimR (trimL l))) := by
  induction n with
  | zero =>
    intro l hl hn
    obtain rfl := List.length_eq_zero_iff.1 hl
    refine Ev.step (fun k => by rw [depotref01_Trim.l0]) ?_
    exact Ev.neg (by rw [bOf_size]; simp) (trim_j1 [] (by simp))
  | succ n ih =>
    intro l hl hn
    match l, hl with
    | c :: m, hl =>
      have hm : m.length = n := by simpa using hl
      have hs : ((bOf (c :: m)).size : Int) = n + 1 := by rw [bOf_size]; simp [hm]
      refine Ev.step (fun k => by rw [depotref01_Trim.l0]) ?_
      rw [hs]
      refine Ev.pos (by omega) (Ev.pos (by omega) ?_)
      have hb : bt (bOf (c :: m)) 0 = c.toNat := by rw [bt_bOf _ _ (by omega) (by simp)]; rfl
      rw [hb]
      refine Ev.sbind (blank_some c) ?_
      refine Ev.ite (fun hc => ?_) (fun hc => ?_)
      · refine Ev.pos (by omega) ?_
        have : (bOf (c :: m)).extract 1 (bOf (c :: m)).size = bOf m := by rw [bOf_extract, bOf_size]; simp
        rw [this]
        have h1 : trimL (c :: m) = trimL m := by simp [trimL, List.dropWhile_cons, hc]
        rw [h1]
        exact ih m hm (by omega)
      · have h1 : trimL (c :: m) = c :: m := by simp [trimL, List.dropWhile_cons, hc]
        rw [h1]
        exact trim_j1 _ (by simp [hm]; omega)
theorem ref_Trim (s : ByteArray) (h : s.size ≤ 9223372036854775807) : Ev (fun k => depotref01_Trim.f k s) (bOf (trim s.data.toList)) := by
  have := trim_l0 _ s.data.toList rfl (by rw [size_data]; exact h)
  rw [bOf_data, trim_comm] at this
  exact this
theorem trim_le (l : List UInt8) : (trim l).length ≤ l.length := by
  unfold trim trimL trimR
  refine Nat.le_trans (List.dropWhile_sublist _).length_le ?_
  rw [List.length_reverse]
  refine Nat.le_trans (List.dropWhile_sublist _).length_le ?_
  rw [List.length_reverse]
  exact Nat.le_refl _
end Go.Proofs.YtjaklgikfcahdaaGreatDoor.Pu
namespace Go.Proofs.YtjaklgikfcahdaaGreatDoor.Pu
open Go.RowKit Go.Proofs.YtjaklgikfcahdaaGreatDoorW.PrintWords Go.Proofs.YtjaklgikfcahdaaGreatDoorW.PrintLast Go.Proofs.YtjaklgikfcahdaaGreatDoor.PV
set_option linter.unusedVariables false
set_option linter.unusedSimpArgs false
def cutAt (c : UInt8) : List UInt8 → List UInt8 × List UInt8 × Bool
  | [] => ([], [], false)
  | x :: l => if x = c then ([], l, true) else (x :: (cutAt c l).1, (cutAt c l).2.1, (cutAt c l).2.2)
theorem cut_index (c : UInt8) : ∀ l, Lib.indexByte l c = if (cutAt c l).2.2 = true then ((cutAt c l).1.length : Int) else -1
  | [] => rfl
  | x :: l => by
    have ih := cut_index c l
    unfold Lib.indexByte cutAt
    by_cases h : x = c
    · subst h; simp
    · rw [if_neg (by simpa using h), if_neg h, ih]
      cases (cutAt c l).2.2
      · simp
      · simp only [if_true, List.length_cons]
        rw [if_neg (by simp <;> omega)]
        omega
theorem cut_yes (c : UInt8) : ∀ l, (cutAt c l).2.2 = true → l = (cutAt c l).1 ++ c :: (cutAt c l).2.1
  | [], h => by cases h
  | x :: l, h => by
    unfold cutAt at h ⊢
    by_cases e : x = c
    · subst e; simp
    · rw [if_neg e] at h
      simp only [if_neg e]
      have := cut_yes c l h
      rw [List.cons_append, ← this]
theorem cut_no (c : UInt8) : ∀ l, (cutAt c l).2.2 = false → (cutAt c l).1 = l ∧ (cutAt c l).2.1 = []
  | [], _ => ⟨rfl, rfl⟩
  | x :: l, h => by
    unfold cutAt at h ⊢
    by_cases e : x = c
    · rw [if_pos e] at h; cases h
    · rw [if_neg e] at h
      simp only [if_neg e]
      have := cut_no c l h
      exact ⟨by rw [this.1], this.2⟩
theorem cut_le (c : UInt8) (l : List UInt8) : (cutAt c l).1.length ≤ l.length ∧ (cutAt c l).2.1.length ≤ l.length := by
  cases h : (cutAt c l).2.2
  · have := cut_no c l h; rw [this.1, this.2]; simp
  · have := congrArg List.length (cut_yes c l h)
    simp at this
    omega
theorem prog_Cut (c : UInt8) (l : List UInt8) (h : l.length ≤ 4294967296) : octet_Cut.f (bOf l) (c.toNat : Int) = some (bOf (cutAt c l).1, bOf (cutAt c l).2.1, (cutAt c l).2.2) := by
  unfold octet_Cut.f strings_IndexByte.f
  rw [Option.bind_some, data_bOf, show ((c.toNat : Int)).toNat.toUInt8 = c by simp, cut_index]
  cases hh : (cutAt c l).2.2
  · have := cut_no c l hh
    simp only [Bool.false_eq_true, if_false]
    rw [if_pos (by decide), this.1, this.2]; rfl
  · have hy := cut_yes c l hh
    have hl := congrArg List.length hy
    simp at hl
    rw [if_pos rfl, if_neg (by omega), if_pos (by omega), bOf_size, if_pos (by omega), wrap_id (by omega) (by omega), if_pos (by omega), if_pos (by omega), bOf_extract, bOf_extract]
    have e1 : ((l.take ((cutAt c l).1.length : Int).toNat).drop 0) = (cutAt c l).1 := by
      rw [Int.toNat_natCast, List.drop_zero]
      conv => lhs; arg 2; rw [hy]
      exact List.take_left
    have e2 : ((l.take l.length).drop (((cutAt c l).1.length : Int) + 1).toNat) = (cutAt c l).2.1 := by
      rw [List.take_length, show (((cutAt c l).1.length : Int) + 1).toNat = (cutAt c l).1.length + 1 by omega]
      conv => lhs; arg 2; rw [hy]
      rw [List.drop_append, List.drop_eq_nil_of_le (by omega), show (cutAt c l).1.length + 1 - (cutAt c l).1.length = 1 by omega]
      rfl
    rw [e1, e2]
theorem rcut_l0 (c : UInt8) (l : List UInt8) (h : l.length ≤ 4294967296) (n : Nat) : ∀ (p s : List UInt8), s.length = n → l = p ++ s →
    Ev (fun k => depotref01_Cut.l0 k (bOf l) (c.toNat : Int) (p.length : Int)) (bOf (p ++ (cutAt c s).1), bOf (cutAt c s).2.1, (cutAt c s).2.2) := by
  induction n with
  | zero =>
    intro p s hs hl
    have : s = [] := List.eq_nil_of_length_eq_zero hs
    subst this
    rw [List.append_nil] at hl
    subst hl
    refine Ev.step (fun k => by rw [depotref01_Cut.l0]) (Ev.neg (by rw [bOf_size]; omega) (Ev.some' ?_))
    show (bOf l, bOf [], false) = (bOf (l ++ []), bOf [], false)
    rw [List.append_nil]
  | succ n ih =>
    intro p s hs hl
    obtain ⟨x, s, rfl⟩ : ∃ x t, s = x :: t := by
      cases s with
      | nil => simp at hs
      | cons x t => exact ⟨x, t, rfl⟩
    have hlen : l.length = p.length + (s.length + 1) := by rw [hl]; simp
    have hb : bt (bOf l) (p.length : Int) = (x.toNat : Int) := by
      rw [bt_bOf _ _ (by omega) (by omega), Int.toNat_natCast, at_, hl]
      simp [List.getD_eq_getElem?_getD]
    have hw : wrap64 ((p.length : Int) + 1) = (((p ++ [x]).length : Nat) : Int) := by rw [wrap_id (by omega) (by omega)]; simp
    refine Ev.step (fun k => by rw [depotref01_Cut.l0]) (Ev.pos (by rw [bOf_size]; omega) (Ev.pos (by omega) ?_))
    rw [hb, bOf_size]
    by_cases e : x = c
    · subst e
      have hc : cutAt x (x :: s) = ([], s, true) := by unfold cutAt; rw [if_pos rfl]
      rw [hc]
      refine Ev.pos rfl (Ev.pos (by omega) (Ev.pos (by rw [hw]; omega) (Ev.pos (by rw [hw]; simp; omega) (Ev.some' ?_))))
      rw [hw, bOf_extract, bOf_extract, Int.toNat_natCast, Int.toNat_natCast, List.take_length, List.append_nil, hl]
      congr 1
      · congr 1; simp
      · congr 1
        rw [show p ++ x :: s = (p ++ [x]) ++ s by simp, List.drop_left]
    · have hc : cutAt c (x :: s) = (x :: (cutAt c s).1, (cutAt c s).2.1, (cutAt c s).2.2) := by rw [cutAt, if_neg e]
      rw [hc]
      refine Ev.neg (fun h => e (by
        have : x.toNat = c.toNat := by omega
        exact UInt8.toNat_inj.1 this)) ?_
      rw [hw]
      refine Ev.eq (ih (p ++ [x]) s (by simpa using hs) (by rw [hl]; simp)) ?_
      simp
theorem ref_Cut (c : UInt8) (l : List UInt8) (h : l.length ≤ 4294967296) : Ev (fun k => depotref01_Cut.f k (bOf l) (c.toNat : Int)) (bOf (cutAt c l).1, bOf (cutAt c l).2.1, (cutAt c l).2.2) := by
  unfold depotref01_Cut.f
  exact rcut_l0 c l h _ [] l rfl rfl
def textU (b : UInt8) : Bool := Hand.textB (b.toNat : Int)
def tokU (b : UInt8) : Bool := Hand.tokenB (b.toNat : Int)
theorem allB_list (p : Int → Bool) (l : List UInt8) : Hand.allB p (bOf l) (bOf l).size = l.all fun b => p (b.toNat : Int) := by
  rw [bOf_size]
  have key : ∀ n, n ≤ l.length → Hand.allB p (bOf l) n = (l.take n).all fun b => p (b.toNat : Int) := by
    intro n
    induction n with
    | zero => intro _; simp [Hand.allB_zero]
    | succ n ih =>
      intro hn
      rw [Hand.allB_succ, ih (by omega), List.take_add_one, List.all_append, bt_bOf _ _ (by omega) (by omega), Int.toNat_natCast, at_lt _ _ (by omega), List.getElem?_eq_getElem (by omega)]
      simp
  rw [key _ (Nat.le_refl _), List.take_length]
theorem prog_IsText (l : List UInt8) (h : l.length ≤ 4294967296) : octet_IsText.f (bOf l) = some (l.all textU) := by
  unfold octet_IsText.f
  rw [if_pos (by rw [bOf_size]; omega), allB_list]; rfl
theorem prog_IsToken (l : List UInt8) (h : l.length ≤ 4294967296) : octet_IsToken.f (bOf l) = some (!l.isEmpty && l.all tokU) := by
  unfold octet_IsToken.f octet_isToken
  rw [if_pos (by rw [bOf_size]; omega)]
  cases l with
  | nil => rfl
  | cons x l => rw [if_neg (by rw [bOf_size]; simp), allB_list]; rfl
theorem text_all : ∀ c : Fin 256, depotref01_Text.f ((c : Nat) : Int) = some (Hand.textB ((c : Nat) : Int)) := by decide +kernel
theorem ref_Text (b : UInt8) : depotref01_Text.f (b.toNat : Int) = some (textU b) := text_all ⟨b.toNat, b.toNat_lt⟩
theorem tok_all : ∀ c : Fin 256, depotref01_Token.f 20 ((c : Nat) : Int) = some (Hand.tokenB ((c : Nat) : Int)) := by decide +kernel
theorem ref_Token (b : UInt8) : Ev (fun k => depotref01_Token.f k (b.toNat : Int)) (tokU b) := Ev.of (depotref01_Token.mono _) (tok_all ⟨b.toNat, b.toNat_lt⟩)
theorem bt_at_cut (p : List UInt8) (x : UInt8) (s : List UInt8) : bt (bOf (p ++ x :: s)) (p.length : Int) = (x.toNat : Int) := by
  rw [bt_bOf _ _ (by omega) (by simp; omega), Int.toNat_natCast, at_]
  simp [List.getD_eq_getElem?_getD]
theorem rtext_l0 (l : List UInt8) (h : l.length ≤ 4294967296) (n : Nat) : ∀ (p s : List UInt8), s.length = n → l = p ++ s → Ev (fun k => depotref01_IsText.l0 k (bOf l) (p.length : Int)) (s.all textU) := by
  induction n with
  | zero =>
    intro p s hs hl
    have : s = [] := List.eq_nil_of_length_eq_zero hs
    subst this
    rw [List.append_nil] at hl
    subst hl
    refine Ev.step (fun k => by rw [depotref01_IsText.l0]) (Ev.neg (by rw [bOf_size]; omega) (Ev.some' ?_))
    rfl
  | succ n ih =>
    intro p s hs hl
    obtain ⟨x, s, rfl⟩ : ∃ x t, s = x :: t := by
      cases s with
      | nil => simp at hs
      | cons x t => exact ⟨x, t, rfl⟩
    have hlen : l.length = p.length + (s.length + 1) := by rw [hl]; simp
    have hb : bt (bOf l) (p.length : Int) = (x.toNat : Int) := by rw [hl]; exact bt_at_cut p x s
    have hw : wrap64 ((p.length : Int) + 1) = (((p ++ [x]).length : Nat) : Int) := by rw [wrap_id (by omega) (by omega)]; simp
    refine Ev.step (fun k => by rw [depotref01_IsText.l0]) (Ev.pos (by rw [bOf_size]; omega) (Ev.pos (by omega) ?_))
    rw [hb]
    refine Ev.sbind (ref_Text x) ?_
    rw [List.all_cons]
    cases hx : textU x
    · exact Ev.neg (by simp) (Ev.some' rfl)
    · refine Ev.pos rfl ?_
      rw [hw]
      exact Ev.eq (ih (p ++ [x]) s (by simpa using hs) (by rw [hl]; simp)) (by simp)
theorem ref_IsText (l : List UInt8) (h : l.length ≤ 4294967296) : Ev (fun k => depotref01_IsText.f k (bOf l)) (l.all textU) := by
  unfold depotref01_IsText.f
  exact rtext_l0 l h _ [] l rfl rfl
theorem rtok_l0 (l : List UInt8) (h : l.length ≤ 4294967296) (n : Nat) : ∀ (p s : List UInt8), s.length = n → l = p ++ s → Ev (fun k => depotref01_IsToken.l0 k (bOf l) (p.length : Int)) (!l.isEmpty && s.all tokU) := by
  induction n with
  | zero =>
    intro p s hs hl
    have : s = [] := List.eq_nil_of_length_eq_zero hs
    subst this
    rw [List.append_nil] at hl
    subst hl
    refine Ev.step (fun k => by rw [depotref01_IsToken.l0]) (Ev.neg (by rw [bOf_size]; omega) (Ev.some' ?_))
    rw [bOf_size]
    cases l <;> simp
  | succ n ih =>
    intro p s hs hl
    obtain ⟨x, s, rfl⟩ : ∃ x t, s = x :: t := by
      cases s with
      | nil => simp at hs
      | cons x t => exact ⟨x, t, rfl⟩
    have hlen : l.length = p.length + (s.length + 1) := by rw [hl]; simp
    have hb : bt (bOf l) (p.length : Int) = (x.toNat : Int) := by rw [hl]; exact bt_at_cut p x s
    have hw : wrap64 ((p.length : Int) + 1) = (((p ++ [x]).length : Nat) : Int) := by rw [wrap_id (by omega) (by omega)]; simp
    refine Ev.step (fun k => by rw [depotref01_IsToken.l0]) (Ev.pos (by rw [bOf_size]; omega) (Ev.pos (by omega) ?_))
    rw [hb]
    refine Ev.bind (ref_Token x) ?_
    rw [List.all_cons]
    cases hx : tokU x
    · exact Ev.neg (by simp) (Ev.some' (by simp))
    · refine Ev.pos rfl ?_
      rw [hw]
      exact Ev.eq (ih (p ++ [x]) s (by simpa using hs) (by rw [hl]; simp)) (by simp)
theorem ref_IsToken (l : List UInt8) (h : l.length ≤ 4294967296) : Ev (fun k => depotref01_IsToken.f k (bOf l)) (!l.isEmpty && l.all tokU) := by
  unfold depotref01_IsToken.f
  exact rtok_l0 l h _ [] l rfl rfl
def isTok (l : List UInt8) : Bool := !l.isEmpty && l.all tokU
def isTxt (l : List UInt8) : Bool := l.all textU
end Go.Proofs.YtjaklgikfcahdaaGreatDoor.Pu
namespace Go.Proofs.YtjaklgikfcahdaaGreatDoor.Pu
open Go.RowKit Go.Proofs.YtjaklgikfcahdaaGreatDoorW.PrintWords Go.Proofs.YtjaklgikfcahdaaGreatDoorW.PrintLast Go.Proofs.YtjaklgikfcahdaaGreatDoor.PV
set_option linter.unusedVariables false
set_option linter.unusedSimpArgs false
def parseL (l : List UInt8) : List UInt8 × List UInt8 × Int :=
  if 8192 < l.length then ([], [], 4)
  else if (cutAt 58 l).2.2 = true ∧ isTok (cutAt 58 l).1 = true ∧ isTxt (trim (cutAt 58 l).2.1) = true then ((cutAt 58 l).1, trim (cutAt 58 l).2.1, 0)
  else ([], [], 21)
theorem prog_Trim (l : List UInt8) (h : l.length ≤ 4294967296) : octet_Trim.f (bOf l) = some (bOf (trim l)) := by
  unfold octet_Trim.f
  rw [if_pos (by rw [bOf_size]; omega), data_bOf, trim_eq]; rfl
theorem prog_Parse (l : List UInt8) (h : l.length ≤ 4294967296) : fields_Parse.f (bOf l) = some (bOf (parseL l).1, bOf (parseL l).2.1, (parseL l).2.2) := by
  unfold fields_Parse.f parseL
  have hc := cut_le 58 l
  have ht := trim_le (cutAt 58 l).2.1
  rw [bOf_size]
  by_cases c1 : 8192 < l.length
  · rw [if_pos (by omega), if_pos c1]; rfl
  · rw [if_neg (by omega), if_neg c1, show (58 : Int) = (((58 : UInt8).toNat : Nat) : Int) by rfl, prog_Cut 58 l h, Option.bind_some, prog_Trim _ (by omega), Option.bind_some, prog_IsToken _ (by omega), prog_IsText _ (by omega)]
    simp only [Option.bind_some]
    cases h1 : (cutAt 58 l).2.2
    · rw [if_neg (by simp), if_neg (by simp)]; rfl
    · rw [if_pos rfl]
      cases h2 : isTok (cutAt 58 l).1
      · unfold isTok at h2
        rw [h2, if_neg (by simp), if_neg (by simp)]; rfl
      · unfold isTok at h2
        rw [h2, if_pos rfl]
        cases h3 : isTxt (trim (cutAt 58 l).2.1)
        · unfold isTxt at h3
          rw [h3, if_neg (by simp), if_neg (by simp)]; rfl
        · unfold isTxt at h3
          rw [h3, if_pos rfl, if_pos ⟨rfl, rfl, rfl⟩]
theorem ref_Parse (l : List UInt8) (h : l.length ≤ 4294967296) : Ev (fun k => depotref09_Parse.f k (bOf l)) (bOf (parseL l).1, bOf (parseL l).2.1, (parseL l).2.2) := by
  unfold depotref09_Parse.f parseL
  have hc := cut_le 58 l
  have ht := trim_le (cutAt 58 l).2.1
  rw [bOf_size]
  by_cases c1 : 8192 < l.length
  · refine Ev.pos (by omega) (Ev.some' ?_)
    rw [if_pos c1]; rfl
  · refine Ev.neg (by omega) (Ev.bind (ref_Cut 58 l h) (Ev.bind (ref_Trim _ (by rw [bOf_size]; omega)) ?_))
    rw [if_neg c1]
    simp only [data_bOf]
    cases h1 : (cutAt 58 l).2.2
    · refine Ev.neg (by simp) (Ev.some' ?_)
      rw [if_neg (by simp)]; rfl
    · refine Ev.pos rfl (Ev.bind (ref_IsToken _ (by omega)) ?_)
      cases h2 : isTok (cutAt 58 l).1
      · unfold isTok at h2
        rw [h2]
        refine Ev.neg (by simp) (Ev.some' ?_)
        rw [if_neg (by simp)]; rfl
      · unfold isTok at h2
        rw [h2]
        refine Ev.pos rfl (Ev.bind (ref_IsText _ (by omega)) ?_)
        cases h3 : isTxt (trim (cutAt 58 l).2.1)
        · unfold isTxt at h3
          rw [h3]
          refine Ev.neg (by simp) (Ev.some' ?_)
          rw [if_neg (by simp)]; rfl
        · unfold isTxt at h3
          rw [h3]
          refine Ev.pos rfl (Ev.some' ?_)
          rw [if_pos ⟨rfl, rfl, rfl⟩]
end Go.Proofs.YtjaklgikfcahdaaGreatDoor.Pu
namespace Go.Proofs.YtjaklgikfcahdaaGreatDoor.Pu
open Go.RowKit Go.Proofs.YtjaklgikfcahdaaGreatDoorW.PrintWords Go.Proofs.YtjaklgikfcahdaaGreatDoorW.PrintLast Go.Proofs.YtjaklgikfcahdaaGreatDoor.PV
set_option linter.unusedVariables false
set_option linter.unusedSimpArgs false
def hexR (c : Int) : Int × Bool := if Hand.dig0 c < 0 then (0, false) else (Hand.dig0 c, true)
theorem hex_all : ∀ c : Fin 256, depotref01_Hex.f 20 ((c : Nat) : Int) = some (hexR ((c : Nat) : Int)) := by decide +kernel
theorem ref_Hex (c : Int) (h0 : 0 ≤ c) (h1 : c ≤ 255) : Ev (fun k => depotref01_Hex.f k c) (hexR c) := by
  obtain ⟨n, rfl⟩ := Int.eq_ofNat_of_zero_le h0
  have := hex_all ⟨n, by omega⟩
  exact Ev.of (depotref01_Hex.mono _) this
theorem dig0_lo (c : Int) : -1 ≤ Hand.dig0 c ∧ Hand.dig0 c ≤ 15 := by
  unfold Hand.dig0
  repeat' split
  all_goals omega
theorem dig_neg (c base : Int) (hb : 1 ≤ base) : Hand.dig c base < 0 ↔ (Hand.dig0 c < 0 ∨ base ≤ Hand.dig0 c) := by
  have := dig0_lo c
  unfold Hand.dig
  split <;> omega
theorem dig_pos (c base : Int) (h : Hand.dig0 c < base) : Hand.dig c base = Hand.dig0 c := by
  unfold Hand.dig
  rw [if_neg (by omega)]
theorem rread_l0 (s : ByteArray) (base most : Int) (hb : 1 ≤ base) (hs : s.size ≤ 100000) (n : Nat) : ∀ (i : Nat) (acc : Int), s.size - i = n → i ≤ s.size →
    Ev (fun k => depotref02_read.l0 k s base most acc (i : Int)) (readEnd most (readGo s base n acc i)) := by
  induction n with
  | zero =>
    intro i acc hn hi
    refine Ev.step (fun k => by rw [depotref02_read.l0]) (Ev.neg (by omega) ?_)
    show Ev _ (if most < acc then (0, 3) else (acc, 0))
    exact Ev.ite (fun h => by rw [if_pos h]; exact Ev.some' rfl) (fun h => by rw [if_neg h]; exact Ev.some' rfl)
  | succ n ih =>
    intro i acc hn hi
    have hr := bt_range s i
    have hw : wrap64 ((i : Int) + 1) = ((i + 1 : Nat) : Int) := by rw [wrap_id] <;> omega
    refine Ev.step (fun k => by rw [depotref02_read.l0]) (Ev.pos (by omega) (Ev.pos (by omega) (Ev.bind (ref_Hex _ hr.1 hr.2) ?_)))
    rw [readGo, hw]
    have hd := dig_neg (bt s i) base hb
    unfold hexR
    by_cases h1 : Hand.dig0 (bt s i) < 0
    · rw [if_pos h1, if_pos (hd.2 (Or.inl h1))]
      exact Ev.neg (by simp) (Ev.some' rfl)
    · rw [if_neg h1]
      refine Ev.pos rfl ?_
      by_cases h2 : base ≤ Hand.dig0 (bt s i)
      · rw [if_pos (hd.2 (Or.inr h2))]
        exact Ev.pos h2 (Ev.some' rfl)
      · rw [if_neg (fun h => by have := hd.1 h; omega), dig_pos _ _ (by omega)]
        exact Ev.neg h2 (ih (i + 1) _ (by omega) (by omega))
theorem ref_read (s : ByteArray) (base long most : Int) (hb : 1 ≤ base) (hs : s.size ≤ 100000) : Ev (fun k => depotref02_read.f k s base long most) (readP s base long most) := by
  unfold depotref02_read.f readP
  by_cases h1 : s.size = 0
  · rw [if_pos h1]
    refine Ev.pos (by omega) (Ev.step (fun k => by rw [depotref02_read.j0]) ?_)
    exact Ev.pos rfl (Ev.some' rfl)
  · rw [if_neg h1]
    refine Ev.neg (by omega) (Ev.step (fun k => by rw [depotref02_read.j0]) ?_)
    refine Ev.ite (fun h => ?_) (fun h => ?_)
    · rw [if_pos (by simpa using h)]; exact Ev.some' rfl
    · rw [if_neg (by simpa using h)]
      exact rread_l0 s base most hb hs _ 0 0 rfl (by omega)
theorem prog_read (s : ByteArray) (base long most : Int) (hb : 1 ≤ base) (hb2 : base ≤ 16) (hs : s.size ≤ 100000) : decimal_read.f s base long most = some (readP s base long most) := by
  unfold decimal_read.f
  rw [if_pos ⟨hb, hb2, by omega⟩]
theorem prog_Number (s : ByteArray) (most : Int) (hs : s.size ≤ 100000) : decimal_Number.f s most = some (readP s 10 18 most) := by
  unfold decimal_Number.f
  rw [prog_read s 10 18 most (by decide) (by decide) hs]
  rfl
theorem ref_Number (s : ByteArray) (most : Int) (hs : s.size ≤ 100000) : Ev (fun k => depotref02_Number.f k s most) (readP s 10 18 most) := by
  unfold depotref02_Number.f
  exact Ev.bind (ref_read s 10 18 most (by decide) hs) (Ev.some' rfl)
end Go.Proofs.YtjaklgikfcahdaaGreatDoor.Pu
namespace Go.Proofs.YtjaklgikfcahdaaGreatDoor.Pu
open Go.RowKit Go.Proofs.YtjaklgikfcahdaaGreatDoorW.PrintWords Go.Proofs.YtjaklgikfcahdaaGreatDoorW.PrintLast Go.Proofs.YtjaklgikfcahdaaGreatDoor.PV
set_option linter.unusedVariables false
set_option linter.unusedSimpArgs false
theorem prog_ReadHex (s : ByteArray) (most : Int) (hs : s.size ≤ 100000) : decimal_ReadHex.f s most = some (readP s 16 15 most) := by
  unfold decimal_ReadHex.f
  rw [prog_read s 16 15 most (by decide) (by decide) hs]
  rfl
theorem ref_ReadHex (s : ByteArray) (most : Int) (hs : s.size ≤ 100000) : Ev (fun k => depotref02_ReadHex.f k s most) (readP s 16 15 most) := by
  unfold depotref02_ReadHex.f
  exact Ev.bind (ref_read s 16 15 most (by decide) hs) (Ev.some' rfl)
end Go.Proofs.YtjaklgikfcahdaaGreatDoor.Pu
namespace Go.Proofs.YtjaklgikfcahdaaGreatDoor.Pu
open Go.RowKit Go.Proofs.YtjaklgikfcahdaaGreatDoorW.PrintWords Go.Proofs.YtjaklgikfcahdaaGreatDoorW.PrintLast Go.Proofs.YtjaklgikfcahdaaGreatDoor.PV
set_option linter.unusedVariables false
set_option linter.unusedSimpArgs false
def hexd : List UInt8 := [48, 49, 50, 51, 52, 53, 54, 55, 56, 57, 97, 98, 99, 100, 101, 102]
def dch (d : Nat) : UInt8 := hexd.getD d 0
def digs (b n : Nat) : List UInt8 := if h : n < b ∨ b < 2 then [dch n] else digs b (n / b) ++ [dch (n % b)]
termination_by n
decreasing_by exact Nat.div_lt_self (by omega) (by omega)
theorem digs_small {b n : Nat} (h : n < b) : digs b n = [dch n] := by rw [digs, dif_pos (Or.inl h)]
def plain (n : Int) : List UInt8 := if n < 0 then 45 :: digs 10 n.natAbs else digs 10 n.toNat
end Go.Proofs.YtjaklgikfcahdaaGreatDoor.Pu
namespace Go.Proofs.YtjaklgikfcahdaaGreatDoor.Pu
open Go.RowKit Go.Proofs.YtjaklgikfcahdaaGreatDoorW.PrintWords Go.Proofs.YtjaklgikfcahdaaGreatDoorW.PrintLast Go.Proofs.YtjaklgikfcahdaaGreatDoor.PV
set_option linter.unusedVariables false
set_option linter.unusedSimpArgs false
theorem pre_take (l p : List UInt8) (h : p.length ≤ l.length) : (l.take p.length == p) = p.isPrefixOf l := by
  have := Lib.hasPrefix_of_take l p
  unfold Lib.hasPrefix at this
  rw [← this, decide_eq_true h, Bool.true_and]
theorem prog_CutPrefix (l p : List UInt8) (h : l.length ≤ 4294967296) : strings_CutPrefix.f (bOf l) (bOf p) = some (if p.isPrefixOf l = true then (bOf (l.drop p.length), true) else (bOf l, false)) := by
  unfold strings_CutPrefix.f stringslite_CutPrefix.f stringslite_HasPrefix.f
  rw [bOf_size, bOf_size]
  by_cases hp : p.length ≤ l.length
  · rw [if_pos (by omega), if_pos (by omega), if_pos (by omega), bOf_extract, Int.toNat_natCast, List.drop_zero, toList_bOf, toList_bOf, pre_take l p hp, Option.bind_some]
    by_cases hq : p.isPrefixOf l = true
    · rw [if_pos hq, if_pos hq, if_pos (by omega), if_pos (by omega), bOf_extract, List.take_length]
      rfl
    · rw [if_neg hq, if_neg hq]
      rfl
  · have hq : ¬ p.isPrefixOf l = true := fun hq => hp (List.isPrefixOf_iff_prefix.1 hq).length_le
    rw [if_neg (by omega), Option.bind_some, if_neg (by simp), if_neg hq]
    rfl
def http : List UInt8 := [72, 84, 84, 80, 47, 49, 46]
def verL (l : List UInt8) : Int := if l = http ++ [48] then 0 else if l = http ++ [49] then 1 else -1
theorem verL_yes {l : List UInt8} (h : 0 ≤ verL l) : (l = http ++ [48] ∧ verL l = 0) ∨ (l = http ++ [49] ∧ verL l = 1) := by
  unfold verL at h ⊢
  split at h
  case isTrue c => exact Or.inl ⟨c, if_pos c⟩
  case isFalse c =>
    split at h
    case isTrue d => exact Or.inr ⟨d, by rw [if_neg c, if_pos d]⟩
    · omega
theorem prog_version (l : List UInt8) (h : l.length ≤ 4294967296) : line_version.f (bOf l) = some (if verL l < 0 then (0, false) else (verL l, true)) := by
  unfold line_version.f
  rw [show (⟨#[72, 84, 84, 80, 47, 49, 46]⟩ : ByteArray) = bOf http from rfl, prog_CutPrefix l http h, Option.bind_some]
  by_cases hp : http.isPrefixOf l = true
  · obtain ⟨t, rfl⟩ := List.isPrefixOf_iff_prefix.1 hp
    rw [if_pos hp]
    simp only [List.drop_left]
    rw [if_pos trivial, toList_bOf]
    by_cases c1 : t = [48]
    · subst c1
      rw [if_pos rfl, if_pos (by rw [bOf_size]; decide)]
      rfl
    · rw [if_neg c1]
      by_cases c2 : t = [49]
      · subst c2
        rw [if_pos rfl, if_pos (by rw [bOf_size]; decide)]
        rfl
      · rw [if_neg c2]
        have : verL (http ++ t) = -1 := by
          unfold verL
          rw [if_neg (fun e => c1 (List.append_cancel_left e)), if_neg (fun e => c2 (List.append_cancel_left e))]
        rw [this]
        rfl
  · rw [if_neg hp]
    simp only [Bool.false_eq_true, if_false]
    have : verL l = -1 := by
      unfold verL
      rw [if_neg (fun e => hp (List.isPrefixOf_iff_prefix.2 ⟨_, e.symm⟩)), if_neg (fun e => hp (List.isPrefixOf_iff_prefix.2 ⟨_, e.symm⟩))]
    rw [this]
    rfl
theorem ref_version (l : List UInt8) : depotref10_version.f (bOf l) = some (verL l) := by
  unfold depotref10_version.f
  rw [toList_bOf]
  show (if l = http ++ [48] then some 0 else if l = http ++ [49] then some 1 else some (-1)) = _
  unfold verL
  split
  · rfl
  · split <;> rfl
def visU (b : UInt8) : Bool := visB (b.toNat : Int)
def ReqOk (m t r : List UInt8) : Prop := isTok m = true ∧ ¬ t = [] ∧ t.all visU = true ∧ 0 ≤ verL r
instance (m t r : List UInt8) : Decidable (ReqOk m t r) := by unfold ReqOk; exact inferInstance
end Go.Proofs.YtjaklgikfcahdaaGreatDoor.Pu
namespace Go.Proofs.YtjaklgikfcahdaaGreatDoor.Pu
open Go.RowKit Go.Proofs.YtjaklgikfcahdaaGreatDoorW.PrintWords Go.Proofs.YtjaklgikfcahdaaGreatDoorW.PrintLast Go.Proofs.YtjaklgikfcahdaaGreatDoor.PV
set_option linter.unusedVariables false
set_option linter.unusedSimpArgs false
theorem cut_at (c : UInt8) : ∀ (a b : List UInt8), (∀ x ∈ a, x ≠ c) → cutAt c (a ++ c :: b) = (a, b, true)
  | [], b, _ => by rw [List.nil_append, cutAt, if_pos rfl]
  | x :: a, b, h => by
    have ih := cut_at c a b (fun y hy => h y (List.mem_cons_of_mem _ hy))
    rw [List.cons_append, cutAt, if_neg (h x List.mem_cons_self), ih]
def dg (x : UInt8) : Int := Hand.dig (x.toNat : Int) 10
theorem dg_all : ∀ x : Fin 256, Hand.dig ((x : Nat) : Int) 10 ≤ 9 ∧ -1 ≤ Hand.dig ((x : Nat) : Int) 10 ∧ (0 ≤ Hand.dig ((x : Nat) : Int) 10 → dch (Hand.dig ((x : Nat) : Int) 10).toNat = UInt8.ofNat x ∧ (x : Nat) ≠ 32) := by decide +kernel
theorem dg_range (x : UInt8) : dg x ≤ 9 ∧ -1 ≤ dg x := ⟨(dg_all ⟨x.toNat, x.toNat_lt⟩).1, (dg_all ⟨x.toNat, x.toNat_lt⟩).2.1⟩
theorem dg_32 (x : UInt8) (h : 0 ≤ dg x) : x ≠ 32 := by
  have := ((dg_all ⟨x.toNat, x.toNat_lt⟩).2.2 h).2
  rintro rfl
  exact this rfl
def num3 (a b c : UInt8) : Int × Int := if dg a < 0 ∨ dg b < 0 ∨ dg c < 0 then (0, 5) else if 599 < (dg a * 10 + dg b) * 10 + dg c then (0, 3) else ((dg a * 10 + dg b) * 10 + dg c, 0)
theorem read3 (a b c : UInt8) : readP (bOf [a, b, c]) 10 18 599 = num3 a b c := by
  have ha := dg_range a
  have hb := dg_range b
  have hc := dg_range c
  unfold readP
  rw [bOf_size, show [a, b, c].length = 3 from rfl, if_neg (by decide), if_neg (by decide)]
  have b0 : bt (bOf [a, b, c]) ((0 : Nat) : Int) = (a.toNat : Int) := rfl
  have b1 : bt (bOf [a, b, c]) ((1 : Nat) : Int) = (b.toNat : Int) := rfl
  have b2 : bt (bOf [a, b, c]) ((2 : Nat) : Int) = (c.toNat : Int) := rfl
  have g : ∀ (k : Nat) (acc : Int) (i : Nat), readGo (bOf [a, b, c]) 10 (k + 1) acc i = if Hand.dig (bt (bOf [a, b, c]) i) 10 < 0 then none else readGo (bOf [a, b, c]) 10 k (wrap64 (wrap64 (acc * 10) + Hand.dig (bt (bOf [a, b, c]) i) 10)) (i + 1) := fun k acc i => rfl
  rw [g 2 0 0, b0]
  change readEnd 599 (if dg a < 0 then none else readGo (bOf [a, b, c]) 10 2 (wrap64 (wrap64 (0 * 10) + dg a)) 1) = _
  by_cases c1 : dg a < 0
  · rw [if_pos c1, num3, if_pos (Or.inl c1)]; rfl
  · rw [if_neg c1, g 1 _ 1, b1]
    change readEnd 599 (if dg b < 0 then none else readGo (bOf [a, b, c]) 10 1 (wrap64 (wrap64 (wrap64 (wrap64 (0 * 10) + dg a) * 10) + dg b)) 2) = _
    by_cases c2 : dg b < 0
    · rw [if_pos c2, num3, if_pos (Or.inr (Or.inl c2))]; rfl
    · rw [if_neg c2, g 0 _ 2, b2]
      change readEnd 599 (if dg c < 0 then none else some (wrap64 (wrap64 (wrap64 (wrap64 (wrap64 (wrap64 (0 * 10) + dg a) * 10) + dg b) * 10) + dg c))) = _
      by_cases c3 : dg c < 0
      · rw [if_pos c3, num3, if_pos (Or.inr (Or.inr c3))]; rfl
      · rw [if_neg c3, wrap_id (n := 0 * 10) (by omega) (by omega), wrap_id (n := 0 * 10 + dg a) (by omega) (by omega), wrap_id (n := (0 * 10 + dg a) * 10) (by omega) (by omega), wrap_id (n := (0 * 10 + dg a) * 10 + dg b) (by omega) (by omega), wrap_id (n := ((0 * 10 + dg a) * 10 + dg b) * 10) (by omega) (by omega), wrap_id (by omega) (by omega)]
        rw [num3, if_neg (by omega)]
        show (if (599 : Int) < ((0 * 10 + dg a) * 10 + dg b) * 10 + dg c then ((0 : Int), (3 : Int)) else (((0 * 10 + dg a) * 10 + dg b) * 10 + dg c, 0)) = _
        rw [show ((0 * 10 + dg a) * 10 + dg b) * 10 + dg c = (dg a * 10 + dg b) * 10 + dg c by omega]
theorem num3_yes {a b c : UInt8} (h : (num3 a b c).2 = 0) : 0 ≤ dg a ∧ 0 ≤ dg b ∧ 0 ≤ dg c ∧ (num3 a b c).1 = (dg a * 10 + dg b) * 10 + dg c ∧ (num3 a b c).1 ≤ 599 := by
  unfold num3 at h ⊢
  split at h
  · simp at h
  case isFalse c1 =>
    rw [if_neg c1]
    split at h
    · simp at h
    case isFalse c2 =>
      rw [if_neg c2]
      exact ⟨by omega, by omega, by omega, rfl, by show (dg a * 10 + dg b) * 10 + dg c ≤ 599; omega⟩
def StaOk (V C R : List UInt8) (has : Bool) : Prop := 0 ≤ verL V ∧ has = true ∧ (readP (bOf C) 10 18 599).2 = 0 ∧ 100 ≤ (readP (bOf C) 10 18 599).1 ∧ C.length = 3 ∧ isTxt R = true
instance (V C R : List UInt8) (has : Bool) : Decidable (StaOk V C R has) := by unfold StaOk; exact inferInstance
def staE (V C R : List UInt8) (has : Bool) : Int × List UInt8 × Int × Int := if StaOk V C R has then ((readP (bOf C) 10 18 599).1, R, verL V, 0) else (0, [], 0, 20)
theorem staE_yes {V C R : List UInt8} {has : Bool} (h : StaOk V C R has) : staE V C R has = ((readP (bOf C) 10 18 599).1, R, verL V, 0) := if_pos h
theorem staE_no {V C R : List UInt8} {has : Bool} (h : ¬ StaOk V C R has) : staE V C R has = (0, [], 0, 20) := if_neg h
def staL (l : List UInt8) : Int × List UInt8 × Int × Int :=
  if 8192 < l.length then (0, [], 0, 4) else staE (cutAt 32 l).1 (cutAt 32 (cutAt 32 l).2.1).1 (cutAt 32 (cutAt 32 l).2.1).2.1 (cutAt 32 (cutAt 32 l).2.1).2.2
def staB (q : Int × List UInt8 × Int × Int) : Int × ByteArray × Int × Int := (q.1, bOf q.2.1, q.2.2.1, q.2.2.2)
theorem prog_Status (l : List UInt8) (h : l.length ≤ 100000) : line_Status.f (bOf l) = some (staB (staL l)) := by
  unfold line_Status.f staL
  rw [bOf_size]
  by_cases h0 : 8192 < l.length
  · rw [if_pos h0, if_pos (by omega)]; rfl
  · rw [if_neg h0, if_neg (by omega), if_pos (by decide), show bt (⟨#[32]⟩ : ByteArray) 0 = (((32 : UInt8).toNat : Nat) : Int) from rfl]
    have hle := cut_le 32 l
    have hle2 := cut_le 32 (cutAt 32 l).2.1
    rw [prog_Cut 32 l (by omega), Option.bind_some]
    simp only
    rw [prog_Cut 32 (cutAt 32 l).2.1 (by omega), Option.bind_some]
    simp only
    generalize (cutAt 32 l).1 = V at hle ⊢
    generalize (cutAt 32 (cutAt 32 l).2.1).1 = C at hle2 ⊢
    generalize (cutAt 32 (cutAt 32 l).2.1).2.2 = has at hle2 ⊢
    generalize (cutAt 32 (cutAt 32 l).2.1).2.1 = R at hle2 ⊢
    rw [prog_version V (by omega), Option.bind_some, prog_Number _ _ (by rw [bOf_size]; omega), Option.bind_some]
    by_cases c1 : verL V < 0
    · rw [if_pos c1, staE_no (fun hk => by have := hk.1; omega)]
      rfl
    · rw [if_neg c1]
      simp only
      rw [if_pos trivial]
      cases has
      · rw [if_neg (by simp), staE_no (fun hk => by have := hk.2.1; simp at this)]
        rfl
      · rw [if_pos rfl]
        by_cases c2 : (readP (bOf C) 10 18 599).2 = 0
        · rw [if_pos c2]
          by_cases c3 : (readP (bOf C) 10 18 599).1 < 100
          · rw [if_pos c3, staE_no (fun hk => by have := hk.2.2.2.1; omega)]
            rfl
          · rw [if_neg c3, bOf_size]
            by_cases c4 : C.length = 3
            · rw [if_pos (by omega), prog_IsText R (by omega), Option.bind_some]
              by_cases c5 : isTxt R = true
              · have c5' : R.all textU = true := c5
                rw [if_pos c5', staE_yes ⟨by omega, rfl, c2, by omega, c4, c5⟩]
                rfl
              · have c5' : ¬ R.all textU = true := c5
                rw [if_neg c5', staE_no (fun hk => c5 hk.2.2.2.2.2)]
                rfl
            · rw [if_neg (by omega), staE_no (fun hk => c4 hk.2.2.2.2.1)]
              rfl
        · rw [if_neg c2, staE_no (fun hk => c2 hk.2.2.1)]
          rfl
theorem ver_facts {V : List UInt8} (h : 0 ≤ verL V) : V.length = 8 ∧ (∀ x ∈ V, x ≠ 32) ∧ V = http ++ digs 10 (verL V).toNat ∧ verL V ≤ 1 := by
  rcases verL_yes h with ⟨rfl, e⟩ | ⟨rfl, e⟩
  · rw [e]; exact ⟨rfl, by decide, by rw [show (0 : Int).toNat = 0 from rfl, digs_small (by decide)]; rfl, by decide⟩
  · rw [e]; exact ⟨rfl, by decide, by rw [show (1 : Int).toNat = 1 from rfl, digs_small (by decide)]; rfl, by decide⟩
theorem sta_shape (l : List UInt8) (hk : StaOk (cutAt 32 l).1 (cutAt 32 (cutAt 32 l).2.1).1 (cutAt 32 (cutAt 32 l).2.1).2.1 (cutAt 32 (cutAt 32 l).2.1).2.2) :
    l = (cutAt 32 l).1 ++ 32 :: ((cutAt 32 (cutAt 32 l).2.1).1 ++ 32 :: (cutAt 32 (cutAt 32 l).2.1).2.1) := by
  have h2 := hk.2.1
  cases h1 : (cutAt 32 l).2.2
  · rw [(cut_no 32 l h1).2] at h2
    simp [cutAt] at h2
  · rw [← cut_yes 32 _ h2]
    exact cut_yes 32 l h1
theorem sta_of (V C R : List UInt8) (hV : 0 ≤ verL V) (hC : ∀ x ∈ C, x ≠ 32) (hl : (V ++ 32 :: (C ++ 32 :: R)).length ≤ 8192) : staL (V ++ 32 :: (C ++ 32 :: R)) = staE V C R true := by
  obtain ⟨_, hv, _, _⟩ := ver_facts hV
  unfold staL
  rw [if_neg (by omega), cut_at 32 V _ hv]
  simp only
  rw [cut_at 32 C R hC]
theorem read_no32 {C : List UInt8} (hl : C.length = 3) (h : (readP (bOf C) 10 18 599).2 = 0) : ∀ x ∈ C, x ≠ 32 := by
  match C, hl with
  | [a, b, c], _ =>
    rw [read3] at h
    obtain ⟨ha, hb, hc, _⟩ := num3_yes h
    intro x hx
    simp at hx
    rcases hx with rfl | rfl | rfl
    · exact dg_32 _ ha
    · exact dg_32 _ hb
    · exact dg_32 _ hc
theorem sta_places (V : List UInt8) (x : UInt8) (C : List UInt8) (y : UInt8) (R : List UInt8) (hV : V.length = 8) (hC : C.length = 3) (hl : (V ++ x :: (C ++ y :: R)).length ≤ 8192) :
    staL (V ++ x :: (C ++ y :: R)) = if 0 ≤ verL V ∧ x = 32 ∧ y = 32 ∧ (readP (bOf C) 10 18 599).2 = 0 ∧ 100 ≤ (readP (bOf C) 10 18 599).1 ∧ isTxt R = true then ((readP (bOf C) 10 18 599).1, R, verL V, 0) else (0, [], 0, 20) := by
  by_cases q : 0 ≤ verL V ∧ x = 32 ∧ y = 32 ∧ (readP (bOf C) 10 18 599).2 = 0 ∧ 100 ≤ (readP (bOf C) 10 18 599).1 ∧ isTxt R = true
  · obtain ⟨q1, rfl, rfl, q4, q5, q6⟩ := q
    rw [if_pos ⟨q1, rfl, rfl, q4, q5, q6⟩, sta_of V C R q1 (read_no32 hC q4) hl, staE_yes ⟨q1, rfl, q4, q5, hC, q6⟩]
  · rw [if_neg q]
    unfold staL
    rw [if_neg (by omega), staE_no]
    intro hk
    have hs := sta_shape _ hk
    obtain ⟨v8, _, _, _⟩ := ver_facts hk.1
    have hc3 := hk.2.2.2.2.1
    obtain ⟨e1, e2⟩ := List.append_inj hs (by omega)
    obtain ⟨rfl, e3⟩ := List.cons.inj e2
    obtain ⟨e4, e5⟩ := List.append_inj e3 (by omega)
    obtain ⟨rfl, e6⟩ := List.cons.inj e5
    rw [← e1, ← e4, ← e6] at hk
    exact q ⟨hk.1, rfl, rfl, hk.2.2.1, hk.2.2.2.1, hk.2.2.2.2.2⟩
theorem by_places (l : List UInt8) (h : 13 ≤ l.length) : ∃ V x C y R, l = V ++ x :: (C ++ y :: R) ∧ V.length = 8 ∧ C.length = 3 := by
  have e1 := List.take_append_drop 8 l
  have l1 : (l.drop 8).length = l.length - 8 := by simp
  cases h1 : l.drop 8 with
  | nil => rw [h1] at l1; simp at l1; omega
  | cons x t =>
    rw [h1] at e1 l1
    have e2 := List.take_append_drop 3 t
    have l2 : (t.drop 3).length = t.length - 3 := by simp
    simp at l1
    cases h2 : t.drop 3 with
    | nil => rw [h2] at l2; simp at l2; omega
    | cons y R =>
      rw [h2] at e2
      exact ⟨l.take 8, x, t.take 3, y, R, by rw [e2, e1], by simp; omega, by simp; omega⟩
theorem ref_sta_short (l : List UInt8) (h : l.length < 13) : staL l = (0, [], 0, 20) := by
  unfold staL
  rw [if_neg (by omega), staE_no]
  intro hk
  have hs := congrArg List.length (sta_shape _ hk)
  obtain ⟨v8, _, _, _⟩ := ver_facts hk.1
  have hc3 := hk.2.2.2.2.1
  simp at hs
  omega
theorem ref_Status (l : List UInt8) (h : l.length ≤ 100000) : Ev (fun k => depotref10_Status.f k (bOf l)) (staB (staL l)) := by
  unfold depotref10_Status.f
  rw [bOf_size]
  have jt : Ev (fun k => depotref10_Status.j0 k (bOf l) true) (staB (0, [], 0, 20)) := by
    refine Ev.step (fun k => by rw [depotref10_Status.j0]) ?_
    exact Ev.pos rfl (Ev.some' rfl)
  by_cases h0 : 8192 < l.length
  · refine Ev.pos (by omega) (Ev.some' ?_)
    unfold staL
    rw [if_pos h0]; rfl
  · refine Ev.neg (by omega) ?_
    by_cases h1 : l.length < 13
    · rw [ref_sta_short l h1]
      exact Ev.pos (by omega) jt
    · obtain ⟨V, x, C, y, R, rfl, hV, hC⟩ := by_places l (by omega)
      have hsp := sta_places V x C y R hV hC (by omega)
      generalize staL (V ++ x :: (C ++ y :: R)) = z at hsp ⊢
      have hno := fun hk => hsp.trans (if_neg hk)
      have hyes := fun hk => hsp.trans (if_pos hk)
      clear hsp
      have hlen : (V ++ x :: (C ++ y :: R)).length = 13 + R.length := by simp [hV, hC]; omega
      have x0 : (bOf (V ++ x :: (C ++ y :: R))).extract 0 8 = bOf V := by
        rw [bOf_extract, List.drop_zero, ← hV, List.take_left]
      have x1 : bt (bOf (V ++ x :: (C ++ y :: R))) 8 = (x.toNat : Int) := by
        have := bt_at_cut V x (C ++ y :: R)
        rwa [hV] at this
      have a2 : V ++ x :: (C ++ y :: R) = (V ++ x :: C) ++ y :: R := by simp
      have l2 : (V ++ x :: C).length = 12 := by simp [hV, hC]
      have x2 : bt (bOf (V ++ x :: (C ++ y :: R))) 12 = (y.toNat : Int) := by
        rw [a2]
        have := bt_at_cut (V ++ x :: C) y R
        rwa [l2] at this
      have x3 : (bOf (V ++ x :: (C ++ y :: R))).extract 9 12 = bOf C := by
        rw [bOf_extract, a2, ← l2, List.take_left, show V ++ x :: C = (V ++ [x]) ++ C by simp, show 9 = (V ++ [x]).length by simp [hV], List.drop_left]
      have x4 : (bOf (V ++ x :: (C ++ y :: R))).extract 13 (V ++ x :: (C ++ y :: R)).length = bOf R := by
        rw [bOf_extract, List.take_length, show V ++ x :: (C ++ y :: R) = (V ++ x :: C ++ [y]) ++ R by simp, show 13 = (V ++ x :: C ++ [y]).length by simp [hV, hC], List.drop_left]
      refine Ev.neg (by omega) (Ev.pos (by decide) (Ev.pos (by omega) ?_))
      rw [x0]
      refine Ev.sbind (ref_version V) ?_
      by_cases c1 : verL V < 0
      · rw [hno (fun hk => by have := hk.1; omega)]
        exact Ev.pos c1 jt
      · refine Ev.neg c1 (Ev.pos (by omega) ?_)
        rw [x1]
        by_cases c2 : x = 32
        · subst c2
          refine Ev.pos rfl (Ev.pos (by omega) ?_)
          rw [x2]
          by_cases c3 : y = 32
          · subst c3
            rw [show ((((32 : UInt8).toNat : Nat) : Int) != 32) = false from rfl]
            refine Ev.step (fun k => by rw [depotref10_Status.j0]) ?_
            refine Ev.neg (by simp) (Ev.pos (by decide) (Ev.pos (by rw [bOf_size]; omega) ?_))
            rw [bOf_size, x3]
            refine Ev.bind (ref_Number _ _ (by rw [bOf_size]; omega)) ?_
            by_cases c4 : (readP (bOf C) 10 18 599).2 = 0
            · refine Ev.pos c4 ?_
              by_cases c5 : (readP (bOf C) 10 18 599).1 < 100
              · rw [hno (fun hk => by have := hk.2.2.2.2.1; omega)]
                exact Ev.pos c5 (Ev.some' rfl)
              · refine Ev.neg c5 (Ev.pos (by omega) ?_)
                rw [x4]
                refine Ev.bind (ref_IsText R (by simp at h; omega)) ?_
                by_cases c6 : isTxt R = true
                · have c6' : R.all textU = true := c6
                  rw [c6', hyes ⟨by omega, rfl, rfl, c4, by omega, c6⟩]
                  refine Ev.pos rfl (Ev.pos (by decide) (Ev.pos (by omega) ?_))
                  rw [x0]
                  exact Ev.sbind (ref_version V) (Ev.some' rfl)
                · have c6' : R.all textU = false := by simpa [isTxt] using c6
                  rw [c6', hno (fun hk => c6 hk.2.2.2.2.2)]
                  exact Ev.neg (by simp) (Ev.some' rfl)
            · rw [hno (fun hk => c4 hk.2.2.2.1)]
              exact Ev.neg c4 (Ev.some' rfl)
          · rw [hno (fun hk => c3 hk.2.2.1)]
            have : ((y.toNat : Int) != 32) = true := by
              have h3 : ¬ (y.toNat : Int) = 32 := fun e => c3 ((u8_eq (by decide)).1 e)
              simpa using h3
            rw [this]
            exact jt
        · rw [hno (fun hk => c2 hk.2.1)]
          refine Ev.neg (fun e => c2 ((u8_eq (by decide)).1 e)) jt
end Go.Proofs.YtjaklgikfcahdaaGreatDoor.Pu
namespace Go.Proofs.YtjaklgikfcahdaaGreatDoor.Pu
open Go.RowKit Go.Proofs.YtjaklgikfcahdaaGreatDoorW.PrintWords Go.Proofs.YtjaklgikfcahdaaGreatDoorW.PrintLast Go.Proofs.YtjaklgikfcahdaaGreatDoor.PV
set_option linter.unusedVariables false
set_option linter.unusedSimpArgs false
def lineL : List UInt8 → Option (List UInt8 × List UInt8)
  | [] => none
  | c :: r => if ([13, 10] : List UInt8).isPrefixOf (c :: r) = true then some ([], r.drop 1) else (lineL r).map fun p => (c :: p.1, p.2)
theorem line_eq : ∀ (l a b : List UInt8), lineL l = some (a, b) → l = a ++ 13 :: 10 :: b
  | [], a, b, h => by cases h
  | c :: r, a, b, h => by
    unfold lineL at h
    split at h
    case isTrue hp =>
      obtain ⟨rfl, rfl⟩ : [] = a ∧ r.drop 1 = b := by simpa using h
      obtain ⟨t, ht⟩ := List.isPrefixOf_iff_prefix.1 hp
      obtain ⟨rfl, rfl⟩ : 13 = c ∧ 10 :: t = r := by simpa using ht
      rfl
    case isFalse =>
      cases hr : lineL r with
      | none => rw [hr] at h; cases h
      | some q =>
        rw [hr] at h
        obtain ⟨rfl, rfl⟩ : c :: q.1 = a ∧ q.2 = b := by simpa using h
        have := line_eq r q.1 q.2 hr
        rw [List.cons_append, ← this]
theorem line_index : ∀ l : List UInt8, Lib.index l [13, 10] = match lineL l with | none => -1 | some q => (q.1.length : Int)
  | [] => rfl
  | c :: r => by
    have ih := line_index r
    unfold Lib.index lineL
    by_cases hp : ([13, 10] : List UInt8).isPrefixOf (c :: r) = true
    · rw [if_pos hp, if_pos hp]; rfl
    · rw [if_neg hp, if_neg hp, ih]
      cases lineL r with
      | none => rfl
      | some q =>
        simp only [Option.map_some, List.length_cons]
        rw [if_neg (by simp <;> omega)]
        simp
theorem lineI_list (l : List UInt8) : Hand.lineI (bOf l) = match lineL l with | none => -1 | some q => (q.1.length : Int) := line_index l
def szL (l : List UInt8) : Int × Int := Hand.szR (readP (bOf (trimR (cutAt 59 l).1)) 16 15 1152921504606846976).1 (readP (bOf (trimR (cutAt 59 l).1)) 16 15 1152921504606846976).2 (isTxt (cutAt 59 l).2.1)
theorem trimR_le (l : List UInt8) : (trimR l).length ≤ l.length := by
  unfold trimR
  rw [List.length_reverse]
  have := (List.dropWhile_suffix (p := isBl) (l := l.reverse)).length_le
  simpa using this
theorem prog_sz (l : List UInt8) (h : l.length ≤ 100000) : chunk_sz (bOf l) = some (szL l) := by
  have hc := cut_le 59 l
  have ht := trimR_le (cutAt 59 l).1
  unfold chunk_sz szL
  rw [show (59 : Int) = (((59 : UInt8).toNat : Nat) : Int) by rfl, prog_Cut 59 l (by omega)]
  simp only [Option.bind_some]
  unfold strings_TrimRight.f
  rw [if_pos ⟨by rw [bOf_size]; omega, by decide, by decide⟩, Option.bind_some, data_bOf]
  have e : (⟨(Lib.trimRightS (cutAt 59 l).1 (⟨#[32, 9]⟩ : ByteArray).data.toList).toArray⟩ : ByteArray) = bOf (trimR (cutAt 59 l).1) := rfl
  rw [e, prog_ReadHex _ _ (by rw [bOf_size]; omega), Option.bind_some, prog_IsText _ (by omega)]
  rfl
theorem rsz_j2 (v : Int) (b : Bool) : Ev (fun k => depotref11_size.j2 k v b) (if b = true then (0, 25) else if 65536 < v then (0, 4) else (v, 0)) := by
  refine Ev.step (fun k => by rw [depotref11_size.j2]) (Ev.ite (fun h => Ev.some' ?_) (fun h => Ev.ite (fun h2 => Ev.some' ?_) (fun h2 => Ev.some' ?_)))
  · rw [if_pos h]
  · rw [if_neg h, if_pos (by omega)]
  · rw [if_neg h, if_neg (by omega)]
theorem rsz_j1 (d m : List UInt8) (has : Bool) (hd : d.length ≤ 100000) (hm : m.length ≤ 100000) (hh : has = false → m = []) :
    Ev (fun k => depotref11_size.j1 k (bOf d) (bOf m) has) (Hand.szR (readP (bOf d) 16 15 1152921504606846976).1 (readP (bOf d) 16 15 1152921504606846976).2 (isTxt m)) := by
  refine Ev.step (fun k => by rw [depotref11_size.j1]) (Ev.bind (ref_ReadHex _ _ (by rw [bOf_size]; omega)) ?_)
  unfold Hand.szR
  by_cases c1 : (readP (bOf d) 16 15 1152921504606846976).2 = 0
  · rw [if_neg (by simpa using c1)]
    refine Ev.pos c1 ?_
    cases has
    · refine Ev.neg (by simp) (Ev.eq (rsz_j2 _ _) ?_)
      obtain rfl := hh rfl
      rfl
    · refine Ev.pos rfl (Ev.bind (ref_IsText m (by omega)) (Ev.eq (rsz_j2 _ _) ?_))
      show _ = if isTxt m = false then _ else _
      unfold isTxt
      cases m.all textU <;> rfl
  · rw [if_pos c1]
    exact Ev.neg c1 (Ev.eq (rsz_j2 _ _) (if_pos rfl))
theorem rsz_l0 (m : List UInt8) (has : Bool) (hm : m.length ≤ 100000) (hh : has = false → m = []) (n : Nat) : ∀ d : List UInt8, d.length = n → n ≤ 100000 →
    Ev (fun k => depotref11_size.l0 k (bOf d) (bOf m) has) (Hand.szR (readP (bOf (trimR d)) 16 15 1152921504606846976).1 (readP (bOf (trimR d)) 16 15 1152921504606846976).2 (isTxt m)) := by
  induction n with
  | zero =>
    intro d hd hn
    have : d = [] := List.eq_nil_of_length_eq_zero hd
    subst this
    refine Ev.step (fun k => by rw [depotref11_size.l0]) (Ev.neg (by rw [bOf_size]; simp) ?_)
    exact rsz_j1 [] m has (by simp) hm hh
  | succ n ih =>
    intro d hd hn
    obtain ⟨e, x, rfl⟩ : ∃ e x, d = e ++ [x] := by
      rcases List.eq_nil_or_concat d with h | ⟨e, x, h⟩
      · subst h; simp at hd
      · exact ⟨e, x, by simpa using h⟩
    have he : e.length = n := by simpa using hd
    have e0 : (bOf (e ++ [x])).size = e.length + 1 := by rw [bOf_size]; simp
    have hw : wrap64 (((bOf (e ++ [x])).size : Int) - 1) = (e.length : Int) := by rw [e0, wrap_id (by omega) (by omega)]; omega
    have hb : bt (bOf (e ++ [x])) (e.length : Int) = (x.toNat : Int) := bt_at_cut e x []
    have hx : (bOf (e ++ [x])).extract 0 ((e.length : Int)).toNat = bOf e := by
      rw [bOf_extract, Int.toNat_natCast, List.drop_zero, List.take_left]
    have ht : trimR (e ++ [x]) = if isBl x = true then trimR e else e ++ [x] := by
      unfold trimR
      rw [List.reverse_append, List.reverse_singleton, List.singleton_append, List.dropWhile_cons]
      split <;> simp
    have h32 : (x.toNat : Int) = 32 ↔ x = 32 := u8_eq (by decide)
    have h9 : (x.toNat : Int) = 9 ↔ x = 9 := u8_eq (by decide)
    refine Ev.step (fun k => by rw [depotref11_size.l0]) (Ev.pos (by rw [e0]; omega) ?_)
    rw [hw, hb, hx]
    refine Ev.pos (by omega) (Ev.pos (by rw [e0]; omega) ?_)
    by_cases c1 : x = 32
    · have : isBl x = true := by subst c1; rfl
      rw [ht, if_pos this]
      exact Ev.pos (h32.2 c1) (Ev.pos (by rw [e0]; omega) (ih e he (by omega)))
    · refine Ev.neg (fun h => c1 (h32.1 h)) ?_
      by_cases c2 : x = 9
      · have : isBl x = true := by subst c2; rfl
        rw [ht, if_pos this]
        exact Ev.pos (h9.2 c2) (Ev.pos (by rw [e0]; omega) (ih e he (by omega)))
      · have : ¬ isBl x = true := by simp [isBl, c1, c2]
        rw [ht, if_neg this]
        exact Ev.neg (fun h => c2 (h9.1 h)) (rsz_j1 _ m has (by simp; omega) hm hh)
theorem ref_sz (l : List UInt8) (h : l.length ≤ 100000) : Ev (fun k => depotref11_size.f k (bOf l)) (szL l) := by
  have hc := cut_le 59 l
  unfold depotref11_size.f
  refine Ev.bind (ref_Cut 59 l (by omega)) ?_
  exact rsz_l0 _ _ (by omega) (fun h0 => (cut_no 59 l h0).2) _ _ rfl (by omega)
end Go.Proofs.YtjaklgikfcahdaaGreatDoor.Pu
namespace Go.Proofs.YtjaklgikfcahdaaGreatDoor.Pu
open Go.RowKit Go.Proofs.YtjaklgikfcahdaaGreatDoorW.PrintWords Go.Proofs.YtjaklgikfcahdaaGreatDoorW.PrintLast Go.Proofs.YtjaklgikfcahdaaGreatDoor.PV
set_option linter.unusedVariables false
set_option linter.unusedSimpArgs false
theorem dig16 (c : Int) : Hand.dig c 16 ≤ 15 := by
  unfold Hand.dig Hand.dig0
  repeat' split
  all_goals omega
theorem readGo_range (s : ByteArray) : ∀ (n : Nat) (acc : Int) (i j : Nat) (v : Int), n + j = 15 → 0 ≤ acc → acc < 16 ^ j → readGo s 16 n acc i = some v → 0 ≤ v ∧ v < 16 ^ 15
  | 0, acc, i, j, v, hj, h0, h1, h => by
    rw [readGo] at h
    obtain rfl := Option.some.inj h
    have : j = 15 := by omega
    subst this
    exact ⟨h0, h1⟩
  | n + 1, acc, i, j, v, hj, h0, h1, h => by
    rw [readGo] at h
    split at h
    case isTrue => cases h
    case isFalse hd =>
      have hd2 := dig16 (bt s i)
      have hp : (16 : Int) ^ (j + 1) ≤ 16 ^ 15 := by
        have : (16 : Nat) ^ (j + 1) ≤ 16 ^ 15 := Nat.pow_le_pow_right (by decide) (by omega)
        exact_mod_cast this
      have e15 : (16 : Int) ^ 15 = 1152921504606846976 := by decide
      have hs : (16 : Int) ^ (j + 1) = 16 ^ j * 16 := Int.pow_succ 16 j
      rw [wrap_id (n := acc * 16) (by omega) (by omega), wrap_id (by omega) (by omega)] at h
      exact readGo_range s n _ (i + 1) (j + 1) v (by omega) (by omega) (by omega) h
theorem readP_range (s : ByteArray) (most : Int) : 0 ≤ (readP s 16 15 most).1 := by
  unfold readP
  split
  · exact Int.le_refl _
  · split
    · exact Int.le_refl _
    case isFalse hl =>
      cases h : readGo s 16 s.size 0 0 with
      | none => exact Int.le_refl _
      | some v =>
        have hr : 0 ≤ v := by
          by_cases hz : s.size = 0
          · rw [hz, readGo] at h
            obtain rfl := Option.some.inj h
            exact Int.le_refl _
          · have key : ∀ (n : Nat), n ≤ 15 → ∀ (acc : Int) (i : Nat) (v : Int), 0 ≤ acc → acc < 16 ^ (15 - n) → readGo s 16 n acc i = some v → 0 ≤ v :=
              fun n hn acc i v h0 h1 h => (readGo_range s n acc i (15 - n) v (by omega) h0 h1 h).1
            have hp : (0 : Int) < 16 ^ (15 - s.size) := Int.pow_pos (by decide)
            exact key s.size (by omega) 0 0 v (Int.le_refl _) hp h
        show 0 ≤ (if most < v then ((0 : Int), (3 : Int)) else (v, 0)).1
        split
        · exact Int.le_refl _
        · exact hr
theorem szL_range (l : List UInt8) : 0 ≤ (szL l).1 ∧ (szL l).1 ≤ 65536 := by
  refine ⟨?_, szR_le _ _ _⟩
  unfold szL Hand.szR
  have := readP_range (bOf (trimR (cutAt 59 l).1)) 1152921504606846976
  split
  · exact Int.le_refl _
  · split
    · exact Int.le_refl _
    · split
      · exact Int.le_refl _
      · exact this
def trL : Nat → Nat → List UInt8 → Int → Int × Int
  | 0, _, _, _ => (25, 0)
  | k + 1, n, s, g => match lineL s with
    | none => (25, g)
    | some (a, b) => if a = [] then (0, g + 2) else if ¬ (parseL a).2.2 = 0 then (25, g) else if n = 64 then (4, g) else trL k (n + 1) b (g + (a.length + 2))
def decL : Nat → List UInt8 → Int → List UInt8 → List UInt8 × Int × Int
  | 0, _, _, _ => ([], 0, 25)
  | k + 1, s, g, body => match lineL s with
    | none => ([], 0, 25)
    | some (a, b) =>
      if ¬ (szL a).2 = 0 then ([], 0, (szL a).2)
      else if 0 < (szL a).1 then
        if 65536 < body.length + (szL a).1 then ([], 0, 4)
        else if (b.length : Int) < (szL a).1 + 2 then ([], 0, 25)
        else if (b.drop (szL a).1.toNat).take 2 = [13, 10] then decL k (b.drop ((szL a).1 + 2).toNat) (g + (a.length + 2) + ((szL a).1 + 2)) (body ++ b.take (szL a).1.toNat)
        else ([], 0, 25)
      else if (trL (b.length + 1) 0 b (g + (a.length + 2))).1 = 0 then (body, (trL (b.length + 1) 0 b (g + (a.length + 2))).2, 0) else ([], 0, (trL (b.length + 1) 0 b (g + (a.length + 2))).1)
theorem line_len {s a b : List UInt8} (h : lineL s = some (a, b)) : s.length = a.length + 2 + b.length := by
  rw [line_eq s a b h]; simp; omega
theorem cut_line {s a b : List UInt8} (h : lineL s = some (a, b)) : (bOf s).extract 0 (a.length : Int).toNat = bOf a ∧ (bOf s).extract ((a.length : Int) + 2).toNat (bOf s).size = bOf b := by
  have e := line_eq s a b h
  constructor
  · rw [bOf_extract, Int.toNat_natCast, List.drop_zero, e, List.take_left]
  · rw [bOf_extract, bOf_size, List.take_length, e, show ((a.length : Int) + 2).toNat = a.length + 2 by omega, List.drop_append, List.drop_eq_nil_of_le (by omega), show a.length + 2 - a.length = 2 by omega]
    rfl
theorem prog_tr : ∀ (k n : Nat) (s : List UInt8) (g : Int), s.length < k → s.length ≤ 100000 → Hand.trGo fields_Parse.f k n (bOf s) g = some (trL k n s g)
  | 0, n, s, g, hk, hs => by omega
  | k + 1, n, s, g, hk, hs => by
    unfold Hand.trGo trL
    rw [lineI_list]
    cases hl : lineL s with
    | none => rw [if_pos (by decide)]
    | some q =>
      obtain ⟨a, b⟩ := q
      have hlen := line_len hl
      obtain ⟨e1, e2⟩ := cut_line hl
      simp only
      rw [if_neg (by omega), if_pos (by rw [bOf_size]; omega)]
      by_cases ha : a = []
      · rw [if_pos ha, if_pos (by rw [ha]; rfl)]
      · have ha0 : ¬ (a.length : Int) = 0 := fun e => ha (List.eq_nil_of_length_eq_zero (by omega))
        rw [if_neg ha, if_neg ha0, e1, e2, prog_Parse a (by omega), Option.bind_some]
        simp only
        by_cases c1 : (parseL a).2.2 = 0
        · rw [if_neg (not_not_intro c1), if_neg (not_not_intro c1)]
          by_cases c2 : n = 64
          · rw [if_pos c2, if_pos c2]
          · rw [if_neg c2, if_neg c2]
            exact prog_tr k (n + 1) b _ (by omega) (by omega)
        · rw [if_pos c1, if_pos c1]
theorem toList_two (l : List UInt8) (i j : Nat) : (((bOf l).extract i j).toList == [13, 10]) = true ↔ (l.take j).drop i = [13, 10] := by
  rw [bOf_extract, toList_bOf]; simp
theorem prog_dec : ∀ (k : Nat) (s : List UInt8) (g : Int) (body : List UInt8), s.length < k → s.length ≤ 100000 →
    Hand.decGo fields_Parse.f chunk_sz k (bOf s) g (bOf body) = some (bOf (decL k s g body).1, (decL k s g body).2.1, (decL k s g body).2.2)
  | 0, s, g, body, hk, hs => by omega
  | k + 1, s, g, body, hk, hs => by
    unfold Hand.decGo decL
    rw [lineI_list]
    cases hl : lineL s with
    | none => rw [if_pos (by decide)]; rfl
    | some q =>
      obtain ⟨a, b⟩ := q
      have hlen := line_len hl
      obtain ⟨e1, e2⟩ := cut_line hl
      have hr := szL_range a
      simp only
      rw [if_neg (by omega), if_pos (by rw [bOf_size]; omega), e1, e2, prog_sz a (by omega), Option.bind_some]
      by_cases c1 : (szL a).2 = 0
      · rw [if_neg (not_not_intro c1), if_neg (not_not_intro c1)]
        by_cases c2 : 0 < (szL a).1
        · rw [if_pos c2, if_pos c2, bOf_size, bOf_size]
          by_cases c3 : 65536 < body.length + (szL a).1
          · rw [if_pos c3, if_pos c3]; rfl
          · rw [if_neg c3, if_neg c3]
            by_cases c4 : (b.length : Int) < (szL a).1 + 2
            · rw [if_pos c4, if_pos c4]; rfl
            · rw [if_neg c4, if_neg c4]
              have e3 : (b.take ((szL a).1 + 2).toNat).drop (szL a).1.toNat = (b.drop (szL a).1.toNat).take 2 := by
                rw [List.drop_take]
                congr 1
                omega
              by_cases c5 : (b.drop (szL a).1.toNat).take 2 = [13, 10]
              · rw [if_pos ((toList_two _ _ _).2 (e3.trans c5)), if_pos c5]
                have e4 : (bOf b).extract ((szL a).1 + 2).toNat b.length = bOf (b.drop ((szL a).1 + 2).toNat) := by rw [bOf_extract, List.take_length]
                have e5 : bOf body ++ (bOf b).extract 0 (szL a).1.toNat = bOf (body ++ b.take (szL a).1.toNat) := by rw [bOf_extract, List.drop_zero, bOf_append]
                rw [e4, e5]
                exact prog_dec k _ _ _ (by simp; omega) (by simp; omega)
              · rw [if_neg (fun h => c5 (e3.symm.trans ((toList_two _ _ _).1 h))), if_neg c5]; rfl
        · rw [if_neg c2, if_neg c2, bOf_size, prog_tr _ 0 b _ (by omega) (by omega), Option.bind_some]
          split <;> rfl
      · rw [if_pos c1, if_pos c1]; rfl
def decode (l : List UInt8) : List UInt8 × Int × Int := decL (l.length + 1) l 0 []
theorem prog_Decode (l : List UInt8) (h : l.length ≤ 100000) : chunk_Decode.f (bOf l) = some (bOf (decode l).1, (decode l).2.1, (decode l).2.2) := by
  unfold chunk_Decode.f
  rw [if_pos (by rw [bOf_size]; omega), bOf_size]
  exact prog_dec _ l 0 [] (by omega) h
end Go.Proofs.YtjaklgikfcahdaaGreatDoor.Pu
namespace Go.Proofs.YtjaklgikfcahdaaGreatDoor.Pu
open Go.RowKit Go.Proofs.YtjaklgikfcahdaaGreatDoorW.PrintWords Go.Proofs.YtjaklgikfcahdaaGreatDoorW.PrintLast Go.Proofs.YtjaklgikfcahdaaGreatDoor.PV
set_option linter.unusedVariables false
set_option linter.unusedSimpArgs false
def endI (n : Nat) (s : List UInt8) : Int := match lineL s with | none => -1 | some q => (n : Int) + q.1.length
theorem endI_cons (n : Nat) (c d : UInt8) (r : List UInt8) : endI n (c :: d :: r) = if c = 13 ∧ d = 10 then (n : Int) else endI (n + 1) (d :: r) := by
  unfold endI
  conv => lhs; unfold lineL
  by_cases h : c = 13 ∧ d = 10
  · obtain ⟨rfl, rfl⟩ := h
    rw [if_pos (show ([13, 10] : List UInt8).isPrefixOf (13 :: 10 :: r) = true by simp [List.isPrefixOf]), if_pos ⟨rfl, rfl⟩]
    simp
  · rw [if_neg h, if_neg (by
      intro hp
      obtain ⟨t, ht⟩ := List.isPrefixOf_iff_prefix.1 hp
      simp at ht
      exact h ⟨ht.1.symm, ht.2.1.symm⟩)]
    cases lineL (d :: r) with
    | none => rfl
    | some q => simp only [Option.map_some, List.length_cons]; omega
theorem end_l0 (l : List UInt8) (hl : l.length ≤ 100000) (n : Nat) : ∀ (p s : List UInt8), s.length = n → l = p ++ s → Ev (fun k => depotref11_end.l0 k (bOf l) (p.length : Int)) (endI p.length s) := by
  induction n with
  | zero =>
    intro p s hs he
    have : s = [] := List.eq_nil_of_length_eq_zero hs
    subst this
    rw [List.append_nil] at he
    subst he
    refine Ev.step (fun k => by rw [depotref11_end.l0]) (Ev.neg (by rw [bOf_size, wrap_id (by omega) (by omega)]; omega) (Ev.some' ?_))
    rfl
  | succ n ih =>
    intro p s hs he
    obtain ⟨x, s, rfl⟩ : ∃ x t, s = x :: t := by
      cases s with
      | nil => simp at hs
      | cons x t => exact ⟨x, t, rfl⟩
    have hlen : l.length = p.length + (s.length + 1) := by rw [he]; simp
    have hw : wrap64 ((p.length : Int) + 1) = (p.length : Int) + 1 := wrap_id (by omega) (by omega)
    refine Ev.step (fun k => by rw [depotref11_end.l0]) ?_
    rw [hw, bOf_size]
    cases s with
    | nil =>
      refine Ev.neg (by simp at hlen; omega) (Ev.some' ?_)
      unfold endI lineL
      rw [if_neg (by simp [List.isPrefixOf])]
      rfl
    | cons d r =>
      simp at hlen
      refine Ev.pos (by omega) (Ev.pos (by omega) (Ev.pos (by omega) ?_))
      have hb : bt (bOf l) (p.length : Int) = (x.toNat : Int) := by rw [he]; exact bt_at_cut p x (d :: r)
      have hl1 : ((p ++ [x]).length : Int) = (p.length : Int) + 1 := by simp
      have hb2 : bt (bOf l) ((p.length : Int) + 1) = (d.toNat : Int) := by
        rw [← hl1, he, show p ++ x :: d :: r = (p ++ [x]) ++ d :: r by simp]
        exact bt_at_cut (p ++ [x]) d r
      have hn : Ev (fun k => depotref11_end.l0 k (bOf l) ((p.length : Int) + 1)) (endI (p.length + 1) (d :: r)) := by
        have := ih (p ++ [x]) (d :: r) (by simpa using hs) (by rw [he]; simp)
        rw [hl1] at this
        simpa using this
      rw [hb, hb2, endI_cons]
      have h13 : (x.toNat : Int) = 13 ↔ x = 13 := u8_eq (by decide)
      have h10 : (d.toNat : Int) = 10 ↔ d = 10 := u8_eq (by decide)
      by_cases c1 : x = 13
      · refine Ev.pos (h13.2 c1) (Ev.pos (by omega) ?_)
        by_cases c2 : d = 10
        · rw [if_pos ⟨c1, c2⟩]
          exact Ev.pos (h10.2 c2) (Ev.some' rfl)
        · rw [if_neg (fun h => c2 h.2)]
          exact Ev.neg (fun h => c2 (h10.1 h)) hn
      · rw [if_neg (fun h => c1 h.1)]
        exact Ev.neg (fun h => c1 (h13.1 h)) hn
theorem ref_end (p s : List UInt8) (h : (p ++ s).length ≤ 100000) : Ev (fun k => depotref11_end.f k (bOf (p ++ s)) (p.length : Int)) (endI p.length s) := by
  unfold depotref11_end.f
  exact end_l0 _ h _ p s rfl rfl
theorem cut_mid (p a b : List UInt8) : (bOf (p ++ (a ++ b))).extract ((p.length : Int)).toNat ((p.length : Int) + a.length).toNat = bOf a := by
  rw [bOf_extract, show ((p.length : Int) + a.length).toNat = p.length + a.length by omega, Int.toNat_natCast, ← List.append_assoc, show p.length + a.length = (p ++ a).length by simp, List.take_left, List.drop_left]
theorem ref_tr (body : List UInt8) : ∀ (k n : Nat) (p s : List UInt8), s.length < k → (p ++ s).length ≤ 100000 → n ≤ 64 →
    Ev (fun k => depotref11_Decode.l1 k (bOf (p ++ s)) (bOf body) (p.length : Int) (n : Int)) (if (trL k n s p.length).1 = 0 then (bOf body, (trL k n s p.length).2, 0) else (bOf [], 0, (trL k n s p.length).1))
  | 0, n, p, s, hk, hs, hn => by omega
  | k + 1, n, p, s, hk, hs, hn => by
    refine Ev.step (fun k => by rw [depotref11_Decode.l1]) (Ev.bind (ref_end p s hs) ?_)
    unfold trL endI
    cases hl : lineL s with
    | none => exact Ev.pos (by show (-1 : Int) < 0; decide) (Ev.some' rfl)
    | some q =>
      obtain ⟨a, b⟩ := q
      have hlen := line_len hl
      have he := line_eq s a b hl
      have hps : (p ++ s).length = p.length + s.length := by simp
      simp only
      refine Ev.neg (by omega) ?_
      by_cases ha : a = []
      · subst ha
        refine Ev.pos (by simp) (Ev.some' ?_)
        rw [if_pos rfl, if_pos rfl, wrap_id (by omega) (by omega)]
      · have ha0 : 0 < a.length := List.length_pos_iff.2 ha
        refine Ev.neg (by omega) (Ev.pos (by omega) (Ev.pos (by omega) (Ev.pos (by rw [bOf_size]; omega) ?_)))
        have hx : (bOf (p ++ s)).extract ((p.length : Int)).toNat ((p.length : Int) + a.length).toNat = bOf a := by rw [he]; exact cut_mid p a _
        rw [hx, if_neg ha]
        refine Ev.bind (ref_Parse a (by omega)) ?_
        simp only
        by_cases c1 : (parseL a).2.2 = 0
        · refine Ev.pos c1 ?_
          rw [if_neg (not_not_intro c1)]
          by_cases c2 : n = 64
          · rw [if_pos c2]
            exact Ev.pos (by omega) (Ev.some' rfl)
          · rw [if_neg c2]
            refine Ev.neg (by omega) ?_
            have e1 : wrap64 ((p.length : Int) + a.length + 2) = (((p ++ (a ++ [13, 10])).length : Nat) : Int) := by rw [wrap_id (by omega) (by omega)]; simp; omega
            have e2 : wrap64 ((n : Int) + 1) = ((n + 1 : Nat) : Int) := by rw [wrap_id (by omega) (by omega)]; rfl
            have e3 : p ++ s = (p ++ (a ++ [13, 10])) ++ b := by rw [he]; simp
            have e4 : (p.length : Int) + (a.length + 2) = (((p ++ (a ++ [13, 10])).length : Nat) : Int) := by simp
            rw [e1, e2, e4]
            rw [e3] at hs ⊢
            clear e1 e2 e3 e4 hx he hl
            generalize p ++ (a ++ [13, 10]) = q at hs ⊢
            exact ref_tr body k (n + 1) q b (by omega) hs (by omega)
        · rw [if_pos c1]
          exact Ev.neg c1 (Ev.some' rfl)
theorem two_at (q : List UInt8) (n : Nat) (b : List UInt8) (h : n + 2 ≤ b.length) :
    bt (bOf (q ++ b)) ((q.length : Int) + n) = at_ b n ∧ bt (bOf (q ++ b)) ((q.length : Int) + n + 1) = at_ b (n + 1) ∧ ((b.drop n).take 2 = [13, 10] ↔ at_ b n = 13 ∧ at_ b (n + 1) = 10) := by
  have key : ∀ m, m < b.length → bt (bOf (q ++ b)) ((q.length : Int) + m) = at_ b m := by
    intro m hm
    rw [bt_bOf _ _ (by omega) (by simp; omega), show ((q.length : Int) + m).toNat = q.length + m by omega, at_, at_]
    simp [List.getD_eq_getElem?_getD, List.getElem?_append_right]
  refine ⟨key n (by omega), by have := key (n + 1) (by omega); rw [← this]; congr 1, ?_⟩
  have e : (b.drop n).take 2 = [b[n]'(by omega), b[n + 1]'(by omega)] := by
    rw [List.drop_eq_getElem_cons (by omega), List.drop_eq_getElem_cons (by omega)]
    rfl
  rw [e, at_lt _ _ (by omega), at_lt _ _ (by omega)]
  have h13 : ((b[n]'(by omega)).toNat : Int) = 13 ↔ b[n]'(by omega) = 13 := u8_eq (by decide)
  have h10 : ((b[n + 1]'(by omega)).toNat : Int) = 10 ↔ b[n + 1]'(by omega) = 10 := u8_eq (by decide)
  rw [h13, h10]
  simp
theorem ref_dec : ∀ (k : Nat) (p s body : List UInt8), s.length < k → (p ++ s).length ≤ 100000 → body.length ≤ 65536 →
    Ev (fun k => depotref11_Decode.l0 k (bOf (p ++ s)) (bOf body) (p.length : Int)) (bOf (decL k s p.length body).1, (decL k s p.length body).2.1, (decL k s p.length body).2.2)
  | 0, p, s, body, hk, hs, hb => by omega
  | k + 1, p, s, body, hk, hs, hb => by
    refine Ev.step (fun k => by rw [depotref11_Decode.l0]) (Ev.bind (ref_end p s hs) ?_)
    unfold decL endI
    cases hl : lineL s with
    | none => exact Ev.pos (by show (-1 : Int) < 0; decide) (Ev.some' rfl)
    | some q =>
      obtain ⟨a, b⟩ := q
      have hlen := line_len hl
      have he := line_eq s a b hl
      have hps : (p ++ s).length = p.length + s.length := by simp
      have hr := szL_range a
      simp only
      refine Ev.neg (by omega) (Ev.pos (by omega) (Ev.pos (by omega) (Ev.pos (by rw [bOf_size]; omega) ?_)))
      have hx : (bOf (p ++ s)).extract ((p.length : Int)).toNat ((p.length : Int) + a.length).toNat = bOf a := by rw [he]; exact cut_mid p a _
      have e1 : wrap64 ((p.length : Int) + a.length + 2) = (((p ++ (a ++ [13, 10])).length : Nat) : Int) := by rw [wrap_id (by omega) (by omega)]; simp; omega
      have e3 : p ++ s = (p ++ (a ++ [13, 10])) ++ b := by rw [he]; simp
      have e4 : (p.length : Int) + (a.length + 2) = (((p ++ (a ++ [13, 10])).length : Nat) : Int) := by simp
      rw [hx]
      refine Ev.bind (ref_sz a (by omega)) ?_
      rw [e1, e4, e3]
      rw [e3] at hs
      have hql : (p ++ (a ++ [13, 10])).length = p.length + a.length + 2 := by simp; omega
      generalize p ++ (a ++ [13, 10]) = q at hs hql ⊢
      have hqb : (q ++ b).length = q.length + b.length := by simp
      by_cases c1 : (szL a).2 = 0
      · refine Ev.pos c1 ?_
        rw [if_neg (not_not_intro c1)]
        by_cases c2 : 0 < (szL a).1
        · rw [if_pos c2]
          refine Ev.neg (by omega) ?_
          rw [bOf_size, bOf_size, wrap_id (n := (body.length : Int) + (szL a).1) (by omega) (by omega)]
          by_cases c3 : 65536 < body.length + (szL a).1
          · rw [if_pos c3]
            exact Ev.pos (by omega) (Ev.some' rfl)
          · rw [if_neg c3]
            refine Ev.neg (by omega) ?_
            obtain ⟨n, hn⟩ := Int.eq_ofNat_of_zero_le hr.1
            rw [hn] at c2 c3 hr ⊢
            rw [wrap_id (n := (q.length : Int) + n) (by omega) (by omega), wrap_id (n := (q.length : Int) + n + 2) (by omega) (by omega), wrap_id (n := (q.length : Int) + n + 1) (by omega) (by omega)]
            by_cases c4 : (b.length : Int) < n + 2
            · rw [if_pos c4]
              exact Ev.pos (by omega) (Ev.some' rfl)
            · rw [if_neg c4]
              obtain ⟨t1, t2, t3⟩ := two_at q n b (by omega)
              refine Ev.neg (by omega) (Ev.pos (by omega) (Ev.pos (by omega) ?_))
              rw [t1, t2]
              simp only [Int.toNat_natCast]
              by_cases c5 : (b.drop n).take 2 = [13, 10]
              · obtain ⟨d1, d2⟩ := t3.1 c5
                rw [if_pos c5]
                have hbn : b = b.take n ++ ([13, 10] ++ b.drop (n + 2)) := by
                  rw [← c5, show b.drop (n + 2) = (b.drop n).drop 2 by rw [List.drop_drop], List.take_append_drop, List.take_append_drop]
                have htn : (b.take n).length = n := by rw [List.length_take]; omega
                have hx2 : (bOf (q ++ b)).extract q.length ((q.length : Int) + n).toNat = bOf (b.take n) := by
                  have := cut_mid q (b.take n) ([13, 10] ++ b.drop (n + 2))
                  rw [htn, ← hbn, Int.toNat_natCast] at this
                  exact this
                refine Ev.pos d1 (Ev.pos (by omega) (Ev.pos (by omega) (Ev.pos d2 (Ev.pos (by omega) (Ev.pos (by omega) (Ev.pos (by omega) ?_))))))
                rw [hx2, bOf_size]
                refine Ev.pos (by rw [htn]; omega) ?_
                rw [bOf_append, show ((n : Int) + 2).toNat = n + 2 by omega]
                have e5 : (q.length : Int) + n + 2 = (((q ++ (b.take n ++ [13, 10])).length : Nat) : Int) := by simp [htn]; omega
                have e6 : q ++ b = (q ++ (b.take n ++ [13, 10])) ++ b.drop (n + 2) := by
                  conv => lhs; rw [hbn]
                  simp
                have e7 : (q.length : Int) + ((n : Int) + 2) = (((q ++ (b.take n ++ [13, 10])).length : Nat) : Int) := by simp [htn]
                rw [e5, e7, e6]
                rw [e6] at hs
                exact ref_dec k _ _ _ (by simp; omega) hs (by rw [List.length_append, htn]; omega)
              · rw [if_neg c5]
                by_cases d1 : at_ b n = 13
                · refine Ev.pos d1 (Ev.pos (by omega) (Ev.pos (by omega) (Ev.neg (fun d2 => c5 (t3.2 ⟨d1, d2⟩)) (Ev.some' rfl))))
                · exact Ev.neg d1 (Ev.some' rfl)
        · rw [if_neg c2]
          refine Ev.pos (by omega) ?_
          refine Ev.eq (ref_tr body (b.length + 1) 0 q b (by omega) hs (by omega)) ?_
          split <;> rfl
      · rw [if_pos c1]
        exact Ev.neg c1 (Ev.some' rfl)
theorem ref_Decode (l : List UInt8) (h : l.length ≤ 100000) : Ev (fun k => depotref11_Decode.f k (bOf l)) (bOf (decode l).1, (decode l).2.1, (decode l).2.2) := by
  unfold depotref11_Decode.f
  exact ref_dec _ [] l [] (by omega) (by simpa using h) (by simp)
end Go.Proofs.YtjaklgikfcahdaaGreatDoor.Pu
namespace Go.Proofs.YtjaklgikfcahdaaGreatDoor.Pu
open Go.RowKit Go.Proofs.YtjaklgikfcahdaaGreatDoorW.PrintWords Go.Proofs.YtjaklgikfcahdaaGreatDoorW.PrintLast Go.Proofs.YtjaklgikfcahdaaGreatDoor.PV
set_option linter.unusedVariables false
set_option linter.unusedSimpArgs false
theorem line_crlf (r : List UInt8) : lineL (13 :: 10 :: r) = some ([], r) := by
  rw [lineL, if_pos (by rfl)]; rfl
theorem line_app : ∀ (s a b b' : List UInt8), lineL s = some (a, b) → lineL (a ++ 13 :: 10 :: b') = some (a, b')
  | [], a, b, b', h => by cases h
  | c :: r, a, b, b', h => by
    unfold lineL at h
    split at h
    case isTrue hp =>
      obtain ⟨rfl, rfl⟩ : [] = a ∧ r.drop 1 = b := by simpa using h
      exact line_crlf b'
    case isFalse hp =>
      cases hr : lineL r with
      | none => rw [hr] at h; cases h
      | some q =>
        rw [hr] at h
        obtain ⟨rfl, rfl⟩ : c :: q.1 = a ∧ q.2 = b := by simpa using h
        have ih := line_app r q.1 q.2 b' hr
        have he := line_eq r q.1 q.2 hr
        have np : ¬ ([13, 10] : List UInt8).isPrefixOf (c :: (q.1 ++ 13 :: 10 :: b')) = true := by
          intro hq
          apply hp
          obtain ⟨t, ht⟩ := List.isPrefixOf_iff_prefix.1 hq
          obtain ⟨hc, ht2⟩ : 13 = c ∧ 10 :: t = q.1 ++ 13 :: 10 :: b' := by simpa using ht
          cases hq1 : q.1 with
          | nil => rw [hq1] at ht2; simp at ht2
          | cons x y =>
            rw [hq1] at ht2 he
            obtain ⟨rfl, _⟩ : 10 = x ∧ t = y ++ 13 :: 10 :: b' := by simpa using ht2
            rw [he, ← hc]
            rfl
        rw [List.cons_append]
        unfold lineL
        rw [if_neg np, ih]
        rfl
theorem trL_err : ∀ (k n : Nat) (s : List UInt8) (g : Int), (trL k n s g).1 = 0 ∨ (trL k n s g).1 = 25 ∨ (trL k n s g).1 = 4
  | 0, n, s, g => Or.inr (Or.inl rfl)
  | k + 1, n, s, g => by
    unfold trL
    cases lineL s with
    | none => exact Or.inr (Or.inl rfl)
    | some q =>
      simp only
      split
      · exact Or.inl rfl
      · split
        · exact Or.inr (Or.inl rfl)
        · split
          · exact Or.inr (Or.inr rfl)
          · exact trL_err k _ _ _
theorem trL_cut : ∀ (k n : Nat) (s : List UInt8) (g g' : Int), trL k n s g = (0, g') →
    ∃ c t, s = c ++ t ∧ g' = g + c.length ∧ 2 ≤ c.length ∧ ∀ (t' : List UInt8) (K : Nat), (c ++ t').length < K → trL K n (c ++ t') g = (0, g')
  | 0, n, s, g, g', h => by simp [trL] at h
  | k + 1, n, s, g, g', h => by
    unfold trL at h
    cases hl : lineL s with
    | none => rw [hl] at h; simp at h
    | some q =>
      obtain ⟨a, b⟩ := q
      rw [hl] at h
      simp only at h
      have he := line_eq s a b hl
      by_cases c1 : a = []
      · rw [if_pos c1] at h
        obtain rfl : g + 2 = g' := by simpa using h
        refine ⟨[13, 10], b, by rw [he, c1]; rfl, rfl, by simp, fun t' K hK => ?_⟩
        obtain ⟨K, rfl⟩ : ∃ m, K = m + 1 := ⟨K - 1, by omega⟩
        unfold trL
        rw [show ([13, 10] : List UInt8) ++ t' = 13 :: 10 :: t' from rfl, line_crlf]
        simp
      · rw [if_neg c1] at h
        by_cases c2 : (parseL a).2.2 = 0
        · rw [if_neg (not_not_intro c2)] at h
          by_cases c3 : n = 64
          · rw [if_pos c3] at h; simp at h
          · rw [if_neg c3] at h
            obtain ⟨c, t, hb, hg, hc, hx⟩ := trL_cut k (n + 1) b _ g' h
            refine ⟨a ++ 13 :: 10 :: c, t, by rw [he, hb]; simp, by rw [hg]; simp; omega, by simp; omega, fun t' K hK => ?_⟩
            obtain ⟨K, rfl⟩ : ∃ m, K = m + 1 := ⟨K - 1, by omega⟩
            have e : (a ++ 13 :: 10 :: c) ++ t' = a ++ 13 :: 10 :: (c ++ t') := by simp
            rw [e]
            unfold trL
            rw [line_app s a b _ hl]
            simp only
            rw [if_neg c1, if_neg (not_not_intro c2), if_neg c3]
            exact hx t' K (by simp at hK ⊢; omega)
        · rw [if_pos c2] at h; simp at h
theorem szL_err (l : List UInt8) : (szL l).2 = 0 ∨ (szL l).2 = 25 ∨ (szL l).2 = 4 := by
  unfold szL Hand.szR
  split
  · exact Or.inr (Or.inl rfl)
  · split
    · exact Or.inr (Or.inl rfl)
    · split
      · exact Or.inr (Or.inr rfl)
      · exact Or.inl rfl
theorem szL_nil : ¬ (szL []).2 = 0 := by
  have : (szL []).2 = 25 := by kernel_rfl
  rw [this]; decide
theorem decL_err : ∀ (k : Nat) (s : List UInt8) (g : Int) (body : List UInt8), ¬ (decL k s g body).2.2 = 0 →
    (decL k s g body).1 = [] ∧ (decL k s g body).2.1 = 0 ∧ ((decL k s g body).2.2 = 25 ∨ (decL k s g body).2.2 = 4)
  | 0, s, g, body, h => ⟨rfl, rfl, Or.inl rfl⟩
  | k + 1, s, g, body, h => by
    unfold decL at h ⊢
    cases hl : lineL s with
    | none => exact ⟨rfl, rfl, Or.inl rfl⟩
    | some q =>
      rw [hl] at h
      simp only at h ⊢
      by_cases c1 : (szL q.1).2 = 0
      · rw [if_neg (not_not_intro c1)] at h ⊢
        by_cases c2 : 0 < (szL q.1).1
        · rw [if_pos c2] at h ⊢
          split
          · exact ⟨rfl, rfl, Or.inr rfl⟩
          case isFalse c3 =>
            rw [if_neg c3] at h
            split
            · exact ⟨rfl, rfl, Or.inl rfl⟩
            case isFalse c4 =>
              rw [if_neg c4] at h
              split
              case isTrue c5 => rw [if_pos c5] at h; exact decL_err k _ _ _ h
              · exact ⟨rfl, rfl, Or.inl rfl⟩
        · rw [if_neg c2] at h ⊢
          have ht := trL_err (q.2.length + 1) 0 q.2 (g + (q.1.length + 2))
          by_cases c6 : (trL (q.2.length + 1) 0 q.2 (g + (q.1.length + 2))).1 = 0
          · rw [if_pos c6] at h; exact absurd rfl h
          · rw [if_neg c6]
            exact ⟨rfl, rfl, by rcases ht with h0 | h0; exact absurd h0 c6; exact h0⟩
      · rw [if_pos c1]
        have ht := szL_err q.1
        exact ⟨rfl, rfl, by rcases ht with h0 | h0; exact absurd h0 c1; exact h0⟩
theorem decL_cut : ∀ (k : Nat) (s : List UInt8) (g : Int) (body r : List UInt8) (g' : Int), decL k s g body = (r, g', 0) →
    ∃ c t, s = c ++ t ∧ g' = g + c.length ∧ 5 ≤ c.length ∧ r.length ≤ body.length + c.length ∧ ∀ (t' : List UInt8) (K : Nat), (c ++ t').length < K → decL K (c ++ t') g body = (r, g', 0)
  | 0, s, g, body, r, g', h => by simp [decL] at h
  | k + 1, s, g, body, r, g', h => by
    unfold decL at h
    cases hl : lineL s with
    | none => rw [hl] at h; simp at h
    | some q =>
      obtain ⟨a, b⟩ := q
      rw [hl] at h
      simp only at h
      have he := line_eq s a b hl
      by_cases c1 : (szL a).2 = 0
      · rw [if_neg (not_not_intro c1)] at h
        have ha : 1 ≤ a.length := by
          cases a with
          | nil => exact absurd c1 szL_nil
          | cons x y => simp
        by_cases c2 : 0 < (szL a).1
        · rw [if_pos c2] at h
          by_cases c3 : 65536 < body.length + (szL a).1
          · rw [if_pos c3] at h; simp at h
          · rw [if_neg c3] at h
            by_cases c4 : (b.length : Int) < (szL a).1 + 2
            · rw [if_pos c4] at h; simp at h
            · rw [if_neg c4] at h
              by_cases c5 : (b.drop (szL a).1.toNat).take 2 = [13, 10]
              · rw [if_pos c5] at h
                obtain ⟨c, t, hb, hg, hc, hr, hx⟩ := decL_cut k _ _ _ r g' h
                obtain ⟨n, hn⟩ : ∃ n : Nat, (szL a).1 = n := ⟨(szL a).1.toNat, by omega⟩
                have hxn := hx
                rw [hn] at c2 c3 c4 c5 hb hg hr hx
                rw [show ((n : Int)).toNat = n by omega] at c5 hr hx
                rw [show ((n : Int) + 2).toNat = n + 2 by omega] at hb
                have htl : (b.take n).length = n := by rw [List.length_take]; omega
                have eb : b = b.take n ++ 13 :: 10 :: (c ++ t) := by
                  have h1 := List.take_append_drop n b
                  have h2 := List.take_append_drop 2 (b.drop n)
                  rw [c5, List.drop_drop, hb] at h2
                  rw [← h2] at h1
                  exact h1.symm
                refine ⟨a ++ 13 :: 10 :: (b.take n ++ 13 :: 10 :: c), t, ?_, ?_, ?_, ?_, fun t' K hK => ?_⟩
                · rw [he]
                  conv => lhs; rw [eb]
                  simp
                · rw [hg]; simp [htl]; omega
                · simp; omega
                · rw [List.length_append] at hr
                  simp at hr ⊢
                  omega
                · obtain ⟨K, rfl⟩ : ∃ m, K = m + 1 := ⟨K - 1, by omega⟩
                  have e : (a ++ 13 :: 10 :: (b.take n ++ 13 :: 10 :: c)) ++ t' = a ++ 13 :: 10 :: (b.take n ++ 13 :: 10 :: (c ++ t')) := by simp
                  rw [e]
                  unfold decL
                  rw [line_app s a b _ hl]
                  simp only
                  rw [if_neg (not_not_intro c1), hn, if_pos c2, if_neg c3, if_neg (by rw [List.length_append, htl]; simp; omega), show ((n : Int)).toNat = n by omega, show ((n : Int) + 2).toNat = n + 2 by omega]
                  have e1 : ((b.take n ++ 13 :: 10 :: (c ++ t')).drop n).take 2 = [13, 10] := by
                    rw [List.drop_append, List.drop_eq_nil_of_le (by omega), htl, Nat.sub_self]
                    rfl
                  have e2 : (b.take n ++ 13 :: 10 :: (c ++ t')).drop (n + 2) = c ++ t' := by
                    rw [List.drop_append, List.drop_eq_nil_of_le (by omega), htl, show n + 2 - n = 2 by omega]
                    rfl
                  have e3 : (b.take n ++ 13 :: 10 :: (c ++ t')).take n = b.take n := by
                    have := List.take_left (l₁ := b.take n) (l₂ := 13 :: 10 :: (c ++ t'))
                    rwa [htl] at this
                  rw [if_pos e1, e2, e3]
                  refine hx t' K ?_
                  simp [htl] at hK ⊢
                  omega
              · rw [if_neg c5] at h; simp at h
        · rw [if_neg c2] at h
          by_cases c6 : (trL (b.length + 1) 0 b (g + (a.length + 2))).1 = 0
          · rw [if_pos c6] at h
            obtain ⟨rfl, hg⟩ : body = r ∧ (trL (b.length + 1) 0 b (g + (a.length + 2))).2 = g' := by simpa using h
            obtain ⟨c, t, hb, hg1, hc, hx⟩ := trL_cut _ 0 b _ g' (Prod.ext c6 hg)
            refine ⟨a ++ 13 :: 10 :: c, t, by rw [he, hb]; simp, by rw [hg1]; simp; omega, by simp; omega, by omega, fun t' K hK => ?_⟩
            obtain ⟨K, rfl⟩ : ∃ m, K = m + 1 := ⟨K - 1, by omega⟩
            have e : (a ++ 13 :: 10 :: c) ++ t' = a ++ 13 :: 10 :: (c ++ t') := by simp
            rw [e]
            unfold decL
            rw [line_app s a b _ hl]
            simp only
            rw [if_neg (not_not_intro c1), if_neg c2, hx t' _ (Nat.lt_succ_self _), if_pos rfl]
          · rw [if_neg c6] at h
            simp at h
            exact absurd h.2.2 c6
      · rw [if_pos c1] at h
        simp at h
        exact absurd h.2.2 c1
end Go.Proofs.YtjaklgikfcahdaaGreatDoor.Pu
namespace Go.Proofs.YtjaklgikfcahdaaGreatDoor.Pu
open Go.RowKit Go.Proofs.YtjaklgikfcahdaaGreatDoorW.PrintWords Go.Proofs.YtjaklgikfcahdaaGreatDoorW.PrintLast Go.Proofs.YtjaklgikfcahdaaGreatDoor.PV
set_option linter.unusedVariables false
set_option linter.unusedSimpArgs false
theorem rdF_at (l : List S98) (i : Nat) (h : i < l.length) : rd_T98 l i = l[i] := by
  show l.getD (i : Int).toNat _ = _
  rw [Int.toNat_natCast, List.getD_eq_getElem?_getD, List.getElem?_eq_getElem h]; rfl
theorem rdB_at (l : List ByteArray) (i : Nat) (h : i < l.length) : rdOf ByteArray.empty l i = l[i] := by
  show l.getD (i : Int).toNat _ = _
  rw [Int.toNat_natCast, List.getD_eq_getElem?_getD, List.getElem?_eq_getElem h]; rfl
theorem wrap_nat (i n : Nat) (h : i < n) (hn : n ≤ 9223372036854775807) : wrap64 ((i : Int) + 1) = ((i + 1 : Nat) : Int) := by rw [wrap_id (by omega) (by omega)]; omega
theorem toList_eq {a b : ByteArray} (h : a.toList = b.toList) : a = b := by
  rw [ByteArray.toList_eq, ByteArray.toList_eq] at h
  obtain ⟨⟨x⟩⟩ := a
  obtain ⟨⟨y⟩⟩ := b
  simp only at h
  subst h
  rfl
def smallF (n : Nat) (x : S98) : Prop := x.f0.size ≤ n ∧ x.f1.size ≤ n
def sameN (a b : ByteArray) : Bool := (Hand.lowerS a).toList == (Hand.lowerS b).toList
theorem prog_Same (a b : ByteArray) (ha : a.size ≤ 9223372036854775807) (hb : b.size ≤ 9223372036854775807) : octet_Same.f a b = some (sameN a b) := by
  unfold octet_Same.f octet_Lower.f
  by_cases h : a.size = b.size
  · rw [if_pos (by omega), if_pos ha, if_pos hb]; rfl
  · rw [if_neg (by omega)]
    congr 1
    cases hs : sameN a b with
    | false => rfl
    | true =>
      have := congrArg ByteArray.size (toList_eq (beq_iff_eq.1 hs))
      rw [Hand.lowerS_size, Hand.lowerS_size] at this
      exact absurd this h
theorem ref_Same (a b : ByteArray) (ha : a.size ≤ 9223372036854775807) (hb : b.size ≤ 9223372036854775807) : depotref01_Same.f a b = some (sameN a b) := by
  unfold depotref01_Same.f depotref01_Lower.f
  rw [if_pos ha, if_pos hb]; rfl
def allS (name : ByteArray) (l : List S98) : List ByteArray := (l.filter fun x => sameN x.f0 name).map (·.f1)
theorem prog_All (l : List S98) (name : ByteArray) (n : Nat) (hn : n ≤ 1000000) (hl : l.length < 1000000) (hs : ∀ x ∈ l, smallF n x) (h2 : name.size ≤ n) : fields_All.f l name = some (allS name l) := by
  have h1 : ∀ x ∈ l, octet_Same.f x.f0 name = some (sameN x.f0 name) := fun x hx => prog_Same _ _ (by have := (hs x hx).1; omega) (by omega)
  unfold fields_All.f
  rw [if_pos ⟨hl, fun x hx => by rw [h1 x hx]; rfl⟩]
  unfold allS
  congr 2
  apply List.filter_congr
  intro x hx
  unfold fields_is
  rw [h1 x hx]
  cases sameN x.f0 name <;> rfl
theorem allS_cons (name : ByteArray) (x : S98) (l : List S98) : allS name (x :: l) = if sameN x.f0 name = true then x.f1 :: allS name l else allS name l := by
  unfold allS
  rw [List.filter_cons]
  split <;> rfl
theorem rall_l0 (l : List S98) (name : ByteArray) (n : Nat) (hn : n ≤ 1000000) (hl : l.length < 1000000) (hs : ∀ x ∈ l, smallF n x) (h2 : name.size ≤ n) : ∀ (d i : Nat) (acc : List ByteArray), d + i = l.length → acc.length ≤ i → Ev (fun k => depotref09_All.l0 k l name acc i) (acc ++ allS name (l.drop i)) := by
  intro d
  induction d with
  | zero =>
    intro i acc hd ha
    rw [List.drop_of_length_le (by omega)]
    refine Ev.step (fun k => by rw [depotref09_All.l0]) ?_
    exact Ev.neg (by omega) (Ev.some' (by simp [allS]))
  | succ d ih =>
    intro i acc hd ha
    have hlt : i < l.length := by omega
    have hx := hs _ (List.getElem_mem hlt)
    rw [List.drop_eq_getElem_cons hlt, allS_cons]
    refine Ev.step (fun k => by rw [depotref09_All.l0, rdF_at l i hlt, wrap_nat i l.length hlt (by omega)]) (Ev.pos (by omega) (Ev.pos (by omega) ?_))
    refine Ev.sbind (ref_Same l[i].f0 name (by have := hx.1; omega) (by omega)) ?_
    by_cases c : sameN l[i].f0 name = true
    · rw [if_pos c]
      refine Ev.pos c (Ev.pos (by omega) ?_)
      have := ih (i + 1) (acc ++ [l[i].f1]) (by omega) (by simp; omega)
      rw [List.append_assoc] at this
      exact this
    · rw [if_neg c]
      exact Ev.neg c (ih (i + 1) acc (by omega) (by omega))
theorem ref_All (l : List S98) (name : ByteArray) (n : Nat) (hn : n ≤ 1000000) (hl : l.length < 1000000) (hs : ∀ x ∈ l, smallF n x) (h2 : name.size ≤ n) : Ev (fun k => depotref09_All.f k l name) (allS name l) :=
  rall_l0 l name n hn hl hs h2 l.length 0 [] (by omega) (Nat.le_refl _)
theorem allS_small (name : ByteArray) (l : List S98) (n : Nat) (hs : ∀ x ∈ l, smallF n x) : (allS name l).length ≤ l.length ∧ ∀ s ∈ allS name l, s.size ≤ n := by
  unfold allS
  refine ⟨by rw [List.length_map]; exact List.length_filter_le _ _, fun s h => ?_⟩
  obtain ⟨x, hx, rfl⟩ := List.mem_map.1 h
  exact (hs x (List.mem_filter.1 hx).1).2
def isN (names : List ByteArray) (x : S98) : Bool := names.any fun n => sameN x.f0 n
def dropS (names : List ByteArray) (l : List S98) : List S98 := l.filter fun x => !isN names x
theorem prog_Drop (l : List S98) (names : List ByteArray) (n : Nat) (hn : n ≤ 1000000) (hl : l.length < 1000000) (hl2 : names.length < 1000000) (hs : ∀ x ∈ l, smallF n x) (h2 : ∀ m ∈ names, m.size ≤ n) : fields_Drop.f l names = some (dropS names l) := by
  have h1 : ∀ x ∈ l, ∀ m ∈ names, octet_Same.f x.f0 m = some (sameN x.f0 m) := fun x hx m hm => prog_Same _ _ (by have := (hs x hx).1; omega) (by have := h2 m hm; omega)
  unfold fields_Drop.f
  rw [if_pos ⟨hl, hl2, fun x hx m hm => by rw [h1 x hx m hm]; rfl⟩]
  unfold dropS
  congr 1
  apply List.filter_congr
  intro x hx
  congr 1
  unfold fields_in isN
  have h3 := h1 x hx
  clear h1 h2 hl2
  induction names with
  | nil => rfl
  | cons a t ih =>
    rw [List.any_cons, List.any_cons, ih (fun m hm => h3 m (List.mem_cons_of_mem _ hm)), h3 a List.mem_cons_self]
    cases sameN x.f0 a <;> rfl
theorem rdrop_l1 (l : List S98) (names : List ByteArray) (acc : List S98) (i : Nat) (hi : i < l.length) (hl : l.length < 1000000) (hl2 : names.length < 1000000) (ha : acc.length < 1000000) (hx : l[i].f0.size ≤ 1000000) (h2 : ∀ m ∈ names, m.size ≤ 1000000) (r : List S98)
    (hT : Ev (fun k => depotref09_Drop.l0 k l names acc ((i + 1 : Nat) : Int)) r ∨ (isN names l[i] = false)) (hF : Ev (fun k => depotref09_Drop.l0 k l names (acc ++ [l[i]]) ((i + 1 : Nat) : Int)) r ∨ isN names l[i] = true) :
    ∀ (d j : Nat) (b : Bool), d + j = names.length → isN names l[i] = (b || isN (names.drop j) l[i]) → Ev (fun k => depotref09_Drop.l1 k l names acc i b j) r := by
  intro d
  induction d with
  | zero =>
    intro j b hd hb
    rw [List.drop_of_length_le (by omega)] at hb
    refine Ev.step (fun k => by rw [depotref09_Drop.l1, wrap_nat i l.length hi (by omega), rdF_at l i hi]) (Ev.neg (by omega) ?_)
    cases b
    · refine Ev.neg (by simp) (Ev.pos (by omega) (Ev.pos (by omega) (Ev.pos (by omega) ?_)))
      rcases hF with h | h
      · exact h
      · rw [h] at hb; cases hb
    · refine Ev.pos rfl ?_
      rcases hT with h | h
      · exact h
      · rw [h] at hb; cases hb
  | succ d ih =>
    intro j b hd hb
    have hlt : j < names.length := by omega
    rw [List.drop_eq_getElem_cons hlt] at hb
    refine Ev.step (fun k => by rw [depotref09_Drop.l1, wrap_nat j names.length hlt (by omega), rdF_at l i hi, rdB_at names j hlt]) (Ev.pos (by omega) ?_)
    cases b
    · refine Ev.neg (by simp) (Ev.pos (by omega) (Ev.pos (by omega) (Ev.pos (by omega) ?_)))
      refine Ev.sbind (ref_Same l[i].f0 names[j] (by omega) (by have := h2 _ (List.getElem_mem hlt); omega)) ?_
      exact ih (j + 1) _ (by omega) (by rw [hb]; rfl)
    · exact Ev.pos rfl (ih (j + 1) true (by omega) (by rw [hb]; rfl))
theorem rdrop_l0 (l : List S98) (names : List ByteArray) (hl : l.length < 1000000) (hl2 : names.length < 1000000) (hs : ∀ x ∈ l, smallF 1000000 x) (h2 : ∀ m ∈ names, m.size ≤ 1000000) : ∀ (d i : Nat) (acc : List S98), d + i = l.length → acc.length ≤ i → Ev (fun k => depotref09_Drop.l0 k l names acc i) (acc ++ dropS names (l.drop i)) := by
  intro d
  induction d with
  | zero =>
    intro i acc hd ha
    rw [List.drop_of_length_le (by omega)]
    refine Ev.step (fun k => by rw [depotref09_Drop.l0]) ?_
    exact Ev.neg (by omega) (Ev.some' (by simp [dropS]))
  | succ d ih =>
    intro i acc hd ha
    have hlt : i < l.length := by omega
    refine Ev.step (fun k => by rw [depotref09_Drop.l0]) (Ev.pos (by omega) ?_)
    have hcons : dropS names (l.drop i) = if isN names l[i] = true then dropS names (l.drop (i + 1)) else l[i] :: dropS names (l.drop (i + 1)) := by
      unfold dropS
      rw [List.drop_eq_getElem_cons hlt, List.filter_cons]
      cases isN names l[i] <;> rfl
    rw [hcons]
    refine rdrop_l1 l names acc i hlt hl hl2 (by omega) (hs _ (List.getElem_mem hlt)).1 h2 _ ?_ ?_ names.length 0 false (by omega) (by rw [List.drop_zero]; rfl)
    · cases c : isN names l[i]
      · exact Or.inr rfl
      · exact Or.inl (by rw [if_pos rfl]; exact ih (i + 1) acc (by omega) (by omega))
    · cases c : isN names l[i]
      · refine Or.inl ?_
        rw [if_neg (by simp)]
        have := ih (i + 1) (acc ++ [l[i]]) (by omega) (by simp; omega)
        rw [List.append_assoc] at this
        exact this
      · exact Or.inr rfl
theorem ref_Drop (l : List S98) (names : List ByteArray) (hl : l.length < 1000000) (hl2 : names.length < 1000000) (hs : ∀ x ∈ l, smallF 1000000 x) (h2 : ∀ m ∈ names, m.size ≤ 1000000) : Ev (fun k => depotref09_Drop.f k l names) (dropS names l) :=
  rdrop_l0 l names hl hl2 hs h2 l.length 0 [] (by omega) (Nat.le_refl _)
def fldL (l : List UInt8) : S98 := ⟨bOf (parseL l).1, bOf (parseL l).2.1⟩
def rowsR : List (List UInt8) → List S98 → Int × List S98
  | [], acc => (0, acc)
  | l :: ls, acc => if (parseL l).2.2 = 0 then rowsR ls (acc ++ [fldL l]) else ((parseL l).2.2, acc)
theorem prog_rows : ∀ (ls : List (List UInt8)) (acc : List S98), (∀ l ∈ ls, l.length ≤ 100000) → rowsP (ls.map bOf) acc = some (rowsR ls acc)
  | [], acc, _ => rfl
  | l :: ls, acc, h => by
    rw [List.map_cons, rowsP, prog_Parse l (by have := h l List.mem_cons_self; omega), Option.bind_some, rowsR]
    by_cases c : (parseL l).2.2 = 0
    · rw [if_pos c, if_pos c]
      exact prog_rows ls _ (fun x hx => h x (List.mem_cons_of_mem _ hx))
    · rw [if_neg c, if_neg c]
def rowsE (ls : List (List UInt8)) : List S98 × Int := if 64 < ls.length then ([], 4) else if (rowsR ls []).1 = 0 then ((rowsR ls []).2, 0) else ([], (rowsR ls []).1)
theorem rrows_l0 (ls : List (List UInt8)) (hn : ls.length ≤ 64) (h : ∀ l ∈ ls, l.length ≤ 100000) : ∀ (d i : Nat) (acc : List S98), d + i = ls.length → acc.length ≤ i → Ev (fun k => depotref12_rows.l0 k (ls.map bOf) acc i) (if (rowsR (ls.drop i) acc).1 = 0 then ((rowsR (ls.drop i) acc).2, 0) else ([], (rowsR (ls.drop i) acc).1)) := by
  intro d
  induction d with
  | zero =>
    intro i acc hd ha
    rw [List.drop_of_length_le (by omega)]
    refine Ev.step (fun k => by rw [depotref12_rows.l0]) ?_
    exact Ev.neg (by simp; omega) (Ev.some' rfl)
  | succ d ih =>
    intro i acc hd ha
    have hlt : i < ls.length := by omega
    rw [List.drop_eq_getElem_cons hlt, rowsR]
    have hrd : rdOf ByteArray.empty (ls.map bOf) i = bOf ls[i] := by rw [rdB_at _ i (by simpa using hlt), List.getElem_map]
    refine Ev.step (fun k => by rw [depotref12_rows.l0, hrd, wrap_nat i ls.length hlt (by omega)]) (Ev.pos (by simp; omega) (Ev.pos (by omega) ?_))
    refine Ev.bind (ref_Parse ls[i] (by have := h _ (List.getElem_mem hlt); omega)) ?_
    by_cases c : (parseL ls[i]).2.2 = 0
    · rw [if_pos c]
      exact Ev.pos c (Ev.pos (by omega) (ih (i + 1) _ (by omega) (by simp; omega)))
    · rw [if_neg c, if_neg c]
      exact Ev.neg c (Ev.some' rfl)
theorem ref_rows (ls : List (List UInt8)) (h : ∀ l ∈ ls, l.length ≤ 100000) : Ev (fun k => depotref12_rows.f k (ls.map bOf)) (rowsE ls) := by
  unfold depotref12_rows.f rowsE
  by_cases c : 64 < ls.length
  · rw [if_pos c]; exact Ev.pos (by simp; omega) (Ev.some' rfl)
  · rw [if_neg c]; exact Ev.neg (by simp; omega) (rrows_l0 ls (by omega) h ls.length 0 [] (by omega) (Nat.le_refl _))
theorem parseL_le (l : List UInt8) : (parseL l).1.length ≤ l.length ∧ (parseL l).2.1.length ≤ l.length := by
  unfold parseL
  have hc := cut_le 58 l
  have ht := trim_le (cutAt 58 l).2.1
  split
  · exact ⟨by simp, by simp⟩
  · split
    · exact ⟨hc.1, Nat.le_trans ht hc.2⟩
    · exact ⟨by simp, by simp⟩
theorem rowsR_small (n : Nat) : ∀ (ls : List (List UInt8)) (acc : List S98), (∀ l ∈ ls, l.length ≤ n) → (∀ x ∈ acc, smallF n x) → (∀ x ∈ (rowsR ls acc).2, smallF n x) ∧ (rowsR ls acc).2.length ≤ acc.length + ls.length
  | [], acc, _, h => ⟨h, by simp [rowsR]⟩
  | l :: ls, acc, hl, h => by
    rw [rowsR]
    split
    · have hp := parseL_le l
      have h1 := hl l List.mem_cons_self
      have := rowsR_small n ls (acc ++ [fldL l]) (fun x hx => hl x (List.mem_cons_of_mem _ hx)) (fun x hx => by
        rcases List.mem_append.1 hx with hx | hx
        · exact h x hx
        · rw [List.mem_singleton.1 hx]
          exact ⟨by show (bOf _).size ≤ n; rw [bOf_size]; omega, by show (bOf _).size ≤ n; rw [bOf_size]; omega⟩)
      refine ⟨this.1, ?_⟩
      have h2 := this.2
      simp at h2 ⊢
      omega
    · exact ⟨h, by simp⟩
theorem equal_l0 (l : List S98) (hl : l.length < 1000000) : ∀ (d i : Nat), d + i = l.length → Ev (fun k => depotref09_Equal.l0 k l l i) true := by
  intro d
  induction d with
  | zero =>
    intro i hd
    refine Ev.step (fun k => by rw [depotref09_Equal.l0]) ?_
    exact Ev.neg (by omega) (Ev.some' rfl)
  | succ d ih =>
    intro i hd
    have hlt : i < l.length := by omega
    refine Ev.step (fun k => by rw [depotref09_Equal.l0, rdF_at l i hlt, wrap_nat i l.length hlt (by omega)]) (Ev.pos (by omega) (Ev.pos (by omega) (Ev.pos (by omega) (Ev.neg (by simp) (ih (i + 1) (by omega))))))
theorem equal_refl (l : List S98) (hl : l.length < 1000000) : Ev (fun k => depotref09_Equal.f k l l) true := by
  unfold depotref09_Equal.f
  exact Ev.pos rfl (equal_l0 l hl l.length 0 (by omega))
end Go.Proofs.YtjaklgikfcahdaaGreatDoor.Pu
namespace Go.Proofs.YtjaklgikfcahdaaGreatDoor.Pu
open Go.RowKit Go.Proofs.YtjaklgikfcahdaaGreatDoorW.PrintWords Go.Proofs.YtjaklgikfcahdaaGreatDoorW.PrintLast Go.Proofs.YtjaklgikfcahdaaGreatDoor.PV
set_option linter.unusedVariables false
set_option linter.unusedSimpArgs false
def endL : List UInt8 → Option (List UInt8 × List UInt8)
  | [] => none
  | c :: r => if ([13, 10, 13, 10] : List UInt8).isPrefixOf (c :: r) = true then some ([], r.drop 3) else (endL r).map fun p => (c :: p.1, p.2)
theorem end_index : ∀ l : List UInt8, Lib.index l [13, 10, 13, 10] = match endL l with | none => -1 | some q => (q.1.length : Int)
  | [] => rfl
  | c :: r => by
    have ih := end_index r
    unfold Lib.index endL
    by_cases hp : ([13, 10, 13, 10] : List UInt8).isPrefixOf (c :: r) = true
    · rw [if_pos hp, if_pos hp]; rfl
    · rw [if_neg hp, if_neg hp, ih]
      cases endL r with
      | none => rfl
      | some q =>
        simp only [Option.map_some, List.length_cons]
        rw [if_neg (by simp <;> omega)]
        simp
theorem end_eq : ∀ (l a b : List UInt8), endL l = some (a, b) → l = a ++ 13 :: 10 :: 13 :: 10 :: b
  | [], a, b, h => by cases h
  | c :: r, a, b, h => by
    unfold endL at h
    split at h
    case isTrue hp =>
      obtain ⟨rfl, rfl⟩ : [] = a ∧ r.drop 3 = b := by simpa using h
      obtain ⟨t, ht⟩ := List.isPrefixOf_iff_prefix.1 hp
      obtain ⟨rfl, rfl⟩ : 13 = c ∧ 10 :: 13 :: 10 :: t = r := by simpa using ht
      rfl
    case isFalse =>
      cases hr : endL r with
      | none => rw [hr] at h; cases h
      | some q =>
        rw [hr] at h
        obtain ⟨rfl, rfl⟩ : c :: q.1 = a ∧ q.2 = b := by simpa using h
        have := end_eq r q.1 q.2 hr
        rw [List.cons_append, ← this]
theorem cut_end (l : List UInt8) : Lib.cut l [13, 10, 13, 10] = match endL l with | none => (l, [], false) | some q => (q.1, q.2, true) := by
  have hi := end_index l
  unfold Lib.cut
  cases h : endL l with
  | none => rw [h] at hi; simp only at hi; rw [hi, if_neg (by decide)]
  | some q =>
    rw [h] at hi
    simp only at hi
    have he := end_eq l q.1 q.2 h
    rw [hi, if_pos (by omega), Int.toNat_natCast]
    have e1 : l.take q.1.length = q.1 := by
      conv => lhs; arg 2; rw [he]
      exact List.take_left
    have e2 : l.drop (q.1.length + ([13, 10, 13, 10] : List UInt8).length) = q.2 := by
      conv => lhs; arg 2; rw [he]
      rw [List.drop_append, List.drop_eq_nil_of_le (by simp), show q.1.length + ([13, 10, 13, 10] : List UInt8).length - q.1.length = 4 by simp]
      rfl
    rw [e1, e2]
theorem line_pre {s : List UInt8} (h : ([13, 10] : List UInt8).isPrefixOf s = true) : lineL s = some ([], s.drop 2) := by
  cases s with
  | nil => cases h
  | cons c r => rw [lineL, if_pos h]; rfl
theorem line_nil {s r : List UInt8} (h : lineL s = some ([], r)) : ([13, 10] : List UInt8).isPrefixOf s = true := by
  rw [line_eq s [] r h]; rfl
theorem end_pre {s : List UInt8} (h : ¬ ([13, 10] : List UInt8).isPrefixOf s = true) : ¬ ([13, 10, 13, 10] : List UInt8).isPrefixOf s = true := fun e => by
  obtain ⟨t, rfl⟩ := List.isPrefixOf_iff_prefix.1 e
  exact h rfl
theorem end_line : ∀ s : List UInt8, endL s = match lineL s with | none => none | some p => if ([13, 10] : List UInt8).isPrefixOf p.2 = true then some (p.1, p.2.drop 2) else (endL p.2).map fun q => (p.1 ++ 13 :: 10 :: q.1, q.2)
  | [] => rfl
  | c :: r => by
    have ih := end_line r
    by_cases hp : ([13, 10] : List UInt8).isPrefixOf (c :: r) = true
    · obtain ⟨t, ht⟩ := List.isPrefixOf_iff_prefix.1 hp
      obtain ⟨rfl, rfl⟩ : 13 = c ∧ 10 :: t = r := by simpa using ht
      rw [lineL, if_pos hp]
      by_cases hq : ([13, 10] : List UInt8).isPrefixOf t = true
      · obtain ⟨u, rfl⟩ := List.isPrefixOf_iff_prefix.1 hq
        rfl
      · have h4 : ¬ ([13, 10, 13, 10] : List UInt8).isPrefixOf (13 :: 10 :: t) = true := fun e => hq (by
          obtain ⟨u, hu⟩ := List.isPrefixOf_iff_prefix.1 e
          obtain rfl : 13 :: 10 :: u = t := by simpa using hu
          rfl)
        have h5 : ¬ ([13, 10, 13, 10] : List UInt8).isPrefixOf (10 :: t) = true := by simp [List.isPrefixOf]
        show endL (13 :: 10 :: t) = if ([13, 10] : List UInt8).isPrefixOf t = true then some ([], t.drop 2) else (endL t).map fun q => (([] : List UInt8) ++ 13 :: 10 :: q.1, q.2)
        rw [if_neg hq, endL, if_neg h4, endL, if_neg h5]
        cases endL t <;> rfl
    · rw [lineL, if_neg hp, endL, if_neg (end_pre hp), ih]
      cases lineL r with
      | none => rfl
      | some p =>
        simp only [Option.map_some]
        by_cases hq : ([13, 10] : List UInt8).isPrefixOf p.2 = true
        · rw [if_pos hq, if_pos hq]; rfl
        · rw [if_neg hq, if_neg hq]
          cases endL p.2 <;> rfl
theorem line_none_of : ∀ (s a r : List UInt8), lineL s = some (a, r) → lineL a = none
  | [], a, r, h => by cases h
  | c :: s, a, r, h => by
    unfold lineL at h
    split at h
    case isTrue hp =>
      obtain ⟨rfl, rfl⟩ : [] = a ∧ s.drop 1 = r := by simpa using h
      rfl
    case isFalse hp =>
      cases hr : lineL s with
      | none => rw [hr] at h; cases h
      | some q =>
        rw [hr] at h
        obtain ⟨rfl, rfl⟩ : c :: q.1 = a ∧ q.2 = r := by simpa using h
        have ih := line_none_of s q.1 q.2 hr
        have he := line_eq s q.1 q.2 hr
        rw [lineL, if_neg (fun e => hp (by
          obtain ⟨u, hu⟩ := List.isPrefixOf_iff_prefix.1 e
          obtain ⟨rfl, hu2⟩ : 13 = c ∧ 10 :: u = q.1 := by simpa using hu
          rw [he, ← hu2]; rfl)), ih]
        rfl
theorem line_some_of : ∀ (a r : List UInt8), lineL a = none → lineL (a ++ 13 :: 10 :: r) = some (a, r)
  | [], r, h => rfl
  | c :: a, r, h => by
    unfold lineL at h
    split at h
    case isTrue => cases h
    case isFalse hp =>
      have ha : lineL a = none := by cases hr : lineL a with
        | none => rfl
        | some q => rw [hr] at h; cases h
      have ih := line_some_of a r ha
      rw [List.cons_append, lineL, if_neg (fun e => hp (by
        obtain ⟨u, hu⟩ := List.isPrefixOf_iff_prefix.1 e
        obtain ⟨rfl, hu2⟩ : 13 = c ∧ 10 :: u = a ++ 13 :: 10 :: r := by simpa using hu
        cases a with
        | nil => exact absurd (List.cons.inj hu2).1 (by decide)
        | cons d a => obtain ⟨rfl, _⟩ := List.cons.inj hu2; rfl)), ih]
      rfl
def headL : Nat → List UInt8 → Option (List (List UInt8) × List UInt8)
  | 0, _ => none
  | k + 1, s => match lineL s with
    | none => none
    | some p => if p.1 = [] then some ([], p.2) else (headL k p.2).map fun q => (p.1 :: q.1, q.2)
def splL : Nat → List UInt8 → List (List UInt8)
  | 0, s => [s]
  | k + 1, s => match lineL s with
    | none => [s]
    | some p => p.1 :: splL k p.2
theorem line_len' {s a b : List UInt8} (h : lineL s = some (a, b)) : s.length = a.length + 2 + b.length := by
  rw [line_eq s a b h]; simp; omega
theorem head_end : ∀ (k : Nat) (s : List UInt8), s.length < k → ¬ ([13, 10] : List UInt8).isPrefixOf s = true → ∀ K, s.length < K → headL k s = (endL s).map fun p => (splL K p.1, p.2)
  | 0, s, h, _, _, _ => by omega
  | k + 1, s, h, hp, K, hK => by
    rw [headL, end_line]
    cases hl : lineL s with
    | none => rfl
    | some p =>
      obtain ⟨a, r⟩ := p
      have hlen := line_len' hl
      have hne : ¬ a = [] := fun e => hp (line_nil (e ▸ hl))
      have hna := line_none_of s a r hl
      obtain ⟨K, rfl⟩ : ∃ m, K = m + 1 := ⟨K - 1, by omega⟩
      simp only
      rw [if_neg hne]
      by_cases hq : ([13, 10] : List UInt8).isPrefixOf r = true
      · rw [if_pos hq]
        obtain ⟨k, rfl⟩ : ∃ m, k = m + 1 := ⟨k - 1, by omega⟩
        rw [headL, line_pre hq, Option.map_some, splL, hna]
        rfl
      · rw [if_neg hq, head_end k r (by omega) hq K (by omega)]
        cases he : endL r with
        | none => rfl
        | some q =>
          simp only [Option.map_some]
          rw [splL, line_some_of a q.1 hna]
theorem head_pre {s : List UInt8} (k : Nat) (h : ([13, 10] : List UInt8).isPrefixOf s = true) : headL (k + 1) s = some ([], s.drop 2) := by
  rw [headL, line_pre h]; rfl
theorem splL_ne (K : Nat) (s : List UInt8) : splL K s ≠ [] := by
  cases K with
  | zero => exact List.cons_ne_nil _ _
  | succ K => rw [splL]; split <;> exact List.cons_ne_nil _ _
def headS (s : List UInt8) : Option (List (List UInt8) × List UInt8) := match headL (s.length + 1) s with
  | none => none
  | some p => if p.1 = [] then none else some p
theorem headS_prog (s : List UInt8) : headS s = if ([13, 10] : List UInt8).isPrefixOf s = true then none else (endL s).map fun p => (splL (s.length + 1) p.1, p.2) := by
  unfold headS
  by_cases hp : ([13, 10] : List UInt8).isPrefixOf s = true
  · rw [head_pre _ hp, if_pos hp]; rfl
  · rw [if_neg hp, head_end _ s (by omega) hp (s.length + 1) (by omega)]
    cases he : endL s with
    | none => rfl
    | some q => simp only [Option.map_some]; rw [if_neg (splL_ne _ _)]
theorem splL_fuel : ∀ (k K : Nat) (s : List UInt8), s.length < k → s.length < K → splL k s = splL K s
  | 0, _, s, h, _ => by omega
  | _, 0, s, _, h => by omega
  | k + 1, K + 1, s, h, h2 => by
    rw [splL, splL]
    cases hl : lineL s with
    | none => rfl
    | some p =>
      have := line_len' (a := p.1) (b := p.2) hl
      simp only
      rw [splL_fuel k K p.2 (by omega) (by omega)]
def joinE (l : List (List UInt8)) (rest : List UInt8) : List UInt8 := l.foldr (fun a r => a ++ 13 :: 10 :: r) (13 :: 10 :: rest)
theorem head_back : ∀ (k : Nat) (s : List UInt8) (p : List (List UInt8) × List UInt8), headL k s = some p → s = joinE p.1 p.2 ∧ ∀ a ∈ p.1, a ≠ [] ∧ lineL a = none
  | 0, s, p, h => by cases h
  | k + 1, s, p, h => by
    rw [headL] at h
    cases hl : lineL s with
    | none => rw [hl] at h; cases h
    | some q =>
      obtain ⟨a, r⟩ := q
      rw [hl] at h
      simp only at h
      have he := line_eq s a r hl
      by_cases c : a = []
      · rw [if_pos c] at h
        obtain rfl := Option.some.inj h
        subst c
        exact ⟨he, fun _ hx => by cases hx⟩
      · rw [if_neg c] at h
        cases hh : headL k r with
        | none => rw [hh] at h; cases h
        | some z =>
          rw [hh] at h
          obtain rfl := Option.some.inj h
          obtain ⟨e1, e2⟩ := head_back k r z hh
          refine ⟨by rw [he, e1]; rfl, fun x hx => ?_⟩
          rcases List.mem_cons.1 hx with rfl | hx
          · exact ⟨c, line_none_of s x r hl⟩
          · exact e2 x hx
theorem headS_back {s : List UInt8} {p : List (List UInt8) × List UInt8} (h : headS s = some p) : s = joinE p.1 p.2 ∧ p.1 ≠ [] ∧ ∀ a ∈ p.1, a ≠ [] ∧ lineL a = none := by
  unfold headS at h
  cases hh : headL (s.length + 1) s with
  | none => rw [hh] at h; cases h
  | some q =>
    rw [hh] at h
    simp only at h
    by_cases c : q.1 = []
    · rw [if_pos c] at h; cases h
    · rw [if_neg c] at h
      obtain rfl := Option.some.inj h
      exact ⟨(head_back _ _ _ hh).1, c, (head_back _ _ _ hh).2⟩
theorem split_crlf (n : Nat) : ∀ l : List UInt8, l.length = n → Lib.splitB (bOf [13, 10]) 0 (Lib.countB (bOf l) (bOf [13, 10])) (bOf l) = (splL (l.length + 1) l).map bOf := by
  induction n using Nat.strongRecOn with
  | _ n ih =>
    intro l hl
    have hi : Lib.indexB (bOf l) (bOf [13, 10]) = match lineL l with | none => -1 | some q => (q.1.length : Int) := line_index l
    rw [splL]
    cases hh : lineL l with
    | none =>
      rw [hh] at hi
      rw [Lib.countB_miss _ _ hi, Lib.splitB_zero]
      rfl
    | some q =>
      rw [hh] at hi
      have hy := line_eq l q.1 q.2 hh
      have hly := line_len' (a := q.1) (b := q.2) hh
      have hi' : Lib.indexB (bOf l) (bOf [13, 10]) = (q.1.length : Nat) := hi
      rw [Lib.countB_hit _ _ _ (by rw [bOf_size]; simp) hi', Nat.add_comm 1, Lib.splitB_hit _ _ _ _ _ hi', bOf_size, bOf_size, bOf_extract, bOf_extract, List.take_length]
      have e1 : (l.take (q.1.length + 0)).drop 0 = q.1 := by
        rw [Nat.add_zero, List.drop_zero]
        conv => lhs; arg 2; rw [hy]
        exact List.take_left
      have e2 : l.drop (q.1.length + ([13, 10] : List UInt8).length) = q.2 := by
        conv => lhs; arg 2; rw [hy]
        rw [List.drop_append, List.drop_eq_nil_of_le (by simp), show q.1.length + ([13, 10] : List UInt8).length - q.1.length = 2 by simp]
        rfl
      rw [e1, e2, ih q.2.length (by omega) _ rfl, List.map_cons, splL_fuel (q.2.length + 1) l.length q.2 (by omega) (by omega)]
theorem pre_take' (l p : List UInt8) (h : p.length ≤ l.length) : (l.take p.length == p) = p.isPrefixOf l := by
  have := Lib.hasPrefix_of_take l p
  unfold Lib.hasPrefix at this
  rw [← this, decide_eq_true h, Bool.true_and]
theorem prog_HasPrefix (l p : List UInt8) (h : l.length ≤ 4294967296) : strings_HasPrefix.f (bOf l) (bOf p) = some (p.isPrefixOf l) := by
  unfold strings_HasPrefix.f stringslite_HasPrefix.f
  rw [bOf_size, bOf_size]
  by_cases hp : p.length ≤ l.length
  · rw [if_pos (by omega), if_pos (by omega), if_pos (by omega), bOf_extract, Int.toNat_natCast, List.drop_zero, toList_bOf, toList_bOf, pre_take' l p hp, Option.bind_some]
  · have hq : p.isPrefixOf l = false := by
      cases hq : p.isPrefixOf l
      · rfl
      · exact absurd (List.isPrefixOf_iff_prefix.1 hq).length_le hp
    rw [if_neg (by omega), Option.bind_some, hq]
def beginS (l : List UInt8) : Int × List ByteArray × ByteArray := if 65536 < l.length then (4, [], bOf []) else match headS l with
  | none => (5, [], bOf [])
  | some p => (0, p.1.map bOf, bOf p.2)
theorem prog_begin (l : List UInt8) (h : l.length ≤ 100000) : msgBegin (bOf l) = some (beginS l) := by
  unfold msgBegin beginS
  rw [bOf_size]
  by_cases c : 65536 < l.length
  · rw [if_pos c, if_pos c]; rfl
  rw [if_neg c, if_neg c]
  unfold strings_Cut.f
  rw [if_pos (by rw [bOf_size]; omega), Option.bind_some]
  simp only
  have hc := cut_end l
  rw [data_bOf, hc, headS_prog]
  cases he : endL l with
  | none =>
    rw [if_neg (by simp)]
    by_cases c2 : ([13, 10] : List UInt8).isPrefixOf l = true
    · rw [if_pos c2]; rfl
    · rw [if_neg c2]; rfl
  | some q =>
    simp only
    rw [if_pos trivial, bOf_mk, bOf_size]
    have hq := end_eq l q.1 q.2 he
    by_cases c1 : q.1.length = 0
    · rw [if_pos c1]
      have h0 : q.1 = [] := List.eq_nil_of_length_eq_zero c1
      rw [if_pos (by rw [hq, h0]; rfl)]
      rfl
    · rw [if_neg c1, show (⟨#[13, 10]⟩ : ByteArray) = bOf [13, 10] from rfl, prog_HasPrefix l [13, 10] (by omega), Option.bind_some]
      by_cases c2 : ([13, 10] : List UInt8).isPrefixOf l = true
      · rw [if_pos c2, if_pos c2]
        rfl
      · rw [if_neg c2, if_neg c2]
        have hlen := congrArg List.length hq
        simp at hlen
        unfold strings_Split.f
        rw [if_pos ⟨by rw [bOf_size]; omega, by decide⟩, Option.bind_some, split_crlf _ q.1 rfl, splL_fuel (q.1.length + 1) (l.length + 1) q.1 (by omega) (by omega)]
        rw [if_pos (by rw [List.length_map]; exact List.length_pos_iff.2 (splL_ne _ _))]
        rfl
theorem head_scan (acc : List ByteArray) (fr : Int) (R : List ByteArray × ByteArray × Bool) : ∀ (n : Nat) (p s : List UInt8), s.length = n → (p ++ s).length ≤ 100000 → (lineL s = none → R = ([], bOf [], false)) →
    (∀ a r, lineL s = some (a, r) → Ev (fun k => depotref12_head.j1 k (bOf (p ++ s)) acc fr ((p.length + a.length : Nat) : Int) false) R) → Ev (fun k => depotref12_head.l0 k (bOf (p ++ s)) acc fr (p.length : Int)) R
  | 0, p, s, hs, hl, h0, h1 => by
    obtain rfl : s = [] := List.eq_nil_of_length_eq_zero hs
    refine Ev.step (fun k => by rw [depotref12_head.l0]) ?_
    rw [wrap_id (by simp at hl; omega) (by simp at hl; omega)]
    exact Ev.neg (by rw [bOf_size]; simp <;> omega) (Ev.some' (h0 rfl).symm)
  | n + 1, p, s, hs, hl, h0, h1 => by
    obtain ⟨x, s, rfl⟩ : ∃ x t, s = x :: t := by
      cases s with
      | nil => simp at hs
      | cons x t => exact ⟨x, t, rfl⟩
    have hlen : (p ++ x :: s).length = p.length + (s.length + 1) := by simp
    have hw : wrap64 ((p.length : Int) + 1) = (p.length : Int) + 1 := wrap_id (by omega) (by omega)
    refine Ev.step (fun k => by rw [depotref12_head.l0]) ?_
    rw [hw, bOf_size]
    cases s with
    | nil =>
      refine Ev.neg (by simp at hlen ⊢) (Ev.some' (h0 ?_).symm)
      unfold lineL
      rw [if_neg (by simp [List.isPrefixOf])]
      rfl
    | cons d r =>
      have hlen2 : (p ++ x :: d :: r).length = p.length + (r.length + 2) := by simp
      simp at hs
      refine Ev.pos (by omega) (Ev.pos (by omega) (Ev.pos (by omega) ?_))
      have hb : bt (bOf (p ++ x :: d :: r)) (p.length : Int) = (x.toNat : Int) := bt_at_cut p x (d :: r)
      have hl1 : ((p ++ [x]).length : Int) = (p.length : Int) + 1 := by simp
      have hb2 : bt (bOf (p ++ x :: d :: r)) ((p.length : Int) + 1) = (d.toNat : Int) := by
        rw [← hl1, show p ++ x :: d :: r = (p ++ [x]) ++ d :: r by simp]
        exact bt_at_cut (p ++ [x]) d r
      have hn : ¬ ([13, 10] : List UInt8).isPrefixOf (x :: d :: r) = true → Ev (fun k => depotref12_head.j1 k (bOf (p ++ x :: d :: r)) acc fr (p.length : Int) true) R := fun hp => by
        have hln : lineL (x :: d :: r) = (lineL (d :: r)).map fun q => (x :: q.1, q.2) := by rw [lineL, if_neg hp]
        refine Ev.step (fun k => by rw [depotref12_head.j1]) (Ev.pos rfl ?_)
        rw [hw, ← hl1, show p ++ x :: d :: r = (p ++ [x]) ++ d :: r by simp]
        refine head_scan acc fr R n (p ++ [x]) (d :: r) (by simpa using hs) (by simpa using hl) (fun h => h0 (by rw [hln, h]; rfl)) (fun a t h => ?_)
        have := h1 (x :: a) t (by rw [hln, h]; rfl)
        rw [show p ++ x :: d :: r = (p ++ [x]) ++ d :: r by simp] at this
        have e : p.length + (x :: a).length = (p ++ [x]).length + a.length := by simp; omega
        rw [e] at this
        exact this
      have h13 : (x.toNat : Int) = 13 ↔ x = 13 := u8_eq (by decide)
      have h10 : (d.toNat : Int) = 10 ↔ d = 10 := u8_eq (by decide)
      rw [hb, hb2]
      by_cases c1 : x = 13
      · refine Ev.pos (h13.2 c1) (Ev.pos (by omega) ?_)
        by_cases c2 : d = 10
        · subst c1
          subst c2
          have := h1 [] r (by rw [lineL, if_pos (by rfl)]; rfl)
          simpa using this
        · rw [show (((d.toNat : Int) != 10)) = true from bne_iff_ne.2 (fun h => c2 (h10.1 h))]
          exact hn (fun hp => by
            obtain ⟨u, hu⟩ := List.isPrefixOf_iff_prefix.1 hp
            have : (10 : UInt8) = d := by simpa using (List.cons.inj (List.cons.inj hu).2).1
            exact c2 this.symm)
      · exact Ev.neg (fun h => c1 (h13.1 h)) (hn (fun hp => by
          obtain ⟨u, hu⟩ := List.isPrefixOf_iff_prefix.1 hp
          exact c1 (List.cons.inj hu).1.symm))
theorem ref_head_l : ∀ (K : Nat) (p s : List UInt8) (acc : List (List UInt8)), s.length < K → (p ++ s).length ≤ 100000 → acc.length ≤ p.length →
    Ev (fun k => depotref12_head.l0 k (bOf (p ++ s)) (acc.map bOf) (p.length : Int) (p.length : Int)) (match headL K s with | none => ([], bOf [], false) | some q => ((acc ++ q.1).map bOf, bOf q.2, decide (0 < (acc ++ q.1).length)))
  | 0, p, s, acc, h, _, _ => by omega
  | K + 1, p, s, acc, h, hl, hac => by
    refine head_scan (acc.map bOf) p.length _ s.length p s rfl hl (fun h => by rw [headL, h]) (fun a r hs => ?_)
    have he := line_eq s a r hs
    have hlen := line_len' hs
    have hpl : (p ++ s).length = p.length + s.length := by simp
    rw [headL, hs]
    simp only
    refine Ev.step (fun k => by rw [depotref12_head.j1]) (Ev.neg (by simp) ?_)
    by_cases ha : a = []
    · subst ha
      rw [if_pos rfl]
      have hw : wrap64 (((p.length + ([] : List UInt8).length : Nat) : Int) + 2) = ((p.length + 2 : Nat) : Int) := by rw [wrap_id (by simp; omega) (by simp; omega)]; simp
      rw [hw]
      refine Ev.pos (by simp) (Ev.pos (by omega) (Ev.pos (by rw [bOf_size]; simp at hlen; omega) (Ev.some' ?_)))
      rw [Int.toNat_natCast, bOf_size, bOf_extract, List.take_length]
      have e2 : (p ++ s).drop (p.length + 2) = r := by
        rw [he, List.drop_append, List.drop_eq_nil_of_le (by omega), show p.length + 2 - p.length = 2 by omega]
        rfl
      rw [e2]
      simp only [List.append_nil, List.length_map]
      congr 2
      by_cases c : 0 < acc.length
      · rw [decide_eq_true c, decide_eq_true (by omega)]
      · rw [decide_eq_false c, decide_eq_false (by omega)]
    · rw [if_neg ha]
      have ha0 : 0 < a.length := List.length_pos_iff.2 ha
      refine Ev.neg (by omega) (Ev.pos (by omega) (Ev.pos (by omega) (Ev.pos (by rw [bOf_size]; omega) (Ev.pos (by rw [List.length_map]; omega) ?_))))
      have e1 : wrap64 (((p.length + a.length : Nat) : Int) + 2) = (((p ++ (a ++ [13, 10])).length : Nat) : Int) := by rw [wrap_id (by omega) (by omega)]; simp; omega
      have e2 : wrap64 (wrap64 (((p.length + a.length : Nat) : Int) + 1) + 1) = (((p ++ (a ++ [13, 10])).length : Nat) : Int) := by rw [wrap_id (n := ((p.length + a.length : Nat) : Int) + 1) (by omega) (by omega), wrap_id (by omega) (by omega)]; simp; omega
      have e3 : p ++ s = (p ++ (a ++ [13, 10])) ++ r := by rw [he]; simp
      have e4 : (bOf (p ++ s)).extract ((p.length : Nat) : Int).toNat ((p.length + a.length : Nat) : Int).toNat = bOf a := by
        rw [Int.toNat_natCast, Int.toNat_natCast, bOf_extract, he, List.take_append, List.take_of_length_le (by omega), show p.length + a.length - p.length = a.length by omega, List.take_left, List.drop_left]
      rw [e1, e2, e4]
      have e5 : acc.map bOf ++ [bOf a] = (acc ++ [a]).map bOf := by simp
      rw [e5]
      have ih := ref_head_l K (p ++ (a ++ [13, 10])) r (acc ++ [a]) (by omega) (by rw [← e3]; exact hl) (by simp; omega)
      rw [← e3] at ih
      refine Ev.eq ih ?_
      cases headL K r with
      | none => rfl
      | some q => simp only [Option.map_some, List.append_assoc, List.singleton_append]
theorem ref_head (l : List UInt8) (h : l.length ≤ 100000) : ∃ g, Ev (fun k => depotref12_head.f k (bOf l)) g ∧ (headS l = none → g.2.2 = false) ∧ ∀ q, headS l = some q → g = (q.1.map bOf, bOf q.2, true) := by
  have h0 := ref_head_l (l.length + 1) [] l [] (by omega) (by simpa using h) (by simp)
  refine ⟨_, h0, fun hn => ?_, fun q hq => ?_⟩
  · unfold headS at hn
    cases hh : headL (l.length + 1) l with
    | none => rfl
    | some p =>
      rw [hh] at hn
      simp only at hn
      by_cases c : p.1 = []
      · simp [c]
      · rw [if_neg c] at hn; cases hn
  · unfold headS at hq
    cases hh : headL (l.length + 1) l with
    | none => rw [hh] at hq; cases hq
    | some p =>
      rw [hh] at hq
      simp only at hq
      by_cases c : p.1 = []
      · rw [if_pos c] at hq; cases hq
      · rw [if_neg c] at hq
        obtain rfl := Option.some.inj hq
        simp only [List.nil_append]
        rw [decide_eq_true (List.length_pos_iff.2 c)]
theorem ext_snoc (s : ByteArray) (fr i j : Nat) (h1 : fr ≤ i) (h2 : i ≤ j) (h3 : j ≤ s.size) : s.extract fr i ++ s.extract i j = s.extract fr j := by
  obtain ⟨l, rfl, hl⟩ := ex_bOf s
  rw [bOf_extract, bOf_extract, bOf_extract, bOf_append]
  congr 1
  rw [bOf_size] at h3
  have e : l.take j = l.take i ++ (l.take j).drop i := by
    have := List.take_append_drop i (l.take j)
    rw [List.take_take, Nat.min_eq_left h2] at this
    exact this.symm
  conv => rhs; rw [e]
  rw [List.drop_append, List.length_take, show fr - min i l.length = 0 by omega, List.drop_zero]
theorem ext_nil (s : ByteArray) (i : Nat) : s.extract i i = (⟨#[]⟩ : ByteArray) := by
  obtain ⟨l, rfl, hl⟩ := ex_bOf s
  rw [bOf_extract, List.drop_eq_nil_of_le (by rw [List.length_take]; omega)]
  rfl
theorem take_trim (s : ByteArray) (fr hi : Nat) (out : List ByteArray) : itemsTake s fr hi out = if trim (s.extract fr hi).data.toList = [] then out else out ++ [bOf (trim (s.extract fr hi).data.toList)] := rfl
theorem ref_take (s : ByteArray) (hs : s.size < 1000000) (fr hi : Nat) (out : List ByteArray) (ho : out.length < 1000000) {f : Nat → List ByteArray → Option (List ByteArray × Int)} {R : List ByteArray × Int} (h : Ev (fun k => f k (itemsTake s fr hi out)) R) :
    Ev (fun k => (depotref01_Trim.f k (s.extract fr hi)).bind fun t => if t.toList = ([] : List UInt8) then f k out else (depotref01_Trim.f k (s.extract fr hi)).bind fun t2 => if out.length < 8796093022208 then f k (out ++ [t2]) else none) R := by
  have ht := ref_Trim (s.extract fr hi) (by rw [ByteArray.size_extract]; omega)
  rw [take_trim] at h
  refine Ev.bind ht ?_
  rw [toList_bOf]
  by_cases c : trim (s.extract fr hi).data.toList = []
  · rw [if_pos c] at h
    exact Ev.pos c h
  · rw [if_neg c] at h
    exact Ev.neg c (Ev.bind ht (Ev.pos (by omega) h))
theorem itemsTake_len (s : ByteArray) (fr hi : Nat) (out : List ByteArray) : (itemsTake s fr hi out).length ≤ out.length + 1 := by
  unfold itemsTake
  split <;> simp
theorem rsplit_esc (s : ByteArray) (hs : s.size < 1000000) (i fr : Nat) (out : List ByteArray) (R : List ByteArray × Int) (h1 : fr ≤ i) (hi : i + 1 < s.size) (h : Ev (fun k => depotref06_Split.l0 k s out (s.extract fr (i + 2)) true ((i + 2 : Nat) : Int)) R) : Ev (fun k => depotref06_Split.j1 k s out (s.extract fr i) true (i : Int) true) R := by
  have hw1 : wrap64 ((i : Int) + 1) = ((i + 1 : Nat) : Int) := by rw [wrap_id (by omega) (by omega)]; omega
  have hw2 : wrap64 ((i : Int) + 2) = ((i + 2 : Nat) : Int) := by rw [wrap_id (by omega) (by omega)]; omega
  have hw3 : wrap64 (((i + 1 : Nat) : Int) + 1) = ((i + 2 : Nat) : Int) := by rw [wrap_id (by omega) (by omega)]; omega
  have hx : s.extract ((i : Int)).toNat ((i + 2 : Nat) : Int).toNat = s.extract i (i + 2) := rfl
  have hsz : (s.extract fr i).size + (s.extract i (i + 2)).size ≤ 9223372036854775807 := by rw [ByteArray.size_extract, ByteArray.size_extract]; omega
  have a1 : (0 : Int) ≤ i := by omega
  have a2 : (i : Int) ≤ ((i + 2 : Nat) : Int) := by omega
  have a3 : ((i + 2 : Nat) : Int) ≤ (s.size : Int) := by omega
  have hj := ext_snoc s fr i (i + 2) h1 (Nat.le_add_right _ _) (by omega)
  refine Ev.step (fun k => by rw [depotref06_Split.j1]) ?_
  refine Ev.pos rfl ?_
  rw [hw1, hw2, hw3, hx, hj]
  exact Ev.pos a1 (Ev.pos a2 (Ev.pos a3 (Ev.pos hsz h)))
set_option maxHeartbeats 2000000 in
theorem rsplit_l0 (s : ByteArray) (hs : s.size < 1000000) : ∀ (kf i fr : Nat) (q : Bool) (out : List ByteArray), fr ≤ i → i ≤ s.size → s.size - i < kf → out.length ≤ i →
    Ev (fun k => depotref06_Split.l0 k s out (s.extract fr i) q i) (itemsGo s kf i fr q out)
  | 0, i, fr, q, out, _, _, h, _ => by omega
  | kf + 1, i, fr, q, out, h1, h2, h3, ho => by
    have hsz : (s.extract fr i).size ≤ s.size := by rw [ByteArray.size_extract]; omega
    rw [itemsGo]
    refine Ev.step (fun k => by rw [depotref06_Split.l0]) ?_
    by_cases hlt : i < s.size
    · rw [if_pos hlt]
      refine Ev.pos (by omega) ?_
      have hw1 : wrap64 ((i : Int) + 1) = ((i + 1 : Nat) : Int) := by rw [wrap_id (by omega) (by omega)]; omega
      have app1 : ∀ (q' : Bool) (R : List ByteArray × Int), Ev (fun k => depotref06_Split.l0 k s out (s.extract fr (i + 1)) q' ((i + 1 : Nat) : Int)) R → Ev (fun k => depotref06_Split.j3 k s out (s.extract fr i) q' i false) R := fun q' R h => by
        refine Ev.step (fun k => by rw [depotref06_Split.j3]) (Ev.neg (by simp) ?_)
        rw [hw1, Int.toNat_natCast, Int.toNat_natCast, ext_snoc s fr i (i + 1) h1 (by omega) (by omega)]
        refine Ev.pos (by omega) (Ev.pos (by omega) (Ev.pos (by omega) (Ev.pos ?_ h)))
        have : (s.extract i (i + 1)).size ≤ s.size := by rw [ByteArray.size_extract]; omega
        omega
      have plain : ∀ (q' : Bool) (R : List ByteArray × Int), (bt s (i : Int) = 44 → q' = true) → Ev (fun k => depotref06_Split.l0 k s out (s.extract fr (i + 1)) q' ((i + 1 : Nat) : Int)) R → Ev (fun k => depotref06_Split.j2 k s out (s.extract fr i) q' i) R := fun q' R hc h => by
        refine Ev.step (fun k => by rw [depotref06_Split.j2]) (Ev.pos (by omega) (Ev.pos (by omega) ?_))
        by_cases c44 : bt s (i : Int) = 44
        · refine Ev.pos c44 ?_
          rw [hc c44]
          have := hc c44
          subst this
          exact app1 true R h
        · exact Ev.neg c44 (app1 q' R h)
      by_cases c34 : bt s (i : Int) = 34
      · rw [if_pos c34]
        have hj1 : Ev (fun k => depotref06_Split.j1 k s out (s.extract fr i) q i false) (itemsGo s kf (i + 1) fr (!q) out) := by
          refine Ev.step (fun k => by rw [depotref06_Split.j1]) (Ev.neg (by simp) (Ev.pos (by omega) (Ev.pos (by omega) (Ev.pos c34 ?_))))
          exact plain (!q) _ (fun h => by omega) (rsplit_l0 s hs kf (i + 1) fr (!q) out (by omega) (by omega) (by omega) (by omega))
        cases q
        · exact Ev.neg (by simp) hj1
        · exact Ev.pos rfl (Ev.pos (by omega) (Ev.neg (by omega) hj1))
      · rw [if_neg c34]
        have hj1 : ∀ R, (bt s (i : Int) = 44 → q = false → Ev (fun k => depotref06_Split.j3 k s out (s.extract fr i) false i true) R) → ((bt s (i : Int) = 44 → q = true) → Ev (fun k => depotref06_Split.l0 k s out (s.extract fr (i + 1)) q ((i + 1 : Nat) : Int)) R) → Ev (fun k => depotref06_Split.j1 k s out (s.extract fr i) q i false) R := fun R hc hn => by
          refine Ev.step (fun k => by rw [depotref06_Split.j1]) (Ev.neg (by simp) (Ev.pos (by omega) (Ev.pos (by omega) (Ev.neg c34 ?_))))
          by_cases c44 : bt s (i : Int) = 44
          · cases q
            · refine Ev.step (fun k => by rw [depotref06_Split.j2]) (Ev.pos (by omega) (Ev.pos (by omega) (Ev.pos c44 ?_)))
              exact hc c44 rfl
            · exact plain true R (fun _ => rfl) (hn (fun _ => rfl))
          · exact plain q R (fun h => absurd h c44) (hn (fun h => absurd h c44))
        by_cases c92 : bt s (i : Int) = 92 ∧ q = true
        · rw [if_pos c92]
          obtain ⟨c92, rfl⟩ := c92
          refine Ev.pos rfl (Ev.pos (by omega) (Ev.pos c92 ?_))
          rw [hw1]
          by_cases hi : i + 1 < s.size
          · rw [decide_eq_true (by omega)]
            have g1 : fr ≤ i + 2 := by omega
            have g2 : i + 2 ≤ s.size := by omega
            have g3 : s.size - (i + 2) < kf := by omega
            have g4 : out.length ≤ i + 2 := by omega
            exact rsplit_esc s hs i fr out _ h1 hi (rsplit_l0 s hs kf (i + 2) fr true out g1 g2 g3 g4)
          · rw [decide_eq_false (by omega)]
            have hend : itemsGo s kf (i + 2) fr true out = ([], 5) ∧ itemsGo s kf (i + 1) fr true out = ([], 5) := by
              obtain ⟨kf, rfl⟩ : ∃ m, kf = m + 1 := ⟨kf - 1, by omega⟩
              constructor <;> rw [itemsGo, if_neg (by omega), if_pos rfl]
            rw [hend.1, ← hend.2]
            exact hj1 _ (fun h => by omega) (fun _ => rsplit_l0 s hs kf (i + 1) fr true out (by omega) (by omega) (by omega) (by omega))
        · rw [if_neg c92]
          have hgo : ∀ R, Ev (fun k => depotref06_Split.j1 k s out (s.extract fr i) q i false) R → Ev (fun k => if q = true then (if (0 : Int) ≤ i then (if bt s i = 92 then depotref06_Split.j1 k s out (s.extract fr i) q i (decide (wrap64 ((i : Int) + 1) < (s.size : Int))) else depotref06_Split.j1 k s out (s.extract fr i) q i false) else none) else depotref06_Split.j1 k s out (s.extract fr i) q i false) R := fun R h => by
            cases q
            · exact Ev.neg (by simp) h
            · exact Ev.pos rfl (Ev.pos (by omega) (Ev.neg (fun h => c92 ⟨h, rfl⟩) h))
          refine hgo _ ?_
          by_cases c44 : bt s (i : Int) = 44 ∧ q = false
          · rw [if_pos c44]
            obtain ⟨c44, rfl⟩ := c44
            refine hj1 _ (fun _ _ => ?_) (fun h => by cases h c44)
            refine Ev.step (fun k => by rw [depotref06_Split.j3]) (Ev.pos rfl ?_)
            rw [hw1]
            have hl := itemsTake_len s fr i out
            have := ref_take s hs fr i out (by omega) (f := fun k o => depotref06_Split.l0 k s o (⟨#[]⟩ : ByteArray) false ((i + 1 : Nat) : Int)) (R := itemsGo s kf (i + 1) (i + 1) false (itemsTake s fr i out)) (by
              have ih := rsplit_l0 s hs kf (i + 1) (i + 1) false (itemsTake s fr i out) (Nat.le_refl _) (by omega) (by omega) (by omega)
              rw [ext_nil] at ih
              exact ih)
            exact this
          · rw [if_neg c44]
            refine hj1 _ (fun h h2 => absurd ⟨h, h2⟩ c44) (fun _ => rsplit_l0 s hs kf (i + 1) fr q out (by omega) (by omega) (by omega) (by omega))
    · rw [if_neg hlt]
      refine Ev.neg (by omega) ?_
      obtain rfl : i = s.size := by omega
      cases q
      · rw [if_neg (by simp)]
        refine Ev.neg (by simp) ?_
        exact ref_take s hs fr s.size out (by omega) (f := fun _ o => some (o, 0)) (Ev.some' rfl)
      · rw [if_pos rfl]
        exact Ev.pos rfl (Ev.some' rfl)
theorem ref_Split (s : ByteArray) (hs : s.size < 1000000) : Ev (fun k => depotref06_Split.f k s) (itemsGo s (s.size + 2) 0 0 false []) := by
  have := rsplit_l0 s hs (s.size + 2) 0 0 false [] (Nat.le_refl _) (by omega) (by omega) (by simp)
  rw [ext_nil] at this
  exact this
theorem prog_Items (s : ByteArray) (hs : s.size < 1000000) : items_Split.f s = some (itemsGo s (s.size + 2) 0 0 false []) := if_pos hs
end Go.Proofs.YtjaklgikfcahdaaGreatDoor.Pu
namespace Go.Proofs.YtjaklgikfcahdaaGreatDoor.Pu
open Go.RowKit Go.Proofs.YtjaklgikfcahdaaGreatDoorW.PrintWords Go.Proofs.YtjaklgikfcahdaaGreatDoorW.PrintLast Go.Proofs.YtjaklgikfcahdaaGreatDoor.PV
set_option linter.unusedVariables false
set_option linter.unusedSimpArgs false
theorem dig10 (c : Int) : Hand.dig c 10 ≤ 9 := by
  unfold Hand.dig Hand.dig0
  repeat' split
  all_goals omega
theorem readGo10 (s : ByteArray) : ∀ (n : Nat) (acc : Int) (i j : Nat) (v : Int), n + j = 18 → 0 ≤ acc → acc < 10 ^ j → readGo s 10 n acc i = some v → 0 ≤ v
  | 0, acc, i, j, v, hj, h0, h1, h => by
    rw [readGo] at h
    obtain rfl := Option.some.inj h
    exact h0
  | n + 1, acc, i, j, v, hj, h0, h1, h => by
    rw [readGo] at h
    split at h
    case isTrue => cases h
    case isFalse hd =>
      have hd2 := dig10 (bt s i)
      have hp : (10 : Int) ^ (j + 1) ≤ 10 ^ 18 := by
        have : (10 : Nat) ^ (j + 1) ≤ 10 ^ 18 := Nat.pow_le_pow_right (by decide) (by omega)
        exact_mod_cast this
      have e18 : (10 : Int) ^ 18 = 1000000000000000000 := by decide
      have hs : (10 : Int) ^ (j + 1) = 10 ^ j * 10 := Int.pow_succ 10 j
      rw [wrap_id (n := acc * 10) (by omega) (by omega), wrap_id (by omega) (by omega)] at h
      exact readGo10 s n _ (i + 1) (j + 1) v (by omega) (by omega) (by omega) h
theorem readP10 (s : ByteArray) (most : Int) : 0 ≤ (readP s 10 18 most).1 := by
  unfold readP
  split
  · exact Int.le_refl _
  · split
    · exact Int.le_refl _
    case isFalse hl =>
      cases h : readGo s 10 s.size 0 0 with
      | none => exact Int.le_refl _
      | some v =>
        have hp : (0 : Int) < 10 ^ (18 - s.size) := Int.pow_pos (by decide)
        have hr : 0 ≤ v := readGo10 s s.size 0 0 (18 - s.size) v (by omega) (Int.le_refl _) hp h
        show 0 ≤ (if most < v then ((0 : Int), (3 : Int)) else (v, 0)).1
        split
        · exact Int.le_refl _
        · exact hr
def numE (s : ByteArray) : Int × Int := readP s 10 18 65536
def numsL : List ByteArray → Option (List Int)
  | [] => some []
  | s :: l => if (numE s).2 = 0 then (numsL l).map ((numE s).1 :: ·) else none
def splS (s : ByteArray) : List ByteArray × Int := itemsGo s (s.size + 2) 0 0 false []
def numsV : List ByteArray → Option (List Int)
  | [] => some []
  | v :: vs => if (splS v).2 = 0 then (numsL (splS v).1).bind fun a => (numsV vs).map (a ++ ·) else none
def toldE : List Int → Int × Bool
  | [] => (0, false)
  | n :: t => if (n :: t).all (· == n) = true then (n, true) else (0, false)
def toldS (v : List ByteArray) : Int × Bool := match numsV v with | none => (0, false) | some ns => toldE ns
def smallB (n : Nat) (l : List ByteArray) : Prop := l.length ≤ n ∧ ∀ s ∈ l, s.size ≤ 100000
theorem itemsGo_small (s : ByteArray) (hs : s.size ≤ 100000) : ∀ (k i fr : Nat) (q : Bool) (out : List ByteArray), (∀ x ∈ out, x.size ≤ 100000) → out.length ≤ i → i ≤ 100000 + 1 → (∀ x ∈ (itemsGo s k i fr q out).1, x.size ≤ 100000) ∧ (itemsGo s k i fr q out).1.length ≤ 100002
  | 0, i, fr, q, out, _, _, _ => ⟨fun x hx => by simp [itemsGo] at hx, by simp [itemsGo]⟩
  | k + 1, i, fr, q, out, h, hl, hi => by
    have ht : ∀ hi2, (∀ x ∈ itemsTake s fr hi2 out, x.size ≤ 100000) ∧ (itemsTake s fr hi2 out).length ≤ out.length + 1 := fun hi2 => by
      refine ⟨fun x hx => ?_, itemsTake_len s fr hi2 out⟩
      rw [take_trim] at hx
      split at hx
      · exact h x hx
      · rcases List.mem_append.1 hx with hx | hx
        · exact h x hx
        · rw [List.mem_singleton.1 hx, bOf_size]
          have h1 := trim_le (s.extract fr hi2).data.toList
          have h2 : (s.extract fr hi2).data.toList.length ≤ s.size := by rw [size_data, ByteArray.size_extract]; omega
          omega
    rw [itemsGo]
    split
    · split
      · exact itemsGo_small s hs k _ _ _ _ h (by omega) (by omega)
      · split
        case isTrue hq =>
          by_cases c : i + 1 < s.size
          · exact itemsGo_small s hs k _ _ _ _ h (by omega) (by omega)
          · obtain ⟨_, rfl⟩ := hq
            cases k with
            | zero => exact ⟨fun x hx => by simp [itemsGo] at hx, by simp [itemsGo]⟩
            | succ k => rw [itemsGo, if_neg (by omega), if_pos rfl]; exact ⟨fun x hx => by simp at hx, by simp⟩
        · split
          · exact itemsGo_small s hs k _ _ _ _ (ht i).1 (by have := (ht i).2; omega) (by omega)
          · exact itemsGo_small s hs k _ _ _ _ h (by omega) (by omega)
    · split
      · exact ⟨fun x hx => by simp at hx, by simp⟩
      · exact ⟨(ht s.size).1, by have := (ht s.size).2; show (itemsTake s fr s.size out).length ≤ 100002; omega⟩
theorem splS_small (s : ByteArray) (hs : s.size ≤ 100000) : smallB 100002 (splS s).1 :=
  have := itemsGo_small s hs (s.size + 2) 0 0 false [] (fun _ h => by cases h) (Nat.le_refl _) (by omega)
  ⟨this.2, this.1⟩
theorem rd_at0 (l : List Int) (i : Nat) (h : i < l.length) : rd l i = l[i] := by
  show l.getD (i : Int).toNat _ = _
  rw [Int.toNat_natCast, List.getD_eq_getElem?_getD, List.getElem?_eq_getElem h]; rfl
theorem told_l2 (x : List Int) (hx : x.length ≤ 1000000000) : ∀ (d i : Nat), d + i = x.length → Ev (fun k => message_told.l2 k x x x.length i) (match x with | [] => (0, false) | n :: _ => if (x.drop i).all (· == n) = true then (n, true) else (0, false)) := by
  intro d
  induction d with
  | zero =>
    intro i hd
    rw [List.drop_of_length_le (by omega)]
    refine Ev.step (fun k => by rw [message_told.l2]) (Ev.neg (by omega) ?_)
    cases x with
    | nil => exact Ev.pos rfl (Ev.some' rfl)
    | cons n t => exact Ev.neg (by simp <;> omega) (Ev.pos (by simp <;> omega) (Ev.some' rfl))
  | succ d ih =>
    intro i hd
    have hlt : i < x.length := by omega
    have h0 : 0 < x.length := by omega
    refine Ev.step (fun k => by rw [message_told.l2, rd_at0 x i hlt, show rd x 0 = x[0] from rd_at0 x 0 h0, wrap_nat i x.length hlt (by omega)]) (Ev.pos (by omega) (Ev.pos (by omega) (Ev.pos (by omega) (Ev.pos (by omega) ?_))))
    rw [List.drop_eq_getElem_cons hlt]
    cases x with
    | nil => simp at h0
    | cons n t =>
      simp only [List.getElem_cons_zero]
      have hal : ((n :: t)[i] :: (n :: t).drop (i + 1)).all (· == n) = ((n :: t)[i] == n && ((n :: t).drop (i + 1)).all (· == n)) := List.all_cons
      by_cases c : (n :: t)[i] = n
      · refine Ev.pos c (Ev.eq (ih (i + 1) (by omega)) ?_)
        rw [hal, beq_iff_eq.2 c, Bool.true_and]
      · rw [hal, beq_eq_false_iff_ne.2 c, Bool.false_and]
        exact Ev.neg c (Ev.some' rfl)
def toldR (acc : List Int) (r : Option (List Int)) : Int × Bool := match r with | none => (0, false) | some ns => toldE (acc ++ ns)
theorem told_l01 (v : List ByteArray) (hv : smallB 1000 v) : ∀ (d i : Nat) (acc : List Int), d + i = v.length → acc.length ≤ i * 100002 → Ev (fun k => message_told.l0 k acc v v.length i) (toldR acc (numsV (v.drop i))) := by
  intro d
  induction d with
  | zero =>
    intro i acc hd ha
    rw [List.drop_of_length_le (by omega)]
    refine Ev.step (fun k => by rw [message_told.l0]) (Ev.neg (by omega) ?_)
    have hv1 := hv.1
    have := told_l2 acc (by omega) acc.length 0 (by omega)
    refine Ev.eq this ?_
    show _ = toldE (acc ++ [])
    rw [List.append_nil]
    cases acc <;> rfl
  | succ d ih =>
    intro i acc hd ha
    have hlt : i < v.length := by omega
    have hvi := hv.2 _ (List.getElem_mem hlt)
    have hv1 := hv.1
    have hsm := splS_small v[i] hvi
    rw [List.drop_eq_getElem_cons hlt, numsV]
    refine Ev.step (fun k => by rw [message_told.l0, rdB_at v i hlt]) (Ev.pos (by omega) (Ev.pos (by omega) (Ev.pos (by omega) ?_)))
    refine Ev.sbind (prog_Items v[i] (by omega)) ?_
    show Ev (fun k => if (splS v[i]).2 = 0 then message_told.l1 k acc v v.length i (splS v[i]).1 ((splS v[i]).1.length : Int) 0 else some (0, false)) _
    by_cases c : (splS v[i]).2 = 0
    · rw [if_pos c]
      refine Ev.pos c ?_
      generalize (splS v[i]).1 = l at hsm
      have inner : ∀ (e j : Nat) (ac : List Int), e + j = l.length → ac.length ≤ i * 100002 + j → Ev (fun k => message_told.l1 k ac v v.length i l l.length j) (toldR ac ((numsL (l.drop j)).bind fun a => (numsV (v.drop (i + 1))).map (a ++ ·))) := by
        intro e
        induction e with
        | zero =>
          intro j ac he hac
          rw [List.drop_of_length_le (by omega)]
          refine Ev.step (fun k => by rw [message_told.l1, wrap_nat i v.length hlt (by omega)]) (Ev.neg (by omega) ?_)
          have hl1 := hsm.1
          refine Ev.eq (ih (i + 1) ac (by omega) (by omega)) ?_
          show _ = toldR ac ((numsV (v.drop (i + 1))).map ([] ++ ·))
          cases numsV (v.drop (i + 1)) <;> rfl
        | succ e ih2 =>
          intro j ac he hac
          have hj : j < l.length := by omega
          have hl1 := hsm.1
          have hlj := hsm.2 _ (List.getElem_mem hj)
          rw [List.drop_eq_getElem_cons hj, numsL]
          refine Ev.step (fun k => by rw [message_told.l1, rdB_at l j hj, wrap_nat j l.length hj (by omega)]) (Ev.pos (by omega) (Ev.pos (by omega) (Ev.pos (by omega) ?_)))
          refine Ev.sbind (prog_Number l[j] 65536 hlj) ?_
          show Ev (fun k => if (numE l[j]).2 = 0 then (if ac.length < 17592186044416 then message_told.l1 k (ac ++ [(numE l[j]).1]) v v.length i l l.length ((j + 1 : Nat) : Int) else none) else some (0, false)) _
          by_cases c2 : (numE l[j]).2 = 0
          · rw [if_pos c2]
            refine Ev.pos c2 (Ev.pos (by omega) ?_)
            refine Ev.eq (ih2 (j + 1) (ac ++ [(numE l[j]).1]) (by omega) (by simp; omega)) ?_
            cases numsL (l.drop (j + 1)) with
            | none => rfl
            | some a =>
              simp only [Option.map_some, Option.bind_some]
              cases numsV (v.drop (i + 1)) with
              | none => rfl
              | some b => simp only [Option.map_some, toldR, List.append_assoc, List.singleton_append, List.cons_append, List.nil_append]
          · rw [if_neg c2]
            exact Ev.neg c2 (Ev.some' rfl)
      have h9 := inner l.length 0 acc (Nat.add_zero _) (Nat.le_trans ha (Nat.le_add_right _ _))
      rw [List.drop_zero] at h9
      exact h9
    · rw [if_neg c]
      exact Ev.neg c (Ev.some' rfl)
theorem prog_told (v : List ByteArray) (hv : smallB 1000 v) : Ev (fun k => message_told.f k v) (toldS v) := by
  unfold message_told.f
  refine Ev.eq (told_l01 v hv v.length 0 [] (by omega) (by simp)) ?_
  rw [List.drop_zero]
  unfold toldS toldR
  cases numsV v <;> rfl
def lenE (n : Int) : List Int → Int × Bool
  | [] => (n, decide (n ≥ 0))
  | m :: t => if n ≥ 0 ∧ m ≠ n then (0, false) else lenE m t
theorem numsL_pos : ∀ (l : List ByteArray) (a : List Int), numsL l = some a → ∀ x ∈ a, 0 ≤ x
  | [], a, h => by obtain rfl := Option.some.inj h; exact fun _ h => by cases h
  | s :: l, a, h => by
    rw [numsL] at h
    split at h
    · cases hn : numsL l with
      | none => rw [hn] at h; cases h
      | some b =>
        rw [hn] at h
        obtain rfl := Option.some.inj h
        intro x hx
        rcases List.mem_cons.1 hx with rfl | hx
        · exact readP10 s 65536
        · exact numsL_pos l b hn x hx
    · cases h
def LenAns (n : Int) (r : Option (List Int)) (x : Int × Bool) : Prop := match r with | none => x = (0, false) | some ns => x = lenE n ns
theorem len_l01 (v : List ByteArray) (hv : smallB 1000 v) : ∀ (d i : Nat) (n : Int), d + i = v.length → -1 ≤ n → n ≤ 9223372036854775807 → ∃ x, Ev (fun k => depotref12_length.l0 k v n i) x ∧ LenAns n (numsV (v.drop i)) x := by
  intro d
  induction d with
  | zero =>
    intro i n hd h0 h1
    refine ⟨(n, decide (n ≥ 0)), ?_, ?_⟩
    · exact Ev.step (fun k => by rw [depotref12_length.l0]) (Ev.neg (by omega) (Ev.some' rfl))
    · rw [List.drop_of_length_le (by omega)]; exact rfl
  | succ d ih =>
    intro i n hd h0 h1
    have hlt : i < v.length := by omega
    have hvi := hv.2 _ (List.getElem_mem hlt)
    have hv1 := hv.1
    have hsm := splS_small v[i] hvi
    rw [List.drop_eq_getElem_cons hlt, numsV]
    have hst : ∀ x, Ev (fun k => if (splS v[i]).2 = 0 then depotref12_length.l1 k v n i (splS v[i]).1 0 else some (0, false)) x → Ev (fun k => depotref12_length.l0 k v n i) x := fun x h => by
      refine Ev.step (fun k => by rw [depotref12_length.l0, rdB_at v i hlt]) (Ev.pos (by omega) (Ev.pos (by omega) ?_))
      exact Ev.bind (ref_Split v[i] (by omega)) h
    by_cases c : (splS v[i]).2 = 0
    · rw [if_pos c]
      generalize hl0 : (splS v[i]).1 = l at hsm hst
      have inner : ∀ (e j : Nat) (n : Int), e + j = l.length → -1 ≤ n → n ≤ 9223372036854775807 → ∃ x, Ev (fun k => depotref12_length.l1 k v n i l j) x ∧ LenAns n ((numsL (l.drop j)).bind fun a => (numsV (v.drop (i + 1))).map (a ++ ·)) x := by
        intro e
        induction e with
        | zero =>
          intro j n he h0 h1
          obtain ⟨x, hx, ha⟩ := ih (i + 1) n (by omega) h0 h1
          refine ⟨x, ?_, ?_⟩
          · exact Ev.step (fun k => by rw [depotref12_length.l1, wrap_nat i v.length hlt (by omega)]) (Ev.neg (by omega) hx)
          · rw [List.drop_of_length_le (by omega)]
            show LenAns n ((numsV (v.drop (i + 1))).map ([] ++ ·)) x
            cases hn : numsV (v.drop (i + 1)) with
            | none => rw [hn] at ha; exact ha
            | some b => rw [hn] at ha; exact ha
        | succ e ih2 =>
          intro j n he h0 h1
          have hj : j < l.length := by omega
          have hl1 := hsm.1
          have hlj := hsm.2 _ (List.getElem_mem hj)
          rw [List.drop_eq_getElem_cons hj, numsL]
          have hst2 : ∀ x, Ev (fun k => if (numE l[j]).2 = 0 then (if n ≥ 0 then (if (numE l[j]).1 = n then depotref12_length.l1 k v (numE l[j]).1 i l ((j + 1 : Nat) : Int) else some (0, false)) else depotref12_length.l1 k v (numE l[j]).1 i l ((j + 1 : Nat) : Int)) else some (0, false)) x → Ev (fun k => depotref12_length.l1 k v n i l j) x := fun x h => by
            refine Ev.step (fun k => by rw [depotref12_length.l1, rdB_at l j hj, wrap_nat j l.length hj (by omega)]) (Ev.pos (by omega) (Ev.pos (by omega) ?_))
            exact Ev.bind (ref_Number l[j] 65536 hlj) h
          by_cases c2 : (numE l[j]).2 = 0
          · rw [if_pos c2]
            have hm := readP10 l[j] 65536
            have hm2 : (numE l[j]).1 ≤ 65536 := by
              unfold numE readP at *
              split
              · show (0 : Int) ≤ 65536; decide
              · split
                · show (0 : Int) ≤ 65536; decide
                · unfold readEnd
                  split
                  · show (0 : Int) ≤ 65536; decide
                  · split
                    · show (0 : Int) ≤ 65536; decide
                    · omega
            obtain ⟨x, hx, ha⟩ := ih2 (j + 1) (numE l[j]).1 (by omega) (by show (-1 : Int) ≤ (numE l[j]).1; unfold numE; omega) (by omega)
            by_cases c3 : n ≥ 0 ∧ (numE l[j]).1 ≠ n
            · refine ⟨(0, false), hst2 _ (Ev.pos c2 (Ev.pos c3.1 (Ev.neg c3.2 (Ev.some' rfl)))), ?_⟩
              cases numsL (l.drop (j + 1)) with
              | none => exact rfl
              | some a =>
                cases numsV (v.drop (i + 1)) with
                | none => exact rfl
                | some b =>
                  show (0, false) = lenE n ((numE l[j]).1 :: (a ++ b))
                  rw [lenE, if_pos c3]
            · refine ⟨x, hst2 _ (Ev.pos c2 ?_), ?_⟩
              · by_cases c4 : n ≥ 0
                · exact Ev.pos c4 (Ev.pos (Classical.byContradiction fun h => c3 ⟨c4, h⟩) hx)
                · exact Ev.neg c4 hx
              · cases hn : numsL (l.drop (j + 1)) with
                | none => rw [hn] at ha; exact ha
                | some a =>
                  rw [hn] at ha
                  cases hn2 : numsV (v.drop (i + 1)) with
                  | none => rw [hn2] at ha; exact ha
                  | some b =>
                    rw [hn2] at ha
                    show x = lenE n ((numE l[j]).1 :: (a ++ b))
                    rw [lenE, if_neg c3]
                    exact ha
          · rw [if_neg c2]
            exact ⟨(0, false), hst2 _ (Ev.neg c2 (Ev.some' rfl)), rfl⟩
      obtain ⟨x, hx, ha⟩ := inner l.length 0 n (by omega) h0 h1
      exact ⟨x, hst x (Ev.pos c hx), by rw [List.drop_zero] at ha; exact ha⟩
    · rw [if_neg c]
      exact ⟨(0, false), hst _ (Ev.neg c (Ev.some' rfl)), rfl⟩
theorem lenE_all (n : Int) (h0 : 0 ≤ n) : ∀ t : List Int, (∀ x ∈ t, 0 ≤ x) → lenE n t = if t.all (· == n) = true then (n, true) else (0, false)
  | [], _ => by show (n, decide (n ≥ 0)) = _; rw [decide_eq_true h0]; rfl
  | m :: t, h => by
    rw [lenE, List.all_cons]
    by_cases c : m = n
    · subst c
      rw [if_neg (fun h => h.2 rfl), lenE_all m h0 t (fun x hx => h x (List.mem_cons_of_mem _ hx))]
      simp
    · rw [if_pos ⟨h0, c⟩, beq_eq_false_iff_ne.2 c, Bool.false_and, if_neg (by simp)]
theorem numsV_pos : ∀ (v : List ByteArray) (a : List Int), numsV v = some a → ∀ x ∈ a, 0 ≤ x
  | [], a, h => by obtain rfl := Option.some.inj h; exact fun _ h => by cases h
  | s :: l, a, h => by
    rw [numsV] at h
    split at h
    · obtain ⟨b, hb, h⟩ := Option.bind_eq_some_iff.1 h
      cases hn : numsV l with
      | none => rw [hn] at h; cases h
      | some c =>
        rw [hn] at h
        obtain rfl := Option.some.inj h
        intro x hx
        rcases List.mem_append.1 hx with hx | hx
        · exact numsL_pos _ b hb x hx
        · exact numsV_pos l c hn x hx
    · cases h
theorem ref_length (v : List ByteArray) (hv : smallB 1000 v) : ∃ x, Ev (fun k => depotref12_length.f k v) x ∧ x.2 = (toldS v).2 ∧ (x.2 = true → x = toldS v) := by
  obtain ⟨x, hx, ha⟩ := len_l01 v hv v.length 0 (-1) (by omega) (by decide) (by decide)
  rw [List.drop_zero] at ha
  refine ⟨x, hx, ?_⟩
  unfold toldS
  cases hn : numsV v with
  | none =>
    rw [hn] at ha
    have ha' : x = (0, false) := ha
    subst ha'
    exact ⟨rfl, fun h => by cases h⟩
  | some ns =>
    rw [hn] at ha
    have ha' : x = lenE (-1) ns := ha
    subst ha'
    cases ns with
    | nil => exact ⟨rfl, fun h => by cases h⟩
    | cons n t =>
      have hp := numsV_pos v _ hn
      rw [lenE, if_neg (fun h => by have := h.1; omega), lenE_all n (hp n List.mem_cons_self) t (fun x hx => hp x (List.mem_cons_of_mem _ hx))]
      have : toldE (n :: t) = if t.all (· == n) = true then (n, true) else (0, false) := by
        show (if (n :: t).all (· == n) = true then _ else _) = _
        rw [List.all_cons, beq_iff_eq.2 rfl, Bool.true_and]
      show _ = (toldE (n :: t)).2 ∧ (_ → _ = toldE (n :: t))
      rw [this]
      exact ⟨rfl, fun _ => rfl⟩
end Go.Proofs.YtjaklgikfcahdaaGreatDoor.Pu
namespace Go.Proofs.YtjaklgikfcahdaaGreatDoor.Pu
open Go.RowKit Go.Proofs.YtjaklgikfcahdaaGreatDoorW.PrintWords Go.Proofs.YtjaklgikfcahdaaGreatDoorW.PrintLast Go.Proofs.YtjaklgikfcahdaaGreatDoor.PV
set_option linter.unusedVariables false
set_option linter.unusedSimpArgs false
theorem Ev.ite2 {α : Type} {c : Prop} [Decidable c] {f g : Nat → Option α} {x y : α} (h1 : c → Ev f x) (h2 : ¬ c → Ev g y) : Ev (fun k => if c then f k else g k) (if c then x else y) := by
  by_cases h : c
  · rw [if_pos h]; exact Ev.pos h (h1 h)
  · rw [if_neg h]; exact Ev.neg h (h2 h)
def nTE : ByteArray := ⟨#[84, 114, 97, 110, 115, 102, 101, 114, 45, 69, 110, 99, 111, 100, 105, 110, 103]⟩
def nCL : ByteArray := ⟨#[67, 111, 110, 116, 101, 110, 116, 45, 76, 101, 110, 103, 116, 104]⟩
def nTR : ByteArray := ⟨#[84, 114, 97, 105, 108, 101, 114]⟩
def nCH : ByteArray := ⟨#[99, 104, 117, 110, 107, 101, 100]⟩
def names3 : List ByteArray := [nCL, nTE, nTR]
abbrev E0 : ByteArray := ⟨#[]⟩
theorem decode_err (l : List UInt8) (h : ¬ (decode l).2.2 = 0) : (decode l).1 = [] := (decL_err _ l 0 [] h).1
theorem decode_le (l : List UInt8) (h : (decode l).2.2 = 0) : (decode l).2.1 ≤ l.length := by
  have e : decode l = ((decode l).1, (decode l).2.1, 0) := by
    conv => lhs; rw [show decode l = ((decode l).1, (decode l).2.1, (decode l).2.2) from rfl, h]
  obtain ⟨c, t, h1, h2, _⟩ := decL_cut _ l 0 [] _ _ e
  have := congrArg List.length h1
  simp at this
  rw [h2]
  omega
def chunksS (te : List ByteArray) (fs : List S98) (minor : Int) (rest : List UInt8) : ByteArray × Int :=
  if minor = 0 then (E0, 22) else if 1 < te.length then (E0, 22) else if sameN (te.getD 0 ByteArray.empty) nCH = true then
    (if 0 < (allS nCL fs).length then (E0, 22) else if (decode rest).2.2 = 0 then (if (decode rest).2.1 < rest.length then (E0, 22) else (bOf (decode rest).1, 0)) else (E0, (decode rest).2.2)) else (E0, 22)
def bodyS (fs : List S98) (rest : List UInt8) (minor : Int) (op : Bool) : ByteArray × Int :=
  if 0 < (allS nTE fs).length then chunksS (allS nTE fs) fs minor rest else
  if 0 < (allS nCL fs).length then (if (toldS (allS nCL fs)).2 = true then (if (toldS (allS nCL fs)).1 < rest.length then (E0, 22) else if (rest.length : Int) < (toldS (allS nCL fs)).1 then (E0, 6) else (bOf rest, 0)) else (E0, 22))
  else if rest.length = 0 then (bOf rest, 0) else if op = true then (bOf rest, 0) else (E0, 22)
def okFs (fs : List S98) : Prop := fs.length ≤ 1000 ∧ ∀ x ∈ fs, smallF 100000 x
theorem okFs.all {fs : List S98} (h : okFs fs) (name : ByteArray) : smallB 1000 (allS name fs) := by
  have := allS_small name fs 100000 h.2
  exact ⟨by have := h.1; omega, this.2⟩
theorem okFs.s6 {fs : List S98} (h : okFs fs) : ∀ x ∈ fs, smallF 1000000 x := fun x hx => by
  have := h.2 x hx
  exact ⟨by have := this.1; omega, by have := this.2; omega⟩
theorem okFs.pAll {fs : List S98} (h : okFs fs) (name : ByteArray) (hn : name.size ≤ 1000000) : fields_All.f fs name = some (allS name fs) := prog_All fs name 1000000 (Nat.le_refl _) (by have := h.1; omega) h.s6 hn
theorem okFs.rAll {fs : List S98} (h : okFs fs) (name : ByteArray) (hn : name.size ≤ 1000000) : Ev (fun k => depotref09_All.f k fs name) (allS name fs) := ref_All fs name 1000000 (Nat.le_refl _) (by have := h.1; omega) h.s6 hn
theorem prog_chunks (te : List ByteArray) (hte : 0 < te.length) (hsm : smallB 1000 te) (fs : List S98) (hf : okFs fs) (minor : Int) (rest : List UInt8) (hr : rest.length ≤ 100000) : chunksP te fs minor (bOf rest) = some (chunksS te fs minor rest) := by
  unfold chunksP chunksS
  by_cases c1 : minor = 0
  · rw [if_pos c1, if_pos c1]
  rw [if_neg c1, if_neg c1]
  by_cases c2 : 1 < te.length
  · rw [if_pos c2, if_pos c2]
  rw [if_neg c2, if_neg c2]
  have h0 : (te.getD 0 ByteArray.empty).size ≤ 100000 := by
    rw [List.getD_eq_getElem?_getD, List.getElem?_eq_getElem hte]
    exact hsm.2 _ (List.getElem_mem hte)
  rw [show octet_Same.f (te.getD 0 ByteArray.empty) (⟨#[99, 104, 117, 110, 107, 101, 100]⟩ : ByteArray) = some (sameN (te.getD 0 ByteArray.empty) nCH) from prog_Same _ _ (by omega) (by decide), Option.bind_some]
  cases c3 : sameN (te.getD 0 ByteArray.empty) nCH
  · rw [if_neg (by simp), if_neg (by simp)]
  rw [if_pos rfl, if_pos rfl, show fields_All.f fs (⟨#[67, 111, 110, 116, 101, 110, 116, 45, 76, 101, 110, 103, 116, 104]⟩ : ByteArray) = some (allS nCL fs) from hf.pAll nCL (by decide), Option.bind_some]
  by_cases c4 : 0 < (allS nCL fs).length
  · rw [if_pos c4, if_pos c4]
  rw [if_neg c4, if_neg c4, prog_Decode rest hr, Option.bind_some, bOf_size]
  simp only
  by_cases c5 : (decode rest).2.2 = 0
  · rw [if_pos c5, if_pos c5]
    by_cases c6 : (decode rest).2.1 < rest.length
    · rw [if_pos c6, if_pos c6]
    · rw [if_neg c6, if_neg c6]
  · rw [if_neg c5, if_neg c5, decode_err rest c5]; rfl
theorem prog_body (fs : List S98) (hf : okFs fs) (rest : List UInt8) (hr : rest.length ≤ 100000) (minor : Int) (op : Bool) : Ev (fun k => bodyP k fs (bOf rest) minor op) (bodyS fs rest minor op) := by
  unfold bodyP bodyS
  refine Ev.sbind (hf.pAll nTE (by decide)) ?_
  by_cases c1 : 0 < (allS nTE fs).length
  · rw [if_pos c1]
    exact Ev.pos c1 (Ev.congr (fun _ => prog_chunks _ c1 (hf.all nTE) fs hf minor rest hr) (Ev.some' rfl))
  rw [if_neg c1]
  refine Ev.neg c1 (Ev.sbind (hf.pAll nCL (by decide)) ?_)
  by_cases c2 : 0 < (allS nCL fs).length
  · rw [if_pos c2]
    refine Ev.pos c2 (Ev.bind (prog_told _ (hf.all nCL)) ?_)
    rw [bOf_size]
    cases c3 : (toldS (allS nCL fs)).2
    · exact Ev.neg (by simp) (Ev.some' rfl)
    · refine Ev.pos rfl ?_
      rw [if_pos (rfl : true = true)]
      exact Ev.ite2 (fun c4 => Ev.some' rfl) (fun c4 => Ev.ite2 (fun c5 => Ev.some' rfl) (fun c5 => Ev.some' rfl))
  · rw [if_neg c2]
    refine Ev.neg c2 ?_
    rw [bOf_size]
    exact Ev.ite2 (fun c4 => Ev.some' rfl) (fun c4 => Ev.ite2 (fun c5 => Ev.some' rfl) (fun c5 => Ev.some' rfl))
theorem ref_body (fs : List S98) (hf : okFs fs) (rest : List UInt8) (hr : rest.length ≤ 100000) (minor : Int) (hm : minor = 0 ∨ minor = 1) (op : Bool) : Ev (fun k => depotref12_body.f k fs (bOf rest) minor op) (bodyS fs rest minor op) := by
  unfold depotref12_body.f bodyS
  refine Ev.bind (hf.rAll nTE (by decide)) (Ev.bind (hf.rAll nCL (by decide)) ?_)
  have j0t : Ev (fun k => depotref12_body.j0 k (bOf rest) true) (E0, 22) := Ev.step (fun k => by rw [depotref12_body.j0]) (Ev.pos rfl (Ev.some' rfl))
  by_cases c1 : 0 < (allS nTE fs).length
  · rw [if_pos c1]
    refine Ev.pos (by omega) ?_
    unfold chunksS
    by_cases c2 : minor = 0
    · rw [if_pos c2]
      exact Ev.neg (by omega) j0t
    rw [if_neg c2]
    refine Ev.pos (by omega) ?_
    by_cases c3 : 1 < (allS nTE fs).length
    · rw [if_pos c3]
      exact Ev.neg (by omega) j0t
    rw [if_neg c3]
    refine Ev.pos (by omega) (Ev.pos (by omega) ?_)
    have h0 : rdOf ByteArray.empty (allS nTE fs) 0 = (allS nTE fs).getD 0 ByteArray.empty := rfl
    rw [h0]
    have hz : ((allS nTE fs).getD 0 ByteArray.empty).size ≤ 100000 := by
      rw [List.getD_eq_getElem?_getD, List.getElem?_eq_getElem c1]
      exact (hf.all nTE).2 _ (List.getElem_mem c1)
    refine Ev.sbind (ref_Same _ nCH (by omega) (by decide)) ?_
    cases c4 : sameN ((allS nTE fs).getD 0 ByteArray.empty) nCH
    · rw [if_neg (by simp)]
      exact Ev.neg (by simp) j0t
    · rw [if_pos rfl]
      refine Ev.pos rfl ?_
      by_cases c5 : 0 < (allS nCL fs).length
      · rw [if_pos c5, decide_eq_true (by omega)]
        exact j0t
      · rw [if_neg c5, decide_eq_false (by omega)]
        refine Ev.step (fun k => by rw [depotref12_body.j0]) (Ev.neg (by simp) (Ev.bind (ref_Decode rest hr) ?_))
        simp only
        refine Ev.ite2 (fun c6 => ?_) (fun c6 => Ev.some' rfl)
        have hle := decode_le rest c6
        rw [bOf_size]
        by_cases c7 : (decode rest).2.1 < rest.length
        · exact Ev.neg (by omega) (Ev.some' (by rw [if_pos c7]))
        · exact Ev.pos (by omega) (Ev.some' (by rw [if_neg c7]))
  · rw [if_neg c1]
    refine Ev.neg (by omega) ?_
    by_cases c2 : 0 < (allS nCL fs).length
    · rw [if_pos c2]
      refine Ev.pos (by omega) ?_
      obtain ⟨x, hx, h1, h2⟩ := ref_length _ (hf.all nCL)
      refine Ev.bind hx ?_
      have j1t : Ev (fun k => depotref12_body.j1 k (bOf rest) x.1 true) (E0, 22) := Ev.step (fun k => by rw [depotref12_body.j1]) (Ev.pos rfl (Ev.some' rfl))
      cases c3 : (toldS (allS nCL fs)).2
      · rw [c3] at h1
        rw [h1]
        exact Ev.neg (by simp) j1t
      · rw [c3] at h1
        obtain rfl := h2 h1
        rw [if_pos (rfl : true = true)]
        refine Ev.pos h1 ?_
        rw [bOf_size]
        by_cases c4 : (toldS (allS nCL fs)).1 < rest.length
        · rw [if_pos c4, decide_eq_true (by omega)]
          exact j1t
        · rw [if_neg c4, decide_eq_false (by omega)]
          refine Ev.step (fun k => by rw [depotref12_body.j1]) (Ev.neg (by simp) ?_)
          rw [bOf_size]
          exact Ev.ite2 (fun c5 => Ev.some' rfl) (fun c5 => Ev.some' rfl)
    · rw [if_neg c2]
      refine Ev.neg (by omega) ?_
      by_cases c3 : rest.length = 0
      · rw [if_pos c3]
        obtain rfl : rest = [] := List.eq_nil_of_length_eq_zero c3
        cases op
        · exact Ev.neg (by simp) (Ev.pos (toList_bOf []) (Ev.some' rfl))
        · exact Ev.pos rfl (Ev.some' rfl)
      · rw [if_neg c3]
        cases op
        · refine Ev.neg (by simp) ?_
          refine Ev.neg ?_ (Ev.some' rfl)
          rw [toList_bOf]
          exact fun h => c3 (by rw [h]; rfl)
        · exact Ev.pos rfl (Ev.some' rfl)
def fieldsS (ls : List (List UInt8)) : Int × List S98 := if 64 < ls.length then (4, []) else rowsR ls []
theorem prog_rowsS (ls : List (List UInt8)) (h : ∀ l ∈ ls, l.length ≤ 100000) : rowsS (ls.map bOf) = some (fieldsS ls) := by
  unfold rowsS fieldsS
  rw [List.length_map]
  by_cases c : 64 < ls.length
  · rw [if_pos c, if_pos c]
  · rw [if_neg c, if_neg c]
    exact prog_rows ls [] h
theorem fieldsS_ok (ls : List (List UInt8)) (h : ∀ l ∈ ls, l.length ≤ 100000) : okFs (fieldsS ls).2 := by
  unfold fieldsS
  split
  · exact ⟨by simp, fun x hx => by cases hx⟩
  · have := rowsR_small 100000 ls [] h (fun x hx => by cases hx)
    exact ⟨by have h2 := this.2; simp at h2; omega, this.1⟩
theorem joinE_len : ∀ (ls : List (List UInt8)) (r : List UInt8), (∀ a ∈ ls, a.length ≤ (joinE ls r).length) ∧ r.length ≤ (joinE ls r).length
  | [], r => ⟨fun _ h => (by cases h), by show r.length ≤ (13 :: 10 :: r).length; simp; omega⟩
  | a :: ls, r => by
    have ih := joinE_len ls r
    have e : joinE (a :: ls) r = a ++ 13 :: 10 :: joinE ls r := rfl
    rw [e]
    refine ⟨fun x hx => ?_, by simp; omega⟩
    rcases List.mem_cons.1 hx with rfl | hx
    · simp
    · have := ih.1 x hx; simp; omega
theorem headS_len {l : List UInt8} {p : List (List UInt8) × List UInt8} (h : headS l = some p) : (∀ a ∈ p.1, a.length ≤ l.length) ∧ p.2.length ≤ l.length ∧ 0 < p.1.length := by
  obtain ⟨e, hn, _⟩ := headS_back h
  have := joinE_len p.1 p.2
  rw [← e] at this
  exact ⟨this.1, this.2, List.length_pos_iff.2 hn⟩
theorem first_bOf (ls : List (List UInt8)) (h : 0 < ls.length) : (ls.map bOf).getD 0 ByteArray.empty = bOf (ls.getD 0 []) := by
  cases ls with
  | nil => simp at h
  | cons a t => rfl
end Go.Proofs.YtjaklgikfcahdaaGreatDoor.Pu
namespace Go.Proofs.YtjaklgikfcahdaaGreatDoor.Pu
open Go.RowKit Go.Proofs.YtjaklgikfcahdaaGreatDoorW.PrintWords Go.Proofs.YtjaklgikfcahdaaGreatDoorW.PrintLast Go.Proofs.YtjaklgikfcahdaaGreatDoor.PV
set_option linter.unusedVariables false
set_option linter.unusedSimpArgs false
theorem lawP_messages0 : depotlaw12_messages.f 60 = some true := by kernel_rfl
theorem lawP_messages : Ev (fun k => depotlaw12_messages.f k) true := Ev.of depotlaw12_messages.mono lawP_messages0
def nobody (c : Int) : Bool := if c = 204 then true else c == 304
theorem prog_nobody (c : Int) : message_Bodiless.f c = some (nobody c) := by
  unfold message_Bodiless.f nobody
  split <;> rfl
theorem ref_nobody (c : Int) : depotref12_Bodiless.f c = some (nobody c) := by
  unfold depotref12_Bodiless.f nobody
  split <;> rfl
abbrev Rp := Int × ByteArray × Int × List S98 × ByteArray × Int
def rpE (e : Int) : Rp := (0, E0, 0, [], E0, e)
def rpC (q : Int × List UInt8 × Int × Int) (F : Int × List S98) (rest : List UInt8) (m : ByteArray) : Rp :=
  if q.2.2.2 = 0 then (if q.1 < 200 then rpE 20 else if F.1 = 0 then (if ((m.toList == [72, 69, 65, 68]) || nobody q.1) = true then (if rest.length = 0 then (q.1, bOf q.2.1, q.2.2.1, dropS names3 F.2, E0, 0) else rpE 22) else if (bodyS F.2 rest q.2.2.1 true).2 = 0 then (q.1, bOf q.2.1, q.2.2.1, dropS names3 F.2, (bodyS F.2 rest q.2.2.1 true).1, 0) else rpE (bodyS F.2 rest q.2.2.1 true).2) else rpE F.1) else rpE q.2.2.2
def rpS (l : List UInt8) (m : ByteArray) : Rp := if 65536 < l.length then rpE 4 else match headS l with
  | none => rpE 5
  | some p => rpC (staL (p.1.getD 0 [])) (fieldsS (p.1.drop 1)) p.2 m
theorem sta_minor (l : List UInt8) : (staL l).2.2.1 = 0 ∨ (staL l).2.2.1 = 1 := by
  unfold staL
  split
  · exact Or.inl rfl
  · unfold staE
    split
    · rename_i h
      rcases verL_yes h.1 with h | h
      · exact Or.inl h.2
      · exact Or.inr h.2
    · exact Or.inl rfl
theorem prog_Rep (l : List UInt8) (m : ByteArray) (h : l.length ≤ 100000) : Ev (fun k => message_ParseReply.f k (bOf l) m) (rpS l m) := by
  unfold message_ParseReply.f rpS
  refine Ev.sbind (prog_begin l h) ?_
  unfold beginS
  by_cases c : 65536 < l.length
  · rw [if_pos c, if_pos c]
    exact Ev.neg (by decide) (Ev.some' rfl)
  rw [if_neg c, if_neg c]
  cases hh : headS l with
  | none => exact Ev.neg (by decide) (Ev.some' rfl)
  | some p =>
    obtain ⟨hl1, hl2, hl0⟩ := headS_len hh
    simp only
    refine Ev.pos (by simp) ?_
    have hd : ∀ a ∈ p.1.drop 1, a.length ≤ 100000 := fun a ha => by have := hl1 a (List.mem_of_mem_drop ha); omega
    have hfi : (p.1.getD 0 []).length ≤ 100000 := by
      rw [List.getD_eq_getElem?_getD, List.getElem?_eq_getElem hl0]
      have := hl1 _ (List.getElem_mem hl0)
      show p.1[0].length ≤ 100000
      omega
    rw [first_bOf p.1 hl0]
    refine Ev.sbind (prog_Status _ hfi) ?_
    unfold rpC
    show Ev (fun k => if (staL (p.1.getD 0 [])).2.2.2 = 0 then (if (staL (p.1.getD 0 [])).1 < 200 then _ else _) else _) _
    refine Ev.ite2 (fun c1 => Ev.ite2 (fun c2 => Ev.some' rfl) (fun c2 => ?_)) (fun c1 => Ev.some' rfl)
    rw [← List.map_drop]
    refine Ev.sbind (prog_rowsS _ hd) ?_
    have hok := fieldsS_ok _ hd
    refine Ev.ite2 (fun c3 => ?_) (fun c3 => Ev.some' rfl)
    refine Ev.sbind (prog_Drop (fieldsS (p.1.drop 1)).2 names3 1000000 (Nat.le_refl _) (by have := hok.1; omega) (by decide) hok.s6 (by decide)) (Ev.sbind (prog_nobody _) ?_)
    refine Ev.ite2 (fun c4 => ?_) (fun c4 => ?_)
    · rw [bOf_size]
      exact Ev.ite2 (fun _ => Ev.some' rfl) (fun _ => Ev.some' rfl)
    · exact Ev.bind (prog_body _ hok p.2 (by omega) _ true) (Ev.ite2 (fun _ => Ev.some' rfl) fun _ => Ev.some' rfl)
theorem ref_Rep (l : List UInt8) (m : ByteArray) (h : l.length ≤ 100000) : Ev (fun k => depotref12_ParseReply.f k (bOf l) m) (rpS l m) := by
  unfold depotref12_ParseReply.f rpS
  rw [bOf_size]
  by_cases c : 65536 < l.length
  · rw [if_pos c]
    exact Ev.pos c (Ev.some' rfl)
  rw [if_neg c]
  refine Ev.neg c ?_
  obtain ⟨g, hg, hn, hs⟩ := ref_head l h
  refine Ev.bind hg ?_
  cases hh : headS l with
  | none =>
    rw [hn hh]
    exact Ev.neg (by simp) (Ev.some' rfl)
  | some p =>
    obtain rfl := hs p hh
    obtain ⟨hl1, hl2, hl0⟩ := headS_len hh
    simp only
    refine Ev.pos (by simp) (Ev.pos (by rw [List.length_map]; exact hl0) ?_)
    have hd : ∀ a ∈ p.1.drop 1, a.length ≤ 100000 := fun a ha => by have := hl1 a (List.mem_of_mem_drop ha); omega
    have hfi : (p.1.getD 0 []).length ≤ 100000 := by
      rw [List.getD_eq_getElem?_getD, List.getElem?_eq_getElem hl0]
      have := hl1 _ (List.getElem_mem hl0)
      show p.1[0].length ≤ 100000
      omega
    rw [first_bOf p.1 hl0]
    refine Ev.bind (ref_Status _ hfi) ?_
    unfold rpC
    show Ev (fun k => if (staL (p.1.getD 0 [])).2.2.2 = 0 then (if (staL (p.1.getD 0 [])).1 < 200 then _ else _) else _) _
    refine Ev.ite2 (fun c1 => Ev.ite2 (fun c2 => Ev.some' rfl) (fun c2 => ?_)) (fun c1 => Ev.some' rfl)
    rw [← List.map_drop]
    refine Ev.bind (ref_rows _ hd) ?_
    have hok := fieldsS_ok _ hd
    have hre : rowsE (p.1.drop 1) = if (fieldsS (p.1.drop 1)).1 = 0 then ((fieldsS (p.1.drop 1)).2, 0) else ([], (fieldsS (p.1.drop 1)).1) := by
      unfold rowsE fieldsS
      split
      · rfl
      · rfl
    rw [hre]
    by_cases c3 : (fieldsS (p.1.drop 1)).1 = 0
    · rw [if_pos c3, if_pos c3]
      refine Ev.pos rfl ?_
      refine Ev.sbind (show depotref12_framing.f = some names3 from rfl) (Ev.bind (ref_Drop (fieldsS (p.1.drop 1)).2 names3 (by have := hok.1; omega) (by decide) hok.s6 (by decide)) (Ev.sbind (ref_nobody _) ?_))
      refine Ev.ite2 (fun c4 => ?_) (fun c4 => ?_)
      · rw [bOf_size]
        exact Ev.ite2 (fun _ => Ev.some' rfl) (fun _ => Ev.some' rfl)
      · exact Ev.bind (ref_body (fieldsS (p.1.drop 1)).2 hok p.2 (by omega) _ (sta_minor _) true) (Ev.ite2 (fun _ => Ev.some' rfl) fun _ => Ev.some' rfl)
    · rw [if_neg c3, if_neg c3]
      exact Ev.neg c3 (Ev.some' rfl)
theorem rpS_fields (l : List UInt8) (m : ByteArray) (h : l.length ≤ 100000) : (rpS l m).2.2.2.1.length < 1000000 := by
  have hz : ∀ e : Int, (rpE e).2.2.2.1.length < 1000000 := fun e => (by decide : ([] : List S98).length < 1000000)
  unfold rpS
  split
  · exact hz _
  cases hh : headS l with
  | none => exact hz _
  | some p =>
    obtain ⟨hl1, hl2, hl0⟩ := headS_len hh
    have hd : ∀ a ∈ p.1.drop 1, a.length ≤ 100000 := fun a ha => by have := hl1 a (List.mem_of_mem_drop ha); omega
    have hok := fieldsS_ok _ hd
    have h1 : (dropS names3 (fieldsS (p.1.drop 1)).2).length ≤ (fieldsS (p.1.drop 1)).2.length := List.length_filter_le _ _
    have h2 : (dropS names3 (fieldsS (p.1.drop 1)).2).length < 1000000 := by have := hok.1; omega
    show (rpC _ _ _ _).2.2.2.1.length < 1000000
    unfold rpC
    repeat' split
    all_goals first | exact h2 | exact hz _
theorem sameRp (r : Rp) (h : r.2.2.2.1.length < 1000000) : Ev (fun k => depotref12_SameReply.f k r.1 r.2.1 r.2.2.1 r.2.2.2.1 r.2.2.2.2.1 r.1 r.2.1 r.2.2.1 r.2.2.2.1 r.2.2.2.2.1) true := by
  unfold depotref12_SameReply.f
  exact Ev.pos ⟨rfl, beq_iff_eq.2 rfl, rfl, beq_iff_eq.2 rfl⟩ (equal_refl _ h)
theorem replies_law (s m : ByteArray) : ∃ k, depotlaw12_MessageReplies.f k s m = some true := by
  obtain ⟨l, rfl, hl⟩ := ex_bOf s
  have main : Ev (fun k => depotlaw12_MessageReplies.f k (bOf l) m) true := by
    unfold depotlaw12_MessageReplies.f
    rw [bOf_size]
    by_cases c : 5000 < l.length ∨ 5000 < m.size
    · exact Ev.pos c lawP_messages
    · have h9 : l.length ≤ 100000 := by omega
      exact Ev.neg c (Ev.bind (prog_Rep l m h9) (Ev.bind (ref_Rep l m h9) (Ev.bind (sameRp (rpS l m) (rpS_fields l m h9)) (Ev.pos ⟨rfl, rfl⟩ lawP_messages))))
  obtain ⟨K, hK⟩ := main
  exact ⟨K, hK K (Nat.le_refl _)⟩
end Go.Proofs.YtjaklgikfcahdaaGreatDoor.Pu
