/- The reference's Trim is the library's strings.Trim at blank and tab. -/
import Derived.Test.YtmmmfippfoginaaDoorPuB
import Derived.Test.YtmmmfippfoginaaDoorPR7
import Derived.Lib.SlTrimSet
namespace Go.Proofs.YtmmmfippfoginaaDoor.Pu
open Go.RowKit Go.Proofs.YtmmmfippfoginaaDoorW.PrintWords Go.Proofs.YtmmmfippfoginaaDoorW.PrintLast Go.Proofs.YtmmmfippfoginaaDoor.PR
set_option linter.unusedVariables false
set_option linter.unusedSimpArgs false

def isBl (c : UInt8) : Bool := ([32, 9] : List UInt8).contains c
def trimL (l : List UInt8) : List UInt8 := l.dropWhile isBl
def trimR (l : List UInt8) : List UInt8 := (l.reverse.dropWhile isBl).reverse
def trim (l : List UInt8) : List UInt8 := trimL (trimR l)
theorem trim_eq (l : List UInt8) : Lib.trimS l [32, 9] = trim l := rfl
theorem trimR_cons (x : UInt8) (l : List UInt8) : trimR (x :: l) = if trimR l = [] then (if isBl x = true then [] else [x]) else x :: trimR l := by
  unfold trimR
  rw [List.reverse_cons, List.dropWhile_append]
  by_cases h : List.dropWhile isBl l.reverse = []
  · rw [h]
    simp [List.dropWhile_cons]
    by_cases hx : isBl x = true <;> simp [hx]
  · have hb : (List.dropWhile isBl l.reverse).isEmpty = false := by simpa using h
    simp [hb, h]
theorem trimR_nil : trimR [] = [] := rfl
theorem trim_comm (l : List UInt8) : trimR (trimL l) = trimL (trimR l) := by
  induction l with
  | nil => rfl
  | cons x l ih =>
    rw [trimR_cons]
    by_cases hx : isBl x = true
    · have h1 : trimL (x :: l) = trimL l := by simp [trimL, List.dropWhile_cons, hx]
      rw [h1, ih]
      by_cases h : trimR l = []
      · rw [if_pos h, if_pos hx, h]
      · rw [if_neg h]
        simp [trimL, List.dropWhile_cons, hx]
    · have h1 : trimL (x :: l) = x :: l := by simp [trimL, List.dropWhile_cons, hx]
      rw [h1, trimR_cons]
      by_cases h : trimR l = []
      · rw [if_pos h, if_neg hx]; simp [trimL, List.dropWhile_cons, hx]
      · rw [if_neg h]; simp [trimL, List.dropWhile_cons, hx]
theorem blank_some (c : UInt8) : depotref01_blank.f (c.toNat : Int) = some (isBl c) := by
  unfold depotref01_blank.f
  by_cases h : (c.toNat : Int) = 32
  · rw [if_pos h]
    have : c = 32 := (u8_eq (by decide)).1 h
    subst this; rfl
  · rw [if_neg h]
    congr 1
    have h1 : ¬ c = 32 := fun e => h (by rw [e]; rfl)
    by_cases h2 : (c.toNat : Int) = 9
    · have : c = 9 := (u8_eq (by decide)).1 h2
      subst this; rfl
    · have h3 : ¬ c = 9 := fun e => h2 (by rw [e]; rfl)
      have : isBl c = false := by simp [isBl, h1, h3]
      rw [this]; simpa using h2
theorem trim_l1 (n : Nat) : ∀ l : List UInt8, l.length = n → n ≤ 9223372036854775807 → Ev (fun k => depotref01_Trim.l1 k (bOf l)) (bOf (trimR l)) := by
  induction n with
  | zero =>
    intro l hl _
    obtain rfl := List.length_eq_zero_iff.1 hl
    refine Ev.step (fun k => by rw [depotref01_Trim.l1]) ?_
    refine Ev.neg (by rw [bOf_size]; simp) (Ev.some' rfl)
  | succ n ih =>
    intro l hl hn
    obtain ⟨m, c, rfl⟩ : ∃ m c, l = m ++ [c] := ⟨l.dropLast, l.getLast (by intro h; simp [h] at hl), (List.dropLast_concat_getLast _).symm⟩
    have hm : m.length = n := by simpa using hl
    have hs : ((bOf (m ++ [c])).size : Int) = n + 1 := by rw [bOf_size]; simp [hm]
    have hw : wrap64 (((bOf (m ++ [c])).size : Int) - 1) = n := by rw [hs, wrap_id] <;> omega
    refine Ev.step (fun k => by rw [depotref01_Trim.l1]) ?_
    rw [hw, hs]
    refine Ev.pos (by omega) (Ev.pos (by omega) (Ev.pos (by omega) ?_))
    have hb : bt (bOf (m ++ [c])) (n : Int) = c.toNat := by
      rw [bt_bOf _ _ (by omega) (by simp [hm]; omega)]; simp [at_, ← hm]
    rw [hb]
    refine Ev.sbind (blank_some c) ?_
    have htr : trimR (m ++ [c]) = if isBl c = true then trimR m else m ++ [c] := by
      unfold trimR
      rw [List.reverse_append]
      simp [List.dropWhile_cons]
      by_cases hc : isBl c = true <;> simp [hc]
    refine Ev.ite (fun hc => ?_) (fun hc => ?_)
    · rw [htr, if_pos hc]
      refine Ev.pos (by omega) ?_
      have : (bOf (m ++ [c])).extract 0 ((n : Int)).toNat = bOf m := by rw [bOf_extract]; simp [← hm]
      rw [this]
      exact ih m hm (by omega)
    · rw [htr, if_neg hc]
      exact Ev.some' rfl
theorem trim_j1 (l : List UInt8) (h : l.length ≤ 9223372036854775807) : Ev (fun k => depotref01_Trim.j1 k (bOf l)) (bOf (trimR l)) :=
  Ev.step (fun k => by rw [depotref01_Trim.j1]) (trim_l1 _ l rfl h)
theorem trim_l0 (n : Nat) : ∀ l : List UInt8, l.length = n → n ≤ 9223372036854775807 → Ev (fun k => depotref01_Trim.l0 k (bOf l)) (bOf (trimR (trimL l))) := by
  induction n with
  | zero =>
    intro l hl hn
    obtain rfl := List.length_eq_zero_iff.1 hl
    refine Ev.step (fun k => by rw [depotref01_Trim.l0]) ?_
    exact Ev.neg (by rw [bOf_size]; simp) (trim_j1 [] (by simp))
  | succ n ih =>
    intro l hl hn
    match l, hl with
    | c :: m, hl =>
      have hm : m.length = n := by simpa using hl
      have hs : ((bOf (c :: m)).size : Int) = n + 1 := by rw [bOf_size]; simp [hm]
      refine Ev.step (fun k => by rw [depotref01_Trim.l0]) ?_
      rw [hs]
      refine Ev.pos (by omega) (Ev.pos (by omega) ?_)
      have hb : bt (bOf (c :: m)) 0 = c.toNat := by rw [bt_bOf _ _ (by omega) (by simp)]; rfl
      rw [hb]
      refine Ev.sbind (blank_some c) ?_
      refine Ev.ite (fun hc => ?_) (fun hc => ?_)
      · refine Ev.pos (by omega) ?_
        have : (bOf (c :: m)).extract 1 (bOf (c :: m)).size = bOf m := by rw [bOf_extract, bOf_size]; simp
        rw [this]
        have h1 : trimL (c :: m) = trimL m := by simp [trimL, List.dropWhile_cons, hc]
        rw [h1]
        exact ih m hm (by omega)
      · have h1 : trimL (c :: m) = c :: m := by simp [trimL, List.dropWhile_cons, hc]
        rw [h1]
        exact trim_j1 _ (by simp [hm]; omega)
theorem ref_Trim (s : ByteArray) (h : s.size ≤ 9223372036854775807) : Ev (fun k => depotref01_Trim.f k s) (bOf (trim s.data.toList)) := by
  have := trim_l0 _ s.data.toList rfl (by rw [size_data]; exact h)
  rw [bOf_data, trim_comm] at this
  exact this
theorem trim_le (l : List UInt8) : (trim l).length ≤ l.length := by
  unfold trim trimL trimR
  refine Nat.le_trans (List.dropWhile_sublist _).length_le ?_
  rw [List.length_reverse]
  refine Nat.le_trans (List.dropWhile_sublist _).length_le ?_
  rw [List.length_reverse]
  exact Nat.le_refl _
end Go.Proofs.YtmmmfippfoginaaDoor.Pu
