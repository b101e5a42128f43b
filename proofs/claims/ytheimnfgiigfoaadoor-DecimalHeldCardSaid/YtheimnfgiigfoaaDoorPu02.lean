/- Package decimal and its reference: what the readings and the sums come to. -/
import Derived.Test.YtheimnfgiigfoaaDoorPuB
import Derived.Test.YtheimnfgiigfoaaDoorDigit
import Derived.Test.YtheimnfgiigfoaaDoorPR4
import Derived.Test.YtheimnfgiigfoaaDoorPR4
import Derived.Test.YtheimnfgiigfoaaDoorPR7
import Derived.Test.YtheimnfgiigfoaaDoorPR7
import Derived.Test.YtheimnfgiigfoaaDoorPR3
import Derived.Test.YtheimnfgiigfoaaDoorPR3
import Derived.Test.YtheimnfgiigfoaaDoorPR6
import Derived.Test.YtheimnfgiigfoaaDoorPR6
import Derived.Test.YtheimnfgiigfoaaDoorPR7
import Derived.KernelRfl
namespace Go.Proofs.YtheimnfgiigfoaaDoor.Pu
open Go.RowKit Go.Proofs.YtheimnfgiigfoaaDoorW.PrintWords Go.Proofs.YtheimnfgiigfoaaDoorW.PrintLast Go.Proofs.YtheimnfgiigfoaaDoor.PR
set_option linter.unusedVariables false
set_option linter.unusedSimpArgs false

/-! ### sums -/
def held (n : Int) : Int := if n < 0 then 0 else if 2147483648 < n then 2147483648 else n
theorem held_range (n : Int) : 0 ≤ held n ∧ held n ≤ 2147483648 := by unfold held; split <;> (try split) <;> omega
theorem prog_held (n : Int) : Ev (fun k => decimal_held.f k n) (held n) := by
  unfold decimal_held.f
  refine Ev.bind (Ev.of (decimal_least.mono _ _) (least_one _ _)) (Ev.some' ?_)
  unfold leastI held mx
  repeat' split
  all_goals omega
theorem ref_held (n : Int) : depotref02_held.f n = some (held n) := by
  unfold depotref02_held.f held mn mx
  congr 1
  repeat' split
  all_goals omega
theorem prog_Add (a b : Int) : Ev (fun k => decimal_Add.f k a b) (held (held a + held b)) := by
  have ha := held_range a
  have hb := held_range b
  unfold decimal_Add.f
  refine Ev.bind (prog_held a) (Ev.bind (prog_held b) ?_)
  rw [wrap_id (by omega) (by omega)]
  exact Ev.bind (prog_held _) (Ev.some' rfl)
theorem ref_Add (a b : Int) : depotref02_Add.f a b = some (held (held a + held b)) := by
  have ha := held_range a
  have hb := held_range b
  unfold depotref02_Add.f
  rw [ref_held, Option.bind_some, ref_held, Option.bind_some, wrap_id (by omega) (by omega), ref_held]
  rfl
theorem prog_Less (a b : Int) : Ev (fun k => decimal_Less.f k a b) (held (held a - held b)) := by
  have ha := held_range a
  have hb := held_range b
  unfold decimal_Less.f
  refine Ev.bind (prog_held a) (Ev.bind (prog_held b) ?_)
  rw [wrap_id (by omega) (by omega)]
  exact Ev.bind (prog_held _) (Ev.some' rfl)
theorem ref_Less (a b : Int) : depotref02_Less.f a b = some (held (held a - held b)) := by
  have ha := held_range a
  have hb := held_range b
  unfold depotref02_Less.f
  rw [ref_held, Option.bind_some, ref_held, Option.bind_some, wrap_id (by omega) (by omega), ref_held]
  rfl
/-! ### readings -/
def hexR (c : Int) : Int × Bool := if Hand.dig0 c < 0 then (0, false) else (Hand.dig0 c, true)
theorem hex_all : ∀ c : Fin 256, depotref01_Hex.f 20 ((c : Nat) : Int) = some (hexR ((c : Nat) : Int)) := by decide +kernel
theorem ref_Hex (c : Int) (h0 : 0 ≤ c) (h1 : c ≤ 255) : Ev (fun k => depotref01_Hex.f k c) (hexR c) := by
  obtain ⟨n, rfl⟩ := Int.eq_ofNat_of_zero_le h0
  have := hex_all ⟨n, by omega⟩
  exact Ev.of (depotref01_Hex.mono _) this
theorem dig0_lo (c : Int) : -1 ≤ Hand.dig0 c ∧ Hand.dig0 c ≤ 15 := by
  unfold Hand.dig0
  repeat' split
  all_goals omega
theorem dig_neg (c base : Int) (hb : 1 ≤ base) : Hand.dig c base < 0 ↔ (Hand.dig0 c < 0 ∨ base ≤ Hand.dig0 c) := by
  have := dig0_lo c
  unfold Hand.dig
  split <;> omega
theorem dig_pos (c base : Int) (h : Hand.dig0 c < base) : Hand.dig c base = Hand.dig0 c := by
  unfold Hand.dig
  rw [if_neg (by omega)]
theorem rread_l0 (s : ByteArray) (base most : Int) (hb : 1 ≤ base) (hs : s.size ≤ 100000) (n : Nat) : ∀ (i : Nat) (acc : Int), s.size - i = n → i ≤ s.size →
    Ev (fun k => depotref02_read.l0 k s base most acc (i : Int)) (readEnd most (readGo s base n acc i)) := by
  induction n with
  | zero =>
    intro i acc hn hi
    refine Ev.step (fun k => by rw [depotref02_read.l0]) (Ev.neg (by omega) ?_)
    show Ev _ (if most < acc then (0, 3) else (acc, 0))
    exact Ev.ite (fun h => by rw [if_pos h]; exact Ev.some' rfl) (fun h => by rw [if_neg h]; exact Ev.some' rfl)
  | succ n ih =>
    intro i acc hn hi
    have hr := bt_range s i
    have hw : wrap64 ((i : Int) + 1) = ((i + 1 : Nat) : Int) := by rw [wrap_id] <;> omega
    refine Ev.step (fun k => by rw [depotref02_read.l0]) (Ev.pos (by omega) (Ev.pos (by omega) (Ev.bind (ref_Hex _ hr.1 hr.2) ?_)))
    rw [readGo, hw]
    have hd := dig_neg (bt s i) base hb
    unfold hexR
    by_cases h1 : Hand.dig0 (bt s i) < 0
    · rw [if_pos h1, if_pos (hd.2 (Or.inl h1))]
      exact Ev.neg (by simp) (Ev.some' rfl)
    · rw [if_neg h1]
      refine Ev.pos rfl ?_
      by_cases h2 : base ≤ Hand.dig0 (bt s i)
      · rw [if_pos (hd.2 (Or.inr h2))]
        exact Ev.pos h2 (Ev.some' rfl)
      · rw [if_neg (fun h => by have := hd.1 h; omega), dig_pos _ _ (by omega)]
        exact Ev.neg h2 (ih (i + 1) _ (by omega) (by omega))
theorem ref_read (s : ByteArray) (base long most : Int) (hb : 1 ≤ base) (hs : s.size ≤ 100000) : Ev (fun k => depotref02_read.f k s base long most) (readP s base long most) := by
  unfold depotref02_read.f readP
  by_cases h1 : s.size = 0
  · rw [if_pos h1]
    refine Ev.pos (by omega) (Ev.step (fun k => by rw [depotref02_read.j0]) ?_)
    exact Ev.pos rfl (Ev.some' rfl)
  · rw [if_neg h1]
    refine Ev.neg (by omega) (Ev.step (fun k => by rw [depotref02_read.j0]) ?_)
    refine Ev.ite (fun h => ?_) (fun h => ?_)
    · rw [if_pos (by simpa using h)]; exact Ev.some' rfl
    · rw [if_neg (by simpa using h)]
      exact rread_l0 s base most hb hs _ 0 0 rfl (by omega)
theorem prog_read (s : ByteArray) (base long most : Int) (hb : 1 ≤ base) (hb2 : base ≤ 16) (hs : s.size ≤ 100000) : decimal_read.f s base long most = some (readP s base long most) := by
  unfold decimal_read.f
  rw [if_pos ⟨hb, hb2, by omega⟩]
theorem prog_Number (s : ByteArray) (most : Int) (hs : s.size ≤ 100000) : decimal_Number.f s most = some (readP s 10 18 most) := by
  unfold decimal_Number.f
  rw [prog_read s 10 18 most (by decide) (by decide) hs]
  rfl
theorem prog_ReadHex (s : ByteArray) (most : Int) (hs : s.size ≤ 100000) : decimal_ReadHex.f s most = some (readP s 16 15 most) := by
  unfold decimal_ReadHex.f
  rw [prog_read s 16 15 most (by decide) (by decide) hs]
  rfl
theorem ref_Number (s : ByteArray) (most : Int) (hs : s.size ≤ 100000) : Ev (fun k => depotref02_Number.f k s most) (readP s 10 18 most) := by
  unfold depotref02_Number.f
  exact Ev.bind (ref_read s 10 18 most (by decide) hs) (Ev.some' rfl)
theorem ref_ReadHex (s : ByteArray) (most : Int) (hs : s.size ≤ 100000) : Ev (fun k => depotref02_ReadHex.f k s most) (readP s 16 15 most) := by
  unfold depotref02_ReadHex.f
  exact Ev.bind (ref_read s 16 15 most (by decide) hs) (Ev.some' rfl)
/-! ### seconds -/
theorem ref_Digit (c : Int) (h0 : 0 ≤ c) (h1 : c ≤ 255) : Ev (fun k => depotref01_Digit.f k c) (decide (48 ≤ c ∧ c ≤ 57)) := by
  unfold depotref01_Digit.f
  refine Ev.bind (ref_Hex c h0 h1) ?_
  have hd : Hand.dig0 c < 10 ∧ 0 ≤ Hand.dig0 c ↔ 48 ≤ c ∧ c ≤ 57 := by
    unfold Hand.dig0
    repeat' split
    all_goals omega
  unfold hexR
  by_cases hn : Hand.dig0 c < 0
  · rw [if_pos hn]
    refine Ev.neg (by simp) (Ev.some' ?_)
    rw [eq_comm, decide_eq_false_iff_not, ← hd]
    omega
  · rw [if_neg hn]
    refine Ev.pos rfl (Ev.some' ?_)
    rw [decide_eq_decide, ← hd]
    show Hand.dig0 c < 10 ↔ _
    omega
theorem dig_ten (c : Int) : Hand.dig c 10 = if 48 ≤ c ∧ c ≤ 57 then c - 48 else -1 := by
  unfold Hand.dig Hand.dig0
  repeat' split
  all_goals omega
theorem mn_least (a b : Int) : mn a b = leastI a b := by unfold mn leastI; repeat' split
                                                         all_goals omega
theorem rsec_l0 (s : ByteArray) (hs : s.size ≤ 100000) (n : Nat) : ∀ (i : Nat) (acc : Int), s.size - i = n → i ≤ s.size →
    Ev (fun k => depotref02_Seconds.l0 k s acc (i : Int)) (secEnd s (secGo s n acc i)) := by
  induction n with
  | zero =>
    intro i acc hn hi
    refine Ev.step (fun k => by rw [depotref02_Seconds.l0]) (Ev.neg (by omega) (Ev.some' ?_))
    show _ = (acc, !(s.toList == []))
    congr 1
    rw [ByteArray.toList_eq]
    have := data_length s
    cases h : s.data.toList with
    | nil => rw [h] at this; simp at this; simp [← this]
    | cons a b => rw [h] at this; simp at this; simp; omega
  | succ n ih =>
    intro i acc hn hi
    have hr := bt_range s i
    have hw : wrap64 ((i : Int) + 1) = ((i + 1 : Nat) : Int) := by rw [wrap_id] <;> omega
    refine Ev.step (fun k => by rw [depotref02_Seconds.l0]) (Ev.pos (by omega) (Ev.pos (by omega) (Ev.bind (ref_Digit _ hr.1 hr.2) ?_)))
    rw [secGo, hw, dig_ten]
    by_cases h : 48 ≤ bt s i ∧ bt s i ≤ 57
    · rw [if_pos h, if_neg (by omega)]
      refine Ev.pos (by simpa using h) ?_
      rw [mn_least, show (bt s i - 48) % 256 = bt s i - 48 by omega]
      exact ih (i + 1) _ (by omega) (by omega)
    · rw [if_neg h, if_pos (by decide)]
      exact Ev.neg (by simpa using h) (Ev.some' rfl)
theorem ref_Seconds (s : ByteArray) (hs : s.size ≤ 100000) : Ev (fun k => depotref02_Seconds.f k s) (secP s) := by
  unfold depotref02_Seconds.f secP
  exact rsec_l0 s hs _ 0 0 rfl (by omega)
theorem prog_Seconds (s : ByteArray) (hs : s.size ≤ 100000) : decimal_Seconds.f s = some (secP s) := by
  unfold decimal_Seconds.f
  rw [if_pos (by omega)]
end Go.Proofs.YtheimnfgiigfoaaDoor.Pu
