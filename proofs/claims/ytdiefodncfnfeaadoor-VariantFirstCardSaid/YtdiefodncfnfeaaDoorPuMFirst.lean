/- Plain lemmas and the statement's own law. -/
import Derived.Test.YtdiefodncfnfeaaDoorWWords
import Derived.Test.YtdiefodncfnfeaaDoorWLast
import Derived.Test.YtdiefodncfnfeaaDoorHand
import Derived.Lib.Strings
import Derived.IntWalk
import Derived.Test.YtdiefodncfnfeaaDoorPR5
import Derived.Test.YtdiefodncfnfeaaDoorPR9
import Derived.KernelRfl
import Derived.Test.YtdiefodncfnfeaaDoorPR19
import Derived.Lib.Replace
import Derived.Lib.CountLaws
import Derived.Lib.ReplaceLaws
import Derived.Test.YtdiefodncfnfeaaDoorLower
import Derived.Test.YtdiefodncfnfeaaDoorPR8
import Derived.Test.YtdiefodncfnfeaaDoorPR13
import Derived.Lib.Join
import Derived.Test.YtdiefodncfnfeaaDoorPR34
import Derived.Test.YtdiefodncfnfeaaDoorPR35
namespace Go.Proofs.YtdiefodncfnfeaaDoor.Pu
open Go.RowKit Go.Proofs.YtdiefodncfnfeaaDoorW.PrintWords Go.Proofs.YtdiefodncfnfeaaDoorW.PrintLast
set_option linter.unusedVariables false
set_option linter.unusedSimpArgs false
def bOf (l : List UInt8) : ByteArray := ⟨l.toArray⟩
theorem bOf_data (s : ByteArray) : bOf s.data.toList = s := by obtain ⟨⟨l⟩⟩ := s; rfl
theorem data_bOf (l : List UInt8) : (bOf l).data.toList = l := rfl
theorem bOf_size (l : List UInt8) : (bOf l).size = l.length := by unfold bOf; simp [ByteArray.size]
theorem size_data (s : ByteArray) : s.data.toList.length = s.size := data_length s
theorem toList_bOf (l : List UInt8) : (bOf l).toList = l := by rw [ByteArray.toList_eq]; rfl
theorem ex_bOf (s : ByteArray) : ∃ l, s = bOf l ∧ l.length = s.size := ⟨s.data.toList, (bOf_data s).symm, size_data s⟩
theorem wrap_id {n : Int} (h0 : -9223372036854775808 ≤ n) (h : n ≤ 9223372036854775807) : wrap64 n = n := Go.IntWalk.wrap64_in n ⟨h0, h⟩
theorem Ev.pos {α : Type} {c : Prop} [Decidable c] {f g : Nat → Option α} {r : α} (hc : c) (h : Ev f r) : Ev (fun n => if c then f n else g n) r := Ev.congr (fun n => if_pos hc) h
theorem Ev.neg {α : Type} {c : Prop} [Decidable c] {f g : Nat → Option α} {r : α} (hc : ¬ c) (h : Ev g r) : Ev (fun n => if c then f n else g n) r := Ev.congr (fun n => if_neg hc) h
theorem Ev.sbind {α β : Type} {x : Option α} {f : Nat → α → Option β} {a : α} {r : β} (h : x = some a) (k : Ev (fun n => f n a) r) : Ev (fun n => x.bind (f n)) r := Ev.congr (fun n => by rw [h]; rfl) k
theorem Ev.some' {α : Type} {a r : α} (h : a = r) : Ev (fun _ => some a) r := ⟨0, fun _ _ => by rw [h]⟩
theorem Ev.eq {α : Type} {g : Nat → Option α} {a b : α} (h : Ev g a) (e : a = b) : Ev g b := e ▸ h
end Go.Proofs.YtdiefodncfnfeaaDoor.Pu
namespace Go.Proofs.YtdiefodncfnfeaaDoor.Pu
open Go.RowKit Go.Proofs.YtdiefodncfnfeaaDoorW.PrintWords Go.Proofs.YtdiefodncfnfeaaDoorW.PrintLast Go.Proofs.YtdiefodncfnfeaaDoor.PR
set_option linter.unusedVariables false
set_option linter.unusedSimpArgs false
theorem rdF_at (l : List S62) (i : Nat) (h : i < l.length) : rd_T62 l i = l[i] := by
  show l.getD (i : Int).toNat _ = _
  rw [Int.toNat_natCast, List.getD_eq_getElem?_getD, List.getElem?_eq_getElem h]; rfl
theorem rdP_at (l : List S53) (i : Nat) (h : i < l.length) : rd_T53 l i = l[i] := by
  show l.getD (i : Int).toNat _ = _
  rw [Int.toNat_natCast, List.getD_eq_getElem?_getD, List.getElem?_eq_getElem h]; rfl
theorem rdS_at (l : List S28) (i : Nat) (h : i < l.length) : rd_T28 l i = l[i] := by
  show l.getD (i : Int).toNat _ = _
  rw [Int.toNat_natCast, List.getD_eq_getElem?_getD, List.getElem?_eq_getElem h]; rfl
theorem wrap_nat (i n : Nat) (h : i < n) (hn : n ≤ 9223372036854775807) : wrap64 ((i : Int) + 1) = ((i + 1 : Nat) : Int) := by rw [wrap_id (by omega) (by omega)]; omega
def smallF (n : Nat) (x : S62) : Prop := x.f0.size ≤ n ∧ x.f1.size ≤ n
def smallP (n : Nat) (x : S53) : Prop := x.f0.size ≤ n ∧ x.f2.size ≤ n
def smallS (n : Nat) (x : S28) : Prop := x.f0.f1.size ≤ n ∧ x.f0.f4.size ≤ n ∧ (x.f0.f3.length ≤ 70 ∧ ∀ f ∈ x.f0.f3, smallF n f) ∧ (x.f2.length ≤ 70 ∧ ∀ p ∈ x.f2, smallP n p)
theorem few09_l0 (l : List S62) (m n : Nat) (hl : l.length ≤ 9223372036854775807) : ∀ (d i : Nat), d + i = l.length → (∀ j (h : j < l.length), j < i → smallF n l[j]) →
    ∃ b, Ev (fun k => depotref09_Few.l0 k l m n i) b ∧ (b = true → l.length ≤ m ∧ ∀ x ∈ l, smallF n x) := by
  have fin : ∀ i, (∀ j (h : j < l.length), j < i → smallF n l[j]) → l.length ≤ i ∨ m < i → (decide ((l.length : Int) ≤ (m : Int))) = true → i ≤ l.length → l.length ≤ m ∧ ∀ x ∈ l, smallF n x := by
    intro i hi hc hb hil
    have := of_decide_eq_true hb
    refine ⟨by omega, fun x hx => ?_⟩
    obtain ⟨j, hj, rfl⟩ := List.getElem_of_mem hx
    exact hi j hj (by omega)
  intro d
  induction d with
  | zero =>
    intro i hd hi
    refine ⟨decide ((l.length : Int) ≤ (m : Int)), ?_, fun hb => fin i hi (.inl (by omega)) hb (by omega)⟩
    refine Ev.step (fun k => by rw [depotref09_Few.l0]) (Ev.neg (by omega) ?_)
    exact Ev.step (fun k => by rw [depotref09_Few.j1]) (Ev.neg (by simp) (Ev.some' rfl))
  | succ d ih =>
    intro i hd hi
    by_cases hm : i ≤ m
    · by_cases hs : smallF n l[i]
      · obtain ⟨b, hb, hc⟩ := ih (i + 1) (by omega) (fun j h hj => by
          by_cases e : j = i
          · subst e; exact hs
          · exact hi j h (by omega))
        refine ⟨b, ?_, hc⟩
        refine Ev.step (fun k => by rw [depotref09_Few.l0]) (Ev.pos (by omega) ?_)
        refine Ev.step (fun k => by rw [depotref09_Few.j1, rdF_at l i (by omega)]) (Ev.pos (decide_eq_true (by omega)) (Ev.pos (by omega) (Ev.pos (by omega) ?_)))
        refine Ev.neg (by have := hs.1; omega) (Ev.neg (by have := hs.2; omega) ?_)
        rw [wrap_nat i l.length (by omega) hl]
        exact hb
      · refine ⟨false, ?_, fun h => by cases h⟩
        refine Ev.step (fun k => by rw [depotref09_Few.l0]) (Ev.pos (by omega) ?_)
        refine Ev.step (fun k => by rw [depotref09_Few.j1, rdF_at l i (by omega)]) (Ev.pos (decide_eq_true (by omega)) (Ev.pos (by omega) (Ev.pos (by omega) ?_)))
        by_cases h0 : l[i].f0.size ≤ n
        · refine Ev.neg (by omega) (Ev.pos ?_ (Ev.some' rfl))
          have : ¬ l[i].f1.size ≤ n := fun h1 => hs ⟨h0, h1⟩
          omega
        · exact Ev.pos (by omega) (Ev.some' rfl)
    · refine ⟨decide ((l.length : Int) ≤ (m : Int)), ?_, fun hb => fin i hi (.inr (by omega)) hb (by omega)⟩
      refine Ev.step (fun k => by rw [depotref09_Few.l0]) (Ev.pos (by omega) ?_)
      exact Ev.step (fun k => by rw [depotref09_Few.j1]) (Ev.neg (by simp; omega) (Ev.some' rfl))
theorem few09 (l : List S62) (m n : Nat) (hl : l.length ≤ 9223372036854775807) : ∃ b, Ev (fun k => depotref09_Few.f k l m n) b ∧ (b = true → l.length ≤ m ∧ ∀ x ∈ l, smallF n x) :=
  few09_l0 l m n hl l.length 0 (by omega) (fun _ _ h => absurd h (Nat.not_lt_zero _))
theorem few15_l0 (l : List S53) (m n : Nat) (hl : l.length ≤ 9223372036854775807) : ∀ (d i : Nat), d + i = l.length → (∀ j (h : j < l.length), j < i → smallP n l[j]) →
    ∃ b, Ev (fun k => depotref15_Few.l0 k l m n i) b ∧ (b = true → l.length ≤ m ∧ ∀ x ∈ l, smallP n x) := by
  have fin : ∀ i, (∀ j (h : j < l.length), j < i → smallP n l[j]) → l.length ≤ i ∨ m < i → (decide ((l.length : Int) ≤ (m : Int))) = true → i ≤ l.length → l.length ≤ m ∧ ∀ x ∈ l, smallP n x := by
    intro i hi hc hb hil
    have := of_decide_eq_true hb
    refine ⟨by omega, fun x hx => ?_⟩
    obtain ⟨j, hj, rfl⟩ := List.getElem_of_mem hx
    exact hi j hj (by omega)
  intro d
  induction d with
  | zero =>
    intro i hd hi
    refine ⟨decide ((l.length : Int) ≤ (m : Int)), ?_, fun hb => fin i hi (.inl (by omega)) hb (by omega)⟩
    refine Ev.step (fun k => by rw [depotref15_Few.l0]) (Ev.neg (by omega) ?_)
    exact Ev.step (fun k => by rw [depotref15_Few.j1]) (Ev.neg (by simp) (Ev.some' rfl))
  | succ d ih =>
    intro i hd hi
    by_cases hm : i ≤ m
    · by_cases hs : smallP n l[i]
      · obtain ⟨b, hb, hc⟩ := ih (i + 1) (by omega) (fun j h hj => by
          by_cases e : j = i
          · subst e; exact hs
          · exact hi j h (by omega))
        refine ⟨b, ?_, hc⟩
        refine Ev.step (fun k => by rw [depotref15_Few.l0]) (Ev.pos (by omega) ?_)
        refine Ev.step (fun k => by rw [depotref15_Few.j1, rdP_at l i (by omega)]) (Ev.pos (decide_eq_true (by omega)) (Ev.pos (by omega) (Ev.pos (by omega) ?_)))
        refine Ev.neg (by have := hs.1; omega) (Ev.neg (by have := hs.2; omega) ?_)
        rw [wrap_nat i l.length (by omega) hl]
        exact hb
      · refine ⟨false, ?_, fun h => by cases h⟩
        refine Ev.step (fun k => by rw [depotref15_Few.l0]) (Ev.pos (by omega) ?_)
        refine Ev.step (fun k => by rw [depotref15_Few.j1, rdP_at l i (by omega)]) (Ev.pos (decide_eq_true (by omega)) (Ev.pos (by omega) (Ev.pos (by omega) ?_)))
        by_cases h0 : l[i].f0.size ≤ n
        · refine Ev.neg (by omega) (Ev.pos ?_ (Ev.some' rfl))
          have : ¬ l[i].f2.size ≤ n := fun h1 => hs ⟨h0, h1⟩
          omega
        · exact Ev.pos (by omega) (Ev.some' rfl)
    · refine ⟨decide ((l.length : Int) ≤ (m : Int)), ?_, fun hb => fin i hi (.inr (by omega)) hb (by omega)⟩
      refine Ev.step (fun k => by rw [depotref15_Few.l0]) (Ev.pos (by omega) ?_)
      exact Ev.step (fun k => by rw [depotref15_Few.j1]) (Ev.neg (by simp; omega) (Ev.some' rfl))
theorem few15 (l : List S53) (m n : Nat) (hl : l.length ≤ 9223372036854775807) : ∃ b, Ev (fun k => depotref15_Few.f k l m n) b ∧ (b = true → l.length ≤ m ∧ ∀ x ∈ l, smallP n x) :=
  few15_l0 l m n hl l.length 0 (by omega) (fun _ _ h => absurd h (Nat.not_lt_zero _))
def okS (x : S28) : Prop := x.f0.f3.length ≤ 9223372036854775807 ∧ x.f2.length ≤ 9223372036854775807
theorem fewS_l0 (l : List S28) (m n : Nat) (hl : l.length ≤ 9223372036854775807) (hok : ∀ x ∈ l, okS x) : ∀ (d i : Nat), d + i = l.length → (∀ j (h : j < l.length), j < i → smallS n l[j]) →
    ∃ b, Ev (fun k => depotref20_Few.l0 k l m n i) b ∧ (b = true → l.length ≤ m ∧ ∀ x ∈ l, smallS n x) := by
  have fin : ∀ i, (∀ j (h : j < l.length), j < i → smallS n l[j]) → l.length ≤ i ∨ m < i → (decide ((l.length : Int) ≤ (m : Int))) = true → i ≤ l.length → l.length ≤ m ∧ ∀ x ∈ l, smallS n x := by
    intro i hi hc hb hil
    have := of_decide_eq_true hb
    refine ⟨by omega, fun x hx => ?_⟩
    obtain ⟨j, hj, rfl⟩ := List.getElem_of_mem hx
    exact hi j hj (by omega)
  intro d
  induction d with
  | zero =>
    intro i hd hi
    refine ⟨decide ((l.length : Int) ≤ (m : Int)), ?_, fun hb => fin i hi (.inl (by omega)) hb (by omega)⟩
    refine Ev.step (fun k => by rw [depotref20_Few.l0]) (Ev.neg (by omega) ?_)
    exact Ev.step (fun k => by rw [depotref20_Few.j1]) (Ev.neg (by simp) (Ev.some' rfl))
  | succ d ih =>
    intro i hd hi
    by_cases hm : i ≤ m
    · have hlt : i < l.length := by omega
      have hoi := hok l[i] (List.getElem_mem hlt)
      obtain ⟨b1, e1, g1⟩ := few09 l[i].f0.f3 70 n hoi.1
      obtain ⟨b2, e2, g2⟩ := few15 l[i].f2 70 n hoi.2
      have pre : ∀ (b : Bool), Ev (fun k => (depotref12_FewReply.f k l[i].f0.f0 l[i].f0.f1 l[i].f0.f2 l[i].f0.f3 l[i].f0.f4 n).bind fun t108 => if t108 = true then (depotref15_Few.f k l[i].f2 70 n).bind fun t110 => if t110 = true then depotref20_Few.l0 k l m n (wrap64 ((i : Int) + 1)) else some false else some false) b → Ev (fun k => depotref20_Few.l0 k l m n i) b := by
        intro b hb
        refine Ev.step (fun k => by rw [depotref20_Few.l0]) (Ev.pos (by omega) ?_)
        exact Ev.step (fun k => by rw [depotref20_Few.j1, rdS_at l i hlt]) (Ev.pos (decide_eq_true (by omega)) (Ev.pos (by omega) (Ev.pos (by omega) hb)))
      by_cases h1 : l[i].f0.f1.size ≤ n
      · by_cases h4 : l[i].f0.f4.size ≤ n
        · have er : Ev (fun k => depotref12_FewReply.f k l[i].f0.f0 l[i].f0.f1 l[i].f0.f2 l[i].f0.f3 l[i].f0.f4 n) b1 := by
            unfold depotref12_FewReply.f
            exact Ev.pos (by omega) (Ev.pos (by omega) (Ev.bind e1 (Ev.some' rfl)))
          cases b1 with
          | false => exact ⟨false, pre false (Ev.bind er (Ev.neg (by simp) (Ev.some' rfl))), fun h => by cases h⟩
          | true =>
            cases b2 with
            | false => exact ⟨false, pre false (Ev.bind er (Ev.pos rfl (Ev.bind e2 (Ev.neg (by simp) (Ev.some' rfl))))), fun h => by cases h⟩
            | true =>
              obtain ⟨b, hb, hc⟩ := ih (i + 1) (by omega) (fun j h hj => by
                by_cases e : j = i
                · subst e; exact ⟨h1, h4, g1 rfl, g2 rfl⟩
                · exact hi j h (by omega))
              refine ⟨b, pre b (Ev.bind er (Ev.pos rfl (Ev.bind e2 (Ev.pos rfl ?_)))), hc⟩
              rw [wrap_nat i l.length hlt hl]
              exact hb
        · exact ⟨false, pre false (Ev.bind (a := false) (by unfold depotref12_FewReply.f; exact Ev.pos (by omega) (Ev.neg (by omega) (Ev.some' rfl))) (Ev.neg (by simp) (Ev.some' rfl))), fun h => by cases h⟩
      · exact ⟨false, pre false (Ev.bind (a := false) (by unfold depotref12_FewReply.f; exact Ev.neg (by omega) (Ev.some' rfl)) (Ev.neg (by simp) (Ev.some' rfl))), fun h => by cases h⟩
    · refine ⟨decide ((l.length : Int) ≤ (m : Int)), ?_, fun hb => fin i hi (.inr (by omega)) hb (by omega)⟩
      refine Ev.step (fun k => by rw [depotref20_Few.l0]) (Ev.pos (by omega) ?_)
      exact Ev.step (fun k => by rw [depotref20_Few.j1]) (Ev.neg (by simp; omega) (Ev.some' rfl))
theorem fewS (l : List S28) (m n : Nat) (hl : l.length ≤ 9223372036854775807) (hok : ∀ x ∈ l, okS x) : ∃ b, Ev (fun k => depotref20_Few.f k l m n) b ∧ (b = true → l.length ≤ m ∧ ∀ x ∈ l, smallS n x) :=
  fewS_l0 l m n hl hok l.length 0 (by omega) (fun _ _ h => absurd h (Nat.not_lt_zero _))
theorem toList_eq {a b : ByteArray} (h : a.toList = b.toList) : a = b := by
  rw [← bOf_data a, ← bOf_data b] at h ⊢
  rw [toList_bOf, toList_bOf] at h
  rw [h]
def eqF (x y : S62) : Bool := x.f0.toList == y.f0.toList && x.f1.toList == y.f1.toList
def eqP (x y : S53) : Bool := x.f0.toList == y.f0.toList && (x.f1 == y.f1 && x.f2.toList == y.f2.toList)
theorem eqF_iff (x y : S62) : eqF x y = true ↔ x = y := by
  obtain ⟨x0, x1⟩ := x
  obtain ⟨y0, y1⟩ := y
  unfold eqF
  simp only [Bool.and_eq_true, beq_iff_eq]
  exact ⟨fun h => by rw [toList_eq h.1, toList_eq h.2], fun h => by injection h with h1 h2; exact ⟨by rw [h1], by rw [h2]⟩⟩
theorem eqP_iff (x y : S53) : eqP x y = true ↔ x = y := by
  obtain ⟨x0, x1, x2⟩ := x
  obtain ⟨y0, y1, y2⟩ := y
  unfold eqP
  simp only [Bool.and_eq_true, beq_iff_eq]
  exact ⟨fun h => by rw [toList_eq h.1, h.2.1, toList_eq h.2.2], fun h => by injection h with h1 h2 h3; exact ⟨by rw [h1], h2, by rw [h3]⟩⟩
def eqL {α : Type} (eq : α → α → Bool) : List α → List α → Bool
  | [], [] => true
  | x :: l, y :: m => eq x y && eqL eq l m
  | _, _ => false
theorem eqL_iff {α : Type} (eq : α → α → Bool) (h : ∀ x y, eq x y = true ↔ x = y) : ∀ a b : List α, eqL eq a b = true ↔ a = b
  | [], [] => by simp [eqL]
  | [], y :: m => by simp [eqL]
  | x :: l, [] => by simp [eqL]
  | x :: l, y :: m => by simp [eqL, h, eqL_iff eq h l m]
theorem eqL_len {α : Type} (eq : α → α → Bool) : ∀ a b : List α, a.length ≠ b.length → eqL eq a b = false
  | [], [], h => absurd rfl h
  | [], y :: m, _ => rfl
  | x :: l, [], _ => rfl
  | x :: l, y :: m, h => by
    rw [eqL, eqL_len eq l m (by simpa using h), Bool.and_false]
theorem eqL_drop {α : Type} (eq : α → α → Bool) (a b : List α) (i : Nat) (h1 : i < a.length) (h2 : i < b.length) : eqL eq (a.drop i) (b.drop i) = (eq a[i] b[i] && eqL eq (a.drop (i + 1)) (b.drop (i + 1))) := by
  rw [List.drop_eq_getElem_cons h1, List.drop_eq_getElem_cons h2, eqL]
theorem same09_l0 (a b : List S62) (hab : a.length = b.length) (hl : a.length ≤ 9223372036854775807) : ∀ (d i : Nat), d + i = a.length → Ev (fun k => depotref09_Equal.l0 k a b i) (eqL eqF (a.drop i) (b.drop i)) := by
  intro d
  induction d with
  | zero =>
    intro i hd
    rw [List.drop_of_length_le (by omega), List.drop_of_length_le (by omega)]
    refine Ev.step (fun k => by rw [depotref09_Equal.l0]) ?_
    exact Ev.neg (by omega) (Ev.some' rfl)
  | succ d ih =>
    intro i hd
    rw [eqL_drop eqF a b i (by omega) (by omega)]
    refine Ev.step (fun k => by rw [depotref09_Equal.l0, rdF_at a i (by omega), rdF_at b i (by omega)]) (Ev.pos (by omega) (Ev.pos (by omega) (Ev.pos (by omega) ?_)))
    by_cases c : eqF a[i] b[i] = true
    · refine Ev.neg ?_ ?_
      · unfold eqF at c
        simp only [Bool.and_eq_true] at c
        rw [c.1, c.2]; simp
      · rw [c, Bool.true_and, wrap_nat i a.length (by omega) hl]
        exact ih (i + 1) (by omega)
    · refine Ev.pos ?_ ?_
      · unfold eqF at c
        revert c
        cases (a[i].f0.toList == b[i].f0.toList) <;> cases (a[i].f1.toList == b[i].f1.toList) <;> simp
      · rw [Bool.not_eq_true] at c
        rw [c, Bool.false_and]
        exact Ev.some' rfl
theorem same09 (a b : List S62) (hl : a.length ≤ 9223372036854775807) : Ev (fun k => depotref09_Equal.f k a b) (eqL eqF a b) := by
  unfold depotref09_Equal.f
  by_cases hab : a.length = b.length
  · exact Ev.pos (by omega) (same09_l0 a b hab hl a.length 0 (by omega))
  · rw [eqL_len eqF a b hab]
    exact Ev.neg (by omega) (Ev.some' rfl)
theorem same15_l0 (a b : List S53) (hab : a.length = b.length) (hl : a.length ≤ 9223372036854775807) : ∀ (d i : Nat), d + i = a.length → Ev (fun k => depotref15_Same.l0 k a b i) (eqL eqP (a.drop i) (b.drop i)) := by
  intro d
  induction d with
  | zero =>
    intro i hd
    rw [List.drop_of_length_le (by omega), List.drop_of_length_le (by omega)]
    refine Ev.step (fun k => by rw [depotref15_Same.l0]) ?_
    exact Ev.neg (by omega) (Ev.some' rfl)
  | succ d ih =>
    intro i hd
    rw [eqL_drop eqP a b i (by omega) (by omega)]
    refine Ev.step (fun k => by rw [depotref15_Same.l0, rdP_at a i (by omega), rdP_at b i (by omega)]) (Ev.pos (by omega) (Ev.pos (by omega) (Ev.pos (by omega) ?_)))
    by_cases c : eqP a[i] b[i] = true
    · refine Ev.neg ?_ ?_
      · unfold eqP at c
        simp only [Bool.and_eq_true] at c
        rw [c.1, c.2.1, c.2.2]; simp
      · rw [c, Bool.true_and, wrap_nat i a.length (by omega) hl]
        exact ih (i + 1) (by omega)
    · refine Ev.pos ?_ ?_
      · unfold eqP at c
        revert c
        cases (a[i].f0.toList == b[i].f0.toList) <;> cases (a[i].f1 == b[i].f1) <;> cases (a[i].f2.toList == b[i].f2.toList) <;> simp
      · rw [Bool.not_eq_true] at c
        rw [c, Bool.false_and]
        exact Ev.some' rfl
theorem same15 (a b : List S53) (hl : a.length ≤ 9223372036854775807) : Ev (fun k => depotref15_Same.f k a b) (eqL eqP a b) := by
  unfold depotref15_Same.f
  by_cases hab : a.length = b.length
  · exact Ev.pos (by omega) (same15_l0 a b hab hl a.length 0 (by omega))
  · rw [eqL_len eqP a b hab]
    exact Ev.neg (by omega) (Ev.some' rfl)
def eqS (x y : S28) : Bool := decide (x.f1 = y.f1) && (decide (x.f0.f0 = y.f0.f0) && (decide (x.f0.f1.toList = y.f0.f1.toList) && (decide (x.f0.f2 = y.f0.f2) && (decide (x.f0.f4.toList = y.f0.f4.toList) && (eqL eqF x.f0.f3 y.f0.f3 && eqL eqP x.f2 y.f2)))))
theorem eqS_iff (x y : S28) : eqS x y = true ↔ x = y := by
  obtain ⟨⟨x0, x1, x2, x3, x4⟩, x5, x6⟩ := x
  obtain ⟨⟨y0, y1, y2, y3, y4⟩, y5, y6⟩ := y
  unfold eqS
  simp only [Bool.and_eq_true, decide_eq_true_eq, eqL_iff eqF eqF_iff, eqL_iff eqP eqP_iff]
  constructor
  · rintro ⟨h5, h0, h1, h2, h4, h3, h6⟩
    rw [h5, h0, toList_eq h1, h2, toList_eq h4, h3, h6]
  · intro h
    injection h with h h5 h6
    injection h with h0 h1 h2 h3 h4
    exact ⟨h5, h0, by rw [h1], h2, by rw [h4], h3, h6⟩
theorem ref_One (x y : S28) (hx : okS x) : Ev (fun k => depotref20_One.f k x.f0.f0 x.f0.f1 x.f0.f2 x.f0.f3 x.f0.f4 x.f1 x.f2 y.f0.f0 y.f0.f1 y.f0.f2 y.f0.f3 y.f0.f4 y.f1 y.f2) (eqS x y) := by
  unfold depotref20_One.f depotref12_SameReply.f eqS
  by_cases h5 : x.f1 = y.f1
  · refine Ev.pos h5 ?_
    rw [decide_eq_true h5, Bool.true_and]
    by_cases h0 : x.f0.f0 = y.f0.f0
    · rw [decide_eq_true h0, Bool.true_and]
      by_cases h1 : x.f0.f1.toList = y.f0.f1.toList
      · rw [decide_eq_true h1, Bool.true_and]
        by_cases h2 : x.f0.f2 = y.f0.f2
        · rw [decide_eq_true h2, Bool.true_and]
          by_cases h4 : x.f0.f4.toList = y.f0.f4.toList
          · rw [decide_eq_true h4, Bool.true_and]
            refine Ev.bind (Ev.pos h0 (Ev.pos h1 (Ev.pos h2 (Ev.pos h4 (Ev.bind (same09 _ _ hx.1) (Ev.some' rfl)))))) ?_
            cases eqL eqF x.f0.f3 y.f0.f3
            · exact Ev.neg (by simp) (Ev.some' rfl)
            · exact Ev.pos rfl (Ev.bind (same15 _ _ hx.2) (Ev.some' rfl))
          · rw [decide_eq_false h4, Bool.false_and]
            exact Ev.bind (Ev.pos h0 (Ev.pos h1 (Ev.pos h2 (Ev.neg h4 (Ev.some' rfl))))) (Ev.neg (by simp) (Ev.some' rfl))
        · rw [decide_eq_false h2, Bool.false_and]
          exact Ev.bind (Ev.pos h0 (Ev.pos h1 (Ev.neg h2 (Ev.some' rfl)))) (Ev.neg (by simp) (Ev.some' rfl))
      · rw [decide_eq_false h1, Bool.false_and]
        exact Ev.bind (Ev.pos h0 (Ev.neg h1 (Ev.some' rfl))) (Ev.neg (by simp) (Ev.some' rfl))
    · rw [decide_eq_false h0, Bool.false_and]
      exact Ev.bind (Ev.neg h0 (Ev.some' rfl)) (Ev.neg (by simp) (Ev.some' rfl))
  · rw [decide_eq_false h5, Bool.false_and]
    exact Ev.neg h5 (Ev.some' rfl)
end Go.Proofs.YtdiefodncfnfeaaDoor.Pu
namespace Go.Proofs.YtdiefodncfnfeaaDoor.Pu
open Go.RowKit Go.Proofs.YtdiefodncfnfeaaDoorW.PrintWords Go.Proofs.YtdiefodncfnfeaaDoorW.PrintLast Go.Proofs.YtdiefodncfnfeaaDoor.PR
set_option linter.unusedVariables false
set_option linter.unusedSimpArgs false
theorem variants_60 : depotlaw20_variants.f 60 = some true := by kernel_rfl
theorem variants_true : Ev (fun k => depotlaw20_variants.f k) true := Ev.of depotlaw20_variants.mono variants_60
theorem variants_end : Ev (fun k => (depotlaw20_variants.f k).bind fun t => some t) true := Ev.bind variants_true (Ev.some' rfl)
end Go.Proofs.YtdiefodncfnfeaaDoor.Pu
namespace Go.Proofs.YtdiefodncfnfeaaDoor.Pu
set_option linter.unusedVariables false
set_option linter.unusedSimpArgs false
def repAll (old new : List UInt8) (s : List UInt8) : List UInt8 := Lib.replaceK old new (Lib.count s old) s
theorem repAll_nil (old new : List UInt8) (h : old ≠ []) : repAll old new [] = [] := by
  have hi : Lib.index [] old = -1 := by
    unfold Lib.index
    cases old with
    | nil => exact absurd rfl h
    | cons a l => rfl
  unfold repAll
  rw [Lib.count_miss hi]
  rfl
theorem repAll_hit (old new s : List UInt8) (h : old ≠ []) (c : UInt8) (t : List UInt8) (hs : s = c :: t) (hp : old.isPrefixOf s = true) : repAll old new s = new ++ repAll old new (s.drop old.length) := by
  have hi : Lib.index s old = ((0 : Nat) : Int) := by
    subst hs
    unfold Lib.index
    rw [if_pos hp]; rfl
  have hc := Lib.count_hit h hi
  rw [Nat.zero_add] at hc
  unfold repAll
  rw [hc, Nat.add_comm, Lib.replaceK_hit old new _ s 0 hi, Nat.zero_add, List.take_zero, List.nil_append]
theorem repAll_miss (old new : List UInt8) (h : old ≠ []) (c : UInt8) (t : List UInt8) (hp : old.isPrefixOf (c :: t) = false) : repAll old new (c :: t) = c :: repAll old new t := by
  have hi : Lib.index (c :: t) old = if Lib.index t old == -1 then -1 else Lib.index t old + 1 := by
    rw [Lib.index, if_neg (by rw [hp]; decide)]
  have hge := Lib.index_ge t old
  by_cases hm : Lib.index t old = -1
  · rw [hm] at hi
    have hi' : Lib.index (c :: t) old = -1 := hi
    unfold repAll
    rw [Lib.count_miss hi', Lib.count_miss hm]
    rfl
  · rw [if_neg (by simpa using hm)] at hi
    obtain ⟨i, hn⟩ : ∃ i : Nat, Lib.index t old = i := ⟨(Lib.index t old).toNat, by omega⟩
    have hi' : Lib.index (c :: t) old = ((i + 1 : Nat) : Int) := by rw [hi, hn]; rfl
    have hc := Lib.count_hit h hn
    have hc' := Lib.count_hit h hi'
    rw [show (c :: t).drop (i + 1 + old.length) = t.drop (i + old.length) by rw [show i + 1 + old.length = (i + old.length) + 1 by omega, List.drop_succ_cons]] at hc'
    unfold repAll
    rw [hc, hc', Nat.add_comm, Lib.replaceK_hit old new _ _ (i + 1) hi', Lib.replaceK_hit old new _ _ i hn, List.take_succ_cons, show (c :: t).drop (i + 1 + old.length) = t.drop (i + old.length) by rw [show i + 1 + old.length = (i + old.length) + 1 by omega, List.drop_succ_cons]]
    rfl
theorem replaceAll_eq (s old new : List UInt8) (h : (old == new) = false) : Lib.replaceAll s old new = repAll old new s := by
  unfold Lib.replaceAll Lib.replace repAll
  rw [if_neg (by rw [h]; decide)]
  unfold Lib.replaceNum
  rw [if_pos (.inl (by decide))]
def tabs (l : List UInt8) : List UInt8 := l.map fun c => if c = 9 then 32 else c
theorem rep_tab : ∀ l : List UInt8, repAll [9] [32] l = tabs l
  | [] => repAll_nil _ _ (by decide)
  | c :: l => by
    by_cases h : c = 9
    · subst h
      rw [repAll_hit [9] [32] (9 :: l) (by decide) 9 l rfl (by simp [List.isPrefixOf])]
      show 32 :: repAll [9] [32] l = _
      rw [rep_tab l]
      rfl
    · rw [repAll_miss [9] [32] (by decide) c l (by simp only [List.isPrefixOf, Bool.and_true, beq_eq_false_iff_ne]; exact fun e => h e.symm), rep_tab l]
      unfold tabs
      rw [List.map_cons, if_neg h]
def rep2 : List UInt8 → List UInt8
  | [] => []
  | [c] => [c]
  | c :: d :: l => if c = 32 ∧ d = 32 then 32 :: rep2 l else c :: rep2 (d :: l)
theorem pre2_no (c : UInt8) (l : List UInt8) (h : ∀ d t, l = d :: t → ¬ (c = 32 ∧ d = 32)) : [32, 32].isPrefixOf (c :: l) = false := by
  cases l with
  | nil => simp [List.isPrefixOf]
  | cons d t =>
    have := h d t rfl
    simp only [List.isPrefixOf, Bool.and_true]
    by_cases h1 : c = 32
    · have h2 : d ≠ 32 := fun e => this ⟨h1, e⟩
      rw [show ((32 : UInt8) == d) = false from beq_eq_false_iff_ne.2 (fun e => h2 e.symm), Bool.and_false]
    · rw [show ((32 : UInt8) == c) = false from beq_eq_false_iff_ne.2 (fun e => h1 e.symm), Bool.false_and]
theorem rep_two : ∀ (n : Nat) (l : List UInt8), l.length ≤ n → repAll [32, 32] [32] l = rep2 l
  | _, [], _ => by rw [repAll_nil _ _ (by decide)]; rfl
  | _, [c], _ => by
    rw [repAll_miss _ _ (by decide) c [] (pre2_no c [] (fun d t h => by cases h)), repAll_nil _ _ (by decide)]
    rfl
  | 0, c :: d :: l, h => by simp at h
  | n + 1, c :: d :: l, h => by
    unfold rep2
    by_cases hc : c = 32 ∧ d = 32
    · rw [if_pos hc]
      obtain ⟨rfl, rfl⟩ := hc
      rw [repAll_hit [32, 32] [32] (32 :: 32 :: l) (by decide) 32 (32 :: l) rfl (by simp [List.isPrefixOf])]
      show 32 :: repAll [32, 32] [32] l = _
      rw [rep_two n l (by simp at h; omega)]
    · rw [if_neg hc, repAll_miss _ _ (by decide) c (d :: l) (pre2_no c (d :: l) (fun e t he => by injection he with h1 h2; subst h1; exact hc)), rep_two n (d :: l) (by simp at h ⊢; omega)]
def col : Bool → List UInt8 → List UInt8
  | _, [] => []
  | p, c :: l => if c = 32 then (if p = true then col true l else 32 :: col true l) else c :: col false l
theorem col_rep2 : ∀ (n : Nat) (l : List UInt8) (p : Bool), l.length ≤ n → col p (rep2 l) = col p l
  | _, [], _, _ => rfl
  | _, [c], _, _ => rfl
  | 0, c :: d :: l, _, h => by simp at h
  | n + 1, c :: d :: l, p, h => by
    have h1 := fun q => col_rep2 n l q (by simp at h; omega)
    have h2 := fun q => col_rep2 n (d :: l) q (by simp at h ⊢; omega)
    unfold rep2
    by_cases hc : c = 32 ∧ d = 32
    · rw [if_pos hc]
      obtain ⟨rfl, rfl⟩ := hc
      simp only [col, if_true, h1]
    · rw [if_neg hc]
      rw [col, h2 true, h2 false, ← col]
theorem rep2_le : ∀ (n : Nat) (l : List UInt8), l.length ≤ n → (rep2 l).length ≤ l.length ∧ (Lib.index l [32, 32] ≠ -1 → (rep2 l).length < l.length)
  | _, [], _ => ⟨Nat.le_refl _, fun h => absurd (by decide) h⟩
  | _, [c], _ => ⟨Nat.le_refl _, fun h => absurd (by
      rw [Lib.index, if_neg (by rw [pre2_no c [] (fun d t h => by cases h)]; decide)]
      rfl) h⟩
  | 0, c :: d :: l, h => by simp at h
  | n + 1, c :: d :: l, h => by
    have h1 := rep2_le n l (by simp at h; omega)
    have h2 := rep2_le n (d :: l) (by simp at h ⊢; omega)
    unfold rep2
    by_cases hc : c = 32 ∧ d = 32
    · rw [if_pos hc]
      have := h1.1
      exact ⟨by simp; omega, fun _ => by simp; omega⟩
    · rw [if_neg hc]
      refine ⟨by have := h2.1; simp at this ⊢; omega, fun hi => ?_⟩
      have hi2 : Lib.index (d :: l) [32, 32] ≠ -1 := by
        intro e
        apply hi
        rw [Lib.index, if_neg (by rw [pre2_no c (d :: l) (fun x t he => by injection he with h1 h2; subst h1; exact hc)]; decide), e]
        rfl
      have := h2.2 hi2
      simp at this ⊢; omega
theorem col_none : ∀ l : List UInt8, Lib.index l [32, 32] = -1 → col false l = l ∧ ((∀ t, l ≠ 32 :: t) → col true l = l)
  | [], _ => ⟨rfl, fun _ => rfl⟩
  | c :: l, h => by
    have hp : [32, 32].isPrefixOf (c :: l) = false := by
      cases hq : [32, 32].isPrefixOf (c :: l) with
      | false => rfl
      | true => rw [Lib.index, if_pos hq] at h; exact absurd h (by decide)
    have hl : Lib.index l [32, 32] = -1 := by
      rw [Lib.index, if_neg (by rw [hp]; decide)] at h
      have hge := Lib.index_ge l [32, 32]
      by_cases e : Lib.index l [32, 32] = -1
      · exact e
      · rw [if_neg (by simpa using e)] at h
        omega
    obtain ⟨h1, h2⟩ := col_none l hl
    by_cases hc : c = 32
    · subst hc
      have hn : ∀ t, l ≠ 32 :: t := by
        rintro t rfl
        simp [List.isPrefixOf] at hp
      refine ⟨?_, fun hn' => absurd rfl (hn' l)⟩
      rw [col, if_pos rfl, if_neg (by decide), h2 hn]
    · refine ⟨?_, fun _ => ?_⟩ <;> rw [col, if_neg hc, h1]
def isW (c : UInt8) : Bool := c == 32 || c == 9
def sing : Bool → List UInt8 → List UInt8
  | _, [] => []
  | p, c :: l => if isW c = true then (if p = true then sing true l else 32 :: sing true l) else c :: sing false l
theorem col_tabs : ∀ (l : List UInt8) (p : Bool), col p (tabs l) = sing p l
  | [], _ => rfl
  | c :: l, p => by
    have h1 := fun q => col_tabs l q
    show col p ((if c = 9 then 32 else c) :: tabs l) = _
    rw [col, sing, h1, h1]
    by_cases h9 : c = 9
    · subst h9; rfl
    · rw [if_neg h9]
      by_cases h32 : c = 32
      · subst h32; rfl
      · rw [if_neg h32, if_neg (by unfold isW; simp [h32, h9])]
theorem sing_le : ∀ (l : List UInt8) (p : Bool), (sing p l).length ≤ l.length
  | [], _ => Nat.le_refl _
  | c :: l, p => by
    have h1 := fun q => sing_le l q
    rw [sing]
    split
    · split
      · have := h1 true; simp; omega
      · have := h1 true; simp; omega
    · have := h1 false; simp; omega
theorem tabs_len (l : List UInt8) : (tabs l).length = l.length := List.length_map _
end Go.Proofs.YtdiefodncfnfeaaDoor.Pu
namespace Go.Proofs.YtdiefodncfnfeaaDoor.Pu
open Go.RowKit Go.Proofs.YtdiefodncfnfeaaDoorW.PrintWords Go.Proofs.YtdiefodncfnfeaaDoorW.PrintLast Go.Proofs.YtdiefodncfnfeaaDoor.PR
set_option linter.unusedVariables false
set_option linter.unusedSimpArgs false
theorem prog_rep (l o nw : List UInt8) (ho : 1 ≤ o.length) (hn : nw.length = 1) (hon : (o == nw) = false) (h : l.length ≤ 4000000000) : strings_ReplaceAll.f (bOf l) (bOf o) (bOf nw) = some (bOf (repAll o nw l)) := by
  have hc := Lib.countB_le (bOf o) (by rw [bOf_size]; exact ho) l.length (bOf l) (by rw [bOf_size]; exact Nat.le_refl _)
  rw [bOf_size] at hc
  unfold strings_ReplaceAll.f
  rw [if_pos ⟨by rw [bOf_size]; omega, by rw [bOf_size]; exact ho, by rw [bOf_size, bOf_size, hn, Nat.mul_one]; omega⟩]
  simp only [data_bOf]
  rw [replaceAll_eq l o nw hon]
  rfl
theorem prog_contains (l o : List UInt8) (h : l.length ≤ 4000000000) : strings_Contains.f (bOf l) (bOf o) = some (decide (Lib.index l o ≥ 0)) := by
  unfold strings_Contains.f strings_Index.f
  rw [if_pos (by rw [bOf_size]; omega)]
  rfl
theorem single_l0 : ∀ (n : Nat) (l : List UInt8), l.length ≤ n → l.length ≤ 4000000000 → Ev (fun k => vary_single.l0 k (bOf l)) (bOf (col false l)) := by
  intro n
  induction n with
  | zero =>
    intro l hn hb
    have hl : l = [] := List.eq_nil_of_length_eq_zero (by omega)
    subst hl
    refine Ev.step (fun k => by rw [vary_single.l0]) ?_
    exact Ev.sbind (prog_contains [] [32, 32] hb) (Ev.neg (by decide) (Ev.some' rfl))
  | succ n ih =>
    intro l hn hb
    refine Ev.step (fun k => by rw [vary_single.l0]) ?_
    refine Ev.sbind (prog_contains l [32, 32] hb) ?_
    have hge := Lib.index_ge l [32, 32]
    by_cases hi : Lib.index l [32, 32] = -1
    · refine Ev.neg (by rw [hi]; decide) (Ev.some' ?_)
      rw [(col_none l hi).1]
    · have hle := rep2_le l.length l (Nat.le_refl _)
      have hlt := hle.2 hi
      refine Ev.pos (decide_eq_true (by omega)) (Ev.sbind (prog_rep l [32, 32] [32] (by decide) rfl (by decide) hb) ?_)
      rw [rep_two l.length l (Nat.le_refl _)]
      have := ih (rep2 l) (by omega) (by omega)
      rw [col_rep2 l.length l false (Nat.le_refl _)] at this
      exact this
def singS (s : ByteArray) : ByteArray := bOf (sing false s.data.toList)
theorem prog_single (s : ByteArray) (h : s.size ≤ 4000000000) : Ev (fun k => vary_single.f k s) (singS s) := by
  obtain ⟨l, rfl, hl⟩ := ex_bOf s
  unfold vary_single.f singS
  rw [data_bOf, ← col_tabs l false]
  rw [bOf_size] at h
  refine Ev.sbind ((prog_rep l [9] [32] (by decide) rfl (by decide) h).trans (by rw [rep_tab])) ?_
  exact single_l0 _ (tabs l) (Nat.le_refl _) (by rw [tabs_len]; exact h)
theorem singS_size (s : ByteArray) : (singS s).size ≤ s.size := by
  unfold singS
  rw [bOf_size, ← size_data]
  exact sing_le _ _
def sameN (a b : ByteArray) : Bool := (Hand.lowerS a).toList == (Hand.lowerS b).toList
theorem prog_Same (a b : ByteArray) (ha : a.size ≤ 9223372036854775807) (hb : b.size ≤ 9223372036854775807) : octet_Same.f a b = some (sameN a b) := by
  unfold octet_Same.f octet_Lower.f
  by_cases h : a.size = b.size
  · rw [if_pos (by omega), if_pos ha, if_pos hb]; rfl
  · rw [if_neg (by omega)]
    congr 1
    cases hs : sameN a b with
    | false => rfl
    | true =>
      have := congrArg ByteArray.size (toList_eq (beq_iff_eq.1 hs))
      rw [Hand.lowerS_size, Hand.lowerS_size] at this
      exact absurd this h
def allS (name : ByteArray) (l : List S62) : List ByteArray := (l.filter fun x => sameN x.f0 name).map (·.f1)
theorem prog_All (l : List S62) (name : ByteArray) (n : Nat) (hn : n ≤ 1000000) (hl : l.length < 1000000) (hs : ∀ x ∈ l, smallF n x) (h2 : name.size ≤ n) : fields_All.f l name = some (allS name l) := by
  have h1 : ∀ x ∈ l, octet_Same.f x.f0 name = some (sameN x.f0 name) := fun x hx => prog_Same _ _ (by have := (hs x hx).1; omega) (by omega)
  unfold fields_All.f
  rw [if_pos ⟨hl, fun x hx => by rw [h1 x hx]; rfl⟩]
  unfold allS
  congr 2
  apply List.filter_congr
  intro x hx
  unfold fields_is
  rw [h1 x hx]
  cases sameN x.f0 name <;> rfl
theorem allS_small (name : ByteArray) (l : List S62) (n : Nat) (hs : ∀ x ∈ l, smallF n x) : (allS name l).length ≤ l.length ∧ ∀ s ∈ allS name l, s.size ≤ n := by
  unfold allS
  refine ⟨by rw [List.length_map]; exact List.length_filter_le _ _, fun s h => ?_⟩
  obtain ⟨x, hx, rfl⟩ := List.mem_map.1 h
  exact (hs x (List.mem_filter.1 hx).1).2
def joinS (l : List ByteArray) : ByteArray := bOf (Lib.join (l.map (·.data.toList)) [44, 32])
theorem lens_le (n : Nat) : ∀ l : List (List UInt8), (∀ x ∈ l, x.length ≤ n) → Lib.lens l ≤ l.length * n
  | [], _ => Nat.zero_le _
  | x :: l, h => by
    have h1 := lens_le n l (fun y hy => h y (List.mem_cons_of_mem _ hy))
    have h2 := h x List.mem_cons_self
    have e : Lib.lens (x :: l) = x.length + Lib.lens l := by simp [Lib.lens]
    rw [e, List.length_cons, Nat.succ_mul]
    omega
theorem join_len (n : Nat) (sep : List UInt8) (l : List (List UInt8)) (h : ∀ x ∈ l, x.length ≤ n) : (Lib.join l sep).length ≤ l.length * n + sep.length * l.length := by
  cases l with
  | nil => simp [Lib.join_nil]
  | cons x r =>
    rw [Lib.join_length]
    have h1 := lens_le n (x :: r) h
    have h2 : sep.length * r.length ≤ sep.length * (x :: r).length := Nat.mul_le_mul_left _ (by simp)
    omega
theorem prog_Join (l : List ByteArray) (hl : l.length ≤ 1000000) (hs : ∀ x ∈ l, x.size ≤ 1000000) : items_Join.f l = some (joinS l) := by
  have h := join_len 1000000 [44, 32] (l.map (·.data.toList)) (fun x hx => by obtain ⟨s, h1, rfl⟩ := List.mem_map.1 hx; have := hs s h1; rw [size_data]; exact this)
  rw [List.length_map] at h
  have h3 : ([44, 32] : List UInt8).length = 2 := rfl
  rw [h3] at h
  unfold items_Join.f strings_Join.f
  rw [if_pos ⟨by omega, by show (Lib.join (l.map (·.data.toList)) [44, 32]).length ≤ _; omega⟩]
  rfl
def pickS (f : List S62) (name : ByteArray) : S53 := ⟨name, decide (0 < (allS name f).length), joinS ((allS name f).map singS)⟩
def okF (f : List S62) : Prop := f.length ≤ 1000 ∧ ∀ x ∈ f, smallF 1000 x
theorem pick_map_ev : ∀ l : List ByteArray, (∀ x ∈ l, x.size ≤ 1000) → Ev (fun k => pick_map k l) (l.map singS)
  | [], _ => Ev.some' rfl
  | x :: l, h => Ev.bind (prog_single x (by have := h x List.mem_cons_self; omega)) (Ev.bind (pick_map_ev l (fun y hy => h y (List.mem_cons_of_mem _ hy))) (Ev.some' rfl))
theorem mapS_small (l : List ByteArray) (h : ∀ x ∈ l, x.size ≤ 1000) : ∀ x ∈ l.map singS, x.size ≤ 1000 := fun x hx => by
  obtain ⟨s, h1, rfl⟩ := List.mem_map.1 hx
  exact Nat.le_trans (singS_size s) (h s h1)
theorem prog_pick (f : List S62) (name : ByteArray) (hf : okF f) (hn : name.size ≤ 1000) : Ev (fun k => vary_pick.f k name f) ((pickS f name).f0, (pickS f name).f1, (pickS f name).f2) := by
  have hs := allS_small name f 1000 hf.2
  have hm := mapS_small _ hs.2
  have := hf.1
  unfold vary_pick.f
  refine Ev.sbind (prog_All f name 1000 (by decide) (by omega) hf.2 hn) (Ev.bind (pick_map_ev _ hs.2) ?_)
  exact Ev.sbind (prog_Join _ (by rw [List.length_map]; omega) (fun x hx => by have := hm x hx; omega)) (Ev.some' rfl)
def matchS (f : List S62) (p : List S53) : Bool := p.all fun x => eqP (pickS f x.f0) x
def okP (p : List S53) : Prop := p.length ≤ 1000 ∧ ∀ x ∈ p, x.f0.size ≤ 1000
theorem prog_match_l0 (f : List S62) (p : List S53) (hf : okF f) (hp : okP p) : ∀ (d i : Nat), d + i = p.length → Ev (fun k => vary_Match.l0 k f p p.length i) (matchS f (p.drop i)) := by
  intro d
  induction d with
  | zero =>
    intro i hd
    rw [List.drop_of_length_le (by omega)]
    refine Ev.step (fun k => by rw [vary_Match.l0]) ?_
    exact Ev.neg (by omega) (Ev.some' rfl)
  | succ d ih =>
    intro i hd
    have hlt : i < p.length := by omega
    have := hp.1
    rw [List.drop_eq_getElem_cons hlt]
    show Ev _ (eqP (pickS f p[i].f0) p[i] && matchS f (p.drop (i + 1)))
    refine Ev.step (fun k => by rw [vary_Match.l0, rdP_at p i hlt, wrap_nat i p.length hlt (by omega)]) (Ev.pos (by omega) (Ev.pos (by omega) (Ev.pos (by omega) ?_)))
    refine Ev.bind (prog_pick f p[i].f0 hf (hp.2 _ (List.getElem_mem hlt))) ?_
    by_cases c : eqP (pickS f p[i].f0) p[i] = true
    · rw [c, Bool.true_and]
      refine Ev.neg ?_ (ih (i + 1) (by omega))
      unfold eqP at c
      simp only [Bool.and_eq_true] at c
      rw [c.1, c.2.1, c.2.2]; simp
    · rw [Bool.not_eq_true] at c
      rw [c, Bool.false_and]
      refine Ev.pos ?_ (Ev.some' rfl)
      unfold eqP at c
      revert c
      cases ((pickS f p[i].f0).f0.toList == p[i].f0.toList) <;> cases ((pickS f p[i].f0).f1 == p[i].f1) <;> cases ((pickS f p[i].f0).f2.toList == p[i].f2.toList) <;> simp
theorem prog_Match (f : List S62) (p : List S53) (hf : okF f) (hp : okP p) : Ev (fun k => vary_Match.f k p f) (matchS f p) := prog_match_l0 f p hf hp p.length 0 (by omega)
def findS (f : List S62) : Int → List S28 → Int
  | _, [] => -1
  | i, x :: l => if matchS f x.f2 = true then i else findS f (i + 1) l
theorem prog_findP (f : List S62) (hf : okF f) : ∀ (l : List S28) (i : Int), (∀ x ∈ l, okP x.f2) → Ev (fun k => findP k f i l) (findS f i l)
  | [], i, _ => Ev.some' rfl
  | x :: l, i, h => by
    show Ev (fun k => (vary_Match.f k x.f2 f).bind fun t => if t = true then some i else findP k f (i + 1) l) (if matchS f x.f2 = true then i else findS f (i + 1) l)
    refine Ev.bind (prog_Match f x.f2 hf (h x List.mem_cons_self)) ?_
    by_cases c : matchS f x.f2 = true
    · rw [if_pos c]; exact Ev.pos c (Ev.some' rfl)
    · rw [if_neg c]; exact Ev.neg c (prog_findP f hf l (i + 1) (fun y hy => h y (List.mem_cons_of_mem _ hy)))
theorem prog_Find (f : List S62) (l : List S28) (hf : okF f) (hl : l.length ≤ 1000) (h : ∀ x ∈ l, okP x.f2) : Ev (fun k => variant_Find.f k l f) (findS f 0 l) := by
  unfold variant_Find.f
  exact Ev.pos (by omega) (prog_findP f hf l 0 h)
end Go.Proofs.YtdiefodncfnfeaaDoor.Pu
namespace Go.Proofs.YtdiefodncfnfeaaDoor.Pu
open Go.RowKit Go.Proofs.YtdiefodncfnfeaaDoorW.PrintWords Go.Proofs.YtdiefodncfnfeaaDoorW.PrintLast Go.Proofs.YtdiefodncfnfeaaDoor.PR
set_option linter.unusedVariables false
set_option linter.unusedSimpArgs false
theorem vsame_l0 (a b : List S53) (hab : a.length = b.length) (hl : a.length ≤ 9223372036854775807) : ∀ (d i : Nat), d + i = a.length → Ev (fun k => api_Pick.l0 k a b a.length i) (eqL eqP (a.drop i) (b.drop i)) := by
  intro d
  induction d with
  | zero =>
    intro i hd
    rw [List.drop_of_length_le (by omega), List.drop_of_length_le (by omega)]
    refine Ev.step (fun k => by rw [api_Pick.l0]) ?_
    exact Ev.neg (by omega) (Ev.some' rfl)
  | succ d ih =>
    intro i hd
    rw [eqL_drop eqP a b i (by omega) (by omega)]
    refine Ev.step (fun k => by rw [api_Pick.l0, rdP_at a i (by omega), rdP_at b i (by omega)]) (Ev.pos (by omega) (Ev.pos (by omega) (Ev.pos (by omega) (Ev.pos (by omega) ?_))))
    by_cases c : eqP a[i] b[i] = true
    · refine Ev.neg ?_ ?_
      · unfold eqP at c
        simp only [Bool.and_eq_true] at c
        rw [c.1, c.2.1, c.2.2]; simp
      · rw [c, Bool.true_and, wrap_nat i a.length (by omega) hl]
        exact ih (i + 1) (by omega)
    · refine Ev.pos ?_ ?_
      · unfold eqP at c
        revert c
        cases (a[i].f0.toList == b[i].f0.toList) <;> cases (a[i].f1 == b[i].f1) <;> cases (a[i].f2.toList == b[i].f2.toList) <;> simp
      · rw [Bool.not_eq_true] at c
        rw [c, Bool.false_and]
        exact Ev.some' rfl
theorem prog_PSame (a b : List S53) (hl : a.length ≤ 9223372036854775807) : Ev (fun k => vary_Same.f k a b) (eqL eqP a b) := by
  unfold vary_Same.f api_Pick.f
  by_cases hab : a.length = b.length
  · exact Ev.bind (Ev.pos (by omega) (vsame_l0 a b hab hl a.length 0 (by omega))) (Ev.some' rfl)
  · rw [eqL_len eqP a b hab]
    exact Ev.bind (Ev.neg (by omega) (Ev.some' rfl)) (Ev.some' rfl)
def addS (s : S28) : List S28 → List S28 → List S28
  | out, [] => out
  | out, x :: l => if out.length < 4 then (if eqL eqP x.f2 s.f2 = true then addS s out l else addS s (out ++ [x]) l) else addS s out l
theorem addS_len (s : S28) : ∀ (l out : List S28), out.length ≤ 4 → (addS s out l).length ≤ 4
  | [], _, h => h
  | x :: l, out, h => by
    rw [addS]
    split
    · split
      · exact addS_len s l out h
      · exact addS_len s l _ (by simp; omega)
    · exact addS_len s l out h
theorem addS_mem (p : S28 → Prop) (s : S28) : ∀ (l out : List S28), (∀ x ∈ out, p x) → (∀ x ∈ l, p x) → ∀ x ∈ addS s out l, p x
  | [], _, h, _ => h
  | y :: l, out, h, h2 => by
    have h3 : ∀ x ∈ l, p x := fun x hx => h2 x (List.mem_cons_of_mem _ hx)
    rw [addS]
    split
    · split
      · exact addS_mem p s l out h h3
      · exact addS_mem p s l _ (fun x hx => (List.mem_append.1 hx).elim (h x) (fun hx => by rw [List.mem_singleton.1 hx]; exact h2 y List.mem_cons_self)) h3
    · exact addS_mem p s l out h h3
theorem padd_l0 (s : S28) (l : List S28) (hl : l.length ≤ 1000) (hok : ∀ x ∈ l, okS x) : ∀ (d i : Nat) (out : List S28), d + i = l.length → out.length ≤ 1000 + i → Ev (fun k => variant_Add.l0 k out l l.length i s.f0.f0 s.f0.f1 s.f0.f2 s.f0.f3 s.f0.f4 s.f1 s.f2) (addS s out (l.drop i)) := by
  intro d
  induction d with
  | zero =>
    intro i out hd ho
    rw [List.drop_of_length_le (by omega)]
    refine Ev.step (fun k => by rw [variant_Add.l0]) ?_
    exact Ev.neg (by omega) (Ev.some' rfl)
  | succ d ih =>
    intro i out hd ho
    have hlt : i < l.length := by omega
    rw [List.drop_eq_getElem_cons hlt, addS]
    refine Ev.step (fun k => by rw [variant_Add.l0, rdS_at l i hlt, wrap_nat i l.length hlt (by omega)]) (Ev.pos (by omega) (Ev.pos (by omega) (Ev.pos (by omega) ?_)))
    by_cases h4 : out.length < 4
    · rw [if_pos h4]
      refine Ev.pos (by omega) (Ev.bind (prog_PSame l[i].f2 s.f2 (hok _ (List.getElem_mem hlt)).2) ?_)
      by_cases c : eqL eqP l[i].f2 s.f2 = true
      · rw [if_pos c]; exact Ev.pos c (ih (i + 1) out (by omega) (by omega))
      · rw [if_neg c]; exact Ev.neg c (Ev.pos (by omega) (ih (i + 1) (out ++ [l[i]]) (by omega) (by simp; omega)))
    · rw [if_neg h4]
      exact Ev.neg (by omega) (ih (i + 1) out (by omega) (by omega))
theorem prog_Add (s : S28) (l : List S28) (hl : l.length ≤ 1000) (hok : ∀ x ∈ l, okS x) : Ev (fun k => variant_Add.f k l s.f0.f0 s.f0.f1 s.f0.f2 s.f0.f3 s.f0.f4 s.f1 s.f2) (addS s [s] l) := by
  unfold variant_Add.f
  exact padd_l0 s l hl hok l.length 0 [s] (by omega) (by simp)
theorem small_okP (x : S28) (h : smallS 300 x) : okP x.f2 := ⟨by have := h.2.2.2.1; omega, fun p hp => by have := (h.2.2.2.2 p hp).1; omega⟩
end Go.Proofs.YtdiefodncfnfeaaDoor.Pu
namespace Go.Proofs.YtdiefodncfnfeaaDoor.Pu
open Go.RowKit Go.Proofs.YtdiefodncfnfeaaDoorW.PrintWords Go.Proofs.YtdiefodncfnfeaaDoorW.PrintLast Go.Proofs.YtdiefodncfnfeaaDoor.PR
set_option linter.unusedVariables false
set_option linter.unusedSimpArgs false
theorem prog_picks_l0 (f : List S62) (names : List ByteArray) (hf : okF f) (hn : names.length ≤ 1000) (hs : ∀ x ∈ names, x.size ≤ 1000) : ∀ (d i : Nat) (out : List S53), d + i = names.length → out.length ≤ i → Ev (fun k => vary_Picks.l0 k f out names names.length i) (out ++ (names.drop i).map (pickS f)) := by
  intro d
  induction d with
  | zero =>
    intro i out hd ho
    rw [List.drop_of_length_le (by omega)]
    refine Ev.step (fun k => by rw [vary_Picks.l0]) ?_
    exact Ev.neg (by omega) (Ev.some' (by simp))
  | succ d ih =>
    intro i out hd ho
    have hlt : i < names.length := by omega
    have hrd : rdOf ByteArray.empty names (i : Int) = names[i] := by
      show names.getD (i : Int).toNat _ = _
      rw [Int.toNat_natCast, List.getD_eq_getElem?_getD, List.getElem?_eq_getElem hlt]; rfl
    rw [List.drop_eq_getElem_cons hlt, List.map_cons]
    refine Ev.step (fun k => by rw [vary_Picks.l0, hrd, wrap_nat i names.length hlt (by omega)]) (Ev.pos (by omega) (Ev.pos (by omega) (Ev.pos (by omega) ?_)))
    refine Ev.bind (prog_pick f names[i] hf (hs _ (List.getElem_mem hlt))) (Ev.pos (by omega) ?_)
    have := ih (i + 1) (out ++ [pickS f names[i]]) (by omega) (by simp; omega)
    rw [List.append_assoc] at this
    exact this
theorem prog_Picks (f : List S62) (names : List ByteArray) (hf : okF f) (hn : names.length ≤ 1000) (hs : ∀ x ∈ names, x.size ≤ 1000) : Ev (fun k => vary_Picks.f k names f) (names.map (pickS f)) :=
  prog_picks_l0 f names hf hn hs names.length 0 [] (by omega) (Nat.le_refl _)
def otherS (s : S28) (l : List S28) : List S28 := l.filter fun x => !eqL eqP x.f2 s.f2
theorem addS_take (s : S28) : ∀ (l out : List S28), addS s out l = out ++ (otherS s l).take (4 - out.length)
  | [], out => by simp [addS, otherS]
  | x :: l, out => by
    have h1 := addS_take s l out
    have h2 := addS_take s l (out ++ [x])
    rw [addS]
    unfold otherS at h1 h2 ⊢
    rw [List.filter_cons]
    by_cases h : out.length < 4
    · rw [if_pos h]
      by_cases c : eqL eqP x.f2 s.f2 = true
      · rw [if_pos c, h1, c]; rfl
      · rw [if_neg c, h2]
        rw [Bool.not_eq_true] at c
        rw [c, List.length_append, List.append_assoc, show 4 - out.length = (4 - (out.length + [x].length)) + 1 by simp; omega]
        rfl
    · rw [if_neg h, h1, show 4 - out.length = 0 by omega, List.take_zero, List.take_zero]
theorem findS_spec (f : List S62) : ∀ (l : List S28) (i : Int), (findS f i l = -1 ∧ ∀ x ∈ l, matchS f x.f2 ≠ true) ∨ ∃ a x c, l = a ++ x :: c ∧ (∀ y ∈ a, matchS f y.f2 ≠ true) ∧ matchS f x.f2 = true ∧ findS f i l = i + a.length
  | [], i => .inl ⟨rfl, fun x hx => absurd hx (by simp)⟩
  | x :: l, i => by
    rw [findS]
    by_cases c : matchS f x.f2 = true
    · rw [if_pos c]
      exact .inr ⟨[], x, l, rfl, fun y hy => absurd hy (by simp), c, by simp⟩
    · rw [if_neg c]
      rcases findS_spec f l (i + 1) with ⟨h1, h2⟩ | ⟨a, y, r, h1, h2, h3, h4⟩
      · exact .inl ⟨h1, fun y hy => (List.mem_cons.1 hy).elim (fun e => e ▸ c) (h2 y)⟩
      · refine .inr ⟨x :: a, y, r, by rw [h1]; rfl, fun z hz => (List.mem_cons.1 hz).elim (fun e => e ▸ c) (h2 z), h3, ?_⟩
        rw [h4, List.length_cons]; omega
theorem findS_none (f : List S62) : ∀ (l : List S28) (i : Int), (∀ x ∈ l, matchS f x.f2 ≠ true) → findS f i l = -1
  | [], i, _ => rfl
  | x :: l, i, h => by rw [findS, if_neg (h x List.mem_cons_self)]; exact findS_none f l _ (fun y hy => h y (List.mem_cons_of_mem _ hy))
theorem findS_at (f : List S62) (x : S28) (c : List S28) (hx : matchS f x.f2 = true) : ∀ (a : List S28) (i : Int), (∀ x ∈ a, matchS f x.f2 ≠ true) → findS f i (a ++ x :: c) = i + a.length
  | [], i, _ => by rw [List.nil_append, findS, if_pos hx]; simp
  | y :: a, i, h => by
    rw [List.cons_append, findS, if_neg (h y List.mem_cons_self), findS_at f x c hx a _ (fun y hy => h y (List.mem_cons_of_mem _ hy)), List.length_cons]
    omega
theorem other_ne (s : S28) (l : List S28) : ∀ x ∈ otherS s l, eqL eqP x.f2 s.f2 = false := fun x hx => by
  have := (List.mem_filter.1 hx).2
  cases h : eqL eqP x.f2 s.f2 with
  | false => rfl
  | true => rw [h] at this; exact absurd this (by decide)
theorem first_find (f : List S62) (s : S28) (l : List S28) (h : matchS f s.f2 ≠ true) :
    (findS f 0 l = -1 ∧ findS f 0 (addS s [s] l) = -1) ∨ (findS f 0 (addS s [s] l) = -1 ∧ findS f 0 l ≥ 3 ∧ (addS s [s] l).length = 4) ∨ ∃ (i j : Nat) (hi : i < l.length) (hj : j < (addS s [s] l).length), findS f 0 l = i ∧ findS f 0 (addS s [s] l) = j ∧ l[i] = (addS s [s] l)[j] := by
  have e : addS s [s] l = s :: (otherS s l).take 3 := addS_take s l [s]
  rcases findS_spec f l 0 with ⟨h1, h2⟩ | ⟨a, x, c, h1, h2, h3, h4⟩
  · refine .inl ⟨h1, ?_⟩
    rw [e]
    refine findS_none f _ 0 (fun y hy => ?_)
    rcases List.mem_cons.1 hy with rfl | hy
    · exact h
    · exact h2 y (List.mem_filter.1 (List.mem_of_mem_take hy)).1
  · have hx : (!eqL eqP x.f2 s.f2) = true := by
      cases q : eqL eqP x.f2 s.f2 with
      | false => rfl
      | true => rw [(eqL_iff eqP eqP_iff _ _).1 q] at h3; exact absurd h3 h
    have eo : otherS s l = otherS s a ++ x :: otherS s c := by
      unfold otherS
      rw [h1, List.filter_append, List.filter_cons, if_pos hx]
    have ha : ∀ y ∈ otherS s a, matchS f y.f2 ≠ true := fun y hy => h2 y (List.mem_filter.1 hy).1
    have hle : (otherS s a).length ≤ a.length := List.length_filter_le _ _
    rw [e, eo]
    by_cases c3 : (otherS s a).length < 3
    · refine .inr (.inr ⟨a.length, (otherS s a).length + 1, ?_, ?_, by rw [h4]; omega, ?_, ?_⟩)
      · rw [h1]; simp
      · simp; omega
      · rw [List.take_append, List.take_of_length_le (by omega), show 3 - (otherS s a).length = (2 - (otherS s a).length) + 1 by omega, List.take_succ_cons, ← List.cons_append]
        rw [findS_at f x _ h3 (s :: otherS s a) 0 (fun y hy => (List.mem_cons.1 hy).elim (fun e => e ▸ h) (ha y)), List.length_cons]
        omega
      · have e1 : l[a.length]? = some x := by rw [h1]; simp
        have e2 : (s :: (otherS s a ++ x :: otherS s c).take 3)[(otherS s a).length + 1]? = some x := by
          rw [List.getElem?_cons_succ, List.getElem?_take, if_pos c3]; simp
        have l1 : a.length < l.length := by rw [h1]; simp
        have l2 : (otherS s a).length + 1 < (s :: (otherS s a ++ x :: otherS s c).take 3).length := by simp; omega
        rw [List.getElem?_eq_getElem l1] at e1
        rw [List.getElem?_eq_getElem l2] at e2
        exact (Option.some.inj e1).trans (Option.some.inj e2).symm
    · refine .inr (.inl ⟨?_, by rw [h4]; omega, by simp; omega⟩)
      rw [List.take_append_of_le_length (by omega)]
      refine findS_none f _ 0 (fun y hy => ?_)
      rcases List.mem_cons.1 hy with rfl | hy
      · exact h
      · exact ha y (List.mem_of_mem_take hy)
theorem match_own (f : List S62) (names : List ByteArray) : matchS f (names.map (pickS f)) = true := by
  unfold matchS
  rw [List.all_eq_true]
  intro x hx
  obtain ⟨n, h1, rfl⟩ := List.mem_map.1 hx
  exact (eqP_iff _ _).2 rfl
theorem first_l1 (l : List S28) (o : List S62) (s : S28) (m : List S28) (hm : m = addS s [s] l) (hO : okF o) (hl : l.length ≤ 1000) (hok : ∀ x ∈ l, okS x) (hP : ∀ x ∈ l, okP x.f2) (hs : okS s) (hPs : okP s.f2) :
    ∀ (d i : Nat), d + i = m.length → 1 ≤ i → Ev (fun k => depotlaw20_VariantFirst.l1 k l o m i s.f0.f0 s.f0.f1 s.f0.f2 s.f0.f3 s.f0.f4 s.f1 s.f2) true := by
  have e : addS s [s] l = s :: (otherS s l).take 3 := addS_take s l [s]
  have hPm : ∀ x ∈ m, okP x.f2 := by rw [hm]; exact addS_mem (fun x => okP x.f2) s l [s] (fun x hx => by rw [List.mem_singleton.1 hx]; exact hPs) hP
  have hokm : ∀ x ∈ m, okS x := by rw [hm]; exact addS_mem okS s l [s] (fun x hx => by rw [List.mem_singleton.1 hx]; exact hs) hok
  have hlm : m.length ≤ 4 := by rw [hm]; exact addS_len s l [s] (by simp)
  intro d
  induction d with
  | zero =>
    intro i hd h1
    refine Ev.step (fun k => by rw [depotlaw20_VariantFirst.l1]) (Ev.neg (by omega) ?_)
    refine Ev.bind (prog_Match o s.f2 hO hPs) ?_
    by_cases c : matchS o s.f2 = true
    · refine Ev.pos c (Ev.bind (prog_Find o m hO (by omega) hPm) (Ev.pos ?_ variants_end))
      rw [hm, e, findS, if_pos c]
    · refine Ev.neg c (Ev.bind (prog_Find o l hO hl hP) (Ev.bind (prog_Find o m hO (by omega) hPm) ?_))
      have key := first_find o s l c
      rw [← hm] at key
      rcases key with ⟨ha, hb⟩ | ⟨hb, ha, h4⟩ | ⟨a, b, hi, hj, ha, hb, hab⟩
      · exact Ev.pos (by omega) (Ev.pos (by omega) variants_end)
      · exact Ev.pos (by omega) (Ev.neg (by omega) (Ev.pos (by omega) (Ev.pos ha variants_end)))
      · rw [ha, hb, rdS_at l a hi, rdS_at m b hj]
        refine Ev.neg (by omega) (Ev.pos (by omega) (Ev.pos (by omega) (Ev.pos (by omega) (Ev.pos (by omega) (Ev.pos (by omega) ?_)))))
        refine Ev.bind (ref_One l[a] m[b] (hok _ (List.getElem_mem hi))) (Ev.pos ((eqS_iff _ _).2 hab) variants_end)
  | succ d ih =>
    intro i hd h1
    have hlt : i < m.length := by omega
    refine Ev.step (fun k => by rw [depotlaw20_VariantFirst.l1, rdS_at m i hlt, wrap_nat i m.length hlt (by omega)]) (Ev.pos (by omega) (Ev.pos (by omega) ?_))
    refine Ev.bind (same15 m[i].f2 s.f2 (hokm _ (List.getElem_mem hlt)).2) (Ev.neg ?_ (ih (i + 1) (by omega) (by omega)))
    have hmem : m[i] ∈ otherS s l := by
      obtain ⟨j, rfl⟩ : ∃ j, i = j + 1 := ⟨i - 1, by omega⟩
      have e2 : m[j + 1]? = ((otherS s l).take 3)[j]? := by rw [hm, e]; rfl
      rw [List.getElem?_eq_getElem hlt] at e2
      exact List.mem_of_mem_take (List.mem_of_getElem? e2.symm)
    rw [other_ne s l _ hmem]; simp
theorem first_l0 (l : List S28) (f o : List S62) (s : S28) (hF : okF f) (hO : okF o) (hl : l.length ≤ 1000) (hok : ∀ x ∈ l, okS x) (hP : ∀ x ∈ l, okP x.f2) (hs : okS s) (hPs : okP s.f2) :
    ∀ (d i : Nat), d + i = s.f2.length → Ev (fun k => depotlaw20_VariantFirst.l0 k l f o ((s.f2.take i).map (·.f0)) i s.f0.f0 s.f0.f1 s.f0.f2 s.f0.f3 s.f0.f4 s.f1 s.f2) true := by
  have hsl := hPs.1
  intro d
  induction d with
  | zero =>
    intro i hd
    rw [List.take_of_length_le (by omega)]
    have hn : ∀ x ∈ s.f2.map (·.f0), x.size ≤ 1000 := fun x hx => by obtain ⟨q, h1, rfl⟩ := List.mem_map.1 hx; exact hPs.2 q h1
    have hnl : (s.f2.map (·.f0)).length ≤ 1000 := by rw [List.length_map]; omega
    obtain ⟨names, en⟩ : ∃ n, s.f2.map (·.f0) = n := ⟨_, rfl⟩
    rw [en] at hn hnl ⊢
    obtain ⟨t, et⟩ : ∃ t : S28, t = ⟨s.f0, s.f1, names.map (pickS f)⟩ := ⟨_, rfl⟩
    obtain ⟨m, em⟩ : ∃ m, m = addS t [t] l := ⟨_, rfl⟩
    have hPt : okP t.f2 := by
      rw [et]
      refine ⟨by show (names.map (pickS f)).length ≤ 1000; rw [List.length_map]; omega, fun x hx => ?_⟩
      obtain ⟨n, h1, rfl⟩ := List.mem_map.1 hx
      exact hn n h1
    have hst : okS t := ⟨by rw [et]; exact hs.1, by have := hPt.1; omega⟩
    have hmt : matchS f t.f2 = true := by rw [et]; exact match_own f names
    have e : addS t [t] l = t :: (otherS t l).take 3 := addS_take t l [t]
    have hPm : ∀ x ∈ m, okP x.f2 := by rw [em]; exact addS_mem (fun x => okP x.f2) t l [t] (fun x hx => by rw [List.mem_singleton.1 hx]; exact hPt) hP
    have hlm : m.length ≤ 4 := by rw [em]; exact addS_len t l [t] (by simp)
    have hl1 : 0 < m.length := by rw [em, e]; simp
    have h0 : m[0] = t := by
      have : m[0]? = some t := by rw [em, e]; rfl
      rw [List.getElem?_eq_getElem hl1] at this
      exact Option.some.inj this
    have hw := first_l1 l o t m em hO hl hok hP hst hPt (m.length - 1) 1 (by omega) (Nat.le_refl _)
    refine Ev.step (fun k => by rw [depotlaw20_VariantFirst.l0]) (Ev.neg (by omega) ?_)
    refine Ev.bind (prog_Picks f names hF hnl hn) ?_
    have ha := prog_Add t l hl hok
    rw [← em] at ha
    subst et
    refine Ev.bind ha ?_
    refine Ev.neg (by omega) (Ev.neg (by omega) (Ev.pos (by omega) ?_))
    have hr : rd_T28 m 0 = _ := (rdS_at m 0 hl1).trans h0
    rw [hr]
    refine Ev.bind (ref_One ⟨s.f0, s.f1, names.map (pickS f)⟩ ⟨s.f0, s.f1, names.map (pickS f)⟩ hst) (Ev.pos ((eqS_iff _ _).2 rfl) ?_)
    refine Ev.bind (prog_Find f m hF (by omega) hPm) ?_
    have hz : findS f 0 m = 0 := by rw [em, e, findS, if_pos hmt]
    rw [hz]
    refine Ev.step (fun k => by rw [depotlaw20_VariantFirst.j2]) (Ev.neg (by decide) ?_)
    exact hw
  | succ d ih =>
    intro i hd
    have hlt : i < s.f2.length := by omega
    have i1 := ih (i + 1) (by omega)
    rw [List.take_add_one, List.getElem?_eq_getElem hlt, List.map_append] at i1
    refine Ev.step (fun k => by rw [depotlaw20_VariantFirst.l0, rdP_at s.f2 i hlt, wrap_nat i s.f2.length hlt (by omega)]) ?_
    exact Ev.pos (by omega) (Ev.pos (by omega) (Ev.pos (by rw [List.length_map, List.length_take]; omega) i1))
theorem first_lawS (l : List S28) (s : S28) (f o : List S62) (hl : l.length ≤ 9223372036854775807) (hok : ∀ x ∈ l, okS x) (hf : f.length ≤ 9223372036854775807) (ho : o.length ≤ 9223372036854775807) (hos : okS s) :
    ∃ k, depotlaw20_VariantFirst.f k l s.f0.f0 s.f0.f1 s.f0.f2 s.f0.f3 s.f0.f4 s.f1 s.f2 f o = some true := by
  have hend : Ev (fun k => depotlaw20_VariantFirst.j0 k l f o true s.f0.f0 s.f0.f1 s.f0.f2 s.f0.f3 s.f0.f4 s.f1 s.f2) true := by
    refine Ev.step (fun k => by rw [depotlaw20_VariantFirst.j0]) ?_
    exact Ev.pos rfl variants_end
  refine Ev.rounds ?_
  unfold depotlaw20_VariantFirst.f
  obtain ⟨b1, e1, g1⟩ := fewS l 4 300 hl hok
  obtain ⟨b2, e2, g2⟩ := fewS [s] 1 300 (by simp) (fun x hx => by rw [List.mem_singleton.1 hx]; exact hos)
  obtain ⟨b3, e3, g3⟩ := few09 f 70 300 hf
  obtain ⟨b4, e4, g4⟩ := few09 o 70 300 ho
  refine Ev.bind e1 ?_
  cases b1 with
  | false => exact Ev.neg (by simp) hend
  | true =>
    refine Ev.pos rfl (Ev.bind e2 ?_)
    cases b2 with
    | false => exact Ev.neg (by simp) hend
    | true =>
      refine Ev.pos rfl (Ev.bind e3 ?_)
      cases b3 with
      | false => exact Ev.neg (by simp) hend
      | true =>
        refine Ev.pos rfl (Ev.bind e4 ?_)
        cases b4 with
        | false => exact hend
        | true =>
          have f1 := g1 rfl
          have f3 := g3 rfl
          have f4 := g4 rfl
          have hF : okF f := ⟨by omega, fun x hx => by have := f3.2 x hx; exact ⟨by have := this.1; omega, by have := this.2; omega⟩⟩
          have hO : okF o := ⟨by omega, fun x hx => by have := f4.2 x hx; exact ⟨by have := this.1; omega, by have := this.2; omega⟩⟩
          have hP : ∀ x ∈ l, okP x.f2 := fun x hx => small_okP x (f1.2 x hx)
          refine Ev.step (fun k => by rw [depotlaw20_VariantFirst.j0]) (Ev.neg (by simp) ?_)
          exact first_l0 l f o s hF hO (by omega) hok hP hos (small_okP s ((g2 rfl).2 s (by simp))) s.f2.length 0 (by omega)
theorem first_law (l : List S28) (s0 : Int) (s1 : ByteArray) (s2 : Int) (s3 : List S62) (s4 : ByteArray) (s5 : Int) (s6 : List S53) (f o : List S62) (hl : l.length ≤ 9223372036854775807) (hok : ∀ x ∈ l, okS x) (hs3 : s3.length ≤ 9223372036854775807) (hs6 : s6.length ≤ 9223372036854775807) (hf : f.length ≤ 9223372036854775807) (ho : o.length ≤ 9223372036854775807) :
    ∃ k, depotlaw20_VariantFirst.f k l s0 s1 s2 s3 s4 s5 s6 f o = some true := first_lawS l ⟨⟨s0, s1, s2, s3, s4⟩, s5, s6⟩ f o hl hok hf ho ⟨hs3, hs6⟩
end Go.Proofs.YtdiefodncfnfeaaDoor.Pu
