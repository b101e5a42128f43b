/- Texts put into one, each with its own words ahead of it: plain lemmas and the statement's own law. -/
import Derived.Test.YtdiefodncfnfeaaDoorWWords
import Derived.Test.YtdiefodncfnfeaaDoorWLast
import Derived.Test.YtdiefodncfnfeaaDoorHand
import Derived.Lib.Strings
import Derived.IntWalk
import Derived.Test.YtdiefodncfnfeaaDoorPR5
import Derived.Test.YtdiefodncfnfeaaDoorPR11
import Derived.Test.YtdiefodncfnfeaaDoorPR9
import Derived.KernelRfl
import Derived.Test.YtdiefodncfnfeaaDoorPR19
import Derived.Test.YtdiefodncfnfeaaDoorPR30
import Derived.Test.YtdiefodncfnfeaaDoorPR32
/- Strings as lists of bytes; rounds: helpers for the plain laws of this session. -/
namespace Go.Proofs.YtdiefodncfnfeaaDoor.Pu
open Go.RowKit Go.Proofs.YtdiefodncfnfeaaDoorW.PrintWords Go.Proofs.YtdiefodncfnfeaaDoorW.PrintLast
set_option linter.unusedVariables false
set_option linter.unusedSimpArgs false

def bOf (l : List UInt8) : ByteArray := ⟨l.toArray⟩
theorem bOf_data (s : ByteArray) : bOf s.data.toList = s := by obtain ⟨⟨l⟩⟩ := s; rfl
theorem bOf_mk (l : List UInt8) : (⟨l.toArray⟩ : ByteArray) = bOf l := rfl
theorem data_bOf (l : List UInt8) : (bOf l).data.toList = l := rfl
theorem bOf_size (l : List UInt8) : (bOf l).size = l.length := by unfold bOf; simp [ByteArray.size]
theorem size_data (s : ByteArray) : s.data.toList.length = s.size := data_length s
theorem toList_bOf (l : List UInt8) : (bOf l).toList = l := by rw [ByteArray.toList_eq]; rfl
theorem bOf_inj {a b : List UInt8} (h : bOf a = bOf b) : a = b := by have := congrArg (fun s => s.data.toList) h; exact this
theorem bOf_extract (l : List UInt8) (i j : Nat) : (bOf l).extract i j = bOf ((l.take j).drop i) := by
  have h := Go.Lib.extract_data (bOf l) i j
  rw [← bOf_data ((bOf l).extract i j), h, data_bOf, List.drop_take]
theorem bOf_append (a b : List UInt8) : bOf a ++ bOf b = bOf (a ++ b) := by
  have h : ((bOf a) ++ (bOf b)).data.toList = a ++ b := by simp [bOf]
  rw [← bOf_data (bOf a ++ bOf b), h]
theorem bOf_lit0 : (⟨#[]⟩ : ByteArray) = bOf [] := rfl
theorem ex_bOf (s : ByteArray) : ∃ l, s = bOf l ∧ l.length = s.size := ⟨s.data.toList, (bOf_data s).symm, size_data s⟩
/-- the byte at a place, as a number -/
def at_ (l : List UInt8) (i : Nat) : Int := (l.getD i 0).toNat
theorem bt_bOf (l : List UInt8) (i : Int) (h0 : 0 ≤ i) (h : i < l.length) : bt (bOf l) i = at_ l i.toNat := by
  have h' : i.toNat < (bOf l).size := by rw [bOf_size]; omega
  rw [← bt_at (bOf l) i h', at_]
  have hl : i.toNat < l.length := by omega
  rw [List.getD_eq_getElem?_getD, List.getElem?_eq_getElem hl]
  rfl
theorem at_range (l : List UInt8) (i : Nat) : 0 ≤ at_ l i ∧ at_ l i ≤ 255 := by unfold at_; have := (l.getD i 0).toNat_lt; omega
theorem at_cons_zero (c : UInt8) (l : List UInt8) : at_ (c :: l) 0 = c.toNat := rfl
theorem at_cons_succ (c : UInt8) (l : List UInt8) (i : Nat) : at_ (c :: l) (i + 1) = at_ l i := by simp [at_]
theorem at_lt (l : List UInt8) (i : Nat) (h : i < l.length) : at_ l i = (l[i]).toNat := by simp [at_, List.getD_eq_getElem?_getD, List.getElem?_eq_getElem h]
theorem u8_eq {c : UInt8} {n : Nat} (hn : n < 256) : (c.toNat : Int) = n ↔ c = UInt8.ofNat n := by
  constructor
  · intro h
    have h' : c.toNat = n := by omega
    rw [← h']; simp
  · intro h; subst h; simp; omega
theorem wrap_id {n : Int} (h0 : -9223372036854775808 ≤ n) (h : n ≤ 9223372036854775807) : wrap64 n = n := Go.IntWalk.wrap64_in n ⟨h0, h⟩
/-! Rounds -/
theorem Ev.uniq {α : Type} {g : Nat → Option α} {a b : α} (h : Ev g a) (k : Ev g b) : a = b := by
  obtain ⟨K, h⟩ := h
  obtain ⟨K', k⟩ := k
  have h1 := h (max K K') (by omega)
  have h2 := k (max K K') (by omega)
  exact Option.some.inj (h1.symm.trans h2)
theorem Ev.ite {α : Type} {c : Prop} [Decidable c] {f g : Nat → Option α} {r : α} (h : c → Ev f r) (k : ¬ c → Ev g r) : Ev (fun n => if c then f n else g n) r := by
  by_cases hc : c
  · exact Ev.congr (fun n => if_pos hc) (h hc)
  · exact Ev.congr (fun n => if_neg hc) (k hc)
theorem Ev.pos {α : Type} {c : Prop} [Decidable c] {f g : Nat → Option α} {r : α} (hc : c) (h : Ev f r) : Ev (fun n => if c then f n else g n) r := Ev.congr (fun n => if_pos hc) h
theorem Ev.neg {α : Type} {c : Prop} [Decidable c] {f g : Nat → Option α} {r : α} (hc : ¬ c) (h : Ev g r) : Ev (fun n => if c then f n else g n) r := Ev.congr (fun n => if_neg hc) h
/-- a call without rounds -/
theorem Ev.sbind {α β : Type} {x : Option α} {f : Nat → α → Option β} {a : α} {r : β} (h : x = some a) (k : Ev (fun n => f n a) r) : Ev (fun n => x.bind (f n)) r := Ev.congr (fun n => by rw [h]; rfl) k
theorem Ev.some' {α : Type} {a r : α} (h : a = r) : Ev (fun _ => some a) r := ⟨0, fun _ _ => by rw [h]⟩
theorem Ev.eq {α : Type} {g : Nat → Option α} {a b : α} (h : Ev g a) (e : a = b) : Ev g b := e ▸ h
end Go.Proofs.YtdiefodncfnfeaaDoor.Pu

/- Stored replies: are there few; are they the same: the reference's answers. -/
namespace Go.Proofs.YtdiefodncfnfeaaDoor.Pu
open Go.RowKit Go.Proofs.YtdiefodncfnfeaaDoorW.PrintWords Go.Proofs.YtdiefodncfnfeaaDoorW.PrintLast Go.Proofs.YtdiefodncfnfeaaDoor.PR
set_option linter.unusedVariables false
set_option linter.unusedSimpArgs false

theorem rdF_at (l : List S62) (i : Nat) (h : i < l.length) : rd_T62 l i = l[i] := by
  show l.getD (i : Int).toNat _ = _
  rw [Int.toNat_natCast, List.getD_eq_getElem?_getD, List.getElem?_eq_getElem h]; rfl
theorem rdP_at (l : List S53) (i : Nat) (h : i < l.length) : rd_T53 l i = l[i] := by
  show l.getD (i : Int).toNat _ = _
  rw [Int.toNat_natCast, List.getD_eq_getElem?_getD, List.getElem?_eq_getElem h]; rfl
theorem rdS_at (l : List S28) (i : Nat) (h : i < l.length) : rd_T28 l i = l[i] := by
  show l.getD (i : Int).toNat _ = _
  rw [Int.toNat_natCast, List.getD_eq_getElem?_getD, List.getElem?_eq_getElem h]; rfl
theorem wrap_nat (i n : Nat) (h : i < n) (hn : n ≤ 9223372036854775807) : wrap64 ((i : Int) + 1) = ((i + 1 : Nat) : Int) := by rw [wrap_id (by omega) (by omega)]; omega
/-- small fields -/
def smallF (n : Nat) (x : S62) : Prop := x.f0.size ≤ n ∧ x.f1.size ≤ n
def smallP (n : Nat) (x : S53) : Prop := x.f0.size ≤ n ∧ x.f2.size ≤ n
def smallS (n : Nat) (x : S28) : Prop := x.f0.f1.size ≤ n ∧ x.f0.f4.size ≤ n ∧ (x.f0.f3.length ≤ 70 ∧ ∀ f ∈ x.f0.f3, smallF n f) ∧ (x.f2.length ≤ 70 ∧ ∀ p ∈ x.f2, smallP n p)
theorem few09_l0 (l : List S62) (m n : Nat) (hl : l.length ≤ 9223372036854775807) : ∀ (d i : Nat), d + i = l.length → (∀ j (h : j < l.length), j < i → smallF n l[j]) →
    ∃ b, Ev (fun k => depotref09_Few.l0 k l m n i) b ∧ (b = true → l.length ≤ m ∧ ∀ x ∈ l, smallF n x) := by
  have fin : ∀ i, (∀ j (h : j < l.length), j < i → smallF n l[j]) → l.length ≤ i ∨ m < i → (decide ((l.length : Int) ≤ (m : Int))) = true → i ≤ l.length → l.length ≤ m ∧ ∀ x ∈ l, smallF n x := by
    intro i hi hc hb hil
    have := of_decide_eq_true hb
    refine ⟨by omega, fun x hx => ?_⟩
    obtain ⟨j, hj, rfl⟩ := List.getElem_of_mem hx
    exact hi j hj (by omega)
  intro d
  induction d with
  | zero =>
    intro i hd hi
    refine ⟨decide ((l.length : Int) ≤ (m : Int)), ?_, fun hb => fin i hi (.inl (by omega)) hb (by omega)⟩
    refine Ev.step (fun k => by rw [depotref09_Few.l0]) (Ev.neg (by omega) ?_)
    exact Ev.step (fun k => by rw [depotref09_Few.j1]) (Ev.neg (by simp) (Ev.some' rfl))
  | succ d ih =>
    intro i hd hi
    by_cases hm : i ≤ m
    · by_cases hs : smallF n l[i]
      · obtain ⟨b, hb, hc⟩ := ih (i + 1) (by omega) (fun j h hj => by
          by_cases e : j = i
          · subst e; exact hs
          · exact hi j h (by omega))
        refine ⟨b, ?_, hc⟩
        refine Ev.step (fun k => by rw [depotref09_Few.l0]) (Ev.pos (by omega) ?_)
        refine Ev.step (fun k => by rw [depotref09_Few.j1, rdF_at l i (by omega)]) (Ev.pos (decide_eq_true (by omega)) (Ev.pos (by omega) (Ev.pos (by omega) ?_)))
        refine Ev.neg (by have := hs.1; omega) (Ev.neg (by have := hs.2; omega) ?_)
        rw [wrap_nat i l.length (by omega) hl]
        exact hb
      · refine ⟨false, ?_, fun h => by cases h⟩
        refine Ev.step (fun k => by rw [depotref09_Few.l0]) (Ev.pos (by omega) ?_)
        refine Ev.step (fun k => by rw [depotref09_Few.j1, rdF_at l i (by omega)]) (Ev.pos (decide_eq_true (by omega)) (Ev.pos (by omega) (Ev.pos (by omega) ?_)))
        by_cases h0 : l[i].f0.size ≤ n
        · refine Ev.neg (by omega) (Ev.pos ?_ (Ev.some' rfl))
          have : ¬ l[i].f1.size ≤ n := fun h1 => hs ⟨h0, h1⟩
          omega
        · exact Ev.pos (by omega) (Ev.some' rfl)
    · refine ⟨decide ((l.length : Int) ≤ (m : Int)), ?_, fun hb => fin i hi (.inr (by omega)) hb (by omega)⟩
      refine Ev.step (fun k => by rw [depotref09_Few.l0]) (Ev.pos (by omega) ?_)
      exact Ev.step (fun k => by rw [depotref09_Few.j1]) (Ev.neg (by simp; omega) (Ev.some' rfl))
theorem few09 (l : List S62) (m n : Nat) (hl : l.length ≤ 9223372036854775807) : ∃ b, Ev (fun k => depotref09_Few.f k l m n) b ∧ (b = true → l.length ≤ m ∧ ∀ x ∈ l, smallF n x) :=
  few09_l0 l m n hl l.length 0 (by omega) (fun _ _ h => absurd h (Nat.not_lt_zero _))
theorem few15_l0 (l : List S53) (m n : Nat) (hl : l.length ≤ 9223372036854775807) : ∀ (d i : Nat), d + i = l.length → (∀ j (h : j < l.length), j < i → smallP n l[j]) →
    ∃ b, Ev (fun k => depotref15_Few.l0 k l m n i) b ∧ (b = true → l.length ≤ m ∧ ∀ x ∈ l, smallP n x) := by
  have fin : ∀ i, (∀ j (h : j < l.length), j < i → smallP n l[j]) → l.length ≤ i ∨ m < i → (decide ((l.length : Int) ≤ (m : Int))) = true → i ≤ l.length → l.length ≤ m ∧ ∀ x ∈ l, smallP n x := by
    intro i hi hc hb hil
    have := of_decide_eq_true hb
    refine ⟨by omega, fun x hx => ?_⟩
    obtain ⟨j, hj, rfl⟩ := List.getElem_of_mem hx
    exact hi j hj (by omega)
  intro d
  induction d with
  | zero =>
    intro i hd hi
    refine ⟨decide ((l.length : Int) ≤ (m : Int)), ?_, fun hb => fin i hi (.inl (by omega)) hb (by omega)⟩
    refine Ev.step (fun k => by rw [depotref15_Few.l0]) (Ev.neg (by omega) ?_)
    exact Ev.step (fun k => by rw [depotref15_Few.j1]) (Ev.neg (by simp) (Ev.some' rfl))
  | succ d ih =>
    intro i hd hi
    by_cases hm : i ≤ m
    · by_cases hs : smallP n l[i]
      · obtain ⟨b, hb, hc⟩ := ih (i + 1) (by omega) (fun j h hj => by
          by_cases e : j = i
          · subst e; exact hs
          · exact hi j h (by omega))
        refine ⟨b, ?_, hc⟩
        refine Ev.step (fun k => by rw [depotref15_Few.l0]) (Ev.pos (by omega) ?_)
        refine Ev.step (fun k => by rw [depotref15_Few.j1, rdP_at l i (by omega)]) (Ev.pos (decide_eq_true (by omega)) (Ev.pos (by omega) (Ev.pos (by omega) ?_)))
        refine Ev.neg (by have := hs.1; omega) (Ev.neg (by have := hs.2; omega) ?_)
        rw [wrap_nat i l.length (by omega) hl]
        exact hb
      · refine ⟨false, ?_, fun h => by cases h⟩
        refine Ev.step (fun k => by rw [depotref15_Few.l0]) (Ev.pos (by omega) ?_)
        refine Ev.step (fun k => by rw [depotref15_Few.j1, rdP_at l i (by omega)]) (Ev.pos (decide_eq_true (by omega)) (Ev.pos (by omega) (Ev.pos (by omega) ?_)))
        by_cases h0 : l[i].f0.size ≤ n
        · refine Ev.neg (by omega) (Ev.pos ?_ (Ev.some' rfl))
          have : ¬ l[i].f2.size ≤ n := fun h1 => hs ⟨h0, h1⟩
          omega
        · exact Ev.pos (by omega) (Ev.some' rfl)
    · refine ⟨decide ((l.length : Int) ≤ (m : Int)), ?_, fun hb => fin i hi (.inr (by omega)) hb (by omega)⟩
      refine Ev.step (fun k => by rw [depotref15_Few.l0]) (Ev.pos (by omega) ?_)
      exact Ev.step (fun k => by rw [depotref15_Few.j1]) (Ev.neg (by simp; omega) (Ev.some' rfl))
theorem few15 (l : List S53) (m n : Nat) (hl : l.length ≤ 9223372036854775807) : ∃ b, Ev (fun k => depotref15_Few.f k l m n) b ∧ (b = true → l.length ≤ m ∧ ∀ x ∈ l, smallP n x) :=
  few15_l0 l m n hl l.length 0 (by omega) (fun _ _ h => absurd h (Nat.not_lt_zero _))
/-- what is known of an argument's rows: they are no longer than a machine's -/
def okS (x : S28) : Prop := x.f0.f3.length ≤ 9223372036854775807 ∧ x.f2.length ≤ 9223372036854775807
theorem fewS_l0 (l : List S28) (m n : Nat) (hl : l.length ≤ 9223372036854775807) (hok : ∀ x ∈ l, okS x) : ∀ (d i : Nat), d + i = l.length → (∀ j (h : j < l.length), j < i → smallS n l[j]) →
    ∃ b, Ev (fun k => depotref20_Few.l0 k l m n i) b ∧ (b = true → l.length ≤ m ∧ ∀ x ∈ l, smallS n x) := by
  have fin : ∀ i, (∀ j (h : j < l.length), j < i → smallS n l[j]) → l.length ≤ i ∨ m < i → (decide ((l.length : Int) ≤ (m : Int))) = true → i ≤ l.length → l.length ≤ m ∧ ∀ x ∈ l, smallS n x := by
    intro i hi hc hb hil
    have := of_decide_eq_true hb
    refine ⟨by omega, fun x hx => ?_⟩
    obtain ⟨j, hj, rfl⟩ := List.getElem_of_mem hx
    exact hi j hj (by omega)
  intro d
  induction d with
  | zero =>
    intro i hd hi
    refine ⟨decide ((l.length : Int) ≤ (m : Int)), ?_, fun hb => fin i hi (.inl (by omega)) hb (by omega)⟩
    refine Ev.step (fun k => by rw [depotref20_Few.l0]) (Ev.neg (by omega) ?_)
    exact Ev.step (fun k => by rw [depotref20_Few.j1]) (Ev.neg (by simp) (Ev.some' rfl))
  | succ d ih =>
    intro i hd hi
    by_cases hm : i ≤ m
    · have hlt : i < l.length := by omega
      have hoi := hok l[i] (List.getElem_mem hlt)
      obtain ⟨b1, e1, g1⟩ := few09 l[i].f0.f3 70 n hoi.1
      obtain ⟨b2, e2, g2⟩ := few15 l[i].f2 70 n hoi.2
      have pre : ∀ (b : Bool), Ev (fun k => (depotref12_FewReply.f k l[i].f0.f0 l[i].f0.f1 l[i].f0.f2 l[i].f0.f3 l[i].f0.f4 n).bind fun t108 => if t108 = true then (depotref15_Few.f k l[i].f2 70 n).bind fun t110 => if t110 = true then depotref20_Few.l0 k l m n (wrap64 ((i : Int) + 1)) else some false else some false) b → Ev (fun k => depotref20_Few.l0 k l m n i) b := by
        intro b hb
        refine Ev.step (fun k => by rw [depotref20_Few.l0]) (Ev.pos (by omega) ?_)
        exact Ev.step (fun k => by rw [depotref20_Few.j1, rdS_at l i hlt]) (Ev.pos (decide_eq_true (by omega)) (Ev.pos (by omega) (Ev.pos (by omega) hb)))
      by_cases h1 : l[i].f0.f1.size ≤ n
      · by_cases h4 : l[i].f0.f4.size ≤ n
        · have er : Ev (fun k => depotref12_FewReply.f k l[i].f0.f0 l[i].f0.f1 l[i].f0.f2 l[i].f0.f3 l[i].f0.f4 n) b1 := by
            unfold depotref12_FewReply.f
            exact Ev.pos (by omega) (Ev.pos (by omega) (Ev.bind e1 (Ev.some' rfl)))
          cases b1 with
          | false => exact ⟨false, pre false (Ev.bind er (Ev.neg (by simp) (Ev.some' rfl))), fun h => by cases h⟩
          | true =>
            cases b2 with
            | false => exact ⟨false, pre false (Ev.bind er (Ev.pos rfl (Ev.bind e2 (Ev.neg (by simp) (Ev.some' rfl))))), fun h => by cases h⟩
            | true =>
              obtain ⟨b, hb, hc⟩ := ih (i + 1) (by omega) (fun j h hj => by
                by_cases e : j = i
                · subst e; exact ⟨h1, h4, g1 rfl, g2 rfl⟩
                · exact hi j h (by omega))
              refine ⟨b, pre b (Ev.bind er (Ev.pos rfl (Ev.bind e2 (Ev.pos rfl ?_)))), hc⟩
              rw [wrap_nat i l.length hlt hl]
              exact hb
        · exact ⟨false, pre false (Ev.bind (a := false) (by unfold depotref12_FewReply.f; exact Ev.pos (by omega) (Ev.neg (by omega) (Ev.some' rfl))) (Ev.neg (by simp) (Ev.some' rfl))), fun h => by cases h⟩
      · exact ⟨false, pre false (Ev.bind (a := false) (by unfold depotref12_FewReply.f; exact Ev.neg (by omega) (Ev.some' rfl)) (Ev.neg (by simp) (Ev.some' rfl))), fun h => by cases h⟩
    · refine ⟨decide ((l.length : Int) ≤ (m : Int)), ?_, fun hb => fin i hi (.inr (by omega)) hb (by omega)⟩
      refine Ev.step (fun k => by rw [depotref20_Few.l0]) (Ev.pos (by omega) ?_)
      exact Ev.step (fun k => by rw [depotref20_Few.j1]) (Ev.neg (by simp; omega) (Ev.some' rfl))
theorem fewS (l : List S28) (m n : Nat) (hl : l.length ≤ 9223372036854775807) (hok : ∀ x ∈ l, okS x) : ∃ b, Ev (fun k => depotref20_Few.f k l m n) b ∧ (b = true → l.length ≤ m ∧ ∀ x ∈ l, smallS n x) :=
  fewS_l0 l m n hl hok l.length 0 (by omega) (fun _ _ h => absurd h (Nat.not_lt_zero _))
/-! the same? -/
theorem toList_eq {a b : ByteArray} (h : a.toList = b.toList) : a = b := by
  rw [← bOf_data a, ← bOf_data b] at h ⊢
  rw [toList_bOf, toList_bOf] at h
  rw [h]
def eqF (x y : S62) : Bool := x.f0.toList == y.f0.toList && x.f1.toList == y.f1.toList
def eqP (x y : S53) : Bool := x.f0.toList == y.f0.toList && (x.f1 == y.f1 && x.f2.toList == y.f2.toList)
theorem eqF_iff (x y : S62) : eqF x y = true ↔ x = y := by
  obtain ⟨x0, x1⟩ := x
  obtain ⟨y0, y1⟩ := y
  unfold eqF
  simp only [Bool.and_eq_true, beq_iff_eq]
  exact ⟨fun h => by rw [toList_eq h.1, toList_eq h.2], fun h => by injection h with h1 h2; exact ⟨by rw [h1], by rw [h2]⟩⟩
theorem eqP_iff (x y : S53) : eqP x y = true ↔ x = y := by
  obtain ⟨x0, x1, x2⟩ := x
  obtain ⟨y0, y1, y2⟩ := y
  unfold eqP
  simp only [Bool.and_eq_true, beq_iff_eq]
  exact ⟨fun h => by rw [toList_eq h.1, h.2.1, toList_eq h.2.2], fun h => by injection h with h1 h2 h3; exact ⟨by rw [h1], h2, by rw [h3]⟩⟩
/-- two lists, from a place on -/
def eqL {α : Type} (eq : α → α → Bool) : List α → List α → Bool
  | [], [] => true
  | x :: l, y :: m => eq x y && eqL eq l m
  | _, _ => false
theorem eqL_iff {α : Type} (eq : α → α → Bool) (h : ∀ x y, eq x y = true ↔ x = y) : ∀ a b : List α, eqL eq a b = true ↔ a = b
  | [], [] => by simp [eqL]
  | [], y :: m => by simp [eqL]
  | x :: l, [] => by simp [eqL]
  | x :: l, y :: m => by simp [eqL, h, eqL_iff eq h l m]
theorem eqL_len {α : Type} (eq : α → α → Bool) : ∀ a b : List α, a.length ≠ b.length → eqL eq a b = false
  | [], [], h => absurd rfl h
  | [], y :: m, _ => rfl
  | x :: l, [], _ => rfl
  | x :: l, y :: m, h => by
    rw [eqL, eqL_len eq l m (by simpa using h), Bool.and_false]
theorem eqL_drop {α : Type} (eq : α → α → Bool) (a b : List α) (i : Nat) (h1 : i < a.length) (h2 : i < b.length) : eqL eq (a.drop i) (b.drop i) = (eq a[i] b[i] && eqL eq (a.drop (i + 1)) (b.drop (i + 1))) := by
  rw [List.drop_eq_getElem_cons h1, List.drop_eq_getElem_cons h2, eqL]
theorem same09_l0 (a b : List S62) (hab : a.length = b.length) (hl : a.length ≤ 9223372036854775807) : ∀ (d i : Nat), d + i = a.length → Ev (fun k => depotref09_Equal.l0 k a b i) (eqL eqF (a.drop i) (b.drop i)) := by
  intro d
  induction d with
  | zero =>
    intro i hd
    rw [List.drop_of_length_le (by omega), List.drop_of_length_le (by omega)]
    refine Ev.step (fun k => by rw [depotref09_Equal.l0]) ?_
    exact Ev.neg (by omega) (Ev.some' rfl)
  | succ d ih =>
    intro i hd
    rw [eqL_drop eqF a b i (by omega) (by omega)]
    refine Ev.step (fun k => by rw [depotref09_Equal.l0, rdF_at a i (by omega), rdF_at b i (by omega)]) (Ev.pos (by omega) (Ev.pos (by omega) (Ev.pos (by omega) ?_)))
    by_cases c : eqF a[i] b[i] = true
    · refine Ev.neg ?_ ?_
      · unfold eqF at c
        simp only [Bool.and_eq_true] at c
        rw [c.1, c.2]; simp
      · rw [c, Bool.true_and, wrap_nat i a.length (by omega) hl]
        exact ih (i + 1) (by omega)
    · refine Ev.pos ?_ ?_
      · unfold eqF at c
        revert c
        cases (a[i].f0.toList == b[i].f0.toList) <;> cases (a[i].f1.toList == b[i].f1.toList) <;> simp
      · rw [Bool.not_eq_true] at c
        rw [c, Bool.false_and]
        exact Ev.some' rfl
theorem same09 (a b : List S62) (hl : a.length ≤ 9223372036854775807) : Ev (fun k => depotref09_Equal.f k a b) (eqL eqF a b) := by
  unfold depotref09_Equal.f
  by_cases hab : a.length = b.length
  · exact Ev.pos (by omega) (same09_l0 a b hab hl a.length 0 (by omega))
  · rw [eqL_len eqF a b hab]
    exact Ev.neg (by omega) (Ev.some' rfl)
theorem same15_l0 (a b : List S53) (hab : a.length = b.length) (hl : a.length ≤ 9223372036854775807) : ∀ (d i : Nat), d + i = a.length → Ev (fun k => depotref15_Same.l0 k a b i) (eqL eqP (a.drop i) (b.drop i)) := by
  intro d
  induction d with
  | zero =>
    intro i hd
    rw [List.drop_of_length_le (by omega), List.drop_of_length_le (by omega)]
    refine Ev.step (fun k => by rw [depotref15_Same.l0]) ?_
    exact Ev.neg (by omega) (Ev.some' rfl)
  | succ d ih =>
    intro i hd
    rw [eqL_drop eqP a b i (by omega) (by omega)]
    refine Ev.step (fun k => by rw [depotref15_Same.l0, rdP_at a i (by omega), rdP_at b i (by omega)]) (Ev.pos (by omega) (Ev.pos (by omega) (Ev.pos (by omega) ?_)))
    by_cases c : eqP a[i] b[i] = true
    · refine Ev.neg ?_ ?_
      · unfold eqP at c
        simp only [Bool.and_eq_true] at c
        rw [c.1, c.2.1, c.2.2]; simp
      · rw [c, Bool.true_and, wrap_nat i a.length (by omega) hl]
        exact ih (i + 1) (by omega)
    · refine Ev.pos ?_ ?_
      · unfold eqP at c
        revert c
        cases (a[i].f0.toList == b[i].f0.toList) <;> cases (a[i].f1 == b[i].f1) <;> cases (a[i].f2.toList == b[i].f2.toList) <;> simp
      · rw [Bool.not_eq_true] at c
        rw [c, Bool.false_and]
        exact Ev.some' rfl
theorem same15 (a b : List S53) (hl : a.length ≤ 9223372036854775807) : Ev (fun k => depotref15_Same.f k a b) (eqL eqP a b) := by
  unfold depotref15_Same.f
  by_cases hab : a.length = b.length
  · exact Ev.pos (by omega) (same15_l0 a b hab hl a.length 0 (by omega))
  · rw [eqL_len eqP a b hab]
    exact Ev.neg (by omega) (Ev.some' rfl)
def eqS (x y : S28) : Bool := decide (x.f1 = y.f1) && (decide (x.f0.f0 = y.f0.f0) && (decide (x.f0.f1.toList = y.f0.f1.toList) && (decide (x.f0.f2 = y.f0.f2) && (decide (x.f0.f4.toList = y.f0.f4.toList) && (eqL eqF x.f0.f3 y.f0.f3 && eqL eqP x.f2 y.f2)))))
theorem eqS_iff (x y : S28) : eqS x y = true ↔ x = y := by
  obtain ⟨⟨x0, x1, x2, x3, x4⟩, x5, x6⟩ := x
  obtain ⟨⟨y0, y1, y2, y3, y4⟩, y5, y6⟩ := y
  unfold eqS
  simp only [Bool.and_eq_true, decide_eq_true_eq, eqL_iff eqF eqF_iff, eqL_iff eqP eqP_iff]
  constructor
  · rintro ⟨h5, h0, h1, h2, h4, h3, h6⟩
    rw [h5, h0, toList_eq h1, h2, toList_eq h4, h3, h6]
  · intro h
    injection h with h h5 h6
    injection h with h0 h1 h2 h3 h4
    exact ⟨h5, h0, by rw [h1], h2, by rw [h4], h3, h6⟩
theorem ref_One (x y : S28) (hx : okS x) : Ev (fun k => depotref20_One.f k x.f0.f0 x.f0.f1 x.f0.f2 x.f0.f3 x.f0.f4 x.f1 x.f2 y.f0.f0 y.f0.f1 y.f0.f2 y.f0.f3 y.f0.f4 y.f1 y.f2) (eqS x y) := by
  unfold depotref20_One.f depotref12_SameReply.f eqS
  by_cases h5 : x.f1 = y.f1
  · refine Ev.pos h5 ?_
    rw [decide_eq_true h5, Bool.true_and]
    by_cases h0 : x.f0.f0 = y.f0.f0
    · rw [decide_eq_true h0, Bool.true_and]
      by_cases h1 : x.f0.f1.toList = y.f0.f1.toList
      · rw [decide_eq_true h1, Bool.true_and]
        by_cases h2 : x.f0.f2 = y.f0.f2
        · rw [decide_eq_true h2, Bool.true_and]
          by_cases h4 : x.f0.f4.toList = y.f0.f4.toList
          · rw [decide_eq_true h4, Bool.true_and]
            refine Ev.bind (Ev.pos h0 (Ev.pos h1 (Ev.pos h2 (Ev.pos h4 (Ev.bind (same09 _ _ hx.1) (Ev.some' rfl)))))) ?_
            cases eqL eqF x.f0.f3 y.f0.f3
            · exact Ev.neg (by simp) (Ev.some' rfl)
            · exact Ev.pos rfl (Ev.bind (same15 _ _ hx.2) (Ev.some' rfl))
          · rw [decide_eq_false h4, Bool.false_and]
            exact Ev.bind (Ev.pos h0 (Ev.pos h1 (Ev.pos h2 (Ev.neg h4 (Ev.some' rfl))))) (Ev.neg (by simp) (Ev.some' rfl))
        · rw [decide_eq_false h2, Bool.false_and]
          exact Ev.bind (Ev.pos h0 (Ev.pos h1 (Ev.neg h2 (Ev.some' rfl)))) (Ev.neg (by simp) (Ev.some' rfl))
      · rw [decide_eq_false h1, Bool.false_and]
        exact Ev.bind (Ev.pos h0 (Ev.neg h1 (Ev.some' rfl))) (Ev.neg (by simp) (Ev.some' rfl))
    · rw [decide_eq_false h0, Bool.false_and]
      exact Ev.bind (Ev.neg h0 (Ev.some' rfl)) (Ev.neg (by simp) (Ev.some' rfl))
  · rw [decide_eq_false h5, Bool.false_and]
    exact Ev.neg h5 (Ev.some' rfl)
theorem sameS_l0 (a b : List S28) (hab : a.length = b.length) (hl : a.length ≤ 9223372036854775807) (hok : ∀ x ∈ a, okS x) : ∀ (d i : Nat), d + i = a.length → Ev (fun k => depotref20_Same.l0 k a b i) (eqL eqS (a.drop i) (b.drop i)) := by
  intro d
  induction d with
  | zero =>
    intro i hd
    rw [List.drop_of_length_le (by omega), List.drop_of_length_le (by omega)]
    refine Ev.step (fun k => by rw [depotref20_Same.l0]) ?_
    exact Ev.neg (by omega) (Ev.some' rfl)
  | succ d ih =>
    intro i hd
    rw [eqL_drop eqS a b i (by omega) (by omega)]
    refine Ev.step (fun k => by rw [depotref20_Same.l0, rdS_at a i (by omega), rdS_at b i (by omega)]) (Ev.pos (by omega) (Ev.pos (by omega) (Ev.pos (by omega) ?_)))
    refine Ev.bind (ref_One a[i] b[i] (hok _ (List.getElem_mem _))) ?_
    cases eqS a[i] b[i]
    · exact Ev.neg (by simp) (Ev.some' rfl)
    · refine Ev.pos rfl ?_
      rw [Bool.true_and, wrap_nat i a.length (by omega) hl]
      exact ih (i + 1) (by omega)
theorem sameS (a b : List S28) (hl : a.length ≤ 9223372036854775807) (hok : ∀ x ∈ a, okS x) : Ev (fun k => depotref20_Same.f k a b) (eqL eqS a b) := by
  unfold depotref20_Same.f
  by_cases hab : a.length = b.length
  · exact Ev.pos (by omega) (sameS_l0 a b hab hl hok a.length 0 (by omega))
  · rw [eqL_len eqS a b hab]
    exact Ev.neg (by omega) (Ev.some' rfl)
theorem sameS_refl (a : List S28) (hl : a.length ≤ 9223372036854775807) (hok : ∀ x ∈ a, okS x) : Ev (fun k => depotref20_Same.f k a a) true := Ev.eq (sameS a a hl hok) ((eqL_iff eqS eqS_iff a a).2 rfl)
end Go.Proofs.YtdiefodncfnfeaaDoor.Pu

/- The pure statements of VariantEncodes: the program's and the reference's answers are alike. -/
namespace Go.Proofs.YtdiefodncfnfeaaDoor.Pu
open Go.RowKit Go.Proofs.YtdiefodncfnfeaaDoorW.PrintWords Go.Proofs.YtdiefodncfnfeaaDoorW.PrintLast Go.Proofs.YtdiefodncfnfeaaDoor.PR
set_option linter.unusedVariables false
set_option linter.unusedSimpArgs false

theorem variants_60 : depotlaw20_variants.f 60 = some true := by kernel_rfl
theorem variants_true : Ev (fun k => depotlaw20_variants.f k) true := Ev.of depotlaw20_variants.mono variants_60
theorem variants_end : Ev (fun k => (depotlaw20_variants.f k).bind fun t => some t) true := Ev.bind variants_true (Ev.some' rfl)
theorem sum_le {α : Type} (sz : α → Nat) (b : Nat) : ∀ l : List α, (∀ x ∈ l, sz x ≤ b) → (l.map sz).sum ≤ l.length * b
  | [], _ => by simp
  | x :: l, h => by
    have h1 := sum_le sz b l (fun y hy => h y (List.mem_cons_of_mem _ hy))
    have h2 := h x List.mem_cons_self
    rw [List.map_cons, List.sum_cons, List.length_cons, Nat.succ_mul]
    omega
theorem szS_small (n : Nat) (x : S28) (h : smallS n x) : szS x ≤ 18 + 2 * n + 70 * (8 + 2 * n) + 70 * (9 + 2 * n) := by
  obtain ⟨h1, h4, ⟨h3, g3⟩, ⟨h2, g2⟩⟩ := h
  have e1 := sum_le szF (8 + 2 * n) x.f0.f3 (fun f hf => by have := g3 f hf; unfold szF; unfold smallF at this; omega)
  have e2 := sum_le szP (9 + 2 * n) x.f2 (fun f hf => by have := g2 f hf; unfold szP; unfold smallP at this; omega)
  have e3 : x.f0.f3.length * (8 + 2 * n) ≤ 70 * (8 + 2 * n) := Nat.mul_le_mul_right _ h3
  have e4 : x.f2.length * (9 + 2 * n) ≤ 70 * (9 + 2 * n) := Nat.mul_le_mul_right _ h2
  unfold szS
  omega
theorem encode_some (l : List S28) (m : Nat) (hm : m ≤ 20) (h : l.length ≤ m) (hs : ∀ x ∈ l, smallS 300 x) : variant_Encode.f l = some (encodeR (encodeW l)) := by
  unfold variant_Encode.f
  refine if_pos ⟨by omega, fun x hx => ?_, ?_⟩
  · have := hs x hx
    exact ⟨Nat.lt_of_le_of_lt this.2.2.1.1 (by decide), Nat.lt_of_le_of_lt this.2.2.2.1 (by decide)⟩
  · have e1 := sum_le szS 90000 l (fun x hx => by have := szS_small 300 x (hs x hx); omega)
    have e2 : l.length * 90000 ≤ 20 * 90000 := Nat.mul_le_mul_right _ (by omega)
    omega
theorem encodes_law (l : List S28) (hl : l.length ≤ 9223372036854775807) (hok : ∀ x ∈ l, okS x) : ∃ k, depotlaw20_VariantEncodes.f k l = some true := by
  refine Ev.rounds ?_
  unfold depotlaw20_VariantEncodes.f
  obtain ⟨b, hb, hc⟩ := fewS l 6 300 hl hok
  refine Ev.bind hb ?_
  cases b with
  | false => exact Ev.neg (by simp) variants_end
  | true =>
    refine Ev.pos rfl ?_
    obtain ⟨h1, h2⟩ := hc rfl
    have he := encode_some l 6 (by decide) h1 h2
    refine Ev.sbind he (Ev.sbind (show depotref20_Encode.f l = some (encodeR (encodeW l)) from he) (Ev.sbind (a := true) ?_ (Ev.pos rfl (Ev.pos rfl variants_end))))
    unfold depotref03_Same.f
    simp
end Go.Proofs.YtdiefodncfnfeaaDoor.Pu

/- The pure statements of VariantDecodes: the program's and the reference's answers are alike. -/
namespace Go.Proofs.YtdiefodncfnfeaaDoor.Pu
open Go.RowKit Go.Proofs.YtdiefodncfnfeaaDoorW.PrintWords Go.Proofs.YtdiefodncfnfeaaDoorW.PrintLast Go.Proofs.YtdiefodncfnfeaaDoor.PR
set_option linter.unusedVariables false
set_option linter.unusedSimpArgs false

theorem wf_u8 (x : Int) (h : (Lit.int .u8 x).wf = true) : 0 ≤ x ∧ x ≤ 255 := by
  have h1 : (decide (IntKind.u8.min ≤ x) && decide (x ≤ IntKind.u8.max)) = true := h
  simp only [Bool.and_eq_true, decide_eq_true_eq] at h1
  exact h1
theorem many_all {α : Type} (p : α → Prop) (item : Nat × Int → α × Nat × Int) (hi : ∀ st, p (item st).1) : ∀ (n : Nat) (st : Nat × Int), ∀ x ∈ (manyD item n st).1, p x
  | 0, st, x, hx => by cases hx
  | n + 1, st, x, hx => by
    by_cases h : st.2 = 0
    · rw [many_go item n st h] at hx
      rcases List.mem_cons.1 hx with rfl | hx
      · exact hi st
      · exact many_all p item hi n _ x hx
    · rw [many_err item _ _ (.inr h)] at hx
      cases hx
theorem num_small (L : List Int) (st : Nat × Int) (wd : Nat) (lo hi : Int) (h : 0 ≤ lo) (hh : 0 ≤ hi) : (numD L st wd lo hi).1.toNat ≤ hi.toNat := by
  have := numD_in L st wd hi lo h hh
  omega
theorem stored_ok (L : List Int) (st : Nat × Int) : (storedD L st).1.f0.f3.length ≤ 64 ∧ (storedD L st).1.f2.length ≤ 64 := by
  unfold storedD
  exact ⟨Nat.le_trans (many_len _ _ _) (num_small L _ 1 0 64 (by decide) (by decide)), Nat.le_trans (many_len _ _ _) (num_small L _ 1 0 64 (by decide) (by decide))⟩
theorem decode_ok (L : List Int) : (decodeE L (decodeD L)).1.length ≤ 4 ∧ ∀ x ∈ (decodeE L (decodeD L)).1, okS x := by
  have h1 : (decodeD L).1.length ≤ 4 := Nat.le_trans (many_len _ _ _) (num_small L (0, 0) 1 0 4 (by decide) (by decide))
  have h2 : ∀ x ∈ (decodeD L).1, okS x := many_all okS (storedD L) (fun st => by have := stored_ok L st; exact ⟨by omega, by omega⟩) _ _
  unfold decodeE
  split
  · exact ⟨Nat.zero_le _, fun x hx => by cases hx⟩
  · split
    · exact ⟨Nat.zero_le _, fun x hx => by cases hx⟩
    · exact ⟨h1, h2⟩
theorem decode_some (L : List Int) (hl : L.length ≤ 1000000) (hb : ∀ x ∈ L, 0 ≤ x ∧ x ≤ 255) : variant_Decode.f L = some (decodeE L (decodeD L)) := if_pos ⟨by omega, hb⟩
theorem decodes_law (L : List Int) (hb : ∀ x ∈ L, 0 ≤ x ∧ x ≤ 255) : ∃ k, depotlaw20_VariantDecodes.f k L = some true := by
  refine Ev.rounds ?_
  unfold depotlaw20_VariantDecodes.f
  by_cases hl : (L.length : Int) > 3000
  · exact Ev.pos hl variants_end
  · refine Ev.neg hl ?_
    have hd := decode_some L (by omega) hb
    have hk := decode_ok L
    refine Ev.sbind hd (Ev.sbind (show depotref20_Decode.f L = some (decodeE L (decodeD L)) from hd) (Ev.bind (sameS_refl _ (by omega) hk.2) (Ev.pos rfl (Ev.pos rfl variants_end))))
end Go.Proofs.YtdiefodncfnfeaaDoor.Pu
