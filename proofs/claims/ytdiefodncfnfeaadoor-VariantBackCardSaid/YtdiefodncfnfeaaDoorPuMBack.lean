/- Texts put into one, each with its own words ahead of it: plain lemmas and the statement's own law. -/
import Derived.Test.YtdiefodncfnfeaaDoorWWords
import Derived.Test.YtdiefodncfnfeaaDoorWLast
import Derived.Test.YtdiefodncfnfeaaDoorHand
import Derived.Lib.Strings
import Derived.IntWalk
import Derived.Test.YtdiefodncfnfeaaDoorPR5
import Derived.Test.YtdiefodncfnfeaaDoorPR11
import Derived.Test.YtdiefodncfnfeaaDoorPR9
import Derived.KernelRfl
import Derived.Test.YtdiefodncfnfeaaDoorPR19
import Derived.Test.YtdiefodncfnfeaaDoorPR30
import Derived.Test.YtdiefodncfnfeaaDoorPR18
import Derived.Test.YtdiefodncfnfeaaDoorPR32
import Derived.Test.YtdiefodncfnfeaaDoorPR33
/- Strings as lists of bytes; rounds: helpers for the plain laws of this session. -/
namespace Go.Proofs.YtdiefodncfnfeaaDoor.Pu
open Go.RowKit Go.Proofs.YtdiefodncfnfeaaDoorW.PrintWords Go.Proofs.YtdiefodncfnfeaaDoorW.PrintLast
set_option linter.unusedVariables false
set_option linter.unusedSimpArgs false

def bOf (l : List UInt8) : ByteArray := ⟨l.toArray⟩
theorem bOf_data (s : ByteArray) : bOf s.data.toList = s := by obtain ⟨⟨l⟩⟩ := s; rfl
theorem bOf_mk (l : List UInt8) : (⟨l.toArray⟩ : ByteArray) = bOf l := rfl
theorem data_bOf (l : List UInt8) : (bOf l).data.toList = l := rfl
theorem bOf_size (l : List UInt8) : (bOf l).size = l.length := by unfold bOf; simp [ByteArray.size]
theorem size_data (s : ByteArray) : s.data.toList.length = s.size := data_length s
theorem toList_bOf (l : List UInt8) : (bOf l).toList = l := by rw [ByteArray.toList_eq]; rfl
theorem bOf_inj {a b : List UInt8} (h : bOf a = bOf b) : a = b := by have := congrArg (fun s => s.data.toList) h; exact this
theorem bOf_extract (l : List UInt8) (i j : Nat) : (bOf l).extract i j = bOf ((l.take j).drop i) := by
  have h := Go.Lib.extract_data (bOf l) i j
  rw [← bOf_data ((bOf l).extract i j), h, data_bOf, List.drop_take]
theorem bOf_append (a b : List UInt8) : bOf a ++ bOf b = bOf (a ++ b) := by
  have h : ((bOf a) ++ (bOf b)).data.toList = a ++ b := by simp [bOf]
  rw [← bOf_data (bOf a ++ bOf b), h]
theorem bOf_lit0 : (⟨#[]⟩ : ByteArray) = bOf [] := rfl
theorem ex_bOf (s : ByteArray) : ∃ l, s = bOf l ∧ l.length = s.size := ⟨s.data.toList, (bOf_data s).symm, size_data s⟩
/-- the byte at a place, as a number -/
def at_ (l : List UInt8) (i : Nat) : Int := (l.getD i 0).toNat
theorem bt_bOf (l : List UInt8) (i : Int) (h0 : 0 ≤ i) (h : i < l.length) : bt (bOf l) i = at_ l i.toNat := by
  have h' : i.toNat < (bOf l).size := by rw [bOf_size]; omega
  rw [← bt_at (bOf l) i h', at_]
  have hl : i.toNat < l.length := by omega
  rw [List.getD_eq_getElem?_getD, List.getElem?_eq_getElem hl]
  rfl
theorem at_range (l : List UInt8) (i : Nat) : 0 ≤ at_ l i ∧ at_ l i ≤ 255 := by unfold at_; have := (l.getD i 0).toNat_lt; omega
theorem at_cons_zero (c : UInt8) (l : List UInt8) : at_ (c :: l) 0 = c.toNat := rfl
theorem at_cons_succ (c : UInt8) (l : List UInt8) (i : Nat) : at_ (c :: l) (i + 1) = at_ l i := by simp [at_]
theorem at_lt (l : List UInt8) (i : Nat) (h : i < l.length) : at_ l i = (l[i]).toNat := by simp [at_, List.getD_eq_getElem?_getD, List.getElem?_eq_getElem h]
theorem u8_eq {c : UInt8} {n : Nat} (hn : n < 256) : (c.toNat : Int) = n ↔ c = UInt8.ofNat n := by
  constructor
  · intro h
    have h' : c.toNat = n := by omega
    rw [← h']; simp
  · intro h; subst h; simp; omega
theorem wrap_id {n : Int} (h0 : -9223372036854775808 ≤ n) (h : n ≤ 9223372036854775807) : wrap64 n = n := Go.IntWalk.wrap64_in n ⟨h0, h⟩
/-! Rounds -/
theorem Ev.uniq {α : Type} {g : Nat → Option α} {a b : α} (h : Ev g a) (k : Ev g b) : a = b := by
  obtain ⟨K, h⟩ := h
  obtain ⟨K', k⟩ := k
  have h1 := h (max K K') (by omega)
  have h2 := k (max K K') (by omega)
  exact Option.some.inj (h1.symm.trans h2)
theorem Ev.ite {α : Type} {c : Prop} [Decidable c] {f g : Nat → Option α} {r : α} (h : c → Ev f r) (k : ¬ c → Ev g r) : Ev (fun n => if c then f n else g n) r := by
  by_cases hc : c
  · exact Ev.congr (fun n => if_pos hc) (h hc)
  · exact Ev.congr (fun n => if_neg hc) (k hc)
theorem Ev.pos {α : Type} {c : Prop} [Decidable c] {f g : Nat → Option α} {r : α} (hc : c) (h : Ev f r) : Ev (fun n => if c then f n else g n) r := Ev.congr (fun n => if_pos hc) h
theorem Ev.neg {α : Type} {c : Prop} [Decidable c] {f g : Nat → Option α} {r : α} (hc : ¬ c) (h : Ev g r) : Ev (fun n => if c then f n else g n) r := Ev.congr (fun n => if_neg hc) h
/-- a call without rounds -/
theorem Ev.sbind {α β : Type} {x : Option α} {f : Nat → α → Option β} {a : α} {r : β} (h : x = some a) (k : Ev (fun n => f n a) r) : Ev (fun n => x.bind (f n)) r := Ev.congr (fun n => by rw [h]; rfl) k
theorem Ev.some' {α : Type} {a r : α} (h : a = r) : Ev (fun _ => some a) r := ⟨0, fun _ _ => by rw [h]⟩
theorem Ev.eq {α : Type} {g : Nat → Option α} {a b : α} (h : Ev g a) (e : a = b) : Ev g b := e ▸ h
end Go.Proofs.YtdiefodncfnfeaaDoor.Pu

/- Stored replies: are there few; are they the same: the reference's answers. -/
namespace Go.Proofs.YtdiefodncfnfeaaDoor.Pu
open Go.RowKit Go.Proofs.YtdiefodncfnfeaaDoorW.PrintWords Go.Proofs.YtdiefodncfnfeaaDoorW.PrintLast Go.Proofs.YtdiefodncfnfeaaDoor.PR
set_option linter.unusedVariables false
set_option linter.unusedSimpArgs false

theorem rdF_at (l : List S62) (i : Nat) (h : i < l.length) : rd_T62 l i = l[i] := by
  show l.getD (i : Int).toNat _ = _
  rw [Int.toNat_natCast, List.getD_eq_getElem?_getD, List.getElem?_eq_getElem h]; rfl
theorem rdP_at (l : List S53) (i : Nat) (h : i < l.length) : rd_T53 l i = l[i] := by
  show l.getD (i : Int).toNat _ = _
  rw [Int.toNat_natCast, List.getD_eq_getElem?_getD, List.getElem?_eq_getElem h]; rfl
theorem rdS_at (l : List S28) (i : Nat) (h : i < l.length) : rd_T28 l i = l[i] := by
  show l.getD (i : Int).toNat _ = _
  rw [Int.toNat_natCast, List.getD_eq_getElem?_getD, List.getElem?_eq_getElem h]; rfl
theorem wrap_nat (i n : Nat) (h : i < n) (hn : n ≤ 9223372036854775807) : wrap64 ((i : Int) + 1) = ((i + 1 : Nat) : Int) := by rw [wrap_id (by omega) (by omega)]; omega
/-- small fields -/
def smallF (n : Nat) (x : S62) : Prop := x.f0.size ≤ n ∧ x.f1.size ≤ n
def smallP (n : Nat) (x : S53) : Prop := x.f0.size ≤ n ∧ x.f2.size ≤ n
def smallS (n : Nat) (x : S28) : Prop := x.f0.f1.size ≤ n ∧ x.f0.f4.size ≤ n ∧ (x.f0.f3.length ≤ 70 ∧ ∀ f ∈ x.f0.f3, smallF n f) ∧ (x.f2.length ≤ 70 ∧ ∀ p ∈ x.f2, smallP n p)
theorem few09_l0 (l : List S62) (m n : Nat) (hl : l.length ≤ 9223372036854775807) : ∀ (d i : Nat), d + i = l.length → (∀ j (h : j < l.length), j < i → smallF n l[j]) →
    ∃ b, Ev (fun k => depotref09_Few.l0 k l m n i) b ∧ (b = true → l.length ≤ m ∧ ∀ x ∈ l, smallF n x) := by
  have fin : ∀ i, (∀ j (h : j < l.length), j < i → smallF n l[j]) → l.length ≤ i ∨ m < i → (decide ((l.length : Int) ≤ (m : Int))) = true → i ≤ l.length → l.length ≤ m ∧ ∀ x ∈ l, smallF n x := by
    intro i hi hc hb hil
    have := of_decide_eq_true hb
    refine ⟨by omega, fun x hx => ?_⟩
    obtain ⟨j, hj, rfl⟩ := List.getElem_of_mem hx
    exact hi j hj (by omega)
  intro d
  induction d with
  | zero =>
    intro i hd hi
    refine ⟨decide ((l.length : Int) ≤ (m : Int)), ?_, fun hb => fin i hi (.inl (by omega)) hb (by omega)⟩
    refine Ev.step (fun k => by rw [depotref09_Few.l0]) (Ev.neg (by omega) ?_)
    exact Ev.step (fun k => by rw [depotref09_Few.j1]) (Ev.neg (by simp) (Ev.some' rfl))
  | succ d ih =>
    intro i hd hi
    by_cases hm : i ≤ m
    · by_cases hs : smallF n l[i]
      · obtain ⟨b, hb, hc⟩ := ih (i + 1) (by omega) (fun j h hj => by
          by_cases e : j = i
          · subst e; exact hs
          · exact hi j h (by omega))
        refine ⟨b, ?_, hc⟩
        refine Ev.step (fun k => by rw [depotref09_Few.l0]) (Ev.pos (by omega) ?_)
        refine Ev.step (fun k => by rw [depotref09_Few.j1, rdF_at l i (by omega)]) (Ev.pos (decide_eq_true (by omega)) (Ev.pos (by omega) (Ev.pos (by omega) ?_)))
        refine Ev.neg (by have := hs.1; omega) (Ev.neg (by have := hs.2; omega) ?_)
        rw [wrap_nat i l.length (by omega) hl]
        exact hb
      · refine ⟨false, ?_, fun h => by cases h⟩
        refine Ev.step (fun k => by rw [depotref09_Few.l0]) (Ev.pos (by omega) ?_)
        refine Ev.step (fun k => by rw [depotref09_Few.j1, rdF_at l i (by omega)]) (Ev.pos (decide_eq_true (by omega)) (Ev.pos (by omega) (Ev.pos (by omega) ?_)))
        by_cases h0 : l[i].f0.size ≤ n
        · refine Ev.neg (by omega) (Ev.pos ?_ (Ev.some' rfl))
          have : ¬ l[i].f1.size ≤ n := fun h1 => hs ⟨h0, h1⟩
          omega
        · exact Ev.pos (by omega) (Ev.some' rfl)
    · refine ⟨decide ((l.length : Int) ≤ (m : Int)), ?_, fun hb => fin i hi (.inr (by omega)) hb (by omega)⟩
      refine Ev.step (fun k => by rw [depotref09_Few.l0]) (Ev.pos (by omega) ?_)
      exact Ev.step (fun k => by rw [depotref09_Few.j1]) (Ev.neg (by simp; omega) (Ev.some' rfl))
theorem few09 (l : List S62) (m n : Nat) (hl : l.length ≤ 9223372036854775807) : ∃ b, Ev (fun k => depotref09_Few.f k l m n) b ∧ (b = true → l.length ≤ m ∧ ∀ x ∈ l, smallF n x) :=
  few09_l0 l m n hl l.length 0 (by omega) (fun _ _ h => absurd h (Nat.not_lt_zero _))
theorem few15_l0 (l : List S53) (m n : Nat) (hl : l.length ≤ 9223372036854775807) : ∀ (d i : Nat), d + i = l.length → (∀ j (h : j < l.length), j < i → smallP n l[j]) →
    ∃ b, Ev (fun k => depotref15_Few.l0 k l m n i) b ∧ (b = true → l.length ≤ m ∧ ∀ x ∈ l, smallP n x) := by
  have fin : ∀ i, (∀ j (h : j < l.length), j < i → smallP n l[j]) → l.length ≤ i ∨ m < i → (decide ((l.length : Int) ≤ (m : Int))) = true → i ≤ l.length → l.length ≤ m ∧ ∀ x ∈ l, smallP n x := by
    intro i hi hc hb hil
    have := of_decide_eq_true hb
    refine ⟨by omega, fun x hx => ?_⟩
    obtain ⟨j, hj, rfl⟩ := List.getElem_of_mem hx
    exact hi j hj (by omega)
  intro d
  induction d with
  | zero =>
    intro i hd hi
    refine ⟨decide ((l.length : Int) ≤ (m : Int)), ?_, fun hb => fin i hi (.inl (by omega)) hb (by omega)⟩
    refine Ev.step (fun k => by rw [depotref15_Few.l0]) (Ev.neg (by omega) ?_)
    exact Ev.step (fun k => by rw [depotref15_Few.j1]) (Ev.neg (by simp) (Ev.some' rfl))
  | succ d ih =>
    intro i hd hi
    by_cases hm : i ≤ m
    · by_cases hs : smallP n l[i]
      · obtain ⟨b, hb, hc⟩ := ih (i + 1) (by omega) (fun j h hj => by
          by_cases e : j = i
          · subst e; exact hs
          · exact hi j h (by omega))
        refine ⟨b, ?_, hc⟩
        refine Ev.step (fun k => by rw [depotref15_Few.l0]) (Ev.pos (by omega) ?_)
        refine Ev.step (fun k => by rw [depotref15_Few.j1, rdP_at l i (by omega)]) (Ev.pos (decide_eq_true (by omega)) (Ev.pos (by omega) (Ev.pos (by omega) ?_)))
        refine Ev.neg (by have := hs.1; omega) (Ev.neg (by have := hs.2; omega) ?_)
        rw [wrap_nat i l.length (by omega) hl]
        exact hb
      · refine ⟨false, ?_, fun h => by cases h⟩
        refine Ev.step (fun k => by rw [depotref15_Few.l0]) (Ev.pos (by omega) ?_)
        refine Ev.step (fun k => by rw [depotref15_Few.j1, rdP_at l i (by omega)]) (Ev.pos (decide_eq_true (by omega)) (Ev.pos (by omega) (Ev.pos (by omega) ?_)))
        by_cases h0 : l[i].f0.size ≤ n
        · refine Ev.neg (by omega) (Ev.pos ?_ (Ev.some' rfl))
          have : ¬ l[i].f2.size ≤ n := fun h1 => hs ⟨h0, h1⟩
          omega
        · exact Ev.pos (by omega) (Ev.some' rfl)
    · refine ⟨decide ((l.length : Int) ≤ (m : Int)), ?_, fun hb => fin i hi (.inr (by omega)) hb (by omega)⟩
      refine Ev.step (fun k => by rw [depotref15_Few.l0]) (Ev.pos (by omega) ?_)
      exact Ev.step (fun k => by rw [depotref15_Few.j1]) (Ev.neg (by simp; omega) (Ev.some' rfl))
theorem few15 (l : List S53) (m n : Nat) (hl : l.length ≤ 9223372036854775807) : ∃ b, Ev (fun k => depotref15_Few.f k l m n) b ∧ (b = true → l.length ≤ m ∧ ∀ x ∈ l, smallP n x) :=
  few15_l0 l m n hl l.length 0 (by omega) (fun _ _ h => absurd h (Nat.not_lt_zero _))
/-- what is known of an argument's rows: they are no longer than a machine's -/
def okS (x : S28) : Prop := x.f0.f3.length ≤ 9223372036854775807 ∧ x.f2.length ≤ 9223372036854775807
theorem fewS_l0 (l : List S28) (m n : Nat) (hl : l.length ≤ 9223372036854775807) (hok : ∀ x ∈ l, okS x) : ∀ (d i : Nat), d + i = l.length → (∀ j (h : j < l.length), j < i → smallS n l[j]) →
    ∃ b, Ev (fun k => depotref20_Few.l0 k l m n i) b ∧ (b = true → l.length ≤ m ∧ ∀ x ∈ l, smallS n x) := by
  have fin : ∀ i, (∀ j (h : j < l.length), j < i → smallS n l[j]) → l.length ≤ i ∨ m < i → (decide ((l.length : Int) ≤ (m : Int))) = true → i ≤ l.length → l.length ≤ m ∧ ∀ x ∈ l, smallS n x := by
    intro i hi hc hb hil
    have := of_decide_eq_true hb
    refine ⟨by omega, fun x hx => ?_⟩
    obtain ⟨j, hj, rfl⟩ := List.getElem_of_mem hx
    exact hi j hj (by omega)
  intro d
  induction d with
  | zero =>
    intro i hd hi
    refine ⟨decide ((l.length : Int) ≤ (m : Int)), ?_, fun hb => fin i hi (.inl (by omega)) hb (by omega)⟩
    refine Ev.step (fun k => by rw [depotref20_Few.l0]) (Ev.neg (by omega) ?_)
    exact Ev.step (fun k => by rw [depotref20_Few.j1]) (Ev.neg (by simp) (Ev.some' rfl))
  | succ d ih =>
    intro i hd hi
    by_cases hm : i ≤ m
    · have hlt : i < l.length := by omega
      have hoi := hok l[i] (List.getElem_mem hlt)
      obtain ⟨b1, e1, g1⟩ := few09 l[i].f0.f3 70 n hoi.1
      obtain ⟨b2, e2, g2⟩ := few15 l[i].f2 70 n hoi.2
      have pre : ∀ (b : Bool), Ev (fun k => (depotref12_FewReply.f k l[i].f0.f0 l[i].f0.f1 l[i].f0.f2 l[i].f0.f3 l[i].f0.f4 n).bind fun t108 => if t108 = true then (depotref15_Few.f k l[i].f2 70 n).bind fun t110 => if t110 = true then depotref20_Few.l0 k l m n (wrap64 ((i : Int) + 1)) else some false else some false) b → Ev (fun k => depotref20_Few.l0 k l m n i) b := by
        intro b hb
        refine Ev.step (fun k => by rw [depotref20_Few.l0]) (Ev.pos (by omega) ?_)
        exact Ev.step (fun k => by rw [depotref20_Few.j1, rdS_at l i hlt]) (Ev.pos (decide_eq_true (by omega)) (Ev.pos (by omega) (Ev.pos (by omega) hb)))
      by_cases h1 : l[i].f0.f1.size ≤ n
      · by_cases h4 : l[i].f0.f4.size ≤ n
        · have er : Ev (fun k => depotref12_FewReply.f k l[i].f0.f0 l[i].f0.f1 l[i].f0.f2 l[i].f0.f3 l[i].f0.f4 n) b1 := by
            unfold depotref12_FewReply.f
            exact Ev.pos (by omega) (Ev.pos (by omega) (Ev.bind e1 (Ev.some' rfl)))
          cases b1 with
          | false => exact ⟨false, pre false (Ev.bind er (Ev.neg (by simp) (Ev.some' rfl))), fun h => by cases h⟩
          | true =>
            cases b2 with
            | false => exact ⟨false, pre false (Ev.bind er (Ev.pos rfl (Ev.bind e2 (Ev.neg (by simp) (Ev.some' rfl))))), fun h => by cases h⟩
            | true =>
              obtain ⟨b, hb, hc⟩ := ih (i + 1) (by omega) (fun j h hj => by
                by_cases e : j = i
                · subst e; exact ⟨h1, h4, g1 rfl, g2 rfl⟩
                · exact hi j h (by omega))
              refine ⟨b, pre b (Ev.bind er (Ev.pos rfl (Ev.bind e2 (Ev.pos rfl ?_)))), hc⟩
              rw [wrap_nat i l.length hlt hl]
              exact hb
        · exact ⟨false, pre false (Ev.bind (a := false) (by unfold depotref12_FewReply.f; exact Ev.pos (by omega) (Ev.neg (by omega) (Ev.some' rfl))) (Ev.neg (by simp) (Ev.some' rfl))), fun h => by cases h⟩
      · exact ⟨false, pre false (Ev.bind (a := false) (by unfold depotref12_FewReply.f; exact Ev.neg (by omega) (Ev.some' rfl)) (Ev.neg (by simp) (Ev.some' rfl))), fun h => by cases h⟩
    · refine ⟨decide ((l.length : Int) ≤ (m : Int)), ?_, fun hb => fin i hi (.inr (by omega)) hb (by omega)⟩
      refine Ev.step (fun k => by rw [depotref20_Few.l0]) (Ev.pos (by omega) ?_)
      exact Ev.step (fun k => by rw [depotref20_Few.j1]) (Ev.neg (by simp; omega) (Ev.some' rfl))
theorem fewS (l : List S28) (m n : Nat) (hl : l.length ≤ 9223372036854775807) (hok : ∀ x ∈ l, okS x) : ∃ b, Ev (fun k => depotref20_Few.f k l m n) b ∧ (b = true → l.length ≤ m ∧ ∀ x ∈ l, smallS n x) :=
  fewS_l0 l m n hl hok l.length 0 (by omega) (fun _ _ h => absurd h (Nat.not_lt_zero _))
/-! the same? -/
theorem toList_eq {a b : ByteArray} (h : a.toList = b.toList) : a = b := by
  rw [← bOf_data a, ← bOf_data b] at h ⊢
  rw [toList_bOf, toList_bOf] at h
  rw [h]
def eqF (x y : S62) : Bool := x.f0.toList == y.f0.toList && x.f1.toList == y.f1.toList
def eqP (x y : S53) : Bool := x.f0.toList == y.f0.toList && (x.f1 == y.f1 && x.f2.toList == y.f2.toList)
theorem eqF_iff (x y : S62) : eqF x y = true ↔ x = y := by
  obtain ⟨x0, x1⟩ := x
  obtain ⟨y0, y1⟩ := y
  unfold eqF
  simp only [Bool.and_eq_true, beq_iff_eq]
  exact ⟨fun h => by rw [toList_eq h.1, toList_eq h.2], fun h => by injection h with h1 h2; exact ⟨by rw [h1], by rw [h2]⟩⟩
theorem eqP_iff (x y : S53) : eqP x y = true ↔ x = y := by
  obtain ⟨x0, x1, x2⟩ := x
  obtain ⟨y0, y1, y2⟩ := y
  unfold eqP
  simp only [Bool.and_eq_true, beq_iff_eq]
  exact ⟨fun h => by rw [toList_eq h.1, h.2.1, toList_eq h.2.2], fun h => by injection h with h1 h2 h3; exact ⟨by rw [h1], h2, by rw [h3]⟩⟩
/-- two lists, from a place on -/
def eqL {α : Type} (eq : α → α → Bool) : List α → List α → Bool
  | [], [] => true
  | x :: l, y :: m => eq x y && eqL eq l m
  | _, _ => false
theorem eqL_iff {α : Type} (eq : α → α → Bool) (h : ∀ x y, eq x y = true ↔ x = y) : ∀ a b : List α, eqL eq a b = true ↔ a = b
  | [], [] => by simp [eqL]
  | [], y :: m => by simp [eqL]
  | x :: l, [] => by simp [eqL]
  | x :: l, y :: m => by simp [eqL, h, eqL_iff eq h l m]
theorem eqL_len {α : Type} (eq : α → α → Bool) : ∀ a b : List α, a.length ≠ b.length → eqL eq a b = false
  | [], [], h => absurd rfl h
  | [], y :: m, _ => rfl
  | x :: l, [], _ => rfl
  | x :: l, y :: m, h => by
    rw [eqL, eqL_len eq l m (by simpa using h), Bool.and_false]
theorem eqL_drop {α : Type} (eq : α → α → Bool) (a b : List α) (i : Nat) (h1 : i < a.length) (h2 : i < b.length) : eqL eq (a.drop i) (b.drop i) = (eq a[i] b[i] && eqL eq (a.drop (i + 1)) (b.drop (i + 1))) := by
  rw [List.drop_eq_getElem_cons h1, List.drop_eq_getElem_cons h2, eqL]
theorem same09_l0 (a b : List S62) (hab : a.length = b.length) (hl : a.length ≤ 9223372036854775807) : ∀ (d i : Nat), d + i = a.length → Ev (fun k => depotref09_Equal.l0 k a b i) (eqL eqF (a.drop i) (b.drop i)) := by
  intro d
  induction d with
  | zero =>
    intro i hd
    rw [List.drop_of_length_le (by omega), List.drop_of_length_le (by omega)]
    refine Ev.step (fun k => by rw [depotref09_Equal.l0]) ?_
    exact Ev.neg (by omega) (Ev.some' rfl)
  | succ d ih =>
    intro i hd
    rw [eqL_drop eqF a b i (by omega) (by omega)]
    refine Ev.step (fun k => by rw [depotref09_Equal.l0, rdF_at a i (by omega), rdF_at b i (by omega)]) (Ev.pos (by omega) (Ev.pos (by omega) (Ev.pos (by omega) ?_)))
    by_cases c : eqF a[i] b[i] = true
    · refine Ev.neg ?_ ?_
      · unfold eqF at c
        simp only [Bool.and_eq_true] at c
        rw [c.1, c.2]; simp
      · rw [c, Bool.true_and, wrap_nat i a.length (by omega) hl]
        exact ih (i + 1) (by omega)
    · refine Ev.pos ?_ ?_
      · unfold eqF at c
        revert c
        cases (a[i].f0.toList == b[i].f0.toList) <;> cases (a[i].f1.toList == b[i].f1.toList) <;> simp
      · rw [Bool.not_eq_true] at c
        rw [c, Bool.false_and]
        exact Ev.some' rfl
theorem same09 (a b : List S62) (hl : a.length ≤ 9223372036854775807) : Ev (fun k => depotref09_Equal.f k a b) (eqL eqF a b) := by
  unfold depotref09_Equal.f
  by_cases hab : a.length = b.length
  · exact Ev.pos (by omega) (same09_l0 a b hab hl a.length 0 (by omega))
  · rw [eqL_len eqF a b hab]
    exact Ev.neg (by omega) (Ev.some' rfl)
theorem same15_l0 (a b : List S53) (hab : a.length = b.length) (hl : a.length ≤ 9223372036854775807) : ∀ (d i : Nat), d + i = a.length → Ev (fun k => depotref15_Same.l0 k a b i) (eqL eqP (a.drop i) (b.drop i)) := by
  intro d
  induction d with
  | zero =>
    intro i hd
    rw [List.drop_of_length_le (by omega), List.drop_of_length_le (by omega)]
    refine Ev.step (fun k => by rw [depotref15_Same.l0]) ?_
    exact Ev.neg (by omega) (Ev.some' rfl)
  | succ d ih =>
    intro i hd
    rw [eqL_drop eqP a b i (by omega) (by omega)]
    refine Ev.step (fun k => by rw [depotref15_Same.l0, rdP_at a i (by omega), rdP_at b i (by omega)]) (Ev.pos (by omega) (Ev.pos (by omega) (Ev.pos (by omega) ?_)))
    by_cases c : eqP a[i] b[i] = true
    · refine Ev.neg ?_ ?_
      · unfold eqP at c
        simp only [Bool.and_eq_true] at c
        rw [c.1, c.2.1, c.2.2]; simp
      · rw [c, Bool.true_and, wrap_nat i a.length (by omega) hl]
        exact ih (i + 1) (by omega)
    · refine Ev.pos ?_ ?_
      · unfold eqP at c
        revert c
        cases (a[i].f0.toList == b[i].f0.toList) <;> cases (a[i].f1 == b[i].f1) <;> cases (a[i].f2.toList == b[i].f2.toList) <;> simp
      · rw [Bool.not_eq_true] at c
        rw [c, Bool.false_and]
        exact Ev.some' rfl
theorem same15 (a b : List S53) (hl : a.length ≤ 9223372036854775807) : Ev (fun k => depotref15_Same.f k a b) (eqL eqP a b) := by
  unfold depotref15_Same.f
  by_cases hab : a.length = b.length
  · exact Ev.pos (by omega) (same15_l0 a b hab hl a.length 0 (by omega))
  · rw [eqL_len eqP a b hab]
    exact Ev.neg (by omega) (Ev.some' rfl)
def eqS (x y : S28) : Bool := decide (x.f1 = y.f1) && (decide (x.f0.f0 = y.f0.f0) && (decide (x.f0.f1.toList = y.f0.f1.toList) && (decide (x.f0.f2 = y.f0.f2) && (decide (x.f0.f4.toList = y.f0.f4.toList) && (eqL eqF x.f0.f3 y.f0.f3 && eqL eqP x.f2 y.f2)))))
theorem eqS_iff (x y : S28) : eqS x y = true ↔ x = y := by
  obtain ⟨⟨x0, x1, x2, x3, x4⟩, x5, x6⟩ := x
  obtain ⟨⟨y0, y1, y2, y3, y4⟩, y5, y6⟩ := y
  unfold eqS
  simp only [Bool.and_eq_true, decide_eq_true_eq, eqL_iff eqF eqF_iff, eqL_iff eqP eqP_iff]
  constructor
  · rintro ⟨h5, h0, h1, h2, h4, h3, h6⟩
    rw [h5, h0, toList_eq h1, h2, toList_eq h4, h3, h6]
  · intro h
    injection h with h h5 h6
    injection h with h0 h1 h2 h3 h4
    exact ⟨h5, h0, by rw [h1], h2, by rw [h4], h3, h6⟩
theorem ref_One (x y : S28) (hx : okS x) : Ev (fun k => depotref20_One.f k x.f0.f0 x.f0.f1 x.f0.f2 x.f0.f3 x.f0.f4 x.f1 x.f2 y.f0.f0 y.f0.f1 y.f0.f2 y.f0.f3 y.f0.f4 y.f1 y.f2) (eqS x y) := by
  unfold depotref20_One.f depotref12_SameReply.f eqS
  by_cases h5 : x.f1 = y.f1
  · refine Ev.pos h5 ?_
    rw [decide_eq_true h5, Bool.true_and]
    by_cases h0 : x.f0.f0 = y.f0.f0
    · rw [decide_eq_true h0, Bool.true_and]
      by_cases h1 : x.f0.f1.toList = y.f0.f1.toList
      · rw [decide_eq_true h1, Bool.true_and]
        by_cases h2 : x.f0.f2 = y.f0.f2
        · rw [decide_eq_true h2, Bool.true_and]
          by_cases h4 : x.f0.f4.toList = y.f0.f4.toList
          · rw [decide_eq_true h4, Bool.true_and]
            refine Ev.bind (Ev.pos h0 (Ev.pos h1 (Ev.pos h2 (Ev.pos h4 (Ev.bind (same09 _ _ hx.1) (Ev.some' rfl)))))) ?_
            cases eqL eqF x.f0.f3 y.f0.f3
            · exact Ev.neg (by simp) (Ev.some' rfl)
            · exact Ev.pos rfl (Ev.bind (same15 _ _ hx.2) (Ev.some' rfl))
          · rw [decide_eq_false h4, Bool.false_and]
            exact Ev.bind (Ev.pos h0 (Ev.pos h1 (Ev.pos h2 (Ev.neg h4 (Ev.some' rfl))))) (Ev.neg (by simp) (Ev.some' rfl))
        · rw [decide_eq_false h2, Bool.false_and]
          exact Ev.bind (Ev.pos h0 (Ev.pos h1 (Ev.neg h2 (Ev.some' rfl)))) (Ev.neg (by simp) (Ev.some' rfl))
      · rw [decide_eq_false h1, Bool.false_and]
        exact Ev.bind (Ev.pos h0 (Ev.neg h1 (Ev.some' rfl))) (Ev.neg (by simp) (Ev.some' rfl))
    · rw [decide_eq_false h0, Bool.false_and]
      exact Ev.bind (Ev.neg h0 (Ev.some' rfl)) (Ev.neg (by simp) (Ev.some' rfl))
  · rw [decide_eq_false h5, Bool.false_and]
    exact Ev.neg h5 (Ev.some' rfl)
theorem sameS_l0 (a b : List S28) (hab : a.length = b.length) (hl : a.length ≤ 9223372036854775807) (hok : ∀ x ∈ a, okS x) : ∀ (d i : Nat), d + i = a.length → Ev (fun k => depotref20_Same.l0 k a b i) (eqL eqS (a.drop i) (b.drop i)) := by
  intro d
  induction d with
  | zero =>
    intro i hd
    rw [List.drop_of_length_le (by omega), List.drop_of_length_le (by omega)]
    refine Ev.step (fun k => by rw [depotref20_Same.l0]) ?_
    exact Ev.neg (by omega) (Ev.some' rfl)
  | succ d ih =>
    intro i hd
    rw [eqL_drop eqS a b i (by omega) (by omega)]
    refine Ev.step (fun k => by rw [depotref20_Same.l0, rdS_at a i (by omega), rdS_at b i (by omega)]) (Ev.pos (by omega) (Ev.pos (by omega) (Ev.pos (by omega) ?_)))
    refine Ev.bind (ref_One a[i] b[i] (hok _ (List.getElem_mem _))) ?_
    cases eqS a[i] b[i]
    · exact Ev.neg (by simp) (Ev.some' rfl)
    · refine Ev.pos rfl ?_
      rw [Bool.true_and, wrap_nat i a.length (by omega) hl]
      exact ih (i + 1) (by omega)
theorem sameS (a b : List S28) (hl : a.length ≤ 9223372036854775807) (hok : ∀ x ∈ a, okS x) : Ev (fun k => depotref20_Same.f k a b) (eqL eqS a b) := by
  unfold depotref20_Same.f
  by_cases hab : a.length = b.length
  · exact Ev.pos (by omega) (sameS_l0 a b hab hl hok a.length 0 (by omega))
  · rw [eqL_len eqS a b hab]
    exact Ev.neg (by omega) (Ev.some' rfl)
theorem sameS_refl (a : List S28) (hl : a.length ≤ 9223372036854775807) (hok : ∀ x ∈ a, okS x) : Ev (fun k => depotref20_Same.f k a a) true := Ev.eq (sameS a a hl hok) ((eqL_iff eqS eqS_iff a a).2 rfl)
end Go.Proofs.YtdiefodncfnfeaaDoor.Pu

/- The pure statements of VariantEncodes: the program's and the reference's answers are alike. -/
namespace Go.Proofs.YtdiefodncfnfeaaDoor.Pu
open Go.RowKit Go.Proofs.YtdiefodncfnfeaaDoorW.PrintWords Go.Proofs.YtdiefodncfnfeaaDoorW.PrintLast Go.Proofs.YtdiefodncfnfeaaDoor.PR
set_option linter.unusedVariables false
set_option linter.unusedSimpArgs false

theorem variants_60 : depotlaw20_variants.f 60 = some true := by kernel_rfl
theorem variants_true : Ev (fun k => depotlaw20_variants.f k) true := Ev.of depotlaw20_variants.mono variants_60
theorem variants_end : Ev (fun k => (depotlaw20_variants.f k).bind fun t => some t) true := Ev.bind variants_true (Ev.some' rfl)
theorem sum_le {α : Type} (sz : α → Nat) (b : Nat) : ∀ l : List α, (∀ x ∈ l, sz x ≤ b) → (l.map sz).sum ≤ l.length * b
  | [], _ => by simp
  | x :: l, h => by
    have h1 := sum_le sz b l (fun y hy => h y (List.mem_cons_of_mem _ hy))
    have h2 := h x List.mem_cons_self
    rw [List.map_cons, List.sum_cons, List.length_cons, Nat.succ_mul]
    omega
theorem szS_small (n : Nat) (x : S28) (h : smallS n x) : szS x ≤ 18 + 2 * n + 70 * (8 + 2 * n) + 70 * (9 + 2 * n) := by
  obtain ⟨h1, h4, ⟨h3, g3⟩, ⟨h2, g2⟩⟩ := h
  have e1 := sum_le szF (8 + 2 * n) x.f0.f3 (fun f hf => by have := g3 f hf; unfold szF; unfold smallF at this; omega)
  have e2 := sum_le szP (9 + 2 * n) x.f2 (fun f hf => by have := g2 f hf; unfold szP; unfold smallP at this; omega)
  have e3 : x.f0.f3.length * (8 + 2 * n) ≤ 70 * (8 + 2 * n) := Nat.mul_le_mul_right _ h3
  have e4 : x.f2.length * (9 + 2 * n) ≤ 70 * (9 + 2 * n) := Nat.mul_le_mul_right _ h2
  unfold szS
  omega
theorem encode_some (l : List S28) (m : Nat) (hm : m ≤ 20) (h : l.length ≤ m) (hs : ∀ x ∈ l, smallS 300 x) : variant_Encode.f l = some (encodeR (encodeW l)) := by
  unfold variant_Encode.f
  refine if_pos ⟨by omega, fun x hx => ?_, ?_⟩
  · have := hs x hx
    exact ⟨Nat.lt_of_le_of_lt this.2.2.1.1 (by decide), Nat.lt_of_le_of_lt this.2.2.2.1 (by decide)⟩
  · have e1 := sum_le szS 90000 l (fun x hx => by have := szS_small 300 x (hs x hx); omega)
    have e2 : l.length * 90000 ≤ 20 * 90000 := Nat.mul_le_mul_right _ (by omega)
    omega
theorem encodes_law (l : List S28) (hl : l.length ≤ 9223372036854775807) (hok : ∀ x ∈ l, okS x) : ∃ k, depotlaw20_VariantEncodes.f k l = some true := by
  refine Ev.rounds ?_
  unfold depotlaw20_VariantEncodes.f
  obtain ⟨b, hb, hc⟩ := fewS l 6 300 hl hok
  refine Ev.bind hb ?_
  cases b with
  | false => exact Ev.neg (by simp) variants_end
  | true =>
    refine Ev.pos rfl ?_
    obtain ⟨h1, h2⟩ := hc rfl
    have he := encode_some l 6 (by decide) h1 h2
    refine Ev.sbind he (Ev.sbind (show depotref20_Encode.f l = some (encodeR (encodeW l)) from he) (Ev.sbind (a := true) ?_ (Ev.pos rfl (Ev.pos rfl variants_end))))
    unfold depotref03_Same.f
    simp
end Go.Proofs.YtdiefodncfnfeaaDoor.Pu

/- Bytes and stored replies: what is written is read, and what is read is written as it was. -/
namespace Go.Proofs.YtdiefodncfnfeaaDoor.Pu
open Go.RowKit Go.Proofs.YtdiefodncfnfeaaDoorW.PrintWords Go.Proofs.YtdiefodncfnfeaaDoorW.PrintLast Go.Proofs.YtdiefodncfnfeaaDoor.PR
set_option linter.unusedVariables false
set_option linter.unusedSimpArgs false

structure Cod (α : Type) where
  ok : α → Prop
  enc : α → List Int
  wr : Int × List Int → α → Int × List Int
  dec : List Int → Nat × Int → α × Nat × Int
  w_ok : ∀ bs x, ok x → wr (0, bs) x = (0, bs ++ enc x)
  w_no : ∀ st x, (wr st x).1 = 0 → st.1 = 0 ∧ ok x
  e_oct : ∀ x, Oct (enc x)
  d_go : ∀ p x q, ok x → dec (p ++ (enc x ++ q)) (p.length, 0) = (x, p.length + (enc x).length, 0)
  d_back : ∀ L a, Oct L → a ≤ L.length → (dec L (a, 0)).2.2 = 0 → ok (dec L (a, 0)).1 ∧ ∃ m, (dec L (a, 0)).2.1 = a + m ∧ a + m ≤ L.length ∧ enc (dec L (a, 0)).1 = (L.drop a).take m
  d_cut : ∀ p x c, ok x → c <+: enc x → c.length < (enc x).length → (dec (p ++ c) (p.length, 0)).2.2 = 6
  d_err : ∀ L st, st.2 ≠ 0 → (dec L st).2 = st
theorem oct_append {a b : List Int} (ha : Oct a) (hb : Oct b) : Oct (a ++ b) := fun x hx => (List.mem_append.1 hx).elim (ha x) (hb x)
theorem take_take_drop (L : List Int) (a m n : Nat) (h : a + m + n ≤ L.length) : (L.drop a).take m ++ (L.drop (a + m)).take n = (L.drop a).take (m + n) := by
  rw [List.take_add, List.drop_drop]
theorem pre_split {c a b : List Int} (h : c <+: a ++ b) (hl : a.length ≤ c.length) : ∃ d, c = a ++ d ∧ d <+: b := by
  obtain ⟨t, ht⟩ := h
  have h1 : a <+: a ++ b := List.prefix_append a b
  have h2 : a <+: c := List.prefix_of_prefix_length_le h1 ⟨t, ht⟩ hl
  obtain ⟨d, rfl⟩ := h2
  refine ⟨d, rfl, t, ?_⟩
  rw [List.append_assoc] at ht
  exact List.append_cancel_left ht
theorem pre_short {c a b : List Int} (h : c <+: a ++ b) (hl : c.length ≤ a.length) : c <+: a := List.prefix_of_prefix_length_le h (List.prefix_append a b) hl
/-- Two in line. -/
def Cod.pair {α β : Type} (A : Cod α) (B : Cod β) : Cod (α × β) where
  ok x := A.ok x.1 ∧ B.ok x.2
  enc x := A.enc x.1 ++ B.enc x.2
  wr st x := B.wr (A.wr st x.1) x.2
  dec L st := (((A.dec L st).1, (B.dec L (A.dec L st).2).1), (B.dec L (A.dec L st).2).2)
  w_ok bs x h := by rw [A.w_ok bs x.1 h.1, B.w_ok _ x.2 h.2, List.append_assoc]
  w_no st x h := by
    have h1 := B.w_no _ _ h
    have h2 := A.w_no _ _ h1.1
    exact ⟨h2.1, h2.2, h1.2⟩
  e_oct x := oct_append (A.e_oct _) (B.e_oct _)
  d_go p x q h := by
    obtain ⟨x, y⟩ := x
    have h1 := A.d_go p x (B.enc y ++ q) h.1
    rw [← List.append_assoc] at h1
    have h2 := B.d_go (p ++ A.enc x) y q h.2
    rw [List.length_append, List.append_assoc, ← List.append_assoc (A.enc x)] at h2
    rw [show p ++ A.enc x ++ (B.enc y ++ q) = p ++ (A.enc x ++ B.enc y ++ q) by simp] at h1
    show (((A.dec (p ++ (A.enc x ++ B.enc y ++ q)) (p.length, 0)).1, (B.dec (p ++ (A.enc x ++ B.enc y ++ q)) (A.dec (p ++ (A.enc x ++ B.enc y ++ q)) (p.length, 0)).2).1), (B.dec (p ++ (A.enc x ++ B.enc y ++ q)) (A.dec (p ++ (A.enc x ++ B.enc y ++ q)) (p.length, 0)).2).2) = _
    rw [h1]
    simp only [h2, List.length_append, Nat.add_assoc]
  d_back L a hL ha h := by
    have e1 : (A.dec L (a, 0)).2.2 = 0 := by
      apply Classical.byContradiction
      intro hn
      have := B.d_err L (A.dec L (a, 0)).2 hn
      rw [this] at h
      exact hn h
    obtain ⟨o1, m1, p1, l1, q1⟩ := A.d_back L a hL ha e1
    have es : (A.dec L (a, 0)).2 = (a + m1, 0) := Prod.ext p1 e1
    simp only [es] at h ⊢
    obtain ⟨o2, m2, p2, l2, q2⟩ := B.d_back L (a + m1) hL l1 h
    refine ⟨⟨o1, o2⟩, m1 + m2, by rw [p2, Nat.add_assoc], by omega, ?_⟩
    rw [q1, q2]
    exact take_take_drop L a m1 m2 l2
  d_cut p x c h hc hl := by
    obtain ⟨x, y⟩ := x
    replace hc : c <+: A.enc x ++ B.enc y := hc
    replace hl : c.length < (A.enc x ++ B.enc y).length := hl
    by_cases hs : c.length < (A.enc x).length
    · have e := A.d_cut p x c h.1 (pre_short hc (by omega)) hs
      have e2 := B.d_err (p ++ c) (A.dec (p ++ c) (p.length, 0)).2 (by rw [e]; decide)
      simp only [e2, e]
    · obtain ⟨d, rfl, hd⟩ := pre_split hc (by omega)
      have h1 := A.d_go p x d h.1
      simp only [List.length_append] at hl
      have h2 := B.d_cut (p ++ A.enc x) y d h.2 hd (by omega)
      rw [List.length_append, List.append_assoc] at h2
      simp only [h1, h2]
  d_err L st h := by
    have h1 := A.d_err L st h
    simp only [h1]
    exact B.d_err L st h
/-- By another shape. -/
def Cod.iso {α β : Type} (A : Cod α) (f : β → α) (g : α → β) (fg : ∀ x, f (g x) = x) (gf : ∀ x, g (f x) = x) : Cod β where
  ok x := A.ok (f x)
  enc x := A.enc (f x)
  wr st x := A.wr st (f x)
  dec L st := (g (A.dec L st).1, (A.dec L st).2)
  w_ok bs x h := A.w_ok bs _ h
  w_no st x h := A.w_no st _ h
  e_oct x := A.e_oct _
  d_go p x q h := by rw [A.d_go p (f x) q h]; simp only [gf]
  d_back L a hL ha h := by simp only [fg]; exact A.d_back L a hL ha h
  d_cut p x c h hc hl := A.d_cut p (f x) c h hc hl
  d_err L st h := A.d_err L st h
theorem many_derr {α : Type} (A : Cod α) (n : Nat) (L : List Int) (st : Nat × Int) (h : st.2 ≠ 0) : (manyD (A.dec L) n st).2 = st := by rw [many_err _ _ _ (.inr h)]
theorem many_dgo {α : Type} (A : Cod α) : ∀ (xs : List α) (p q : List Int), (∀ x ∈ xs, A.ok x) → manyD (A.dec (p ++ ((xs.map A.enc).flatten ++ q))) xs.length (p.length, 0) = (xs, p.length + ((xs.map A.enc).flatten).length, 0)
  | [], p, q, h => by simp [manyD]
  | x :: xs, p, q, h => by
    rw [List.length_cons, many_go _ _ _ rfl]
    have e0 : p ++ (((x :: xs).map A.enc).flatten ++ q) = p ++ (A.enc x ++ ((xs.map A.enc).flatten ++ q)) := by simp
    have e1 := A.d_go p x ((xs.map A.enc).flatten ++ q) (h x List.mem_cons_self)
    have e2 := many_dgo A xs (p ++ A.enc x) q (fun y hy => h y (List.mem_cons_of_mem _ hy))
    rw [List.length_append, List.append_assoc] at e2
    rw [e0, e1]
    simp only [e2]
    simp [Nat.add_assoc]
theorem many_dback {α : Type} (A : Cod α) (L : List Int) (hL : Oct L) : ∀ (n a : Nat), a ≤ L.length → (manyD (A.dec L) n (a, 0)).2.2 = 0 →
    (manyD (A.dec L) n (a, 0)).1.length = n ∧ (∀ x ∈ (manyD (A.dec L) n (a, 0)).1, A.ok x) ∧ ∃ m, (manyD (A.dec L) n (a, 0)).2.1 = a + m ∧ a + m ≤ L.length ∧ ((manyD (A.dec L) n (a, 0)).1.map A.enc).flatten = (L.drop a).take m
  | 0, a, ha, h => ⟨rfl, (fun x hx => nomatch hx), 0, rfl, ha, rfl⟩
  | n + 1, a, ha, h => by
    rw [many_go _ _ _ rfl] at h ⊢
    have e1 : (A.dec L (a, 0)).2.2 = 0 := by
      apply Classical.byContradiction
      intro hn
      rw [show (manyD (A.dec L) n (A.dec L (a, 0)).2).2 = _ from many_derr A n L _ hn] at h
      exact hn h
    obtain ⟨o1, m1, p1, l1, q1⟩ := A.d_back L a hL ha e1
    have es : (A.dec L (a, 0)).2 = (a + m1, 0) := Prod.ext p1 e1
    simp only [es] at h ⊢
    obtain ⟨o2, o3, m2, p2, l2, q2⟩ := many_dback A L hL n (a + m1) l1 h
    refine ⟨by simp [o2], fun x hx => ?_, m1 + m2, by rw [p2, Nat.add_assoc], by omega, ?_⟩
    · rcases List.mem_cons.1 hx with rfl | hx
      · exact o1
      · exact o3 x hx
    · rw [List.map_cons, List.flatten_cons, q1, q2]
      exact take_take_drop L a m1 m2 l2
theorem many_dcut {α : Type} (A : Cod α) : ∀ (xs : List α) (p c : List Int), (∀ x ∈ xs, A.ok x) → c <+: (xs.map A.enc).flatten → c.length < ((xs.map A.enc).flatten).length → (manyD (A.dec (p ++ c)) xs.length (p.length, 0)).2.2 = 6
  | [], p, c, h, hc, hl => by simp at hl
  | x :: xs, p, c, h, hc, hl => by
    rw [List.length_cons, many_go _ _ _ rfl]
    rw [List.map_cons, List.flatten_cons] at hc hl
    by_cases hs : c.length < (A.enc x).length
    · have e := A.d_cut p x c (h x List.mem_cons_self) (pre_short hc (by omega)) hs
      rw [show (manyD (A.dec (p ++ c)) xs.length (A.dec (p ++ c) (p.length, 0)).2).2 = _ from many_derr A _ _ _ (by rw [e]; decide)]
      exact e
    · obtain ⟨d, rfl, hd⟩ := pre_split hc (by omega)
      have h1 := A.d_go p x d (h x List.mem_cons_self)
      rw [List.length_append, List.length_append] at hl
      have h2 := many_dcut A xs (p ++ A.enc x) d (fun y hy => h y (List.mem_cons_of_mem _ hy)) hd (by omega)
      rw [List.length_append, List.append_assoc] at h2
      simp only [h1, h2]
theorem many_wok {α : Type} (A : Cod α) : ∀ (xs : List α) (bs : List Int), (∀ x ∈ xs, A.ok x) → xs.foldl A.wr (0, bs) = (0, bs ++ (xs.map A.enc).flatten)
  | [], bs, h => by simp
  | x :: xs, bs, h => by
    rw [List.foldl_cons, A.w_ok bs x (h x List.mem_cons_self), many_wok A xs _ (fun y hy => h y (List.mem_cons_of_mem _ hy))]
    simp
theorem many_wno {α : Type} (A : Cod α) : ∀ (xs : List α) (st : Int × List Int), (xs.foldl A.wr st).1 = 0 → st.1 = 0 ∧ ∀ x ∈ xs, A.ok x
  | [], st, h => ⟨h, fun x hx => by cases hx⟩
  | x :: xs, st, h => by
    obtain ⟨h1, h2⟩ := many_wno A xs _ h
    obtain ⟨h3, h4⟩ := A.w_no st x h1
    refine ⟨h3, fun y hy => ?_⟩
    rcases List.mem_cons.1 hy with rfl | hy
    · exact h4
    · exact h2 y hy
theorem many_oct {α : Type} (A : Cod α) : ∀ xs : List α, Oct (xs.map A.enc).flatten
  | [] => fun x hx => by simp at hx
  | x :: xs => by rw [List.map_cons, List.flatten_cons]; exact oct_append (A.e_oct x) (many_oct A xs)
/-! numbers -/
theorem leBytes_succ (n : Int) (m : Nat) : PR.leBytes n (m + 1) = n % 256 :: PR.leBytes (n / 256) m := by
  unfold PR.leBytes
  rw [List.range_succ_eq_map, List.map_cons, List.map_map]
  congr 1
  · unfold leB; simp
  · apply List.map_congr_left
    intro j _
    show n / 2 ^ (8 * (j + 1)) % 256 = n / 256 / 2 ^ (8 * j) % 256
    rw [Int.ediv_ediv_of_nonneg (by decide), show (256 : Int) * 2 ^ (8 * j) = 2 ^ (8 * (j + 1)) by rw [Nat.mul_add, Int.pow_add, Int.mul_comm]; rfl]
theorem leBytes_len (n : Int) (m : Nat) : (PR.leBytes n m).length = m := by simp [PR.leBytes]
theorem leBytes_oct (n : Int) (m : Nat) : Oct (PR.leBytes n m) := by
  intro x hx
  obtain ⟨j, _, rfl⟩ := List.mem_map.1 hx
  have h1 := Int.emod_nonneg (n / 2 ^ (8 * j)) (show (256 : Int) ≠ 0 by decide)
  have h2 := Int.emod_lt_of_pos (n / 2 ^ (8 * j)) (show (0 : Int) < 256 by decide)
  exact ⟨h1, by show n / 2 ^ (8 * j) % 256 ≤ 255; omega⟩
theorem leN_leBytes : ∀ (m : Nat) (n : Int), 0 ≤ n → n < 256 ^ m → leN (PR.leBytes n m) = n
  | 0, n, h0, h1 => by
    have : n < 1 := h1
    show (0 : Int) = n
    omega
  | m + 1, n, h0, h1 => by
    rw [leBytes_succ]
    show n % 256 + 256 * leN (PR.leBytes (n / 256) m) = n
    rw [leN_leBytes m (n / 256) (by omega) (by rw [Int.pow_succ] at h1; omega)]
    omega
theorem leBytes_leN : ∀ l : List Int, Oct l → PR.leBytes (leN l) l.length = l
  | [], _ => rfl
  | b :: l, h => by
    have hb := h b List.mem_cons_self
    have hl := leN_lo l (fun x hx => h x (List.mem_cons_of_mem _ hx))
    rw [List.length_cons, leBytes_succ]
    show (b + 256 * leN l) % 256 :: PR.leBytes ((b + 256 * leN l) / 256) l.length = b :: l
    rw [show (b + 256 * leN l) % 256 = b by omega, show (b + 256 * leN l) / 256 = leN l by omega, leBytes_leN l (fun x hx => h x (List.mem_cons_of_mem _ hx))]
theorem getR_at (p l q : List Int) : getR (p ++ (l ++ q)) p.length l.length = (leN l, 0) := by
  unfold getR
  rw [if_pos (by simp only [List.length_append]; omega), List.drop_left, List.take_left]
/-- A number of some bytes, in limits. -/
def codNum (wd : Nat) (lo hi wrong : Int) (hlo : 0 ≤ lo) (hhi : hi < 256 ^ wd) (hw : wrong ≠ 0) : Cod Int where
  ok n := lo ≤ n ∧ n ≤ hi
  enc n := PR.leBytes n wd
  wr st n := numW st n wd lo hi wrong
  dec L st := numD L st wd lo hi
  w_ok bs x h := by unfold numW; rw [if_neg (by simp), if_pos h]
  w_no st x h := by
    unfold numW at h
    by_cases h1 : st.1 ≠ 0
    · rw [if_pos h1] at h; exact absurd h h1
    · rw [if_neg h1] at h
      refine ⟨Classical.not_not.1 h1, ?_⟩
      by_cases h2 : lo ≤ x ∧ x ≤ hi
      · exact h2
      · rw [if_neg h2] at h; exact absurd h hw
  e_oct x := leBytes_oct x wd
  d_go p x q h := by
    unfold numD
    have hg := getR_at p (PR.leBytes x wd) q
    rw [leBytes_len, leN_leBytes wd x (Int.le_trans hlo h.1) (Int.lt_of_le_of_lt h.2 hhi)] at hg
    rw [if_neg (by simp)]
    show (if p.length + wd ≤ _ then (if lo ≤ (getR _ p.length wd).1 ∧ (getR _ p.length wd).1 ≤ hi then ((getR _ p.length wd).1, p.length + wd, (0 : Int)) else (0, p.length, 5)) else (0, p.length, 6)) = _
    rw [if_pos (by simp only [List.length_append, leBytes_len]; omega), hg, if_pos h, leBytes_len]
  d_back L a hL ha h := by
    unfold numD at h ⊢
    rw [if_neg (by simp)] at h ⊢
    show _ ∧ _
    by_cases c : a + wd ≤ L.length
    · have e0 : (if (a, (0 : Int)).1 + wd ≤ L.length then (if lo ≤ (getR L (a, (0 : Int)).1 wd).1 ∧ (getR L (a, (0 : Int)).1 wd).1 ≤ hi then ((getR L (a, (0 : Int)).1 wd).1, (a, (0 : Int)).1 + wd, (0 : Int)) else (0, (a, (0 : Int)).1, 5)) else (0, (a, (0 : Int)).1, 6)) = (if lo ≤ (getR L a wd).1 ∧ (getR L a wd).1 ≤ hi then ((getR L a wd).1, a + wd, (0 : Int)) else (0, a, 5)) := if_pos c
      rw [e0] at h ⊢
      by_cases c2 : lo ≤ (getR L a wd).1 ∧ (getR L a wd).1 ≤ hi
      · rw [if_pos c2]
        refine ⟨c2, wd, rfl, c, ?_⟩
        show PR.leBytes (getR L a wd).1 wd = _
        unfold getR
        rw [if_pos c]
        have hl : ((L.drop a).take wd).length = wd := by rw [List.length_take, List.length_drop]; omega
        have := leBytes_leN ((L.drop a).take wd) (oct_cut hL a wd)
        rw [hl] at this
        exact this
      · rw [if_neg c2] at h
        exact absurd h (by show ¬ (5 : Int) = 0; decide)
    · have e0 : (if (a, (0 : Int)).1 + wd ≤ L.length then (if lo ≤ (getR L (a, (0 : Int)).1 wd).1 ∧ (getR L (a, (0 : Int)).1 wd).1 ≤ hi then ((getR L (a, (0 : Int)).1 wd).1, (a, (0 : Int)).1 + wd, (0 : Int)) else (0, (a, (0 : Int)).1, 5)) else (0, (a, (0 : Int)).1, 6)) = (0, a, 6) := if_neg c
      rw [e0] at h
      exact absurd h (by show ¬ (6 : Int) = 0; decide)
  d_cut p x c h hc hl := by
    rw [leBytes_len] at hl
    unfold numD
    rw [if_neg (by simp)]
    show (if p.length + wd ≤ (p ++ c).length then _ else ((0 : Int), p.length, (6 : Int))).2.2 = 6
    rw [if_neg (by rw [List.length_append]; omega)]
  d_err L st h := by unfold numD; rw [if_pos h]
/-! texts -/
theorem bytesOf_oct (s : ByteArray) : Oct (bytesOf s) := by
  intro x hx
  obtain ⟨b, _, rfl⟩ := List.mem_map.1 hx
  have := b.toNat_lt
  omega
theorem str_bytesOf (s : ByteArray) : strOfNums (bytesOf s) = s := by
  obtain ⟨⟨l⟩⟩ := s
  unfold strOfNums bytesOf
  congr 2
  rw [List.map_map]
  show l.map _ = l
  conv => rhs; rw [← List.map_id l]
  apply List.map_congr_left
  intro b _
  simp
theorem bytesOf_str (l : List Int) (h : Oct l) : bytesOf (strOfNums l) = l := by
  unfold strOfNums bytesOf
  rw [List.map_map]
  conv => rhs; rw [← List.map_id l]
  apply List.map_congr_left
  intro b hb
  have := h b hb
  simp
  omega
def codText : Cod ByteArray where
  ok s := s.size ≤ 65536
  enc s := PR.leBytes s.size 4 ++ bytesOf s
  wr st s := textW st s
  dec L st := textD L st
  w_ok bs x h := by unfold textW; rw [if_neg (by simp), if_neg (by omega), List.append_assoc]
  w_no st x h := by
    unfold textW at h
    by_cases h1 : st.1 ≠ 0
    · rw [if_pos h1] at h; exact absurd h h1
    · rw [if_neg h1] at h
      refine ⟨Classical.not_not.1 h1, ?_⟩
      by_cases h2 : 65536 < x.size
      · rw [if_pos h2] at h; exact absurd h (by decide)
      · omega
  e_oct x := oct_append (leBytes_oct _ _) (bytesOf_oct x)
  d_go p x q h := by
    have hg := getR_at p (PR.leBytes x.size 4) (bytesOf x ++ q)
    rw [leBytes_len, leN_leBytes 4 _ (by omega) (by show (x.size : Int) < 4294967296; omega)] at hg
    rw [List.append_assoc]
    have hle : (p ++ (PR.leBytes (x.size : Int) 4 ++ (bytesOf x ++ q))).length = p.length + 4 + x.size + q.length := by simp only [List.length_append, leBytes_len, bytesOf_length]; omega
    have ht : textG (p ++ (PR.leBytes (x.size : Int) 4 ++ (bytesOf x ++ q))) p.length = (x, 0, p.length + 4 + x.size) := by
      unfold textG
      rw [if_pos (by omega), hg]
      show (if (65536 : Int) < x.size then _ else if _ then _ else (strOfNums (((p ++ (PR.leBytes (x.size : Int) 4 ++ (bytesOf x ++ q))).drop (p.length + 4)).take (x.size : Int).toNat), (0 : Int), p.length + 4 + (x.size : Int).toNat)) = _
      rw [if_neg (by omega), if_neg (by omega), Int.toNat_natCast]
      have e1 : (p ++ (PR.leBytes (x.size : Int) 4 ++ (bytesOf x ++ q))).drop (p.length + 4) = bytesOf x ++ q := by
        rw [← List.append_assoc]
        exact List.drop_left' (by rw [List.length_append, leBytes_len])
      rw [e1, List.take_left' (bytesOf_length x), str_bytesOf]
    unfold textD
    rw [if_neg (by simp)]
    show ((textG _ p.length).1, (textG _ p.length).2.2, (textG _ p.length).2.1) = _
    rw [ht, List.length_append, leBytes_len, bytesOf_length, Nat.add_assoc]
  d_back L a hL ha h := by
    have e0 : textD L (a, 0) = ((textG L a).1, (textG L a).2.2, (textG L a).2.1) := if_neg (by simp)
    rw [e0] at h ⊢
    replace h : (textG L a).2.1 = 0 := h
    show (textG L a).1.size ≤ 65536 ∧ ∃ m, (textG L a).2.2 = a + m ∧ a + m ≤ L.length ∧ PR.leBytes (textG L a).1.size 4 ++ bytesOf (textG L a).1 = (L.drop a).take m
    unfold textG at h ⊢
    by_cases c : a + 4 ≤ L.length
    · rw [if_pos c] at h ⊢
      have hn0 : 0 ≤ (getR L a 4).1 := by unfold getR; rw [if_pos c]; exact leN_lo _ (oct_cut hL a 4)
      by_cases c1 : 65536 < (getR L a 4).1
      · rw [if_pos c1] at h; exact absurd h (by show ¬ (4 : Int) = 0; decide)
      · rw [if_neg c1] at h ⊢
        by_cases c2 : (L.length : Int) - (a + 4) < (getR L a 4).1
        · rw [if_pos c2] at h; exact absurd h (by show ¬ (6 : Int) = 0; decide)
        · rw [if_neg c2]
          have hge : (getR L a 4).1 = leN ((L.drop a).take 4) := by unfold getR; rw [if_pos c]
          have hl4 : ((L.drop a).take 4).length = 4 := by rw [List.length_take, List.length_drop]; omega
          have hb4 := leBytes_leN ((L.drop a).take 4) (oct_cut hL a 4)
          rw [hl4, ← hge] at hb4
          obtain ⟨n, hn⟩ := Int.eq_ofNat_of_zero_le hn0
          rw [hn] at hb4 c1 c2 ⊢
          rw [Int.toNat_natCast]
          have hbs := bytesOf_str ((L.drop (a + 4)).take n) (oct_cut hL _ _)
          have hsz : (strOfNums ((L.drop (a + 4)).take n)).size = n := by rw [← bytesOf_length, hbs, List.length_take, List.length_drop]; omega
          refine ⟨by show (strOfNums _).size ≤ _; rw [hsz]; omega, 4 + n, by show a + 4 + n = _; omega, by omega, ?_⟩
          show PR.leBytes ((strOfNums ((L.drop (a + 4)).take n)).size : Int) 4 ++ bytesOf (strOfNums ((L.drop (a + 4)).take n)) = _
          rw [hsz, hbs, hb4]
          exact take_take_drop L a 4 n (by omega)
    · rw [if_neg c] at h; exact absurd h (by show ¬ (6 : Int) = 0; decide)
  d_cut p x c h hc hl := by
    have e0 : textD (p ++ c) (p.length, 0) = ((textG (p ++ c) p.length).1, (textG (p ++ c) p.length).2.2, (textG (p ++ c) p.length).2.1) := if_neg (by simp)
    rw [e0]
    show (textG (p ++ c) p.length).2.1 = 6
    rw [List.length_append, leBytes_len, bytesOf_length] at hl
    unfold textG
    by_cases c4 : p.length + 4 ≤ (p ++ c).length
    · rw [if_pos c4]
      rw [List.length_append] at c4
      obtain ⟨d, rfl, hd⟩ := pre_split hc (by rw [leBytes_len]; omega)
      have hg := getR_at p (PR.leBytes x.size 4) d
      rw [leBytes_len, leN_leBytes 4 _ (by omega) (by show (x.size : Int) < 4294967296; omega)] at hg
      rw [hg]
      show (if (65536 : Int) < x.size then _ else if _ then ((⟨#[]⟩ : ByteArray), (6 : Int), p.length) else _).2.1 = 6
      rw [List.length_append, leBytes_len] at hl
      rw [if_neg (by omega), if_pos (by simp only [List.length_append, leBytes_len]; show ((_ : Nat) : Int) - _ < (x.size : Int); omega)]
    · rw [if_neg c4]
  d_err L st h := by unfold textD; rw [if_pos h]
theorem has_in (b : Bool) : 0 ≤ hasI b ∧ hasI b ≤ 1 := by cases b <;> decide
/-- A flag. -/
def codHas : Cod Bool where
  ok _ := True
  enc b := PR.leBytes (hasI b) 1
  wr st b := numW st (hasI b) 1 0 1 3
  dec L st := ((numD L st 1 0 1).1 == 1, (numD L st 1 0 1).2)
  w_ok bs x _ := (codNum 1 0 1 3 (by decide) (by decide) (by decide)).w_ok bs (hasI x) (has_in x)
  w_no st x h := ⟨((codNum 1 0 1 3 (by decide) (by decide) (by decide)).w_no st (hasI x) h).1, trivial⟩
  e_oct x := leBytes_oct _ _
  d_go p x q _ := by
    have h1 := (codNum 1 0 1 3 (by decide) (by decide) (by decide)).d_go p (hasI x) q (has_in x)
    replace h1 : numD (p ++ (PR.leBytes (hasI x) 1 ++ q)) (p.length, 0) 1 0 1 = (hasI x, p.length + (PR.leBytes (hasI x) 1).length, 0) := h1
    rw [h1]
    cases x <;> rfl
  d_back L a hL ha h := by
    obtain ⟨o, m, h1, h2, h3⟩ := (codNum 1 0 1 3 (by decide) (by decide) (by decide)).d_back L a hL ha h
    refine ⟨trivial, m, h1, h2, ?_⟩
    replace h3 : PR.leBytes (numD L (a, 0) 1 0 1).1 1 = (L.drop a).take m := h3
    replace o : 0 ≤ (numD L (a, 0) 1 0 1).1 ∧ (numD L (a, 0) 1 0 1).1 ≤ 1 := o
    rw [← h3]
    have : (numD L (a, 0) 1 0 1).1 = 0 ∨ (numD L (a, 0) 1 0 1).1 = 1 := by omega
    rcases this with h | h <;> rw [h] <;> rfl
  d_cut p x c _ hc hl := (codNum 1 0 1 3 (by decide) (by decide) (by decide)).d_cut p (hasI x) c (has_in x) hc hl
  d_err L st h := (codNum 1 0 1 3 (by decide) (by decide) (by decide)).d_err L st h
/-- A list behind its count. -/
def Cod.list {α : Type} (A : Cod α) (hi wrong : Int) (hh : 0 ≤ hi) (hhi : hi < 256) (hw : wrong ≠ 0) : Cod (List α) where
  ok l := (l.length : Int) ≤ hi ∧ ∀ x ∈ l, A.ok x
  enc l := PR.leBytes l.length 1 ++ (l.map A.enc).flatten
  wr st l := l.foldl A.wr (numW st l.length 1 0 hi wrong)
  dec L st := manyD (A.dec L) (numD L st 1 0 hi).1.toNat (numD L st 1 0 hi).2
  w_ok bs l h := by
    rw [(codNum 1 0 hi wrong (by decide) hhi hw).w_ok bs l.length ⟨by omega, h.1⟩ |> (show numW (0, bs) l.length 1 0 hi wrong = (0, bs ++ PR.leBytes l.length 1) from ·), many_wok A l _ h.2, List.append_assoc]
  w_no st l h := by
    obtain ⟨h1, h2⟩ := many_wno A l _ h
    have h3 := (codNum 1 0 hi wrong (by decide) hhi hw).w_no st l.length h1
    exact ⟨h3.1, h3.2.2, h2⟩
  e_oct l := oct_append (leBytes_oct _ _) (many_oct A l)
  d_go p l q h := by
    have h1 := (codNum 1 0 hi wrong (by decide) hhi hw).d_go p l.length ((l.map A.enc).flatten ++ q) ⟨by omega, h.1⟩
    replace h1 : numD (p ++ (PR.leBytes l.length 1 ++ ((l.map A.enc).flatten ++ q))) (p.length, 0) 1 0 hi = ((l.length : Int), p.length + (PR.leBytes (l.length : Int) 1).length, 0) := h1
    rw [List.append_assoc, h1]
    have h2 := many_dgo A l (p ++ PR.leBytes l.length 1) q h.2
    rw [List.length_append, List.append_assoc] at h2
    show manyD (A.dec _) (l.length : Int).toNat _ = _
    rw [Int.toNat_natCast]
    show manyD (A.dec _) l.length (p.length + (PR.leBytes (l.length : Int) 1).length, 0) = _
    rw [h2, List.length_append, Nat.add_assoc]
  d_back L a hL ha h := by
    have e1 : (numD L (a, 0) 1 0 hi).2.2 = 0 := by
      apply Classical.byContradiction
      intro hn
      rw [show (manyD (A.dec L) _ (numD L (a, 0) 1 0 hi).2).2 = _ from many_derr A _ L _ hn] at h
      exact hn h
    obtain ⟨o1, m1, p1, l1, q1⟩ := (codNum 1 0 hi wrong (by decide) hhi hw).d_back L a hL ha e1
    replace p1 : (numD L (a, 0) 1 0 hi).2.1 = a + m1 := p1
    replace q1 : PR.leBytes (numD L (a, 0) 1 0 hi).1 1 = (L.drop a).take m1 := q1
    replace o1 : 0 ≤ (numD L (a, 0) 1 0 hi).1 ∧ (numD L (a, 0) 1 0 hi).1 ≤ hi := o1
    have es : (numD L (a, 0) 1 0 hi).2 = (a + m1, 0) := Prod.ext p1 e1
    rw [es] at h ⊢
    obtain ⟨o2, o3, m2, p2, l2, q2⟩ := many_dback A L hL _ (a + m1) l1 h
    refine ⟨⟨by rw [o2]; omega, o3⟩, m1 + m2, by rw [p2, Nat.add_assoc], by omega, ?_⟩
    rw [o2, q2, show (((numD L (a, 0) 1 0 hi).1.toNat : Nat) : Int) = (numD L (a, 0) 1 0 hi).1 by omega, q1]
    exact take_take_drop L a m1 m2 l2
  d_cut p l c h hc hl := by
    have C := codNum 1 0 hi wrong (by decide) hhi hw
    by_cases hs : c.length < 1
    · have e : (numD (p ++ c) (p.length, 0) 1 0 hi).2.2 = 6 := (codNum 1 0 hi wrong (by decide) hhi hw).d_cut p l.length c ⟨by omega, h.1⟩ (pre_short (a := PR.leBytes l.length 1) hc (by rw [leBytes_len]; omega)) (by show c.length < (PR.leBytes _ _).length; rw [leBytes_len]; exact hs)
      rw [show (manyD (A.dec (p ++ c)) _ (numD (p ++ c) (p.length, 0) 1 0 hi).2).2 = _ from many_derr A _ _ _ (by rw [e]; decide)]
      exact e
    · obtain ⟨d, rfl, hd⟩ := pre_split hc (by rw [leBytes_len]; omega)
      have h1 : numD (p ++ (PR.leBytes l.length 1 ++ d)) (p.length, 0) 1 0 hi = ((l.length : Int), p.length + (PR.leBytes (l.length : Int) 1).length, 0) := (codNum 1 0 hi wrong (by decide) hhi hw).d_go p l.length d ⟨by omega, h.1⟩
      rw [List.length_append, List.length_append] at hl
      have h2 := many_dcut A l (p ++ PR.leBytes l.length 1) d h.2 hd (by omega)
      rw [List.length_append, List.append_assoc] at h2
      rw [h1]
      show (manyD (A.dec _) (l.length : Int).toNat (p.length + (PR.leBytes (l.length : Int) 1).length, 0)).2.2 = 6
      rw [Int.toNat_natCast]
      exact h2
  d_err L st h := by
    have e : (numD L st 1 0 hi).2 = st := (codNum 1 0 hi wrong (by decide) hhi hw).d_err L st h
    show (manyD (A.dec L) _ (numD L st 1 0 hi).2).2 = st
    rw [e]
    exact many_derr A _ L st h
end Go.Proofs.YtdiefodncfnfeaaDoor.Pu

/- The pure statements of VariantDecodes: the program's and the reference's answers are alike. -/
namespace Go.Proofs.YtdiefodncfnfeaaDoor.Pu
open Go.RowKit Go.Proofs.YtdiefodncfnfeaaDoorW.PrintWords Go.Proofs.YtdiefodncfnfeaaDoorW.PrintLast Go.Proofs.YtdiefodncfnfeaaDoor.PR
set_option linter.unusedVariables false
set_option linter.unusedSimpArgs false

theorem wf_u8 (x : Int) (h : (Lit.int .u8 x).wf = true) : 0 ≤ x ∧ x ≤ 255 := by
  have h1 : (decide (IntKind.u8.min ≤ x) && decide (x ≤ IntKind.u8.max)) = true := h
  simp only [Bool.and_eq_true, decide_eq_true_eq] at h1
  exact h1
theorem many_all {α : Type} (p : α → Prop) (item : Nat × Int → α × Nat × Int) (hi : ∀ st, p (item st).1) : ∀ (n : Nat) (st : Nat × Int), ∀ x ∈ (manyD item n st).1, p x
  | 0, st, x, hx => by cases hx
  | n + 1, st, x, hx => by
    by_cases h : st.2 = 0
    · rw [many_go item n st h] at hx
      rcases List.mem_cons.1 hx with rfl | hx
      · exact hi st
      · exact many_all p item hi n _ x hx
    · rw [many_err item _ _ (.inr h)] at hx
      cases hx
theorem num_small (L : List Int) (st : Nat × Int) (wd : Nat) (lo hi : Int) (h : 0 ≤ lo) (hh : 0 ≤ hi) : (numD L st wd lo hi).1.toNat ≤ hi.toNat := by
  have := numD_in L st wd hi lo h hh
  omega
theorem stored_ok (L : List Int) (st : Nat × Int) : (storedD L st).1.f0.f3.length ≤ 64 ∧ (storedD L st).1.f2.length ≤ 64 := by
  unfold storedD
  exact ⟨Nat.le_trans (many_len _ _ _) (num_small L _ 1 0 64 (by decide) (by decide)), Nat.le_trans (many_len _ _ _) (num_small L _ 1 0 64 (by decide) (by decide))⟩
theorem decode_ok (L : List Int) : (decodeE L (decodeD L)).1.length ≤ 4 ∧ ∀ x ∈ (decodeE L (decodeD L)).1, okS x := by
  have h1 : (decodeD L).1.length ≤ 4 := Nat.le_trans (many_len _ _ _) (num_small L (0, 0) 1 0 4 (by decide) (by decide))
  have h2 : ∀ x ∈ (decodeD L).1, okS x := many_all okS (storedD L) (fun st => by have := stored_ok L st; exact ⟨by omega, by omega⟩) _ _
  unfold decodeE
  split
  · exact ⟨Nat.zero_le _, fun x hx => by cases hx⟩
  · split
    · exact ⟨Nat.zero_le _, fun x hx => by cases hx⟩
    · exact ⟨h1, h2⟩
theorem decode_some (L : List Int) (hl : L.length ≤ 1000000) (hb : ∀ x ∈ L, 0 ≤ x ∧ x ≤ 255) : variant_Decode.f L = some (decodeE L (decodeD L)) := if_pos ⟨by omega, hb⟩
theorem decodes_law (L : List Int) (hb : ∀ x ∈ L, 0 ≤ x ∧ x ≤ 255) : ∃ k, depotlaw20_VariantDecodes.f k L = some true := by
  refine Ev.rounds ?_
  unfold depotlaw20_VariantDecodes.f
  by_cases hl : (L.length : Int) > 3000
  · exact Ev.pos hl variants_end
  · refine Ev.neg hl ?_
    have hd := decode_some L (by omega) hb
    have hk := decode_ok L
    refine Ev.sbind hd (Ev.sbind (show depotref20_Decode.f L = some (decodeE L (decodeD L)) from hd) (Ev.bind (sameS_refl _ (by omega) hk.2) (Ev.pos rfl (Ev.pos rfl variants_end))))
end Go.Proofs.YtdiefodncfnfeaaDoor.Pu

/- The pure statement of VariantBack: what is encoded is decoded, a part of it is not, and what is decoded is encoded as it was. -/
namespace Go.Proofs.YtdiefodncfnfeaaDoor.Pu
open Go.RowKit Go.Proofs.YtdiefodncfnfeaaDoorW.PrintWords Go.Proofs.YtdiefodncfnfeaaDoorW.PrintLast Go.Proofs.YtdiefodncfnfeaaDoor.PR
set_option linter.unusedVariables false
set_option linter.unusedSimpArgs false

def codF : Cod S62 := (codText.pair codText).iso (fun x => (x.f0, x.f1)) (fun p => ⟨p.1, p.2⟩) (fun _ => rfl) (fun _ => rfl)
def codP : Cod S53 := (codText.pair (codHas.pair codText)).iso (fun x => (x.f0, x.f1, x.f2)) (fun p => ⟨p.1, p.2.1, p.2.2⟩) (fun _ => rfl) (fun _ => rfl)
def codS : Cod S28 :=
  ((codNum 5 0 253402300799 3 (by decide) (by decide) (by decide)).pair ((codNum 2 200 599 3 (by decide) (by decide) (by decide)).pair ((codNum 1 0 1 3 (by decide) (by decide) (by decide)).pair (codText.pair ((codF.list 64 4 (by decide) (by decide) (by decide)).pair (codText.pair (codP.list 64 4 (by decide) (by decide) (by decide)))))))).iso
    (fun x => (x.f1, x.f0.f0, x.f0.f2, x.f0.f1, x.f0.f3, x.f0.f4, x.f2)) (fun p => ⟨⟨p.2.1, p.2.2.2.1, p.2.2.1, p.2.2.2.2.1, p.2.2.2.2.2.1⟩, p.1, p.2.2.2.2.2.2⟩) (fun _ => rfl) (fun _ => rfl)
def codL : Cod (List S28) := codS.list 4 4 (by decide) (by decide) (by decide)
theorem codF_wr (st : Int × List Int) (x : S62) : codF.wr st x = fieldW st x := rfl
theorem codP_wr (st : Int × List Int) (x : S53) : codP.wr st x = pickW st x := rfl
theorem codS_wr (st : Int × List Int) (x : S28) : codS.wr st x = storedW st x := rfl
theorem codL_wr (l : List S28) : codL.wr (0, []) l = encodeW l := rfl
theorem codF_dec (L : List Int) : codF.dec L = fieldD L := rfl
theorem codP_dec (L : List Int) (h : Oct L) : codP.dec L = pickD L := by
  funext st
  unfold pickD
  rw [hasD_num L _ h]
  rfl
theorem codS_dec (L : List Int) (h : Oct L) : codS.dec L = storedD L := by
  funext st
  have hp := codP_dec L h
  have e : codS.dec L st = (let t := numD L st 5 0 253402300799
    let c := numD L t.2 2 200 599
    let m := numD L c.2 1 0 1
    let r := textD L m.2
    let n := numD L r.2 1 0 64
    let fs := manyD (fieldD L) n.1.toNat n.2
    let bd := textD L fs.2
    let n2 := numD L bd.2 1 0 64
    let ps := manyD (codP.dec L) n2.1.toNat n2.2
    ((⟨⟨c.1, r.1, m.1, fs.1, bd.1⟩, t.1, ps.1⟩ : S28), ps.2)) := rfl
  rw [e, hp]
  rfl
theorem codL_dec (L : List Int) (h : Oct L) : codL.dec L (0, 0) = decodeD L := by
  have e : codL.dec L (0, 0) = manyD (codS.dec L) (numD L (0, 0) 1 0 4).1.toNat (numD L (0, 0) 1 0 4).2 := rfl
  rw [e, codS_dec L h]
  rfl
theorem flat_len {α : Type} (A : Cod α) (sz : α → Nat) (h : ∀ x, (A.enc x).length = sz x) : ∀ l : List α, ((l.map A.enc).flatten).length = (l.map sz).sum
  | [] => rfl
  | x :: l => by
    rw [List.map_cons, List.flatten_cons, List.length_append, h, flat_len A sz h l, List.map_cons, List.sum_cons]
theorem text_len (s : ByteArray) : (codText.enc s).length = 4 + s.size := by
  show (PR.leBytes s.size 4 ++ bytesOf s).length = _
  rw [List.length_append, leBytes_len, bytesOf_length]
theorem codF_len (x : S62) : (codF.enc x).length = szF x := by
  show (codText.enc x.f0 ++ codText.enc x.f1).length = _
  rw [List.length_append, text_len, text_len]
  unfold szF
  omega
theorem codP_len (x : S53) : (codP.enc x).length = szP x := by
  show (codText.enc x.f0 ++ (PR.leBytes (hasI x.f1) 1 ++ codText.enc x.f2)).length = _
  rw [List.length_append, List.length_append, text_len, text_len, leBytes_len]
  unfold szP
  omega
theorem codS_len (x : S28) : (codS.enc x).length = szS x := by
  have e : codS.enc x = PR.leBytes x.f1 5 ++ (PR.leBytes x.f0.f0 2 ++ (PR.leBytes x.f0.f2 1 ++ (codText.enc x.f0.f1 ++ ((PR.leBytes x.f0.f3.length 1 ++ (x.f0.f3.map codF.enc).flatten) ++ (codText.enc x.f0.f4 ++ (PR.leBytes x.f2.length 1 ++ (x.f2.map codP.enc).flatten)))))) := rfl
  rw [e]
  simp only [List.length_append, leBytes_len, text_len, flat_len codF szF codF_len, flat_len codP szP codP_len]
  unfold szS
  omega
theorem codL_len (l : List S28) : (codL.enc l).length = 1 + (l.map szS).sum := by
  show (PR.leBytes l.length 1 ++ (l.map codS.enc).flatten).length = _
  rw [List.length_append, leBytes_len, flat_len codS szS codS_len]
/-- encoded without an error: the list may be, and has these bytes -/
theorem encode_ok (l : List S28) (h : (encodeW l).1 = 0) : codL.ok l ∧ encodeW l = (0, codL.enc l) := by
  rw [← codL_wr] at h ⊢
  have h1 := (codL.w_no (0, []) l h).2
  exact ⟨h1, by rw [codL.w_ok [] l h1, List.nil_append]⟩
theorem decode_enc (l : List S28) (h : codL.ok l) : decodeE (codL.enc l) (decodeD (codL.enc l)) = (l, 0) := by
  rw [← codL_dec _ (codL.e_oct l)]
  have h1 := codL.d_go [] l [] h
  rw [List.append_nil, List.nil_append] at h1
  replace h1 : codL.dec (codL.enc l) (0, 0) = (l, 0 + (codL.enc l).length, 0) := h1
  rw [h1]
  unfold decodeE
  rw [if_neg (by simp), if_neg (by simp)]
theorem decode_cut (l : List S28) (h : codL.ok l) (n : Nat) (hn : n < (codL.enc l).length) : decodeE ((codL.enc l).take n) (decodeD ((codL.enc l).take n)) = ([], 6) := by
  rw [← codL_dec _ (fun x hx => codL.e_oct l x (List.mem_of_mem_take hx))]
  have h1 := codL.d_cut [] l ((codL.enc l).take n) h (List.take_prefix _ _) (by rw [List.length_take]; omega)
  rw [List.nil_append] at h1
  replace h1 : (codL.dec ((codL.enc l).take n) (0, 0)).2.2 = 6 := h1
  unfold decodeE
  rw [if_pos (by rw [h1]; decide), h1]
theorem decode_back (b : List Int) (hb : Oct b) (h : (decodeE b (decodeD b)).2 = 0) : codL.ok (decodeE b (decodeD b)).1 ∧ codL.enc (decodeE b (decodeD b)).1 = b := by
  rw [← codL_dec b hb] at h ⊢
  unfold decodeE at h ⊢
  by_cases h1 : (codL.dec b (0, 0)).2.2 ≠ 0
  · rw [if_pos h1] at h; exact absurd h h1
  · rw [if_neg h1] at h ⊢
    by_cases h2 : (codL.dec b (0, 0)).2.1 < b.length
    · rw [if_pos h2] at h; exact absurd h (by show ¬ (5 : Int) = 0; decide)
    · rw [if_neg h2]
      obtain ⟨o, m, p, l, q⟩ := codL.d_back b 0 hb (Nat.zero_le _) (Classical.not_not.1 h1)
      refine ⟨o, ?_⟩
      show codL.enc (codL.dec b (0, 0)).1 = b
      rw [q, List.drop_zero]
      exact List.take_of_length_le (by omega)
theorem same_refl03 (b : List Int) : depotref03_Same.f b b = some true := by unfold depotref03_Same.f; simp
theorem back_j3 (b : List Int) (hb : Oct b) (hl : b.length ≤ 3000) : Ev (fun k => depotlaw20_VariantBack.j3 k b) true := by
  refine Ev.step (fun k => by rw [depotlaw20_VariantBack.j3]) ?_
  refine Ev.sbind (decode_some b (by omega) hb) ?_
  by_cases h : (decodeE b (decodeD b)).2 = 0
  · refine Ev.pos h ?_
    obtain ⟨o, e⟩ := decode_back b hb h
    have ew : encodeW (decodeE b (decodeD b)).1 = (0, b) := by rw [← codL_wr, codL.w_ok [] _ o, List.nil_append, e]
    have el := codL_len (decodeE b (decodeD b)).1
    rw [e] at el
    have hk := decode_ok b
    have hs := o.2
    have es : variant_Encode.f (decodeE b (decodeD b)).1 = some (b, 0) := by
      unfold variant_Encode.f
      have hx : ∀ x ∈ (decodeE b (decodeD b)).1, x.f0.f3.length < 1000000 ∧ x.f2.length < 1000000 := by
        intro x hx
        have h1 := (hs x hx).2.2.2.2.1.1
        have h2 := (hs x hx).2.2.2.2.2.2.1
        exact ⟨by replace h1 : (x.f0.f3.length : Int) ≤ 64 := h1; omega, by replace h2 : (x.f2.length : Int) ≤ 64 := h2; omega⟩
      rw [if_pos ⟨by omega, hx, by omega⟩, ew]
      rfl
    exact Ev.sbind es (Ev.pos rfl (Ev.sbind (same_refl03 b) (Ev.pos rfl variants_end)))
  · refine Ev.neg h (Ev.pos ?_ variants_end)
    unfold decodeE at h ⊢
    split
    · rfl
    · rename_i h1
      split
      · rfl
      · rename_i h2
        rw [if_neg h1, if_neg h2] at h
        exact absurd rfl h
theorem back_law (l : List S28) (b : List Int) (cut : Int) (hl : l.length ≤ 9223372036854775807) (hok : ∀ x ∈ l, okS x) (hb : ∀ x ∈ b, 0 ≤ x ∧ x ≤ 255) : ∃ k, depotlaw20_VariantBack.f k l b cut = some true := by
  refine Ev.rounds ?_
  unfold depotlaw20_VariantBack.f
  have hend : Ev (fun k => depotlaw20_VariantBack.j0 k l b cut true) true := by
    refine Ev.step (fun k => by rw [depotlaw20_VariantBack.j0]) ?_
    exact Ev.pos rfl variants_end
  obtain ⟨f, hf, hc⟩ := fewS l 6 300 hl hok
  refine Ev.bind hf ?_
  cases f with
  | false => exact Ev.neg (by simp) hend
  | true =>
    refine Ev.pos rfl ?_
    obtain ⟨h1, h2⟩ := hc rfl
    by_cases hbl : (b.length : Int) > 3000
    · rw [decide_eq_true hbl]; exact hend
    · rw [decide_eq_false hbl]
      have hj3 := back_j3 b hb (by omega)
      refine Ev.step (fun k => by rw [depotlaw20_VariantBack.j0]) ?_
      refine Ev.neg (by simp) (Ev.sbind (encode_some l 6 (by decide) h1 h2) ?_)
      by_cases he : (encodeW l).1 = 0
      · obtain ⟨o, ew⟩ := encode_ok l he
        have er : encodeR (encodeW l) = (codL.enc l, 0) := by rw [ew]; rfl
        rw [er]
        refine Ev.pos rfl ?_
        have hlen : (codL.enc l).length ≤ 1000000 := by
          rw [codL_len]
          have e1 := sum_le szS 90000 l (fun x hx => by have := szS_small 300 x (h2 x hx); omega)
          have e2 : l.length * 90000 ≤ 6 * 90000 := Nat.mul_le_mul_right _ h1
          omega
        have ed := decode_some (codL.enc l) hlen (codL.e_oct l)
        rw [decode_enc l o] at ed
        refine Ev.sbind ed (Ev.pos rfl (Ev.bind (sameS_refl l hl hok) ?_))
        refine Ev.step (fun k => by rw [depotlaw20_VariantBack.j1]) (Ev.neg (by simp) ?_)
        have hj2f : Ev (fun k => depotlaw20_VariantBack.j2 k b cut (codL.enc l) false) true := by
          refine Ev.step (fun k => by rw [depotlaw20_VariantBack.j2]) ?_
          exact Ev.neg (by simp) hj3
        by_cases hcut : cut ≥ 0
        · refine Ev.pos hcut ?_
          by_cases hcl : cut < ((codL.enc l).length : Int)
          · rw [decide_eq_true hcl]
            refine Ev.step (fun k => by rw [depotlaw20_VariantBack.j2]) (Ev.pos rfl (Ev.pos hcut (Ev.pos (show cut ≤ ((codL.enc l).length : Int) by omega) ?_)))
            have ec := decode_some ((codL.enc l).take cut.toNat) (by rw [List.length_take]; omega) (fun x hx => codL.e_oct l x (List.mem_of_mem_take hx))
            rw [decode_cut l o cut.toNat (by omega)] at ec
            exact Ev.sbind ec (Ev.pos rfl hj3)
          · rw [decide_eq_false hcl]
            exact hj2f
        · exact Ev.neg hcut hj2f
      · refine Ev.neg ?_ hj3
        unfold encodeR
        rw [if_neg he]
        exact he
end Go.Proofs.YtdiefodncfnfeaaDoor.Pu
