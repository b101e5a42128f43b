/- Strings as lists of bytes; rounds: helpers for the plain laws of this session. -/
import Derived.Test.YtdiefodncfnfeaaDoorWWords
import Derived.Test.YtdiefodncfnfeaaDoorWLast
import Derived.Test.YtdiefodncfnfeaaDoorHand
import Derived.Lib.Strings
import Derived.IntWalk
namespace Go.Proofs.YtdiefodncfnfeaaDoor.Pu
open Go.RowKit Go.Proofs.YtdiefodncfnfeaaDoorW.PrintWords Go.Proofs.YtdiefodncfnfeaaDoorW.PrintLast
set_option linter.unusedVariables false
set_option linter.unusedSimpArgs false

def bOf (l : List UInt8) : ByteArray := ⟨l.toArray⟩
theorem bOf_data (s : ByteArray) : bOf s.data.toList = s := by obtain ⟨⟨l⟩⟩ := s; rfl
theorem bOf_mk (l : List UInt8) : (⟨l.toArray⟩ : ByteArray) = bOf l := rfl
theorem data_bOf (l : List UInt8) : (bOf l).data.toList = l := rfl
theorem bOf_size (l : List UInt8) : (bOf l).size = l.length := by unfold bOf; simp [ByteArray.size]
theorem size_data (s : ByteArray) : s.data.toList.length = s.size := data_length s
theorem toList_bOf (l : List UInt8) : (bOf l).toList = l := by rw [ByteArray.toList_eq]; rfl
theorem bOf_inj {a b : List UInt8} (h : bOf a = bOf b) : a = b := by have := congrArg (fun s => s.data.toList) h; exact this
theorem bOf_extract (l : List UInt8) (i j : Nat) : (bOf l).extract i j = bOf ((l.take j).drop i) := by
  have h := Go.Lib.extract_data (bOf l) i j
  rw [← bOf_data ((bOf l).extract i j), h, data_bOf, List.drop_take]
theorem bOf_append (a b : List UInt8) : bOf a ++ bOf b = bOf (a ++ b) := by
  have h : ((bOf a) ++ (bOf b)).data.toList = a ++ b := by simp [bOf]
  rw [← bOf_data (bOf a ++ bOf b), h]
theorem bOf_lit0 : (⟨#[]⟩ : ByteArray) = bOf [] := rfl
theorem ex_bOf (s : ByteArray) : ∃ l, s = bOf l ∧ l.length = s.size := ⟨s.data.toList, (bOf_data s).symm, size_data s⟩
/-- the byte at a place, as a number -/
def at_ (l : List UInt8) (i : Nat) : Int := (l.getD i 0).toNat
theorem bt_bOf (l : List UInt8) (i : Int) (h0 : 0 ≤ i) (h : i < l.length) : bt (bOf l) i = at_ l i.toNat := by
  have h' : i.toNat < (bOf l).size := by rw [bOf_size]; omega
  rw [← bt_at (bOf l) i h', at_]
  have hl : i.toNat < l.length := by omega
  rw [List.getD_eq_getElem?_getD, List.getElem?_eq_getElem hl]
  rfl
theorem at_range (l : List UInt8) (i : Nat) : 0 ≤ at_ l i ∧ at_ l i ≤ 255 := by unfold at_; have := (l.getD i 0).toNat_lt; omega
theorem at_cons_zero (c : UInt8) (l : List UInt8) : at_ (c :: l) 0 = c.toNat := rfl
theorem at_cons_succ (c : UInt8) (l : List UInt8) (i : Nat) : at_ (c :: l) (i + 1) = at_ l i := by simp [at_]
theorem at_lt (l : List UInt8) (i : Nat) (h : i < l.length) : at_ l i = (l[i]).toNat := by simp [at_, List.getD_eq_getElem?_getD, List.getElem?_eq_getElem h]
theorem u8_eq {c : UInt8} {n : Nat} (hn : n < 256) : (c.toNat : Int) = n ↔ c = UInt8.ofNat n := by
  constructor
  · intro h
    have h' : c.toNat = n := by omega
    rw [← h']; simp
  · intro h; subst h; simp; omega
theorem wrap_id {n : Int} (h0 : -9223372036854775808 ≤ n) (h : n ≤ 9223372036854775807) : wrap64 n = n := Go.IntWalk.wrap64_in n ⟨h0, h⟩
/-! Rounds -/
theorem Ev.uniq {α : Type} {g : Nat → Option α} {a b : α} (h : Ev g a) (k : Ev g b) : a = b := by
  obtain ⟨K, h⟩ := h
  obtain ⟨K', k⟩ := k
  have h1 := h (max K K') (by omega)
  have h2 := k (max K K') (by omega)
  exact Option.some.inj (h1.symm.trans h2)
theorem Ev.ite {α : Type} {c : Prop} [Decidable c] {f g : Nat → Option α} {r : α} (h : c → Ev f r) (k : ¬ c → Ev g r) : Ev (fun n => if c then f n else g n) r := by
  by_cases hc : c
  · exact Ev.congr (fun n => if_pos hc) (h hc)
  · exact Ev.congr (fun n => if_neg hc) (k hc)
theorem Ev.pos {α : Type} {c : Prop} [Decidable c] {f g : Nat → Option α} {r : α} (hc : c) (h : Ev f r) : Ev (fun n => if c then f n else g n) r := Ev.congr (fun n => if_pos hc) h
theorem Ev.neg {α : Type} {c : Prop} [Decidable c] {f g : Nat → Option α} {r : α} (hc : ¬ c) (h : Ev g r) : Ev (fun n => if c then f n else g n) r := Ev.congr (fun n => if_neg hc) h
/-- a call without rounds -/
theorem Ev.sbind {α β : Type} {x : Option α} {f : Nat → α → Option β} {a : α} {r : β} (h : x = some a) (k : Ev (fun n => f n a) r) : Ev (fun n => x.bind (f n)) r := Ev.congr (fun n => by rw [h]; rfl) k
theorem Ev.some' {α : Type} {a r : α} (h : a = r) : Ev (fun _ => some a) r := ⟨0, fun _ _ => by rw [h]⟩
theorem Ev.eq {α : Type} {g : Nat → Option α} {a b : α} (h : Ev g a) (e : a = b) : Ev g b := e ▸ h
end Go.Proofs.YtdiefodncfnfeaaDoor.Pu
