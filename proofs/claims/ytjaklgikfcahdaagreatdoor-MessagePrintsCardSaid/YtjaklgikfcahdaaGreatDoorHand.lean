/- Helpers for the walks that this session told by hand: facts on cells, on bytes, on loops over bytes. -/
import Derived.Test.YtjaklgikfcahdaaGreatDoorProg
import Derived.Test.YtjaklgikfcahdaaGreatDoorWWords
import Derived.Lib.Hide
import Derived.WalkSpells
import Derived.Lib.ConvBytes
import Derived.ChangeAgain
import Derived.Lib.LaidTab
import Derived.Lib.AppendIntMem
import Derived.Lib.ItoaNum
namespace Go.Proofs.YtjaklgikfcahdaaGreatDoor.Hand
open Go.RowKit Go.Proofs.YtjaklgikfcahdaaGreatDoorW.PrintWords
set_option linter.unusedVariables false
set_option linter.unusedSimpArgs false

theorem two_cells {w : World} {B : Nat} {u0 u1 : Value} (h0 : w.cell? ⟨B, 0, none⟩ = some u0) (h1 : w.cell? ⟨B, 1, none⟩ = some u1) (v0 v1 : Value) :
    (w.setCell ⟨B, 0, none⟩ v0).cell? ⟨B, 0, none⟩ = some v0 ∧ ((w.setCell ⟨B, 0, none⟩ v0).setCell ⟨B, 1, none⟩ v1).cell? ⟨B, 1, none⟩ = some v1 :=
  ⟨World.cell?_setCell_same _ _ _ h0, World.cell?_setCell_same _ _ _ ((World.cell?_setCell_other _ _ _ _ (by simp)).trans h1)⟩
/-- Are the first k bytes all of a kind? -/
def allB (p : Int → Bool) (x : ByteArray) (k : Nat) : Bool := (List.range k).all fun j => p (bt x j)
theorem allB_zero (p : Int → Bool) (x : ByteArray) : allB p x 0 = true := rfl
theorem allB_succ (p : Int → Bool) (x : ByteArray) (k : Nat) : allB p x (k + 1) = (allB p x k && p (bt x k)) := by
  unfold allB
  rw [List.range_succ, List.all_append]; simp
theorem allB_false (p : Int → Bool) (x : ByteArray) (k n : Nat) (h : k < n) (hb : p (bt x k) = false) : allB p x n = false := by
  unfold allB
  rw [List.all_eq_false]
  exact ⟨k, List.mem_range.2 h, by simp [hb]⟩
theorem getD_bt (x : ByteArray) (k : Nat) (hk : k < x.size) : ((x.data.toList.getD k 0).toNat : Int) = bt x k := by
  rw [← bt_at x k (by simpa using hk)]
  have h : k < x.data.toList.length := by rw [data_length]; exact hk
  simp [List.getD_eq_getElem?_getD, List.getElem?_eq_getElem h]
  rfl
theorem bytes_cell_bt (w : World) (e : TypeId) (x : ByteArray) (k : Nat) (hk : k < x.size) : (Lib.bytesWorld w e x).cell? ⟨w.heap.size, k, none⟩ = some (.int .u8 (bt x k)) := by
  rw [Lib.bytesWorld_cell w e x k hk, getD_bt x k hk]
theorem toList_nil_of {s : ByteArray} (h : s.size = 0) : s.toList = [] := by rw [ByteArray.toList_eq]; exact List.eq_nil_of_length_eq_zero (by rw [data_length]; exact h)
theorem toList_cons_of {s : ByteArray} (h : ¬ s.size = 0) : (s.toList == []) = false := by
  rw [ByteArray.toList_eq]
  have : s.data.toList ≠ [] := fun e => h (by rw [← data_length, e]; rfl)
  simpa using this
theorem alloc_below (w : World) (o : Obj) : Below w.heap.size w (w.alloc o) := (Below.refl _ _).alloc (Nat.le_refl _) _
/-- A slice of one number that was just made. -/
theorem one_read (w : World) (k : IntKind) (n : Int) (t : TypeId) : Kd.C (Kd.int k) (w.alloc (.cells #[.int k n] t)) (some ⟨w.heap.size, 0, none⟩) 1 [n] := by
  refine ⟨rfl, by decide, fun _ => ⟨_, rfl, fun j p hp => ?_⟩⟩
  match j, hp with
  | 0, hp =>
    simp at hp
    subst hp
    refine ⟨[.int k n], rfl, rfl, fun i u hu => ?_⟩
    match i, hu with
    | 0, hu =>
      simp at hu
      subst hu
      simp [add_plain, Kd.int, Kd.scalar]
theorem isEmpty_ne (l : List UInt8) : l.isEmpty = !(l != []) := by cases l <;> rfl
/-- A row of strings that is read: its cells, one by one. -/
theorem C_cells {xs : List ByteArray} {w : World} {A : Option Addr} {n : Nat} (h : Kd.C Kd.string w A n xs) (hn : 0 < n) :
    ∃ bk o, A = some ⟨bk, o, none⟩ ∧ bk < w.heap.size ∧ ∀ (j : Nat) x, xs[j]? = some x → w.cell? ⟨bk, o + j, none⟩ = some (.string x) := by
  obtain ⟨hl, _, hr⟩ := h
  obtain ⟨ad, hA, hc⟩ := hr hn
  obtain ⟨bk, o, spot⟩ := ad
  have h0 : ∃ x, xs[0]? = some x := ⟨xs[0]'(by omega), List.getElem?_eq_getElem (by omega)⟩
  obtain ⟨x, hx⟩ := h0
  obtain ⟨c, _, rfl, hcell⟩ := hc 0 x hx
  have h1 := hcell 0 _ rfl
  simp only [Addr.add] at h1
  rw [if_pos (by simp)] at h1
  have hsp : spot = none := by
    unfold World.cell? at h1
    split at h1
    · cases spot with
      | none => rfl
      | some s => simp at h1
    · cases h1
  subst hsp
  have hlt : bk < w.heap.size := by
    unfold World.cell? at h1
    split at h1
    next he => exact (Array.getElem?_eq_some_iff.1 he).1
    · cases h1
  refine ⟨bk, o, hA, hlt, fun j y hy => ?_⟩
  obtain ⟨c, _, rfl, hcell⟩ := hc j y hy
  have h2 := hcell 0 _ rfl
  unfold Addr.add at h2
  split at h2
  · next hz =>
    have : j = 0 := by
      have : j * 1 + 0 = 0 := hz
      omega
    subst this
    exact h2
  · have e : o + (j * Kd.string.sz + 0) = o + j := by show o + (j * 1 + 0) = o + j; omega
    simp only [e] at h2
    exact h2
theorem cell_lt {w : World} {a : Addr} {v : Value} (h : w.cell? a = some v) : a.block < w.heap.size := by
  unfold World.cell? at h
  split at h
  next he => exact (Array.getElem?_eq_some_iff.1 he).1
  · cases h
structure Good (w : World) : Prop where
  shaped : w.ShapedOpen Tryz.prog
  pow10 : Lib.TabIs Tryz.prog w "internal/strconv.uint64pow10" .u64 Lib.pow10Tab
/-- A world behind one that is good: below that one's end nothing has turned. -/
structure Laid (w : World) : Prop where
  out : ∃ w0, Good w0 ∧ Below w0.heap.size w0 w
theorem Laid.start {w : World} (h : Good w) : Laid w := ⟨⟨w, h, Below.refl _ _⟩⟩
theorem Laid.below {w w1 : World} (h : Laid w) (hb : Below w.heap.size w w1) : Laid w1 := by
  obtain ⟨w0, hg, h0⟩ := h.out
  exact ⟨⟨w0, hg, below_then h0 h0.size hb⟩⟩
theorem Laid.shaped {w : World} (h : Laid w) : w.ShapedOpen Tryz.prog := by
  obtain ⟨w0, hg, h0⟩ := h.out
  exact World.ShapedOpen.keptBut hg.shaped (h0.frame (fun _ => False)) (fun _ h => h.elim)
theorem Laid.pow10 {w : World} (h : Laid w) : Lib.TabIs Tryz.prog w "internal/strconv.uint64pow10" .u64 Lib.pow10Tab := by
  obtain ⟨w0, hg, h0⟩ := h.out
  exact Lib.tabBelow_of_tabIs hg.pow10 w h0
end Go.Proofs.YtjaklgikfcahdaaGreatDoor.Hand
