/- Helpers for the walks that this session told by hand: facts on cells, on bytes, on loops over bytes. -/
import Derived.Test.YtfjbjcheehojoaaDoorProg
import Derived.Test.YtfjbjcheehojoaaDoorWWords
import Derived.Lib.Hide
import Derived.WalkSpells
import Derived.Lib.ConvBytes
namespace Go.Proofs.YtfjbjcheehojoaaDoor.Hand
open Go.RowKit Go.Proofs.YtfjbjcheehojoaaDoorW.PrintWords
set_option linter.unusedVariables false
set_option linter.unusedSimpArgs false

theorem two_cells {w : World} {B : Nat} {u0 u1 : Value} (h0 : w.cell? ⟨B, 0, none⟩ = some u0) (h1 : w.cell? ⟨B, 1, none⟩ = some u1) (v0 v1 : Value) :
    (w.setCell ⟨B, 0, none⟩ v0).cell? ⟨B, 0, none⟩ = some v0 ∧ ((w.setCell ⟨B, 0, none⟩ v0).setCell ⟨B, 1, none⟩ v1).cell? ⟨B, 1, none⟩ = some v1 :=
  ⟨World.cell?_setCell_same _ _ _ h0, World.cell?_setCell_same _ _ _ ((World.cell?_setCell_other _ _ _ _ (by simp)).trans h1)⟩
/-- Are the first k bytes all of a kind? -/
def allB (p : Int → Bool) (x : ByteArray) (k : Nat) : Bool := (List.range k).all fun j => p (bt x j)
theorem allB_zero (p : Int → Bool) (x : ByteArray) : allB p x 0 = true := rfl
theorem allB_succ (p : Int → Bool) (x : ByteArray) (k : Nat) : allB p x (k + 1) = (allB p x k && p (bt x k)) := by
  unfold allB
  rw [List.range_succ, List.all_append]; simp
theorem allB_false (p : Int → Bool) (x : ByteArray) (k n : Nat) (h : k < n) (hb : p (bt x k) = false) : allB p x n = false := by
  unfold allB
  rw [List.all_eq_false]
  exact ⟨k, List.mem_range.2 h, by simp [hb]⟩
theorem getD_bt (x : ByteArray) (k : Nat) (hk : k < x.size) : ((x.data.toList.getD k 0).toNat : Int) = bt x k := by
  rw [← bt_at x k (by simpa using hk)]
  have h : k < x.data.toList.length := by rw [data_length]; exact hk
  simp [List.getD_eq_getElem?_getD, List.getElem?_eq_getElem h]
  rfl
theorem bytes_cell_bt (w : World) (e : TypeId) (x : ByteArray) (k : Nat) (hk : k < x.size) : (Lib.bytesWorld w e x).cell? ⟨w.heap.size, k, none⟩ = some (.int .u8 (bt x k)) := by
  rw [Lib.bytesWorld_cell w e x k hk, getD_bt x k hk]
end Go.Proofs.YtfjbjcheehojoaaDoor.Hand
