/- Helpers for the walks that this session told by hand: facts on cells, on bytes, on loops over bytes. -/
import Derived.Test.YtljikgfhglihhaaDoorProg
import Derived.Test.YtljikgfhglihhaaDoorWWords
import Derived.Lib.Hide
import Derived.WalkSpells
import Derived.Lib.ConvBytes
import Derived.ChangeAgain
import Derived.Lib.LaidTab
import Derived.Lib.AppendIntMem
import Derived.Lib.ItoaNum
import Derived.Lib.LaidU8
import Derived.KernelRfl
namespace Go.Proofs.YtljikgfhglihhaaDoor.Hand
open Go.RowKit Go.Proofs.YtljikgfhglihhaaDoorW.PrintWords
set_option linter.unusedVariables false
set_option linter.unusedSimpArgs false

theorem two_cells {w : World} {B : Nat} {u0 u1 : Value} (h0 : w.cell? ⟨B, 0, none⟩ = some u0) (h1 : w.cell? ⟨B, 1, none⟩ = some u1) (v0 v1 : Value) :
    (w.setCell ⟨B, 0, none⟩ v0).cell? ⟨B, 0, none⟩ = some v0 ∧ ((w.setCell ⟨B, 0, none⟩ v0).setCell ⟨B, 1, none⟩ v1).cell? ⟨B, 1, none⟩ = some v1 :=
  ⟨World.cell?_setCell_same _ _ _ h0, World.cell?_setCell_same _ _ _ ((World.cell?_setCell_other _ _ _ _ (by simp)).trans h1)⟩
/-- Are the first k bytes all of a kind? -/
def allB (p : Int → Bool) (x : ByteArray) (k : Nat) : Bool := (List.range k).all fun j => p (bt x j)
theorem allB_zero (p : Int → Bool) (x : ByteArray) : allB p x 0 = true := rfl
theorem allB_succ (p : Int → Bool) (x : ByteArray) (k : Nat) : allB p x (k + 1) = (allB p x k && p (bt x k)) := by
  unfold allB
  rw [List.range_succ, List.all_append]; simp
theorem allB_false (p : Int → Bool) (x : ByteArray) (k n : Nat) (h : k < n) (hb : p (bt x k) = false) : allB p x n = false := by
  unfold allB
  rw [List.all_eq_false]
  exact ⟨k, List.mem_range.2 h, by simp [hb]⟩
theorem getD_bt (x : ByteArray) (k : Nat) (hk : k < x.size) : ((x.data.toList.getD k 0).toNat : Int) = bt x k := by
  rw [← bt_at x k (by simpa using hk)]
  have h : k < x.data.toList.length := by rw [data_length]; exact hk
  simp [List.getD_eq_getElem?_getD, List.getElem?_eq_getElem h]
  rfl
theorem bytes_cell_bt (w : World) (e : TypeId) (x : ByteArray) (k : Nat) (hk : k < x.size) : (Lib.bytesWorld w e x).cell? ⟨w.heap.size, k, none⟩ = some (.int .u8 (bt x k)) := by
  rw [Lib.bytesWorld_cell w e x k hk, getD_bt x k hk]
theorem toList_nil_of {s : ByteArray} (h : s.size = 0) : s.toList = [] := by rw [ByteArray.toList_eq]; exact List.eq_nil_of_length_eq_zero (by rw [data_length]; exact h)
theorem toList_cons_of {s : ByteArray} (h : ¬ s.size = 0) : (s.toList == []) = false := by
  rw [ByteArray.toList_eq]
  have : s.data.toList ≠ [] := fun e => h (by rw [← data_length, e]; rfl)
  simpa using this
theorem alloc_below (w : World) (o : Obj) : Below w.heap.size w (w.alloc o) := (Below.refl _ _).alloc (Nat.le_refl _) _
/-- A slice of one number that was just made. -/
theorem one_read (w : World) (k : IntKind) (n : Int) (t : TypeId) : Kd.C (Kd.int k) (w.alloc (.cells #[.int k n] t)) (some ⟨w.heap.size, 0, none⟩) 1 [n] := by
  refine ⟨rfl, by decide, fun _ => ⟨_, rfl, fun j p hp => ?_⟩⟩
  match j, hp with
  | 0, hp =>
    simp at hp
    subst hp
    refine ⟨[.int k n], rfl, rfl, fun i u hu => ?_⟩
    match i, hu with
    | 0, hu =>
      simp at hu
      subst hu
      simp [add_plain, Kd.int, Kd.scalar]
theorem isEmpty_ne (l : List UInt8) : l.isEmpty = !(l != []) := by cases l <;> rfl
/-- A row of strings that is read: its cells, one by one. -/
theorem C_cells {xs : List ByteArray} {w : World} {A : Option Addr} {n : Nat} (h : Kd.C Kd.string w A n xs) (hn : 0 < n) :
    ∃ bk o, A = some ⟨bk, o, none⟩ ∧ bk < w.heap.size ∧ ∀ (j : Nat) x, xs[j]? = some x → w.cell? ⟨bk, o + j, none⟩ = some (.string x) := by
  obtain ⟨hl, _, hr⟩ := h
  obtain ⟨ad, hA, hc⟩ := hr hn
  obtain ⟨bk, o, spot⟩ := ad
  have h0 : ∃ x, xs[0]? = some x := ⟨xs[0]'(by omega), List.getElem?_eq_getElem (by omega)⟩
  obtain ⟨x, hx⟩ := h0
  obtain ⟨c, _, rfl, hcell⟩ := hc 0 x hx
  have h1 := hcell 0 _ rfl
  simp only [Addr.add] at h1
  rw [if_pos (by simp)] at h1
  have hsp : spot = none := by
    unfold World.cell? at h1
    split at h1
    · cases spot with
      | none => rfl
      | some s => simp at h1
    · cases h1
  subst hsp
  have hlt : bk < w.heap.size := by
    unfold World.cell? at h1
    split at h1
    next he => exact (Array.getElem?_eq_some_iff.1 he).1
    · cases h1
  refine ⟨bk, o, hA, hlt, fun j y hy => ?_⟩
  obtain ⟨c, _, rfl, hcell⟩ := hc j y hy
  have h2 := hcell 0 _ rfl
  unfold Addr.add at h2
  split at h2
  · next hz =>
    have : j = 0 := by
      have : j * 1 + 0 = 0 := hz
      omega
    subst this
    exact h2
  · have e : o + (j * Kd.string.sz + 0) = o + j := by show o + (j * 1 + 0) = o + j; omega
    simp only [e] at h2
    exact h2
theorem cell_lt {w : World} {a : Addr} {v : Value} (h : w.cell? a = some v) : a.block < w.heap.size := by
  unfold World.cell? at h
  split at h
  next he => exact (Array.getElem?_eq_some_iff.1 he).1
  · cases h
def reasonTab : List (Int × List UInt8) := [(200, [79, 75]), (304, [78, 111, 116, 32, 77, 111, 100, 105, 102, 105, 101, 100]), (400, [66, 97, 100, 32, 82, 101, 113, 117, 101, 115, 116]), (502, [66, 97, 100, 32, 71, 97, 116, 101, 119, 97, 121]), (504, [71, 97, 116, 101, 119, 97, 121, 32, 84, 105, 109, 101, 111, 117, 116])]
def reasonData : DataW Unit := .agg (reasonTab.map fun p => .agg [.lit (.int .i64 p.1), .lit (.string p.2)])
def ReasonsIs (w : World) : Prop := ∀ i, i < 5 → w.cell? ⟨0, 2 * i, none⟩ = some (.int .i64 (reasonTab.getD i (0, [])).1) ∧ w.cell? ⟨0, 2 * i + 1, none⟩ = some (.string ⟨(reasonTab.getD i (0, [])).2.toArray⟩)
theorem reasons_of_reads {w : World} (h : Go.Lib.VarReads Tryd.prog w "depot/line.reasons" reasonData) : ReasonsIs w := by
  intro i hi
  obtain ⟨g, t, cs, fuel, p, hg, hty, hvar, hd⟩ := h
  obtain rfl := Option.some.inj ((show Tryd.prog.globalNamed "depot/line.reasons" = some 0 by kernel_rfl).symm.trans hg)
  obtain rfl := Option.some.inj ((show (Tryd.prog.globals[0]?).map (·.type) = some 52 by kernel_rfl).symm.trans hty)
  obtain ⟨fuel', d, q, hdi, he⟩ := Go.Lib.array_elem Tryd.underlying52 hd i hi
  rw [show Tryd.prog.cellsOf 51 = 2 by kernel_rfl] at he
  have key : ∀ (code : Int) (l : List UInt8), d = .agg [.lit (.int .i64 code), .lit (.string l)] → w.cell? ⟨0, 2 * i, none⟩ = some (.int .i64 code) ∧ w.cell? ⟨0, 2 * i + 1, none⟩ = some (.string ⟨l.toArray⟩) := by
    intro code l hdd
    obtain ⟨xs, n, _, hx, _, hxl, hf⟩ := DataW.trod_struct Tryd.underlying51 he
    rw [hdd] at hx
    match xs, hxl, hx, hf with
    | [x0, x1], _, hx, hf =>
      have f0 := hf 0 _ rfl
      have f1 := hf 1 _ rfl
      simp only [List.getElem?_cons_zero, List.getElem?_cons_succ] at f0 f1
      obtain ⟨z, hc0, hz, _⟩ := DataW.trod_int Tryd.underlying3 f0
      obtain ⟨s, hc1, hs, _⟩ := DataW.trod_string Tryd.underlying9 f1
      subst hz
      subst hs
      obtain ⟨⟨hx1, hx2⟩, _⟩ : (code = z ∧ l = s.data.toList) ∧ q = [] := by simpa using hx
      subst hx1
      subst hx2
      replace hc0 : (((cs.toList.drop (i * 2)).take 2).drop 0).take (Tryd.prog.cellsOf 3) = [Value.int .i64 code] := hc0
      replace hc1 : (((cs.toList.drop (i * 2)).take 2).drop 1).take (Tryd.prog.cellsOf 9) = [Value.string s] := hc1
      rw [show Tryd.prog.cellsOf 3 = 1 by kernel_rfl] at hc0
      rw [show Tryd.prog.cellsOf 9 = 1 by kernel_rfl] at hc1
      have e0 := congrArg (·[0]?) hc0
      have e1 := congrArg (·[0]?) hc1
      simp only [List.getElem?_take, List.getElem?_drop] at e0 e1
      constructor
      · rw [World.var?_cell hg hvar (2 * i), ← Array.getElem?_toList]
        simpa [Nat.mul_comm] using e0
      · rw [World.var?_cell hg hvar (2 * i + 1), ← Array.getElem?_toList]
        simpa [Nat.mul_comm] using e1
  match i, hi, hdi, key with
  | 0, _, hdi, key => exact key _ _ (Option.some.inj hdi).symm
  | 1, _, hdi, key => exact key _ _ (Option.some.inj hdi).symm
  | 2, _, hdi, key => exact key _ _ (Option.some.inj hdi).symm
  | 3, _, hdi, key => exact key _ _ (Option.some.inj hdi).symm
  | 4, _, hdi, key => exact key _ _ (Option.some.inj hdi).symm
structure Good (w : World) : Prop where
  shaped : w.ShapedOpen Tryd.prog
  pow10 : Lib.TabIs Tryd.prog w "internal/strconv.uint64pow10" .u64 Lib.pow10Tab
  reasons : ReasonsIs w
/-- A world behind one that is good: below that one's end nothing has turned. -/
structure Laid (w : World) : Prop where
  out : ∃ w0, Good w0 ∧ Below w0.heap.size w0 w
theorem Laid.start {w : World} (h : Good w) : Laid w := ⟨⟨w, h, Below.refl _ _⟩⟩
theorem Laid.below {w w1 : World} (h : Laid w) (hb : Below w.heap.size w w1) : Laid w1 := by
  obtain ⟨w0, hg, h0⟩ := h.out
  exact ⟨⟨w0, hg, below_then h0 h0.size hb⟩⟩
theorem Laid.shaped {w : World} (h : Laid w) : w.ShapedOpen Tryd.prog := by
  obtain ⟨w0, hg, h0⟩ := h.out
  exact World.ShapedOpen.keptBut hg.shaped (h0.frame (fun _ => False)) (fun _ h => h.elim)
theorem Laid.pow10 {w : World} (h : Laid w) : Lib.TabIs Tryd.prog w "internal/strconv.uint64pow10" .u64 Lib.pow10Tab := by
  obtain ⟨w0, hg, h0⟩ := h.out
  exact Lib.tabBelow_of_tabIs hg.pow10 w h0
theorem Laid.reasons {w : World} (h : Laid w) : ReasonsIs w := by
  obtain ⟨w0, hg, h0⟩ := h.out
  intro i hi
  obtain ⟨h1, h2⟩ := hg.reasons i hi
  exact ⟨(World.cell?_of_block (h0.block _ (cell_lt h1))).trans h1, (World.cell?_of_block (h0.block _ (cell_lt h2))).trans h2⟩
end Go.Proofs.YtljikgfhglihhaaDoor.Hand
