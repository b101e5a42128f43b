/- The reader of chunks: a block of four cells (text, gone, builder's own address, buffer); its methods, by walks. -/
import Derived.Test.YtjaklgikfcahdaaGreatDoorHand
import Derived.Test.YtjaklgikfcahdaaGreatDoorShelf
import Derived.Lib.Builder
import Derived.Lib.AppendStr
import Derived.Lib.UnsafeStr
import Derived.Lib.Walk
import Derived.Lib.Strings
import Derived.Lib.Slices
import Derived.Laws.Externs
import Derived.Laws.IdiomCopy
import Derived.Shelf.RegionOpenPlain
import Derived.Deep.RegionWith
namespace Go.Proofs.YtjaklgikfcahdaaGreatDoor.Hand
open Go.RowKit Go.Proofs.YtjaklgikfcahdaaGreatDoorW.PrintWords
set_option linter.unusedVariables false
set_option linter.unusedSimpArgs false
abbrev TR : TypeId := 162
abbrev TB : TypeId := 5
/-- The reader in block b of a call's own: its text, what is gone, the builder's address, its bytes. -/
def RdAt (B b : Nat) (s : ByteArray) (gone : Int) (p : Value) (bs : List Value) (w : World) : Prop :=
  B ≤ b ∧ ∃ v, w.heap[b]? = some (.cells #[.string s, .int .i64 gone, p, v] TR (0, 0)) ∧ w.ownsRow B TB 1 v bs.length bs ∧ v.ownBlock ≠ some b
def selfP (b : Nat) : Value := .pointer (some ⟨b, 2, none⟩)
def IsRd (B b : Nat) (s : ByteArray) (gone : Int) (bs : List Value) (w : World) : Prop := RdAt B b s gone (.pointer none) bs w ∨ RdAt B b s gone (selfP b) bs w
theorem RdAt.lt {B b : Nat} {s : ByteArray} {gone : Int} {p : Value} {bs : List Value} {w : World} (h : RdAt B b s gone p bs w) : b < w.heap.size := by
  obtain ⟨_, v, hb, _⟩ := h
  rcases Nat.lt_or_ge b w.heap.size with h' | h'
  · exact h'
  · simp [Array.getElem?_eq_none h'] at hb
theorem RdAt.shape {B b : Nat} {s : ByteArray} {gone : Int} {p : Value} {bs : List Value} {w : World} (h : RdAt B b s gone p bs w) : w.shape? b = some (TR, 4) := by
  obtain ⟨_, v, hb, _⟩ := h
  simp [World.shape?, hb]
/-- A store into one of the four cells. -/
theorem RdAt.set {B b : Nat} {s s' : ByteArray} {gone gone' : Int} {p p' : Value} {bs : List Value} {w : World} (h : RdAt B b s gone p bs w) (j : Nat) (u : Value)
    (hj : ∀ v : Value, ([.string s, .int .i64 gone, p, v] : List Value).set j u = [.string s', .int .i64 gone', p', v]) : RdAt B b s' gone' p' bs (w.setCell ⟨b, j, none⟩ u) := by
  have hlt := h.lt
  obtain ⟨hB, v, hb, hown, hne⟩ := h
  refine ⟨hB, v, ?_, ?_, hne⟩
  · simp [World.setCell, Array.getElem?_modify, hb]
    exact hj v
  · refine hown.kept (row := some b) ⟨rfl, rfl, rfl, by simp [World.setCell], fun k _ hk => Below.heap_setCell _ _ _ _ (fun e => hk (by simp [e]))⟩ ?_
    exact Or.inr hne
theorem RdAt.below {B b : Nat} {s : ByteArray} {gone : Int} {p : Value} {bs : List Value} {w w' : World} (h : RdAt B b s gone p bs w) (hb : Below w.heap.size w w') : RdAt B b s gone p bs w' := by
  have hlt := h.lt
  obtain ⟨hB, v, hbk, hown, hne⟩ := h
  refine ⟨hB, v, ?_, ?_, hne⟩
  · rw [← hbk]; exact hb.block b hlt
  · exact World.ownsRow.kept (row := none) hown ⟨hb.os, hb.tape, hb.output, hb.size, fun k hk _ => hb.block k hk⟩ (by by_cases e : v.ownBlock = none; exact Or.inl e; exact Or.inr e)
theorem RdAt.cells {B b : Nat} {s : ByteArray} {gone : Int} {p : Value} {bs : List Value} {w : World} (h : RdAt B b s gone p bs w) :
    w.cell? ⟨b, 0, none⟩ = some (.string s) ∧ w.cell? ⟨b, 1, none⟩ = some (.int .i64 gone) ∧ w.cell? ⟨b, 2, none⟩ = some p ∧ (∀ j, w.frozen? ⟨b, j, none⟩ = false) := by
  obtain ⟨_, v, hb, _⟩ := h
  exact ⟨by rw [Lib.cell_of_heap hb]; rfl, by rw [Lib.cell_of_heap hb]; rfl, by rw [Lib.cell_of_heap hb]; rfl, fun j => Lib.frozen_of_heap hb j⟩
theorem rd_size : (Tryz.prog.info? 144).map (·.size) = some 2 := by kernel_rfl
theorem rd_lies : liesAt Tryz.prog Tryz.prog.depth TR (4 / Tryz.prog.cellsOf TR) 2 144 1 = true := by kernel_rfl
theorem rd_skip (B b : Nat) (s : ByteArray) (gone : Int) (p : Value) (bs : List Value) (n : Int) (w : World) (h : RdAt B b s gone p bs w) (h0 : 0 ≤ n) (h1 : n ≤ s.size) (hs : (s.size : Int) ≤ 9223372036854775807) (hg : 0 ≤ gone) (hg1 : gone + n ≤ 9223372036854775807) :
    Calls Tryz.prog 158 #[.pointer (some ⟨b, 0, none⟩), .int .i64 n] w fun e w' => e = .returned (.tuple #[]) ∧ RdAt B b (s.extract n.toNat s.size) (gone + n) p bs w' ∧ Below B w w' := by
  obtain ⟨c0, c1, c2, hf⟩ := h.cells
  have f0 := hf 0
  have f1 := hf 1
  go_enter Tryz.func158, Tryz.ntmps158
  go_wp2
  go_end0
  exact ⟨rfl, (h.set (s' := s.extract n.toNat s.size) 0 _ (fun v => rfl)).set (gone' := gone + n) 1 _ (fun v => rfl), ((Below.refl B w).setCell (p := ⟨b, 0, none⟩) h.1 _).setCell (p := ⟨b, 1, none⟩) h.1 _⟩
set_option maxRecDepth 100000 in
theorem copy_used (b : Nat) (w : World) (h0 : w.cell? ⟨b, 2, none⟩ = some (selfP b)) :
    Calls Tryz.prog 136 #[.pointer (some ⟨b, 2, none⟩)] w fun e w' => e = .returned (.tuple #[]) ∧ w' = w := by
  obtain ⟨j, hj, _⟩ := Option.map_eq_some_iff.1 rd_size
  unfold selfP at h0
  go_enter Tryz.func136, Tryz.ntmps136
  go_wp2
  rw [Lib.run_neq_ptr_same w _ Tryz.underlying142 hj]
  go_wp2
  go_end0
  exact ⟨rfl, rfl⟩
set_option maxRecDepth 100000 in
theorem copy_fresh (b : Nat) (w : World) (h0 : w.cell? ⟨b, 2, none⟩ = some (.pointer none)) (hsh : w.shape? b = some (TR, 4)) (hfz : w.frozen? ⟨b, 2, none⟩ = false) :
    Calls Tryz.prog 136 #[.pointer (some ⟨b, 2, none⟩)] w fun e w' => e = .returned (.tuple #[]) ∧ w' = w.setCell ⟨b, 2, none⟩ (selfP b) := by
  obtain ⟨j, hj, hjs⟩ := Option.map_eq_some_iff.1 rd_size
  go_enter Tryz.func136, Tryz.ntmps136
  go_wp2
  rw [Lib.run_to_unsafe w ⟨b, 2, none⟩ Tryz.underlying142 Tryz.underlying182 hj (by rw [hjs]; decide) hsh (by show 2 < 4; decide)]
  simp only [Result.andThen]
  rw [Oper.upon_value]
  go_wp2
  rw [run_callFunc_extern Tryz.func160 (by kernel_rfl) (by kernel_rfl) (by kernel_rfl) (e := Extern.AbiNoEscape.same) (by kernel_rfl)]
  rw [Lib.run_noEscape]
  simp only [Result.andThen]
  rw [Oper.upon_value]
  go_wp2
  rw [Lib.run_from_unsafe w ⟨b, 2, none⟩ Tryz.underlying182 Tryz.underlying142 hj hsh rd_lies]
  simp only [Result.andThen]
  rw [Oper.upon_value]
  go_wp2
  go_end0
  exact ⟨rfl, rfl⟩
theorem rd_copy (B b : Nat) (s : ByteArray) (gone : Int) (bs : List Value) (w : World) (h : IsRd B b s gone bs w) :
    Calls Tryz.prog 136 #[.pointer (some ⟨b, 2, none⟩)] w fun e w' => e = .returned (.tuple #[]) ∧ RdAt B b s gone (selfP b) bs w' ∧ Below B w w' := by
  rcases h with h | h
  · refine (copy_fresh b w h.cells.2.2.1 h.shape (h.cells.2.2.2 2)).mono ?_
    rintro e w' ⟨rfl, rfl⟩
    exact ⟨rfl, h.set 2 _ (fun v => rfl), (Below.refl B w).setCell (p := ⟨b, 2, none⟩) h.1 _⟩
  · refine (copy_used b w h.cells.2.2.1).mono ?_
    rintro e w' ⟨rfl, rfl⟩
    exact ⟨rfl, h, Below.refl B _⟩
theorem IsRd.ex {B b : Nat} {s : ByteArray} {gone : Int} {bs : List Value} {w : World} (h : IsRd B b s gone bs w) : ∃ p, RdAt B b s gone p bs w := by
  rcases h with h | h
  · exact ⟨_, h⟩
  · exact ⟨_, h⟩
theorem rd_len (B b : Nat) (s : ByteArray) (gone : Int) (bs : List Value) (w : World) (h : IsRd B b s gone bs w) :
    Calls Tryz.prog 157 #[.pointer (some ⟨b, 2, none⟩)] w fun e w' => e = .returned (.int .i64 bs.length) ∧ w' = w := by
  obtain ⟨p, hB, v, hbk, hown, hne⟩ := h.ex
  obtain ⟨ao, cap, rfl⟩ : ∃ ao cap, v = .slice ao bs.length cap := by
    rcases hown.2 with ⟨hv, h0⟩ | ⟨g, cap, cur, hv, _⟩
    · exact ⟨none, 0, by rw [hv, h0]⟩
    · exact ⟨_, _, hv⟩
  have c1 : w.cell? ⟨b, 3, none⟩ = some (.slice ao bs.length cap) := by rw [Lib.cell_of_heap hbk]; rfl
  go_enter Tryz.func157, Tryz.ntmps157
  go_wp2
  go_ret
  exact ⟨rfl, rfl⟩
theorem rd_infoByte : (Tryz.prog.info? TB).map (fun i => (i.zero, i.size, i.bytes)) = some (some (.int .u8 0), 1, 1) := by kernel_rfl
theorem rd_ne : TR ≠ TB := by decide
theorem rd_put {B b : Nat} {s : ByteArray} {gone : Int} {p v v' : Value} {bs' : List Value} {w : World} (hB : B ≤ b) (hb : w.heap[b]? = some (.cells #[.string s, .int .i64 gone, p, v] TR (0, 0))) (hown : w.ownsRow B TB 1 v' bs'.length bs') :
    RdAt B b s gone p bs' (w.setCell ⟨b, 3, none⟩ v') := by
  have hne := Lib.ownBlock_ne hown hb rd_ne
  refine ⟨hB, v', ?_, ?_, hne⟩
  · simp [World.setCell, Array.getElem?_modify, hb]
  · exact hown.kept (row := some b) ⟨rfl, rfl, rfl, by simp [World.setCell], fun k _ hk => Below.heap_setCell _ _ _ _ (fun e => hk (by simp [e]))⟩ (Or.inr hne)
set_option maxHeartbeats 2000000 in
set_option maxRecDepth 100000 in
theorem rd_write (B b : Nat) (s : ByteArray) (gone : Int) (bs : List Value) (x : ByteArray) (w : World) (h : IsRd B b s gone bs w) (hlen : bs.length + x.size ≤ 140737488355328) (hBw : B ≤ w.heap.size) :
    Calls Tryz.prog 112 #[.pointer (some ⟨b, 2, none⟩), .string x] w fun e w' => e = .returned (.tuple #[.int .i64 x.size, .nilIface]) ∧ RdAt B b s gone (selfP b) (bs ++ Lib.strCells x) w' ∧ Below B w w' := by
  obtain ⟨i0, hi, hz0, hz1, hz2⟩ := info_parts rd_infoByte
  go_enter Tryz.func112, Tryz.ntmps112
  go_wp2_with (go_at_call 136; refine (rd_copy B b s gone bs _ h).mono ?_)
  rintro e w1 ⟨rfl, h1, hb1⟩
  have hlt := h1.lt
  obtain ⟨hB, v, hbk, hown, hne⟩ := h1
  have c0 : w1.cell? ⟨b, 2, none⟩ = some (.pointer (some ⟨b, 2, none⟩)) := by rw [Lib.cell_of_heap hbk]; rfl
  have c1 : w1.cell? ⟨b, 3, none⟩ = some v := by rw [Lib.cell_of_heap hbk]; rfl
  go_wp2_with (at_builtin; refine Lib.wpList_append_own_string _ rfl _ _ 123 9 rfl B TB i0 Tryz.underlying123 Tryz.underlying9 hi hz0 hz1 hz2 _ _ _ rfl hown x rfl ?c3 ?c4 ?c5 ?_)
  case c3 => unfold maxLen; omega
  case c4 => omega
  case c5 => have := hb1.size; omega
  intro v' w2 hown' hgrow _
  have hb2 : w2.heap[b]? = some (.cells #[.string s, .int .i64 gone, .pointer (some ⟨b, 2, none⟩), v] TR (0, 0)) := by
    rw [hgrow.block b hlt (fun e => hne e.symm)]
    exact hbk
  have d0 : w2.cell? ⟨b, 2, none⟩ = some (.pointer (some ⟨b, 2, none⟩)) := by rw [Lib.cell_of_heap hb2]; rfl
  have d1 : w2.cell? ⟨b, 3, none⟩ = some v := by rw [Lib.cell_of_heap hb2]; rfl
  have f1 : w2.frozen? ⟨b, 3, none⟩ = false := Lib.frozen_of_heap hb2 3
  obtain ⟨ao, n', cap, rfl⟩ : ∃ ao n' cap, v' = .slice ao n' cap := by
    rcases hown'.2 with ⟨hv, _⟩ | ⟨g, cap, cur, hv, _⟩
    · exact ⟨_, _, _, hv⟩
    · exact ⟨_, _, _, hv⟩
  go_wp2
  go_ret2
  refine ⟨rfl, ?_, ?_⟩
  · exact rd_put hB hb2 (bs' := bs ++ Lib.strCells x) (by simpa [Lib.strCells_length] using hown')
  · exact (hb1.grown hgrow (by have := hb1.size; omega) (fun k hk => (hown.lt k hk).1)).setCell (p := ⟨b, 3, none⟩) hB _
theorem freeze_cell_other (w : World) (p : Addr) (n : Nat) (a : Addr) (h : p.block ≠ a.block) : (w.freeze p n).cell? a = w.cell? a := by
  refine World.cell?_of_block ?_
  unfold World.freeze
  split
  · rfl
  · simp only [Array.getElem?_modify]
    rw [if_neg h]
set_option maxHeartbeats 1000000 in
set_option maxRecDepth 100000 in
theorem rd_string1 (B b : Nat) (s : ByteArray) (gone : Int) (l : List UInt8) (w : World) (h : IsRd B b s gone (Lib.byteCells l) w) (h0 : l ≠ []) :
    Calls Tryz.prog 113 #[.pointer (some ⟨b, 2, none⟩)] w fun e w' => e = .returned (.string ⟨l.toArray⟩) ∧ Below B w w' ∧ w'.cell? ⟨b, 1, none⟩ = some (.int .i64 gone) := by
  obtain ⟨p, hh⟩ := h.ex
  have hb1 := hh.cells.2.1
  obtain ⟨hB, v, hbk, hown, hne⟩ := hh
  have hl0 : l.length ≠ 0 := by simpa using h0
  rw [Lib.byteCells_length] at hown
  obtain ⟨g, cap, cur, rfl, hbg, hg, hnc, hcm, hcs, htake⟩ : ∃ g cap cur, v = .slice (some ⟨g, 0, none⟩) l.length cap ∧ B ≤ g ∧ w.heap[g]? = some (.cells cur TB (0, 0)) ∧ l.length ≤ cap ∧ cap ≤ maxLen ∧ cur.size = cap * 1 ∧ cur.toList.take (l.length * 1) = Lib.byteCells l := by
    rcases hown.2 with ⟨_, hz⟩ | ⟨g, cap, cur, hv, r⟩
    · exact absurd hz hl0
    · exact ⟨g, cap, cur, hv, r⟩
  have c1 : w.drew.cell? ⟨b, 3, none⟩ = some (.slice (some ⟨g, 0, none⟩) l.length cap) := by
    have : w.drew.heap[b]? = some (.cells #[.string s, .int .i64 gone, p, .slice (some ⟨g, 0, none⟩) l.length cap] TR (0, 0)) := hbk
    rw [Lib.cell_of_heap this]; rfl
  have hSD : (Builtin.unsafeSliceData_ #[123] 167 #[.slice (some ⟨g, 0, none⟩) l.length cap]).run Tryz.prog w.drew = .ok (.pointer (some ⟨g, 0, none⟩)) w.drew :=
    Lib.run_unsafeSliceData_row _ _ _ _ _ _ (by omega)
  have hUS : (Builtin.unsafeString_ #[167, 3] 9 #[.pointer (some ⟨g, 0, none⟩), .int .i64 l.length]).run Tryz.prog w.drew = .ok (.string ⟨l.toArray⟩) (w.drew.freeze ⟨g, 0, none⟩ l.length) := by
    refine Lib.run_unsafeString_row w.drew 167 3 9 TB Tryz.underlying167 (by kernel_rfl) g cur.size (by have hg' : w.drew.heap[g]? = some (.cells cur TB (0, 0)) := hg; simp [World.shape?, hg']) l h0 (by omega) (by unfold maxLen at hcm; omega) ?_
    intro j x hx
    have := hown.cells (g := g) rfl j (.int .u8 x.toNat) (by simp [Lib.byteCells, hx])
    exact this
  go_enter Tryz.func113, Tryz.ntmps113
  go_wp2
  go_region
  all_goals (go_wp2; go_ret; refine ⟨rfl, Lib.below_freeze (Below.drew (Below.refl B w)) (p := ⟨g, 0, none⟩) hbg _, ?_⟩; exact (freeze_cell_other w.drew ⟨g, 0, none⟩ l.length ⟨b, 1, none⟩ (fun e => hne (by simp only [Value.ownBlock]; exact congrArg some e))).trans hb1)
theorem rd_unone (W : World) (q : Option Addr) : (Builtin.unsafeString_ #[167, 3] 9 #[.pointer q, .int .i64 0]).run Tryz.prog W = .ok (.string .empty) W :=
  Lib.run_unsafeString_none W _ _ _ q
set_option maxHeartbeats 2000000 in
set_option maxRecDepth 100000 in
theorem rd_string_nil (B b : Nat) (s : ByteArray) (gone : Int) (p : Value) (w : World) (hbk : w.heap[b]? = some (.cells #[.string s, .int .i64 gone, p, .slice none 0 0] TR (0, 0))) :
    Calls Tryz.prog 113 #[.pointer (some ⟨b, 2, none⟩)] w fun e w' => e = .returned (.string ⟨#[]⟩) ∧ Below B w w' ∧ w'.cell? ⟨b, 1, none⟩ = some (.int .i64 gone) := by
  have hUS := rd_unone
  have hb1 : w.cell? ⟨b, 1, none⟩ = some (.int .i64 gone) := by rw [Lib.cell_of_heap hbk]; rfl
  have c1 : w.drew.cell? ⟨b, 3, none⟩ = some (.slice none 0 0) := by
    have : w.drew.heap[b]? = some (.cells #[.string s, .int .i64 gone, p, .slice none 0 0] TR (0, 0)) := hbk
    rw [Lib.cell_of_heap this]; rfl
  have hSD : (Builtin.unsafeSliceData_ #[123] 167 #[.slice none 0 0]).run Tryz.prog w.drew = .ok (.pointer none) w.drew := rfl
  go_enter Tryz.func113, Tryz.ntmps113
  go_wp2
  go_region
  all_goals (go_wp2; go_ret; exact ⟨rfl, Below.drew (Below.refl B w), hb1⟩)
set_option maxHeartbeats 2000000 in
set_option maxRecDepth 100000 in
theorem rd_string_noroom (B b g : Nat) (s : ByteArray) (gone : Int) (p : Value) (cur : Array Value) (w : World) (hBw : B ≤ w.heap.size) (hbk : w.heap[b]? = some (.cells #[.string s, .int .i64 gone, p, .slice (some ⟨g, 0, none⟩) 0 0] TR (0, 0))) (hg : w.heap[g]? = some (.cells cur TB (0, 0))) :
    Calls Tryz.prog 113 #[.pointer (some ⟨b, 2, none⟩)] w fun e w' => e = .returned (.string ⟨#[]⟩) ∧ Below B w w' ∧ w'.cell? ⟨b, 1, none⟩ = some (.int .i64 gone) := by
  have hUS := rd_unone
  have hb1 : w.cell? ⟨b, 1, none⟩ = some (.int .i64 gone) := by rw [Lib.cell_of_heap hbk]; rfl
  have hlt : b < w.heap.size := by
    rcases Nat.lt_or_ge b w.heap.size with h' | h'
    · exact h'
    · simp [Array.getElem?_eq_none h'] at hbk
  have c1 : w.drew.cell? ⟨b, 3, none⟩ = some (.slice (some ⟨g, 0, none⟩) 0 0) := by
    have : w.drew.heap[b]? = some (.cells #[.string s, .int .i64 gone, p, .slice (some ⟨g, 0, none⟩) 0 0] TR (0, 0)) := hbk
    rw [Lib.cell_of_heap this]; rfl
  have hSD : (Builtin.unsafeSliceData_ #[123] 167 #[.slice (some ⟨g, 0, none⟩) 0 0]).run Tryz.prog w.drew = .ok (.pointer (some ⟨w.drew.heap.size, 0, none⟩)) (w.drew.alloc (.view ⟨g, 0, none⟩ TB)) :=
    Lib.run_unsafeSliceData_zero w.drew _ _ TB Tryz.underlying167 ⟨g, 0, none⟩ 0 (TB, cur.size) (by have hg' : w.drew.heap[g]? = some (.cells cur TB (0, 0)) := hg; simp [World.shape?, hg'])
  have h2 : (w.drew.alloc (.view ⟨g, 0, none⟩ TB)).heap[b]? = _ := (Lib.alloc_old w.drew _ b hlt).trans hbk
  have c2 : (w.drew.alloc (.view ⟨g, 0, none⟩ TB)).cell? ⟨b, 3, none⟩ = some (.slice (some ⟨g, 0, none⟩) 0 0) := by
    rw [Lib.cell_of_heap h2]; rfl
  have e1 : (w.drew.alloc (.view ⟨g, 0, none⟩ TB)).cell? ⟨b, 1, none⟩ = some (.int .i64 gone) := by
    rw [Lib.cell_of_heap h2]; rfl
  have c3 : (w.alloc (.view ⟨g, 0, none⟩ TB)).drew.cell? ⟨b, 3, none⟩ = some (.slice (some ⟨g, 0, none⟩) 0 0) := c2
  have c0 : w.cell? ⟨b, 3, none⟩ = some (.slice (some ⟨g, 0, none⟩) 0 0) := c1
  clear h2
  go_enter Tryz.func113, Tryz.ntmps113
  go_wp2
  go_region
  all_goals (go_wp2; go_ret; exact ⟨rfl, (Below.drew (Below.refl B w)).alloc hBw _, e1⟩)
set_option maxHeartbeats 2000000 in
set_option maxRecDepth 100000 in
theorem rd_string_room (B b g cap : Nat) (s : ByteArray) (gone : Int) (p : Value) (w : World) (hc0 : cap ≠ 0) (hbk : w.heap[b]? = some (.cells #[.string s, .int .i64 gone, p, .slice (some ⟨g, 0, none⟩) 0 cap] TR (0, 0))) :
    Calls Tryz.prog 113 #[.pointer (some ⟨b, 2, none⟩)] w fun e w' => e = .returned (.string ⟨#[]⟩) ∧ Below B w w' ∧ w'.cell? ⟨b, 1, none⟩ = some (.int .i64 gone) := by
  have hUS := rd_unone
  have hb1 : w.cell? ⟨b, 1, none⟩ = some (.int .i64 gone) := by rw [Lib.cell_of_heap hbk]; rfl
  have c1 : w.drew.cell? ⟨b, 3, none⟩ = some (.slice (some ⟨g, 0, none⟩) 0 cap) := by
    have : w.drew.heap[b]? = some (.cells #[.string s, .int .i64 gone, p, .slice (some ⟨g, 0, none⟩) 0 cap] TR (0, 0)) := hbk
    rw [Lib.cell_of_heap this]; rfl
  have hSD : (Builtin.unsafeSliceData_ #[123] 167 #[.slice (some ⟨g, 0, none⟩) 0 cap]).run Tryz.prog w.drew = .ok (.pointer (some ⟨g, 0, none⟩)) w.drew :=
    Lib.run_unsafeSliceData_row _ _ _ _ _ _ hc0
  clear hc0
  go_enter Tryz.func113, Tryz.ntmps113
  go_wp2
  go_region
  all_goals (go_wp2; go_ret; exact ⟨rfl, Below.drew (Below.refl B w), hb1⟩)
theorem rd_string (B b : Nat) (s : ByteArray) (gone : Int) (l : List UInt8) (w : World) (h : IsRd B b s gone (Lib.byteCells l) w) (hBw : B ≤ w.heap.size) :
    Calls Tryz.prog 113 #[.pointer (some ⟨b, 2, none⟩)] w fun e w' => e = .returned (.string ⟨l.toArray⟩) ∧ Below B w w' ∧ w'.cell? ⟨b, 1, none⟩ = some (.int .i64 gone) := by
  cases l with
  | nil =>
    obtain ⟨p, hB, v, hbk, hown, hne⟩ := h.ex
    rcases hown.2 with ⟨rfl, _⟩ | ⟨g, cap, cur, rfl, hbg, hg, _, _, _, _⟩
    · exact rd_string_nil B b s gone p w hbk
    · by_cases hc0 : cap = 0
      · subst hc0
        exact rd_string_noroom B b g s gone p cur w hBw hbk hg
      · exact rd_string_room B b g cap s gone p w hc0 hbk
  | cons x r => exact rd_string1 B b s gone (x :: r) w h (by simp)
def lineI (s : ByteArray) : Int := Lib.index s.data.toList [13, 10]
theorem rd_line_no (B b : Nat) (s : ByteArray) (gone : Int) (p : Value) (bs : List Value) (w : World) (h : RdAt B b s gone p bs w) (hS : w.ShapedOpen Tryz.prog) (hs : s.size < 4294967281) (hz : lineI s < 0) :
    Calls Tryz.prog 154 #[.pointer (some ⟨b, 0, none⟩)] w fun e w' => e = .returned (.tuple #[.string ⟨#[]⟩, .bool false]) ∧ w' = w := by
  obtain ⟨c0, c1, c2, hf⟩ := h.cells
  have HI := Any.strings_Index_shaped Tryz.laysM143 s ⟨#[13, 10]⟩ w hS hs
  have e0 : Lib.index s.data.toList (⟨#[13, 10]⟩ : ByteArray).data.toList = lineI s := rfl
  rw [e0] at HI
  generalize lineI s = n at HI hz
  clear e0 hS
  go_enter Tryz.func154, Tryz.ntmps154
  go_wp2_with (go_at_call 118; refine HI.mono ?_; rintro e w' ⟨rfl, rfl⟩; clear HI)
  go_ret2
  exact ⟨rfl, rfl⟩
theorem rd_line_yes (B b : Nat) (s : ByteArray) (gone : Int) (p : Value) (bs : List Value) (w : World) (h : RdAt B b s gone p bs w) (hS : w.ShapedOpen Tryz.prog) (hs : s.size < 4294967281) (hg : 0 ≤ gone) (hg1 : gone + s.size ≤ 9223372036854775807) (hn0 : ¬ lineI s < 0) (hn1 : lineI s + 2 ≤ s.size) :
    Calls Tryz.prog 154 #[.pointer (some ⟨b, 0, none⟩)] w fun e w' => e = .returned (.tuple #[.string (s.extract 0 (lineI s).toNat), .bool true]) ∧ RdAt B b (s.extract (lineI s + 2).toNat s.size) (gone + (lineI s + 2)) p bs w' ∧ Below B w w' := by
  obtain ⟨c0, c1, c2, hf⟩ := h.cells
  have HI := Any.strings_Index_shaped Tryz.laysM143 s ⟨#[13, 10]⟩ w hS hs
  have e0 : Lib.index s.data.toList (⟨#[13, 10]⟩ : ByteArray).data.toList = lineI s := rfl
  rw [e0] at HI
  generalize lineI s = n at HI hn0 hn1
  clear e0 hS
  have HS := rd_skip B b s gone p bs (n + 2) w h (by omega) (by omega) (by omega) hg (by omega)
  go_enter Tryz.func154, Tryz.ntmps154
  go_wp2_with (first | (go_at_call 118; refine HI.mono ?_; rintro e w' ⟨rfl, rfl⟩; clear HI) | (go_at_call 158; refine HS.mono ?_; rintro e w' ⟨rfl, hh, hb⟩; clear HS))
  go_ret2
  exact ⟨rfl, hh, hb⟩
def LineOk (B b : Nat) (s : ByteArray) (gone : Int) (p : Value) (bs : List Value) (w : World) : Prop :=
  Calls Tryz.prog 154 #[.pointer (some ⟨b, 0, none⟩)] w fun e w' => e = .returned (.tuple #[.string (s.extract 0 (lineI s).toNat), .bool true]) ∧ RdAt B b (s.extract (lineI s + 2).toNat s.size) (gone + (lineI s + 2)) p bs w' ∧ Below B w w'
def szR (v e : Int) (t : Bool) : Int × Int := if ¬ e = 0 then (0, 25) else if t = false then (0, 25) else if 65536 < v then (0, 4) else (v, 0)
theorem rd_size_no (B b : Nat) (s : ByteArray) (gone : Int) (p : Value) (bs : List Value) (w : World) (h : RdAt B b s gone p bs w) (hS : w.ShapedOpen Tryz.prog) (hs : s.size < 4294967281) (hz : lineI s < 0) :
    Calls Tryz.prog 127 #[.pointer (some ⟨b, 0, none⟩)] w fun e w' => e = .returned (.tuple #[.int .i64 0, .int .i64 25]) ∧ w' = w := by
  have HL := rd_line_no B b s gone p bs w h hS hs hz
  clear h hS hz
  go_enter Tryz.func127, Tryz.ntmps127
  go_wp2_with (go_at_call 154; refine HL.mono ?_; rintro e w' ⟨rfl, rfl⟩; clear HL)
  go_ret2
  exact ⟨rfl, rfl⟩
theorem rd_size_yes (B b : Nat) (s : ByteArray) (gone : Int) (p : Value) (bs : List Value) (w : World) (HL : LineOk B b s gone p bs w) (hBw : B ≤ w.heap.size)
    (l s' dg more tr : ByteArray) (cb : Bool) (g' v e : Int) (t : Bool) (hl : s.extract 0 (lineI s).toNat = l) (hs' : s.extract (lineI s + 2).toNat s.size = s') (hg' : gone + (lineI s + 2) = g')
    (HC : ∀ w, Calls Tryz.prog 74 #[.string l, .int .u8 59] w fun e w' => e = .returned (.tuple #[.string dg, .string more, .bool cb]) ∧ Below w.heap.size w w')
    (HT : ∀ w, Calls Tryz.prog 156 #[.string dg, .string ⟨#[32, 9]⟩] w fun e w' => e = .returned (.string tr) ∧ Below w.heap.size w w')
    (HX : ∀ w, Calls Tryz.prog 155 #[.string tr, .int .i64 1152921504606846976] w fun x w' => x = .returned (.tuple #[.int .i64 v, .int .i64 e]) ∧ Below w.heap.size w w')
    (HI : ∀ w, Calls Tryz.prog 76 #[.string more] w fun e w' => e = .returned (.bool t) ∧ Below w.heap.size w w') :
    Calls Tryz.prog 127 #[.pointer (some ⟨b, 0, none⟩)] w fun x w' => x = .returned (.tuple #[.int .i64 (szR v e t).1, .int .i64 (szR v e t).2]) ∧ RdAt B b s' g' p bs w' ∧ Below B w w' := by
  unfold LineOk at HL
  rw [hl, hs', hg'] at HL
  clear hl hs' hg'
  have fin : ∀ (w1 w2 w3 w4 : World), RdAt B b s' g' p bs w1 → Below B w w1 → Below w1.heap.size w1 w2 → Below w2.heap.size w2 w3 → Below w3.heap.size w3 w4 → RdAt B b s' g' p bs w4 ∧ Below B w w4 := fun _ _ _ _ r h1 h2 h3 h4 =>
    have h24 := below_then h2 h2.size (below_then h3 h3.size h4)
    ⟨r.below h24, below_then h1 (Nat.le_trans hBw h1.size) h24⟩
  have FIN := Lib.hid fin
  clear fin
  by_cases he : e = 0
  · subst he
    cases t
    · go_enter Tryz.func127, Tryz.ntmps127
      go_wp2_with (first | (go_at_call 154; refine HL.mono ?_; rintro e w1 ⟨rfl, hr1, hb1⟩; clear HL) | (go_at_call 74; refine (HC _).mono ?_; rintro e w2 ⟨rfl, hb2⟩; clear HC) | (go_at_call 156; refine (HT _).mono ?_; rintro e w3 ⟨rfl, hb3⟩; clear HT) | (go_at_call 155; refine (HX _).mono ?_; rintro e w4 ⟨rfl, hb4⟩; clear HX) | (go_at_call 76; refine (HI _).mono ?_; rintro e w5 ⟨rfl, hb5⟩; clear HI))
      go_ret2
      exact ⟨rfl, FIN.out _ _ _ _ hr1 hb1 hb2 (below_then hb3 hb3.size hb4) hb5⟩
    · by_cases hv : 65536 < v
      · have K : Hid (szR v 0 true = (0, 4)) := by show _ = _; simp [szR, hv]
        go_enter Tryz.func127, Tryz.ntmps127
        go_wp2_with (first | (go_at_call 154; refine HL.mono ?_; rintro e w1 ⟨rfl, hr1, hb1⟩; clear HL) | (go_at_call 74; refine (HC _).mono ?_; rintro e w2 ⟨rfl, hb2⟩; clear HC) | (go_at_call 156; refine (HT _).mono ?_; rintro e w3 ⟨rfl, hb3⟩; clear HT) | (go_at_call 155; refine (HX _).mono ?_; rintro e w4 ⟨rfl, hb4⟩; clear HX) | (go_at_call 76; refine (HI _).mono ?_; rintro e w5 ⟨rfl, hb5⟩; clear HI))
        go_ret2
        exact ⟨by rw [K.out]; rfl, FIN.out _ _ _ _ hr1 hb1 hb2 (below_then hb3 hb3.size hb4) hb5⟩
      · have K : Hid (szR v 0 true = (v, 0)) := by show _ = _; simp [szR, hv]
        go_enter Tryz.func127, Tryz.ntmps127
        go_wp2_with (first | (go_at_call 154; refine HL.mono ?_; rintro e w1 ⟨rfl, hr1, hb1⟩; clear HL) | (go_at_call 74; refine (HC _).mono ?_; rintro e w2 ⟨rfl, hb2⟩; clear HC) | (go_at_call 156; refine (HT _).mono ?_; rintro e w3 ⟨rfl, hb3⟩; clear HT) | (go_at_call 155; refine (HX _).mono ?_; rintro e w4 ⟨rfl, hb4⟩; clear HX) | (go_at_call 76; refine (HI _).mono ?_; rintro e w5 ⟨rfl, hb5⟩; clear HI))
        go_ret2
        exact ⟨by rw [K.out]; rfl, FIN.out _ _ _ _ hr1 hb1 hb2 (below_then hb3 hb3.size hb4) hb5⟩
  · have he2 : (e != 0) = true := bne_iff_ne.mpr he
    go_enter Tryz.func127, Tryz.ntmps127
    go_wp2_with (first | (go_at_call 154; refine HL.mono ?_; rintro e w1 ⟨rfl, hr1, hb1⟩; clear HL) | (go_at_call 74; refine (HC _).mono ?_; rintro e w2 ⟨rfl, hb2⟩; clear HC) | (go_at_call 156; refine (HT _).mono ?_; rintro e w3 ⟨rfl, hb3⟩; clear HT) | (go_at_call 155; refine (HX _).mono ?_; rintro e w4 ⟨rfl, hb4⟩; clear HX))
    go_ret2
    exact ⟨by simp [szR, he], FIN.out _ _ _ _ hr1 hb1 hb2 hb3 hb4⟩
theorem rd_data_long (B b : Nat) (s : ByteArray) (gone : Int) (bs : List Value) (m : Nat) (n : Int) (w : World) (h : IsRd B b s gone bs w) (hm : bs.length = m) (hn : 0 < n) (hn1 : n ≤ 65536) (hm1 : m ≤ 65536) (hl : 65536 < m + n) :
    Calls Tryz.prog 128 #[.pointer (some ⟨b, 0, none⟩), .int .i64 n] w fun e w' => e = .returned (.int .i64 4) ∧ w' = w := by
  have HL := rd_len B b s gone bs w h
  rw [hm] at HL
  clear h hm
  go_enter Tryz.func128, Tryz.ntmps128
  go_wp2_with (go_at_call 157; refine HL.mono ?_; rintro e w' ⟨rfl, rfl⟩; clear HL)
  go_ret
  exact ⟨rfl, rfl⟩
theorem rd_data_short (B b : Nat) (s : ByteArray) (gone : Int) (bs : List Value) (m : Nat) (n : Int) (w : World) (h : IsRd B b s gone bs w) (hm : bs.length = m) (hn : 0 < n) (hn1 : n ≤ 65536) (hm1 : m ≤ 65536) (hl : m + n ≤ 65536) (hs : (s.size : Int) ≤ 9223372036854775807) (hs2 : (s.size : Int) < n + 2) :
    Calls Tryz.prog 128 #[.pointer (some ⟨b, 0, none⟩), .int .i64 n] w fun e w' => e = .returned (.int .i64 25) ∧ w' = w := by
  have HL := rd_len B b s gone bs w h
  rw [hm] at HL
  obtain ⟨p, hh⟩ := h.ex
  obtain ⟨c0, c1, c2, hf⟩ := hh.cells
  clear h hm hh hf
  go_enter Tryz.func128, Tryz.ntmps128
  go_wp2_with (go_at_call 157; refine HL.mono ?_; rintro e w' ⟨rfl, rfl⟩; clear HL)
  go_ret
  exact ⟨rfl, rfl⟩
theorem rd_data_off (B b : Nat) (s : ByteArray) (gone : Int) (bs : List Value) (m : Nat) (n : Int) (w : World) (h : IsRd B b s gone bs w) (hm : bs.length = m) (hn : 0 < n) (hn1 : n ≤ 65536) (hm1 : m ≤ 65536) (hl : m + n ≤ 65536) (hs : (s.size : Int) ≤ 9223372036854775807) (hs2 : n + 2 ≤ (s.size : Int)) (he : ((s.extract n.toNat (n + 2).toNat).toList == [13, 10]) = false) :
    Calls Tryz.prog 128 #[.pointer (some ⟨b, 0, none⟩), .int .i64 n] w fun e w' => e = .returned (.int .i64 25) ∧ w' = w := by
  have HL := rd_len B b s gone bs w h
  rw [hm] at HL
  obtain ⟨p, hh⟩ := h.ex
  obtain ⟨c0, c1, c2, hf⟩ := hh.cells
  clear h hm hh hf
  go_enter Tryz.func128, Tryz.ntmps128
  go_wp2_with (go_at_call 157; refine HL.mono ?_; rintro e w' ⟨rfl, rfl⟩; clear HL)
  go_ret
  exact ⟨rfl, rfl⟩
theorem rd_data_ok (B b : Nat) (s : ByteArray) (gone : Int) (bs : List Value) (m : Nat) (n : Int) (w : World) (hBw : B ≤ w.heap.size) (h : IsRd B b s gone bs w) (hg : 0 ≤ gone) (hg1 : gone + s.size ≤ 9223372036854775807) (hm : bs.length = m) (hn : 0 < n) (hn1 : n ≤ 65536) (hm1 : m ≤ 65536) (hl : m + n ≤ 65536) (hs : (s.size : Int) ≤ 9223372036854775807) (hs2 : n + 2 ≤ (s.size : Int)) (he : ((s.extract n.toNat (n + 2).toNat).toList == [13, 10]) = true) :
    Calls Tryz.prog 128 #[.pointer (some ⟨b, 0, none⟩), .int .i64 n] w fun e w' => e = .returned (.int .i64 0) ∧ RdAt B b (s.extract (n + 2).toNat s.size) (gone + (n + 2)) (selfP b) (bs ++ Lib.strCells (s.extract 0 n.toNat)) w' ∧ Below B w w' := by
  have HL := rd_len B b s gone bs w h
  have HW := rd_write B b s gone bs (s.extract 0 n.toNat) w.drew h (by simp; omega) hBw
  have HS := fun w1 (h1 : RdAt B b s gone (selfP b) (bs ++ Lib.strCells (s.extract 0 n.toNat)) w1) => rd_skip B b s gone (selfP b) _ (n + 2) w1 h1 (by omega) (by omega) (by omega) hg (by omega)
  rw [hm] at HL
  have CC := fun w1 (h1 : RdAt B b s gone (selfP b) (bs ++ Lib.strCells (s.extract 0 n.toNat)) w1) => h1.cells.1
  obtain ⟨p, hh⟩ := h.ex
  obtain ⟨c0, c1, c2, hf⟩ := hh.cells
  clear h hm hh hf
  go_enter Tryz.func128, Tryz.ntmps128
  go_wp2_with (go_at_call 157; refine HL.mono ?_; rintro e w' ⟨rfl, rfl⟩; clear HL)
  go_region_with (go_at_call 112; refine HW.mono ?_; rintro e w1 ⟨rfl, h1, hb1⟩; clear HW; have d0 := CC _ h1)
  all_goals
    go_wp2_with (go_at_call 158; refine (HS _ h1).mono ?_; rintro e w' ⟨rfl, hh, hb⟩; clear HS)
    go_ret
    exact ⟨rfl, hh, (Below.drew (Below.refl B _)).trans (hb1.trans hb)⟩
end Go.Proofs.YtjaklgikfcahdaaGreatDoor.Hand
