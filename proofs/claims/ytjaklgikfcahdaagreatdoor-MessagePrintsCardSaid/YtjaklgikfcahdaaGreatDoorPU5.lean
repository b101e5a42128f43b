-- Halved: the indents of this text are half of the print's.
-- Out of the translation, by a program of this session: each function that a law comes to as a Lean function, and that the machine's call does what it says. Lean checks it.
import Derived.Test.YtjaklgikfcahdaaGreatDoorPU0
import Derived.Test.YtjaklgikfcahdaaGreatDoorPU2
import Derived.Test.YtjaklgikfcahdaaGreatDoorPU3
namespace Go.Proofs.YtjaklgikfcahdaaGreatDoor.PU
open Go.RowKit Go.Proofs.YtjaklgikfcahdaaGreatDoorW.PrintWords Go.Proofs.YtjaklgikfcahdaaGreatDoorW.PrintLast Go.Proofs.YtjaklgikfcahdaaGreatDoorW.PrintMore
attribute [local go_sem] max2_int min2_int max_two min_two max_three min_three max_four min_four   -- for this text's walks alone
set_option linter.unusedVariables false
set_option linter.unusedSimpArgs false

/-! ### decimal_ReadHex: function 155 -/
def decimal_ReadHex.f (a0 : ByteArray) (a1 : Int) : Option (Int × Int) := (decimal_read.f a0 16 15 a1).bind fun bt145 => (some (bt145.1, bt145.2))
set_option maxHeartbeats 8000000 in
set_option maxRecDepth 100000 in
theorem decimal_ReadHex.calls (a0 : ByteArray) (a1 : Int) (r1 : Int) (r2 : Int) (w : World) (h : decimal_ReadHex.f a0 a1 = some (r1, r2)) :
  Calls Tryz.prog 155 #[.string a0, .int .i64 a1] w fun e w' => e = .returned (.tuple #[.int .i64 r1, .int .i64 r2]) ∧ Below w.heap.size w w' := by
 have HB := Aside0.mk (Below.refl w.heap.size w)
 have H : ((decimal_read.f a0 16 15 a1).bind fun bt145 => (some (bt145.1, bt145.2))) = some (r1, r2) := h
 clear h
 replace H := Option.bind_eq_some_iff.mp H
 obtain ⟨⟨t145, t146⟩, A30, H⟩ := H
 replace H : (some (t145, t146)) = some (r1, r2) := H
 have A3 := Aside0.mk A30
 clear A30
 simp only [Option.some.injEq, Prod.mk.injEq] at H
 obtain ⟨rfl, rfl⟩ := H
 go_enter Tryz.func155, Tryz.ntmps155
 go_wp2_with (first | ((with_reducible refine gate_callee (f := 107) rfl ?_); refine goesL_ (some 8) rfl rfl Tryz.func107 (by kernel_rfl) rfl #[.string a0, .int .i64 16, .int .i64 15, .int .i64 a1] rfl (by (try simp only [List.map_toArray, List.map_cons, List.map_nil]); first | done | rfl | (simp only [List.length_drop, List.length_take]; rfl)) ?_; (with_reducible refine (decimal_read.calls a0 16 15 a1 t145 t146 _ A3.out).mono ?_); rintro e w4 ⟨rfl, hb⟩; refine ⟨_, rfl, ?_⟩; have n0_ := Aside0.mk (below_step (by repeat (first | (with_reducible first | exact HB.out | apply below_alloc | apply pw_below_drewN | apply below_drew1) | exact HB.out)) hb); clear HB; have HB := n0_; clear n0_; (try clear hb); (try clear hb2); (try clear hk); (try clear hi)))
 go_ret2
 exact ⟨by first | rfl | (simp [errW_none, errW_some] <;> rfl) | (simp [*, errW_none, errW_some] <;> rfl), by repeat (first | (with_reducible first | exact HB.out | apply below_alloc | apply pw_below_drewN | apply below_drew1) | exact HB.out)⟩

/-! ### strings_TrimRight: function 156: told by hand -/
def strings_TrimRight.f (a0 a1 : ByteArray) : Option (ByteArray) := if a0.size ≤ 9223372036854775807 ∧ a1.size < 4294967281 ∧ ((a1.data.toList.all fun b => decide (b.toNat < 128)) = true) then some ⟨(Lib.trimRightS a0.data.toList a1.data.toList).toArray⟩ else none
theorem strings_TrimRight.calls (a0 a1 : ByteArray) (r : ByteArray) (w : World) (h : strings_TrimRight.f a0 a1 = some r) :
  Calls Tryz.prog 156 #[.string a0, .string a1] w fun e w' => e = .returned (.string r) ∧ Below w.heap.size w w' := by
 unfold strings_TrimRight.f at h
 split at h
 case isFalse => cases h
 case isTrue hs =>
  obtain rfl := Option.some.inj h
  obtain ⟨h0, h1, h2⟩ := hs
  exact Any.strings_TrimRight_laid Tryz.lays162 (by kernel_rfl) a0 a1 w h0 h1 (fun j b hb => by
   have := List.all_eq_true.1 h2 b (List.mem_of_getElem? hb)
   simpa using this)

/-! ### chunk_Decode: function 97: told by hand -/
def chunk_sz (l : ByteArray) : Option (Int × Int) :=
 (octet_Cut.f l 59).bind fun c => (strings_TrimRight.f c.1 ⟨#[32, 9]⟩).bind fun d => (decimal_ReadHex.f d 1152921504606846976).bind fun r => (octet_IsText.f c.2.1).bind fun t => some (Hand.szR r.1 r.2 t)
theorem szR_le (v e : Int) (t : Bool) : (Hand.szR v e t).1 ≤ 65536 := by
 unfold Hand.szR
 split
 ·decide
 ·split
  ·decide
  ·split
   ·decide
   ·show v ≤ 65536; omega
theorem chunk_sizeOk : Hand.SizeOk chunk_sz := by
 intro B b s gone p bs w r HL hB h
 unfold chunk_sz at h
 generalize hl : s.extract 0 (Hand.lineI s).toNat = l at h
 cases h1 : octet_Cut.f l 59 with
 | none => rw [h1] at h; cases h
 | some c =>
 rw [h1] at h
 simp only [Option.bind_some] at h
 obtain ⟨dg, more, cb⟩ := c
 simp only at h
 cases h2 : strings_TrimRight.f dg ⟨#[32, 9]⟩ with
 | none => rw [h2] at h; cases h
 | some tr =>
 rw [h2] at h
 simp only [Option.bind_some] at h
 cases h3 : decimal_ReadHex.f tr 1152921504606846976 with
 | none => rw [h3] at h; cases h
 | some q =>
 rw [h3] at h
 simp only [Option.bind_some] at h
 obtain ⟨v, e⟩ := q
 simp only at h
 cases h4 : octet_IsText.f more with
 | none => rw [h4] at h; cases h
 | some t =>
 rw [h4] at h
 simp only [Option.bind_some] at h
 obtain rfl := Option.some.inj h
 exact ⟨Hand.rd_size_yes B b s gone p bs w HL hB l _ dg more tr cb _ v e t hl rfl rfl (fun w => octet_Cut.calls l 59 dg more cb w h1) (fun w => strings_TrimRight.calls dg ⟨#[32, 9]⟩ tr w h2) (fun w => decimal_ReadHex.calls tr 1152921504606846976 v e w h3) (fun w => octet_IsText.calls more t w h4), szR_le v e t⟩
theorem chunk_parseOk : Hand.ParseOk fields_Parse.f := fun l r h w => fields_Parse.calls l r.1 r.2.1 r.2.2 w h
def chunk_Decode.f (a0 : ByteArray) : Option (ByteArray × Int × Int) := if a0.size < 4294967281 then Hand.decGo fields_Parse.f chunk_sz (a0.size + 1) a0 0 ⟨#[]⟩ else none
theorem chunk_Decode.calls (a0 : ByteArray) (r1 : ByteArray) (r2 r3 : Int) (w : World) (HT : Aside0 (Hand.Laid w)) (h : chunk_Decode.f a0 = some (r1, r2, r3)) :
  Calls Tryz.prog 97 #[.string a0] w fun e w' => e = .returned (.tuple #[.string r1, .int .i64 r2, .int .i64 r3]) ∧ Below w.heap.size w w' := by
 unfold chunk_Decode.f at h
 split at h
 case isFalse => cases h
 case isTrue hs => exact Hand.dec_any fields_Parse.f chunk_parseOk chunk_sz chunk_sizeOk a0 w HT.out hs _ (r1, r2, r3) h

end Go.Proofs.YtjaklgikfcahdaaGreatDoor.PU
