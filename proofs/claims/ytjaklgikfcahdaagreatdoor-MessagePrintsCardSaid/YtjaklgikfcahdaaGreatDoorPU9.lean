-- Halved: the indents of this text are half of the print's.
-- Out of the translation, by a program of this session: each function that a law comes to as a Lean function, and that the machine's call does what it says. Lean checks it.
import Derived.Test.YtjaklgikfcahdaaGreatDoorPU0
import Derived.Test.YtjaklgikfcahdaaGreatDoorPU1
import Derived.Test.YtjaklgikfcahdaaGreatDoorPU2
import Derived.Test.YtjaklgikfcahdaaGreatDoorPU7
import Derived.Test.YtjaklgikfcahdaaGreatDoorPU8
namespace Go.Proofs.YtjaklgikfcahdaaGreatDoor.PU
open Go.RowKit Go.Proofs.YtjaklgikfcahdaaGreatDoorW.PrintWords Go.Proofs.YtjaklgikfcahdaaGreatDoorW.PrintLast Go.Proofs.YtjaklgikfcahdaaGreatDoorW.PrintMore
attribute [local go_sem] max2_int min2_int max_two min_two max_three min_three max_four min_four   -- for this text's walks alone
set_option linter.unusedVariables false
set_option linter.unusedSimpArgs false

/-! ### message_PrintRequest: function 17 -/
def message_PrintRequest.f (k : Nat) (a0_0 : ByteArray) (a0_1 : ByteArray) (a0_2 : Int) (l0_3 : List (S98)) (a0_4 : ByteArray) : Option (ByteArray) := (line_PrintRequest.f a0_0 a0_1 a0_2).bind fun t182 => ((message_lines.f k t182 l0_3 (a0_4.toList != ([] : List UInt8)) (a0_4.size : Int)).bind fun t183 => ((message_text.f t183 a0_4).bind fun t186 => (some t186)))
theorem message_PrintRequest.mono : ∀ a0 a1 a2 a3 a4 k, LeO (message_PrintRequest.f k a0 a1 a2 a3 a4) (message_PrintRequest.f (k + 1) a0 a1 a2 a3 a4) := by
 intro a0 a1 a2 a3 a4 k
 unfold message_PrintRequest.f
 repeat' first
   | (with_reducible exact message_lines.mono _ _ _ _ _)
   | (with_reducible exact LeO.refl _)
   | (with_reducible exact LeO.none _)
   | (with_reducible refine LeO.ite ?_ ?_)
   | (with_reducible refine LeO.bind ?_ (fun _ => ?_))
   | exact message_lines.mono _ _ _ _ _
   | exact LeO.none _
   | refine LeO.ite ?_ ?_
   | refine LeO.bind ?_ (fun _ => ?_)
def message_PrintRequest.T1 : Bool × List (List Nat × List Nat) := (true, [([], []), ([0], [0]), ([], []), ([2], [2]), ([], []), ([4], [4]), ([1, 3, 5], [1, 3, 5]), ([], []), ([7], [7]), ([], []), ([9], [9]), ([10], [10]), ([], []), ([12], [12]), ([13], [13]), ([6, 8, 11, 14, 6], [6, 8, 11, 14]), ([], []), ([16], [16]), ([15, 17, 15], [15, 17]), ([18, 18, 0, 1, 2, 3, 4, 5, 6, 7, 8, 9, 10, 11, 12, 13, 14, 15, 16, 17, 18], [18])])
def message_PrintRequest.B1 : List Nat := [0, 1, 0, 4, 0, 16, 63, 0, 128, 0, 512, 1536, 0, 4096, 12288, 32767, 0, 65536, 262143, 524287]
theorem message_PrintRequest.tab1 : rtab .any (opsOf Tryz.f17 1) = message_PrintRequest.T1 := by kernel_rfl
theorem message_PrintRequest.bits1 : waitsOk message_PrintRequest.T1.2 message_PrintRequest.B1 = true := by kernel_rfl
set_option maxHeartbeats 8000000 in
set_option maxRecDepth 100000 in
theorem message_PrintRequest.calls (k : Nat) (a0_0 : ByteArray) (a0_1 : ByteArray) (a0_2 : Int) (A0_3 : Option Addr) (c0_3 : Nat) (l0_3 : List (S98)) (a0_4 : ByteArray) (r : ByteArray) (w : World) (HT : Aside0 (Hand.Laid w)) (hr0_3 : Kd.C k98 w A0_3 l0_3.length l0_3) (hc0_3 : l0_3.length ≤ c0_3) (h : message_PrintRequest.f k a0_0 a0_1 a0_2 l0_3 a0_4 = some r) :
  Calls Tryz.prog 17 #[.agg #[.string a0_0, .string a0_1, .int .i64 a0_2, .slice A0_3 l0_3.length c0_3, .string a0_4]] w fun e w' => e = .returned (.string r) ∧ Below w.heap.size w w' := by
 have hu25 := Tryz.underlying25
 have HR0_3 := Aside0.mk hr0_3
 have HC0_3 := Aside0.mk hc0_3
 clear hr0_3 hc0_3
 have HB := Aside0.mk (Below.refl w.heap.size w)
 have H : ((line_PrintRequest.f a0_0 a0_1 a0_2).bind fun t182 => ((message_lines.f k t182 l0_3 (a0_4.toList != ([] : List UInt8)) (a0_4.size : Int)).bind fun t183 => ((message_text.f t183 a0_4).bind fun t186 => (some t186)))) = some r := h
 clear h
 replace H := Option.bind_eq_some_iff.mp H
 obtain ⟨t182, A20, H⟩ := H
 replace H : ((message_lines.f k t182 l0_3 (a0_4.toList != ([] : List UInt8)) (a0_4.size : Int)).bind fun t183 => ((message_text.f t183 a0_4).bind fun t186 => (some t186))) = some r := H
 have A2 := Aside0.mk A20
 clear A20
 replace H := Option.bind_eq_some_iff.mp H
 obtain ⟨t183, A30, H⟩ := H
 replace H : ((message_text.f t183 a0_4).bind fun t186 => (some t186)) = some r := H
 have A3 := Aside0.mk A30
 clear A30
 replace H := Option.bind_eq_some_iff.mp H
 obtain ⟨t186, A40, H⟩ := H
 replace H : (some t186) = some r := H
 have A4 := Aside0.mk A40
 clear A40
 obtain rfl := Option.some.inj H
 go_enter Tryz.func17, Tryz.ntmps17
 try go_wp2_with (first | ((with_reducible refine gate_dst (N := 1) rfl ?_); refine box_event ?hg (N := 1) ?hd (cs := #[.string a0_0, .string a0_1, .int .i64 a0_2, .slice A0_3 l0_3.length c0_3, .string a0_4]) (t := 25) ?hr ?_; (case hd => rfl); (case hg => rfl); (case hr => first | (go_simp; done) | (go_simp; rfl)); intro gb181 hg w5 hbox hb; have n0_ := Aside0.mk (below_step (by repeat (first | (with_reducible first | exact HB.out | apply below_alloc | apply pw_below_drewN | apply below_drew1) | exact HB.out)) hb); have n1_ := Aside0.mk (hbox); have n2_ := Aside0.mk ((by rw [hg]; exact (below_size (by repeat (first | (with_reducible first | exact HB.out | apply below_alloc | apply pw_below_drewN | apply below_drew1) | exact HB.out))) : w.heap.size ≤ gb181)); have n3_ := Aside0.mk ((by rw [hg]; exact (below_size (by repeat (first | (with_reducible first | exact HB.out | apply below_alloc | apply pw_below_drewN | apply below_drew1) | exact HB.out))) : w.heap.size ≤ gb181)); clear HB; have HB := n0_; have BK181 := n1_; have GW181 := n2_; have GE181 := n3_; clear n0_ n1_ n2_ n3_; clear hb hbox hg))
 have n0_ := Aside0.mk (blk_drew BK181.out)
 have n1_ := Aside0.mk (below_drew1 HB.out)
 clear BK181
 clear HB
 have BK181 := n0_
 have HB := n1_
 clear n0_ n1_
 refine start_ (n := 20) (S := fun w' => w'.cell? ⟨gb181, 0, none⟩ = some (.string a0_0) ∧ w'.cell? ⟨gb181, 1, none⟩ = some (.string a0_1) ∧ w'.cell? ⟨gb181, 2, none⟩ = some (.int .i64 a0_2) ∧ w'.cell? ⟨gb181, 3, none⟩ = some (.slice A0_3 l0_3.length c0_3) ∧ w'.cell? ⟨gb181, 4, none⟩ = some (.string a0_4)) (ds := []) #[false, false, false, false, false, false, false, false, false, false, false, false, false, false, false, false, false, false, false, false] (by kernel_rfl) rfl rfl ⟨(blk_cell BK181.out 0).trans rfl, (blk_cell BK181.out 1).trans rfl, (blk_cell BK181.out 2).trans rfl, (blk_cell BK181.out 3).trans rfl, (blk_cell BK181.out 4).trans rfl⟩ (fun hHeld => ?_); refine with_tabW message_PrintRequest.tab1 message_PrintRequest.bits1 (fun HT_ HW_ => ?_)
 generalize w5.drew = w6 at BK181 HB hHeld ⊢
 refine pure_ (i := 0) (N := some 3) (v := ?_) (a' := ?_) #[true, false, false, false, false, false, false, false, false, false, false, false, false, false, false, false, false, false, false, false] rfl rfl (any_of HT_.out (by kernel_rfl)) (fun _ _ _ h => h) (Or.inl ⟨by rfl, ?_⟩) ?_ ?_
 rotate_left
 ·intro w'
  go_simp
  with_reducible rfl
 rotate_left
 ·simp only [Act.put, List.setIfInBounds_toArray, List.set_cons_zero, List.set_cons_succ, i64_w, i32_w]
  rfl
 refine pure_ (i := 2) (N := some 5) (v := ?_) (a' := ?_) #[true, false, true, false, false, false, false, false, false, false, false, false, false, false, false, false, false, false, false, false] rfl rfl (any_of HT_.out (by kernel_rfl)) (fun _ _ _ h => h) (Or.inl ⟨by rfl, ?_⟩) ?_ ?_
 rotate_left
 ·intro w'
  go_simp
  with_reducible rfl
 rotate_left
 ·simp only [Act.put, List.setIfInBounds_toArray, List.set_cons_zero, List.set_cons_succ, i64_w, i32_w]
  rfl
 refine pure_ (i := 4) (N := some 7) (v := ?_) (a' := ?_) #[true, false, true, false, true, false, false, false, false, false, false, false, false, false, false, false, false, false, false, false] rfl rfl (any_of HT_.out (by kernel_rfl)) (fun _ _ _ h => h) (Or.inl ⟨by rfl, ?_⟩) ?_ ?_
 rotate_left
 ·intro w'
  go_simp
  with_reducible rfl
 rotate_left
 ·simp only [Act.put, List.setIfInBounds_toArray, List.set_cons_zero, List.set_cons_succ, i64_w, i32_w]
  rfl
 refine pure_ (i := 7) (N := some 10) (v := ?_) (a' := ?_) #[true, false, true, false, true, false, false, true, false, false, false, false, false, false, false, false, false, false, false, false] rfl rfl (any_of HT_.out (by kernel_rfl)) (fun _ _ _ h => h) (Or.inl ⟨by rfl, ?_⟩) ?_ ?_
 rotate_left
 ·intro w'
  go_simp
  with_reducible rfl
 rotate_left
 ·simp only [Act.put, List.setIfInBounds_toArray, List.set_cons_zero, List.set_cons_succ, i64_w, i32_w]
  rfl
 refine pure_ (i := 9) (N := some 12) (v := ?_) (a' := ?_) #[true, false, true, false, true, false, false, true, false, true, false, false, false, false, false, false, false, false, false, false] rfl rfl (any_of HT_.out (by kernel_rfl)) (fun _ _ _ h => h) (Or.inl ⟨by rfl, ?_⟩) ?_ ?_
 rotate_left
 ·intro w'
  go_simp
  with_reducible rfl
 rotate_left
 ·simp only [Act.put, List.setIfInBounds_toArray, List.set_cons_zero, List.set_cons_succ, i64_w, i32_w]
  rfl
 refine pure_ (i := 12) (N := some 15) (v := ?_) (a' := ?_) #[true, false, true, false, true, false, false, true, false, true, false, false, true, false, false, false, false, false, false, false] rfl rfl (any_of HT_.out (by kernel_rfl)) (fun _ _ _ h => h) (Or.inl ⟨by rfl, ?_⟩) ?_ ?_
 rotate_left
 ·intro w'
  go_simp
  with_reducible rfl
 rotate_left
 ·simp only [Act.put, List.setIfInBounds_toArray, List.set_cons_zero, List.set_cons_succ, i64_w, i32_w]
  rfl
 refine pure_ (i := 16) (N := some 19) (v := ?_) (a' := ?_) #[true, false, true, false, true, false, false, true, false, true, false, false, true, false, false, false, true, false, false, false] rfl rfl (any_of HT_.out (by kernel_rfl)) (fun _ _ _ h => h) (Or.inl ⟨by rfl, ?_⟩) ?_ ?_
 rotate_left
 ·intro w'
  go_simp
  with_reducible rfl
 rotate_left
 ·simp only [Act.put, List.setIfInBounds_toArray, List.set_cons_zero, List.set_cons_succ, i64_w, i32_w]
  rfl
 refine take_ (i := 1) (N := some 4) (v := ?_) (a' := ?_) #[true, true, true, false, true, false, false, true, false, true, false, false, true, false, false, false, true, false, false, false] rfl rfl (take_ofW HT_.out HW_.out (by kernel_rfl)) (fun _ _ _ h => h) (Or.inl ⟨by rfl, ?_⟩) hHeld ?_ ?_
 rotate_left
 ·rintro w' ⟨s0, s1, s2, s3, s4⟩
  go_simp
  with_reducible rfl
 rotate_left
 ·simp only [Act.put, List.setIfInBounds_toArray, List.set_cons_zero, List.set_cons_succ, i64_w, i32_w]
  rfl
 refine take_ (i := 3) (N := some 6) (v := ?_) (a' := ?_) #[true, true, true, true, true, false, false, true, false, true, false, false, true, false, false, false, true, false, false, false] rfl rfl (take_ofW HT_.out HW_.out (by kernel_rfl)) (fun _ _ _ h => h) (Or.inl ⟨by rfl, ?_⟩) hHeld ?_ ?_
 rotate_left
 ·rintro w' ⟨s0, s1, s2, s3, s4⟩
  go_simp
  with_reducible rfl
 rotate_left
 ·simp only [Act.put, List.setIfInBounds_toArray, List.set_cons_zero, List.set_cons_succ, i64_w, i32_w]
  rfl
 refine take_ (i := 5) (N := some 8) (v := ?_) (a' := ?_) #[true, true, true, true, true, true, false, true, false, true, false, false, true, false, false, false, true, false, false, false] rfl rfl (take_ofW HT_.out HW_.out (by kernel_rfl)) (fun _ _ _ h => h) (Or.inl ⟨by rfl, ?_⟩) hHeld ?_ ?_
 rotate_left
 ·rintro w' ⟨s0, s1, s2, s3, s4⟩
  go_simp
  with_reducible rfl
 rotate_left
 ·simp only [Act.put, List.setIfInBounds_toArray, List.set_cons_zero, List.set_cons_succ, i64_w, i32_w]
  rfl
 refine take_ (i := 8) (N := some 11) (v := ?_) (a' := ?_) #[true, true, true, true, true, true, false, true, true, true, false, false, true, false, false, false, true, false, false, false] rfl rfl (take_ofW HT_.out HW_.out (by kernel_rfl)) (fun _ _ _ h => h) (Or.inl ⟨by rfl, ?_⟩) hHeld ?_ ?_
 rotate_left
 ·rintro w' ⟨s0, s1, s2, s3, s4⟩
  go_simp
  with_reducible rfl
 rotate_left
 ·simp only [Act.put, List.setIfInBounds_toArray, List.set_cons_zero, List.set_cons_succ, i64_w, i32_w]
  rfl
 refine take_ (i := 10) (N := some 13) (v := ?_) (a' := ?_) #[true, true, true, true, true, true, false, true, true, true, true, false, true, false, false, false, true, false, false, false] rfl rfl (take_ofW HT_.out HW_.out (by kernel_rfl)) (fun _ _ _ h => h) (Or.inl ⟨by rfl, ?_⟩) hHeld ?_ ?_
 rotate_left
 ·rintro w' ⟨s0, s1, s2, s3, s4⟩
  go_simp
  with_reducible rfl
 rotate_left
 ·simp only [Act.put, List.setIfInBounds_toArray, List.set_cons_zero, List.set_cons_succ, i64_w, i32_w]
  rfl
 refine pure_ (i := 11) (N := some 14) (v := ?_) (a' := ?_) #[true, true, true, true, true, true, false, true, true, true, true, true, true, false, false, false, true, false, false, false] rfl rfl (any_of HT_.out (by kernel_rfl)) (fun _ _ _ h => h) (Or.inl ⟨by rfl, ?_⟩) ?_ ?_
 rotate_left
 ·intro w'
  go_simp
  with_reducible rfl
 rotate_left
 ·simp only [Act.put, List.setIfInBounds_toArray, List.set_cons_zero, List.set_cons_succ, i64_w, i32_w]
  rfl
 refine take_ (i := 13) (N := some 16) (v := ?_) (a' := ?_) #[true, true, true, true, true, true, false, true, true, true, true, true, true, true, false, false, true, false, false, false] rfl rfl (take_ofW HT_.out HW_.out (by kernel_rfl)) (fun _ _ _ h => h) (Or.inl ⟨by rfl, ?_⟩) hHeld ?_ ?_
 rotate_left
 ·rintro w' ⟨s0, s1, s2, s3, s4⟩
  go_simp
  with_reducible rfl
 rotate_left
 ·simp only [Act.put, List.setIfInBounds_toArray, List.set_cons_zero, List.set_cons_succ, i64_w, i32_w]
  rfl
 refine pure_ (i := 14) (N := some 17) (v := ?_) (a' := ?_) #[true, true, true, true, true, true, false, true, true, true, true, true, true, true, true, false, true, false, false, false] rfl rfl (any_of HT_.out (by kernel_rfl)) (fun _ _ _ h => h) (Or.inl ⟨by rfl, ?_⟩) ?_ ?_
 rotate_left
 ·intro w'
  go_simp
  with_reducible rfl
 rotate_left
 ·simp only [Act.put, List.setIfInBounds_toArray, List.set_cons_zero, List.set_cons_succ, i64_w, i32_w]
  rfl
 refine take_ (i := 17) (N := some 20) (v := ?_) (a' := ?_) #[true, true, true, true, true, true, false, true, true, true, true, true, true, true, true, false, true, true, false, false] rfl rfl (take_ofW HT_.out HW_.out (by kernel_rfl)) (fun _ _ _ h => h) (Or.inl ⟨by rfl, ?_⟩) hHeld ?_ ?_
 rotate_left
 ·rintro w' ⟨s0, s1, s2, s3, s4⟩
  go_simp
  with_reducible rfl
 rotate_left
 ·simp only [Act.put, List.setIfInBounds_toArray, List.set_cons_zero, List.set_cons_succ, i64_w, i32_w]
  rfl
 refine one_ (i := 6) (N := some 9) #[true, true, true, true, true, true, true, true, true, true, true, true, true, true, true, false, true, true, false, false] rfl rfl (one_of HT_.out (by kernel_rfl)) (by decide) (fun K hK => ?_)
 refine goes_ Tryz.func46 (by kernel_rfl) rfl #[.string a0_0, .string a0_1, .int .i64 a0_2] (by rfl) rfl rfl (by (try simp only [List.map_toArray, List.map_cons, List.map_nil]); first | done | rfl | (simp only [List.length_drop, List.length_take]; rfl) | (simp only [show ∀ l : List UInt8, (l != []) = !l.isEmpty from fun l => by cases l <;> rfl]; rfl)) ?_
 with_reducible refine (line_PrintRequest.calls a0_0 a0_1 a0_2 t182 _ ?side1 A2.out).mono ?_
 (case side1 => first | exact HT | exact ⟨Hand.Laid.below HT.out (by repeat (first | (with_reducible first | exact HB.out | apply below_alloc | apply pw_below_drewN | apply below_drew1 | refine below_set ?_ GE181.out) | exact HB.out))⟩)
 rintro e w7 ⟨rfl, hb⟩
 refine ⟨_, rfl, ?_⟩
 have n0_ := Aside0.mk (blk_below (g := gb181) (o := .cells #[.string a0_0, .string a0_1, .int .i64 a0_2, .slice A0_3 l0_3.length c0_3, .string a0_4] 25 (0, 0)) (by (with_reducible repeat (first | refine blk_drewN ?_ _ | refine blk_drew ?_ | refine blk_alloc ?_ _)); exact BK181.out) hb)
 have n1_ := Aside0.mk (below_step (by repeat (first | (with_reducible first | exact HB.out | apply below_alloc | apply pw_below_drewN | apply below_drew1 | refine below_set ?_ GE181.out) | exact HB.out)) hb)
 clear BK181
 clear HB
 have BK181 := n0_
 have HB := n1_
 clear n0_ n1_
 (try clear hb)
 (try clear hb2)
 (try clear hk)
 (try clear hi)
 refine hK.out _ _ ⟨(blk_cell BK181.out 0).trans rfl, (blk_cell BK181.out 1).trans rfl, (blk_cell BK181.out 2).trans rfl, (blk_cell BK181.out 3).trans rfl, (blk_cell BK181.out 4).trans rfl⟩ (fun hHeld => ?_)
 clear hK K
 refine norm_ (a' := ?_) ?_ ?_
 rotate_left
 ·show Act.put _ (some 9) _ = _
  simp only [Act.put, List.setIfInBounds_toArray, List.set_cons_zero, List.set_cons_succ, i64_w, i32_w]
  rfl
 refine one_ (i := 15) (N := some 18) #[true, true, true, true, true, true, true, true, true, true, true, true, true, true, true, true, true, true, false, false] rfl rfl (one_of HT_.out (by kernel_rfl)) (by decide) (fun K hK => ?_)
 refine goes_ Tryz.func45 (by kernel_rfl) rfl #[.string t182, .slice A0_3 l0_3.length c0_3, .bool (a0_4.toList != ([] : List UInt8)), .int .i64 (a0_4.size : Int)] (by rfl) rfl rfl (by (try simp only [List.map_toArray, List.map_cons, List.map_nil]); first | done | rfl | (simp only [List.length_drop, List.length_take]; rfl) | (simp only [show ∀ l : List UInt8, (l != []) = !l.isEmpty from fun l => by cases l <;> rfl]; rfl)) ?_
 with_reducible refine (message_lines.calls k t182 _ _ l0_3 (a0_4.toList != ([] : List UInt8)) (a0_4.size : Int) t183 _ ?side3 ?side1 ?side2 A3.out).mono ?_
 (case side1 => repeat (first | exact (Kd.C_below HR0_3.out HB.out) | (with_reducible refine Kd.C_alloc ?_ _) | (with_reducible refine Kd.C_drewN ?_ _) | (with_reducible refine Kd.C_drew ?_)))
 (case side2 => exact HC0_3.out)
 (case side3 => first | exact HT | exact ⟨Hand.Laid.below HT.out (by repeat (first | (with_reducible first | exact HB.out | apply below_alloc | apply pw_below_drewN | apply below_drew1 | refine below_set ?_ GE181.out) | exact HB.out))⟩)
 rintro e w8 ⟨v184, rfl, ho0, hb⟩
 refine ⟨_, rfl, ?_⟩
 have n0_ := Aside0.mk (Kd.R_lower ho0 (below_size (by repeat (first | (with_reducible first | exact HB.out | apply below_alloc | apply pw_below_drewN | apply below_drew1 | refine below_set ?_ GE181.out) | exact HB.out))))
 have n1_ := Aside0.mk (blk_below (g := gb181) (o := .cells #[.string a0_0, .string a0_1, .int .i64 a0_2, .slice A0_3 l0_3.length c0_3, .string a0_4] 25 (0, 0)) (by (with_reducible repeat (first | refine blk_drewN ?_ _ | refine blk_drew ?_ | refine blk_alloc ?_ _)); exact BK181.out) hb)
 have n2_ := Aside0.mk (below_step (by repeat (first | (with_reducible first | exact HB.out | apply below_alloc | apply pw_below_drewN | apply below_drew1 | refine below_set ?_ GE181.out) | exact HB.out)) hb)
 clear BK181
 clear HB
 have HO185 := n0_
 have BK181 := n1_
 have HB := n2_
 clear n0_ n1_ n2_
 (try clear hb)
 (try clear hb2)
 (try clear hk)
 (try clear hi)
 (try clear ho0)
 obtain ⟨Ao9, co9, eo9⟩ := Kd.R_slice HO185.out
 (first | subst eo9 | (injection eo9 with f1_ f2_ f3_; have f4_ := f1_.symm; have f5_ := f3_.symm; clear f1_ f2_ f3_; subst f4_; subst f5_))
 refine hK.out _ _ ⟨(blk_cell BK181.out 0).trans rfl, (blk_cell BK181.out 1).trans rfl, (blk_cell BK181.out 2).trans rfl, (blk_cell BK181.out 3).trans rfl, (blk_cell BK181.out 4).trans rfl⟩ (fun hHeld => ?_)
 clear hK K
 refine norm_ (a' := ?_) ?_ ?_
 rotate_left
 ·show Act.put _ (some 18) _ = _
  simp only [Act.put, List.setIfInBounds_toArray, List.set_cons_zero, List.set_cons_succ, i64_w, i32_w]
  rfl
 refine one_ (i := 18) (N := some 21) #[true, true, true, true, true, true, true, true, true, true, true, true, true, true, true, true, true, true, true, false] rfl rfl (one_of HT_.out (by kernel_rfl)) (by decide) (fun K hK => ?_)
 refine goes_ Tryz.func44 (by kernel_rfl) rfl #[.slice Ao9 t183.length co9, .string a0_4] (by rfl) rfl rfl (by (try simp only [List.map_toArray, List.map_cons, List.map_nil]); first | done | rfl | (simp only [List.length_drop, List.length_take]; rfl) | (simp only [show ∀ l : List UInt8, (l != []) = !l.isEmpty from fun l => by cases l <;> rfl]; rfl)) ?_
 with_reducible refine (message_text.calls _ _ t183 a0_4 t186 _ ?side1 ?side2 A4.out).mono ?_
 (case side1 => repeat (first | exact (Kd.R_reads' HO185.out).2.2 | (with_reducible refine Kd.C_alloc ?_ _) | (with_reducible refine Kd.C_drewN ?_ _) | (with_reducible refine Kd.C_drew ?_)))
 (case side2 => exact (Kd.R_reads' HO185.out).2.1)
 rintro e w10 ⟨rfl, hb⟩
 refine ⟨_, rfl, ?_⟩
 have n0_ := Aside0.mk (Kd.R_below (by (with_reducible repeat (first | apply Kd.R_alloc | apply Kd.R_drewN | apply Kd.R_drew)); exact HO185.out) hb)
 have n1_ := Aside0.mk (blk_below (g := gb181) (o := .cells #[.string a0_0, .string a0_1, .int .i64 a0_2, .slice A0_3 l0_3.length c0_3, .string a0_4] 25 (0, 0)) (by (with_reducible repeat (first | refine blk_drewN ?_ _ | refine blk_drew ?_ | refine blk_alloc ?_ _)); exact BK181.out) hb)
 have n2_ := Aside0.mk (below_step (by repeat (first | (with_reducible first | exact HB.out | apply below_alloc | apply pw_below_drewN | apply below_drew1 | refine below_set ?_ GE181.out) | exact HB.out)) hb)
 clear HO185
 clear BK181
 clear HB
 have HO185 := n0_
 have BK181 := n1_
 have HB := n2_
 clear n0_ n1_ n2_
 (try clear hb)
 (try clear hb2)
 (try clear hk)
 (try clear hi)
 refine hK.out _ _ ⟨(blk_cell BK181.out 0).trans rfl, (blk_cell BK181.out 1).trans rfl, (blk_cell BK181.out 2).trans rfl, (blk_cell BK181.out 3).trans rfl, (blk_cell BK181.out 4).trans rfl⟩ (fun hHeld => ?_)
 clear hK K
 refine norm_ (a' := ?_) ?_ ?_
 rotate_left
 ·show Act.put _ (some 21) _ = _
  simp only [Act.put, List.setIfInBounds_toArray, List.set_cons_zero, List.set_cons_succ, i64_w, i32_w]
  rfl
 refine pure_ (i := 19) (N := some 2) (v := ?_) (a' := ?_) #[true, true, true, true, true, true, true, true, true, true, true, true, true, true, true, true, true, true, true, true] rfl rfl (any_of HT_.out (by kernel_rfl)) (fun _ _ _ h => h) (Or.inl ⟨by rfl, ?_⟩) ?_ ?_
 rotate_left
 ·intro w'
  go_simp
  with_reducible rfl
 rotate_left
 ·simp only [Act.put, List.setIfInBounds_toArray, List.set_cons_zero, List.set_cons_succ, i64_w, i32_w]
  rfl
 refine done_ (done_of HT_.out (by kernel_rfl)) ?_
 try go_wp2
 go_ret
 exact ⟨by first | rfl | (simp [errW_none, errW_some] <;> rfl) | (simp [*, errW_none, errW_some] <;> rfl), by repeat (first | (with_reducible first | exact HB.out | apply below_alloc | apply pw_below_drewN | apply below_drew1 | refine below_set ?_ GE181.out) | exact HB.out)⟩

/-! ### line_PrintStatus: function 50 -/
def line_PrintStatus.f (a0 : Int) (a1 : ByteArray) (a2 : Int) : Option (ByteArray) := (decimal_Plain.f a2).bind fun t187 => (if 7 + t187.size ≤ 9223372036854775807 then ((decimal_Plain.f a0).bind fun t188 => ((line_words.f (([(⟨#[72, 84, 84, 80, 47, 49, 46]⟩ : ByteArray) ++ t187, t188, a1] : List ByteArray))).bind fun t192 => (some t192))) else (none))
set_option maxHeartbeats 8000000 in
set_option maxRecDepth 100000 in
theorem line_PrintStatus.calls (a0 : Int) (a1 : ByteArray) (a2 : Int) (r : ByteArray) (w : World) (HT : Aside0 (Hand.Laid w)) (h : line_PrintStatus.f a0 a1 a2 = some r) :
  Calls Tryz.prog 50 #[.int .i64 a0, .string a1, .int .i64 a2] w fun e w' => e = .returned (.string r) ∧ Below w.heap.size w w' := by
 have HB := Aside0.mk (Below.refl w.heap.size w)
 have H : ((decimal_Plain.f a2).bind fun t187 => (if 7 + t187.size ≤ 9223372036854775807 then ((decimal_Plain.f a0).bind fun t188 => ((line_words.f (([(⟨#[72, 84, 84, 80, 47, 49, 46]⟩ : ByteArray) ++ t187, t188, a1] : List ByteArray))).bind fun t192 => (some t192))) else (none))) = some r := h
 clear h
 replace H := Option.bind_eq_some_iff.mp H
 obtain ⟨t187, A40, H⟩ := H
 replace H : (if 7 + t187.size ≤ 9223372036854775807 then ((decimal_Plain.f a0).bind fun t188 => ((line_words.f (([(⟨#[72, 84, 84, 80, 47, 49, 46]⟩ : ByteArray) ++ t187, t188, a1] : List ByteArray))).bind fun t192 => (some t192))) else (none)) = some r := H
 have A4 := Aside0.mk A40
 clear A40
 by_cases c5 : 7 + t187.size ≤ 9223372036854775807
 ·rw [if_pos c5] at H
  have c5b0 := eq_true c5
  have c5b1 : decide (7 + t187.size ≤ 9223372036854775807) = true := decide_eq_true c5
  try have c5b2 : (9223372036854775807 < 7 + t187.size) = False := eq_false (Nat.not_lt.2 c5)
  replace H := Option.bind_eq_some_iff.mp H
  obtain ⟨t188, A60, H⟩ := H
  replace H : ((line_words.f (([(⟨#[72, 84, 84, 80, 47, 49, 46]⟩ : ByteArray) ++ t187, t188, a1] : List ByteArray))).bind fun t192 => (some t192)) = some r := H
  have A6 := Aside0.mk A60
  clear A60
  obtain ⟨y189, hy189⟩ : ∃ y_ : List ByteArray, y_ = (([(⟨#[72, 84, 84, 80, 47, 49, 46]⟩ : ByteArray) ++ t187, t188, a1] : List ByteArray)) := ⟨_, rfl⟩
  replace H : ((line_words.f y189).bind fun t192 => (some t192)) = some r := by first | (rw [hy189]; with_reducible exact H) | (have H2_ := (Option.bind_some _ _).symm.trans H; rw [hy189]; with_reducible exact H2_) | (have H2_ := (Option.bind_some _ _).symm.trans H; with_reducible exact H2_) | with_reducible exact H | (rw [hy189]; exact H) | exact H
  have Ny189 := Aside0.mk hy189
  clear hy189
  replace H := Option.bind_eq_some_iff.mp H
  obtain ⟨t192, A70, H⟩ := H
  replace H : (some t192) = some r := H
  have A7 := Aside0.mk A70
  clear A70
  obtain rfl := Option.some.inj H
  go_enter Tryz.func50, Tryz.ntmps50
  go_wp2_with (first | ((with_reducible refine gate_callee (f := 81) rfl ?_); refine goesL_ (some 8) rfl rfl Tryz.func81 (by kernel_rfl) rfl #[.int .i64 a2] rfl (by (try simp only [List.map_toArray, List.map_cons, List.map_nil]); first | done | rfl | (simp only [List.length_drop, List.length_take]; rfl)) ?_; (with_reducible refine (decimal_Plain.calls a2 t187 _ ?side1 A4.out).mono ?_); (case side1 => first | exact HT | exact ⟨Hand.Laid.below HT.out (by repeat (first | (with_reducible first | exact HB.out | apply below_alloc | apply pw_below_drewN | apply below_drew1) | exact HB.out))⟩); rintro e w8 ⟨rfl, hb⟩; refine ⟨_, rfl, ?_⟩; have n0_ := Aside0.mk (below_step (by repeat (first | (with_reducible first | exact HB.out | apply below_alloc | apply pw_below_drewN | apply below_drew1) | exact HB.out)) hb); clear HB; have HB := n0_; clear n0_; (try clear hb); (try clear hb2); (try clear hk); (try clear hi)) | ((with_reducible refine gate_callee (f := 81) rfl ?_); refine goesL_ (some 11) rfl rfl Tryz.func81 (by kernel_rfl) rfl #[.int .i64 a0] rfl (by (try simp only [List.map_toArray, List.map_cons, List.map_nil]); first | done | rfl | (simp only [List.length_drop, List.length_take]; rfl)) ?_; (with_reducible refine (decimal_Plain.calls a0 t188 _ ?side1 A6.out).mono ?_); (case side1 => first | exact HT | exact ⟨Hand.Laid.below HT.out (by repeat (first | (with_reducible first | exact HB.out | apply below_alloc | apply pw_below_drewN | apply below_drew1) | exact HB.out))⟩); rintro e w9 ⟨rfl, hb⟩; refine ⟨_, rfl, ?_⟩; have n0_ := Aside0.mk (below_step (by repeat (first | (with_reducible first | exact HB.out | apply below_alloc | apply pw_below_drewN | apply below_drew1) | exact HB.out)) hb); clear HB; have HB := n0_; clear n0_; (try clear hb); (try clear hb2); (try clear hk); (try clear hi)) | ((with_reducible refine gate_dst (N := 13) rfl ?_); refine Kd.R_lit Kd.string _ 9 ?hg (N := 13) ?hd (xs := ([(⟨#[72, 84, 84, 80, 47, 49, 46]⟩ : ByteArray) ++ t187, t188, a1] : List ByteArray)) (inner := [.string ((⟨#[72, 84, 84, 80, 47, 49, 46]⟩ : ByteArray) ++ t187), .string t188, .string a1]) (ok := fun _ => True) (okp := fun _ => True) ?hr ?hp (fun _ hk => hk) trivial (Below.refl _ _) (Nat.le_refl _) (by simp) ?_; (case hd => rfl); (case hg => rfl); (case hr => first | (go_simp; done) | (go_simp; rfl)); (case hp => exact (Reps.one (show Kd.M Kd.string _ _ _ ((⟨#[72, 84, 84, 80, 47, 49, 46]⟩ : ByteArray) ++ t187) [.string ((⟨#[72, 84, 84, 80, 47, 49, 46]⟩ : ByteArray) ++ t187)] from rfl) (Reps.one (show Kd.M Kd.string _ _ _ t188 [.string t188] from rfl) (Reps.one (show Kd.M Kd.string _ _ _ a1 [.string a1] from rfl) (Reps.none _ _))))); intro v190 w10 ho11 hb hg_ hnew_; clear hg_ hnew_; (first | rw [← Ny189.out] at ho11 | (simp only [Int.reduceToNat] at ho11; rw [← Ny189.out] at ho11)); have n0_ := Aside0.mk (Kd.R_lower ho11 (below_size (by repeat (first | (with_reducible first | exact HB.out | apply below_alloc | apply pw_below_drewN | apply below_drew1) | exact HB.out)))); have n1_ := Aside0.mk (below_step (by repeat (first | (with_reducible first | exact HB.out | apply below_alloc | apply pw_below_drewN | apply below_drew1) | exact HB.out)) hb); clear HB; have HO191 := n0_; have HB := n1_; clear n0_ n1_; clear hb ho11; obtain ⟨Ao12, co12, eo12⟩ := Kd.R_slice HO191.out; subst eo12) | ((with_reducible refine gate_callee (f := 82) rfl ?_); refine goesL_ (some 14) rfl rfl Tryz.func82 (by kernel_rfl) rfl #[.slice Ao12 y189.length co12] rfl (by (try simp only [List.map_toArray, List.map_cons, List.map_nil]); first | done | rfl | (simp only [List.length_drop, List.length_take]; rfl)) ?_; (with_reducible refine (line_words.calls _ _ y189 t192 _ ?side1 ?side2 A7.out).mono ?_); (case side1 => repeat (first | exact (Kd.R_reads' HO191.out).2.2 | (with_reducible refine Kd.C_alloc ?_ _) | (with_reducible refine Kd.C_drewN ?_ _) | (with_reducible refine Kd.C_drew ?_))); (case side2 => exact (Kd.R_reads' HO191.out).2.1); rintro e w13 ⟨rfl, hb⟩; refine ⟨_, rfl, ?_⟩; have n0_ := Aside0.mk (Kd.R_below (by (with_reducible repeat (first | apply Kd.R_alloc | apply Kd.R_drewN | apply Kd.R_drew)); exact HO191.out) hb); have n1_ := Aside0.mk (below_step (by repeat (first | (with_reducible first | exact HB.out | apply below_alloc | apply pw_below_drewN | apply below_drew1) | exact HB.out)) hb); clear HO191; clear HB; have HO191 := n0_; have HB := n1_; clear n0_ n1_; (try clear hb); (try clear hb2); (try clear hk); (try clear hi)))
  go_ret
  exact ⟨by first | rfl | (simp [errW_none, errW_some] <;> rfl) | (simp [*, errW_none, errW_some] <;> rfl), by repeat (first | (with_reducible first | exact HB.out | apply below_alloc | apply pw_below_drewN | apply below_drew1) | exact HB.out)⟩
 ·rw [if_neg c5] at H
  exact absurd H (by simp)

/-! ### message_PrintReply: function 19: told by hand -/
theorem cells5 {W : World} {b t : Nat} {v0 v1 v2 v3 v4 : Value} (h : W.heap[b]? = some (.cells #[v0, v1, v2, v3, v4] t (0, 0))) : W.cell? ⟨b, 0, none⟩ = some v0 ∧ W.cell? ⟨b, 1, none⟩ = some v1 ∧ W.cell? ⟨b, 2, none⟩ = some v2 ∧ W.cell? ⟨b, 3, none⟩ = some v3 ∧ W.cell? ⟨b, 4, none⟩ = some v4 := ⟨blk_cell h 0, blk_cell h 1, blk_cell h 2, blk_cell h 3, blk_cell h 4⟩
def message_PrintReply.f (k : Nat) (a0 : Int) (a1 : ByteArray) (a2 : Int) (l3 : List S98) (a4 : ByteArray) (a5 : Bool) : Option ByteArray :=
 (message_Bodiless.f a0).bind fun nb => (line_PrintStatus.f a0 a1 a2).bind fun s => (message_lines.f k s l3 (!nb && (!a5 || (a4.toList != []))) (a4.size : Int)).bind fun ls => message_text.f ls (if (a5 || nb) = true then (⟨#[]⟩ : ByteArray) else a4)
theorem message_PrintReply.mono : ∀ a0 a1 a2 l3 a4 a5 k, LeO (message_PrintReply.f k a0 a1 a2 l3 a4 a5) (message_PrintReply.f (k + 1) a0 a1 a2 l3 a4 a5) := fun a0 a1 a2 l3 a4 a5 k => by
 unfold message_PrintReply.f
 exact LeO.bind (LeO.refl _) fun _ => LeO.bind (LeO.refl _) fun _ => LeO.bind (message_lines.mono _ _ _ _ k) fun _ => LeO.refl _
theorem pr_bne {s : ByteArray} (h : s.size = 0) : (s.toList != []) = false ∧ s.toList.isEmpty = true ∧ (s.toList == []) = true := by rw [Hand.toList_nil_of h]; exact ⟨rfl, rfl, rfl⟩
theorem pr_bnn {s : ByteArray} (h : ¬ s.size = 0) : (s.toList != []) = true ∧ s.toList.isEmpty = false ∧ (s.toList == []) = false := by
 have := Hand.toList_cons_of h
 cases hq : s.toList with
 | nil => rw [hq] at this; cases this
 | cons a l => exact ⟨rfl, rfl, rfl⟩
set_option maxHeartbeats 3200000 in
set_option maxRecDepth 100000 in
theorem message_PrintReply.calls (k : Nat) (a0 : Int) (a1 : ByteArray) (a2 : Int) (A3 : Option Addr) (c3 : Nat) (l3 : List (S98)) (a4 : ByteArray) (a5 : Bool) (r : ByteArray) (w : World) (HT : Aside0 (Hand.Laid w)) (hr0_3 : Kd.C k98 w A3 l3.length l3) (hc0_3 : l3.length ≤ c3) (h : message_PrintReply.f k a0 a1 a2 l3 a4 a5 = some r) :
  Calls Tryz.prog 19 #[.agg #[.int .i64 a0, .string a1, .int .i64 a2, .slice A3 l3.length c3, .string a4], .bool a5] w fun e w' => e = .returned (.string r) ∧ Below w.heap.size w w' := by
 unfold message_PrintReply.f at h
 obtain ⟨nb, hnb, h⟩ := Option.bind_eq_some_iff.1 h
 obtain ⟨s, hs, h⟩ := Option.bind_eq_some_iff.1 h
 obtain ⟨ls, hl, h⟩ := Option.bind_eq_some_iff.1 h
 have HN := Aside0.mk hnb
 have HS := Aside0.mk hs
 have HC := Aside0.mk hr0_3
 have hc := hc0_3
 have HB0 := Aside0.mk (Hand.alloc_below w (.cells #[.int .i64 a0, .string a1, .int .i64 a2, .slice A3 l3.length c3, .string a4] 34))
 have HX0 := Aside0.mk (blk_new w (.cells #[.int .i64 a0, .string a1, .int .i64 a2, .slice A3 l3.length c3, .string a4] 34))
 have hq : (a4.toList != []) = true ∧ a4.toList.isEmpty = false ∧ (a4.toList == []) = false ∨ (a4.toList != []) = false ∧ a4.toList.isEmpty = true ∧ (a4.toList == []) = true := by
  by_cases hz : a4.size = 0
  ·exact Or.inr (pr_bne hz)
  ·exact Or.inl (pr_bnn hz)
 clear hnb hs hr0_3 hc0_3
 go_enter Tryz.func19, Tryz.ntmps19
 go_upto_region 1 with (fail)
 generalize w.alloc (.cells #[.int .i64 a0, .string a1, .int .i64 a2, .slice A3 l3.length c3, .string a4] 34) = W0 at HB0 HX0 ⊢
 obtain ⟨k0, k1, k2, k3, k4⟩ := cells5 HX0.out
 go_region_held3 (fun w' => w'.cell? ⟨w.heap.size, 0, none⟩ = some (.int .i64 a0) ∧ w'.cell? ⟨w.heap.size, 1, none⟩ = some (.string a1) ∧ w'.cell? ⟨w.heap.size, 2, none⟩ = some (.int .i64 a2) ∧ w'.cell? ⟨w.heap.size, 3, none⟩ = some (.slice A3 l3.length c3) ∧ w'.cell? ⟨w.heap.size, 4, none⟩ = some (.string a4)) (first | exact ⟨k0, k1, k2, k3, k4⟩ | exact ⟨m0, m1, m2, m3, m4⟩) (first | (go_at_call 25; refine (message_Bodiless.calls a0 nb _ HN.out).mono ?_; rintro e w1 ⟨rfl, n1, hw⟩; have hb1 : Below W0.heap.size W0 w1 := hw ▸ pw_below_drewN (Below.drew (Below.refl _ _)) n1; have HB1 := Aside0.mk (below_step HB0.out hb1); have HX1 := Aside0.mk (blk_below HX0.out hb1); obtain ⟨m0, m1, m2, m3, m4⟩ := cells5 HX1.out; clear hw hb1))
 all_goals
  clear k0 k1 k2 k3 k4
  have HB2 := HB1
  have HX2 := HX1
  clear HB1 HX1 HB0 HX0
  rcases hq with ⟨y1, y2, y3⟩ | ⟨y1, y2, y3⟩ <;> cases nb <;> cases a5 <;> rw [y1] at hl <;> simp only [Bool.not_true, Bool.not_false, Bool.true_and, Bool.false_and, Bool.or_true, Bool.or_false, Bool.true_or, Bool.false_or, if_true, if_false, Bool.false_eq_true] at hl h
  all_goals
   have HL := Aside0.mk hl
   have HTX := Aside0.mk h
   clear hl h
   go_upto_region 5 with (fail)
   obtain ⟨m0, m1, m2, m3, m4⟩ := cells5 HX2.out
   go_region_held3 (fun w' => w'.cell? ⟨w.heap.size, 0, none⟩ = some (.int .i64 a0) ∧ w'.cell? ⟨w.heap.size, 1, none⟩ = some (.string a1) ∧ w'.cell? ⟨w.heap.size, 2, none⟩ = some (.int .i64 a2) ∧ w'.cell? ⟨w.heap.size, 3, none⟩ = some (.slice A3 l3.length c3) ∧ w'.cell? ⟨w.heap.size, 4, none⟩ = some (.string a4)) (first | exact ⟨m0, m1, m2, m3, m4⟩ | exact ⟨n0, n1, n2, n3, n4⟩ | exact ⟨p0, p1, p2, p3, p4⟩ | exact ⟨q0, q1, q2, q3, q4⟩) (first | (go_at_call 50; refine (line_PrintStatus.calls a0 a1 a2 s _ ⟨HT.out.below (below_step HB2.out (Below.drew (Below.refl _ _)))⟩ HS.out).mono ?_; rintro e w3 ⟨rfl, hb⟩; have HB3 := Aside0.mk (below_step HB2.out (Below.trans (Below.drew (Below.refl _ _)) hb)); have HX3 := Aside0.mk (blk_below HX2.out (Below.trans (Below.drew (Below.refl _ _)) hb)); obtain ⟨n0, n1, n2, n3, n4⟩ := cells5 HX3.out; clear hb) | (go_at_call 45; refine (message_lines.calls k s A3 c3 l3 _ _ ls _ ⟨HT.out.below HB3.out⟩ (Kd.C_below HC.out HB3.out) hc HL.out).mono ?_; rintro e w4 ⟨v, rfl, ho, hb⟩; obtain ⟨A5, c5, rfl, hl5, hC5⟩ := Kd.R_reads ho; have HC5 := Aside0.mk hC5; have HB4 := Aside0.mk (below_step HB3.out hb); have HX4 := Aside0.mk (blk_below HX3.out hb); obtain ⟨p0, p1, p2, p3, p4⟩ := cells5 HX4.out; clear ho hb hC5) | (go_at_call 44; refine (message_text.calls A5 c5 ls _ r _ HC5.out hl5 HTX.out).mono ?_; rintro e w5 ⟨rfl, hb⟩; have HB5 := Aside0.mk (below_step HB4.out hb); have HX5 := Aside0.mk (blk_below HX4.out hb); obtain ⟨q0, q1, q2, q3, q4⟩ := cells5 HX5.out; clear hb))
   all_goals
    go_wp2_with fail
    go_ret
    exact ⟨rfl, HB5.out⟩

/-! ### fields_Check: function 85: told by hand -/
/-- Fields one by one: what is wrong with them; was one too long. -/
def checkGo : List S98 → Bool → Option Int
 | [], long => some (if long = true then 4 else 0)
 | x :: l, long => (octet_IsToken.f x.f0).bind fun a => if a = true then
   ((octet_IsText.f x.f1).bind fun b => if b = true then
    ((octet_Trim.f x.f1).bind fun t => if (t.toList == x.f1.toList) = true then
     (if long = true then checkGo l true else (fields_Line.f x.f0 x.f1).bind fun s => checkGo l (decide (8192 < s.size)))
    else some 21) else some 21) else some 21
def fields_Check.f (l0 : List S98) : Option Int := if 64 < l0.length then some 4 else checkGo l0 false
set_option maxHeartbeats 1600000 in
set_option maxRecDepth 100000 in
theorem fields_Check.calls (A0 : Option Addr) (c0 : Nat) (l0 : List S98) (r : Int) (w : World) (hr0 : Kd.C k98 w A0 l0.length l0) (hc0 : l0.length ≤ c0) (h : fields_Check.f l0 = some r) :
  Calls Tryz.prog 85 #[.slice A0 l0.length c0] w fun e w' => e = .returned (.int .i64 r) ∧ Below w.heap.size w w' := by
 unfold fields_Check.f at h
 have HR := Aside0.mk hr0
 clear hr0
 by_cases h0 : 64 < l0.length
 ·rw [if_pos h0] at h
  obtain rfl := Option.some.inj h
  have e1 : decide (64 < (l0.length : Int)) = true := decide_eq_true (by omega)
  have e2 : decide (64 < l0.length) = true := decide_eq_true h0
  clear h h0
  go_enter Tryz.func85, Tryz.ntmps85
  go_wp2
  go_ret
  exact ⟨rfl, Below.refl _ _⟩
 rw [if_neg h0] at h
 have e1 : decide (64 < (l0.length : Int)) = false := decide_eq_false (by omega)
 have e2 : decide (64 < l0.length) = false := decide_eq_false h0
 have HF := Aside0.mk h
 clear h
 go_enter Tryz.func85, Tryz.ntmps85
 go_wp2
 go_loopw [3, 11] (fun v3 v11 wx => ∃ (n : Nat) (lg : Bool), n ≤ l0.length ∧ v3 = .bool lg ∧ v11 = .int .i64 n ∧ Aside0 (checkGo (l0.drop n) lg = some r) ∧ Aside0 (Below w.heap.size w wx)) (fun _ v11 _ => l0.length - (intOf v11).toNat)
 case atStart => exact ⟨0, false, Nat.zero_le _, rfl, rfl, HF, ⟨Below.refl _ _⟩⟩
 case round =>
  clear HF
  obtain ⟨n, lg, hn, rfl, rfl, HF, HB⟩ := hrel
  by_cases hlt : n < l0.length
  ·obtain ⟨ad, e0, hx0, hx1⟩ := at_T98 HR.out n (by omega) (by omega)
   cases e0
   replace hx0 := (HB.out.cell (World.block_lt_of_cell? w _ hx0)).trans hx0
   replace hx1 := (HB.out.cell (World.block_lt_of_cell? w _ hx1)).trans hx1
   rw [Int.toNat_natCast] at hx0 hx1
   have rdn : rd_T98 l0 n = l0[n] := by show l0.getD n _ = _; rw [List.getD_eq_getElem?_getD, List.getElem?_eq_getElem hlt]; rfl
   rw [rdn] at hx0 hx1
   have hf := HF.out
   rw [List.drop_eq_getElem_cons hlt, checkGo] at hf
   generalize l0[n] = x at hx0 hx1 hf
   clear rdn HF
   obtain ⟨a, ha, hf⟩ := Option.bind_eq_some_iff.1 hf
   have HA := Aside0.mk ha
   clear ha
   go_upto_region 7 with (fail)
   have hx := blk_new wr (.cells #[.string x.f0, .string x.f1] 98)
   have HB2 := Aside0.mk (HB.out.alloc HB.out.size (.cells #[.string x.f0, .string x.f1] 98))
   clear HB hx0 hx1
   generalize wr.alloc (.cells #[.string x.f0, .string x.f1] 98) = w2 at hx HB2 ⊢
   generalize wr.heap.size = bx at hx ⊢
   have hlx := blk_lt hx
   have d0 : w2.cell? ⟨bx, 0, none⟩ = some (.string x.f0) := blk_cell hx 0
   have d1 : w2.cell? ⟨bx, 1, none⟩ = some (.string x.f1) := blk_cell hx 1
   clear hx
   cases a
   ·obtain rfl : 21 = r := by simpa using hf
    clear hf
    first | (go_region_with (first | (go_at_call 58; refine (octet_IsToken.calls x.f0 false _ HA.out).mono ?_; rintro e w3 ⟨rfl, hb⟩; have HB3 := Aside0.mk (below_step HB2.out (Below.trans (Below.drew (Below.refl _ _)) hb)); have u0 := (hb.cell hlx).trans d0; have u1 := (hb.cell hlx).trans d1; clear hb))) | fail
    all_goals
     go_wp2_with fail
     go_ret
     exact ⟨rfl, HB3.out⟩
   rw [if_pos rfl] at hf
   obtain ⟨b, hb_, hf⟩ := Option.bind_eq_some_iff.1 hf
   have HI := Aside0.mk hb_
   clear hb_
   cases b
   ·obtain rfl : 21 = r := by simpa using hf
    clear hf
    first | (go_region_with (first | (go_at_call 58; refine (octet_IsToken.calls x.f0 true _ HA.out).mono ?_; rintro e w3 ⟨rfl, hb⟩; have HB3 := Aside0.mk (below_step HB2.out (Below.trans (Below.drew (Below.refl _ _)) hb)); have u0 := (hb.cell hlx).trans d0; have u1 := (hb.cell hlx).trans d1; clear hb) | (go_at_call 76; refine (octet_IsText.calls x.f1 false _ HI.out).mono ?_; rintro e w4 ⟨rfl, hb⟩; have HB4 := Aside0.mk (below_step HB3.out hb); have v0 := (hb.cell (World.block_lt_of_cell? _ _ u0)).trans u0; have v1 := (hb.cell (World.block_lt_of_cell? _ _ u1)).trans u1; clear hb))) | fail
    all_goals
     go_wp2_with fail
     go_ret
     exact ⟨rfl, HB4.out⟩
   rw [if_pos rfl] at hf
   obtain ⟨t, ht, hf⟩ := Option.bind_eq_some_iff.1 hf
   have HTR := Aside0.mk ht
   clear ht
   by_cases h3 : (t.toList == x.f1.toList) = true
   case neg =>
    rw [if_neg h3] at hf
    obtain rfl : 21 = r := by simpa using hf
    rw [Bool.not_eq_true] at h3
    have h4 : (t.toList != x.f1.toList) = true := by rw [bne, h3]; rfl
    clear hf
    first | (go_region_with (first | (go_at_call 58; refine (octet_IsToken.calls x.f0 true _ HA.out).mono ?_; rintro e w3 ⟨rfl, hb⟩; have HB3 := Aside0.mk (below_step HB2.out (Below.trans (Below.drew (Below.refl _ _)) hb)); have u0 := (hb.cell hlx).trans d0; have u1 := (hb.cell hlx).trans d1; clear hb) | (go_at_call 76; refine (octet_IsText.calls x.f1 true _ HI.out).mono ?_; rintro e w4 ⟨rfl, hb⟩; have HB4 := Aside0.mk (below_step HB3.out hb); have v0 := (hb.cell (World.block_lt_of_cell? _ _ u0)).trans u0; have v1 := (hb.cell (World.block_lt_of_cell? _ _ u1)).trans u1; clear hb) | (go_at_call 93; refine (octet_Trim.calls x.f1 t _ HTR.out).mono ?_; rintro e w5 ⟨rfl, hb⟩; have HB5 := Aside0.mk (below_step HB4.out hb); have y0 := (hb.cell (World.block_lt_of_cell? _ _ v0)).trans v0; have y1 := (hb.cell (World.block_lt_of_cell? _ _ v1)).trans v1; clear hb))) | fail
    all_goals
     go_wp2_with fail
     go_ret
     exact ⟨rfl, HB5.out⟩
   rw [if_pos h3] at hf
   have h4 : (t.toList != x.f1.toList) = false := by rw [bne, h3]; rfl
   cases lg
   ·rw [if_neg (by simp)] at hf
    obtain ⟨s, hs, hf⟩ := Option.bind_eq_some_iff.1 hf
    have HS := Aside0.mk hs
    have HF2 := Aside0.mk hf
    clear hf hs
    first | (go_region_with (first | (go_at_call 58; refine (octet_IsToken.calls x.f0 true _ HA.out).mono ?_; rintro e w3 ⟨rfl, hb⟩; have HB3 := Aside0.mk (below_step HB2.out (Below.trans (Below.drew (Below.refl _ _)) hb)); have u0 := (hb.cell hlx).trans d0; have u1 := (hb.cell hlx).trans d1; clear hb) | (go_at_call 76; refine (octet_IsText.calls x.f1 true _ HI.out).mono ?_; rintro e w4 ⟨rfl, hb⟩; have HB4 := Aside0.mk (below_step HB3.out hb); have v0 := (hb.cell (World.block_lt_of_cell? _ _ u0)).trans u0; have v1 := (hb.cell (World.block_lt_of_cell? _ _ u1)).trans u1; clear hb) | (go_at_call 93; refine (octet_Trim.calls x.f1 t _ HTR.out).mono ?_; rintro e w5 ⟨rfl, hb⟩; have HB5 := Aside0.mk (below_step HB4.out hb); have y0 := (hb.cell (World.block_lt_of_cell? _ _ v0)).trans v0; have y1 := (hb.cell (World.block_lt_of_cell? _ _ v1)).trans v1; clear hb))) | fail
    all_goals
     by_cases h5 : 8192 < s.size
     all_goals
      (try have q1 : decide (8192 < (s.size : Int)) = true := decide_eq_true (by omega))
      (try have q2 : decide (8192 < (s.size : Int)) = false := decide_eq_false (by omega))
      (try have q3 : decide (8192 < s.size) = true := decide_eq_true h5)
      (try have q4 : decide (8192 < s.size) = false := decide_eq_false h5)
      go_wp2_with (go_at_call 80; refine (fields_Line.calls x.f0 x.f1 s _ HS.out).mono ?_; rintro e w6 ⟨rfl, hb⟩; have HB6 := Aside0.mk (below_step HB5.out hb); clear hb)
      refine ⟨⟨n + 1, decide (8192 < s.size), by omega, by simp [*], by go_num, HF2, HB6⟩, by simp [intOf] <;> omega⟩
   ·rw [if_pos rfl] at hf
    have HF2 := Aside0.mk hf
    clear hf
    first | (go_region_with (first | (go_at_call 58; refine (octet_IsToken.calls x.f0 true _ HA.out).mono ?_; rintro e w3 ⟨rfl, hb⟩; have HB3 := Aside0.mk (below_step HB2.out (Below.trans (Below.drew (Below.refl _ _)) hb)); have u0 := (hb.cell hlx).trans d0; have u1 := (hb.cell hlx).trans d1; clear hb) | (go_at_call 76; refine (octet_IsText.calls x.f1 true _ HI.out).mono ?_; rintro e w4 ⟨rfl, hb⟩; have HB4 := Aside0.mk (below_step HB3.out hb); have v0 := (hb.cell (World.block_lt_of_cell? _ _ u0)).trans u0; have v1 := (hb.cell (World.block_lt_of_cell? _ _ u1)).trans u1; clear hb) | (go_at_call 93; refine (octet_Trim.calls x.f1 t _ HTR.out).mono ?_; rintro e w5 ⟨rfl, hb⟩; have HB5 := Aside0.mk (below_step HB4.out hb); have y0 := (hb.cell (World.block_lt_of_cell? _ _ v0)).trans v0; have y1 := (hb.cell (World.block_lt_of_cell? _ _ v1)).trans v1; clear hb))) | fail
    all_goals
     go_wp2_with fail
     refine ⟨⟨n + 1, true, by omega, rfl, by go_num, HF2, HB5⟩, by simp [intOf] <;> omega⟩
  ·have hf := HF.out
   rw [List.drop_of_length_le (by omega), checkGo] at hf
   obtain rfl := Option.some.inj hf
   clear hf HF
   cases lg
   all_goals
    go_wp2
    go_ret
    exact ⟨rfl, HB.out⟩

end Go.Proofs.YtjaklgikfcahdaaGreatDoor.PU
