-- Halved: the indents of this text are half of the print's.
-- Out of the translation, by a program of this session: each function that a law comes to as a Lean function, and that the machine's call does what it says. Lean checks it.
import Derived.Test.YtjaklgikfcahdaaGreatDoorPU0
import Derived.Test.YtjaklgikfcahdaaGreatDoorPU6
import Derived.Test.YtjaklgikfcahdaaGreatDoorPU7
import Derived.Test.YtjaklgikfcahdaaGreatDoorPU9
import Derived.Test.YtjaklgikfcahdaaGreatDoorPU10
import Derived.Test.YtjaklgikfcahdaaGreatDoorPU11
namespace Go.Proofs.YtjaklgikfcahdaaGreatDoor.PU
open Go.RowKit Go.Proofs.YtjaklgikfcahdaaGreatDoorW.PrintWords Go.Proofs.YtjaklgikfcahdaaGreatDoorW.PrintLast Go.Proofs.YtjaklgikfcahdaaGreatDoorW.PrintMore
attribute [local go_sem] max2_int min2_int max_two min_two max_three min_three max_four min_four   -- for this text's walks alone
set_option linter.unusedVariables false
set_option linter.unusedSimpArgs false

/-! ### depotlaw12_messages: function 8: told by hand -/
theorem cells5z {W : World} {b t : Nat} {v0 v1 v2 v3 v4 : Value} (h : W.heap[b]? = some (.cells #[v0, v1, v2, v3, v4] t (0, 0))) : W.cell? ⟨b, 0, none⟩ = some v0 ∧ W.cell? ⟨b, 1, none⟩ = some v1 ∧ W.cell? ⟨b, 2, none⟩ = some v2 ∧ W.cell? ⟨b, 3, none⟩ = some v3 ∧ W.cell? ⟨b, 4, none⟩ = some v4 := ⟨blk_cell h 0, blk_cell h 1, blk_cell h 2, blk_cell h 3, blk_cell h 4⟩
theorem nil_spells {s : ByteArray} (h : s.size = 0) : (s.toList == []) = true ∧ s.toList.isEmpty = true ∧ (s.toList != []) = false := by rw [Hand.toList_nil_of h]; exact ⟨rfl, rfl, rfl⟩
def depotlaw12_messages.f (k : Nat) : Option Bool :=
 (message_ParseRequest.f k (⟨#[71, 69, 84, 32, 47, 32, 72, 84, 84, 80, 47, 49, 46, 49, 13, 10, 72, 111, 115, 116, 58, 32, 97, 13, 10, 13, 10]⟩ : ByteArray)).bind fun a => (message_ParseRequest.f k (⟨#[80, 85, 84, 32, 47, 32, 72, 84, 84, 80, 47, 49, 46, 49, 13, 10, 72, 111, 115, 116, 58, 32, 97, 13, 10, 67, 111, 110, 116, 101, 110, 116, 45, 76, 101, 110, 103, 116, 104, 58, 32, 50, 13, 10, 13, 10, 97, 98]⟩ : ByteArray)).bind fun b => (message_ParseRequest.f k (⟨#[80, 85, 84, 32, 47, 32, 72, 84, 84, 80, 47, 49, 46, 49, 13, 10, 72, 111, 115, 116, 58, 32, 97, 13, 10, 67, 111, 110, 116, 101, 110, 116, 45, 76, 101, 110, 103, 116, 104, 58, 32, 50, 13, 10, 84, 114, 97, 110, 115, 102, 101, 114, 45, 69, 110, 99, 111, 100, 105, 110, 103, 58, 32, 99, 104, 117, 110, 107, 101, 100, 13, 10, 13, 10, 97, 98]⟩ : ByteArray)).bind fun g => (message_ParseReply.f k (⟨#[72, 84, 84, 80, 47, 49, 46, 49, 32, 50, 48, 48, 32, 79, 75, 13, 10, 65, 58, 32, 98, 13, 10, 13, 10, 120, 121, 122]⟩ : ByteArray) (⟨#[71, 69, 84]⟩ : ByteArray)).bind fun c =>
 if (a.1.toList == [71, 69, 84]) = true ∧ a.2.2.2.2.1.size = 0 ∧ a.2.2.2.1.length = 1 ∧ a.2.2.2.2.2 = 0 ∧ (b.2.2.2.2.1.toList == [97, 98]) = true ∧ b.2.2.2.1.length = 1 ∧ b.2.2.2.2.2 = 0 ∧ g.2.2.2.2.2 = 22 ∧ c.1 = 200 ∧ (c.2.2.2.2.1.toList == [120, 121, 122]) = true ∧ c.2.2.2.2.2 = 0 then
  (message_PrintReply.f k c.1 c.2.1 c.2.2.1 c.2.2.2.1 c.2.2.2.2.1 false).bind fun p => (message_PrintRequest.f k a.1 a.2.1 a.2.2.1 a.2.2.2.1 a.2.2.2.2.1).bind fun q => (message_CheckRequest.f k a.1 a.2.1 a.2.2.1 a.2.2.2.1 a.2.2.2.2.1).bind fun x => (message_CheckReply.f k c.1 c.2.1 c.2.2.1 c.2.2.2.1 c.2.2.2.2.1).bind fun y => (message_Bodiless.f 304).bind fun z =>
  some (decide ((p.toList == [72, 84, 84, 80, 47, 49, 46, 49, 32, 50, 48, 48, 32, 79, 75, 13, 10, 65, 58, 32, 98, 13, 10, 67, 111, 110, 116, 101, 110, 116, 45, 76, 101, 110, 103, 116, 104, 58, 32, 51, 13, 10, 13, 10, 120, 121, 122]) = true ∧ (q.toList == [71, 69, 84, 32, 47, 32, 72, 84, 84, 80, 47, 49, 46, 49, 13, 10, 72, 111, 115, 116, 58, 32, 97, 13, 10, 13, 10]) = true ∧ x = 0 ∧ y = 0 ∧ z = true))
 else some false
theorem depotlaw12_messages.mono : ∀ k, LeO (depotlaw12_messages.f k) (depotlaw12_messages.f (k + 1)) := fun k => by
 unfold depotlaw12_messages.f
 exact LeO.bind (message_ParseRequest.mono _ k) fun _ => LeO.bind (message_ParseRequest.mono _ k) fun _ => LeO.bind (message_ParseRequest.mono _ k) fun _ => LeO.bind (message_ParseReply.mono _ _ k) fun _ => LeO.ite (LeO.bind (message_PrintReply.mono _ _ _ _ _ _ k) fun _ => LeO.bind (message_PrintRequest.mono _ _ _ _ _ k) fun _ => LeO.bind (message_CheckRequest.mono _ _ _ _ _ k) fun _ => LeO.bind (message_CheckReply.mono _ _ _ _ _ k) fun _ => LeO.refl _) (LeO.refl _)
set_option maxHeartbeats 3200000 in
set_option maxRecDepth 100000 in
theorem depotlaw12_messages.calls (k : Nat) (r : Bool) (w : World) (HTRUE : Aside0 (r = true)) (HT : Aside0 (Hand.Laid w)) (h : depotlaw12_messages.f k = some r) :
  Calls Tryz.prog 8 #[] w fun e w' => e = .returned (.bool r) ∧ Below w.heap.size w w' := by
 unfold depotlaw12_messages.f at h
 obtain ⟨⟨a1, a2, a3, a4, a5, a6⟩, ha, h⟩ := Option.bind_eq_some_iff.1 h
 obtain ⟨⟨b1, b2, b3, b4, b5, b6⟩, hb_, h⟩ := Option.bind_eq_some_iff.1 h
 obtain ⟨⟨g1, g2, g3, g4, g5, g6⟩, hg, h⟩ := Option.bind_eq_some_iff.1 h
 obtain ⟨⟨c1, c2, c3, c4, c5, c6⟩, hc, h⟩ := Option.bind_eq_some_iff.1 h
 obtain rfl := HTRUE.out
 simp only at h
 split at h
 case isFalse => cases h
 case isTrue hh =>
 obtain ⟨e1, e2, e3, rfl, e5, e6, rfl, rfl, rfl, ec, rfl⟩ := hh
 obtain ⟨p, hp, h⟩ := Option.bind_eq_some_iff.1 h
 obtain ⟨q, hq, h⟩ := Option.bind_eq_some_iff.1 h
 obtain ⟨x, hx, h⟩ := Option.bind_eq_some_iff.1 h
 obtain ⟨y, hy, h⟩ := Option.bind_eq_some_iff.1 h
 obtain ⟨z, hz, h⟩ := Option.bind_eq_some_iff.1 h
 obtain ⟨s1, s2, rfl, rfl, rfl⟩ := of_decide_eq_true (Option.some.inj h)
 obtain ⟨n1, n2, n3⟩ := nil_spells e2
 have m1 : ((a4.length : Int) == 1) = true := beq_iff_eq.2 (by omega)
 have m2 : ((b4.length : Int) == 1) = true := beq_iff_eq.2 (by omega)
 have HA := Aside0.mk ha
 have HB := Aside0.mk hb_
 have HG := Aside0.mk hg
 have HC := Aside0.mk hc
 have HP := Aside0.mk hp
 have HQ := Aside0.mk hq
 have HX := Aside0.mk hx
 have HY := Aside0.mk hy
 have HZ := Aside0.mk hz
 clear h ha hb_ hg hc hp hq hx hy hz e2 e3 e6
 go_enter Tryz.func8, Tryz.ntmps8
 go_upto_region 2 with (go_at_call 9; refine (message_ParseRequest.calls k _ a1 a2 a3 a4 a5 0 _ HT HA.out).mono ?_; rintro e w1 ⟨v, rfl, hv, hb⟩; obtain ⟨Aa, ca, rfl, hla, hC⟩ := Kd.R_reads hv; have HK1 := Aside0.mk hC; have HB1 := Aside0.mk hb; clear hv hC hb HA)
 have hb := Hand.alloc_below w1 (.cells #[.string a1, .string a2, .int .i64 a3, .slice Aa a4.length ca, .string a5] 25)
 have HB2 := Aside0.mk (below_step HB1.out hb)
 have HK2 := Aside0.mk (Kd.C_below HK1.out hb)
 have HX2 := Aside0.mk (blk_new w1 (.cells #[.string a1, .string a2, .int .i64 a3, .slice Aa a4.length ca, .string a5] 25))
 clear hb HB1 HK1
 generalize w1.alloc (.cells #[.string a1, .string a2, .int .i64 a3, .slice Aa a4.length ca, .string a5] 25) = w2 at HB2 HK2 HX2 ⊢
 generalize w1.heap.size = ba at HX2 ⊢
 go_upto_region 3 with (go_at_call 9; refine (message_ParseRequest.calls k _ b1 b2 b3 b4 b5 0 _ ⟨HT.out.below HB2.out⟩ HB.out).mono ?_; rintro e w3 ⟨v, rfl, hv, hb⟩; obtain ⟨Ab, cb, rfl⟩ := Kd.R_slice hv; have HB3 := Aside0.mk (below_step HB2.out hb); have HK3 := Aside0.mk (Kd.C_below HK2.out hb); have HX3 := Aside0.mk (blk_below HX2.out hb); clear hv hb HB HB2 HK2 HX2)
 have hb := Hand.alloc_below w3 (.cells #[.string b1, .string b2, .int .i64 b3, .slice Ab b4.length cb, .string b5] 25)
 have HB4 := Aside0.mk (below_step HB3.out hb)
 have HK4 := Aside0.mk (Kd.C_below HK3.out hb)
 have HX4 := Aside0.mk (blk_below HX3.out hb)
 have HY4 := Aside0.mk (blk_new w3 (.cells #[.string b1, .string b2, .int .i64 b3, .slice Ab b4.length cb, .string b5] 25))
 clear hb HB3 HK3 HX3
 generalize w3.alloc (.cells #[.string b1, .string b2, .int .i64 b3, .slice Ab b4.length cb, .string b5] 25) = w4 at HB4 HK4 HX4 HY4 ⊢
 generalize w3.heap.size = bb at HY4 ⊢
 go_upto_region 4 with (go_at_call 9; refine (message_ParseRequest.calls k _ g1 g2 g3 g4 g5 22 _ ⟨HT.out.below HB4.out⟩ HG.out).mono ?_; rintro e w5 ⟨v, rfl, hv, hb⟩; obtain ⟨Ag, cg, rfl⟩ := Kd.R_slice hv; have HB5 := Aside0.mk (below_step HB4.out hb); have HK5 := Aside0.mk (Kd.C_below HK4.out hb); have HX5 := Aside0.mk (blk_below HX4.out hb); have HY5 := Aside0.mk (blk_below HY4.out hb); clear hv hb HG HB4 HK4 HX4 HY4)
 have hb := Hand.alloc_below w5 (.cells #[.string g1, .string g2, .int .i64 g3, .slice Ag g4.length cg, .string g5] 25)
 have HB6 := Aside0.mk (below_step HB5.out hb)
 have HK6 := Aside0.mk (Kd.C_below HK5.out hb)
 have HX6 := Aside0.mk (blk_below HX5.out hb)
 have HY6 := Aside0.mk (blk_below HY5.out hb)
 clear hb HB5 HK5 HX5 HY5
 generalize w5.alloc (.cells #[.string g1, .string g2, .int .i64 g3, .slice Ag g4.length cg, .string g5] 25) = w6 at HB6 HK6 HX6 HY6 ⊢
 generalize w5.heap.size = bg
 go_upto_region 5 with (go_at_call 12; refine (message_ParseReply.calls k _ _ 200 c2 c3 c4 c5 0 _ ⟨HT.out.below HB6.out⟩ HC.out).mono ?_; rintro e w7 ⟨v, rfl, hv, hb⟩; obtain ⟨Ac, cc, rfl, hlc, hC⟩ := Kd.R_reads hv; have HL7 := Aside0.mk hC; have HB7 := Aside0.mk (below_step HB6.out hb); have HK7 := Aside0.mk (Kd.C_below HK6.out hb); have HX7 := Aside0.mk (blk_below HX6.out hb); have HY7 := Aside0.mk (blk_below HY6.out hb); clear hv hb hC HC HB6 HK6 HX6 HY6)
 have hb := Hand.alloc_below w7 (.cells #[.int .i64 200, .string c2, .int .i64 c3, .slice Ac c4.length cc, .string c5] 34)
 have HB8 := Aside0.mk (below_step HB7.out hb)
 have HK8 := Aside0.mk (Kd.C_below HK7.out hb)
 have HL8 := Aside0.mk (Kd.C_below HL7.out hb)
 have HX8 := Aside0.mk (blk_below HX7.out hb)
 have HY8 := Aside0.mk (blk_below HY7.out hb)
 have HZ8 := Aside0.mk (blk_new w7 (.cells #[.int .i64 200, .string c2, .int .i64 c3, .slice Ac c4.length cc, .string c5] 34))
 clear hb HB7 HK7 HL7 HX7 HY7
 generalize w7.alloc (.cells #[.int .i64 200, .string c2, .int .i64 c3, .slice Ac c4.length cc, .string c5] 34) = w8 at HB8 HK8 HL8 HX8 HY8 HZ8 ⊢
 generalize w7.heap.size = bc at HZ8 ⊢
 obtain ⟨x0, x1, x2, x3, x4⟩ := cells5z HX8.out
 obtain ⟨y0, y1, y2, y3, y4⟩ := cells5z HY8.out
 obtain ⟨z0, z1, z2, z3, z4⟩ := cells5z HZ8.out
 clear HY8
 go_wp2_with (first | (go_at_call 19; refine (message_PrintReply.calls k 200 c2 c3 Ac cc c4 c5 false p _ ⟨HT.out.below HB8.out⟩ HL8.out hlc HP.out).mono ?_; rintro e w9 ⟨rfl, hb⟩; have HB9 := Aside0.mk (below_step HB8.out hb); have HK9 := Aside0.mk (Kd.C_below HK8.out hb); have HL9 := Aside0.mk (Kd.C_below HL8.out hb); have HX9 := Aside0.mk (blk_below HX8.out hb); have HZ9 := Aside0.mk (blk_below HZ8.out hb); clear hb HB8 HK8 HL8 HX8 HZ8 x0 x1 x2 x3 x4 z0 z1 z2 z3 z4; obtain ⟨x0, x1, x2, x3, x4⟩ := cells5z HX9.out; obtain ⟨z0, z1, z2, z3, z4⟩ := cells5z HZ9.out) | (go_at_call 17; refine (message_PrintRequest.calls k a1 a2 a3 Aa ca a4 a5 q _ ⟨HT.out.below HB9.out⟩ HK9.out hla HQ.out).mono ?_; rintro e w10 ⟨rfl, hb⟩; have HB10 := Aside0.mk (below_step HB9.out hb); have HK10 := Aside0.mk (Kd.C_below HK9.out hb); have HL10 := Aside0.mk (Kd.C_below HL9.out hb); have HX10 := Aside0.mk (blk_below HX9.out hb); have HZ10 := Aside0.mk (blk_below HZ9.out hb); clear hb HB9 HK9 HL9 HX9 HZ9 x0 x1 x2 x3 x4 z0 z1 z2 z3 z4; obtain ⟨x0, x1, x2, x3, x4⟩ := cells5z HX10.out; obtain ⟨z0, z1, z2, z3, z4⟩ := cells5z HZ10.out) | (go_at_call 21; refine (message_CheckRequest.calls k a1 a2 a3 Aa ca a4 a5 0 _ ⟨HT.out.below HB10.out⟩ HK10.out hla HX.out).mono ?_; rintro e w11 ⟨rfl, hb⟩; have HB11 := Aside0.mk (below_step HB10.out hb); have HK11 := Aside0.mk (Kd.C_below HK10.out hb); have HL11 := Aside0.mk (Kd.C_below HL10.out hb); have HX11 := Aside0.mk (blk_below HX10.out hb); have HZ11 := Aside0.mk (blk_below HZ10.out hb); clear hb HB10 HK10 HL10 HX10 HZ10 x0 x1 x2 x3 x4 z0 z1 z2 z3 z4; obtain ⟨x0, x1, x2, x3, x4⟩ := cells5z HX11.out; obtain ⟨z0, z1, z2, z3, z4⟩ := cells5z HZ11.out) | (go_at_call 23; refine (message_CheckReply.calls k 200 c2 c3 Ac cc c4 c5 0 _ ⟨HT.out.below HB11.out⟩ HL11.out hlc HY.out).mono ?_; rintro e w12 ⟨rfl, hb⟩; have HB12 := Aside0.mk (below_step HB11.out hb); have HK12 := Aside0.mk (Kd.C_below HK11.out hb); have HL12 := Aside0.mk (Kd.C_below HL11.out hb); have HX12 := Aside0.mk (blk_below HX11.out hb); have HZ12 := Aside0.mk (blk_below HZ11.out hb); clear hb HB11 HK11 HL11 HX11 HZ11 x0 x1 x2 x3 x4 z0 z1 z2 z3 z4; obtain ⟨x0, x1, x2, x3, x4⟩ := cells5z HX12.out; obtain ⟨z0, z1, z2, z3, z4⟩ := cells5z HZ12.out) | (go_at_call 25; refine (message_Bodiless.calls 304 true _ HZ.out).mono ?_; rintro e w13 ⟨rfl, n13, rfl⟩))
 go_ret
 exact ⟨rfl, pw_below_drewN HB12.out _⟩

/-! ### depotref09_Few: function 43 -/
mutual
def depotref09_Few.l0 : Nat → List (S98) → Int → Int → Int → Option (Bool)
 | 0, _, _, _, _ => none
 | k + 1, x0, x1, x2, x7 => if x7 < (x0.length : Int) then (depotref09_Few.j1 k x0 x1 x2 x7 (decide (x7 ≤ x1))) else (depotref09_Few.j1 k x0 x1 x2 x7 false)
def depotref09_Few.j1 : Nat → List (S98) → Int → Int → Int → Bool → Option (Bool)
 | 0, _, _, _, _, _ => none
 | k + 1, x0, x1, x2, x7, x16 => if x16 = true then (if 0 ≤ x7 then (if x7 < (x0.length : Int) then (if (((rd_T98 x0 x7).f0).size : Int) > x2 then (some false) else (if (((rd_T98 x0 x7).f1).size : Int) > x2 then (some false) else (depotref09_Few.l0 k x0 x1 x2 (wrap64 (x7 + 1))))) else (none)) else (none)) else (some (decide ((x0.length : Int) ≤ x1)))
end
def depotref09_Few.f (k : Nat) (l0 : List (S98)) (a1 : Int) (a2 : Int) : Option (Bool) := depotref09_Few.l0 k l0 a1 a2 0
theorem depotref09_Few.mono_l : ∀ k, (∀ y0 y1 y2 y3, LeO (depotref09_Few.l0 k y0 y1 y2 y3) (depotref09_Few.l0 (k + 1) y0 y1 y2 y3)) ∧ (∀ y0 y1 y2 y3 y4, LeO (depotref09_Few.j1 k y0 y1 y2 y3 y4) (depotref09_Few.j1 (k + 1) y0 y1 y2 y3 y4))
 | 0 => ⟨fun _ _ _ _ r h => by simp [depotref09_Few.l0] at h, fun _ _ _ _ _ r h => by simp [depotref09_Few.j1] at h⟩
 | k + 1 => by
  obtain ⟨ih0, ih1⟩ := depotref09_Few.mono_l k
  refine ⟨?_, ?_⟩
  ·intro y0 y1 y2 y3
   unfold depotref09_Few.l0
   repeat' first
   | (with_reducible exact ih0 _ _ _ _)
   | (with_reducible exact ih1 _ _ _ _ _)
   | (with_reducible exact LeO.refl _)
   | (with_reducible exact LeO.none _)
   | (with_reducible refine LeO.ite ?_ ?_)
   | (with_reducible refine LeO.bind ?_ (fun _ => ?_))
   | exact ih0 _ _ _ _
   | exact ih1 _ _ _ _ _
   | exact LeO.none _
   | refine LeO.ite ?_ ?_
   | refine LeO.bind ?_ (fun _ => ?_)
  ·intro y0 y1 y2 y3 y4
   unfold depotref09_Few.j1
   repeat' first
   | (with_reducible exact ih0 _ _ _ _)
   | (with_reducible exact ih1 _ _ _ _ _)
   | (with_reducible exact LeO.refl _)
   | (with_reducible exact LeO.none _)
   | (with_reducible refine LeO.ite ?_ ?_)
   | (with_reducible refine LeO.bind ?_ (fun _ => ?_))
   | exact ih0 _ _ _ _
   | exact ih1 _ _ _ _ _
   | exact LeO.none _
   | refine LeO.ite ?_ ?_
   | refine LeO.bind ?_ (fun _ => ?_)
theorem depotref09_Few.mono : ∀ a0 a1 a2 k, LeO (depotref09_Few.f k a0 a1 a2) (depotref09_Few.f (k + 1) a0 a1 a2) := by
 intro a0 a1 a2 k
 obtain ⟨ih0, ih1⟩ := depotref09_Few.mono_l k
 unfold depotref09_Few.f
 repeat' first
   | (with_reducible exact ih0 _ _ _ _)
   | (with_reducible exact ih1 _ _ _ _ _)
   | (with_reducible exact LeO.refl _)
   | (with_reducible exact LeO.none _)
   | (with_reducible refine LeO.ite ?_ ?_)
   | (with_reducible refine LeO.bind ?_ (fun _ => ?_))
   | exact ih0 _ _ _ _
   | exact ih1 _ _ _ _ _
   | exact LeO.none _
   | refine LeO.ite ?_ ?_
   | refine LeO.bind ?_ (fun _ => ?_)
set_option maxHeartbeats 8000000 in
set_option maxRecDepth 100000 in
theorem depotref09_Few.calls (k : Nat) (A0 : Option Addr) (c0 : Nat) (l0 : List (S98)) (a1 : Int) (a2 : Int) (r : Bool) (w : World) (hr0 : Kd.C k98 w A0 l0.length l0) (hc0 : l0.length ≤ c0) (h : depotref09_Few.f k l0 a1 a2 = some r) :
  Calls Tryz.prog 43 #[.slice A0 l0.length c0, .int .i64 a1, .int .i64 a2] w fun e w' => e = .returned (.bool r) ∧ Drawn0 w w' := by
 have HR0 := Aside0.mk hr0
 have HC0 := Aside0.mk hc0
 clear hr0 hc0
 have H : (depotref09_Few.l0 k l0 a1 a2 0) = some r := h
 clear h
 have H' := Aside0.mk H
 clear H
 go_enter Tryz.func43, Tryz.ntmps43
 go_wp2
 go_loopg [7] k (fun kq v7 w' => ∃ (x7_1 : Int), v7 = .int .i64 x7_1 ∧ Aside0 (depotref09_Few.l0 kq l0 a1 a2 x7_1 = some r) ∧ Aside0 (kq ≤ k) ∧ Drawn0 w w')
 case atStart => exact ⟨(0), (by first | rfl | (simp; done) | (simp [*]; done) | (simp; exact Hand.isEmpty_ne _)), H', ⟨Nat.le_refl _⟩, by repeat (first | exact Drawn0.refl _ | apply Drawn0.step)⟩
 case round =>
  clear H'
  try clear p2
  obtain ⟨x7_1, rfl, HA, HK1, ⟨m1, rfl⟩⟩ := hrel
  cases gk with
  | zero => exact absurd HA.out (by simp [depotref09_Few.l0])
  | succ k1 =>
   have H := HA.out
   clear HA
   simp only [depotref09_Few.l0] at H
   have HC4 := Aside0.mk H
   clear H
   go_upto_region 2 with (fail)
   go_cut [16] (fun v16 wc => ∃ (kq : Nat) (x16_3 : Bool), v16 = .bool x16_3 ∧ Aside0 (depotref09_Few.j1 kq l0 a1 a2 x7_1 x16_3 = some r) ∧ Aside0 (kq ≤ k1) ∧ Drawn0 w wc)
   case first =>
    have H := HC4.out
    clear HC4
    by_cases c5 : x7_1 < (l0.length : Int)
    ·rw [if_pos c5] at H
     have c5b0 : decide (x7_1 < (l0.length : Int)) = true := decide_eq_true c5
     clear c5
     (first | rw [c5b0] | (simp only [i64_w, i32_w]; rw [c5b0]) | skip)
     have H' := Aside0.mk H
     clear H
     go_wp2
     go_meet
     case rel => exact ⟨_, (decide (x7_1 ≤ a1)), (by first | rfl | (simp; done) | (simp [*]; done) | (simp; exact Hand.isEmpty_ne _)), H', ⟨by have := HK1.out; first | omega | exact Nat.le_refl _⟩, by repeat (first | exact Drawn0.refl _ | apply Drawn0.step)⟩
    ·rw [if_neg c5] at H
     have c5b0 : decide (x7_1 < (l0.length : Int)) = false := decide_eq_false c5
     clear c5
     (first | rw [c5b0] | (simp only [i64_w, i32_w]; rw [c5b0]) | skip)
     have H' := Aside0.mk H
     clear H
     go_wp2
     go_meet
     case rel => exact ⟨_, (false), (by first | rfl | (simp; done) | (simp [*]; done) | (simp; exact Hand.isEmpty_ne _)), H', ⟨by have := HK1.out; first | omega | exact Nat.le_refl _⟩, by repeat (first | exact Drawn0.refl _ | apply Drawn0.step)⟩
   case rest =>
    clear HC4
    try clear p2
    try clear c4
    try clear c5
    try clear c5b0
    try clear p2
    obtain ⟨kq, x16_3, rfl, HA, HJ3, ⟨mc3, rfl⟩⟩ := hcut
    cases kq with
    | zero => exact absurd HA.out (by simp [depotref09_Few.j1])
    | succ kj3 =>
     have H := HA.out
     clear HA
     simp only [depotref09_Few.j1] at H
     by_cases c6 : x16_3 = true
     ·subst c6
      have H1 : (if 0 ≤ x7_1 then (if x7_1 < (l0.length : Int) then (if (((rd_T98 l0 x7_1).f0).size : Int) > a2 then (some false) else (if (((rd_T98 l0 x7_1).f1).size : Int) > a2 then (some false) else (depotref09_Few.l0 kj3 l0 a1 a2 (wrap64 (x7_1 + 1))))) else (none)) else (none)) = some r := by rw [if_pos rfl] at H; exact H
      clear H
      have H := H1
      clear H1
      by_cases c7 : 0 ≤ x7_1
      ·rw [if_pos c7] at H
       have c7b0 : decide (0 ≤ x7_1) = true := decide_eq_true c7
       clear c7
       by_cases c8 : x7_1 < (l0.length : Int)
       ·rw [if_pos c8] at H
        have c8b0 : decide (x7_1 < (l0.length : Int)) = true := decide_eq_true c8
        clear c8
        by_cases c9 : (((rd_T98 l0 x7_1).f0).size : Int) > a2
        ·rw [if_pos c9] at H
         have c9b0 : decide (a2 < (((rd_T98 l0 x7_1).f0).size : Int)) = true := decide_eq_true c9
         clear c9
         obtain rfl := Option.some.inj H
         have p203 : 0 ≤ (x7_1 : Int) := of_decide_eq_true (by first | (with_reducible assumption) | assumption)
         have q203 : x7_1 < (l0.length : Int) := of_decide_eq_true (by first | (with_reducible assumption) | assumption)
         obtain ⟨ad203, e203, hx203_0, hx203_1⟩ := at_T98 HR0.out x7_1 p203 q203
         cases e203
         replace p203 := eq_true p203
         replace q203 := eq_true q203
         go_wp2
         go_ret
         exact ⟨by first | rfl | (simp; done) | (simp [*]; done) | (simp; exact Hand.isEmpty_ne _), by repeat (first | exact Drawn0.refl _ | apply Drawn0.step)⟩
        ·rw [if_neg c9] at H
         have c9b0 : decide (a2 < (((rd_T98 l0 x7_1).f0).size : Int)) = false := decide_eq_false c9
         clear c9
         by_cases c10 : (((rd_T98 l0 x7_1).f1).size : Int) > a2
         ·rw [if_pos c10] at H
          have c10b0 : decide (a2 < (((rd_T98 l0 x7_1).f1).size : Int)) = true := decide_eq_true c10
          clear c10
          obtain rfl := Option.some.inj H
          have p203 : 0 ≤ (x7_1 : Int) := of_decide_eq_true (by first | (with_reducible assumption) | assumption)
          have q203 : x7_1 < (l0.length : Int) := of_decide_eq_true (by first | (with_reducible assumption) | assumption)
          obtain ⟨ad203, e203, hx203_0, hx203_1⟩ := at_T98 HR0.out x7_1 p203 q203
          cases e203
          replace p203 := eq_true p203
          replace q203 := eq_true q203
          have p204 : 0 ≤ (x7_1 : Int) := of_decide_eq_true (by first | (with_reducible assumption) | assumption)
          have q204 : x7_1 < (l0.length : Int) := of_decide_eq_true (by first | (with_reducible assumption) | assumption)
          obtain ⟨ad204, e204, hx204_0, hx204_1⟩ := at_T98 HR0.out x7_1 p204 q204
          obtain rfl : ad203 = ad204 := (by injection e204)
          replace p204 := eq_true p204
          replace q204 := eq_true q204
          go_wp2
          go_ret
          exact ⟨by first | rfl | (simp; done) | (simp [*]; done) | (simp; exact Hand.isEmpty_ne _), by repeat (first | exact Drawn0.refl _ | apply Drawn0.step)⟩
         ·rw [if_neg c10] at H
          have c10b0 : decide (a2 < (((rd_T98 l0 x7_1).f1).size : Int)) = false := decide_eq_false c10
          clear c10
          have H' := Aside0.mk H
          clear H
          have p203 : 0 ≤ (x7_1 : Int) := of_decide_eq_true (by first | (with_reducible assumption) | assumption)
          have q203 : x7_1 < (l0.length : Int) := of_decide_eq_true (by first | (with_reducible assumption) | assumption)
          obtain ⟨ad203, e203, hx203_0, hx203_1⟩ := at_T98 HR0.out x7_1 p203 q203
          cases e203
          replace p203 := eq_true p203
          replace q203 := eq_true q203
          have p204 : 0 ≤ (x7_1 : Int) := of_decide_eq_true (by first | (with_reducible assumption) | assumption)
          have q204 : x7_1 < (l0.length : Int) := of_decide_eq_true (by first | (with_reducible assumption) | assumption)
          obtain ⟨ad204, e204, hx204_0, hx204_1⟩ := at_T98 HR0.out x7_1 p204 q204
          obtain rfl : ad203 = ad204 := (by injection e204)
          replace p204 := eq_true p204
          replace q204 := eq_true q204
          go_wp2
          go_roundg kj3
          case measure => have := HK1.out; have := HJ3.out; omega
          case rel => exact ⟨(wrap64 (x7_1 + 1)), (by first | rfl | (simp; done) | (simp [*]; done) | (simp; exact Hand.isEmpty_ne _)), H', ⟨by have := HK1.out; have := HJ3.out; omega⟩, by repeat (first | exact Drawn0.refl _ | apply Drawn0.step)⟩
       ·rw [if_neg c8] at H
        exact absurd H (by simp)
      ·rw [if_neg c7] at H
       exact absurd H (by simp)
     ·replace c6 := Bool.eq_false_iff.mpr c6
      subst c6
      have H1 : (some (decide ((l0.length : Int) ≤ a1))) = some r := by rw [if_neg (show ¬ (false = true) by decide)] at H; exact H
      clear H
      have H := H1
      clear H1
      obtain rfl := Option.some.inj H
      go_wp2
      go_ret
      exact ⟨by first | rfl | (simp; done) | (simp [*]; done) | (simp; exact Hand.isEmpty_ne _), by repeat (first | exact Drawn0.refl _ | apply Drawn0.step)⟩

/-! ### depotref12_FewRequest: function 15 -/
def depotref12_FewRequest.f (k : Nat) (a0_0 : ByteArray) (a0_1 : ByteArray) (a0_2 : Int) (l0_3 : List (S98)) (a0_4 : ByteArray) (a1 : Int) : Option (Bool) := if (a0_0.size : Int) ≤ a1 then (if (a0_1.size : Int) ≤ a1 then (if (a0_4.size : Int) ≤ a1 then ((depotref09_Few.f k l0_3 70 a1).bind fun t206 => (some t206)) else (some false)) else (some false)) else (some false)
theorem depotref12_FewRequest.mono : ∀ a0 a1 a2 a3 a4 a5 k, LeO (depotref12_FewRequest.f k a0 a1 a2 a3 a4 a5) (depotref12_FewRequest.f (k + 1) a0 a1 a2 a3 a4 a5) := by
 intro a0 a1 a2 a3 a4 a5 k
 unfold depotref12_FewRequest.f
 repeat' first
   | (with_reducible exact depotref09_Few.mono _ _ _ _)
   | (with_reducible exact LeO.refl _)
   | (with_reducible exact LeO.none _)
   | (with_reducible refine LeO.ite ?_ ?_)
   | (with_reducible refine LeO.bind ?_ (fun _ => ?_))
   | exact depotref09_Few.mono _ _ _ _
   | exact LeO.none _
   | refine LeO.ite ?_ ?_
   | refine LeO.bind ?_ (fun _ => ?_)
set_option maxHeartbeats 8000000 in
set_option maxRecDepth 100000 in
theorem depotref12_FewRequest.calls (k : Nat) (a0_0 : ByteArray) (a0_1 : ByteArray) (a0_2 : Int) (A0_3 : Option Addr) (c0_3 : Nat) (l0_3 : List (S98)) (a0_4 : ByteArray) (a1 : Int) (r : Bool) (w : World) (hr0_3 : Kd.C k98 w A0_3 l0_3.length l0_3) (hc0_3 : l0_3.length ≤ c0_3) (h : depotref12_FewRequest.f k a0_0 a0_1 a0_2 l0_3 a0_4 a1 = some r) :
  Calls Tryz.prog 15 #[.agg #[.string a0_0, .string a0_1, .int .i64 a0_2, .slice A0_3 l0_3.length c0_3, .string a0_4], .int .i64 a1] w fun e w' => e = .returned (.bool r) ∧ Below w.heap.size w w' := by
 have hu25 := Tryz.underlying25
 have HR0_3 := Aside0.mk hr0_3
 have HC0_3 := Aside0.mk hc0_3
 clear hr0_3 hc0_3
 have HB := Aside0.mk (Below.refl w.heap.size w)
 have H : (if (a0_0.size : Int) ≤ a1 then (if (a0_1.size : Int) ≤ a1 then (if (a0_4.size : Int) ≤ a1 then ((depotref09_Few.f k l0_3 70 a1).bind fun t206 => (some t206)) else (some false)) else (some false)) else (some false)) = some r := h
 clear h
 by_cases c3 : (a0_0.size : Int) ≤ a1
 ·rw [if_pos c3] at H
  have c3b0 : decide ((a0_0.size : Int) ≤ a1) = true := decide_eq_true c3
  clear c3
  by_cases c4 : (a0_1.size : Int) ≤ a1
  ·rw [if_pos c4] at H
   have c4b0 : decide ((a0_1.size : Int) ≤ a1) = true := decide_eq_true c4
   clear c4
   by_cases c5 : (a0_4.size : Int) ≤ a1
   ·rw [if_pos c5] at H
    have c5b0 : decide ((a0_4.size : Int) ≤ a1) = true := decide_eq_true c5
    clear c5
    replace H := Option.bind_eq_some_iff.mp H
    obtain ⟨t206, A60, H⟩ := H
    replace H : (some t206) = some r := H
    have A6 := Aside0.mk A60
    clear A60
    obtain rfl := Option.some.inj H
    go_enter Tryz.func15, Tryz.ntmps15
    go_wp2_with (first | ((with_reducible refine gate_dst (N := 2) rfl ?_); (try (refine gate_guard (by rfl) ?_; dsimp only)); refine box_event ?hg (N := 2) ?hd (cs := #[.string a0_0, .string a0_1, .int .i64 a0_2, .slice A0_3 l0_3.length c0_3, .string a0_4]) (t := 25) ?hr ?_; (case hd => rfl); (case hg => rfl); (case hr => first | (go_simp; done) | (go_simp; rfl)); intro gb205 hg w7 hbox hb; have n0_ := Aside0.mk (below_step (by repeat (first | (with_reducible first | exact HB.out | apply below_alloc | apply pw_below_drewN | apply below_drew1) | exact HB.out)) hb); have n1_ := Aside0.mk (hbox); have n2_ := Aside0.mk ((by rw [hg]; exact (below_size (by repeat (first | (with_reducible first | exact HB.out | apply below_alloc | apply pw_below_drewN | apply below_drew1) | exact HB.out))) : w.heap.size ≤ gb205)); have n3_ := Aside0.mk ((by rw [hg]; exact (below_size (by repeat (first | (with_reducible first | exact HB.out | apply below_alloc | apply pw_below_drewN | apply below_drew1) | exact HB.out))) : w.heap.size ≤ gb205)); clear HB; have HB := n0_; have BK205 := n1_; have GW205 := n2_; have GE205 := n3_; clear n0_ n1_ n2_ n3_; clear hb hbox hg; have hcz8_0 : w7.cell? ⟨gb205, 0, none⟩ = some (.string a0_0) := (blk_cell BK205.out 0).trans rfl; have hcz8_1 : w7.cell? ⟨gb205, 1, none⟩ = some (.string a0_1) := (blk_cell BK205.out 1).trans rfl; have hcz8_2 : w7.cell? ⟨gb205, 2, none⟩ = some (.int .i64 a0_2) := (blk_cell BK205.out 2).trans rfl; have hcz8_3 : w7.cell? ⟨gb205, 3, none⟩ = some (.slice A0_3 l0_3.length c0_3) := (blk_cell BK205.out 3).trans rfl; have hcz8_4 : w7.cell? ⟨gb205, 4, none⟩ = some (.string a0_4) := (blk_cell BK205.out 4).trans rfl; have hfz8_0 := blk_frozen BK205.out 0; have hfz8_1 := blk_frozen BK205.out 1; have hfz8_2 := blk_frozen BK205.out 2; have hfz8_3 := blk_frozen BK205.out 3; have hfz8_4 := blk_frozen BK205.out 4) | (go_at_call 43; (with_reducible refine (depotref09_Few.calls k _ _ l0_3 70 a1 t206 _ ?side1 ?side2 A6.out).mono ?_); (case side1 => repeat (first | exact (Kd.C_below HR0_3.out HB.out) | (with_reducible refine Kd.C_alloc ?_ _) | (with_reducible refine Kd.C_drewN ?_ _) | (with_reducible refine Kd.C_drew ?_))); (case side2 => exact HC0_3.out); rintro e w' ⟨rfl, ⟨nd, rfl⟩⟩))
    go_ret
    exact ⟨by first | rfl | (simp [errW_none, errW_some] <;> rfl) | (simp [*, errW_none, errW_some] <;> rfl), by repeat (first | (with_reducible first | exact HB.out | apply below_alloc | apply pw_below_drewN | apply below_drew1 | refine below_set ?_ GE205.out) | exact HB.out)⟩
   ·rw [if_neg c5] at H
    have c5b0 : decide ((a0_4.size : Int) ≤ a1) = false := decide_eq_false c5
    clear c5
    obtain rfl := Option.some.inj H
    go_enter Tryz.func15, Tryz.ntmps15
    go_wp2_with (first | ((with_reducible refine gate_dst (N := 2) rfl ?_); (try (refine gate_guard (by rfl) ?_; dsimp only)); refine box_event ?hg (N := 2) ?hd (cs := #[.string a0_0, .string a0_1, .int .i64 a0_2, .slice A0_3 l0_3.length c0_3, .string a0_4]) (t := 25) ?hr ?_; (case hd => rfl); (case hg => rfl); (case hr => first | (go_simp; done) | (go_simp; rfl)); intro gb205 hg w9 hbox hb; have n0_ := Aside0.mk (below_step (by repeat (first | (with_reducible first | exact HB.out | apply below_alloc | apply pw_below_drewN | apply below_drew1) | exact HB.out)) hb); have n1_ := Aside0.mk (hbox); have n2_ := Aside0.mk ((by rw [hg]; exact (below_size (by repeat (first | (with_reducible first | exact HB.out | apply below_alloc | apply pw_below_drewN | apply below_drew1) | exact HB.out))) : w.heap.size ≤ gb205)); have n3_ := Aside0.mk ((by rw [hg]; exact (below_size (by repeat (first | (with_reducible first | exact HB.out | apply below_alloc | apply pw_below_drewN | apply below_drew1) | exact HB.out))) : w.heap.size ≤ gb205)); clear HB; have HB := n0_; have BK205 := n1_; have GW205 := n2_; have GE205 := n3_; clear n0_ n1_ n2_ n3_; clear hb hbox hg; have hcz10_0 : w9.cell? ⟨gb205, 0, none⟩ = some (.string a0_0) := (blk_cell BK205.out 0).trans rfl; have hcz10_1 : w9.cell? ⟨gb205, 1, none⟩ = some (.string a0_1) := (blk_cell BK205.out 1).trans rfl; have hcz10_2 : w9.cell? ⟨gb205, 2, none⟩ = some (.int .i64 a0_2) := (blk_cell BK205.out 2).trans rfl; have hcz10_3 : w9.cell? ⟨gb205, 3, none⟩ = some (.slice A0_3 l0_3.length c0_3) := (blk_cell BK205.out 3).trans rfl; have hcz10_4 : w9.cell? ⟨gb205, 4, none⟩ = some (.string a0_4) := (blk_cell BK205.out 4).trans rfl; have hfz10_0 := blk_frozen BK205.out 0; have hfz10_1 := blk_frozen BK205.out 1; have hfz10_2 := blk_frozen BK205.out 2; have hfz10_3 := blk_frozen BK205.out 3; have hfz10_4 := blk_frozen BK205.out 4))
    go_ret
    exact ⟨by first | rfl | (simp [errW_none, errW_some] <;> rfl) | (simp [*, errW_none, errW_some] <;> rfl), by repeat (first | (with_reducible first | exact HB.out | apply below_alloc | apply pw_below_drewN | apply below_drew1 | refine below_set ?_ GE205.out) | exact HB.out)⟩
  ·rw [if_neg c4] at H
   have c4b0 : decide ((a0_1.size : Int) ≤ a1) = false := decide_eq_false c4
   clear c4
   obtain rfl := Option.some.inj H
   go_enter Tryz.func15, Tryz.ntmps15
   go_wp2_with (first | ((with_reducible refine gate_dst (N := 2) rfl ?_); (try (refine gate_guard (by rfl) ?_; dsimp only)); refine box_event ?hg (N := 2) ?hd (cs := #[.string a0_0, .string a0_1, .int .i64 a0_2, .slice A0_3 l0_3.length c0_3, .string a0_4]) (t := 25) ?hr ?_; (case hd => rfl); (case hg => rfl); (case hr => first | (go_simp; done) | (go_simp; rfl)); intro gb205 hg w11 hbox hb; have n0_ := Aside0.mk (below_step (by repeat (first | (with_reducible first | exact HB.out | apply below_alloc | apply pw_below_drewN | apply below_drew1) | exact HB.out)) hb); have n1_ := Aside0.mk (hbox); have n2_ := Aside0.mk ((by rw [hg]; exact (below_size (by repeat (first | (with_reducible first | exact HB.out | apply below_alloc | apply pw_below_drewN | apply below_drew1) | exact HB.out))) : w.heap.size ≤ gb205)); have n3_ := Aside0.mk ((by rw [hg]; exact (below_size (by repeat (first | (with_reducible first | exact HB.out | apply below_alloc | apply pw_below_drewN | apply below_drew1) | exact HB.out))) : w.heap.size ≤ gb205)); clear HB; have HB := n0_; have BK205 := n1_; have GW205 := n2_; have GE205 := n3_; clear n0_ n1_ n2_ n3_; clear hb hbox hg; have hcz12_0 : w11.cell? ⟨gb205, 0, none⟩ = some (.string a0_0) := (blk_cell BK205.out 0).trans rfl; have hcz12_1 : w11.cell? ⟨gb205, 1, none⟩ = some (.string a0_1) := (blk_cell BK205.out 1).trans rfl; have hcz12_2 : w11.cell? ⟨gb205, 2, none⟩ = some (.int .i64 a0_2) := (blk_cell BK205.out 2).trans rfl; have hcz12_3 : w11.cell? ⟨gb205, 3, none⟩ = some (.slice A0_3 l0_3.length c0_3) := (blk_cell BK205.out 3).trans rfl; have hcz12_4 : w11.cell? ⟨gb205, 4, none⟩ = some (.string a0_4) := (blk_cell BK205.out 4).trans rfl; have hfz12_0 := blk_frozen BK205.out 0; have hfz12_1 := blk_frozen BK205.out 1; have hfz12_2 := blk_frozen BK205.out 2; have hfz12_3 := blk_frozen BK205.out 3; have hfz12_4 := blk_frozen BK205.out 4))
   go_ret
   exact ⟨by first | rfl | (simp [errW_none, errW_some] <;> rfl) | (simp [*, errW_none, errW_some] <;> rfl), by repeat (first | (with_reducible first | exact HB.out | apply below_alloc | apply pw_below_drewN | apply below_drew1 | refine below_set ?_ GE205.out) | exact HB.out)⟩
 ·rw [if_neg c3] at H
  have c3b0 : decide ((a0_0.size : Int) ≤ a1) = false := decide_eq_false c3
  clear c3
  obtain rfl := Option.some.inj H
  go_enter Tryz.func15, Tryz.ntmps15
  go_wp2_with (first | ((with_reducible refine gate_dst (N := 2) rfl ?_); (try (refine gate_guard (by rfl) ?_; dsimp only)); refine box_event ?hg (N := 2) ?hd (cs := #[.string a0_0, .string a0_1, .int .i64 a0_2, .slice A0_3 l0_3.length c0_3, .string a0_4]) (t := 25) ?hr ?_; (case hd => rfl); (case hg => rfl); (case hr => first | (go_simp; done) | (go_simp; rfl)); intro gb205 hg w13 hbox hb; have n0_ := Aside0.mk (below_step (by repeat (first | (with_reducible first | exact HB.out | apply below_alloc | apply pw_below_drewN | apply below_drew1) | exact HB.out)) hb); have n1_ := Aside0.mk (hbox); have n2_ := Aside0.mk ((by rw [hg]; exact (below_size (by repeat (first | (with_reducible first | exact HB.out | apply below_alloc | apply pw_below_drewN | apply below_drew1) | exact HB.out))) : w.heap.size ≤ gb205)); have n3_ := Aside0.mk ((by rw [hg]; exact (below_size (by repeat (first | (with_reducible first | exact HB.out | apply below_alloc | apply pw_below_drewN | apply below_drew1) | exact HB.out))) : w.heap.size ≤ gb205)); clear HB; have HB := n0_; have BK205 := n1_; have GW205 := n2_; have GE205 := n3_; clear n0_ n1_ n2_ n3_; clear hb hbox hg; have hcz14_0 : w13.cell? ⟨gb205, 0, none⟩ = some (.string a0_0) := (blk_cell BK205.out 0).trans rfl; have hcz14_1 : w13.cell? ⟨gb205, 1, none⟩ = some (.string a0_1) := (blk_cell BK205.out 1).trans rfl; have hcz14_2 : w13.cell? ⟨gb205, 2, none⟩ = some (.int .i64 a0_2) := (blk_cell BK205.out 2).trans rfl; have hcz14_3 : w13.cell? ⟨gb205, 3, none⟩ = some (.slice A0_3 l0_3.length c0_3) := (blk_cell BK205.out 3).trans rfl; have hcz14_4 : w13.cell? ⟨gb205, 4, none⟩ = some (.string a0_4) := (blk_cell BK205.out 4).trans rfl; have hfz14_0 := blk_frozen BK205.out 0; have hfz14_1 := blk_frozen BK205.out 1; have hfz14_2 := blk_frozen BK205.out 2; have hfz14_3 := blk_frozen BK205.out 3; have hfz14_4 := blk_frozen BK205.out 4))
  go_ret
  exact ⟨by first | rfl | (simp [errW_none, errW_some] <;> rfl) | (simp [*, errW_none, errW_some] <;> rfl), by repeat (first | (with_reducible first | exact HB.out | apply below_alloc | apply pw_below_drewN | apply below_drew1 | refine below_set ?_ GE205.out) | exact HB.out)⟩

/-! ### depotref12_FewReply: function 16 -/
def depotref12_FewReply.f (k : Nat) (a0_0 : Int) (a0_1 : ByteArray) (a0_2 : Int) (l0_3 : List (S98)) (a0_4 : ByteArray) (a1 : Int) : Option (Bool) := if (a0_1.size : Int) ≤ a1 then (if (a0_4.size : Int) ≤ a1 then ((depotref09_Few.f k l0_3 70 a1).bind fun t208 => (some t208)) else (some false)) else (some false)
theorem depotref12_FewReply.mono : ∀ a0 a1 a2 a3 a4 a5 k, LeO (depotref12_FewReply.f k a0 a1 a2 a3 a4 a5) (depotref12_FewReply.f (k + 1) a0 a1 a2 a3 a4 a5) := by
 intro a0 a1 a2 a3 a4 a5 k
 unfold depotref12_FewReply.f
 repeat' first
   | (with_reducible exact depotref09_Few.mono _ _ _ _)
   | (with_reducible exact LeO.refl _)
   | (with_reducible exact LeO.none _)
   | (with_reducible refine LeO.ite ?_ ?_)
   | (with_reducible refine LeO.bind ?_ (fun _ => ?_))
   | exact depotref09_Few.mono _ _ _ _
   | exact LeO.none _
   | refine LeO.ite ?_ ?_
   | refine LeO.bind ?_ (fun _ => ?_)
set_option maxHeartbeats 8000000 in
set_option maxRecDepth 100000 in
theorem depotref12_FewReply.calls (k : Nat) (a0_0 : Int) (a0_1 : ByteArray) (a0_2 : Int) (A0_3 : Option Addr) (c0_3 : Nat) (l0_3 : List (S98)) (a0_4 : ByteArray) (a1 : Int) (r : Bool) (w : World) (hr0_3 : Kd.C k98 w A0_3 l0_3.length l0_3) (hc0_3 : l0_3.length ≤ c0_3) (h : depotref12_FewReply.f k a0_0 a0_1 a0_2 l0_3 a0_4 a1 = some r) :
  Calls Tryz.prog 16 #[.agg #[.int .i64 a0_0, .string a0_1, .int .i64 a0_2, .slice A0_3 l0_3.length c0_3, .string a0_4], .int .i64 a1] w fun e w' => e = .returned (.bool r) ∧ Below w.heap.size w w' := by
 have hu34 := Tryz.underlying34
 have HR0_3 := Aside0.mk hr0_3
 have HC0_3 := Aside0.mk hc0_3
 clear hr0_3 hc0_3
 have HB := Aside0.mk (Below.refl w.heap.size w)
 have H : (if (a0_1.size : Int) ≤ a1 then (if (a0_4.size : Int) ≤ a1 then ((depotref09_Few.f k l0_3 70 a1).bind fun t208 => (some t208)) else (some false)) else (some false)) = some r := h
 clear h
 by_cases c3 : (a0_1.size : Int) ≤ a1
 ·rw [if_pos c3] at H
  have c3b0 : decide ((a0_1.size : Int) ≤ a1) = true := decide_eq_true c3
  clear c3
  by_cases c4 : (a0_4.size : Int) ≤ a1
  ·rw [if_pos c4] at H
   have c4b0 : decide ((a0_4.size : Int) ≤ a1) = true := decide_eq_true c4
   clear c4
   replace H := Option.bind_eq_some_iff.mp H
   obtain ⟨t208, A50, H⟩ := H
   replace H : (some t208) = some r := H
   have A5 := Aside0.mk A50
   clear A50
   obtain rfl := Option.some.inj H
   go_enter Tryz.func16, Tryz.ntmps16
   go_wp2_with (first | ((with_reducible refine gate_dst (N := 2) rfl ?_); (try (refine gate_guard (by rfl) ?_; dsimp only)); refine box_event ?hg (N := 2) ?hd (cs := #[.int .i64 a0_0, .string a0_1, .int .i64 a0_2, .slice A0_3 l0_3.length c0_3, .string a0_4]) (t := 34) ?hr ?_; (case hd => rfl); (case hg => rfl); (case hr => first | (go_simp; done) | (go_simp; rfl)); intro gb207 hg w6 hbox hb; have n0_ := Aside0.mk (below_step (by repeat (first | (with_reducible first | exact HB.out | apply below_alloc | apply pw_below_drewN | apply below_drew1) | exact HB.out)) hb); have n1_ := Aside0.mk (hbox); have n2_ := Aside0.mk ((by rw [hg]; exact (below_size (by repeat (first | (with_reducible first | exact HB.out | apply below_alloc | apply pw_below_drewN | apply below_drew1) | exact HB.out))) : w.heap.size ≤ gb207)); have n3_ := Aside0.mk ((by rw [hg]; exact (below_size (by repeat (first | (with_reducible first | exact HB.out | apply below_alloc | apply pw_below_drewN | apply below_drew1) | exact HB.out))) : w.heap.size ≤ gb207)); clear HB; have HB := n0_; have BK207 := n1_; have GW207 := n2_; have GE207 := n3_; clear n0_ n1_ n2_ n3_; clear hb hbox hg; have hcz7_0 : w6.cell? ⟨gb207, 0, none⟩ = some (.int .i64 a0_0) := (blk_cell BK207.out 0).trans rfl; have hcz7_1 : w6.cell? ⟨gb207, 1, none⟩ = some (.string a0_1) := (blk_cell BK207.out 1).trans rfl; have hcz7_2 : w6.cell? ⟨gb207, 2, none⟩ = some (.int .i64 a0_2) := (blk_cell BK207.out 2).trans rfl; have hcz7_3 : w6.cell? ⟨gb207, 3, none⟩ = some (.slice A0_3 l0_3.length c0_3) := (blk_cell BK207.out 3).trans rfl; have hcz7_4 : w6.cell? ⟨gb207, 4, none⟩ = some (.string a0_4) := (blk_cell BK207.out 4).trans rfl; have hfz7_0 := blk_frozen BK207.out 0; have hfz7_1 := blk_frozen BK207.out 1; have hfz7_2 := blk_frozen BK207.out 2; have hfz7_3 := blk_frozen BK207.out 3; have hfz7_4 := blk_frozen BK207.out 4) | (go_at_call 43; (with_reducible refine (depotref09_Few.calls k _ _ l0_3 70 a1 t208 _ ?side1 ?side2 A5.out).mono ?_); (case side1 => repeat (first | exact (Kd.C_below HR0_3.out HB.out) | (with_reducible refine Kd.C_alloc ?_ _) | (with_reducible refine Kd.C_drewN ?_ _) | (with_reducible refine Kd.C_drew ?_))); (case side2 => exact HC0_3.out); rintro e w' ⟨rfl, ⟨nd, rfl⟩⟩))
   go_ret
   exact ⟨by first | rfl | (simp [errW_none, errW_some] <;> rfl) | (simp [*, errW_none, errW_some] <;> rfl), by repeat (first | (with_reducible first | exact HB.out | apply below_alloc | apply pw_below_drewN | apply below_drew1 | refine below_set ?_ GE207.out) | exact HB.out)⟩
  ·rw [if_neg c4] at H
   have c4b0 : decide ((a0_4.size : Int) ≤ a1) = false := decide_eq_false c4
   clear c4
   obtain rfl := Option.some.inj H
   go_enter Tryz.func16, Tryz.ntmps16
   go_wp2_with (first | ((with_reducible refine gate_dst (N := 2) rfl ?_); (try (refine gate_guard (by rfl) ?_; dsimp only)); refine box_event ?hg (N := 2) ?hd (cs := #[.int .i64 a0_0, .string a0_1, .int .i64 a0_2, .slice A0_3 l0_3.length c0_3, .string a0_4]) (t := 34) ?hr ?_; (case hd => rfl); (case hg => rfl); (case hr => first | (go_simp; done) | (go_simp; rfl)); intro gb207 hg w8 hbox hb; have n0_ := Aside0.mk (below_step (by repeat (first | (with_reducible first | exact HB.out | apply below_alloc | apply pw_below_drewN | apply below_drew1) | exact HB.out)) hb); have n1_ := Aside0.mk (hbox); have n2_ := Aside0.mk ((by rw [hg]; exact (below_size (by repeat (first | (with_reducible first | exact HB.out | apply below_alloc | apply pw_below_drewN | apply below_drew1) | exact HB.out))) : w.heap.size ≤ gb207)); have n3_ := Aside0.mk ((by rw [hg]; exact (below_size (by repeat (first | (with_reducible first | exact HB.out | apply below_alloc | apply pw_below_drewN | apply below_drew1) | exact HB.out))) : w.heap.size ≤ gb207)); clear HB; have HB := n0_; have BK207 := n1_; have GW207 := n2_; have GE207 := n3_; clear n0_ n1_ n2_ n3_; clear hb hbox hg; have hcz9_0 : w8.cell? ⟨gb207, 0, none⟩ = some (.int .i64 a0_0) := (blk_cell BK207.out 0).trans rfl; have hcz9_1 : w8.cell? ⟨gb207, 1, none⟩ = some (.string a0_1) := (blk_cell BK207.out 1).trans rfl; have hcz9_2 : w8.cell? ⟨gb207, 2, none⟩ = some (.int .i64 a0_2) := (blk_cell BK207.out 2).trans rfl; have hcz9_3 : w8.cell? ⟨gb207, 3, none⟩ = some (.slice A0_3 l0_3.length c0_3) := (blk_cell BK207.out 3).trans rfl; have hcz9_4 : w8.cell? ⟨gb207, 4, none⟩ = some (.string a0_4) := (blk_cell BK207.out 4).trans rfl; have hfz9_0 := blk_frozen BK207.out 0; have hfz9_1 := blk_frozen BK207.out 1; have hfz9_2 := blk_frozen BK207.out 2; have hfz9_3 := blk_frozen BK207.out 3; have hfz9_4 := blk_frozen BK207.out 4))
   go_ret
   exact ⟨by first | rfl | (simp [errW_none, errW_some] <;> rfl) | (simp [*, errW_none, errW_some] <;> rfl), by repeat (first | (with_reducible first | exact HB.out | apply below_alloc | apply pw_below_drewN | apply below_drew1 | refine below_set ?_ GE207.out) | exact HB.out)⟩
 ·rw [if_neg c3] at H
  have c3b0 : decide ((a0_1.size : Int) ≤ a1) = false := decide_eq_false c3
  clear c3
  obtain rfl := Option.some.inj H
  go_enter Tryz.func16, Tryz.ntmps16
  go_wp2_with (first | ((with_reducible refine gate_dst (N := 2) rfl ?_); (try (refine gate_guard (by rfl) ?_; dsimp only)); refine box_event ?hg (N := 2) ?hd (cs := #[.int .i64 a0_0, .string a0_1, .int .i64 a0_2, .slice A0_3 l0_3.length c0_3, .string a0_4]) (t := 34) ?hr ?_; (case hd => rfl); (case hg => rfl); (case hr => first | (go_simp; done) | (go_simp; rfl)); intro gb207 hg w10 hbox hb; have n0_ := Aside0.mk (below_step (by repeat (first | (with_reducible first | exact HB.out | apply below_alloc | apply pw_below_drewN | apply below_drew1) | exact HB.out)) hb); have n1_ := Aside0.mk (hbox); have n2_ := Aside0.mk ((by rw [hg]; exact (below_size (by repeat (first | (with_reducible first | exact HB.out | apply below_alloc | apply pw_below_drewN | apply below_drew1) | exact HB.out))) : w.heap.size ≤ gb207)); have n3_ := Aside0.mk ((by rw [hg]; exact (below_size (by repeat (first | (with_reducible first | exact HB.out | apply below_alloc | apply pw_below_drewN | apply below_drew1) | exact HB.out))) : w.heap.size ≤ gb207)); clear HB; have HB := n0_; have BK207 := n1_; have GW207 := n2_; have GE207 := n3_; clear n0_ n1_ n2_ n3_; clear hb hbox hg; have hcz11_0 : w10.cell? ⟨gb207, 0, none⟩ = some (.int .i64 a0_0) := (blk_cell BK207.out 0).trans rfl; have hcz11_1 : w10.cell? ⟨gb207, 1, none⟩ = some (.string a0_1) := (blk_cell BK207.out 1).trans rfl; have hcz11_2 : w10.cell? ⟨gb207, 2, none⟩ = some (.int .i64 a0_2) := (blk_cell BK207.out 2).trans rfl; have hcz11_3 : w10.cell? ⟨gb207, 3, none⟩ = some (.slice A0_3 l0_3.length c0_3) := (blk_cell BK207.out 3).trans rfl; have hcz11_4 : w10.cell? ⟨gb207, 4, none⟩ = some (.string a0_4) := (blk_cell BK207.out 4).trans rfl; have hfz11_0 := blk_frozen BK207.out 0; have hfz11_1 := blk_frozen BK207.out 1; have hfz11_2 := blk_frozen BK207.out 2; have hfz11_3 := blk_frozen BK207.out 3; have hfz11_4 := blk_frozen BK207.out 4))
  go_ret
  exact ⟨by first | rfl | (simp [errW_none, errW_some] <;> rfl) | (simp [*, errW_none, errW_some] <;> rfl), by repeat (first | (with_reducible first | exact HB.out | apply below_alloc | apply pw_below_drewN | apply below_drew1 | refine below_set ?_ GE207.out) | exact HB.out)⟩

end Go.Proofs.YtjaklgikfcahdaaGreatDoor.PU
