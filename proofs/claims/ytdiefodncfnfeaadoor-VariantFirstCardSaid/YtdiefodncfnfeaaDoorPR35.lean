-- Out of the translation, by a program of this session: each function that a law comes to as a Lean function, and that the machine's call does what it says. Lean checks it.
import Derived.Test.YtdiefodncfnfeaaDoorPR0
import Derived.Test.YtdiefodncfnfeaaDoorPR3
import Derived.Test.YtdiefodncfnfeaaDoorPR5
import Derived.Test.YtdiefodncfnfeaaDoorPR8
import Derived.Test.YtdiefodncfnfeaaDoorPR9
import Derived.Test.YtdiefodncfnfeaaDoorPR10
import Derived.Test.YtdiefodncfnfeaaDoorPR13
import Derived.Test.YtdiefodncfnfeaaDoorPR19
import Derived.Test.YtdiefodncfnfeaaDoorPR34
namespace Go.Proofs.YtdiefodncfnfeaaDoor.PR
open Go.RowKit Go.Proofs.YtdiefodncfnfeaaDoorW.PrintWords Go.Proofs.YtdiefodncfnfeaaDoorW.PrintLast Go.Proofs.YtdiefodncfnfeaaDoorW.PrintMore
attribute [local go_sem] max2_int min2_int max_two min_two max_three min_three max_four min_four   -- for this text's walks alone
set_option linter.unusedVariables false
set_option linter.unusedSimpArgs false

/-! ### depotlaw20_VariantFirst: function 7 -/
mutual
def depotlaw20_VariantFirst.j0 : Nat → List (S28) → List (S62) → List (S62) → Bool → Int → ByteArray → Int → List (S62) → ByteArray → Int → List (S53) → Option (Bool)
 | 0, _, _, _, _, _, _, _, _, _, _, _ => none
 | k + 1, x0, x2, x3, x33, x362000, x362001, x362002, x362003, x362004, x362005, x362006 => if x33 = true then ((depotlaw20_variants.f k).bind fun t369 => (some t369)) else (depotlaw20_VariantFirst.l0 k x0 x2 x3 ([] : List ByteArray) 0 x362000 x362001 x362002 x362003 x362004 x362005 x362006)
def depotlaw20_VariantFirst.l0 : Nat → List (S28) → List (S62) → List (S62) → List ByteArray → Int → Int → ByteArray → Int → List (S62) → ByteArray → Int → List (S53) → Option (Bool)
 | 0, _, _, _, _, _, _, _, _, _, _, _, _ => none
 | k + 1, x0, x2, x3, x9, x10, x362000, x362001, x362002, x362003, x362004, x362005, x362006 => if x10 < (x362006.length : Int) then (if 0 ≤ x10 then (if x9.length < 8796093022208 then (depotlaw20_VariantFirst.l0 k x0 x2 x3 (x9 ++ [(rd_T53 x362006 x10).f0]) (wrap64 (x10 + 1)) x362000 x362001 x362002 x362003 x362004 x362005 x362006) else (none)) else (none)) else ((vary_Picks.f k x9 x2).bind fun t374 => ((variant_Add.f k x0 x362000 x362001 x362002 x362003 x362004 x362005 t374).bind fun t377 => (if (t377.length : Int) = 0 then (depotlaw20_VariantFirst.j2 k x0 x3 t377 true x362000 x362001 x362002 x362003 x362004 x362005 t374) else (if (t377.length : Int) > 4 then (depotlaw20_VariantFirst.j2 k x0 x3 t377 true x362000 x362001 x362002 x362003 x362004 x362005 t374) else (if 0 < (t377.length : Int) then ((depotref20_One.f k ((rd_T28 t377 0).f0.f0) ((rd_T28 t377 0).f0.f1) ((rd_T28 t377 0).f0.f2) ((rd_T28 t377 0).f0.f3) ((rd_T28 t377 0).f0.f4) ((rd_T28 t377 0).f1) ((rd_T28 t377 0).f2) x362000 x362001 x362002 x362003 x362004 x362005 t374).bind fun t381 => (if t381 = true then ((variant_Find.f k t377 x2).bind fun t382 => (depotlaw20_VariantFirst.j2 k x0 x3 t377 (t382 != 0) x362000 x362001 x362002 x362003 x362004 x362005 t374)) else (depotlaw20_VariantFirst.j2 k x0 x3 t377 true x362000 x362001 x362002 x362003 x362004 x362005 t374))) else (none))))))
def depotlaw20_VariantFirst.j2 : Nat → List (S28) → List (S62) → List (S28) → Bool → Int → ByteArray → Int → List (S62) → ByteArray → Int → List (S53) → Option (Bool)
 | 0, _, _, _, _, _, _, _, _, _, _, _ => none
 | k + 1, x0, x3, x11, x79, x362000, x362001, x362002, x362003, x362004, x362005, x362006 => if x79 = true then (some false) else (depotlaw20_VariantFirst.l1 k x0 x3 x11 1 x362000 x362001 x362002 x362003 x362004 x362005 x362006)
def depotlaw20_VariantFirst.l1 : Nat → List (S28) → List (S62) → List (S28) → Int → Int → ByteArray → Int → List (S62) → ByteArray → Int → List (S53) → Option (Bool)
 | 0, _, _, _, _, _, _, _, _, _, _, _ => none
 | k + 1, x0, x3, x11, x12, x362000, x362001, x362002, x362003, x362004, x362005, x362006 => if x12 < (x11.length : Int) then (if 0 ≤ x12 then ((depotref15_Same.f k ((rd_T28 x11 x12).f2) x362006).bind fun t384 => (if t384 = true then (some false) else (depotlaw20_VariantFirst.l1 k x0 x3 x11 (wrap64 (x12 + 1)) x362000 x362001 x362002 x362003 x362004 x362005 x362006))) else (none)) else ((vary_Match.f k x362006 x3).bind fun t385 => (if t385 = true then ((variant_Find.f k x11 x3).bind fun t386 => (if t386 = 0 then ((depotlaw20_variants.f k).bind fun t387 => (some t387)) else (some false))) else ((variant_Find.f k x0 x3).bind fun t388 => ((variant_Find.f k x11 x3).bind fun t389 => (if t389 < 0 then (if t388 < 0 then ((depotlaw20_variants.f k).bind fun t390 => (some t390)) else (if (x11.length : Int) = 4 then (if t388 ≥ 3 then ((depotlaw20_variants.f k).bind fun t391 => (some t391)) else (some false)) else (some false))) else (if t388 ≥ 0 then (if t388 < (x0.length : Int) then (if t389 < (x11.length : Int) then (if 0 ≤ t388 then (if 0 ≤ t389 then ((depotref20_One.f k ((rd_T28 x0 t388).f0.f0) ((rd_T28 x0 t388).f0.f1) ((rd_T28 x0 t388).f0.f2) ((rd_T28 x0 t388).f0.f3) ((rd_T28 x0 t388).f0.f4) ((rd_T28 x0 t388).f1) ((rd_T28 x0 t388).f2) ((rd_T28 x11 t389).f0.f0) ((rd_T28 x11 t389).f0.f1) ((rd_T28 x11 t389).f0.f2) ((rd_T28 x11 t389).f0.f3) ((rd_T28 x11 t389).f0.f4) ((rd_T28 x11 t389).f1) ((rd_T28 x11 t389).f2)).bind fun t394 => (if t394 = true then ((depotlaw20_variants.f k).bind fun t395 => (some t395)) else (some false))) else (none)) else (none)) else (some false)) else (some false)) else (some false)))))))
end
def depotlaw20_VariantFirst.f (k : Nat) (l0 : List (S28)) (a1_0 : Int) (a1_1 : ByteArray) (a1_2 : Int) (l1_3 : List (S62)) (a1_4 : ByteArray) (a1_5 : Int) (l1_6 : List (S53)) (l2 : List (S62)) (l3 : List (S62)) : Option (Bool):=(depotref20_Few.f k l0 4 300).bind fun t362 => (if t362 = true then ((depotref20_Few.f k (([(⟨(⟨a1_0, a1_1, a1_2, l1_3, a1_4⟩ : S25), a1_5, l1_6⟩ : S28)] : List (S28))) 1 300).bind fun t366 => (if t366 = true then ((depotref09_Few.f k l2 70 300).bind fun t367 => (if t367 = true then ((depotref09_Few.f k l3 70 300).bind fun t368 => (depotlaw20_VariantFirst.j0 k l0 l2 l3 (!t368) a1_0 a1_1 a1_2 l1_3 a1_4 a1_5 l1_6)) else (depotlaw20_VariantFirst.j0 k l0 l2 l3 true a1_0 a1_1 a1_2 l1_3 a1_4 a1_5 l1_6))) else (depotlaw20_VariantFirst.j0 k l0 l2 l3 true a1_0 a1_1 a1_2 l1_3 a1_4 a1_5 l1_6))) else (depotlaw20_VariantFirst.j0 k l0 l2 l3 true a1_0 a1_1 a1_2 l1_3 a1_4 a1_5 l1_6))
theorem depotlaw20_VariantFirst.mono_l : ∀ k, (∀ y0 y1 y2 y3 y4 y5 y6 y7 y8 y9 y10, LeO (depotlaw20_VariantFirst.j0 k y0 y1 y2 y3 y4 y5 y6 y7 y8 y9 y10) (depotlaw20_VariantFirst.j0 (k + 1) y0 y1 y2 y3 y4 y5 y6 y7 y8 y9 y10)) ∧ (∀ y0 y1 y2 y3 y4 y5 y6 y7 y8 y9 y10 y11, LeO (depotlaw20_VariantFirst.l0 k y0 y1 y2 y3 y4 y5 y6 y7 y8 y9 y10 y11) (depotlaw20_VariantFirst.l0 (k + 1) y0 y1 y2 y3 y4 y5 y6 y7 y8 y9 y10 y11)) ∧ (∀ y0 y1 y2 y3 y4 y5 y6 y7 y8 y9 y10, LeO (depotlaw20_VariantFirst.j2 k y0 y1 y2 y3 y4 y5 y6 y7 y8 y9 y10) (depotlaw20_VariantFirst.j2 (k + 1) y0 y1 y2 y3 y4 y5 y6 y7 y8 y9 y10)) ∧ (∀ y0 y1 y2 y3 y4 y5 y6 y7 y8 y9 y10, LeO (depotlaw20_VariantFirst.l1 k y0 y1 y2 y3 y4 y5 y6 y7 y8 y9 y10) (depotlaw20_VariantFirst.l1 (k + 1) y0 y1 y2 y3 y4 y5 y6 y7 y8 y9 y10))
 | 0 => ⟨fun _ _ _ _ _ _ _ _ _ _ _ r h => by simp [depotlaw20_VariantFirst.j0] at h, fun _ _ _ _ _ _ _ _ _ _ _ _ r h => by simp [depotlaw20_VariantFirst.l0] at h, fun _ _ _ _ _ _ _ _ _ _ _ r h => by simp [depotlaw20_VariantFirst.j2] at h, fun _ _ _ _ _ _ _ _ _ _ _ r h => by simp [depotlaw20_VariantFirst.l1] at h⟩
 | k + 1 => by
  obtain ⟨ih0, ih1, ih2, ih3⟩:=depotlaw20_VariantFirst.mono_l k
  refine ⟨?_, ?_, ?_, ?_⟩
  ·intro y0 y1 y2 y3 y4 y5 y6 y7 y8 y9 y10
   unfold depotlaw20_VariantFirst.j0
   repeat' first
   | (with_reducible exact ih0 _ _ _ _ _ _ _ _ _ _ _)
   | (with_reducible exact ih1 _ _ _ _ _ _ _ _ _ _ _ _)
   | (with_reducible exact ih2 _ _ _ _ _ _ _ _ _ _ _)
   | (with_reducible exact ih3 _ _ _ _ _ _ _ _ _ _ _)
   | (with_reducible exact depotlaw20_variants.mono _)
   | (with_reducible exact depotref09_Few.mono _ _ _ _)
   | (with_reducible exact depotref15_Same.mono _ _ _)
   | (with_reducible exact depotref20_Few.mono _ _ _ _)
   | (with_reducible exact depotref20_One.mono _ _ _ _ _ _ _ _ _ _ _ _ _ _ _)
   | (with_reducible exact variant_Add.mono _ _ _ _ _ _ _ _ _)
   | (with_reducible exact variant_Find.mono _ _ _)
   | (with_reducible exact vary_Match.mono _ _ _)
   | (with_reducible exact vary_Picks.mono _ _ _)
   | (with_reducible exact LeO.refl _)
   | (with_reducible exact LeO.none _)
   | (with_reducible refine LeO.ite ?_ ?_)
   | (with_reducible refine LeO.bind ?_ (fun _ => ?_))
   | exact ih0 _ _ _ _ _ _ _ _ _ _ _
   | exact ih1 _ _ _ _ _ _ _ _ _ _ _ _
   | exact ih2 _ _ _ _ _ _ _ _ _ _ _
   | exact ih3 _ _ _ _ _ _ _ _ _ _ _
   | exact depotlaw20_variants.mono _
   | exact depotref09_Few.mono _ _ _ _
   | exact depotref15_Same.mono _ _ _
   | exact depotref20_Few.mono _ _ _ _
   | exact depotref20_One.mono _ _ _ _ _ _ _ _ _ _ _ _ _ _ _
   | exact variant_Add.mono _ _ _ _ _ _ _ _ _
   | exact variant_Find.mono _ _ _
   | exact vary_Match.mono _ _ _
   | exact vary_Picks.mono _ _ _
   | exact LeO.none _
   | refine LeO.ite ?_ ?_
   | refine LeO.bind ?_ (fun _ => ?_)
  ·intro y0 y1 y2 y3 y4 y5 y6 y7 y8 y9 y10 y11
   unfold depotlaw20_VariantFirst.l0
   repeat' first
   | (with_reducible exact ih0 _ _ _ _ _ _ _ _ _ _ _)
   | (with_reducible exact ih1 _ _ _ _ _ _ _ _ _ _ _ _)
   | (with_reducible exact ih2 _ _ _ _ _ _ _ _ _ _ _)
   | (with_reducible exact ih3 _ _ _ _ _ _ _ _ _ _ _)
   | (with_reducible exact depotlaw20_variants.mono _)
   | (with_reducible exact depotref09_Few.mono _ _ _ _)
   | (with_reducible exact depotref15_Same.mono _ _ _)
   | (with_reducible exact depotref20_Few.mono _ _ _ _)
   | (with_reducible exact depotref20_One.mono _ _ _ _ _ _ _ _ _ _ _ _ _ _ _)
   | (with_reducible exact variant_Add.mono _ _ _ _ _ _ _ _ _)
   | (with_reducible exact variant_Find.mono _ _ _)
   | (with_reducible exact vary_Match.mono _ _ _)
   | (with_reducible exact vary_Picks.mono _ _ _)
   | (with_reducible exact LeO.refl _)
   | (with_reducible exact LeO.none _)
   | (with_reducible refine LeO.ite ?_ ?_)
   | (with_reducible refine LeO.bind ?_ (fun _ => ?_))
   | exact ih0 _ _ _ _ _ _ _ _ _ _ _
   | exact ih1 _ _ _ _ _ _ _ _ _ _ _ _
   | exact ih2 _ _ _ _ _ _ _ _ _ _ _
   | exact ih3 _ _ _ _ _ _ _ _ _ _ _
   | exact depotlaw20_variants.mono _
   | exact depotref09_Few.mono _ _ _ _
   | exact depotref15_Same.mono _ _ _
   | exact depotref20_Few.mono _ _ _ _
   | exact depotref20_One.mono _ _ _ _ _ _ _ _ _ _ _ _ _ _ _
   | exact variant_Add.mono _ _ _ _ _ _ _ _ _
   | exact variant_Find.mono _ _ _
   | exact vary_Match.mono _ _ _
   | exact vary_Picks.mono _ _ _
   | exact LeO.none _
   | refine LeO.ite ?_ ?_
   | refine LeO.bind ?_ (fun _ => ?_)
  ·intro y0 y1 y2 y3 y4 y5 y6 y7 y8 y9 y10
   unfold depotlaw20_VariantFirst.j2
   repeat' first
   | (with_reducible exact ih0 _ _ _ _ _ _ _ _ _ _ _)
   | (with_reducible exact ih1 _ _ _ _ _ _ _ _ _ _ _ _)
   | (with_reducible exact ih2 _ _ _ _ _ _ _ _ _ _ _)
   | (with_reducible exact ih3 _ _ _ _ _ _ _ _ _ _ _)
   | (with_reducible exact depotlaw20_variants.mono _)
   | (with_reducible exact depotref09_Few.mono _ _ _ _)
   | (with_reducible exact depotref15_Same.mono _ _ _)
   | (with_reducible exact depotref20_Few.mono _ _ _ _)
   | (with_reducible exact depotref20_One.mono _ _ _ _ _ _ _ _ _ _ _ _ _ _ _)
   | (with_reducible exact variant_Add.mono _ _ _ _ _ _ _ _ _)
   | (with_reducible exact variant_Find.mono _ _ _)
   | (with_reducible exact vary_Match.mono _ _ _)
   | (with_reducible exact vary_Picks.mono _ _ _)
   | (with_reducible exact LeO.refl _)
   | (with_reducible exact LeO.none _)
   | (with_reducible refine LeO.ite ?_ ?_)
   | (with_reducible refine LeO.bind ?_ (fun _ => ?_))
   | exact ih0 _ _ _ _ _ _ _ _ _ _ _
   | exact ih1 _ _ _ _ _ _ _ _ _ _ _ _
   | exact ih2 _ _ _ _ _ _ _ _ _ _ _
   | exact ih3 _ _ _ _ _ _ _ _ _ _ _
   | exact depotlaw20_variants.mono _
   | exact depotref09_Few.mono _ _ _ _
   | exact depotref15_Same.mono _ _ _
   | exact depotref20_Few.mono _ _ _ _
   | exact depotref20_One.mono _ _ _ _ _ _ _ _ _ _ _ _ _ _ _
   | exact variant_Add.mono _ _ _ _ _ _ _ _ _
   | exact variant_Find.mono _ _ _
   | exact vary_Match.mono _ _ _
   | exact vary_Picks.mono _ _ _
   | exact LeO.none _
   | refine LeO.ite ?_ ?_
   | refine LeO.bind ?_ (fun _ => ?_)
  ·intro y0 y1 y2 y3 y4 y5 y6 y7 y8 y9 y10
   unfold depotlaw20_VariantFirst.l1
   repeat' first
   | (with_reducible exact ih0 _ _ _ _ _ _ _ _ _ _ _)
   | (with_reducible exact ih1 _ _ _ _ _ _ _ _ _ _ _ _)
   | (with_reducible exact ih2 _ _ _ _ _ _ _ _ _ _ _)
   | (with_reducible exact ih3 _ _ _ _ _ _ _ _ _ _ _)
   | (with_reducible exact depotlaw20_variants.mono _)
   | (with_reducible exact depotref09_Few.mono _ _ _ _)
   | (with_reducible exact depotref15_Same.mono _ _ _)
   | (with_reducible exact depotref20_Few.mono _ _ _ _)
   | (with_reducible exact depotref20_One.mono _ _ _ _ _ _ _ _ _ _ _ _ _ _ _)
   | (with_reducible exact variant_Add.mono _ _ _ _ _ _ _ _ _)
   | (with_reducible exact variant_Find.mono _ _ _)
   | (with_reducible exact vary_Match.mono _ _ _)
   | (with_reducible exact vary_Picks.mono _ _ _)
   | (with_reducible exact LeO.refl _)
   | (with_reducible exact LeO.none _)
   | (with_reducible refine LeO.ite ?_ ?_)
   | (with_reducible refine LeO.bind ?_ (fun _ => ?_))
   | exact ih0 _ _ _ _ _ _ _ _ _ _ _
   | exact ih1 _ _ _ _ _ _ _ _ _ _ _ _
   | exact ih2 _ _ _ _ _ _ _ _ _ _ _
   | exact ih3 _ _ _ _ _ _ _ _ _ _ _
   | exact depotlaw20_variants.mono _
   | exact depotref09_Few.mono _ _ _ _
   | exact depotref15_Same.mono _ _ _
   | exact depotref20_Few.mono _ _ _ _
   | exact depotref20_One.mono _ _ _ _ _ _ _ _ _ _ _ _ _ _ _
   | exact variant_Add.mono _ _ _ _ _ _ _ _ _
   | exact variant_Find.mono _ _ _
   | exact vary_Match.mono _ _ _
   | exact vary_Picks.mono _ _ _
   | exact LeO.none _
   | refine LeO.ite ?_ ?_
   | refine LeO.bind ?_ (fun _ => ?_)
theorem depotlaw20_VariantFirst.mono : ∀ a0 a1 a2 a3 a4 a5 a6 a7 a8 a9 k, LeO (depotlaw20_VariantFirst.f k a0 a1 a2 a3 a4 a5 a6 a7 a8 a9) (depotlaw20_VariantFirst.f (k + 1) a0 a1 a2 a3 a4 a5 a6 a7 a8 a9):=by
 intro a0 a1 a2 a3 a4 a5 a6 a7 a8 a9 k
 obtain ⟨ih0, ih1, ih2, ih3⟩:=depotlaw20_VariantFirst.mono_l k
 unfold depotlaw20_VariantFirst.f
 repeat' first
   | (with_reducible exact ih0 _ _ _ _ _ _ _ _ _ _ _)
   | (with_reducible exact ih1 _ _ _ _ _ _ _ _ _ _ _ _)
   | (with_reducible exact ih2 _ _ _ _ _ _ _ _ _ _ _)
   | (with_reducible exact ih3 _ _ _ _ _ _ _ _ _ _ _)
   | (with_reducible exact depotlaw20_variants.mono _)
   | (with_reducible exact depotref09_Few.mono _ _ _ _)
   | (with_reducible exact depotref15_Same.mono _ _ _)
   | (with_reducible exact depotref20_Few.mono _ _ _ _)
   | (with_reducible exact depotref20_One.mono _ _ _ _ _ _ _ _ _ _ _ _ _ _ _)
   | (with_reducible exact variant_Add.mono _ _ _ _ _ _ _ _ _)
   | (with_reducible exact variant_Find.mono _ _ _)
   | (with_reducible exact vary_Match.mono _ _ _)
   | (with_reducible exact vary_Picks.mono _ _ _)
   | (with_reducible exact LeO.refl _)
   | (with_reducible exact LeO.none _)
   | (with_reducible refine LeO.ite ?_ ?_)
   | (with_reducible refine LeO.bind ?_ (fun _ => ?_))
   | exact ih0 _ _ _ _ _ _ _ _ _ _ _
   | exact ih1 _ _ _ _ _ _ _ _ _ _ _ _
   | exact ih2 _ _ _ _ _ _ _ _ _ _ _
   | exact ih3 _ _ _ _ _ _ _ _ _ _ _
   | exact depotlaw20_variants.mono _
   | exact depotref09_Few.mono _ _ _ _
   | exact depotref15_Same.mono _ _ _
   | exact depotref20_Few.mono _ _ _ _
   | exact depotref20_One.mono _ _ _ _ _ _ _ _ _ _ _ _ _ _ _
   | exact variant_Add.mono _ _ _ _ _ _ _ _ _
   | exact variant_Find.mono _ _ _
   | exact vary_Match.mono _ _ _
   | exact vary_Picks.mono _ _ _
   | exact LeO.none _
   | refine LeO.ite ?_ ?_
   | refine LeO.bind ?_ (fun _ => ?_)
def depotlaw20_VariantFirst.T10 : Bool × List (List Nat × List Nat):=(true, [([], []), ([0], [0]), ([1], [1]), ([2], [2]), ([3], [3]), ([4, 3], [3, 4]), ([5, 3], [3, 5]), ([3, 6], [3, 6]), ([7, 3], [7]), ([8], [8]), ([9, 8], [8, 9]), ([10, 8], [8, 10]), ([8], [8]), ([11, 12, 8, 8], [8, 11, 12]), ([13, 8], [8, 13]), ([8, 14], [8, 14]), ([15, 13], [15]), ([16], [16]), ([16], [16]), ([17, 18, 16, 16], [16, 17, 18]), ([19, 16], [16, 19]), ([16, 20], [16, 20])])
def depotlaw20_VariantFirst.B10 : List Nat:=[0, 1, 3, 7, 15, 31, 63, 127, 255, 511, 1023, 2047, 511, 8191, 16383, 32767, 65535, 131071, 131071, 524287, 1048575, 2097151]
theorem depotlaw20_VariantFirst.tab10 : rtab .any (opsOf Tryd.f7 10) = depotlaw20_VariantFirst.T10:=by kernel_rfl
theorem depotlaw20_VariantFirst.bits10 : waitsOk depotlaw20_VariantFirst.T10.2 depotlaw20_VariantFirst.B10 = true:=by kernel_rfl
def depotlaw20_VariantFirst.T15 : Bool × List (List Nat × List Nat):=(true, [([], []), ([], []), ([0, 1], [0, 1]), ([2], [2]), ([3], [3]), ([], []), ([5], [5]), ([4, 6], [4, 6])])
def depotlaw20_VariantFirst.B15 : List Nat:=[0, 0, 3, 7, 15, 0, 32, 127]
theorem depotlaw20_VariantFirst.tab15 : rtab .any (opsOf Tryd.f7 15) = depotlaw20_VariantFirst.T15:=by kernel_rfl
theorem depotlaw20_VariantFirst.bits15 : waitsOk depotlaw20_VariantFirst.T15.2 depotlaw20_VariantFirst.B15 = true:=by kernel_rfl
def depotlaw20_VariantFirst.T22 : Bool × List (List Nat × List Nat):=(true, [([], []), ([0], [0]), ([1], [1]), ([2], [2]), ([2], [2]), ([4, 2], [2, 4]), ([3, 5, 2], [2, 3, 5]), ([2, 6], [2, 6]), ([7, 2], [7]), ([8], [8]), ([8], [8]), ([10, 8], [8, 10]), ([9, 11, 8], [8, 9, 11]), ([8, 12], [8, 12]), ([13, 8], [13]), ([14], [14]), ([14], [14]), ([15, 16, 14], [14, 15, 16]), ([17, 14], [14, 17]), ([14], [14]), ([14], [14]), ([19, 20, 14], [14, 19, 20]), ([21, 14], [14, 21]), ([18, 22, 14, 14], [14, 18, 22]), ([14, 23], [14, 23]), ([24, 23], [24]), ([25, 25], [25]), ([25, 26], [25, 26]), ([27, 26, 0, 1, 2, 3, 4, 5, 6, 7, 8, 9, 10, 11, 12, 13, 14, 15, 16, 17, 18, 19, 20, 21, 22, 23, 24, 25, 26, 27], [27])])
def depotlaw20_VariantFirst.B22 : List Nat:=[0, 1, 3, 7, 7, 23, 63, 127, 255, 511, 511, 1535, 4095, 8191, 16383, 32767, 32767, 131071, 262143, 32767, 32767, 1605631, 3702783, 8388607, 16777215, 33554431, 67108863, 134217727, 268435455]
theorem depotlaw20_VariantFirst.tab22 : rtab .any (opsOf Tryd.f7 22) = depotlaw20_VariantFirst.T22:=by kernel_rfl
theorem depotlaw20_VariantFirst.bits22 : waitsOk depotlaw20_VariantFirst.T22.2 depotlaw20_VariantFirst.B22 = true:=by kernel_rfl
set_option maxHeartbeats 8000000 in
set_option maxRecDepth 100000 in
theorem depotlaw20_VariantFirst.calls (k : Nat) (P0_ : Nat → Prop) (A0 : Option Addr) (c0 : Nat) (l0 : List (S28)) (a1_0 : Int) (a1_1 : ByteArray) (a1_2 : Int) (P1_3_ : Nat → Prop) (A1_3 : Option Addr) (c1_3 : Nat) (l1_3 : List (S62)) (a1_4 : ByteArray) (a1_5 : Int) (P1_6_ : Nat → Prop) (A1_6 : Option Addr) (c1_6 : Nat) (l1_6 : List (S53)) (A2 : Option Addr) (c2 : Nat) (l2 : List (S62)) (A3 : Option Addr) (c3 : Nat) (l3 : List (S62)) (r : Bool) (w : World) (HTRUE : Aside0 (r = true)) (HT : Aside0 (Hand.Laid w)) (hs0 : Kd.V k28 28 w w.heap.size (fun k_ => P0_ k_) (.slice A0 l0.length c0) l0) (hs1_3 : Kd.V k62 62 w w.heap.size (fun k_ => P1_3_ k_) (.slice A1_3 l1_3.length c1_3) l1_3) (hs1_6 : Kd.V k53 53 w w.heap.size (fun k_ => P1_6_ k_) (.slice A1_6 l1_6.length c1_6) l1_6) (hr2 : Kd.C k62 w A2 l2.length l2) (hc2 : l2.length ≤ c2) (hr3 : Kd.C k62 w A3 l3.length l3) (hc3 : l3.length ≤ c3) (h : depotlaw20_VariantFirst.f k l0 a1_0 a1_1 a1_2 l1_3 a1_4 a1_5 l1_6 l2 l3 = some r) :
  Calls Tryd.prog 7 #[.slice A0 l0.length c0, .agg #[.int .i64 a1_0, .string a1_1, .int .i64 a1_2, .slice A1_3 l1_3.length c1_3, .string a1_4, .int .i64 a1_5, .slice A1_6 l1_6.length c1_6], .slice A2 l2.length c2, .slice A3 l3.length c3] w fun e w' => e = .returned (.bool r) ∧ Below w.heap.size w w':=by
 have hu28:=Tryd.underlying28
 have HO0:=Aside0.mk (show Kd.V k28 28 w w.heap.size (fun k_ => ((P0_ k_ ∨ P1_3_ k_ ∨ P1_6_ k_) ∨ w.heap.size ≤ k_)) (.slice A0 l0.length c0) l0 from Kd.V_mono hs0 (fun k_ hk => .inl (.inl hk)))
 have HO1_3:=Aside0.mk (show Kd.V k62 62 w w.heap.size (fun k_ => ((P0_ k_ ∨ P1_3_ k_ ∨ P1_6_ k_) ∨ w.heap.size ≤ k_)) (.slice A1_3 l1_3.length c1_3) l1_3 from Kd.V_mono hs1_3 (fun k_ hk => .inl (.inr (.inl hk))))
 have HO1_6:=Aside0.mk (show Kd.V k53 53 w w.heap.size (fun k_ => ((P0_ k_ ∨ P1_3_ k_ ∨ P1_6_ k_) ∨ w.heap.size ≤ k_)) (.slice A1_6 l1_6.length c1_6) l1_6 from Kd.V_mono hs1_6 (fun k_ hk => .inl (.inr (.inr hk))))
 have HR2:=Aside0.mk hr2
 have HC2:=Aside0.mk hc2
 clear hr2 hc2
 have HR3:=Aside0.mk hr3
 have HC3:=Aside0.mk hc3
 clear hr3 hc3
 have HB:=Aside0.mk (Below.refl w.heap.size w)
 have H : ((depotref20_Few.f k l0 4 300).bind fun t362 => (if t362 = true then ((depotref20_Few.f k (([(⟨(⟨a1_0, a1_1, a1_2, l1_3, a1_4⟩ : S25), a1_5, l1_6⟩ : S28)] : List (S28))) 1 300).bind fun t366 => (if t366 = true then ((depotref09_Few.f k l2 70 300).bind fun t367 => (if t367 = true then ((depotref09_Few.f k l3 70 300).bind fun t368 => (depotlaw20_VariantFirst.j0 k l0 l2 l3 (!t368) a1_0 a1_1 a1_2 l1_3 a1_4 a1_5 l1_6)) else (depotlaw20_VariantFirst.j0 k l0 l2 l3 true a1_0 a1_1 a1_2 l1_3 a1_4 a1_5 l1_6))) else (depotlaw20_VariantFirst.j0 k l0 l2 l3 true a1_0 a1_1 a1_2 l1_3 a1_4 a1_5 l1_6))) else (depotlaw20_VariantFirst.j0 k l0 l2 l3 true a1_0 a1_1 a1_2 l1_3 a1_4 a1_5 l1_6))) = some r:=h
 clear h
 have HC5:=Aside0.mk H
 clear H
 go_enter Tryd.func7, Tryd.ntmps7
 go_upto_region 1 with (first | ((with_reducible refine gate_dst (N:=5) rfl ?_); (try (refine gate_guard (by rfl) ?_; dsimp only)); refine box_event ?hg (N:=5) ?hd (cs:=#[.int .i64 a1_0, .string a1_1, .int .i64 a1_2, .slice A1_3 l1_3.length c1_3, .string a1_4, .int .i64 a1_5, .slice A1_6 l1_6.length c1_6]) (t:=28) ?hr ?_; (case hd => rfl); (case hg => rfl); (case hr => first | (go_simp; done) | (go_simp; rfl)); intro gb361 hg w6 hbox hb; have n0_:=Aside0.mk (Kd.V_below (Kd.V_elderB (by (with_reducible repeat (first | apply Kd.V_alloc | apply Kd.V_drewN | apply Kd.V_drew)); exact HO0.out) gb361 (Nat.le_of_eq hg.symm)) hb); have n1_:=Aside0.mk (Kd.V_below (Kd.V_elderB (by (with_reducible repeat (first | apply Kd.V_alloc | apply Kd.V_drewN | apply Kd.V_drew)); exact HO1_3.out) gb361 (Nat.le_of_eq hg.symm)) hb); have n2_:=Aside0.mk (Kd.V_below (Kd.V_elderB (by (with_reducible repeat (first | apply Kd.V_alloc | apply Kd.V_drewN | apply Kd.V_drew)); exact HO1_6.out) gb361 (Nat.le_of_eq hg.symm)) hb); have n3_:=Aside0.mk (below_step (by repeat (first | (with_reducible first | exact HB.out | apply below_alloc | apply pw_below_drewN | apply below_drew1) | exact HB.out)) hb); have n4_:=Aside0.mk (hbox); have n5_:=Aside0.mk ((by rw [hg]; exact (below_size (by repeat (first | (with_reducible first | exact HB.out | apply below_alloc | apply pw_below_drewN | apply below_drew1) | exact HB.out))) : w.heap.size ≤ gb361)); have n6_:=Aside0.mk ((by rw [hg]; exact (below_size (by repeat (first | (with_reducible first | exact HB.out | apply below_alloc | apply pw_below_drewN | apply below_drew1) | exact HB.out))) : w.heap.size ≤ gb361)); clear HO0; clear HO1_3; clear HO1_6; clear HB; have HO0:=n0_; have HO1_3:=n1_; have HO1_6:=n2_; have HB:=n3_; have BK361:=n4_; have GW361:=n5_; have GE361:=n6_; clear n0_ n1_ n2_ n3_ n4_ n5_ n6_; clear hb hbox hg))
 (try simp only [Act.put, List.setIfInBounds_toArray, List.set_cons_zero, List.set_cons_succ])
 go_cut [33] (fun v33 wc => ∃ (kq : Nat) (x33_4 : Bool), v33 = .bool x33_4 ∧ Aside0 (depotlaw20_VariantFirst.j0 kq l0 l2 l3 x33_4 a1_0 a1_1 a1_2 l1_3 a1_4 a1_5 l1_6 = some r) ∧ Aside0 (kq ≤ k) ∧ Aside0 (Kd.V k28 28 wc w.heap.size (fun k_ => ((P0_ k_ ∨ P1_3_ k_ ∨ P1_6_ k_) ∨ w.heap.size ≤ k_) ∧ k_ ≠ gb361) (.slice A0 l0.length c0) l0) ∧ Aside0 (Kd.V k62 62 wc w.heap.size (fun k_ => ((P0_ k_ ∨ P1_3_ k_ ∨ P1_6_ k_) ∨ w.heap.size ≤ k_) ∧ k_ ≠ gb361) (.slice A1_3 l1_3.length c1_3) l1_3) ∧ Aside0 (Kd.V k53 53 wc w.heap.size (fun k_ => ((P0_ k_ ∨ P1_3_ k_ ∨ P1_6_ k_) ∨ w.heap.size ≤ k_) ∧ k_ ≠ gb361) (.slice A1_6 l1_6.length c1_6) l1_6) ∧ Aside0 (wc.heap[gb361]? = some (.cells #[.int .i64 a1_0, .string a1_1, .int .i64 a1_2, (.slice A1_3 l1_3.length c1_3), .string a1_4, .int .i64 a1_5, (.slice A1_6 l1_6.length c1_6)] 28 (0, 0))) ∧ Aside0 (Below w.heap.size w wc))
 case first =>
  have H:=HC5.out
  clear HC5
  replace H:=Option.bind_eq_some_iff.mp H
  obtain ⟨t362, A70, H⟩:=H
  try dsimp only at H
  have A7:=Aside0.mk A70
  clear A70
  by_cases c8 : t362 = true
  ·subst c8
   have H1 : ((depotref20_Few.f k (([(⟨(⟨a1_0, a1_1, a1_2, l1_3, a1_4⟩ : S25), a1_5, l1_6⟩ : S28)] : List (S28))) 1 300).bind fun t366 => (if t366 = true then ((depotref09_Few.f k l2 70 300).bind fun t367 => (if t367 = true then ((depotref09_Few.f k l3 70 300).bind fun t368 => (depotlaw20_VariantFirst.j0 k l0 l2 l3 (!t368) a1_0 a1_1 a1_2 l1_3 a1_4 a1_5 l1_6)) else (depotlaw20_VariantFirst.j0 k l0 l2 l3 true a1_0 a1_1 a1_2 l1_3 a1_4 a1_5 l1_6))) else (depotlaw20_VariantFirst.j0 k l0 l2 l3 true a1_0 a1_1 a1_2 l1_3 a1_4 a1_5 l1_6))) = some r:=by rw [if_pos rfl] at H; exact H
   clear H
   have H:=H1
   clear H1
   obtain ⟨y363, hy363⟩ : ∃ y_ : List (S28), y_ = (([(⟨(⟨a1_0, a1_1, a1_2, l1_3, a1_4⟩ : S25), a1_5, l1_6⟩ : S28)] : List (S28))):=⟨_, rfl⟩
   replace H : ((depotref20_Few.f k y363 1 300).bind fun t366 => (if t366 = true then ((depotref09_Few.f k l2 70 300).bind fun t367 => (if t367 = true then ((depotref09_Few.f k l3 70 300).bind fun t368 => (depotlaw20_VariantFirst.j0 k l0 l2 l3 (!t368) a1_0 a1_1 a1_2 l1_3 a1_4 a1_5 l1_6)) else (depotlaw20_VariantFirst.j0 k l0 l2 l3 true a1_0 a1_1 a1_2 l1_3 a1_4 a1_5 l1_6))) else (depotlaw20_VariantFirst.j0 k l0 l2 l3 true a1_0 a1_1 a1_2 l1_3 a1_4 a1_5 l1_6))) = some r:=by first | (rw [hy363]; with_reducible exact H) | (have H2_:=(Option.bind_some _ _).symm.trans H; rw [hy363]; with_reducible exact H2_) | (have H2_:=(Option.bind_some _ _).symm.trans H; with_reducible exact H2_) | with_reducible exact H | (rw [hy363]; exact H) | exact H
   have Ny363:=Aside0.mk hy363
   clear hy363
   replace H:=Option.bind_eq_some_iff.mp H
   obtain ⟨t366, A90, H⟩:=H
   try dsimp only at H
   have A9:=Aside0.mk A90
   clear A90
   by_cases c10 : t366 = true
   ·subst c10
    have H1 : ((depotref09_Few.f k l2 70 300).bind fun t367 => (if t367 = true then ((depotref09_Few.f k l3 70 300).bind fun t368 => (depotlaw20_VariantFirst.j0 k l0 l2 l3 (!t368) a1_0 a1_1 a1_2 l1_3 a1_4 a1_5 l1_6)) else (depotlaw20_VariantFirst.j0 k l0 l2 l3 true a1_0 a1_1 a1_2 l1_3 a1_4 a1_5 l1_6))) = some r:=by rw [if_pos rfl] at H; exact H
    clear H
    have H:=H1
    clear H1
    replace H:=Option.bind_eq_some_iff.mp H
    obtain ⟨t367, A110, H⟩:=H
    try dsimp only at H
    have A11:=Aside0.mk A110
    clear A110
    by_cases c12 : t367 = true
    ·subst c12
     have H1 : ((depotref09_Few.f k l3 70 300).bind fun t368 => (depotlaw20_VariantFirst.j0 k l0 l2 l3 (!t368) a1_0 a1_1 a1_2 l1_3 a1_4 a1_5 l1_6)) = some r:=by rw [if_pos rfl] at H; exact H
     clear H
     have H:=H1
     clear H1
     replace H:=Option.bind_eq_some_iff.mp H
     obtain ⟨t368, A130, H⟩:=H
     replace H : (depotlaw20_VariantFirst.j0 k l0 l2 l3 (!t368) a1_0 a1_1 a1_2 l1_3 a1_4 a1_5 l1_6) = some r:=H
     have A13:=Aside0.mk A130
     clear A130
     have H':=Aside0.mk H
     clear H
     go_wp2_with (first | ((with_reducible refine gate_callee (f:=8) rfl ?_); refine goesL_ (some 16) rfl rfl Tryd.func8 (by kernel_rfl) rfl #[.slice A0 l0.length c0, .int .i64 4, .int .i64 300] rfl (by (try simp only [List.map_toArray, List.map_cons, List.map_nil]); first | done | rfl | (simp only [List.length_drop, List.length_take]; rfl)) ?_; (with_reducible refine (depotref20_Few.calls k _ _ l0 4 300 true _ ?side1 ?side2 A7.out).mono ?_); (case side1 => repeat (first | exact (Kd.V_reads' HO0.out).2.2 | (with_reducible first | refine Kd.C_alloc ?_ _ | refine Kd.C_drewN ?_ _ | refine Kd.C_drew ?_))); (case side2 => exact (Kd.V_reads' HO0.out).2.1); rintro e w14 ⟨rfl, hb⟩; refine ⟨_, rfl, ?_⟩; have n0_:=Aside0.mk (Kd.V_below (by (with_reducible repeat (first | apply Kd.V_alloc | apply Kd.V_drewN | apply Kd.V_drew)); exact HO0.out) hb); have n1_:=Aside0.mk (Kd.V_below (by (with_reducible repeat (first | apply Kd.V_alloc | apply Kd.V_drewN | apply Kd.V_drew)); exact HO1_3.out) hb); have n2_:=Aside0.mk (Kd.V_below (by (with_reducible repeat (first | apply Kd.V_alloc | apply Kd.V_drewN | apply Kd.V_drew)); exact HO1_6.out) hb); have n3_:=Aside0.mk (blk_below (g:=gb361) (o:=.cells #[.int .i64 a1_0, .string a1_1, .int .i64 a1_2, .slice A1_3 l1_3.length c1_3, .string a1_4, .int .i64 a1_5, .slice A1_6 l1_6.length c1_6] 28 (0, 0)) (by (with_reducible repeat (first | refine blk_drewN ?_ _ | refine blk_drew ?_ | refine blk_alloc ?_ _)); exact BK361.out) hb); have n4_:=Aside0.mk (below_step (by repeat (first | (with_reducible first | exact HB.out | apply below_alloc | apply pw_below_drewN | apply below_drew1 | refine below_set ?_ GE361.out) | exact HB.out)) hb); clear HO0; clear HO1_3; clear HO1_6; clear BK361; clear HB; have HO0:=n0_; have HO1_3:=n1_; have HO1_6:=n2_; have BK361:=n3_; have HB:=n4_; clear n0_ n1_ n2_ n3_ n4_; (try clear hb); (try clear hb2); (try clear hk); (try clear hi); have hcz15_0 : w14.cell? ⟨gb361, 0, none⟩ = some (.int .i64 a1_0):=(blk_cell BK361.out 0).trans rfl; have hcz15_1 : w14.cell? ⟨gb361, 1, none⟩ = some (.string a1_1):=(blk_cell BK361.out 1).trans rfl; have hcz15_2 : w14.cell? ⟨gb361, 2, none⟩ = some (.int .i64 a1_2):=(blk_cell BK361.out 2).trans rfl; have hcz15_3 : w14.cell? ⟨gb361, 3, none⟩ = some (.slice A1_3 l1_3.length c1_3):=(blk_cell BK361.out 3).trans rfl; have hcz15_4 : w14.cell? ⟨gb361, 4, none⟩ = some (.string a1_4):=(blk_cell BK361.out 4).trans rfl; have hcz15_5 : w14.cell? ⟨gb361, 5, none⟩ = some (.int .i64 a1_5):=(blk_cell BK361.out 5).trans rfl; have hcz15_6 : w14.cell? ⟨gb361, 6, none⟩ = some (.slice A1_6 l1_6.length c1_6):=(blk_cell BK361.out 6).trans rfl; have hfz15_0:=blk_frozen BK361.out 0; have hfz15_1:=blk_frozen BK361.out 1; have hfz15_2:=blk_frozen BK361.out 2; have hfz15_3:=blk_frozen BK361.out 3; have hfz15_4:=blk_frozen BK361.out 4; have hfz15_5:=blk_frozen BK361.out 5; have hfz15_6:=blk_frozen BK361.out 6) | ((with_reducible refine gate_dst (N:=20) rfl ?_); (try (refine gate_guard (by rfl) ?_; dsimp only)); refine Kd.N_lit k28 _ 28 ?hg (N':=20) ?hd (xs:=([(⟨(⟨a1_0, a1_1, a1_2, l1_3, a1_4⟩ : S25), a1_5, l1_6⟩ : S28)] : List (S28))) (inner:=[.int .i64 a1_0, .string a1_1, .int .i64 a1_2, .slice A1_3 l1_3.length c1_3, .string a1_4, .int .i64 a1_5, .slice A1_6 l1_6.length c1_6]) (ok:=(fun k_ => ((P0_ k_ ∨ P1_3_ k_ ∨ P1_6_ k_) ∨ w.heap.size ≤ k_) ∧ k_ ≠ gb361)) (okp:=(fun k_ => ((P0_ k_ ∨ P1_3_ k_ ∨ P1_6_ k_) ∨ w.heap.size ≤ k_) ∧ k_ ≠ gb361)) ?hr ?hp (fun _ hk => hk) ((show ∀ k_, w14.heap.size ≤ k_ → (fun k_ => ((P0_ k_ ∨ P1_3_ k_ ∨ P1_6_ k_) ∨ w.heap.size ≤ k_) ∧ k_ ≠ gb361) k_ from fun k_ hk => ⟨(.inr (Nat.le_trans (below_size (by repeat (first | (with_reducible first | exact HB.out | apply below_alloc | apply pw_below_drewN | apply below_drew1 | refine below_set ?_ GE361.out) | exact HB.out))) hk)), Kd.freshB (g:=gb361) (o:=.cells #[.int .i64 a1_0, .string a1_1, .int .i64 a1_2, .slice A1_3 l1_3.length c1_3, .string a1_4, .int .i64 a1_5, .slice A1_6 l1_6.length c1_6] 28 (0, 0)) (by (with_reducible repeat (first | refine blk_drewN ?_ _ | refine blk_drew ?_ | refine blk_alloc ?_ _)); exact BK361.out) k_ hk⟩) _ (Nat.le_refl _)) (Below.refl _ _) (Nat.le_refl _) (by simp) ?_; (case hd => rfl); (case hg => rfl); (case hr => first | (go_simp; done) | (go_simp; rfl)); (case hp => exact (Reps.c7 (show Kd.FK k28 _ _ (⟨(⟨a1_0, a1_1, a1_2, l1_3, a1_4⟩ : S25), a1_5, l1_6⟩ : S28) [.int .i64 a1_0, .string a1_1, .int .i64 a1_2, .slice A1_3 l1_3.length c1_3, .string a1_4, .int .i64 a1_5, .slice A1_6 l1_6.length c1_6] from (k28_mkF _ _ (⟨(⟨a1_0, a1_1, a1_2, l1_3, a1_4⟩ : S25), a1_5, l1_6⟩ : S28) (Kd.V_reads' (Kd.V_mono (ok':=(fun k_ => ((P0_ k_ ∨ P1_3_ k_ ∨ P1_6_ k_) ∨ w.heap.size ≤ k_) ∧ k_ ≠ gb361)) (HO1_3.out) (fun k_ hk => ⟨hk.1, hk.2⟩))).2.1 (Kd.V_F (Kd.V_mono (ok':=(fun k_ => ((P0_ k_ ∨ P1_3_ k_ ∨ P1_6_ k_) ∨ w.heap.size ≤ k_) ∧ k_ ≠ gb361)) (HO1_3.out) (fun k_ hk => ⟨hk.1, hk.2⟩))) (Kd.V_reads' (Kd.V_mono (ok':=(fun k_ => ((P0_ k_ ∨ P1_3_ k_ ∨ P1_6_ k_) ∨ w.heap.size ≤ k_) ∧ k_ ≠ gb361)) (HO1_6.out) (fun k_ hk => ⟨hk.1, hk.2⟩))).2.1 (Kd.V_F (Kd.V_mono (ok':=(fun k_ => ((P0_ k_ ∨ P1_3_ k_ ∨ P1_6_ k_) ∨ w.heap.size ≤ k_) ∧ k_ ≠ gb361)) (HO1_6.out) (fun k_ hk => ⟨hk.1, hk.2⟩))))) (Reps.none _ _))); intro v364 w16 ho17 hb hg_ hnew_; clear hg_ hnew_; (first | rw [← Ny363.out] at ho17 | (simp only [Int.reduceToNat] at ho17; rw [← Ny363.out] at ho17)); have n0_:=Aside0.mk (Kd.V_elder' (by (with_reducible repeat (first | apply Kd.V_alloc | apply Kd.V_drewN | apply Kd.V_drew)); exact HO0.out) (Kd.N_base ho17) hb); have n1_:=Aside0.mk (Kd.V_elder' (by (with_reducible repeat (first | apply Kd.V_alloc | apply Kd.V_drewN | apply Kd.V_drew)); exact HO1_3.out) (Kd.N_base ho17) hb); have n2_:=Aside0.mk (Kd.V_elder' (by (with_reducible repeat (first | apply Kd.V_alloc | apply Kd.V_drewN | apply Kd.V_drew)); exact HO1_6.out) (Kd.N_base ho17) hb); have n3_:=Aside0.mk (Kd.N_lower ho17 (below_size (by repeat (first | (with_reducible first | exact HB.out | apply below_alloc | apply pw_below_drewN | apply below_drew1 | refine below_set ?_ GE361.out) | exact HB.out)))); have n4_:=Aside0.mk (blk_below (g:=gb361) (o:=.cells #[.int .i64 a1_0, .string a1_1, .int .i64 a1_2, .slice A1_3 l1_3.length c1_3, .string a1_4, .int .i64 a1_5, .slice A1_6 l1_6.length c1_6] 28 (0, 0)) (by (with_reducible repeat (first | refine blk_drewN ?_ _ | refine blk_drew ?_ | refine blk_alloc ?_ _)); exact BK361.out) hb); have n5_:=Aside0.mk (below_step (by repeat (first | (with_reducible first | exact HB.out | apply below_alloc | apply pw_below_drewN | apply below_drew1 | refine below_set ?_ GE361.out) | exact HB.out)) hb); clear HO0; clear HO1_3; clear HO1_6; clear BK361; clear HB; have HO0:=n0_; have HO1_3:=n1_; have HO1_6:=n2_; have HO365:=n3_; have BK361:=n4_; have HB:=n5_; clear n0_ n1_ n2_ n3_ n4_ n5_; clear hb ho17; obtain ⟨Ao18, co18, eo18⟩:=Kd.N_slice HO365.out; subst eo18) | (go_at_call 8; (with_reducible refine (depotref20_Few.calls k _ _ y363 1 300 true _ ?side1 ?side2 A9.out).mono ?_); (case side1 => repeat (first | exact (Kd.N_reads' HO365.out).2.2 | (with_reducible first | refine Kd.C_alloc ?_ _ | refine Kd.C_drewN ?_ _ | refine Kd.C_drew ?_))); (case side2 => exact (Kd.N_reads' HO365.out).2.1); rintro e w19 ⟨rfl, hb⟩; have n0_:=Aside0.mk (Kd.V_below (by (with_reducible repeat (first | apply Kd.V_alloc | apply Kd.V_drewN | apply Kd.V_drew)); exact HO0.out) hb); have n1_:=Aside0.mk (Kd.V_below (by (with_reducible repeat (first | apply Kd.V_alloc | apply Kd.V_drewN | apply Kd.V_drew)); exact HO1_3.out) hb); have n2_:=Aside0.mk (Kd.V_below (by (with_reducible repeat (first | apply Kd.V_alloc | apply Kd.V_drewN | apply Kd.V_drew)); exact HO1_6.out) hb); have n3_:=Aside0.mk (Kd.N_below (by (with_reducible repeat (first | apply Kd.N_alloc | apply Kd.N_drewN | apply Kd.N_drew)); exact HO365.out) hb); have n4_:=Aside0.mk (blk_below (g:=gb361) (o:=.cells #[.int .i64 a1_0, .string a1_1, .int .i64 a1_2, .slice A1_3 l1_3.length c1_3, .string a1_4, .int .i64 a1_5, .slice A1_6 l1_6.length c1_6] 28 (0, 0)) (by (with_reducible repeat (first | refine blk_drewN ?_ _ | refine blk_drew ?_ | refine blk_alloc ?_ _)); exact BK361.out) hb); have n5_:=Aside0.mk (below_step (by repeat (first | (with_reducible first | exact HB.out | apply below_alloc | apply pw_below_drewN | apply below_drew1 | refine below_set ?_ GE361.out) | exact HB.out)) hb); clear HO0; clear HO1_3; clear HO1_6; clear HO365; clear BK361; clear HB; have HO0:=n0_; have HO1_3:=n1_; have HO1_6:=n2_; have HO365:=n3_; have BK361:=n4_; have HB:=n5_; clear n0_ n1_ n2_ n3_ n4_ n5_; (try clear hb); (try clear hb2); (try clear hk); (try clear hi)) | (go_at_call 9; (with_reducible refine (depotref09_Few.calls k _ _ l2 70 300 true _ ?side1 ?side2 A11.out).mono ?_); (case side1 => repeat (first | exact (Kd.C_below HR2.out HB.out) | (with_reducible first | refine Kd.C_alloc ?_ _ | refine Kd.C_drewN ?_ _ | refine Kd.C_drew ?_))); (case side2 => exact HC2.out); rintro e w' ⟨rfl, ⟨nd, rfl⟩⟩) | (go_at_call 9; (with_reducible refine (depotref09_Few.calls k _ _ l3 70 300 t368 _ ?side1 ?side2 A13.out).mono ?_); (case side1 => repeat (first | exact (Kd.C_below HR3.out (by repeat (first | (with_reducible first | exact HB.out | apply below_alloc | apply pw_below_drewN | apply below_drew1 | refine below_set ?_ GE361.out) | exact HB.out))) | (with_reducible first | refine Kd.C_alloc ?_ _ | refine Kd.C_drewN ?_ _ | refine Kd.C_drew ?_))); (case side2 => exact HC3.out); rintro e w' ⟨rfl, ⟨nd, rfl⟩⟩))
     go_meet
     case rel => exact ⟨_, (!t368), (by first | rfl | (simp; done) | (simp [*]; done) | (simp; exact Hand.isEmpty_ne _)), H', ⟨by first | omega | exact Nat.le_refl _⟩, ⟨by (with_reducible repeat (first | apply Kd.V_alloc | apply Kd.V_drewN | apply Kd.V_drew)); exact Kd.V_mono HO0.out (fun _ hk => ⟨hk.1.1, hk.1.2⟩)⟩, ⟨by (with_reducible repeat (first | apply Kd.V_alloc | apply Kd.V_drewN | apply Kd.V_drew)); exact Kd.V_mono HO1_3.out (fun _ hk => ⟨hk.1.1, hk.1.2⟩)⟩, ⟨by (with_reducible repeat (first | apply Kd.V_alloc | apply Kd.V_drewN | apply Kd.V_drew)); exact Kd.V_mono HO1_6.out (fun _ hk => ⟨hk.1.1, hk.1.2⟩)⟩, ⟨by (with_reducible repeat (first | refine blk_drewN ?_ _ | refine blk_drew ?_ | refine blk_alloc ?_ _)); exact BK361.out⟩, ⟨by repeat (first | (with_reducible first | exact HB.out | apply below_alloc | apply pw_below_drewN | apply below_drew1 | refine below_set ?_ GE361.out) | exact HB.out)⟩⟩
    ·replace c12:=Bool.eq_false_iff.mpr c12
     subst c12
     have H1 : (depotlaw20_VariantFirst.j0 k l0 l2 l3 true a1_0 a1_1 a1_2 l1_3 a1_4 a1_5 l1_6) = some r:=by rw [if_neg (show ¬ (false = true) by decide)] at H; exact H
     clear H
     have H:=H1
     clear H1
     have H':=Aside0.mk H
     clear H
     go_wp2_with (first | ((with_reducible refine gate_callee (f:=8) rfl ?_); refine goesL_ (some 16) rfl rfl Tryd.func8 (by kernel_rfl) rfl #[.slice A0 l0.length c0, .int .i64 4, .int .i64 300] rfl (by (try simp only [List.map_toArray, List.map_cons, List.map_nil]); first | done | rfl | (simp only [List.length_drop, List.length_take]; rfl)) ?_; (with_reducible refine (depotref20_Few.calls k _ _ l0 4 300 true _ ?side1 ?side2 A7.out).mono ?_); (case side1 => repeat (first | exact (Kd.V_reads' HO0.out).2.2 | (with_reducible first | refine Kd.C_alloc ?_ _ | refine Kd.C_drewN ?_ _ | refine Kd.C_drew ?_))); (case side2 => exact (Kd.V_reads' HO0.out).2.1); rintro e w20 ⟨rfl, hb⟩; refine ⟨_, rfl, ?_⟩; have n0_:=Aside0.mk (Kd.V_below (by (with_reducible repeat (first | apply Kd.V_alloc | apply Kd.V_drewN | apply Kd.V_drew)); exact HO0.out) hb); have n1_:=Aside0.mk (Kd.V_below (by (with_reducible repeat (first | apply Kd.V_alloc | apply Kd.V_drewN | apply Kd.V_drew)); exact HO1_3.out) hb); have n2_:=Aside0.mk (Kd.V_below (by (with_reducible repeat (first | apply Kd.V_alloc | apply Kd.V_drewN | apply Kd.V_drew)); exact HO1_6.out) hb); have n3_:=Aside0.mk (blk_below (g:=gb361) (o:=.cells #[.int .i64 a1_0, .string a1_1, .int .i64 a1_2, .slice A1_3 l1_3.length c1_3, .string a1_4, .int .i64 a1_5, .slice A1_6 l1_6.length c1_6] 28 (0, 0)) (by (with_reducible repeat (first | refine blk_drewN ?_ _ | refine blk_drew ?_ | refine blk_alloc ?_ _)); exact BK361.out) hb); have n4_:=Aside0.mk (below_step (by repeat (first | (with_reducible first | exact HB.out | apply below_alloc | apply pw_below_drewN | apply below_drew1 | refine below_set ?_ GE361.out) | exact HB.out)) hb); clear HO0; clear HO1_3; clear HO1_6; clear BK361; clear HB; have HO0:=n0_; have HO1_3:=n1_; have HO1_6:=n2_; have BK361:=n3_; have HB:=n4_; clear n0_ n1_ n2_ n3_ n4_; (try clear hb); (try clear hb2); (try clear hk); (try clear hi); have hcz21_0 : w20.cell? ⟨gb361, 0, none⟩ = some (.int .i64 a1_0):=(blk_cell BK361.out 0).trans rfl; have hcz21_1 : w20.cell? ⟨gb361, 1, none⟩ = some (.string a1_1):=(blk_cell BK361.out 1).trans rfl; have hcz21_2 : w20.cell? ⟨gb361, 2, none⟩ = some (.int .i64 a1_2):=(blk_cell BK361.out 2).trans rfl; have hcz21_3 : w20.cell? ⟨gb361, 3, none⟩ = some (.slice A1_3 l1_3.length c1_3):=(blk_cell BK361.out 3).trans rfl; have hcz21_4 : w20.cell? ⟨gb361, 4, none⟩ = some (.string a1_4):=(blk_cell BK361.out 4).trans rfl; have hcz21_5 : w20.cell? ⟨gb361, 5, none⟩ = some (.int .i64 a1_5):=(blk_cell BK361.out 5).trans rfl; have hcz21_6 : w20.cell? ⟨gb361, 6, none⟩ = some (.slice A1_6 l1_6.length c1_6):=(blk_cell BK361.out 6).trans rfl; have hfz21_0:=blk_frozen BK361.out 0; have hfz21_1:=blk_frozen BK361.out 1; have hfz21_2:=blk_frozen BK361.out 2; have hfz21_3:=blk_frozen BK361.out 3; have hfz21_4:=blk_frozen BK361.out 4; have hfz21_5:=blk_frozen BK361.out 5; have hfz21_6:=blk_frozen BK361.out 6) | ((with_reducible refine gate_dst (N:=20) rfl ?_); (try (refine gate_guard (by rfl) ?_; dsimp only)); refine Kd.N_lit k28 _ 28 ?hg (N':=20) ?hd (xs:=([(⟨(⟨a1_0, a1_1, a1_2, l1_3, a1_4⟩ : S25), a1_5, l1_6⟩ : S28)] : List (S28))) (inner:=[.int .i64 a1_0, .string a1_1, .int .i64 a1_2, .slice A1_3 l1_3.length c1_3, .string a1_4, .int .i64 a1_5, .slice A1_6 l1_6.length c1_6]) (ok:=(fun k_ => ((P0_ k_ ∨ P1_3_ k_ ∨ P1_6_ k_) ∨ w.heap.size ≤ k_) ∧ k_ ≠ gb361)) (okp:=(fun k_ => ((P0_ k_ ∨ P1_3_ k_ ∨ P1_6_ k_) ∨ w.heap.size ≤ k_) ∧ k_ ≠ gb361)) ?hr ?hp (fun _ hk => hk) ((show ∀ k_, w20.heap.size ≤ k_ → (fun k_ => ((P0_ k_ ∨ P1_3_ k_ ∨ P1_6_ k_) ∨ w.heap.size ≤ k_) ∧ k_ ≠ gb361) k_ from fun k_ hk => ⟨(.inr (Nat.le_trans (below_size (by repeat (first | (with_reducible first | exact HB.out | apply below_alloc | apply pw_below_drewN | apply below_drew1 | refine below_set ?_ GE361.out) | exact HB.out))) hk)), Kd.freshB (g:=gb361) (o:=.cells #[.int .i64 a1_0, .string a1_1, .int .i64 a1_2, .slice A1_3 l1_3.length c1_3, .string a1_4, .int .i64 a1_5, .slice A1_6 l1_6.length c1_6] 28 (0, 0)) (by (with_reducible repeat (first | refine blk_drewN ?_ _ | refine blk_drew ?_ | refine blk_alloc ?_ _)); exact BK361.out) k_ hk⟩) _ (Nat.le_refl _)) (Below.refl _ _) (Nat.le_refl _) (by simp) ?_; (case hd => rfl); (case hg => rfl); (case hr => first | (go_simp; done) | (go_simp; rfl)); (case hp => exact (Reps.c7 (show Kd.FK k28 _ _ (⟨(⟨a1_0, a1_1, a1_2, l1_3, a1_4⟩ : S25), a1_5, l1_6⟩ : S28) [.int .i64 a1_0, .string a1_1, .int .i64 a1_2, .slice A1_3 l1_3.length c1_3, .string a1_4, .int .i64 a1_5, .slice A1_6 l1_6.length c1_6] from (k28_mkF _ _ (⟨(⟨a1_0, a1_1, a1_2, l1_3, a1_4⟩ : S25), a1_5, l1_6⟩ : S28) (Kd.V_reads' (Kd.V_mono (ok':=(fun k_ => ((P0_ k_ ∨ P1_3_ k_ ∨ P1_6_ k_) ∨ w.heap.size ≤ k_) ∧ k_ ≠ gb361)) (HO1_3.out) (fun k_ hk => ⟨hk.1, hk.2⟩))).2.1 (Kd.V_F (Kd.V_mono (ok':=(fun k_ => ((P0_ k_ ∨ P1_3_ k_ ∨ P1_6_ k_) ∨ w.heap.size ≤ k_) ∧ k_ ≠ gb361)) (HO1_3.out) (fun k_ hk => ⟨hk.1, hk.2⟩))) (Kd.V_reads' (Kd.V_mono (ok':=(fun k_ => ((P0_ k_ ∨ P1_3_ k_ ∨ P1_6_ k_) ∨ w.heap.size ≤ k_) ∧ k_ ≠ gb361)) (HO1_6.out) (fun k_ hk => ⟨hk.1, hk.2⟩))).2.1 (Kd.V_F (Kd.V_mono (ok':=(fun k_ => ((P0_ k_ ∨ P1_3_ k_ ∨ P1_6_ k_) ∨ w.heap.size ≤ k_) ∧ k_ ≠ gb361)) (HO1_6.out) (fun k_ hk => ⟨hk.1, hk.2⟩))))) (Reps.none _ _))); intro v364 w22 ho23 hb hg_ hnew_; clear hg_ hnew_; (first | rw [← Ny363.out] at ho23 | (simp only [Int.reduceToNat] at ho23; rw [← Ny363.out] at ho23)); have n0_:=Aside0.mk (Kd.V_elder' (by (with_reducible repeat (first | apply Kd.V_alloc | apply Kd.V_drewN | apply Kd.V_drew)); exact HO0.out) (Kd.N_base ho23) hb); have n1_:=Aside0.mk (Kd.V_elder' (by (with_reducible repeat (first | apply Kd.V_alloc | apply Kd.V_drewN | apply Kd.V_drew)); exact HO1_3.out) (Kd.N_base ho23) hb); have n2_:=Aside0.mk (Kd.V_elder' (by (with_reducible repeat (first | apply Kd.V_alloc | apply Kd.V_drewN | apply Kd.V_drew)); exact HO1_6.out) (Kd.N_base ho23) hb); have n3_:=Aside0.mk (Kd.N_lower ho23 (below_size (by repeat (first | (with_reducible first | exact HB.out | apply below_alloc | apply pw_below_drewN | apply below_drew1 | refine below_set ?_ GE361.out) | exact HB.out)))); have n4_:=Aside0.mk (blk_below (g:=gb361) (o:=.cells #[.int .i64 a1_0, .string a1_1, .int .i64 a1_2, .slice A1_3 l1_3.length c1_3, .string a1_4, .int .i64 a1_5, .slice A1_6 l1_6.length c1_6] 28 (0, 0)) (by (with_reducible repeat (first | refine blk_drewN ?_ _ | refine blk_drew ?_ | refine blk_alloc ?_ _)); exact BK361.out) hb); have n5_:=Aside0.mk (below_step (by repeat (first | (with_reducible first | exact HB.out | apply below_alloc | apply pw_below_drewN | apply below_drew1 | refine below_set ?_ GE361.out) | exact HB.out)) hb); clear HO0; clear HO1_3; clear HO1_6; clear BK361; clear HB; have HO0:=n0_; have HO1_3:=n1_; have HO1_6:=n2_; have HO365:=n3_; have BK361:=n4_; have HB:=n5_; clear n0_ n1_ n2_ n3_ n4_ n5_; clear hb ho23; obtain ⟨Ao24, co24, eo24⟩:=Kd.N_slice HO365.out; subst eo24) | (go_at_call 8; (with_reducible refine (depotref20_Few.calls k _ _ y363 1 300 true _ ?side1 ?side2 A9.out).mono ?_); (case side1 => repeat (first | exact (Kd.N_reads' HO365.out).2.2 | (with_reducible first | refine Kd.C_alloc ?_ _ | refine Kd.C_drewN ?_ _ | refine Kd.C_drew ?_))); (case side2 => exact (Kd.N_reads' HO365.out).2.1); rintro e w25 ⟨rfl, hb⟩; have n0_:=Aside0.mk (Kd.V_below (by (with_reducible repeat (first | apply Kd.V_alloc | apply Kd.V_drewN | apply Kd.V_drew)); exact HO0.out) hb); have n1_:=Aside0.mk (Kd.V_below (by (with_reducible repeat (first | apply Kd.V_alloc | apply Kd.V_drewN | apply Kd.V_drew)); exact HO1_3.out) hb); have n2_:=Aside0.mk (Kd.V_below (by (with_reducible repeat (first | apply Kd.V_alloc | apply Kd.V_drewN | apply Kd.V_drew)); exact HO1_6.out) hb); have n3_:=Aside0.mk (Kd.N_below (by (with_reducible repeat (first | apply Kd.N_alloc | apply Kd.N_drewN | apply Kd.N_drew)); exact HO365.out) hb); have n4_:=Aside0.mk (blk_below (g:=gb361) (o:=.cells #[.int .i64 a1_0, .string a1_1, .int .i64 a1_2, .slice A1_3 l1_3.length c1_3, .string a1_4, .int .i64 a1_5, .slice A1_6 l1_6.length c1_6] 28 (0, 0)) (by (with_reducible repeat (first | refine blk_drewN ?_ _ | refine blk_drew ?_ | refine blk_alloc ?_ _)); exact BK361.out) hb); have n5_:=Aside0.mk (below_step (by repeat (first | (with_reducible first | exact HB.out | apply below_alloc | apply pw_below_drewN | apply below_drew1 | refine below_set ?_ GE361.out) | exact HB.out)) hb); clear HO0; clear HO1_3; clear HO1_6; clear HO365; clear BK361; clear HB; have HO0:=n0_; have HO1_3:=n1_; have HO1_6:=n2_; have HO365:=n3_; have BK361:=n4_; have HB:=n5_; clear n0_ n1_ n2_ n3_ n4_ n5_; (try clear hb); (try clear hb2); (try clear hk); (try clear hi)) | (go_at_call 9; (with_reducible refine (depotref09_Few.calls k _ _ l2 70 300 false _ ?side1 ?side2 A11.out).mono ?_); (case side1 => repeat (first | exact (Kd.C_below HR2.out HB.out) | (with_reducible first | refine Kd.C_alloc ?_ _ | refine Kd.C_drewN ?_ _ | refine Kd.C_drew ?_))); (case side2 => exact HC2.out); rintro e w' ⟨rfl, ⟨nd, rfl⟩⟩))
     go_meet
     case rel => exact ⟨_, (true), (by first | rfl | (simp; done) | (simp [*]; done) | (simp; exact Hand.isEmpty_ne _)), H', ⟨by first | omega | exact Nat.le_refl _⟩, ⟨by (with_reducible repeat (first | apply Kd.V_alloc | apply Kd.V_drewN | apply Kd.V_drew)); exact Kd.V_mono HO0.out (fun _ hk => ⟨hk.1.1, hk.1.2⟩)⟩, ⟨by (with_reducible repeat (first | apply Kd.V_alloc | apply Kd.V_drewN | apply Kd.V_drew)); exact Kd.V_mono HO1_3.out (fun _ hk => ⟨hk.1.1, hk.1.2⟩)⟩, ⟨by (with_reducible repeat (first | apply Kd.V_alloc | apply Kd.V_drewN | apply Kd.V_drew)); exact Kd.V_mono HO1_6.out (fun _ hk => ⟨hk.1.1, hk.1.2⟩)⟩, ⟨by (with_reducible repeat (first | refine blk_drewN ?_ _ | refine blk_drew ?_ | refine blk_alloc ?_ _)); exact BK361.out⟩, ⟨by repeat (first | (with_reducible first | exact HB.out | apply below_alloc | apply pw_below_drewN | apply below_drew1 | refine below_set ?_ GE361.out) | exact HB.out)⟩⟩
   ·replace c10:=Bool.eq_false_iff.mpr c10
    subst c10
    have H1 : (depotlaw20_VariantFirst.j0 k l0 l2 l3 true a1_0 a1_1 a1_2 l1_3 a1_4 a1_5 l1_6) = some r:=by rw [if_neg (show ¬ (false = true) by decide)] at H; exact H
    clear H
    have H:=H1
    clear H1
    have H':=Aside0.mk H
    clear H
    go_wp2_with (first | ((with_reducible refine gate_callee (f:=8) rfl ?_); refine goesL_ (some 16) rfl rfl Tryd.func8 (by kernel_rfl) rfl #[.slice A0 l0.length c0, .int .i64 4, .int .i64 300] rfl (by (try simp only [List.map_toArray, List.map_cons, List.map_nil]); first | done | rfl | (simp only [List.length_drop, List.length_take]; rfl)) ?_; (with_reducible refine (depotref20_Few.calls k _ _ l0 4 300 true _ ?side1 ?side2 A7.out).mono ?_); (case side1 => repeat (first | exact (Kd.V_reads' HO0.out).2.2 | (with_reducible first | refine Kd.C_alloc ?_ _ | refine Kd.C_drewN ?_ _ | refine Kd.C_drew ?_))); (case side2 => exact (Kd.V_reads' HO0.out).2.1); rintro e w26 ⟨rfl, hb⟩; refine ⟨_, rfl, ?_⟩; have n0_:=Aside0.mk (Kd.V_below (by (with_reducible repeat (first | apply Kd.V_alloc | apply Kd.V_drewN | apply Kd.V_drew)); exact HO0.out) hb); have n1_:=Aside0.mk (Kd.V_below (by (with_reducible repeat (first | apply Kd.V_alloc | apply Kd.V_drewN | apply Kd.V_drew)); exact HO1_3.out) hb); have n2_:=Aside0.mk (Kd.V_below (by (with_reducible repeat (first | apply Kd.V_alloc | apply Kd.V_drewN | apply Kd.V_drew)); exact HO1_6.out) hb); have n3_:=Aside0.mk (blk_below (g:=gb361) (o:=.cells #[.int .i64 a1_0, .string a1_1, .int .i64 a1_2, .slice A1_3 l1_3.length c1_3, .string a1_4, .int .i64 a1_5, .slice A1_6 l1_6.length c1_6] 28 (0, 0)) (by (with_reducible repeat (first | refine blk_drewN ?_ _ | refine blk_drew ?_ | refine blk_alloc ?_ _)); exact BK361.out) hb); have n4_:=Aside0.mk (below_step (by repeat (first | (with_reducible first | exact HB.out | apply below_alloc | apply pw_below_drewN | apply below_drew1 | refine below_set ?_ GE361.out) | exact HB.out)) hb); clear HO0; clear HO1_3; clear HO1_6; clear BK361; clear HB; have HO0:=n0_; have HO1_3:=n1_; have HO1_6:=n2_; have BK361:=n3_; have HB:=n4_; clear n0_ n1_ n2_ n3_ n4_; (try clear hb); (try clear hb2); (try clear hk); (try clear hi); have hcz27_0 : w26.cell? ⟨gb361, 0, none⟩ = some (.int .i64 a1_0):=(blk_cell BK361.out 0).trans rfl; have hcz27_1 : w26.cell? ⟨gb361, 1, none⟩ = some (.string a1_1):=(blk_cell BK361.out 1).trans rfl; have hcz27_2 : w26.cell? ⟨gb361, 2, none⟩ = some (.int .i64 a1_2):=(blk_cell BK361.out 2).trans rfl; have hcz27_3 : w26.cell? ⟨gb361, 3, none⟩ = some (.slice A1_3 l1_3.length c1_3):=(blk_cell BK361.out 3).trans rfl; have hcz27_4 : w26.cell? ⟨gb361, 4, none⟩ = some (.string a1_4):=(blk_cell BK361.out 4).trans rfl; have hcz27_5 : w26.cell? ⟨gb361, 5, none⟩ = some (.int .i64 a1_5):=(blk_cell BK361.out 5).trans rfl; have hcz27_6 : w26.cell? ⟨gb361, 6, none⟩ = some (.slice A1_6 l1_6.length c1_6):=(blk_cell BK361.out 6).trans rfl; have hfz27_0:=blk_frozen BK361.out 0; have hfz27_1:=blk_frozen BK361.out 1; have hfz27_2:=blk_frozen BK361.out 2; have hfz27_3:=blk_frozen BK361.out 3; have hfz27_4:=blk_frozen BK361.out 4; have hfz27_5:=blk_frozen BK361.out 5; have hfz27_6:=blk_frozen BK361.out 6) | ((with_reducible refine gate_dst (N:=20) rfl ?_); (try (refine gate_guard (by rfl) ?_; dsimp only)); refine Kd.N_lit k28 _ 28 ?hg (N':=20) ?hd (xs:=([(⟨(⟨a1_0, a1_1, a1_2, l1_3, a1_4⟩ : S25), a1_5, l1_6⟩ : S28)] : List (S28))) (inner:=[.int .i64 a1_0, .string a1_1, .int .i64 a1_2, .slice A1_3 l1_3.length c1_3, .string a1_4, .int .i64 a1_5, .slice A1_6 l1_6.length c1_6]) (ok:=(fun k_ => ((P0_ k_ ∨ P1_3_ k_ ∨ P1_6_ k_) ∨ w.heap.size ≤ k_) ∧ k_ ≠ gb361)) (okp:=(fun k_ => ((P0_ k_ ∨ P1_3_ k_ ∨ P1_6_ k_) ∨ w.heap.size ≤ k_) ∧ k_ ≠ gb361)) ?hr ?hp (fun _ hk => hk) ((show ∀ k_, w26.heap.size ≤ k_ → (fun k_ => ((P0_ k_ ∨ P1_3_ k_ ∨ P1_6_ k_) ∨ w.heap.size ≤ k_) ∧ k_ ≠ gb361) k_ from fun k_ hk => ⟨(.inr (Nat.le_trans (below_size (by repeat (first | (with_reducible first | exact HB.out | apply below_alloc | apply pw_below_drewN | apply below_drew1 | refine below_set ?_ GE361.out) | exact HB.out))) hk)), Kd.freshB (g:=gb361) (o:=.cells #[.int .i64 a1_0, .string a1_1, .int .i64 a1_2, .slice A1_3 l1_3.length c1_3, .string a1_4, .int .i64 a1_5, .slice A1_6 l1_6.length c1_6] 28 (0, 0)) (by (with_reducible repeat (first | refine blk_drewN ?_ _ | refine blk_drew ?_ | refine blk_alloc ?_ _)); exact BK361.out) k_ hk⟩) _ (Nat.le_refl _)) (Below.refl _ _) (Nat.le_refl _) (by simp) ?_; (case hd => rfl); (case hg => rfl); (case hr => first | (go_simp; done) | (go_simp; rfl)); (case hp => exact (Reps.c7 (show Kd.FK k28 _ _ (⟨(⟨a1_0, a1_1, a1_2, l1_3, a1_4⟩ : S25), a1_5, l1_6⟩ : S28) [.int .i64 a1_0, .string a1_1, .int .i64 a1_2, .slice A1_3 l1_3.length c1_3, .string a1_4, .int .i64 a1_5, .slice A1_6 l1_6.length c1_6] from (k28_mkF _ _ (⟨(⟨a1_0, a1_1, a1_2, l1_3, a1_4⟩ : S25), a1_5, l1_6⟩ : S28) (Kd.V_reads' (Kd.V_mono (ok':=(fun k_ => ((P0_ k_ ∨ P1_3_ k_ ∨ P1_6_ k_) ∨ w.heap.size ≤ k_) ∧ k_ ≠ gb361)) (HO1_3.out) (fun k_ hk => ⟨hk.1, hk.2⟩))).2.1 (Kd.V_F (Kd.V_mono (ok':=(fun k_ => ((P0_ k_ ∨ P1_3_ k_ ∨ P1_6_ k_) ∨ w.heap.size ≤ k_) ∧ k_ ≠ gb361)) (HO1_3.out) (fun k_ hk => ⟨hk.1, hk.2⟩))) (Kd.V_reads' (Kd.V_mono (ok':=(fun k_ => ((P0_ k_ ∨ P1_3_ k_ ∨ P1_6_ k_) ∨ w.heap.size ≤ k_) ∧ k_ ≠ gb361)) (HO1_6.out) (fun k_ hk => ⟨hk.1, hk.2⟩))).2.1 (Kd.V_F (Kd.V_mono (ok':=(fun k_ => ((P0_ k_ ∨ P1_3_ k_ ∨ P1_6_ k_) ∨ w.heap.size ≤ k_) ∧ k_ ≠ gb361)) (HO1_6.out) (fun k_ hk => ⟨hk.1, hk.2⟩))))) (Reps.none _ _))); intro v364 w28 ho29 hb hg_ hnew_; clear hg_ hnew_; (first | rw [← Ny363.out] at ho29 | (simp only [Int.reduceToNat] at ho29; rw [← Ny363.out] at ho29)); have n0_:=Aside0.mk (Kd.V_elder' (by (with_reducible repeat (first | apply Kd.V_alloc | apply Kd.V_drewN | apply Kd.V_drew)); exact HO0.out) (Kd.N_base ho29) hb); have n1_:=Aside0.mk (Kd.V_elder' (by (with_reducible repeat (first | apply Kd.V_alloc | apply Kd.V_drewN | apply Kd.V_drew)); exact HO1_3.out) (Kd.N_base ho29) hb); have n2_:=Aside0.mk (Kd.V_elder' (by (with_reducible repeat (first | apply Kd.V_alloc | apply Kd.V_drewN | apply Kd.V_drew)); exact HO1_6.out) (Kd.N_base ho29) hb); have n3_:=Aside0.mk (Kd.N_lower ho29 (below_size (by repeat (first | (with_reducible first | exact HB.out | apply below_alloc | apply pw_below_drewN | apply below_drew1 | refine below_set ?_ GE361.out) | exact HB.out)))); have n4_:=Aside0.mk (blk_below (g:=gb361) (o:=.cells #[.int .i64 a1_0, .string a1_1, .int .i64 a1_2, .slice A1_3 l1_3.length c1_3, .string a1_4, .int .i64 a1_5, .slice A1_6 l1_6.length c1_6] 28 (0, 0)) (by (with_reducible repeat (first | refine blk_drewN ?_ _ | refine blk_drew ?_ | refine blk_alloc ?_ _)); exact BK361.out) hb); have n5_:=Aside0.mk (below_step (by repeat (first | (with_reducible first | exact HB.out | apply below_alloc | apply pw_below_drewN | apply below_drew1 | refine below_set ?_ GE361.out) | exact HB.out)) hb); clear HO0; clear HO1_3; clear HO1_6; clear BK361; clear HB; have HO0:=n0_; have HO1_3:=n1_; have HO1_6:=n2_; have HO365:=n3_; have BK361:=n4_; have HB:=n5_; clear n0_ n1_ n2_ n3_ n4_ n5_; clear hb ho29; obtain ⟨Ao30, co30, eo30⟩:=Kd.N_slice HO365.out; subst eo30) | (go_at_call 8; (with_reducible refine (depotref20_Few.calls k _ _ y363 1 300 false _ ?side1 ?side2 A9.out).mono ?_); (case side1 => repeat (first | exact (Kd.N_reads' HO365.out).2.2 | (with_reducible first | refine Kd.C_alloc ?_ _ | refine Kd.C_drewN ?_ _ | refine Kd.C_drew ?_))); (case side2 => exact (Kd.N_reads' HO365.out).2.1); rintro e w31 ⟨rfl, hb⟩; have n0_:=Aside0.mk (Kd.V_below (by (with_reducible repeat (first | apply Kd.V_alloc | apply Kd.V_drewN | apply Kd.V_drew)); exact HO0.out) hb); have n1_:=Aside0.mk (Kd.V_below (by (with_reducible repeat (first | apply Kd.V_alloc | apply Kd.V_drewN | apply Kd.V_drew)); exact HO1_3.out) hb); have n2_:=Aside0.mk (Kd.V_below (by (with_reducible repeat (first | apply Kd.V_alloc | apply Kd.V_drewN | apply Kd.V_drew)); exact HO1_6.out) hb); have n3_:=Aside0.mk (Kd.N_below (by (with_reducible repeat (first | apply Kd.N_alloc | apply Kd.N_drewN | apply Kd.N_drew)); exact HO365.out) hb); have n4_:=Aside0.mk (blk_below (g:=gb361) (o:=.cells #[.int .i64 a1_0, .string a1_1, .int .i64 a1_2, .slice A1_3 l1_3.length c1_3, .string a1_4, .int .i64 a1_5, .slice A1_6 l1_6.length c1_6] 28 (0, 0)) (by (with_reducible repeat (first | refine blk_drewN ?_ _ | refine blk_drew ?_ | refine blk_alloc ?_ _)); exact BK361.out) hb); have n5_:=Aside0.mk (below_step (by repeat (first | (with_reducible first | exact HB.out | apply below_alloc | apply pw_below_drewN | apply below_drew1 | refine below_set ?_ GE361.out) | exact HB.out)) hb); clear HO0; clear HO1_3; clear HO1_6; clear HO365; clear BK361; clear HB; have HO0:=n0_; have HO1_3:=n1_; have HO1_6:=n2_; have HO365:=n3_; have BK361:=n4_; have HB:=n5_; clear n0_ n1_ n2_ n3_ n4_ n5_; (try clear hb); (try clear hb2); (try clear hk); (try clear hi)))
    go_meet
    case rel => exact ⟨_, (true), (by first | rfl | (simp; done) | (simp [*]; done) | (simp; exact Hand.isEmpty_ne _)), H', ⟨by first | omega | exact Nat.le_refl _⟩, ⟨by (with_reducible repeat (first | apply Kd.V_alloc | apply Kd.V_drewN | apply Kd.V_drew)); exact Kd.V_mono HO0.out (fun _ hk => ⟨hk.1.1, hk.1.2⟩)⟩, ⟨by (with_reducible repeat (first | apply Kd.V_alloc | apply Kd.V_drewN | apply Kd.V_drew)); exact Kd.V_mono HO1_3.out (fun _ hk => ⟨hk.1.1, hk.1.2⟩)⟩, ⟨by (with_reducible repeat (first | apply Kd.V_alloc | apply Kd.V_drewN | apply Kd.V_drew)); exact Kd.V_mono HO1_6.out (fun _ hk => ⟨hk.1.1, hk.1.2⟩)⟩, ⟨by (with_reducible repeat (first | refine blk_drewN ?_ _ | refine blk_drew ?_ | refine blk_alloc ?_ _)); exact BK361.out⟩, ⟨by repeat (first | (with_reducible first | exact HB.out | apply below_alloc | apply pw_below_drewN | apply below_drew1 | refine below_set ?_ GE361.out) | exact HB.out)⟩⟩
  ·replace c8:=Bool.eq_false_iff.mpr c8
   subst c8
   have H1 : (depotlaw20_VariantFirst.j0 k l0 l2 l3 true a1_0 a1_1 a1_2 l1_3 a1_4 a1_5 l1_6) = some r:=by rw [if_neg (show ¬ (false = true) by decide)] at H; exact H
   clear H
   have H:=H1
   clear H1
   have H':=Aside0.mk H
   clear H
   go_wp2_with (first | ((with_reducible refine gate_callee (f:=8) rfl ?_); refine goesL_ (some 16) rfl rfl Tryd.func8 (by kernel_rfl) rfl #[.slice A0 l0.length c0, .int .i64 4, .int .i64 300] rfl (by (try simp only [List.map_toArray, List.map_cons, List.map_nil]); first | done | rfl | (simp only [List.length_drop, List.length_take]; rfl)) ?_; (with_reducible refine (depotref20_Few.calls k _ _ l0 4 300 false _ ?side1 ?side2 A7.out).mono ?_); (case side1 => repeat (first | exact (Kd.V_reads' HO0.out).2.2 | (with_reducible first | refine Kd.C_alloc ?_ _ | refine Kd.C_drewN ?_ _ | refine Kd.C_drew ?_))); (case side2 => exact (Kd.V_reads' HO0.out).2.1); rintro e w32 ⟨rfl, hb⟩; refine ⟨_, rfl, ?_⟩; have n0_:=Aside0.mk (Kd.V_below (by (with_reducible repeat (first | apply Kd.V_alloc | apply Kd.V_drewN | apply Kd.V_drew)); exact HO0.out) hb); have n1_:=Aside0.mk (Kd.V_below (by (with_reducible repeat (first | apply Kd.V_alloc | apply Kd.V_drewN | apply Kd.V_drew)); exact HO1_3.out) hb); have n2_:=Aside0.mk (Kd.V_below (by (with_reducible repeat (first | apply Kd.V_alloc | apply Kd.V_drewN | apply Kd.V_drew)); exact HO1_6.out) hb); have n3_:=Aside0.mk (blk_below (g:=gb361) (o:=.cells #[.int .i64 a1_0, .string a1_1, .int .i64 a1_2, .slice A1_3 l1_3.length c1_3, .string a1_4, .int .i64 a1_5, .slice A1_6 l1_6.length c1_6] 28 (0, 0)) (by (with_reducible repeat (first | refine blk_drewN ?_ _ | refine blk_drew ?_ | refine blk_alloc ?_ _)); exact BK361.out) hb); have n4_:=Aside0.mk (below_step (by repeat (first | (with_reducible first | exact HB.out | apply below_alloc | apply pw_below_drewN | apply below_drew1 | refine below_set ?_ GE361.out) | exact HB.out)) hb); clear HO0; clear HO1_3; clear HO1_6; clear BK361; clear HB; have HO0:=n0_; have HO1_3:=n1_; have HO1_6:=n2_; have BK361:=n3_; have HB:=n4_; clear n0_ n1_ n2_ n3_ n4_; (try clear hb); (try clear hb2); (try clear hk); (try clear hi)))
   go_meet
   case rel => exact ⟨_, (true), (by first | rfl | (simp; done) | (simp [*]; done) | (simp; exact Hand.isEmpty_ne _)), H', ⟨by first | omega | exact Nat.le_refl _⟩, ⟨by (with_reducible repeat (first | apply Kd.V_alloc | apply Kd.V_drewN | apply Kd.V_drew)); exact HO0.out⟩, ⟨by (with_reducible repeat (first | apply Kd.V_alloc | apply Kd.V_drewN | apply Kd.V_drew)); exact HO1_3.out⟩, ⟨by (with_reducible repeat (first | apply Kd.V_alloc | apply Kd.V_drewN | apply Kd.V_drew)); exact HO1_6.out⟩, ⟨by (with_reducible repeat (first | refine blk_drewN ?_ _ | refine blk_drew ?_ | refine blk_alloc ?_ _)); exact BK361.out⟩, ⟨by repeat (first | (with_reducible first | exact HB.out | apply below_alloc | apply pw_below_drewN | apply below_drew1 | refine below_set ?_ GE361.out) | exact HB.out)⟩⟩
 case rest =>
  clear HC5
  try clear c1
  try clear c2
  try clear p2
  try clear c3
  try clear c7
  try clear c8
  try clear c10
  try clear c12
  try clear hcz15_0
  try clear hcz15_1
  try clear hcz15_2
  try clear hcz15_3
  try clear hcz15_4
  try clear hcz15_5
  try clear hcz15_6
  try clear hcz21_0
  try clear hcz21_1
  try clear hcz21_2
  try clear hcz21_3
  try clear hcz21_4
  try clear hcz21_5
  try clear hcz21_6
  try clear hcz27_0
  try clear hcz27_1
  try clear hcz27_2
  try clear hcz27_3
  try clear hcz27_4
  try clear hcz27_5
  try clear hcz27_6
  try clear hfz15_0
  try clear hfz15_1
  try clear hfz15_2
  try clear hfz15_3
  try clear hfz15_4
  try clear hfz15_5
  try clear hfz15_6
  try clear hfz21_0
  try clear hfz21_1
  try clear hfz21_2
  try clear hfz21_3
  try clear hfz21_4
  try clear hfz21_5
  try clear hfz21_6
  try clear hfz27_0
  try clear hfz27_1
  try clear hfz27_2
  try clear hfz27_3
  try clear hfz27_4
  try clear hfz27_5
  try clear hfz27_6
  obtain ⟨kq, x33_4, rfl, HA, HJ4, HO_0, HO_362003, HO_362006, BK361, HB⟩:=hcut
  cases kq with
  | zero => exact absurd HA.out (by simp [depotlaw20_VariantFirst.j0])
  | succ kj4 =>
   have H:=HA.out
   clear HA
   simp only [depotlaw20_VariantFirst.j0] at H
   by_cases c33 : x33_4 = true
   ·subst c33
    have H1 : ((depotlaw20_variants.f kj4).bind fun t369 => (some t369)) = some r:=by rw [if_pos rfl] at H; exact H
    clear H
    have H:=H1
    clear H1
    replace H:=Option.bind_eq_some_iff.mp H
    obtain ⟨t369, A340, H⟩:=H
    replace H : (some t369) = some r:=H
    have A34:=Aside0.mk A340
    clear A340
    obtain rfl:=Option.some.inj H
    go_wp2_with (first | ((with_reducible refine gate_callee (f:=10) rfl ?_); refine goesL_ (some 34) rfl rfl Tryd.func10 (by kernel_rfl) rfl #[] rfl (by (try simp only [List.map_toArray, List.map_cons, List.map_nil]); first | done | rfl | (simp only [List.length_drop, List.length_take]; rfl)) ?_; (with_reducible refine (depotlaw20_variants.calls kj4  t369 _ ?side2 ?side1 A34.out).mono ?_); (case side1 => first | exact HT | exact ⟨Hand.Laid.below HT.out (by repeat (first | (with_reducible first | exact HB.out | apply below_alloc | apply pw_below_drewN | apply below_drew1 | refine below_set ?_ GE361.out) | exact HB.out))⟩); (case side2 => first | exact ⟨rfl⟩ | exact HTRUE); rintro e w35 ⟨rfl, hb⟩; refine ⟨_, rfl, ?_⟩; have n0_:=Aside0.mk (Kd.V_below (by (with_reducible repeat (first | apply Kd.V_alloc | apply Kd.V_drewN | apply Kd.V_drew)); exact HO_0.out) hb); have n1_:=Aside0.mk (Kd.V_below (by (with_reducible repeat (first | apply Kd.V_alloc | apply Kd.V_drewN | apply Kd.V_drew)); exact HO_362003.out) hb); have n2_:=Aside0.mk (Kd.V_below (by (with_reducible repeat (first | apply Kd.V_alloc | apply Kd.V_drewN | apply Kd.V_drew)); exact HO_362006.out) hb); have n3_:=Aside0.mk (blk_below (g:=gb361) (o:=.cells #[.int .i64 a1_0, .string a1_1, .int .i64 a1_2, .slice A1_3 l1_3.length c1_3, .string a1_4, .int .i64 a1_5, .slice A1_6 l1_6.length c1_6] 28 (0, 0)) (by (with_reducible repeat (first | refine blk_drewN ?_ _ | refine blk_drew ?_ | refine blk_alloc ?_ _)); exact BK361.out) hb); have n4_:=Aside0.mk (below_step (by repeat (first | (with_reducible first | exact HB.out | apply below_alloc | apply pw_below_drewN | apply below_drew1 | refine below_set ?_ GE361.out) | exact HB.out)) hb); clear HO_0; clear HO_362003; clear HO_362006; clear BK361; clear HB; have HO_0:=n0_; have HO_362003:=n1_; have HO_362006:=n2_; have BK361:=n3_; have HB:=n4_; clear n0_ n1_ n2_ n3_ n4_; (try clear hb); (try clear hb2); (try clear hk); (try clear hi)))
    go_ret
    exact ⟨by first | rfl | (simp [errW_none, errW_some] <;> rfl) | (simp [*, errW_none, errW_some] <;> rfl), by repeat (first | (with_reducible first | exact HB.out | apply below_alloc | apply pw_below_drewN | apply below_drew1 | refine below_set ?_ GE361.out) | exact HB.out)⟩
   ·replace c33:=Bool.eq_false_iff.mpr c33
    subst c33
    have H1 : (depotlaw20_VariantFirst.l0 kj4 l0 l2 l3 ([] : List ByteArray) 0 a1_0 a1_1 a1_2 l1_3 a1_4 a1_5 l1_6) = some r:=by rw [if_neg (show ¬ (false = true) by decide)] at H; exact H
    clear H
    have H:=H1
    clear H1
    have H':=Aside0.mk H
    clear H
    go_wp2
    go_loopg [9, 10] kj4 (fun kq v9 v10 w' => ∃ (x9_2 : List ByteArray) (x10_2 : Int), v10 = .int .i64 x10_2 ∧ Aside0 (depotlaw20_VariantFirst.l0 kq l0 l2 l3 x9_2 x10_2 a1_0 a1_1 a1_2 l1_3 a1_4 a1_5 l1_6 = some r) ∧ Aside0 (kq ≤ kj4) ∧ Aside0 (Kd.V k28 28 w' w.heap.size (fun k_ => ((P0_ k_ ∨ P1_3_ k_ ∨ P1_6_ k_) ∨ w.heap.size ≤ k_) ∧ some k_ ≠ (v9 : Value).ownBlock ∧ k_ ≠ gb361) (.slice A0 l0.length c0) l0) ∧ Aside0 (Kd.R Kd.string 9 w' w.heap.size (fun k_ => (w.heap.size ≤ k_)) v9 x9_2) ∧ Aside0 (Kd.V k62 62 w' w.heap.size (fun k_ => ((P0_ k_ ∨ P1_3_ k_ ∨ P1_6_ k_) ∨ w.heap.size ≤ k_) ∧ some k_ ≠ (v9 : Value).ownBlock ∧ k_ ≠ gb361) (.slice A1_3 l1_3.length c1_3) l1_3) ∧ Aside0 (Kd.V k53 53 w' w.heap.size (fun k_ => ((P0_ k_ ∨ P1_3_ k_ ∨ P1_6_ k_) ∨ w.heap.size ≤ k_) ∧ some k_ ≠ (v9 : Value).ownBlock ∧ k_ ≠ gb361) (.slice A1_6 l1_6.length c1_6) l1_6) ∧ Aside0 (w'.heap[gb361]? = some (.cells #[.int .i64 a1_0, .string a1_1, .int .i64 a1_2, (.slice A1_3 l1_3.length c1_3), .string a1_4, .int .i64 a1_5, (.slice A1_6 l1_6.length c1_6)] 28 (0, 0))) ∧ Aside0 (Below w.heap.size w w'))
    case atStart => exact ⟨(([] : List ByteArray)), (0), (by first | rfl | (simp; done) | (simp [*]; done) | (simp; exact Hand.isEmpty_ne _)), H', ⟨Nat.le_refl _⟩, ⟨by (with_reducible repeat (first | apply Kd.V_alloc | apply Kd.V_drewN | apply Kd.V_drew)); exact Kd.V_mono HO_0.out (fun _ hk => ⟨hk.1, ⟨(by simp [Value.ownBlock]), hk.2⟩⟩)⟩, ⟨by first | exact Kd.R_nil _ _ _ _ _ | exact Kd.N_nil _ _ _ _ _ | exact Kd.V_nil _ _ _ _ _ | exact Kd.Q_nil _ _ _ _ _ | exact Kd.S_nil _ _ _ _ _⟩, ⟨by (with_reducible repeat (first | apply Kd.V_alloc | apply Kd.V_drewN | apply Kd.V_drew)); exact Kd.V_mono HO_362003.out (fun _ hk => ⟨hk.1, ⟨(by simp [Value.ownBlock]), hk.2⟩⟩)⟩, ⟨by (with_reducible repeat (first | apply Kd.V_alloc | apply Kd.V_drewN | apply Kd.V_drew)); exact Kd.V_mono HO_362006.out (fun _ hk => ⟨hk.1, ⟨(by simp [Value.ownBlock]), hk.2⟩⟩)⟩, ⟨by (with_reducible repeat (first | refine blk_drewN ?_ _ | refine blk_drew ?_ | refine blk_alloc ?_ _)); exact BK361.out⟩, ⟨by repeat (first | (with_reducible first | exact HB.out | apply below_alloc | apply pw_below_drewN | apply below_drew1 | refine below_set ?_ GE361.out) | exact HB.out)⟩⟩
    case round =>
     clear H'
     try clear c1
     try clear c2
     try clear p2
     try clear c3
     try clear c7
     try clear c8
     try clear c10
     try clear c12
     try clear c33
     try clear hcz15_0
     try clear hcz15_1
     try clear hcz15_2
     try clear hcz15_3
     try clear hcz15_4
     try clear hcz15_5
     try clear hcz15_6
     try clear hcz21_0
     try clear hcz21_1
     try clear hcz21_2
     try clear hcz21_3
     try clear hcz21_4
     try clear hcz21_5
     try clear hcz21_6
     try clear hcz27_0
     try clear hcz27_1
     try clear hcz27_2
     try clear hcz27_3
     try clear hcz27_4
     try clear hcz27_5
     try clear hcz27_6
     try clear hfz15_0
     try clear hfz15_1
     try clear hfz15_2
     try clear hfz15_3
     try clear hfz15_4
     try clear hfz15_5
     try clear hfz15_6
     try clear hfz21_0
     try clear hfz21_1
     try clear hfz21_2
     try clear hfz21_3
     try clear hfz21_4
     try clear hfz21_5
     try clear hfz21_6
     try clear hfz27_0
     try clear hfz27_1
     try clear hfz27_2
     try clear hfz27_3
     try clear hfz27_4
     try clear hfz27_5
     try clear hfz27_6
     try clear p2
     obtain ⟨x9_2, x10_2, rfl, HA, HK2, HO_0, HO_9, HO_362003, HO_362006, BK361, HB⟩:=hrel
     cases gk with
     | zero => exact absurd HA.out (by simp [depotlaw20_VariantFirst.l0])
     | succ k2 =>
      have H:=HA.out
      clear HA
      simp only [depotlaw20_VariantFirst.l0] at H
      by_cases c36 : x10_2 < (l1_6.length : Int)
      ·rw [if_pos c36] at H
       have c36b0 : decide (x10_2 < (l1_6.length : Int)) = true:=decide_eq_true c36
       clear c36
       by_cases c37 : 0 ≤ x10_2
       ·rw [if_pos c37] at H
        have c37b0 : decide (0 ≤ x10_2) = true:=decide_eq_true c37
        clear c37
        by_cases c38 : x9_2.length < 8796093022208
        ·rw [if_pos c38] at H
         have LMc38:=Aside0.mk c38
         clear c38
         obtain ⟨y371, hy371⟩ : ∃ y_ : List ByteArray, y_ = (x9_2 ++ [(rd_T53 l1_6 x10_2).f0]):=⟨_, rfl⟩
         replace H : (depotlaw20_VariantFirst.l0 k2 l0 l2 l3 y371 (wrap64 (x10_2 + 1)) a1_0 a1_1 a1_2 l1_3 a1_4 a1_5 l1_6) = some r:=by first | (rw [hy371]; with_reducible exact H) | (have H2_:=(Option.bind_some _ _).symm.trans H; rw [hy371]; with_reducible exact H2_) | (have H2_:=(Option.bind_some _ _).symm.trans H; with_reducible exact H2_) | with_reducible exact H | (rw [hy371]; exact H) | exact H
         have Ny371:=Aside0.mk hy371
         clear hy371
         have H':=Aside0.mk H
         clear H
         have hcz39_0 : wr.cell? ⟨gb361, 0, none⟩ = some (.int .i64 a1_0):=(blk_cell BK361.out 0).trans rfl
         have hcz39_1 : wr.cell? ⟨gb361, 1, none⟩ = some (.string a1_1):=(blk_cell BK361.out 1).trans rfl
         have hcz39_2 : wr.cell? ⟨gb361, 2, none⟩ = some (.int .i64 a1_2):=(blk_cell BK361.out 2).trans rfl
         have hcz39_3 : wr.cell? ⟨gb361, 3, none⟩ = some (.slice A1_3 l1_3.length c1_3):=(blk_cell BK361.out 3).trans rfl
         have hcz39_4 : wr.cell? ⟨gb361, 4, none⟩ = some (.string a1_4):=(blk_cell BK361.out 4).trans rfl
         have hcz39_5 : wr.cell? ⟨gb361, 5, none⟩ = some (.int .i64 a1_5):=(blk_cell BK361.out 5).trans rfl
         have hcz39_6 : wr.cell? ⟨gb361, 6, none⟩ = some (.slice A1_6 l1_6.length c1_6):=(blk_cell BK361.out 6).trans rfl
         have hfz39_0:=blk_frozen BK361.out 0
         have hfz39_1:=blk_frozen BK361.out 1
         have hfz39_2:=blk_frozen BK361.out 2
         have hfz39_3:=blk_frozen BK361.out 3
         have hfz39_4:=blk_frozen BK361.out 4
         have hfz39_5:=blk_frozen BK361.out 5
         have hfz39_6:=blk_frozen BK361.out 6
         have p370 : 0 ≤ (x10_2 : Int):=of_decide_eq_true (by first | (with_reducible assumption) | assumption)
         have q370 : x10_2 < (l1_6.length : Int):=of_decide_eq_true (by first | (with_reducible assumption) | assumption)
         obtain ⟨ad370, e370, hx370_0, hx370_1, hx370_2⟩:=at_T53 (Kd.V_reads' HO_362006.out).2.2 x10_2 p370 q370
         cases e370
         replace p370:=eq_true p370
         replace q370:=eq_true q370
         go_wp2_with (first | ((with_reducible refine gate_builtin (b:=.append) (xs:=#[.tmp 42, .tmp 49]) rfl ?_); (try (refine gate_guard (by rfl) ?_; dsimp only)); at_builtin; refine Kd.R_append Kd.string (w0:=w) w.heap.size rfl (.tmp 42) (.tmp 49) 51 9 (.string ⟨#[]⟩) 16 rfl Tryd.underlying51 info9 rfl (by decide) (by omega) u9 x9_2 ((rd_T53 l1_6 x10_2).f0) [.string ((rd_T53 l1_6 x10_2).f0)] (fun k_ => (w.heap.size ≤ k_)) (fun _ => False) rfl rfl ?aP (fun _ hk => hk.elim) ?aF ?aO ?aB ?aS ?aL ?_; (case aP => exact rfl); (case aB => exact (by repeat (first | (with_reducible first | exact HB.out | apply below_alloc | apply pw_below_drewN | apply below_drew1 | refine below_set ?_ GE361.out) | exact HB.out))); (case aF => exact (fun k_ hk => (Nat.le_trans (below_size (by repeat (first | (with_reducible first | exact HB.out | apply below_alloc | apply pw_below_drewN | apply below_drew1 | refine below_set ?_ GE361.out) | exact HB.out))) hk))); (case aO => exact (by (with_reducible repeat (first | apply Kd.R_alloc | apply Kd.R_drewN | apply Kd.R_drew)); exact HO_9.out)); (case aS => exact (below_size (by repeat (first | (with_reducible first | exact HB.out | apply below_alloc | apply pw_below_drewN | apply below_drew1 | refine below_set ?_ GE361.out) | exact HB.out)))); (case aL => have:=LMc38.out; omega); intro v372 w40 ho hb hg hat; rw [← Ny371.out] at ho; have n0_:=Aside0.mk (Kd.V_afterv (ok:=(fun k_ => ((P0_ k_ ∨ P1_3_ k_ ∨ P1_6_ k_) ∨ w.heap.size ≤ k_) ∧ k_ ≠ gb361)) (by (with_reducible repeat (first | apply Kd.V_alloc | apply Kd.V_drewN | apply Kd.V_drew)); exact Kd.V_mono HO_0.out (fun _ hk => ⟨⟨hk.1, hk.2.2⟩, hk.2.1⟩)) hg hat); have n1_:=Aside0.mk (Kd.V_afterv (ok:=(fun k_ => ((P0_ k_ ∨ P1_3_ k_ ∨ P1_6_ k_) ∨ w.heap.size ≤ k_) ∧ k_ ≠ gb361)) (by (with_reducible repeat (first | apply Kd.V_alloc | apply Kd.V_drewN | apply Kd.V_drew)); exact Kd.V_mono HO_362003.out (fun _ hk => ⟨⟨hk.1, hk.2.2⟩, hk.2.1⟩)) hg hat); have n2_:=Aside0.mk (Kd.V_afterv (ok:=(fun k_ => ((P0_ k_ ∨ P1_3_ k_ ∨ P1_6_ k_) ∨ w.heap.size ≤ k_) ∧ k_ ≠ gb361)) (by (with_reducible repeat (first | apply Kd.V_alloc | apply Kd.V_drewN | apply Kd.V_drew)); exact Kd.V_mono HO_362006.out (fun _ hk => ⟨⟨hk.1, hk.2.2⟩, hk.2.1⟩)) hg hat); have n3_:=Aside0.mk (blk_grown (g:=gb361) (o:=.cells #[.int .i64 a1_0, .string a1_1, .int .i64 a1_2, .slice A1_3 l1_3.length c1_3, .string a1_4, .int .i64 a1_5, .slice (some ad370) l1_6.length c1_6] 28 (0, 0)) (by (with_reducible repeat (first | refine blk_drewN ?_ _ | refine blk_drew ?_ | refine blk_alloc ?_ _)); exact BK361.out) hg (Kd.R_ne HO_9.out BK361.out (by decide))); have n4_:=Aside0.mk (hb); have n5_:=Aside0.mk (ho); clear HO_0; clear HO_362003; clear HO_362006; clear BK361; clear HB; clear HO_9; have HO_0:=n0_; have HO_362003:=n1_; have HO_362006:=n2_; have BK361:=n3_; have HB:=n4_; have HO373:=n5_; clear n0_ n1_ n2_ n3_ n4_ n5_; clear ho hb hg hat))
         go_roundg k2
         case measure => have:=HJ4.out; have:=HK2.out; omega
         case rel => exact ⟨(y371), (wrap64 (x10_2 + 1)), (by first | rfl | (simp; done) | (simp [*]; done) | (simp; exact Hand.isEmpty_ne _)), H', ⟨by have:=HJ4.out; have:=HK2.out; omega⟩, ⟨by (with_reducible repeat (first | apply Kd.V_alloc | apply Kd.V_drewN | apply Kd.V_drew)); exact Kd.V_mono HO_0.out (fun _ hk => ⟨hk.1.1, ⟨hk.2, hk.1.2⟩⟩)⟩, ⟨by (with_reducible repeat (first | apply Kd.R_alloc | apply Kd.R_drewN | apply Kd.R_drew)); exact HO373.out⟩, ⟨by (with_reducible repeat (first | apply Kd.V_alloc | apply Kd.V_drewN | apply Kd.V_drew)); exact Kd.V_mono HO_362003.out (fun _ hk => ⟨hk.1.1, ⟨hk.2, hk.1.2⟩⟩)⟩, ⟨by (with_reducible repeat (first | apply Kd.V_alloc | apply Kd.V_drewN | apply Kd.V_drew)); exact Kd.V_mono HO_362006.out (fun _ hk => ⟨hk.1.1, ⟨hk.2, hk.1.2⟩⟩)⟩, ⟨by (with_reducible repeat (first | refine blk_drewN ?_ _ | refine blk_drew ?_ | refine blk_alloc ?_ _)); exact BK361.out⟩, ⟨by repeat (first | (with_reducible first | exact HB.out | apply below_alloc | apply pw_below_drewN | apply below_drew1 | refine below_set ?_ GE361.out) | exact HB.out)⟩⟩
        ·rw [if_neg c38] at H
         exact absurd H (by simp)
       ·rw [if_neg c37] at H
        exact absurd H (by simp)
      ·rw [if_neg c36] at H
       have c36b0 : decide (x10_2 < (l1_6.length : Int)) = false:=decide_eq_false c36
       clear c36
       replace H:=Option.bind_eq_some_iff.mp H
       obtain ⟨t374, A410, H⟩:=H
       try dsimp only at H
       have A41:=Aside0.mk A410
       clear A410
       replace H:=Option.bind_eq_some_iff.mp H
       obtain ⟨t377, A420, H⟩:=H
       try dsimp only at H
       have A42:=Aside0.mk A420
       clear A420
       have HC43:=Aside0.mk H
       clear H
       have hcz44_0 : wr.cell? ⟨gb361, 0, none⟩ = some (.int .i64 a1_0):=(blk_cell BK361.out 0).trans rfl
       have hcz44_1 : wr.cell? ⟨gb361, 1, none⟩ = some (.string a1_1):=(blk_cell BK361.out 1).trans rfl
       have hcz44_2 : wr.cell? ⟨gb361, 2, none⟩ = some (.int .i64 a1_2):=(blk_cell BK361.out 2).trans rfl
       have hcz44_3 : wr.cell? ⟨gb361, 3, none⟩ = some (.slice A1_3 l1_3.length c1_3):=(blk_cell BK361.out 3).trans rfl
       have hcz44_4 : wr.cell? ⟨gb361, 4, none⟩ = some (.string a1_4):=(blk_cell BK361.out 4).trans rfl
       have hcz44_5 : wr.cell? ⟨gb361, 5, none⟩ = some (.int .i64 a1_5):=(blk_cell BK361.out 5).trans rfl
       have hcz44_6 : wr.cell? ⟨gb361, 6, none⟩ = some (.slice A1_6 l1_6.length c1_6):=(blk_cell BK361.out 6).trans rfl
       have hfz44_0:=blk_frozen BK361.out 0
       have hfz44_1:=blk_frozen BK361.out 1
       have hfz44_2:=blk_frozen BK361.out 2
       have hfz44_3:=blk_frozen BK361.out 3
       have hfz44_4:=blk_frozen BK361.out 4
       have hfz44_5:=blk_frozen BK361.out 5
       have hfz44_6:=blk_frozen BK361.out 6
       obtain ⟨Ao45, co45, eo45⟩:=Kd.R_slice HO_9.out
       subst eo45
       go_upto_region 10 with (first | ((with_reducible refine gate_callee (f:=23) rfl ?_); refine goesL_ (some 53) rfl rfl Tryd.func23 (by kernel_rfl) rfl #[.slice Ao45 x9_2.length co45, .slice A2 l2.length c2] rfl (by (try simp only [List.map_toArray, List.map_cons, List.map_nil]); first | done | rfl | (simp only [List.length_drop, List.length_take]; rfl)) ?_; (with_reducible refine (vary_Picks.calls k2 _ _ x9_2 _ _ l2 t374 _ ?side5 ?side1 ?side2 ?side3 ?side4 A41.out).mono ?_); (case side1 => repeat (first | exact (Kd.R_reads' HO_9.out).2.2 | (with_reducible first | refine Kd.C_alloc ?_ _ | refine Kd.C_drewN ?_ _ | refine Kd.C_drew ?_))); (case side2 => exact (Kd.R_reads' HO_9.out).2.1); (case side3 => repeat (first | exact (Kd.C_below HR2.out HB.out) | (with_reducible first | refine Kd.C_alloc ?_ _ | refine Kd.C_drewN ?_ _ | refine Kd.C_drew ?_))); (case side4 => exact HC2.out); (case side5 => first | exact HT | exact ⟨Hand.Laid.below HT.out (by repeat (first | (with_reducible first | exact HB.out | apply below_alloc | apply pw_below_drewN | apply below_drew1 | refine below_set ?_ GE361.out) | exact HB.out))⟩); rintro e w46 ⟨v375, rfl, ho0, hb⟩; refine ⟨_, rfl, ?_⟩; have n0_:=Aside0.mk (Kd.V_elder' (by (with_reducible repeat (first | apply Kd.V_alloc | apply Kd.V_drewN | apply Kd.V_drew)); exact HO_0.out) (Kd.R_base ho0) hb); have n1_:=Aside0.mk (Kd.R_below (by (with_reducible repeat (first | apply Kd.R_alloc | apply Kd.R_drewN | apply Kd.R_drew)); exact HO_9.out) hb); have n2_:=Aside0.mk (Kd.V_elder' (by (with_reducible repeat (first | apply Kd.V_alloc | apply Kd.V_drewN | apply Kd.V_drew)); exact HO_362003.out) (Kd.R_base ho0) hb); have n3_:=Aside0.mk (Kd.V_elder' (by (with_reducible repeat (first | apply Kd.V_alloc | apply Kd.V_drewN | apply Kd.V_drew)); exact HO_362006.out) (Kd.R_base ho0) hb); have n4_:=Aside0.mk (Kd.R_lower (Kd.R_newM (M:=fun k_ => (w.heap.size ≤ k_)) ho0 (below_size (by repeat (first | (with_reducible first | exact HB.out | apply below_alloc | apply pw_below_drewN | apply below_drew1 | refine below_set ?_ GE361.out) | exact HB.out))) (fun k_ h_ => h_)) (below_size (by repeat (first | (with_reducible first | exact HB.out | apply below_alloc | apply pw_below_drewN | apply below_drew1 | refine below_set ?_ GE361.out) | exact HB.out)))); have n5_:=Aside0.mk (blk_below (g:=gb361) (o:=.cells #[.int .i64 a1_0, .string a1_1, .int .i64 a1_2, .slice A1_3 l1_3.length c1_3, .string a1_4, .int .i64 a1_5, .slice A1_6 l1_6.length c1_6] 28 (0, 0)) (by (with_reducible repeat (first | refine blk_drewN ?_ _ | refine blk_drew ?_ | refine blk_alloc ?_ _)); exact BK361.out) hb); have n6_:=Aside0.mk (below_step (by repeat (first | (with_reducible first | exact HB.out | apply below_alloc | apply pw_below_drewN | apply below_drew1 | refine below_set ?_ GE361.out) | exact HB.out)) hb); clear HO_0; clear HO_9; clear HO_362003; clear HO_362006; clear BK361; clear HB; have HO_0:=n0_; have HO_9:=n1_; have HO_362003:=n2_; have HO_362006:=n3_; have HO376:=n4_; have BK361:=n5_; have HB:=n6_; clear n0_ n1_ n2_ n3_ n4_ n5_ n6_; (try clear hb); (try clear hb2); (try clear hk); (try clear hi); (try clear ho0); obtain ⟨Ao47, co47, eo47⟩:=Kd.R_slice HO376.out; subst eo47; have hcz48_0 : w46.cell? ⟨gb361, 0, none⟩ = some (.int .i64 a1_0):=(blk_cell BK361.out 0).trans rfl; have hcz48_1 : w46.cell? ⟨gb361, 1, none⟩ = some (.string a1_1):=(blk_cell BK361.out 1).trans rfl; have hcz48_2 : w46.cell? ⟨gb361, 2, none⟩ = some (.int .i64 a1_2):=(blk_cell BK361.out 2).trans rfl; have hcz48_3 : w46.cell? ⟨gb361, 3, none⟩ = some (.slice A1_3 l1_3.length c1_3):=(blk_cell BK361.out 3).trans rfl; have hcz48_4 : w46.cell? ⟨gb361, 4, none⟩ = some (.string a1_4):=(blk_cell BK361.out 4).trans rfl; have hcz48_5 : w46.cell? ⟨gb361, 5, none⟩ = some (.int .i64 a1_5):=(blk_cell BK361.out 5).trans rfl; have hcz48_6 : w46.cell? ⟨gb361, 6, none⟩ = some (.slice A1_6 l1_6.length c1_6):=(blk_cell BK361.out 6).trans rfl; have hfz48_0:=blk_frozen BK361.out 0; have hfz48_1:=blk_frozen BK361.out 1; have hfz48_2:=blk_frozen BK361.out 2; have hfz48_3:=blk_frozen BK361.out 3; have hfz48_4:=blk_frozen BK361.out 4; have hfz48_5:=blk_frozen BK361.out 5; have hfz48_6:=blk_frozen BK361.out 6) | ((with_reducible refine gate_store (t:=26) (p:=54) rfl ?_); refine store_event (t:=26) (p:=54) (v:=?vo_w49) (w1:=(w46.setCell ⟨gb361, 6, none⟩ (.slice Ao47 t374.length co47))) ?hg ?ho ?hn ?hr ?_; (case ho => rfl); (case hg => rfl); (case hn => rfl); (case hr => first | (go_simp; done) | (go_simp; rfl)); intro w49 hw; have n0_ : Aside0 (Kd.V k28 28 w49 w.heap.size (fun k_ => ((P0_ k_ ∨ P1_3_ k_ ∨ P1_6_ k_) ∨ w.heap.size ≤ k_) ∧ some k_ ≠ (.slice Ao45 x9_2.length co45 : Value).ownBlock ∧ some k_ ≠ (.slice Ao47 t374.length co47 : Value).ownBlock ∧ k_ ≠ gb361) (.slice A0 l0.length c0) l0):=⟨(by rw [hw]; exact (by (with_reducible repeat (first | apply Kd.V_alloc | apply Kd.V_drewN | apply Kd.V_drew)); exact Kd.V_mono (Kd.V_far (p:=⟨gb361, 6, none⟩) (Kd.V_mono HO_0.out (fun k_ hk => (⟨hk, hk.1.2.2⟩ : _ ∧ k_ ≠ gb361))) (fun _ hk => hk.2) (.slice Ao47 t374.length co47)) (fun _ hk => ⟨hk.1.1.1, ⟨hk.1.1.2.1, ⟨hk.1.2, hk.1.1.2.2⟩⟩⟩)))⟩; have n1_ : Aside0 (Kd.R Kd.string 9 w49 w.heap.size (fun k_ => (w.heap.size ≤ k_)) (.slice Ao45 x9_2.length co45) x9_2):=⟨(by rw [hw]; exact (by (with_reducible repeat (first | apply Kd.R_alloc | apply Kd.R_drewN | apply Kd.R_drew)); exact Kd.R_mono (Kd.R_far (p:=⟨gb361, 6, none⟩) (Kd.R_types HO_9.out BK361.out (by decide)) (fun _ hk => hk.2) (.slice Ao47 t374.length co47)) (fun _ hk => hk.1)))⟩; have n2_ : Aside0 (Kd.V k62 62 w49 w.heap.size (fun k_ => ((P0_ k_ ∨ P1_3_ k_ ∨ P1_6_ k_) ∨ w.heap.size ≤ k_) ∧ some k_ ≠ (.slice Ao45 x9_2.length co45 : Value).ownBlock ∧ some k_ ≠ (.slice Ao47 t374.length co47 : Value).ownBlock ∧ k_ ≠ gb361) (.slice A1_3 l1_3.length c1_3) l1_3):=⟨(by rw [hw]; exact (by (with_reducible repeat (first | apply Kd.V_alloc | apply Kd.V_drewN | apply Kd.V_drew)); exact Kd.V_mono (Kd.V_far (p:=⟨gb361, 6, none⟩) (Kd.V_mono HO_362003.out (fun k_ hk => (⟨hk, hk.1.2.2⟩ : _ ∧ k_ ≠ gb361))) (fun _ hk => hk.2) (.slice Ao47 t374.length co47)) (fun _ hk => ⟨hk.1.1.1, ⟨hk.1.1.2.1, ⟨hk.1.2, hk.1.1.2.2⟩⟩⟩)))⟩; have n3_ : Aside0 (Kd.V k53 53 w49 w.heap.size (fun k_ => ((P0_ k_ ∨ P1_3_ k_ ∨ P1_6_ k_) ∨ w.heap.size ≤ k_) ∧ some k_ ≠ (.slice Ao45 x9_2.length co45 : Value).ownBlock ∧ some k_ ≠ (.slice Ao47 t374.length co47 : Value).ownBlock ∧ k_ ≠ gb361) (.slice A1_6 l1_6.length c1_6) l1_6):=⟨(by rw [hw]; exact (by (with_reducible repeat (first | apply Kd.V_alloc | apply Kd.V_drewN | apply Kd.V_drew)); exact Kd.V_mono (Kd.V_far (p:=⟨gb361, 6, none⟩) (Kd.V_mono HO_362006.out (fun k_ hk => (⟨hk, hk.1.2.2⟩ : _ ∧ k_ ≠ gb361))) (fun _ hk => hk.2) (.slice Ao47 t374.length co47)) (fun _ hk => ⟨hk.1.1.1, ⟨hk.1.1.2.1, ⟨hk.1.2, hk.1.1.2.2⟩⟩⟩)))⟩; have n4_ : Aside0 (Kd.R k53 53 w49 w.heap.size (fun k_ => (w.heap.size ≤ k_)) (.slice Ao47 t374.length co47) t374):=⟨(by rw [hw]; exact (by (with_reducible repeat (first | apply Kd.R_alloc | apply Kd.R_drewN | apply Kd.R_drew)); exact Kd.R_mono (Kd.R_far (p:=⟨gb361, 6, none⟩) (Kd.R_types HO376.out BK361.out (by decide)) (fun _ hk => hk.2) (.slice Ao47 t374.length co47)) (fun _ hk => hk.1.1)))⟩; have n5_ : Aside0 (w49.heap[gb361]? = some (.cells #[.int .i64 a1_0, .string a1_1, .int .i64 a1_2, .slice A1_3 l1_3.length c1_3, .string a1_4, .int .i64 a1_5, .slice Ao47 t374.length co47] 28 (0, 0))):=⟨(by rw [hw]; exact (by (with_reducible repeat (first | refine blk_drewN ?_ _ | refine blk_drew ?_ | refine blk_alloc ?_ _)); refine blk_put (cs:=#[.int .i64 a1_0, .string a1_1, .int .i64 a1_2, .slice A1_3 l1_3.length c1_3, .string a1_4, .int .i64 a1_5, .slice A1_6 l1_6.length c1_6]) ?_ 6 _ rfl; (with_reducible repeat (first | refine blk_drewN ?_ _ | refine blk_drew ?_ | refine blk_alloc ?_ _)); exact BK361.out))⟩; have n6_ : Aside0 (Below w.heap.size w w49):=⟨(by rw [hw]; exact (by repeat (first | (with_reducible first | exact HB.out | apply below_alloc | apply pw_below_drewN | apply below_drew1 | refine below_set ?_ GE361.out) | exact HB.out)))⟩; clear hw; clear HO_0; clear HO_9; clear HO_362003; clear HO_362006; clear HO376; clear BK361; clear HB; have HO_0:=n0_; have HO_9:=n1_; have HO_362003:=n2_; have HO_362006:=n3_; have HO376:=n4_; have BK361:=n5_; have HB:=n6_; clear n0_ n1_ n2_ n3_ n4_ n5_ n6_; have hcz50_0 : w49.cell? ⟨gb361, 0, none⟩ = some (.int .i64 a1_0):=(blk_cell BK361.out 0).trans rfl; have hcz50_1 : w49.cell? ⟨gb361, 1, none⟩ = some (.string a1_1):=(blk_cell BK361.out 1).trans rfl; have hcz50_2 : w49.cell? ⟨gb361, 2, none⟩ = some (.int .i64 a1_2):=(blk_cell BK361.out 2).trans rfl; have hcz50_3 : w49.cell? ⟨gb361, 3, none⟩ = some (.slice A1_3 l1_3.length c1_3):=(blk_cell BK361.out 3).trans rfl; have hcz50_4 : w49.cell? ⟨gb361, 4, none⟩ = some (.string a1_4):=(blk_cell BK361.out 4).trans rfl; have hcz50_5 : w49.cell? ⟨gb361, 5, none⟩ = some (.int .i64 a1_5):=(blk_cell BK361.out 5).trans rfl; have hcz50_6 : w49.cell? ⟨gb361, 6, none⟩ = some (.slice Ao47 t374.length co47):=(blk_cell BK361.out 6).trans rfl; have hfz50_0:=blk_frozen BK361.out 0; have hfz50_1:=blk_frozen BK361.out 1; have hfz50_2:=blk_frozen BK361.out 2; have hfz50_3:=blk_frozen BK361.out 3; have hfz50_4:=blk_frozen BK361.out 4; have hfz50_5:=blk_frozen BK361.out 5; have hfz50_6:=blk_frozen BK361.out 6) | ((with_reducible refine gate_callee (f:=14) rfl ?_); refine goesL_ (some 57) rfl rfl Tryd.func14 (by kernel_rfl) rfl #[.slice A0 l0.length c0, .agg #[.int .i64 a1_0, .string a1_1, .int .i64 a1_2, .slice A1_3 l1_3.length c1_3, .string a1_4, .int .i64 a1_5, .slice Ao47 t374.length co47]] rfl (by (try simp only [List.map_toArray, List.map_cons, List.map_nil]); first | done | rfl | (simp only [List.length_drop, List.length_take]; rfl)) ?_; (with_reducible refine (variant_Add.calls k2 (fun k_ => (((P0_ k_ ∨ P1_3_ k_ ∨ P1_6_ k_) ∨ w.heap.size ≤ k_) ∧ (some k_ ≠ (.slice Ao45 x9_2.length co45 : Value).ownBlock ∧ (some k_ ≠ (.slice Ao47 t374.length co47 : Value).ownBlock ∧ k_ ≠ gb361)))) _ _ l0 a1_0 a1_1 a1_2 (fun k_ => (((P0_ k_ ∨ P1_3_ k_ ∨ P1_6_ k_) ∨ w.heap.size ≤ k_) ∧ (some k_ ≠ (.slice Ao45 x9_2.length co45 : Value).ownBlock ∧ (some k_ ≠ (.slice Ao47 t374.length co47 : Value).ownBlock ∧ k_ ≠ gb361)))) _ _ l1_3 a1_4 a1_5 (fun k_ => some k_ = (.slice Ao47 t374.length co47 : Value).ownBlock) _ _ t374 t377 _ ?side1 ?side2 ?side3 A42.out).mono ?_); (case side1 => exact HO_0.out); (case side2 => exact HO_362003.out); (case side3 => exact Kd.R_V (Kd.R_tight rfl (Kd.R_types (Kd.R_apart' (HO376.out) (Kd.R_typed HO_9.out) (by decide)) BK361.out (by decide)))); rintro e w51 ⟨v378, rfl, ho0, hb⟩; refine ⟨_, rfl, ?_⟩; have n0_:=Aside0.mk (Kd.V_elder' (by (with_reducible repeat (first | apply Kd.V_alloc | apply Kd.V_drewN | apply Kd.V_drew)); exact HO_0.out) (Kd.N_base ho0) hb); have n1_:=Aside0.mk (Kd.R_below (by (with_reducible repeat (first | apply Kd.R_alloc | apply Kd.R_drewN | apply Kd.R_drew)); exact HO_9.out) hb); have n2_:=Aside0.mk (Kd.V_elder' (by (with_reducible repeat (first | apply Kd.V_alloc | apply Kd.V_drewN | apply Kd.V_drew)); exact HO_362003.out) (Kd.N_base ho0) hb); have n3_:=Aside0.mk (Kd.V_elder' (by (with_reducible repeat (first | apply Kd.V_alloc | apply Kd.V_drewN | apply Kd.V_drew)); exact HO_362006.out) (Kd.N_base ho0) hb); have n4_:=Aside0.mk (Kd.R_below (by (with_reducible repeat (first | apply Kd.R_alloc | apply Kd.R_drewN | apply Kd.R_drew)); exact HO376.out) hb); have n5_:=Aside0.mk (Kd.N_lower (Kd.N_mono (ok':=fun k_ => ((P0_ k_ ∨ P1_3_ k_ ∨ P1_6_ k_) ∨ w.heap.size ≤ k_) ∧ some k_ ≠ (.slice Ao45 x9_2.length co45 : Value).ownBlock ∧ k_ ≠ gb361) ho0 (fun k_ hk_ => ⟨Or.elim hk_ (fun hs_ => Or.elim hs_ (fun hs_ => hs_.1) (fun hs_ => Or.elim hs_ (fun hs_ => hs_.1) (fun hs_ => (.inr (((Kd.R_types (Kd.R_apart' (HO376.out) (Kd.R_typed HO_9.out) (by decide)) BK361.out (by decide)).1 k_ hs_.symm).1.1))))) (fun hn_ => (.inr (Nat.le_trans (below_size (by repeat (first | (with_reducible first | exact HB.out | apply below_alloc | apply pw_below_drewN | apply below_drew1 | refine below_set ?_ GE361.out) | exact HB.out))) hn_))), Or.elim hk_ (fun hs_ => Or.elim hs_ (fun hs_ => hs_.2.1) (fun hs_ => Or.elim hs_ (fun hs_ => hs_.2.1) (fun hs_ => ((Kd.R_types (Kd.R_apart' (HO376.out) (Kd.R_typed HO_9.out) (by decide)) BK361.out (by decide)).1 k_ hs_.symm).1.2))) (fun hn_ => (Kd.fresh' (Kd.R_lt (by (with_reducible repeat (first | apply Kd.R_alloc | apply Kd.R_drewN | apply Kd.R_drew)); exact HO_9.out)) k_ hn_)), Or.elim hk_ (fun hs_ => Or.elim hs_ (fun hs_ => hs_.2.2.2) (fun hs_ => Or.elim hs_ (fun hs_ => hs_.2.2.2) (fun hs_ => ((Kd.R_types (Kd.R_apart' (HO376.out) (Kd.R_typed HO_9.out) (by decide)) BK361.out (by decide)).1 k_ hs_.symm).2))) (fun hn_ => (Kd.freshB (g:=gb361) (o:=.cells #[.int .i64 a1_0, .string a1_1, .int .i64 a1_2, .slice A1_3 l1_3.length c1_3, .string a1_4, .int .i64 a1_5, .slice Ao47 t374.length co47] 28 (0, 0)) (by (with_reducible repeat (first | refine blk_drewN ?_ _ | refine blk_drew ?_ | refine blk_alloc ?_ _)); exact BK361.out) k_ hn_))⟩)) (below_size (by repeat (first | (with_reducible first | exact HB.out | apply below_alloc | apply pw_below_drewN | apply below_drew1 | refine below_set ?_ GE361.out) | exact HB.out)))); have n6_:=Aside0.mk (blk_below (g:=gb361) (o:=.cells #[.int .i64 a1_0, .string a1_1, .int .i64 a1_2, .slice A1_3 l1_3.length c1_3, .string a1_4, .int .i64 a1_5, .slice Ao47 t374.length co47] 28 (0, 0)) (by (with_reducible repeat (first | refine blk_drewN ?_ _ | refine blk_drew ?_ | refine blk_alloc ?_ _)); exact BK361.out) hb); have n7_:=Aside0.mk (below_step (by repeat (first | (with_reducible first | exact HB.out | apply below_alloc | apply pw_below_drewN | apply below_drew1 | refine below_set ?_ GE361.out) | exact HB.out)) hb); clear HO_0; clear HO_9; clear HO_362003; clear HO_362006; clear HO376; clear BK361; clear HB; have HO_0:=n0_; have HO_9:=n1_; have HO_362003:=n2_; have HO_362006:=n3_; have HO376:=n4_; have HO379:=n5_; have BK361:=n6_; have HB:=n7_; clear n0_ n1_ n2_ n3_ n4_ n5_ n6_ n7_; (try clear hb); (try clear hb2); (try clear hk); (try clear hi); (try clear ho0)))
       (try simp only [Act.put, List.setIfInBounds_toArray, List.set_cons_zero, List.set_cons_succ])
       go_cut [79] (fun v79 wc => ∃ (kq : Nat) (x79_42 : Bool), v79 = .bool x79_42 ∧ Aside0 (depotlaw20_VariantFirst.j2 kq l0 l3 t377 x79_42 a1_0 a1_1 a1_2 l1_3 a1_4 a1_5 t374 = some r) ∧ Aside0 (kq ≤ k2) ∧ Aside0 (Kd.V k28 28 wc w.heap.size (fun k_ => ((P0_ k_ ∨ P1_3_ k_ ∨ P1_6_ k_) ∨ w.heap.size ≤ k_) ∧ some k_ ≠ (v378 : Value).ownBlock ∧ some k_ ≠ ((.slice Ao47 t374.length co47) : Value).ownBlock ∧ k_ ≠ gb361) (.slice A0 l0.length c0) l0) ∧ Aside0 (Kd.N k28 28 wc w.heap.size (fun k_ => ((P0_ k_ ∨ P1_3_ k_ ∨ P1_6_ k_) ∨ w.heap.size ≤ k_) ∧ k_ ≠ gb361) v378 t377) ∧ Aside0 (Kd.V k62 62 wc w.heap.size (fun k_ => ((P0_ k_ ∨ P1_3_ k_ ∨ P1_6_ k_) ∨ w.heap.size ≤ k_) ∧ some k_ ≠ (v378 : Value).ownBlock ∧ some k_ ≠ ((.slice Ao47 t374.length co47) : Value).ownBlock ∧ k_ ≠ gb361) (.slice A1_3 l1_3.length c1_3) l1_3) ∧ Aside0 (Kd.R k53 53 wc w.heap.size (fun k_ => (w.heap.size ≤ k_)) (.slice Ao47 t374.length co47) t374) ∧ Aside0 (wc.heap[gb361]? = some (.cells #[.int .i64 a1_0, .string a1_1, .int .i64 a1_2, (.slice A1_3 l1_3.length c1_3), .string a1_4, .int .i64 a1_5, (.slice Ao47 t374.length co47)] 28 (0, 0))) ∧ Aside0 (Below w.heap.size w wc))
       case first =>
        have H:=HC43.out
        clear HC43
        by_cases c52 : (t377.length : Int) = 0
        ·rw [if_pos c52] at H
         have c52b0 : ((t377.length : Int) == 0) = true:=beq_iff_eq.mpr c52
         have c52b1 : ((t377.length : Int) != 0) = false:=bne_eq_false_iff_eq.mpr c52
         clear c52
         (first | rw [c52b0] | (simp only [i64_w, i32_w]; rw [c52b0]) | skip)
         have H':=Aside0.mk H
         clear H
         try go_wp2
         have n0_:=Aside0.mk (Kd.V_drew HO_0.out)
         have n1_:=Aside0.mk (Kd.R_drew HO_9.out)
         have n2_:=Aside0.mk (Kd.V_drew HO_362003.out)
         have n3_:=Aside0.mk (Kd.V_drew HO_362006.out)
         have n4_:=Aside0.mk (Kd.R_drew HO376.out)
         have n5_:=Aside0.mk (Kd.N_drew HO379.out)
         have n6_:=Aside0.mk (blk_drew BK361.out)
         have n7_:=Aside0.mk (below_drew1 HB.out)
         clear HO_0
         clear HO_9
         clear HO_362003
         clear HO_362006
         clear HO376
         clear HO379
         clear BK361
         clear HB
         have HO_0:=n0_
         have HO_9:=n1_
         have HO_362003:=n2_
         have HO_362006:=n3_
         have HO376:=n4_
         have HO379:=n5_
         have BK361:=n6_
         have HB:=n7_
         clear n0_ n1_ n2_ n3_ n4_ n5_ n6_ n7_
         obtain ⟨Ao54, co54, eo54⟩:=Kd.N_slice HO379.out
         (first | subst eo54 | (injection eo54 with f1_ f2_ f3_; have f4_:=f1_.symm; have f5_:=f3_.symm; clear f1_ f2_ f3_; subst f4_; subst f5_))
         refine start_ (n:=22) (S:=fun w' => True) (ds:=[]) #[false, false, false, false, false, false, false, false, false, false, false, false, false, false, false, false, false, false, false, false, false, false] (by kernel_rfl) rfl rfl trivial (fun hHeld => ?_); refine with_tabW depotlaw20_VariantFirst.tab10 depotlaw20_VariantFirst.bits10 (fun HT_ HW_ => ?_)
         generalize w51.drew = w53 at HO_0 HO_9 HO_362003 HO_362006 HO376 HO379 BK361 HB hHeld ⊢
         refine pure_ (i:=0) (N:=some 58) (v:=?_) (a':=?_) #[true, false, false, false, false, false, false, false, false, false, false, false, false, false, false, false, false, false, false, false, false, false] rfl rfl (any_of HT_.out (by kernel_rfl)) (fun _ _ _ h => h) (Or.inl ⟨by rfl, ?_⟩) ?_ ?_
         rotate_left
         ·intro w'
          go_simp
          with_reducible rfl
         rotate_left
         ·simp only [Act.put, List.setIfInBounds_toArray, List.set_cons_zero, List.set_cons_succ, i64_w, i32_w]
          rfl
         refine pure_ (i:=1) (N:=some 59) (v:=?_) (a':=?_) #[true, true, false, false, false, false, false, false, false, false, false, false, false, false, false, false, false, false, false, false, false, false] rfl rfl (any_of HT_.out (by kernel_rfl)) (fun _ _ _ h => h) (Or.inl ⟨by rfl, ?_⟩) ?_ ?_
         rotate_left
         ·intro w'
          go_simp
          with_reducible rfl
         rotate_left
         ·simp only [Act.put, List.setIfInBounds_toArray, List.set_cons_zero, List.set_cons_succ, i64_w, i32_w]
          rfl
         refine pure_ (i:=2) (N:=some 60) (v:=?_) (a':=?_) #[true, true, true, false, false, false, false, false, false, false, false, false, false, false, false, false, false, false, false, false, false, false] rfl rfl (any_of HT_.out (by kernel_rfl)) (fun _ _ _ h => h) (Or.inl ⟨by rfl, ?_⟩) ?_ ?_
         rotate_left
         ·intro w'
          go_simp
          with_reducible rfl
         rotate_left
         ·simp only [Act.put, List.setIfInBounds_toArray, List.set_cons_zero, List.set_cons_succ, i64_w, i32_w]
          rfl
         refine pure_ (i:=3) (N:=some 61) (v:=?_) (a':=?_) #[true, true, true, true, false, false, false, false, false, false, false, false, false, false, false, false, false, false, false, false, false, false] rfl rfl (any_of HT_.out (by kernel_rfl)) (fun _ _ _ h => h) (Or.inl ⟨by rfl, ?_⟩) ?_ ?_
         rotate_left
         ·intro w'
          go_simp
          with_reducible rfl
         rotate_left
         ·simp only [Act.put, List.setIfInBounds_toArray, List.set_cons_zero, List.set_cons_succ, i64_w, i32_w]
          rfl
         refine pure_ (i:=4) (N:=some 62) (v:=undef) (a':=?_) #[true, true, true, true, true, false, false, false, false, false, false, false, false, false, false, false, false, false, false, false, false, false] rfl rfl (any_of HT_.out (by kernel_rfl)) (fun _ _ _ h => h) (Or.inr ⟨by rfl, rfl⟩) ?_ ?_
         rotate_left
         ·simp only [Act.put, List.setIfInBounds_toArray, List.set_cons_zero, List.set_cons_succ, i64_w, i32_w]
          rfl
         refine pure_ (i:=5) (N:=some 63) (v:=undef) (a':=?_) #[true, true, true, true, true, true, false, false, false, false, false, false, false, false, false, false, false, false, false, false, false, false] rfl rfl (any_of HT_.out (by kernel_rfl)) (fun _ _ _ h => h) (Or.inr ⟨by rfl, rfl⟩) ?_ ?_
         rotate_left
         ·simp only [Act.put, List.setIfInBounds_toArray, List.set_cons_zero, List.set_cons_succ, i64_w, i32_w]
          rfl
         refine pure_ (i:=6) (N:=some 64) (v:=undef) (a':=?_) #[true, true, true, true, true, true, true, false, false, false, false, false, false, false, false, false, false, false, false, false, false, false] rfl rfl (any_of HT_.out (by kernel_rfl)) (fun _ _ _ h => h) (Or.inr ⟨by rfl, rfl⟩) ?_ ?_
         rotate_left
         ·simp only [Act.put, List.setIfInBounds_toArray, List.set_cons_zero, List.set_cons_succ, i64_w, i32_w]
          rfl
         refine pure_ (i:=7) (N:=some 65) (v:=?_) (a':=?_) #[true, true, true, true, true, true, true, true, false, false, false, false, false, false, false, false, false, false, false, false, false, false] rfl rfl (any_of HT_.out (by kernel_rfl)) (fun _ _ _ h => h) (Or.inl ⟨by rfl, ?_⟩) ?_ ?_
         rotate_left
         ·intro w'
          go_simp
          with_reducible rfl
         rotate_left
         ·simp only [Act.put, List.setIfInBounds_toArray, List.set_cons_zero, List.set_cons_succ, i64_w, i32_w]
          rfl
         refine pure_ (i:=8) (N:=some 66) (v:=?_) (a':=?_) #[true, true, true, true, true, true, true, true, true, false, false, false, false, false, false, false, false, false, false, false, false, false] rfl rfl (any_of HT_.out (by kernel_rfl)) (fun _ _ _ h => h) (Or.inl ⟨by rfl, ?_⟩) ?_ ?_
         rotate_left
         ·intro w'
          go_simp
          with_reducible rfl
         rotate_left
         ·simp only [Act.put, List.setIfInBounds_toArray, List.set_cons_zero, List.set_cons_succ, i64_w, i32_w]
          rfl
         refine pure_ (i:=9) (N:=some 67) (v:=undef) (a':=?_) #[true, true, true, true, true, true, true, true, true, true, false, false, false, false, false, false, false, false, false, false, false, false] rfl rfl (any_of HT_.out (by kernel_rfl)) (fun _ _ _ h => h) (Or.inr ⟨by rfl, rfl⟩) ?_ ?_
         rotate_left
         ·simp only [Act.put, List.setIfInBounds_toArray, List.set_cons_zero, List.set_cons_succ, i64_w, i32_w]
          rfl
         refine pure_ (i:=10) (N:=some 68) (v:=undef) (a':=?_) #[true, true, true, true, true, true, true, true, true, true, true, false, false, false, false, false, false, false, false, false, false, false] rfl rfl (any_of HT_.out (by kernel_rfl)) (fun _ _ _ h => h) (Or.inr ⟨by rfl, rfl⟩) ?_ ?_
         rotate_left
         ·simp only [Act.put, List.setIfInBounds_toArray, List.set_cons_zero, List.set_cons_succ, i64_w, i32_w]
          rfl
         refine pure_ (i:=11) (N:=some 69) (v:=undef) (a':=?_) #[true, true, true, true, true, true, true, true, true, true, true, true, false, false, false, false, false, false, false, false, false, false] rfl rfl (any_of HT_.out (by kernel_rfl)) (fun _ _ _ h => h) (Or.inr ⟨by rfl, rfl⟩) ?_ ?_
         rotate_left
         ·simp only [Act.put, List.setIfInBounds_toArray, List.set_cons_zero, List.set_cons_succ, i64_w, i32_w]
          rfl
         refine pure_ (i:=12) (N:=some 70) (v:=undef) (a':=?_) #[true, true, true, true, true, true, true, true, true, true, true, true, true, false, false, false, false, false, false, false, false, false] rfl rfl (any_of HT_.out (by kernel_rfl)) (fun _ _ _ h => h) (Or.inr ⟨by rfl, rfl⟩) ?_ ?_
         rotate_left
         ·simp only [Act.put, List.setIfInBounds_toArray, List.set_cons_zero, List.set_cons_succ, i64_w, i32_w]
          rfl
         refine pure_ (i:=13) (N:=some 71) (v:=undef) (a':=?_) #[true, true, true, true, true, true, true, true, true, true, true, true, true, true, false, false, false, false, false, false, false, false] rfl rfl (any_of HT_.out (by kernel_rfl)) (fun _ _ _ h => h) (Or.inr ⟨by rfl, rfl⟩) ?_ ?_
         rotate_left
         ·simp only [Act.put, List.setIfInBounds_toArray, List.set_cons_zero, List.set_cons_succ, i64_w, i32_w]
          rfl
         refine pure_ (i:=14) (N:=some 72) (v:=undef) (a':=?_) #[true, true, true, true, true, true, true, true, true, true, true, true, true, true, true, false, false, false, false, false, false, false] rfl rfl (any_of HT_.out (by kernel_rfl)) (fun _ _ _ h => h) (Or.inr ⟨by rfl, rfl⟩) ?_ ?_
         rotate_left
         ·simp only [Act.put, List.setIfInBounds_toArray, List.set_cons_zero, List.set_cons_succ, i64_w, i32_w]
          rfl
         refine pure_ (i:=15) (N:=some 73) (v:=?_) (a':=?_) #[true, true, true, true, true, true, true, true, true, true, true, true, true, true, true, true, false, false, false, false, false, false] rfl rfl (any_of HT_.out (by kernel_rfl)) (fun _ _ _ h => h) (Or.inl ⟨by rfl, ?_⟩) ?_ ?_
         rotate_left
         ·intro w'
          go_simp
          with_reducible rfl
         rotate_left
         ·simp only [Act.put, List.setIfInBounds_toArray, List.set_cons_zero, List.set_cons_succ, i64_w, i32_w]
          rfl
         refine pure_ (i:=16) (N:=some 74) (v:=?_) (a':=?_) #[true, true, true, true, true, true, true, true, true, true, true, true, true, true, true, true, true, false, false, false, false, false] rfl rfl (any_of HT_.out (by kernel_rfl)) (fun _ _ _ h => h) (Or.inl ⟨by rfl, ?_⟩) ?_ ?_
         rotate_left
         ·intro w'
          go_simp
          with_reducible rfl
         rotate_left
         ·simp only [Act.put, List.setIfInBounds_toArray, List.set_cons_zero, List.set_cons_succ, i64_w, i32_w]
          rfl
         refine pure_ (i:=17) (N:=some 75) (v:=undef) (a':=?_) #[true, true, true, true, true, true, true, true, true, true, true, true, true, true, true, true, true, true, false, false, false, false] rfl rfl (any_of HT_.out (by kernel_rfl)) (fun _ _ _ h => h) (Or.inr ⟨by rfl, rfl⟩) ?_ ?_
         rotate_left
         ·simp only [Act.put, List.setIfInBounds_toArray, List.set_cons_zero, List.set_cons_succ, i64_w, i32_w]
          rfl
         refine pure_ (i:=18) (N:=some 76) (v:=undef) (a':=?_) #[true, true, true, true, true, true, true, true, true, true, true, true, true, true, true, true, true, true, true, false, false, false] rfl rfl (any_of HT_.out (by kernel_rfl)) (fun _ _ _ h => h) (Or.inr ⟨by rfl, rfl⟩) ?_ ?_
         rotate_left
         ·simp only [Act.put, List.setIfInBounds_toArray, List.set_cons_zero, List.set_cons_succ, i64_w, i32_w]
          rfl
         refine pure_ (i:=19) (N:=some 77) (v:=undef) (a':=?_) #[true, true, true, true, true, true, true, true, true, true, true, true, true, true, true, true, true, true, true, true, false, false] rfl rfl (any_of HT_.out (by kernel_rfl)) (fun _ _ _ h => h) (Or.inr ⟨by rfl, rfl⟩) ?_ ?_
         rotate_left
         ·simp only [Act.put, List.setIfInBounds_toArray, List.set_cons_zero, List.set_cons_succ, i64_w, i32_w]
          rfl
         refine pure_ (i:=20) (N:=some 78) (v:=undef) (a':=?_) #[true, true, true, true, true, true, true, true, true, true, true, true, true, true, true, true, true, true, true, true, true, false] rfl rfl (any_of HT_.out (by kernel_rfl)) (fun _ _ _ h => h) (Or.inr ⟨by rfl, rfl⟩) ?_ ?_
         rotate_left
         ·simp only [Act.put, List.setIfInBounds_toArray, List.set_cons_zero, List.set_cons_succ, i64_w, i32_w]
          rfl
         refine pure_ (i:=21) (N:=some 79) (v:=?_) (a':=?_) #[true, true, true, true, true, true, true, true, true, true, true, true, true, true, true, true, true, true, true, true, true, true] rfl rfl (any_of HT_.out (by kernel_rfl)) (fun _ _ _ h => h) (Or.inl ⟨by rfl, ?_⟩) ?_ ?_
         rotate_left
         ·intro w'
          go_simp
          with_reducible rfl
         rotate_left
         ·simp only [Act.put, List.setIfInBounds_toArray, List.set_cons_zero, List.set_cons_succ, i64_w, i32_w]
          rfl
         refine done_ (done_of HT_.out (by kernel_rfl)) ?_
         try go_wp2
         go_meet
         case rel => exact ⟨_, (true), (by first | rfl | (simp; done) | (simp [*]; done) | (simp; exact Hand.isEmpty_ne _)), H', ⟨by have:=HJ4.out; have:=HK2.out; first | omega | exact Nat.le_refl _⟩, ⟨by (with_reducible repeat (first | apply Kd.V_alloc | apply Kd.V_drewN | apply Kd.V_drew)); exact Kd.V_mono HO_0.out (fun _ hk => ⟨hk.1.1, ⟨hk.2, ⟨hk.1.2.2.1, hk.1.2.2.2⟩⟩⟩)⟩, ⟨by (with_reducible repeat (first | apply Kd.N_alloc | apply Kd.N_drewN | apply Kd.N_drew)); exact Kd.N_mono HO379.out (fun _ hk => ⟨hk.1, hk.2.2⟩)⟩, ⟨by (with_reducible repeat (first | apply Kd.V_alloc | apply Kd.V_drewN | apply Kd.V_drew)); exact Kd.V_mono HO_362003.out (fun _ hk => ⟨hk.1.1, ⟨hk.2, ⟨hk.1.2.2.1, hk.1.2.2.2⟩⟩⟩)⟩, ⟨by (with_reducible repeat (first | apply Kd.R_alloc | apply Kd.R_drewN | apply Kd.R_drew)); exact HO376.out⟩, ⟨by (with_reducible repeat (first | refine blk_drewN ?_ _ | refine blk_drew ?_ | refine blk_alloc ?_ _)); exact BK361.out⟩, ⟨by repeat (first | (with_reducible first | exact HB.out | apply below_alloc | apply pw_below_drewN | apply below_drew1 | refine below_set ?_ GE361.out) | exact HB.out)⟩⟩
        ·rw [if_neg c52] at H
         have c52b0 : ((t377.length : Int) == 0) = false:=beq_eq_false_iff_ne.mpr c52
         have c52b1 : ((t377.length : Int) != 0) = true:=bne_iff_ne.mpr c52
         have c52b2 : ¬ (t377 = []):=fun h_ => c52 (by rw [h_]; rfl)
         (first | rw [c52b0] | (simp only [i64_w, i32_w]; rw [c52b0]) | skip)
         by_cases c55 : (t377.length : Int) > 4
         ·rw [if_pos c55] at H
          have c55b0 : decide (4 < (t377.length : Int)) = true:=decide_eq_true c55
          have c55b1 : decide (4 < t377.length) = true:=decide_eq_true (by omega)
          clear c55
          have H':=Aside0.mk H
          clear H
          try go_wp2
          have n0_:=Aside0.mk (Kd.V_drew HO_0.out)
          have n1_:=Aside0.mk (Kd.R_drew HO_9.out)
          have n2_:=Aside0.mk (Kd.V_drew HO_362003.out)
          have n3_:=Aside0.mk (Kd.V_drew HO_362006.out)
          have n4_:=Aside0.mk (Kd.R_drew HO376.out)
          have n5_:=Aside0.mk (Kd.N_drew HO379.out)
          have n6_:=Aside0.mk (blk_drew BK361.out)
          have n7_:=Aside0.mk (below_drew1 HB.out)
          clear HO_0
          clear HO_9
          clear HO_362003
          clear HO_362006
          clear HO376
          clear HO379
          clear BK361
          clear HB
          have HO_0:=n0_
          have HO_9:=n1_
          have HO_362003:=n2_
          have HO_362006:=n3_
          have HO376:=n4_
          have HO379:=n5_
          have BK361:=n6_
          have HB:=n7_
          clear n0_ n1_ n2_ n3_ n4_ n5_ n6_ n7_
          obtain ⟨Ao57, co57, eo57⟩:=Kd.N_slice HO379.out
          (first | subst eo57 | (injection eo57 with f1_ f2_ f3_; have f4_:=f1_.symm; have f5_:=f3_.symm; clear f1_ f2_ f3_; subst f4_; subst f5_))
          refine start_ (n:=22) (S:=fun w' => True) (ds:=[]) #[false, false, false, false, false, false, false, false, false, false, false, false, false, false, false, false, false, false, false, false, false, false] (by kernel_rfl) rfl rfl trivial (fun hHeld => ?_); refine with_tabW depotlaw20_VariantFirst.tab10 depotlaw20_VariantFirst.bits10 (fun HT_ HW_ => ?_)
          generalize w51.drew = w56 at HO_0 HO_9 HO_362003 HO_362006 HO376 HO379 BK361 HB hHeld ⊢
          refine pure_ (i:=0) (N:=some 58) (v:=?_) (a':=?_) #[true, false, false, false, false, false, false, false, false, false, false, false, false, false, false, false, false, false, false, false, false, false] rfl rfl (any_of HT_.out (by kernel_rfl)) (fun _ _ _ h => h) (Or.inl ⟨by rfl, ?_⟩) ?_ ?_
          rotate_left
          ·intro w'
           go_simp
           with_reducible rfl
          rotate_left
          ·simp only [Act.put, List.setIfInBounds_toArray, List.set_cons_zero, List.set_cons_succ, i64_w, i32_w]
           rfl
          refine pure_ (i:=1) (N:=some 59) (v:=?_) (a':=?_) #[true, true, false, false, false, false, false, false, false, false, false, false, false, false, false, false, false, false, false, false, false, false] rfl rfl (any_of HT_.out (by kernel_rfl)) (fun _ _ _ h => h) (Or.inl ⟨by rfl, ?_⟩) ?_ ?_
          rotate_left
          ·intro w'
           go_simp
           with_reducible rfl
          rotate_left
          ·simp only [Act.put, List.setIfInBounds_toArray, List.set_cons_zero, List.set_cons_succ, i64_w, i32_w]
           rfl
          refine pure_ (i:=2) (N:=some 60) (v:=?_) (a':=?_) #[true, true, true, false, false, false, false, false, false, false, false, false, false, false, false, false, false, false, false, false, false, false] rfl rfl (any_of HT_.out (by kernel_rfl)) (fun _ _ _ h => h) (Or.inl ⟨by rfl, ?_⟩) ?_ ?_
          rotate_left
          ·intro w'
           go_simp
           with_reducible rfl
          rotate_left
          ·simp only [Act.put, List.setIfInBounds_toArray, List.set_cons_zero, List.set_cons_succ, i64_w, i32_w]
           rfl
          refine pure_ (i:=3) (N:=some 61) (v:=?_) (a':=?_) #[true, true, true, true, false, false, false, false, false, false, false, false, false, false, false, false, false, false, false, false, false, false] rfl rfl (any_of HT_.out (by kernel_rfl)) (fun _ _ _ h => h) (Or.inl ⟨by rfl, ?_⟩) ?_ ?_
          rotate_left
          ·intro w'
           go_simp
           with_reducible rfl
          rotate_left
          ·simp only [Act.put, List.setIfInBounds_toArray, List.set_cons_zero, List.set_cons_succ, i64_w, i32_w]
           rfl
          refine pure_ (i:=4) (N:=some 62) (v:=?_) (a':=?_) #[true, true, true, true, true, false, false, false, false, false, false, false, false, false, false, false, false, false, false, false, false, false] rfl rfl (any_of HT_.out (by kernel_rfl)) (fun _ _ _ h => h) (Or.inl ⟨by rfl, ?_⟩) ?_ ?_
          rotate_left
          ·intro w'
           go_simp
           with_reducible rfl
          rotate_left
          ·simp only [Act.put, List.setIfInBounds_toArray, List.set_cons_zero, List.set_cons_succ, i64_w, i32_w]
           rfl
          refine pure_ (i:=5) (N:=some 63) (v:=?_) (a':=?_) #[true, true, true, true, true, true, false, false, false, false, false, false, false, false, false, false, false, false, false, false, false, false] rfl rfl (any_of HT_.out (by kernel_rfl)) (fun _ _ _ h => h) (Or.inl ⟨by rfl, ?_⟩) ?_ ?_
          rotate_left
          ·intro w'
           go_simp
           with_reducible rfl
          rotate_left
          ·simp only [Act.put, List.setIfInBounds_toArray, List.set_cons_zero, List.set_cons_succ, i64_w, i32_w]
           rfl
          refine pure_ (i:=6) (N:=some 64) (v:=?_) (a':=?_) #[true, true, true, true, true, true, true, false, false, false, false, false, false, false, false, false, false, false, false, false, false, false] rfl rfl (any_of HT_.out (by kernel_rfl)) (fun _ _ _ h => h) (Or.inl ⟨by rfl, ?_⟩) ?_ ?_
          rotate_left
          ·intro w'
           go_simp
           with_reducible rfl
          rotate_left
          ·simp only [Act.put, List.setIfInBounds_toArray, List.set_cons_zero, List.set_cons_succ, i64_w, i32_w]
           rfl
          refine pure_ (i:=7) (N:=some 65) (v:=?_) (a':=?_) #[true, true, true, true, true, true, true, true, false, false, false, false, false, false, false, false, false, false, false, false, false, false] rfl rfl (any_of HT_.out (by kernel_rfl)) (fun _ _ _ h => h) (Or.inl ⟨by rfl, ?_⟩) ?_ ?_
          rotate_left
          ·intro w'
           go_simp
           with_reducible rfl
          rotate_left
          ·simp only [Act.put, List.setIfInBounds_toArray, List.set_cons_zero, List.set_cons_succ, i64_w, i32_w]
           rfl
          refine pure_ (i:=8) (N:=some 66) (v:=?_) (a':=?_) #[true, true, true, true, true, true, true, true, true, false, false, false, false, false, false, false, false, false, false, false, false, false] rfl rfl (any_of HT_.out (by kernel_rfl)) (fun _ _ _ h => h) (Or.inl ⟨by rfl, ?_⟩) ?_ ?_
          rotate_left
          ·intro w'
           go_simp
           with_reducible rfl
          rotate_left
          ·simp only [Act.put, List.setIfInBounds_toArray, List.set_cons_zero, List.set_cons_succ, i64_w, i32_w]
           rfl
          refine pure_ (i:=9) (N:=some 67) (v:=undef) (a':=?_) #[true, true, true, true, true, true, true, true, true, true, false, false, false, false, false, false, false, false, false, false, false, false] rfl rfl (any_of HT_.out (by kernel_rfl)) (fun _ _ _ h => h) (Or.inr ⟨by rfl, rfl⟩) ?_ ?_
          rotate_left
          ·simp only [Act.put, List.setIfInBounds_toArray, List.set_cons_zero, List.set_cons_succ, i64_w, i32_w]
           rfl
          refine pure_ (i:=10) (N:=some 68) (v:=undef) (a':=?_) #[true, true, true, true, true, true, true, true, true, true, true, false, false, false, false, false, false, false, false, false, false, false] rfl rfl (any_of HT_.out (by kernel_rfl)) (fun _ _ _ h => h) (Or.inr ⟨by rfl, rfl⟩) ?_ ?_
          rotate_left
          ·simp only [Act.put, List.setIfInBounds_toArray, List.set_cons_zero, List.set_cons_succ, i64_w, i32_w]
           rfl
          refine pure_ (i:=11) (N:=some 69) (v:=undef) (a':=?_) #[true, true, true, true, true, true, true, true, true, true, true, true, false, false, false, false, false, false, false, false, false, false] rfl rfl (any_of HT_.out (by kernel_rfl)) (fun _ _ _ h => h) (Or.inr ⟨by rfl, rfl⟩) ?_ ?_
          rotate_left
          ·simp only [Act.put, List.setIfInBounds_toArray, List.set_cons_zero, List.set_cons_succ, i64_w, i32_w]
           rfl
          refine pure_ (i:=12) (N:=some 70) (v:=undef) (a':=?_) #[true, true, true, true, true, true, true, true, true, true, true, true, true, false, false, false, false, false, false, false, false, false] rfl rfl (any_of HT_.out (by kernel_rfl)) (fun _ _ _ h => h) (Or.inr ⟨by rfl, rfl⟩) ?_ ?_
          rotate_left
          ·simp only [Act.put, List.setIfInBounds_toArray, List.set_cons_zero, List.set_cons_succ, i64_w, i32_w]
           rfl
          refine pure_ (i:=13) (N:=some 71) (v:=undef) (a':=?_) #[true, true, true, true, true, true, true, true, true, true, true, true, true, true, false, false, false, false, false, false, false, false] rfl rfl (any_of HT_.out (by kernel_rfl)) (fun _ _ _ h => h) (Or.inr ⟨by rfl, rfl⟩) ?_ ?_
          rotate_left
          ·simp only [Act.put, List.setIfInBounds_toArray, List.set_cons_zero, List.set_cons_succ, i64_w, i32_w]
           rfl
          refine pure_ (i:=14) (N:=some 72) (v:=undef) (a':=?_) #[true, true, true, true, true, true, true, true, true, true, true, true, true, true, true, false, false, false, false, false, false, false] rfl rfl (any_of HT_.out (by kernel_rfl)) (fun _ _ _ h => h) (Or.inr ⟨by rfl, rfl⟩) ?_ ?_
          rotate_left
          ·simp only [Act.put, List.setIfInBounds_toArray, List.set_cons_zero, List.set_cons_succ, i64_w, i32_w]
           rfl
          refine pure_ (i:=15) (N:=some 73) (v:=?_) (a':=?_) #[true, true, true, true, true, true, true, true, true, true, true, true, true, true, true, true, false, false, false, false, false, false] rfl rfl (any_of HT_.out (by kernel_rfl)) (fun _ _ _ h => h) (Or.inl ⟨by rfl, ?_⟩) ?_ ?_
          rotate_left
          ·intro w'
           go_simp
           with_reducible rfl
          rotate_left
          ·simp only [Act.put, List.setIfInBounds_toArray, List.set_cons_zero, List.set_cons_succ, i64_w, i32_w]
           rfl
          refine pure_ (i:=16) (N:=some 74) (v:=?_) (a':=?_) #[true, true, true, true, true, true, true, true, true, true, true, true, true, true, true, true, true, false, false, false, false, false] rfl rfl (any_of HT_.out (by kernel_rfl)) (fun _ _ _ h => h) (Or.inl ⟨by rfl, ?_⟩) ?_ ?_
          rotate_left
          ·intro w'
           go_simp
           with_reducible rfl
          rotate_left
          ·simp only [Act.put, List.setIfInBounds_toArray, List.set_cons_zero, List.set_cons_succ, i64_w, i32_w]
           rfl
          refine pure_ (i:=17) (N:=some 75) (v:=undef) (a':=?_) #[true, true, true, true, true, true, true, true, true, true, true, true, true, true, true, true, true, true, false, false, false, false] rfl rfl (any_of HT_.out (by kernel_rfl)) (fun _ _ _ h => h) (Or.inr ⟨by rfl, rfl⟩) ?_ ?_
          rotate_left
          ·simp only [Act.put, List.setIfInBounds_toArray, List.set_cons_zero, List.set_cons_succ, i64_w, i32_w]
           rfl
          refine pure_ (i:=18) (N:=some 76) (v:=undef) (a':=?_) #[true, true, true, true, true, true, true, true, true, true, true, true, true, true, true, true, true, true, true, false, false, false] rfl rfl (any_of HT_.out (by kernel_rfl)) (fun _ _ _ h => h) (Or.inr ⟨by rfl, rfl⟩) ?_ ?_
          rotate_left
          ·simp only [Act.put, List.setIfInBounds_toArray, List.set_cons_zero, List.set_cons_succ, i64_w, i32_w]
           rfl
          refine pure_ (i:=19) (N:=some 77) (v:=undef) (a':=?_) #[true, true, true, true, true, true, true, true, true, true, true, true, true, true, true, true, true, true, true, true, false, false] rfl rfl (any_of HT_.out (by kernel_rfl)) (fun _ _ _ h => h) (Or.inr ⟨by rfl, rfl⟩) ?_ ?_
          rotate_left
          ·simp only [Act.put, List.setIfInBounds_toArray, List.set_cons_zero, List.set_cons_succ, i64_w, i32_w]
           rfl
          refine pure_ (i:=20) (N:=some 78) (v:=undef) (a':=?_) #[true, true, true, true, true, true, true, true, true, true, true, true, true, true, true, true, true, true, true, true, true, false] rfl rfl (any_of HT_.out (by kernel_rfl)) (fun _ _ _ h => h) (Or.inr ⟨by rfl, rfl⟩) ?_ ?_
          rotate_left
          ·simp only [Act.put, List.setIfInBounds_toArray, List.set_cons_zero, List.set_cons_succ, i64_w, i32_w]
           rfl
          refine pure_ (i:=21) (N:=some 79) (v:=?_) (a':=?_) #[true, true, true, true, true, true, true, true, true, true, true, true, true, true, true, true, true, true, true, true, true, true] rfl rfl (any_of HT_.out (by kernel_rfl)) (fun _ _ _ h => h) (Or.inl ⟨by rfl, ?_⟩) ?_ ?_
          rotate_left
          ·intro w'
           go_simp
           with_reducible rfl
          rotate_left
          ·simp only [Act.put, List.setIfInBounds_toArray, List.set_cons_zero, List.set_cons_succ, i64_w, i32_w]
           rfl
          refine done_ (done_of HT_.out (by kernel_rfl)) ?_
          try go_wp2
          go_meet
          case rel => exact ⟨_, (true), (by first | rfl | (simp; done) | (simp [*]; done) | (simp; exact Hand.isEmpty_ne _)), H', ⟨by have:=HJ4.out; have:=HK2.out; first | omega | exact Nat.le_refl _⟩, ⟨by (with_reducible repeat (first | apply Kd.V_alloc | apply Kd.V_drewN | apply Kd.V_drew)); exact Kd.V_mono HO_0.out (fun _ hk => ⟨hk.1.1, ⟨hk.2, ⟨hk.1.2.2.1, hk.1.2.2.2⟩⟩⟩)⟩, ⟨by (with_reducible repeat (first | apply Kd.N_alloc | apply Kd.N_drewN | apply Kd.N_drew)); exact Kd.N_mono HO379.out (fun _ hk => ⟨hk.1, hk.2.2⟩)⟩, ⟨by (with_reducible repeat (first | apply Kd.V_alloc | apply Kd.V_drewN | apply Kd.V_drew)); exact Kd.V_mono HO_362003.out (fun _ hk => ⟨hk.1.1, ⟨hk.2, ⟨hk.1.2.2.1, hk.1.2.2.2⟩⟩⟩)⟩, ⟨by (with_reducible repeat (first | apply Kd.R_alloc | apply Kd.R_drewN | apply Kd.R_drew)); exact HO376.out⟩, ⟨by (with_reducible repeat (first | refine blk_drewN ?_ _ | refine blk_drew ?_ | refine blk_alloc ?_ _)); exact BK361.out⟩, ⟨by repeat (first | (with_reducible first | exact HB.out | apply below_alloc | apply pw_below_drewN | apply below_drew1 | refine below_set ?_ GE361.out) | exact HB.out)⟩⟩
         ·rw [if_neg c55] at H
          have c55b0 : decide (4 < (t377.length : Int)) = false:=decide_eq_false c55
          have c55b1 : decide (4 < t377.length) = false:=decide_eq_false (by omega)
          clear c55
          by_cases c58 : 0 < (t377.length : Int)
          ·rw [if_pos c58] at H
           have c58b0 : decide (0 < (t377.length : Int)) = true:=decide_eq_true c58
           have c58b1 : decide (0 < t377.length) = true:=decide_eq_true (by omega)
           clear c58
           replace H:=Option.bind_eq_some_iff.mp H
           obtain ⟨t381, A590, H⟩:=H
           try dsimp only at H
           have A59:=Aside0.mk A590
           clear A590
           by_cases c60 : t381 = true
           ·subst c60
            have H1 : ((variant_Find.f k2 t377 l2).bind fun t382 => (depotlaw20_VariantFirst.j2 k2 l0 l3 t377 (t382 != 0) a1_0 a1_1 a1_2 l1_3 a1_4 a1_5 t374)) = some r:=by rw [if_pos rfl] at H; exact H
            clear H
            have H:=H1
            clear H1
            replace H:=Option.bind_eq_some_iff.mp H
            obtain ⟨t382, A610, H⟩:=H
            replace H : (depotlaw20_VariantFirst.j2 k2 l0 l3 t377 (t382 != 0) a1_0 a1_1 a1_2 l1_3 a1_4 a1_5 t374) = some r:=H
            have A61:=Aside0.mk A610
            clear A610
            have H':=Aside0.mk H
            clear H
            try go_wp2
            have n0_:=Aside0.mk (Kd.V_drew HO_0.out)
            have n1_:=Aside0.mk (Kd.R_drew HO_9.out)
            have n2_:=Aside0.mk (Kd.V_drew HO_362003.out)
            have n3_:=Aside0.mk (Kd.V_drew HO_362006.out)
            have n4_:=Aside0.mk (Kd.R_drew HO376.out)
            have n5_:=Aside0.mk (Kd.N_drew HO379.out)
            have n6_:=Aside0.mk (blk_drew BK361.out)
            have n7_:=Aside0.mk (below_drew1 HB.out)
            clear HO_0
            clear HO_9
            clear HO_362003
            clear HO_362006
            clear HO376
            clear HO379
            clear BK361
            clear HB
            have HO_0:=n0_
            have HO_9:=n1_
            have HO_362003:=n2_
            have HO_362006:=n3_
            have HO376:=n4_
            have HO379:=n5_
            have BK361:=n6_
            have HB:=n7_
            clear n0_ n1_ n2_ n3_ n4_ n5_ n6_ n7_
            obtain ⟨Ao63, co63, eo63⟩:=Kd.N_slice HO379.out
            (first | subst eo63 | (injection eo63 with f1_ f2_ f3_; have f4_:=f1_.symm; have f5_:=f3_.symm; clear f1_ f2_ f3_; subst f4_; subst f5_))
            have p380 : 0 ≤ (0 : Int):=(by omega)
            have q380 : 0 < (t377.length : Int):=of_decide_eq_true (by first | (with_reducible assumption) | assumption)
            obtain ⟨ad380, A380_3, c380_3, A380_6, c380_6, e380, hx380_0, hx380_1, hx380_2, hx380_3, hx380_4, hx380_5, hx380_6, hl380_3, hi380_3, hl380_6, hi380_6⟩:=at_T28 (Kd.N_reads' HO379.out).2.2 0 p380 q380
            cases e380
            obtain ⟨ce380, hce380, hMe380, hcc380⟩:=Kd.N_get HO379.out z28 0 p380 (by first | exact q380 | exact of_decide_eq_true (by first | (with_reducible assumption) | assumption) | (have e_:=(Kd.N_reads' HO379.out).1; omega))
            obtain ⟨ua380_3, uc380_3, ua380_6, uc380_6, rfl, ul380_3, ge380_3, ul380_6, ge380_6⟩:=k28_openF hMe380
            have hv380_3:=hcc380 3 _ rfl
            rw [add_field _ _ 3 (by omega)] at hv380_3
            replace hv380_3:=Option.some.inj (hv380_3.symm.trans hx380_3)
            injection hv380_3 with hva_ hvn_ hvc_
            rw [hva_] at ge380_3
            rw [hvc_] at ul380_3
            have HL380_3:=Aside0.mk (show Kd.V k62 62 _ w.heap.size _ _ ((rd_T28 t377 0).f0.f3) from Kd.V_mk ul380_3 ge380_3)
            clear hva_ hvn_ hvc_ ge380_3 ul380_3
            have hv380_6:=hcc380 6 _ rfl
            rw [add_field _ _ 6 (by omega)] at hv380_6
            replace hv380_6:=Option.some.inj (hv380_6.symm.trans hx380_6)
            injection hv380_6 with hva_ hvn_ hvc_
            rw [hva_] at ge380_6
            rw [hvc_] at ul380_6
            have HL380_6:=Aside0.mk (show Kd.V k53 53 _ w.heap.size _ _ ((rd_T28 t377 0).f2) from Kd.V_mk ul380_6 ge380_6)
            clear hva_ hvn_ hvc_ ge380_6 ul380_6
            clear hcc380 hce380
            have qi380 : (0 < t377.length) = True:=eq_true (by omega)
            (try rw [show ((0 : Int)).toNat = 0 from rfl] at hx380_0)
            (try rw [show 0 * 7 = 0 from rfl] at hx380_0)
            (try rw [Addr.add_zero'] at hx380_0)
            (try rw [show ((0 : Int)).toNat = 0 from rfl] at hx380_1)
            (try rw [show 0 * 7 = 0 from rfl] at hx380_1)
            (try rw [Addr.add_zero'] at hx380_1)
            (try rw [show ((0 : Int)).toNat = 0 from rfl] at hx380_2)
            (try rw [show 0 * 7 = 0 from rfl] at hx380_2)
            (try rw [Addr.add_zero'] at hx380_2)
            (try rw [show ((0 : Int)).toNat = 0 from rfl] at hx380_3)
            (try rw [show 0 * 7 = 0 from rfl] at hx380_3)
            (try rw [Addr.add_zero'] at hx380_3)
            (try rw [show ((0 : Int)).toNat = 0 from rfl] at hx380_4)
            (try rw [show 0 * 7 = 0 from rfl] at hx380_4)
            (try rw [Addr.add_zero'] at hx380_4)
            (try rw [show ((0 : Int)).toNat = 0 from rfl] at hx380_5)
            (try rw [show 0 * 7 = 0 from rfl] at hx380_5)
            (try rw [Addr.add_zero'] at hx380_5)
            (try rw [show ((0 : Int)).toNat = 0 from rfl] at hx380_6)
            (try rw [show 0 * 7 = 0 from rfl] at hx380_6)
            (try rw [Addr.add_zero'] at hx380_6)
            have HR380_3:=Aside0.mk hi380_3
            have HC380_3:=Aside0.mk hl380_3
            clear hi380_3 hl380_3
            have HR380_6:=Aside0.mk hi380_6
            have HC380_6:=Aside0.mk hl380_6
            clear hi380_6 hl380_6
            replace p380:=eq_true p380
            replace q380:=eq_true q380
            refine start_ (n:=22) (S:=fun w' => w'.cell? ⟨gb361, 0, none⟩ = some (.int .i64 a1_0) ∧ w'.cell? ⟨gb361, 1, none⟩ = some (.string a1_1) ∧ w'.cell? ⟨gb361, 2, none⟩ = some (.int .i64 a1_2) ∧ w'.cell? ⟨gb361, 3, none⟩ = some (.slice A1_3 l1_3.length c1_3) ∧ w'.cell? ⟨gb361, 4, none⟩ = some (.string a1_4) ∧ w'.cell? ⟨gb361, 5, none⟩ = some (.int .i64 a1_5) ∧ w'.cell? ⟨gb361, 6, none⟩ = some (.slice Ao47 t374.length co47) ∧ w'.cell? ad380 = some (.int .i64 ((rd_T28 t377 0).f0.f0)) ∧ w'.cell? ⟨ad380.block, ad380.off + 1, none⟩ = some (.string ((rd_T28 t377 0).f0.f1)) ∧ w'.cell? ⟨ad380.block, ad380.off + 2, none⟩ = some (.int .i64 ((rd_T28 t377 0).f0.f2)) ∧ w'.cell? ⟨ad380.block, ad380.off + 3, none⟩ = some (.slice A380_3 ((rd_T28 t377 0).f0.f3).length c380_3) ∧ w'.cell? ⟨ad380.block, ad380.off + 4, none⟩ = some (.string ((rd_T28 t377 0).f0.f4)) ∧ w'.cell? ⟨ad380.block, ad380.off + 5, none⟩ = some (.int .i64 ((rd_T28 t377 0).f1)) ∧ w'.cell? ⟨ad380.block, ad380.off + 6, none⟩ = some (.slice A380_6 ((rd_T28 t377 0).f2).length c380_6)) (ds:=[]) #[false, false, false, false, false, false, false, false, false, false, false, false, false, false, false, false, false, false, false, false, false, false] (by kernel_rfl) rfl rfl ⟨(blk_cell BK361.out 0).trans rfl, (blk_cell BK361.out 1).trans rfl, (blk_cell BK361.out 2).trans rfl, (blk_cell BK361.out 3).trans rfl, (blk_cell BK361.out 4).trans rfl, (blk_cell BK361.out 5).trans rfl, (blk_cell BK361.out 6).trans rfl, hx380_0, hx380_1, hx380_2, hx380_3, hx380_4, hx380_5, hx380_6⟩ (fun hHeld => ?_); refine with_tabW depotlaw20_VariantFirst.tab10 depotlaw20_VariantFirst.bits10 (fun HT_ HW_ => ?_)
            generalize w51.drew = w62 at HO_0 HO_9 HO_362003 HO_362006 HO376 HO379 BK361 HB HL380_3 HL380_6 HR380_3 HR380_6 hx380_0 hx380_1 hx380_2 hx380_3 hx380_4 hx380_5 hx380_6 hHeld ⊢
            refine pure_ (i:=0) (N:=some 58) (v:=?_) (a':=?_) #[true, false, false, false, false, false, false, false, false, false, false, false, false, false, false, false, false, false, false, false, false, false] rfl rfl (any_of HT_.out (by kernel_rfl)) (fun _ _ _ h => h) (Or.inl ⟨by rfl, ?_⟩) ?_ ?_
            rotate_left
            ·intro w'
             go_simp
             with_reducible rfl
            rotate_left
            ·simp only [Act.put, List.setIfInBounds_toArray, List.set_cons_zero, List.set_cons_succ, i64_w, i32_w]
             rfl
            refine pure_ (i:=1) (N:=some 59) (v:=?_) (a':=?_) #[true, true, false, false, false, false, false, false, false, false, false, false, false, false, false, false, false, false, false, false, false, false] rfl rfl (any_of HT_.out (by kernel_rfl)) (fun _ _ _ h => h) (Or.inl ⟨by rfl, ?_⟩) ?_ ?_
            rotate_left
            ·intro w'
             go_simp
             with_reducible rfl
            rotate_left
            ·simp only [Act.put, List.setIfInBounds_toArray, List.set_cons_zero, List.set_cons_succ, i64_w, i32_w]
             rfl
            refine pure_ (i:=2) (N:=some 60) (v:=?_) (a':=?_) #[true, true, true, false, false, false, false, false, false, false, false, false, false, false, false, false, false, false, false, false, false, false] rfl rfl (any_of HT_.out (by kernel_rfl)) (fun _ _ _ h => h) (Or.inl ⟨by rfl, ?_⟩) ?_ ?_
            rotate_left
            ·intro w'
             go_simp
             with_reducible rfl
            rotate_left
            ·simp only [Act.put, List.setIfInBounds_toArray, List.set_cons_zero, List.set_cons_succ, i64_w, i32_w]
             rfl
            refine pure_ (i:=3) (N:=some 61) (v:=?_) (a':=?_) #[true, true, true, true, false, false, false, false, false, false, false, false, false, false, false, false, false, false, false, false, false, false] rfl rfl (any_of HT_.out (by kernel_rfl)) (fun _ _ _ h => h) (Or.inl ⟨by rfl, ?_⟩) ?_ ?_
            rotate_left
            ·intro w'
             go_simp
             with_reducible rfl
            rotate_left
            ·simp only [Act.put, List.setIfInBounds_toArray, List.set_cons_zero, List.set_cons_succ, i64_w, i32_w]
             rfl
            refine pure_ (i:=4) (N:=some 62) (v:=?_) (a':=?_) #[true, true, true, true, true, false, false, false, false, false, false, false, false, false, false, false, false, false, false, false, false, false] rfl rfl (any_of HT_.out (by kernel_rfl)) (fun _ _ _ h => h) (Or.inl ⟨by rfl, ?_⟩) ?_ ?_
            rotate_left
            ·intro w'
             go_simp
             with_reducible rfl
            rotate_left
            ·simp only [Act.put, List.setIfInBounds_toArray, List.set_cons_zero, List.set_cons_succ, i64_w, i32_w]
             rfl
            refine pure_ (i:=5) (N:=some 63) (v:=?_) (a':=?_) #[true, true, true, true, true, true, false, false, false, false, false, false, false, false, false, false, false, false, false, false, false, false] rfl rfl (any_of HT_.out (by kernel_rfl)) (fun _ _ _ h => h) (Or.inl ⟨by rfl, ?_⟩) ?_ ?_
            rotate_left
            ·intro w'
             go_simp
             with_reducible rfl
            rotate_left
            ·simp only [Act.put, List.setIfInBounds_toArray, List.set_cons_zero, List.set_cons_succ, i64_w, i32_w]
             rfl
            refine pure_ (i:=6) (N:=some 64) (v:=?_) (a':=?_) #[true, true, true, true, true, true, true, false, false, false, false, false, false, false, false, false, false, false, false, false, false, false] rfl rfl (any_of HT_.out (by kernel_rfl)) (fun _ _ _ h => h) (Or.inl ⟨by rfl, ?_⟩) ?_ ?_
            rotate_left
            ·intro w'
             go_simp
             with_reducible rfl
            rotate_left
            ·simp only [Act.put, List.setIfInBounds_toArray, List.set_cons_zero, List.set_cons_succ, i64_w, i32_w]
             rfl
            refine pure_ (i:=7) (N:=some 65) (v:=?_) (a':=?_) #[true, true, true, true, true, true, true, true, false, false, false, false, false, false, false, false, false, false, false, false, false, false] rfl rfl (any_of HT_.out (by kernel_rfl)) (fun _ _ _ h => h) (Or.inl ⟨by rfl, ?_⟩) ?_ ?_
            rotate_left
            ·intro w'
             go_simp
             with_reducible rfl
            rotate_left
            ·simp only [Act.put, List.setIfInBounds_toArray, List.set_cons_zero, List.set_cons_succ, i64_w, i32_w]
             rfl
            refine pure_ (i:=8) (N:=some 66) (v:=?_) (a':=?_) #[true, true, true, true, true, true, true, true, true, false, false, false, false, false, false, false, false, false, false, false, false, false] rfl rfl (any_of HT_.out (by kernel_rfl)) (fun _ _ _ h => h) (Or.inl ⟨by rfl, ?_⟩) ?_ ?_
            rotate_left
            ·intro w'
             go_simp
             with_reducible rfl
            rotate_left
            ·simp only [Act.put, List.setIfInBounds_toArray, List.set_cons_zero, List.set_cons_succ, i64_w, i32_w]
             rfl
            refine pure_ (i:=9) (N:=some 67) (v:=?_) (a':=?_) #[true, true, true, true, true, true, true, true, true, true, false, false, false, false, false, false, false, false, false, false, false, false] rfl rfl (any_of HT_.out (by kernel_rfl)) (fun _ _ _ h => h) (Or.inl ⟨by rfl, ?_⟩) ?_ ?_
            rotate_left
            ·intro w'
             go_simp
             with_reducible rfl
            rotate_left
            ·simp only [Act.put, List.setIfInBounds_toArray, List.set_cons_zero, List.set_cons_succ, i64_w, i32_w]
             rfl
            refine pure_ (i:=10) (N:=some 68) (v:=?_) (a':=?_) #[true, true, true, true, true, true, true, true, true, true, true, false, false, false, false, false, false, false, false, false, false, false] rfl rfl (any_of HT_.out (by kernel_rfl)) (fun _ _ _ h => h) (Or.inl ⟨by rfl, ?_⟩) ?_ ?_
            rotate_left
            ·intro w'
             go_simp
             with_reducible rfl
            rotate_left
            ·simp only [Act.put, List.setIfInBounds_toArray, List.set_cons_zero, List.set_cons_succ, i64_w, i32_w]
             rfl
            refine take_ (i:=11) (N:=some 69) (v:=?_) (a':=?_) #[true, true, true, true, true, true, true, true, true, true, true, true, false, false, false, false, false, false, false, false, false, false] rfl rfl (take_ofW HT_.out HW_.out (by kernel_rfl)) (fun _ _ _ h => h) (Or.inl ⟨by rfl, ?_⟩) hHeld ?_ ?_
            rotate_left
            ·rintro w' ⟨s0, s1, s2, s3, s4, s5, s6, s7, s8, s9, s10, s11, s12, s13⟩
             go_simp
             with_reducible rfl
            rotate_left
            ·simp only [Act.put, List.setIfInBounds_toArray, List.set_cons_zero, List.set_cons_succ, i64_w, i32_w]
             rfl
            refine take_ (i:=12) (N:=some 70) (v:=?_) (a':=?_) #[true, true, true, true, true, true, true, true, true, true, true, true, true, false, false, false, false, false, false, false, false, false] rfl rfl (take_ofW HT_.out HW_.out (by kernel_rfl)) (fun _ _ _ h => h) (Or.inl ⟨by rfl, ?_⟩) hHeld ?_ ?_
            rotate_left
            ·rintro w' ⟨s0, s1, s2, s3, s4, s5, s6, s7, s8, s9, s10, s11, s12, s13⟩
             go_simp
             with_reducible rfl
            rotate_left
            ·simp only [Act.put, List.setIfInBounds_toArray, List.set_cons_zero, List.set_cons_succ, i64_w, i32_w]
             rfl
            refine one_ (i:=13) (N:=some 71) #[true, true, true, true, true, true, true, true, true, true, true, true, true, true, false, false, false, false, false, false, false, false] rfl rfl (one_of HT_.out (by kernel_rfl)) (by decide) (fun K hK => ?_)
            refine goes_ Tryd.func24 (by kernel_rfl) rfl #[.agg #[.int .i64 ((rd_T28 t377 0).f0.f0), .string ((rd_T28 t377 0).f0.f1), .int .i64 ((rd_T28 t377 0).f0.f2), .slice A380_3 ((rd_T28 t377 0).f0.f3).length c380_3, .string ((rd_T28 t377 0).f0.f4), .int .i64 ((rd_T28 t377 0).f1), .slice A380_6 ((rd_T28 t377 0).f2).length c380_6], .agg #[.int .i64 a1_0, .string a1_1, .int .i64 a1_2, .slice A1_3 l1_3.length c1_3, .string a1_4, .int .i64 a1_5, .slice Ao47 t374.length co47]] (by rfl) rfl rfl (by (try simp only [List.map_toArray, List.map_cons, List.map_nil]); first | done | rfl | (simp only [List.length_drop, List.length_take]; rfl)) ?_
            with_reducible refine (depotref20_One.calls k2 ((rd_T28 t377 0).f0.f0) ((rd_T28 t377 0).f0.f1) ((rd_T28 t377 0).f0.f2) _ _ ((rd_T28 t377 0).f0.f3) ((rd_T28 t377 0).f0.f4) ((rd_T28 t377 0).f1) _ _ ((rd_T28 t377 0).f2) a1_0 a1_1 a1_2 _ _ l1_3 a1_4 a1_5 _ _ t374 true _ ?side1 ?side2 ?side3 ?side4 ?side5 ?side6 ?side7 ?side8 A59.out).mono ?_
            (case side1 => repeat (first | exact (by repeat (first | (with_reducible exact HR380_3.out) | (with_reducible first | refine Kd.C_alloc ?_ _ | refine Kd.C_drewN ?_ _ | refine Kd.C_drew ?_) | exact HR380_3.out)) | (with_reducible first | refine Kd.C_alloc ?_ _ | refine Kd.C_drewN ?_ _ | refine Kd.C_drew ?_)))
            (case side2 => exact HC380_3.out)
            (case side3 => repeat (first | exact (by repeat (first | (with_reducible exact HR380_6.out) | (with_reducible first | refine Kd.C_alloc ?_ _ | refine Kd.C_drewN ?_ _ | refine Kd.C_drew ?_) | exact HR380_6.out)) | (with_reducible first | refine Kd.C_alloc ?_ _ | refine Kd.C_drewN ?_ _ | refine Kd.C_drew ?_)))
            (case side4 => exact HC380_6.out)
            (case side5 => repeat (first | exact (Kd.V_reads' HO_362003.out).2.2 | (with_reducible first | refine Kd.C_alloc ?_ _ | refine Kd.C_drewN ?_ _ | refine Kd.C_drew ?_)))
            (case side6 => exact (Kd.V_reads' HO_362003.out).2.1)
            (case side7 => repeat (first | exact (Kd.R_reads' HO376.out).2.2 | (with_reducible first | refine Kd.C_alloc ?_ _ | refine Kd.C_drewN ?_ _ | refine Kd.C_drew ?_)))
            (case side8 => exact (Kd.R_reads' HO376.out).2.1)
            rintro e w64 ⟨rfl, hb⟩
            have HS7_:=(hb.cell (World.block_lt_of_cell? _ _ (hHeld.2.2.2.2.2.2.2.1))).trans (hHeld.2.2.2.2.2.2.2.1)
            have HS8_:=(hb.cell (World.block_lt_of_cell? _ _ (hHeld.2.2.2.2.2.2.2.2.1))).trans (hHeld.2.2.2.2.2.2.2.2.1)
            have HS9_:=(hb.cell (World.block_lt_of_cell? _ _ (hHeld.2.2.2.2.2.2.2.2.2.1))).trans (hHeld.2.2.2.2.2.2.2.2.2.1)
            have HS10_:=(hb.cell (World.block_lt_of_cell? _ _ (hHeld.2.2.2.2.2.2.2.2.2.2.1))).trans (hHeld.2.2.2.2.2.2.2.2.2.2.1)
            have HS11_:=(hb.cell (World.block_lt_of_cell? _ _ (hHeld.2.2.2.2.2.2.2.2.2.2.2.1))).trans (hHeld.2.2.2.2.2.2.2.2.2.2.2.1)
            have HS12_:=(hb.cell (World.block_lt_of_cell? _ _ (hHeld.2.2.2.2.2.2.2.2.2.2.2.2.1))).trans (hHeld.2.2.2.2.2.2.2.2.2.2.2.2.1)
            have HS13_:=(hb.cell (World.block_lt_of_cell? _ _ (hHeld.2.2.2.2.2.2.2.2.2.2.2.2.2))).trans (hHeld.2.2.2.2.2.2.2.2.2.2.2.2.2)
            refine ⟨_, rfl, ?_⟩
            have n0_:=Aside0.mk (Kd.V_below (by (with_reducible repeat (first | apply Kd.V_alloc | apply Kd.V_drewN | apply Kd.V_drew)); exact HO_0.out) hb)
            have n1_:=Aside0.mk (Kd.R_below (by (with_reducible repeat (first | apply Kd.R_alloc | apply Kd.R_drewN | apply Kd.R_drew)); exact HO_9.out) hb)
            have n2_:=Aside0.mk (Kd.V_below (by (with_reducible repeat (first | apply Kd.V_alloc | apply Kd.V_drewN | apply Kd.V_drew)); exact HO_362003.out) hb)
            have n3_:=Aside0.mk (Kd.V_below (by (with_reducible repeat (first | apply Kd.V_alloc | apply Kd.V_drewN | apply Kd.V_drew)); exact HO_362006.out) hb)
            have n4_:=Aside0.mk (Kd.R_below (by (with_reducible repeat (first | apply Kd.R_alloc | apply Kd.R_drewN | apply Kd.R_drew)); exact HO376.out) hb)
            have n5_:=Aside0.mk (Kd.N_below (by (with_reducible repeat (first | apply Kd.N_alloc | apply Kd.N_drewN | apply Kd.N_drew)); exact HO379.out) hb)
            have n6_:=Aside0.mk (Kd.V_below (by (with_reducible repeat (first | apply Kd.V_alloc | apply Kd.V_drewN | apply Kd.V_drew)); exact HL380_3.out) hb)
            have n7_:=Aside0.mk (Kd.V_below (by (with_reducible repeat (first | apply Kd.V_alloc | apply Kd.V_drewN | apply Kd.V_drew)); exact HL380_6.out) hb)
            have n8_:=Aside0.mk (blk_below (g:=gb361) (o:=.cells #[.int .i64 a1_0, .string a1_1, .int .i64 a1_2, .slice A1_3 l1_3.length c1_3, .string a1_4, .int .i64 a1_5, .slice Ao47 t374.length co47] 28 (0, 0)) (by (with_reducible repeat (first | refine blk_drewN ?_ _ | refine blk_drew ?_ | refine blk_alloc ?_ _)); exact BK361.out) hb)
            have n9_:=Aside0.mk (Kd.C_below (by repeat (first | (with_reducible exact HR380_3.out) | (with_reducible first | refine Kd.C_alloc ?_ _ | refine Kd.C_drewN ?_ _ | refine Kd.C_drew ?_) | exact HR380_3.out)) hb)
            have n10_:=Aside0.mk (Kd.C_below (by repeat (first | (with_reducible exact HR380_6.out) | (with_reducible first | refine Kd.C_alloc ?_ _ | refine Kd.C_drewN ?_ _ | refine Kd.C_drew ?_) | exact HR380_6.out)) hb)
            have n11_:=Aside0.mk (below_step (by repeat (first | (with_reducible first | exact HB.out | apply below_alloc | apply pw_below_drewN | apply below_drew1 | refine below_set ?_ GE361.out) | exact HB.out)) hb)
            clear HO_0
            clear HO_9
            clear HO_362003
            clear HO_362006
            clear HO376
            clear HO379
            clear HL380_3
            clear HL380_6
            clear BK361
            clear HR380_3
            clear HR380_6
            clear HB
            have HO_0:=n0_
            have HO_9:=n1_
            have HO_362003:=n2_
            have HO_362006:=n3_
            have HO376:=n4_
            have HO379:=n5_
            have HL380_3:=n6_
            have HL380_6:=n7_
            have BK361:=n8_
            have HR380_3:=n9_
            have HR380_6:=n10_
            have HB:=n11_
            clear n0_ n1_ n2_ n3_ n4_ n5_ n6_ n7_ n8_ n9_ n10_ n11_
            (try clear hb)
            (try clear hb2)
            (try clear hk)
            (try clear hi)
            refine hK.out _ _ ⟨(blk_cell BK361.out 0).trans rfl, (blk_cell BK361.out 1).trans rfl, (blk_cell BK361.out 2).trans rfl, (blk_cell BK361.out 3).trans rfl, (blk_cell BK361.out 4).trans rfl, (blk_cell BK361.out 5).trans rfl, (blk_cell BK361.out 6).trans rfl, HS7_, HS8_, HS9_, HS10_, HS11_, HS12_, HS13_⟩ (fun hHeld => ?_)
            clear hK K
            refine norm_ (a':=?_) ?_ ?_
            rotate_left
            ·show Act.put _ (some 71) _ = _
             simp only [Act.put, List.setIfInBounds_toArray, List.set_cons_zero, List.set_cons_succ, i64_w, i32_w]
             rfl
            refine pure_ (i:=14) (N:=some 72) (v:=?_) (a':=?_) #[true, true, true, true, true, true, true, true, true, true, true, true, true, true, true, false, false, false, false, false, false, false] rfl rfl (any_of HT_.out (by kernel_rfl)) (fun _ _ _ h => h) (Or.inl ⟨by rfl, ?_⟩) ?_ ?_
            rotate_left
            ·intro w'
             go_simp
             with_reducible rfl
            rotate_left
            ·simp only [Act.put, List.setIfInBounds_toArray, List.set_cons_zero, List.set_cons_succ, i64_w, i32_w]
             rfl
            refine pure_ (i:=15) (N:=some 73) (v:=?_) (a':=?_) #[true, true, true, true, true, true, true, true, true, true, true, true, true, true, true, true, false, false, false, false, false, false] rfl rfl (any_of HT_.out (by kernel_rfl)) (fun _ _ _ h => h) (Or.inl ⟨by rfl, ?_⟩) ?_ ?_
            rotate_left
            ·intro w'
             go_simp
             with_reducible rfl
            rotate_left
            ·simp only [Act.put, List.setIfInBounds_toArray, List.set_cons_zero, List.set_cons_succ, i64_w, i32_w]
             rfl
            refine pure_ (i:=16) (N:=some 74) (v:=?_) (a':=?_) #[true, true, true, true, true, true, true, true, true, true, true, true, true, true, true, true, true, false, false, false, false, false] rfl rfl (any_of HT_.out (by kernel_rfl)) (fun _ _ _ h => h) (Or.inl ⟨by rfl, ?_⟩) ?_ ?_
            rotate_left
            ·intro w'
             go_simp
             with_reducible rfl
            rotate_left
            ·simp only [Act.put, List.setIfInBounds_toArray, List.set_cons_zero, List.set_cons_succ, i64_w, i32_w]
             rfl
            refine pure_ (i:=17) (N:=some 75) (v:=?_) (a':=?_) #[true, true, true, true, true, true, true, true, true, true, true, true, true, true, true, true, true, true, false, false, false, false] rfl rfl (any_of HT_.out (by kernel_rfl)) (fun _ _ _ h => h) (Or.inl ⟨by rfl, ?_⟩) ?_ ?_
            rotate_left
            ·intro w'
             go_simp
             with_reducible rfl
            rotate_left
            ·simp only [Act.put, List.setIfInBounds_toArray, List.set_cons_zero, List.set_cons_succ, i64_w, i32_w]
             rfl
            refine pure_ (i:=18) (N:=some 76) (v:=?_) (a':=?_) #[true, true, true, true, true, true, true, true, true, true, true, true, true, true, true, true, true, true, true, false, false, false] rfl rfl (any_of HT_.out (by kernel_rfl)) (fun _ _ _ h => h) (Or.inl ⟨by rfl, ?_⟩) ?_ ?_
            rotate_left
            ·intro w'
             go_simp
             with_reducible rfl
            rotate_left
            ·simp only [Act.put, List.setIfInBounds_toArray, List.set_cons_zero, List.set_cons_succ, i64_w, i32_w]
             rfl
            refine one_ (i:=19) (N:=some 77) #[true, true, true, true, true, true, true, true, true, true, true, true, true, true, true, true, true, true, true, true, false, false] rfl rfl (one_of HT_.out (by kernel_rfl)) (by decide) (fun K hK => ?_)
            refine goes_ Tryd.func11 (by kernel_rfl) rfl #[.slice (some ad380) t377.length co63, .slice A2 l2.length c2] (by rfl) rfl rfl (by (try simp only [List.map_toArray, List.map_cons, List.map_nil]); first | done | rfl | (simp only [List.length_drop, List.length_take]; rfl)) ?_
            with_reducible refine (variant_Find.calls k2 _ _ t377 _ _ l2 t382 _ ?side5 ?side1 ?side2 ?side3 ?side4 A61.out).mono ?_
            (case side1 => repeat (first | exact (Kd.N_reads' HO379.out).2.2 | (with_reducible first | refine Kd.C_alloc ?_ _ | refine Kd.C_drewN ?_ _ | refine Kd.C_drew ?_)))
            (case side2 => exact (Kd.N_reads' HO379.out).2.1)
            (case side3 => repeat (first | exact (Kd.C_below HR2.out HB.out) | (with_reducible first | refine Kd.C_alloc ?_ _ | refine Kd.C_drewN ?_ _ | refine Kd.C_drew ?_)))
            (case side4 => exact HC2.out)
            (case side5 => first | exact HT | exact ⟨Hand.Laid.below HT.out (by repeat (first | (with_reducible first | exact HB.out | apply below_alloc | apply pw_below_drewN | apply below_drew1 | refine below_set ?_ GE361.out) | exact HB.out))⟩)
            rintro e w65 ⟨rfl, hb⟩
            have HS7_:=(hb.cell (World.block_lt_of_cell? _ _ (hHeld.2.2.2.2.2.2.2.1))).trans (hHeld.2.2.2.2.2.2.2.1)
            have HS8_:=(hb.cell (World.block_lt_of_cell? _ _ (hHeld.2.2.2.2.2.2.2.2.1))).trans (hHeld.2.2.2.2.2.2.2.2.1)
            have HS9_:=(hb.cell (World.block_lt_of_cell? _ _ (hHeld.2.2.2.2.2.2.2.2.2.1))).trans (hHeld.2.2.2.2.2.2.2.2.2.1)
            have HS10_:=(hb.cell (World.block_lt_of_cell? _ _ (hHeld.2.2.2.2.2.2.2.2.2.2.1))).trans (hHeld.2.2.2.2.2.2.2.2.2.2.1)
            have HS11_:=(hb.cell (World.block_lt_of_cell? _ _ (hHeld.2.2.2.2.2.2.2.2.2.2.2.1))).trans (hHeld.2.2.2.2.2.2.2.2.2.2.2.1)
            have HS12_:=(hb.cell (World.block_lt_of_cell? _ _ (hHeld.2.2.2.2.2.2.2.2.2.2.2.2.1))).trans (hHeld.2.2.2.2.2.2.2.2.2.2.2.2.1)
            have HS13_:=(hb.cell (World.block_lt_of_cell? _ _ (hHeld.2.2.2.2.2.2.2.2.2.2.2.2.2))).trans (hHeld.2.2.2.2.2.2.2.2.2.2.2.2.2)
            refine ⟨_, rfl, ?_⟩
            have n0_:=Aside0.mk (Kd.V_below (by (with_reducible repeat (first | apply Kd.V_alloc | apply Kd.V_drewN | apply Kd.V_drew)); exact HO_0.out) hb)
            have n1_:=Aside0.mk (Kd.R_below (by (with_reducible repeat (first | apply Kd.R_alloc | apply Kd.R_drewN | apply Kd.R_drew)); exact HO_9.out) hb)
            have n2_:=Aside0.mk (Kd.V_below (by (with_reducible repeat (first | apply Kd.V_alloc | apply Kd.V_drewN | apply Kd.V_drew)); exact HO_362003.out) hb)
            have n3_:=Aside0.mk (Kd.V_below (by (with_reducible repeat (first | apply Kd.V_alloc | apply Kd.V_drewN | apply Kd.V_drew)); exact HO_362006.out) hb)
            have n4_:=Aside0.mk (Kd.R_below (by (with_reducible repeat (first | apply Kd.R_alloc | apply Kd.R_drewN | apply Kd.R_drew)); exact HO376.out) hb)
            have n5_:=Aside0.mk (Kd.N_below (by (with_reducible repeat (first | apply Kd.N_alloc | apply Kd.N_drewN | apply Kd.N_drew)); exact HO379.out) hb)
            have n6_:=Aside0.mk (Kd.V_below (by (with_reducible repeat (first | apply Kd.V_alloc | apply Kd.V_drewN | apply Kd.V_drew)); exact HL380_3.out) hb)
            have n7_:=Aside0.mk (Kd.V_below (by (with_reducible repeat (first | apply Kd.V_alloc | apply Kd.V_drewN | apply Kd.V_drew)); exact HL380_6.out) hb)
            have n8_:=Aside0.mk (blk_below (g:=gb361) (o:=.cells #[.int .i64 a1_0, .string a1_1, .int .i64 a1_2, .slice A1_3 l1_3.length c1_3, .string a1_4, .int .i64 a1_5, .slice Ao47 t374.length co47] 28 (0, 0)) (by (with_reducible repeat (first | refine blk_drewN ?_ _ | refine blk_drew ?_ | refine blk_alloc ?_ _)); exact BK361.out) hb)
            have n9_:=Aside0.mk (Kd.C_below (by repeat (first | (with_reducible exact HR380_3.out) | (with_reducible first | refine Kd.C_alloc ?_ _ | refine Kd.C_drewN ?_ _ | refine Kd.C_drew ?_) | exact HR380_3.out)) hb)
            have n10_:=Aside0.mk (Kd.C_below (by repeat (first | (with_reducible exact HR380_6.out) | (with_reducible first | refine Kd.C_alloc ?_ _ | refine Kd.C_drewN ?_ _ | refine Kd.C_drew ?_) | exact HR380_6.out)) hb)
            have n11_:=Aside0.mk (below_step (by repeat (first | (with_reducible first | exact HB.out | apply below_alloc | apply pw_below_drewN | apply below_drew1 | refine below_set ?_ GE361.out) | exact HB.out)) hb)
            clear HO_0
            clear HO_9
            clear HO_362003
            clear HO_362006
            clear HO376
            clear HO379
            clear HL380_3
            clear HL380_6
            clear BK361
            clear HR380_3
            clear HR380_6
            clear HB
            have HO_0:=n0_
            have HO_9:=n1_
            have HO_362003:=n2_
            have HO_362006:=n3_
            have HO376:=n4_
            have HO379:=n5_
            have HL380_3:=n6_
            have HL380_6:=n7_
            have BK361:=n8_
            have HR380_3:=n9_
            have HR380_6:=n10_
            have HB:=n11_
            clear n0_ n1_ n2_ n3_ n4_ n5_ n6_ n7_ n8_ n9_ n10_ n11_
            (try clear hb)
            (try clear hb2)
            (try clear hk)
            (try clear hi)
            refine hK.out _ _ ⟨(blk_cell BK361.out 0).trans rfl, (blk_cell BK361.out 1).trans rfl, (blk_cell BK361.out 2).trans rfl, (blk_cell BK361.out 3).trans rfl, (blk_cell BK361.out 4).trans rfl, (blk_cell BK361.out 5).trans rfl, (blk_cell BK361.out 6).trans rfl, HS7_, HS8_, HS9_, HS10_, HS11_, HS12_, HS13_⟩ (fun hHeld => ?_)
            clear hK K
            refine norm_ (a':=?_) ?_ ?_
            rotate_left
            ·show Act.put _ (some 77) _ = _
             simp only [Act.put, List.setIfInBounds_toArray, List.set_cons_zero, List.set_cons_succ, i64_w, i32_w]
             rfl
            refine pure_ (i:=20) (N:=some 78) (v:=?_) (a':=?_) #[true, true, true, true, true, true, true, true, true, true, true, true, true, true, true, true, true, true, true, true, true, false] rfl rfl (any_of HT_.out (by kernel_rfl)) (fun _ _ _ h => h) (Or.inl ⟨by rfl, ?_⟩) ?_ ?_
            rotate_left
            ·intro w'
             go_simp
             with_reducible rfl
            rotate_left
            ·simp only [Act.put, List.setIfInBounds_toArray, List.set_cons_zero, List.set_cons_succ, i64_w, i32_w]
             rfl
            refine pure_ (i:=21) (N:=some 79) (v:=?_) (a':=?_) #[true, true, true, true, true, true, true, true, true, true, true, true, true, true, true, true, true, true, true, true, true, true] rfl rfl (any_of HT_.out (by kernel_rfl)) (fun _ _ _ h => h) (Or.inl ⟨by rfl, ?_⟩) ?_ ?_
            rotate_left
            ·intro w'
             go_simp
             with_reducible rfl
            rotate_left
            ·simp only [Act.put, List.setIfInBounds_toArray, List.set_cons_zero, List.set_cons_succ, i64_w, i32_w]
             rfl
            refine done_ (done_of HT_.out (by kernel_rfl)) ?_
            try go_wp2
            go_meet
            case rel => exact ⟨_, ((t382 != 0)), (by first | rfl | (simp; done) | (simp [*]; done) | (simp; exact Hand.isEmpty_ne _)), H', ⟨by have:=HJ4.out; have:=HK2.out; first | omega | exact Nat.le_refl _⟩, ⟨by (with_reducible repeat (first | apply Kd.V_alloc | apply Kd.V_drewN | apply Kd.V_drew)); exact Kd.V_mono HO_0.out (fun _ hk => ⟨hk.1.1, ⟨hk.2, ⟨hk.1.2.2.1, hk.1.2.2.2⟩⟩⟩)⟩, ⟨by (with_reducible repeat (first | apply Kd.N_alloc | apply Kd.N_drewN | apply Kd.N_drew)); exact Kd.N_mono HO379.out (fun _ hk => ⟨hk.1, hk.2.2⟩)⟩, ⟨by (with_reducible repeat (first | apply Kd.V_alloc | apply Kd.V_drewN | apply Kd.V_drew)); exact Kd.V_mono HO_362003.out (fun _ hk => ⟨hk.1.1, ⟨hk.2, ⟨hk.1.2.2.1, hk.1.2.2.2⟩⟩⟩)⟩, ⟨by (with_reducible repeat (first | apply Kd.R_alloc | apply Kd.R_drewN | apply Kd.R_drew)); exact HO376.out⟩, ⟨by (with_reducible repeat (first | refine blk_drewN ?_ _ | refine blk_drew ?_ | refine blk_alloc ?_ _)); exact BK361.out⟩, ⟨by repeat (first | (with_reducible first | exact HB.out | apply below_alloc | apply pw_below_drewN | apply below_drew1 | refine below_set ?_ GE361.out) | exact HB.out)⟩⟩
           ·replace c60:=Bool.eq_false_iff.mpr c60
            subst c60
            have H1 : (depotlaw20_VariantFirst.j2 k2 l0 l3 t377 true a1_0 a1_1 a1_2 l1_3 a1_4 a1_5 t374) = some r:=by rw [if_neg (show ¬ (false = true) by decide)] at H; exact H
            clear H
            have H:=H1
            clear H1
            have H':=Aside0.mk H
            clear H
            try go_wp2
            have n0_:=Aside0.mk (Kd.V_drew HO_0.out)
            have n1_:=Aside0.mk (Kd.R_drew HO_9.out)
            have n2_:=Aside0.mk (Kd.V_drew HO_362003.out)
            have n3_:=Aside0.mk (Kd.V_drew HO_362006.out)
            have n4_:=Aside0.mk (Kd.R_drew HO376.out)
            have n5_:=Aside0.mk (Kd.N_drew HO379.out)
            have n6_:=Aside0.mk (blk_drew BK361.out)
            have n7_:=Aside0.mk (below_drew1 HB.out)
            clear HO_0
            clear HO_9
            clear HO_362003
            clear HO_362006
            clear HO376
            clear HO379
            clear BK361
            clear HB
            have HO_0:=n0_
            have HO_9:=n1_
            have HO_362003:=n2_
            have HO_362006:=n3_
            have HO376:=n4_
            have HO379:=n5_
            have BK361:=n6_
            have HB:=n7_
            clear n0_ n1_ n2_ n3_ n4_ n5_ n6_ n7_
            obtain ⟨Ao67, co67, eo67⟩:=Kd.N_slice HO379.out
            (first | subst eo67 | (injection eo67 with f1_ f2_ f3_; have f4_:=f1_.symm; have f5_:=f3_.symm; clear f1_ f2_ f3_; subst f4_; subst f5_))
            have p380 : 0 ≤ (0 : Int):=(by omega)
            have q380 : 0 < (t377.length : Int):=of_decide_eq_true (by first | (with_reducible assumption) | assumption)
            obtain ⟨ad380, A380_3, c380_3, A380_6, c380_6, e380, hx380_0, hx380_1, hx380_2, hx380_3, hx380_4, hx380_5, hx380_6, hl380_3, hi380_3, hl380_6, hi380_6⟩:=at_T28 (Kd.N_reads' HO379.out).2.2 0 p380 q380
            cases e380
            obtain ⟨ce380, hce380, hMe380, hcc380⟩:=Kd.N_get HO379.out z28 0 p380 (by first | exact q380 | exact of_decide_eq_true (by first | (with_reducible assumption) | assumption) | (have e_:=(Kd.N_reads' HO379.out).1; omega))
            obtain ⟨ua380_3, uc380_3, ua380_6, uc380_6, rfl, ul380_3, ge380_3, ul380_6, ge380_6⟩:=k28_openF hMe380
            have hv380_3:=hcc380 3 _ rfl
            rw [add_field _ _ 3 (by omega)] at hv380_3
            replace hv380_3:=Option.some.inj (hv380_3.symm.trans hx380_3)
            injection hv380_3 with hva_ hvn_ hvc_
            rw [hva_] at ge380_3
            rw [hvc_] at ul380_3
            have HL380_3:=Aside0.mk (show Kd.V k62 62 _ w.heap.size _ _ ((rd_T28 t377 0).f0.f3) from Kd.V_mk ul380_3 ge380_3)
            clear hva_ hvn_ hvc_ ge380_3 ul380_3
            have hv380_6:=hcc380 6 _ rfl
            rw [add_field _ _ 6 (by omega)] at hv380_6
            replace hv380_6:=Option.some.inj (hv380_6.symm.trans hx380_6)
            injection hv380_6 with hva_ hvn_ hvc_
            rw [hva_] at ge380_6
            rw [hvc_] at ul380_6
            have HL380_6:=Aside0.mk (show Kd.V k53 53 _ w.heap.size _ _ ((rd_T28 t377 0).f2) from Kd.V_mk ul380_6 ge380_6)
            clear hva_ hvn_ hvc_ ge380_6 ul380_6
            clear hcc380 hce380
            have qi380 : (0 < t377.length) = True:=eq_true (by omega)
            (try rw [show ((0 : Int)).toNat = 0 from rfl] at hx380_0)
            (try rw [show 0 * 7 = 0 from rfl] at hx380_0)
            (try rw [Addr.add_zero'] at hx380_0)
            (try rw [show ((0 : Int)).toNat = 0 from rfl] at hx380_1)
            (try rw [show 0 * 7 = 0 from rfl] at hx380_1)
            (try rw [Addr.add_zero'] at hx380_1)
            (try rw [show ((0 : Int)).toNat = 0 from rfl] at hx380_2)
            (try rw [show 0 * 7 = 0 from rfl] at hx380_2)
            (try rw [Addr.add_zero'] at hx380_2)
            (try rw [show ((0 : Int)).toNat = 0 from rfl] at hx380_3)
            (try rw [show 0 * 7 = 0 from rfl] at hx380_3)
            (try rw [Addr.add_zero'] at hx380_3)
            (try rw [show ((0 : Int)).toNat = 0 from rfl] at hx380_4)
            (try rw [show 0 * 7 = 0 from rfl] at hx380_4)
            (try rw [Addr.add_zero'] at hx380_4)
            (try rw [show ((0 : Int)).toNat = 0 from rfl] at hx380_5)
            (try rw [show 0 * 7 = 0 from rfl] at hx380_5)
            (try rw [Addr.add_zero'] at hx380_5)
            (try rw [show ((0 : Int)).toNat = 0 from rfl] at hx380_6)
            (try rw [show 0 * 7 = 0 from rfl] at hx380_6)
            (try rw [Addr.add_zero'] at hx380_6)
            have HR380_3:=Aside0.mk hi380_3
            have HC380_3:=Aside0.mk hl380_3
            clear hi380_3 hl380_3
            have HR380_6:=Aside0.mk hi380_6
            have HC380_6:=Aside0.mk hl380_6
            clear hi380_6 hl380_6
            replace p380:=eq_true p380
            replace q380:=eq_true q380
            refine start_ (n:=22) (S:=fun w' => w'.cell? ⟨gb361, 0, none⟩ = some (.int .i64 a1_0) ∧ w'.cell? ⟨gb361, 1, none⟩ = some (.string a1_1) ∧ w'.cell? ⟨gb361, 2, none⟩ = some (.int .i64 a1_2) ∧ w'.cell? ⟨gb361, 3, none⟩ = some (.slice A1_3 l1_3.length c1_3) ∧ w'.cell? ⟨gb361, 4, none⟩ = some (.string a1_4) ∧ w'.cell? ⟨gb361, 5, none⟩ = some (.int .i64 a1_5) ∧ w'.cell? ⟨gb361, 6, none⟩ = some (.slice Ao47 t374.length co47) ∧ w'.cell? ad380 = some (.int .i64 ((rd_T28 t377 0).f0.f0)) ∧ w'.cell? ⟨ad380.block, ad380.off + 1, none⟩ = some (.string ((rd_T28 t377 0).f0.f1)) ∧ w'.cell? ⟨ad380.block, ad380.off + 2, none⟩ = some (.int .i64 ((rd_T28 t377 0).f0.f2)) ∧ w'.cell? ⟨ad380.block, ad380.off + 3, none⟩ = some (.slice A380_3 ((rd_T28 t377 0).f0.f3).length c380_3) ∧ w'.cell? ⟨ad380.block, ad380.off + 4, none⟩ = some (.string ((rd_T28 t377 0).f0.f4)) ∧ w'.cell? ⟨ad380.block, ad380.off + 5, none⟩ = some (.int .i64 ((rd_T28 t377 0).f1)) ∧ w'.cell? ⟨ad380.block, ad380.off + 6, none⟩ = some (.slice A380_6 ((rd_T28 t377 0).f2).length c380_6)) (ds:=[]) #[false, false, false, false, false, false, false, false, false, false, false, false, false, false, false, false, false, false, false, false, false, false] (by kernel_rfl) rfl rfl ⟨(blk_cell BK361.out 0).trans rfl, (blk_cell BK361.out 1).trans rfl, (blk_cell BK361.out 2).trans rfl, (blk_cell BK361.out 3).trans rfl, (blk_cell BK361.out 4).trans rfl, (blk_cell BK361.out 5).trans rfl, (blk_cell BK361.out 6).trans rfl, hx380_0, hx380_1, hx380_2, hx380_3, hx380_4, hx380_5, hx380_6⟩ (fun hHeld => ?_); refine with_tabW depotlaw20_VariantFirst.tab10 depotlaw20_VariantFirst.bits10 (fun HT_ HW_ => ?_)
            generalize w51.drew = w66 at HO_0 HO_9 HO_362003 HO_362006 HO376 HO379 BK361 HB HL380_3 HL380_6 HR380_3 HR380_6 hx380_0 hx380_1 hx380_2 hx380_3 hx380_4 hx380_5 hx380_6 hHeld ⊢
            refine pure_ (i:=0) (N:=some 58) (v:=?_) (a':=?_) #[true, false, false, false, false, false, false, false, false, false, false, false, false, false, false, false, false, false, false, false, false, false] rfl rfl (any_of HT_.out (by kernel_rfl)) (fun _ _ _ h => h) (Or.inl ⟨by rfl, ?_⟩) ?_ ?_
            rotate_left
            ·intro w'
             go_simp
             with_reducible rfl
            rotate_left
            ·simp only [Act.put, List.setIfInBounds_toArray, List.set_cons_zero, List.set_cons_succ, i64_w, i32_w]
             rfl
            refine pure_ (i:=1) (N:=some 59) (v:=?_) (a':=?_) #[true, true, false, false, false, false, false, false, false, false, false, false, false, false, false, false, false, false, false, false, false, false] rfl rfl (any_of HT_.out (by kernel_rfl)) (fun _ _ _ h => h) (Or.inl ⟨by rfl, ?_⟩) ?_ ?_
            rotate_left
            ·intro w'
             go_simp
             with_reducible rfl
            rotate_left
            ·simp only [Act.put, List.setIfInBounds_toArray, List.set_cons_zero, List.set_cons_succ, i64_w, i32_w]
             rfl
            refine pure_ (i:=2) (N:=some 60) (v:=?_) (a':=?_) #[true, true, true, false, false, false, false, false, false, false, false, false, false, false, false, false, false, false, false, false, false, false] rfl rfl (any_of HT_.out (by kernel_rfl)) (fun _ _ _ h => h) (Or.inl ⟨by rfl, ?_⟩) ?_ ?_
            rotate_left
            ·intro w'
             go_simp
             with_reducible rfl
            rotate_left
            ·simp only [Act.put, List.setIfInBounds_toArray, List.set_cons_zero, List.set_cons_succ, i64_w, i32_w]
             rfl
            refine pure_ (i:=3) (N:=some 61) (v:=?_) (a':=?_) #[true, true, true, true, false, false, false, false, false, false, false, false, false, false, false, false, false, false, false, false, false, false] rfl rfl (any_of HT_.out (by kernel_rfl)) (fun _ _ _ h => h) (Or.inl ⟨by rfl, ?_⟩) ?_ ?_
            rotate_left
            ·intro w'
             go_simp
             with_reducible rfl
            rotate_left
            ·simp only [Act.put, List.setIfInBounds_toArray, List.set_cons_zero, List.set_cons_succ, i64_w, i32_w]
             rfl
            refine pure_ (i:=4) (N:=some 62) (v:=?_) (a':=?_) #[true, true, true, true, true, false, false, false, false, false, false, false, false, false, false, false, false, false, false, false, false, false] rfl rfl (any_of HT_.out (by kernel_rfl)) (fun _ _ _ h => h) (Or.inl ⟨by rfl, ?_⟩) ?_ ?_
            rotate_left
            ·intro w'
             go_simp
             with_reducible rfl
            rotate_left
            ·simp only [Act.put, List.setIfInBounds_toArray, List.set_cons_zero, List.set_cons_succ, i64_w, i32_w]
             rfl
            refine pure_ (i:=5) (N:=some 63) (v:=?_) (a':=?_) #[true, true, true, true, true, true, false, false, false, false, false, false, false, false, false, false, false, false, false, false, false, false] rfl rfl (any_of HT_.out (by kernel_rfl)) (fun _ _ _ h => h) (Or.inl ⟨by rfl, ?_⟩) ?_ ?_
            rotate_left
            ·intro w'
             go_simp
             with_reducible rfl
            rotate_left
            ·simp only [Act.put, List.setIfInBounds_toArray, List.set_cons_zero, List.set_cons_succ, i64_w, i32_w]
             rfl
            refine pure_ (i:=6) (N:=some 64) (v:=?_) (a':=?_) #[true, true, true, true, true, true, true, false, false, false, false, false, false, false, false, false, false, false, false, false, false, false] rfl rfl (any_of HT_.out (by kernel_rfl)) (fun _ _ _ h => h) (Or.inl ⟨by rfl, ?_⟩) ?_ ?_
            rotate_left
            ·intro w'
             go_simp
             with_reducible rfl
            rotate_left
            ·simp only [Act.put, List.setIfInBounds_toArray, List.set_cons_zero, List.set_cons_succ, i64_w, i32_w]
             rfl
            refine pure_ (i:=7) (N:=some 65) (v:=?_) (a':=?_) #[true, true, true, true, true, true, true, true, false, false, false, false, false, false, false, false, false, false, false, false, false, false] rfl rfl (any_of HT_.out (by kernel_rfl)) (fun _ _ _ h => h) (Or.inl ⟨by rfl, ?_⟩) ?_ ?_
            rotate_left
            ·intro w'
             go_simp
             with_reducible rfl
            rotate_left
            ·simp only [Act.put, List.setIfInBounds_toArray, List.set_cons_zero, List.set_cons_succ, i64_w, i32_w]
             rfl
            refine pure_ (i:=8) (N:=some 66) (v:=?_) (a':=?_) #[true, true, true, true, true, true, true, true, true, false, false, false, false, false, false, false, false, false, false, false, false, false] rfl rfl (any_of HT_.out (by kernel_rfl)) (fun _ _ _ h => h) (Or.inl ⟨by rfl, ?_⟩) ?_ ?_
            rotate_left
            ·intro w'
             go_simp
             with_reducible rfl
            rotate_left
            ·simp only [Act.put, List.setIfInBounds_toArray, List.set_cons_zero, List.set_cons_succ, i64_w, i32_w]
             rfl
            refine pure_ (i:=9) (N:=some 67) (v:=?_) (a':=?_) #[true, true, true, true, true, true, true, true, true, true, false, false, false, false, false, false, false, false, false, false, false, false] rfl rfl (any_of HT_.out (by kernel_rfl)) (fun _ _ _ h => h) (Or.inl ⟨by rfl, ?_⟩) ?_ ?_
            rotate_left
            ·intro w'
             go_simp
             with_reducible rfl
            rotate_left
            ·simp only [Act.put, List.setIfInBounds_toArray, List.set_cons_zero, List.set_cons_succ, i64_w, i32_w]
             rfl
            refine pure_ (i:=10) (N:=some 68) (v:=?_) (a':=?_) #[true, true, true, true, true, true, true, true, true, true, true, false, false, false, false, false, false, false, false, false, false, false] rfl rfl (any_of HT_.out (by kernel_rfl)) (fun _ _ _ h => h) (Or.inl ⟨by rfl, ?_⟩) ?_ ?_
            rotate_left
            ·intro w'
             go_simp
             with_reducible rfl
            rotate_left
            ·simp only [Act.put, List.setIfInBounds_toArray, List.set_cons_zero, List.set_cons_succ, i64_w, i32_w]
             rfl
            refine take_ (i:=11) (N:=some 69) (v:=?_) (a':=?_) #[true, true, true, true, true, true, true, true, true, true, true, true, false, false, false, false, false, false, false, false, false, false] rfl rfl (take_ofW HT_.out HW_.out (by kernel_rfl)) (fun _ _ _ h => h) (Or.inl ⟨by rfl, ?_⟩) hHeld ?_ ?_
            rotate_left
            ·rintro w' ⟨s0, s1, s2, s3, s4, s5, s6, s7, s8, s9, s10, s11, s12, s13⟩
             go_simp
             with_reducible rfl
            rotate_left
            ·simp only [Act.put, List.setIfInBounds_toArray, List.set_cons_zero, List.set_cons_succ, i64_w, i32_w]
             rfl
            refine take_ (i:=12) (N:=some 70) (v:=?_) (a':=?_) #[true, true, true, true, true, true, true, true, true, true, true, true, true, false, false, false, false, false, false, false, false, false] rfl rfl (take_ofW HT_.out HW_.out (by kernel_rfl)) (fun _ _ _ h => h) (Or.inl ⟨by rfl, ?_⟩) hHeld ?_ ?_
            rotate_left
            ·rintro w' ⟨s0, s1, s2, s3, s4, s5, s6, s7, s8, s9, s10, s11, s12, s13⟩
             go_simp
             with_reducible rfl
            rotate_left
            ·simp only [Act.put, List.setIfInBounds_toArray, List.set_cons_zero, List.set_cons_succ, i64_w, i32_w]
             rfl
            refine one_ (i:=13) (N:=some 71) #[true, true, true, true, true, true, true, true, true, true, true, true, true, true, false, false, false, false, false, false, false, false] rfl rfl (one_of HT_.out (by kernel_rfl)) (by decide) (fun K hK => ?_)
            refine goes_ Tryd.func24 (by kernel_rfl) rfl #[.agg #[.int .i64 ((rd_T28 t377 0).f0.f0), .string ((rd_T28 t377 0).f0.f1), .int .i64 ((rd_T28 t377 0).f0.f2), .slice A380_3 ((rd_T28 t377 0).f0.f3).length c380_3, .string ((rd_T28 t377 0).f0.f4), .int .i64 ((rd_T28 t377 0).f1), .slice A380_6 ((rd_T28 t377 0).f2).length c380_6], .agg #[.int .i64 a1_0, .string a1_1, .int .i64 a1_2, .slice A1_3 l1_3.length c1_3, .string a1_4, .int .i64 a1_5, .slice Ao47 t374.length co47]] (by rfl) rfl rfl (by (try simp only [List.map_toArray, List.map_cons, List.map_nil]); first | done | rfl | (simp only [List.length_drop, List.length_take]; rfl)) ?_
            with_reducible refine (depotref20_One.calls k2 ((rd_T28 t377 0).f0.f0) ((rd_T28 t377 0).f0.f1) ((rd_T28 t377 0).f0.f2) _ _ ((rd_T28 t377 0).f0.f3) ((rd_T28 t377 0).f0.f4) ((rd_T28 t377 0).f1) _ _ ((rd_T28 t377 0).f2) a1_0 a1_1 a1_2 _ _ l1_3 a1_4 a1_5 _ _ t374 false _ ?side1 ?side2 ?side3 ?side4 ?side5 ?side6 ?side7 ?side8 A59.out).mono ?_
            (case side1 => repeat (first | exact (by repeat (first | (with_reducible exact HR380_3.out) | (with_reducible first | refine Kd.C_alloc ?_ _ | refine Kd.C_drewN ?_ _ | refine Kd.C_drew ?_) | exact HR380_3.out)) | (with_reducible first | refine Kd.C_alloc ?_ _ | refine Kd.C_drewN ?_ _ | refine Kd.C_drew ?_)))
            (case side2 => exact HC380_3.out)
            (case side3 => repeat (first | exact (by repeat (first | (with_reducible exact HR380_6.out) | (with_reducible first | refine Kd.C_alloc ?_ _ | refine Kd.C_drewN ?_ _ | refine Kd.C_drew ?_) | exact HR380_6.out)) | (with_reducible first | refine Kd.C_alloc ?_ _ | refine Kd.C_drewN ?_ _ | refine Kd.C_drew ?_)))
            (case side4 => exact HC380_6.out)
            (case side5 => repeat (first | exact (Kd.V_reads' HO_362003.out).2.2 | (with_reducible first | refine Kd.C_alloc ?_ _ | refine Kd.C_drewN ?_ _ | refine Kd.C_drew ?_)))
            (case side6 => exact (Kd.V_reads' HO_362003.out).2.1)
            (case side7 => repeat (first | exact (Kd.R_reads' HO376.out).2.2 | (with_reducible first | refine Kd.C_alloc ?_ _ | refine Kd.C_drewN ?_ _ | refine Kd.C_drew ?_)))
            (case side8 => exact (Kd.R_reads' HO376.out).2.1)
            rintro e w68 ⟨rfl, hb⟩
            have HS7_:=(hb.cell (World.block_lt_of_cell? _ _ (hHeld.2.2.2.2.2.2.2.1))).trans (hHeld.2.2.2.2.2.2.2.1)
            have HS8_:=(hb.cell (World.block_lt_of_cell? _ _ (hHeld.2.2.2.2.2.2.2.2.1))).trans (hHeld.2.2.2.2.2.2.2.2.1)
            have HS9_:=(hb.cell (World.block_lt_of_cell? _ _ (hHeld.2.2.2.2.2.2.2.2.2.1))).trans (hHeld.2.2.2.2.2.2.2.2.2.1)
            have HS10_:=(hb.cell (World.block_lt_of_cell? _ _ (hHeld.2.2.2.2.2.2.2.2.2.2.1))).trans (hHeld.2.2.2.2.2.2.2.2.2.2.1)
            have HS11_:=(hb.cell (World.block_lt_of_cell? _ _ (hHeld.2.2.2.2.2.2.2.2.2.2.2.1))).trans (hHeld.2.2.2.2.2.2.2.2.2.2.2.1)
            have HS12_:=(hb.cell (World.block_lt_of_cell? _ _ (hHeld.2.2.2.2.2.2.2.2.2.2.2.2.1))).trans (hHeld.2.2.2.2.2.2.2.2.2.2.2.2.1)
            have HS13_:=(hb.cell (World.block_lt_of_cell? _ _ (hHeld.2.2.2.2.2.2.2.2.2.2.2.2.2))).trans (hHeld.2.2.2.2.2.2.2.2.2.2.2.2.2)
            refine ⟨_, rfl, ?_⟩
            have n0_:=Aside0.mk (Kd.V_below (by (with_reducible repeat (first | apply Kd.V_alloc | apply Kd.V_drewN | apply Kd.V_drew)); exact HO_0.out) hb)
            have n1_:=Aside0.mk (Kd.R_below (by (with_reducible repeat (first | apply Kd.R_alloc | apply Kd.R_drewN | apply Kd.R_drew)); exact HO_9.out) hb)
            have n2_:=Aside0.mk (Kd.V_below (by (with_reducible repeat (first | apply Kd.V_alloc | apply Kd.V_drewN | apply Kd.V_drew)); exact HO_362003.out) hb)
            have n3_:=Aside0.mk (Kd.V_below (by (with_reducible repeat (first | apply Kd.V_alloc | apply Kd.V_drewN | apply Kd.V_drew)); exact HO_362006.out) hb)
            have n4_:=Aside0.mk (Kd.R_below (by (with_reducible repeat (first | apply Kd.R_alloc | apply Kd.R_drewN | apply Kd.R_drew)); exact HO376.out) hb)
            have n5_:=Aside0.mk (Kd.N_below (by (with_reducible repeat (first | apply Kd.N_alloc | apply Kd.N_drewN | apply Kd.N_drew)); exact HO379.out) hb)
            have n6_:=Aside0.mk (Kd.V_below (by (with_reducible repeat (first | apply Kd.V_alloc | apply Kd.V_drewN | apply Kd.V_drew)); exact HL380_3.out) hb)
            have n7_:=Aside0.mk (Kd.V_below (by (with_reducible repeat (first | apply Kd.V_alloc | apply Kd.V_drewN | apply Kd.V_drew)); exact HL380_6.out) hb)
            have n8_:=Aside0.mk (blk_below (g:=gb361) (o:=.cells #[.int .i64 a1_0, .string a1_1, .int .i64 a1_2, .slice A1_3 l1_3.length c1_3, .string a1_4, .int .i64 a1_5, .slice Ao47 t374.length co47] 28 (0, 0)) (by (with_reducible repeat (first | refine blk_drewN ?_ _ | refine blk_drew ?_ | refine blk_alloc ?_ _)); exact BK361.out) hb)
            have n9_:=Aside0.mk (Kd.C_below (by repeat (first | (with_reducible exact HR380_3.out) | (with_reducible first | refine Kd.C_alloc ?_ _ | refine Kd.C_drewN ?_ _ | refine Kd.C_drew ?_) | exact HR380_3.out)) hb)
            have n10_:=Aside0.mk (Kd.C_below (by repeat (first | (with_reducible exact HR380_6.out) | (with_reducible first | refine Kd.C_alloc ?_ _ | refine Kd.C_drewN ?_ _ | refine Kd.C_drew ?_) | exact HR380_6.out)) hb)
            have n11_:=Aside0.mk (below_step (by repeat (first | (with_reducible first | exact HB.out | apply below_alloc | apply pw_below_drewN | apply below_drew1 | refine below_set ?_ GE361.out) | exact HB.out)) hb)
            clear HO_0
            clear HO_9
            clear HO_362003
            clear HO_362006
            clear HO376
            clear HO379
            clear HL380_3
            clear HL380_6
            clear BK361
            clear HR380_3
            clear HR380_6
            clear HB
            have HO_0:=n0_
            have HO_9:=n1_
            have HO_362003:=n2_
            have HO_362006:=n3_
            have HO376:=n4_
            have HO379:=n5_
            have HL380_3:=n6_
            have HL380_6:=n7_
            have BK361:=n8_
            have HR380_3:=n9_
            have HR380_6:=n10_
            have HB:=n11_
            clear n0_ n1_ n2_ n3_ n4_ n5_ n6_ n7_ n8_ n9_ n10_ n11_
            (try clear hb)
            (try clear hb2)
            (try clear hk)
            (try clear hi)
            refine hK.out _ _ ⟨(blk_cell BK361.out 0).trans rfl, (blk_cell BK361.out 1).trans rfl, (blk_cell BK361.out 2).trans rfl, (blk_cell BK361.out 3).trans rfl, (blk_cell BK361.out 4).trans rfl, (blk_cell BK361.out 5).trans rfl, (blk_cell BK361.out 6).trans rfl, HS7_, HS8_, HS9_, HS10_, HS11_, HS12_, HS13_⟩ (fun hHeld => ?_)
            clear hK K
            refine norm_ (a':=?_) ?_ ?_
            rotate_left
            ·show Act.put _ (some 71) _ = _
             simp only [Act.put, List.setIfInBounds_toArray, List.set_cons_zero, List.set_cons_succ, i64_w, i32_w]
             rfl
            refine pure_ (i:=14) (N:=some 72) (v:=?_) (a':=?_) #[true, true, true, true, true, true, true, true, true, true, true, true, true, true, true, false, false, false, false, false, false, false] rfl rfl (any_of HT_.out (by kernel_rfl)) (fun _ _ _ h => h) (Or.inl ⟨by rfl, ?_⟩) ?_ ?_
            rotate_left
            ·intro w'
             go_simp
             with_reducible rfl
            rotate_left
            ·simp only [Act.put, List.setIfInBounds_toArray, List.set_cons_zero, List.set_cons_succ, i64_w, i32_w]
             rfl
            refine pure_ (i:=15) (N:=some 73) (v:=?_) (a':=?_) #[true, true, true, true, true, true, true, true, true, true, true, true, true, true, true, true, false, false, false, false, false, false] rfl rfl (any_of HT_.out (by kernel_rfl)) (fun _ _ _ h => h) (Or.inl ⟨by rfl, ?_⟩) ?_ ?_
            rotate_left
            ·intro w'
             go_simp
             with_reducible rfl
            rotate_left
            ·simp only [Act.put, List.setIfInBounds_toArray, List.set_cons_zero, List.set_cons_succ, i64_w, i32_w]
             rfl
            refine pure_ (i:=16) (N:=some 74) (v:=?_) (a':=?_) #[true, true, true, true, true, true, true, true, true, true, true, true, true, true, true, true, true, false, false, false, false, false] rfl rfl (any_of HT_.out (by kernel_rfl)) (fun _ _ _ h => h) (Or.inl ⟨by rfl, ?_⟩) ?_ ?_
            rotate_left
            ·intro w'
             go_simp
             with_reducible rfl
            rotate_left
            ·simp only [Act.put, List.setIfInBounds_toArray, List.set_cons_zero, List.set_cons_succ, i64_w, i32_w]
             rfl
            refine pure_ (i:=17) (N:=some 75) (v:=undef) (a':=?_) #[true, true, true, true, true, true, true, true, true, true, true, true, true, true, true, true, true, true, false, false, false, false] rfl rfl (any_of HT_.out (by kernel_rfl)) (fun _ _ _ h => h) (Or.inr ⟨by rfl, rfl⟩) ?_ ?_
            rotate_left
            ·simp only [Act.put, List.setIfInBounds_toArray, List.set_cons_zero, List.set_cons_succ, i64_w, i32_w]
             rfl
            refine pure_ (i:=18) (N:=some 76) (v:=undef) (a':=?_) #[true, true, true, true, true, true, true, true, true, true, true, true, true, true, true, true, true, true, true, false, false, false] rfl rfl (any_of HT_.out (by kernel_rfl)) (fun _ _ _ h => h) (Or.inr ⟨by rfl, rfl⟩) ?_ ?_
            rotate_left
            ·simp only [Act.put, List.setIfInBounds_toArray, List.set_cons_zero, List.set_cons_succ, i64_w, i32_w]
             rfl
            refine pure_ (i:=19) (N:=some 77) (v:=undef) (a':=?_) #[true, true, true, true, true, true, true, true, true, true, true, true, true, true, true, true, true, true, true, true, false, false] rfl rfl (any_of HT_.out (by kernel_rfl)) (fun _ _ _ h => h) (Or.inr ⟨by rfl, rfl⟩) ?_ ?_
            rotate_left
            ·simp only [Act.put, List.setIfInBounds_toArray, List.set_cons_zero, List.set_cons_succ, i64_w, i32_w]
             rfl
            refine pure_ (i:=20) (N:=some 78) (v:=undef) (a':=?_) #[true, true, true, true, true, true, true, true, true, true, true, true, true, true, true, true, true, true, true, true, true, false] rfl rfl (any_of HT_.out (by kernel_rfl)) (fun _ _ _ h => h) (Or.inr ⟨by rfl, rfl⟩) ?_ ?_
            rotate_left
            ·simp only [Act.put, List.setIfInBounds_toArray, List.set_cons_zero, List.set_cons_succ, i64_w, i32_w]
             rfl
            refine pure_ (i:=21) (N:=some 79) (v:=?_) (a':=?_) #[true, true, true, true, true, true, true, true, true, true, true, true, true, true, true, true, true, true, true, true, true, true] rfl rfl (any_of HT_.out (by kernel_rfl)) (fun _ _ _ h => h) (Or.inl ⟨by rfl, ?_⟩) ?_ ?_
            rotate_left
            ·intro w'
             go_simp
             with_reducible rfl
            rotate_left
            ·simp only [Act.put, List.setIfInBounds_toArray, List.set_cons_zero, List.set_cons_succ, i64_w, i32_w]
             rfl
            refine done_ (done_of HT_.out (by kernel_rfl)) ?_
            try go_wp2
            go_meet
            case rel => exact ⟨_, (true), (by first | rfl | (simp; done) | (simp [*]; done) | (simp; exact Hand.isEmpty_ne _)), H', ⟨by have:=HJ4.out; have:=HK2.out; first | omega | exact Nat.le_refl _⟩, ⟨by (with_reducible repeat (first | apply Kd.V_alloc | apply Kd.V_drewN | apply Kd.V_drew)); exact Kd.V_mono HO_0.out (fun _ hk => ⟨hk.1.1, ⟨hk.2, ⟨hk.1.2.2.1, hk.1.2.2.2⟩⟩⟩)⟩, ⟨by (with_reducible repeat (first | apply Kd.N_alloc | apply Kd.N_drewN | apply Kd.N_drew)); exact Kd.N_mono HO379.out (fun _ hk => ⟨hk.1, hk.2.2⟩)⟩, ⟨by (with_reducible repeat (first | apply Kd.V_alloc | apply Kd.V_drewN | apply Kd.V_drew)); exact Kd.V_mono HO_362003.out (fun _ hk => ⟨hk.1.1, ⟨hk.2, ⟨hk.1.2.2.1, hk.1.2.2.2⟩⟩⟩)⟩, ⟨by (with_reducible repeat (first | apply Kd.R_alloc | apply Kd.R_drewN | apply Kd.R_drew)); exact HO376.out⟩, ⟨by (with_reducible repeat (first | refine blk_drewN ?_ _ | refine blk_drew ?_ | refine blk_alloc ?_ _)); exact BK361.out⟩, ⟨by repeat (first | (with_reducible first | exact HB.out | apply below_alloc | apply pw_below_drewN | apply below_drew1 | refine below_set ?_ GE361.out) | exact HB.out)⟩⟩
          ·rw [if_neg c58] at H
           exact absurd H (by simp)
       case rest =>
        clear HC43
        try clear c1
        try clear c2
        try clear p2
        try clear c3
        try clear p3
        try clear q3
        try clear hx3
        try clear qi3
        try clear c5
        try clear c6
        try clear c11
        try clear c24
        try clear c38
        try clear p38
        try clear q38
        try clear hx38
        try clear qi38
        try clear c58
        try clear c60
        try clear hx380_0
        try clear hx380_1
        try clear hx380_2
        try clear hx380_3
        try clear hx380_4
        try clear hx380_5
        try clear hx380_6
        try clear p380
        try clear q380
        try clear HO_0
        try clear HO_9
        try clear HO_11
        try clear HO_362003
        try clear HO_362006
        try clear HO376
        try clear HO379
        try clear BK361
        try clear HB
        obtain ⟨kq, x79_42, rfl, HA, HJ42, HO_0, HO_11, HO_362003, HO_362006, BK361, HB⟩:=hcut
        cases kq with
        | zero => exact absurd HA.out (by simp [depotlaw20_VariantFirst.j2])
        | succ kj42 =>
         have H:=HA.out
         clear HA
         simp only [depotlaw20_VariantFirst.j2] at H
         by_cases c69 : x79_42 = true
         ·subst c69
          have H1 : (some false) = some r:=by rw [if_pos rfl] at H; exact H
          clear H
          have H:=H1
          clear H1
          obtain rfl:=Option.some.inj H
          exact absurd HTRUE.out (by decide)
         ·replace c69:=Bool.eq_false_iff.mpr c69
          subst c69
          have H1 : (depotlaw20_VariantFirst.l1 kj42 l0 l3 t377 1 a1_0 a1_1 a1_2 l1_3 a1_4 a1_5 t374) = some r:=by rw [if_neg (show ¬ (false = true) by decide)] at H; exact H
          clear H
          have H:=H1
          clear H1
          have H':=Aside0.mk H
          clear H
          go_wp2
          go_loopg [12] kj42 (fun kq v12 w' => ∃ (x12_4 : Int), v12 = .int .i64 x12_4 ∧ Aside0 (depotlaw20_VariantFirst.l1 kq l0 l3 t377 x12_4 a1_0 a1_1 a1_2 l1_3 a1_4 a1_5 t374 = some r) ∧ Aside0 (kq ≤ kj42) ∧ Aside0 (Kd.V k28 28 w' w.heap.size (fun k_ => ((P0_ k_ ∨ P1_3_ k_ ∨ P1_6_ k_) ∨ w.heap.size ≤ k_) ∧ some k_ ≠ (v378 : Value).ownBlock ∧ some k_ ≠ ((.slice Ao47 t374.length co47) : Value).ownBlock ∧ k_ ≠ gb361) (.slice A0 l0.length c0) l0) ∧ Aside0 (Kd.N k28 28 w' w.heap.size (fun k_ => ((P0_ k_ ∨ P1_3_ k_ ∨ P1_6_ k_) ∨ w.heap.size ≤ k_) ∧ k_ ≠ gb361) v378 t377) ∧ Aside0 (Kd.V k62 62 w' w.heap.size (fun k_ => ((P0_ k_ ∨ P1_3_ k_ ∨ P1_6_ k_) ∨ w.heap.size ≤ k_) ∧ some k_ ≠ (v378 : Value).ownBlock ∧ some k_ ≠ ((.slice Ao47 t374.length co47) : Value).ownBlock ∧ k_ ≠ gb361) (.slice A1_3 l1_3.length c1_3) l1_3) ∧ Aside0 (Kd.R k53 53 w' w.heap.size (fun k_ => (w.heap.size ≤ k_)) (.slice Ao47 t374.length co47) t374) ∧ Aside0 (w'.heap[gb361]? = some (.cells #[.int .i64 a1_0, .string a1_1, .int .i64 a1_2, (.slice A1_3 l1_3.length c1_3), .string a1_4, .int .i64 a1_5, (.slice Ao47 t374.length co47)] 28 (0, 0))) ∧ Aside0 (Below w.heap.size w w'))
          case atStart => exact ⟨(1), (by first | rfl | (simp; done) | (simp [*]; done) | (simp; exact Hand.isEmpty_ne _)), H', ⟨Nat.le_refl _⟩, ⟨by (with_reducible repeat (first | apply Kd.V_alloc | apply Kd.V_drewN | apply Kd.V_drew)); exact HO_0.out⟩, ⟨by (with_reducible repeat (first | apply Kd.N_alloc | apply Kd.N_drewN | apply Kd.N_drew)); exact HO_11.out⟩, ⟨by (with_reducible repeat (first | apply Kd.V_alloc | apply Kd.V_drewN | apply Kd.V_drew)); exact HO_362003.out⟩, ⟨by (with_reducible repeat (first | apply Kd.R_alloc | apply Kd.R_drewN | apply Kd.R_drew)); exact HO_362006.out⟩, ⟨by (with_reducible repeat (first | refine blk_drewN ?_ _ | refine blk_drew ?_ | refine blk_alloc ?_ _)); exact BK361.out⟩, ⟨by repeat (first | (with_reducible first | exact HB.out | apply below_alloc | apply pw_below_drewN | apply below_drew1 | refine below_set ?_ GE361.out) | exact HB.out)⟩⟩
          case round =>
           clear H'
           try clear c1
           try clear c2
           try clear p2
           try clear c3
           try clear p3
           try clear q3
           try clear hx3
           try clear qi3
           try clear c5
           try clear c6
           try clear c11
           try clear c24
           try clear c38
           try clear p38
           try clear q38
           try clear hx38
           try clear qi38
           try clear c58
           try clear c60
           try clear c69
           try clear hx380_0
           try clear hx380_1
           try clear hx380_2
           try clear hx380_3
           try clear hx380_4
           try clear hx380_5
           try clear hx380_6
           try clear p2
           try clear p3
           try clear p38
           try clear p380
           try clear q3
           try clear q38
           try clear q380
           obtain ⟨x12_4, rfl, HA, HK4, HO_0, HO_11, HO_362003, HO_362006, BK361, HB⟩:=hrel
           cases gk with
           | zero => exact absurd HA.out (by simp [depotlaw20_VariantFirst.l1])
           | succ k4 =>
            have H:=HA.out
            clear HA
            simp only [depotlaw20_VariantFirst.l1] at H
            by_cases c70 : x12_4 < (t377.length : Int)
            ·rw [if_pos c70] at H
             have c70b0 : decide (x12_4 < (t377.length : Int)) = true:=decide_eq_true c70
             clear c70
             by_cases c71 : 0 ≤ x12_4
             ·rw [if_pos c71] at H
              have c71b0 : decide (0 ≤ x12_4) = true:=decide_eq_true c71
              clear c71
              replace H:=Option.bind_eq_some_iff.mp H
              obtain ⟨t384, A720, H⟩:=H
              replace H : (if t384 = true then (some false) else (depotlaw20_VariantFirst.l1 k4 l0 l3 t377 (wrap64 (x12_4 + 1)) a1_0 a1_1 a1_2 l1_3 a1_4 a1_5 t374)) = some r:=H
              have A72:=Aside0.mk A720
              clear A720
              by_cases c73 : t384 = true
              ·subst c73
               have H1 : (some false) = some r:=by rw [if_pos rfl] at H; exact H
               clear H
               have H:=H1
               clear H1
               obtain rfl:=Option.some.inj H
               exact absurd HTRUE.out (by decide)
              ·replace c73:=Bool.eq_false_iff.mpr c73
               subst c73
               have H1 : (depotlaw20_VariantFirst.l1 k4 l0 l3 t377 (wrap64 (x12_4 + 1)) a1_0 a1_1 a1_2 l1_3 a1_4 a1_5 t374) = some r:=by rw [if_neg (show ¬ (false = true) by decide)] at H; exact H
               clear H
               have H:=H1
               clear H1
               have H':=Aside0.mk H
               clear H
               obtain ⟨Ao74, co74, eo74⟩:=Kd.N_slice HO_11.out
               subst eo74
               try go_wp2
               have n0_:=Aside0.mk (Kd.V_drew HO_0.out)
               have n1_:=Aside0.mk (Kd.N_drew HO_11.out)
               have n2_:=Aside0.mk (Kd.V_drew HO_362003.out)
               have n3_:=Aside0.mk (Kd.R_drew HO_362006.out)
               have n4_:=Aside0.mk (blk_drew BK361.out)
               have n5_:=Aside0.mk (below_drew1 HB.out)
               clear HO_0
               clear HO_11
               clear HO_362003
               clear HO_362006
               clear BK361
               clear HB
               have HO_0:=n0_
               have HO_11:=n1_
               have HO_362003:=n2_
               have HO_362006:=n3_
               have BK361:=n4_
               have HB:=n5_
               clear n0_ n1_ n2_ n3_ n4_ n5_
               have p383 : 0 ≤ (x12_4 : Int):=of_decide_eq_true (by first | (with_reducible assumption) | assumption)
               have q383 : x12_4 < (t377.length : Int):=of_decide_eq_true (by first | (with_reducible assumption) | assumption)
               obtain ⟨ad383, A383_3, c383_3, A383_6, c383_6, e383, hx383_0, hx383_1, hx383_2, hx383_3, hx383_4, hx383_5, hx383_6, hl383_3, hi383_3, hl383_6, hi383_6⟩:=at_T28 (Kd.N_reads' HO_11.out).2.2 x12_4 p383 q383
               cases e383
               obtain ⟨ce383, hce383, hMe383, hcc383⟩:=Kd.N_get HO_11.out z28 x12_4 p383 (by first | exact q383 | exact of_decide_eq_true (by first | (with_reducible assumption) | assumption) | (have e_:=(Kd.N_reads' HO_11.out).1; omega))
               obtain ⟨ua383_3, uc383_3, ua383_6, uc383_6, rfl, ul383_3, ge383_3, ul383_6, ge383_6⟩:=k28_openF hMe383
               have hv383_3:=hcc383 3 _ rfl
               rw [add_field _ _ 3 (by omega)] at hv383_3
               replace hv383_3:=Option.some.inj (hv383_3.symm.trans hx383_3)
               injection hv383_3 with hva_ hvn_ hvc_
               rw [hva_] at ge383_3
               rw [hvc_] at ul383_3
               have HL383_3:=Aside0.mk (show Kd.V k62 62 _ w.heap.size _ _ ((rd_T28 t377 x12_4).f0.f3) from Kd.V_mk ul383_3 ge383_3)
               clear hva_ hvn_ hvc_ ge383_3 ul383_3
               have hv383_6:=hcc383 6 _ rfl
               rw [add_field _ _ 6 (by omega)] at hv383_6
               replace hv383_6:=Option.some.inj (hv383_6.symm.trans hx383_6)
               injection hv383_6 with hva_ hvn_ hvc_
               rw [hva_] at ge383_6
               rw [hvc_] at ul383_6
               have HL383_6:=Aside0.mk (show Kd.V k53 53 _ w.heap.size _ _ ((rd_T28 t377 x12_4).f2) from Kd.V_mk ul383_6 ge383_6)
               clear hva_ hvn_ hvc_ ge383_6 ul383_6
               clear hcc383 hce383
               have HR383_3:=Aside0.mk hi383_3
               have HC383_3:=Aside0.mk hl383_3
               clear hi383_3 hl383_3
               have HR383_6:=Aside0.mk hi383_6
               have HC383_6:=Aside0.mk hl383_6
               clear hi383_6 hl383_6
               replace p383:=eq_true p383
               replace q383:=eq_true q383
               refine start_ (n:=8) (S:=fun w' => w'.cell? ⟨gb361, 0, none⟩ = some (.int .i64 a1_0) ∧ w'.cell? ⟨gb361, 1, none⟩ = some (.string a1_1) ∧ w'.cell? ⟨gb361, 2, none⟩ = some (.int .i64 a1_2) ∧ w'.cell? ⟨gb361, 3, none⟩ = some (.slice A1_3 l1_3.length c1_3) ∧ w'.cell? ⟨gb361, 4, none⟩ = some (.string a1_4) ∧ w'.cell? ⟨gb361, 5, none⟩ = some (.int .i64 a1_5) ∧ w'.cell? ⟨gb361, 6, none⟩ = some (.slice Ao47 t374.length co47) ∧ w'.cell? (ad383.add ((x12_4).toNat * 7)) = some (.int .i64 ((rd_T28 t377 x12_4).f0.f0)) ∧ w'.cell? ⟨(ad383.add ((x12_4).toNat * 7)).block, (ad383.add ((x12_4).toNat * 7)).off + 1, none⟩ = some (.string ((rd_T28 t377 x12_4).f0.f1)) ∧ w'.cell? ⟨(ad383.add ((x12_4).toNat * 7)).block, (ad383.add ((x12_4).toNat * 7)).off + 2, none⟩ = some (.int .i64 ((rd_T28 t377 x12_4).f0.f2)) ∧ w'.cell? ⟨(ad383.add ((x12_4).toNat * 7)).block, (ad383.add ((x12_4).toNat * 7)).off + 3, none⟩ = some (.slice A383_3 ((rd_T28 t377 x12_4).f0.f3).length c383_3) ∧ w'.cell? ⟨(ad383.add ((x12_4).toNat * 7)).block, (ad383.add ((x12_4).toNat * 7)).off + 4, none⟩ = some (.string ((rd_T28 t377 x12_4).f0.f4)) ∧ w'.cell? ⟨(ad383.add ((x12_4).toNat * 7)).block, (ad383.add ((x12_4).toNat * 7)).off + 5, none⟩ = some (.int .i64 ((rd_T28 t377 x12_4).f1)) ∧ w'.cell? ⟨(ad383.add ((x12_4).toNat * 7)).block, (ad383.add ((x12_4).toNat * 7)).off + 6, none⟩ = some (.slice A383_6 ((rd_T28 t377 x12_4).f2).length c383_6)) (ds:=[]) #[false, false, false, false, false, false, false, false] (by kernel_rfl) rfl rfl ⟨(blk_cell BK361.out 0).trans rfl, (blk_cell BK361.out 1).trans rfl, (blk_cell BK361.out 2).trans rfl, (blk_cell BK361.out 3).trans rfl, (blk_cell BK361.out 4).trans rfl, (blk_cell BK361.out 5).trans rfl, (blk_cell BK361.out 6).trans rfl, hx383_0, hx383_1, hx383_2, hx383_3, hx383_4, hx383_5, hx383_6⟩ (fun hHeld => ?_); refine with_tabW depotlaw20_VariantFirst.tab15 depotlaw20_VariantFirst.bits15 (fun HT_ HW_ => ?_)
               generalize wr.drew = w75 at HO_0 HO_11 HO_362003 HO_362006 BK361 HB HL383_3 HL383_6 HR383_3 HR383_6 hx383_0 hx383_1 hx383_2 hx383_3 hx383_4 hx383_5 hx383_6 hHeld ⊢
               refine pure_ (i:=0) (N:=some 86) (v:=?_) (a':=?_) #[true, false, false, false, false, false, false, false] rfl rfl (any_of HT_.out (by kernel_rfl)) (fun _ _ _ h => h) (Or.inl ⟨by rfl, ?_⟩) ?_ ?_
               rotate_left
               ·intro w'
                go_simp
                with_reducible rfl
               rotate_left
               ·simp only [Act.put, List.setIfInBounds_toArray, List.set_cons_zero, List.set_cons_succ, i64_w, i32_w]
                rfl
               refine pure_ (i:=1) (N:=some 87) (v:=?_) (a':=?_) #[true, true, false, false, false, false, false, false] rfl rfl (any_of HT_.out (by kernel_rfl)) (fun _ _ _ h => h) (Or.inl ⟨by rfl, ?_⟩) ?_ ?_
               rotate_left
               ·intro w'
                go_simp
                with_reducible rfl
               rotate_left
               ·simp only [Act.put, List.setIfInBounds_toArray, List.set_cons_zero, List.set_cons_succ, i64_w, i32_w]
                rfl
               refine pure_ (i:=2) (N:=some 88) (v:=?_) (a':=?_) #[true, true, true, false, false, false, false, false] rfl rfl (any_of HT_.out (by kernel_rfl)) (fun _ _ _ h => h) (Or.inl ⟨by rfl, ?_⟩) ?_ ?_
               rotate_left
               ·intro w'
                go_simp
                with_reducible rfl
               rotate_left
               ·simp only [Act.put, List.setIfInBounds_toArray, List.set_cons_zero, List.set_cons_succ, i64_w, i32_w]
                rfl
               refine pure_ (i:=3) (N:=some 89) (v:=?_) (a':=?_) #[true, true, true, true, false, false, false, false] rfl rfl (any_of HT_.out (by kernel_rfl)) (fun _ _ _ h => h) (Or.inl ⟨by rfl, ?_⟩) ?_ ?_
               rotate_left
               ·intro w'
                go_simp
                with_reducible rfl
               rotate_left
               ·simp only [Act.put, List.setIfInBounds_toArray, List.set_cons_zero, List.set_cons_succ, i64_w, i32_w]
                rfl
               refine pure_ (i:=5) (N:=some 91) (v:=?_) (a':=?_) #[true, true, true, true, false, true, false, false] rfl rfl (any_of HT_.out (by kernel_rfl)) (fun _ _ _ h => h) (Or.inl ⟨by rfl, ?_⟩) ?_ ?_
               rotate_left
               ·intro w'
                go_simp
                with_reducible rfl
               rotate_left
               ·simp only [Act.put, List.setIfInBounds_toArray, List.set_cons_zero, List.set_cons_succ, i64_w, i32_w]
                rfl
               refine take_ (i:=4) (N:=some 90) (v:=?_) (a':=?_) #[true, true, true, true, true, true, false, false] rfl rfl (take_ofW HT_.out HW_.out (by kernel_rfl)) (fun _ _ _ h => h) (Or.inl ⟨by rfl, ?_⟩) hHeld ?_ ?_
               rotate_left
               ·rintro w' ⟨s0, s1, s2, s3, s4, s5, s6, s7, s8, s9, s10, s11, s12, s13⟩
                go_simp
                with_reducible rfl
               rotate_left
               ·simp only [Act.put, List.setIfInBounds_toArray, List.set_cons_zero, List.set_cons_succ, i64_w, i32_w]
                rfl
               refine take_ (i:=6) (N:=some 92) (v:=?_) (a':=?_) #[true, true, true, true, true, true, true, false] rfl rfl (take_ofW HT_.out HW_.out (by kernel_rfl)) (fun _ _ _ h => h) (Or.inl ⟨by rfl, ?_⟩) hHeld ?_ ?_
               rotate_left
               ·rintro w' ⟨s0, s1, s2, s3, s4, s5, s6, s7, s8, s9, s10, s11, s12, s13⟩
                go_simp
                with_reducible rfl
               rotate_left
               ·simp only [Act.put, List.setIfInBounds_toArray, List.set_cons_zero, List.set_cons_succ, i64_w, i32_w]
                rfl
               refine one_ (i:=7) (N:=some 93) #[true, true, true, true, true, true, true, true] rfl rfl (one_of HT_.out (by kernel_rfl)) (by decide) (fun K hK => ?_)
               refine goes_ Tryd.func25 (by kernel_rfl) rfl #[.slice A383_6 ((rd_T28 t377 x12_4).f2).length c383_6, .slice Ao47 t374.length co47] (by rfl) rfl rfl (by (try simp only [List.map_toArray, List.map_cons, List.map_nil]); first | done | rfl | (simp only [List.length_drop, List.length_take]; rfl)) ?_
               with_reducible refine (depotref15_Same.calls k4 _ _ ((rd_T28 t377 x12_4).f2) _ _ t374 false _ ?side1 ?side2 ?side3 ?side4 A72.out).mono ?_
               (case side1 => repeat (first | exact (by repeat (first | (with_reducible exact HR383_6.out) | (with_reducible first | refine Kd.C_alloc ?_ _ | refine Kd.C_drewN ?_ _ | refine Kd.C_drew ?_) | exact HR383_6.out)) | (with_reducible first | refine Kd.C_alloc ?_ _ | refine Kd.C_drewN ?_ _ | refine Kd.C_drew ?_)))
               (case side2 => exact HC383_6.out)
               (case side3 => repeat (first | exact (Kd.R_reads' HO_362006.out).2.2 | (with_reducible first | refine Kd.C_alloc ?_ _ | refine Kd.C_drewN ?_ _ | refine Kd.C_drew ?_)))
               (case side4 => exact (Kd.R_reads' HO_362006.out).2.1)
               rintro e w' ⟨rfl, ⟨nd, rfl⟩⟩
               refine ⟨_, rfl, ?_⟩
               refine hK.out _ _ ⟨(blk_cell BK361.out 0).trans rfl, (blk_cell BK361.out 1).trans rfl, (blk_cell BK361.out 2).trans rfl, (blk_cell BK361.out 3).trans rfl, (blk_cell BK361.out 4).trans rfl, (blk_cell BK361.out 5).trans rfl, (blk_cell BK361.out 6).trans rfl, hHeld.2.2.2.2.2.2.2.1, hHeld.2.2.2.2.2.2.2.2.1, hHeld.2.2.2.2.2.2.2.2.2.1, hHeld.2.2.2.2.2.2.2.2.2.2.1, hHeld.2.2.2.2.2.2.2.2.2.2.2.1, hHeld.2.2.2.2.2.2.2.2.2.2.2.2.1, hHeld.2.2.2.2.2.2.2.2.2.2.2.2.2⟩ (fun hHeld => ?_)
               clear hK K
               refine norm_ (a':=?_) ?_ ?_
               rotate_left
               ·show Act.put _ (some 93) _ = _
                simp only [Act.put, List.setIfInBounds_toArray, List.set_cons_zero, List.set_cons_succ, i64_w, i32_w]
                rfl
               refine done_ (done_of HT_.out (by kernel_rfl)) ?_
               try go_wp2
               go_roundg k4
               case measure => have:=HJ4.out; have:=HK2.out; have:=HJ42.out; have:=HK4.out; omega
               case rel => exact ⟨(wrap64 (x12_4 + 1)), (by first | rfl | (simp; done) | (simp [*]; done) | (simp; exact Hand.isEmpty_ne _)), H', ⟨by have:=HJ4.out; have:=HK2.out; have:=HJ42.out; have:=HK4.out; omega⟩, ⟨by (with_reducible repeat (first | apply Kd.V_alloc | apply Kd.V_drewN | apply Kd.V_drew)); exact HO_0.out⟩, ⟨by (with_reducible repeat (first | apply Kd.N_alloc | apply Kd.N_drewN | apply Kd.N_drew)); exact HO_11.out⟩, ⟨by (with_reducible repeat (first | apply Kd.V_alloc | apply Kd.V_drewN | apply Kd.V_drew)); exact HO_362003.out⟩, ⟨by (with_reducible repeat (first | apply Kd.R_alloc | apply Kd.R_drewN | apply Kd.R_drew)); exact HO_362006.out⟩, ⟨by (with_reducible repeat (first | refine blk_drewN ?_ _ | refine blk_drew ?_ | refine blk_alloc ?_ _)); exact BK361.out⟩, ⟨by repeat (first | (with_reducible first | exact HB.out | apply below_alloc | apply pw_below_drewN | apply below_drew1 | refine below_set ?_ GE361.out) | exact HB.out)⟩⟩
             ·rw [if_neg c71] at H
              exact absurd H (by simp)
            ·rw [if_neg c70] at H
             have c70b0 : decide (x12_4 < (t377.length : Int)) = false:=decide_eq_false c70
             clear c70
             replace H:=Option.bind_eq_some_iff.mp H
             obtain ⟨t385, A760, H⟩:=H
             try dsimp only at H
             have A76:=Aside0.mk A760
             clear A760
             by_cases c77 : t385 = true
             ·subst c77
              have H1 : ((variant_Find.f k4 t377 l3).bind fun t386 => (if t386 = 0 then ((depotlaw20_variants.f k4).bind fun t387 => (some t387)) else (some false))) = some r:=by rw [if_pos rfl] at H; exact H
              clear H
              have H:=H1
              clear H1
              replace H:=Option.bind_eq_some_iff.mp H
              obtain ⟨t386, A780, H⟩:=H
              replace H : (if t386 = 0 then ((depotlaw20_variants.f k4).bind fun t387 => (some t387)) else (some false)) = some r:=H
              have A78:=Aside0.mk A780
              clear A780
              by_cases c79 : t386 = 0
              ·rw [if_pos c79] at H
               have c79b0 : (t386 == 0) = true:=beq_iff_eq.mpr c79
               have c79b1 : (t386 != 0) = false:=bne_eq_false_iff_eq.mpr c79
               clear c79
               replace H:=Option.bind_eq_some_iff.mp H
               obtain ⟨t387, A800, H⟩:=H
               replace H : (some t387) = some r:=H
               have A80:=Aside0.mk A800
               clear A800
               obtain rfl:=Option.some.inj H
               obtain ⟨Ao81, co81, eo81⟩:=Kd.N_slice HO_11.out
               subst eo81
               have hcz82_0 : wr.cell? ⟨gb361, 0, none⟩ = some (.int .i64 a1_0):=(blk_cell BK361.out 0).trans rfl
               have hcz82_1 : wr.cell? ⟨gb361, 1, none⟩ = some (.string a1_1):=(blk_cell BK361.out 1).trans rfl
               have hcz82_2 : wr.cell? ⟨gb361, 2, none⟩ = some (.int .i64 a1_2):=(blk_cell BK361.out 2).trans rfl
               have hcz82_3 : wr.cell? ⟨gb361, 3, none⟩ = some (.slice A1_3 l1_3.length c1_3):=(blk_cell BK361.out 3).trans rfl
               have hcz82_4 : wr.cell? ⟨gb361, 4, none⟩ = some (.string a1_4):=(blk_cell BK361.out 4).trans rfl
               have hcz82_5 : wr.cell? ⟨gb361, 5, none⟩ = some (.int .i64 a1_5):=(blk_cell BK361.out 5).trans rfl
               have hcz82_6 : wr.cell? ⟨gb361, 6, none⟩ = some (.slice Ao47 t374.length co47):=(blk_cell BK361.out 6).trans rfl
               have hfz82_0:=blk_frozen BK361.out 0
               have hfz82_1:=blk_frozen BK361.out 1
               have hfz82_2:=blk_frozen BK361.out 2
               have hfz82_3:=blk_frozen BK361.out 3
               have hfz82_4:=blk_frozen BK361.out 4
               have hfz82_5:=blk_frozen BK361.out 5
               have hfz82_6:=blk_frozen BK361.out 6
               go_wp2_with (first | ((with_reducible refine gate_callee (f:=26) rfl ?_); refine goesL_ (some 97) rfl rfl Tryd.func26 (by kernel_rfl) rfl #[.slice Ao47 t374.length co47, .slice A3 l3.length c3] rfl (by (try simp only [List.map_toArray, List.map_cons, List.map_nil]); first | done | rfl | (simp only [List.length_drop, List.length_take]; rfl)) ?_; (with_reducible refine (vary_Match.calls k4 _ _ t374 _ _ l3 true _ ?side5 ?side1 ?side2 ?side3 ?side4 A76.out).mono ?_); (case side1 => repeat (first | exact (Kd.R_reads' HO_362006.out).2.2 | (with_reducible first | refine Kd.C_alloc ?_ _ | refine Kd.C_drewN ?_ _ | refine Kd.C_drew ?_))); (case side2 => exact (Kd.R_reads' HO_362006.out).2.1); (case side3 => repeat (first | exact (Kd.C_below HR3.out HB.out) | (with_reducible first | refine Kd.C_alloc ?_ _ | refine Kd.C_drewN ?_ _ | refine Kd.C_drew ?_))); (case side4 => exact HC3.out); (case side5 => first | exact HT | exact ⟨Hand.Laid.below HT.out (by repeat (first | (with_reducible first | exact HB.out | apply below_alloc | apply pw_below_drewN | apply below_drew1 | refine below_set ?_ GE361.out) | exact HB.out))⟩); rintro e w83 ⟨rfl, hb⟩; refine ⟨_, rfl, ?_⟩; have n0_:=Aside0.mk (Kd.V_below (by (with_reducible repeat (first | apply Kd.V_alloc | apply Kd.V_drewN | apply Kd.V_drew)); exact HO_0.out) hb); have n1_:=Aside0.mk (Kd.N_below (by (with_reducible repeat (first | apply Kd.N_alloc | apply Kd.N_drewN | apply Kd.N_drew)); exact HO_11.out) hb); have n2_:=Aside0.mk (Kd.V_below (by (with_reducible repeat (first | apply Kd.V_alloc | apply Kd.V_drewN | apply Kd.V_drew)); exact HO_362003.out) hb); have n3_:=Aside0.mk (Kd.R_below (by (with_reducible repeat (first | apply Kd.R_alloc | apply Kd.R_drewN | apply Kd.R_drew)); exact HO_362006.out) hb); have n4_:=Aside0.mk (blk_below (g:=gb361) (o:=.cells #[.int .i64 a1_0, .string a1_1, .int .i64 a1_2, .slice A1_3 l1_3.length c1_3, .string a1_4, .int .i64 a1_5, .slice Ao47 t374.length co47] 28 (0, 0)) (by (with_reducible repeat (first | refine blk_drewN ?_ _ | refine blk_drew ?_ | refine blk_alloc ?_ _)); exact BK361.out) hb); have n5_:=Aside0.mk (below_step (by repeat (first | (with_reducible first | exact HB.out | apply below_alloc | apply pw_below_drewN | apply below_drew1 | refine below_set ?_ GE361.out) | exact HB.out)) hb); clear HO_0; clear HO_11; clear HO_362003; clear HO_362006; clear BK361; clear HB; have HO_0:=n0_; have HO_11:=n1_; have HO_362003:=n2_; have HO_362006:=n3_; have BK361:=n4_; have HB:=n5_; clear n0_ n1_ n2_ n3_ n4_ n5_; (try clear hb); (try clear hb2); (try clear hk); (try clear hi)) | ((with_reducible refine gate_callee (f:=11) rfl ?_); refine goesL_ (some 100) rfl rfl Tryd.func11 (by kernel_rfl) rfl #[.slice Ao81 t377.length co81, .slice A3 l3.length c3] rfl (by (try simp only [List.map_toArray, List.map_cons, List.map_nil]); first | done | rfl | (simp only [List.length_drop, List.length_take]; rfl)) ?_; (with_reducible refine (variant_Find.calls k4 _ _ t377 _ _ l3 t386 _ ?side5 ?side1 ?side2 ?side3 ?side4 A78.out).mono ?_); (case side1 => repeat (first | exact (Kd.N_reads' HO_11.out).2.2 | (with_reducible first | refine Kd.C_alloc ?_ _ | refine Kd.C_drewN ?_ _ | refine Kd.C_drew ?_))); (case side2 => exact (Kd.N_reads' HO_11.out).2.1); (case side3 => repeat (first | exact (Kd.C_below HR3.out HB.out) | (with_reducible first | refine Kd.C_alloc ?_ _ | refine Kd.C_drewN ?_ _ | refine Kd.C_drew ?_))); (case side4 => exact HC3.out); (case side5 => first | exact HT | exact ⟨Hand.Laid.below HT.out (by repeat (first | (with_reducible first | exact HB.out | apply below_alloc | apply pw_below_drewN | apply below_drew1 | refine below_set ?_ GE361.out) | exact HB.out))⟩); rintro e w84 ⟨rfl, hb⟩; refine ⟨_, rfl, ?_⟩; have n0_:=Aside0.mk (Kd.V_below (by (with_reducible repeat (first | apply Kd.V_alloc | apply Kd.V_drewN | apply Kd.V_drew)); exact HO_0.out) hb); have n1_:=Aside0.mk (Kd.N_below (by (with_reducible repeat (first | apply Kd.N_alloc | apply Kd.N_drewN | apply Kd.N_drew)); exact HO_11.out) hb); have n2_:=Aside0.mk (Kd.V_below (by (with_reducible repeat (first | apply Kd.V_alloc | apply Kd.V_drewN | apply Kd.V_drew)); exact HO_362003.out) hb); have n3_:=Aside0.mk (Kd.R_below (by (with_reducible repeat (first | apply Kd.R_alloc | apply Kd.R_drewN | apply Kd.R_drew)); exact HO_362006.out) hb); have n4_:=Aside0.mk (blk_below (g:=gb361) (o:=.cells #[.int .i64 a1_0, .string a1_1, .int .i64 a1_2, .slice A1_3 l1_3.length c1_3, .string a1_4, .int .i64 a1_5, .slice Ao47 t374.length co47] 28 (0, 0)) (by (with_reducible repeat (first | refine blk_drewN ?_ _ | refine blk_drew ?_ | refine blk_alloc ?_ _)); exact BK361.out) hb); have n5_:=Aside0.mk (below_step (by repeat (first | (with_reducible first | exact HB.out | apply below_alloc | apply pw_below_drewN | apply below_drew1 | refine below_set ?_ GE361.out) | exact HB.out)) hb); clear HO_0; clear HO_11; clear HO_362003; clear HO_362006; clear BK361; clear HB; have HO_0:=n0_; have HO_11:=n1_; have HO_362003:=n2_; have HO_362006:=n3_; have BK361:=n4_; have HB:=n5_; clear n0_ n1_ n2_ n3_ n4_ n5_; (try clear hb); (try clear hb2); (try clear hk); (try clear hi)) | (go_at_call 10; (with_reducible refine (depotlaw20_variants.calls k4  t387 _ ?side2 ?side1 A80.out).mono ?_); (case side1 => first | exact HT | exact ⟨Hand.Laid.below HT.out (by repeat (first | (with_reducible first | exact HB.out | apply below_alloc | apply pw_below_drewN | apply below_drew1 | refine below_set ?_ GE361.out) | exact HB.out))⟩); (case side2 => first | exact ⟨rfl⟩ | exact HTRUE); rintro e w85 ⟨rfl, hb⟩; have n0_:=Aside0.mk (Kd.V_below (by (with_reducible repeat (first | apply Kd.V_alloc | apply Kd.V_drewN | apply Kd.V_drew)); exact HO_0.out) hb); have n1_:=Aside0.mk (Kd.N_below (by (with_reducible repeat (first | apply Kd.N_alloc | apply Kd.N_drewN | apply Kd.N_drew)); exact HO_11.out) hb); have n2_:=Aside0.mk (Kd.V_below (by (with_reducible repeat (first | apply Kd.V_alloc | apply Kd.V_drewN | apply Kd.V_drew)); exact HO_362003.out) hb); have n3_:=Aside0.mk (Kd.R_below (by (with_reducible repeat (first | apply Kd.R_alloc | apply Kd.R_drewN | apply Kd.R_drew)); exact HO_362006.out) hb); have n4_:=Aside0.mk (blk_below (g:=gb361) (o:=.cells #[.int .i64 a1_0, .string a1_1, .int .i64 a1_2, .slice A1_3 l1_3.length c1_3, .string a1_4, .int .i64 a1_5, .slice Ao47 t374.length co47] 28 (0, 0)) (by (with_reducible repeat (first | refine blk_drewN ?_ _ | refine blk_drew ?_ | refine blk_alloc ?_ _)); exact BK361.out) hb); have n5_:=Aside0.mk (below_step (by repeat (first | (with_reducible first | exact HB.out | apply below_alloc | apply pw_below_drewN | apply below_drew1 | refine below_set ?_ GE361.out) | exact HB.out)) hb); clear HO_0; clear HO_11; clear HO_362003; clear HO_362006; clear BK361; clear HB; have HO_0:=n0_; have HO_11:=n1_; have HO_362003:=n2_; have HO_362006:=n3_; have BK361:=n4_; have HB:=n5_; clear n0_ n1_ n2_ n3_ n4_ n5_; (try clear hb); (try clear hb2); (try clear hk); (try clear hi)))
               go_ret
               exact ⟨by first | rfl | (simp [errW_none, errW_some] <;> rfl) | (simp [*, errW_none, errW_some] <;> rfl), by repeat (first | (with_reducible first | exact HB.out | apply below_alloc | apply pw_below_drewN | apply below_drew1 | refine below_set ?_ GE361.out) | exact HB.out)⟩
              ·rw [if_neg c79] at H
               have c79b0 : (t386 == 0) = false:=beq_eq_false_iff_ne.mpr c79
               have c79b1 : (t386 != 0) = true:=bne_iff_ne.mpr c79
               obtain rfl:=Option.some.inj H
               exact absurd HTRUE.out (by decide)
             ·replace c77:=Bool.eq_false_iff.mpr c77
              subst c77
              have H1 : ((variant_Find.f k4 l0 l3).bind fun t388 => ((variant_Find.f k4 t377 l3).bind fun t389 => (if t389 < 0 then (if t388 < 0 then ((depotlaw20_variants.f k4).bind fun t390 => (some t390)) else (if (t377.length : Int) = 4 then (if t388 ≥ 3 then ((depotlaw20_variants.f k4).bind fun t391 => (some t391)) else (some false)) else (some false))) else (if t388 ≥ 0 then (if t388 < (l0.length : Int) then (if t389 < (t377.length : Int) then (if 0 ≤ t388 then (if 0 ≤ t389 then ((depotref20_One.f k4 ((rd_T28 l0 t388).f0.f0) ((rd_T28 l0 t388).f0.f1) ((rd_T28 l0 t388).f0.f2) ((rd_T28 l0 t388).f0.f3) ((rd_T28 l0 t388).f0.f4) ((rd_T28 l0 t388).f1) ((rd_T28 l0 t388).f2) ((rd_T28 t377 t389).f0.f0) ((rd_T28 t377 t389).f0.f1) ((rd_T28 t377 t389).f0.f2) ((rd_T28 t377 t389).f0.f3) ((rd_T28 t377 t389).f0.f4) ((rd_T28 t377 t389).f1) ((rd_T28 t377 t389).f2)).bind fun t394 => (if t394 = true then ((depotlaw20_variants.f k4).bind fun t395 => (some t395)) else (some false))) else (none)) else (none)) else (some false)) else (some false)) else (some false))))) = some r:=by rw [if_neg (show ¬ (false = true) by decide)] at H; exact H
              clear H
              have H:=H1
              clear H1
              replace H:=Option.bind_eq_some_iff.mp H
              obtain ⟨t388, A860, H⟩:=H
              try dsimp only at H
              have A86:=Aside0.mk A860
              clear A860
              replace H:=Option.bind_eq_some_iff.mp H
              obtain ⟨t389, A870, H⟩:=H
              try dsimp only at H
              have A87:=Aside0.mk A870
              clear A870
              by_cases c88 : t389 < 0
              ·rw [if_pos c88] at H
               have c88b0 : decide (t389 < 0) = true:=decide_eq_true c88
               clear c88
               by_cases c89 : t388 < 0
               ·rw [if_pos c89] at H
                have c89b0 : decide (t388 < 0) = true:=decide_eq_true c89
                clear c89
                replace H:=Option.bind_eq_some_iff.mp H
                obtain ⟨t390, A900, H⟩:=H
                replace H : (some t390) = some r:=H
                have A90:=Aside0.mk A900
                clear A900
                obtain rfl:=Option.some.inj H
                obtain ⟨Ao91, co91, eo91⟩:=Kd.N_slice HO_11.out
                subst eo91
                have hcz92_0 : wr.cell? ⟨gb361, 0, none⟩ = some (.int .i64 a1_0):=(blk_cell BK361.out 0).trans rfl
                have hcz92_1 : wr.cell? ⟨gb361, 1, none⟩ = some (.string a1_1):=(blk_cell BK361.out 1).trans rfl
                have hcz92_2 : wr.cell? ⟨gb361, 2, none⟩ = some (.int .i64 a1_2):=(blk_cell BK361.out 2).trans rfl
                have hcz92_3 : wr.cell? ⟨gb361, 3, none⟩ = some (.slice A1_3 l1_3.length c1_3):=(blk_cell BK361.out 3).trans rfl
                have hcz92_4 : wr.cell? ⟨gb361, 4, none⟩ = some (.string a1_4):=(blk_cell BK361.out 4).trans rfl
                have hcz92_5 : wr.cell? ⟨gb361, 5, none⟩ = some (.int .i64 a1_5):=(blk_cell BK361.out 5).trans rfl
                have hcz92_6 : wr.cell? ⟨gb361, 6, none⟩ = some (.slice Ao47 t374.length co47):=(blk_cell BK361.out 6).trans rfl
                have hfz92_0:=blk_frozen BK361.out 0
                have hfz92_1:=blk_frozen BK361.out 1
                have hfz92_2:=blk_frozen BK361.out 2
                have hfz92_3:=blk_frozen BK361.out 3
                have hfz92_4:=blk_frozen BK361.out 4
                have hfz92_5:=blk_frozen BK361.out 5
                have hfz92_6:=blk_frozen BK361.out 6
                go_wp2_with (first | ((with_reducible refine gate_callee (f:=26) rfl ?_); refine goesL_ (some 97) rfl rfl Tryd.func26 (by kernel_rfl) rfl #[.slice Ao47 t374.length co47, .slice A3 l3.length c3] rfl (by (try simp only [List.map_toArray, List.map_cons, List.map_nil]); first | done | rfl | (simp only [List.length_drop, List.length_take]; rfl)) ?_; (with_reducible refine (vary_Match.calls k4 _ _ t374 _ _ l3 false _ ?side5 ?side1 ?side2 ?side3 ?side4 A76.out).mono ?_); (case side1 => repeat (first | exact (Kd.R_reads' HO_362006.out).2.2 | (with_reducible first | refine Kd.C_alloc ?_ _ | refine Kd.C_drewN ?_ _ | refine Kd.C_drew ?_))); (case side2 => exact (Kd.R_reads' HO_362006.out).2.1); (case side3 => repeat (first | exact (Kd.C_below HR3.out HB.out) | (with_reducible first | refine Kd.C_alloc ?_ _ | refine Kd.C_drewN ?_ _ | refine Kd.C_drew ?_))); (case side4 => exact HC3.out); (case side5 => first | exact HT | exact ⟨Hand.Laid.below HT.out (by repeat (first | (with_reducible first | exact HB.out | apply below_alloc | apply pw_below_drewN | apply below_drew1 | refine below_set ?_ GE361.out) | exact HB.out))⟩); rintro e w93 ⟨rfl, hb⟩; refine ⟨_, rfl, ?_⟩; have n0_:=Aside0.mk (Kd.V_below (by (with_reducible repeat (first | apply Kd.V_alloc | apply Kd.V_drewN | apply Kd.V_drew)); exact HO_0.out) hb); have n1_:=Aside0.mk (Kd.N_below (by (with_reducible repeat (first | apply Kd.N_alloc | apply Kd.N_drewN | apply Kd.N_drew)); exact HO_11.out) hb); have n2_:=Aside0.mk (Kd.V_below (by (with_reducible repeat (first | apply Kd.V_alloc | apply Kd.V_drewN | apply Kd.V_drew)); exact HO_362003.out) hb); have n3_:=Aside0.mk (Kd.R_below (by (with_reducible repeat (first | apply Kd.R_alloc | apply Kd.R_drewN | apply Kd.R_drew)); exact HO_362006.out) hb); have n4_:=Aside0.mk (blk_below (g:=gb361) (o:=.cells #[.int .i64 a1_0, .string a1_1, .int .i64 a1_2, .slice A1_3 l1_3.length c1_3, .string a1_4, .int .i64 a1_5, .slice Ao47 t374.length co47] 28 (0, 0)) (by (with_reducible repeat (first | refine blk_drewN ?_ _ | refine blk_drew ?_ | refine blk_alloc ?_ _)); exact BK361.out) hb); have n5_:=Aside0.mk (below_step (by repeat (first | (with_reducible first | exact HB.out | apply below_alloc | apply pw_below_drewN | apply below_drew1 | refine below_set ?_ GE361.out) | exact HB.out)) hb); clear HO_0; clear HO_11; clear HO_362003; clear HO_362006; clear BK361; clear HB; have HO_0:=n0_; have HO_11:=n1_; have HO_362003:=n2_; have HO_362006:=n3_; have BK361:=n4_; have HB:=n5_; clear n0_ n1_ n2_ n3_ n4_ n5_; (try clear hb); (try clear hb2); (try clear hk); (try clear hi)) | ((with_reducible refine gate_callee (f:=11) rfl ?_); refine goesL_ (some 107) rfl rfl Tryd.func11 (by kernel_rfl) rfl #[.slice A0 l0.length c0, .slice A3 l3.length c3] rfl (by (try simp only [List.map_toArray, List.map_cons, List.map_nil]); first | done | rfl | (simp only [List.length_drop, List.length_take]; rfl)) ?_; (with_reducible refine (variant_Find.calls k4 _ _ l0 _ _ l3 t388 _ ?side5 ?side1 ?side2 ?side3 ?side4 A86.out).mono ?_); (case side1 => repeat (first | exact (Kd.V_reads' HO_0.out).2.2 | (with_reducible first | refine Kd.C_alloc ?_ _ | refine Kd.C_drewN ?_ _ | refine Kd.C_drew ?_))); (case side2 => exact (Kd.V_reads' HO_0.out).2.1); (case side3 => repeat (first | exact (Kd.C_below HR3.out HB.out) | (with_reducible first | refine Kd.C_alloc ?_ _ | refine Kd.C_drewN ?_ _ | refine Kd.C_drew ?_))); (case side4 => exact HC3.out); (case side5 => first | exact HT | exact ⟨Hand.Laid.below HT.out (by repeat (first | (with_reducible first | exact HB.out | apply below_alloc | apply pw_below_drewN | apply below_drew1 | refine below_set ?_ GE361.out) | exact HB.out))⟩); rintro e w94 ⟨rfl, hb⟩; refine ⟨_, rfl, ?_⟩; have n0_:=Aside0.mk (Kd.V_below (by (with_reducible repeat (first | apply Kd.V_alloc | apply Kd.V_drewN | apply Kd.V_drew)); exact HO_0.out) hb); have n1_:=Aside0.mk (Kd.N_below (by (with_reducible repeat (first | apply Kd.N_alloc | apply Kd.N_drewN | apply Kd.N_drew)); exact HO_11.out) hb); have n2_:=Aside0.mk (Kd.V_below (by (with_reducible repeat (first | apply Kd.V_alloc | apply Kd.V_drewN | apply Kd.V_drew)); exact HO_362003.out) hb); have n3_:=Aside0.mk (Kd.R_below (by (with_reducible repeat (first | apply Kd.R_alloc | apply Kd.R_drewN | apply Kd.R_drew)); exact HO_362006.out) hb); have n4_:=Aside0.mk (blk_below (g:=gb361) (o:=.cells #[.int .i64 a1_0, .string a1_1, .int .i64 a1_2, .slice A1_3 l1_3.length c1_3, .string a1_4, .int .i64 a1_5, .slice Ao47 t374.length co47] 28 (0, 0)) (by (with_reducible repeat (first | refine blk_drewN ?_ _ | refine blk_drew ?_ | refine blk_alloc ?_ _)); exact BK361.out) hb); have n5_:=Aside0.mk (below_step (by repeat (first | (with_reducible first | exact HB.out | apply below_alloc | apply pw_below_drewN | apply below_drew1 | refine below_set ?_ GE361.out) | exact HB.out)) hb); clear HO_0; clear HO_11; clear HO_362003; clear HO_362006; clear BK361; clear HB; have HO_0:=n0_; have HO_11:=n1_; have HO_362003:=n2_; have HO_362006:=n3_; have BK361:=n4_; have HB:=n5_; clear n0_ n1_ n2_ n3_ n4_ n5_; (try clear hb); (try clear hb2); (try clear hk); (try clear hi)) | ((with_reducible refine gate_callee (f:=11) rfl ?_); refine goesL_ (some 110) rfl rfl Tryd.func11 (by kernel_rfl) rfl #[.slice Ao91 t377.length co91, .slice A3 l3.length c3] rfl (by (try simp only [List.map_toArray, List.map_cons, List.map_nil]); first | done | rfl | (simp only [List.length_drop, List.length_take]; rfl)) ?_; (with_reducible refine (variant_Find.calls k4 _ _ t377 _ _ l3 t389 _ ?side5 ?side1 ?side2 ?side3 ?side4 A87.out).mono ?_); (case side1 => repeat (first | exact (Kd.N_reads' HO_11.out).2.2 | (with_reducible first | refine Kd.C_alloc ?_ _ | refine Kd.C_drewN ?_ _ | refine Kd.C_drew ?_))); (case side2 => exact (Kd.N_reads' HO_11.out).2.1); (case side3 => repeat (first | exact (Kd.C_below HR3.out HB.out) | (with_reducible first | refine Kd.C_alloc ?_ _ | refine Kd.C_drewN ?_ _ | refine Kd.C_drew ?_))); (case side4 => exact HC3.out); (case side5 => first | exact HT | exact ⟨Hand.Laid.below HT.out (by repeat (first | (with_reducible first | exact HB.out | apply below_alloc | apply pw_below_drewN | apply below_drew1 | refine below_set ?_ GE361.out) | exact HB.out))⟩); rintro e w95 ⟨rfl, hb⟩; refine ⟨_, rfl, ?_⟩; have n0_:=Aside0.mk (Kd.V_below (by (with_reducible repeat (first | apply Kd.V_alloc | apply Kd.V_drewN | apply Kd.V_drew)); exact HO_0.out) hb); have n1_:=Aside0.mk (Kd.N_below (by (with_reducible repeat (first | apply Kd.N_alloc | apply Kd.N_drewN | apply Kd.N_drew)); exact HO_11.out) hb); have n2_:=Aside0.mk (Kd.V_below (by (with_reducible repeat (first | apply Kd.V_alloc | apply Kd.V_drewN | apply Kd.V_drew)); exact HO_362003.out) hb); have n3_:=Aside0.mk (Kd.R_below (by (with_reducible repeat (first | apply Kd.R_alloc | apply Kd.R_drewN | apply Kd.R_drew)); exact HO_362006.out) hb); have n4_:=Aside0.mk (blk_below (g:=gb361) (o:=.cells #[.int .i64 a1_0, .string a1_1, .int .i64 a1_2, .slice A1_3 l1_3.length c1_3, .string a1_4, .int .i64 a1_5, .slice Ao47 t374.length co47] 28 (0, 0)) (by (with_reducible repeat (first | refine blk_drewN ?_ _ | refine blk_drew ?_ | refine blk_alloc ?_ _)); exact BK361.out) hb); have n5_:=Aside0.mk (below_step (by repeat (first | (with_reducible first | exact HB.out | apply below_alloc | apply pw_below_drewN | apply below_drew1 | refine below_set ?_ GE361.out) | exact HB.out)) hb); clear HO_0; clear HO_11; clear HO_362003; clear HO_362006; clear BK361; clear HB; have HO_0:=n0_; have HO_11:=n1_; have HO_362003:=n2_; have HO_362006:=n3_; have BK361:=n4_; have HB:=n5_; clear n0_ n1_ n2_ n3_ n4_ n5_; (try clear hb); (try clear hb2); (try clear hk); (try clear hi)) | (go_at_call 10; (with_reducible refine (depotlaw20_variants.calls k4  t390 _ ?side2 ?side1 A90.out).mono ?_); (case side1 => first | exact HT | exact ⟨Hand.Laid.below HT.out (by repeat (first | (with_reducible first | exact HB.out | apply below_alloc | apply pw_below_drewN | apply below_drew1 | refine below_set ?_ GE361.out) | exact HB.out))⟩); (case side2 => first | exact ⟨rfl⟩ | exact HTRUE); rintro e w96 ⟨rfl, hb⟩; have n0_:=Aside0.mk (Kd.V_below (by (with_reducible repeat (first | apply Kd.V_alloc | apply Kd.V_drewN | apply Kd.V_drew)); exact HO_0.out) hb); have n1_:=Aside0.mk (Kd.N_below (by (with_reducible repeat (first | apply Kd.N_alloc | apply Kd.N_drewN | apply Kd.N_drew)); exact HO_11.out) hb); have n2_:=Aside0.mk (Kd.V_below (by (with_reducible repeat (first | apply Kd.V_alloc | apply Kd.V_drewN | apply Kd.V_drew)); exact HO_362003.out) hb); have n3_:=Aside0.mk (Kd.R_below (by (with_reducible repeat (first | apply Kd.R_alloc | apply Kd.R_drewN | apply Kd.R_drew)); exact HO_362006.out) hb); have n4_:=Aside0.mk (blk_below (g:=gb361) (o:=.cells #[.int .i64 a1_0, .string a1_1, .int .i64 a1_2, .slice A1_3 l1_3.length c1_3, .string a1_4, .int .i64 a1_5, .slice Ao47 t374.length co47] 28 (0, 0)) (by (with_reducible repeat (first | refine blk_drewN ?_ _ | refine blk_drew ?_ | refine blk_alloc ?_ _)); exact BK361.out) hb); have n5_:=Aside0.mk (below_step (by repeat (first | (with_reducible first | exact HB.out | apply below_alloc | apply pw_below_drewN | apply below_drew1 | refine below_set ?_ GE361.out) | exact HB.out)) hb); clear HO_0; clear HO_11; clear HO_362003; clear HO_362006; clear BK361; clear HB; have HO_0:=n0_; have HO_11:=n1_; have HO_362003:=n2_; have HO_362006:=n3_; have BK361:=n4_; have HB:=n5_; clear n0_ n1_ n2_ n3_ n4_ n5_; (try clear hb); (try clear hb2); (try clear hk); (try clear hi)))
                go_ret
                exact ⟨by first | rfl | (simp [errW_none, errW_some] <;> rfl) | (simp [*, errW_none, errW_some] <;> rfl), by repeat (first | (with_reducible first | exact HB.out | apply below_alloc | apply pw_below_drewN | apply below_drew1 | refine below_set ?_ GE361.out) | exact HB.out)⟩
               ·rw [if_neg c89] at H
                have c89b0 : decide (t388 < 0) = false:=decide_eq_false c89
                clear c89
                by_cases c97 : (t377.length : Int) = 4
                ·rw [if_pos c97] at H
                 have c97b0 : ((t377.length : Int) == 4) = true:=beq_iff_eq.mpr c97
                 have c97b1 : ((t377.length : Int) != 4) = false:=bne_eq_false_iff_eq.mpr c97
                 clear c97
                 by_cases c98 : t388 ≥ 3
                 ·rw [if_pos c98] at H
                  have c98b0 : decide (3 ≤ t388) = true:=decide_eq_true c98
                  clear c98
                  replace H:=Option.bind_eq_some_iff.mp H
                  obtain ⟨t391, A990, H⟩:=H
                  replace H : (some t391) = some r:=H
                  have A99:=Aside0.mk A990
                  clear A990
                  obtain rfl:=Option.some.inj H
                  obtain ⟨Ao100, co100, eo100⟩:=Kd.N_slice HO_11.out
                  subst eo100
                  have hcz101_0 : wr.cell? ⟨gb361, 0, none⟩ = some (.int .i64 a1_0):=(blk_cell BK361.out 0).trans rfl
                  have hcz101_1 : wr.cell? ⟨gb361, 1, none⟩ = some (.string a1_1):=(blk_cell BK361.out 1).trans rfl
                  have hcz101_2 : wr.cell? ⟨gb361, 2, none⟩ = some (.int .i64 a1_2):=(blk_cell BK361.out 2).trans rfl
                  have hcz101_3 : wr.cell? ⟨gb361, 3, none⟩ = some (.slice A1_3 l1_3.length c1_3):=(blk_cell BK361.out 3).trans rfl
                  have hcz101_4 : wr.cell? ⟨gb361, 4, none⟩ = some (.string a1_4):=(blk_cell BK361.out 4).trans rfl
                  have hcz101_5 : wr.cell? ⟨gb361, 5, none⟩ = some (.int .i64 a1_5):=(blk_cell BK361.out 5).trans rfl
                  have hcz101_6 : wr.cell? ⟨gb361, 6, none⟩ = some (.slice Ao47 t374.length co47):=(blk_cell BK361.out 6).trans rfl
                  have hfz101_0:=blk_frozen BK361.out 0
                  have hfz101_1:=blk_frozen BK361.out 1
                  have hfz101_2:=blk_frozen BK361.out 2
                  have hfz101_3:=blk_frozen BK361.out 3
                  have hfz101_4:=blk_frozen BK361.out 4
                  have hfz101_5:=blk_frozen BK361.out 5
                  have hfz101_6:=blk_frozen BK361.out 6
                  go_wp2_with (first | ((with_reducible refine gate_callee (f:=26) rfl ?_); refine goesL_ (some 97) rfl rfl Tryd.func26 (by kernel_rfl) rfl #[.slice Ao47 t374.length co47, .slice A3 l3.length c3] rfl (by (try simp only [List.map_toArray, List.map_cons, List.map_nil]); first | done | rfl | (simp only [List.length_drop, List.length_take]; rfl)) ?_; (with_reducible refine (vary_Match.calls k4 _ _ t374 _ _ l3 false _ ?side5 ?side1 ?side2 ?side3 ?side4 A76.out).mono ?_); (case side1 => repeat (first | exact (Kd.R_reads' HO_362006.out).2.2 | (with_reducible first | refine Kd.C_alloc ?_ _ | refine Kd.C_drewN ?_ _ | refine Kd.C_drew ?_))); (case side2 => exact (Kd.R_reads' HO_362006.out).2.1); (case side3 => repeat (first | exact (Kd.C_below HR3.out HB.out) | (with_reducible first | refine Kd.C_alloc ?_ _ | refine Kd.C_drewN ?_ _ | refine Kd.C_drew ?_))); (case side4 => exact HC3.out); (case side5 => first | exact HT | exact ⟨Hand.Laid.below HT.out (by repeat (first | (with_reducible first | exact HB.out | apply below_alloc | apply pw_below_drewN | apply below_drew1 | refine below_set ?_ GE361.out) | exact HB.out))⟩); rintro e w102 ⟨rfl, hb⟩; refine ⟨_, rfl, ?_⟩; have n0_:=Aside0.mk (Kd.V_below (by (with_reducible repeat (first | apply Kd.V_alloc | apply Kd.V_drewN | apply Kd.V_drew)); exact HO_0.out) hb); have n1_:=Aside0.mk (Kd.N_below (by (with_reducible repeat (first | apply Kd.N_alloc | apply Kd.N_drewN | apply Kd.N_drew)); exact HO_11.out) hb); have n2_:=Aside0.mk (Kd.V_below (by (with_reducible repeat (first | apply Kd.V_alloc | apply Kd.V_drewN | apply Kd.V_drew)); exact HO_362003.out) hb); have n3_:=Aside0.mk (Kd.R_below (by (with_reducible repeat (first | apply Kd.R_alloc | apply Kd.R_drewN | apply Kd.R_drew)); exact HO_362006.out) hb); have n4_:=Aside0.mk (blk_below (g:=gb361) (o:=.cells #[.int .i64 a1_0, .string a1_1, .int .i64 a1_2, .slice A1_3 l1_3.length c1_3, .string a1_4, .int .i64 a1_5, .slice Ao47 t374.length co47] 28 (0, 0)) (by (with_reducible repeat (first | refine blk_drewN ?_ _ | refine blk_drew ?_ | refine blk_alloc ?_ _)); exact BK361.out) hb); have n5_:=Aside0.mk (below_step (by repeat (first | (with_reducible first | exact HB.out | apply below_alloc | apply pw_below_drewN | apply below_drew1 | refine below_set ?_ GE361.out) | exact HB.out)) hb); clear HO_0; clear HO_11; clear HO_362003; clear HO_362006; clear BK361; clear HB; have HO_0:=n0_; have HO_11:=n1_; have HO_362003:=n2_; have HO_362006:=n3_; have BK361:=n4_; have HB:=n5_; clear n0_ n1_ n2_ n3_ n4_ n5_; (try clear hb); (try clear hb2); (try clear hk); (try clear hi)) | ((with_reducible refine gate_callee (f:=11) rfl ?_); refine goesL_ (some 107) rfl rfl Tryd.func11 (by kernel_rfl) rfl #[.slice A0 l0.length c0, .slice A3 l3.length c3] rfl (by (try simp only [List.map_toArray, List.map_cons, List.map_nil]); first | done | rfl | (simp only [List.length_drop, List.length_take]; rfl)) ?_; (with_reducible refine (variant_Find.calls k4 _ _ l0 _ _ l3 t388 _ ?side5 ?side1 ?side2 ?side3 ?side4 A86.out).mono ?_); (case side1 => repeat (first | exact (Kd.V_reads' HO_0.out).2.2 | (with_reducible first | refine Kd.C_alloc ?_ _ | refine Kd.C_drewN ?_ _ | refine Kd.C_drew ?_))); (case side2 => exact (Kd.V_reads' HO_0.out).2.1); (case side3 => repeat (first | exact (Kd.C_below HR3.out HB.out) | (with_reducible first | refine Kd.C_alloc ?_ _ | refine Kd.C_drewN ?_ _ | refine Kd.C_drew ?_))); (case side4 => exact HC3.out); (case side5 => first | exact HT | exact ⟨Hand.Laid.below HT.out (by repeat (first | (with_reducible first | exact HB.out | apply below_alloc | apply pw_below_drewN | apply below_drew1 | refine below_set ?_ GE361.out) | exact HB.out))⟩); rintro e w103 ⟨rfl, hb⟩; refine ⟨_, rfl, ?_⟩; have n0_:=Aside0.mk (Kd.V_below (by (with_reducible repeat (first | apply Kd.V_alloc | apply Kd.V_drewN | apply Kd.V_drew)); exact HO_0.out) hb); have n1_:=Aside0.mk (Kd.N_below (by (with_reducible repeat (first | apply Kd.N_alloc | apply Kd.N_drewN | apply Kd.N_drew)); exact HO_11.out) hb); have n2_:=Aside0.mk (Kd.V_below (by (with_reducible repeat (first | apply Kd.V_alloc | apply Kd.V_drewN | apply Kd.V_drew)); exact HO_362003.out) hb); have n3_:=Aside0.mk (Kd.R_below (by (with_reducible repeat (first | apply Kd.R_alloc | apply Kd.R_drewN | apply Kd.R_drew)); exact HO_362006.out) hb); have n4_:=Aside0.mk (blk_below (g:=gb361) (o:=.cells #[.int .i64 a1_0, .string a1_1, .int .i64 a1_2, .slice A1_3 l1_3.length c1_3, .string a1_4, .int .i64 a1_5, .slice Ao47 t374.length co47] 28 (0, 0)) (by (with_reducible repeat (first | refine blk_drewN ?_ _ | refine blk_drew ?_ | refine blk_alloc ?_ _)); exact BK361.out) hb); have n5_:=Aside0.mk (below_step (by repeat (first | (with_reducible first | exact HB.out | apply below_alloc | apply pw_below_drewN | apply below_drew1 | refine below_set ?_ GE361.out) | exact HB.out)) hb); clear HO_0; clear HO_11; clear HO_362003; clear HO_362006; clear BK361; clear HB; have HO_0:=n0_; have HO_11:=n1_; have HO_362003:=n2_; have HO_362006:=n3_; have BK361:=n4_; have HB:=n5_; clear n0_ n1_ n2_ n3_ n4_ n5_; (try clear hb); (try clear hb2); (try clear hk); (try clear hi)) | ((with_reducible refine gate_callee (f:=11) rfl ?_); refine goesL_ (some 110) rfl rfl Tryd.func11 (by kernel_rfl) rfl #[.slice Ao100 t377.length co100, .slice A3 l3.length c3] rfl (by (try simp only [List.map_toArray, List.map_cons, List.map_nil]); first | done | rfl | (simp only [List.length_drop, List.length_take]; rfl)) ?_; (with_reducible refine (variant_Find.calls k4 _ _ t377 _ _ l3 t389 _ ?side5 ?side1 ?side2 ?side3 ?side4 A87.out).mono ?_); (case side1 => repeat (first | exact (Kd.N_reads' HO_11.out).2.2 | (with_reducible first | refine Kd.C_alloc ?_ _ | refine Kd.C_drewN ?_ _ | refine Kd.C_drew ?_))); (case side2 => exact (Kd.N_reads' HO_11.out).2.1); (case side3 => repeat (first | exact (Kd.C_below HR3.out HB.out) | (with_reducible first | refine Kd.C_alloc ?_ _ | refine Kd.C_drewN ?_ _ | refine Kd.C_drew ?_))); (case side4 => exact HC3.out); (case side5 => first | exact HT | exact ⟨Hand.Laid.below HT.out (by repeat (first | (with_reducible first | exact HB.out | apply below_alloc | apply pw_below_drewN | apply below_drew1 | refine below_set ?_ GE361.out) | exact HB.out))⟩); rintro e w104 ⟨rfl, hb⟩; refine ⟨_, rfl, ?_⟩; have n0_:=Aside0.mk (Kd.V_below (by (with_reducible repeat (first | apply Kd.V_alloc | apply Kd.V_drewN | apply Kd.V_drew)); exact HO_0.out) hb); have n1_:=Aside0.mk (Kd.N_below (by (with_reducible repeat (first | apply Kd.N_alloc | apply Kd.N_drewN | apply Kd.N_drew)); exact HO_11.out) hb); have n2_:=Aside0.mk (Kd.V_below (by (with_reducible repeat (first | apply Kd.V_alloc | apply Kd.V_drewN | apply Kd.V_drew)); exact HO_362003.out) hb); have n3_:=Aside0.mk (Kd.R_below (by (with_reducible repeat (first | apply Kd.R_alloc | apply Kd.R_drewN | apply Kd.R_drew)); exact HO_362006.out) hb); have n4_:=Aside0.mk (blk_below (g:=gb361) (o:=.cells #[.int .i64 a1_0, .string a1_1, .int .i64 a1_2, .slice A1_3 l1_3.length c1_3, .string a1_4, .int .i64 a1_5, .slice Ao47 t374.length co47] 28 (0, 0)) (by (with_reducible repeat (first | refine blk_drewN ?_ _ | refine blk_drew ?_ | refine blk_alloc ?_ _)); exact BK361.out) hb); have n5_:=Aside0.mk (below_step (by repeat (first | (with_reducible first | exact HB.out | apply below_alloc | apply pw_below_drewN | apply below_drew1 | refine below_set ?_ GE361.out) | exact HB.out)) hb); clear HO_0; clear HO_11; clear HO_362003; clear HO_362006; clear BK361; clear HB; have HO_0:=n0_; have HO_11:=n1_; have HO_362003:=n2_; have HO_362006:=n3_; have BK361:=n4_; have HB:=n5_; clear n0_ n1_ n2_ n3_ n4_ n5_; (try clear hb); (try clear hb2); (try clear hk); (try clear hi)) | (go_at_call 10; (with_reducible refine (depotlaw20_variants.calls k4  t391 _ ?side2 ?side1 A99.out).mono ?_); (case side1 => first | exact HT | exact ⟨Hand.Laid.below HT.out (by repeat (first | (with_reducible first | exact HB.out | apply below_alloc | apply pw_below_drewN | apply below_drew1 | refine below_set ?_ GE361.out) | exact HB.out))⟩); (case side2 => first | exact ⟨rfl⟩ | exact HTRUE); rintro e w105 ⟨rfl, hb⟩; have n0_:=Aside0.mk (Kd.V_below (by (with_reducible repeat (first | apply Kd.V_alloc | apply Kd.V_drewN | apply Kd.V_drew)); exact HO_0.out) hb); have n1_:=Aside0.mk (Kd.N_below (by (with_reducible repeat (first | apply Kd.N_alloc | apply Kd.N_drewN | apply Kd.N_drew)); exact HO_11.out) hb); have n2_:=Aside0.mk (Kd.V_below (by (with_reducible repeat (first | apply Kd.V_alloc | apply Kd.V_drewN | apply Kd.V_drew)); exact HO_362003.out) hb); have n3_:=Aside0.mk (Kd.R_below (by (with_reducible repeat (first | apply Kd.R_alloc | apply Kd.R_drewN | apply Kd.R_drew)); exact HO_362006.out) hb); have n4_:=Aside0.mk (blk_below (g:=gb361) (o:=.cells #[.int .i64 a1_0, .string a1_1, .int .i64 a1_2, .slice A1_3 l1_3.length c1_3, .string a1_4, .int .i64 a1_5, .slice Ao47 t374.length co47] 28 (0, 0)) (by (with_reducible repeat (first | refine blk_drewN ?_ _ | refine blk_drew ?_ | refine blk_alloc ?_ _)); exact BK361.out) hb); have n5_:=Aside0.mk (below_step (by repeat (first | (with_reducible first | exact HB.out | apply below_alloc | apply pw_below_drewN | apply below_drew1 | refine below_set ?_ GE361.out) | exact HB.out)) hb); clear HO_0; clear HO_11; clear HO_362003; clear HO_362006; clear BK361; clear HB; have HO_0:=n0_; have HO_11:=n1_; have HO_362003:=n2_; have HO_362006:=n3_; have BK361:=n4_; have HB:=n5_; clear n0_ n1_ n2_ n3_ n4_ n5_; (try clear hb); (try clear hb2); (try clear hk); (try clear hi)))
                  go_ret
                  exact ⟨by first | rfl | (simp [errW_none, errW_some] <;> rfl) | (simp [*, errW_none, errW_some] <;> rfl), by repeat (first | (with_reducible first | exact HB.out | apply below_alloc | apply pw_below_drewN | apply below_drew1 | refine below_set ?_ GE361.out) | exact HB.out)⟩
                 ·rw [if_neg c98] at H
                  have c98b0 : decide (3 ≤ t388) = false:=decide_eq_false c98
                  clear c98
                  obtain rfl:=Option.some.inj H
                  exact absurd HTRUE.out (by decide)
                ·rw [if_neg c97] at H
                 have c97b0 : ((t377.length : Int) == 4) = false:=beq_eq_false_iff_ne.mpr c97
                 have c97b1 : ((t377.length : Int) != 4) = true:=bne_iff_ne.mpr c97
                 obtain rfl:=Option.some.inj H
                 exact absurd HTRUE.out (by decide)
              ·rw [if_neg c88] at H
               have c88b0 : decide (t389 < 0) = false:=decide_eq_false c88
               clear c88
               by_cases c106 : t388 ≥ 0
               ·rw [if_pos c106] at H
                have c106b0 : decide (0 ≤ t388) = true:=decide_eq_true c106
                clear c106
                by_cases c107 : t388 < (l0.length : Int)
                ·rw [if_pos c107] at H
                 have c107b0 : decide (t388 < (l0.length : Int)) = true:=decide_eq_true c107
                 clear c107
                 by_cases c108 : t389 < (t377.length : Int)
                 ·rw [if_pos c108] at H
                  have c108b0 : decide (t389 < (t377.length : Int)) = true:=decide_eq_true c108
                  clear c108
                  by_cases c109 : 0 ≤ t388
                  ·rw [if_pos c109] at H
                   have c109b0 : decide (0 ≤ t388) = true:=decide_eq_true c109
                   clear c109
                   by_cases c110 : 0 ≤ t389
                   ·rw [if_pos c110] at H
                    have c110b0 : decide (0 ≤ t389) = true:=decide_eq_true c110
                    clear c110
                    replace H:=Option.bind_eq_some_iff.mp H
                    obtain ⟨t394, A1110, H⟩:=H
                    replace H : (if t394 = true then ((depotlaw20_variants.f k4).bind fun t395 => (some t395)) else (some false)) = some r:=H
                    have A111:=Aside0.mk A1110
                    clear A1110
                    by_cases c112 : t394 = true
                    ·subst c112
                     have H1 : ((depotlaw20_variants.f k4).bind fun t395 => (some t395)) = some r:=by rw [if_pos rfl] at H; exact H
                     clear H
                     have H:=H1
                     clear H1
                     replace H:=Option.bind_eq_some_iff.mp H
                     obtain ⟨t395, A1130, H⟩:=H
                     replace H : (some t395) = some r:=H
                     have A113:=Aside0.mk A1130
                     clear A1130
                     obtain rfl:=Option.some.inj H
                     obtain ⟨Ao114, co114, eo114⟩:=Kd.N_slice HO_11.out
                     subst eo114
                     have hcz115_0 : wr.cell? ⟨gb361, 0, none⟩ = some (.int .i64 a1_0):=(blk_cell BK361.out 0).trans rfl
                     have hcz115_1 : wr.cell? ⟨gb361, 1, none⟩ = some (.string a1_1):=(blk_cell BK361.out 1).trans rfl
                     have hcz115_2 : wr.cell? ⟨gb361, 2, none⟩ = some (.int .i64 a1_2):=(blk_cell BK361.out 2).trans rfl
                     have hcz115_3 : wr.cell? ⟨gb361, 3, none⟩ = some (.slice A1_3 l1_3.length c1_3):=(blk_cell BK361.out 3).trans rfl
                     have hcz115_4 : wr.cell? ⟨gb361, 4, none⟩ = some (.string a1_4):=(blk_cell BK361.out 4).trans rfl
                     have hcz115_5 : wr.cell? ⟨gb361, 5, none⟩ = some (.int .i64 a1_5):=(blk_cell BK361.out 5).trans rfl
                     have hcz115_6 : wr.cell? ⟨gb361, 6, none⟩ = some (.slice Ao47 t374.length co47):=(blk_cell BK361.out 6).trans rfl
                     have hfz115_0:=blk_frozen BK361.out 0
                     have hfz115_1:=blk_frozen BK361.out 1
                     have hfz115_2:=blk_frozen BK361.out 2
                     have hfz115_3:=blk_frozen BK361.out 3
                     have hfz115_4:=blk_frozen BK361.out 4
                     have hfz115_5:=blk_frozen BK361.out 5
                     have hfz115_6:=blk_frozen BK361.out 6
                     try go_wp2_with (first | ((with_reducible refine gate_callee (f:=26) rfl ?_); refine goesL_ (some 97) rfl rfl Tryd.func26 (by kernel_rfl) rfl #[.slice Ao47 t374.length co47, .slice A3 l3.length c3] rfl (by (try simp only [List.map_toArray, List.map_cons, List.map_nil]); first | done | rfl | (simp only [List.length_drop, List.length_take]; rfl)) ?_; (with_reducible refine (vary_Match.calls k4 _ _ t374 _ _ l3 false _ ?side5 ?side1 ?side2 ?side3 ?side4 A76.out).mono ?_); (case side1 => repeat (first | exact (Kd.R_reads' HO_362006.out).2.2 | (with_reducible first | refine Kd.C_alloc ?_ _ | refine Kd.C_drewN ?_ _ | refine Kd.C_drew ?_))); (case side2 => exact (Kd.R_reads' HO_362006.out).2.1); (case side3 => repeat (first | exact (Kd.C_below HR3.out HB.out) | (with_reducible first | refine Kd.C_alloc ?_ _ | refine Kd.C_drewN ?_ _ | refine Kd.C_drew ?_))); (case side4 => exact HC3.out); (case side5 => first | exact HT | exact ⟨Hand.Laid.below HT.out (by repeat (first | (with_reducible first | exact HB.out | apply below_alloc | apply pw_below_drewN | apply below_drew1 | refine below_set ?_ GE361.out) | exact HB.out))⟩); rintro e w116 ⟨rfl, hb⟩; refine ⟨_, rfl, ?_⟩; have n0_:=Aside0.mk (Kd.V_below (by (with_reducible repeat (first | apply Kd.V_alloc | apply Kd.V_drewN | apply Kd.V_drew)); exact HO_0.out) hb); have n1_:=Aside0.mk (Kd.N_below (by (with_reducible repeat (first | apply Kd.N_alloc | apply Kd.N_drewN | apply Kd.N_drew)); exact HO_11.out) hb); have n2_:=Aside0.mk (Kd.V_below (by (with_reducible repeat (first | apply Kd.V_alloc | apply Kd.V_drewN | apply Kd.V_drew)); exact HO_362003.out) hb); have n3_:=Aside0.mk (Kd.R_below (by (with_reducible repeat (first | apply Kd.R_alloc | apply Kd.R_drewN | apply Kd.R_drew)); exact HO_362006.out) hb); have n4_:=Aside0.mk (blk_below (g:=gb361) (o:=.cells #[.int .i64 a1_0, .string a1_1, .int .i64 a1_2, .slice A1_3 l1_3.length c1_3, .string a1_4, .int .i64 a1_5, .slice Ao47 t374.length co47] 28 (0, 0)) (by (with_reducible repeat (first | refine blk_drewN ?_ _ | refine blk_drew ?_ | refine blk_alloc ?_ _)); exact BK361.out) hb); have n5_:=Aside0.mk (below_step (by repeat (first | (with_reducible first | exact HB.out | apply below_alloc | apply pw_below_drewN | apply below_drew1 | refine below_set ?_ GE361.out) | exact HB.out)) hb); clear HO_0; clear HO_11; clear HO_362003; clear HO_362006; clear BK361; clear HB; have HO_0:=n0_; have HO_11:=n1_; have HO_362003:=n2_; have HO_362006:=n3_; have BK361:=n4_; have HB:=n5_; clear n0_ n1_ n2_ n3_ n4_ n5_; (try clear hb); (try clear hb2); (try clear hk); (try clear hi)) | ((with_reducible refine gate_callee (f:=11) rfl ?_); refine goesL_ (some 107) rfl rfl Tryd.func11 (by kernel_rfl) rfl #[.slice A0 l0.length c0, .slice A3 l3.length c3] rfl (by (try simp only [List.map_toArray, List.map_cons, List.map_nil]); first | done | rfl | (simp only [List.length_drop, List.length_take]; rfl)) ?_; (with_reducible refine (variant_Find.calls k4 _ _ l0 _ _ l3 t388 _ ?side5 ?side1 ?side2 ?side3 ?side4 A86.out).mono ?_); (case side1 => repeat (first | exact (Kd.V_reads' HO_0.out).2.2 | (with_reducible first | refine Kd.C_alloc ?_ _ | refine Kd.C_drewN ?_ _ | refine Kd.C_drew ?_))); (case side2 => exact (Kd.V_reads' HO_0.out).2.1); (case side3 => repeat (first | exact (Kd.C_below HR3.out HB.out) | (with_reducible first | refine Kd.C_alloc ?_ _ | refine Kd.C_drewN ?_ _ | refine Kd.C_drew ?_))); (case side4 => exact HC3.out); (case side5 => first | exact HT | exact ⟨Hand.Laid.below HT.out (by repeat (first | (with_reducible first | exact HB.out | apply below_alloc | apply pw_below_drewN | apply below_drew1 | refine below_set ?_ GE361.out) | exact HB.out))⟩); rintro e w117 ⟨rfl, hb⟩; refine ⟨_, rfl, ?_⟩; have n0_:=Aside0.mk (Kd.V_below (by (with_reducible repeat (first | apply Kd.V_alloc | apply Kd.V_drewN | apply Kd.V_drew)); exact HO_0.out) hb); have n1_:=Aside0.mk (Kd.N_below (by (with_reducible repeat (first | apply Kd.N_alloc | apply Kd.N_drewN | apply Kd.N_drew)); exact HO_11.out) hb); have n2_:=Aside0.mk (Kd.V_below (by (with_reducible repeat (first | apply Kd.V_alloc | apply Kd.V_drewN | apply Kd.V_drew)); exact HO_362003.out) hb); have n3_:=Aside0.mk (Kd.R_below (by (with_reducible repeat (first | apply Kd.R_alloc | apply Kd.R_drewN | apply Kd.R_drew)); exact HO_362006.out) hb); have n4_:=Aside0.mk (blk_below (g:=gb361) (o:=.cells #[.int .i64 a1_0, .string a1_1, .int .i64 a1_2, .slice A1_3 l1_3.length c1_3, .string a1_4, .int .i64 a1_5, .slice Ao47 t374.length co47] 28 (0, 0)) (by (with_reducible repeat (first | refine blk_drewN ?_ _ | refine blk_drew ?_ | refine blk_alloc ?_ _)); exact BK361.out) hb); have n5_:=Aside0.mk (below_step (by repeat (first | (with_reducible first | exact HB.out | apply below_alloc | apply pw_below_drewN | apply below_drew1 | refine below_set ?_ GE361.out) | exact HB.out)) hb); clear HO_0; clear HO_11; clear HO_362003; clear HO_362006; clear BK361; clear HB; have HO_0:=n0_; have HO_11:=n1_; have HO_362003:=n2_; have HO_362006:=n3_; have BK361:=n4_; have HB:=n5_; clear n0_ n1_ n2_ n3_ n4_ n5_; (try clear hb); (try clear hb2); (try clear hk); (try clear hi)) | ((with_reducible refine gate_callee (f:=11) rfl ?_); refine goesL_ (some 110) rfl rfl Tryd.func11 (by kernel_rfl) rfl #[.slice Ao114 t377.length co114, .slice A3 l3.length c3] rfl (by (try simp only [List.map_toArray, List.map_cons, List.map_nil]); first | done | rfl | (simp only [List.length_drop, List.length_take]; rfl)) ?_; (with_reducible refine (variant_Find.calls k4 _ _ t377 _ _ l3 t389 _ ?side5 ?side1 ?side2 ?side3 ?side4 A87.out).mono ?_); (case side1 => repeat (first | exact (Kd.N_reads' HO_11.out).2.2 | (with_reducible first | refine Kd.C_alloc ?_ _ | refine Kd.C_drewN ?_ _ | refine Kd.C_drew ?_))); (case side2 => exact (Kd.N_reads' HO_11.out).2.1); (case side3 => repeat (first | exact (Kd.C_below HR3.out HB.out) | (with_reducible first | refine Kd.C_alloc ?_ _ | refine Kd.C_drewN ?_ _ | refine Kd.C_drew ?_))); (case side4 => exact HC3.out); (case side5 => first | exact HT | exact ⟨Hand.Laid.below HT.out (by repeat (first | (with_reducible first | exact HB.out | apply below_alloc | apply pw_below_drewN | apply below_drew1 | refine below_set ?_ GE361.out) | exact HB.out))⟩); rintro e w118 ⟨rfl, hb⟩; refine ⟨_, rfl, ?_⟩; have n0_:=Aside0.mk (Kd.V_below (by (with_reducible repeat (first | apply Kd.V_alloc | apply Kd.V_drewN | apply Kd.V_drew)); exact HO_0.out) hb); have n1_:=Aside0.mk (Kd.N_below (by (with_reducible repeat (first | apply Kd.N_alloc | apply Kd.N_drewN | apply Kd.N_drew)); exact HO_11.out) hb); have n2_:=Aside0.mk (Kd.V_below (by (with_reducible repeat (first | apply Kd.V_alloc | apply Kd.V_drewN | apply Kd.V_drew)); exact HO_362003.out) hb); have n3_:=Aside0.mk (Kd.R_below (by (with_reducible repeat (first | apply Kd.R_alloc | apply Kd.R_drewN | apply Kd.R_drew)); exact HO_362006.out) hb); have n4_:=Aside0.mk (blk_below (g:=gb361) (o:=.cells #[.int .i64 a1_0, .string a1_1, .int .i64 a1_2, .slice A1_3 l1_3.length c1_3, .string a1_4, .int .i64 a1_5, .slice Ao47 t374.length co47] 28 (0, 0)) (by (with_reducible repeat (first | refine blk_drewN ?_ _ | refine blk_drew ?_ | refine blk_alloc ?_ _)); exact BK361.out) hb); have n5_:=Aside0.mk (below_step (by repeat (first | (with_reducible first | exact HB.out | apply below_alloc | apply pw_below_drewN | apply below_drew1 | refine below_set ?_ GE361.out) | exact HB.out)) hb); clear HO_0; clear HO_11; clear HO_362003; clear HO_362006; clear BK361; clear HB; have HO_0:=n0_; have HO_11:=n1_; have HO_362003:=n2_; have HO_362006:=n3_; have BK361:=n4_; have HB:=n5_; clear n0_ n1_ n2_ n3_ n4_ n5_; (try clear hb); (try clear hb2); (try clear hk); (try clear hi)))
                     have n0_:=Aside0.mk (Kd.V_drew HO_0.out)
                     have n1_:=Aside0.mk (Kd.N_drew HO_11.out)
                     have n2_:=Aside0.mk (Kd.V_drew HO_362003.out)
                     have n3_:=Aside0.mk (Kd.R_drew HO_362006.out)
                     have n4_:=Aside0.mk (blk_drew BK361.out)
                     have n5_:=Aside0.mk (below_drew1 HB.out)
                     clear HO_0
                     clear HO_11
                     clear HO_362003
                     clear HO_362006
                     clear BK361
                     clear HB
                     have HO_0:=n0_
                     have HO_11:=n1_
                     have HO_362003:=n2_
                     have HO_362006:=n3_
                     have BK361:=n4_
                     have HB:=n5_
                     clear n0_ n1_ n2_ n3_ n4_ n5_
                     have p392 : 0 ≤ (t388 : Int):=of_decide_eq_true (by first | (with_reducible assumption) | assumption)
                     have q392 : t388 < (l0.length : Int):=of_decide_eq_true (by first | (with_reducible assumption) | assumption)
                     obtain ⟨ad392, A392_3, c392_3, A392_6, c392_6, e392, hx392_0, hx392_1, hx392_2, hx392_3, hx392_4, hx392_5, hx392_6, hl392_3, hi392_3, hl392_6, hi392_6⟩:=at_T28 (Kd.V_reads' HO_0.out).2.2 t388 p392 q392
                     cases e392
                     obtain ⟨ce392, hce392, hMe392, hcc392⟩:=Kd.V_get HO_0.out z28 t388 p392 (by first | exact q392 | exact of_decide_eq_true (by first | (with_reducible assumption) | assumption) | (have e_:=(Kd.V_reads' HO_0.out).1; omega))
                     obtain ⟨ua392_3, uc392_3, ua392_6, uc392_6, rfl, ul392_3, ge392_3, ul392_6, ge392_6⟩:=k28_openF hMe392
                     have hv392_3:=hcc392 3 _ rfl
                     rw [add_field _ _ 3 (by omega)] at hv392_3
                     replace hv392_3:=Option.some.inj (hv392_3.symm.trans hx392_3)
                     injection hv392_3 with hva_ hvn_ hvc_
                     rw [hva_] at ge392_3
                     rw [hvc_] at ul392_3
                     have HL392_3:=Aside0.mk (show Kd.V k62 62 _ w.heap.size _ _ ((rd_T28 l0 t388).f0.f3) from Kd.V_mk ul392_3 ge392_3)
                     clear hva_ hvn_ hvc_ ge392_3 ul392_3
                     have hv392_6:=hcc392 6 _ rfl
                     rw [add_field _ _ 6 (by omega)] at hv392_6
                     replace hv392_6:=Option.some.inj (hv392_6.symm.trans hx392_6)
                     injection hv392_6 with hva_ hvn_ hvc_
                     rw [hva_] at ge392_6
                     rw [hvc_] at ul392_6
                     have HL392_6:=Aside0.mk (show Kd.V k53 53 _ w.heap.size _ _ ((rd_T28 l0 t388).f2) from Kd.V_mk ul392_6 ge392_6)
                     clear hva_ hvn_ hvc_ ge392_6 ul392_6
                     clear hcc392 hce392
                     have HR392_3:=Aside0.mk hi392_3
                     have HC392_3:=Aside0.mk hl392_3
                     clear hi392_3 hl392_3
                     have HR392_6:=Aside0.mk hi392_6
                     have HC392_6:=Aside0.mk hl392_6
                     clear hi392_6 hl392_6
                     replace p392:=eq_true p392
                     replace q392:=eq_true q392
                     have p393 : 0 ≤ (t389 : Int):=of_decide_eq_true (by first | (with_reducible assumption) | assumption)
                     have q393 : t389 < (t377.length : Int):=of_decide_eq_true (by first | (with_reducible assumption) | assumption)
                     obtain ⟨ad393, A393_3, c393_3, A393_6, c393_6, e393, hx393_0, hx393_1, hx393_2, hx393_3, hx393_4, hx393_5, hx393_6, hl393_3, hi393_3, hl393_6, hi393_6⟩:=at_T28 (Kd.N_reads' HO_11.out).2.2 t389 p393 q393
                     cases e393
                     obtain ⟨ce393, hce393, hMe393, hcc393⟩:=Kd.N_get HO_11.out z28 t389 p393 (by first | exact q393 | exact of_decide_eq_true (by first | (with_reducible assumption) | assumption) | (have e_:=(Kd.N_reads' HO_11.out).1; omega))
                     obtain ⟨ua393_3, uc393_3, ua393_6, uc393_6, rfl, ul393_3, ge393_3, ul393_6, ge393_6⟩:=k28_openF hMe393
                     have hv393_3:=hcc393 3 _ rfl
                     rw [add_field _ _ 3 (by omega)] at hv393_3
                     replace hv393_3:=Option.some.inj (hv393_3.symm.trans hx393_3)
                     injection hv393_3 with hva_ hvn_ hvc_
                     rw [hva_] at ge393_3
                     rw [hvc_] at ul393_3
                     have HL393_3:=Aside0.mk (show Kd.V k62 62 _ w.heap.size _ _ ((rd_T28 t377 t389).f0.f3) from Kd.V_mk ul393_3 ge393_3)
                     clear hva_ hvn_ hvc_ ge393_3 ul393_3
                     have hv393_6:=hcc393 6 _ rfl
                     rw [add_field _ _ 6 (by omega)] at hv393_6
                     replace hv393_6:=Option.some.inj (hv393_6.symm.trans hx393_6)
                     injection hv393_6 with hva_ hvn_ hvc_
                     rw [hva_] at ge393_6
                     rw [hvc_] at ul393_6
                     have HL393_6:=Aside0.mk (show Kd.V k53 53 _ w.heap.size _ _ ((rd_T28 t377 t389).f2) from Kd.V_mk ul393_6 ge393_6)
                     clear hva_ hvn_ hvc_ ge393_6 ul393_6
                     clear hcc393 hce393
                     have HR393_3:=Aside0.mk hi393_3
                     have HC393_3:=Aside0.mk hl393_3
                     clear hi393_3 hl393_3
                     have HR393_6:=Aside0.mk hi393_6
                     have HC393_6:=Aside0.mk hl393_6
                     clear hi393_6 hl393_6
                     replace p393:=eq_true p393
                     replace q393:=eq_true q393
                     refine start_ (n:=29) (S:=fun w' => w'.cell? (ad392.add ((t388).toNat * 7)) = some (.int .i64 ((rd_T28 l0 t388).f0.f0)) ∧ w'.cell? ⟨(ad392.add ((t388).toNat * 7)).block, (ad392.add ((t388).toNat * 7)).off + 1, none⟩ = some (.string ((rd_T28 l0 t388).f0.f1)) ∧ w'.cell? ⟨(ad392.add ((t388).toNat * 7)).block, (ad392.add ((t388).toNat * 7)).off + 2, none⟩ = some (.int .i64 ((rd_T28 l0 t388).f0.f2)) ∧ w'.cell? ⟨(ad392.add ((t388).toNat * 7)).block, (ad392.add ((t388).toNat * 7)).off + 3, none⟩ = some (.slice A392_3 ((rd_T28 l0 t388).f0.f3).length c392_3) ∧ w'.cell? ⟨(ad392.add ((t388).toNat * 7)).block, (ad392.add ((t388).toNat * 7)).off + 4, none⟩ = some (.string ((rd_T28 l0 t388).f0.f4)) ∧ w'.cell? ⟨(ad392.add ((t388).toNat * 7)).block, (ad392.add ((t388).toNat * 7)).off + 5, none⟩ = some (.int .i64 ((rd_T28 l0 t388).f1)) ∧ w'.cell? ⟨(ad392.add ((t388).toNat * 7)).block, (ad392.add ((t388).toNat * 7)).off + 6, none⟩ = some (.slice A392_6 ((rd_T28 l0 t388).f2).length c392_6) ∧ w'.cell? (ad393.add ((t389).toNat * 7)) = some (.int .i64 ((rd_T28 t377 t389).f0.f0)) ∧ w'.cell? ⟨(ad393.add ((t389).toNat * 7)).block, (ad393.add ((t389).toNat * 7)).off + 1, none⟩ = some (.string ((rd_T28 t377 t389).f0.f1)) ∧ w'.cell? ⟨(ad393.add ((t389).toNat * 7)).block, (ad393.add ((t389).toNat * 7)).off + 2, none⟩ = some (.int .i64 ((rd_T28 t377 t389).f0.f2)) ∧ w'.cell? ⟨(ad393.add ((t389).toNat * 7)).block, (ad393.add ((t389).toNat * 7)).off + 3, none⟩ = some (.slice A393_3 ((rd_T28 t377 t389).f0.f3).length c393_3) ∧ w'.cell? ⟨(ad393.add ((t389).toNat * 7)).block, (ad393.add ((t389).toNat * 7)).off + 4, none⟩ = some (.string ((rd_T28 t377 t389).f0.f4)) ∧ w'.cell? ⟨(ad393.add ((t389).toNat * 7)).block, (ad393.add ((t389).toNat * 7)).off + 5, none⟩ = some (.int .i64 ((rd_T28 t377 t389).f1)) ∧ w'.cell? ⟨(ad393.add ((t389).toNat * 7)).block, (ad393.add ((t389).toNat * 7)).off + 6, none⟩ = some (.slice A393_6 ((rd_T28 t377 t389).f2).length c393_6)) (ds:=[]) #[false, false, false, false, false, false, false, false, false, false, false, false, false, false, false, false, false, false, false, false, false, false, false, false, false, false, false, false, false] (by kernel_rfl) rfl rfl ⟨hx392_0, hx392_1, hx392_2, hx392_3, hx392_4, hx392_5, hx392_6, hx393_0, hx393_1, hx393_2, hx393_3, hx393_4, hx393_5, hx393_6⟩ (fun hHeld => ?_); refine with_tabW depotlaw20_VariantFirst.tab22 depotlaw20_VariantFirst.bits22 (fun HT_ HW_ => ?_)
                     generalize w118.drew = w119 at HO_0 HO_11 HO_362003 HO_362006 BK361 HB HL392_3 HL392_6 HL393_3 HL393_6 HR392_3 HR392_6 HR393_3 HR393_6 hx392_0 hx392_1 hx392_2 hx392_3 hx392_4 hx392_5 hx392_6 hx393_0 hx393_1 hx393_2 hx393_3 hx393_4 hx393_5 hx393_6 hHeld ⊢
                     refine pure_ (i:=0) (N:=some 127) (v:=?_) (a':=?_) #[true, false, false, false, false, false, false, false, false, false, false, false, false, false, false, false, false, false, false, false, false, false, false, false, false, false, false, false, false] rfl rfl (any_of HT_.out (by kernel_rfl)) (fun _ _ _ h => h) (Or.inl ⟨by rfl, ?_⟩) ?_ ?_
                     rotate_left
                     ·intro w'
                      go_simp
                      with_reducible rfl
                     rotate_left
                     ·simp only [Act.put, List.setIfInBounds_toArray, List.set_cons_zero, List.set_cons_succ, i64_w, i32_w]
                      rfl
                     refine pure_ (i:=1) (N:=some 128) (v:=?_) (a':=?_) #[true, true, false, false, false, false, false, false, false, false, false, false, false, false, false, false, false, false, false, false, false, false, false, false, false, false, false, false, false] rfl rfl (any_of HT_.out (by kernel_rfl)) (fun _ _ _ h => h) (Or.inl ⟨by rfl, ?_⟩) ?_ ?_
                     rotate_left
                     ·intro w'
                      go_simp
                      with_reducible rfl
                     rotate_left
                     ·simp only [Act.put, List.setIfInBounds_toArray, List.set_cons_zero, List.set_cons_succ, i64_w, i32_w]
                      rfl
                     refine pure_ (i:=2) (N:=some 129) (v:=?_) (a':=?_) #[true, true, true, false, false, false, false, false, false, false, false, false, false, false, false, false, false, false, false, false, false, false, false, false, false, false, false, false, false] rfl rfl (any_of HT_.out (by kernel_rfl)) (fun _ _ _ h => h) (Or.inl ⟨by rfl, ?_⟩) ?_ ?_
                     rotate_left
                     ·intro w'
                      go_simp
                      with_reducible rfl
                     rotate_left
                     ·simp only [Act.put, List.setIfInBounds_toArray, List.set_cons_zero, List.set_cons_succ, i64_w, i32_w]
                      rfl
                     refine pure_ (i:=3) (N:=some 130) (v:=?_) (a':=?_) #[true, true, true, true, false, false, false, false, false, false, false, false, false, false, false, false, false, false, false, false, false, false, false, false, false, false, false, false, false] rfl rfl (any_of HT_.out (by kernel_rfl)) (fun _ _ _ h => h) (Or.inl ⟨by rfl, ?_⟩) ?_ ?_
                     rotate_left
                     ·intro w'
                      go_simp
                      with_reducible rfl
                     rotate_left
                     ·simp only [Act.put, List.setIfInBounds_toArray, List.set_cons_zero, List.set_cons_succ, i64_w, i32_w]
                      rfl
                     refine pure_ (i:=4) (N:=some 131) (v:=?_) (a':=?_) #[true, true, true, true, true, false, false, false, false, false, false, false, false, false, false, false, false, false, false, false, false, false, false, false, false, false, false, false, false] rfl rfl (any_of HT_.out (by kernel_rfl)) (fun _ _ _ h => h) (Or.inl ⟨by rfl, ?_⟩) ?_ ?_
                     rotate_left
                     ·intro w'
                      go_simp
                      with_reducible rfl
                     rotate_left
                     ·simp only [Act.put, List.setIfInBounds_toArray, List.set_cons_zero, List.set_cons_succ, i64_w, i32_w]
                      rfl
                     refine pure_ (i:=5) (N:=some 132) (v:=?_) (a':=?_) #[true, true, true, true, true, true, false, false, false, false, false, false, false, false, false, false, false, false, false, false, false, false, false, false, false, false, false, false, false] rfl rfl (any_of HT_.out (by kernel_rfl)) (fun _ _ _ h => h) (Or.inl ⟨by rfl, ?_⟩) ?_ ?_
                     rotate_left
                     ·intro w'
                      go_simp
                      with_reducible rfl
                     rotate_left
                     ·simp only [Act.put, List.setIfInBounds_toArray, List.set_cons_zero, List.set_cons_succ, i64_w, i32_w]
                      rfl
                     refine pure_ (i:=6) (N:=some 133) (v:=?_) (a':=?_) #[true, true, true, true, true, true, true, false, false, false, false, false, false, false, false, false, false, false, false, false, false, false, false, false, false, false, false, false, false] rfl rfl (any_of HT_.out (by kernel_rfl)) (fun _ _ _ h => h) (Or.inl ⟨by rfl, ?_⟩) ?_ ?_
                     rotate_left
                     ·intro w'
                      go_simp
                      with_reducible rfl
                     rotate_left
                     ·simp only [Act.put, List.setIfInBounds_toArray, List.set_cons_zero, List.set_cons_succ, i64_w, i32_w]
                      rfl
                     refine pure_ (i:=7) (N:=some 134) (v:=?_) (a':=?_) #[true, true, true, true, true, true, true, true, false, false, false, false, false, false, false, false, false, false, false, false, false, false, false, false, false, false, false, false, false] rfl rfl (any_of HT_.out (by kernel_rfl)) (fun _ _ _ h => h) (Or.inl ⟨by rfl, ?_⟩) ?_ ?_
                     rotate_left
                     ·intro w'
                      go_simp
                      with_reducible rfl
                     rotate_left
                     ·simp only [Act.put, List.setIfInBounds_toArray, List.set_cons_zero, List.set_cons_succ, i64_w, i32_w]
                      rfl
                     refine pure_ (i:=8) (N:=some 135) (v:=?_) (a':=?_) #[true, true, true, true, true, true, true, true, true, false, false, false, false, false, false, false, false, false, false, false, false, false, false, false, false, false, false, false, false] rfl rfl (any_of HT_.out (by kernel_rfl)) (fun _ _ _ h => h) (Or.inl ⟨by rfl, ?_⟩) ?_ ?_
                     rotate_left
                     ·intro w'
                      go_simp
                      with_reducible rfl
                     rotate_left
                     ·simp only [Act.put, List.setIfInBounds_toArray, List.set_cons_zero, List.set_cons_succ, i64_w, i32_w]
                      rfl
                     refine pure_ (i:=9) (N:=some 136) (v:=?_) (a':=?_) #[true, true, true, true, true, true, true, true, true, true, false, false, false, false, false, false, false, false, false, false, false, false, false, false, false, false, false, false, false] rfl rfl (any_of HT_.out (by kernel_rfl)) (fun _ _ _ h => h) (Or.inl ⟨by rfl, ?_⟩) ?_ ?_
                     rotate_left
                     ·intro w'
                      go_simp
                      with_reducible rfl
                     rotate_left
                     ·simp only [Act.put, List.setIfInBounds_toArray, List.set_cons_zero, List.set_cons_succ, i64_w, i32_w]
                      rfl
                     refine pure_ (i:=10) (N:=some 137) (v:=?_) (a':=?_) #[true, true, true, true, true, true, true, true, true, true, true, false, false, false, false, false, false, false, false, false, false, false, false, false, false, false, false, false, false] rfl rfl (any_of HT_.out (by kernel_rfl)) (fun _ _ _ h => h) (Or.inl ⟨by rfl, ?_⟩) ?_ ?_
                     rotate_left
                     ·intro w'
                      go_simp
                      with_reducible rfl
                     rotate_left
                     ·simp only [Act.put, List.setIfInBounds_toArray, List.set_cons_zero, List.set_cons_succ, i64_w, i32_w]
                      rfl
                     refine pure_ (i:=11) (N:=some 138) (v:=?_) (a':=?_) #[true, true, true, true, true, true, true, true, true, true, true, true, false, false, false, false, false, false, false, false, false, false, false, false, false, false, false, false, false] rfl rfl (any_of HT_.out (by kernel_rfl)) (fun _ _ _ h => h) (Or.inl ⟨by rfl, ?_⟩) ?_ ?_
                     rotate_left
                     ·intro w'
                      go_simp
                      with_reducible rfl
                     rotate_left
                     ·simp only [Act.put, List.setIfInBounds_toArray, List.set_cons_zero, List.set_cons_succ, i64_w, i32_w]
                      rfl
                     refine pure_ (i:=12) (N:=some 139) (v:=?_) (a':=?_) #[true, true, true, true, true, true, true, true, true, true, true, true, true, false, false, false, false, false, false, false, false, false, false, false, false, false, false, false, false] rfl rfl (any_of HT_.out (by kernel_rfl)) (fun _ _ _ h => h) (Or.inl ⟨by rfl, ?_⟩) ?_ ?_
                     rotate_left
                     ·intro w'
                      go_simp
                      with_reducible rfl
                     rotate_left
                     ·simp only [Act.put, List.setIfInBounds_toArray, List.set_cons_zero, List.set_cons_succ, i64_w, i32_w]
                      rfl
                     refine pure_ (i:=13) (N:=some 140) (v:=?_) (a':=?_) #[true, true, true, true, true, true, true, true, true, true, true, true, true, true, false, false, false, false, false, false, false, false, false, false, false, false, false, false, false] rfl rfl (any_of HT_.out (by kernel_rfl)) (fun _ _ _ h => h) (Or.inl ⟨by rfl, ?_⟩) ?_ ?_
                     rotate_left
                     ·intro w'
                      go_simp
                      with_reducible rfl
                     rotate_left
                     ·simp only [Act.put, List.setIfInBounds_toArray, List.set_cons_zero, List.set_cons_succ, i64_w, i32_w]
                      rfl
                     refine pure_ (i:=14) (N:=some 141) (v:=?_) (a':=?_) #[true, true, true, true, true, true, true, true, true, true, true, true, true, true, true, false, false, false, false, false, false, false, false, false, false, false, false, false, false] rfl rfl (any_of HT_.out (by kernel_rfl)) (fun _ _ _ h => h) (Or.inl ⟨by rfl, ?_⟩) ?_ ?_
                     rotate_left
                     ·intro w'
                      go_simp
                      with_reducible rfl
                     rotate_left
                     ·simp only [Act.put, List.setIfInBounds_toArray, List.set_cons_zero, List.set_cons_succ, i64_w, i32_w]
                      rfl
                     refine pure_ (i:=15) (N:=some 142) (v:=?_) (a':=?_) #[true, true, true, true, true, true, true, true, true, true, true, true, true, true, true, true, false, false, false, false, false, false, false, false, false, false, false, false, false] rfl rfl (any_of HT_.out (by kernel_rfl)) (fun _ _ _ h => h) (Or.inl ⟨by rfl, ?_⟩) ?_ ?_
                     rotate_left
                     ·intro w'
                      go_simp
                      with_reducible rfl
                     rotate_left
                     ·simp only [Act.put, List.setIfInBounds_toArray, List.set_cons_zero, List.set_cons_succ, i64_w, i32_w]
                      rfl
                     refine pure_ (i:=16) (N:=some 143) (v:=?_) (a':=?_) #[true, true, true, true, true, true, true, true, true, true, true, true, true, true, true, true, true, false, false, false, false, false, false, false, false, false, false, false, false] rfl rfl (any_of HT_.out (by kernel_rfl)) (fun _ _ _ h => h) (Or.inl ⟨by rfl, ?_⟩) ?_ ?_
                     rotate_left
                     ·intro w'
                      go_simp
                      with_reducible rfl
                     rotate_left
                     ·simp only [Act.put, List.setIfInBounds_toArray, List.set_cons_zero, List.set_cons_succ, i64_w, i32_w]
                      rfl
                     refine pure_ (i:=17) (N:=some 144) (v:=?_) (a':=?_) #[true, true, true, true, true, true, true, true, true, true, true, true, true, true, true, true, true, true, false, false, false, false, false, false, false, false, false, false, false] rfl rfl (any_of HT_.out (by kernel_rfl)) (fun _ _ _ h => h) (Or.inl ⟨by rfl, ?_⟩) ?_ ?_
                     rotate_left
                     ·intro w'
                      go_simp
                      with_reducible rfl
                     rotate_left
                     ·simp only [Act.put, List.setIfInBounds_toArray, List.set_cons_zero, List.set_cons_succ, i64_w, i32_w]
                      rfl
                     refine pure_ (i:=19) (N:=some 146) (v:=?_) (a':=?_) #[true, true, true, true, true, true, true, true, true, true, true, true, true, true, true, true, true, true, false, true, false, false, false, false, false, false, false, false, false] rfl rfl (any_of HT_.out (by kernel_rfl)) (fun _ _ _ h => h) (Or.inl ⟨by rfl, ?_⟩) ?_ ?_
                     rotate_left
                     ·intro w'
                      go_simp
                      with_reducible rfl
                     rotate_left
                     ·simp only [Act.put, List.setIfInBounds_toArray, List.set_cons_zero, List.set_cons_succ, i64_w, i32_w]
                      rfl
                     refine pure_ (i:=20) (N:=some 147) (v:=?_) (a':=?_) #[true, true, true, true, true, true, true, true, true, true, true, true, true, true, true, true, true, true, false, true, true, false, false, false, false, false, false, false, false] rfl rfl (any_of HT_.out (by kernel_rfl)) (fun _ _ _ h => h) (Or.inl ⟨by rfl, ?_⟩) ?_ ?_
                     rotate_left
                     ·intro w'
                      go_simp
                      with_reducible rfl
                     rotate_left
                     ·simp only [Act.put, List.setIfInBounds_toArray, List.set_cons_zero, List.set_cons_succ, i64_w, i32_w]
                      rfl
                     refine pure_ (i:=21) (N:=some 148) (v:=?_) (a':=?_) #[true, true, true, true, true, true, true, true, true, true, true, true, true, true, true, true, true, true, false, true, true, true, false, false, false, false, false, false, false] rfl rfl (any_of HT_.out (by kernel_rfl)) (fun _ _ _ h => h) (Or.inl ⟨by rfl, ?_⟩) ?_ ?_
                     rotate_left
                     ·intro w'
                      go_simp
                      with_reducible rfl
                     rotate_left
                     ·simp only [Act.put, List.setIfInBounds_toArray, List.set_cons_zero, List.set_cons_succ, i64_w, i32_w]
                      rfl
                     refine take_ (i:=18) (N:=some 145) (v:=?_) (a':=?_) #[true, true, true, true, true, true, true, true, true, true, true, true, true, true, true, true, true, true, true, true, true, true, false, false, false, false, false, false, false] rfl rfl (take_ofW HT_.out HW_.out (by kernel_rfl)) (fun _ _ _ h => h) (Or.inl ⟨by rfl, ?_⟩) hHeld ?_ ?_
                     rotate_left
                     ·rintro w' ⟨s0, s1, s2, s3, s4, s5, s6, s7, s8, s9, s10, s11, s12, s13⟩
                      go_simp
                      with_reducible rfl
                     rotate_left
                     ·simp only [Act.put, List.setIfInBounds_toArray, List.set_cons_zero, List.set_cons_succ, i64_w, i32_w]
                      rfl
                     refine take_ (i:=22) (N:=some 149) (v:=?_) (a':=?_) #[true, true, true, true, true, true, true, true, true, true, true, true, true, true, true, true, true, true, true, true, true, true, true, false, false, false, false, false, false] rfl rfl (take_ofW HT_.out HW_.out (by kernel_rfl)) (fun _ _ _ h => h) (Or.inl ⟨by rfl, ?_⟩) hHeld ?_ ?_
                     rotate_left
                     ·rintro w' ⟨s0, s1, s2, s3, s4, s5, s6, s7, s8, s9, s10, s11, s12, s13⟩
                      go_simp
                      with_reducible rfl
                     rotate_left
                     ·simp only [Act.put, List.setIfInBounds_toArray, List.set_cons_zero, List.set_cons_succ, i64_w, i32_w]
                      rfl
                     refine one_ (i:=23) (N:=some 150) #[true, true, true, true, true, true, true, true, true, true, true, true, true, true, true, true, true, true, true, true, true, true, true, true, false, false, false, false, false] rfl rfl (one_of HT_.out (by kernel_rfl)) (by decide) (fun K hK => ?_)
                     refine goes_ Tryd.func24 (by kernel_rfl) rfl #[.agg #[.int .i64 ((rd_T28 l0 t388).f0.f0), .string ((rd_T28 l0 t388).f0.f1), .int .i64 ((rd_T28 l0 t388).f0.f2), .slice A392_3 ((rd_T28 l0 t388).f0.f3).length c392_3, .string ((rd_T28 l0 t388).f0.f4), .int .i64 ((rd_T28 l0 t388).f1), .slice A392_6 ((rd_T28 l0 t388).f2).length c392_6], .agg #[.int .i64 ((rd_T28 t377 t389).f0.f0), .string ((rd_T28 t377 t389).f0.f1), .int .i64 ((rd_T28 t377 t389).f0.f2), .slice A393_3 ((rd_T28 t377 t389).f0.f3).length c393_3, .string ((rd_T28 t377 t389).f0.f4), .int .i64 ((rd_T28 t377 t389).f1), .slice A393_6 ((rd_T28 t377 t389).f2).length c393_6]] (by rfl) rfl rfl (by (try simp only [List.map_toArray, List.map_cons, List.map_nil]); first | done | rfl | (simp only [List.length_drop, List.length_take]; rfl)) ?_
                     with_reducible refine (depotref20_One.calls k4 ((rd_T28 l0 t388).f0.f0) ((rd_T28 l0 t388).f0.f1) ((rd_T28 l0 t388).f0.f2) _ _ ((rd_T28 l0 t388).f0.f3) ((rd_T28 l0 t388).f0.f4) ((rd_T28 l0 t388).f1) _ _ ((rd_T28 l0 t388).f2) ((rd_T28 t377 t389).f0.f0) ((rd_T28 t377 t389).f0.f1) ((rd_T28 t377 t389).f0.f2) _ _ ((rd_T28 t377 t389).f0.f3) ((rd_T28 t377 t389).f0.f4) ((rd_T28 t377 t389).f1) _ _ ((rd_T28 t377 t389).f2) true _ ?side1 ?side2 ?side3 ?side4 ?side5 ?side6 ?side7 ?side8 A111.out).mono ?_
                     (case side1 => repeat (first | exact (by repeat (first | (with_reducible exact HR392_3.out) | (with_reducible first | refine Kd.C_alloc ?_ _ | refine Kd.C_drewN ?_ _ | refine Kd.C_drew ?_) | exact HR392_3.out)) | (with_reducible first | refine Kd.C_alloc ?_ _ | refine Kd.C_drewN ?_ _ | refine Kd.C_drew ?_)))
                     (case side2 => exact HC392_3.out)
                     (case side3 => repeat (first | exact (by repeat (first | (with_reducible exact HR392_6.out) | (with_reducible first | refine Kd.C_alloc ?_ _ | refine Kd.C_drewN ?_ _ | refine Kd.C_drew ?_) | exact HR392_6.out)) | (with_reducible first | refine Kd.C_alloc ?_ _ | refine Kd.C_drewN ?_ _ | refine Kd.C_drew ?_)))
                     (case side4 => exact HC392_6.out)
                     (case side5 => repeat (first | exact (by repeat (first | (with_reducible exact HR393_3.out) | (with_reducible first | refine Kd.C_alloc ?_ _ | refine Kd.C_drewN ?_ _ | refine Kd.C_drew ?_) | exact HR393_3.out)) | (with_reducible first | refine Kd.C_alloc ?_ _ | refine Kd.C_drewN ?_ _ | refine Kd.C_drew ?_)))
                     (case side6 => exact HC393_3.out)
                     (case side7 => repeat (first | exact (by repeat (first | (with_reducible exact HR393_6.out) | (with_reducible first | refine Kd.C_alloc ?_ _ | refine Kd.C_drewN ?_ _ | refine Kd.C_drew ?_) | exact HR393_6.out)) | (with_reducible first | refine Kd.C_alloc ?_ _ | refine Kd.C_drewN ?_ _ | refine Kd.C_drew ?_)))
                     (case side8 => exact HC393_6.out)
                     rintro e w120 ⟨rfl, hb⟩
                     have HS0_:=(hb.cell (World.block_lt_of_cell? _ _ (hHeld.1))).trans (hHeld.1)
                     have HS1_:=(hb.cell (World.block_lt_of_cell? _ _ (hHeld.2.1))).trans (hHeld.2.1)
                     have HS2_:=(hb.cell (World.block_lt_of_cell? _ _ (hHeld.2.2.1))).trans (hHeld.2.2.1)
                     have HS3_:=(hb.cell (World.block_lt_of_cell? _ _ (hHeld.2.2.2.1))).trans (hHeld.2.2.2.1)
                     have HS4_:=(hb.cell (World.block_lt_of_cell? _ _ (hHeld.2.2.2.2.1))).trans (hHeld.2.2.2.2.1)
                     have HS5_:=(hb.cell (World.block_lt_of_cell? _ _ (hHeld.2.2.2.2.2.1))).trans (hHeld.2.2.2.2.2.1)
                     have HS6_:=(hb.cell (World.block_lt_of_cell? _ _ (hHeld.2.2.2.2.2.2.1))).trans (hHeld.2.2.2.2.2.2.1)
                     have HS7_:=(hb.cell (World.block_lt_of_cell? _ _ (hHeld.2.2.2.2.2.2.2.1))).trans (hHeld.2.2.2.2.2.2.2.1)
                     have HS8_:=(hb.cell (World.block_lt_of_cell? _ _ (hHeld.2.2.2.2.2.2.2.2.1))).trans (hHeld.2.2.2.2.2.2.2.2.1)
                     have HS9_:=(hb.cell (World.block_lt_of_cell? _ _ (hHeld.2.2.2.2.2.2.2.2.2.1))).trans (hHeld.2.2.2.2.2.2.2.2.2.1)
                     have HS10_:=(hb.cell (World.block_lt_of_cell? _ _ (hHeld.2.2.2.2.2.2.2.2.2.2.1))).trans (hHeld.2.2.2.2.2.2.2.2.2.2.1)
                     have HS11_:=(hb.cell (World.block_lt_of_cell? _ _ (hHeld.2.2.2.2.2.2.2.2.2.2.2.1))).trans (hHeld.2.2.2.2.2.2.2.2.2.2.2.1)
                     have HS12_:=(hb.cell (World.block_lt_of_cell? _ _ (hHeld.2.2.2.2.2.2.2.2.2.2.2.2.1))).trans (hHeld.2.2.2.2.2.2.2.2.2.2.2.2.1)
                     have HS13_:=(hb.cell (World.block_lt_of_cell? _ _ (hHeld.2.2.2.2.2.2.2.2.2.2.2.2.2))).trans (hHeld.2.2.2.2.2.2.2.2.2.2.2.2.2)
                     refine ⟨_, rfl, ?_⟩
                     have n0_:=Aside0.mk (Kd.V_below (by (with_reducible repeat (first | apply Kd.V_alloc | apply Kd.V_drewN | apply Kd.V_drew)); exact HO_0.out) hb)
                     have n1_:=Aside0.mk (Kd.N_below (by (with_reducible repeat (first | apply Kd.N_alloc | apply Kd.N_drewN | apply Kd.N_drew)); exact HO_11.out) hb)
                     have n2_:=Aside0.mk (Kd.V_below (by (with_reducible repeat (first | apply Kd.V_alloc | apply Kd.V_drewN | apply Kd.V_drew)); exact HO_362003.out) hb)
                     have n3_:=Aside0.mk (Kd.R_below (by (with_reducible repeat (first | apply Kd.R_alloc | apply Kd.R_drewN | apply Kd.R_drew)); exact HO_362006.out) hb)
                     have n4_:=Aside0.mk (Kd.V_below (by (with_reducible repeat (first | apply Kd.V_alloc | apply Kd.V_drewN | apply Kd.V_drew)); exact HL392_3.out) hb)
                     have n5_:=Aside0.mk (Kd.V_below (by (with_reducible repeat (first | apply Kd.V_alloc | apply Kd.V_drewN | apply Kd.V_drew)); exact HL392_6.out) hb)
                     have n6_:=Aside0.mk (Kd.V_below (by (with_reducible repeat (first | apply Kd.V_alloc | apply Kd.V_drewN | apply Kd.V_drew)); exact HL393_3.out) hb)
                     have n7_:=Aside0.mk (Kd.V_below (by (with_reducible repeat (first | apply Kd.V_alloc | apply Kd.V_drewN | apply Kd.V_drew)); exact HL393_6.out) hb)
                     have n8_:=Aside0.mk (blk_below (g:=gb361) (o:=.cells #[.int .i64 a1_0, .string a1_1, .int .i64 a1_2, .slice A1_3 l1_3.length c1_3, .string a1_4, .int .i64 a1_5, .slice Ao47 t374.length co47] 28 (0, 0)) (by (with_reducible repeat (first | refine blk_drewN ?_ _ | refine blk_drew ?_ | refine blk_alloc ?_ _)); exact BK361.out) hb)
                     have n9_:=Aside0.mk (Kd.C_below (by repeat (first | (with_reducible exact HR392_3.out) | (with_reducible first | refine Kd.C_alloc ?_ _ | refine Kd.C_drewN ?_ _ | refine Kd.C_drew ?_) | exact HR392_3.out)) hb)
                     have n10_:=Aside0.mk (Kd.C_below (by repeat (first | (with_reducible exact HR392_6.out) | (with_reducible first | refine Kd.C_alloc ?_ _ | refine Kd.C_drewN ?_ _ | refine Kd.C_drew ?_) | exact HR392_6.out)) hb)
                     have n11_:=Aside0.mk (Kd.C_below (by repeat (first | (with_reducible exact HR393_3.out) | (with_reducible first | refine Kd.C_alloc ?_ _ | refine Kd.C_drewN ?_ _ | refine Kd.C_drew ?_) | exact HR393_3.out)) hb)
                     have n12_:=Aside0.mk (Kd.C_below (by repeat (first | (with_reducible exact HR393_6.out) | (with_reducible first | refine Kd.C_alloc ?_ _ | refine Kd.C_drewN ?_ _ | refine Kd.C_drew ?_) | exact HR393_6.out)) hb)
                     have n13_:=Aside0.mk (below_step (by repeat (first | (with_reducible first | exact HB.out | apply below_alloc | apply pw_below_drewN | apply below_drew1 | refine below_set ?_ GE361.out) | exact HB.out)) hb)
                     clear HO_0
                     clear HO_11
                     clear HO_362003
                     clear HO_362006
                     clear HL392_3
                     clear HL392_6
                     clear HL393_3
                     clear HL393_6
                     clear BK361
                     clear HR392_3
                     clear HR392_6
                     clear HR393_3
                     clear HR393_6
                     clear HB
                     have HO_0:=n0_
                     have HO_11:=n1_
                     have HO_362003:=n2_
                     have HO_362006:=n3_
                     have HL392_3:=n4_
                     have HL392_6:=n5_
                     have HL393_3:=n6_
                     have HL393_6:=n7_
                     have BK361:=n8_
                     have HR392_3:=n9_
                     have HR392_6:=n10_
                     have HR393_3:=n11_
                     have HR393_6:=n12_
                     have HB:=n13_
                     clear n0_ n1_ n2_ n3_ n4_ n5_ n6_ n7_ n8_ n9_ n10_ n11_ n12_ n13_
                     (try clear hb)
                     (try clear hb2)
                     (try clear hk)
                     (try clear hi)
                     refine hK.out _ _ ⟨HS0_, HS1_, HS2_, HS3_, HS4_, HS5_, HS6_, HS7_, HS8_, HS9_, HS10_, HS11_, HS12_, HS13_⟩ (fun hHeld => ?_)
                     clear hK K
                     refine norm_ (a':=?_) ?_ ?_
                     rotate_left
                     ·show Act.put _ (some 150) _ = _
                      simp only [Act.put, List.setIfInBounds_toArray, List.set_cons_zero, List.set_cons_succ, i64_w, i32_w]
                      rfl
                     refine pure_ (i:=24) (N:=some 151) (v:=?_) (a':=?_) #[true, true, true, true, true, true, true, true, true, true, true, true, true, true, true, true, true, true, true, true, true, true, true, true, true, false, false, false, false] rfl rfl (any_of HT_.out (by kernel_rfl)) (fun _ _ _ h => h) (Or.inl ⟨by rfl, ?_⟩) ?_ ?_
                     rotate_left
                     ·intro w'
                      go_simp
                      with_reducible rfl
                     rotate_left
                     ·simp only [Act.put, List.setIfInBounds_toArray, List.set_cons_zero, List.set_cons_succ, i64_w, i32_w]
                      rfl
                     refine pure_ (i:=25) (N:=some 152) (v:=?_) (a':=?_) #[true, true, true, true, true, true, true, true, true, true, true, true, true, true, true, true, true, true, true, true, true, true, true, true, true, true, false, false, false] rfl rfl (any_of HT_.out (by kernel_rfl)) (fun _ _ _ h => h) (Or.inl ⟨by rfl, ?_⟩) ?_ ?_
                     rotate_left
                     ·intro w'
                      go_simp
                      with_reducible rfl
                     rotate_left
                     ·simp only [Act.put, List.setIfInBounds_toArray, List.set_cons_zero, List.set_cons_succ, i64_w, i32_w]
                      rfl
                     refine one_ (i:=26) (N:=some 153) #[true, true, true, true, true, true, true, true, true, true, true, true, true, true, true, true, true, true, true, true, true, true, true, true, true, true, true, false, false] rfl rfl (one_of HT_.out (by kernel_rfl)) (by decide) (fun K hK => ?_)
                     refine goes_ Tryd.func10 (by kernel_rfl) rfl #[] (by rfl) rfl rfl (by (try simp only [List.map_toArray, List.map_cons, List.map_nil]); first | done | rfl | (simp only [List.length_drop, List.length_take]; rfl)) ?_
                     with_reducible refine (depotlaw20_variants.calls k4  t395 _ ?side2 ?side1 A113.out).mono ?_
                     (case side1 => first | exact HT | exact ⟨Hand.Laid.below HT.out (by repeat (first | (with_reducible first | exact HB.out | apply below_alloc | apply pw_below_drewN | apply below_drew1 | refine below_set ?_ GE361.out) | exact HB.out))⟩)
                     (case side2 => first | exact ⟨rfl⟩ | exact HTRUE)
                     rintro e w121 ⟨rfl, hb⟩
                     have HS0_:=(hb.cell (World.block_lt_of_cell? _ _ (hHeld.1))).trans (hHeld.1)
                     have HS1_:=(hb.cell (World.block_lt_of_cell? _ _ (hHeld.2.1))).trans (hHeld.2.1)
                     have HS2_:=(hb.cell (World.block_lt_of_cell? _ _ (hHeld.2.2.1))).trans (hHeld.2.2.1)
                     have HS3_:=(hb.cell (World.block_lt_of_cell? _ _ (hHeld.2.2.2.1))).trans (hHeld.2.2.2.1)
                     have HS4_:=(hb.cell (World.block_lt_of_cell? _ _ (hHeld.2.2.2.2.1))).trans (hHeld.2.2.2.2.1)
                     have HS5_:=(hb.cell (World.block_lt_of_cell? _ _ (hHeld.2.2.2.2.2.1))).trans (hHeld.2.2.2.2.2.1)
                     have HS6_:=(hb.cell (World.block_lt_of_cell? _ _ (hHeld.2.2.2.2.2.2.1))).trans (hHeld.2.2.2.2.2.2.1)
                     have HS7_:=(hb.cell (World.block_lt_of_cell? _ _ (hHeld.2.2.2.2.2.2.2.1))).trans (hHeld.2.2.2.2.2.2.2.1)
                     have HS8_:=(hb.cell (World.block_lt_of_cell? _ _ (hHeld.2.2.2.2.2.2.2.2.1))).trans (hHeld.2.2.2.2.2.2.2.2.1)
                     have HS9_:=(hb.cell (World.block_lt_of_cell? _ _ (hHeld.2.2.2.2.2.2.2.2.2.1))).trans (hHeld.2.2.2.2.2.2.2.2.2.1)
                     have HS10_:=(hb.cell (World.block_lt_of_cell? _ _ (hHeld.2.2.2.2.2.2.2.2.2.2.1))).trans (hHeld.2.2.2.2.2.2.2.2.2.2.1)
                     have HS11_:=(hb.cell (World.block_lt_of_cell? _ _ (hHeld.2.2.2.2.2.2.2.2.2.2.2.1))).trans (hHeld.2.2.2.2.2.2.2.2.2.2.2.1)
                     have HS12_:=(hb.cell (World.block_lt_of_cell? _ _ (hHeld.2.2.2.2.2.2.2.2.2.2.2.2.1))).trans (hHeld.2.2.2.2.2.2.2.2.2.2.2.2.1)
                     have HS13_:=(hb.cell (World.block_lt_of_cell? _ _ (hHeld.2.2.2.2.2.2.2.2.2.2.2.2.2))).trans (hHeld.2.2.2.2.2.2.2.2.2.2.2.2.2)
                     refine ⟨_, rfl, ?_⟩
                     have n0_:=Aside0.mk (Kd.V_below (by (with_reducible repeat (first | apply Kd.V_alloc | apply Kd.V_drewN | apply Kd.V_drew)); exact HO_0.out) hb)
                     have n1_:=Aside0.mk (Kd.N_below (by (with_reducible repeat (first | apply Kd.N_alloc | apply Kd.N_drewN | apply Kd.N_drew)); exact HO_11.out) hb)
                     have n2_:=Aside0.mk (Kd.V_below (by (with_reducible repeat (first | apply Kd.V_alloc | apply Kd.V_drewN | apply Kd.V_drew)); exact HO_362003.out) hb)
                     have n3_:=Aside0.mk (Kd.R_below (by (with_reducible repeat (first | apply Kd.R_alloc | apply Kd.R_drewN | apply Kd.R_drew)); exact HO_362006.out) hb)
                     have n4_:=Aside0.mk (Kd.V_below (by (with_reducible repeat (first | apply Kd.V_alloc | apply Kd.V_drewN | apply Kd.V_drew)); exact HL392_3.out) hb)
                     have n5_:=Aside0.mk (Kd.V_below (by (with_reducible repeat (first | apply Kd.V_alloc | apply Kd.V_drewN | apply Kd.V_drew)); exact HL392_6.out) hb)
                     have n6_:=Aside0.mk (Kd.V_below (by (with_reducible repeat (first | apply Kd.V_alloc | apply Kd.V_drewN | apply Kd.V_drew)); exact HL393_3.out) hb)
                     have n7_:=Aside0.mk (Kd.V_below (by (with_reducible repeat (first | apply Kd.V_alloc | apply Kd.V_drewN | apply Kd.V_drew)); exact HL393_6.out) hb)
                     have n8_:=Aside0.mk (blk_below (g:=gb361) (o:=.cells #[.int .i64 a1_0, .string a1_1, .int .i64 a1_2, .slice A1_3 l1_3.length c1_3, .string a1_4, .int .i64 a1_5, .slice Ao47 t374.length co47] 28 (0, 0)) (by (with_reducible repeat (first | refine blk_drewN ?_ _ | refine blk_drew ?_ | refine blk_alloc ?_ _)); exact BK361.out) hb)
                     have n9_:=Aside0.mk (Kd.C_below (by repeat (first | (with_reducible exact HR392_3.out) | (with_reducible first | refine Kd.C_alloc ?_ _ | refine Kd.C_drewN ?_ _ | refine Kd.C_drew ?_) | exact HR392_3.out)) hb)
                     have n10_:=Aside0.mk (Kd.C_below (by repeat (first | (with_reducible exact HR392_6.out) | (with_reducible first | refine Kd.C_alloc ?_ _ | refine Kd.C_drewN ?_ _ | refine Kd.C_drew ?_) | exact HR392_6.out)) hb)
                     have n11_:=Aside0.mk (Kd.C_below (by repeat (first | (with_reducible exact HR393_3.out) | (with_reducible first | refine Kd.C_alloc ?_ _ | refine Kd.C_drewN ?_ _ | refine Kd.C_drew ?_) | exact HR393_3.out)) hb)
                     have n12_:=Aside0.mk (Kd.C_below (by repeat (first | (with_reducible exact HR393_6.out) | (with_reducible first | refine Kd.C_alloc ?_ _ | refine Kd.C_drewN ?_ _ | refine Kd.C_drew ?_) | exact HR393_6.out)) hb)
                     have n13_:=Aside0.mk (below_step (by repeat (first | (with_reducible first | exact HB.out | apply below_alloc | apply pw_below_drewN | apply below_drew1 | refine below_set ?_ GE361.out) | exact HB.out)) hb)
                     clear HO_0
                     clear HO_11
                     clear HO_362003
                     clear HO_362006
                     clear HL392_3
                     clear HL392_6
                     clear HL393_3
                     clear HL393_6
                     clear BK361
                     clear HR392_3
                     clear HR392_6
                     clear HR393_3
                     clear HR393_6
                     clear HB
                     have HO_0:=n0_
                     have HO_11:=n1_
                     have HO_362003:=n2_
                     have HO_362006:=n3_
                     have HL392_3:=n4_
                     have HL392_6:=n5_
                     have HL393_3:=n6_
                     have HL393_6:=n7_
                     have BK361:=n8_
                     have HR392_3:=n9_
                     have HR392_6:=n10_
                     have HR393_3:=n11_
                     have HR393_6:=n12_
                     have HB:=n13_
                     clear n0_ n1_ n2_ n3_ n4_ n5_ n6_ n7_ n8_ n9_ n10_ n11_ n12_ n13_
                     (try clear hb)
                     (try clear hb2)
                     (try clear hk)
                     (try clear hi)
                     refine hK.out _ _ ⟨HS0_, HS1_, HS2_, HS3_, HS4_, HS5_, HS6_, HS7_, HS8_, HS9_, HS10_, HS11_, HS12_, HS13_⟩ (fun hHeld => ?_)
                     clear hK K
                     refine norm_ (a':=?_) ?_ ?_
                     rotate_left
                     ·show Act.put _ (some 153) _ = _
                      simp only [Act.put, List.setIfInBounds_toArray, List.set_cons_zero, List.set_cons_succ, i64_w, i32_w]
                      rfl
                     refine pure_ (i:=27) (N:=some 154) (v:=?_) (a':=?_) #[true, true, true, true, true, true, true, true, true, true, true, true, true, true, true, true, true, true, true, true, true, true, true, true, true, true, true, true, false] rfl rfl (any_of HT_.out (by kernel_rfl)) (fun _ _ _ h => h) (Or.inl ⟨by rfl, ?_⟩) ?_ ?_
                     rotate_left
                     ·intro w'
                      go_simp
                      with_reducible rfl
                     rotate_left
                     ·simp only [Act.put, List.setIfInBounds_toArray, List.set_cons_zero, List.set_cons_succ, i64_w, i32_w]
                      rfl
                     refine pure_ (i:=28) (N:=some 8) (v:=?_) (a':=?_) #[true, true, true, true, true, true, true, true, true, true, true, true, true, true, true, true, true, true, true, true, true, true, true, true, true, true, true, true, true] rfl rfl (any_of HT_.out (by kernel_rfl)) (fun _ _ _ h => h) (Or.inl ⟨by rfl, ?_⟩) ?_ ?_
                     rotate_left
                     ·intro w'
                      go_simp
                      with_reducible rfl
                     rotate_left
                     ·simp only [Act.put, List.setIfInBounds_toArray, List.set_cons_zero, List.set_cons_succ, i64_w, i32_w]
                      rfl
                     refine done_ (done_of HT_.out (by kernel_rfl)) ?_
                     try go_wp2
                     go_ret
                     exact ⟨by first | rfl | (simp [errW_none, errW_some] <;> rfl) | (simp [*, errW_none, errW_some] <;> rfl), by repeat (first | (with_reducible first | exact HB.out | apply below_alloc | apply pw_below_drewN | apply below_drew1 | refine below_set ?_ GE361.out) | exact HB.out)⟩
                    ·replace c112:=Bool.eq_false_iff.mpr c112
                     subst c112
                     have H1 : (some false) = some r:=by rw [if_neg (show ¬ (false = true) by decide)] at H; exact H
                     clear H
                     have H:=H1
                     clear H1
                     obtain rfl:=Option.some.inj H
                     exact absurd HTRUE.out (by decide)
                   ·rw [if_neg c110] at H
                    exact absurd H (by simp)
                  ·rw [if_neg c109] at H
                   exact absurd H (by simp)
                 ·rw [if_neg c108] at H
                  have c108b0 : decide (t389 < (t377.length : Int)) = false:=decide_eq_false c108
                  clear c108
                  obtain rfl:=Option.some.inj H
                  exact absurd HTRUE.out (by decide)
                ·rw [if_neg c107] at H
                 have c107b0 : decide (t388 < (l0.length : Int)) = false:=decide_eq_false c107
                 clear c107
                 obtain rfl:=Option.some.inj H
                 exact absurd HTRUE.out (by decide)
               ·rw [if_neg c106] at H
                have c106b0 : decide (0 ≤ t388) = false:=decide_eq_false c106
                clear c106
                obtain rfl:=Option.some.inj H
                exact absurd HTRUE.out (by decide)

end Go.Proofs.YtdiefodncfnfeaaDoor.PR
