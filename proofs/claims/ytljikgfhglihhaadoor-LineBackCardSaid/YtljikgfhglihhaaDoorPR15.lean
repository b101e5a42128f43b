-- Out of the translation, by a program of this session: each function that a law comes to as a Lean function, and that the machine's call does what it says. Lean checks it.
import Derived.Test.YtljikgfhglihhaaDoorPR0
import Derived.Test.YtljikgfhglihhaaDoorPR1
import Derived.Test.YtljikgfhglihhaaDoorPR2
import Derived.Test.YtljikgfhglihhaaDoorPR3
import Derived.Test.YtljikgfhglihhaaDoorPR4
import Derived.Test.YtljikgfhglihhaaDoorPR5
namespace Go.Proofs.YtljikgfhglihhaaDoor.PR
open Go.RowKit Go.Proofs.YtljikgfhglihhaaDoorW.PrintWords Go.Proofs.YtljikgfhglihhaaDoorW.PrintLast Go.Proofs.YtljikgfhglihhaaDoorW.PrintMore
attribute [local go_sem] max2_int min2_int max_two min_two max_three min_three max_four min_four   -- for this text's walks alone
set_option linter.unusedVariables false
set_option linter.unusedSimpArgs false

/-! ### depotlaw10_LineBack: function 5 -/
mutual
def depotlaw10_LineBack.j0 : Nat → ByteArray → ByteArray → Int → Int → ByteArray → Bool → Option (Bool)
  | 0, _, _, _, _, _, _ => none
  | k + 1, x0, x1, x2, x3, x4, x33 => if x33 = true then ((depotlaw10_lines.f k).bind fun t214 => (some t214)) else ((line_Request.f k x4).bind fun bt215 => (if bt215.2.2.2 = 0 then ((line_PrintRequest.f bt215.1 bt215.2.1 bt215.2.2.1).bind fun t219 => (depotlaw10_LineBack.j1 k x0 x1 x2 x3 x4 (t219.toList != x4.toList))) else (depotlaw10_LineBack.j1 k x0 x1 x2 x3 x4 false)))
def depotlaw10_LineBack.j1 : Nat → ByteArray → ByteArray → Int → Int → ByteArray → Bool → Option (Bool)
  | 0, _, _, _, _, _, _ => none
  | k + 1, x0, x1, x2, x3, x4, x51 => if x51 = true then (some false) else ((line_Status.f x4).bind fun bt220 => (if bt220.2.2.2 = 0 then ((line_PrintStatus.f bt220.1 bt220.2.1 bt220.2.2.1).bind fun t224 => (depotlaw10_LineBack.j2 k x0 x1 x2 x3 (t224.toList != x4.toList))) else (depotlaw10_LineBack.j2 k x0 x1 x2 x3 false)))
def depotlaw10_LineBack.j2 : Nat → ByteArray → ByteArray → Int → Int → Bool → Option (Bool)
  | 0, _, _, _, _, _ => none
  | k + 1, x0, x1, x2, x3, x68 => if x68 = true then (some false) else (if x3 < 0 then (depotlaw10_LineBack.j3 k x0 x1 x2 x3 true) else (depotlaw10_LineBack.j3 k x0 x1 x2 x3 (decide (x3 > 1))))
def depotlaw10_LineBack.j3 : Nat → ByteArray → ByteArray → Int → Int → Bool → Option (Bool)
  | 0, _, _, _, _, _ => none
  | k + 1, x0, x1, x2, x3, x74 => if x74 = true then ((depotlaw10_lines.f k).bind fun t225 => (some t225)) else ((octet_IsToken.f x0).bind fun t226 => (if t226 = true then (depotlaw10_LineBack.j4 k x0 x1 x2 x3 (x1.toList != ([] : List UInt8))) else (depotlaw10_LineBack.j4 k x0 x1 x2 x3 false)))
def depotlaw10_LineBack.j4 : Nat → ByteArray → ByteArray → Int → Int → Bool → Option (Bool)
  | 0, _, _, _, _, _ => none
  | k + 1, x0, x1, x2, x3, x19 => depotlaw10_LineBack.l0 k x0 x1 x2 x3 x19 0
def depotlaw10_LineBack.l0 : Nat → ByteArray → ByteArray → Int → Int → Bool → Int → Option (Bool)
  | 0, _, _, _, _, _, _ => none
  | k + 1, x0, x1, x2, x3, x19, x20 => if x20 < (x1.size : Int) then (if x19 = true then (if 0 ≤ x20 then (if (bt x1 x20) > 32 then (depotlaw10_LineBack.l0 k x0 x1 x2 x3 (decide ((bt x1 x20) < 127)) (wrap64 (x20 + 1))) else (depotlaw10_LineBack.l0 k x0 x1 x2 x3 false (wrap64 (x20 + 1)))) else (none)) else (depotlaw10_LineBack.l0 k x0 x1 x2 x3 false (wrap64 (x20 + 1)))) else ((line_PrintRequest.f x0 x1 x3).bind fun t227 => ((line_Request.f k t227).bind fun bt228 => (if ((bt228.2.2.2 == 0) != x19) = true then (depotlaw10_LineBack.j6 k x1 x2 x3 true) else (if x19 = true then (if bt228.1.toList = x0.toList then (if bt228.2.1.toList = x1.toList then (depotlaw10_LineBack.j6 k x1 x2 x3 (bt228.2.2.1 != x3)) else (depotlaw10_LineBack.j6 k x1 x2 x3 true)) else (depotlaw10_LineBack.j6 k x1 x2 x3 true)) else (depotlaw10_LineBack.j6 k x1 x2 x3 false)))))
def depotlaw10_LineBack.j6 : Nat → ByteArray → Int → Int → Bool → Option (Bool)
  | 0, _, _, _, _ => none
  | k + 1, x1, x2, x3, x132 => if x132 = true then (some false) else (if x2 ≥ 100 then (if x2 ≤ 599 then ((octet_IsText.f x1).bind fun t232 => ((line_PrintStatus.f x2 x1 x3).bind fun t233 => ((line_Status.f t233).bind fun bt234 => (if bt234.2.2.2 = 0 then (if t232 = true then (if bt234.1 = x2 then (if bt234.2.1.toList = x1.toList then (if bt234.2.2.1 = x3 then ((depotlaw10_lines.f k).bind fun t238 => (some t238)) else (some false)) else (some false)) else (some false)) else ((depotlaw10_lines.f k).bind fun t239 => (some t239))) else (if t232 = true then (some false) else ((depotlaw10_lines.f k).bind fun t240 => (some t240))))))) else ((line_PrintStatus.f x2 x1 x3).bind fun t241 => ((line_Status.f t241).bind fun bt242 => (if bt242.2.2.2 = 0 then ((depotlaw10_lines.f k).bind fun t246 => (some t246)) else ((depotlaw10_lines.f k).bind fun t247 => (some t247)))))) else ((line_PrintStatus.f x2 x1 x3).bind fun t248 => ((line_Status.f t248).bind fun bt249 => (if bt249.2.2.2 = 0 then ((depotlaw10_lines.f k).bind fun t253 => (some t253)) else ((depotlaw10_lines.f k).bind fun t254 => (some t254))))))
end
def depotlaw10_LineBack.f (k : Nat) (a0 : ByteArray) (a1 : ByteArray) (a2 : Int) (a3 : Int) (a4 : ByteArray) : Option (Bool) := if (a0.size : Int) > 1000 then (depotlaw10_LineBack.j0 k a0 a1 a2 a3 a4 true) else (if (a1.size : Int) > 1000 then (depotlaw10_LineBack.j0 k a0 a1 a2 a3 a4 true) else (depotlaw10_LineBack.j0 k a0 a1 a2 a3 a4 (decide ((a4.size : Int) > 5000))))
theorem depotlaw10_LineBack.mono_l : ∀ k, (∀ y0 y1 y2 y3 y4 y5, LeO (depotlaw10_LineBack.j0 k y0 y1 y2 y3 y4 y5) (depotlaw10_LineBack.j0 (k + 1) y0 y1 y2 y3 y4 y5)) ∧ (∀ y0 y1 y2 y3 y4 y5, LeO (depotlaw10_LineBack.j1 k y0 y1 y2 y3 y4 y5) (depotlaw10_LineBack.j1 (k + 1) y0 y1 y2 y3 y4 y5)) ∧ (∀ y0 y1 y2 y3 y4, LeO (depotlaw10_LineBack.j2 k y0 y1 y2 y3 y4) (depotlaw10_LineBack.j2 (k + 1) y0 y1 y2 y3 y4)) ∧ (∀ y0 y1 y2 y3 y4, LeO (depotlaw10_LineBack.j3 k y0 y1 y2 y3 y4) (depotlaw10_LineBack.j3 (k + 1) y0 y1 y2 y3 y4)) ∧ (∀ y0 y1 y2 y3 y4, LeO (depotlaw10_LineBack.j4 k y0 y1 y2 y3 y4) (depotlaw10_LineBack.j4 (k + 1) y0 y1 y2 y3 y4)) ∧ (∀ y0 y1 y2 y3 y4 y5, LeO (depotlaw10_LineBack.l0 k y0 y1 y2 y3 y4 y5) (depotlaw10_LineBack.l0 (k + 1) y0 y1 y2 y3 y4 y5)) ∧ (∀ y0 y1 y2 y3, LeO (depotlaw10_LineBack.j6 k y0 y1 y2 y3) (depotlaw10_LineBack.j6 (k + 1) y0 y1 y2 y3))
  | 0 => ⟨fun _ _ _ _ _ _ r h => by simp [depotlaw10_LineBack.j0] at h, fun _ _ _ _ _ _ r h => by simp [depotlaw10_LineBack.j1] at h, fun _ _ _ _ _ r h => by simp [depotlaw10_LineBack.j2] at h, fun _ _ _ _ _ r h => by simp [depotlaw10_LineBack.j3] at h, fun _ _ _ _ _ r h => by simp [depotlaw10_LineBack.j4] at h, fun _ _ _ _ _ _ r h => by simp [depotlaw10_LineBack.l0] at h, fun _ _ _ _ r h => by simp [depotlaw10_LineBack.j6] at h⟩
  | k + 1 => by
    obtain ⟨ih0, ih1, ih2, ih3, ih4, ih5, ih6⟩ := depotlaw10_LineBack.mono_l k
    refine ⟨?_, ?_, ?_, ?_, ?_, ?_, ?_⟩
    · intro y0 y1 y2 y3 y4 y5
      unfold depotlaw10_LineBack.j0
      repeat' first
      | (with_reducible exact ih0 _ _ _ _ _ _)
      | (with_reducible exact ih1 _ _ _ _ _ _)
      | (with_reducible exact ih2 _ _ _ _ _)
      | (with_reducible exact ih3 _ _ _ _ _)
      | (with_reducible exact ih4 _ _ _ _ _)
      | (with_reducible exact ih5 _ _ _ _ _ _)
      | (with_reducible exact ih6 _ _ _ _)
      | (with_reducible exact depotlaw10_lines.mono _)
      | (with_reducible exact line_Request.mono _ _)
      | (with_reducible exact LeO.refl _)
      | (with_reducible exact LeO.none _)
      | (with_reducible refine LeO.ite ?_ ?_)
      | (with_reducible refine LeO.bind ?_ (fun _ => ?_))
      | exact ih0 _ _ _ _ _ _
      | exact ih1 _ _ _ _ _ _
      | exact ih2 _ _ _ _ _
      | exact ih3 _ _ _ _ _
      | exact ih4 _ _ _ _ _
      | exact ih5 _ _ _ _ _ _
      | exact ih6 _ _ _ _
      | exact depotlaw10_lines.mono _
      | exact line_Request.mono _ _
      | exact LeO.none _
      | refine LeO.ite ?_ ?_
      | refine LeO.bind ?_ (fun _ => ?_)
    · intro y0 y1 y2 y3 y4 y5
      unfold depotlaw10_LineBack.j1
      repeat' first
      | (with_reducible exact ih0 _ _ _ _ _ _)
      | (with_reducible exact ih1 _ _ _ _ _ _)
      | (with_reducible exact ih2 _ _ _ _ _)
      | (with_reducible exact ih3 _ _ _ _ _)
      | (with_reducible exact ih4 _ _ _ _ _)
      | (with_reducible exact ih5 _ _ _ _ _ _)
      | (with_reducible exact ih6 _ _ _ _)
      | (with_reducible exact depotlaw10_lines.mono _)
      | (with_reducible exact line_Request.mono _ _)
      | (with_reducible exact LeO.refl _)
      | (with_reducible exact LeO.none _)
      | (with_reducible refine LeO.ite ?_ ?_)
      | (with_reducible refine LeO.bind ?_ (fun _ => ?_))
      | exact ih0 _ _ _ _ _ _
      | exact ih1 _ _ _ _ _ _
      | exact ih2 _ _ _ _ _
      | exact ih3 _ _ _ _ _
      | exact ih4 _ _ _ _ _
      | exact ih5 _ _ _ _ _ _
      | exact ih6 _ _ _ _
      | exact depotlaw10_lines.mono _
      | exact line_Request.mono _ _
      | exact LeO.none _
      | refine LeO.ite ?_ ?_
      | refine LeO.bind ?_ (fun _ => ?_)
    · intro y0 y1 y2 y3 y4
      unfold depotlaw10_LineBack.j2
      repeat' first
      | (with_reducible exact ih0 _ _ _ _ _ _)
      | (with_reducible exact ih1 _ _ _ _ _ _)
      | (with_reducible exact ih2 _ _ _ _ _)
      | (with_reducible exact ih3 _ _ _ _ _)
      | (with_reducible exact ih4 _ _ _ _ _)
      | (with_reducible exact ih5 _ _ _ _ _ _)
      | (with_reducible exact ih6 _ _ _ _)
      | (with_reducible exact depotlaw10_lines.mono _)
      | (with_reducible exact line_Request.mono _ _)
      | (with_reducible exact LeO.refl _)
      | (with_reducible exact LeO.none _)
      | (with_reducible refine LeO.ite ?_ ?_)
      | (with_reducible refine LeO.bind ?_ (fun _ => ?_))
      | exact ih0 _ _ _ _ _ _
      | exact ih1 _ _ _ _ _ _
      | exact ih2 _ _ _ _ _
      | exact ih3 _ _ _ _ _
      | exact ih4 _ _ _ _ _
      | exact ih5 _ _ _ _ _ _
      | exact ih6 _ _ _ _
      | exact depotlaw10_lines.mono _
      | exact line_Request.mono _ _
      | exact LeO.none _
      | refine LeO.ite ?_ ?_
      | refine LeO.bind ?_ (fun _ => ?_)
    · intro y0 y1 y2 y3 y4
      unfold depotlaw10_LineBack.j3
      repeat' first
      | (with_reducible exact ih0 _ _ _ _ _ _)
      | (with_reducible exact ih1 _ _ _ _ _ _)
      | (with_reducible exact ih2 _ _ _ _ _)
      | (with_reducible exact ih3 _ _ _ _ _)
      | (with_reducible exact ih4 _ _ _ _ _)
      | (with_reducible exact ih5 _ _ _ _ _ _)
      | (with_reducible exact ih6 _ _ _ _)
      | (with_reducible exact depotlaw10_lines.mono _)
      | (with_reducible exact line_Request.mono _ _)
      | (with_reducible exact LeO.refl _)
      | (with_reducible exact LeO.none _)
      | (with_reducible refine LeO.ite ?_ ?_)
      | (with_reducible refine LeO.bind ?_ (fun _ => ?_))
      | exact ih0 _ _ _ _ _ _
      | exact ih1 _ _ _ _ _ _
      | exact ih2 _ _ _ _ _
      | exact ih3 _ _ _ _ _
      | exact ih4 _ _ _ _ _
      | exact ih5 _ _ _ _ _ _
      | exact ih6 _ _ _ _
      | exact depotlaw10_lines.mono _
      | exact line_Request.mono _ _
      | exact LeO.none _
      | refine LeO.ite ?_ ?_
      | refine LeO.bind ?_ (fun _ => ?_)
    · intro y0 y1 y2 y3 y4
      unfold depotlaw10_LineBack.j4
      repeat' first
      | (with_reducible exact ih0 _ _ _ _ _ _)
      | (with_reducible exact ih1 _ _ _ _ _ _)
      | (with_reducible exact ih2 _ _ _ _ _)
      | (with_reducible exact ih3 _ _ _ _ _)
      | (with_reducible exact ih4 _ _ _ _ _)
      | (with_reducible exact ih5 _ _ _ _ _ _)
      | (with_reducible exact ih6 _ _ _ _)
      | (with_reducible exact depotlaw10_lines.mono _)
      | (with_reducible exact line_Request.mono _ _)
      | (with_reducible exact LeO.refl _)
      | (with_reducible exact LeO.none _)
      | (with_reducible refine LeO.ite ?_ ?_)
      | (with_reducible refine LeO.bind ?_ (fun _ => ?_))
      | exact ih0 _ _ _ _ _ _
      | exact ih1 _ _ _ _ _ _
      | exact ih2 _ _ _ _ _
      | exact ih3 _ _ _ _ _
      | exact ih4 _ _ _ _ _
      | exact ih5 _ _ _ _ _ _
      | exact ih6 _ _ _ _
      | exact depotlaw10_lines.mono _
      | exact line_Request.mono _ _
      | exact LeO.none _
      | refine LeO.ite ?_ ?_
      | refine LeO.bind ?_ (fun _ => ?_)
    · intro y0 y1 y2 y3 y4 y5
      unfold depotlaw10_LineBack.l0
      repeat' first
      | (with_reducible exact ih0 _ _ _ _ _ _)
      | (with_reducible exact ih1 _ _ _ _ _ _)
      | (with_reducible exact ih2 _ _ _ _ _)
      | (with_reducible exact ih3 _ _ _ _ _)
      | (with_reducible exact ih4 _ _ _ _ _)
      | (with_reducible exact ih5 _ _ _ _ _ _)
      | (with_reducible exact ih6 _ _ _ _)
      | (with_reducible exact depotlaw10_lines.mono _)
      | (with_reducible exact line_Request.mono _ _)
      | (with_reducible exact LeO.refl _)
      | (with_reducible exact LeO.none _)
      | (with_reducible refine LeO.ite ?_ ?_)
      | (with_reducible refine LeO.bind ?_ (fun _ => ?_))
      | exact ih0 _ _ _ _ _ _
      | exact ih1 _ _ _ _ _ _
      | exact ih2 _ _ _ _ _
      | exact ih3 _ _ _ _ _
      | exact ih4 _ _ _ _ _
      | exact ih5 _ _ _ _ _ _
      | exact ih6 _ _ _ _
      | exact depotlaw10_lines.mono _
      | exact line_Request.mono _ _
      | exact LeO.none _
      | refine LeO.ite ?_ ?_
      | refine LeO.bind ?_ (fun _ => ?_)
    · intro y0 y1 y2 y3
      unfold depotlaw10_LineBack.j6
      repeat' first
      | (with_reducible exact ih0 _ _ _ _ _ _)
      | (with_reducible exact ih1 _ _ _ _ _ _)
      | (with_reducible exact ih2 _ _ _ _ _)
      | (with_reducible exact ih3 _ _ _ _ _)
      | (with_reducible exact ih4 _ _ _ _ _)
      | (with_reducible exact ih5 _ _ _ _ _ _)
      | (with_reducible exact ih6 _ _ _ _)
      | (with_reducible exact depotlaw10_lines.mono _)
      | (with_reducible exact line_Request.mono _ _)
      | (with_reducible exact LeO.refl _)
      | (with_reducible exact LeO.none _)
      | (with_reducible refine LeO.ite ?_ ?_)
      | (with_reducible refine LeO.bind ?_ (fun _ => ?_))
      | exact ih0 _ _ _ _ _ _
      | exact ih1 _ _ _ _ _ _
      | exact ih2 _ _ _ _ _
      | exact ih3 _ _ _ _ _
      | exact ih4 _ _ _ _ _
      | exact ih5 _ _ _ _ _ _
      | exact ih6 _ _ _ _
      | exact depotlaw10_lines.mono _
      | exact line_Request.mono _ _
      | exact LeO.none _
      | refine LeO.ite ?_ ?_
      | refine LeO.bind ?_ (fun _ => ?_)
theorem depotlaw10_LineBack.mono : ∀ a0 a1 a2 a3 a4 k, LeO (depotlaw10_LineBack.f k a0 a1 a2 a3 a4) (depotlaw10_LineBack.f (k + 1) a0 a1 a2 a3 a4) := by
  intro a0 a1 a2 a3 a4 k
  obtain ⟨ih0, ih1, ih2, ih3, ih4, ih5, ih6⟩ := depotlaw10_LineBack.mono_l k
  unfold depotlaw10_LineBack.f
  repeat' first
      | (with_reducible exact ih0 _ _ _ _ _ _)
      | (with_reducible exact ih1 _ _ _ _ _ _)
      | (with_reducible exact ih2 _ _ _ _ _)
      | (with_reducible exact ih3 _ _ _ _ _)
      | (with_reducible exact ih4 _ _ _ _ _)
      | (with_reducible exact ih5 _ _ _ _ _ _)
      | (with_reducible exact ih6 _ _ _ _)
      | (with_reducible exact depotlaw10_lines.mono _)
      | (with_reducible exact line_Request.mono _ _)
      | (with_reducible exact LeO.refl _)
      | (with_reducible exact LeO.none _)
      | (with_reducible refine LeO.ite ?_ ?_)
      | (with_reducible refine LeO.bind ?_ (fun _ => ?_))
      | exact ih0 _ _ _ _ _ _
      | exact ih1 _ _ _ _ _ _
      | exact ih2 _ _ _ _ _
      | exact ih3 _ _ _ _ _
      | exact ih4 _ _ _ _ _
      | exact ih5 _ _ _ _ _ _
      | exact ih6 _ _ _ _
      | exact depotlaw10_lines.mono _
      | exact line_Request.mono _ _
      | exact LeO.none _
      | refine LeO.ite ?_ ?_
      | refine LeO.bind ?_ (fun _ => ?_)
set_option maxHeartbeats 8000000 in
set_option maxRecDepth 100000 in
theorem depotlaw10_LineBack.calls (k : Nat) (a0 : ByteArray) (a1 : ByteArray) (a2 : Int) (a3 : Int) (a4 : ByteArray) (r : Bool) (w : World) (HTRUE : Aside0 (r = true)) (HT : Aside0 (Hand.Laid w)) (h : depotlaw10_LineBack.f k a0 a1 a2 a3 a4 = some r) :
    Calls Tryd.prog 5 #[.string a0, .string a1, .int .i64 a2, .int .i64 a3, .string a4] w fun e w' => e = .returned (.bool r) ∧ Below w.heap.size w w' := by
  have HB := Aside0.mk (Below.refl w.heap.size w)
  have H : (if (a0.size : Int) > 1000 then (depotlaw10_LineBack.j0 k a0 a1 a2 a3 a4 true) else (if (a1.size : Int) > 1000 then (depotlaw10_LineBack.j0 k a0 a1 a2 a3 a4 true) else (depotlaw10_LineBack.j0 k a0 a1 a2 a3 a4 (decide ((a4.size : Int) > 5000))))) = some r := h
  clear h
  have HC6 := Aside0.mk H
  clear H
  go_enter Tryd.func5, Tryd.ntmps5
  go_upto_region 1 with (fail)
  go_cut [33] (fun v33 wc => ∃ (kq : Nat) (x33_5 : Bool), v33 = .bool x33_5 ∧ Aside0 (depotlaw10_LineBack.j0 kq a0 a1 a2 a3 a4 x33_5 = some r) ∧ Aside0 (kq ≤ k) ∧ Aside0 (Below w.heap.size w wc))
  case first => as_aux_lemma =>
    have H := HC6.out
    clear HC6
    by_cases c7 : (a0.size : Int) > 1000
    · rw [if_pos c7] at H
      have c7b0 : decide (1000 < (a0.size : Int)) = true := decide_eq_true c7
      have c7b1 : decide (1000 < a0.size) = true := decide_eq_true (by omega)
      clear c7
      (first | rw [c7b0] | (simp only [i64_w, i32_w]; rw [c7b0]) | skip)
      have H' := Aside0.mk H
      clear H
      go_wp2
      go_meet
      case rel => exact ⟨_, (true), (by first | rfl | (simp; done) | (simp [*]; done) | (simp; exact Hand.isEmpty_ne _)), H', ⟨by first | omega | exact Nat.le_refl _⟩, ⟨by repeat (first | (with_reducible first | exact HB.out | apply below_alloc | apply pw_below_drewN | apply below_drew1) | exact HB.out)⟩⟩
    · rw [if_neg c7] at H
      have c7b0 : decide (1000 < (a0.size : Int)) = false := decide_eq_false c7
      have c7b1 : decide (1000 < a0.size) = false := decide_eq_false (by omega)
      clear c7
      (first | rw [c7b0] | (simp only [i64_w, i32_w]; rw [c7b0]) | skip)
      by_cases c8 : (a1.size : Int) > 1000
      · rw [if_pos c8] at H
        have c8b0 : decide (1000 < (a1.size : Int)) = true := decide_eq_true c8
        have c8b1 : decide (1000 < a1.size) = true := decide_eq_true (by omega)
        clear c8
        have H' := Aside0.mk H
        clear H
        go_wp2
        go_meet
        case rel => exact ⟨_, (true), (by first | rfl | (simp; done) | (simp [*]; done) | (simp; exact Hand.isEmpty_ne _)), H', ⟨by first | omega | exact Nat.le_refl _⟩, ⟨by repeat (first | (with_reducible first | exact HB.out | apply below_alloc | apply pw_below_drewN | apply below_drew1) | exact HB.out)⟩⟩
      · rw [if_neg c8] at H
        have c8b0 : decide (1000 < (a1.size : Int)) = false := decide_eq_false c8
        have c8b1 : decide (1000 < a1.size) = false := decide_eq_false (by omega)
        clear c8
        have H' := Aside0.mk H
        clear H
        go_wp2
        go_meet
        case rel => exact ⟨_, (decide ((a4.size : Int) > 5000)), (by first | rfl | (simp; done) | (simp [*]; done) | (simp; exact Hand.isEmpty_ne _)), H', ⟨by first | omega | exact Nat.le_refl _⟩, ⟨by repeat (first | (with_reducible first | exact HB.out | apply below_alloc | apply pw_below_drewN | apply below_drew1) | exact HB.out)⟩⟩
  case rest => as_aux_lemma =>
    clear HC6
    try clear p2
    try clear c5
    try clear c7
    try clear c7b0
    try clear c7b1
    try clear c8
    try clear c8b0
    try clear c8b1
    obtain ⟨kq, x33_5, rfl, HA, HJ5, HB⟩ := hcut
    cases kq with
    | zero => exact absurd HA.out (by simp [depotlaw10_LineBack.j0])
    | succ kj5 =>
      have H := HA.out
      clear HA
      simp only [depotlaw10_LineBack.j0] at H
      by_cases c9 : x33_5 = true
      · subst c9
        have H1 : ((depotlaw10_lines.f kj5).bind fun t214 => (some t214)) = some r := by rw [if_pos rfl] at H; exact H
        clear H
        have H := H1
        clear H1
        replace H := Option.bind_eq_some_iff.mp H
        obtain ⟨t214, A100, H⟩ := H
        replace H : (some t214) = some r := H
        have A10 := Aside0.mk A100
        clear A100
        obtain rfl := Option.some.inj H
        go_wp2_with (first | ((with_reducible refine gate_callee (f := 6) rfl ?_); refine goesL_ (some 34) rfl rfl Tryd.func6 (by kernel_rfl) rfl #[] rfl (by (try simp only [List.map_toArray, List.map_cons, List.map_nil]); first | done | rfl | (simp only [List.length_drop, List.length_take]; rfl)) ?_; (with_reducible refine (depotlaw10_lines.calls kj5  t214 _ ?side2 ?side1 A10.out).mono ?_); (case side1 => first | exact HT | exact ⟨Hand.Laid.below HT.out (by repeat (first | (with_reducible first | exact HB.out | apply below_alloc | apply pw_below_drewN | apply below_drew1) | exact HB.out))⟩); (case side2 => first | exact ⟨rfl⟩ | exact HTRUE); rintro e w11 ⟨rfl, hb⟩; refine ⟨_, rfl, ?_⟩; have n0_ := Aside0.mk (below_step (by repeat (first | (with_reducible first | exact HB.out | apply below_alloc | apply pw_below_drewN | apply below_drew1) | exact HB.out)) hb); clear HB; have HB := n0_; clear n0_; (try clear hb); (try clear hb2); (try clear hk); (try clear hi)))
        go_ret
        exact ⟨by first | rfl | (simp [errW_none, errW_some] <;> rfl) | (simp [*, errW_none, errW_some] <;> rfl), by repeat (first | (with_reducible first | exact HB.out | apply below_alloc | apply pw_below_drewN | apply below_drew1) | exact HB.out)⟩
      · replace c9 := Bool.eq_false_iff.mpr c9
        subst c9
        have H1 : ((line_Request.f kj5 a4).bind fun bt215 => (if bt215.2.2.2 = 0 then ((line_PrintRequest.f bt215.1 bt215.2.1 bt215.2.2.1).bind fun t219 => (depotlaw10_LineBack.j1 kj5 a0 a1 a2 a3 a4 (t219.toList != a4.toList))) else (depotlaw10_LineBack.j1 kj5 a0 a1 a2 a3 a4 false))) = some r := by rw [if_neg (show ¬ (false = true) by decide)] at H; exact H
        clear H
        have H := H1
        clear H1
        replace H := Option.bind_eq_some_iff.mp H
        obtain ⟨⟨t215, t216, t217, t218⟩, A120, H⟩ := H
        replace H : (if t218 = 0 then ((line_PrintRequest.f t215 t216 t217).bind fun t219 => (depotlaw10_LineBack.j1 kj5 a0 a1 a2 a3 a4 (t219.toList != a4.toList))) else (depotlaw10_LineBack.j1 kj5 a0 a1 a2 a3 a4 false)) = some r := H
        have A12 := Aside0.mk A120
        clear A120
        have HC13 := Aside0.mk H
        clear H
        go_upto_region 4 with (first | ((with_reducible refine gate_callee (f := 7) rfl ?_); refine goesL_ (some 37) rfl rfl Tryd.func7 (by kernel_rfl) rfl #[.string a4] rfl (by (try simp only [List.map_toArray, List.map_cons, List.map_nil]); first | done | rfl | (simp only [List.length_drop, List.length_take]; rfl)) ?_; (with_reducible refine (line_Request.calls kj5 a4 t215 t216 t217 t218 _ ?side1 A12.out).mono ?_); (case side1 => first | exact HT | exact ⟨Hand.Laid.below HT.out (by repeat (first | (with_reducible first | exact HB.out | apply below_alloc | apply pw_below_drewN | apply below_drew1) | exact HB.out))⟩); rintro e w14 ⟨rfl, hb⟩; refine ⟨_, rfl, ?_⟩; have n0_ := Aside0.mk (below_step (by repeat (first | (with_reducible first | exact HB.out | apply below_alloc | apply pw_below_drewN | apply below_drew1) | exact HB.out)) hb); clear HB; have HB := n0_; clear n0_; (try clear hb); (try clear hb2); (try clear hk); (try clear hi)))
        (try simp only [Act.put, List.setIfInBounds_toArray, List.set_cons_zero, List.set_cons_succ])
        go_cut [51] (fun v51 wc => ∃ (kq : Nat) (x51_12 : Bool), v51 = .bool x51_12 ∧ Aside0 (depotlaw10_LineBack.j1 kq a0 a1 a2 a3 a4 x51_12 = some r) ∧ Aside0 (kq ≤ kj5) ∧ Aside0 (Below w.heap.size w wc))
        case first => as_aux_lemma =>
          have H := HC13.out
          clear HC13
          by_cases c15 : t218 = 0
          · rw [if_pos c15] at H
            have c15b0 : (t218 == 0) = true := beq_iff_eq.mpr c15
            have c15b1 : (t218 != 0) = false := bne_eq_false_iff_eq.mpr c15
            clear c15
            (first | rw [c15b0] | (simp only [i64_w, i32_w]; rw [c15b0]) | skip)
            replace H := Option.bind_eq_some_iff.mp H
            obtain ⟨t219, A160, H⟩ := H
            replace H : (depotlaw10_LineBack.j1 kj5 a0 a1 a2 a3 a4 (t219.toList != a4.toList)) = some r := H
            have A16 := Aside0.mk A160
            clear A160
            have H' := Aside0.mk H
            clear H
            go_wp2_with (first | (go_at_call 11; (with_reducible refine (line_PrintRequest.calls t215 t216 t217 t219 _ ?side1 A16.out).mono ?_); (case side1 => first | exact HT | exact ⟨Hand.Laid.below HT.out (by repeat (first | (with_reducible first | exact HB.out | apply below_alloc | apply pw_below_drewN | apply below_drew1) | exact HB.out))⟩); rintro e w17 ⟨rfl, hb⟩; have n0_ := Aside0.mk (below_step (by repeat (first | (with_reducible first | exact HB.out | apply below_alloc | apply pw_below_drewN | apply below_drew1) | exact HB.out)) hb); clear HB; have HB := n0_; clear n0_; (try clear hb); (try clear hb2); (try clear hk); (try clear hi)))
            go_meet
            case rel => exact ⟨_, ((t219.toList != a4.toList)), (by first | rfl | (simp; done) | (simp [*]; done) | (simp; exact Hand.isEmpty_ne _)), H', ⟨by have := HJ5.out; first | omega | exact Nat.le_refl _⟩, ⟨by repeat (first | (with_reducible first | exact HB.out | apply below_alloc | apply pw_below_drewN | apply below_drew1) | exact HB.out)⟩⟩
          · rw [if_neg c15] at H
            have c15b0 : (t218 == 0) = false := beq_eq_false_iff_ne.mpr c15
            have c15b1 : (t218 != 0) = true := bne_iff_ne.mpr c15
            (first | rw [c15b0] | (simp only [i64_w, i32_w]; rw [c15b0]) | skip)
            have H' := Aside0.mk H
            clear H
            go_wp2
            go_meet
            case rel => exact ⟨_, (false), (by first | rfl | (simp; done) | (simp [*]; done) | (simp; exact Hand.isEmpty_ne _)), H', ⟨by have := HJ5.out; first | omega | exact Nat.le_refl _⟩, ⟨by repeat (first | (with_reducible first | exact HB.out | apply below_alloc | apply pw_below_drewN | apply below_drew1) | exact HB.out)⟩⟩
        case rest => as_aux_lemma =>
          clear HC13
          try clear c1
          try clear p2
          try clear c5
          try clear c6
          try clear c7
          try clear c7b0
          try clear c7b1
          try clear c8
          try clear c8b0
          try clear c8b1
          try clear c9
          try clear c15
          try clear c15b0
          try clear c15b1
          try clear p2
          obtain ⟨kq, x51_12, rfl, HA, HJ12, HB⟩ := hcut
          cases kq with
          | zero => exact absurd HA.out (by simp [depotlaw10_LineBack.j1])
          | succ kj12 =>
            have H := HA.out
            clear HA
            simp only [depotlaw10_LineBack.j1] at H
            by_cases c18 : x51_12 = true
            · subst c18
              have H1 : (some false) = some r := by rw [if_pos rfl] at H; exact H
              clear H
              have H := H1
              clear H1
              obtain rfl := Option.some.inj H
              exact absurd HTRUE.out (by decide)
            · replace c18 := Bool.eq_false_iff.mpr c18
              subst c18
              have H1 : ((line_Status.f a4).bind fun bt220 => (if bt220.2.2.2 = 0 then ((line_PrintStatus.f bt220.1 bt220.2.1 bt220.2.2.1).bind fun t224 => (depotlaw10_LineBack.j2 kj12 a0 a1 a2 a3 (t224.toList != a4.toList))) else (depotlaw10_LineBack.j2 kj12 a0 a1 a2 a3 false))) = some r := by rw [if_neg (show ¬ (false = true) by decide)] at H; exact H
              clear H
              have H := H1
              clear H1
              replace H := Option.bind_eq_some_iff.mp H
              obtain ⟨⟨t220, t221, t222, t223⟩, A190, H⟩ := H
              replace H : (if t223 = 0 then ((line_PrintStatus.f t220 t221 t222).bind fun t224 => (depotlaw10_LineBack.j2 kj12 a0 a1 a2 a3 (t224.toList != a4.toList))) else (depotlaw10_LineBack.j2 kj12 a0 a1 a2 a3 false)) = some r := H
              have A19 := Aside0.mk A190
              clear A190
              have HC20 := Aside0.mk H
              clear H
              go_upto_region 7 with (first | ((with_reducible refine gate_callee (f := 9) rfl ?_); refine goesL_ (some 54) rfl rfl Tryd.func9 (by kernel_rfl) rfl #[.string a4] rfl (by (try simp only [List.map_toArray, List.map_cons, List.map_nil]); first | done | rfl | (simp only [List.length_drop, List.length_take]; rfl)) ?_; (with_reducible refine (line_Status.calls a4 t220 t221 t222 t223 _ A19.out).mono ?_); rintro e w21 ⟨rfl, hb⟩; refine ⟨_, rfl, ?_⟩; have n0_ := Aside0.mk (below_step (by repeat (first | (with_reducible first | exact HB.out | apply below_alloc | apply pw_below_drewN | apply below_drew1) | exact HB.out)) hb); clear HB; have HB := n0_; clear n0_; (try clear hb); (try clear hb2); (try clear hk); (try clear hi)))
              (try simp only [Act.put, List.setIfInBounds_toArray, List.set_cons_zero, List.set_cons_succ])
              go_cut [68] (fun v68 wc => ∃ (kq : Nat) (x68_19 : Bool), v68 = .bool x68_19 ∧ Aside0 (depotlaw10_LineBack.j2 kq a0 a1 a2 a3 x68_19 = some r) ∧ Aside0 (kq ≤ kj12) ∧ Aside0 (Below w.heap.size w wc))
              case first => as_aux_lemma =>
                have H := HC20.out
                clear HC20
                by_cases c22 : t223 = 0
                · rw [if_pos c22] at H
                  have c22b0 : (t223 == 0) = true := beq_iff_eq.mpr c22
                  have c22b1 : (t223 != 0) = false := bne_eq_false_iff_eq.mpr c22
                  clear c22
                  (first | rw [c22b0] | (simp only [i64_w, i32_w]; rw [c22b0]) | skip)
                  replace H := Option.bind_eq_some_iff.mp H
                  obtain ⟨t224, A230, H⟩ := H
                  replace H : (depotlaw10_LineBack.j2 kj12 a0 a1 a2 a3 (t224.toList != a4.toList)) = some r := H
                  have A23 := Aside0.mk A230
                  clear A230
                  have H' := Aside0.mk H
                  clear H
                  go_wp2_with (first | (go_at_call 13; (with_reducible refine (line_PrintStatus.calls t220 t221 t222 t224 _ ?side1 A23.out).mono ?_); (case side1 => first | exact HT | exact ⟨Hand.Laid.below HT.out (by repeat (first | (with_reducible first | exact HB.out | apply below_alloc | apply pw_below_drewN | apply below_drew1) | exact HB.out))⟩); rintro e w24 ⟨rfl, hb⟩; have n0_ := Aside0.mk (below_step (by repeat (first | (with_reducible first | exact HB.out | apply below_alloc | apply pw_below_drewN | apply below_drew1) | exact HB.out)) hb); clear HB; have HB := n0_; clear n0_; (try clear hb); (try clear hb2); (try clear hk); (try clear hi)))
                  go_meet
                  case rel => exact ⟨_, ((t224.toList != a4.toList)), (by first | rfl | (simp; done) | (simp [*]; done) | (simp; exact Hand.isEmpty_ne _)), H', ⟨by have := HJ5.out; have := HJ12.out; first | omega | exact Nat.le_refl _⟩, ⟨by repeat (first | (with_reducible first | exact HB.out | apply below_alloc | apply pw_below_drewN | apply below_drew1) | exact HB.out)⟩⟩
                · rw [if_neg c22] at H
                  have c22b0 : (t223 == 0) = false := beq_eq_false_iff_ne.mpr c22
                  have c22b1 : (t223 != 0) = true := bne_iff_ne.mpr c22
                  (first | rw [c22b0] | (simp only [i64_w, i32_w]; rw [c22b0]) | skip)
                  have H' := Aside0.mk H
                  clear H
                  go_wp2
                  go_meet
                  case rel => exact ⟨_, (false), (by first | rfl | (simp; done) | (simp [*]; done) | (simp; exact Hand.isEmpty_ne _)), H', ⟨by have := HJ5.out; have := HJ12.out; first | omega | exact Nat.le_refl _⟩, ⟨by repeat (first | (with_reducible first | exact HB.out | apply below_alloc | apply pw_below_drewN | apply below_drew1) | exact HB.out)⟩⟩
              case rest => as_aux_lemma =>
                clear HC20
                try clear c1
                try clear c2
                try clear p2
                try clear c5
                try clear c6
                try clear c7
                try clear c7b0
                try clear c7b1
                try clear c8
                try clear c8b0
                try clear c8b1
                try clear c9
                try clear c15
                try clear c15b0
                try clear c15b1
                try clear c18
                try clear c22
                try clear c22b0
                try clear c22b1
                try clear p2
                obtain ⟨kq, x68_19, rfl, HA, HJ19, HB⟩ := hcut
                cases kq with
                | zero => exact absurd HA.out (by simp [depotlaw10_LineBack.j2])
                | succ kj19 =>
                  have H := HA.out
                  clear HA
                  simp only [depotlaw10_LineBack.j2] at H
                  by_cases c25 : x68_19 = true
                  · subst c25
                    have H1 : (some false) = some r := by rw [if_pos rfl] at H; exact H
                    clear H
                    have H := H1
                    clear H1
                    obtain rfl := Option.some.inj H
                    exact absurd HTRUE.out (by decide)
                  · replace c25 := Bool.eq_false_iff.mpr c25
                    subst c25
                    have H1 : (if a3 < 0 then (depotlaw10_LineBack.j3 kj19 a0 a1 a2 a3 true) else (depotlaw10_LineBack.j3 kj19 a0 a1 a2 a3 (decide (a3 > 1)))) = some r := by rw [if_neg (show ¬ (false = true) by decide)] at H; exact H
                    clear H
                    have H := H1
                    clear H1
                    have HC26 := Aside0.mk H
                    clear H
                    go_upto_region 9 with (fail)
                    go_cut [74] (fun v74 wc => ∃ (kq : Nat) (x74_25 : Bool), v74 = .bool x74_25 ∧ Aside0 (depotlaw10_LineBack.j3 kq a0 a1 a2 a3 x74_25 = some r) ∧ Aside0 (kq ≤ kj19) ∧ Aside0 (Below w.heap.size w wc))
                    case first => as_aux_lemma =>
                      have H := HC26.out
                      clear HC26
                      by_cases c27 : a3 < 0
                      · rw [if_pos c27] at H
                        have c27b0 : decide (a3 < 0) = true := decide_eq_true c27
                        clear c27
                        (first | rw [c27b0] | (simp only [i64_w, i32_w]; rw [c27b0]) | skip)
                        have H' := Aside0.mk H
                        clear H
                        go_wp2
                        go_meet
                        case rel => exact ⟨_, (true), (by first | rfl | (simp; done) | (simp [*]; done) | (simp; exact Hand.isEmpty_ne _)), H', ⟨by have := HJ5.out; have := HJ12.out; have := HJ19.out; first | omega | exact Nat.le_refl _⟩, ⟨by repeat (first | (with_reducible first | exact HB.out | apply below_alloc | apply pw_below_drewN | apply below_drew1) | exact HB.out)⟩⟩
                      · rw [if_neg c27] at H
                        have c27b0 : decide (a3 < 0) = false := decide_eq_false c27
                        clear c27
                        (first | rw [c27b0] | (simp only [i64_w, i32_w]; rw [c27b0]) | skip)
                        have H' := Aside0.mk H
                        clear H
                        go_wp2
                        go_meet
                        case rel => exact ⟨_, (decide (a3 > 1)), (by first | rfl | (simp; done) | (simp [*]; done) | (simp; exact Hand.isEmpty_ne _)), H', ⟨by have := HJ5.out; have := HJ12.out; have := HJ19.out; first | omega | exact Nat.le_refl _⟩, ⟨by repeat (first | (with_reducible first | exact HB.out | apply below_alloc | apply pw_below_drewN | apply below_drew1) | exact HB.out)⟩⟩
                    case rest => as_aux_lemma =>
                      clear HC26
                      try clear c1
                      try clear c2
                      try clear p2
                      try clear c5
                      try clear c6
                      try clear c7
                      try clear c7b0
                      try clear c7b1
                      try clear c8
                      try clear c8b0
                      try clear c8b1
                      try clear c9
                      try clear c15
                      try clear c15b0
                      try clear c15b1
                      try clear c18
                      try clear c22
                      try clear c22b0
                      try clear c22b1
                      try clear c25
                      try clear c27
                      try clear c27b0
                      try clear p2
                      obtain ⟨kq, x74_25, rfl, HA, HJ25, HB⟩ := hcut
                      cases kq with
                      | zero => exact absurd HA.out (by simp [depotlaw10_LineBack.j3])
                      | succ kj25 =>
                        have H := HA.out
                        clear HA
                        simp only [depotlaw10_LineBack.j3] at H
                        by_cases c28 : x74_25 = true
                        · subst c28
                          have H1 : ((depotlaw10_lines.f kj25).bind fun t225 => (some t225)) = some r := by rw [if_pos rfl] at H; exact H
                          clear H
                          have H := H1
                          clear H1
                          replace H := Option.bind_eq_some_iff.mp H
                          obtain ⟨t225, A290, H⟩ := H
                          replace H : (some t225) = some r := H
                          have A29 := Aside0.mk A290
                          clear A290
                          obtain rfl := Option.some.inj H
                          go_wp2_with (first | ((with_reducible refine gate_callee (f := 6) rfl ?_); refine goesL_ (some 75) rfl rfl Tryd.func6 (by kernel_rfl) rfl #[] rfl (by (try simp only [List.map_toArray, List.map_cons, List.map_nil]); first | done | rfl | (simp only [List.length_drop, List.length_take]; rfl)) ?_; (with_reducible refine (depotlaw10_lines.calls kj25  t225 _ ?side2 ?side1 A29.out).mono ?_); (case side1 => first | exact HT | exact ⟨Hand.Laid.below HT.out (by repeat (first | (with_reducible first | exact HB.out | apply below_alloc | apply pw_below_drewN | apply below_drew1) | exact HB.out))⟩); (case side2 => first | exact ⟨rfl⟩ | exact HTRUE); rintro e w30 ⟨rfl, hb⟩; refine ⟨_, rfl, ?_⟩; have n0_ := Aside0.mk (below_step (by repeat (first | (with_reducible first | exact HB.out | apply below_alloc | apply pw_below_drewN | apply below_drew1) | exact HB.out)) hb); clear HB; have HB := n0_; clear n0_; (try clear hb); (try clear hb2); (try clear hk); (try clear hi)))
                          go_ret
                          exact ⟨by first | rfl | (simp [errW_none, errW_some] <;> rfl) | (simp [*, errW_none, errW_some] <;> rfl), by repeat (first | (with_reducible first | exact HB.out | apply below_alloc | apply pw_below_drewN | apply below_drew1) | exact HB.out)⟩
                        · replace c28 := Bool.eq_false_iff.mpr c28
                          subst c28
                          have H1 : ((octet_IsToken.f a0).bind fun t226 => (if t226 = true then (depotlaw10_LineBack.j4 kj25 a0 a1 a2 a3 (a1.toList != ([] : List UInt8))) else (depotlaw10_LineBack.j4 kj25 a0 a1 a2 a3 false))) = some r := by rw [if_neg (show ¬ (false = true) by decide)] at H; exact H
                          clear H
                          have H := H1
                          clear H1
                          have HC31 := Aside0.mk H
                          clear H
                          go_upto_region 11 with (fail)
                          go_cut [19] (fun v19 wc => ∃ (kq : Nat) (x19_30 : Bool), v19 = .bool x19_30 ∧ Aside0 (depotlaw10_LineBack.j4 kq a0 a1 a2 a3 x19_30 = some r) ∧ Aside0 (kq ≤ kj25) ∧ Aside0 (Below w.heap.size w wc))
                          case first => as_aux_lemma =>
                            have H := HC31.out
                            clear HC31
                            replace H := Option.bind_eq_some_iff.mp H
                            obtain ⟨t226, A320, H⟩ := H
                            replace H : (if t226 = true then (depotlaw10_LineBack.j4 kj25 a0 a1 a2 a3 (a1.toList != ([] : List UInt8))) else (depotlaw10_LineBack.j4 kj25 a0 a1 a2 a3 false)) = some r := H
                            have A32 := Aside0.mk A320
                            clear A320
                            by_cases c33 : t226 = true
                            · subst c33
                              have H1 : (depotlaw10_LineBack.j4 kj25 a0 a1 a2 a3 (a1.toList != ([] : List UInt8))) = some r := by rw [if_pos rfl] at H; exact H
                              clear H
                              have H := H1
                              clear H1
                              have H' := Aside0.mk H
                              clear H
                              go_wp2_with (first | ((with_reducible refine gate_callee (f := 19) rfl ?_); refine goesL_ (some 77) rfl rfl Tryd.func19 (by kernel_rfl) rfl #[.string a0] rfl (by (try simp only [List.map_toArray, List.map_cons, List.map_nil]); first | done | rfl | (simp only [List.length_drop, List.length_take]; rfl)) ?_; (with_reducible refine (octet_IsToken.calls a0 true _ A32.out).mono ?_); rintro e w34 ⟨rfl, hb⟩; refine ⟨_, rfl, ?_⟩; have n0_ := Aside0.mk (below_step (by repeat (first | (with_reducible first | exact HB.out | apply below_alloc | apply pw_below_drewN | apply below_drew1) | exact HB.out)) hb); clear HB; have HB := n0_; clear n0_; (try clear hb); (try clear hb2); (try clear hk); (try clear hi)))
                              go_meet
                              case rel => exact ⟨_, ((a1.toList != ([] : List UInt8))), (by first | rfl | (simp; done) | (simp [*]; done) | (simp; exact Hand.isEmpty_ne _)), H', ⟨by have := HJ5.out; have := HJ12.out; have := HJ19.out; have := HJ25.out; first | omega | exact Nat.le_refl _⟩, ⟨by repeat (first | (with_reducible first | exact HB.out | apply below_alloc | apply pw_below_drewN | apply below_drew1) | exact HB.out)⟩⟩
                            · replace c33 := Bool.eq_false_iff.mpr c33
                              subst c33
                              have H1 : (depotlaw10_LineBack.j4 kj25 a0 a1 a2 a3 false) = some r := by rw [if_neg (show ¬ (false = true) by decide)] at H; exact H
                              clear H
                              have H := H1
                              clear H1
                              have H' := Aside0.mk H
                              clear H
                              go_wp2_with (first | ((with_reducible refine gate_callee (f := 19) rfl ?_); refine goesL_ (some 77) rfl rfl Tryd.func19 (by kernel_rfl) rfl #[.string a0] rfl (by (try simp only [List.map_toArray, List.map_cons, List.map_nil]); first | done | rfl | (simp only [List.length_drop, List.length_take]; rfl)) ?_; (with_reducible refine (octet_IsToken.calls a0 false _ A32.out).mono ?_); rintro e w35 ⟨rfl, hb⟩; refine ⟨_, rfl, ?_⟩; have n0_ := Aside0.mk (below_step (by repeat (first | (with_reducible first | exact HB.out | apply below_alloc | apply pw_below_drewN | apply below_drew1) | exact HB.out)) hb); clear HB; have HB := n0_; clear n0_; (try clear hb); (try clear hb2); (try clear hk); (try clear hi)))
                              go_meet
                              case rel => exact ⟨_, (false), (by first | rfl | (simp; done) | (simp [*]; done) | (simp; exact Hand.isEmpty_ne _)), H', ⟨by have := HJ5.out; have := HJ12.out; have := HJ19.out; have := HJ25.out; first | omega | exact Nat.le_refl _⟩, ⟨by repeat (first | (with_reducible first | exact HB.out | apply below_alloc | apply pw_below_drewN | apply below_drew1) | exact HB.out)⟩⟩
                          case rest => as_aux_lemma =>
                            clear HC31
                            try clear c1
                            try clear c2
                            try clear p2
                            try clear c3
                            try clear c5
                            try clear c6
                            try clear c7
                            try clear c7b0
                            try clear c7b1
                            try clear c8
                            try clear c8b0
                            try clear c8b1
                            try clear c9
                            try clear c15
                            try clear c15b0
                            try clear c15b1
                            try clear c18
                            try clear c19
                            try clear c22
                            try clear c22b0
                            try clear c22b1
                            try clear c25
                            try clear c27
                            try clear c27b0
                            try clear c28
                            try clear c33
                            try clear p2
                            obtain ⟨kq, x19_30, rfl, HA, HJ30, HB⟩ := hcut
                            cases kq with
                            | zero => exact absurd HA.out (by simp [depotlaw10_LineBack.j4])
                            | succ kj30 =>
                              have H := HA.out
                              clear HA
                              simp only [depotlaw10_LineBack.j4] at H
                              have H' := Aside0.mk H
                              clear H
                              go_wp2
                              go_loopg [19, 20] kj30 (fun kq v19 v20 w' => ∃ (x19_6 : Bool) (x20_6 : Int), v19 = .bool x19_6 ∧ v20 = .int .i64 x20_6 ∧ Aside0 (depotlaw10_LineBack.l0 kq a0 a1 a2 a3 x19_6 x20_6 = some r) ∧ Aside0 (kq ≤ kj30) ∧ Aside0 (Below w.heap.size w w'))
                              case atStart => exact ⟨(x19_30), (0), (by first | rfl | (simp; done) | (simp [*]; done) | (simp; exact Hand.isEmpty_ne _)), (by first | rfl | (simp; done) | (simp [*]; done) | (simp; exact Hand.isEmpty_ne _)), H', ⟨Nat.le_refl _⟩, ⟨by repeat (first | (with_reducible first | exact HB.out | apply below_alloc | apply pw_below_drewN | apply below_drew1) | exact HB.out)⟩⟩
                              case round =>
                                clear H'
                                try clear c1
                                try clear c2
                                try clear p2
                                try clear c3
                                try clear c5
                                try clear c6
                                try clear c7
                                try clear c7b0
                                try clear c7b1
                                try clear c8
                                try clear c8b0
                                try clear c8b1
                                try clear c9
                                try clear c15
                                try clear c15b0
                                try clear c15b1
                                try clear c18
                                try clear c19
                                try clear c22
                                try clear c22b0
                                try clear c22b1
                                try clear c25
                                try clear c27
                                try clear c27b0
                                try clear c28
                                try clear c33
                                try clear p2
                                obtain ⟨x19_6, x20_6, rfl, rfl, HA, HK6, HB⟩ := hrel
                                cases gk with
                                | zero => exact absurd HA.out (by simp [depotlaw10_LineBack.l0])
                                | succ k6 =>
                                  have H := HA.out
                                  clear HA
                                  simp only [depotlaw10_LineBack.l0] at H
                                  by_cases c36 : x20_6 < (a1.size : Int)
                                  · rw [if_pos c36] at H
                                    have c36b0 : decide (x20_6 < (a1.size : Int)) = true := decide_eq_true c36
                                    clear c36
                                    by_cases c37 : x19_6 = true
                                    · subst c37
                                      have H1 : (if 0 ≤ x20_6 then (if (bt a1 x20_6) > 32 then (depotlaw10_LineBack.l0 k6 a0 a1 a2 a3 (decide ((bt a1 x20_6) < 127)) (wrap64 (x20_6 + 1))) else (depotlaw10_LineBack.l0 k6 a0 a1 a2 a3 false (wrap64 (x20_6 + 1)))) else (none)) = some r := by rw [if_pos rfl] at H; exact H
                                      clear H
                                      have H := H1
                                      clear H1
                                      by_cases c38 : 0 ≤ x20_6
                                      · rw [if_pos c38] at H
                                        have c38b0 : decide (0 ≤ x20_6) = true := decide_eq_true c38
                                        clear c38
                                        by_cases c40 : (bt a1 x20_6) > 32
                                        · rw [if_pos c40] at H
                                          have c40b0 : decide (32 < (bt a1 x20_6)) = true := decide_eq_true c40
                                          clear c40
                                          have H' := Aside0.mk H
                                          clear H
                                          have p39 : 0 ≤ (x20_6 : Int) := of_decide_eq_true (by first | (with_reducible assumption) | assumption)
                                          have q39 : x20_6 < (a1.size : Int) := of_decide_eq_true (by first | (with_reducible assumption) | assumption)
                                          have hx39 := bt_at a1 x20_6
                                          replace p39 := eq_true p39
                                          replace q39 := eq_true q39
                                          have p41 : 0 ≤ (x20_6 : Int) := of_decide_eq_true (by first | (with_reducible assumption) | assumption)
                                          have q41 : x20_6 < (a1.size : Int) := of_decide_eq_true (by first | (with_reducible assumption) | assumption)
                                          have hx41 := bt_at a1 x20_6
                                          replace p41 := eq_true p41
                                          replace q41 := eq_true q41
                                          go_wp2
                                          go_roundg k6
                                          case measure => have := HJ5.out; have := HJ12.out; have := HJ19.out; have := HJ25.out; have := HJ30.out; have := HK6.out; omega
                                          case rel => exact ⟨(decide ((bt a1 x20_6) < 127)), (wrap64 (x20_6 + 1)), (by first | rfl | (simp; done) | (simp [*]; done) | (simp; exact Hand.isEmpty_ne _)), (by first | rfl | (simp; done) | (simp [*]; done) | (simp; exact Hand.isEmpty_ne _)), H', ⟨by have := HJ5.out; have := HJ12.out; have := HJ19.out; have := HJ25.out; have := HJ30.out; have := HK6.out; omega⟩, ⟨by repeat (first | (with_reducible first | exact HB.out | apply below_alloc | apply pw_below_drewN | apply below_drew1) | exact HB.out)⟩⟩
                                        · rw [if_neg c40] at H
                                          have c40b0 : decide (32 < (bt a1 x20_6)) = false := decide_eq_false c40
                                          clear c40
                                          have H' := Aside0.mk H
                                          clear H
                                          have p39 : 0 ≤ (x20_6 : Int) := of_decide_eq_true (by first | (with_reducible assumption) | assumption)
                                          have q39 : x20_6 < (a1.size : Int) := of_decide_eq_true (by first | (with_reducible assumption) | assumption)
                                          have hx39 := bt_at a1 x20_6
                                          replace p39 := eq_true p39
                                          replace q39 := eq_true q39
                                          go_wp2
                                          go_roundg k6
                                          case measure => have := HJ5.out; have := HJ12.out; have := HJ19.out; have := HJ25.out; have := HJ30.out; have := HK6.out; omega
                                          case rel => exact ⟨(false), (wrap64 (x20_6 + 1)), (by first | rfl | (simp; done) | (simp [*]; done) | (simp; exact Hand.isEmpty_ne _)), (by first | rfl | (simp; done) | (simp [*]; done) | (simp; exact Hand.isEmpty_ne _)), H', ⟨by have := HJ5.out; have := HJ12.out; have := HJ19.out; have := HJ25.out; have := HJ30.out; have := HK6.out; omega⟩, ⟨by repeat (first | (with_reducible first | exact HB.out | apply below_alloc | apply pw_below_drewN | apply below_drew1) | exact HB.out)⟩⟩
                                      · rw [if_neg c38] at H
                                        exact absurd H (by simp)
                                    · replace c37 := Bool.eq_false_iff.mpr c37
                                      subst c37
                                      have H1 : (depotlaw10_LineBack.l0 k6 a0 a1 a2 a3 false (wrap64 (x20_6 + 1))) = some r := by rw [if_neg (show ¬ (false = true) by decide)] at H; exact H
                                      clear H
                                      have H := H1
                                      clear H1
                                      have H' := Aside0.mk H
                                      clear H
                                      go_wp2
                                      go_roundg k6
                                      case measure => have := HJ5.out; have := HJ12.out; have := HJ19.out; have := HJ25.out; have := HJ30.out; have := HK6.out; omega
                                      case rel => exact ⟨(false), (wrap64 (x20_6 + 1)), (by first | rfl | (simp; done) | (simp [*]; done) | (simp; exact Hand.isEmpty_ne _)), (by first | rfl | (simp; done) | (simp [*]; done) | (simp; exact Hand.isEmpty_ne _)), H', ⟨by have := HJ5.out; have := HJ12.out; have := HJ19.out; have := HJ25.out; have := HJ30.out; have := HK6.out; omega⟩, ⟨by repeat (first | (with_reducible first | exact HB.out | apply below_alloc | apply pw_below_drewN | apply below_drew1) | exact HB.out)⟩⟩
                                  · rw [if_neg c36] at H
                                    have c36b0 : decide (x20_6 < (a1.size : Int)) = false := decide_eq_false c36
                                    clear c36
                                    replace H := Option.bind_eq_some_iff.mp H
                                    obtain ⟨t227, A420, H⟩ := H
                                    replace H : ((line_Request.f k6 t227).bind fun bt228 => (if ((bt228.2.2.2 == 0) != x19_6) = true then (depotlaw10_LineBack.j6 k6 a1 a2 a3 true) else (if x19_6 = true then (if bt228.1.toList = a0.toList then (if bt228.2.1.toList = a1.toList then (depotlaw10_LineBack.j6 k6 a1 a2 a3 (bt228.2.2.1 != a3)) else (depotlaw10_LineBack.j6 k6 a1 a2 a3 true)) else (depotlaw10_LineBack.j6 k6 a1 a2 a3 true)) else (depotlaw10_LineBack.j6 k6 a1 a2 a3 false)))) = some r := H
                                    have A42 := Aside0.mk A420
                                    clear A420
                                    replace H := Option.bind_eq_some_iff.mp H
                                    obtain ⟨⟨t228, t229, t230, t231⟩, A430, H⟩ := H
                                    replace H : (if ((t231 == 0) != x19_6) = true then (depotlaw10_LineBack.j6 k6 a1 a2 a3 true) else (if x19_6 = true then (if t228.toList = a0.toList then (if t229.toList = a1.toList then (depotlaw10_LineBack.j6 k6 a1 a2 a3 (t230 != a3)) else (depotlaw10_LineBack.j6 k6 a1 a2 a3 true)) else (depotlaw10_LineBack.j6 k6 a1 a2 a3 true)) else (depotlaw10_LineBack.j6 k6 a1 a2 a3 false))) = some r := H
                                    have A43 := Aside0.mk A430
                                    clear A430
                                    have HC44 := Aside0.mk H
                                    clear H
                                    go_upto_region 17 with (first | ((with_reducible refine gate_callee (f := 11) rfl ?_); refine goesL_ (some 105) rfl rfl Tryd.func11 (by kernel_rfl) rfl #[.string a0, .string a1, .int .i64 a3] rfl (by (try simp only [List.map_toArray, List.map_cons, List.map_nil]); first | done | rfl | (simp only [List.length_drop, List.length_take]; rfl)) ?_; (with_reducible refine (line_PrintRequest.calls a0 a1 a3 t227 _ ?side1 A42.out).mono ?_); (case side1 => first | exact HT | exact ⟨Hand.Laid.below HT.out (by repeat (first | (with_reducible first | exact HB.out | apply below_alloc | apply pw_below_drewN | apply below_drew1) | exact HB.out))⟩); rintro e w45 ⟨rfl, hb⟩; refine ⟨_, rfl, ?_⟩; have n0_ := Aside0.mk (below_step (by repeat (first | (with_reducible first | exact HB.out | apply below_alloc | apply pw_below_drewN | apply below_drew1) | exact HB.out)) hb); clear HB; have HB := n0_; clear n0_; (try clear hb); (try clear hb2); (try clear hk); (try clear hi)) | ((with_reducible refine gate_callee (f := 7) rfl ?_); refine goesL_ (some 106) rfl rfl Tryd.func7 (by kernel_rfl) rfl #[.string t227] rfl (by (try simp only [List.map_toArray, List.map_cons, List.map_nil]); first | done | rfl | (simp only [List.length_drop, List.length_take]; rfl)) ?_; (with_reducible refine (line_Request.calls k6 t227 t228 t229 t230 t231 _ ?side1 A43.out).mono ?_); (case side1 => first | exact HT | exact ⟨Hand.Laid.below HT.out (by repeat (first | (with_reducible first | exact HB.out | apply below_alloc | apply pw_below_drewN | apply below_drew1) | exact HB.out))⟩); rintro e w46 ⟨rfl, hb⟩; refine ⟨_, rfl, ?_⟩; have n0_ := Aside0.mk (below_step (by repeat (first | (with_reducible first | exact HB.out | apply below_alloc | apply pw_below_drewN | apply below_drew1) | exact HB.out)) hb); clear HB; have HB := n0_; clear n0_; (try clear hb); (try clear hb2); (try clear hk); (try clear hi)))
                                    (try simp only [Act.put, List.setIfInBounds_toArray, List.set_cons_zero, List.set_cons_succ])
                                    go_cut [132] (fun v132 wc => ∃ (kq : Nat) (x132_43 : Bool), v132 = .bool x132_43 ∧ Aside0 (depotlaw10_LineBack.j6 kq a1 a2 a3 x132_43 = some r) ∧ Aside0 (kq ≤ k6) ∧ Aside0 (Below w.heap.size w wc))
                                    case first => as_aux_lemma =>
                                      have H := HC44.out
                                      clear HC44
                                      by_cases c47 : ((t231 == 0) != x19_6) = true
                                      · rw [if_pos c47] at H
                                        have c47b0 : ((t231 == 0) != x19_6) = true := c47
                                        (try (have c47b1 : decide ((t231 == 0) = x19_6) = false := by simpa using c47))
                                        (try (have c47b2 : ((t231 == 0) == x19_6) = false := by simpa using c47))
                                        (try (have c47b3 : ¬ ((t231 == 0) = x19_6) := by simpa using c47))
                                        (try (have c47b8 : ((t231 == 0) = x19_6) = False := eq_false (by simpa using c47)))
                                        clear c47
                                        (first | rw [c47b0] | (simp only [i64_w, i32_w]; rw [c47b0]) | skip)
                                        have H' := Aside0.mk H
                                        clear H
                                        go_wp2
                                        go_meet
                                        case rel => exact ⟨_, (true), (by first | rfl | (simp; done) | (simp [*]; done) | (simp; exact Hand.isEmpty_ne _)), H', ⟨by have := HJ5.out; have := HJ12.out; have := HJ19.out; have := HJ25.out; have := HJ30.out; have := HK6.out; first | omega | exact Nat.le_refl _⟩, ⟨by repeat (first | (with_reducible first | exact HB.out | apply below_alloc | apply pw_below_drewN | apply below_drew1) | exact HB.out)⟩⟩
                                      · rw [if_neg c47] at H
                                        have c47b0 : ((t231 == 0) != x19_6) = false := by simpa using c47
                                        (try (have c47b1 : decide ((t231 == 0) = x19_6) = true := by simpa using c47))
                                        (try (have c47b2 : ((t231 == 0) == x19_6) = true := by simpa using c47))
                                        (try (have c47b8 : ((t231 == 0) = x19_6) = True := eq_true (by simpa using c47)))
                                        clear c47
                                        (first | rw [c47b0] | (simp only [i64_w, i32_w]; rw [c47b0]) | skip)
                                        by_cases c48 : x19_6 = true
                                        · subst c48
                                          have H1 : (if t228.toList = a0.toList then (if t229.toList = a1.toList then (depotlaw10_LineBack.j6 k6 a1 a2 a3 (t230 != a3)) else (depotlaw10_LineBack.j6 k6 a1 a2 a3 true)) else (depotlaw10_LineBack.j6 k6 a1 a2 a3 true)) = some r := by rw [if_pos rfl] at H; exact H
                                          clear H
                                          have H := H1
                                          clear H1
                                          by_cases c49 : t228.toList = a0.toList
                                          · rw [if_pos c49] at H
                                            have c49b0 : (t228.toList == a0.toList) = true := beq_iff_eq.mpr c49
                                            have c49b1 : (t228.toList != a0.toList) = false := bne_eq_false_iff_eq.mpr c49
                                            clear c49
                                            by_cases c50 : t229.toList = a1.toList
                                            · rw [if_pos c50] at H
                                              have c50b0 : (t229.toList == a1.toList) = true := beq_iff_eq.mpr c50
                                              have c50b1 : (t229.toList != a1.toList) = false := bne_eq_false_iff_eq.mpr c50
                                              clear c50
                                              have H' := Aside0.mk H
                                              clear H
                                              go_wp2
                                              go_meet
                                              case rel => exact ⟨_, ((t230 != a3)), (by first | rfl | (simp; done) | (simp [*]; done) | (simp; exact Hand.isEmpty_ne _)), H', ⟨by have := HJ5.out; have := HJ12.out; have := HJ19.out; have := HJ25.out; have := HJ30.out; have := HK6.out; first | omega | exact Nat.le_refl _⟩, ⟨by repeat (first | (with_reducible first | exact HB.out | apply below_alloc | apply pw_below_drewN | apply below_drew1) | exact HB.out)⟩⟩
                                            · rw [if_neg c50] at H
                                              have c50b0 : (t229.toList == a1.toList) = false := beq_eq_false_iff_ne.mpr c50
                                              have c50b1 : (t229.toList != a1.toList) = true := bne_iff_ne.mpr c50
                                              have H' := Aside0.mk H
                                              clear H
                                              go_wp2
                                              go_meet
                                              case rel => exact ⟨_, (true), (by first | rfl | (simp; done) | (simp [*]; done) | (simp; exact Hand.isEmpty_ne _)), H', ⟨by have := HJ5.out; have := HJ12.out; have := HJ19.out; have := HJ25.out; have := HJ30.out; have := HK6.out; first | omega | exact Nat.le_refl _⟩, ⟨by repeat (first | (with_reducible first | exact HB.out | apply below_alloc | apply pw_below_drewN | apply below_drew1) | exact HB.out)⟩⟩
                                          · rw [if_neg c49] at H
                                            have c49b0 : (t228.toList == a0.toList) = false := beq_eq_false_iff_ne.mpr c49
                                            have c49b1 : (t228.toList != a0.toList) = true := bne_iff_ne.mpr c49
                                            have H' := Aside0.mk H
                                            clear H
                                            go_wp2
                                            go_meet
                                            case rel => exact ⟨_, (true), (by first | rfl | (simp; done) | (simp [*]; done) | (simp; exact Hand.isEmpty_ne _)), H', ⟨by have := HJ5.out; have := HJ12.out; have := HJ19.out; have := HJ25.out; have := HJ30.out; have := HK6.out; first | omega | exact Nat.le_refl _⟩, ⟨by repeat (first | (with_reducible first | exact HB.out | apply below_alloc | apply pw_below_drewN | apply below_drew1) | exact HB.out)⟩⟩
                                        · replace c48 := Bool.eq_false_iff.mpr c48
                                          subst c48
                                          have H1 : (depotlaw10_LineBack.j6 k6 a1 a2 a3 false) = some r := by rw [if_neg (show ¬ (false = true) by decide)] at H; exact H
                                          clear H
                                          have H := H1
                                          clear H1
                                          have H' := Aside0.mk H
                                          clear H
                                          go_wp2
                                          go_meet
                                          case rel => exact ⟨_, (false), (by first | rfl | (simp; done) | (simp [*]; done) | (simp; exact Hand.isEmpty_ne _)), H', ⟨by have := HJ5.out; have := HJ12.out; have := HJ19.out; have := HJ25.out; have := HJ30.out; have := HK6.out; first | omega | exact Nat.le_refl _⟩, ⟨by repeat (first | (with_reducible first | exact HB.out | apply below_alloc | apply pw_below_drewN | apply below_drew1) | exact HB.out)⟩⟩
                                    case rest => as_aux_lemma =>
                                      clear HC44
                                      try clear c1
                                      try clear c2
                                      try clear p2
                                      try clear c3
                                      try clear p3
                                      try clear q3
                                      try clear hx3
                                      try clear c4
                                      try clear p4
                                      try clear q4
                                      try clear hx4
                                      try clear c5
                                      try clear c6
                                      try clear p6
                                      try clear c7
                                      try clear c7b0
                                      try clear c7b1
                                      try clear c8
                                      try clear c8b0
                                      try clear c8b1
                                      try clear c9
                                      try clear c11
                                      try clear c15
                                      try clear c15b0
                                      try clear c15b1
                                      try clear c18
                                      try clear c19
                                      try clear c22
                                      try clear c22b0
                                      try clear c22b1
                                      try clear c25
                                      try clear c27
                                      try clear c27b0
                                      try clear c28
                                      try clear c33
                                      try clear c36
                                      try clear c36b0
                                      try clear c37
                                      try clear c38
                                      try clear c38b0
                                      try clear p39
                                      try clear q39
                                      try clear hx39
                                      try clear c40
                                      try clear c40b0
                                      try clear p41
                                      try clear q41
                                      try clear hx41
                                      try clear c47
                                      try clear c47b0
                                      try clear c47b1
                                      try clear c47b2
                                      try clear c48
                                      try clear c49
                                      try clear c49b0
                                      try clear c49b1
                                      try clear c50
                                      try clear c50b0
                                      try clear c50b1
                                      try clear p2
                                      try clear p39
                                      try clear p41
                                      try clear q39
                                      try clear q41
                                      obtain ⟨kq, x132_43, rfl, HA, HJ43, HB⟩ := hcut
                                      cases kq with
                                      | zero => exact absurd HA.out (by simp [depotlaw10_LineBack.j6])
                                      | succ kj43 =>
                                        have H := HA.out
                                        clear HA
                                        simp only [depotlaw10_LineBack.j6] at H
                                        by_cases c51 : x132_43 = true
                                        · subst c51
                                          have H1 : (some false) = some r := by rw [if_pos rfl] at H; exact H
                                          clear H
                                          have H := H1
                                          clear H1
                                          obtain rfl := Option.some.inj H
                                          exact absurd HTRUE.out (by decide)
                                        · replace c51 := Bool.eq_false_iff.mpr c51
                                          subst c51
                                          have H1 : (if a2 ≥ 100 then (if a2 ≤ 599 then ((octet_IsText.f a1).bind fun t232 => ((line_PrintStatus.f a2 a1 a3).bind fun t233 => ((line_Status.f t233).bind fun bt234 => (if bt234.2.2.2 = 0 then (if t232 = true then (if bt234.1 = a2 then (if bt234.2.1.toList = a1.toList then (if bt234.2.2.1 = a3 then ((depotlaw10_lines.f kj43).bind fun t238 => (some t238)) else (some false)) else (some false)) else (some false)) else ((depotlaw10_lines.f kj43).bind fun t239 => (some t239))) else (if t232 = true then (some false) else ((depotlaw10_lines.f kj43).bind fun t240 => (some t240))))))) else ((line_PrintStatus.f a2 a1 a3).bind fun t241 => ((line_Status.f t241).bind fun bt242 => (if bt242.2.2.2 = 0 then ((depotlaw10_lines.f kj43).bind fun t246 => (some t246)) else ((depotlaw10_lines.f kj43).bind fun t247 => (some t247)))))) else ((line_PrintStatus.f a2 a1 a3).bind fun t248 => ((line_Status.f t248).bind fun bt249 => (if bt249.2.2.2 = 0 then ((depotlaw10_lines.f kj43).bind fun t253 => (some t253)) else ((depotlaw10_lines.f kj43).bind fun t254 => (some t254)))))) = some r := by rw [if_neg (show ¬ (false = true) by decide)] at H; exact H
                                          clear H
                                          have H := H1
                                          clear H1
                                          by_cases c52 : a2 ≥ 100
                                          · rw [if_pos c52] at H
                                            have c52b0 : decide (100 ≤ a2) = true := decide_eq_true c52
                                            clear c52
                                            by_cases c53 : a2 ≤ 599
                                            · rw [if_pos c53] at H
                                              have c53b0 : decide (a2 ≤ 599) = true := decide_eq_true c53
                                              clear c53
                                              replace H := Option.bind_eq_some_iff.mp H
                                              obtain ⟨t232, A540, H⟩ := H
                                              replace H : ((line_PrintStatus.f a2 a1 a3).bind fun t233 => ((line_Status.f t233).bind fun bt234 => (if bt234.2.2.2 = 0 then (if t232 = true then (if bt234.1 = a2 then (if bt234.2.1.toList = a1.toList then (if bt234.2.2.1 = a3 then ((depotlaw10_lines.f kj43).bind fun t238 => (some t238)) else (some false)) else (some false)) else (some false)) else ((depotlaw10_lines.f kj43).bind fun t239 => (some t239))) else (if t232 = true then (some false) else ((depotlaw10_lines.f kj43).bind fun t240 => (some t240)))))) = some r := H
                                              have A54 := Aside0.mk A540
                                              clear A540
                                              replace H := Option.bind_eq_some_iff.mp H
                                              obtain ⟨t233, A550, H⟩ := H
                                              replace H : ((line_Status.f t233).bind fun bt234 => (if bt234.2.2.2 = 0 then (if t232 = true then (if bt234.1 = a2 then (if bt234.2.1.toList = a1.toList then (if bt234.2.2.1 = a3 then ((depotlaw10_lines.f kj43).bind fun t238 => (some t238)) else (some false)) else (some false)) else (some false)) else ((depotlaw10_lines.f kj43).bind fun t239 => (some t239))) else (if t232 = true then (some false) else ((depotlaw10_lines.f kj43).bind fun t240 => (some t240))))) = some r := H
                                              have A55 := Aside0.mk A550
                                              clear A550
                                              replace H := Option.bind_eq_some_iff.mp H
                                              obtain ⟨⟨t234, t235, t236, t237⟩, A560, H⟩ := H
                                              replace H : (if t237 = 0 then (if t232 = true then (if t234 = a2 then (if t235.toList = a1.toList then (if t236 = a3 then ((depotlaw10_lines.f kj43).bind fun t238 => (some t238)) else (some false)) else (some false)) else (some false)) else ((depotlaw10_lines.f kj43).bind fun t239 => (some t239))) else (if t232 = true then (some false) else ((depotlaw10_lines.f kj43).bind fun t240 => (some t240)))) = some r := H
                                              have A56 := Aside0.mk A560
                                              clear A560
                                              by_cases c57 : t237 = 0
                                              · rw [if_pos c57] at H
                                                have c57b0 : (t237 == 0) = true := beq_iff_eq.mpr c57
                                                have c57b1 : (t237 != 0) = false := bne_eq_false_iff_eq.mpr c57
                                                clear c57
                                                by_cases c58 : t232 = true
                                                · subst c58
                                                  have H1 : (if t234 = a2 then (if t235.toList = a1.toList then (if t236 = a3 then ((depotlaw10_lines.f kj43).bind fun t238 => (some t238)) else (some false)) else (some false)) else (some false)) = some r := by rw [if_pos rfl] at H; exact H
                                                  clear H
                                                  have H := H1
                                                  clear H1
                                                  by_cases c59 : t234 = a2
                                                  · rw [if_pos c59] at H
                                                    have c59b0 : (t234 == a2) = true := beq_iff_eq.mpr c59
                                                    have c59b1 : (t234 != a2) = false := bne_eq_false_iff_eq.mpr c59
                                                    clear c59
                                                    by_cases c60 : t235.toList = a1.toList
                                                    · rw [if_pos c60] at H
                                                      have c60b0 : (t235.toList == a1.toList) = true := beq_iff_eq.mpr c60
                                                      have c60b1 : (t235.toList != a1.toList) = false := bne_eq_false_iff_eq.mpr c60
                                                      clear c60
                                                      by_cases c61 : t236 = a3
                                                      · rw [if_pos c61] at H
                                                        have c61b0 : (t236 == a3) = true := beq_iff_eq.mpr c61
                                                        have c61b1 : (t236 != a3) = false := bne_eq_false_iff_eq.mpr c61
                                                        clear c61
                                                        replace H := Option.bind_eq_some_iff.mp H
                                                        obtain ⟨t238, A620, H⟩ := H
                                                        replace H : (some t238) = some r := H
                                                        have A62 := Aside0.mk A620
                                                        clear A620
                                                        obtain rfl := Option.some.inj H
                                                        go_wp2_with (first | (go_at_call 20; (with_reducible refine (octet_IsText.calls a1 true _ A54.out).mono ?_); rintro e w63 ⟨rfl, hb⟩; have n0_ := Aside0.mk (below_step (by repeat (first | (with_reducible first | exact HB.out | apply below_alloc | apply pw_below_drewN | apply below_drew1) | exact HB.out)) hb); clear HB; have HB := n0_; clear n0_; (try clear hb); (try clear hb2); (try clear hk); (try clear hi)) | ((with_reducible refine gate_callee (f := 13) rfl ?_); refine goesL_ (some 147) rfl rfl Tryd.func13 (by kernel_rfl) rfl #[.int .i64 a2, .string a1, .int .i64 a3] rfl (by (try simp only [List.map_toArray, List.map_cons, List.map_nil]); first | done | rfl | (simp only [List.length_drop, List.length_take]; rfl)) ?_; (with_reducible refine (line_PrintStatus.calls a2 a1 a3 t233 _ ?side1 A55.out).mono ?_); (case side1 => first | exact HT | exact ⟨Hand.Laid.below HT.out (by repeat (first | (with_reducible first | exact HB.out | apply below_alloc | apply pw_below_drewN | apply below_drew1) | exact HB.out))⟩); rintro e w64 ⟨rfl, hb⟩; refine ⟨_, rfl, ?_⟩; have n0_ := Aside0.mk (below_step (by repeat (first | (with_reducible first | exact HB.out | apply below_alloc | apply pw_below_drewN | apply below_drew1) | exact HB.out)) hb); clear HB; have HB := n0_; clear n0_; (try clear hb); (try clear hb2); (try clear hk); (try clear hi)) | ((with_reducible refine gate_callee (f := 9) rfl ?_); refine goesL_ (some 148) rfl rfl Tryd.func9 (by kernel_rfl) rfl #[.string t233] rfl (by (try simp only [List.map_toArray, List.map_cons, List.map_nil]); first | done | rfl | (simp only [List.length_drop, List.length_take]; rfl)) ?_; (with_reducible refine (line_Status.calls t233 t234 t235 t236 t237 _ A56.out).mono ?_); rintro e w65 ⟨rfl, hb⟩; refine ⟨_, rfl, ?_⟩; have n0_ := Aside0.mk (below_step (by repeat (first | (with_reducible first | exact HB.out | apply below_alloc | apply pw_below_drewN | apply below_drew1) | exact HB.out)) hb); clear HB; have HB := n0_; clear n0_; (try clear hb); (try clear hb2); (try clear hk); (try clear hi)) | (go_at_call 6; (with_reducible refine (depotlaw10_lines.calls kj43  t238 _ ?side2 ?side1 A62.out).mono ?_); (case side1 => first | exact HT | exact ⟨Hand.Laid.below HT.out (by repeat (first | (with_reducible first | exact HB.out | apply below_alloc | apply pw_below_drewN | apply below_drew1) | exact HB.out))⟩); (case side2 => first | exact ⟨rfl⟩ | exact HTRUE); rintro e w66 ⟨rfl, hb⟩; have n0_ := Aside0.mk (below_step (by repeat (first | (with_reducible first | exact HB.out | apply below_alloc | apply pw_below_drewN | apply below_drew1) | exact HB.out)) hb); clear HB; have HB := n0_; clear n0_; (try clear hb); (try clear hb2); (try clear hk); (try clear hi)))
                                                        go_ret
                                                        exact ⟨by first | rfl | (simp [errW_none, errW_some] <;> rfl) | (simp [*, errW_none, errW_some] <;> rfl), by repeat (first | (with_reducible first | exact HB.out | apply below_alloc | apply pw_below_drewN | apply below_drew1) | exact HB.out)⟩
                                                      · rw [if_neg c61] at H
                                                        have c61b0 : (t236 == a3) = false := beq_eq_false_iff_ne.mpr c61
                                                        have c61b1 : (t236 != a3) = true := bne_iff_ne.mpr c61
                                                        obtain rfl := Option.some.inj H
                                                        exact absurd HTRUE.out (by decide)
                                                    · rw [if_neg c60] at H
                                                      have c60b0 : (t235.toList == a1.toList) = false := beq_eq_false_iff_ne.mpr c60
                                                      have c60b1 : (t235.toList != a1.toList) = true := bne_iff_ne.mpr c60
                                                      obtain rfl := Option.some.inj H
                                                      exact absurd HTRUE.out (by decide)
                                                  · rw [if_neg c59] at H
                                                    have c59b0 : (t234 == a2) = false := beq_eq_false_iff_ne.mpr c59
                                                    have c59b1 : (t234 != a2) = true := bne_iff_ne.mpr c59
                                                    obtain rfl := Option.some.inj H
                                                    exact absurd HTRUE.out (by decide)
                                                · replace c58 := Bool.eq_false_iff.mpr c58
                                                  subst c58
                                                  have H1 : ((depotlaw10_lines.f kj43).bind fun t239 => (some t239)) = some r := by rw [if_neg (show ¬ (false = true) by decide)] at H; exact H
                                                  clear H
                                                  have H := H1
                                                  clear H1
                                                  replace H := Option.bind_eq_some_iff.mp H
                                                  obtain ⟨t239, A670, H⟩ := H
                                                  replace H : (some t239) = some r := H
                                                  have A67 := Aside0.mk A670
                                                  clear A670
                                                  obtain rfl := Option.some.inj H
                                                  go_wp2_with (first | (go_at_call 20; (with_reducible refine (octet_IsText.calls a1 false _ A54.out).mono ?_); rintro e w68 ⟨rfl, hb⟩; have n0_ := Aside0.mk (below_step (by repeat (first | (with_reducible first | exact HB.out | apply below_alloc | apply pw_below_drewN | apply below_drew1) | exact HB.out)) hb); clear HB; have HB := n0_; clear n0_; (try clear hb); (try clear hb2); (try clear hk); (try clear hi)) | ((with_reducible refine gate_callee (f := 13) rfl ?_); refine goesL_ (some 147) rfl rfl Tryd.func13 (by kernel_rfl) rfl #[.int .i64 a2, .string a1, .int .i64 a3] rfl (by (try simp only [List.map_toArray, List.map_cons, List.map_nil]); first | done | rfl | (simp only [List.length_drop, List.length_take]; rfl)) ?_; (with_reducible refine (line_PrintStatus.calls a2 a1 a3 t233 _ ?side1 A55.out).mono ?_); (case side1 => first | exact HT | exact ⟨Hand.Laid.below HT.out (by repeat (first | (with_reducible first | exact HB.out | apply below_alloc | apply pw_below_drewN | apply below_drew1) | exact HB.out))⟩); rintro e w69 ⟨rfl, hb⟩; refine ⟨_, rfl, ?_⟩; have n0_ := Aside0.mk (below_step (by repeat (first | (with_reducible first | exact HB.out | apply below_alloc | apply pw_below_drewN | apply below_drew1) | exact HB.out)) hb); clear HB; have HB := n0_; clear n0_; (try clear hb); (try clear hb2); (try clear hk); (try clear hi)) | ((with_reducible refine gate_callee (f := 9) rfl ?_); refine goesL_ (some 148) rfl rfl Tryd.func9 (by kernel_rfl) rfl #[.string t233] rfl (by (try simp only [List.map_toArray, List.map_cons, List.map_nil]); first | done | rfl | (simp only [List.length_drop, List.length_take]; rfl)) ?_; (with_reducible refine (line_Status.calls t233 t234 t235 t236 t237 _ A56.out).mono ?_); rintro e w70 ⟨rfl, hb⟩; refine ⟨_, rfl, ?_⟩; have n0_ := Aside0.mk (below_step (by repeat (first | (with_reducible first | exact HB.out | apply below_alloc | apply pw_below_drewN | apply below_drew1) | exact HB.out)) hb); clear HB; have HB := n0_; clear n0_; (try clear hb); (try clear hb2); (try clear hk); (try clear hi)) | (go_at_call 6; (with_reducible refine (depotlaw10_lines.calls kj43  t239 _ ?side2 ?side1 A67.out).mono ?_); (case side1 => first | exact HT | exact ⟨Hand.Laid.below HT.out (by repeat (first | (with_reducible first | exact HB.out | apply below_alloc | apply pw_below_drewN | apply below_drew1) | exact HB.out))⟩); (case side2 => first | exact ⟨rfl⟩ | exact HTRUE); rintro e w71 ⟨rfl, hb⟩; have n0_ := Aside0.mk (below_step (by repeat (first | (with_reducible first | exact HB.out | apply below_alloc | apply pw_below_drewN | apply below_drew1) | exact HB.out)) hb); clear HB; have HB := n0_; clear n0_; (try clear hb); (try clear hb2); (try clear hk); (try clear hi)))
                                                  go_ret
                                                  exact ⟨by first | rfl | (simp [errW_none, errW_some] <;> rfl) | (simp [*, errW_none, errW_some] <;> rfl), by repeat (first | (with_reducible first | exact HB.out | apply below_alloc | apply pw_below_drewN | apply below_drew1) | exact HB.out)⟩
                                              · rw [if_neg c57] at H
                                                have c57b0 : (t237 == 0) = false := beq_eq_false_iff_ne.mpr c57
                                                have c57b1 : (t237 != 0) = true := bne_iff_ne.mpr c57
                                                by_cases c72 : t232 = true
                                                · subst c72
                                                  have H1 : (some false) = some r := by rw [if_pos rfl] at H; exact H
                                                  clear H
                                                  have H := H1
                                                  clear H1
                                                  obtain rfl := Option.some.inj H
                                                  exact absurd HTRUE.out (by decide)
                                                · replace c72 := Bool.eq_false_iff.mpr c72
                                                  subst c72
                                                  have H1 : ((depotlaw10_lines.f kj43).bind fun t240 => (some t240)) = some r := by rw [if_neg (show ¬ (false = true) by decide)] at H; exact H
                                                  clear H
                                                  have H := H1
                                                  clear H1
                                                  replace H := Option.bind_eq_some_iff.mp H
                                                  obtain ⟨t240, A730, H⟩ := H
                                                  replace H : (some t240) = some r := H
                                                  have A73 := Aside0.mk A730
                                                  clear A730
                                                  obtain rfl := Option.some.inj H
                                                  go_wp2_with (first | (go_at_call 20; (with_reducible refine (octet_IsText.calls a1 false _ A54.out).mono ?_); rintro e w74 ⟨rfl, hb⟩; have n0_ := Aside0.mk (below_step (by repeat (first | (with_reducible first | exact HB.out | apply below_alloc | apply pw_below_drewN | apply below_drew1) | exact HB.out)) hb); clear HB; have HB := n0_; clear n0_; (try clear hb); (try clear hb2); (try clear hk); (try clear hi)) | ((with_reducible refine gate_callee (f := 13) rfl ?_); refine goesL_ (some 147) rfl rfl Tryd.func13 (by kernel_rfl) rfl #[.int .i64 a2, .string a1, .int .i64 a3] rfl (by (try simp only [List.map_toArray, List.map_cons, List.map_nil]); first | done | rfl | (simp only [List.length_drop, List.length_take]; rfl)) ?_; (with_reducible refine (line_PrintStatus.calls a2 a1 a3 t233 _ ?side1 A55.out).mono ?_); (case side1 => first | exact HT | exact ⟨Hand.Laid.below HT.out (by repeat (first | (with_reducible first | exact HB.out | apply below_alloc | apply pw_below_drewN | apply below_drew1) | exact HB.out))⟩); rintro e w75 ⟨rfl, hb⟩; refine ⟨_, rfl, ?_⟩; have n0_ := Aside0.mk (below_step (by repeat (first | (with_reducible first | exact HB.out | apply below_alloc | apply pw_below_drewN | apply below_drew1) | exact HB.out)) hb); clear HB; have HB := n0_; clear n0_; (try clear hb); (try clear hb2); (try clear hk); (try clear hi)) | ((with_reducible refine gate_callee (f := 9) rfl ?_); refine goesL_ (some 148) rfl rfl Tryd.func9 (by kernel_rfl) rfl #[.string t233] rfl (by (try simp only [List.map_toArray, List.map_cons, List.map_nil]); first | done | rfl | (simp only [List.length_drop, List.length_take]; rfl)) ?_; (with_reducible refine (line_Status.calls t233 t234 t235 t236 t237 _ A56.out).mono ?_); rintro e w76 ⟨rfl, hb⟩; refine ⟨_, rfl, ?_⟩; have n0_ := Aside0.mk (below_step (by repeat (first | (with_reducible first | exact HB.out | apply below_alloc | apply pw_below_drewN | apply below_drew1) | exact HB.out)) hb); clear HB; have HB := n0_; clear n0_; (try clear hb); (try clear hb2); (try clear hk); (try clear hi)) | (go_at_call 6; (with_reducible refine (depotlaw10_lines.calls kj43  t240 _ ?side2 ?side1 A73.out).mono ?_); (case side1 => first | exact HT | exact ⟨Hand.Laid.below HT.out (by repeat (first | (with_reducible first | exact HB.out | apply below_alloc | apply pw_below_drewN | apply below_drew1) | exact HB.out))⟩); (case side2 => first | exact ⟨rfl⟩ | exact HTRUE); rintro e w77 ⟨rfl, hb⟩; have n0_ := Aside0.mk (below_step (by repeat (first | (with_reducible first | exact HB.out | apply below_alloc | apply pw_below_drewN | apply below_drew1) | exact HB.out)) hb); clear HB; have HB := n0_; clear n0_; (try clear hb); (try clear hb2); (try clear hk); (try clear hi)))
                                                  go_ret
                                                  exact ⟨by first | rfl | (simp [errW_none, errW_some] <;> rfl) | (simp [*, errW_none, errW_some] <;> rfl), by repeat (first | (with_reducible first | exact HB.out | apply below_alloc | apply pw_below_drewN | apply below_drew1) | exact HB.out)⟩
                                            · rw [if_neg c53] at H
                                              have c53b0 : decide (a2 ≤ 599) = false := decide_eq_false c53
                                              clear c53
                                              replace H := Option.bind_eq_some_iff.mp H
                                              obtain ⟨t241, A780, H⟩ := H
                                              replace H : ((line_Status.f t241).bind fun bt242 => (if bt242.2.2.2 = 0 then ((depotlaw10_lines.f kj43).bind fun t246 => (some t246)) else ((depotlaw10_lines.f kj43).bind fun t247 => (some t247)))) = some r := H
                                              have A78 := Aside0.mk A780
                                              clear A780
                                              replace H := Option.bind_eq_some_iff.mp H
                                              obtain ⟨⟨t242, t243, t244, t245⟩, A790, H⟩ := H
                                              replace H : (if t245 = 0 then ((depotlaw10_lines.f kj43).bind fun t246 => (some t246)) else ((depotlaw10_lines.f kj43).bind fun t247 => (some t247))) = some r := H
                                              have A79 := Aside0.mk A790
                                              clear A790
                                              by_cases c80 : t245 = 0
                                              · rw [if_pos c80] at H
                                                have c80b0 : (t245 == 0) = true := beq_iff_eq.mpr c80
                                                have c80b1 : (t245 != 0) = false := bne_eq_false_iff_eq.mpr c80
                                                clear c80
                                                replace H := Option.bind_eq_some_iff.mp H
                                                obtain ⟨t246, A810, H⟩ := H
                                                replace H : (some t246) = some r := H
                                                have A81 := Aside0.mk A810
                                                clear A810
                                                obtain rfl := Option.some.inj H
                                                go_wp2_with (first | ((with_reducible refine gate_callee (f := 13) rfl ?_); refine goesL_ (some 147) rfl rfl Tryd.func13 (by kernel_rfl) rfl #[.int .i64 a2, .string a1, .int .i64 a3] rfl (by (try simp only [List.map_toArray, List.map_cons, List.map_nil]); first | done | rfl | (simp only [List.length_drop, List.length_take]; rfl)) ?_; (with_reducible refine (line_PrintStatus.calls a2 a1 a3 t241 _ ?side1 A78.out).mono ?_); (case side1 => first | exact HT | exact ⟨Hand.Laid.below HT.out (by repeat (first | (with_reducible first | exact HB.out | apply below_alloc | apply pw_below_drewN | apply below_drew1) | exact HB.out))⟩); rintro e w82 ⟨rfl, hb⟩; refine ⟨_, rfl, ?_⟩; have n0_ := Aside0.mk (below_step (by repeat (first | (with_reducible first | exact HB.out | apply below_alloc | apply pw_below_drewN | apply below_drew1) | exact HB.out)) hb); clear HB; have HB := n0_; clear n0_; (try clear hb); (try clear hb2); (try clear hk); (try clear hi)) | ((with_reducible refine gate_callee (f := 9) rfl ?_); refine goesL_ (some 148) rfl rfl Tryd.func9 (by kernel_rfl) rfl #[.string t241] rfl (by (try simp only [List.map_toArray, List.map_cons, List.map_nil]); first | done | rfl | (simp only [List.length_drop, List.length_take]; rfl)) ?_; (with_reducible refine (line_Status.calls t241 t242 t243 t244 t245 _ A79.out).mono ?_); rintro e w83 ⟨rfl, hb⟩; refine ⟨_, rfl, ?_⟩; have n0_ := Aside0.mk (below_step (by repeat (first | (with_reducible first | exact HB.out | apply below_alloc | apply pw_below_drewN | apply below_drew1) | exact HB.out)) hb); clear HB; have HB := n0_; clear n0_; (try clear hb); (try clear hb2); (try clear hk); (try clear hi)) | (go_at_call 6; (with_reducible refine (depotlaw10_lines.calls kj43  t246 _ ?side2 ?side1 A81.out).mono ?_); (case side1 => first | exact HT | exact ⟨Hand.Laid.below HT.out (by repeat (first | (with_reducible first | exact HB.out | apply below_alloc | apply pw_below_drewN | apply below_drew1) | exact HB.out))⟩); (case side2 => first | exact ⟨rfl⟩ | exact HTRUE); rintro e w84 ⟨rfl, hb⟩; have n0_ := Aside0.mk (below_step (by repeat (first | (with_reducible first | exact HB.out | apply below_alloc | apply pw_below_drewN | apply below_drew1) | exact HB.out)) hb); clear HB; have HB := n0_; clear n0_; (try clear hb); (try clear hb2); (try clear hk); (try clear hi)))
                                                go_ret
                                                exact ⟨by first | rfl | (simp [errW_none, errW_some] <;> rfl) | (simp [*, errW_none, errW_some] <;> rfl), by repeat (first | (with_reducible first | exact HB.out | apply below_alloc | apply pw_below_drewN | apply below_drew1) | exact HB.out)⟩
                                              · rw [if_neg c80] at H
                                                have c80b0 : (t245 == 0) = false := beq_eq_false_iff_ne.mpr c80
                                                have c80b1 : (t245 != 0) = true := bne_iff_ne.mpr c80
                                                replace H := Option.bind_eq_some_iff.mp H
                                                obtain ⟨t247, A850, H⟩ := H
                                                replace H : (some t247) = some r := H
                                                have A85 := Aside0.mk A850
                                                clear A850
                                                obtain rfl := Option.some.inj H
                                                go_wp2_with (first | ((with_reducible refine gate_callee (f := 13) rfl ?_); refine goesL_ (some 147) rfl rfl Tryd.func13 (by kernel_rfl) rfl #[.int .i64 a2, .string a1, .int .i64 a3] rfl (by (try simp only [List.map_toArray, List.map_cons, List.map_nil]); first | done | rfl | (simp only [List.length_drop, List.length_take]; rfl)) ?_; (with_reducible refine (line_PrintStatus.calls a2 a1 a3 t241 _ ?side1 A78.out).mono ?_); (case side1 => first | exact HT | exact ⟨Hand.Laid.below HT.out (by repeat (first | (with_reducible first | exact HB.out | apply below_alloc | apply pw_below_drewN | apply below_drew1) | exact HB.out))⟩); rintro e w86 ⟨rfl, hb⟩; refine ⟨_, rfl, ?_⟩; have n0_ := Aside0.mk (below_step (by repeat (first | (with_reducible first | exact HB.out | apply below_alloc | apply pw_below_drewN | apply below_drew1) | exact HB.out)) hb); clear HB; have HB := n0_; clear n0_; (try clear hb); (try clear hb2); (try clear hk); (try clear hi)) | ((with_reducible refine gate_callee (f := 9) rfl ?_); refine goesL_ (some 148) rfl rfl Tryd.func9 (by kernel_rfl) rfl #[.string t241] rfl (by (try simp only [List.map_toArray, List.map_cons, List.map_nil]); first | done | rfl | (simp only [List.length_drop, List.length_take]; rfl)) ?_; (with_reducible refine (line_Status.calls t241 t242 t243 t244 t245 _ A79.out).mono ?_); rintro e w87 ⟨rfl, hb⟩; refine ⟨_, rfl, ?_⟩; have n0_ := Aside0.mk (below_step (by repeat (first | (with_reducible first | exact HB.out | apply below_alloc | apply pw_below_drewN | apply below_drew1) | exact HB.out)) hb); clear HB; have HB := n0_; clear n0_; (try clear hb); (try clear hb2); (try clear hk); (try clear hi)) | (go_at_call 6; (with_reducible refine (depotlaw10_lines.calls kj43  t247 _ ?side2 ?side1 A85.out).mono ?_); (case side1 => first | exact HT | exact ⟨Hand.Laid.below HT.out (by repeat (first | (with_reducible first | exact HB.out | apply below_alloc | apply pw_below_drewN | apply below_drew1) | exact HB.out))⟩); (case side2 => first | exact ⟨rfl⟩ | exact HTRUE); rintro e w88 ⟨rfl, hb⟩; have n0_ := Aside0.mk (below_step (by repeat (first | (with_reducible first | exact HB.out | apply below_alloc | apply pw_below_drewN | apply below_drew1) | exact HB.out)) hb); clear HB; have HB := n0_; clear n0_; (try clear hb); (try clear hb2); (try clear hk); (try clear hi)))
                                                go_ret
                                                exact ⟨by first | rfl | (simp [errW_none, errW_some] <;> rfl) | (simp [*, errW_none, errW_some] <;> rfl), by repeat (first | (with_reducible first | exact HB.out | apply below_alloc | apply pw_below_drewN | apply below_drew1) | exact HB.out)⟩
                                          · rw [if_neg c52] at H
                                            have c52b0 : decide (100 ≤ a2) = false := decide_eq_false c52
                                            clear c52
                                            replace H := Option.bind_eq_some_iff.mp H
                                            obtain ⟨t248, A890, H⟩ := H
                                            replace H : ((line_Status.f t248).bind fun bt249 => (if bt249.2.2.2 = 0 then ((depotlaw10_lines.f kj43).bind fun t253 => (some t253)) else ((depotlaw10_lines.f kj43).bind fun t254 => (some t254)))) = some r := H
                                            have A89 := Aside0.mk A890
                                            clear A890
                                            replace H := Option.bind_eq_some_iff.mp H
                                            obtain ⟨⟨t249, t250, t251, t252⟩, A900, H⟩ := H
                                            replace H : (if t252 = 0 then ((depotlaw10_lines.f kj43).bind fun t253 => (some t253)) else ((depotlaw10_lines.f kj43).bind fun t254 => (some t254))) = some r := H
                                            have A90 := Aside0.mk A900
                                            clear A900
                                            by_cases c91 : t252 = 0
                                            · rw [if_pos c91] at H
                                              have c91b0 : (t252 == 0) = true := beq_iff_eq.mpr c91
                                              have c91b1 : (t252 != 0) = false := bne_eq_false_iff_eq.mpr c91
                                              clear c91
                                              replace H := Option.bind_eq_some_iff.mp H
                                              obtain ⟨t253, A920, H⟩ := H
                                              replace H : (some t253) = some r := H
                                              have A92 := Aside0.mk A920
                                              clear A920
                                              obtain rfl := Option.some.inj H
                                              go_wp2_with (first | ((with_reducible refine gate_callee (f := 13) rfl ?_); refine goesL_ (some 147) rfl rfl Tryd.func13 (by kernel_rfl) rfl #[.int .i64 a2, .string a1, .int .i64 a3] rfl (by (try simp only [List.map_toArray, List.map_cons, List.map_nil]); first | done | rfl | (simp only [List.length_drop, List.length_take]; rfl)) ?_; (with_reducible refine (line_PrintStatus.calls a2 a1 a3 t248 _ ?side1 A89.out).mono ?_); (case side1 => first | exact HT | exact ⟨Hand.Laid.below HT.out (by repeat (first | (with_reducible first | exact HB.out | apply below_alloc | apply pw_below_drewN | apply below_drew1) | exact HB.out))⟩); rintro e w93 ⟨rfl, hb⟩; refine ⟨_, rfl, ?_⟩; have n0_ := Aside0.mk (below_step (by repeat (first | (with_reducible first | exact HB.out | apply below_alloc | apply pw_below_drewN | apply below_drew1) | exact HB.out)) hb); clear HB; have HB := n0_; clear n0_; (try clear hb); (try clear hb2); (try clear hk); (try clear hi)) | ((with_reducible refine gate_callee (f := 9) rfl ?_); refine goesL_ (some 148) rfl rfl Tryd.func9 (by kernel_rfl) rfl #[.string t248] rfl (by (try simp only [List.map_toArray, List.map_cons, List.map_nil]); first | done | rfl | (simp only [List.length_drop, List.length_take]; rfl)) ?_; (with_reducible refine (line_Status.calls t248 t249 t250 t251 t252 _ A90.out).mono ?_); rintro e w94 ⟨rfl, hb⟩; refine ⟨_, rfl, ?_⟩; have n0_ := Aside0.mk (below_step (by repeat (first | (with_reducible first | exact HB.out | apply below_alloc | apply pw_below_drewN | apply below_drew1) | exact HB.out)) hb); clear HB; have HB := n0_; clear n0_; (try clear hb); (try clear hb2); (try clear hk); (try clear hi)) | (go_at_call 6; (with_reducible refine (depotlaw10_lines.calls kj43  t253 _ ?side2 ?side1 A92.out).mono ?_); (case side1 => first | exact HT | exact ⟨Hand.Laid.below HT.out (by repeat (first | (with_reducible first | exact HB.out | apply below_alloc | apply pw_below_drewN | apply below_drew1) | exact HB.out))⟩); (case side2 => first | exact ⟨rfl⟩ | exact HTRUE); rintro e w95 ⟨rfl, hb⟩; have n0_ := Aside0.mk (below_step (by repeat (first | (with_reducible first | exact HB.out | apply below_alloc | apply pw_below_drewN | apply below_drew1) | exact HB.out)) hb); clear HB; have HB := n0_; clear n0_; (try clear hb); (try clear hb2); (try clear hk); (try clear hi)))
                                              go_ret
                                              exact ⟨by first | rfl | (simp [errW_none, errW_some] <;> rfl) | (simp [*, errW_none, errW_some] <;> rfl), by repeat (first | (with_reducible first | exact HB.out | apply below_alloc | apply pw_below_drewN | apply below_drew1) | exact HB.out)⟩
                                            · rw [if_neg c91] at H
                                              have c91b0 : (t252 == 0) = false := beq_eq_false_iff_ne.mpr c91
                                              have c91b1 : (t252 != 0) = true := bne_iff_ne.mpr c91
                                              replace H := Option.bind_eq_some_iff.mp H
                                              obtain ⟨t254, A960, H⟩ := H
                                              replace H : (some t254) = some r := H
                                              have A96 := Aside0.mk A960
                                              clear A960
                                              obtain rfl := Option.some.inj H
                                              go_wp2_with (first | ((with_reducible refine gate_callee (f := 13) rfl ?_); refine goesL_ (some 147) rfl rfl Tryd.func13 (by kernel_rfl) rfl #[.int .i64 a2, .string a1, .int .i64 a3] rfl (by (try simp only [List.map_toArray, List.map_cons, List.map_nil]); first | done | rfl | (simp only [List.length_drop, List.length_take]; rfl)) ?_; (with_reducible refine (line_PrintStatus.calls a2 a1 a3 t248 _ ?side1 A89.out).mono ?_); (case side1 => first | exact HT | exact ⟨Hand.Laid.below HT.out (by repeat (first | (with_reducible first | exact HB.out | apply below_alloc | apply pw_below_drewN | apply below_drew1) | exact HB.out))⟩); rintro e w97 ⟨rfl, hb⟩; refine ⟨_, rfl, ?_⟩; have n0_ := Aside0.mk (below_step (by repeat (first | (with_reducible first | exact HB.out | apply below_alloc | apply pw_below_drewN | apply below_drew1) | exact HB.out)) hb); clear HB; have HB := n0_; clear n0_; (try clear hb); (try clear hb2); (try clear hk); (try clear hi)) | ((with_reducible refine gate_callee (f := 9) rfl ?_); refine goesL_ (some 148) rfl rfl Tryd.func9 (by kernel_rfl) rfl #[.string t248] rfl (by (try simp only [List.map_toArray, List.map_cons, List.map_nil]); first | done | rfl | (simp only [List.length_drop, List.length_take]; rfl)) ?_; (with_reducible refine (line_Status.calls t248 t249 t250 t251 t252 _ A90.out).mono ?_); rintro e w98 ⟨rfl, hb⟩; refine ⟨_, rfl, ?_⟩; have n0_ := Aside0.mk (below_step (by repeat (first | (with_reducible first | exact HB.out | apply below_alloc | apply pw_below_drewN | apply below_drew1) | exact HB.out)) hb); clear HB; have HB := n0_; clear n0_; (try clear hb); (try clear hb2); (try clear hk); (try clear hi)) | (go_at_call 6; (with_reducible refine (depotlaw10_lines.calls kj43  t254 _ ?side2 ?side1 A96.out).mono ?_); (case side1 => first | exact HT | exact ⟨Hand.Laid.below HT.out (by repeat (first | (with_reducible first | exact HB.out | apply below_alloc | apply pw_below_drewN | apply below_drew1) | exact HB.out))⟩); (case side2 => first | exact ⟨rfl⟩ | exact HTRUE); rintro e w99 ⟨rfl, hb⟩; have n0_ := Aside0.mk (below_step (by repeat (first | (with_reducible first | exact HB.out | apply below_alloc | apply pw_below_drewN | apply below_drew1) | exact HB.out)) hb); clear HB; have HB := n0_; clear n0_; (try clear hb); (try clear hb2); (try clear hk); (try clear hi)))
                                              go_ret
                                              exact ⟨by first | rfl | (simp [errW_none, errW_some] <;> rfl) | (simp [*, errW_none, errW_some] <;> rfl), by repeat (first | (with_reducible first | exact HB.out | apply below_alloc | apply pw_below_drewN | apply below_drew1) | exact HB.out)⟩

end Go.Proofs.YtljikgfhglihhaaDoor.PR
