-- Out of the translation, by a program of this session: each function that a law comes to as a Lean function, and that the machine's call does what it says. Lean checks it.
import Derived.Test.YtghaocjhmambaaaDoorPR0
import Derived.Test.YtghaocjhmambaaaDoorPR13
import Derived.Test.YtghaocjhmambaaaDoorPR14
import Derived.Test.YtghaocjhmambaaaDoorPR15
namespace Go.Proofs.YtghaocjhmambaaaDoor.PR
open Go.RowKit Go.Proofs.YtghaocjhmambaaaDoorW.PrintWords Go.Proofs.YtghaocjhmambaaaDoorW.PrintLast Go.Proofs.YtghaocjhmambaaaDoorW.PrintMore
attribute [local go_sem] max2_int min2_int max_two min_two max_three min_three max_four min_four   -- for this text's walks alone
set_option linter.unusedVariables false
set_option linter.unusedSimpArgs false

/-! ### depotref08_Parse: function 14 -/
mutual
def depotref08_Parse.j0 : Nat → ByteArray → ByteArray → Bool → Option (ByteArray × Int × ByteArray × Int)
  | 0, _, _, _ => none
  | k + 1, x0, x1, x21 => if x21 = true then (if 7 ≤ (x0.size : Int) then (depotref08_Parse.l0 k (x0.extract 7 x0.size) 0) else (none)) else (depotref08_Parse.j2 k x0 x1)
def depotref08_Parse.j2 : Nat → ByteArray → ByteArray → Option (ByteArray × Int × ByteArray × Int)
  | 0, _, _ => none
  | k + 1, x0, x1 => if x0.toList = ([] : List UInt8) then (depotref08_Parse.j3 k x0 x1 true) else (if 0 < (x0.size : Int) then (depotref08_Parse.j3 k x0 x1 ((bt x0 0) != 47)) else (none))
def depotref08_Parse.j3 : Nat → ByteArray → ByteArray → Bool → Option (ByteArray × Int × ByteArray × Int)
  | 0, _, _, _ => none
  | k + 1, x0, x1, x63 => if x63 = true then (some ((⟨#[]⟩ : ByteArray), 0, (⟨#[]⟩ : ByteArray), 23)) else ((depotref08_Authority.f k x1).bind fun bt232 => (if bt232.2.2 = 0 then ((depotref08_Path.f k x0).bind fun bt235 => (if bt235.2 = 0 then (some (bt232.1, bt232.2.1, bt235.1, 0)) else (some ((⟨#[]⟩ : ByteArray), 0, (⟨#[]⟩ : ByteArray), bt235.2)))) else (some ((⟨#[]⟩ : ByteArray), 0, (⟨#[]⟩ : ByteArray), bt232.2.2))))
def depotref08_Parse.l0 : Nat → ByteArray → Int → Option (ByteArray × Int × ByteArray × Int)
  | 0, _, _ => none
  | k + 1, x6, x7 => if x7 < (x6.size : Int) then (if 0 ≤ x7 then (if (bt x6 x7) = 47 then (if x7 ≤ (x6.size : Int) then (if (x6.extract (x7 : Int).toNat x6.size).toList = ([] : List UInt8) then (if 1 + (x6.extract (x7 : Int).toNat x6.size).size ≤ 9223372036854775807 then (depotref08_Parse.j2 k ((⟨#[47]⟩ : ByteArray) ++ (x6.extract (x7 : Int).toNat x6.size)) (x6.extract 0 (x7 : Int).toNat)) else (none)) else (if 0 < ((x6.extract (x7 : Int).toNat x6.size).size : Int) then (if (bt (x6.extract (x7 : Int).toNat x6.size) 0) = 63 then (if 1 + (x6.extract (x7 : Int).toNat x6.size).size ≤ 9223372036854775807 then (depotref08_Parse.j2 k ((⟨#[47]⟩ : ByteArray) ++ (x6.extract (x7 : Int).toNat x6.size)) (x6.extract 0 (x7 : Int).toNat)) else (none)) else (depotref08_Parse.j2 k (x6.extract (x7 : Int).toNat x6.size) (x6.extract 0 (x7 : Int).toNat))) else (none))) else (none)) else (if (bt x6 x7) = 63 then (if x7 ≤ (x6.size : Int) then (if (x6.extract (x7 : Int).toNat x6.size).toList = ([] : List UInt8) then (if 1 + (x6.extract (x7 : Int).toNat x6.size).size ≤ 9223372036854775807 then (depotref08_Parse.j2 k ((⟨#[47]⟩ : ByteArray) ++ (x6.extract (x7 : Int).toNat x6.size)) (x6.extract 0 (x7 : Int).toNat)) else (none)) else (if 0 < ((x6.extract (x7 : Int).toNat x6.size).size : Int) then (if (bt (x6.extract (x7 : Int).toNat x6.size) 0) = 63 then (if 1 + (x6.extract (x7 : Int).toNat x6.size).size ≤ 9223372036854775807 then (depotref08_Parse.j2 k ((⟨#[47]⟩ : ByteArray) ++ (x6.extract (x7 : Int).toNat x6.size)) (x6.extract 0 (x7 : Int).toNat)) else (none)) else (depotref08_Parse.j2 k (x6.extract (x7 : Int).toNat x6.size) (x6.extract 0 (x7 : Int).toNat))) else (none))) else (none)) else (depotref08_Parse.l0 k x6 (wrap64 (x7 + 1))))) else (none)) else (if 0 ≤ x7 then (if x7 ≤ (x6.size : Int) then (if (x6.extract (x7 : Int).toNat x6.size).toList = ([] : List UInt8) then (if 1 + (x6.extract (x7 : Int).toNat x6.size).size ≤ 9223372036854775807 then (depotref08_Parse.j2 k ((⟨#[47]⟩ : ByteArray) ++ (x6.extract (x7 : Int).toNat x6.size)) (x6.extract 0 (x7 : Int).toNat)) else (none)) else (if 0 < ((x6.extract (x7 : Int).toNat x6.size).size : Int) then (if (bt (x6.extract (x7 : Int).toNat x6.size) 0) = 63 then (if 1 + (x6.extract (x7 : Int).toNat x6.size).size ≤ 9223372036854775807 then (depotref08_Parse.j2 k ((⟨#[47]⟩ : ByteArray) ++ (x6.extract (x7 : Int).toNat x6.size)) (x6.extract 0 (x7 : Int).toNat)) else (none)) else (depotref08_Parse.j2 k (x6.extract (x7 : Int).toNat x6.size) (x6.extract 0 (x7 : Int).toNat))) else (none))) else (none)) else (none))
end
def depotref08_Parse.f (k : Nat) (a0 : ByteArray) (a1 : ByteArray) : Option (ByteArray × Int × ByteArray × Int) := if (a0.size : Int) ≥ 7 then (if 0 ≤ 7 then (if 7 ≤ (a0.size : Int) then ((depotref01_Lower.f (a0.extract 0 7)).bind fun t231 => (depotref08_Parse.j0 k a0 a1 (t231.toList == ([104, 116, 116, 112, 58, 47, 47] : List UInt8)))) else (none)) else (none)) else (depotref08_Parse.j0 k a0 a1 false)
theorem depotref08_Parse.mono_l : ∀ k, (∀ y0 y1 y2, LeO (depotref08_Parse.j0 k y0 y1 y2) (depotref08_Parse.j0 (k + 1) y0 y1 y2)) ∧ (∀ y0 y1, LeO (depotref08_Parse.j2 k y0 y1) (depotref08_Parse.j2 (k + 1) y0 y1)) ∧ (∀ y0 y1 y2, LeO (depotref08_Parse.j3 k y0 y1 y2) (depotref08_Parse.j3 (k + 1) y0 y1 y2)) ∧ (∀ y0 y1, LeO (depotref08_Parse.l0 k y0 y1) (depotref08_Parse.l0 (k + 1) y0 y1))
  | 0 => ⟨fun _ _ _ r h => by simp [depotref08_Parse.j0] at h, fun _ _ r h => by simp [depotref08_Parse.j2] at h, fun _ _ _ r h => by simp [depotref08_Parse.j3] at h, fun _ _ r h => by simp [depotref08_Parse.l0] at h⟩
  | k + 1 => by
    obtain ⟨ih0, ih1, ih2, ih3⟩ := depotref08_Parse.mono_l k
    refine ⟨?_, ?_, ?_, ?_⟩
    · intro y0 y1 y2
      unfold depotref08_Parse.j0
      repeat' first
      | (with_reducible exact ih0 _ _ _)
      | (with_reducible exact ih1 _ _)
      | (with_reducible exact ih2 _ _ _)
      | (with_reducible exact ih3 _ _)
      | (with_reducible exact depotref08_Authority.mono _ _)
      | (with_reducible exact depotref08_Path.mono _ _)
      | (with_reducible exact LeO.refl _)
      | (with_reducible exact LeO.none _)
      | (with_reducible refine LeO.ite ?_ ?_)
      | (with_reducible refine LeO.bind ?_ (fun _ => ?_))
      | exact ih0 _ _ _
      | exact ih1 _ _
      | exact ih2 _ _ _
      | exact ih3 _ _
      | exact depotref08_Authority.mono _ _
      | exact depotref08_Path.mono _ _
      | exact LeO.none _
      | refine LeO.ite ?_ ?_
      | refine LeO.bind ?_ (fun _ => ?_)
    · intro y0 y1
      unfold depotref08_Parse.j2
      repeat' first
      | (with_reducible exact ih0 _ _ _)
      | (with_reducible exact ih1 _ _)
      | (with_reducible exact ih2 _ _ _)
      | (with_reducible exact ih3 _ _)
      | (with_reducible exact depotref08_Authority.mono _ _)
      | (with_reducible exact depotref08_Path.mono _ _)
      | (with_reducible exact LeO.refl _)
      | (with_reducible exact LeO.none _)
      | (with_reducible refine LeO.ite ?_ ?_)
      | (with_reducible refine LeO.bind ?_ (fun _ => ?_))
      | exact ih0 _ _ _
      | exact ih1 _ _
      | exact ih2 _ _ _
      | exact ih3 _ _
      | exact depotref08_Authority.mono _ _
      | exact depotref08_Path.mono _ _
      | exact LeO.none _
      | refine LeO.ite ?_ ?_
      | refine LeO.bind ?_ (fun _ => ?_)
    · intro y0 y1 y2
      unfold depotref08_Parse.j3
      repeat' first
      | (with_reducible exact ih0 _ _ _)
      | (with_reducible exact ih1 _ _)
      | (with_reducible exact ih2 _ _ _)
      | (with_reducible exact ih3 _ _)
      | (with_reducible exact depotref08_Authority.mono _ _)
      | (with_reducible exact depotref08_Path.mono _ _)
      | (with_reducible exact LeO.refl _)
      | (with_reducible exact LeO.none _)
      | (with_reducible refine LeO.ite ?_ ?_)
      | (with_reducible refine LeO.bind ?_ (fun _ => ?_))
      | exact ih0 _ _ _
      | exact ih1 _ _
      | exact ih2 _ _ _
      | exact ih3 _ _
      | exact depotref08_Authority.mono _ _
      | exact depotref08_Path.mono _ _
      | exact LeO.none _
      | refine LeO.ite ?_ ?_
      | refine LeO.bind ?_ (fun _ => ?_)
    · intro y0 y1
      unfold depotref08_Parse.l0
      repeat' first
      | (with_reducible exact ih0 _ _ _)
      | (with_reducible exact ih1 _ _)
      | (with_reducible exact ih2 _ _ _)
      | (with_reducible exact ih3 _ _)
      | (with_reducible exact depotref08_Authority.mono _ _)
      | (with_reducible exact depotref08_Path.mono _ _)
      | (with_reducible exact LeO.refl _)
      | (with_reducible exact LeO.none _)
      | (with_reducible refine LeO.ite ?_ ?_)
      | (with_reducible refine LeO.bind ?_ (fun _ => ?_))
      | exact ih0 _ _ _
      | exact ih1 _ _
      | exact ih2 _ _ _
      | exact ih3 _ _
      | exact depotref08_Authority.mono _ _
      | exact depotref08_Path.mono _ _
      | exact LeO.none _
      | refine LeO.ite ?_ ?_
      | refine LeO.bind ?_ (fun _ => ?_)
theorem depotref08_Parse.mono : ∀ a0 a1 k, LeO (depotref08_Parse.f k a0 a1) (depotref08_Parse.f (k + 1) a0 a1) := by
  intro a0 a1 k
  obtain ⟨ih0, ih1, ih2, ih3⟩ := depotref08_Parse.mono_l k
  unfold depotref08_Parse.f
  repeat' first
      | (with_reducible exact ih0 _ _ _)
      | (with_reducible exact ih1 _ _)
      | (with_reducible exact ih2 _ _ _)
      | (with_reducible exact ih3 _ _)
      | (with_reducible exact depotref08_Authority.mono _ _)
      | (with_reducible exact depotref08_Path.mono _ _)
      | (with_reducible exact LeO.refl _)
      | (with_reducible exact LeO.none _)
      | (with_reducible refine LeO.ite ?_ ?_)
      | (with_reducible refine LeO.bind ?_ (fun _ => ?_))
      | exact ih0 _ _ _
      | exact ih1 _ _
      | exact ih2 _ _ _
      | exact ih3 _ _
      | exact depotref08_Authority.mono _ _
      | exact depotref08_Path.mono _ _
      | exact LeO.none _
      | refine LeO.ite ?_ ?_
      | refine LeO.bind ?_ (fun _ => ?_)
set_option maxHeartbeats 8000000 in
set_option maxRecDepth 100000 in
theorem depotref08_Parse.calls (k : Nat) (a0 : ByteArray) (a1 : ByteArray) (r1 : ByteArray) (r2 : Int) (r3 : ByteArray) (r4 : Int) (w : World) (h : depotref08_Parse.f k a0 a1 = some (r1, r2, r3, r4)) :
    Calls Tryd.prog 14 #[.string a0, .string a1] w fun e w' => e = .returned (.tuple #[.agg #[.string r1, .int .i64 r2, .string r3], .int .i64 r4]) ∧ Below w.heap.size w w' := by
  have hu34 := Tryd.underlying34
  have HB := Aside0.mk (Below.refl w.heap.size w)
  have H : (if (a0.size : Int) ≥ 7 then (if 0 ≤ 7 then (if 7 ≤ (a0.size : Int) then ((depotref01_Lower.f (a0.extract 0 7)).bind fun t231 => (depotref08_Parse.j0 k a0 a1 (t231.toList == ([104, 116, 116, 112, 58, 47, 47] : List UInt8)))) else (none)) else (none)) else (depotref08_Parse.j0 k a0 a1 false)) = some (r1, r2, r3, r4) := h
  clear h
  have HC3 := Aside0.mk H
  clear H
  go_enter Tryd.func14, Tryd.ntmps14
  go_upto_region 1 with (first | ((with_reducible refine gate_dst (N := 4) rfl ?_); refine box_event ?hg (N := 4) ?hd (cs := #[.string (⟨#[]⟩ : ByteArray), .int .i64 0, .string (⟨#[]⟩ : ByteArray)]) (t := 34) ?hr ?_; (case hd => rfl); (case hg => rfl); (case hr => first | (go_simp; done) | (go_simp; rfl)); intro gb230 hg w4 hbox hb; have n0_ := Aside0.mk (below_step (by repeat (first | (with_reducible first | exact HB.out | apply below_alloc | apply pw_below_drewN | apply below_drew1) | exact HB.out)) hb); have n1_ := Aside0.mk (hbox); have n2_ := Aside0.mk ((by rw [hg]; exact (below_size (by repeat (first | (with_reducible first | exact HB.out | apply below_alloc | apply pw_below_drewN | apply below_drew1) | exact HB.out))) : w.heap.size ≤ gb230)); have n3_ := Aside0.mk ((by rw [hg]; exact (below_size (by repeat (first | (with_reducible first | exact HB.out | apply below_alloc | apply pw_below_drewN | apply below_drew1) | exact HB.out))) : w.heap.size ≤ gb230)); clear HB; have HB := n0_; have BK230 := n1_; have GW230 := n2_; have GE230 := n3_; clear n0_ n1_ n2_ n3_; clear hb hbox hg))
  (try simp only [Act.put, List.setIfInBounds_toArray, List.set_cons_zero, List.set_cons_succ])
  go_cut [21] (fun v21 wc => ∃ (kq : Nat) (x21_2 : Bool), v21 = .bool x21_2 ∧ Aside0 (depotref08_Parse.j0 kq a0 a1 x21_2 = some (r1, r2, r3, r4)) ∧ Aside0 (kq ≤ k) ∧ Aside0 (wc.heap[gb230]? = some (.cells #[.string (⟨#[]⟩ : ByteArray), .int .i64 0, .string (⟨#[]⟩ : ByteArray)] 34 (0, 0))) ∧ Aside0 (Below w.heap.size w wc))
  case first => as_aux_lemma =>
    have H := HC3.out
    clear HC3
    by_cases c5 : (a0.size : Int) ≥ 7
    · rw [if_pos c5] at H
      have c5b0 : decide (7 ≤ (a0.size : Int)) = true := decide_eq_true c5
      have c5b1 : decide (7 ≤ a0.size) = true := decide_eq_true (by omega)
      clear c5
      (first | rw [c5b0] | (simp only [i64_w, i32_w]; rw [c5b0]) | skip)
      by_cases c6 : 0 ≤ 7
      · rw [if_pos c6] at H
        have c6b0 := eq_true c6
        have c6b1 : decide (0 ≤ 7) = true := decide_eq_true c6
        clear c6
        by_cases c7 : 7 ≤ (a0.size : Int)
        · rw [if_pos c7] at H
          have c7b0 := eq_true c7
          have c7b1 : decide (7 ≤ (a0.size : Int)) = true := decide_eq_true c7
          clear c7
          replace H := Option.bind_eq_some_iff.mp H
          obtain ⟨t231, A80, H⟩ := H
          replace H : (depotref08_Parse.j0 k a0 a1 (t231.toList == ([104, 116, 116, 112, 58, 47, 47] : List UInt8))) = some (r1, r2, r3, r4) := H
          have A8 := Aside0.mk A80
          clear A80
          have H' := Aside0.mk H
          clear H
          go_wp2_with (first | (go_at_call 35; (with_reducible refine (depotref01_Lower.calls (a0.extract 0 7) t231 _ A8.out).mono ?_); rintro e w9 ⟨rfl, hb⟩; have n0_ := Aside0.mk (blk_below (g := gb230) (o := .cells #[.string (⟨#[]⟩ : ByteArray), .int .i64 0, .string (⟨#[]⟩ : ByteArray)] 34 (0, 0)) (by (with_reducible repeat (first | refine blk_drewN ?_ _ | refine blk_drew ?_ | refine blk_alloc ?_ _)); exact BK230.out) hb); have n1_ := Aside0.mk (below_step (by repeat (first | (with_reducible first | exact HB.out | apply below_alloc | apply pw_below_drewN | apply below_drew1 | refine below_set ?_ GE230.out) | exact HB.out)) hb); clear BK230; clear HB; have BK230 := n0_; have HB := n1_; clear n0_ n1_; (try clear hb); (try clear hb2); (try clear hk); (try clear hi)))
          go_meet
          case rel => exact ⟨_, ((t231.toList == ([104, 116, 116, 112, 58, 47, 47] : List UInt8))), (by first | rfl | (simp; done) | (simp [*]; done) | (simp; exact Hand.isEmpty_ne _)), H', ⟨by first | omega | exact Nat.le_refl _⟩, ⟨by (with_reducible repeat (first | refine blk_drewN ?_ _ | refine blk_drew ?_ | refine blk_alloc ?_ _)); exact BK230.out⟩, ⟨by repeat (first | (with_reducible first | exact HB.out | apply below_alloc | apply pw_below_drewN | apply below_drew1 | refine below_set ?_ GE230.out) | exact HB.out)⟩⟩
        · rw [if_neg c7] at H
          exact absurd H (by simp)
      · rw [if_neg c6] at H
        exact absurd H (by simp)
    · rw [if_neg c5] at H
      have c5b0 : decide (7 ≤ (a0.size : Int)) = false := decide_eq_false c5
      have c5b1 : decide (7 ≤ a0.size) = false := decide_eq_false (by omega)
      clear c5
      (first | rw [c5b0] | (simp only [i64_w, i32_w]; rw [c5b0]) | skip)
      have H' := Aside0.mk H
      clear H
      go_wp2
      go_meet
      case rel => exact ⟨_, (false), (by first | rfl | (simp; done) | (simp [*]; done) | (simp; exact Hand.isEmpty_ne _)), H', ⟨by first | omega | exact Nat.le_refl _⟩, ⟨by (with_reducible repeat (first | refine blk_drewN ?_ _ | refine blk_drew ?_ | refine blk_alloc ?_ _)); exact BK230.out⟩, ⟨by repeat (first | (with_reducible first | exact HB.out | apply below_alloc | apply pw_below_drewN | apply below_drew1 | refine below_set ?_ GE230.out) | exact HB.out)⟩⟩
  case rest => as_aux_lemma =>
    clear HC3
    try clear c1
    try clear p2
    try clear c5
    try clear c5b0
    try clear c5b1
    try clear c6
    try clear c6b0
    try clear c6b1
    try clear c7
    try clear c7b0
    try clear c7b1
    obtain ⟨kq, x21_2, rfl, HA, HJ2, BK230, HB⟩ := hcut
    cases kq with
    | zero => exact absurd HA.out (by simp [depotref08_Parse.j0])
    | succ kj2 =>
      have H := HA.out
      clear HA
      simp only [depotref08_Parse.j0] at H
      have HC10 := Aside0.mk H
      clear H
      go_upto_if 21 with (fail)
      go_cut [0, 1] (fun v0 v1 wc => ∃ (kq : Nat) (x0_9 : ByteArray) (x1_9 : ByteArray), v0 = .string x0_9 ∧ v1 = .string x1_9 ∧ Aside0 (depotref08_Parse.j2 kq x0_9 x1_9 = some (r1, r2, r3, r4)) ∧ Aside0 (kq ≤ kj2) ∧ Aside0 (wc.heap[gb230]? = some (.cells #[.string (⟨#[]⟩ : ByteArray), .int .i64 0, .string (⟨#[]⟩ : ByteArray)] 34 (0, 0))) ∧ Aside0 (Below w.heap.size w wc))
      case first => as_aux_lemma =>
        have H := HC10.out
        clear HC10
        by_cases c11 : x21_2 = true
        · subst c11
          have H1 : (if 7 ≤ (a0.size : Int) then (depotref08_Parse.l0 kj2 (a0.extract 7 a0.size) 0) else (none)) = some (r1, r2, r3, r4) := by rw [if_pos rfl] at H; exact H
          clear H
          have H := H1
          clear H1
          by_cases c12 : 7 ≤ (a0.size : Int)
          · rw [if_pos c12] at H
            have c12b0 := eq_true c12
            have c12b1 : decide (7 ≤ (a0.size : Int)) = true := decide_eq_true c12
            clear c12
            have H' := Aside0.mk H
            clear H
            go_wp2
            go_loopg [7] kj2 (fun kq v7 w' => ∃ (x7_2 : Int), v7 = .int .i64 x7_2 ∧ Aside0 (depotref08_Parse.l0 kq (a0.extract 7 a0.size) x7_2 = some (r1, r2, r3, r4)) ∧ Aside0 (kq ≤ kj2) ∧ Aside0 (w'.heap[gb230]? = some (.cells #[.string (⟨#[]⟩ : ByteArray), .int .i64 0, .string (⟨#[]⟩ : ByteArray)] 34 (0, 0))) ∧ Aside0 (Below w.heap.size w w'))
            case atStart => exact ⟨(0), (by first | rfl | (simp; done) | (simp [*]; done) | (simp; exact Hand.isEmpty_ne _)), H', ⟨Nat.le_refl _⟩, ⟨by (with_reducible repeat (first | refine blk_drewN ?_ _ | refine blk_drew ?_ | refine blk_alloc ?_ _)); exact BK230.out⟩, ⟨by repeat (first | (with_reducible first | exact HB.out | apply below_alloc | apply pw_below_drewN | apply below_drew1 | refine below_set ?_ GE230.out) | exact HB.out)⟩⟩
            case round =>
              clear H'
              try clear c1
              try clear p2
              try clear c5
              try clear c5b0
              try clear c5b1
              try clear c6
              try clear c6b0
              try clear c6b1
              try clear c7
              try clear c7b0
              try clear c7b1
              try clear c11
              try clear c12
              try clear c12b0
              try clear c12b1
              try clear p2
              obtain ⟨x7_2, rfl, HA, HK2, BK230, HB⟩ := hrel
              generalize (a0.extract 7 a0.size) = gz1 at *
              cases gk with
              | zero => exact absurd HA.out (by simp [depotref08_Parse.l0])
              | succ k2 =>
                have H := HA.out
                clear HA
                simp only [depotref08_Parse.l0] at H
                by_cases c13 : x7_2 < (gz1.size : Int)
                · rw [if_pos c13] at H
                  have c13b0 : decide (x7_2 < (gz1.size : Int)) = true := decide_eq_true c13
                  (try (have c13b20 := c13b0; simp only [ByteArray.size_extract] at c13b20))
                  (try (have c13b21 := c13b1; simp only [ByteArray.size_extract] at c13b21))
                  (try (have c13b40 := c13b0; simp only [ByteArray.size_extract, Nat.min_self] at c13b40))
                  (try (have c13b41 := c13b1; simp only [ByteArray.size_extract, Nat.min_self] at c13b41))
                  clear c13
                  (first | rw [c13b0] | (simp only [i64_w, i32_w]; rw [c13b0]) | skip)
                  by_cases c14 : 0 ≤ x7_2
                  · rw [if_pos c14] at H
                    have c14b0 : decide (0 ≤ x7_2) = true := decide_eq_true c14
                    clear c14
                    by_cases c16 : (bt gz1 x7_2) = 47
                    · rw [if_pos c16] at H
                      have c16b0 : ((bt gz1 x7_2) == 47) = true := beq_iff_eq.mpr c16
                      have c16b1 : ((bt gz1 x7_2) != 47) = false := bne_eq_false_iff_eq.mpr c16
                      (try (have c16b20 := c16b0; simp only [ByteArray.size_extract] at c16b20))
                      (try (have c16b21 := c16b1; simp only [ByteArray.size_extract] at c16b21))
                      (try (have c16b40 := c16b0; simp only [ByteArray.size_extract, Nat.min_self] at c16b40))
                      (try (have c16b41 := c16b1; simp only [ByteArray.size_extract, Nat.min_self] at c16b41))
                      clear c16
                      have c17b0 := eq_true (of_decide_eq_true (by first | (with_reducible assumption) | assumption) : 0 ≤ x7_2)
                      by_cases c18 : x7_2 ≤ (gz1.size : Int)
                      · rw [if_pos c18] at H
                        have c18b0 := eq_true c18
                        have c18b1 : decide (x7_2 ≤ (gz1.size : Int)) = true := decide_eq_true c18
                        (try (have c18b20 := c18b0; simp only [ByteArray.size_extract] at c18b20))
                        (try (have c18b21 := c18b1; simp only [ByteArray.size_extract] at c18b21))
                        (try (have c18b40 := c18b0; simp only [ByteArray.size_extract, Nat.min_self] at c18b40))
                        (try (have c18b41 := c18b1; simp only [ByteArray.size_extract, Nat.min_self] at c18b41))
                        clear c18
                        have c19b0 := eq_true (of_decide_eq_true (by first | (with_reducible assumption) | assumption) : 0 ≤ x7_2)
                        have c20b0 := eq_true (of_decide_eq_true (by first | (with_reducible assumption) | assumption) : x7_2 ≤ (gz1.size : Int))
                        by_cases c21 : (gz1.extract (x7_2 : Int).toNat gz1.size).toList = ([] : List UInt8)
                        · rw [if_pos c21] at H
                          have c21b0 : ((gz1.extract (x7_2 : Int).toNat gz1.size).toList == ([] : List UInt8)) = true := beq_iff_eq.mpr c21
                          have c21b1 : ((gz1.extract (x7_2 : Int).toNat gz1.size).toList != ([] : List UInt8)) = false := bne_eq_false_iff_eq.mpr c21
                          (try (have c21b20 := c21b0; simp only [ByteArray.size_extract] at c21b20))
                          (try (have c21b21 := c21b1; simp only [ByteArray.size_extract] at c21b21))
                          (try (have c21b40 := c21b0; simp only [ByteArray.size_extract, Nat.min_self] at c21b40))
                          (try (have c21b41 := c21b1; simp only [ByteArray.size_extract, Nat.min_self] at c21b41))
                          clear c21
                          by_cases c22 : 1 + (gz1.extract (x7_2 : Int).toNat gz1.size).size ≤ 9223372036854775807
                          · rw [if_pos c22] at H
                            have c22b0 := eq_true c22
                            have c22b1 : decide (1 + (gz1.extract (x7_2 : Int).toNat gz1.size).size ≤ 9223372036854775807) = true := decide_eq_true c22
                            (try (have c22b20 := c22b0; simp only [ByteArray.size_extract] at c22b20))
                            (try (have c22b21 := c22b1; simp only [ByteArray.size_extract] at c22b21))
                            (try (have c22b40 := c22b0; simp only [ByteArray.size_extract, Nat.min_self] at c22b40))
                            (try (have c22b41 := c22b1; simp only [ByteArray.size_extract, Nat.min_self] at c22b41))
                            try have c22b2 : (9223372036854775807 < 1 + (gz1.extract (x7_2 : Int).toNat gz1.size).size) = False := eq_false (Nat.not_lt.2 c22)
                            (try (have c22b42 := c22b2; simp only [ByteArray.size_extract, Nat.min_self] at c22b42))
                            have H' := Aside0.mk H
                            clear H
                            have p15 : 0 ≤ (x7_2 : Int) := of_decide_eq_true (by first | (with_reducible assumption) | assumption)
                            have q15 : x7_2 < (gz1.size : Int) := of_decide_eq_true (by first | (with_reducible assumption) | assumption)
                            (try (have q15b := q15; simp only [ByteArray.size_extract] at q15b; replace q15b := eq_true q15b))
                            (try (have q15m := q15; simp only [ByteArray.size_extract, Nat.min_self] at q15m; replace q15m := eq_true q15m))
                            have hx15 := bt_at gz1 x7_2
                            replace p15 := eq_true p15
                            replace q15 := eq_true q15
                            go_wp2
                            go_meet
                            case rel => exact ⟨_, ((⟨#[47]⟩ : ByteArray) ++ (gz1.extract (x7_2 : Int).toNat gz1.size)), (gz1.extract 0 (x7_2 : Int).toNat), (by first | rfl | (simp; done) | (simp [*]; done) | (simp; exact Hand.isEmpty_ne _)), (by first | rfl | (simp; done) | (simp [*]; done) | (simp; exact Hand.isEmpty_ne _)), H', ⟨by have := HJ2.out; have := HK2.out; first | omega | exact Nat.le_refl _⟩, ⟨by (with_reducible repeat (first | refine blk_drewN ?_ _ | refine blk_drew ?_ | refine blk_alloc ?_ _)); exact BK230.out⟩, ⟨by repeat (first | (with_reducible first | exact HB.out | apply below_alloc | apply pw_below_drewN | apply below_drew1 | refine below_set ?_ GE230.out) | exact HB.out)⟩⟩
                          · rw [if_neg c22] at H
                            exact absurd H (by simp)
                        · rw [if_neg c21] at H
                          have c21b0 : ((gz1.extract (x7_2 : Int).toNat gz1.size).toList == ([] : List UInt8)) = false := beq_eq_false_iff_ne.mpr c21
                          have c21b1 : ((gz1.extract (x7_2 : Int).toNat gz1.size).toList != ([] : List UInt8)) = true := bne_iff_ne.mpr c21
                          (try (have c21b20 := c21b0; simp only [ByteArray.size_extract] at c21b20))
                          (try (have c21b21 := c21b1; simp only [ByteArray.size_extract] at c21b21))
                          (try (have c21b40 := c21b0; simp only [ByteArray.size_extract, Nat.min_self] at c21b40))
                          (try (have c21b41 := c21b1; simp only [ByteArray.size_extract, Nat.min_self] at c21b41))
                          by_cases c23 : 0 < ((gz1.extract (x7_2 : Int).toNat gz1.size).size : Int)
                          · rw [if_pos c23] at H
                            have c23b0 : decide (0 < ((gz1.extract (x7_2 : Int).toNat gz1.size).size : Int)) = true := decide_eq_true c23
                            have c23b1 : decide (0 < (gz1.extract (x7_2 : Int).toNat gz1.size).size) = true := decide_eq_true (by omega)
                            (try (have c23b20 := c23b0; simp only [ByteArray.size_extract] at c23b20))
                            (try (have c23b21 := c23b1; simp only [ByteArray.size_extract] at c23b21))
                            (try (have c23b40 := c23b0; simp only [ByteArray.size_extract, Nat.min_self] at c23b40))
                            (try (have c23b41 := c23b1; simp only [ByteArray.size_extract, Nat.min_self] at c23b41))
                            clear c23
                            by_cases c25 : (bt (gz1.extract (x7_2 : Int).toNat gz1.size) 0) = 63
                            · rw [if_pos c25] at H
                              have c25b0 : ((bt (gz1.extract (x7_2 : Int).toNat gz1.size) 0) == 63) = true := beq_iff_eq.mpr c25
                              have c25b1 : ((bt (gz1.extract (x7_2 : Int).toNat gz1.size) 0) != 63) = false := bne_eq_false_iff_eq.mpr c25
                              (try (have c25b20 := c25b0; simp only [ByteArray.size_extract] at c25b20))
                              (try (have c25b21 := c25b1; simp only [ByteArray.size_extract] at c25b21))
                              (try (have c25b40 := c25b0; simp only [ByteArray.size_extract, Nat.min_self] at c25b40))
                              (try (have c25b41 := c25b1; simp only [ByteArray.size_extract, Nat.min_self] at c25b41))
                              clear c25
                              by_cases c26 : 1 + (gz1.extract (x7_2 : Int).toNat gz1.size).size ≤ 9223372036854775807
                              · rw [if_pos c26] at H
                                have c26b0 := eq_true c26
                                have c26b1 : decide (1 + (gz1.extract (x7_2 : Int).toNat gz1.size).size ≤ 9223372036854775807) = true := decide_eq_true c26
                                (try (have c26b20 := c26b0; simp only [ByteArray.size_extract] at c26b20))
                                (try (have c26b21 := c26b1; simp only [ByteArray.size_extract] at c26b21))
                                (try (have c26b40 := c26b0; simp only [ByteArray.size_extract, Nat.min_self] at c26b40))
                                (try (have c26b41 := c26b1; simp only [ByteArray.size_extract, Nat.min_self] at c26b41))
                                try have c26b2 : (9223372036854775807 < 1 + (gz1.extract (x7_2 : Int).toNat gz1.size).size) = False := eq_false (Nat.not_lt.2 c26)
                                (try (have c26b42 := c26b2; simp only [ByteArray.size_extract, Nat.min_self] at c26b42))
                                have H' := Aside0.mk H
                                clear H
                                have p15 : 0 ≤ (x7_2 : Int) := of_decide_eq_true (by first | (with_reducible assumption) | assumption)
                                have q15 : x7_2 < (gz1.size : Int) := of_decide_eq_true (by first | (with_reducible assumption) | assumption)
                                (try (have q15b := q15; simp only [ByteArray.size_extract] at q15b; replace q15b := eq_true q15b))
                                (try (have q15m := q15; simp only [ByteArray.size_extract, Nat.min_self] at q15m; replace q15m := eq_true q15m))
                                have hx15 := bt_at gz1 x7_2
                                replace p15 := eq_true p15
                                replace q15 := eq_true q15
                                have p24 : 0 ≤ (0 : Int) := (by omega)
                                have q24 : 0 < (gz1.extract (x7_2 : Int).toNat gz1.size).size := (by have : (0 : Int) < ((gz1.extract (x7_2 : Int).toNat gz1.size).size : Int) := of_decide_eq_true (by first | (with_reducible assumption) | assumption); omega)
                                (try (have q24b := q24; simp only [ByteArray.size_extract] at q24b; replace q24b := eq_true q24b))
                                (try (have q24m := q24; simp only [ByteArray.size_extract, Nat.min_self] at q24m; replace q24m := eq_true q24m))
                                have hx24 : ∀ h : 0 < (gz1.extract (x7_2 : Int).toNat gz1.size).size, (((gz1.extract (x7_2 : Int).toNat gz1.size)[0]'h).toNat : Int) = bt (gz1.extract (x7_2 : Int).toNat gz1.size) 0 := bt_at (gz1.extract (x7_2 : Int).toNat gz1.size) 0
                                clear p24
                                have qi24 : (0 < ((gz1.extract (x7_2 : Int).toNat gz1.size).size : Int)) = True := eq_true (of_decide_eq_true (by first | (with_reducible assumption) | assumption))
                                (try (have qi24b := qi24; simp only [ByteArray.size_extract] at qi24b; replace qi24b := eq_true qi24b))
                                (try (have qi24m := qi24; simp only [ByteArray.size_extract, Nat.min_self] at qi24m; replace qi24m := eq_true qi24m))
                                replace q24 := eq_true q24
                                go_wp2
                                go_meet
                                case rel => exact ⟨_, ((⟨#[47]⟩ : ByteArray) ++ (gz1.extract (x7_2 : Int).toNat gz1.size)), (gz1.extract 0 (x7_2 : Int).toNat), (by first | rfl | (simp; done) | (simp [*]; done) | (simp; exact Hand.isEmpty_ne _)), (by first | rfl | (simp; done) | (simp [*]; done) | (simp; exact Hand.isEmpty_ne _)), H', ⟨by have := HJ2.out; have := HK2.out; first | omega | exact Nat.le_refl _⟩, ⟨by (with_reducible repeat (first | refine blk_drewN ?_ _ | refine blk_drew ?_ | refine blk_alloc ?_ _)); exact BK230.out⟩, ⟨by repeat (first | (with_reducible first | exact HB.out | apply below_alloc | apply pw_below_drewN | apply below_drew1 | refine below_set ?_ GE230.out) | exact HB.out)⟩⟩
                              · rw [if_neg c26] at H
                                exact absurd H (by simp)
                            · rw [if_neg c25] at H
                              have c25b0 : ((bt (gz1.extract (x7_2 : Int).toNat gz1.size) 0) == 63) = false := beq_eq_false_iff_ne.mpr c25
                              have c25b1 : ((bt (gz1.extract (x7_2 : Int).toNat gz1.size) 0) != 63) = true := bne_iff_ne.mpr c25
                              (try (have c25b20 := c25b0; simp only [ByteArray.size_extract] at c25b20))
                              (try (have c25b21 := c25b1; simp only [ByteArray.size_extract] at c25b21))
                              (try (have c25b40 := c25b0; simp only [ByteArray.size_extract, Nat.min_self] at c25b40))
                              (try (have c25b41 := c25b1; simp only [ByteArray.size_extract, Nat.min_self] at c25b41))
                              have H' := Aside0.mk H
                              clear H
                              have p15 : 0 ≤ (x7_2 : Int) := of_decide_eq_true (by first | (with_reducible assumption) | assumption)
                              have q15 : x7_2 < (gz1.size : Int) := of_decide_eq_true (by first | (with_reducible assumption) | assumption)
                              (try (have q15b := q15; simp only [ByteArray.size_extract] at q15b; replace q15b := eq_true q15b))
                              (try (have q15m := q15; simp only [ByteArray.size_extract, Nat.min_self] at q15m; replace q15m := eq_true q15m))
                              have hx15 := bt_at gz1 x7_2
                              replace p15 := eq_true p15
                              replace q15 := eq_true q15
                              have p24 : 0 ≤ (0 : Int) := (by omega)
                              have q24 : 0 < (gz1.extract (x7_2 : Int).toNat gz1.size).size := (by have : (0 : Int) < ((gz1.extract (x7_2 : Int).toNat gz1.size).size : Int) := of_decide_eq_true (by first | (with_reducible assumption) | assumption); omega)
                              (try (have q24b := q24; simp only [ByteArray.size_extract] at q24b; replace q24b := eq_true q24b))
                              (try (have q24m := q24; simp only [ByteArray.size_extract, Nat.min_self] at q24m; replace q24m := eq_true q24m))
                              have hx24 : ∀ h : 0 < (gz1.extract (x7_2 : Int).toNat gz1.size).size, (((gz1.extract (x7_2 : Int).toNat gz1.size)[0]'h).toNat : Int) = bt (gz1.extract (x7_2 : Int).toNat gz1.size) 0 := bt_at (gz1.extract (x7_2 : Int).toNat gz1.size) 0
                              clear p24
                              have qi24 : (0 < ((gz1.extract (x7_2 : Int).toNat gz1.size).size : Int)) = True := eq_true (of_decide_eq_true (by first | (with_reducible assumption) | assumption))
                              (try (have qi24b := qi24; simp only [ByteArray.size_extract] at qi24b; replace qi24b := eq_true qi24b))
                              (try (have qi24m := qi24; simp only [ByteArray.size_extract, Nat.min_self] at qi24m; replace qi24m := eq_true qi24m))
                              replace q24 := eq_true q24
                              go_wp2
                              go_meet
                              case rel => exact ⟨_, (gz1.extract (x7_2 : Int).toNat gz1.size), (gz1.extract 0 (x7_2 : Int).toNat), (by first | rfl | (simp; done) | (simp [*]; done) | (simp; exact Hand.isEmpty_ne _)), (by first | rfl | (simp; done) | (simp [*]; done) | (simp; exact Hand.isEmpty_ne _)), H', ⟨by have := HJ2.out; have := HK2.out; first | omega | exact Nat.le_refl _⟩, ⟨by (with_reducible repeat (first | refine blk_drewN ?_ _ | refine blk_drew ?_ | refine blk_alloc ?_ _)); exact BK230.out⟩, ⟨by repeat (first | (with_reducible first | exact HB.out | apply below_alloc | apply pw_below_drewN | apply below_drew1 | refine below_set ?_ GE230.out) | exact HB.out)⟩⟩
                          · rw [if_neg c23] at H
                            exact absurd H (by simp)
                      · rw [if_neg c18] at H
                        exact absurd H (by simp)
                    · rw [if_neg c16] at H
                      have c16b0 : ((bt gz1 x7_2) == 47) = false := beq_eq_false_iff_ne.mpr c16
                      have c16b1 : ((bt gz1 x7_2) != 47) = true := bne_iff_ne.mpr c16
                      (try (have c16b20 := c16b0; simp only [ByteArray.size_extract] at c16b20))
                      (try (have c16b21 := c16b1; simp only [ByteArray.size_extract] at c16b21))
                      (try (have c16b40 := c16b0; simp only [ByteArray.size_extract, Nat.min_self] at c16b40))
                      (try (have c16b41 := c16b1; simp only [ByteArray.size_extract, Nat.min_self] at c16b41))
                      by_cases c28 : (bt gz1 x7_2) = 63
                      · rw [if_pos c28] at H
                        have c28b0 : ((bt gz1 x7_2) == 63) = true := beq_iff_eq.mpr c28
                        have c28b1 : ((bt gz1 x7_2) != 63) = false := bne_eq_false_iff_eq.mpr c28
                        (try (have c28b20 := c28b0; simp only [ByteArray.size_extract] at c28b20))
                        (try (have c28b21 := c28b1; simp only [ByteArray.size_extract] at c28b21))
                        (try (have c28b40 := c28b0; simp only [ByteArray.size_extract, Nat.min_self] at c28b40))
                        (try (have c28b41 := c28b1; simp only [ByteArray.size_extract, Nat.min_self] at c28b41))
                        clear c28
                        have c29b0 := eq_true (of_decide_eq_true (by first | (with_reducible assumption) | assumption) : 0 ≤ x7_2)
                        by_cases c30 : x7_2 ≤ (gz1.size : Int)
                        · rw [if_pos c30] at H
                          have c30b0 := eq_true c30
                          have c30b1 : decide (x7_2 ≤ (gz1.size : Int)) = true := decide_eq_true c30
                          (try (have c30b20 := c30b0; simp only [ByteArray.size_extract] at c30b20))
                          (try (have c30b21 := c30b1; simp only [ByteArray.size_extract] at c30b21))
                          (try (have c30b40 := c30b0; simp only [ByteArray.size_extract, Nat.min_self] at c30b40))
                          (try (have c30b41 := c30b1; simp only [ByteArray.size_extract, Nat.min_self] at c30b41))
                          clear c30
                          have c31b0 := eq_true (of_decide_eq_true (by first | (with_reducible assumption) | assumption) : 0 ≤ x7_2)
                          have c32b0 := eq_true (of_decide_eq_true (by first | (with_reducible assumption) | assumption) : x7_2 ≤ (gz1.size : Int))
                          by_cases c33 : (gz1.extract (x7_2 : Int).toNat gz1.size).toList = ([] : List UInt8)
                          · rw [if_pos c33] at H
                            have c33b0 : ((gz1.extract (x7_2 : Int).toNat gz1.size).toList == ([] : List UInt8)) = true := beq_iff_eq.mpr c33
                            have c33b1 : ((gz1.extract (x7_2 : Int).toNat gz1.size).toList != ([] : List UInt8)) = false := bne_eq_false_iff_eq.mpr c33
                            (try (have c33b20 := c33b0; simp only [ByteArray.size_extract] at c33b20))
                            (try (have c33b21 := c33b1; simp only [ByteArray.size_extract] at c33b21))
                            (try (have c33b40 := c33b0; simp only [ByteArray.size_extract, Nat.min_self] at c33b40))
                            (try (have c33b41 := c33b1; simp only [ByteArray.size_extract, Nat.min_self] at c33b41))
                            clear c33
                            by_cases c34 : 1 + (gz1.extract (x7_2 : Int).toNat gz1.size).size ≤ 9223372036854775807
                            · rw [if_pos c34] at H
                              have c34b0 := eq_true c34
                              have c34b1 : decide (1 + (gz1.extract (x7_2 : Int).toNat gz1.size).size ≤ 9223372036854775807) = true := decide_eq_true c34
                              (try (have c34b20 := c34b0; simp only [ByteArray.size_extract] at c34b20))
                              (try (have c34b21 := c34b1; simp only [ByteArray.size_extract] at c34b21))
                              (try (have c34b40 := c34b0; simp only [ByteArray.size_extract, Nat.min_self] at c34b40))
                              (try (have c34b41 := c34b1; simp only [ByteArray.size_extract, Nat.min_self] at c34b41))
                              try have c34b2 : (9223372036854775807 < 1 + (gz1.extract (x7_2 : Int).toNat gz1.size).size) = False := eq_false (Nat.not_lt.2 c34)
                              (try (have c34b42 := c34b2; simp only [ByteArray.size_extract, Nat.min_self] at c34b42))
                              have H' := Aside0.mk H
                              clear H
                              have p15 : 0 ≤ (x7_2 : Int) := of_decide_eq_true (by first | (with_reducible assumption) | assumption)
                              have q15 : x7_2 < (gz1.size : Int) := of_decide_eq_true (by first | (with_reducible assumption) | assumption)
                              (try (have q15b := q15; simp only [ByteArray.size_extract] at q15b; replace q15b := eq_true q15b))
                              (try (have q15m := q15; simp only [ByteArray.size_extract, Nat.min_self] at q15m; replace q15m := eq_true q15m))
                              have hx15 := bt_at gz1 x7_2
                              replace p15 := eq_true p15
                              replace q15 := eq_true q15
                              have p27 : 0 ≤ (x7_2 : Int) := of_decide_eq_true (by first | (with_reducible assumption) | assumption)
                              have q27 : x7_2 < (gz1.size : Int) := of_decide_eq_true (by first | (with_reducible assumption) | assumption)
                              (try (have q27b := q27; simp only [ByteArray.size_extract] at q27b; replace q27b := eq_true q27b))
                              (try (have q27m := q27; simp only [ByteArray.size_extract, Nat.min_self] at q27m; replace q27m := eq_true q27m))
                              have hx27 := bt_at gz1 x7_2
                              replace p27 := eq_true p27
                              replace q27 := eq_true q27
                              go_wp2
                              go_meet
                              case rel => exact ⟨_, ((⟨#[47]⟩ : ByteArray) ++ (gz1.extract (x7_2 : Int).toNat gz1.size)), (gz1.extract 0 (x7_2 : Int).toNat), (by first | rfl | (simp; done) | (simp [*]; done) | (simp; exact Hand.isEmpty_ne _)), (by first | rfl | (simp; done) | (simp [*]; done) | (simp; exact Hand.isEmpty_ne _)), H', ⟨by have := HJ2.out; have := HK2.out; first | omega | exact Nat.le_refl _⟩, ⟨by (with_reducible repeat (first | refine blk_drewN ?_ _ | refine blk_drew ?_ | refine blk_alloc ?_ _)); exact BK230.out⟩, ⟨by repeat (first | (with_reducible first | exact HB.out | apply below_alloc | apply pw_below_drewN | apply below_drew1 | refine below_set ?_ GE230.out) | exact HB.out)⟩⟩
                            · rw [if_neg c34] at H
                              exact absurd H (by simp)
                          · rw [if_neg c33] at H
                            have c33b0 : ((gz1.extract (x7_2 : Int).toNat gz1.size).toList == ([] : List UInt8)) = false := beq_eq_false_iff_ne.mpr c33
                            have c33b1 : ((gz1.extract (x7_2 : Int).toNat gz1.size).toList != ([] : List UInt8)) = true := bne_iff_ne.mpr c33
                            (try (have c33b20 := c33b0; simp only [ByteArray.size_extract] at c33b20))
                            (try (have c33b21 := c33b1; simp only [ByteArray.size_extract] at c33b21))
                            (try (have c33b40 := c33b0; simp only [ByteArray.size_extract, Nat.min_self] at c33b40))
                            (try (have c33b41 := c33b1; simp only [ByteArray.size_extract, Nat.min_self] at c33b41))
                            by_cases c35 : 0 < ((gz1.extract (x7_2 : Int).toNat gz1.size).size : Int)
                            · rw [if_pos c35] at H
                              have c35b0 : decide (0 < ((gz1.extract (x7_2 : Int).toNat gz1.size).size : Int)) = true := decide_eq_true c35
                              have c35b1 : decide (0 < (gz1.extract (x7_2 : Int).toNat gz1.size).size) = true := decide_eq_true (by omega)
                              (try (have c35b20 := c35b0; simp only [ByteArray.size_extract] at c35b20))
                              (try (have c35b21 := c35b1; simp only [ByteArray.size_extract] at c35b21))
                              (try (have c35b40 := c35b0; simp only [ByteArray.size_extract, Nat.min_self] at c35b40))
                              (try (have c35b41 := c35b1; simp only [ByteArray.size_extract, Nat.min_self] at c35b41))
                              clear c35
                              by_cases c37 : (bt (gz1.extract (x7_2 : Int).toNat gz1.size) 0) = 63
                              · rw [if_pos c37] at H
                                have c37b0 : ((bt (gz1.extract (x7_2 : Int).toNat gz1.size) 0) == 63) = true := beq_iff_eq.mpr c37
                                have c37b1 : ((bt (gz1.extract (x7_2 : Int).toNat gz1.size) 0) != 63) = false := bne_eq_false_iff_eq.mpr c37
                                (try (have c37b20 := c37b0; simp only [ByteArray.size_extract] at c37b20))
                                (try (have c37b21 := c37b1; simp only [ByteArray.size_extract] at c37b21))
                                (try (have c37b40 := c37b0; simp only [ByteArray.size_extract, Nat.min_self] at c37b40))
                                (try (have c37b41 := c37b1; simp only [ByteArray.size_extract, Nat.min_self] at c37b41))
                                clear c37
                                by_cases c38 : 1 + (gz1.extract (x7_2 : Int).toNat gz1.size).size ≤ 9223372036854775807
                                · rw [if_pos c38] at H
                                  have c38b0 := eq_true c38
                                  have c38b1 : decide (1 + (gz1.extract (x7_2 : Int).toNat gz1.size).size ≤ 9223372036854775807) = true := decide_eq_true c38
                                  (try (have c38b20 := c38b0; simp only [ByteArray.size_extract] at c38b20))
                                  (try (have c38b21 := c38b1; simp only [ByteArray.size_extract] at c38b21))
                                  (try (have c38b40 := c38b0; simp only [ByteArray.size_extract, Nat.min_self] at c38b40))
                                  (try (have c38b41 := c38b1; simp only [ByteArray.size_extract, Nat.min_self] at c38b41))
                                  try have c38b2 : (9223372036854775807 < 1 + (gz1.extract (x7_2 : Int).toNat gz1.size).size) = False := eq_false (Nat.not_lt.2 c38)
                                  (try (have c38b42 := c38b2; simp only [ByteArray.size_extract, Nat.min_self] at c38b42))
                                  have H' := Aside0.mk H
                                  clear H
                                  have p15 : 0 ≤ (x7_2 : Int) := of_decide_eq_true (by first | (with_reducible assumption) | assumption)
                                  have q15 : x7_2 < (gz1.size : Int) := of_decide_eq_true (by first | (with_reducible assumption) | assumption)
                                  (try (have q15b := q15; simp only [ByteArray.size_extract] at q15b; replace q15b := eq_true q15b))
                                  (try (have q15m := q15; simp only [ByteArray.size_extract, Nat.min_self] at q15m; replace q15m := eq_true q15m))
                                  have hx15 := bt_at gz1 x7_2
                                  replace p15 := eq_true p15
                                  replace q15 := eq_true q15
                                  have p27 : 0 ≤ (x7_2 : Int) := of_decide_eq_true (by first | (with_reducible assumption) | assumption)
                                  have q27 : x7_2 < (gz1.size : Int) := of_decide_eq_true (by first | (with_reducible assumption) | assumption)
                                  (try (have q27b := q27; simp only [ByteArray.size_extract] at q27b; replace q27b := eq_true q27b))
                                  (try (have q27m := q27; simp only [ByteArray.size_extract, Nat.min_self] at q27m; replace q27m := eq_true q27m))
                                  have hx27 := bt_at gz1 x7_2
                                  replace p27 := eq_true p27
                                  replace q27 := eq_true q27
                                  have p36 : 0 ≤ (0 : Int) := (by omega)
                                  have q36 : 0 < (gz1.extract (x7_2 : Int).toNat gz1.size).size := (by have : (0 : Int) < ((gz1.extract (x7_2 : Int).toNat gz1.size).size : Int) := of_decide_eq_true (by first | (with_reducible assumption) | assumption); omega)
                                  (try (have q36b := q36; simp only [ByteArray.size_extract] at q36b; replace q36b := eq_true q36b))
                                  (try (have q36m := q36; simp only [ByteArray.size_extract, Nat.min_self] at q36m; replace q36m := eq_true q36m))
                                  have hx36 : ∀ h : 0 < (gz1.extract (x7_2 : Int).toNat gz1.size).size, (((gz1.extract (x7_2 : Int).toNat gz1.size)[0]'h).toNat : Int) = bt (gz1.extract (x7_2 : Int).toNat gz1.size) 0 := bt_at (gz1.extract (x7_2 : Int).toNat gz1.size) 0
                                  clear p36
                                  have qi36 : (0 < ((gz1.extract (x7_2 : Int).toNat gz1.size).size : Int)) = True := eq_true (of_decide_eq_true (by first | (with_reducible assumption) | assumption))
                                  (try (have qi36b := qi36; simp only [ByteArray.size_extract] at qi36b; replace qi36b := eq_true qi36b))
                                  (try (have qi36m := qi36; simp only [ByteArray.size_extract, Nat.min_self] at qi36m; replace qi36m := eq_true qi36m))
                                  replace q36 := eq_true q36
                                  go_wp2
                                  go_meet
                                  case rel => exact ⟨_, ((⟨#[47]⟩ : ByteArray) ++ (gz1.extract (x7_2 : Int).toNat gz1.size)), (gz1.extract 0 (x7_2 : Int).toNat), (by first | rfl | (simp; done) | (simp [*]; done) | (simp; exact Hand.isEmpty_ne _)), (by first | rfl | (simp; done) | (simp [*]; done) | (simp; exact Hand.isEmpty_ne _)), H', ⟨by have := HJ2.out; have := HK2.out; first | omega | exact Nat.le_refl _⟩, ⟨by (with_reducible repeat (first | refine blk_drewN ?_ _ | refine blk_drew ?_ | refine blk_alloc ?_ _)); exact BK230.out⟩, ⟨by repeat (first | (with_reducible first | exact HB.out | apply below_alloc | apply pw_below_drewN | apply below_drew1 | refine below_set ?_ GE230.out) | exact HB.out)⟩⟩
                                · rw [if_neg c38] at H
                                  exact absurd H (by simp)
                              · rw [if_neg c37] at H
                                have c37b0 : ((bt (gz1.extract (x7_2 : Int).toNat gz1.size) 0) == 63) = false := beq_eq_false_iff_ne.mpr c37
                                have c37b1 : ((bt (gz1.extract (x7_2 : Int).toNat gz1.size) 0) != 63) = true := bne_iff_ne.mpr c37
                                (try (have c37b20 := c37b0; simp only [ByteArray.size_extract] at c37b20))
                                (try (have c37b21 := c37b1; simp only [ByteArray.size_extract] at c37b21))
                                (try (have c37b40 := c37b0; simp only [ByteArray.size_extract, Nat.min_self] at c37b40))
                                (try (have c37b41 := c37b1; simp only [ByteArray.size_extract, Nat.min_self] at c37b41))
                                have H' := Aside0.mk H
                                clear H
                                have p15 : 0 ≤ (x7_2 : Int) := of_decide_eq_true (by first | (with_reducible assumption) | assumption)
                                have q15 : x7_2 < (gz1.size : Int) := of_decide_eq_true (by first | (with_reducible assumption) | assumption)
                                (try (have q15b := q15; simp only [ByteArray.size_extract] at q15b; replace q15b := eq_true q15b))
                                (try (have q15m := q15; simp only [ByteArray.size_extract, Nat.min_self] at q15m; replace q15m := eq_true q15m))
                                have hx15 := bt_at gz1 x7_2
                                replace p15 := eq_true p15
                                replace q15 := eq_true q15
                                have p27 : 0 ≤ (x7_2 : Int) := of_decide_eq_true (by first | (with_reducible assumption) | assumption)
                                have q27 : x7_2 < (gz1.size : Int) := of_decide_eq_true (by first | (with_reducible assumption) | assumption)
                                (try (have q27b := q27; simp only [ByteArray.size_extract] at q27b; replace q27b := eq_true q27b))
                                (try (have q27m := q27; simp only [ByteArray.size_extract, Nat.min_self] at q27m; replace q27m := eq_true q27m))
                                have hx27 := bt_at gz1 x7_2
                                replace p27 := eq_true p27
                                replace q27 := eq_true q27
                                have p36 : 0 ≤ (0 : Int) := (by omega)
                                have q36 : 0 < (gz1.extract (x7_2 : Int).toNat gz1.size).size := (by have : (0 : Int) < ((gz1.extract (x7_2 : Int).toNat gz1.size).size : Int) := of_decide_eq_true (by first | (with_reducible assumption) | assumption); omega)
                                (try (have q36b := q36; simp only [ByteArray.size_extract] at q36b; replace q36b := eq_true q36b))
                                (try (have q36m := q36; simp only [ByteArray.size_extract, Nat.min_self] at q36m; replace q36m := eq_true q36m))
                                have hx36 : ∀ h : 0 < (gz1.extract (x7_2 : Int).toNat gz1.size).size, (((gz1.extract (x7_2 : Int).toNat gz1.size)[0]'h).toNat : Int) = bt (gz1.extract (x7_2 : Int).toNat gz1.size) 0 := bt_at (gz1.extract (x7_2 : Int).toNat gz1.size) 0
                                clear p36
                                have qi36 : (0 < ((gz1.extract (x7_2 : Int).toNat gz1.size).size : Int)) = True := eq_true (of_decide_eq_true (by first | (with_reducible assumption) | assumption))
                                (try (have qi36b := qi36; simp only [ByteArray.size_extract] at qi36b; replace qi36b := eq_true qi36b))
                                (try (have qi36m := qi36; simp only [ByteArray.size_extract, Nat.min_self] at qi36m; replace qi36m := eq_true qi36m))
                                replace q36 := eq_true q36
                                go_wp2
                                go_meet
                                case rel => exact ⟨_, (gz1.extract (x7_2 : Int).toNat gz1.size), (gz1.extract 0 (x7_2 : Int).toNat), (by first | rfl | (simp; done) | (simp [*]; done) | (simp; exact Hand.isEmpty_ne _)), (by first | rfl | (simp; done) | (simp [*]; done) | (simp; exact Hand.isEmpty_ne _)), H', ⟨by have := HJ2.out; have := HK2.out; first | omega | exact Nat.le_refl _⟩, ⟨by (with_reducible repeat (first | refine blk_drewN ?_ _ | refine blk_drew ?_ | refine blk_alloc ?_ _)); exact BK230.out⟩, ⟨by repeat (first | (with_reducible first | exact HB.out | apply below_alloc | apply pw_below_drewN | apply below_drew1 | refine below_set ?_ GE230.out) | exact HB.out)⟩⟩
                            · rw [if_neg c35] at H
                              exact absurd H (by simp)
                        · rw [if_neg c30] at H
                          exact absurd H (by simp)
                      · rw [if_neg c28] at H
                        have c28b0 : ((bt gz1 x7_2) == 63) = false := beq_eq_false_iff_ne.mpr c28
                        have c28b1 : ((bt gz1 x7_2) != 63) = true := bne_iff_ne.mpr c28
                        (try (have c28b20 := c28b0; simp only [ByteArray.size_extract] at c28b20))
                        (try (have c28b21 := c28b1; simp only [ByteArray.size_extract] at c28b21))
                        (try (have c28b40 := c28b0; simp only [ByteArray.size_extract, Nat.min_self] at c28b40))
                        (try (have c28b41 := c28b1; simp only [ByteArray.size_extract, Nat.min_self] at c28b41))
                        have H' := Aside0.mk H
                        clear H
                        have p15 : 0 ≤ (x7_2 : Int) := of_decide_eq_true (by first | (with_reducible assumption) | assumption)
                        have q15 : x7_2 < (gz1.size : Int) := of_decide_eq_true (by first | (with_reducible assumption) | assumption)
                        (try (have q15b := q15; simp only [ByteArray.size_extract] at q15b; replace q15b := eq_true q15b))
                        (try (have q15m := q15; simp only [ByteArray.size_extract, Nat.min_self] at q15m; replace q15m := eq_true q15m))
                        have hx15 := bt_at gz1 x7_2
                        replace p15 := eq_true p15
                        replace q15 := eq_true q15
                        have p27 : 0 ≤ (x7_2 : Int) := of_decide_eq_true (by first | (with_reducible assumption) | assumption)
                        have q27 : x7_2 < (gz1.size : Int) := of_decide_eq_true (by first | (with_reducible assumption) | assumption)
                        (try (have q27b := q27; simp only [ByteArray.size_extract] at q27b; replace q27b := eq_true q27b))
                        (try (have q27m := q27; simp only [ByteArray.size_extract, Nat.min_self] at q27m; replace q27m := eq_true q27m))
                        have hx27 := bt_at gz1 x7_2
                        replace p27 := eq_true p27
                        replace q27 := eq_true q27
                        go_wp2
                        go_roundg k2
                        case measure => have := HJ2.out; have := HK2.out; omega
                        case rel => exact ⟨(wrap64 (x7_2 + 1)), (by first | rfl | (simp; done) | (simp [*]; done) | (simp; exact Hand.isEmpty_ne _)), H', ⟨by have := HJ2.out; have := HK2.out; omega⟩, ⟨by (with_reducible repeat (first | refine blk_drewN ?_ _ | refine blk_drew ?_ | refine blk_alloc ?_ _)); exact BK230.out⟩, ⟨by repeat (first | (with_reducible first | exact HB.out | apply below_alloc | apply pw_below_drewN | apply below_drew1 | refine below_set ?_ GE230.out) | exact HB.out)⟩⟩
                  · rw [if_neg c14] at H
                    exact absurd H (by simp)
                · rw [if_neg c13] at H
                  have c13b0 : decide (x7_2 < (gz1.size : Int)) = false := decide_eq_false c13
                  (try (have c13b20 := c13b0; simp only [ByteArray.size_extract] at c13b20))
                  (try (have c13b21 := c13b1; simp only [ByteArray.size_extract] at c13b21))
                  (try (have c13b40 := c13b0; simp only [ByteArray.size_extract, Nat.min_self] at c13b40))
                  (try (have c13b41 := c13b1; simp only [ByteArray.size_extract, Nat.min_self] at c13b41))
                  clear c13
                  (first | rw [c13b0] | (simp only [i64_w, i32_w]; rw [c13b0]) | skip)
                  by_cases c39 : 0 ≤ x7_2
                  · rw [if_pos c39] at H
                    have c39b0 := eq_true c39
                    have c39b1 : decide (0 ≤ x7_2) = true := decide_eq_true c39
                    clear c39
                    by_cases c40 : x7_2 ≤ (gz1.size : Int)
                    · rw [if_pos c40] at H
                      have c40b0 := eq_true c40
                      have c40b1 : decide (x7_2 ≤ (gz1.size : Int)) = true := decide_eq_true c40
                      (try (have c40b20 := c40b0; simp only [ByteArray.size_extract] at c40b20))
                      (try (have c40b21 := c40b1; simp only [ByteArray.size_extract] at c40b21))
                      (try (have c40b40 := c40b0; simp only [ByteArray.size_extract, Nat.min_self] at c40b40))
                      (try (have c40b41 := c40b1; simp only [ByteArray.size_extract, Nat.min_self] at c40b41))
                      clear c40
                      have c41b0 := eq_true (of_decide_eq_true (by first | (with_reducible assumption) | assumption) : 0 ≤ x7_2)
                      have c42b0 := eq_true (of_decide_eq_true (by first | (with_reducible assumption) | assumption) : x7_2 ≤ (gz1.size : Int))
                      by_cases c43 : (gz1.extract (x7_2 : Int).toNat gz1.size).toList = ([] : List UInt8)
                      · rw [if_pos c43] at H
                        have c43b0 : ((gz1.extract (x7_2 : Int).toNat gz1.size).toList == ([] : List UInt8)) = true := beq_iff_eq.mpr c43
                        have c43b1 : ((gz1.extract (x7_2 : Int).toNat gz1.size).toList != ([] : List UInt8)) = false := bne_eq_false_iff_eq.mpr c43
                        (try (have c43b20 := c43b0; simp only [ByteArray.size_extract] at c43b20))
                        (try (have c43b21 := c43b1; simp only [ByteArray.size_extract] at c43b21))
                        (try (have c43b40 := c43b0; simp only [ByteArray.size_extract, Nat.min_self] at c43b40))
                        (try (have c43b41 := c43b1; simp only [ByteArray.size_extract, Nat.min_self] at c43b41))
                        clear c43
                        by_cases c44 : 1 + (gz1.extract (x7_2 : Int).toNat gz1.size).size ≤ 9223372036854775807
                        · rw [if_pos c44] at H
                          have c44b0 := eq_true c44
                          have c44b1 : decide (1 + (gz1.extract (x7_2 : Int).toNat gz1.size).size ≤ 9223372036854775807) = true := decide_eq_true c44
                          (try (have c44b20 := c44b0; simp only [ByteArray.size_extract] at c44b20))
                          (try (have c44b21 := c44b1; simp only [ByteArray.size_extract] at c44b21))
                          (try (have c44b40 := c44b0; simp only [ByteArray.size_extract, Nat.min_self] at c44b40))
                          (try (have c44b41 := c44b1; simp only [ByteArray.size_extract, Nat.min_self] at c44b41))
                          try have c44b2 : (9223372036854775807 < 1 + (gz1.extract (x7_2 : Int).toNat gz1.size).size) = False := eq_false (Nat.not_lt.2 c44)
                          (try (have c44b42 := c44b2; simp only [ByteArray.size_extract, Nat.min_self] at c44b42))
                          have H' := Aside0.mk H
                          clear H
                          go_wp2
                          go_meet
                          case rel => exact ⟨_, ((⟨#[47]⟩ : ByteArray) ++ (gz1.extract (x7_2 : Int).toNat gz1.size)), (gz1.extract 0 (x7_2 : Int).toNat), (by first | rfl | (simp; done) | (simp [*]; done) | (simp; exact Hand.isEmpty_ne _)), (by first | rfl | (simp; done) | (simp [*]; done) | (simp; exact Hand.isEmpty_ne _)), H', ⟨by have := HJ2.out; have := HK2.out; first | omega | exact Nat.le_refl _⟩, ⟨by (with_reducible repeat (first | refine blk_drewN ?_ _ | refine blk_drew ?_ | refine blk_alloc ?_ _)); exact BK230.out⟩, ⟨by repeat (first | (with_reducible first | exact HB.out | apply below_alloc | apply pw_below_drewN | apply below_drew1 | refine below_set ?_ GE230.out) | exact HB.out)⟩⟩
                        · rw [if_neg c44] at H
                          exact absurd H (by simp)
                      · rw [if_neg c43] at H
                        have c43b0 : ((gz1.extract (x7_2 : Int).toNat gz1.size).toList == ([] : List UInt8)) = false := beq_eq_false_iff_ne.mpr c43
                        have c43b1 : ((gz1.extract (x7_2 : Int).toNat gz1.size).toList != ([] : List UInt8)) = true := bne_iff_ne.mpr c43
                        (try (have c43b20 := c43b0; simp only [ByteArray.size_extract] at c43b20))
                        (try (have c43b21 := c43b1; simp only [ByteArray.size_extract] at c43b21))
                        (try (have c43b40 := c43b0; simp only [ByteArray.size_extract, Nat.min_self] at c43b40))
                        (try (have c43b41 := c43b1; simp only [ByteArray.size_extract, Nat.min_self] at c43b41))
                        by_cases c45 : 0 < ((gz1.extract (x7_2 : Int).toNat gz1.size).size : Int)
                        · rw [if_pos c45] at H
                          have c45b0 : decide (0 < ((gz1.extract (x7_2 : Int).toNat gz1.size).size : Int)) = true := decide_eq_true c45
                          have c45b1 : decide (0 < (gz1.extract (x7_2 : Int).toNat gz1.size).size) = true := decide_eq_true (by omega)
                          (try (have c45b20 := c45b0; simp only [ByteArray.size_extract] at c45b20))
                          (try (have c45b21 := c45b1; simp only [ByteArray.size_extract] at c45b21))
                          (try (have c45b40 := c45b0; simp only [ByteArray.size_extract, Nat.min_self] at c45b40))
                          (try (have c45b41 := c45b1; simp only [ByteArray.size_extract, Nat.min_self] at c45b41))
                          clear c45
                          by_cases c47 : (bt (gz1.extract (x7_2 : Int).toNat gz1.size) 0) = 63
                          · rw [if_pos c47] at H
                            have c47b0 : ((bt (gz1.extract (x7_2 : Int).toNat gz1.size) 0) == 63) = true := beq_iff_eq.mpr c47
                            have c47b1 : ((bt (gz1.extract (x7_2 : Int).toNat gz1.size) 0) != 63) = false := bne_eq_false_iff_eq.mpr c47
                            (try (have c47b20 := c47b0; simp only [ByteArray.size_extract] at c47b20))
                            (try (have c47b21 := c47b1; simp only [ByteArray.size_extract] at c47b21))
                            (try (have c47b40 := c47b0; simp only [ByteArray.size_extract, Nat.min_self] at c47b40))
                            (try (have c47b41 := c47b1; simp only [ByteArray.size_extract, Nat.min_self] at c47b41))
                            clear c47
                            by_cases c48 : 1 + (gz1.extract (x7_2 : Int).toNat gz1.size).size ≤ 9223372036854775807
                            · rw [if_pos c48] at H
                              have c48b0 := eq_true c48
                              have c48b1 : decide (1 + (gz1.extract (x7_2 : Int).toNat gz1.size).size ≤ 9223372036854775807) = true := decide_eq_true c48
                              (try (have c48b20 := c48b0; simp only [ByteArray.size_extract] at c48b20))
                              (try (have c48b21 := c48b1; simp only [ByteArray.size_extract] at c48b21))
                              (try (have c48b40 := c48b0; simp only [ByteArray.size_extract, Nat.min_self] at c48b40))
                              (try (have c48b41 := c48b1; simp only [ByteArray.size_extract, Nat.min_self] at c48b41))
                              try have c48b2 : (9223372036854775807 < 1 + (gz1.extract (x7_2 : Int).toNat gz1.size).size) = False := eq_false (Nat.not_lt.2 c48)
                              (try (have c48b42 := c48b2; simp only [ByteArray.size_extract, Nat.min_self] at c48b42))
                              have H' := Aside0.mk H
                              clear H
                              have p46 : 0 ≤ (0 : Int) := (by omega)
                              have q46 : 0 < (gz1.extract (x7_2 : Int).toNat gz1.size).size := (by have : (0 : Int) < ((gz1.extract (x7_2 : Int).toNat gz1.size).size : Int) := of_decide_eq_true (by first | (with_reducible assumption) | assumption); omega)
                              (try (have q46b := q46; simp only [ByteArray.size_extract] at q46b; replace q46b := eq_true q46b))
                              (try (have q46m := q46; simp only [ByteArray.size_extract, Nat.min_self] at q46m; replace q46m := eq_true q46m))
                              have hx46 : ∀ h : 0 < (gz1.extract (x7_2 : Int).toNat gz1.size).size, (((gz1.extract (x7_2 : Int).toNat gz1.size)[0]'h).toNat : Int) = bt (gz1.extract (x7_2 : Int).toNat gz1.size) 0 := bt_at (gz1.extract (x7_2 : Int).toNat gz1.size) 0
                              clear p46
                              have qi46 : (0 < ((gz1.extract (x7_2 : Int).toNat gz1.size).size : Int)) = True := eq_true (of_decide_eq_true (by first | (with_reducible assumption) | assumption))
                              (try (have qi46b := qi46; simp only [ByteArray.size_extract] at qi46b; replace qi46b := eq_true qi46b))
                              (try (have qi46m := qi46; simp only [ByteArray.size_extract, Nat.min_self] at qi46m; replace qi46m := eq_true qi46m))
                              replace q46 := eq_true q46
                              go_wp2
                              go_meet
                              case rel => exact ⟨_, ((⟨#[47]⟩ : ByteArray) ++ (gz1.extract (x7_2 : Int).toNat gz1.size)), (gz1.extract 0 (x7_2 : Int).toNat), (by first | rfl | (simp; done) | (simp [*]; done) | (simp; exact Hand.isEmpty_ne _)), (by first | rfl | (simp; done) | (simp [*]; done) | (simp; exact Hand.isEmpty_ne _)), H', ⟨by have := HJ2.out; have := HK2.out; first | omega | exact Nat.le_refl _⟩, ⟨by (with_reducible repeat (first | refine blk_drewN ?_ _ | refine blk_drew ?_ | refine blk_alloc ?_ _)); exact BK230.out⟩, ⟨by repeat (first | (with_reducible first | exact HB.out | apply below_alloc | apply pw_below_drewN | apply below_drew1 | refine below_set ?_ GE230.out) | exact HB.out)⟩⟩
                            · rw [if_neg c48] at H
                              exact absurd H (by simp)
                          · rw [if_neg c47] at H
                            have c47b0 : ((bt (gz1.extract (x7_2 : Int).toNat gz1.size) 0) == 63) = false := beq_eq_false_iff_ne.mpr c47
                            have c47b1 : ((bt (gz1.extract (x7_2 : Int).toNat gz1.size) 0) != 63) = true := bne_iff_ne.mpr c47
                            (try (have c47b20 := c47b0; simp only [ByteArray.size_extract] at c47b20))
                            (try (have c47b21 := c47b1; simp only [ByteArray.size_extract] at c47b21))
                            (try (have c47b40 := c47b0; simp only [ByteArray.size_extract, Nat.min_self] at c47b40))
                            (try (have c47b41 := c47b1; simp only [ByteArray.size_extract, Nat.min_self] at c47b41))
                            have H' := Aside0.mk H
                            clear H
                            have p46 : 0 ≤ (0 : Int) := (by omega)
                            have q46 : 0 < (gz1.extract (x7_2 : Int).toNat gz1.size).size := (by have : (0 : Int) < ((gz1.extract (x7_2 : Int).toNat gz1.size).size : Int) := of_decide_eq_true (by first | (with_reducible assumption) | assumption); omega)
                            (try (have q46b := q46; simp only [ByteArray.size_extract] at q46b; replace q46b := eq_true q46b))
                            (try (have q46m := q46; simp only [ByteArray.size_extract, Nat.min_self] at q46m; replace q46m := eq_true q46m))
                            have hx46 : ∀ h : 0 < (gz1.extract (x7_2 : Int).toNat gz1.size).size, (((gz1.extract (x7_2 : Int).toNat gz1.size)[0]'h).toNat : Int) = bt (gz1.extract (x7_2 : Int).toNat gz1.size) 0 := bt_at (gz1.extract (x7_2 : Int).toNat gz1.size) 0
                            clear p46
                            have qi46 : (0 < ((gz1.extract (x7_2 : Int).toNat gz1.size).size : Int)) = True := eq_true (of_decide_eq_true (by first | (with_reducible assumption) | assumption))
                            (try (have qi46b := qi46; simp only [ByteArray.size_extract] at qi46b; replace qi46b := eq_true qi46b))
                            (try (have qi46m := qi46; simp only [ByteArray.size_extract, Nat.min_self] at qi46m; replace qi46m := eq_true qi46m))
                            replace q46 := eq_true q46
                            go_wp2
                            go_meet
                            case rel => exact ⟨_, (gz1.extract (x7_2 : Int).toNat gz1.size), (gz1.extract 0 (x7_2 : Int).toNat), (by first | rfl | (simp; done) | (simp [*]; done) | (simp; exact Hand.isEmpty_ne _)), (by first | rfl | (simp; done) | (simp [*]; done) | (simp; exact Hand.isEmpty_ne _)), H', ⟨by have := HJ2.out; have := HK2.out; first | omega | exact Nat.le_refl _⟩, ⟨by (with_reducible repeat (first | refine blk_drewN ?_ _ | refine blk_drew ?_ | refine blk_alloc ?_ _)); exact BK230.out⟩, ⟨by repeat (first | (with_reducible first | exact HB.out | apply below_alloc | apply pw_below_drewN | apply below_drew1 | refine below_set ?_ GE230.out) | exact HB.out)⟩⟩
                        · rw [if_neg c45] at H
                          exact absurd H (by simp)
                    · rw [if_neg c40] at H
                      exact absurd H (by simp)
                  · rw [if_neg c39] at H
                    exact absurd H (by simp)
          · rw [if_neg c12] at H
            exact absurd H (by simp)
        · replace c11 := Bool.eq_false_iff.mpr c11
          subst c11
          have H1 : (depotref08_Parse.j2 kj2 a0 a1) = some (r1, r2, r3, r4) := by rw [if_neg (show ¬ (false = true) by decide)] at H; exact H
          clear H
          have H := H1
          clear H1
          have H' := Aside0.mk H
          clear H
          go_wp2
          go_meet
          case rel => exact ⟨_, (a0), (a1), (by first | rfl | (simp; done) | (simp [*]; done) | (simp; exact Hand.isEmpty_ne _)), (by first | rfl | (simp; done) | (simp [*]; done) | (simp; exact Hand.isEmpty_ne _)), H', ⟨by have := HJ2.out; first | omega | exact Nat.le_refl _⟩, ⟨by (with_reducible repeat (first | refine blk_drewN ?_ _ | refine blk_drew ?_ | refine blk_alloc ?_ _)); exact BK230.out⟩, ⟨by repeat (first | (with_reducible first | exact HB.out | apply below_alloc | apply pw_below_drewN | apply below_drew1 | refine below_set ?_ GE230.out) | exact HB.out)⟩⟩
      case rest => as_aux_lemma =>
        clear HC10
        try clear c1
        try clear p1
        try clear q1
        try clear hx1
        try clear c2
        try clear p2
        try clear q2
        try clear hx2
        try clear qi2
        try clear c3
        try clear p3
        try clear q3
        try clear hx3
        try clear qi3
        try clear c4
        try clear p4
        try clear q4
        try clear hx4
        try clear qi4
        try clear c5
        try clear c5b0
        try clear c5b1
        try clear c6
        try clear c6b0
        try clear c6b1
        try clear p6
        try clear c7
        try clear c7b0
        try clear c7b1
        try clear c11
        try clear c12
        try clear c12b0
        try clear c12b1
        try clear c13
        try clear c13b0
        try clear c13b1
        try clear c13b2
        try clear c14
        try clear c14b0
        try clear p15
        try clear q15
        try clear hx15
        try clear c16
        try clear c16b0
        try clear c16b1
        try clear c16b2
        try clear c17
        try clear c17b0
        try clear c18
        try clear c18b0
        try clear c18b1
        try clear c18b2
        try clear c19
        try clear c19b0
        try clear c20
        try clear c20b0
        try clear c21
        try clear c21b0
        try clear c21b1
        try clear c21b2
        try clear c22
        try clear c22b0
        try clear c22b1
        try clear c22b2
        try clear c23
        try clear c23b0
        try clear c23b1
        try clear c23b2
        try clear p24
        try clear q24
        try clear hx24
        try clear qi24
        try clear c25
        try clear c25b0
        try clear c25b1
        try clear c25b2
        try clear c26
        try clear c26b0
        try clear c26b1
        try clear c26b2
        try clear p27
        try clear q27
        try clear hx27
        try clear c28
        try clear c28b0
        try clear c28b1
        try clear c28b2
        try clear c29
        try clear c29b0
        try clear c30
        try clear c30b0
        try clear c30b1
        try clear c30b2
        try clear c31
        try clear c31b0
        try clear c32
        try clear c32b0
        try clear c33
        try clear c33b0
        try clear c33b1
        try clear c33b2
        try clear c34
        try clear c34b0
        try clear c34b1
        try clear c34b2
        try clear c35
        try clear c35b0
        try clear c35b1
        try clear c35b2
        try clear p36
        try clear q36
        try clear hx36
        try clear qi36
        try clear c37
        try clear c37b0
        try clear c37b1
        try clear c37b2
        try clear c38
        try clear c38b0
        try clear c38b1
        try clear c38b2
        try clear c39
        try clear c39b0
        try clear c39b1
        try clear c40
        try clear c40b0
        try clear c40b1
        try clear c40b2
        try clear c41
        try clear c41b0
        try clear c42
        try clear c42b0
        try clear c43
        try clear c43b0
        try clear c43b1
        try clear c43b2
        try clear c44
        try clear c44b0
        try clear c44b1
        try clear c44b2
        try clear c45
        try clear c45b0
        try clear c45b1
        try clear c45b2
        try clear p46
        try clear q46
        try clear hx46
        try clear qi46
        try clear c47
        try clear c47b0
        try clear c47b1
        try clear c47b2
        try clear c48
        try clear c48b0
        try clear c48b1
        try clear c48b2
        try clear p15
        try clear p2
        try clear p24
        try clear p27
        try clear p36
        try clear p46
        try clear q15
        try clear q24
        try clear q27
        try clear q36
        try clear q46
        obtain ⟨kq, x0_9, x1_9, rfl, rfl, HA, HJ9, BK230, HB⟩ := hcut
        cases kq with
        | zero => exact absurd HA.out (by simp [depotref08_Parse.j2])
        | succ kj9 =>
          have H := HA.out
          clear HA
          simp only [depotref08_Parse.j2] at H
          have HC49 := Aside0.mk H
          clear H
          go_upto_region 10 with (fail)
          go_cut [63] (fun v63 wc => ∃ (kq : Nat) (x63_48 : Bool), v63 = .bool x63_48 ∧ Aside0 (depotref08_Parse.j3 kq x0_9 x1_9 x63_48 = some (r1, r2, r3, r4)) ∧ Aside0 (kq ≤ kj9) ∧ Aside0 (wc.heap[gb230]? = some (.cells #[.string (⟨#[]⟩ : ByteArray), .int .i64 0, .string (⟨#[]⟩ : ByteArray)] 34 (0, 0))) ∧ Aside0 (Below w.heap.size w wc))
          case first => as_aux_lemma =>
            have H := HC49.out
            clear HC49
            by_cases c50 : x0_9.toList = ([] : List UInt8)
            · rw [if_pos c50] at H
              have c50b0 : (x0_9.toList == ([] : List UInt8)) = true := beq_iff_eq.mpr c50
              have c50b1 : (x0_9.toList != ([] : List UInt8)) = false := bne_eq_false_iff_eq.mpr c50
              clear c50
              (first | rw [c50b0] | (simp only [i64_w, i32_w]; rw [c50b0]) | skip)
              have H' := Aside0.mk H
              clear H
              go_wp2
              go_meet
              case rel => exact ⟨_, (true), (by first | rfl | (simp; done) | (simp [*]; done) | (simp; exact Hand.isEmpty_ne _)), H', ⟨by have := HJ2.out; have := HJ9.out; first | omega | exact Nat.le_refl _⟩, ⟨by (with_reducible repeat (first | refine blk_drewN ?_ _ | refine blk_drew ?_ | refine blk_alloc ?_ _)); exact BK230.out⟩, ⟨by repeat (first | (with_reducible first | exact HB.out | apply below_alloc | apply pw_below_drewN | apply below_drew1 | refine below_set ?_ GE230.out) | exact HB.out)⟩⟩
            · rw [if_neg c50] at H
              have c50b0 : (x0_9.toList == ([] : List UInt8)) = false := beq_eq_false_iff_ne.mpr c50
              have c50b1 : (x0_9.toList != ([] : List UInt8)) = true := bne_iff_ne.mpr c50
              (first | rw [c50b0] | (simp only [i64_w, i32_w]; rw [c50b0]) | skip)
              by_cases c51 : 0 < (x0_9.size : Int)
              · rw [if_pos c51] at H
                have c51b0 : decide (0 < (x0_9.size : Int)) = true := decide_eq_true c51
                have c51b1 : decide (0 < x0_9.size) = true := decide_eq_true (by omega)
                clear c51
                have H' := Aside0.mk H
                clear H
                have p52 : 0 ≤ (0 : Int) := (by omega)
                have q52 : 0 < x0_9.size := (by have : (0 : Int) < (x0_9.size : Int) := of_decide_eq_true (by first | (with_reducible assumption) | assumption); omega)
                have hx52 : ∀ h : 0 < x0_9.size, ((x0_9[0]'h).toNat : Int) = bt x0_9 0 := bt_at x0_9 0
                clear p52
                have qi52 : (0 < (x0_9.size : Int)) = True := eq_true (of_decide_eq_true (by first | (with_reducible assumption) | assumption))
                replace q52 := eq_true q52
                go_wp2
                go_meet
                case rel => exact ⟨_, (((bt x0_9 0) != 47)), (by first | rfl | (simp; done) | (simp [*]; done) | (simp; exact Hand.isEmpty_ne _)), H', ⟨by have := HJ2.out; have := HJ9.out; first | omega | exact Nat.le_refl _⟩, ⟨by (with_reducible repeat (first | refine blk_drewN ?_ _ | refine blk_drew ?_ | refine blk_alloc ?_ _)); exact BK230.out⟩, ⟨by repeat (first | (with_reducible first | exact HB.out | apply below_alloc | apply pw_below_drewN | apply below_drew1 | refine below_set ?_ GE230.out) | exact HB.out)⟩⟩
              · rw [if_neg c51] at H
                exact absurd H (by simp)
          case rest => as_aux_lemma =>
            clear HC49
            try clear c1
            try clear p1
            try clear q1
            try clear hx1
            try clear c2
            try clear p2
            try clear q2
            try clear hx2
            try clear qi2
            try clear c3
            try clear p3
            try clear q3
            try clear hx3
            try clear qi3
            try clear c4
            try clear p4
            try clear q4
            try clear hx4
            try clear qi4
            try clear c5
            try clear c5b0
            try clear c5b1
            try clear p5
            try clear q5
            try clear hx5
            try clear qi5
            try clear c6
            try clear c6b0
            try clear c6b1
            try clear p6
            try clear c7
            try clear c7b0
            try clear c7b1
            try clear c11
            try clear c12
            try clear c12b0
            try clear c12b1
            try clear c13
            try clear c13b0
            try clear c13b1
            try clear c13b2
            try clear c14
            try clear c14b0
            try clear p15
            try clear q15
            try clear hx15
            try clear c16
            try clear c16b0
            try clear c16b1
            try clear c16b2
            try clear c17
            try clear c17b0
            try clear c18
            try clear c18b0
            try clear c18b1
            try clear c18b2
            try clear c19
            try clear c19b0
            try clear c20
            try clear c20b0
            try clear c21
            try clear c21b0
            try clear c21b1
            try clear c21b2
            try clear c22
            try clear c22b0
            try clear c22b1
            try clear c22b2
            try clear c23
            try clear c23b0
            try clear c23b1
            try clear c23b2
            try clear p24
            try clear q24
            try clear hx24
            try clear qi24
            try clear c25
            try clear c25b0
            try clear c25b1
            try clear c25b2
            try clear c26
            try clear c26b0
            try clear c26b1
            try clear c26b2
            try clear p27
            try clear q27
            try clear hx27
            try clear c28
            try clear c28b0
            try clear c28b1
            try clear c28b2
            try clear c29
            try clear c29b0
            try clear c30
            try clear c30b0
            try clear c30b1
            try clear c30b2
            try clear c31
            try clear c31b0
            try clear c32
            try clear c32b0
            try clear c33
            try clear c33b0
            try clear c33b1
            try clear c33b2
            try clear c34
            try clear c34b0
            try clear c34b1
            try clear c34b2
            try clear c35
            try clear c35b0
            try clear c35b1
            try clear c35b2
            try clear p36
            try clear q36
            try clear hx36
            try clear qi36
            try clear c37
            try clear c37b0
            try clear c37b1
            try clear c37b2
            try clear c38
            try clear c38b0
            try clear c38b1
            try clear c38b2
            try clear c39
            try clear c39b0
            try clear c39b1
            try clear c40
            try clear c40b0
            try clear c40b1
            try clear c40b2
            try clear c41
            try clear c41b0
            try clear c42
            try clear c42b0
            try clear c43
            try clear c43b0
            try clear c43b1
            try clear c43b2
            try clear c44
            try clear c44b0
            try clear c44b1
            try clear c44b2
            try clear c45
            try clear c45b0
            try clear c45b1
            try clear c45b2
            try clear p46
            try clear q46
            try clear hx46
            try clear qi46
            try clear c47
            try clear c47b0
            try clear c47b1
            try clear c47b2
            try clear c48
            try clear c48b0
            try clear c48b1
            try clear c48b2
            try clear c50
            try clear c50b0
            try clear c50b1
            try clear c51
            try clear c51b0
            try clear c51b1
            try clear p52
            try clear q52
            try clear hx52
            try clear qi52
            try clear p1
            try clear p15
            try clear p2
            try clear p24
            try clear p27
            try clear p3
            try clear p36
            try clear p4
            try clear p46
            try clear p52
            try clear p6
            try clear q1
            try clear q15
            try clear q2
            try clear q24
            try clear q27
            try clear q3
            try clear q36
            try clear q4
            try clear q46
            try clear q52
            obtain ⟨kq, x63_48, rfl, HA, HJ48, BK230, HB⟩ := hcut
            cases kq with
            | zero => exact absurd HA.out (by simp [depotref08_Parse.j3])
            | succ kj48 =>
              have H := HA.out
              clear HA
              simp only [depotref08_Parse.j3] at H
              by_cases c53 : x63_48 = true
              · subst c53
                have H1 : (some ((⟨#[]⟩ : ByteArray), 0, (⟨#[]⟩ : ByteArray), 23)) = some (r1, r2, r3, r4) := by rw [if_pos rfl] at H; exact H
                clear H
                have H := H1
                clear H1
                simp only [Option.some.injEq, Prod.mk.injEq] at H
                obtain ⟨rfl, rfl, rfl, rfl⟩ := H
                have hcz54_0 : wc.cell? ⟨gb230, 0, none⟩ = some (.string (⟨#[]⟩ : ByteArray)) := (blk_cell BK230.out 0).trans rfl
                have hcz54_1 : wc.cell? ⟨gb230, 1, none⟩ = some (.int .i64 0) := (blk_cell BK230.out 1).trans rfl
                have hcz54_2 : wc.cell? ⟨gb230, 2, none⟩ = some (.string (⟨#[]⟩ : ByteArray)) := (blk_cell BK230.out 2).trans rfl
                have hfz54_0 := blk_frozen BK230.out 0
                have hfz54_1 := blk_frozen BK230.out 1
                have hfz54_2 := blk_frozen BK230.out 2
                go_wp2
                refine bodyPost_ret (results_ct rfl _ _ gb230 34 #[.string (⟨#[]⟩ : ByteArray), .int .i64 0, .string (⟨#[]⟩ : ByteArray)] (0, 0) _ rfl (by (with_reducible repeat (first | refine blk_drewN ?_ _ | refine blk_drew ?_ | refine blk_alloc ?_ _)); refine blk_put (cs := #[.string (⟨#[]⟩ : ByteArray), .int .i64 0, .string (⟨#[]⟩ : ByteArray)]) ?_ 2 _ rfl; (with_reducible repeat (first | refine blk_drewN ?_ _ | refine blk_drew ?_ | refine blk_alloc ?_ _)); refine blk_put (cs := #[.string (⟨#[]⟩ : ByteArray), .int .i64 0, .string (⟨#[]⟩ : ByteArray)]) ?_ 1 _ rfl; (with_reducible repeat (first | refine blk_drewN ?_ _ | refine blk_drew ?_ | refine blk_alloc ?_ _)); refine blk_put (cs := #[.string (⟨#[]⟩ : ByteArray), .int .i64 0, .string (⟨#[]⟩ : ByteArray)]) ?_ 0 _ rfl; (with_reducible repeat (first | refine blk_drewN ?_ _ | refine blk_drew ?_ | refine blk_alloc ?_ _)); exact BK230.out) Tryd.underlying34 rfl (by kernel_rfl)) rfl ?_
                exact ⟨by first | rfl | (simp [errW_none, errW_some] <;> rfl) | (simp [*, errW_none, errW_some] <;> rfl), by repeat (first | (with_reducible first | exact HB.out | apply below_alloc | apply pw_below_drewN | apply below_drew1 | refine below_set ?_ GE230.out) | exact HB.out)⟩
              · replace c53 := Bool.eq_false_iff.mpr c53
                subst c53
                have H1 : ((depotref08_Authority.f kj48 x1_9).bind fun bt232 => (if bt232.2.2 = 0 then ((depotref08_Path.f kj48 x0_9).bind fun bt235 => (if bt235.2 = 0 then (some (bt232.1, bt232.2.1, bt235.1, 0)) else (some ((⟨#[]⟩ : ByteArray), 0, (⟨#[]⟩ : ByteArray), bt235.2)))) else (some ((⟨#[]⟩ : ByteArray), 0, (⟨#[]⟩ : ByteArray), bt232.2.2)))) = some (r1, r2, r3, r4) := by rw [if_neg (show ¬ (false = true) by decide)] at H; exact H
                clear H
                have H := H1
                clear H1
                replace H := Option.bind_eq_some_iff.mp H
                obtain ⟨⟨t232, t233, t234⟩, A550, H⟩ := H
                replace H : (if t234 = 0 then ((depotref08_Path.f kj48 x0_9).bind fun bt235 => (if bt235.2 = 0 then (some (t232, t233, bt235.1, 0)) else (some ((⟨#[]⟩ : ByteArray), 0, (⟨#[]⟩ : ByteArray), bt235.2)))) else (some ((⟨#[]⟩ : ByteArray), 0, (⟨#[]⟩ : ByteArray), t234))) = some (r1, r2, r3, r4) := H
                have A55 := Aside0.mk A550
                clear A550
                by_cases c56 : t234 = 0
                · rw [if_pos c56] at H
                  have c56b0 : (t234 == 0) = true := beq_iff_eq.mpr c56
                  have c56b1 : (t234 != 0) = false := bne_eq_false_iff_eq.mpr c56
                  clear c56
                  replace H := Option.bind_eq_some_iff.mp H
                  obtain ⟨⟨t235, t236⟩, A570, H⟩ := H
                  replace H : (if t236 = 0 then (some (t232, t233, t235, 0)) else (some ((⟨#[]⟩ : ByteArray), 0, (⟨#[]⟩ : ByteArray), t236))) = some (r1, r2, r3, r4) := H
                  have A57 := Aside0.mk A570
                  clear A570
                  by_cases c58 : t236 = 0
                  · rw [if_pos c58] at H
                    have c58b0 : (t236 == 0) = true := beq_iff_eq.mpr c58
                    have c58b1 : (t236 != 0) = false := bne_eq_false_iff_eq.mpr c58
                    clear c58
                    simp only [Option.some.injEq, Prod.mk.injEq] at H
                    obtain ⟨rfl, rfl, rfl, rfl⟩ := H
                    go_wp2_with (first | ((with_reducible refine gate_callee (f := 12) rfl ?_); refine goesL_ (some 67) rfl rfl Tryd.func12 (by kernel_rfl) rfl #[.string x1_9] rfl (by (try simp only [List.map_toArray, List.map_cons, List.map_nil]); first | done | rfl | (simp only [List.length_drop, List.length_take]; rfl)) ?_; (with_reducible refine (depotref08_Authority.calls kj48 x1_9 t232 t233 t234 _ A55.out).mono ?_); rintro e w59 ⟨rfl, hb⟩; refine ⟨_, rfl, ?_⟩; have n0_ := Aside0.mk (blk_below (g := gb230) (o := .cells #[.string (⟨#[]⟩ : ByteArray), .int .i64 0, .string (⟨#[]⟩ : ByteArray)] 34 (0, 0)) (by (with_reducible repeat (first | refine blk_drewN ?_ _ | refine blk_drew ?_ | refine blk_alloc ?_ _)); exact BK230.out) hb); have n1_ := Aside0.mk (below_step (by repeat (first | (with_reducible first | exact HB.out | apply below_alloc | apply pw_below_drewN | apply below_drew1 | refine below_set ?_ GE230.out) | exact HB.out)) hb); clear BK230; clear HB; have BK230 := n0_; have HB := n1_; clear n0_ n1_; (try clear hb); (try clear hb2); (try clear hk); (try clear hi)) | ((with_reducible refine gate_callee (f := 10) rfl ?_); refine goesL_ (some 77) rfl rfl Tryd.func10 (by kernel_rfl) rfl #[.string x0_9] rfl (by (try simp only [List.map_toArray, List.map_cons, List.map_nil]); first | done | rfl | (simp only [List.length_drop, List.length_take]; rfl)) ?_; (with_reducible refine (depotref08_Path.calls kj48 x0_9 t235 t236 _ A57.out).mono ?_); rintro e w60 ⟨rfl, hb⟩; refine ⟨_, rfl, ?_⟩; have n0_ := Aside0.mk (blk_below (g := gb230) (o := .cells #[.string (⟨#[]⟩ : ByteArray), .int .i64 0, .string (⟨#[]⟩ : ByteArray)] 34 (0, 0)) (by (with_reducible repeat (first | refine blk_drewN ?_ _ | refine blk_drew ?_ | refine blk_alloc ?_ _)); exact BK230.out) hb); have n1_ := Aside0.mk (below_step (by repeat (first | (with_reducible first | exact HB.out | apply below_alloc | apply pw_below_drewN | apply below_drew1 | refine below_set ?_ GE230.out) | exact HB.out)) hb); clear BK230; clear HB; have BK230 := n0_; have HB := n1_; clear n0_ n1_; (try clear hb); (try clear hb2); (try clear hk); (try clear hi); have hcz61_0 : w60.cell? ⟨gb230, 0, none⟩ = some (.string (⟨#[]⟩ : ByteArray)) := (blk_cell BK230.out 0).trans rfl; have hcz61_1 : w60.cell? ⟨gb230, 1, none⟩ = some (.int .i64 0) := (blk_cell BK230.out 1).trans rfl; have hcz61_2 : w60.cell? ⟨gb230, 2, none⟩ = some (.string (⟨#[]⟩ : ByteArray)) := (blk_cell BK230.out 2).trans rfl; have hfz61_0 := blk_frozen BK230.out 0; have hfz61_1 := blk_frozen BK230.out 1; have hfz61_2 := blk_frozen BK230.out 2))
                    refine bodyPost_ret (results_ct rfl _ _ gb230 34 #[.string t232, .int .i64 t233, .string t235] (0, 0) _ rfl (by (with_reducible repeat (first | refine blk_drewN ?_ _ | refine blk_drew ?_ | refine blk_alloc ?_ _)); refine blk_put (cs := #[.string t232, .int .i64 t233, .string (⟨#[]⟩ : ByteArray)]) ?_ 2 _ rfl; (with_reducible repeat (first | refine blk_drewN ?_ _ | refine blk_drew ?_ | refine blk_alloc ?_ _)); refine blk_put (cs := #[.string t232, .int .i64 0, .string (⟨#[]⟩ : ByteArray)]) ?_ 1 _ rfl; (with_reducible repeat (first | refine blk_drewN ?_ _ | refine blk_drew ?_ | refine blk_alloc ?_ _)); refine blk_put (cs := #[.string (⟨#[]⟩ : ByteArray), .int .i64 0, .string (⟨#[]⟩ : ByteArray)]) ?_ 0 _ rfl; (with_reducible repeat (first | refine blk_drewN ?_ _ | refine blk_drew ?_ | refine blk_alloc ?_ _)); exact BK230.out) Tryd.underlying34 rfl (by kernel_rfl)) rfl ?_
                    exact ⟨by first | rfl | (simp [errW_none, errW_some] <;> rfl) | (simp [*, errW_none, errW_some] <;> rfl), by repeat (first | (with_reducible first | exact HB.out | apply below_alloc | apply pw_below_drewN | apply below_drew1 | refine below_set ?_ GE230.out) | exact HB.out)⟩
                  · rw [if_neg c58] at H
                    have c58b0 : (t236 == 0) = false := beq_eq_false_iff_ne.mpr c58
                    have c58b1 : (t236 != 0) = true := bne_iff_ne.mpr c58
                    simp only [Option.some.injEq, Prod.mk.injEq] at H
                    obtain ⟨rfl, rfl, rfl, rfl⟩ := H
                    go_wp2_with (first | ((with_reducible refine gate_callee (f := 12) rfl ?_); refine goesL_ (some 67) rfl rfl Tryd.func12 (by kernel_rfl) rfl #[.string x1_9] rfl (by (try simp only [List.map_toArray, List.map_cons, List.map_nil]); first | done | rfl | (simp only [List.length_drop, List.length_take]; rfl)) ?_; (with_reducible refine (depotref08_Authority.calls kj48 x1_9 t232 t233 t234 _ A55.out).mono ?_); rintro e w62 ⟨rfl, hb⟩; refine ⟨_, rfl, ?_⟩; have n0_ := Aside0.mk (blk_below (g := gb230) (o := .cells #[.string (⟨#[]⟩ : ByteArray), .int .i64 0, .string (⟨#[]⟩ : ByteArray)] 34 (0, 0)) (by (with_reducible repeat (first | refine blk_drewN ?_ _ | refine blk_drew ?_ | refine blk_alloc ?_ _)); exact BK230.out) hb); have n1_ := Aside0.mk (below_step (by repeat (first | (with_reducible first | exact HB.out | apply below_alloc | apply pw_below_drewN | apply below_drew1 | refine below_set ?_ GE230.out) | exact HB.out)) hb); clear BK230; clear HB; have BK230 := n0_; have HB := n1_; clear n0_ n1_; (try clear hb); (try clear hb2); (try clear hk); (try clear hi)) | ((with_reducible refine gate_callee (f := 10) rfl ?_); refine goesL_ (some 77) rfl rfl Tryd.func10 (by kernel_rfl) rfl #[.string x0_9] rfl (by (try simp only [List.map_toArray, List.map_cons, List.map_nil]); first | done | rfl | (simp only [List.length_drop, List.length_take]; rfl)) ?_; (with_reducible refine (depotref08_Path.calls kj48 x0_9 t235 t236 _ A57.out).mono ?_); rintro e w63 ⟨rfl, hb⟩; refine ⟨_, rfl, ?_⟩; have n0_ := Aside0.mk (blk_below (g := gb230) (o := .cells #[.string (⟨#[]⟩ : ByteArray), .int .i64 0, .string (⟨#[]⟩ : ByteArray)] 34 (0, 0)) (by (with_reducible repeat (first | refine blk_drewN ?_ _ | refine blk_drew ?_ | refine blk_alloc ?_ _)); exact BK230.out) hb); have n1_ := Aside0.mk (below_step (by repeat (first | (with_reducible first | exact HB.out | apply below_alloc | apply pw_below_drewN | apply below_drew1 | refine below_set ?_ GE230.out) | exact HB.out)) hb); clear BK230; clear HB; have BK230 := n0_; have HB := n1_; clear n0_ n1_; (try clear hb); (try clear hb2); (try clear hk); (try clear hi); have hcz64_0 : w63.cell? ⟨gb230, 0, none⟩ = some (.string (⟨#[]⟩ : ByteArray)) := (blk_cell BK230.out 0).trans rfl; have hcz64_1 : w63.cell? ⟨gb230, 1, none⟩ = some (.int .i64 0) := (blk_cell BK230.out 1).trans rfl; have hcz64_2 : w63.cell? ⟨gb230, 2, none⟩ = some (.string (⟨#[]⟩ : ByteArray)) := (blk_cell BK230.out 2).trans rfl; have hfz64_0 := blk_frozen BK230.out 0; have hfz64_1 := blk_frozen BK230.out 1; have hfz64_2 := blk_frozen BK230.out 2))
                    refine bodyPost_ret (results_ct rfl _ _ gb230 34 #[.string (⟨#[]⟩ : ByteArray), .int .i64 0, .string (⟨#[]⟩ : ByteArray)] (0, 0) _ rfl (by (with_reducible repeat (first | refine blk_drewN ?_ _ | refine blk_drew ?_ | refine blk_alloc ?_ _)); refine blk_put (cs := #[.string (⟨#[]⟩ : ByteArray), .int .i64 0, .string (⟨#[]⟩ : ByteArray)]) ?_ 2 _ rfl; (with_reducible repeat (first | refine blk_drewN ?_ _ | refine blk_drew ?_ | refine blk_alloc ?_ _)); refine blk_put (cs := #[.string (⟨#[]⟩ : ByteArray), .int .i64 0, .string (⟨#[]⟩ : ByteArray)]) ?_ 1 _ rfl; (with_reducible repeat (first | refine blk_drewN ?_ _ | refine blk_drew ?_ | refine blk_alloc ?_ _)); refine blk_put (cs := #[.string (⟨#[]⟩ : ByteArray), .int .i64 0, .string (⟨#[]⟩ : ByteArray)]) ?_ 0 _ rfl; (with_reducible repeat (first | refine blk_drewN ?_ _ | refine blk_drew ?_ | refine blk_alloc ?_ _)); exact BK230.out) Tryd.underlying34 rfl (by kernel_rfl)) rfl ?_
                    exact ⟨by first | rfl | (simp [errW_none, errW_some] <;> rfl) | (simp [*, errW_none, errW_some] <;> rfl), by repeat (first | (with_reducible first | exact HB.out | apply below_alloc | apply pw_below_drewN | apply below_drew1 | refine below_set ?_ GE230.out) | exact HB.out)⟩
                · rw [if_neg c56] at H
                  have c56b0 : (t234 == 0) = false := beq_eq_false_iff_ne.mpr c56
                  have c56b1 : (t234 != 0) = true := bne_iff_ne.mpr c56
                  simp only [Option.some.injEq, Prod.mk.injEq] at H
                  obtain ⟨rfl, rfl, rfl, rfl⟩ := H
                  go_wp2_with (first | ((with_reducible refine gate_callee (f := 12) rfl ?_); refine goesL_ (some 67) rfl rfl Tryd.func12 (by kernel_rfl) rfl #[.string x1_9] rfl (by (try simp only [List.map_toArray, List.map_cons, List.map_nil]); first | done | rfl | (simp only [List.length_drop, List.length_take]; rfl)) ?_; (with_reducible refine (depotref08_Authority.calls kj48 x1_9 t232 t233 t234 _ A55.out).mono ?_); rintro e w65 ⟨rfl, hb⟩; refine ⟨_, rfl, ?_⟩; have n0_ := Aside0.mk (blk_below (g := gb230) (o := .cells #[.string (⟨#[]⟩ : ByteArray), .int .i64 0, .string (⟨#[]⟩ : ByteArray)] 34 (0, 0)) (by (with_reducible repeat (first | refine blk_drewN ?_ _ | refine blk_drew ?_ | refine blk_alloc ?_ _)); exact BK230.out) hb); have n1_ := Aside0.mk (below_step (by repeat (first | (with_reducible first | exact HB.out | apply below_alloc | apply pw_below_drewN | apply below_drew1 | refine below_set ?_ GE230.out) | exact HB.out)) hb); clear BK230; clear HB; have BK230 := n0_; have HB := n1_; clear n0_ n1_; (try clear hb); (try clear hb2); (try clear hk); (try clear hi); have hcz66_0 : w65.cell? ⟨gb230, 0, none⟩ = some (.string (⟨#[]⟩ : ByteArray)) := (blk_cell BK230.out 0).trans rfl; have hcz66_1 : w65.cell? ⟨gb230, 1, none⟩ = some (.int .i64 0) := (blk_cell BK230.out 1).trans rfl; have hcz66_2 : w65.cell? ⟨gb230, 2, none⟩ = some (.string (⟨#[]⟩ : ByteArray)) := (blk_cell BK230.out 2).trans rfl; have hfz66_0 := blk_frozen BK230.out 0; have hfz66_1 := blk_frozen BK230.out 1; have hfz66_2 := blk_frozen BK230.out 2))
                  refine bodyPost_ret (results_ct rfl _ _ gb230 34 #[.string (⟨#[]⟩ : ByteArray), .int .i64 0, .string (⟨#[]⟩ : ByteArray)] (0, 0) _ rfl (by (with_reducible repeat (first | refine blk_drewN ?_ _ | refine blk_drew ?_ | refine blk_alloc ?_ _)); refine blk_put (cs := #[.string (⟨#[]⟩ : ByteArray), .int .i64 0, .string (⟨#[]⟩ : ByteArray)]) ?_ 2 _ rfl; (with_reducible repeat (first | refine blk_drewN ?_ _ | refine blk_drew ?_ | refine blk_alloc ?_ _)); refine blk_put (cs := #[.string (⟨#[]⟩ : ByteArray), .int .i64 0, .string (⟨#[]⟩ : ByteArray)]) ?_ 1 _ rfl; (with_reducible repeat (first | refine blk_drewN ?_ _ | refine blk_drew ?_ | refine blk_alloc ?_ _)); refine blk_put (cs := #[.string (⟨#[]⟩ : ByteArray), .int .i64 0, .string (⟨#[]⟩ : ByteArray)]) ?_ 0 _ rfl; (with_reducible repeat (first | refine blk_drewN ?_ _ | refine blk_drew ?_ | refine blk_alloc ?_ _)); exact BK230.out) Tryd.underlying34 rfl (by kernel_rfl)) rfl ?_
                  exact ⟨by first | rfl | (simp [errW_none, errW_some] <;> rfl) | (simp [*, errW_none, errW_some] <;> rfl), by repeat (first | (with_reducible first | exact HB.out | apply below_alloc | apply pw_below_drewN | apply below_drew1 | refine below_set ?_ GE230.out) | exact HB.out)⟩

end Go.Proofs.YtghaocjhmambaaaDoor.PR
