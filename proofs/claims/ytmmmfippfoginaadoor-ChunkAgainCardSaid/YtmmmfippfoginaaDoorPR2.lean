-- Out of the translation, by a program of this session: each function that a law comes to as a Lean function, and that the machine's call does what it says. Lean checks it.
import Derived.Test.YtmmmfippfoginaaDoorPR0
import Derived.Test.YtmmmfippfoginaaDoorPR1
namespace Go.Proofs.YtmmmfippfoginaaDoor.PR
open Go.RowKit Go.Proofs.YtmmmfippfoginaaDoorW.PrintWords Go.Proofs.YtmmmfippfoginaaDoorW.PrintLast Go.Proofs.YtmmmfippfoginaaDoorW.PrintMore
attribute [local go_sem] max2_int min2_int max_two min_two max_three min_three max_four min_four   -- for this text's walks alone
set_option linter.unusedVariables false
set_option linter.unusedSimpArgs false

/-! ### chunk_Decode: function 8: told by hand -/
def chunk_sz (l : ByteArray) : Option (Int × Int) :=
  (octet_Cut.f l 59).bind fun c => (strings_TrimRight.f c.1 ⟨#[32, 9]⟩).bind fun d => (decimal_ReadHex.f d 1152921504606846976).bind fun r => (octet_IsText.f c.2.1).bind fun t => some (Hand.szR r.1 r.2 t)
theorem szR_le (v e : Int) (t : Bool) : (Hand.szR v e t).1 ≤ 65536 := by
  unfold Hand.szR
  split
  · decide
  · split
    · decide
    · split
      · decide
      · show v ≤ 65536; omega
theorem chunk_sizeOk : Hand.SizeOk chunk_sz := by
  intro B b s gone p bs w r HL hB h
  unfold chunk_sz at h
  generalize hl : s.extract 0 (Hand.lineI s).toNat = l at h
  cases h1 : octet_Cut.f l 59 with
  | none => rw [h1] at h; cases h
  | some c =>
  rw [h1] at h
  simp only [Option.bind_some] at h
  obtain ⟨dg, more, cb⟩ := c
  simp only at h
  cases h2 : strings_TrimRight.f dg ⟨#[32, 9]⟩ with
  | none => rw [h2] at h; cases h
  | some tr =>
  rw [h2] at h
  simp only [Option.bind_some] at h
  cases h3 : decimal_ReadHex.f tr 1152921504606846976 with
  | none => rw [h3] at h; cases h
  | some q =>
  rw [h3] at h
  simp only [Option.bind_some] at h
  obtain ⟨v, e⟩ := q
  simp only at h
  cases h4 : octet_IsText.f more with
  | none => rw [h4] at h; cases h
  | some t =>
  rw [h4] at h
  simp only [Option.bind_some] at h
  obtain rfl := Option.some.inj h
  exact ⟨Hand.rd_size_yes B b s gone p bs w HL hB l _ dg more tr cb _ v e t hl rfl rfl (fun w => octet_Cut.calls l 59 dg more cb w h1) (fun w => strings_TrimRight.calls dg ⟨#[32, 9]⟩ tr w h2) (fun w => decimal_ReadHex.calls tr 1152921504606846976 v e w h3) (fun w => octet_IsText.calls more t w h4), szR_le v e t⟩
theorem chunk_parseOk : Hand.ParseOk fields_Parse.f := fun l r h w => fields_Parse.calls l r.1 r.2.1 r.2.2 w h
def chunk_Decode.f (a0 : ByteArray) : Option (ByteArray × Int × Int) := if a0.size < 4294967281 then Hand.decGo fields_Parse.f chunk_sz (a0.size + 1) a0 0 ⟨#[]⟩ else none
theorem chunk_Decode.calls (a0 : ByteArray) (r1 : ByteArray) (r2 r3 : Int) (w : World) (HT : Aside0 (Hand.Laid w)) (h : chunk_Decode.f a0 = some (r1, r2, r3)) :
    Calls Tryd.prog 8 #[.string a0] w fun e w' => e = .returned (.tuple #[.string r1, .int .i64 r2, .int .i64 r3]) ∧ Below w.heap.size w w' := by
  unfold chunk_Decode.f at h
  split at h
  case isFalse => cases h
  case isTrue hs => exact Hand.dec_any fields_Parse.f chunk_parseOk chunk_sz chunk_sizeOk a0 w HT.out hs _ (r1, r2, r3) h

/-! ### decimal_Hex: function 19 -/
def decimal_Hex.l0 : Nat → Int → List Int → Option (ByteArray)
  | 0, _, _ => none
  | k + 1, x0, x3 => if 0 ≤ (Int.tmod x0 16) then (if (Int.tmod x0 16) < 16 then ((some (([bt (⟨#[48, 49, 50, 51, 52, 53, 54, 55, 56, 57, 97, 98, 99, 100, 101, 102]⟩ : ByteArray) (Int.tmod x0 16)] : List Int) : List Int)).bind fun y111 => (if y111.length + x3.length < 140737488355328 then ((some (y111 ++ x3 : List Int)).bind fun y114 => (if (wrap64 (Int.tdiv x0 16)) = 0 then (some (strOfNums y114)) else (decimal_Hex.l0 k (wrap64 (Int.tdiv x0 16)) y114))) else (none))) else (none)) else (none)
def decimal_Hex.f (k : Nat) (a0 : Int) : Option (ByteArray) := if a0 < 0 then (some (⟨#[]⟩ : ByteArray)) else (decimal_Hex.l0 k a0 ([] : List Int))
theorem decimal_Hex.mono_l : ∀ k, (∀ y0 y1, LeO (decimal_Hex.l0 k y0 y1) (decimal_Hex.l0 (k + 1) y0 y1))
  | 0 => fun _ _ r h => by simp [decimal_Hex.l0] at h
  | k + 1 => by
    have ih0 := decimal_Hex.mono_l k
    · intro y0 y1
      unfold decimal_Hex.l0
      repeat' first
      | (with_reducible exact ih0 _ _)
      | (with_reducible exact LeO.refl _)
      | (with_reducible exact LeO.none _)
      | (with_reducible refine LeO.ite ?_ ?_)
      | (with_reducible refine LeO.bind ?_ (fun _ => ?_))
      | exact ih0 _ _
      | exact LeO.none _
      | refine LeO.ite ?_ ?_
      | refine LeO.bind ?_ (fun _ => ?_)
theorem decimal_Hex.mono : ∀ a0 k, LeO (decimal_Hex.f k a0) (decimal_Hex.f (k + 1) a0) := by
  intro a0 k
  have ih0 := decimal_Hex.mono_l k
  unfold decimal_Hex.f
  repeat' first
      | (with_reducible exact ih0 _ _)
      | (with_reducible exact LeO.refl _)
      | (with_reducible exact LeO.none _)
      | (with_reducible refine LeO.ite ?_ ?_)
      | (with_reducible refine LeO.bind ?_ (fun _ => ?_))
      | exact ih0 _ _
      | exact LeO.none _
      | refine LeO.ite ?_ ?_
      | refine LeO.bind ?_ (fun _ => ?_)
set_option maxHeartbeats 8000000 in
set_option maxRecDepth 100000 in
theorem decimal_Hex.calls (k : Nat) (a0 : Int) (r : ByteArray) (w : World) (h : decimal_Hex.f k a0 = some r) :
    Calls Tryd.prog 19 #[.int .i64 a0] w fun e w' => e = .returned (.string r) ∧ Below w.heap.size w w' := by
  have HB := Aside0.mk (Below.refl w.heap.size w)
  have H : (if a0 < 0 then (some (⟨#[]⟩ : ByteArray)) else (decimal_Hex.l0 k a0 ([] : List Int))) = some r := h
  clear h
  by_cases c2 : a0 < 0
  · rw [if_pos c2] at H
    have c2b0 : decide (a0 < 0) = true := decide_eq_true c2
    clear c2
    obtain rfl := Option.some.inj H
    go_enter Tryd.func19, Tryd.ntmps19
    go_wp2
    go_ret
    exact ⟨by first | rfl | (simp [errW_none, errW_some] <;> rfl) | (simp [*, errW_none, errW_some] <;> rfl), by repeat (first | (with_reducible first | exact HB.out | apply below_alloc | apply pw_below_drewN | apply below_drew1) | exact HB.out)⟩
  · rw [if_neg c2] at H
    have c2b0 : decide (a0 < 0) = false := decide_eq_false c2
    clear c2
    have H' := Aside0.mk H
    clear H
    go_enter Tryd.func19, Tryd.ntmps19
    go_wp2
    go_loopg [0, 3] k (fun kq v0 v3 w' => ∃ (x0_1 : Int) (x3_1 : List Int), v0 = .int .i64 x0_1 ∧ Aside0 (decimal_Hex.l0 kq x0_1 x3_1 = some r) ∧ Aside0 (kq ≤ k) ∧ Aside0 (Kd.R (Kd.int .u8) 5 w' w.heap.size (fun _ => True) v3 x3_1) ∧ Aside0 (Below w.heap.size w w'))
    case atStart => exact ⟨(a0), (([] : List Int)), (by first | rfl | (simp; done) | (simp [*]; done)), H', ⟨Nat.le_refl _⟩, ⟨by first | exact Kd.R_nil _ _ _ _ _ | exact Kd.N_nil _ _ _ _ _ | exact Kd.V_nil _ _ _ _ _ | exact Kd.Q_nil _ _ _ _ _ | exact Kd.S_nil _ _ _ _ _⟩, ⟨by repeat (first | (with_reducible first | exact HB.out | apply below_alloc | apply pw_below_drewN | apply below_drew1) | exact HB.out)⟩⟩
    case round =>
      clear H'
      try clear c1
      try clear c2
      try clear c2b0
      try clear p2
      obtain ⟨x0_1, x3_1, rfl, HA, HK1, HO_3, HB⟩ := hrel
      cases gk with
      | zero => exact absurd HA.out (by simp [decimal_Hex.l0])
      | succ k1 =>
        have H := HA.out
        clear HA
        simp only [decimal_Hex.l0] at H
        obtain ⟨ji3, hji3⟩ : ∃ j_ : Int, (Int.tmod x0_1 16) = j_ := ⟨_, rfl⟩
        replace H : (if 0 ≤ (ji3) then (if (ji3) < 16 then ((some (([bt (⟨#[48, 49, 50, 51, 52, 53, 54, 55, 56, 57, 97, 98, 99, 100, 101, 102]⟩ : ByteArray) (ji3)] : List Int) : List Int)).bind fun y111 => (if y111.length + x3_1.length < 140737488355328 then ((some (y111 ++ x3_1 : List Int)).bind fun y114 => (if (wrap64 (Int.tdiv x0_1 16)) = 0 then (some (strOfNums y114)) else (decimal_Hex.l0 k1 (wrap64 (Int.tdiv x0_1 16)) y114))) else (none))) else (none)) else (none)) = some r := by first | (rw [hji3] at H; exact H) | (simp only [hji3] at H ⊢; exact H)
        by_cases c4 : 0 ≤ (ji3)
        · rw [if_pos c4] at H
          have c4b0 : decide (0 ≤ (ji3)) = true := decide_eq_true c4
          clear c4
          by_cases c5 : (ji3) < 16
          · rw [if_pos c5] at H
            have c5b0 : decide ((ji3) < 16) = true := decide_eq_true c5
            clear c5
            obtain ⟨y111, hy111⟩ : ∃ y_ : List Int, y_ = (([bt (⟨#[48, 49, 50, 51, 52, 53, 54, 55, 56, 57, 97, 98, 99, 100, 101, 102]⟩ : ByteArray) (ji3)] : List Int)) := ⟨_, rfl⟩
            replace H : (if y111.length + x3_1.length < 140737488355328 then ((some (y111 ++ x3_1 : List Int)).bind fun y114 => (if (wrap64 (Int.tdiv x0_1 16)) = 0 then (some (strOfNums y114)) else (decimal_Hex.l0 k1 (wrap64 (Int.tdiv x0_1 16)) y114))) else (none)) = some r := by first | (rw [hy111]; with_reducible exact H) | (have H2_ := (Option.bind_some _ _).symm.trans H; rw [hy111]; with_reducible exact H2_) | (have H2_ := (Option.bind_some _ _).symm.trans H; with_reducible exact H2_) | with_reducible exact H | (rw [hy111]; exact H) | exact H
            have Ny111 := Aside0.mk hy111
            clear hy111
            by_cases c7 : y111.length + x3_1.length < 140737488355328
            · rw [if_pos c7] at H
              have LMc7 := Aside0.mk c7
              clear c7
              obtain ⟨y114, hy114⟩ : ∃ y_ : List Int, y_ = (y111 ++ x3_1) := ⟨_, rfl⟩
              replace H : (if (wrap64 (Int.tdiv x0_1 16)) = 0 then (some (strOfNums y114)) else (decimal_Hex.l0 k1 (wrap64 (Int.tdiv x0_1 16)) y114)) = some r := by first | (rw [hy114]; with_reducible exact H) | (have H2_ := (Option.bind_some _ _).symm.trans H; rw [hy114]; with_reducible exact H2_) | (have H2_ := (Option.bind_some _ _).symm.trans H; with_reducible exact H2_) | with_reducible exact H | (rw [hy114]; exact H) | exact H
              have Ny114 := Aside0.mk hy114
              clear hy114
              by_cases c8 : (wrap64 (Int.tdiv x0_1 16)) = 0
              · rw [if_pos c8] at H
                have c8b0 : ((wrap64 (Int.tdiv x0_1 16)) == 0) = true := beq_iff_eq.mpr c8
                have c8b1 : ((wrap64 (Int.tdiv x0_1 16)) != 0) = false := bne_eq_false_iff_eq.mpr c8
                clear c8
                obtain rfl := Option.some.inj H
                have p6 : 0 ≤ ((ji3) : Int) := of_decide_eq_true (by first | (with_reducible assumption) | assumption)
                have q6 : (ji3) < (16 : Int) := of_decide_eq_true (by first | (with_reducible assumption) | assumption)
                have hx6 := bt_at (⟨#[48, 49, 50, 51, 52, 53, 54, 55, 56, 57, 97, 98, 99, 100, 101, 102]⟩ : ByteArray) (ji3)
                replace p6 := eq_true p6
                replace q6 := eq_true q6
                go_wp2_with (first | ((with_reducible refine gate_dst (N := 9) rfl ?_); refine Kd.R_lit (Kd.int .u8) _ 5 ?hg (N := 9) ?hd (xs := ([bt (⟨#[48, 49, 50, 51, 52, 53, 54, 55, 56, 57, 97, 98, 99, 100, 101, 102]⟩ : ByteArray) (ji3)] : List Int)) (inner := [.int .u8 (bt (⟨#[48, 49, 50, 51, 52, 53, 54, 55, 56, 57, 97, 98, 99, 100, 101, 102]⟩ : ByteArray) (ji3))]) (ok := fun _ => True) (okp := fun _ => True) ?hr ?hp (fun _ hk => hk) trivial (Below.refl _ _) (Nat.le_refl _) (by simp) ?_; (case hd => rfl); (case hg => rfl); (case hr => first | (go_simp; done) | (go_simp; rfl)); (case hp => exact (Reps.one (show Kd.M (Kd.int .u8) _ _ _ (bt (⟨#[48, 49, 50, 51, 52, 53, 54, 55, 56, 57, 97, 98, 99, 100, 101, 102]⟩ : ByteArray) (ji3)) [.int .u8 (bt (⟨#[48, 49, 50, 51, 52, 53, 54, 55, 56, 57, 97, 98, 99, 100, 101, 102]⟩ : ByteArray) (ji3))] from rfl) (Reps.none _ _))); intro v112 w9 ho10 hb hg_ hnew_; clear hg_ hnew_; (first | rw [← Ny111.out] at ho10 | (simp only [Int.reduceToNat] at ho10; rw [← Ny111.out] at ho10)); have n0_ := Aside0.mk (Kd.R_elder' (by (with_reducible repeat (first | apply Kd.R_alloc | apply Kd.R_drewN | apply Kd.R_drew)); exact HO_3.out) (Kd.R_base ho10) hb); have n1_ := Aside0.mk (Kd.R_lower (Kd.R_new' ho10 (Kd.R_lt (by (with_reducible repeat (first | apply Kd.R_alloc | apply Kd.R_drewN | apply Kd.R_drew)); exact HO_3.out))) (below_size (by repeat (first | (with_reducible first | exact HB.out | apply below_alloc | apply pw_below_drewN | apply below_drew1) | exact HB.out)))); have n2_ := Aside0.mk (below_step (by repeat (first | (with_reducible first | exact HB.out | apply below_alloc | apply pw_below_drewN | apply below_drew1) | exact HB.out)) hb); clear HO_3; clear HB; have HO_3 := n0_; have HO113 := n1_; have HB := n2_; clear n0_ n1_ n2_; clear hb ho10; obtain ⟨Ao12, co12, eo12⟩ := Kd.R_slice HO_3.out; subst eo12) | ((with_reducible refine gate_builtin (b := .append) (xs := #[.tmp 9, .tmp 10]) rfl ?_); at_builtin; refine Kd.R_append_rows (Kd.int .u8) (w0 := w) w.heap.size rfl (.tmp 9) (.tmp 10) 40 5 (.int .u8 0) 1 rfl Tryd.underlying40 info5 rfl (by decide) (by omega) v112 y111 x3_1 _ _ _ (fun k_ => some k_ ≠ (.slice Ao12 x3_1.length co12 : Value).ownBlock) (fun _ => False) rfl rfl ?aO ?aR (fun _ _ h => h) (fun _ h => h.elim) ?aF ?aB ?aS ?aL ?_; (case aR => repeat (first | exact (Kd.R_reads' HO_3.out).2.2 | (with_reducible refine Kd.C_alloc ?_ _) | (with_reducible refine Kd.C_drewN ?_ _) | (with_reducible refine Kd.C_drew ?_))); (case aB => exact (by repeat (first | (with_reducible first | exact HB.out | apply below_alloc | apply pw_below_drewN | apply below_drew1) | exact HB.out))); (case aF => exact (fun k_ hk => Kd.fresh' (Kd.R_lt (by (with_reducible repeat (first | apply Kd.R_alloc | apply Kd.R_drewN | apply Kd.R_drew)); exact HO_3.out)) k_ hk)); (case aO => exact (by (with_reducible repeat (first | apply Kd.R_alloc | apply Kd.R_drewN | apply Kd.R_drew)); exact Kd.R_mono HO113.out (fun _ hk => hk.2))); (case aS => exact (below_size (by repeat (first | (with_reducible first | exact HB.out | apply below_alloc | apply pw_below_drewN | apply below_drew1) | exact HB.out)))); (case aL => have := LMc7.out; omega); intro v115 w11 ho hb hg hat; rw [← Ny114.out] at ho; have n0_ := Aside0.mk (Kd.R_after (ok := (fun _ => True)) (by (with_reducible repeat (first | apply Kd.R_alloc | apply Kd.R_drewN | apply Kd.R_drew)); exact HO_3.out) hg hat); have n1_ := Aside0.mk (hb); have n2_ := Aside0.mk (ho); clear HO_3; clear HB; clear HO113; have HO_3 := n0_; have HB := n1_; have HO116 := n2_; clear n0_ n1_ n2_; clear ho hb hg hat; have hcv13 := own_string (P := Tryd.prog) Tryd.underlying40 Tryd.underlying5 Tryd.underlying9 (Kd.own_of_R HO116.out)))
                go_ret
                exact ⟨by first | rfl | (simp [errW_none, errW_some] <;> rfl) | (simp only [← hji3]; first | rfl | (simp [errW_none, errW_some] <;> rfl)) | (simp [*, errW_none, errW_some] <;> rfl), by repeat (first | (with_reducible first | exact HB.out | apply below_alloc | apply pw_below_drewN | apply below_drew1) | exact HB.out)⟩
              · rw [if_neg c8] at H
                have c8b0 : ((wrap64 (Int.tdiv x0_1 16)) == 0) = false := beq_eq_false_iff_ne.mpr c8
                have c8b1 : ((wrap64 (Int.tdiv x0_1 16)) != 0) = true := bne_iff_ne.mpr c8
                have H' := Aside0.mk H
                clear H
                have p6 : 0 ≤ ((ji3) : Int) := of_decide_eq_true (by first | (with_reducible assumption) | assumption)
                have q6 : (ji3) < (16 : Int) := of_decide_eq_true (by first | (with_reducible assumption) | assumption)
                have hx6 := bt_at (⟨#[48, 49, 50, 51, 52, 53, 54, 55, 56, 57, 97, 98, 99, 100, 101, 102]⟩ : ByteArray) (ji3)
                replace p6 := eq_true p6
                replace q6 := eq_true q6
                go_wp2_with (first | ((with_reducible refine gate_dst (N := 9) rfl ?_); refine Kd.R_lit (Kd.int .u8) _ 5 ?hg (N := 9) ?hd (xs := ([bt (⟨#[48, 49, 50, 51, 52, 53, 54, 55, 56, 57, 97, 98, 99, 100, 101, 102]⟩ : ByteArray) (ji3)] : List Int)) (inner := [.int .u8 (bt (⟨#[48, 49, 50, 51, 52, 53, 54, 55, 56, 57, 97, 98, 99, 100, 101, 102]⟩ : ByteArray) (ji3))]) (ok := fun _ => True) (okp := fun _ => True) ?hr ?hp (fun _ hk => hk) trivial (Below.refl _ _) (Nat.le_refl _) (by simp) ?_; (case hd => rfl); (case hg => rfl); (case hr => first | (go_simp; done) | (go_simp; rfl)); (case hp => exact (Reps.one (show Kd.M (Kd.int .u8) _ _ _ (bt (⟨#[48, 49, 50, 51, 52, 53, 54, 55, 56, 57, 97, 98, 99, 100, 101, 102]⟩ : ByteArray) (ji3)) [.int .u8 (bt (⟨#[48, 49, 50, 51, 52, 53, 54, 55, 56, 57, 97, 98, 99, 100, 101, 102]⟩ : ByteArray) (ji3))] from rfl) (Reps.none _ _))); intro v112 w14 ho15 hb hg_ hnew_; clear hg_ hnew_; (first | rw [← Ny111.out] at ho15 | (simp only [Int.reduceToNat] at ho15; rw [← Ny111.out] at ho15)); have n0_ := Aside0.mk (Kd.R_elder' (by (with_reducible repeat (first | apply Kd.R_alloc | apply Kd.R_drewN | apply Kd.R_drew)); exact HO_3.out) (Kd.R_base ho15) hb); have n1_ := Aside0.mk (Kd.R_lower (Kd.R_new' ho15 (Kd.R_lt (by (with_reducible repeat (first | apply Kd.R_alloc | apply Kd.R_drewN | apply Kd.R_drew)); exact HO_3.out))) (below_size (by repeat (first | (with_reducible first | exact HB.out | apply below_alloc | apply pw_below_drewN | apply below_drew1) | exact HB.out)))); have n2_ := Aside0.mk (below_step (by repeat (first | (with_reducible first | exact HB.out | apply below_alloc | apply pw_below_drewN | apply below_drew1) | exact HB.out)) hb); clear HO_3; clear HB; have HO_3 := n0_; have HO113 := n1_; have HB := n2_; clear n0_ n1_ n2_; clear hb ho15; obtain ⟨Ao17, co17, eo17⟩ := Kd.R_slice HO_3.out; subst eo17) | ((with_reducible refine gate_builtin (b := .append) (xs := #[.tmp 9, .tmp 10]) rfl ?_); at_builtin; refine Kd.R_append_rows (Kd.int .u8) (w0 := w) w.heap.size rfl (.tmp 9) (.tmp 10) 40 5 (.int .u8 0) 1 rfl Tryd.underlying40 info5 rfl (by decide) (by omega) v112 y111 x3_1 _ _ _ (fun k_ => some k_ ≠ (.slice Ao17 x3_1.length co17 : Value).ownBlock) (fun _ => False) rfl rfl ?aO ?aR (fun _ _ h => h) (fun _ h => h.elim) ?aF ?aB ?aS ?aL ?_; (case aR => repeat (first | exact (Kd.R_reads' HO_3.out).2.2 | (with_reducible refine Kd.C_alloc ?_ _) | (with_reducible refine Kd.C_drewN ?_ _) | (with_reducible refine Kd.C_drew ?_))); (case aB => exact (by repeat (first | (with_reducible first | exact HB.out | apply below_alloc | apply pw_below_drewN | apply below_drew1) | exact HB.out))); (case aF => exact (fun k_ hk => Kd.fresh' (Kd.R_lt (by (with_reducible repeat (first | apply Kd.R_alloc | apply Kd.R_drewN | apply Kd.R_drew)); exact HO_3.out)) k_ hk)); (case aO => exact (by (with_reducible repeat (first | apply Kd.R_alloc | apply Kd.R_drewN | apply Kd.R_drew)); exact Kd.R_mono HO113.out (fun _ hk => hk.2))); (case aS => exact (below_size (by repeat (first | (with_reducible first | exact HB.out | apply below_alloc | apply pw_below_drewN | apply below_drew1) | exact HB.out)))); (case aL => have := LMc7.out; omega); intro v115 w16 ho hb hg hat; rw [← Ny114.out] at ho; have n0_ := Aside0.mk (Kd.R_after (ok := (fun _ => True)) (by (with_reducible repeat (first | apply Kd.R_alloc | apply Kd.R_drewN | apply Kd.R_drew)); exact HO_3.out) hg hat); have n1_ := Aside0.mk (hb); have n2_ := Aside0.mk (ho); clear HO_3; clear HB; clear HO113; have HO_3 := n0_; have HB := n1_; have HO116 := n2_; clear n0_ n1_ n2_; clear ho hb hg hat))
                go_roundg k1
                case measure => have := HK1.out; omega
                case rel => exact ⟨(wrap64 (Int.tdiv x0_1 16)), (y114), (by first | rfl | (simp; done) | (simp [*]; done)), H', ⟨by have := HK1.out; omega⟩, ⟨by (with_reducible repeat (first | apply Kd.R_alloc | apply Kd.R_drewN | apply Kd.R_drew)); exact Kd.R_mono HO116.out (fun _ hk => trivial)⟩, ⟨by repeat (first | (with_reducible first | exact HB.out | apply below_alloc | apply pw_below_drewN | apply below_drew1) | exact HB.out)⟩⟩
            · rw [if_neg c7] at H
              exact absurd H (by simp)
          · rw [if_neg c5] at H
            exact absurd H (by simp)
        · rw [if_neg c4] at H
          exact absurd H (by simp)

/-! ### chunk_Encode: function 10: told by hand -/
def chunk_Encode.f (k : Nat) (a0 : ByteArray) (a1 : Int) : Option (ByteArray × Int) :=
  if a1 < 1 then some (⟨#[]⟩, 2) else if 65536 < a1 then some (⟨#[]⟩, 2) else if 65536 < (a0.size : Int) then some (⟨#[]⟩, 4)
  else (Hand.encGo (decimal_Hex.f k) k a0 a1 ⟨#[]⟩).bind fun r => if (r.size : Int) ≤ 140737488355328 then some (r, 0) else none
theorem encGo_mono (hx hx' : Int → Option ByteArray) (hm : ∀ n, LeO (hx n) (hx' n)) : ∀ k s z out, LeO (Hand.encGo hx k s z out) (Hand.encGo hx' (k + 1) s z out)
  | 0, _, _, _ => fun r h => by simp [Hand.encGo] at h
  | k + 1, s, z, out => by
    have ih := encGo_mono hx hx' hm k
    unfold Hand.encGo
    refine LeO.ite (LeO.refl _) (LeO.bind (hm _) (fun h => LeO.ite (ih _ _ _) (LeO.refl _)))
theorem chunk_Encode.mono : ∀ a0 a1 k, LeO (chunk_Encode.f k a0 a1) (chunk_Encode.f (k + 1) a0 a1) := by
  intro a0 a1 k
  unfold chunk_Encode.f
  exact LeO.ite (LeO.refl _) (LeO.ite (LeO.refl _) (LeO.ite (LeO.refl _) (LeO.bind (encGo_mono _ _ (fun n => decimal_Hex.mono n k) k _ _ _) (fun _ => LeO.refl _))))
theorem chunk_Encode.calls (k : Nat) (a0 : ByteArray) (a1 : Int) (r1 : ByteArray) (r2 : Int) (w : World) (h : chunk_Encode.f k a0 a1 = some (r1, r2)) :
    Calls Tryd.prog 10 #[.string a0, .int .i64 a1] w fun e w' => e = .returned (.tuple #[.string r1, .int .i64 r2]) ∧ Below w.heap.size w w' := by
  unfold chunk_Encode.f at h
  by_cases c1 : a1 < 1
  · rw [if_pos c1] at h
    obtain ⟨rfl, rfl⟩ : ⟨#[]⟩ = r1 ∧ 2 = r2 := by simpa using h
    clear h
    go_enter Tryd.func10, Tryd.ntmps10
    go_wp2_with fail
    go_ret2
    exact ⟨rfl, Below.refl _ _⟩
  rw [if_neg c1] at h
  by_cases c2 : 65536 < a1
  · rw [if_pos c2] at h
    obtain ⟨rfl, rfl⟩ : ⟨#[]⟩ = r1 ∧ 2 = r2 := by simpa using h
    clear h
    go_enter Tryd.func10, Tryd.ntmps10
    go_wp2_with fail
    go_ret2
    exact ⟨rfl, Below.refl _ _⟩
  rw [if_neg c2] at h
  by_cases c3 : 65536 < (a0.size : Int)
  · rw [if_pos c3] at h
    obtain ⟨rfl, rfl⟩ : ⟨#[]⟩ = r1 ∧ 4 = r2 := by simpa using h
    clear h
    go_enter Tryd.func10, Tryd.ntmps10
    go_wp2_with fail
    go_ret2
    exact ⟨rfl, Below.refl _ _⟩
  rw [if_neg c3] at h
  cases he : Hand.encGo (decimal_Hex.f k) k a0 a1 ⟨#[]⟩ with
  | none => rw [he] at h; cases h
  | some r =>
    rw [he] at h
    simp only [Option.bind_some] at h
    split at h
    case isFalse => cases h
    case isTrue hsz =>
      obtain ⟨rfl, rfl⟩ : r = r1 ∧ 0 = r2 := by simpa using h
      exact Hand.enc_loop (decimal_Hex.f k) (fun n x hx w => decimal_Hex.calls k n x w hx) a0 a1 w (by omega) (by omega) (by omega) k r he (by omega)

/-! ### depotlaw11_chunks: function 7 -/
def depotlaw11_chunks.f (k : Nat)  : Option (Bool) := (chunk_Decode.f (⟨#[51, 13, 10, 97, 98, 99, 13, 10, 48, 13, 10, 13, 10, 120]⟩ : ByteArray)).bind fun bt117 => ((chunk_Encode.f k (⟨#[97, 98, 99, 100]⟩ : ByteArray) 3).bind fun bt120 => ((chunk_Decode.f (⟨#[51, 13, 10, 97, 98]⟩ : ByteArray)).bind fun bt122 => (if bt117.1.toList = ([97, 98, 99] : List UInt8) then (if bt117.2.1 = 13 then (if bt117.2.2 = 0 then (if bt120.1.toList = ([51, 13, 10, 97, 98, 99, 13, 10, 49, 13, 10, 100, 13, 10, 48, 13, 10, 13, 10] : List UInt8) then (if bt120.2 = 0 then (some (bt122.2.2 == 25)) else (some false)) else (some false)) else (some false)) else (some false)) else (some false))))
theorem depotlaw11_chunks.mono : ∀ k, LeO (depotlaw11_chunks.f k ) (depotlaw11_chunks.f (k + 1) ) := by
  intro  k
  unfold depotlaw11_chunks.f
  repeat' first
      | (with_reducible exact chunk_Encode.mono _ _ _)
      | (with_reducible exact LeO.refl _)
      | (with_reducible exact LeO.none _)
      | (with_reducible refine LeO.ite ?_ ?_)
      | (with_reducible refine LeO.bind ?_ (fun _ => ?_))
      | exact chunk_Encode.mono _ _ _
      | exact LeO.none _
      | refine LeO.ite ?_ ?_
      | refine LeO.bind ?_ (fun _ => ?_)
set_option maxHeartbeats 8000000 in
set_option maxRecDepth 100000 in
theorem depotlaw11_chunks.calls (k : Nat)  (r : Bool) (w : World) (HTRUE : Aside0 (r = true)) (HT : Aside0 (Hand.Laid w)) (h : depotlaw11_chunks.f k  = some r) :
    Calls Tryd.prog 7 #[] w fun e w' => e = .returned (.bool r) ∧ Below w.heap.size w w' := by
  have HB := Aside0.mk (Below.refl w.heap.size w)
  have H : ((chunk_Decode.f (⟨#[51, 13, 10, 97, 98, 99, 13, 10, 48, 13, 10, 13, 10, 120]⟩ : ByteArray)).bind fun bt117 => ((chunk_Encode.f k (⟨#[97, 98, 99, 100]⟩ : ByteArray) 3).bind fun bt120 => ((chunk_Decode.f (⟨#[51, 13, 10, 97, 98]⟩ : ByteArray)).bind fun bt122 => (if bt117.1.toList = ([97, 98, 99] : List UInt8) then (if bt117.2.1 = 13 then (if bt117.2.2 = 0 then (if bt120.1.toList = ([51, 13, 10, 97, 98, 99, 13, 10, 49, 13, 10, 100, 13, 10, 48, 13, 10, 13, 10] : List UInt8) then (if bt120.2 = 0 then (some (bt122.2.2 == 25)) else (some false)) else (some false)) else (some false)) else (some false)) else (some false))))) = some r := h
  clear h
  replace H := Option.bind_eq_some_iff.mp H
  obtain ⟨⟨t117, t118, t119⟩, A10, H⟩ := H
  replace H : ((chunk_Encode.f k (⟨#[97, 98, 99, 100]⟩ : ByteArray) 3).bind fun bt120 => ((chunk_Decode.f (⟨#[51, 13, 10, 97, 98]⟩ : ByteArray)).bind fun bt122 => (if t117.toList = ([97, 98, 99] : List UInt8) then (if t118 = 13 then (if t119 = 0 then (if bt120.1.toList = ([51, 13, 10, 97, 98, 99, 13, 10, 49, 13, 10, 100, 13, 10, 48, 13, 10, 13, 10] : List UInt8) then (if bt120.2 = 0 then (some (bt122.2.2 == 25)) else (some false)) else (some false)) else (some false)) else (some false)) else (some false)))) = some r := H
  have A1 := Aside0.mk A10
  clear A10
  replace H := Option.bind_eq_some_iff.mp H
  obtain ⟨⟨t120, t121⟩, A20, H⟩ := H
  replace H : ((chunk_Decode.f (⟨#[51, 13, 10, 97, 98]⟩ : ByteArray)).bind fun bt122 => (if t117.toList = ([97, 98, 99] : List UInt8) then (if t118 = 13 then (if t119 = 0 then (if t120.toList = ([51, 13, 10, 97, 98, 99, 13, 10, 49, 13, 10, 100, 13, 10, 48, 13, 10, 13, 10] : List UInt8) then (if t121 = 0 then (some (bt122.2.2 == 25)) else (some false)) else (some false)) else (some false)) else (some false)) else (some false))) = some r := H
  have A2 := Aside0.mk A20
  clear A20
  replace H := Option.bind_eq_some_iff.mp H
  obtain ⟨⟨t122, t123, t124⟩, A30, H⟩ := H
  replace H : (if t117.toList = ([97, 98, 99] : List UInt8) then (if t118 = 13 then (if t119 = 0 then (if t120.toList = ([51, 13, 10, 97, 98, 99, 13, 10, 49, 13, 10, 100, 13, 10, 48, 13, 10, 13, 10] : List UInt8) then (if t121 = 0 then (some (t124 == 25)) else (some false)) else (some false)) else (some false)) else (some false)) else (some false)) = some r := H
  have A3 := Aside0.mk A30
  clear A30
  by_cases c4 : t117.toList = ([97, 98, 99] : List UInt8)
  · rw [if_pos c4] at H
    have c4b0 : (t117.toList == ([97, 98, 99] : List UInt8)) = true := beq_iff_eq.mpr c4
    have c4b1 : (t117.toList != ([97, 98, 99] : List UInt8)) = false := bne_eq_false_iff_eq.mpr c4
    clear c4
    by_cases c5 : t118 = 13
    · rw [if_pos c5] at H
      have c5b0 : (t118 == 13) = true := beq_iff_eq.mpr c5
      have c5b1 : (t118 != 13) = false := bne_eq_false_iff_eq.mpr c5
      clear c5
      by_cases c6 : t119 = 0
      · rw [if_pos c6] at H
        have c6b0 : (t119 == 0) = true := beq_iff_eq.mpr c6
        have c6b1 : (t119 != 0) = false := bne_eq_false_iff_eq.mpr c6
        clear c6
        by_cases c7 : t120.toList = ([51, 13, 10, 97, 98, 99, 13, 10, 49, 13, 10, 100, 13, 10, 48, 13, 10, 13, 10] : List UInt8)
        · rw [if_pos c7] at H
          have c7b0 : (t120.toList == ([51, 13, 10, 97, 98, 99, 13, 10, 49, 13, 10, 100, 13, 10, 48, 13, 10, 13, 10] : List UInt8)) = true := beq_iff_eq.mpr c7
          have c7b1 : (t120.toList != ([51, 13, 10, 97, 98, 99, 13, 10, 49, 13, 10, 100, 13, 10, 48, 13, 10, 13, 10] : List UInt8)) = false := bne_eq_false_iff_eq.mpr c7
          clear c7
          by_cases c8 : t121 = 0
          · rw [if_pos c8] at H
            have c8b0 : (t121 == 0) = true := beq_iff_eq.mpr c8
            have c8b1 : (t121 != 0) = false := bne_eq_false_iff_eq.mpr c8
            clear c8
            obtain rfl := Option.some.inj H
            go_enter Tryd.func7, Tryd.ntmps7
            go_wp2_with (first | ((with_reducible refine gate_callee (f := 8) rfl ?_); refine goesL_ (some 10) rfl rfl Tryd.func8 (by kernel_rfl) rfl #[.string (⟨#[51, 13, 10, 97, 98, 99, 13, 10, 48, 13, 10, 13, 10, 120]⟩ : ByteArray)] rfl (by (try simp only [List.map_toArray, List.map_cons, List.map_nil]); first | done | rfl | (simp only [List.length_drop, List.length_take]; rfl)) ?_; (with_reducible refine (chunk_Decode.calls (⟨#[51, 13, 10, 97, 98, 99, 13, 10, 48, 13, 10, 13, 10, 120]⟩ : ByteArray) t117 t118 t119 _ ?side1 A1.out).mono ?_); (case side1 => first | exact HT | exact ⟨Hand.Laid.below HT.out (by repeat (first | (with_reducible first | exact HB.out | apply below_alloc | apply pw_below_drewN | apply below_drew1) | exact HB.out))⟩); rintro e w9 ⟨rfl, hb⟩; refine ⟨_, rfl, ?_⟩; have n0_ := Aside0.mk (below_step (by repeat (first | (with_reducible first | exact HB.out | apply below_alloc | apply pw_below_drewN | apply below_drew1) | exact HB.out)) hb); clear HB; have HB := n0_; clear n0_; (try clear hb); (try clear hb2); (try clear hk); (try clear hi)) | ((with_reducible refine gate_callee (f := 10) rfl ?_); refine goesL_ (some 15) rfl rfl Tryd.func10 (by kernel_rfl) rfl #[.string (⟨#[97, 98, 99, 100]⟩ : ByteArray), .int .i64 3] rfl (by (try simp only [List.map_toArray, List.map_cons, List.map_nil]); first | done | rfl | (simp only [List.length_drop, List.length_take]; rfl)) ?_; (with_reducible refine (chunk_Encode.calls k (⟨#[97, 98, 99, 100]⟩ : ByteArray) 3 t120 t121 _ A2.out).mono ?_); rintro e w10 ⟨rfl, hb⟩; refine ⟨_, rfl, ?_⟩; have n0_ := Aside0.mk (below_step (by repeat (first | (with_reducible first | exact HB.out | apply below_alloc | apply pw_below_drewN | apply below_drew1) | exact HB.out)) hb); clear HB; have HB := n0_; clear n0_; (try clear hb); (try clear hb2); (try clear hk); (try clear hi)) | ((with_reducible refine gate_callee (f := 8) rfl ?_); refine goesL_ (some 19) rfl rfl Tryd.func8 (by kernel_rfl) rfl #[.string (⟨#[51, 13, 10, 97, 98]⟩ : ByteArray)] rfl (by (try simp only [List.map_toArray, List.map_cons, List.map_nil]); first | done | rfl | (simp only [List.length_drop, List.length_take]; rfl)) ?_; (with_reducible refine (chunk_Decode.calls (⟨#[51, 13, 10, 97, 98]⟩ : ByteArray) t122 t123 t124 _ ?side1 A3.out).mono ?_); (case side1 => first | exact HT | exact ⟨Hand.Laid.below HT.out (by repeat (first | (with_reducible first | exact HB.out | apply below_alloc | apply pw_below_drewN | apply below_drew1) | exact HB.out))⟩); rintro e w11 ⟨rfl, hb⟩; refine ⟨_, rfl, ?_⟩; have n0_ := Aside0.mk (below_step (by repeat (first | (with_reducible first | exact HB.out | apply below_alloc | apply pw_below_drewN | apply below_drew1) | exact HB.out)) hb); clear HB; have HB := n0_; clear n0_; (try clear hb); (try clear hb2); (try clear hk); (try clear hi)))
            go_ret
            exact ⟨by first | rfl | (simp [errW_none, errW_some] <;> rfl) | (simp [*, errW_none, errW_some] <;> rfl), by repeat (first | (with_reducible first | exact HB.out | apply below_alloc | apply pw_below_drewN | apply below_drew1) | exact HB.out)⟩
          · rw [if_neg c8] at H
            have c8b0 : (t121 == 0) = false := beq_eq_false_iff_ne.mpr c8
            have c8b1 : (t121 != 0) = true := bne_iff_ne.mpr c8
            obtain rfl := Option.some.inj H
            exact absurd HTRUE.out (by decide)
        · rw [if_neg c7] at H
          have c7b0 : (t120.toList == ([51, 13, 10, 97, 98, 99, 13, 10, 49, 13, 10, 100, 13, 10, 48, 13, 10, 13, 10] : List UInt8)) = false := beq_eq_false_iff_ne.mpr c7
          have c7b1 : (t120.toList != ([51, 13, 10, 97, 98, 99, 13, 10, 49, 13, 10, 100, 13, 10, 48, 13, 10, 13, 10] : List UInt8)) = true := bne_iff_ne.mpr c7
          obtain rfl := Option.some.inj H
          exact absurd HTRUE.out (by decide)
      · rw [if_neg c6] at H
        have c6b0 : (t119 == 0) = false := beq_eq_false_iff_ne.mpr c6
        have c6b1 : (t119 != 0) = true := bne_iff_ne.mpr c6
        obtain rfl := Option.some.inj H
        exact absurd HTRUE.out (by decide)
    · rw [if_neg c5] at H
      have c5b0 : (t118 == 13) = false := beq_eq_false_iff_ne.mpr c5
      have c5b1 : (t118 != 13) = true := bne_iff_ne.mpr c5
      obtain rfl := Option.some.inj H
      exact absurd HTRUE.out (by decide)
  · rw [if_neg c4] at H
    have c4b0 : (t117.toList == ([97, 98, 99] : List UInt8)) = false := beq_eq_false_iff_ne.mpr c4
    have c4b1 : (t117.toList != ([97, 98, 99] : List UInt8)) = true := bne_iff_ne.mpr c4
    obtain rfl := Option.some.inj H
    exact absurd HTRUE.out (by decide)

end Go.Proofs.YtmmmfippfoginaaDoor.PR
