-- Out of the translation, by a program of this session: each function that a law comes to as a Lean function, and that the machine's call does what it says. Lean checks it.
import Derived.Test.YtjaklgikfcahdaaGreatDoorPB0
import Derived.Test.YtjaklgikfcahdaaGreatDoorPB11
import Derived.Test.YtjaklgikfcahdaaGreatDoorPB12
namespace Go.Proofs.YtjaklgikfcahdaaGreatDoor.PB
open Go.RowKit Go.Proofs.YtjaklgikfcahdaaGreatDoorW.PrintWords Go.Proofs.YtjaklgikfcahdaaGreatDoorW.PrintLast Go.Proofs.YtjaklgikfcahdaaGreatDoorW.PrintMore
attribute [local go_sem] max2_int min2_int max_two min_two max_three min_three max_four min_four   -- for this text's walks alone
set_option linter.unusedVariables false
set_option linter.unusedSimpArgs false

/-! ### message_ParseReply: function 12: told by hand -/
def message_ParseReply.f (k : Nat) (a0 : ByteArray) (a1 : ByteArray) : Option (Int × ByteArray × Int × (List S98) × ByteArray × Int) :=
  (msgBegin a0).bind fun g => if g.1 = 0 then
    ((line_Status.f (g.2.1.getD 0 ByteArray.empty)).bind fun q => if q.2.2.2 = 0 then
      (if q.1 < 200 then some (0, (⟨#[]⟩ : ByteArray), 0, [], (⟨#[]⟩ : ByteArray), 20) else
      (rowsS (g.2.1.drop 1)).bind fun rs => if rs.1 = 0 then
        ((bareP rs.2).bind fun fs => (message_Bodiless.f q.1).bind fun nb => if ((a1.toList == [72, 69, 65, 68]) || nb) = true then
          (if g.2.2.size = 0 then some (q.1, q.2.1, q.2.2.1, fs, (⟨#[]⟩ : ByteArray), 0) else some (0, (⟨#[]⟩ : ByteArray), 0, [], (⟨#[]⟩ : ByteArray), 22))
        else (bodyP k rs.2 g.2.2 q.2.2.1 true).bind fun bd => if bd.2 = 0 then some (q.1, q.2.1, q.2.2.1, fs, bd.1, 0) else some (0, (⟨#[]⟩ : ByteArray), 0, [], (⟨#[]⟩ : ByteArray), bd.2))
      else some (0, (⟨#[]⟩ : ByteArray), 0, [], (⟨#[]⟩ : ByteArray), rs.1))
    else some (0, (⟨#[]⟩ : ByteArray), 0, [], (⟨#[]⟩ : ByteArray), q.2.2.2))
  else some (0, (⟨#[]⟩ : ByteArray), 0, [], (⟨#[]⟩ : ByteArray), g.1)
theorem message_ParseReply.mono : ∀ a0 a1 k, LeO (message_ParseReply.f k a0 a1) (message_ParseReply.f (k + 1) a0 a1) := fun a0 a1 k => by
  unfold message_ParseReply.f
  exact LeO.bind (LeO.refl _) fun _ => LeO.ite (LeO.bind (LeO.refl _) fun _ => LeO.ite (LeO.ite (LeO.refl _) (LeO.bind (LeO.refl _) fun _ => LeO.ite (LeO.bind (LeO.refl _) fun _ => LeO.bind (LeO.refl _) fun _ => LeO.ite (LeO.refl _) (LeO.bind (bodyP_mono k _ _ _ _) fun _ => LeO.refl _)) (LeO.refl _))) (LeO.refl _)) (LeO.refl _)
set_option maxHeartbeats 1600000 in
set_option maxRecDepth 100000 in
theorem message_ParseReply.calls (k : Nat) (a0 : ByteArray) (a1 : ByteArray) (r1 : Int) (r2 : ByteArray) (r3 : Int) (r4 : List (S98)) (r5 : ByteArray) (r6 : Int) (w : World) (HT : Aside0 (Hand.Laid w)) (h : message_ParseReply.f k a0 a1 = some (r1, r2, r3, r4, r5, r6)) :
    Calls Tryz.prog 12 #[.string a0, .string a1] w fun e w' => ∃ v3_ : Value, e = .returned (.tuple #[.agg #[.int .i64 r1, .string r2, .int .i64 r3, v3_, .string r5], .int .i64 r6]) ∧ Kd.R k98 98 w' w.heap.size (fun _ => True) v3_ r4 ∧ Below w.heap.size w w' := by
  unfold message_ParseReply.f at h
  obtain ⟨⟨g1, gl, gr⟩, hg, h⟩ := Option.bind_eq_some_iff.1 h
  simp only at h
  have hb0 := Hand.alloc_below w (.cells #[.int .i64 0, .string (⟨#[]⟩ : ByteArray), .int .i64 0, .slice none 0 0, .string (⟨#[]⟩ : ByteArray)] 34)
  have hz := blk_new w (.cells #[.int .i64 0, .string (⟨#[]⟩ : ByteArray), .int .i64 0, .slice none 0 0, .string (⟨#[]⟩ : ByteArray)] 34)
  by_cases h1 : g1 = 0
  · subst h1
    rw [if_pos rfl] at h
    obtain ⟨hl0, hbeg⟩ := message_begin_ok a0 gl gr _ ⟨HT.out.below hb0⟩ hg
    obtain ⟨⟨q1, q2, q3, q4⟩, hq, h⟩ := Option.bind_eq_some_iff.1 h
    simp only at h hq
    generalize gl.getD 0 ByteArray.empty = first at hbeg hq
    have HG := Aside0.mk hbeg
    have HQ := Aside0.mk hq
    have HB0 := Aside0.mk hb0
    have HZ := Aside0.mk hz
    have hlt0 := blk_lt hz
    clear hg hbeg hq hb0 hz
    go_enter Tryz.func12, Tryz.ntmps12
    go_upto_region 1 with (fail)
    generalize w.alloc (.cells #[.int .i64 0, .string (⟨#[]⟩ : ByteArray), .int .i64 0, .slice none 0 0, .string (⟨#[]⟩ : ByteArray)] 34) = W0 at HG HB0 HZ hlt0 ⊢
    go_upto_region 4 with (go_at_call 27; refine HG.out.mono ?_; rintro e w1 ⟨b, A, c, rfl, hk, hC, hc, ha, hB, hb⟩; obtain ⟨bl, ob, o, hbl, hA, hob, hcells⟩ := begin_rows hC (by omega) ha; have HK := Aside0.mk hk; have HOB := Aside0.mk hob; have HCE := Aside0.mk hcells; have HB1 := Aside0.mk hb; clear HG hk hC hc ha hob hcells hb)
    go_upto_region 5 with (fail)
    have P0 : Aside0 (PaAt W0 b bl ob (gl.drop 1).length #[.string first, .slice none 0 0, .int .i64 0, .slice A (gl.drop 1).length c, .string gr] (.slice none 0 0) [] w1.heap.size #[.int .i64 0, .string (⟨#[]⟩ : ByteArray), .int .i64 0, .slice none 0 0, .string (⟨#[]⟩ : ByteArray)] 34 (w1.alloc (.cells #[.int .i64 0, .string (⟨#[]⟩ : ByteArray), .int .i64 0, .slice none 0 0, .string (⟨#[]⟩ : ByteArray)] 34))) := ⟨blk_alloc HK.out _, Kd.R_nil _ _ _ _ _, fun hn => blk_alloc (HOB.out hn) _, HB1.out.alloc HB1.out.size _, hB, hbl, blk_new _ _, blk_lt HK.out, by decide, by decide⟩
    clear HK HOB HB1
    generalize w1.heap.size = g at P0 ⊢
    generalize w1.alloc (.cells #[.int .i64 0, .string (⟨#[]⟩ : ByteArray), .int .i64 0, .slice none 0 0, .string (⟨#[]⟩ : ByteArray)] 34) = w2 at P0 ⊢
    have k0 := blk_cell P0.out.k 0
    go_upto_region 6 with (go_at_call 41; refine (line_Status.calls first q1 q2 q3 q4 _ HQ.out).mono ?_; rintro e w3 ⟨rfl, hb⟩; have P1 := Aside0.mk (P0.out.below hb); have c0 := blk_cell P1.out.kg 0; have c1 := blk_cell P1.out.kg 1; have c2 := blk_cell P1.out.k 2; have f0 := blk_frozen P1.out.kg 0; have f1 := blk_frozen P1.out.kg 1; have f2 := blk_frozen P1.out.k 2; have n1 := P1.out.h3; clear P0 HQ k0 hb)
    have P2 := Aside0.mk (((P1.out.putg 0 (.int .i64 q1) rfl).putg 1 (.string q2) rfl).put 2 (.int .i64 q3) rfl)
    clear P1 c0 c1 c2 f0 f1 f2 n1
    generalize ((w3.setCell ⟨g, 0, none⟩ (.int .i64 q1)).setCell ⟨g, 1, none⟩ (.string q2)).setCell ⟨b, 2, none⟩ (.int .i64 q3) = w4 at P2 ⊢
    by_cases h2 : q4 = 0
    · subst h2
      rw [if_pos rfl] at h
      have k0g := blk_cell P2.out.kg 0
      by_cases hc : q1 < 200
      · rw [if_pos hc] at h
        obtain ⟨rfl, rfl, rfl, rfl, rfl, rfl⟩ : 0 = r1 ∧ (⟨#[]⟩ : ByteArray) = r2 ∧ 0 = r3 ∧ [] = r4 ∧ (⟨#[]⟩ : ByteArray) = r5 ∧ 20 = r6 := by simpa using h
        have ec : decide (q1 < 200) = true := decide_eq_true hc
        clear h hc
        have HZ2 := blk_below HZ.out P2.out.hb
        have HB2 := Aside0.mk (below_step HB0.out P2.out.hb)
        have z0 := blk_cell HZ2 0
        have zf0 := blk_frozen HZ2 0
        have z1 := blk_cell HZ2 1
        have zf1 := blk_frozen HZ2 1
        have z2 := blk_cell HZ2 2
        have zf2 := blk_frozen HZ2 2
        have z3 := blk_cell HZ2 3
        have zf3 := blk_frozen HZ2 3
        have z4 := blk_cell HZ2 4
        have zf4 := blk_frozen HZ2 4
        go_wp2
        refine bodyPost_ret (results_ct rfl _ _ w.heap.size 34 #[.int .i64 0, .string (⟨#[]⟩ : ByteArray), .int .i64 0, .slice none 0 0, .string (⟨#[]⟩ : ByteArray)] (0, 0) _ rfl (blk_put (blk_put (blk_put (blk_put (blk_put HZ2 0 (.int .i64 0) rfl) 1 (.string (⟨#[]⟩ : ByteArray)) rfl) 2 (.int .i64 0) rfl) 3 (.slice none 0 0) rfl) 4 (.string (⟨#[]⟩ : ByteArray)) rfl) Tryz.underlying34 rfl (by kernel_rfl)) rfl ?_
        exact ⟨_, rfl, Kd.R_nil _ _ _ _ _, (((((HB2.out.setCell (Nat.le_refl _) _).setCell (Nat.le_refl _) _).setCell (Nat.le_refl _) _).setCell (Nat.le_refl _) _).setCell (Nat.le_refl _) _)⟩
      rw [if_neg hc] at h
      have ec : decide (q1 < 200) = false := decide_eq_false hc
      clear hc
      obtain ⟨⟨s1, s2⟩, hs, h⟩ := Option.bind_eq_some_iff.1 h
      simp only at h
      unfold rowsS at hs
      by_cases h3 : 64 < (gl.drop 1).length
      · rw [if_pos h3] at hs
        obtain ⟨rfl, rfl⟩ : 4 = s1 ∧ [] = s2 := by simpa using hs
        rw [if_neg (by simp)] at h
        obtain ⟨rfl, rfl, rfl, rfl, rfl, rfl⟩ : 0 = r1 ∧ (⟨#[]⟩ : ByteArray) = r2 ∧ 0 = r3 ∧ [] = r4 ∧ (⟨#[]⟩ : ByteArray) = r5 ∧ 4 = r6 := by simpa using h
        have k3 := blk_cell P2.out.k 3
        clear h hs
        go_wp2_with (go_at_call 29; refine (message_rows_long b _ c A _ k3 h3).mono ?_; rintro e w5 ⟨rfl, hb⟩; have P3 := Aside0.mk (P2.out.below hb); clear P2 k3 k0g hb; have HZ3 := blk_below HZ.out P3.out.hb; have HB3 := Aside0.mk (below_step HB0.out P3.out.hb); have z0 := blk_cell HZ3 0; have zf0 := blk_frozen HZ3 0; have z1 := blk_cell HZ3 1; have zf1 := blk_frozen HZ3 1; have z2 := blk_cell HZ3 2; have zf2 := blk_frozen HZ3 2; have z3 := blk_cell HZ3 3; have zf3 := blk_frozen HZ3 3; have z4 := blk_cell HZ3 4; have zf4 := blk_frozen HZ3 4)
        refine bodyPost_ret (results_ct rfl _ _ w.heap.size 34 #[.int .i64 0, .string (⟨#[]⟩ : ByteArray), .int .i64 0, .slice none 0 0, .string (⟨#[]⟩ : ByteArray)] (0, 0) _ rfl (blk_put (blk_put (blk_put (blk_put (blk_put HZ3 0 (.int .i64 0) rfl) 1 (.string (⟨#[]⟩ : ByteArray)) rfl) 2 (.int .i64 0) rfl) 3 (.slice none 0 0) rfl) 4 (.string (⟨#[]⟩ : ByteArray)) rfl) Tryz.underlying34 rfl (by kernel_rfl)) rfl ?_
        exact ⟨_, rfl, Kd.R_nil _ _ _ _ _, (((((HB3.out.setCell (Nat.le_refl _) _).setCell (Nat.le_refl _) _).setCell (Nat.le_refl _) _).setCell (Nat.le_refl _) _).setCell (Nat.le_refl _) _)⟩
      rw [if_neg h3] at hs
      have HRW := Aside0.mk (message_rows W0 b bl ob _ gr q3 A c (gl.drop 1) g _ 34 w4 P2.out o hA HCE.out (s1, s2) hs (by omega))
      clear hs HCE
      by_cases h4 : s1 = 0
      case neg =>
        rw [if_neg h4] at h
        obtain ⟨rfl, rfl, rfl, rfl, rfl, rfl⟩ : 0 = r1 ∧ (⟨#[]⟩ : ByteArray) = r2 ∧ 0 = r3 ∧ [] = r4 ∧ (⟨#[]⟩ : ByteArray) = r5 ∧ s1 = r6 := by simpa using h
        have e4 : (s1 != 0) = true := bne_iff_ne.2 h4
        clear h h4
        go_wp2_with (go_at_call 29; refine HRW.out.mono ?_; rintro e w5 ⟨rfl, A1, c1, hp⟩; have P3 := Aside0.mk hp; clear P2 HRW k0g hp; have HZ3 := blk_below HZ.out P3.out.hb; have HB3 := Aside0.mk (below_step HB0.out P3.out.hb); have z0 := blk_cell HZ3 0; have zf0 := blk_frozen HZ3 0; have z1 := blk_cell HZ3 1; have zf1 := blk_frozen HZ3 1; have z2 := blk_cell HZ3 2; have zf2 := blk_frozen HZ3 2; have z3 := blk_cell HZ3 3; have zf3 := blk_frozen HZ3 3; have z4 := blk_cell HZ3 4; have zf4 := blk_frozen HZ3 4)
        refine bodyPost_ret (results_ct rfl _ _ w.heap.size 34 #[.int .i64 0, .string (⟨#[]⟩ : ByteArray), .int .i64 0, .slice none 0 0, .string (⟨#[]⟩ : ByteArray)] (0, 0) _ rfl (blk_put (blk_put (blk_put (blk_put (blk_put HZ3 0 (.int .i64 0) rfl) 1 (.string (⟨#[]⟩ : ByteArray)) rfl) 2 (.int .i64 0) rfl) 3 (.slice none 0 0) rfl) 4 (.string (⟨#[]⟩ : ByteArray)) rfl) Tryz.underlying34 rfl (by kernel_rfl)) rfl ?_
        exact ⟨_, rfl, Kd.R_nil _ _ _ _ _, (((((HB3.out.setCell (Nat.le_refl _) _).setCell (Nat.le_refl _) _).setCell (Nat.le_refl _) _).setCell (Nat.le_refl _) _).setCell (Nat.le_refl _) _)⟩
      subst h4
      rw [if_pos rfl] at h
      obtain ⟨fs, hfs, h⟩ := Option.bind_eq_some_iff.1 h
      obtain ⟨nb, hnb, h⟩ := Option.bind_eq_some_iff.1 h
      have HNB := Aside0.mk hnb
      clear hnb
      go_upto_region 13 with (go_at_call 29; refine HRW.out.mono ?_; rintro e w5 ⟨rfl, A1, c1, hp⟩; have P3 := Aside0.mk hp; clear P2 HRW k0g hp)
      obtain ⟨A1', c1', heq, hl, hC⟩ := Kd.R_reads P3.out.r
      cases heq
      have P7 := Aside0.mk (P3.out.below (Below.drew (Below.refl w5.heap.size w5)))
      have k1 := blk_cell P7.out.k 1
      have HBA := Aside0.mk (message_bare A1 c1 s2 fs b w5.drew k1 (Kd.C_below hC (Below.drew (Below.refl _ _))) hl hfs)
      have k2 := blk_cell P3.out.k 2
      have hlg := blk_lt P3.out.kg
      have hlz : W0.heap.size ≤ w5.heap.size := P3.out.hb.size
      have hgw : w.heap.size ≤ g := by have := P3.out.h1; have := P3.out.h3; omega
      have hgz : w.heap.size ≠ g := by have := P3.out.h1; have := P3.out.h3; omega
      have HH := Aside0.mk h
      clear hC hfs P3 k1 h
      go_region_with (go_at_call 32; refine HBA.out.mono ?_; rintro e w9 ⟨v, rfl, hv, hb⟩; obtain ⟨A4, c4, rfl⟩ := Kd.R_slice hv; have P8 := Aside0.mk (P7.out.below hb); have HSZ : w5.heap.size ≤ w9.heap.size := hb.size; have RV := Aside0.mk (Kd.R_lower (Kd.R_mono (ok' := fun k => k ≠ g ∧ k ≠ w.heap.size) (Kd.R_bound hv) (fun k hk => ⟨by have h9 : w5.heap.size ≤ k := hk.2.1; omega, by have h9 : w5.heap.size ≤ k := hk.2.1; omega⟩)) (show w.heap.size ≤ w5.heap.size by omega)); have j2 := blk_cell P8.out.k 2; have d2_ := blk_cell P8.out.kg 2; have d3_ := blk_cell P8.out.kg 3; have f2 := blk_frozen P8.out.kg 2; have f3 := blk_frozen P8.out.kg 3; clear HBA P7 k2 hv hb)
      all_goals
        have P9 := Aside0.mk ((P8.out.putg 2 (.int .i64 q3) rfl).putg 3 (.slice A4 fs.length c4) rfl)
        have RW := Aside0.mk (Kd.R_far (p := ⟨g, 3, none⟩) (Kd.R_far (p := ⟨g, 2, none⟩) RV.out (fun k hk => hk.1) (.int .i64 q3)) (fun k hk => hk.1) (.slice A4 fs.length c4))
        clear P8 RV j2 d2_ d3_ f2 f3
        generalize (w9.setCell ⟨g, 2, none⟩ (.int .i64 q3)).setCell ⟨g, 3, none⟩ (.slice A4 fs.length c4) = w10 at P9 RW ⊢
        have h := HH.out
        clear HH
        have k4 := blk_cell P9.out.k 4
        have b0 := blk_cell P9.out.kg 0
        by_cases hm : (a1.toList == [72, 69, 65, 68]) = true
        · rw [hm, Bool.true_or, if_pos rfl] at h
          by_cases h6 : gr.size = 0
          · rw [if_pos h6] at h
            obtain ⟨rfl, rfl, rfl, rfl, rfl, rfl⟩ : q1 = r1 ∧ q2 = r2 ∧ q3 = r3 ∧ fs = r4 ∧ (⟨#[]⟩ : ByteArray) = r5 ∧ 0 = r6 := by simpa using h
            have y1 := empty_beq h6
            have y2 := empty_ise h6
            have y3 := empty_bne h6
            clear h h6
            have HZ9 := blk_below HZ.out P9.out.hb
            have HB9 := Aside0.mk (below_step HB0.out P9.out.hb)
            have z0 := blk_cell HZ9 0
            have zf0 := blk_frozen HZ9 0
            have z1 := blk_cell HZ9 1
            have zf1 := blk_frozen HZ9 1
            have z2 := blk_cell HZ9 2
            have zf2 := blk_frozen HZ9 2
            have z3 := blk_cell HZ9 3
            have zf3 := blk_frozen HZ9 3
            have z4 := blk_cell HZ9 4
            have zf4 := blk_frozen HZ9 4
            have dd0 := blk_cell P9.out.kg 0
            have dd1 := blk_cell P9.out.kg 1
            have dd2 := blk_cell P9.out.kg 2
            have dd3 := blk_cell P9.out.kg 3
            have dd4 := blk_cell P9.out.kg 4
            go_wp2_with fail
            refine bodyPost_ret (results_ct rfl _ _ w.heap.size 34 #[.int .i64 q1, .string q2, .int .i64 q3, .slice A4 fs.length c4, .string (⟨#[]⟩ : ByteArray)] (0, 0) _ rfl (blk_put (blk_put (blk_put (blk_put (blk_put HZ9 0 (.int .i64 q1) rfl) 1 (.string q2) rfl) 2 (.int .i64 q3) rfl) 3 (.slice A4 fs.length c4) rfl) 4 (.string (⟨#[]⟩ : ByteArray)) rfl) Tryz.underlying34 rfl (by kernel_rfl)) rfl ?_
            exact ⟨_, rfl, Kd.R_mono (Kd.R_far (p := ⟨w.heap.size, 4, none⟩) (Kd.R_far (p := ⟨w.heap.size, 3, none⟩) (Kd.R_far (p := ⟨w.heap.size, 2, none⟩) (Kd.R_far (p := ⟨w.heap.size, 1, none⟩) (Kd.R_far (p := ⟨w.heap.size, 0, none⟩) RW.out (fun k hk => hk.2) (.int .i64 q1)) (fun k hk => hk.2) (.string q2)) (fun k hk => hk.2) (.int .i64 q3)) (fun k hk => hk.2) (.slice A4 fs.length c4)) (fun k hk => hk.2) (.string (⟨#[]⟩ : ByteArray))) (fun _ _ => trivial), (((((HB9.out.setCell (Nat.le_refl _) _).setCell (Nat.le_refl _) _).setCell (Nat.le_refl _) _).setCell (Nat.le_refl _) _).setCell (Nat.le_refl _) _)⟩
          · rw [if_neg h6] at h
            obtain ⟨rfl, rfl, rfl, rfl, rfl, rfl⟩ : 0 = r1 ∧ (⟨#[]⟩ : ByteArray) = r2 ∧ 0 = r3 ∧ [] = r4 ∧ (⟨#[]⟩ : ByteArray) = r5 ∧ 22 = r6 := by simpa using h
            have y1 := empty_ne h6
            have y2 := empty_isn h6
            have y3 := empty_bnn h6
            clear h h6
            have HZ9 := blk_below HZ.out P9.out.hb
            have HB9 := Aside0.mk (below_step HB0.out P9.out.hb)
            have z0 := blk_cell HZ9 0
            have zf0 := blk_frozen HZ9 0
            have z1 := blk_cell HZ9 1
            have zf1 := blk_frozen HZ9 1
            have z2 := blk_cell HZ9 2
            have zf2 := blk_frozen HZ9 2
            have z3 := blk_cell HZ9 3
            have zf3 := blk_frozen HZ9 3
            have z4 := blk_cell HZ9 4
            have zf4 := blk_frozen HZ9 4
            go_wp2_with fail
            refine bodyPost_ret (results_ct rfl _ _ w.heap.size 34 #[.int .i64 0, .string (⟨#[]⟩ : ByteArray), .int .i64 0, .slice none 0 0, .string (⟨#[]⟩ : ByteArray)] (0, 0) _ rfl (blk_put (blk_put (blk_put (blk_put (blk_put HZ9 0 (.int .i64 0) rfl) 1 (.string (⟨#[]⟩ : ByteArray)) rfl) 2 (.int .i64 0) rfl) 3 (.slice none 0 0) rfl) 4 (.string (⟨#[]⟩ : ByteArray)) rfl) Tryz.underlying34 rfl (by kernel_rfl)) rfl ?_
            exact ⟨_, rfl, Kd.R_nil _ _ _ _ _, (((((HB9.out.setCell (Nat.le_refl _) _).setCell (Nat.le_refl _) _).setCell (Nat.le_refl _) _).setCell (Nat.le_refl _) _).setCell (Nat.le_refl _) _)⟩
        · rw [Bool.not_eq_true] at hm
          rw [hm, Bool.false_or] at h
          cases nb
          case true =>
            rw [if_pos rfl] at h
            by_cases h6 : gr.size = 0
            · rw [if_pos h6] at h
              obtain ⟨rfl, rfl, rfl, rfl, rfl, rfl⟩ : q1 = r1 ∧ q2 = r2 ∧ q3 = r3 ∧ fs = r4 ∧ (⟨#[]⟩ : ByteArray) = r5 ∧ 0 = r6 := by simpa using h
              have y1 := empty_beq h6
              have y2 := empty_ise h6
              have y3 := empty_bne h6
              clear h h6
              go_wp2_with (go_at_call 25; refine (message_Bodiless.calls q1 true _ HNB.out).mono ?_; rintro e w11 ⟨rfl, n2, rfl⟩; have PA := Aside0.mk (P9.out.below (pw_below_drewN (Below.refl _ _) n2)); have RX := Aside0.mk (Kd.R_drewN RW.out n2); clear P9 RW b0 k4; have HZA := blk_below HZ.out PA.out.hb; have HBA := Aside0.mk (below_step HB0.out PA.out.hb); have z0 := blk_cell HZA 0; have zf0 := blk_frozen HZA 0; have z1 := blk_cell HZA 1; have zf1 := blk_frozen HZA 1; have z2 := blk_cell HZA 2; have zf2 := blk_frozen HZA 2; have z3 := blk_cell HZA 3; have zf3 := blk_frozen HZA 3; have z4 := blk_cell HZA 4; have zf4 := blk_frozen HZA 4; have dd0 := blk_cell PA.out.kg 0; have dd1 := blk_cell PA.out.kg 1; have dd2 := blk_cell PA.out.kg 2; have dd3 := blk_cell PA.out.kg 3; have dd4 := blk_cell PA.out.kg 4; have kA := blk_cell PA.out.k 4)
              refine bodyPost_ret (results_ct rfl _ _ w.heap.size 34 #[.int .i64 q1, .string q2, .int .i64 q3, .slice A4 fs.length c4, .string (⟨#[]⟩ : ByteArray)] (0, 0) _ rfl (blk_put (blk_put (blk_put (blk_put (blk_put HZA 0 (.int .i64 q1) rfl) 1 (.string q2) rfl) 2 (.int .i64 q3) rfl) 3 (.slice A4 fs.length c4) rfl) 4 (.string (⟨#[]⟩ : ByteArray)) rfl) Tryz.underlying34 rfl (by kernel_rfl)) rfl ?_
              exact ⟨_, rfl, Kd.R_mono (Kd.R_far (p := ⟨w.heap.size, 4, none⟩) (Kd.R_far (p := ⟨w.heap.size, 3, none⟩) (Kd.R_far (p := ⟨w.heap.size, 2, none⟩) (Kd.R_far (p := ⟨w.heap.size, 1, none⟩) (Kd.R_far (p := ⟨w.heap.size, 0, none⟩) RX.out (fun k hk => hk.2) (.int .i64 q1)) (fun k hk => hk.2) (.string q2)) (fun k hk => hk.2) (.int .i64 q3)) (fun k hk => hk.2) (.slice A4 fs.length c4)) (fun k hk => hk.2) (.string (⟨#[]⟩ : ByteArray))) (fun _ _ => trivial), (((((HBA.out.setCell (Nat.le_refl _) _).setCell (Nat.le_refl _) _).setCell (Nat.le_refl _) _).setCell (Nat.le_refl _) _).setCell (Nat.le_refl _) _)⟩
            · rw [if_neg h6] at h
              obtain ⟨rfl, rfl, rfl, rfl, rfl, rfl⟩ : 0 = r1 ∧ (⟨#[]⟩ : ByteArray) = r2 ∧ 0 = r3 ∧ [] = r4 ∧ (⟨#[]⟩ : ByteArray) = r5 ∧ 22 = r6 := by simpa using h
              have y1 := empty_ne h6
              have y2 := empty_isn h6
              have y3 := empty_bnn h6
              clear h h6
              go_wp2_with (go_at_call 25; refine (message_Bodiless.calls q1 true _ HNB.out).mono ?_; rintro e w11 ⟨rfl, n2, rfl⟩; have PA := Aside0.mk (P9.out.below (pw_below_drewN (Below.refl _ _) n2)); clear P9 RW b0 k4; have HZA := blk_below HZ.out PA.out.hb; have HBA := Aside0.mk (below_step HB0.out PA.out.hb); have z0 := blk_cell HZA 0; have zf0 := blk_frozen HZA 0; have z1 := blk_cell HZA 1; have zf1 := blk_frozen HZA 1; have z2 := blk_cell HZA 2; have zf2 := blk_frozen HZA 2; have z3 := blk_cell HZA 3; have zf3 := blk_frozen HZA 3; have z4 := blk_cell HZA 4; have zf4 := blk_frozen HZA 4; have kA := blk_cell PA.out.k 4)
              refine bodyPost_ret (results_ct rfl _ _ w.heap.size 34 #[.int .i64 0, .string (⟨#[]⟩ : ByteArray), .int .i64 0, .slice none 0 0, .string (⟨#[]⟩ : ByteArray)] (0, 0) _ rfl (blk_put (blk_put (blk_put (blk_put (blk_put HZA 0 (.int .i64 0) rfl) 1 (.string (⟨#[]⟩ : ByteArray)) rfl) 2 (.int .i64 0) rfl) 3 (.slice none 0 0) rfl) 4 (.string (⟨#[]⟩ : ByteArray)) rfl) Tryz.underlying34 rfl (by kernel_rfl)) rfl ?_
              exact ⟨_, rfl, Kd.R_nil _ _ _ _ _, (((((HBA.out.setCell (Nat.le_refl _) _).setCell (Nat.le_refl _) _).setCell (Nat.le_refl _) _).setCell (Nat.le_refl _) _).setCell (Nat.le_refl _) _)⟩
          case false =>
            rw [if_neg (by simp)] at h
            obtain ⟨⟨d1, d2⟩, hd, h⟩ := Option.bind_eq_some_iff.1 h
            simp only at h
            have HD := Aside0.mk hd
            clear hd
            obtain ⟨A2, c2, heq, hl2, hC2⟩ := Kd.R_reads P9.out.r
            cases heq
            have HC9 := Aside0.mk hC2
            clear hC2
            by_cases h5 : d2 = 0
            · subst h5
              rw [if_pos rfl] at h
              obtain ⟨rfl, rfl, rfl, rfl, rfl, rfl⟩ : q1 = r1 ∧ q2 = r2 ∧ q3 = r3 ∧ fs = r4 ∧ d1 = r5 ∧ 0 = r6 := by simpa using h
              clear h
              go_wp2_with (first | (go_at_call 25; refine (message_Bodiless.calls q1 false _ HNB.out).mono ?_; rintro e w11 ⟨rfl, n2, rfl⟩; have PA := Aside0.mk (P9.out.below (pw_below_drewN (Below.refl _ _) n2)); have RX := Aside0.mk (Kd.R_drewN RW.out n2); have HCA := Aside0.mk (Kd.C_below HC9.out (pw_below_drewN (Below.refl _ _) n2)); have l1 := blk_cell PA.out.k 1; have l2 := blk_cell PA.out.k 2; have l4 := blk_cell PA.out.k 4; clear P9 RW b0 k4 HC9 HNB) | (go_at_call 31; refine (message_body k A1 c1 s2 q3 gr true d1 0 b _ ⟨HT.out.below (below_step HB0.out PA.out.hb)⟩ l1 l2 l4 HCA.out hl HD.out).mono ?_; rintro e w12 ⟨rfl, hb⟩; have PB := Aside0.mk (PA.out.below hb); have RY := Aside0.mk (Kd.R_far (p := ⟨g, 4, none⟩) (Kd.R_below RX.out hb) (fun k hk => hk.1) (.string d1)); have PC := Aside0.mk (PB.out.putg 4 (.string d1) rfl); have HZC := blk_below HZ.out PC.out.hb; have HBC := Aside0.mk (below_step HB0.out PC.out.hb); have fB := blk_frozen PB.out.kg 4; have dd0 := blk_cell PB.out.kg 0; have dd1 := blk_cell PB.out.kg 1; have dd2 := blk_cell PB.out.kg 2; have dd3 := blk_cell PB.out.kg 3; have dd4 := blk_cell PB.out.kg 4; have HZB := blk_below HZ.out PB.out.hb; have z0 := blk_cell HZB 0; have zf0 := blk_frozen HZB 0; have z1 := blk_cell HZB 1; have zf1 := blk_frozen HZB 1; have z2 := blk_cell HZB 2; have zf2 := blk_frozen HZB 2; have z3 := blk_cell HZB 3; have zf3 := blk_frozen HZB 3; have z4 := blk_cell HZB 4; have zf4 := blk_frozen HZB 4; clear PA RX HCA l1 l2 l4 HD hb))
              refine bodyPost_ret (results_ct rfl _ _ w.heap.size 34 #[.int .i64 q1, .string q2, .int .i64 q3, .slice A4 fs.length c4, .string d1] (0, 0) _ rfl (blk_put (blk_put (blk_put (blk_put (blk_put HZC 0 (.int .i64 q1) rfl) 1 (.string q2) rfl) 2 (.int .i64 q3) rfl) 3 (.slice A4 fs.length c4) rfl) 4 (.string d1) rfl) Tryz.underlying34 rfl (by kernel_rfl)) rfl ?_
              exact ⟨_, rfl, Kd.R_mono (Kd.R_far (p := ⟨w.heap.size, 4, none⟩) (Kd.R_far (p := ⟨w.heap.size, 3, none⟩) (Kd.R_far (p := ⟨w.heap.size, 2, none⟩) (Kd.R_far (p := ⟨w.heap.size, 1, none⟩) (Kd.R_far (p := ⟨w.heap.size, 0, none⟩) RY.out (fun k hk => hk.2) (.int .i64 q1)) (fun k hk => hk.2) (.string q2)) (fun k hk => hk.2) (.int .i64 q3)) (fun k hk => hk.2) (.slice A4 fs.length c4)) (fun k hk => hk.2) (.string d1)) (fun _ _ => trivial), (((((HBC.out.setCell (Nat.le_refl _) _).setCell (Nat.le_refl _) _).setCell (Nat.le_refl _) _).setCell (Nat.le_refl _) _).setCell (Nat.le_refl _) _)⟩
            · rw [if_neg h5] at h
              obtain ⟨rfl, rfl, rfl, rfl, rfl, rfl⟩ : 0 = r1 ∧ (⟨#[]⟩ : ByteArray) = r2 ∧ 0 = r3 ∧ [] = r4 ∧ (⟨#[]⟩ : ByteArray) = r5 ∧ d2 = r6 := by simpa using h
              have e5 : (d2 != 0) = true := bne_iff_ne.2 h5
              clear h h5
              go_wp2_with (first | (go_at_call 25; refine (message_Bodiless.calls q1 false _ HNB.out).mono ?_; rintro e w11 ⟨rfl, n2, rfl⟩; have PA := Aside0.mk (P9.out.below (pw_below_drewN (Below.refl _ _) n2)); have HCA := Aside0.mk (Kd.C_below HC9.out (pw_below_drewN (Below.refl _ _) n2)); have l1 := blk_cell PA.out.k 1; have l2 := blk_cell PA.out.k 2; have l4 := blk_cell PA.out.k 4; clear P9 RW b0 k4 HC9 HNB) | (go_at_call 31; refine (message_body k A1 c1 s2 q3 gr true d1 d2 b _ ⟨HT.out.below (below_step HB0.out PA.out.hb)⟩ l1 l2 l4 HCA.out hl HD.out).mono ?_; rintro e w12 ⟨rfl, hb⟩; have PB := Aside0.mk (PA.out.below hb); have PC := Aside0.mk (PB.out.putg 4 (.string d1) rfl); have HZC := blk_below HZ.out PC.out.hb; have HBC := Aside0.mk (below_step HB0.out PC.out.hb); have fB := blk_frozen PB.out.kg 4; have dd0 := blk_cell PB.out.kg 0; have dd1 := blk_cell PB.out.kg 1; have dd2 := blk_cell PB.out.kg 2; have dd3 := blk_cell PB.out.kg 3; have dd4 := blk_cell PB.out.kg 4; have HZB := blk_below HZ.out PB.out.hb; have z0 := blk_cell HZB 0; have zf0 := blk_frozen HZB 0; have z1 := blk_cell HZB 1; have zf1 := blk_frozen HZB 1; have z2 := blk_cell HZB 2; have zf2 := blk_frozen HZB 2; have z3 := blk_cell HZB 3; have zf3 := blk_frozen HZB 3; have z4 := blk_cell HZB 4; have zf4 := blk_frozen HZB 4; clear PA HCA l1 l2 l4 HD hb))
              refine bodyPost_ret (results_ct rfl _ _ w.heap.size 34 #[.int .i64 0, .string (⟨#[]⟩ : ByteArray), .int .i64 0, .slice none 0 0, .string (⟨#[]⟩ : ByteArray)] (0, 0) _ rfl (blk_put (blk_put (blk_put (blk_put (blk_put HZC 0 (.int .i64 0) rfl) 1 (.string (⟨#[]⟩ : ByteArray)) rfl) 2 (.int .i64 0) rfl) 3 (.slice none 0 0) rfl) 4 (.string (⟨#[]⟩ : ByteArray)) rfl) Tryz.underlying34 rfl (by kernel_rfl)) rfl ?_
              exact ⟨_, rfl, Kd.R_nil _ _ _ _ _, (((((HBC.out.setCell (Nat.le_refl _) _).setCell (Nat.le_refl _) _).setCell (Nat.le_refl _) _).setCell (Nat.le_refl _) _).setCell (Nat.le_refl _) _)⟩
    · rw [if_neg h2] at h
      obtain ⟨rfl, rfl, rfl, rfl, rfl, rfl⟩ : 0 = r1 ∧ (⟨#[]⟩ : ByteArray) = r2 ∧ 0 = r3 ∧ [] = r4 ∧ (⟨#[]⟩ : ByteArray) = r5 ∧ q4 = r6 := by simpa using h
      have e2 : (q4 != 0) = true := bne_iff_ne.2 h2
      clear h h2
      have HZ2 := blk_below HZ.out P2.out.hb
      have HB2 := Aside0.mk (below_step HB0.out P2.out.hb)
      have z0 := blk_cell HZ2 0
      have zf0 := blk_frozen HZ2 0
      have z1 := blk_cell HZ2 1
      have zf1 := blk_frozen HZ2 1
      have z2 := blk_cell HZ2 2
      have zf2 := blk_frozen HZ2 2
      have z3 := blk_cell HZ2 3
      have zf3 := blk_frozen HZ2 3
      have z4 := blk_cell HZ2 4
      have zf4 := blk_frozen HZ2 4
      go_wp2
      refine bodyPost_ret (results_ct rfl _ _ w.heap.size 34 #[.int .i64 0, .string (⟨#[]⟩ : ByteArray), .int .i64 0, .slice none 0 0, .string (⟨#[]⟩ : ByteArray)] (0, 0) _ rfl (blk_put (blk_put (blk_put (blk_put (blk_put HZ2 0 (.int .i64 0) rfl) 1 (.string (⟨#[]⟩ : ByteArray)) rfl) 2 (.int .i64 0) rfl) 3 (.slice none 0 0) rfl) 4 (.string (⟨#[]⟩ : ByteArray)) rfl) Tryz.underlying34 rfl (by kernel_rfl)) rfl ?_
      exact ⟨_, rfl, Kd.R_nil _ _ _ _ _, (((((HB2.out.setCell (Nat.le_refl _) _).setCell (Nat.le_refl _) _).setCell (Nat.le_refl _) _).setCell (Nat.le_refl _) _).setCell (Nat.le_refl _) _)⟩
  · rw [if_neg h1] at h
    obtain ⟨rfl, rfl, rfl, rfl, rfl, rfl⟩ : 0 = r1 ∧ (⟨#[]⟩ : ByteArray) = r2 ∧ 0 = r3 ∧ [] = r4 ∧ (⟨#[]⟩ : ByteArray) = r5 ∧ g1 = r6 := by simpa using h
    have e1 : (g1 != 0) = true := bne_iff_ne.2 h1
    have hgn := msgBegin_no hg h1
    rw [hgn] at hg
    have HG := Aside0.mk (message_begin_no a0 g1 h1 _ ⟨HT.out.below hb0⟩ hg)
    have HB0 := Aside0.mk hb0
    have HZ := Aside0.mk hz
    clear h hgn hg h1 hb0 hz
    go_enter Tryz.func12, Tryz.ntmps12
    go_wp2_with (go_at_call 27; refine HG.out.mono ?_; rintro e w1 ⟨rfl, hb⟩; have HZ1 := Aside0.mk (blk_below HZ.out hb); have HB1 := Aside0.mk (below_step HB0.out hb); have z0 := blk_cell HZ1.out 0; have zf0 := blk_frozen HZ1.out 0; have z1 := blk_cell HZ1.out 1; have zf1 := blk_frozen HZ1.out 1; have z2 := blk_cell HZ1.out 2; have zf2 := blk_frozen HZ1.out 2; have z3 := blk_cell HZ1.out 3; have zf3 := blk_frozen HZ1.out 3; have z4 := blk_cell HZ1.out 4; have zf4 := blk_frozen HZ1.out 4; clear HG HZ HB0 hb)
    refine bodyPost_ret (results_ct rfl _ _ w.heap.size 34 #[.int .i64 0, .string (⟨#[]⟩ : ByteArray), .int .i64 0, .slice none 0 0, .string (⟨#[]⟩ : ByteArray)] (0, 0) _ rfl (blk_put (blk_put (blk_put (blk_put (blk_put HZ1.out 0 (.int .i64 0) rfl) 1 (.string (⟨#[]⟩ : ByteArray)) rfl) 2 (.int .i64 0) rfl) 3 (.slice none 0 0) rfl) 4 (.string (⟨#[]⟩ : ByteArray)) rfl) Tryz.underlying34 rfl (by kernel_rfl)) rfl ?_
    exact ⟨_, rfl, Kd.R_nil _ _ _ _ _, (((((HB1.out.setCell (Nat.le_refl _) _).setCell (Nat.le_refl _) _).setCell (Nat.le_refl _) _).setCell (Nat.le_refl _) _).setCell (Nat.le_refl _) _)⟩

end Go.Proofs.YtjaklgikfcahdaaGreatDoor.PB
