/- The statements LineReads and LineWrites, without the program in sight. -/
import Derived.Test.YtljikgfhglihhaaDoorPuLineS
import Derived.Test.YtljikgfhglihhaaDoorPR5
import Derived.Test.YtljikgfhglihhaaDoorPR12
import Derived.Test.YtljikgfhglihhaaDoorPR14
namespace Go.Proofs.YtljikgfhglihhaaDoor.Pu
open Go.RowKit Go.Proofs.YtljikgfhglihhaaDoorW.PrintWords Go.Proofs.YtljikgfhglihhaaDoorW.PrintLast Go.Proofs.YtljikgfhglihhaaDoor.PR
set_option linter.unusedVariables false
set_option linter.unusedSimpArgs false

theorem lines_status : line_PrintStatus.f 200 (⟨#[79, 75]⟩ : ByteArray) 1 = some (bOf [72, 84, 84, 80, 47, 49, 46, 49, 32, 50, 48, 48, 32, 79, 75]) := by
  refine (prog_PrintStatus 200 [79, 75] 1 (by decide) (by decide) (by decide)).trans ?_
  have e1 : plain 1 = [49] := by unfold plain; rw [if_neg (by decide), digs_small (by decide)]; rfl
  have e2 : plain 200 = [50, 48, 48] := by
    unfold plain
    rw [if_neg (by decide), digs_big (by decide) (by decide), digs_big (by decide) (by decide), digs_small (by decide)]
    rfl
  unfold staW
  rw [e1, e2]
  rfl
theorem lines_request : line_PrintRequest.f (⟨#[65]⟩ : ByteArray) (⟨#[47]⟩ : ByteArray) 0 = some (bOf [65, 32, 47, 32, 72, 84, 84, 80, 47, 49, 46, 48]) := by
  refine (prog_PrintRequest [65] [47] 0 (by decide) (by decide) (by decide)).trans ?_
  have e1 : plain 0 = [48] := by unfold plain; rw [if_neg (by decide), digs_small (by decide)]; rfl
  unfold reqW
  rw [e1]
  rfl
theorem lines_true : Ev (fun k => depotlaw10_lines.f k) true := by
  unfold depotlaw10_lines.f
  refine Ev.bind (Ev.eq (prog_Request [71, 69, 84, 32, 47, 97, 32, 72, 84, 84, 80, 47, 49, 46, 49] (by decide)) (show _ = (bOf [71, 69, 84], bOf [47, 97], (1 : Int), (0 : Int)) by kernel_rfl)) ?_
  refine Ev.sbind ((prog_Status [72, 84, 84, 80, 47, 49, 46, 48, 32, 52, 48, 52, 32] (by decide)).trans (show _ = some ((404 : Int), bOf [], (0 : Int), (0 : Int)) by kernel_rfl)) ?_
  refine Ev.bind (Ev.eq (prog_Request [71, 69, 84, 32, 47, 97, 32, 72, 84, 84, 80, 47, 49, 46, 50] (by decide)) (show _ = (bOf [], bOf [], (0 : Int), (20 : Int)) by kernel_rfl)) ?_
  refine Ev.pos (toList_bOf _) (Ev.pos (toList_bOf _) (Ev.pos rfl (Ev.pos rfl (Ev.pos rfl (Ev.pos (toList_bOf _) (Ev.pos rfl (Ev.pos rfl (Ev.pos rfl ?_))))))))
  refine Ev.sbind (show line_Safe.f _ = some true by kernel_rfl) (Ev.pos rfl ?_)
  refine Ev.sbind (show line_Safe.f _ = some false by kernel_rfl) (Ev.neg (by simp) ?_)
  refine Ev.sbind (show line_Usual.f _ = some (bOf [78, 111, 116, 32, 77, 111, 100, 105, 102, 105, 101, 100]) by kernel_rfl) (Ev.pos (toList_bOf _) ?_)
  refine Ev.sbind lines_status (Ev.pos (toList_bOf _) ?_)
  refine Ev.sbind lines_request (Ev.some' ?_)
  rw [toList_bOf]
  rfl
theorem lines_end : Ev (fun k => (depotlaw10_lines.f k).bind fun t => some t) true := Ev.bind lines_true (Ev.some' rfl)
theorem reads_law (s : ByteArray) : ∃ k, depotlaw10_LineReads.f k s = some true := by
  refine Ev.rounds ?_
  obtain ⟨l, rfl, hl⟩ := ex_bOf s
  unfold depotlaw10_LineReads.f
  refine Ev.ite (fun _ => lines_end) (fun h1 => ?_)
  rw [bOf_size] at h1
  refine Ev.bind (prog_Request l (by omega)) (Ev.bind (ref_Request l (by omega)) (Ev.sbind (prog_Status l (by omega)) (Ev.bind (ref_Status l (by omega)) ?_)))
  exact Ev.pos rfl (Ev.pos rfl (Ev.pos rfl (Ev.pos rfl (Ev.pos rfl (Ev.pos rfl (Ev.pos rfl (Ev.pos rfl lines_end)))))))
/-! ### what is written -/
theorem ref_PrintRequest (m t : List UInt8) (v : Int) (hm : m.length ≤ 100000) (ht : t.length ≤ 100000) (h : -9223372036854775808 ≤ v ∧ v ≤ 9223372036854775807) : Ev (fun k => depotref10_PrintRequest.f k (bOf m) (bOf t) v) (bOf (reqW m t v)) := by
  have hp := plain_len v h
  unfold depotref10_PrintRequest.f
  rw [show (⟨#[32]⟩ : ByteArray) = bOf [32] from rfl, show (⟨#[32, 72, 84, 84, 80, 47, 49, 46]⟩ : ByteArray) = bOf (32 :: http) from rfl]
  simp only [bOf_append, bOf_size]
  refine Ev.pos (by omega) (Ev.pos (by simp; omega) (Ev.pos (by simp; omega) (Ev.bind (ref_Plain v h) (Ev.pos (by simp [http, bOf_size]; omega) (Ev.some' ?_)))))
  rw [bOf_append]
  simp [reqW]
theorem ref_PrintStatus (c : Int) (r : List UInt8) (v : Int) (hr : r.length ≤ 100000) (hc : -9223372036854775808 ≤ c ∧ c ≤ 9223372036854775807) (h : -9223372036854775808 ≤ v ∧ v ≤ 9223372036854775807) : Ev (fun k => depotref10_PrintStatus.f k c (bOf r) v) (bOf (staW c r v)) := by
  have hp := plain_len v h
  have hq := plain_len c hc
  unfold depotref10_PrintStatus.f
  rw [http_lit, show (⟨#[32]⟩ : ByteArray) = bOf [32] from rfl]
  refine Ev.bind (ref_Plain v h) ?_
  simp only [bOf_append, bOf_size]
  refine Ev.pos (by omega) (Ev.pos (by simp [http]; omega) (Ev.bind (ref_Plain c hc) ?_))
  simp only [bOf_append, bOf_size]
  refine Ev.pos (by simp [http]; omega) (Ev.pos (by simp [http]; omega) (Ev.pos (by simp [http]; omega) (Ev.some' ?_)))
  simp [staW]
theorem usual_eq (c : Int) : depotref10_Usual.f c = some (reasonOf c) := by
  unfold depotref10_Usual.f reasonOf
  repeat' split
  all_goals rfl
theorem safe_eq (m : ByteArray) : ∃ b, line_Safe.f m = some b ∧ depotref10_Safe.f m = some b := by
  unfold line_Safe.f depotref10_Safe.f
  by_cases c1 : m.toList = [71, 69, 84]
  · exact ⟨true, if_pos c1, if_pos c1⟩
  · rw [if_neg c1, if_neg c1]
    by_cases c2 : m.toList = [72, 69, 65, 68]
    · exact ⟨true, if_pos c2, if_pos c2⟩
    · rw [if_neg c2, if_neg c2]
      by_cases c3 : m.toList = [79, 80, 84, 73, 79, 78, 83]
      · exact ⟨true, if_pos c3, if_pos c3⟩
      · rw [if_neg c3, if_neg c3]
        by_cases c4 : m.toList = [84, 82, 65, 67, 69]
        · rw [if_pos c4, c4]
          exact ⟨true, rfl, rfl⟩
        · rw [if_neg c4]
          exact ⟨false, rfl, by rw [show (m.toList == ([84, 82, 65, 67, 69] : List UInt8)) = false by simpa using c4]⟩
theorem writes_law (a0 a1 : ByteArray) (c v : Int) (hc : (Lit.int .i64 c).wf = true) (hv : (Lit.int .i64 v).wf = true) : ∃ k, depotlaw10_LineWrites.f k a0 a1 c v = some true := by
  have hc := wf64 hc
  have hv := wf64 hv
  refine Ev.rounds ?_
  obtain ⟨m, rfl, hm⟩ := ex_bOf a0
  obtain ⟨t, rfl, ht⟩ := ex_bOf a1
  have j0t : Ev (fun k => depotlaw10_LineWrites.j0 k (bOf m) (bOf t) c v true) true := by
    refine Ev.step (fun k => by rw [depotlaw10_LineWrites.j0]) ?_
    exact Ev.pos rfl lines_end
  unfold depotlaw10_LineWrites.f
  refine Ev.ite (fun _ => j0t) (fun h1 => ?_)
  by_cases h2 : ((bOf t).size : Int) > 1000
  · rw [decide_eq_true h2]; exact j0t
  · rw [decide_eq_false h2]
    rw [bOf_size] at h1 h2
    refine Ev.step (fun k => by rw [depotlaw10_LineWrites.j0]) ?_
    refine Ev.neg (by simp) (Ev.sbind (prog_PrintRequest m t v (by omega) (by omega) hv) (Ev.bind (ref_PrintRequest m t v (by omega) (by omega) hv) (Ev.pos rfl ?_)))
    refine Ev.sbind (prog_PrintStatus c t v (by omega) hc hv) (Ev.bind (ref_PrintStatus c t v (by omega) hc hv) (Ev.pos rfl ?_))
    obtain ⟨b, e1, e2⟩ := safe_eq (bOf m)
    refine Ev.sbind e1 (Ev.sbind e2 (Ev.pos (by simp) ?_))
    exact Ev.sbind (show line_Usual.f c = some (reasonOf c) from rfl) (Ev.sbind (usual_eq c) (Ev.pos rfl lines_end))
end Go.Proofs.YtljikgfhglihhaaDoor.Pu
