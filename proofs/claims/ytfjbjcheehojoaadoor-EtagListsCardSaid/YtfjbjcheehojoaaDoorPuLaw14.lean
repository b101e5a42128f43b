/- The pure statements of EtagReads and EtagLikes: the program's and the reference's answers are alike. -/
import Derived.Test.YtfjbjcheehojoaaDoorPu14
import Derived.Test.YtfjbjcheehojoaaDoorPR6
import Derived.Test.YtfjbjcheehojoaaDoorPR12
import Derived.Test.YtfjbjcheehojoaaDoorPR14
import Derived.KernelRfl
namespace Go.Proofs.YtfjbjcheehojoaaDoor.Pu
open Go.RowKit Go.Proofs.YtfjbjcheehojoaaDoorW.PrintWords Go.Proofs.YtfjbjcheehojoaaDoorW.PrintLast Go.Proofs.YtfjbjcheehojoaaDoor.PR
set_option linter.unusedVariables false
set_option linter.unusedSimpArgs false

theorem tags_60 : depotlaw14_tags.f 60 = some true := by kernel_rfl
theorem tags_true : Ev (fun k => depotlaw14_tags.f k) true := Ev.of depotlaw14_tags.mono tags_60
theorem tags_end : Ev (fun k => (depotlaw14_tags.f k).bind fun t => some t) true := Ev.bind tags_true (Ev.some' rfl)
theorem reads_law (s : ByteArray) (b0 : Bool) (b : ByteArray) : ∃ k, depotlaw14_EtagReads.f k s b0 b = some true := by
  refine Ev.rounds ?_
  unfold depotlaw14_EtagReads.f
  refine Ev.ite (fun h => ?_) (fun h => ?_)
  · refine Ev.step (fun k => by rw [depotlaw14_EtagReads.j0]) ?_
    exact Ev.pos rfl tags_end
  · refine Ev.step (fun k => by rw [depotlaw14_EtagReads.j0]) ?_
    refine Ev.ite (fun h2 => tags_end) (fun h2 => ?_)
    have hs : s.size ≤ 100000 := by omega
    refine Ev.sbind (parse_some s (by omega)) (Ev.bind (ref14_Parse s (by omega)) (Ev.bind (prog_List s hs) (Ev.bind (ref14_List s hs) ?_)))
    refine Ev.pos (by simp) (Ev.pos (by simp) ?_)
    have hl := listSpec_len s.data.toList
    rw [size_data] at hl
    refine Ev.bind (same14 _ (by omega)) (Ev.pos rfl (Ev.pos (by simp) (Ev.pos rfl ?_)))
    refine Ev.bind (prog_Match s b0 b hs) (Ev.bind (ref14_Match s b0 b hs) (Ev.pos (by simp) tags_end))
theorem likes_law (a0 : Bool) (a : ByteArray) (b0 : Bool) (b : ByteArray) : ∃ k, depotlaw14_EtagLikes.f k a0 a b0 b = some true := by
  refine Ev.rounds ?_
  unfold depotlaw14_EtagLikes.f
  refine Ev.ite (fun h => ?_) (fun h => ?_)
  · refine Ev.step (fun k => by rw [depotlaw14_EtagLikes.j0]) ?_
    exact Ev.pos rfl tags_end
  · refine Ev.step (fun k => by rw [depotlaw14_EtagLikes.j0]) ?_
    refine Ev.ite (fun h2 => tags_end) (fun h2 => ?_)
    have ha : a.size ≤ 1000 := by omega
    have hq : ((⟨#[34]⟩ : ByteArray) ++ a).size = a.size + 1 := by rw [ByteArray.size_append]; exact Nat.add_comm _ _
    have hq2 : (((⟨#[34]⟩ : ByteArray) ++ a) ++ (⟨#[34]⟩ : ByteArray)).size = a.size + 2 := by rw [ByteArray.size_append, hq]; rfl
    have hq3 : ((⟨#[87, 47, 34]⟩ : ByteArray) ++ a).size = a.size + 3 := by rw [ByteArray.size_append]; exact Nat.add_comm _ _
    have h1 : etag_Text.f a0 a = some (if a0 = true then (⟨#[87, 47]⟩ : ByteArray) ++ (((⟨#[34]⟩ : ByteArray) ++ a) ++ (⟨#[34]⟩ : ByteArray)) else ((⟨#[34]⟩ : ByteArray) ++ a) ++ (⟨#[34]⟩ : ByteArray)) := by
      unfold etag_Text.f
      rw [if_pos (by omega), if_pos (by omega)]
      by_cases h0 : a0 = true
      · rw [if_pos h0, if_pos (by omega), if_pos h0]
      · rw [if_neg h0, if_neg h0]
    have h2 : depotref14_Text.f a0 a = some (if a0 = true then (⟨#[87, 47]⟩ : ByteArray) ++ (((⟨#[34]⟩ : ByteArray) ++ a) ++ (⟨#[34]⟩ : ByteArray)) else ((⟨#[34]⟩ : ByteArray) ++ a) ++ (⟨#[34]⟩ : ByteArray)) := by
      unfold depotref14_Text.f
      by_cases h0 : a0 = true
      · rw [if_pos h0, if_pos (by omega), if_pos (by omega), if_pos h0]
        congr 1
      · rw [if_neg h0, if_pos (by omega), if_pos (by omega), if_neg h0]
    have hst : etag_Strong.f a0 a b0 b = depotref14_Strong.f a0 a b0 b := by
      unfold etag_Strong.f depotref14_Strong.f
      cases a0 <;> cases b0 <;> simp [etag_strong.f]
    obtain ⟨r, hr⟩ : ∃ r, depotref14_Strong.f a0 a b0 b = some r := by
      unfold depotref14_Strong.f
      cases a0 <;> cases b0 <;> simp
    refine Ev.sbind h1 (Ev.sbind h2 (Ev.pos rfl (Ev.sbind (hst.trans hr) (Ev.sbind hr (Ev.pos (by simp) ?_)))))
    exact Ev.sbind (weak_some _ _ _ _) (Ev.sbind (show depotref14_Weak.f _ _ _ _ = some _ from rfl) (Ev.pos (by simp) tags_end))
end Go.Proofs.YtfjbjcheehojoaaDoor.Pu
