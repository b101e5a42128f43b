/- The statement TargetAny, without the program in sight. -/
import Derived.Test.YtghaocjhmambaaaDoorPuDec
import Derived.Test.YtghaocjhmambaaaDoorPR8
import Derived.Test.YtghaocjhmambaaaDoorPR22
namespace Go.Proofs.YtghaocjhmambaaaDoor.Pu
open Go.RowKit Go.Proofs.YtghaocjhmambaaaDoorW.PrintWords Go.Proofs.YtghaocjhmambaaaDoorW.PrintLast Go.Proofs.YtghaocjhmambaaaDoor.PR
set_option linter.unusedVariables false
set_option linter.unusedSimpArgs false

set_option maxRecDepth 100000 in
theorem plains_path : target_Path.f 60 (⟨#[47, 97, 47, 46, 47, 98, 47, 46, 46, 47, 99, 37, 55, 101, 37, 50, 102, 63, 120, 61, 37, 50, 101]⟩ : ByteArray) = some (bOf [47, 97, 47, 99, 126, 37, 50, 70, 63, 120, 61, 46], 0) := by kernel_rfl
set_option maxRecDepth 100000 in
theorem plains_parse : target_Parse.f 60 (⟨#[72, 84, 84, 80, 58, 47, 47, 69, 120, 46, 99, 111, 109, 58, 56, 48]⟩ : ByteArray) (⟨#[]⟩ : ByteArray) = some (bOf [101, 120, 46, 99, 111, 109], 80, bOf [47], 0) := by kernel_rfl
set_option maxRecDepth 100000 in
theorem plains_star : target_Parse.f 60 (⟨#[42]⟩ : ByteArray) (⟨#[97]⟩ : ByteArray) = some (bOf [], 0, bOf [], 23) := by kernel_rfl
set_option maxRecDepth 100000 in
theorem plains_beside : target_Parse.f 60 (⟨#[47, 120]⟩ : ByteArray) (bOf [101, 120, 46, 99, 111, 109, 58, 56, 48]) = some (bOf [101, 120, 46, 99, 111, 109], 80, bOf [47, 120], 0) := by kernel_rfl
theorem plain_80 : plain 80 = [56, 48] := by
  unfold plain
  rw [if_neg (by decide), digs_big (by decide) (by decide), digs_small (by decide)]
  rfl
theorem plains_resolve : target_Resolve.f 60 (bOf [101, 120, 46, 99, 111, 109]) 80 (bOf [47]) (⟨#[47, 120]⟩ : ByteArray) = some (bOf [101, 120, 46, 99, 111, 109], 80, bOf [47, 120], true) := by
  unfold target_Resolve.f
  rw [if_pos (by rw [bOf_size]; decide), prog_Plain 80 (by decide), plain_80, Option.bind_some, show (⟨#[58]⟩ : ByteArray) = bOf [58] from rfl]
  simp only [bOf_append, bOf_size]
  rw [if_pos (by decide)]
  rw [show ([101, 120, 46, 99, 111, 109] ++ [58] ++ [56, 48] : List UInt8) = [101, 120, 46, 99, 111, 109, 58, 56, 48] from rfl, plains_beside, Option.bind_some]
  rfl
theorem plains_key : target_Key.f (bOf [101, 120, 46, 99, 111, 109]) 80 (bOf [47]) = some (bOf [71, 69, 84, 32, 104, 116, 116, 112, 58, 47, 47, 101, 120, 46, 99, 111, 109, 47], 0) := by kernel_rfl
theorem plains_text : target_Text.f (bOf [101, 120, 46, 99, 111, 109]) 80 (bOf [47]) = some (bOf [104, 116, 116, 112, 58, 47, 47, 101, 120, 46, 99, 111, 109, 47]) := by kernel_rfl
theorem plains_true : Ev (fun k => depotlaw08_plains.f k) true := by
  unfold depotlaw08_plains.f
  refine Ev.bind (Ev.of (target_Path.mono _) plains_path) ?_
  refine Ev.bind (Ev.of (target_Parse.mono _ _) plains_parse) ?_
  refine Ev.bind (Ev.of (target_Parse.mono _ _) plains_star) ?_
  refine Ev.sbind plains_key ?_
  refine Ev.bind (Ev.of (target_Resolve.mono _ _ _ _) plains_resolve) ?_
  refine Ev.pos (toList_bOf _) (Ev.pos rfl (Ev.pos ?_ (Ev.pos rfl (Ev.pos rfl (Ev.pos (toList_bOf _) (Ev.pos rfl (Ev.pos (toList_bOf _) (Ev.pos rfl ?_))))))))
  · simp only [toList_bOf]; decide
  · refine Ev.sbind plains_text (Ev.some' ?_)
    rw [toList_bOf]
    rfl
theorem plains_end : Ev (fun k => (depotlaw08_plains.f k).bind fun t => some t) true := Ev.bind plains_true (Ev.some' rfl)
/-! ### the text and the key of a target -/
def httpT : List UInt8 := [104, 116, 116, 112, 58, 47, 47]
def textL (h : List UInt8) (p : Int) (t : List UInt8) : List UInt8 := if p = 80 then httpT ++ h ++ t else httpT ++ h ++ (58 :: plain p) ++ t
theorem text_len (h : List UInt8) (p : Int) (t : List UInt8) (hp : -9223372036854775808 ≤ p ∧ p ≤ 9223372036854775807) : (textL h p t).length ≤ 50 + h.length + t.length := by
  have := plain_len p hp
  unfold textL httpT
  split <;> simp <;> omega
theorem prog_Text (h : List UInt8) (p : Int) (t : List UInt8) (hh : h.length ≤ 100000) (ht : t.length ≤ 100000) (hp : -9223372036854775808 ≤ p ∧ p ≤ 9223372036854775807) : target_Text.f (bOf h) p (bOf t) = some (bOf (textL h p t)) := by
  have hl := plain_len p hp
  unfold target_Text.f textL
  rw [show (⟨#[104, 116, 116, 112, 58, 47, 47]⟩ : ByteArray) = bOf httpT from rfl, show (⟨#[58]⟩ : ByteArray) = bOf [58] from rfl]
  simp only [bOf_append, bOf_size]
  rw [if_pos (by omega)]
  by_cases c : p = 80
  · rw [if_pos c, if_pos c, if_pos (by simp [httpT]; omega)]
  · rw [if_neg c, if_neg c, prog_Plain p hp, Option.bind_some]
    simp only [bOf_append, bOf_size]
    rw [if_pos (by omega), if_pos (by simp [httpT]; omega), if_pos (by simp [httpT]; omega)]
    rfl
theorem ref_Text (h : List UInt8) (p : Int) (t : List UInt8) (hh : h.length ≤ 100000) (ht : t.length ≤ 100000) (hp : -9223372036854775808 ≤ p ∧ p ≤ 9223372036854775807) : Ev (fun k => depotref08_Text.f k (bOf h) p (bOf t)) (bOf (textL h p t)) := by
  have hl := plain_len p hp
  unfold depotref08_Text.f textL
  rw [show (⟨#[104, 116, 116, 112, 58, 47, 47]⟩ : ByteArray) = bOf httpT from rfl, show (⟨#[58]⟩ : ByteArray) = bOf [58] from rfl]
  simp only [bOf_append, bOf_size]
  by_cases c : p = 80
  · rw [if_pos c]
    exact Ev.pos c (Ev.pos (by omega) (Ev.pos (by simp [httpT]; omega) (Ev.some' rfl)))
  · rw [if_neg c]
    refine Ev.neg c (Ev.pos (by omega) (Ev.pos (by simp [httpT]; omega) (Ev.bind (ref_Plain p hp) ?_)))
    simp only [bOf_append, bOf_size]
    refine Ev.pos (by simp [httpT]; omega) (Ev.pos (by simp [httpT]; omega) (Ev.some' ?_))
    simp
def keyL (l : List UInt8) : List UInt8 × Int := if 255 < 4 + l.length then ([], 4) else ([71, 69, 84, 32] ++ l, 0)
theorem prog_Key (h : List UInt8) (p : Int) (t : List UInt8) (hh : h.length ≤ 100000) (ht : t.length ≤ 100000) (hp : -9223372036854775808 ≤ p ∧ p ≤ 9223372036854775807) : target_Key.f (bOf h) p (bOf t) = some (bOf (keyL (textL h p t)).1, (keyL (textL h p t)).2) := by
  have hl := text_len h p t hp
  unfold target_Key.f
  rw [prog_Text h p t hh ht hp, Option.bind_some, show (⟨#[71, 69, 84, 32]⟩ : ByteArray) = bOf [71, 69, 84, 32] from rfl]
  generalize textL h p t = l at hl ⊢
  simp only [bOf_append, bOf_size]
  rw [if_pos (by omega)]
  unfold keyL
  by_cases c : 255 < 4 + l.length
  · rw [if_pos (by simp; omega), if_pos c]; rfl
  · rw [if_neg (by simp; omega), if_neg c]
theorem ref_Key (h : List UInt8) (p : Int) (t : List UInt8) (hh : h.length ≤ 100000) (ht : t.length ≤ 100000) (hp : -9223372036854775808 ≤ p ∧ p ≤ 9223372036854775807) : Ev (fun k => depotref08_Key.f k (bOf h) p (bOf t)) (bOf (keyL (textL h p t)).1, (keyL (textL h p t)).2) := by
  have hl := text_len h p t hp
  unfold depotref08_Key.f
  refine Ev.bind (ref_Text h p t hh ht hp) ?_
  rw [show (⟨#[71, 69, 84, 32]⟩ : ByteArray) = bOf [71, 69, 84, 32] from rfl]
  generalize textL h p t = l at hl ⊢
  simp only [bOf_append, bOf_size]
  refine Ev.pos (by omega) ?_
  unfold keyL
  by_cases c : 255 < 4 + l.length
  · rw [if_pos c]
    exact Ev.pos (by simp; omega) (Ev.some' rfl)
  · rw [if_neg c]
    exact Ev.neg (by simp; omega) (Ev.some' rfl)
theorem any_law (a0 : ByteArray) (p : Int) (a2 : ByteArray) (w : a0.size ≤ 9223372036854775807 ∧ (Lit.int .i64 p).wf = true ∧ a2.size ≤ 9223372036854775807) : ∃ k, depotlaw08_TargetAny.f k a0 p a2 = some true := by
  have hp := wf64 w.2.1
  refine Ev.rounds ?_
  obtain ⟨h, rfl, hh⟩ := ex_bOf a0
  obtain ⟨t, rfl, ht⟩ := ex_bOf a2
  have j0t : Ev (fun k => depotlaw08_TargetAny.j0 k true (bOf h) p (bOf t)) true := by
    refine Ev.step (fun k => by rw [depotlaw08_TargetAny.j0]) ?_
    exact Ev.pos rfl plains_end
  unfold depotlaw08_TargetAny.f
  refine Ev.ite (fun _ => j0t) (fun h1 => ?_)
  by_cases h2 : ((bOf t).size : Int) > 1000
  · rw [decide_eq_true h2]; exact j0t
  · rw [decide_eq_false h2]
    rw [bOf_size] at h1 h2
    refine Ev.step (fun k => by rw [depotlaw08_TargetAny.j0]) ?_
    refine Ev.neg (by simp) (Ev.sbind (prog_Key h p t (by omega) (by omega) hp) (Ev.bind (ref_Key h p t (by omega) (by omega) hp) (Ev.sbind (prog_Text h p t (by omega) (by omega) hp) (Ev.bind (ref_Text h p t (by omega) (by omega) hp) ?_))))
    exact Ev.pos rfl (Ev.pos rfl (Ev.pos rfl plains_end))
end Go.Proofs.YtghaocjhmambaaaDoor.Pu
