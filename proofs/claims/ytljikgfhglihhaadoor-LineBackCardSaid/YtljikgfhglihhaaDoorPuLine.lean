/- First lines of messages: readings, the program's and the reference's. -/
import Derived.Test.YtljikgfhglihhaaDoorPuCut
import Derived.Test.YtljikgfhglihhaaDoorPuDec
import Derived.Test.YtljikgfhglihhaaDoorPR2
import Derived.Test.YtljikgfhglihhaaDoorPR3
import Derived.Test.YtljikgfhglihhaaDoorPR4
import Derived.Test.YtljikgfhglihhaaDoorPR8
import Derived.Test.YtljikgfhglihhaaDoorPR11
import Derived.Lib.SplitLaws
namespace Go.Proofs.YtljikgfhglihhaaDoor.Pu
open Go.RowKit Go.Proofs.YtljikgfhglihhaaDoorW.PrintWords Go.Proofs.YtljikgfhglihhaaDoorW.PrintLast Go.Proofs.YtljikgfhglihhaaDoor.PR
set_option linter.unusedVariables false
set_option linter.unusedSimpArgs false

theorem pre_take (l p : List UInt8) (h : p.length ≤ l.length) : (l.take p.length == p) = p.isPrefixOf l := by
  have := Lib.hasPrefix_of_take l p
  unfold Lib.hasPrefix at this
  rw [← this, decide_eq_true h, Bool.true_and]
theorem prog_CutPrefix (l p : List UInt8) (h : l.length ≤ 4294967296) : strings_CutPrefix.f (bOf l) (bOf p) = some (if p.isPrefixOf l = true then (bOf (l.drop p.length), true) else (bOf l, false)) := by
  unfold strings_CutPrefix.f stringslite_CutPrefix.f stringslite_HasPrefix.f
  rw [bOf_size, bOf_size]
  by_cases hp : p.length ≤ l.length
  · rw [if_pos (by omega), if_pos (by omega), if_pos (by omega), bOf_extract, Int.toNat_natCast, List.drop_zero, toList_bOf, toList_bOf, pre_take l p hp, Option.bind_some]
    by_cases hq : p.isPrefixOf l = true
    · rw [if_pos hq, if_pos hq, if_pos (by omega), if_pos (by omega), bOf_extract, List.take_length]
      rfl
    · rw [if_neg hq, if_neg hq]
      rfl
  · have hq : ¬ p.isPrefixOf l = true := fun hq => hp (List.isPrefixOf_iff_prefix.1 hq).length_le
    rw [if_neg (by omega), Option.bind_some, if_neg (by simp), if_neg hq]
    rfl
/-! ### versions -/
def http : List UInt8 := [72, 84, 84, 80, 47, 49, 46]
def verL (l : List UInt8) : Int := if l = http ++ [48] then 0 else if l = http ++ [49] then 1 else -1
theorem verL_yes {l : List UInt8} (h : 0 ≤ verL l) : (l = http ++ [48] ∧ verL l = 0) ∨ (l = http ++ [49] ∧ verL l = 1) := by
  unfold verL at h ⊢
  split at h
  case isTrue c => exact Or.inl ⟨c, if_pos c⟩
  case isFalse c =>
    split at h
    case isTrue d => exact Or.inr ⟨d, by rw [if_neg c, if_pos d]⟩
    · omega
theorem prog_version (l : List UInt8) (h : l.length ≤ 4294967296) : line_version.f (bOf l) = some (if verL l < 0 then (0, false) else (verL l, true)) := by
  unfold line_version.f
  rw [show (⟨#[72, 84, 84, 80, 47, 49, 46]⟩ : ByteArray) = bOf http from rfl, prog_CutPrefix l http h, Option.bind_some]
  by_cases hp : http.isPrefixOf l = true
  · obtain ⟨t, rfl⟩ := List.isPrefixOf_iff_prefix.1 hp
    rw [if_pos hp]
    simp only [List.drop_left]
    rw [if_pos trivial, toList_bOf]
    by_cases c1 : t = [48]
    · subst c1
      rw [if_pos rfl, if_pos (by rw [bOf_size]; decide)]
      rfl
    · rw [if_neg c1]
      by_cases c2 : t = [49]
      · subst c2
        rw [if_pos rfl, if_pos (by rw [bOf_size]; decide)]
        rfl
      · rw [if_neg c2]
        have : verL (http ++ t) = -1 := by
          unfold verL
          rw [if_neg (fun e => c1 (List.append_cancel_left e)), if_neg (fun e => c2 (List.append_cancel_left e))]
        rw [this]
        rfl
  · rw [if_neg hp]
    simp only [Bool.false_eq_true, if_false]
    have : verL l = -1 := by
      unfold verL
      rw [if_neg (fun e => hp (List.isPrefixOf_iff_prefix.2 ⟨_, e.symm⟩)), if_neg (fun e => hp (List.isPrefixOf_iff_prefix.2 ⟨_, e.symm⟩))]
    rw [this]
    rfl
theorem ref_version (l : List UInt8) : depotref10_version.f (bOf l) = some (verL l) := by
  unfold depotref10_version.f
  rw [toList_bOf]
  show (if l = http ++ [48] then some 0 else if l = http ++ [49] then some 1 else some (-1)) = _
  unfold verL
  split
  · rfl
  · split <;> rfl
/-! ### splitting -/
def splitL (c : UInt8) : List UInt8 → List (List UInt8)
  | [] => [[]]
  | x :: l => if x = c then [] :: splitL c l else match splitL c l with | [] => [[x]] | h :: t => (x :: h) :: t
theorem splitL_cut (c : UInt8) : ∀ l, splitL c l = if (cutAt c l).2.2 = true then (cutAt c l).1 :: splitL c (cutAt c l).2.1 else [l]
  | [] => rfl
  | x :: l => by
    have ih := splitL_cut c l
    rw [splitL, cutAt]
    by_cases h : x = c
    · rw [if_pos h, if_pos h]; rfl
    · rw [if_neg h, if_neg h, ih]
      cases (cutAt c l).2.2 <;> rfl
theorem splitL_ne (c : UInt8) (l : List UInt8) : 1 ≤ (splitL c l).length := by
  rw [splitL_cut]; split <;> simp
theorem index_one (c : UInt8) : ∀ l, Lib.index l [c] = if (cutAt c l).2.2 = true then ((cutAt c l).1.length : Int) else -1
  | [] => rfl
  | x :: l => by
    have ih := index_one c l
    unfold Lib.index cutAt
    by_cases h : x = c
    · subst h; simp [List.isPrefixOf]
    · rw [if_neg (by simp [List.isPrefixOf]; exact fun e => h e.symm), if_neg h, ih]
      cases (cutAt c l).2.2
      · simp
      · simp only [if_true, List.length_cons]
        rw [if_neg (by simp <;> omega)]
        omega
theorem split_all (c : UInt8) (n : Nat) : ∀ l : List UInt8, l.length = n → Lib.splitB (bOf [c]) 0 (Lib.countB (bOf l) (bOf [c])) (bOf l) = (splitL c l).map bOf := by
  induction n using Nat.strongRecOn with
  | _ n ih =>
    intro l hl
    have hi : Lib.indexB (bOf l) (bOf [c]) = if (cutAt c l).2.2 = true then ((cutAt c l).1.length : Int) else -1 := index_one c l
    rw [splitL_cut]
    cases hh : (cutAt c l).2.2
    · rw [hh] at hi
      rw [Lib.countB_miss _ _ (by simpa using hi), Lib.splitB_zero]
      rfl
    · rw [hh] at hi
      have hy := cut_yes c l hh
      have hly := congrArg List.length hy
      simp at hly
      have hi' : Lib.indexB (bOf l) (bOf [c]) = ((cutAt c l).1.length : Nat) := by simpa using hi
      rw [Lib.countB_hit _ _ _ (by rw [bOf_size]; simp) hi', Nat.add_comm 1, Lib.splitB_hit _ _ _ _ _ hi', bOf_size, bOf_size, bOf_extract, bOf_extract, List.take_length]
      have e1 : (l.take ((cutAt c l).1.length + 0)).drop 0 = (cutAt c l).1 := by
        rw [Nat.add_zero, List.drop_zero]
        conv => lhs; arg 2; rw [hy]
        exact List.take_left
      have e2 : l.drop ((cutAt c l).1.length + [c].length) = (cutAt c l).2.1 := by
        conv => lhs; arg 2; rw [hy]
        rw [List.drop_append, List.drop_eq_nil_of_le (by simp), show (cutAt c l).1.length + [c].length - (cutAt c l).1.length = 1 by simp]
        rfl
      rw [e1, e2, ih (cutAt c l).2.1.length (by omega) _ rfl, if_pos rfl]
      rfl
theorem prog_Split (c : UInt8) (l : List UInt8) (h : l.length ≤ 100000) : strings_Split.f (bOf l) (bOf [c]) = some ((splitL c l).map bOf) := by
  unfold strings_Split.f
  rw [if_pos ⟨by rw [bOf_size]; omega, by rw [bOf_size]; simp⟩, split_all c _ l rfl]
/-! ### requests -/
def visU (b : UInt8) : Bool := visB (b.toNat : Int)
theorem prog_visible (l : List UInt8) (h : l.length ≤ 4294967296) : line_visible.f (bOf l) = some (l.all visU && !(l == [])) := by
  unfold line_visible.f
  rw [if_pos (by rw [bOf_size]; omega), allB_list, toList_bOf]
  rfl
def ReqOk (m t r : List UInt8) : Prop := isTok m = true ∧ ¬ t = [] ∧ t.all visU = true ∧ 0 ≤ verL r
instance (m t r : List UInt8) : Decidable (ReqOk m t r) := by unfold ReqOk; exact inferInstance
def reqE (m t r : List UInt8) : List UInt8 × List UInt8 × Int × Int := if ReqOk m t r then (m, t, verL r, 0) else ([], [], 0, 20)
def reqL (l : List UInt8) : List UInt8 × List UInt8 × Int × Int :=
  if 8192 < l.length then ([], [], 0, 4) else reqE (cutAt 32 l).1 (cutAt 32 (cutAt 32 l).2.1).1 (cutAt 32 (cutAt 32 l).2.1).2.1
def reqB (q : List UInt8 × List UInt8 × Int × Int) : ByteArray × ByteArray × Int × Int := (bOf q.1, bOf q.2.1, q.2.2.1, q.2.2.2)
theorem reqE_yes {m t r : List UInt8} (h : ReqOk m t r) : reqE m t r = (m, t, verL r, 0) := if_pos h
theorem reqE_no {m t r : List UInt8} (h : ¬ ReqOk m t r) : reqE m t r = ([], [], 0, 20) := if_neg h
theorem prog_req_end (a b r : List UInt8) (hr : r.length ≤ 4294967296) (hv : visU = visU) : Ev (fun k => line_Request.j0 k [bOf a, bOf b, bOf r] (!(b.all visU && !(b == [])))) (reqB (if ¬ b = [] ∧ b.all visU = true ∧ 0 ≤ verL r then (a, b, verL r, 0) else ([], [], 0, 20))) := by
  refine Ev.step (fun k => by rw [line_Request.j0]) ?_
  by_cases c1 : ¬ b = [] ∧ b.all visU = true
  · rw [c1.2, show (b == []) = false by simpa using c1.1]
    refine Ev.neg (by decide) (Ev.pos (by simp) ?_)
    rw [show rdOf ByteArray.empty [bOf a, bOf b, bOf r] 2 = bOf r from rfl]
    refine Ev.sbind (prog_version r hr) ?_
    by_cases c2 : verL r < 0
    · rw [if_pos c2]
      refine Ev.neg (by simp) (Ev.some' ?_)
      rw [if_neg (by omega)]; rfl
    · rw [if_neg c2]
      refine Ev.pos rfl (Ev.pos (by simp) (Ev.pos (by simp) (Ev.some' ?_)))
      rw [if_pos ⟨c1.1, rfl, by omega⟩]; rfl
  · have e : (b.all visU && !(b == [])) = false := by
      cases h : b.all visU
      · rfl
      · have : b = [] := Decidable.not_not.1 (fun hn => c1 ⟨hn, h⟩)
        rw [this]; rfl
    rw [e]
    refine Ev.pos rfl (Ev.some' ?_)
    rw [if_neg (fun h => c1 ⟨h.1, h.2.1⟩)]; rfl
theorem prog_Request (l : List UInt8) (h : l.length ≤ 100000) : Ev (fun k => line_Request.f k (bOf l)) (reqB (reqL l)) := by
  unfold line_Request.f reqL
  rw [bOf_size]
  by_cases h0 : 8192 < l.length
  · rw [if_pos h0]
    exact Ev.pos (by omega) (Ev.some' rfl)
  · rw [if_neg h0]
    refine Ev.neg (by omega) ?_
    rw [show (⟨#[32]⟩ : ByteArray) = bOf [32] from rfl]
    refine Ev.sbind (prog_Split 32 l h) ?_
    have jt : ∀ xs, Ev (fun k => line_Request.j0 k xs true) (reqB ([], [], 0, 20)) := fun xs => by
      refine Ev.step (fun k => by rw [line_Request.j0]) ?_
      exact Ev.pos rfl (Ev.some' rfl)
    have hle := cut_le 32 l
    rw [splitL_cut]
    cases h1 : (cutAt 32 l).2.2
    · rw [if_neg (by simp), (cut_no 32 l h1).2]
      refine Ev.neg (by simp) (Ev.eq (jt _) ?_)
      show _ = reqB (reqE (cutAt 32 l).1 [] [])
      rw [reqE_no (fun hk => hk.2.1 rfl)]
    · rw [if_pos rfl]
      generalize (cutAt 32 l).1 = a at hle ⊢
      generalize (cutAt 32 l).2.1 = r at hle ⊢
      have hle2 := cut_le 32 r
      rw [splitL_cut]
      cases h2 : (cutAt 32 r).2.2
      · rw [if_neg (by simp), (cut_no 32 r h2).2]
        refine Ev.neg (by simp) (Ev.eq (jt _) ?_)
        rw [reqE_no (fun hk => by have := hk.2.2.2; exact absurd this (by decide))]
      · rw [if_pos rfl]
        generalize (cutAt 32 r).1 = b at hle2 ⊢
        generalize (cutAt 32 r).2.1 = t at hle2 ⊢
        rw [splitL_cut]
        cases h3 : (cutAt 32 t).2.2
        · rw [if_neg (by simp)]
          refine Ev.pos (by simp) (Ev.pos (by simp) ?_)
          rw [show rdOf ByteArray.empty (List.map bOf [a, b, t]) 0 = bOf a from rfl, show rdOf ByteArray.empty (List.map bOf [a, b, t]) 1 = bOf b from rfl]
          refine Ev.sbind (prog_IsToken a (by omega)) ?_
          by_cases c1 : isTok a = true
          · have c1' : (!a.isEmpty && a.all tokU) = true := c1
            rw [c1']
            refine Ev.pos rfl (Ev.pos (by simp) (Ev.sbind (prog_visible b (by omega)) (Ev.eq (prog_req_end a b t (by omega) rfl) ?_)))
            by_cases c2 : ¬ b = [] ∧ b.all visU = true ∧ 0 ≤ verL t
            · rw [if_pos c2, reqE_yes ⟨c1, c2⟩]
            · rw [if_neg c2, reqE_no (fun hk => c2 hk.2)]
          · have c1' : (!a.isEmpty && a.all tokU) = false := by simpa [isTok] using c1
            rw [c1']
            refine Ev.neg (by simp) (Ev.eq (jt _) ?_)
            rw [reqE_no (fun hk => c1 hk.1)]
        · rw [if_pos rfl]
          have hn := splitL_ne 32 (cutAt 32 t).2.1
          refine Ev.neg (by simp; omega) (Ev.eq (jt _) ?_)
          rw [reqE_no (fun hk => ?_)]
          rcases verL_yes hk.2.2.2 with ⟨e, _⟩ | ⟨e, _⟩
          · rw [e] at h3; exact absurd h3 (by decide)
          · rw [e] at h3; exact absurd h3 (by decide)
theorem rreq_l0 (m t : List UInt8) (v : Int) (ht : t.length ≤ 100000) (n : Nat) : ∀ (p s : List UInt8), s.length = n → t = p ++ s → p.all visU = true →
    Ev (fun k => depotref10_Request.l0 k (bOf m) (bOf t) v (p.length : Int)) (reqB (if s.all visU = true then (m, t, v, 0) else ([], [], 0, 20))) := by
  induction n with
  | zero =>
    intro p s hs hl hp
    have : s = [] := List.eq_nil_of_length_eq_zero hs
    subst this
    rw [List.append_nil] at hl
    subst hl
    refine Ev.step (fun k => by rw [depotref10_Request.l0]) ?_
    exact Ev.neg (by rw [bOf_size]; omega) (Ev.some' rfl)
  | succ n ih =>
    intro p s hs hl hp
    obtain ⟨x, s, rfl⟩ : ∃ x t, s = x :: t := by
      cases s with
      | nil => simp at hs
      | cons x t => exact ⟨x, t, rfl⟩
    have hlen : t.length = p.length + (s.length + 1) := by rw [hl]; simp
    have hb : bt (bOf t) (p.length : Int) = (x.toNat : Int) := by rw [hl]; exact bt_at_cut p x s
    have hw : wrap64 ((p.length : Int) + 1) = (((p ++ [x]).length : Nat) : Int) := by rw [wrap_id (by omega) (by omega)]; simp
    refine Ev.step (fun k => by rw [depotref10_Request.l0]) (Ev.pos (by rw [bOf_size]; omega) (Ev.pos (by omega) ?_))
    rw [hb, hw, List.all_cons]
    by_cases c1 : (x.toNat : Int) < 33
    · have : visU x = false := by unfold visU visB; rw [decide_eq_false (by omega)]; rfl
      rw [this]
      exact Ev.pos c1 (Ev.some' rfl)
    · refine Ev.neg c1 ?_
      by_cases c2 : (x.toNat : Int) > 126
      · have : visU x = false := by unfold visU visB; rw [decide_eq_false (p := (x.toNat : Int) ≤ 126) (by omega), Bool.and_false]
        rw [this]
        exact Ev.pos c2 (Ev.some' rfl)
      · have : visU x = true := by unfold visU visB; rw [decide_eq_true (by omega), decide_eq_true (by omega)]; rfl
        rw [this, Bool.true_and]
        exact Ev.neg c2 (ih (p ++ [x]) s (by simpa using hs) (by rw [hl]; simp) (by rw [List.all_append, hp]; simp [this]))
theorem ref_Request (l : List UInt8) (h : l.length ≤ 100000) : Ev (fun k => depotref10_Request.f k (bOf l)) (reqB (reqL l)) := by
  unfold depotref10_Request.f reqL
  rw [bOf_size]
  by_cases h0 : 8192 < l.length
  · rw [if_pos h0]
    exact Ev.pos (by omega) (Ev.some' rfl)
  · rw [if_neg h0]
    have hle := cut_le 32 l
    have hle2 := cut_le 32 (cutAt 32 l).2.1
    refine Ev.neg (by omega) (Ev.bind (ref_Cut 32 l (by omega)) (Ev.bind (ref_Cut 32 (cutAt 32 l).2.1 (by omega)) ?_))
    simp only
    generalize (cutAt 32 l).1 = a at hle ⊢
    generalize (cutAt 32 (cutAt 32 l).2.1).1 = b at hle2 ⊢
    generalize (cutAt 32 (cutAt 32 l).2.1).2.1 = t at hle2 ⊢
    have jt : Ev (fun k => depotref10_Request.j0 k (bOf a) (bOf b) (verL t) true) (reqB ([], [], 0, 20)) := by
      refine Ev.step (fun k => by rw [depotref10_Request.j0]) ?_
      exact Ev.pos rfl (Ev.some' rfl)
    refine Ev.sbind (ref_version t) (Ev.bind (ref_IsToken a (by omega)) ?_)
    by_cases c1 : isTok a = true
    · have c1' : (!a.isEmpty && a.all tokU) = true := c1
      rw [c1']
      refine Ev.pos rfl ?_
      rw [toList_bOf]
      by_cases c2 : b = []
      · refine Ev.pos c2 (Ev.eq jt ?_)
        rw [reqE_no (fun hk => hk.2.1 c2)]
      · refine Ev.neg c2 ?_
        by_cases c3 : verL t < 0
        · rw [decide_eq_true c3]
          refine Ev.eq jt ?_
          rw [reqE_no (fun hk => by have := hk.2.2.2; omega)]
        · rw [decide_eq_false c3]
          refine Ev.step (fun k => by rw [depotref10_Request.j0]) ?_
          refine Ev.neg (by simp) (Ev.eq (rreq_l0 a b (verL t) (by omega) _ [] b rfl rfl rfl) ?_)
          by_cases c4 : b.all visU = true
          · rw [if_pos c4, reqE_yes ⟨c1, c2, c4, by omega⟩]
          · rw [if_neg c4, reqE_no (fun hk => c4 hk.2.2.1)]
    · have c1' : (!a.isEmpty && a.all tokU) = false := by simpa [isTok] using c1
      rw [c1']
      refine Ev.neg (by simp) (Ev.eq jt ?_)
      rw [reqE_no (fun hk => c1 hk.1)]
end Go.Proofs.YtljikgfhglihhaaDoor.Pu
