/- Cuts, texts, tokens: the program's and the reference's. -/
import Derived.Test.YtljikgfhglihhaaDoorPuB
import Derived.Test.YtljikgfhglihhaaDoorOctet
import Derived.Test.YtljikgfhglihhaaDoorPR2
import Derived.Test.YtljikgfhglihhaaDoorPR2
import Derived.Test.YtljikgfhglihhaaDoorPR1
import Derived.Test.YtljikgfhglihhaaDoorPR5
import Derived.Test.YtljikgfhglihhaaDoorPR10
import Derived.Test.YtljikgfhglihhaaDoorPR7
import Derived.KernelRfl
namespace Go.Proofs.YtljikgfhglihhaaDoor.Pu
open Go.RowKit Go.Proofs.YtljikgfhglihhaaDoorW.PrintWords Go.Proofs.YtljikgfhglihhaaDoorW.PrintLast Go.Proofs.YtljikgfhglihhaaDoor.PR
set_option linter.unusedVariables false
set_option linter.unusedSimpArgs false

/-! ### cuts -/
def cutAt (c : UInt8) : List UInt8 → List UInt8 × List UInt8 × Bool
  | [] => ([], [], false)
  | x :: l => if x = c then ([], l, true) else (x :: (cutAt c l).1, (cutAt c l).2.1, (cutAt c l).2.2)
theorem cut_index (c : UInt8) : ∀ l, Lib.indexByte l c = if (cutAt c l).2.2 = true then ((cutAt c l).1.length : Int) else -1
  | [] => rfl
  | x :: l => by
    have ih := cut_index c l
    unfold Lib.indexByte cutAt
    by_cases h : x = c
    · subst h; simp
    · rw [if_neg (by simpa using h), if_neg h, ih]
      cases (cutAt c l).2.2
      · simp
      · simp only [if_true, List.length_cons]
        rw [if_neg (by simp <;> omega)]
        omega
theorem cut_yes (c : UInt8) : ∀ l, (cutAt c l).2.2 = true → l = (cutAt c l).1 ++ c :: (cutAt c l).2.1
  | [], h => by cases h
  | x :: l, h => by
    unfold cutAt at h ⊢
    by_cases e : x = c
    · subst e; simp
    · rw [if_neg e] at h
      simp only [if_neg e]
      have := cut_yes c l h
      rw [List.cons_append, ← this]
theorem cut_no (c : UInt8) : ∀ l, (cutAt c l).2.2 = false → (cutAt c l).1 = l ∧ (cutAt c l).2.1 = []
  | [], _ => ⟨rfl, rfl⟩
  | x :: l, h => by
    unfold cutAt at h ⊢
    by_cases e : x = c
    · rw [if_pos e] at h; cases h
    · rw [if_neg e] at h
      simp only [if_neg e]
      have := cut_no c l h
      exact ⟨by rw [this.1], this.2⟩
theorem cut_le (c : UInt8) (l : List UInt8) : (cutAt c l).1.length ≤ l.length ∧ (cutAt c l).2.1.length ≤ l.length := by
  cases h : (cutAt c l).2.2
  · have := cut_no c l h; rw [this.1, this.2]; simp
  · have := congrArg List.length (cut_yes c l h)
    simp at this
    omega
theorem prog_Cut (c : UInt8) (l : List UInt8) (h : l.length ≤ 4294967296) : octet_Cut.f (bOf l) (c.toNat : Int) = some (bOf (cutAt c l).1, bOf (cutAt c l).2.1, (cutAt c l).2.2) := by
  unfold octet_Cut.f strings_IndexByte.f
  rw [Option.bind_some, data_bOf, show ((c.toNat : Int)).toNat.toUInt8 = c by simp, cut_index]
  cases hh : (cutAt c l).2.2
  · have := cut_no c l hh
    simp only [Bool.false_eq_true, if_false]
    rw [if_pos (by decide), this.1, this.2]; rfl
  · have hy := cut_yes c l hh
    have hl := congrArg List.length hy
    simp at hl
    rw [if_pos rfl, if_neg (by omega), if_pos (by omega), bOf_size, if_pos (by omega), wrap_id (by omega) (by omega), if_pos (by omega), if_pos (by omega), bOf_extract, bOf_extract]
    have e1 : ((l.take ((cutAt c l).1.length : Int).toNat).drop 0) = (cutAt c l).1 := by
      rw [Int.toNat_natCast, List.drop_zero]
      conv => lhs; arg 2; rw [hy]
      exact List.take_left
    have e2 : ((l.take l.length).drop (((cutAt c l).1.length : Int) + 1).toNat) = (cutAt c l).2.1 := by
      rw [List.take_length, show (((cutAt c l).1.length : Int) + 1).toNat = (cutAt c l).1.length + 1 by omega]
      conv => lhs; arg 2; rw [hy]
      rw [List.drop_append, List.drop_eq_nil_of_le (by omega), show (cutAt c l).1.length + 1 - (cutAt c l).1.length = 1 by omega]
      rfl
    rw [e1, e2]
theorem rcut_l0 (c : UInt8) (l : List UInt8) (h : l.length ≤ 4294967296) (n : Nat) : ∀ (p s : List UInt8), s.length = n → l = p ++ s →
    Ev (fun k => depotref01_Cut.l0 k (bOf l) (c.toNat : Int) (p.length : Int)) (bOf (p ++ (cutAt c s).1), bOf (cutAt c s).2.1, (cutAt c s).2.2) := by
  induction n with
  | zero =>
    intro p s hs hl
    have : s = [] := List.eq_nil_of_length_eq_zero hs
    subst this
    rw [List.append_nil] at hl
    subst hl
    refine Ev.step (fun k => by rw [depotref01_Cut.l0]) (Ev.neg (by rw [bOf_size]; omega) (Ev.some' ?_))
    show (bOf l, bOf [], false) = (bOf (l ++ []), bOf [], false)
    rw [List.append_nil]
  | succ n ih =>
    intro p s hs hl
    obtain ⟨x, s, rfl⟩ : ∃ x t, s = x :: t := by
      cases s with
      | nil => simp at hs
      | cons x t => exact ⟨x, t, rfl⟩
    have hlen : l.length = p.length + (s.length + 1) := by rw [hl]; simp
    have hb : bt (bOf l) (p.length : Int) = (x.toNat : Int) := by
      rw [bt_bOf _ _ (by omega) (by omega), Int.toNat_natCast, at_, hl]
      simp [List.getD_eq_getElem?_getD]
    have hw : wrap64 ((p.length : Int) + 1) = (((p ++ [x]).length : Nat) : Int) := by rw [wrap_id (by omega) (by omega)]; simp
    refine Ev.step (fun k => by rw [depotref01_Cut.l0]) (Ev.pos (by rw [bOf_size]; omega) (Ev.pos (by omega) ?_))
    rw [hb, bOf_size]
    by_cases e : x = c
    · subst e
      have hc : cutAt x (x :: s) = ([], s, true) := by unfold cutAt; rw [if_pos rfl]
      rw [hc]
      refine Ev.pos rfl (Ev.pos (by omega) (Ev.pos (by rw [hw]; omega) (Ev.pos (by rw [hw]; simp; omega) (Ev.some' ?_))))
      rw [hw, bOf_extract, bOf_extract, Int.toNat_natCast, Int.toNat_natCast, List.take_length, List.append_nil, hl]
      congr 1
      · congr 1; simp
      · congr 1
        rw [show p ++ x :: s = (p ++ [x]) ++ s by simp, List.drop_left]
    · have hc : cutAt c (x :: s) = (x :: (cutAt c s).1, (cutAt c s).2.1, (cutAt c s).2.2) := by rw [cutAt, if_neg e]
      rw [hc]
      refine Ev.neg (fun h => e (by
        have : x.toNat = c.toNat := by omega
        exact UInt8.toNat_inj.1 this)) ?_
      rw [hw]
      refine Ev.eq (ih (p ++ [x]) s (by simpa using hs) (by rw [hl]; simp)) ?_
      simp
theorem ref_Cut (c : UInt8) (l : List UInt8) (h : l.length ≤ 4294967296) : Ev (fun k => depotref01_Cut.f k (bOf l) (c.toNat : Int)) (bOf (cutAt c l).1, bOf (cutAt c l).2.1, (cutAt c l).2.2) := by
  unfold depotref01_Cut.f
  exact rcut_l0 c l h _ [] l rfl rfl
/-! ### kinds -/
def textU (b : UInt8) : Bool := Hand.textB (b.toNat : Int)
def tokU (b : UInt8) : Bool := Hand.tokenB (b.toNat : Int)
theorem allB_list (p : Int → Bool) (l : List UInt8) : Hand.allB p (bOf l) (bOf l).size = l.all fun b => p (b.toNat : Int) := by
  rw [bOf_size]
  have key : ∀ n, n ≤ l.length → Hand.allB p (bOf l) n = (l.take n).all fun b => p (b.toNat : Int) := by
    intro n
    induction n with
    | zero => intro _; simp [Hand.allB_zero]
    | succ n ih =>
      intro hn
      rw [Hand.allB_succ, ih (by omega), List.take_add_one, List.all_append, bt_bOf _ _ (by omega) (by omega), Int.toNat_natCast, at_lt _ _ (by omega), List.getElem?_eq_getElem (by omega)]
      simp
  rw [key _ (Nat.le_refl _), List.take_length]
theorem prog_IsText (l : List UInt8) (h : l.length ≤ 4294967296) : octet_IsText.f (bOf l) = some (l.all textU) := by
  unfold octet_IsText.f
  rw [if_pos (by rw [bOf_size]; omega), allB_list]; rfl
theorem prog_IsToken (l : List UInt8) (h : l.length ≤ 4294967296) : octet_IsToken.f (bOf l) = some (!l.isEmpty && l.all tokU) := by
  unfold octet_IsToken.f octet_isToken
  rw [if_pos (by rw [bOf_size]; omega)]
  cases l with
  | nil => rfl
  | cons x l => rw [if_neg (by rw [bOf_size]; simp), allB_list]; rfl
theorem text_all : ∀ c : Fin 256, depotref01_Text.f ((c : Nat) : Int) = some (Hand.textB ((c : Nat) : Int)) := by decide +kernel
theorem ref_Text (b : UInt8) : depotref01_Text.f (b.toNat : Int) = some (textU b) := text_all ⟨b.toNat, b.toNat_lt⟩
theorem tok_all : ∀ c : Fin 256, depotref01_Token.f 20 ((c : Nat) : Int) = some (Hand.tokenB ((c : Nat) : Int)) := by decide +kernel
theorem ref_Token (b : UInt8) : Ev (fun k => depotref01_Token.f k (b.toNat : Int)) (tokU b) := Ev.of (depotref01_Token.mono _) (tok_all ⟨b.toNat, b.toNat_lt⟩)
theorem bt_at_cut (p : List UInt8) (x : UInt8) (s : List UInt8) : bt (bOf (p ++ x :: s)) (p.length : Int) = (x.toNat : Int) := by
  rw [bt_bOf _ _ (by omega) (by simp; omega), Int.toNat_natCast, at_]
  simp [List.getD_eq_getElem?_getD]
theorem rtext_l0 (l : List UInt8) (h : l.length ≤ 4294967296) (n : Nat) : ∀ (p s : List UInt8), s.length = n → l = p ++ s → Ev (fun k => depotref01_IsText.l0 k (bOf l) (p.length : Int)) (s.all textU) := by
  induction n with
  | zero =>
    intro p s hs hl
    have : s = [] := List.eq_nil_of_length_eq_zero hs
    subst this
    rw [List.append_nil] at hl
    subst hl
    refine Ev.step (fun k => by rw [depotref01_IsText.l0]) (Ev.neg (by rw [bOf_size]; omega) (Ev.some' ?_))
    rfl
  | succ n ih =>
    intro p s hs hl
    obtain ⟨x, s, rfl⟩ : ∃ x t, s = x :: t := by
      cases s with
      | nil => simp at hs
      | cons x t => exact ⟨x, t, rfl⟩
    have hlen : l.length = p.length + (s.length + 1) := by rw [hl]; simp
    have hb : bt (bOf l) (p.length : Int) = (x.toNat : Int) := by rw [hl]; exact bt_at_cut p x s
    have hw : wrap64 ((p.length : Int) + 1) = (((p ++ [x]).length : Nat) : Int) := by rw [wrap_id (by omega) (by omega)]; simp
    refine Ev.step (fun k => by rw [depotref01_IsText.l0]) (Ev.pos (by rw [bOf_size]; omega) (Ev.pos (by omega) ?_))
    rw [hb]
    refine Ev.sbind (ref_Text x) ?_
    rw [List.all_cons]
    cases hx : textU x
    · exact Ev.neg (by simp) (Ev.some' rfl)
    · refine Ev.pos rfl ?_
      rw [hw]
      exact Ev.eq (ih (p ++ [x]) s (by simpa using hs) (by rw [hl]; simp)) (by simp)
theorem ref_IsText (l : List UInt8) (h : l.length ≤ 4294967296) : Ev (fun k => depotref01_IsText.f k (bOf l)) (l.all textU) := by
  unfold depotref01_IsText.f
  exact rtext_l0 l h _ [] l rfl rfl
theorem rtok_l0 (l : List UInt8) (h : l.length ≤ 4294967296) (n : Nat) : ∀ (p s : List UInt8), s.length = n → l = p ++ s → Ev (fun k => depotref01_IsToken.l0 k (bOf l) (p.length : Int)) (!l.isEmpty && s.all tokU) := by
  induction n with
  | zero =>
    intro p s hs hl
    have : s = [] := List.eq_nil_of_length_eq_zero hs
    subst this
    rw [List.append_nil] at hl
    subst hl
    refine Ev.step (fun k => by rw [depotref01_IsToken.l0]) (Ev.neg (by rw [bOf_size]; omega) (Ev.some' ?_))
    rw [bOf_size]
    cases l <;> simp
  | succ n ih =>
    intro p s hs hl
    obtain ⟨x, s, rfl⟩ : ∃ x t, s = x :: t := by
      cases s with
      | nil => simp at hs
      | cons x t => exact ⟨x, t, rfl⟩
    have hlen : l.length = p.length + (s.length + 1) := by rw [hl]; simp
    have hb : bt (bOf l) (p.length : Int) = (x.toNat : Int) := by rw [hl]; exact bt_at_cut p x s
    have hw : wrap64 ((p.length : Int) + 1) = (((p ++ [x]).length : Nat) : Int) := by rw [wrap_id (by omega) (by omega)]; simp
    refine Ev.step (fun k => by rw [depotref01_IsToken.l0]) (Ev.pos (by rw [bOf_size]; omega) (Ev.pos (by omega) ?_))
    rw [hb]
    refine Ev.bind (ref_Token x) ?_
    rw [List.all_cons]
    cases hx : tokU x
    · exact Ev.neg (by simp) (Ev.some' (by simp))
    · refine Ev.pos rfl ?_
      rw [hw]
      exact Ev.eq (ih (p ++ [x]) s (by simpa using hs) (by rw [hl]; simp)) (by simp)
theorem ref_IsToken (l : List UInt8) (h : l.length ≤ 4294967296) : Ev (fun k => depotref01_IsToken.f k (bOf l)) (!l.isEmpty && l.all tokU) := by
  unfold depotref01_IsToken.f
  exact rtok_l0 l h _ [] l rfl rfl
def isTok (l : List UInt8) : Bool := !l.isEmpty && l.all tokU
def isTxt (l : List UInt8) : Bool := l.all textU
end Go.Proofs.YtljikgfhglihhaaDoor.Pu
