/- Chunks: decoding, the program's and the reference's. -/
import Derived.Test.YtmmmfippfoginaaDoorPuField
import Derived.Test.YtmmmfippfoginaaDoorPuHexW
import Derived.Test.YtmmmfippfoginaaDoorPR2
import Derived.Test.YtmmmfippfoginaaDoorPR10
namespace Go.Proofs.YtmmmfippfoginaaDoor.Pu
open Go.RowKit Go.Proofs.YtmmmfippfoginaaDoorW.PrintWords Go.Proofs.YtmmmfippfoginaaDoorW.PrintLast Go.Proofs.YtmmmfippfoginaaDoor.PR
set_option linter.unusedVariables false
set_option linter.unusedSimpArgs false

/-! ### lines -/
def lineL : List UInt8 → Option (List UInt8 × List UInt8)
  | [] => none
  | c :: r => if ([13, 10] : List UInt8).isPrefixOf (c :: r) = true then some ([], r.drop 1) else (lineL r).map fun p => (c :: p.1, p.2)
theorem line_eq : ∀ (l a b : List UInt8), lineL l = some (a, b) → l = a ++ 13 :: 10 :: b
  | [], a, b, h => by cases h
  | c :: r, a, b, h => by
    unfold lineL at h
    split at h
    case isTrue hp =>
      obtain ⟨rfl, rfl⟩ : [] = a ∧ r.drop 1 = b := by simpa using h
      obtain ⟨t, ht⟩ := List.isPrefixOf_iff_prefix.1 hp
      obtain ⟨rfl, rfl⟩ : 13 = c ∧ 10 :: t = r := by simpa using ht
      rfl
    case isFalse =>
      cases hr : lineL r with
      | none => rw [hr] at h; cases h
      | some q =>
        rw [hr] at h
        obtain ⟨rfl, rfl⟩ : c :: q.1 = a ∧ q.2 = b := by simpa using h
        have := line_eq r q.1 q.2 hr
        rw [List.cons_append, ← this]
theorem line_index : ∀ l : List UInt8, Lib.index l [13, 10] = match lineL l with | none => -1 | some q => (q.1.length : Int)
  | [] => rfl
  | c :: r => by
    have ih := line_index r
    unfold Lib.index lineL
    by_cases hp : ([13, 10] : List UInt8).isPrefixOf (c :: r) = true
    · rw [if_pos hp, if_pos hp]; rfl
    · rw [if_neg hp, if_neg hp, ih]
      cases lineL r with
      | none => rfl
      | some q =>
        simp only [Option.map_some, List.length_cons]
        rw [if_neg (by simp <;> omega)]
        simp
theorem lineI_list (l : List UInt8) : Hand.lineI (bOf l) = match lineL l with | none => -1 | some q => (q.1.length : Int) := line_index l
/-! ### sizes -/
def szL (l : List UInt8) : Int × Int := Hand.szR (readP (bOf (trimR (cutAt 59 l).1)) 16 15 1152921504606846976).1 (readP (bOf (trimR (cutAt 59 l).1)) 16 15 1152921504606846976).2 (isTxt (cutAt 59 l).2.1)
theorem trimR_le (l : List UInt8) : (trimR l).length ≤ l.length := by
  unfold trimR
  rw [List.length_reverse]
  have := (List.dropWhile_suffix (p := isBl) (l := l.reverse)).length_le
  simpa using this
theorem prog_sz (l : List UInt8) (h : l.length ≤ 100000) : chunk_sz (bOf l) = some (szL l) := by
  have hc := cut_le 59 l
  have ht := trimR_le (cutAt 59 l).1
  unfold chunk_sz szL
  rw [show (59 : Int) = (((59 : UInt8).toNat : Nat) : Int) by rfl, prog_Cut 59 l (by omega)]
  simp only [Option.bind_some]
  unfold strings_TrimRight.f
  rw [if_pos ⟨by rw [bOf_size]; omega, by decide, by decide⟩, Option.bind_some, data_bOf]
  have e : (⟨(Lib.trimRightS (cutAt 59 l).1 (⟨#[32, 9]⟩ : ByteArray).data.toList).toArray⟩ : ByteArray) = bOf (trimR (cutAt 59 l).1) := rfl
  rw [e, prog_ReadHex _ _ (by rw [bOf_size]; omega), Option.bind_some, prog_IsText _ (by omega)]
  rfl
theorem rsz_j2 (v : Int) (b : Bool) : Ev (fun k => depotref11_size.j2 k v b) (if b = true then (0, 25) else if 65536 < v then (0, 4) else (v, 0)) := by
  refine Ev.step (fun k => by rw [depotref11_size.j2]) (Ev.ite (fun h => Ev.some' ?_) (fun h => Ev.ite (fun h2 => Ev.some' ?_) (fun h2 => Ev.some' ?_)))
  · rw [if_pos h]
  · rw [if_neg h, if_pos (by omega)]
  · rw [if_neg h, if_neg (by omega)]
theorem rsz_j1 (d m : List UInt8) (has : Bool) (hd : d.length ≤ 100000) (hm : m.length ≤ 100000) (hh : has = false → m = []) :
    Ev (fun k => depotref11_size.j1 k (bOf d) (bOf m) has) (Hand.szR (readP (bOf d) 16 15 1152921504606846976).1 (readP (bOf d) 16 15 1152921504606846976).2 (isTxt m)) := by
  refine Ev.step (fun k => by rw [depotref11_size.j1]) (Ev.bind (ref_ReadHex _ _ (by rw [bOf_size]; omega)) ?_)
  unfold Hand.szR
  by_cases c1 : (readP (bOf d) 16 15 1152921504606846976).2 = 0
  · rw [if_neg (by simpa using c1)]
    refine Ev.pos c1 ?_
    cases has
    · refine Ev.neg (by simp) (Ev.eq (rsz_j2 _ _) ?_)
      obtain rfl := hh rfl
      rfl
    · refine Ev.pos rfl (Ev.bind (ref_IsText m (by omega)) (Ev.eq (rsz_j2 _ _) ?_))
      show _ = if isTxt m = false then _ else _
      unfold isTxt
      cases m.all textU <;> rfl
  · rw [if_pos c1]
    exact Ev.neg c1 (Ev.eq (rsz_j2 _ _) (if_pos rfl))
theorem rsz_l0 (m : List UInt8) (has : Bool) (hm : m.length ≤ 100000) (hh : has = false → m = []) (n : Nat) : ∀ d : List UInt8, d.length = n → n ≤ 100000 →
    Ev (fun k => depotref11_size.l0 k (bOf d) (bOf m) has) (Hand.szR (readP (bOf (trimR d)) 16 15 1152921504606846976).1 (readP (bOf (trimR d)) 16 15 1152921504606846976).2 (isTxt m)) := by
  induction n with
  | zero =>
    intro d hd hn
    have : d = [] := List.eq_nil_of_length_eq_zero hd
    subst this
    refine Ev.step (fun k => by rw [depotref11_size.l0]) (Ev.neg (by rw [bOf_size]; simp) ?_)
    exact rsz_j1 [] m has (by simp) hm hh
  | succ n ih =>
    intro d hd hn
    obtain ⟨e, x, rfl⟩ : ∃ e x, d = e ++ [x] := by
      rcases List.eq_nil_or_concat d with h | ⟨e, x, h⟩
      · subst h; simp at hd
      · exact ⟨e, x, by simpa using h⟩
    have he : e.length = n := by simpa using hd
    have e0 : (bOf (e ++ [x])).size = e.length + 1 := by rw [bOf_size]; simp
    have hw : wrap64 (((bOf (e ++ [x])).size : Int) - 1) = (e.length : Int) := by rw [e0, wrap_id (by omega) (by omega)]; omega
    have hb : bt (bOf (e ++ [x])) (e.length : Int) = (x.toNat : Int) := bt_at_cut e x []
    have hx : (bOf (e ++ [x])).extract 0 ((e.length : Int)).toNat = bOf e := by
      rw [bOf_extract, Int.toNat_natCast, List.drop_zero, List.take_left]
    have ht : trimR (e ++ [x]) = if isBl x = true then trimR e else e ++ [x] := by
      unfold trimR
      rw [List.reverse_append, List.reverse_singleton, List.singleton_append, List.dropWhile_cons]
      split <;> simp
    have h32 : (x.toNat : Int) = 32 ↔ x = 32 := u8_eq (by decide)
    have h9 : (x.toNat : Int) = 9 ↔ x = 9 := u8_eq (by decide)
    refine Ev.step (fun k => by rw [depotref11_size.l0]) (Ev.pos (by rw [e0]; omega) ?_)
    rw [hw, hb, hx]
    refine Ev.pos (by omega) (Ev.pos (by rw [e0]; omega) ?_)
    by_cases c1 : x = 32
    · have : isBl x = true := by subst c1; rfl
      rw [ht, if_pos this]
      exact Ev.pos (h32.2 c1) (Ev.pos (by rw [e0]; omega) (ih e he (by omega)))
    · refine Ev.neg (fun h => c1 (h32.1 h)) ?_
      by_cases c2 : x = 9
      · have : isBl x = true := by subst c2; rfl
        rw [ht, if_pos this]
        exact Ev.pos (h9.2 c2) (Ev.pos (by rw [e0]; omega) (ih e he (by omega)))
      · have : ¬ isBl x = true := by simp [isBl, c1, c2]
        rw [ht, if_neg this]
        exact Ev.neg (fun h => c2 (h9.1 h)) (rsz_j1 _ m has (by simp; omega) hm hh)
theorem ref_sz (l : List UInt8) (h : l.length ≤ 100000) : Ev (fun k => depotref11_size.f k (bOf l)) (szL l) := by
  have hc := cut_le 59 l
  unfold depotref11_size.f
  refine Ev.bind (ref_Cut 59 l (by omega)) ?_
  exact rsz_l0 _ _ (by omega) (fun h0 => (cut_no 59 l h0).2) _ _ rfl (by omega)
end Go.Proofs.YtmmmfippfoginaaDoor.Pu
