/- Chunks: whole decodings, the program's and the reference's. -/
import Derived.Test.YtmmmfippfoginaaDoorPuChunk
namespace Go.Proofs.YtmmmfippfoginaaDoor.Pu
open Go.RowKit Go.Proofs.YtmmmfippfoginaaDoorW.PrintWords Go.Proofs.YtmmmfippfoginaaDoorW.PrintLast Go.Proofs.YtmmmfippfoginaaDoor.PR
set_option linter.unusedVariables false
set_option linter.unusedSimpArgs false

theorem dig16 (c : Int) : Hand.dig c 16 ≤ 15 := by
  unfold Hand.dig Hand.dig0
  repeat' split
  all_goals omega
theorem readGo_range (s : ByteArray) : ∀ (n : Nat) (acc : Int) (i j : Nat) (v : Int), n + j = 15 → 0 ≤ acc → acc < 16 ^ j → readGo s 16 n acc i = some v → 0 ≤ v ∧ v < 16 ^ 15
  | 0, acc, i, j, v, hj, h0, h1, h => by
    rw [readGo] at h
    obtain rfl := Option.some.inj h
    have : j = 15 := by omega
    subst this
    exact ⟨h0, h1⟩
  | n + 1, acc, i, j, v, hj, h0, h1, h => by
    rw [readGo] at h
    split at h
    case isTrue => cases h
    case isFalse hd =>
      have hd2 := dig16 (bt s i)
      have hp : (16 : Int) ^ (j + 1) ≤ 16 ^ 15 := by
        have : (16 : Nat) ^ (j + 1) ≤ 16 ^ 15 := Nat.pow_le_pow_right (by decide) (by omega)
        exact_mod_cast this
      have e15 : (16 : Int) ^ 15 = 1152921504606846976 := by decide
      have hs : (16 : Int) ^ (j + 1) = 16 ^ j * 16 := Int.pow_succ 16 j
      rw [wrap_id (n := acc * 16) (by omega) (by omega), wrap_id (by omega) (by omega)] at h
      exact readGo_range s n _ (i + 1) (j + 1) v (by omega) (by omega) (by omega) h
theorem readP_range (s : ByteArray) (most : Int) : 0 ≤ (readP s 16 15 most).1 := by
  unfold readP
  split
  · exact Int.le_refl _
  · split
    · exact Int.le_refl _
    case isFalse hl =>
      cases h : readGo s 16 s.size 0 0 with
      | none => exact Int.le_refl _
      | some v =>
        have hr : 0 ≤ v := by
          by_cases hz : s.size = 0
          · rw [hz, readGo] at h
            obtain rfl := Option.some.inj h
            exact Int.le_refl _
          · have key : ∀ (n : Nat), n ≤ 15 → ∀ (acc : Int) (i : Nat) (v : Int), 0 ≤ acc → acc < 16 ^ (15 - n) → readGo s 16 n acc i = some v → 0 ≤ v :=
              fun n hn acc i v h0 h1 h => (readGo_range s n acc i (15 - n) v (by omega) h0 h1 h).1
            have hp : (0 : Int) < 16 ^ (15 - s.size) := Int.pow_pos (by decide)
            exact key s.size (by omega) 0 0 v (Int.le_refl _) hp h
        show 0 ≤ (if most < v then ((0 : Int), (3 : Int)) else (v, 0)).1
        split
        · exact Int.le_refl _
        · exact hr
theorem szL_range (l : List UInt8) : 0 ≤ (szL l).1 ∧ (szL l).1 ≤ 65536 := by
  refine ⟨?_, szR_le _ _ _⟩
  unfold szL Hand.szR
  have := readP_range (bOf (trimR (cutAt 59 l).1)) 1152921504606846976
  split
  · exact Int.le_refl _
  · split
    · exact Int.le_refl _
    · split
      · exact Int.le_refl _
      · exact this
/-! ### trailers, decodings: over lists -/
def trL : Nat → Nat → List UInt8 → Int → Int × Int
  | 0, _, _, _ => (25, 0)
  | k + 1, n, s, g => match lineL s with
    | none => (25, g)
    | some (a, b) => if a = [] then (0, g + 2) else if ¬ (parseL a).2.2 = 0 then (25, g) else if n = 64 then (4, g) else trL k (n + 1) b (g + (a.length + 2))
def decL : Nat → List UInt8 → Int → List UInt8 → List UInt8 × Int × Int
  | 0, _, _, _ => ([], 0, 25)
  | k + 1, s, g, body => match lineL s with
    | none => ([], 0, 25)
    | some (a, b) =>
      if ¬ (szL a).2 = 0 then ([], 0, (szL a).2)
      else if 0 < (szL a).1 then
        if 65536 < body.length + (szL a).1 then ([], 0, 4)
        else if (b.length : Int) < (szL a).1 + 2 then ([], 0, 25)
        else if (b.drop (szL a).1.toNat).take 2 = [13, 10] then decL k (b.drop ((szL a).1 + 2).toNat) (g + (a.length + 2) + ((szL a).1 + 2)) (body ++ b.take (szL a).1.toNat)
        else ([], 0, 25)
      else if (trL (b.length + 1) 0 b (g + (a.length + 2))).1 = 0 then (body, (trL (b.length + 1) 0 b (g + (a.length + 2))).2, 0) else ([], 0, (trL (b.length + 1) 0 b (g + (a.length + 2))).1)
theorem line_len {s a b : List UInt8} (h : lineL s = some (a, b)) : s.length = a.length + 2 + b.length := by
  rw [line_eq s a b h]; simp; omega
theorem cut_line {s a b : List UInt8} (h : lineL s = some (a, b)) : (bOf s).extract 0 (a.length : Int).toNat = bOf a ∧ (bOf s).extract ((a.length : Int) + 2).toNat (bOf s).size = bOf b := by
  have e := line_eq s a b h
  constructor
  · rw [bOf_extract, Int.toNat_natCast, List.drop_zero, e, List.take_left]
  · rw [bOf_extract, bOf_size, List.take_length, e, show ((a.length : Int) + 2).toNat = a.length + 2 by omega, List.drop_append, List.drop_eq_nil_of_le (by omega), show a.length + 2 - a.length = 2 by omega]
    rfl
theorem prog_tr : ∀ (k n : Nat) (s : List UInt8) (g : Int), s.length < k → s.length ≤ 100000 → Hand.trGo fields_Parse.f k n (bOf s) g = some (trL k n s g)
  | 0, n, s, g, hk, hs => by omega
  | k + 1, n, s, g, hk, hs => by
    unfold Hand.trGo trL
    rw [lineI_list]
    cases hl : lineL s with
    | none => rw [if_pos (by decide)]
    | some q =>
      obtain ⟨a, b⟩ := q
      have hlen := line_len hl
      obtain ⟨e1, e2⟩ := cut_line hl
      simp only
      rw [if_neg (by omega), if_pos (by rw [bOf_size]; omega)]
      by_cases ha : a = []
      · rw [if_pos ha, if_pos (by rw [ha]; rfl)]
      · have ha0 : ¬ (a.length : Int) = 0 := fun e => ha (List.eq_nil_of_length_eq_zero (by omega))
        rw [if_neg ha, if_neg ha0, e1, e2, prog_Parse a (by omega), Option.bind_some]
        simp only
        by_cases c1 : (parseL a).2.2 = 0
        · rw [if_neg (not_not_intro c1), if_neg (not_not_intro c1)]
          by_cases c2 : n = 64
          · rw [if_pos c2, if_pos c2]
          · rw [if_neg c2, if_neg c2]
            exact prog_tr k (n + 1) b _ (by omega) (by omega)
        · rw [if_pos c1, if_pos c1]
theorem toList_two (l : List UInt8) (i j : Nat) : (((bOf l).extract i j).toList == [13, 10]) = true ↔ (l.take j).drop i = [13, 10] := by
  rw [bOf_extract, toList_bOf]; simp
theorem prog_dec : ∀ (k : Nat) (s : List UInt8) (g : Int) (body : List UInt8), s.length < k → s.length ≤ 100000 →
    Hand.decGo fields_Parse.f chunk_sz k (bOf s) g (bOf body) = some (bOf (decL k s g body).1, (decL k s g body).2.1, (decL k s g body).2.2)
  | 0, s, g, body, hk, hs => by omega
  | k + 1, s, g, body, hk, hs => by
    unfold Hand.decGo decL
    rw [lineI_list]
    cases hl : lineL s with
    | none => rw [if_pos (by decide)]; rfl
    | some q =>
      obtain ⟨a, b⟩ := q
      have hlen := line_len hl
      obtain ⟨e1, e2⟩ := cut_line hl
      have hr := szL_range a
      simp only
      rw [if_neg (by omega), if_pos (by rw [bOf_size]; omega), e1, e2, prog_sz a (by omega), Option.bind_some]
      by_cases c1 : (szL a).2 = 0
      · rw [if_neg (not_not_intro c1), if_neg (not_not_intro c1)]
        by_cases c2 : 0 < (szL a).1
        · rw [if_pos c2, if_pos c2, bOf_size, bOf_size]
          by_cases c3 : 65536 < body.length + (szL a).1
          · rw [if_pos c3, if_pos c3]; rfl
          · rw [if_neg c3, if_neg c3]
            by_cases c4 : (b.length : Int) < (szL a).1 + 2
            · rw [if_pos c4, if_pos c4]; rfl
            · rw [if_neg c4, if_neg c4]
              have e3 : (b.take ((szL a).1 + 2).toNat).drop (szL a).1.toNat = (b.drop (szL a).1.toNat).take 2 := by
                rw [List.drop_take]
                congr 1
                omega
              by_cases c5 : (b.drop (szL a).1.toNat).take 2 = [13, 10]
              · rw [if_pos ((toList_two _ _ _).2 (e3.trans c5)), if_pos c5]
                have e4 : (bOf b).extract ((szL a).1 + 2).toNat b.length = bOf (b.drop ((szL a).1 + 2).toNat) := by rw [bOf_extract, List.take_length]
                have e5 : bOf body ++ (bOf b).extract 0 (szL a).1.toNat = bOf (body ++ b.take (szL a).1.toNat) := by rw [bOf_extract, List.drop_zero, bOf_append]
                rw [e4, e5]
                exact prog_dec k _ _ _ (by simp; omega) (by simp; omega)
              · rw [if_neg (fun h => c5 (e3.symm.trans ((toList_two _ _ _).1 h))), if_neg c5]; rfl
        · rw [if_neg c2, if_neg c2, bOf_size, prog_tr _ 0 b _ (by omega) (by omega), Option.bind_some]
          split <;> rfl
      · rw [if_pos c1, if_pos c1]; rfl
def decode (l : List UInt8) : List UInt8 × Int × Int := decL (l.length + 1) l 0 []
theorem prog_Decode (l : List UInt8) (h : l.length ≤ 100000) : chunk_Decode.f (bOf l) = some (bOf (decode l).1, (decode l).2.1, (decode l).2.2) := by
  unfold chunk_Decode.f
  rw [if_pos (by rw [bOf_size]; omega), bOf_size]
  exact prog_dec _ l 0 [] (by omega) h
end Go.Proofs.YtmmmfippfoginaaDoor.Pu
