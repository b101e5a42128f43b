/- Chunks: the reference's decoding. -/
import Derived.Test.YtmmmfippfoginaaDoorPuChunk2
namespace Go.Proofs.YtmmmfippfoginaaDoor.Pu
open Go.RowKit Go.Proofs.YtmmmfippfoginaaDoorW.PrintWords Go.Proofs.YtmmmfippfoginaaDoorW.PrintLast Go.Proofs.YtmmmfippfoginaaDoor.PR
set_option linter.unusedVariables false
set_option linter.unusedSimpArgs false

def endI (n : Nat) (s : List UInt8) : Int := match lineL s with | none => -1 | some q => (n : Int) + q.1.length
theorem endI_cons (n : Nat) (c d : UInt8) (r : List UInt8) : endI n (c :: d :: r) = if c = 13 ∧ d = 10 then (n : Int) else endI (n + 1) (d :: r) := by
  unfold endI
  conv => lhs; unfold lineL
  by_cases h : c = 13 ∧ d = 10
  · obtain ⟨rfl, rfl⟩ := h
    rw [if_pos (show ([13, 10] : List UInt8).isPrefixOf (13 :: 10 :: r) = true by simp [List.isPrefixOf]), if_pos ⟨rfl, rfl⟩]
    simp
  · rw [if_neg h, if_neg (by
      intro hp
      obtain ⟨t, ht⟩ := List.isPrefixOf_iff_prefix.1 hp
      simp at ht
      exact h ⟨ht.1.symm, ht.2.1.symm⟩)]
    cases lineL (d :: r) with
    | none => rfl
    | some q => simp only [Option.map_some, List.length_cons]; omega
theorem end_l0 (l : List UInt8) (hl : l.length ≤ 100000) (n : Nat) : ∀ (p s : List UInt8), s.length = n → l = p ++ s → Ev (fun k => depotref11_end.l0 k (bOf l) (p.length : Int)) (endI p.length s) := by
  induction n with
  | zero =>
    intro p s hs he
    have : s = [] := List.eq_nil_of_length_eq_zero hs
    subst this
    rw [List.append_nil] at he
    subst he
    refine Ev.step (fun k => by rw [depotref11_end.l0]) (Ev.neg (by rw [bOf_size, wrap_id (by omega) (by omega)]; omega) (Ev.some' ?_))
    rfl
  | succ n ih =>
    intro p s hs he
    obtain ⟨x, s, rfl⟩ : ∃ x t, s = x :: t := by
      cases s with
      | nil => simp at hs
      | cons x t => exact ⟨x, t, rfl⟩
    have hlen : l.length = p.length + (s.length + 1) := by rw [he]; simp
    have hw : wrap64 ((p.length : Int) + 1) = (p.length : Int) + 1 := wrap_id (by omega) (by omega)
    refine Ev.step (fun k => by rw [depotref11_end.l0]) ?_
    rw [hw, bOf_size]
    cases s with
    | nil =>
      refine Ev.neg (by simp at hlen; omega) (Ev.some' ?_)
      unfold endI lineL
      rw [if_neg (by simp [List.isPrefixOf])]
      rfl
    | cons d r =>
      simp at hlen
      refine Ev.pos (by omega) (Ev.pos (by omega) (Ev.pos (by omega) ?_))
      have hb : bt (bOf l) (p.length : Int) = (x.toNat : Int) := by rw [he]; exact bt_at_cut p x (d :: r)
      have hl1 : ((p ++ [x]).length : Int) = (p.length : Int) + 1 := by simp
      have hb2 : bt (bOf l) ((p.length : Int) + 1) = (d.toNat : Int) := by
        rw [← hl1, he, show p ++ x :: d :: r = (p ++ [x]) ++ d :: r by simp]
        exact bt_at_cut (p ++ [x]) d r
      have hn : Ev (fun k => depotref11_end.l0 k (bOf l) ((p.length : Int) + 1)) (endI (p.length + 1) (d :: r)) := by
        have := ih (p ++ [x]) (d :: r) (by simpa using hs) (by rw [he]; simp)
        rw [hl1] at this
        simpa using this
      rw [hb, hb2, endI_cons]
      have h13 : (x.toNat : Int) = 13 ↔ x = 13 := u8_eq (by decide)
      have h10 : (d.toNat : Int) = 10 ↔ d = 10 := u8_eq (by decide)
      by_cases c1 : x = 13
      · refine Ev.pos (h13.2 c1) (Ev.pos (by omega) ?_)
        by_cases c2 : d = 10
        · rw [if_pos ⟨c1, c2⟩]
          exact Ev.pos (h10.2 c2) (Ev.some' rfl)
        · rw [if_neg (fun h => c2 h.2)]
          exact Ev.neg (fun h => c2 (h10.1 h)) hn
      · rw [if_neg (fun h => c1 h.1)]
        exact Ev.neg (fun h => c1 (h13.1 h)) hn
theorem ref_end (p s : List UInt8) (h : (p ++ s).length ≤ 100000) : Ev (fun k => depotref11_end.f k (bOf (p ++ s)) (p.length : Int)) (endI p.length s) := by
  unfold depotref11_end.f
  exact end_l0 _ h _ p s rfl rfl
theorem cut_mid (p a b : List UInt8) : (bOf (p ++ (a ++ b))).extract ((p.length : Int)).toNat ((p.length : Int) + a.length).toNat = bOf a := by
  rw [bOf_extract, show ((p.length : Int) + a.length).toNat = p.length + a.length by omega, Int.toNat_natCast, ← List.append_assoc, show p.length + a.length = (p ++ a).length by simp, List.take_left, List.drop_left]
theorem ref_tr (body : List UInt8) : ∀ (k n : Nat) (p s : List UInt8), s.length < k → (p ++ s).length ≤ 100000 → n ≤ 64 →
    Ev (fun k => depotref11_Decode.l1 k (bOf (p ++ s)) (bOf body) (p.length : Int) (n : Int)) (if (trL k n s p.length).1 = 0 then (bOf body, (trL k n s p.length).2, 0) else (bOf [], 0, (trL k n s p.length).1))
  | 0, n, p, s, hk, hs, hn => by omega
  | k + 1, n, p, s, hk, hs, hn => by
    refine Ev.step (fun k => by rw [depotref11_Decode.l1]) (Ev.bind (ref_end p s hs) ?_)
    unfold trL endI
    cases hl : lineL s with
    | none => exact Ev.pos (by show (-1 : Int) < 0; decide) (Ev.some' rfl)
    | some q =>
      obtain ⟨a, b⟩ := q
      have hlen := line_len hl
      have he := line_eq s a b hl
      have hps : (p ++ s).length = p.length + s.length := by simp
      simp only
      refine Ev.neg (by omega) ?_
      by_cases ha : a = []
      · subst ha
        refine Ev.pos (by simp) (Ev.some' ?_)
        rw [if_pos rfl, if_pos rfl, wrap_id (by omega) (by omega)]
      · have ha0 : 0 < a.length := List.length_pos_iff.2 ha
        refine Ev.neg (by omega) (Ev.pos (by omega) (Ev.pos (by omega) (Ev.pos (by rw [bOf_size]; omega) ?_)))
        have hx : (bOf (p ++ s)).extract ((p.length : Int)).toNat ((p.length : Int) + a.length).toNat = bOf a := by rw [he]; exact cut_mid p a _
        rw [hx, if_neg ha]
        refine Ev.bind (ref_Parse a (by omega)) ?_
        simp only
        by_cases c1 : (parseL a).2.2 = 0
        · refine Ev.pos c1 ?_
          rw [if_neg (not_not_intro c1)]
          by_cases c2 : n = 64
          · rw [if_pos c2]
            exact Ev.pos (by omega) (Ev.some' rfl)
          · rw [if_neg c2]
            refine Ev.neg (by omega) ?_
            have e1 : wrap64 ((p.length : Int) + a.length + 2) = (((p ++ (a ++ [13, 10])).length : Nat) : Int) := by rw [wrap_id (by omega) (by omega)]; simp; omega
            have e2 : wrap64 ((n : Int) + 1) = ((n + 1 : Nat) : Int) := by rw [wrap_id (by omega) (by omega)]; rfl
            have e3 : p ++ s = (p ++ (a ++ [13, 10])) ++ b := by rw [he]; simp
            have e4 : (p.length : Int) + (a.length + 2) = (((p ++ (a ++ [13, 10])).length : Nat) : Int) := by simp
            rw [e1, e2, e4]
            rw [e3] at hs ⊢
            clear e1 e2 e3 e4 hx he hl
            generalize p ++ (a ++ [13, 10]) = q at hs ⊢
            exact ref_tr body k (n + 1) q b (by omega) hs (by omega)
        · rw [if_pos c1]
          exact Ev.neg c1 (Ev.some' rfl)
theorem two_at (q : List UInt8) (n : Nat) (b : List UInt8) (h : n + 2 ≤ b.length) :
    bt (bOf (q ++ b)) ((q.length : Int) + n) = at_ b n ∧ bt (bOf (q ++ b)) ((q.length : Int) + n + 1) = at_ b (n + 1) ∧ ((b.drop n).take 2 = [13, 10] ↔ at_ b n = 13 ∧ at_ b (n + 1) = 10) := by
  have key : ∀ m, m < b.length → bt (bOf (q ++ b)) ((q.length : Int) + m) = at_ b m := by
    intro m hm
    rw [bt_bOf _ _ (by omega) (by simp; omega), show ((q.length : Int) + m).toNat = q.length + m by omega, at_, at_]
    simp [List.getD_eq_getElem?_getD, List.getElem?_append_right]
  refine ⟨key n (by omega), by have := key (n + 1) (by omega); rw [← this]; congr 1, ?_⟩
  have e : (b.drop n).take 2 = [b[n]'(by omega), b[n + 1]'(by omega)] := by
    rw [List.drop_eq_getElem_cons (by omega), List.drop_eq_getElem_cons (by omega)]
    rfl
  rw [e, at_lt _ _ (by omega), at_lt _ _ (by omega)]
  have h13 : ((b[n]'(by omega)).toNat : Int) = 13 ↔ b[n]'(by omega) = 13 := u8_eq (by decide)
  have h10 : ((b[n + 1]'(by omega)).toNat : Int) = 10 ↔ b[n + 1]'(by omega) = 10 := u8_eq (by decide)
  rw [h13, h10]
  simp
theorem ref_dec : ∀ (k : Nat) (p s body : List UInt8), s.length < k → (p ++ s).length ≤ 100000 → body.length ≤ 65536 →
    Ev (fun k => depotref11_Decode.l0 k (bOf (p ++ s)) (bOf body) (p.length : Int)) (bOf (decL k s p.length body).1, (decL k s p.length body).2.1, (decL k s p.length body).2.2)
  | 0, p, s, body, hk, hs, hb => by omega
  | k + 1, p, s, body, hk, hs, hb => by
    refine Ev.step (fun k => by rw [depotref11_Decode.l0]) (Ev.bind (ref_end p s hs) ?_)
    unfold decL endI
    cases hl : lineL s with
    | none => exact Ev.pos (by show (-1 : Int) < 0; decide) (Ev.some' rfl)
    | some q =>
      obtain ⟨a, b⟩ := q
      have hlen := line_len hl
      have he := line_eq s a b hl
      have hps : (p ++ s).length = p.length + s.length := by simp
      have hr := szL_range a
      simp only
      refine Ev.neg (by omega) (Ev.pos (by omega) (Ev.pos (by omega) (Ev.pos (by rw [bOf_size]; omega) ?_)))
      have hx : (bOf (p ++ s)).extract ((p.length : Int)).toNat ((p.length : Int) + a.length).toNat = bOf a := by rw [he]; exact cut_mid p a _
      have e1 : wrap64 ((p.length : Int) + a.length + 2) = (((p ++ (a ++ [13, 10])).length : Nat) : Int) := by rw [wrap_id (by omega) (by omega)]; simp; omega
      have e3 : p ++ s = (p ++ (a ++ [13, 10])) ++ b := by rw [he]; simp
      have e4 : (p.length : Int) + (a.length + 2) = (((p ++ (a ++ [13, 10])).length : Nat) : Int) := by simp
      rw [hx]
      refine Ev.bind (ref_sz a (by omega)) ?_
      rw [e1, e4, e3]
      rw [e3] at hs
      have hql : (p ++ (a ++ [13, 10])).length = p.length + a.length + 2 := by simp; omega
      generalize p ++ (a ++ [13, 10]) = q at hs hql ⊢
      have hqb : (q ++ b).length = q.length + b.length := by simp
      by_cases c1 : (szL a).2 = 0
      · refine Ev.pos c1 ?_
        rw [if_neg (not_not_intro c1)]
        by_cases c2 : 0 < (szL a).1
        · rw [if_pos c2]
          refine Ev.neg (by omega) ?_
          rw [bOf_size, bOf_size, wrap_id (n := (body.length : Int) + (szL a).1) (by omega) (by omega)]
          by_cases c3 : 65536 < body.length + (szL a).1
          · rw [if_pos c3]
            exact Ev.pos (by omega) (Ev.some' rfl)
          · rw [if_neg c3]
            refine Ev.neg (by omega) ?_
            obtain ⟨n, hn⟩ := Int.eq_ofNat_of_zero_le hr.1
            rw [hn] at c2 c3 hr ⊢
            rw [wrap_id (n := (q.length : Int) + n) (by omega) (by omega), wrap_id (n := (q.length : Int) + n + 2) (by omega) (by omega), wrap_id (n := (q.length : Int) + n + 1) (by omega) (by omega)]
            by_cases c4 : (b.length : Int) < n + 2
            · rw [if_pos c4]
              exact Ev.pos (by omega) (Ev.some' rfl)
            · rw [if_neg c4]
              obtain ⟨t1, t2, t3⟩ := two_at q n b (by omega)
              refine Ev.neg (by omega) (Ev.pos (by omega) (Ev.pos (by omega) ?_))
              rw [t1, t2]
              simp only [Int.toNat_natCast]
              by_cases c5 : (b.drop n).take 2 = [13, 10]
              · obtain ⟨d1, d2⟩ := t3.1 c5
                rw [if_pos c5]
                have hbn : b = b.take n ++ ([13, 10] ++ b.drop (n + 2)) := by
                  rw [← c5, show b.drop (n + 2) = (b.drop n).drop 2 by rw [List.drop_drop], List.take_append_drop, List.take_append_drop]
                have htn : (b.take n).length = n := by rw [List.length_take]; omega
                have hx2 : (bOf (q ++ b)).extract q.length ((q.length : Int) + n).toNat = bOf (b.take n) := by
                  have := cut_mid q (b.take n) ([13, 10] ++ b.drop (n + 2))
                  rw [htn, ← hbn, Int.toNat_natCast] at this
                  exact this
                refine Ev.pos d1 (Ev.pos (by omega) (Ev.pos (by omega) (Ev.pos d2 (Ev.pos (by omega) (Ev.pos (by omega) (Ev.pos (by omega) ?_))))))
                rw [hx2, bOf_size]
                refine Ev.pos (by rw [htn]; omega) ?_
                rw [bOf_append, show ((n : Int) + 2).toNat = n + 2 by omega]
                have e5 : (q.length : Int) + n + 2 = (((q ++ (b.take n ++ [13, 10])).length : Nat) : Int) := by simp [htn]; omega
                have e6 : q ++ b = (q ++ (b.take n ++ [13, 10])) ++ b.drop (n + 2) := by
                  conv => lhs; rw [hbn]
                  simp
                have e7 : (q.length : Int) + ((n : Int) + 2) = (((q ++ (b.take n ++ [13, 10])).length : Nat) : Int) := by simp [htn]
                rw [e5, e7, e6]
                rw [e6] at hs
                exact ref_dec k _ _ _ (by simp; omega) hs (by rw [List.length_append, htn]; omega)
              · rw [if_neg c5]
                by_cases d1 : at_ b n = 13
                · refine Ev.pos d1 (Ev.pos (by omega) (Ev.pos (by omega) (Ev.neg (fun d2 => c5 (t3.2 ⟨d1, d2⟩)) (Ev.some' rfl))))
                · exact Ev.neg d1 (Ev.some' rfl)
        · rw [if_neg c2]
          refine Ev.pos (by omega) ?_
          refine Ev.eq (ref_tr body (b.length + 1) 0 q b (by omega) hs (by omega)) ?_
          split <;> rfl
      · rw [if_pos c1]
        exact Ev.neg c1 (Ev.some' rfl)
theorem ref_Decode (l : List UInt8) (h : l.length ≤ 100000) : Ev (fun k => depotref11_Decode.f k (bOf l)) (bOf (decode l).1, (decode l).2.1, (decode l).2.2) := by
  unfold depotref11_Decode.f
  exact ref_dec _ [] l [] (by omega) (by simpa using h) (by simp)
end Go.Proofs.YtmmmfippfoginaaDoor.Pu
