/- First lines of replies: readings, the program's and the reference's. -/
import Derived.Test.YtljikgfhglihhaaDoorPuLine
namespace Go.Proofs.YtljikgfhglihhaaDoor.Pu
open Go.RowKit Go.Proofs.YtljikgfhglihhaaDoorW.PrintWords Go.Proofs.YtljikgfhglihhaaDoorW.PrintLast Go.Proofs.YtljikgfhglihhaaDoor.PR
set_option linter.unusedVariables false
set_option linter.unusedSimpArgs false

theorem cut_at (c : UInt8) : ∀ (a b : List UInt8), (∀ x ∈ a, x ≠ c) → cutAt c (a ++ c :: b) = (a, b, true)
  | [], b, _ => by rw [List.nil_append, cutAt, if_pos rfl]
  | x :: a, b, h => by
    have ih := cut_at c a b (fun y hy => h y (List.mem_cons_of_mem _ hy))
    rw [List.cons_append, cutAt, if_neg (h x List.mem_cons_self), ih]
theorem cut_first (c : UInt8) : ∀ (l : List UInt8), ∀ x ∈ (cutAt c l).1, x ≠ c
  | [], x, h => by simp [cutAt] at h
  | y :: l, x, h => by
    rw [cutAt] at h
    by_cases e : y = c
    · rw [if_pos e] at h; simp at h
    · rw [if_neg e] at h
      rcases List.mem_cons.1 h with rfl | h
      · exact e
      · exact cut_first c l x h
/-! ### three digits -/
def dg (x : UInt8) : Int := Hand.dig (x.toNat : Int) 10
theorem dg_all : ∀ x : Fin 256, Hand.dig ((x : Nat) : Int) 10 ≤ 9 ∧ -1 ≤ Hand.dig ((x : Nat) : Int) 10 ∧ (0 ≤ Hand.dig ((x : Nat) : Int) 10 → dch (Hand.dig ((x : Nat) : Int) 10).toNat = UInt8.ofNat x ∧ (x : Nat) ≠ 32) := by decide +kernel
theorem dg_range (x : UInt8) : dg x ≤ 9 ∧ -1 ≤ dg x := ⟨(dg_all ⟨x.toNat, x.toNat_lt⟩).1, (dg_all ⟨x.toNat, x.toNat_lt⟩).2.1⟩
theorem dg_dch (x : UInt8) (h : 0 ≤ dg x) : dch (dg x).toNat = x := by
  have := ((dg_all ⟨x.toNat, x.toNat_lt⟩).2.2 h).1
  refine this.trans ?_
  simp
theorem dg_32 (x : UInt8) (h : 0 ≤ dg x) : x ≠ 32 := by
  have := ((dg_all ⟨x.toNat, x.toNat_lt⟩).2.2 h).2
  rintro rfl
  exact this rfl
def num3 (a b c : UInt8) : Int × Int := if dg a < 0 ∨ dg b < 0 ∨ dg c < 0 then (0, 5) else if 599 < (dg a * 10 + dg b) * 10 + dg c then (0, 3) else ((dg a * 10 + dg b) * 10 + dg c, 0)
theorem read3 (a b c : UInt8) : readP (bOf [a, b, c]) 10 18 599 = num3 a b c := by
  have ha := dg_range a
  have hb := dg_range b
  have hc := dg_range c
  unfold readP
  rw [bOf_size, show [a, b, c].length = 3 from rfl, if_neg (by decide), if_neg (by decide)]
  have b0 : bt (bOf [a, b, c]) ((0 : Nat) : Int) = (a.toNat : Int) := rfl
  have b1 : bt (bOf [a, b, c]) ((1 : Nat) : Int) = (b.toNat : Int) := rfl
  have b2 : bt (bOf [a, b, c]) ((2 : Nat) : Int) = (c.toNat : Int) := rfl
  have g : ∀ (k : Nat) (acc : Int) (i : Nat), readGo (bOf [a, b, c]) 10 (k + 1) acc i = if Hand.dig (bt (bOf [a, b, c]) i) 10 < 0 then none else readGo (bOf [a, b, c]) 10 k (wrap64 (wrap64 (acc * 10) + Hand.dig (bt (bOf [a, b, c]) i) 10)) (i + 1) := fun k acc i => rfl
  rw [g 2 0 0, b0]
  change readEnd 599 (if dg a < 0 then none else readGo (bOf [a, b, c]) 10 2 (wrap64 (wrap64 (0 * 10) + dg a)) 1) = _
  by_cases c1 : dg a < 0
  · rw [if_pos c1, num3, if_pos (Or.inl c1)]; rfl
  · rw [if_neg c1, g 1 _ 1, b1]
    change readEnd 599 (if dg b < 0 then none else readGo (bOf [a, b, c]) 10 1 (wrap64 (wrap64 (wrap64 (wrap64 (0 * 10) + dg a) * 10) + dg b)) 2) = _
    by_cases c2 : dg b < 0
    · rw [if_pos c2, num3, if_pos (Or.inr (Or.inl c2))]; rfl
    · rw [if_neg c2, g 0 _ 2, b2]
      change readEnd 599 (if dg c < 0 then none else some (wrap64 (wrap64 (wrap64 (wrap64 (wrap64 (wrap64 (0 * 10) + dg a) * 10) + dg b) * 10) + dg c))) = _
      by_cases c3 : dg c < 0
      · rw [if_pos c3, num3, if_pos (Or.inr (Or.inr c3))]; rfl
      · rw [if_neg c3, wrap_id (n := 0 * 10) (by omega) (by omega), wrap_id (n := 0 * 10 + dg a) (by omega) (by omega), wrap_id (n := (0 * 10 + dg a) * 10) (by omega) (by omega), wrap_id (n := (0 * 10 + dg a) * 10 + dg b) (by omega) (by omega), wrap_id (n := ((0 * 10 + dg a) * 10 + dg b) * 10) (by omega) (by omega), wrap_id (by omega) (by omega)]
        rw [num3, if_neg (by omega)]
        show (if (599 : Int) < ((0 * 10 + dg a) * 10 + dg b) * 10 + dg c then ((0 : Int), (3 : Int)) else (((0 * 10 + dg a) * 10 + dg b) * 10 + dg c, 0)) = _
        rw [show ((0 * 10 + dg a) * 10 + dg b) * 10 + dg c = (dg a * 10 + dg b) * 10 + dg c by omega]
theorem num3_yes {a b c : UInt8} (h : (num3 a b c).2 = 0) : 0 ≤ dg a ∧ 0 ≤ dg b ∧ 0 ≤ dg c ∧ (num3 a b c).1 = (dg a * 10 + dg b) * 10 + dg c ∧ (num3 a b c).1 ≤ 599 := by
  unfold num3 at h ⊢
  split at h
  · simp at h
  case isFalse c1 =>
    rw [if_neg c1]
    split at h
    · simp at h
    case isFalse c2 =>
      rw [if_neg c2]
      exact ⟨by omega, by omega, by omega, rfl, by show (dg a * 10 + dg b) * 10 + dg c ≤ 599; omega⟩
theorem num3_plain {a b c : UInt8} (h : (num3 a b c).2 = 0) (h1 : 100 ≤ (num3 a b c).1) : digs 10 (num3 a b c).1.toNat = [a, b, c] := by
  obtain ⟨ha, hb, hc, he, _⟩ := num3_yes h
  have ra := dg_range a
  have rb := dg_range b
  have rc := dg_range c
  rw [he] at h1 ⊢
  have e1 : ((dg a * 10 + dg b) * 10 + dg c).toNat / 10 = (dg a * 10 + dg b).toNat := by omega
  have e2 : ((dg a * 10 + dg b) * 10 + dg c).toNat % 10 = (dg c).toNat := by omega
  have e3 : (dg a * 10 + dg b).toNat / 10 = (dg a).toNat := by omega
  have e4 : (dg a * 10 + dg b).toNat % 10 = (dg b).toNat := by omega
  rw [digs_big (by decide) (by omega), e1, e2, digs_big (by decide) (by omega), e3, e4, digs_small (by omega), dg_dch a ha, dg_dch b hb, dg_dch c hc]
  rfl
/-! ### replies -/
def StaOk (V C R : List UInt8) (has : Bool) : Prop := 0 ≤ verL V ∧ has = true ∧ (readP (bOf C) 10 18 599).2 = 0 ∧ 100 ≤ (readP (bOf C) 10 18 599).1 ∧ C.length = 3 ∧ isTxt R = true
instance (V C R : List UInt8) (has : Bool) : Decidable (StaOk V C R has) := by unfold StaOk; exact inferInstance
def staE (V C R : List UInt8) (has : Bool) : Int × List UInt8 × Int × Int := if StaOk V C R has then ((readP (bOf C) 10 18 599).1, R, verL V, 0) else (0, [], 0, 20)
theorem staE_yes {V C R : List UInt8} {has : Bool} (h : StaOk V C R has) : staE V C R has = ((readP (bOf C) 10 18 599).1, R, verL V, 0) := if_pos h
theorem staE_no {V C R : List UInt8} {has : Bool} (h : ¬ StaOk V C R has) : staE V C R has = (0, [], 0, 20) := if_neg h
def staL (l : List UInt8) : Int × List UInt8 × Int × Int :=
  if 8192 < l.length then (0, [], 0, 4) else staE (cutAt 32 l).1 (cutAt 32 (cutAt 32 l).2.1).1 (cutAt 32 (cutAt 32 l).2.1).2.1 (cutAt 32 (cutAt 32 l).2.1).2.2
def staB (q : Int × List UInt8 × Int × Int) : Int × ByteArray × Int × Int := (q.1, bOf q.2.1, q.2.2.1, q.2.2.2)
theorem prog_Status (l : List UInt8) (h : l.length ≤ 100000) : line_Status.f (bOf l) = some (staB (staL l)) := by
  unfold line_Status.f staL
  rw [bOf_size]
  by_cases h0 : 8192 < l.length
  · rw [if_pos h0, if_pos (by omega)]; rfl
  · rw [if_neg h0, if_neg (by omega), if_pos (by decide), show bt (⟨#[32]⟩ : ByteArray) 0 = (((32 : UInt8).toNat : Nat) : Int) from rfl]
    have hle := cut_le 32 l
    have hle2 := cut_le 32 (cutAt 32 l).2.1
    rw [prog_Cut 32 l (by omega), Option.bind_some]
    simp only
    rw [prog_Cut 32 (cutAt 32 l).2.1 (by omega), Option.bind_some]
    simp only
    generalize (cutAt 32 l).1 = V at hle ⊢
    generalize (cutAt 32 (cutAt 32 l).2.1).1 = C at hle2 ⊢
    generalize (cutAt 32 (cutAt 32 l).2.1).2.2 = has at hle2 ⊢
    generalize (cutAt 32 (cutAt 32 l).2.1).2.1 = R at hle2 ⊢
    rw [prog_version V (by omega), Option.bind_some, prog_Number _ _ (by rw [bOf_size]; omega), Option.bind_some]
    by_cases c1 : verL V < 0
    · rw [if_pos c1, staE_no (fun hk => by have := hk.1; omega)]
      rfl
    · rw [if_neg c1]
      simp only
      rw [if_pos trivial]
      cases has
      · rw [if_neg (by simp), staE_no (fun hk => by have := hk.2.1; simp at this)]
        rfl
      · rw [if_pos rfl]
        by_cases c2 : (readP (bOf C) 10 18 599).2 = 0
        · rw [if_pos c2]
          by_cases c3 : (readP (bOf C) 10 18 599).1 < 100
          · rw [if_pos c3, staE_no (fun hk => by have := hk.2.2.2.1; omega)]
            rfl
          · rw [if_neg c3, bOf_size]
            by_cases c4 : C.length = 3
            · rw [if_pos (by omega), prog_IsText R (by omega), Option.bind_some]
              by_cases c5 : isTxt R = true
              · have c5' : R.all textU = true := c5
                rw [if_pos c5', staE_yes ⟨by omega, rfl, c2, by omega, c4, c5⟩]
                rfl
              · have c5' : ¬ R.all textU = true := c5
                rw [if_neg c5', staE_no (fun hk => c5 hk.2.2.2.2.2)]
                rfl
            · rw [if_neg (by omega), staE_no (fun hk => c4 hk.2.2.2.2.1)]
              rfl
        · rw [if_neg c2, staE_no (fun hk => c2 hk.2.2.1)]
          rfl
theorem ver_facts {V : List UInt8} (h : 0 ≤ verL V) : V.length = 8 ∧ (∀ x ∈ V, x ≠ 32) ∧ V = http ++ digs 10 (verL V).toNat ∧ verL V ≤ 1 := by
  rcases verL_yes h with ⟨rfl, e⟩ | ⟨rfl, e⟩
  · rw [e]; exact ⟨rfl, by decide, by rw [show (0 : Int).toNat = 0 from rfl, digs_small (by decide)]; rfl, by decide⟩
  · rw [e]; exact ⟨rfl, by decide, by rw [show (1 : Int).toNat = 1 from rfl, digs_small (by decide)]; rfl, by decide⟩
/-- What is read with success has the parts in their places. -/
theorem sta_shape (l : List UInt8) (hk : StaOk (cutAt 32 l).1 (cutAt 32 (cutAt 32 l).2.1).1 (cutAt 32 (cutAt 32 l).2.1).2.1 (cutAt 32 (cutAt 32 l).2.1).2.2) :
    l = (cutAt 32 l).1 ++ 32 :: ((cutAt 32 (cutAt 32 l).2.1).1 ++ 32 :: (cutAt 32 (cutAt 32 l).2.1).2.1) := by
  have h2 := hk.2.1
  cases h1 : (cutAt 32 l).2.2
  · rw [(cut_no 32 l h1).2] at h2
    simp [cutAt] at h2
  · rw [← cut_yes 32 _ h2]
    exact cut_yes 32 l h1
theorem sta_of (V C R : List UInt8) (hV : 0 ≤ verL V) (hC : ∀ x ∈ C, x ≠ 32) (hl : (V ++ 32 :: (C ++ 32 :: R)).length ≤ 8192) : staL (V ++ 32 :: (C ++ 32 :: R)) = staE V C R true := by
  obtain ⟨_, hv, _, _⟩ := ver_facts hV
  unfold staL
  rw [if_neg (by omega), cut_at 32 V _ hv]
  simp only
  rw [cut_at 32 C R hC]
theorem read_no32 {C : List UInt8} (hl : C.length = 3) (h : (readP (bOf C) 10 18 599).2 = 0) : ∀ x ∈ C, x ≠ 32 := by
  match C, hl with
  | [a, b, c], _ =>
    rw [read3] at h
    obtain ⟨ha, hb, hc, _⟩ := num3_yes h
    intro x hx
    simp at hx
    rcases hx with rfl | rfl | rfl
    · exact dg_32 _ ha
    · exact dg_32 _ hb
    · exact dg_32 _ hc
/-- The reading, of any text that is long enough, by places. -/
theorem sta_places (V : List UInt8) (x : UInt8) (C : List UInt8) (y : UInt8) (R : List UInt8) (hV : V.length = 8) (hC : C.length = 3) (hl : (V ++ x :: (C ++ y :: R)).length ≤ 8192) :
    staL (V ++ x :: (C ++ y :: R)) = if 0 ≤ verL V ∧ x = 32 ∧ y = 32 ∧ (readP (bOf C) 10 18 599).2 = 0 ∧ 100 ≤ (readP (bOf C) 10 18 599).1 ∧ isTxt R = true then ((readP (bOf C) 10 18 599).1, R, verL V, 0) else (0, [], 0, 20) := by
  by_cases q : 0 ≤ verL V ∧ x = 32 ∧ y = 32 ∧ (readP (bOf C) 10 18 599).2 = 0 ∧ 100 ≤ (readP (bOf C) 10 18 599).1 ∧ isTxt R = true
  · obtain ⟨q1, rfl, rfl, q4, q5, q6⟩ := q
    rw [if_pos ⟨q1, rfl, rfl, q4, q5, q6⟩, sta_of V C R q1 (read_no32 hC q4) hl, staE_yes ⟨q1, rfl, q4, q5, hC, q6⟩]
  · rw [if_neg q]
    unfold staL
    rw [if_neg (by omega), staE_no]
    intro hk
    have hs := sta_shape _ hk
    obtain ⟨v8, _, _, _⟩ := ver_facts hk.1
    have hc3 := hk.2.2.2.2.1
    obtain ⟨e1, e2⟩ := List.append_inj hs (by omega)
    obtain ⟨rfl, e3⟩ := List.cons.inj e2
    obtain ⟨e4, e5⟩ := List.append_inj e3 (by omega)
    obtain ⟨rfl, e6⟩ := List.cons.inj e5
    rw [← e1, ← e4, ← e6] at hk
    exact q ⟨hk.1, rfl, rfl, hk.2.2.1, hk.2.2.2.1, hk.2.2.2.2.2⟩
theorem by_places (l : List UInt8) (h : 13 ≤ l.length) : ∃ V x C y R, l = V ++ x :: (C ++ y :: R) ∧ V.length = 8 ∧ C.length = 3 := by
  have e1 := List.take_append_drop 8 l
  have l1 : (l.drop 8).length = l.length - 8 := by simp
  cases h1 : l.drop 8 with
  | nil => rw [h1] at l1; simp at l1; omega
  | cons x t =>
    rw [h1] at e1 l1
    have e2 := List.take_append_drop 3 t
    have l2 : (t.drop 3).length = t.length - 3 := by simp
    simp at l1
    cases h2 : t.drop 3 with
    | nil => rw [h2] at l2; simp at l2; omega
    | cons y R =>
      rw [h2] at e2
      exact ⟨l.take 8, x, t.take 3, y, R, by rw [e2, e1], by simp; omega, by simp; omega⟩
theorem ref_sta_short (l : List UInt8) (h : l.length < 13) : staL l = (0, [], 0, 20) := by
  unfold staL
  rw [if_neg (by omega), staE_no]
  intro hk
  have hs := congrArg List.length (sta_shape _ hk)
  obtain ⟨v8, _, _, _⟩ := ver_facts hk.1
  have hc3 := hk.2.2.2.2.1
  simp at hs
  omega
theorem ref_Status (l : List UInt8) (h : l.length ≤ 100000) : Ev (fun k => depotref10_Status.f k (bOf l)) (staB (staL l)) := by
  unfold depotref10_Status.f
  rw [bOf_size]
  have jt : Ev (fun k => depotref10_Status.j0 k (bOf l) true) (staB (0, [], 0, 20)) := by
    refine Ev.step (fun k => by rw [depotref10_Status.j0]) ?_
    exact Ev.pos rfl (Ev.some' rfl)
  by_cases h0 : 8192 < l.length
  · refine Ev.pos (by omega) (Ev.some' ?_)
    unfold staL
    rw [if_pos h0]; rfl
  · refine Ev.neg (by omega) ?_
    by_cases h1 : l.length < 13
    · rw [ref_sta_short l h1]
      exact Ev.pos (by omega) jt
    · obtain ⟨V, x, C, y, R, rfl, hV, hC⟩ := by_places l (by omega)
      have hsp := sta_places V x C y R hV hC (by omega)
      generalize staL (V ++ x :: (C ++ y :: R)) = z at hsp ⊢
      have hno := fun hk => hsp.trans (if_neg hk)
      have hyes := fun hk => hsp.trans (if_pos hk)
      clear hsp
      have hlen : (V ++ x :: (C ++ y :: R)).length = 13 + R.length := by simp [hV, hC]; omega
      have x0 : (bOf (V ++ x :: (C ++ y :: R))).extract 0 8 = bOf V := by
        rw [bOf_extract, List.drop_zero, ← hV, List.take_left]
      have x1 : bt (bOf (V ++ x :: (C ++ y :: R))) 8 = (x.toNat : Int) := by
        have := bt_at_cut V x (C ++ y :: R)
        rwa [hV] at this
      have a2 : V ++ x :: (C ++ y :: R) = (V ++ x :: C) ++ y :: R := by simp
      have l2 : (V ++ x :: C).length = 12 := by simp [hV, hC]
      have x2 : bt (bOf (V ++ x :: (C ++ y :: R))) 12 = (y.toNat : Int) := by
        rw [a2]
        have := bt_at_cut (V ++ x :: C) y R
        rwa [l2] at this
      have x3 : (bOf (V ++ x :: (C ++ y :: R))).extract 9 12 = bOf C := by
        rw [bOf_extract, a2, ← l2, List.take_left, show V ++ x :: C = (V ++ [x]) ++ C by simp, show 9 = (V ++ [x]).length by simp [hV], List.drop_left]
      have x4 : (bOf (V ++ x :: (C ++ y :: R))).extract 13 (V ++ x :: (C ++ y :: R)).length = bOf R := by
        rw [bOf_extract, List.take_length, show V ++ x :: (C ++ y :: R) = (V ++ x :: C ++ [y]) ++ R by simp, show 13 = (V ++ x :: C ++ [y]).length by simp [hV, hC], List.drop_left]
      refine Ev.neg (by omega) (Ev.pos (by decide) (Ev.pos (by omega) ?_))
      rw [x0]
      refine Ev.sbind (ref_version V) ?_
      by_cases c1 : verL V < 0
      · rw [hno (fun hk => by have := hk.1; omega)]
        exact Ev.pos c1 jt
      · refine Ev.neg c1 (Ev.pos (by omega) ?_)
        rw [x1]
        by_cases c2 : x = 32
        · subst c2
          refine Ev.pos rfl (Ev.pos (by omega) ?_)
          rw [x2]
          by_cases c3 : y = 32
          · subst c3
            rw [show ((((32 : UInt8).toNat : Nat) : Int) != 32) = false from rfl]
            refine Ev.step (fun k => by rw [depotref10_Status.j0]) ?_
            refine Ev.neg (by simp) (Ev.pos (by decide) (Ev.pos (by rw [bOf_size]; omega) ?_))
            rw [bOf_size, x3]
            refine Ev.bind (ref_Number _ _ (by rw [bOf_size]; omega)) ?_
            by_cases c4 : (readP (bOf C) 10 18 599).2 = 0
            · refine Ev.pos c4 ?_
              by_cases c5 : (readP (bOf C) 10 18 599).1 < 100
              · rw [hno (fun hk => by have := hk.2.2.2.2.1; omega)]
                exact Ev.pos c5 (Ev.some' rfl)
              · refine Ev.neg c5 (Ev.pos (by omega) ?_)
                rw [x4]
                refine Ev.bind (ref_IsText R (by simp at h; omega)) ?_
                by_cases c6 : isTxt R = true
                · have c6' : R.all textU = true := c6
                  rw [c6', hyes ⟨by omega, rfl, rfl, c4, by omega, c6⟩]
                  refine Ev.pos rfl (Ev.pos (by decide) (Ev.pos (by omega) ?_))
                  rw [x0]
                  exact Ev.sbind (ref_version V) (Ev.some' rfl)
                · have c6' : R.all textU = false := by simpa [isTxt] using c6
                  rw [c6', hno (fun hk => c6 hk.2.2.2.2.2)]
                  exact Ev.neg (by simp) (Ev.some' rfl)
            · rw [hno (fun hk => c4 hk.2.2.2.1)]
              exact Ev.neg c4 (Ev.some' rfl)
          · rw [hno (fun hk => c3 hk.2.2.1)]
            have : ((y.toNat : Int) != 32) = true := by
              have h3 : ¬ (y.toNat : Int) = 32 := fun e => c3 ((u8_eq (by decide)).1 e)
              simpa using h3
            rw [this]
            exact jt
        · rw [hno (fun hk => c2 hk.2.1)]
          refine Ev.neg (fun e => c2 ((u8_eq (by decide)).1 e)) jt
/-! ### lines that are written -/
theorem plain_ok (n : Int) (h : -9223372036854775808 ≤ n ∧ n ≤ 9223372036854775807) : (plain n).length ≤ 21 := plain_len n h
theorem words3 (a b c : List UInt8) (ha : a.length ≤ 100000) (hb : b.length ≤ 100000) (hc : c.length ≤ 100000) : line_words.f [bOf a, bOf b, bOf c] = some (bOf (a ++ 32 :: (b ++ 32 :: c))) := by
  unfold line_words.f strings_Join.f
  have e : Lib.join (List.map (fun x : ByteArray => x.data.toList) [bOf a, bOf b, bOf c]) (⟨#[32]⟩ : ByteArray).data.toList = a ++ 32 :: (b ++ 32 :: c) := by
    simp [Lib.join, List.intercalate, List.intersperse, data_bOf]
  rw [e, if_pos ⟨by simp, by simp; omega⟩]
  rfl
def reqW (m t : List UInt8) (v : Int) : List UInt8 := m ++ 32 :: (t ++ 32 :: (http ++ plain v))
def staW (c : Int) (r : List UInt8) (v : Int) : List UInt8 := (http ++ plain v) ++ 32 :: (plain c ++ 32 :: r)
theorem http_lit : (⟨#[72, 84, 84, 80, 47, 49, 46]⟩ : ByteArray) = bOf http := rfl
theorem prog_PrintRequest (m t : List UInt8) (v : Int) (hm : m.length ≤ 100000) (ht : t.length ≤ 100000) (h : -9223372036854775808 ≤ v ∧ v ≤ 9223372036854775807) : line_PrintRequest.f (bOf m) (bOf t) v = some (bOf (reqW m t v)) := by
  have hp := plain_len v h
  unfold line_PrintRequest.f
  rw [prog_Plain v h, Option.bind_some, if_pos (by rw [bOf_size]; omega), http_lit, bOf_append, words3 m t _ hm ht (by simp [http]; omega)]
  rfl
theorem prog_PrintStatus (c : Int) (r : List UInt8) (v : Int) (hr : r.length ≤ 100000) (hc : -9223372036854775808 ≤ c ∧ c ≤ 9223372036854775807) (h : -9223372036854775808 ≤ v ∧ v ≤ 9223372036854775807) : line_PrintStatus.f c (bOf r) v = some (bOf (staW c r v)) := by
  have hp := plain_len v h
  have hq := plain_len c hc
  unfold line_PrintStatus.f
  rw [prog_Plain v h, Option.bind_some, if_pos (by rw [bOf_size]; omega), prog_Plain c hc, Option.bind_some, http_lit, bOf_append, words3 _ _ _ (by simp [http]; omega) (by omega) hr]
  rfl
end Go.Proofs.YtljikgfhglihhaaDoor.Pu
