/- The pure statements of EtagBack and EtagLists: tags come back from their texts, and from a list of these. -/
import Derived.Test.YtfjbjcheehojoaaDoorPuLaw14
import Derived.Test.YtfjbjcheehojoaaDoorPR15
import Derived.Test.YtfjbjcheehojoaaDoorPR16
namespace Go.Proofs.YtfjbjcheehojoaaDoor.Pu
open Go.RowKit Go.Proofs.YtfjbjcheehojoaaDoorW.PrintWords Go.Proofs.YtfjbjcheehojoaaDoorW.PrintLast Go.Proofs.YtfjbjcheehojoaaDoor.PR
set_option linter.unusedVariables false
set_option linter.unusedSimpArgs false

def innerL (x : List UInt8) : Prop := ∀ c ∈ x, etag_innerB (c.toNat : Int) = true
def render (w : Bool) (x : List UInt8) : List UInt8 := (if w = true then [87, 47] else []) ++ 34 :: (x ++ [34])
theorem allB_inner (x : List UInt8) : Hand.allB etag_innerB (bOf x) (bOf x).size = true ↔ innerL x := by
  unfold Hand.allB innerL
  rw [List.all_eq_true, bOf_size]
  constructor
  · intro h c hc
    obtain ⟨i, hi, rfl⟩ := List.getElem_of_mem hc
    have := h i (List.mem_range.2 hi)
    rw [bt_bOf _ _ (by omega) (by omega), Int.toNat_natCast, at_lt x i hi] at this
    exact this
  · intro h i hi
    have hi' := List.mem_range.1 hi
    rw [bt_bOf _ _ (by omega) (by omega), Int.toNat_natCast, at_lt x i hi']
    exact h _ (List.getElem_mem hi')
theorem parseB_yes (x : List UInt8) (b : Bool) (h : innerL x) : parseB (bOf (34 :: (x ++ [34]))) b = (b, bOf x, true) := by
  have hs : (bOf (34 :: (x ++ [34]))).size = x.length + 2 := by rw [bOf_size]; simp
  have hx : (bOf (34 :: (x ++ [34]))).extract 1 ((bOf (34 :: (x ++ [34]))).size - 1) = bOf x := by
    rw [hs, bOf_extract]
    simp
  have h0 : bt (bOf (34 :: (x ++ [34]))) 0 = 34 := by rw [bt_bOf _ _ (by omega) (by simp; omega)]; rfl
  have hl : bt (bOf (34 :: (x ++ [34]))) (((bOf (34 :: (x ++ [34]))).size - 1 : Nat) : Int) = 34 := by
    rw [hs, bt_bOf _ _ (by omega) (by simp; omega), Int.toNat_natCast]
    simp [at_]
  unfold parseB
  rw [if_neg (by rw [hs]; omega), if_neg (by rw [h0]; simp), if_neg (by rw [hl]; simp), hx, if_pos ((allB_inner x).2 h)]
theorem parseB_inv (l : List UInt8) (b : Bool) (h : (parseB (bOf l) b).2.2 = true) : ∃ x, l = 34 :: (x ++ [34]) ∧ innerL x ∧ parseB (bOf l) b = (b, bOf x, true) := by
  unfold parseB at h
  split at h
  · cases h
  · rename_i h1
    split at h
    · cases h
    · rename_i h2
      split at h
      · cases h
      · rename_i h3
        split at h
        · rename_i h4
          rw [bOf_size] at h1
          match l, h1 with
          | c :: m, h1 =>
            have hm : m ≠ [] := by intro e; subst e; simp at h1
            obtain ⟨x, d, rfl⟩ : ∃ x d, m = x ++ [d] := ⟨m.dropLast, m.getLast hm, (List.dropLast_concat_getLast hm).symm⟩
            have e1 : c = 34 := by
              have := Decidable.not_not.1 h2
              rw [bt_bOf _ _ (by omega) (by simp; omega)] at this
              exact (is34 c).1 this
            have e2 : d = 34 := by
              have := Decidable.not_not.1 h3
              rw [bt_bOf _ _ (by omega) (by rw [bOf_size]; simp; omega), Int.toNat_natCast, bOf_size] at this
              have hg : at_ (c :: (x ++ [d])) ((c :: (x ++ [d])).length - 1) = d.toNat := by simp [at_]
              rw [hg] at this
              exact (is34 d).1 this
            subst e1; subst e2
            have hx : (bOf (34 :: (x ++ [34]))).extract 1 ((bOf (34 :: (x ++ [34]))).size - 1) = bOf x := by
              rw [bOf_size, bOf_extract]; simp
            rw [hx] at h4
            have hi := (allB_inner x).1 h4
            exact ⟨x, rfl, hi, parseB_yes x b hi⟩
        · cases h
theorem parseB_no (t : ByteArray) (b : Bool) (h : (parseB t b).2.2 = false) : parseB t b = (false, ⟨#[]⟩, false) := by
  unfold parseB at h ⊢
  by_cases h1 : t.size < 2
  · rw [if_pos h1]
  · rw [if_neg h1] at h ⊢
    by_cases h2 : ¬ bt t 0 = 34
    · rw [if_pos h2]
    · rw [if_neg h2] at h ⊢
      by_cases h3 : ¬ bt t (t.size - 1 : Nat) = 34
      · rw [if_pos h3]
      · rw [if_neg h3] at h ⊢
        by_cases h4 : Hand.allB etag_innerB (t.extract 1 (t.size - 1)) (t.extract 1 (t.size - 1)).size = true
        · rw [if_pos h4] at h; cases h
        · rw [if_neg h4]
theorem cut_yes (m : List UInt8) : etag_cut (bOf (87 :: 47 :: m)) = bOf m ∧ Lib.hasPrefix (87 :: 47 :: m) [87, 47] = true := by
  have h : Lib.hasPrefix (87 :: 47 :: m) [87, 47] = true := by simp [Lib.hasPrefix, List.isPrefixOf]
  refine ⟨?_, h⟩
  unfold etag_cut Lib.trimPrefix
  rw [data_bOf, if_pos h]
  rfl
theorem cut_no (l : List UInt8) (h : Lib.hasPrefix l [87, 47] = false) : etag_cut (bOf l) = bOf l := by
  unfold etag_cut Lib.trimPrefix
  rw [data_bOf, if_neg (by rw [h]; simp)]
  rfl
theorem parse_yes (w : Bool) (x : List UInt8) (h : innerL x) : etag_parse (bOf (render w x)) = (w, bOf x, true) := by
  rw [etag_parse_eq, data_bOf]
  cases w with
  | true =>
    obtain ⟨h1, h2⟩ := cut_yes (34 :: (x ++ [34]))
    show parseB (etag_cut (bOf (87 :: 47 :: 34 :: (x ++ [34])))) (Lib.hasPrefix (87 :: 47 :: 34 :: (x ++ [34])) [87, 47]) = _
    rw [h1, h2]
    exact parseB_yes x true h
  | false =>
    have h2 : Lib.hasPrefix (34 :: (x ++ [34])) [87, 47] = false := by simp [Lib.hasPrefix, List.isPrefixOf]
    show parseB (etag_cut (bOf (34 :: (x ++ [34])))) (Lib.hasPrefix (34 :: (x ++ [34])) [87, 47]) = _
    rw [cut_no _ h2, h2]
    exact parseB_yes x false h
theorem parse_inv (l : List UInt8) (h : (etag_parse (bOf l)).2.2 = true) : ∃ w x, l = render w x ∧ innerL x ∧ etag_parse (bOf l) = (w, bOf x, true) := by
  by_cases hp : Lib.hasPrefix l [87, 47] = true
  · obtain ⟨m, rfl⟩ : ∃ m, l = 87 :: 47 :: m := by
      obtain ⟨m, e⟩ := List.isPrefixOf_iff_prefix.1 hp
      exact ⟨m, e.symm⟩
    obtain ⟨h1, h2⟩ := cut_yes m
    rw [etag_parse_eq, data_bOf, h1, h2] at h
    obtain ⟨x, rfl, hi, _⟩ := parseB_inv m true h
    exact ⟨true, x, rfl, hi, parse_yes true x hi⟩
  · have hf : Lib.hasPrefix l [87, 47] = false := by simpa using hp
    rw [etag_parse_eq, data_bOf, cut_no l hf, hf] at h
    obtain ⟨x, rfl, hi, _⟩ := parseB_inv l false h
    exact ⟨false, x, rfl, hi, parse_yes false x hi⟩
theorem parse_no (s : ByteArray) (h : (etag_parse s).2.2 = false) : etag_parse s = (false, ⟨#[]⟩, false) := by
  rw [etag_parse_eq] at h ⊢
  exact parseB_no _ _ h
/-! ### lists of texts -/
theorem inner_ne {x : List UInt8} (h : innerL x) {c : UInt8} (hc : c ∈ x) : ¬ c = 34 := by
  intro e
  have := h c hc
  rw [e] at this
  exact absurd this (by decide)
theorem go_inner (x : List UInt8) : ∀ (rest part : List UInt8) (acc : List Tag), innerL x → listGo (x ++ rest) part true acc = listGo rest (part ++ x) true acc := by
  induction x with
  | nil => intro rest part acc _; simp
  | cons c x ih =>
    intro rest part acc h
    rw [List.cons_append, listGo, if_neg (by simp), if_neg (inner_ne h (by simp)), ih rest _ acc (fun d hd => h d (by simp [hd]))]
    simp
theorem go_render (w : Bool) (x rest part : List UInt8) (acc : List Tag) (h : innerL x) : listGo (render w x ++ rest) part false acc = listGo rest (part ++ render w x) false acc := by
  have hq : ∀ part : List UInt8, listGo (34 :: (x ++ [34]) ++ rest) part false acc = listGo rest (part ++ 34 :: (x ++ [34])) false acc := by
    intro part
    rw [List.cons_append, listGo, if_neg (by decide), if_pos rfl, List.append_assoc]
    show listGo (x ++ ([34] ++ rest)) (part ++ [34]) true acc = _
    rw [go_inner x _ _ acc h]
    show listGo (34 :: rest) _ true acc = _
    rw [listGo, if_neg (by decide), if_pos rfl]
    show listGo rest _ false acc = _
    simp
  cases w with
  | false => exact hq part
  | true =>
    show listGo (87 :: 47 :: (34 :: (x ++ [34]) ++ rest)) part false acc = _
    rw [listGo, if_neg (by decide), if_neg (by decide), listGo, if_neg (by decide), if_neg (by decide), hq]
    simp [render]
theorem trimR_snoc (l : List UInt8) (c : UInt8) (h : isBl c = false) : trimR (l ++ [c]) = l ++ [c] := by
  unfold trimR
  rw [List.reverse_append]
  simp [List.dropWhile_cons, h]
theorem trimR_blank (l : List UInt8) (c : UInt8) (h : isBl c = true) : trimR (l ++ [c]) = trimR l := by
  unfold trimR
  rw [List.reverse_append]
  simp [List.dropWhile_cons, h]
theorem trimL_cons (c : UInt8) (l : List UInt8) (h : isBl c = false) : trimL (c :: l) = c :: l := by simp [trimL, List.dropWhile_cons, h]
theorem trimL_blank (c : UInt8) (l : List UInt8) (h : isBl c = true) : trimL (c :: l) = trimL l := by simp [trimL, List.dropWhile_cons, h]
theorem render_end (w : Bool) (x : List UInt8) : ∃ m, render w x = m ++ [34] := by
  cases w
  · exact ⟨34 :: x, by simp [render]⟩
  · exact ⟨87 :: 47 :: 34 :: x, by simp [render]⟩
theorem render_head (w : Bool) (x : List UInt8) : ∃ c m, render w x = c :: m ∧ isBl c = false ∧ ¬ c = 42 := by
  cases w
  · exact ⟨34, _, rfl, by decide, by decide⟩
  · exact ⟨87, _, rfl, by decide, by decide⟩
theorem trim_render (w : Bool) (x : List UInt8) : trim (render w x) = render w x := by
  obtain ⟨m, e⟩ := render_end w x
  obtain ⟨c, m', e', hc, _⟩ := render_head w x
  unfold trim
  rw [e, trimR_snoc m 34 (by decide), ← e, e', trimL_cons c m' hc]
theorem trim_tab (w : Bool) (x : List UInt8) : trim (9 :: render w x) = render w x := by
  obtain ⟨m, e⟩ := render_end w x
  obtain ⟨c, m', e', hc, _⟩ := render_head w x
  unfold trim
  rw [e, ← List.cons_append, trimR_snoc (9 :: m) 34 (by decide), List.cons_append, ← e, trimL_blank 9 _ (by decide), e', trimL_cons c m' hc]
theorem trim_tabsp (w : Bool) (x : List UInt8) : trim (9 :: render w x ++ [32]) = render w x := by
  have := trim_tab w x
  unfold trim at this ⊢
  rw [trimR_blank _ 32 (by decide)]
  exact this
theorem render_ne (w : Bool) (x : List UInt8) : render w x ≠ [] := by
  obtain ⟨c, m, e, _⟩ := render_head w x
  rw [e]; simp
theorem flush_of (part : List UInt8) (w : Bool) (x : List UInt8) (acc : List Tag) (h : innerL x) (ht : trim part = render w x) : flush part acc = some (acc ++ [⟨w, bOf x⟩]) := by
  unfold flush
  rw [ht, if_neg (render_ne w x), parse_yes w x h]
  rfl
theorem list_one (w : Bool) (x : List UInt8) (h : innerL x) : listSpec (render w x) = ([⟨w, bOf x⟩], false, 0) := by
  unfold listSpec
  rw [trim_render, if_neg]
  · have := go_render w x [] [] [] h
    rw [List.append_nil, List.nil_append] at this
    rw [this]
    show fin (flush (render w x) []) = _
    rw [flush_of _ w x [] h (trim_render w x)]
    rfl
  · obtain ⟨c, m, e, _, hc⟩ := render_head w x
    rw [e]
    intro e2
    injection e2 with e3
    exact hc e3
/-- a list of tags' texts, as the law puts it together -/
def enc : List Tag → List UInt8
  | [] => []
  | t :: r => 32 :: 44 :: 9 :: (render t.f0 t.f1.data.toList ++ enc r)
def okT (t : Tag) : Prop := innerL t.f1.data.toList
theorem enc_snoc (ts : List Tag) (t : Tag) : enc (ts ++ [t]) = enc ts ++ 32 :: 44 :: 9 :: render t.f0 t.f1.data.toList := by
  induction ts with
  | nil => simp [enc]
  | cons a r ih => simp [enc, ih]
theorem go_enc (ts : List Tag) : ∀ (t : Tag) (acc : List Tag), okT t → (∀ u ∈ ts, okT u) → listGo (enc ts) (9 :: render t.f0 t.f1.data.toList) false acc = some (acc ++ t :: ts) := by
  induction ts with
  | nil =>
    intro t acc ht _
    show flush _ acc = _
    rw [flush_of _ t.f0 t.f1.data.toList acc ht (trim_tab _ _), bOf_data]
  | cons u r ih =>
    intro t acc ht hu
    show listGo (32 :: 44 :: 9 :: (render u.f0 u.f1.data.toList ++ enc r)) _ false acc = _
    rw [listGo, if_neg (by decide), if_neg (by decide), listGo, if_pos (by decide), flush_of _ t.f0 t.f1.data.toList acc ht (trim_tabsp _ _), Option.bind_some, listGo, if_neg (by decide), if_neg (by decide), go_render _ _ _ _ _ (hu u (by simp))]
    show listGo (enc r) (9 :: render u.f0 u.f1.data.toList) false _ = _
    rw [ih u _ (hu u (by simp)) (fun v hv => hu v (by simp [hv])), bOf_data]
    simp
theorem list_enc (ts : List Tag) (h : ∀ u ∈ ts, okT u) : listSpec (enc ts) = if ts = [] then ([], false, 5) else (ts, false, 0) := by
  cases ts with
  | nil => rfl
  | cons t r =>
    have h1 : listGo (enc (t :: r)) [] false [] = some (t :: r) := by
      show listGo (32 :: 44 :: 9 :: (render t.f0 t.f1.data.toList ++ enc r)) [] false [] = _
      rw [listGo, if_neg (by decide), if_neg (by decide), listGo, if_pos (by decide)]
      show (some ([] : List Tag)).bind _ = _
      rw [Option.bind_some, listGo, if_neg (by decide), if_neg (by decide), go_render _ _ _ _ _ (h t (by simp))]
      exact go_enc r t [] (h t (by simp)) (fun v hv => h v (by simp [hv]))
    have h2 : ¬ trim (enc (t :: r)) = [42] := by
      obtain ⟨m, e⟩ : ∃ m, trim (enc (t :: r)) = 44 :: m := by
        show ∃ m, trim (32 :: 44 :: 9 :: (render t.f0 t.f1.data.toList ++ enc r)) = 44 :: m
        rw [trim, ← trim_comm, trimL_blank 32 _ (by decide), trimL_cons 44 _ (by decide), trimR_cons]
        split
        · exact ⟨[], rfl⟩
        · exact ⟨_, rfl⟩
      rw [e]
      simp
    unfold listSpec
    rw [if_neg h2, h1]
    simp [fin]
theorem matchGo_any (l : List Tag) (a : Bool) (b : ByteArray) : matchGo l a b = (a || l.any fun t => likes t b) := by
  induction l generalizing a with
  | nil => simp [matchGo]
  | cons t r ih => rw [matchGo, ih, List.any_cons, Bool.or_assoc]
theorem likes_self (t : Tag) : likes t t.f1 = true := by simp [likes]
/-! ### the two laws -/
theorem text_some (w : Bool) (x : ByteArray) (hx : x.size ≤ 100000) : etag_Text.f w x = some (bOf (render w x.data.toList)) := by
  obtain ⟨l, rfl, _⟩ := ex_bOf x
  have hl : l.length ≤ 100000 := by rw [bOf_size] at hx; exact hx
  have e1 : (⟨#[34]⟩ : ByteArray) = bOf [34] := rfl
  have e2 : (⟨#[87, 47]⟩ : ByteArray) = bOf [87, 47] := rfl
  unfold etag_Text.f
  rw [e1, e2]
  simp only [bOf_append, bOf_size]
  rw [if_pos (by omega), if_pos (by simp; omega)]
  cases w with
  | true => rw [if_pos rfl, if_pos (by simp; omega)]; simp [render, data_bOf]
  | false => rw [if_neg (by simp)]; simp [render, data_bOf]
theorem back_law (s : ByteArray) (b0 : Bool) (b : ByteArray) : ∃ k, depotlaw14_EtagBack.f k s b0 b = some true := by
  refine Ev.rounds ?_
  unfold depotlaw14_EtagBack.f
  refine Ev.ite (fun h => ?_) (fun h => ?_)
  · refine Ev.step (fun k => by rw [depotlaw14_EtagBack.j0]) ?_
    exact Ev.pos rfl tags_end
  · refine Ev.step (fun k => by rw [depotlaw14_EtagBack.j0]) ?_
    refine Ev.ite (fun h2 => tags_end) (fun h2 => ?_)
    have hs : s.size ≤ 100000 := by omega
    refine Ev.sbind (parse_some s (by omega)) ?_
    refine Ev.ite (fun h3 => ?_) (fun h3 => ?_)
    · obtain ⟨l, rfl, hl⟩ := ex_bOf s
      obtain ⟨w, x, rfl, hi, hp⟩ := parse_inv l h3
      rw [hp]
      have hlx : x.length ≤ 100000 := by rw [bOf_size] at hs; simp [render] at hs; omega
      have hm : Ev (fun k => etag_Match.f k (bOf (render w x)) w (bOf x)) true := by
        refine Ev.eq (prog_Match _ w (bOf x) hs) ?_
        rw [data_bOf, matchSpec, list_one w x hi, matchGo_any]
        simp [likes]
      have hend : ∀ a : Bool, Ev (fun k => (etag_Match.f k (bOf (render w x)) w (bOf x)).bind fun t => if t = true then (depotlaw14_tags.f k).bind fun t => some t else some false) true :=
        fun _ => Ev.bind hm (Ev.pos rfl tags_end)
      refine Ev.sbind (text_some w (bOf x) (by rw [bOf_size]; exact hlx)) (Ev.pos rfl ?_)
      refine Ev.sbind (weak_some _ _ _ _) (Ev.pos (by simp) ?_)
      refine Ev.sbind (show etag_Strong.f w (bOf x) w (bOf x) = some (!w) from ?_) (Ev.pos (by simp) ?_)
      · unfold etag_Strong.f
        cases w <;> simp [etag_strong.f]
      · refine Ev.sbind (weak_some _ _ _ _) ?_
        refine Ev.ite (fun h4 => ?_) (fun h4 => ?_)
        · refine Ev.sbind (weak_some _ _ _ _) (Ev.sbind (weak_some _ _ _ _) (Ev.pos (by rw [Bool.beq_comm]; simp [BEq.comm]) (hend true)))
        · have hst : etag_Strong.f w (bOf x) b0 b = some false := by
            have hne : ((bOf x).toList == b.toList) = false := by simpa using h4
            unfold etag_Strong.f
            rw [hne]
            simp
          refine Ev.sbind hst (Ev.neg (by simp) ?_)
          refine Ev.sbind (weak_some _ _ _ _) (Ev.sbind (weak_some _ _ _ _) (Ev.pos (by simp [BEq.comm]) (hend true)))
    · rw [parse_no s (by simpa using h3)]
      exact Ev.pos (by rw [show (⟨#[]⟩ : ByteArray) = bOf [] from rfl]; simp [toList_bOf]) tags_end
theorem rdOf_at (d : ByteArray) (l : List ByteArray) (i : Nat) (h : i < l.length) : rdOf d l (i : Int) = l[i] := by
  simp [rdOf, List.getD_eq_getElem?_getD, List.getElem?_eq_getElem h]
theorem match_some (l : List Tag) (h : ∀ u ∈ l, okT u) (b : ByteArray) : matchSpec (enc l) b = l.any fun t => likes t b := by
  unfold matchSpec
  rw [list_enc l h, matchGo_any]
  split
  · rename_i e; subst e; rfl
  · rfl
theorem star_match (b0 : Bool) (b : ByteArray) : Ev (fun k => etag_Match.f k (⟨#[42]⟩ : ByteArray) b0 b) true := by
  refine Ev.eq (prog_Match (bOf [42]) b0 b (by rw [bOf_size]; decide)) ?_
  rw [data_bOf, matchSpec, matchGo_any]
  rfl
theorem star_end (b0 : Bool) (b : ByteArray) : Ev (fun k => (etag_Match.f k (⟨#[42]⟩ : ByteArray) b0 b).bind fun t => if t = true then (depotlaw14_tags.f k).bind fun t => some t else some false) true :=
  Ev.bind (star_match b0 b) (Ev.pos rfl tags_end)
theorem lists_l1 (ts : List Tag) (h : ∀ u ∈ ts, okT u) (hs : (enc ts).length ≤ 100000) (hl : ts.length ≤ 20) (b0 : Bool) (b : ByteArray) (n : Nat) : ∀ (i : Nat) (a : Bool), ts.length - i = n → i ≤ ts.length → (a || (ts.drop i).any fun t => likes t b) = ts.any (fun t => likes t b) →
    Ev (fun k => depotlaw14_EtagLists.l1 k (bOf (enc ts)) ts a (i : Int) b0 b) true := by
  induction n with
  | zero =>
    intro i a hn hi ha
    refine Ev.step (fun k => by rw [depotlaw14_EtagLists.l1]) (Ev.neg (by omega) ?_)
    refine Ev.bind (prog_Match _ b0 b (by rw [bOf_size]; exact hs)) ?_
    rw [data_bOf, match_some ts h b, ← ha, List.drop_eq_nil_of_le (by omega)]
    exact Ev.pos (by simp) (star_end b0 b)
  | succ n ih =>
    intro i a hn hi ha
    have hlt : i < ts.length := by omega
    have hw : wrap64 ((i : Int) + 1) = ((i + 1 : Nat) : Int) := by rw [wrap_id] <;> omega
    refine Ev.step (fun k => by rw [depotlaw14_EtagLists.l1]) (Ev.pos (by omega) (Ev.pos (by omega) ?_))
    rw [rd_at ts i hlt, hw]
    rw [List.drop_eq_getElem_cons hlt, List.any_cons] at ha
    refine Ev.bind (Ev.eq (prog_Match _ ts[i].f0 ts[i].f1 (by rw [bOf_size]; exact hs)) (b := true) ?_) (Ev.pos rfl ?_)
    · rw [data_bOf, match_some ts h]
      exact List.any_eq_true.2 ⟨ts[i], List.getElem_mem hlt, likes_self _⟩
    · cases a with
      | true => exact Ev.pos rfl (ih (i + 1) true (by omega) (by omega) (by simpa using ha))
      | false =>
        refine Ev.neg (by simp) (Ev.sbind (weak_some _ _ _ _) ?_)
        refine ih (i + 1) _ (by omega) (by omega) ?_
        simpa [likes] using ha
theorem lists_l0 (l : List ByteArray) (hl : l.length ≤ 20) (b0 : Bool) (b : ByteArray) (n : Nat) : ∀ (i : Nat) (ts : List Tag), l.length - i = n → i ≤ l.length → ts.length ≤ i → (∀ u ∈ ts, okT u) → (enc ts).length ≤ i * 203 →
    Ev (fun k => depotlaw14_EtagLists.l0 k l (bOf (enc ts)) ts (i : Int) b0 b) true := by
  induction n with
  | zero =>
    intro i ts hn hi ht h hs
    refine Ev.step (fun k => by rw [depotlaw14_EtagLists.l0]) (Ev.neg (by omega) ?_)
    have hb := prog_List (bOf (enc ts)) (by rw [bOf_size]; omega)
    rw [data_bOf, list_enc ts h] at hb
    have last : Ev (fun k => depotlaw14_EtagLists.j2 k (bOf (enc ts)) ts false b0 b) true := by
      refine Ev.step (fun k => by rw [depotlaw14_EtagLists.j2]) (Ev.neg (by simp) ?_)
      exact lists_l1 ts h (by omega) (by omega) b0 b _ 0 false rfl (by omega) (by simp)
    by_cases e : ts = []
    · rw [if_pos e] at hb
      refine Ev.bind hb (Ev.neg (by simp) (Ev.neg (by subst e; simp) ?_))
      subst e
      exact Ev.bind (same14 [] (by simp)) last
    · rw [if_neg e] at hb
      have hp : 0 < ts.length := List.length_pos_iff.2 e
      refine Ev.bind hb (Ev.neg (by simp) (Ev.neg (by simp; omega) ?_))
      exact Ev.bind (same14 ts (by omega)) last
  | succ n ih =>
    intro i ts hn hi ht h hs
    have hlt : i < l.length := by omega
    have hw : wrap64 ((i : Int) + 1) = ((i + 1 : Nat) : Int) := by rw [wrap_id] <;> omega
    refine Ev.step (fun k => by rw [depotlaw14_EtagLists.l0]) (Ev.pos (by omega) (Ev.pos (by omega) ?_))
    rw [rdOf_at _ l i hlt, hw]
    refine Ev.ite (fun _ => tags_end) (fun h2 => ?_)
    have hsz : l[i].size ≤ 200 := by omega
    refine Ev.sbind (parse_some _ (by omega)) ?_
    refine Ev.ite (fun h3 => ?_) (fun h3 => ?_)
    · generalize l[i] = s at hsz h3 ⊢
      obtain ⟨m, rfl, hm⟩ := ex_bOf s
      obtain ⟨w, x, rfl, hx, hp⟩ := parse_inv m h3
      rw [hp]
      have e1 : (⟨#[32, 44, 9]⟩ : ByteArray) = bOf [32, 44, 9] := rfl
      have e2 : (bOf (enc ts) ++ (⟨#[32, 44, 9]⟩ : ByteArray)) ++ bOf (render w x) = bOf (enc (ts ++ [⟨w, bOf x⟩])) := by
        rw [e1, bOf_append, bOf_append, enc_snoc]
        simp [data_bOf]
      have hr : (render w x).length ≤ 200 := by rw [← bOf_size]; exact hsz
      show Ev (fun k => if (bOf (enc ts)).size + 3 ≤ 9223372036854775807 then if (bOf (enc ts) ++ (⟨#[32, 44, 9]⟩ : ByteArray)).size + (bOf (render w x)).size ≤ 9223372036854775807 then if ts.length < 5864062014805 then depotlaw14_EtagLists.l0 k l ((bOf (enc ts) ++ (⟨#[32, 44, 9]⟩ : ByteArray)) ++ bOf (render w x)) (ts ++ [⟨w, bOf x⟩]) ((i + 1 : Nat) : Int) b0 b else none else none else none) true
      rw [e2]
      refine Ev.pos (by rw [bOf_size]; omega) (Ev.pos (by rw [e1, bOf_append, bOf_size, bOf_size]; simp; omega) (Ev.pos (by omega) ?_))
      refine ih (i + 1) _ (by omega) (by omega) (by simp; omega) ?_ ?_
      · intro u hu
        rcases List.mem_append.1 hu with hu | hu
        · exact h u hu
        · rw [List.mem_singleton.1 hu]; exact hx
      · rw [enc_snoc]
        simp [data_bOf]
        omega
    · exact ih (i + 1) ts (by omega) (by omega) (by omega) h (by omega)
theorem lists_law (l : List ByteArray) (b0 : Bool) (b : ByteArray) : ∃ k, depotlaw14_EtagLists.f k l b0 b = some true := by
  refine Ev.rounds ?_
  unfold depotlaw14_EtagLists.f
  refine Ev.ite (fun h => ?_) (fun h => ?_)
  · refine Ev.step (fun k => by rw [depotlaw14_EtagLists.j0]) ?_
    exact Ev.pos rfl tags_end
  · refine Ev.step (fun k => by rw [depotlaw14_EtagLists.j0]) ?_
    refine Ev.ite (fun h2 => tags_end) (fun h2 => ?_)
    exact lists_l0 l (by omega) b0 b _ 0 [] rfl (by omega) (by simp) (by simp) (by simp [enc])
end Go.Proofs.YtfjbjcheehojoaaDoor.Pu
