/- Package etag and its reference: what Parse and List come to, as functions of lists of bytes. -/
import Derived.Test.YtfjbjcheehojoaaDoorPuTrim
import Derived.Test.YtfjbjcheehojoaaDoorPR3
import Derived.Test.YtfjbjcheehojoaaDoorPR4
import Derived.Test.YtfjbjcheehojoaaDoorPR9
import Derived.Test.YtfjbjcheehojoaaDoorPR11
import Derived.Test.YtfjbjcheehojoaaDoorPR10
namespace Go.Proofs.YtfjbjcheehojoaaDoor.Pu
open Go.RowKit Go.Proofs.YtfjbjcheehojoaaDoorW.PrintWords Go.Proofs.YtfjbjcheehojoaaDoorW.PrintLast Go.Proofs.YtfjbjcheehojoaaDoor.PR
set_option linter.unusedVariables false
set_option linter.unusedSimpArgs false

/-! ### the reference's Parse -/
theorem inner_some (c : Int) : depotref14_inner.f c = some (etag_innerB c) := by
  unfold depotref14_inner.f etag_innerB
  by_cases h1 : c = 33
  · subst h1; rfl
  · rw [if_neg h1]
    by_cases h2 : c ≥ 35
    · rw [if_pos h2]
      congr 1
      have h3 : ¬ c = 34 := by omega
      have h4 : (c == 34) = false := by simpa using h3
      rw [h4, decide_eq_true (show 33 ≤ c by omega)]
      rfl
    · rw [if_neg h2]
      congr 1
      by_cases h3 : 33 ≤ c
      · have : c = 34 := by omega
        subst this; rfl
      · simp [h3]
theorem rparse_l0 (x : ByteArray) (b : Bool) (hx : x.size ≤ 9223372036854775806) (n : Nat) : ∀ i : Nat, x.size - i = n → i ≤ x.size → Hand.allB etag_innerB x i = true →
    Ev (fun k => depotref14_Parse.l0 k (i : Int) b x) (if Hand.allB etag_innerB x x.size = true then (b, x, true) else (false, ⟨#[]⟩, false)) := by
  induction n with
  | zero =>
    intro i hn hi ha
    have : i = x.size := by omega
    subst this
    refine Ev.step (fun k => by rw [depotref14_Parse.l0]) ?_
    refine Ev.neg (by omega) ?_
    rw [if_pos ha]
    exact Ev.some' rfl
  | succ n ih =>
    intro i hn hi ha
    refine Ev.step (fun k => by rw [depotref14_Parse.l0]) ?_
    refine Ev.pos (by omega) (Ev.pos (by omega) (Ev.sbind (inner_some _) ?_))
    refine Ev.ite (fun hc => ?_) (fun hc => ?_)
    · have hw : wrap64 ((i : Int) + 1) = ((i + 1 : Nat) : Int) := by rw [wrap_id] <;> omega
      rw [hw]
      exact ih (i + 1) (by omega) (by omega) (by rw [Hand.allB_succ, ha, hc]; rfl)
    · have hf : etag_innerB (bt x i) = false := by simpa using hc
      rw [if_neg (by rw [Hand.allB_false _ x i x.size (by omega) hf]; simp)]
      exact Ev.some' rfl
/-- A text's tag, without its mark. -/
def parseB (t : ByteArray) (b : Bool) : Bool × ByteArray × Bool :=
  if t.size < 2 then (false, ⟨#[]⟩, false)
  else if ¬ bt t 0 = 34 then (false, ⟨#[]⟩, false)
  else if ¬ bt t (t.size - 1 : Nat) = 34 then (false, ⟨#[]⟩, false)
  else if Hand.allB etag_innerB (t.extract 1 (t.size - 1)) (t.extract 1 (t.size - 1)).size = true then (b, t.extract 1 (t.size - 1), true)
  else (false, ⟨#[]⟩, false)
theorem etag_parse_eq (s : ByteArray) : etag_parse s = parseB (etag_cut s) (Lib.hasPrefix s.data.toList [87, 47]) := rfl
theorem rparse_j1 (t : ByteArray) (b : Bool) (ht : t.size ≤ 9223372036854775806) : Ev (fun k => depotref14_Parse.j1 k t b ⟨#[]⟩) (parseB t b) := by
  unfold parseB
  refine Ev.step (fun k => by rw [depotref14_Parse.j1]) ?_
  by_cases h1 : t.size < 2
  · rw [if_pos h1]
    refine Ev.pos (by omega) (Ev.step (fun k => by rw [depotref14_Parse.j2]) ?_)
    exact Ev.pos rfl (Ev.some' rfl)
  · rw [if_neg h1]
    have hw : wrap64 ((t.size : Int) - 1) = ((t.size - 1 : Nat) : Int) := by rw [wrap_id] <;> omega
    rw [hw]
    refine Ev.neg (by omega) (Ev.pos (by omega) ?_)
    by_cases h2 : bt t 0 = 34
    · rw [if_neg (by simpa using h2)]
      refine Ev.pos h2 (Ev.pos (by omega) (Ev.pos (by omega) ?_))
      refine Ev.step (fun k => by rw [depotref14_Parse.j2]) ?_
      rw [hw]
      by_cases h3 : bt t (t.size - 1 : Nat) = 34
      · rw [if_neg (by simpa using h3)]
        refine Ev.neg (by rw [h3]; simp) (Ev.pos (by omega) (Ev.pos (by omega) ?_))
        rw [Int.toNat_natCast]
        exact rparse_l0 _ b (by simp; omega) _ 0 rfl (by omega) rfl
      · rw [if_pos h3]
        exact Ev.pos (by simpa using h3) (Ev.some' rfl)
    · rw [if_pos h2]
      refine Ev.neg h2 (Ev.step (fun k => by rw [depotref14_Parse.j2]) ?_)
      exact Ev.pos rfl (Ev.some' rfl)
theorem ref14_Parse (s : ByteArray) (hs : s.size ≤ 9223372036854775806) : Ev (fun k => depotref14_Parse.f k s) (etag_parse s) := by
  unfold depotref14_Parse.f
  obtain ⟨l, rfl, hl⟩ := ex_bOf s
  rw [bOf_size] at hs
  rw [etag_parse_eq, data_bOf]
  have hcut : etag_cut (bOf l) = bOf (Lib.trimPrefix l [87, 47]) := rfl
  rw [hcut]
  by_cases h : Lib.hasPrefix l [87, 47] = true
  · obtain ⟨m, rfl⟩ : ∃ m, l = 87 :: 47 :: m := by
      obtain ⟨m, e⟩ := List.isPrefixOf_iff_prefix.1 h
      exact ⟨m, e.symm⟩
    have ht : Lib.trimPrefix (87 :: 47 :: m) [87, 47] = m := by unfold Lib.trimPrefix; rw [if_pos h]; rfl
    rw [ht, h]
    have hl2 : ((bOf (87 :: 47 :: m)).size : Int) = m.length + 2 := by rw [bOf_size]; simp; omega
    rw [hl2]
    refine Ev.pos (by omega) (Ev.pos (by omega) (Ev.pos (by omega) ?_))
    have he : ((bOf (87 :: 47 :: m)).extract 0 2).toList = [87, 47] := by rw [bOf_extract, toList_bOf]; simp
    rw [he]
    refine Ev.step (fun k => by rw [depotref14_Parse.j0]) ?_
    refine Ev.pos rfl ?_
    rw [hl2]
    refine Ev.pos (by omega) ?_
    have hx : (bOf (87 :: 47 :: m)).extract 2 (bOf (87 :: 47 :: m)).size = bOf m := by rw [bOf_extract, bOf_size]; simp
    rw [hx]
    exact rparse_j1 _ _ (by rw [bOf_size]; simp at hs; omega)
  · have hf : Lib.hasPrefix l [87, 47] = false := by simpa using h
    have ht : Lib.trimPrefix l [87, 47] = l := by unfold Lib.trimPrefix; rw [if_neg h]
    rw [ht, hf, bOf_size]
    refine Ev.ite (fun hc => ?_) (fun hc => ?_)
    · refine Ev.pos (by omega) (Ev.pos (by omega) ?_)
      have he : (((bOf l).extract 0 2).toList == ([87, 47] : List UInt8)) = false := by
        rw [bOf_extract, toList_bOf]
        match l, hc, hf with
        | a :: b :: m, _, hf =>
          simp at hf ⊢
          intro e1 e2
          subst e1; subst e2
          simp [Lib.hasPrefix, List.isPrefixOf] at hf
      rw [he]
      refine Ev.step (fun k => by rw [depotref14_Parse.j0]) ?_
      exact Ev.neg (by simp) (rparse_j1 _ _ (by rw [bOf_size]; omega))
    · refine Ev.step (fun k => by rw [depotref14_Parse.j0]) ?_
      exact Ev.neg (by simp) (rparse_j1 _ _ (by rw [bOf_size]; omega))
/-! ### List: as a function of bytes -/
abbrev Tag := S23
def flush (part : List UInt8) (acc : List Tag) : Option (List Tag) :=
  if trim part = [] then some acc
  else if (etag_parse (bOf (trim part))).2.2 = true then some (acc ++ [⟨(etag_parse (bOf (trim part))).1, (etag_parse (bOf (trim part))).2.1⟩]) else none
def fin (o : Option (List Tag)) : List Tag × Bool × Int := match o with
  | none => ([], false, 5)
  | some acc => if acc = [] then ([], false, 5) else (acc, false, 0)
def listGo : List UInt8 → List UInt8 → Bool → List Tag → Option (List Tag)
  | [], part, _, acc => flush part acc
  | c :: rest, part, q, acc => if c = 44 ∧ q = false then (flush part acc).bind fun acc' => listGo rest [] q acc' else listGo rest (part ++ [c]) (if c = 34 then !q else q) acc
def listSpec (l : List UInt8) : List Tag × Bool × Int := if trim l = [42] then ([], true, 0) else fin (listGo l [] false [])
theorem flush_len {part : List UInt8} {acc acc' : List Tag} (h : flush part acc = some acc') : acc'.length ≤ acc.length + 1 := by
  unfold flush at h
  split at h
  · obtain rfl := Option.some.inj h; omega
  · split at h
    · obtain rfl := Option.some.inj h; simp
    · cases h
theorem drop_at (l : List UInt8) (i : Nat) (h : i < l.length) : ∃ c, l.drop i = c :: l.drop (i + 1) ∧ l[i]? = some c ∧ at_ l i = c.toNat ∧ (l.take (i + 1)).drop i = [c] := by
  refine ⟨l[i], List.drop_eq_getElem_cons h, List.getElem?_eq_getElem h, at_lt l i h, ?_⟩
  rw [List.drop_take, List.drop_eq_getElem_cons h, Nat.add_sub_cancel_left]
  rfl
theorem is34 (c : UInt8) : (c.toNat : Int) = 34 ↔ c = 34 := u8_eq (by decide)
theorem is44 (c : UInt8) : (c.toNat : Int) = 44 ↔ c = 44 := u8_eq (by decide)
theorem fin_some (acc : List Tag) : (if (acc.length : Int) = 0 then (some (([] : List Tag), false, (5 : Int))) else some (acc, false, 0)) = some (fin (some acc)) := by
  unfold fin
  cases acc with
  | nil => rfl
  | cons a b => rw [if_neg (by simp; omega)]; simp
theorem bOf_eq_nil (l : List UInt8) : (bOf l).toList = ([] : List UInt8) ↔ l = [] := by rw [toList_bOf]
theorem part_cons (part : List UInt8) (c : UInt8) : bOf part ++ bOf [c] = bOf (part ++ [c]) := bOf_append _ _
theorem rlist_l0 (l : List UInt8) (hl : l.length ≤ 100000) (n : Nat) : ∀ (i : Nat) (part : List UInt8) (q : Bool) (acc : List Tag), l.length - i = n → i ≤ l.length → part.length ≤ i → acc.length ≤ i →
    Ev (fun k => depotref14_List.l0 k (bOf l) acc (bOf part) q (i : Int)) (fin (listGo (l.drop i) part q acc)) := by
  have exit_ : ∀ (part : ByteArray) (q : Bool) (acc : List Tag), Ev (fun k => depotref14_List.l0 k (bOf l) acc part q ((l.length : Int) + 1)) (fin (some acc)) := by
    intro part q acc
    refine Ev.step (fun k => by rw [depotref14_List.l0]) ?_
    refine Ev.neg (by rw [bOf_size]; omega) ?_
    rw [fin_some]
    exact Ev.some' rfl
  have flush_ : ∀ (i : Nat) (part : List UInt8) (q : Bool) (acc : List Tag) (r : List Tag × Bool × Int), i ≤ l.length → part.length ≤ i → acc.length ≤ i → flush part acc = none → r = fin none →
      Ev (fun k => depotref14_List.j1 k (bOf l) acc (bOf part) q (i : Int) false) r := by
    intro i part q acc r hi hp ha hf hr
    subst hr
    refine Ev.step (fun k => by rw [depotref14_List.j1]) ?_
    refine Ev.neg (by simp) (Ev.bind (ref_Trim (bOf part) (by rw [bOf_size]; omega)) ?_)
    rw [data_bOf]
    unfold flush at hf
    split at hf
    · cases hf
    · rename_i h0
      split at hf
      · cases hf
      · rename_i h1
        have ht := trim_le part
        refine Ev.neg (by rw [toList_bOf]; exact h0) (Ev.bind (ref14_Parse _ (by rw [bOf_size]; omega)) ?_)
        exact Ev.neg h1 (Ev.some' rfl)
  have go_ : ∀ (i : Nat) (part : List UInt8) (q : Bool) (acc acc' : List Tag) (r : List Tag × Bool × Int), i ≤ l.length → part.length ≤ i → acc.length ≤ i → flush part acc = some acc' →
      Ev (fun k => depotref14_List.l0 k (bOf l) acc' (bOf []) q ((i : Int) + 1)) r → Ev (fun k => depotref14_List.j1 k (bOf l) acc (bOf part) q (i : Int) false) r := by
    intro i part q acc acc' r hi hp ha hf hr
    have hw : wrap64 ((i : Int) + 1) = (i : Int) + 1 := by rw [wrap_id] <;> omega
    refine Ev.step (fun k => by rw [depotref14_List.j1]) ?_
    refine Ev.neg (by simp) (Ev.bind (ref_Trim (bOf part) (by rw [bOf_size]; omega)) ?_)
    rw [data_bOf, hw]
    unfold flush at hf
    split at hf
    · rename_i h0
      obtain rfl := Option.some.inj hf
      exact Ev.pos (by rw [toList_bOf]; exact h0) hr
    · rename_i h0
      split at hf
      · rename_i h1
        obtain rfl := Option.some.inj hf
        have ht := trim_le part
        refine Ev.neg (by rw [toList_bOf]; exact h0) (Ev.bind (ref14_Parse _ (by rw [bOf_size]; omega)) ?_)
        exact Ev.pos h1 (Ev.pos (by omega) hr)
      · cases hf
  induction n with
  | zero =>
    intro i part q acc hn hi hp ha
    have e : i = l.length := by omega
    refine Ev.step (fun k => by rw [depotref14_List.l0]) ?_
    refine Ev.pos (by rw [bOf_size]; omega) (Ev.neg (by rw [bOf_size]; omega) ?_)
    rw [List.drop_eq_nil_of_le (by omega)]
    show Ev _ (fin (flush part acc))
    cases hf : flush part acc with
    | none => exact flush_ i part q acc _ hi hp ha hf rfl
    | some acc' => exact go_ i part q acc acc' _ hi hp ha hf (by rw [e]; exact exit_ _ _ _)
  | succ n ih =>
    intro i part q acc hn hi hp ha
    have hlt : i < l.length := by omega
    obtain ⟨c, hd, hg, hat, htk⟩ := drop_at l i hlt
    have hb : bt (bOf l) (i : Int) = c.toNat := by rw [bt_bOf _ _ (by omega) (by omega), Int.toNat_natCast, hat]
    have hw : wrap64 ((i : Int) + 1) = ((i + 1 : Nat) : Int) := by rw [wrap_id] <;> omega
    refine Ev.step (fun k => by rw [depotref14_List.l0]) ?_
    refine Ev.pos (by rw [bOf_size]; omega) (Ev.pos (by rw [bOf_size]; omega) (Ev.pos (by omega) ?_))
    rw [hb, hd, listGo]
    have keep : ¬ (c = 44 ∧ q = false) → Ev (fun k => depotref14_List.j1 k (bOf l) acc (bOf part) q (i : Int) true) (fin (listGo (l.drop (i + 1)) (part ++ [c]) (if c = 34 then !q else q) acc)) := by
      intro hc
      refine Ev.step (fun k => by rw [depotref14_List.j1]) ?_
      rw [hb, hw]
      have hx : (bOf l).extract ((i : Int)).toNat (((i + 1 : Nat) : Int)).toNat = bOf [c] := by rw [bOf_extract, Int.toNat_natCast, Int.toNat_natCast, htk]
      rw [hx, part_cons]
      refine Ev.pos rfl (Ev.pos (by omega) (Ev.pos (by rw [bOf_size]; omega) ?_))
      have hs : (bOf part).size + (bOf [c]).size ≤ 9223372036854775807 := by rw [bOf_size, bOf_size]; simp; omega
      have hstep := fun q' => ih (i + 1) (part ++ [c]) q' acc (by omega) (by omega) (by simp; omega) (by omega)
      by_cases h34 : c = 34
      · rw [if_pos h34]
        refine Ev.pos ((is34 c).2 h34) (Ev.pos (by omega) (Ev.pos (by rw [bOf_size]; omega) (Ev.pos hs ?_)))
        exact hstep _
      · rw [if_neg h34]
        refine Ev.neg (fun h => h34 ((is34 c).1 h)) (Ev.pos (by omega) (Ev.pos (by rw [bOf_size]; omega) (Ev.pos hs ?_)))
        exact hstep _
    by_cases h44 : c = 44
    · refine Ev.pos ((is44 c).2 h44) ?_
      cases q with
      | true =>
        rw [if_neg (by simp)]
        exact keep (by simp)
      | false =>
        rw [if_pos ⟨h44, rfl⟩]
        cases hf : flush part acc with
        | none => exact flush_ i part false acc _ hi hp ha hf rfl
        | some acc' =>
          have hacc := flush_len hf
          refine go_ i part false acc acc' _ hi hp ha hf ?_
          exact ih (i + 1) [] false acc' (by omega) (by omega) (by simp) (by omega)
    · refine Ev.neg (fun h => h44 ((is44 c).1 h)) ?_
      rw [if_neg (fun h => h44 h.1)]
      exact keep (fun h => h44 h.1)
theorem ref14_List (s : ByteArray) (hs : s.size ≤ 100000) : Ev (fun k => depotref14_List.f k s) (listSpec s.data.toList) := by
  unfold depotref14_List.f listSpec
  refine Ev.bind (ref_Trim s (by omega)) ?_
  rw [toList_bOf]
  refine Ev.ite (fun h => ?_) (fun h => ?_)
  · rw [if_pos h]; exact Ev.some' rfl
  · rw [if_neg h]
    have := rlist_l0 s.data.toList (by rw [size_data]; exact hs) _ 0 [] false [] rfl (by omega) (by simp) (by simp)
    rw [bOf_data] at this
    exact this
/-! ### the program's List -/
theorem trim_some (s : ByteArray) (h : s.size ≤ 9223372036854775807) : octet_Trim.f s = some (bOf (trim s.data.toList)) := by
  unfold octet_Trim.f
  rw [if_pos h]
  rfl
theorem parse_some (s : ByteArray) (h : s.size ≤ 9223372036854775807) : etag_Parse.f s = some (etag_parse s) := by
  unfold etag_Parse.f
  rw [if_pos]
  refine Nat.le_trans ?_ h
  unfold etag_cut
  rw [bOf_mk, bOf_size]
  unfold Lib.trimPrefix
  split
  · rw [List.length_drop, size_data]; omega
  · rw [size_data]; exact Nat.le_refl _
theorem slice_snoc (l : List UInt8) (f i : Nat) (hf : f ≤ i) (h : i < l.length) (c : UInt8) (hg : l[i]? = some c) : (l.take (i + 1)).drop f = (l.take i).drop f ++ [c] := by
  rw [List.take_add_one, hg, List.drop_append_of_le_length (by rw [List.length_take]; omega)]
  rfl
theorem plist_l0 (l : List UInt8) (hl : l.length ≤ 100000) (n : Nat) : ∀ (i f : Nat) (q : Bool) (acc : List Tag), l.length - i = n → i ≤ l.length → f ≤ i → acc.length ≤ i →
    Ev (fun k => etag_List.l0 k (bOf l) acc (f : Int) q (i : Int)) (fin (listGo (l.drop i) ((l.take i).drop f) q acc)) := by
  have exit_ : ∀ (f : Int) (q : Bool) (acc : List Tag), Ev (fun k => etag_List.l0 k (bOf l) acc f q ((l.length : Int) + 1)) (fin (some acc)) := by
    intro f q acc
    refine Ev.step (fun k => by rw [etag_List.l0]) ?_
    refine Ev.neg (by rw [bOf_size]; omega) ?_
    rw [fin_some]
    exact Ev.some' rfl
  have cut_ : ∀ (i f : Nat), f ≤ i → i ≤ l.length → (bOf l).extract ((f : Int)).toNat ((i : Int)).toNat = bOf ((l.take i).drop f) := by
    intro i f hf hi
    rw [bOf_extract, Int.toNat_natCast, Int.toNat_natCast]
  have clen : ∀ (i f : Nat), f ≤ i → i ≤ l.length → ((l.take i).drop f).length ≤ i := by
    intro i f hf hi
    rw [List.length_drop, List.length_take]; omega
  have flush_ : ∀ (i f : Nat) (q : Bool) (acc : List Tag) (r : List Tag × Bool × Int), i ≤ l.length → f ≤ i → acc.length ≤ i → flush ((l.take i).drop f) acc = none → r = fin none →
      Ev (fun k => etag_List.j1 k (bOf l) acc (f : Int) q (i : Int)) r := by
    intro i f q acc r hi hp ha hf hr
    subst hr
    have hc := clen i f hp hi
    have ht := trim_le ((l.take i).drop f)
    refine Ev.step (fun k => by rw [etag_List.j1]) ?_
    rw [cut_ i f hp hi]
    refine Ev.pos (by omega) (Ev.pos (by omega) (Ev.pos (by rw [bOf_size]; omega) (Ev.sbind (trim_some _ (by rw [bOf_size]; omega)) ?_)))
    rw [data_bOf]
    unfold flush at hf
    split at hf
    · cases hf
    · rename_i h0
      split at hf
      · cases hf
      · rename_i h1
        refine Ev.neg (by rw [toList_bOf]; exact h0) (Ev.sbind (parse_some _ (by rw [bOf_size]; omega)) ?_)
        exact Ev.neg h1 (Ev.some' rfl)
  have go_ : ∀ (i f : Nat) (q : Bool) (acc acc' : List Tag) (r : List Tag × Bool × Int), i ≤ l.length → f ≤ i → acc.length ≤ i → flush ((l.take i).drop f) acc = some acc' →
      Ev (fun k => etag_List.l0 k (bOf l) acc' ((i : Int) + 1) q ((i : Int) + 1)) r → Ev (fun k => etag_List.j1 k (bOf l) acc (f : Int) q (i : Int)) r := by
    intro i f q acc acc' r hi hp ha hf hr
    have hw : wrap64 ((i : Int) + 1) = (i : Int) + 1 := by rw [wrap_id] <;> omega
    have hc := clen i f hp hi
    have ht := trim_le ((l.take i).drop f)
    refine Ev.step (fun k => by rw [etag_List.j1]) ?_
    rw [cut_ i f hp hi]
    refine Ev.pos (by omega) (Ev.pos (by omega) (Ev.pos (by rw [bOf_size]; omega) (Ev.sbind (trim_some _ (by rw [bOf_size]; omega)) ?_)))
    rw [data_bOf, hw]
    unfold flush at hf
    split at hf
    · rename_i h0
      obtain rfl := Option.some.inj hf
      exact Ev.pos (by rw [toList_bOf]; exact h0) hr
    · rename_i h0
      split at hf
      · rename_i h1
        obtain rfl := Option.some.inj hf
        refine Ev.neg (by rw [toList_bOf]; exact h0) (Ev.sbind (parse_some _ (by rw [bOf_size]; omega)) ?_)
        exact Ev.pos h1 (Ev.pos (by omega) hr)
      · cases hf
  induction n with
  | zero =>
    intro i f q acc hn hi hp ha
    have e : i = l.length := by omega
    refine Ev.step (fun k => by rw [etag_List.l0]) ?_
    refine Ev.pos (by rw [bOf_size]; omega) (Ev.neg (by rw [bOf_size]; omega) ?_)
    rw [List.drop_eq_nil_of_le (show l.length ≤ i by omega)]
    show Ev _ (fin (flush ((l.take i).drop f) acc))
    cases hf : flush ((l.take i).drop f) acc with
    | none => exact flush_ i f q acc _ hi hp ha hf rfl
    | some acc' => exact go_ i f q acc acc' _ hi hp ha hf (by rw [e]; exact exit_ _ _ _)
  | succ n ih =>
    intro i f q acc hn hi hp ha
    have hlt : i < l.length := by omega
    obtain ⟨c, hd, hg, hat, htk⟩ := drop_at l i hlt
    have hb : bt (bOf l) (i : Int) = c.toNat := by rw [bt_bOf _ _ (by omega) (by omega), Int.toNat_natCast, hat]
    have hw : wrap64 ((i : Int) + 1) = ((i + 1 : Nat) : Int) := by rw [wrap_id] <;> omega
    have hsn := slice_snoc l f i hp hlt c hg
    refine Ev.step (fun k => by rw [etag_List.l0]) ?_
    refine Ev.pos (by rw [bOf_size]; omega) (Ev.pos (by rw [bOf_size]; omega) (Ev.pos (by omega) ?_))
    rw [hb, hd, listGo, hw]
    have hstep := fun q' => ih (i + 1) f q' acc (by omega) (by omega) (by omega) (by omega)
    by_cases h34 : c = 34
    · have h44 : ¬ c = 44 := by rw [h34]; decide
      refine Ev.pos ((is34 c).2 h34) (Ev.neg (fun h => h44 ((is44 c).1 h)) ?_)
      rw [if_neg (fun h => h44 h.1), if_pos h34, ← hsn]
      exact hstep _
    · refine Ev.neg (fun h => h34 ((is34 c).1 h)) ?_
      by_cases h44 : c = 44
      · refine Ev.pos ((is44 c).2 h44) ?_
        cases q with
        | true =>
          refine Ev.pos rfl ?_
          rw [if_neg (by simp), if_neg h34, ← hsn]
          exact hstep _
        | false =>
          refine Ev.neg (by simp) ?_
          rw [if_pos ⟨h44, rfl⟩]
          cases hf : flush ((l.take i).drop f) acc with
          | none => exact flush_ i f false acc _ hi hp ha hf rfl
          | some acc' =>
            have hacc := flush_len hf
            refine go_ i f false acc acc' _ hi hp ha hf ?_
            have := ih (i + 1) (i + 1) false acc' (by omega) (by omega) (by omega) (by omega)
            rw [List.drop_eq_nil_of_le (show (l.take (i + 1)).length ≤ i + 1 by rw [List.length_take]; omega)] at this
            exact this
      · refine Ev.neg (fun h => h44 ((is44 c).1 h)) ?_
        rw [if_neg (fun h => h44 h.1), if_neg h34, ← hsn]
        exact hstep _
theorem prog_List (s : ByteArray) (hs : s.size ≤ 100000) : Ev (fun k => etag_List.f k s) (listSpec s.data.toList) := by
  unfold etag_List.f listSpec
  refine Ev.sbind (trim_some s (by omega)) ?_
  rw [toList_bOf]
  refine Ev.ite (fun h => ?_) (fun h => ?_)
  · rw [if_pos h]; exact Ev.some' rfl
  · rw [if_neg h]
    have := plist_l0 s.data.toList (by rw [size_data]; exact hs) _ 0 0 false [] rfl (by omega) (by omega) (by simp)
    rw [bOf_data] at this
    exact this
/-! ### Match, Same -/
theorem bind_len {part : List UInt8} {acc : List Tag} {f : List Tag → Option (List Tag)} {r : List Tag} (h : (flush part acc).bind f = some r) : ∃ a, flush part acc = some a ∧ f a = some r := Option.bind_eq_some_iff.1 h
theorem listGo_len (l : List UInt8) : ∀ (part : List UInt8) (q : Bool) (acc r : List Tag), listGo l part q acc = some r → r.length ≤ acc.length + l.length + 1 := by
  induction l with
  | nil => intro part q acc r h; have := flush_len h; simp; omega
  | cons c l ih =>
    intro part q acc r h
    rw [listGo] at h
    split at h
    · obtain ⟨a, h1, h2⟩ := bind_len h
      have := flush_len h1
      have := ih _ _ _ _ h2
      simp; omega
    · have := ih _ _ _ _ h
      simp; omega
theorem listSpec_len (l : List UInt8) : (listSpec l).1.length ≤ l.length + 1 := by
  unfold listSpec
  split
  · simp
  · cases h : listGo l [] false [] with
    | none => simp [fin]
    | some acc =>
      have := listGo_len _ _ _ _ _ h
      unfold fin
      simp only
      split <;> simp at this ⊢; omega
def likes (t : Tag) (b : ByteArray) : Bool := t.f1.toList == b.toList
def matchGo : List Tag → Bool → ByteArray → Bool
  | [], a, _ => a
  | t :: r, a, b => matchGo r (a || likes t b) b
def matchSpec (l : List UInt8) (b : ByteArray) : Bool := matchGo (listSpec l).1 (listSpec l).2.1 b
theorem weak_some (a : Bool) (x : ByteArray) (b : Bool) (y : ByteArray) : etag_Weak.f a x b y = some (x.toList == y.toList) := by
  simp [etag_Weak.f, etag_strong.f]
theorem rd_at (l : List Tag) (i : Nat) (h : i < l.length) : rd_T23 l (i : Int) = l[i] := by
  simp [rd_T23, List.getD_eq_getElem?_getD, List.getElem?_eq_getElem h]
theorem pmatch_l0 (l : List Tag) (b0 : Bool) (b : ByteArray) (hl : l.length ≤ 1000000) (n : Nat) : ∀ (i : Nat) (a : Bool), l.length - i = n → i ≤ l.length →
    Ev (fun k => etag_Match.l0 k a l (l.length : Int) (i : Int) b0 b) (matchGo (l.drop i) a b) := by
  induction n with
  | zero =>
    intro i a hn hi
    refine Ev.step (fun k => by rw [etag_Match.l0]) (Ev.neg (by omega) ?_)
    rw [List.drop_eq_nil_of_le (by omega)]
    exact Ev.some' rfl
  | succ n ih =>
    intro i a hn hi
    have hlt : i < l.length := by omega
    have hw : wrap64 ((i : Int) + 1) = ((i + 1 : Nat) : Int) := by rw [wrap_id] <;> omega
    refine Ev.step (fun k => by rw [etag_Match.l0]) (Ev.pos (by omega) (Ev.pos (by omega) (Ev.pos (by omega) ?_)))
    rw [List.drop_eq_getElem_cons hlt, matchGo, rd_at l i hlt, hw]
    cases a with
    | true => exact Ev.pos rfl (ih (i + 1) true (by omega) (by omega))
    | false =>
      refine Ev.neg (by simp) (Ev.sbind (weak_some _ _ _ _) ?_)
      exact ih (i + 1) _ (by omega) (by omega)
theorem prog_Match (s : ByteArray) (b0 : Bool) (b : ByteArray) (hs : s.size ≤ 100000) : Ev (fun k => etag_Match.f k s b0 b) (matchSpec s.data.toList b) := by
  unfold etag_Match.f
  refine Ev.bind (prog_List s hs) ?_
  have h := listSpec_len s.data.toList
  rw [size_data] at h
  exact pmatch_l0 _ b0 b (by omega) _ 0 _ rfl (by omega)
theorem rmatch_l0 (l : List Tag) (b0 : Bool) (b : ByteArray) (hl : l.length ≤ 1000000) (n : Nat) : ∀ (i : Nat) (a : Bool), l.length - i = n → i ≤ l.length →
    Ev (fun k => depotref14_Match.l0 k l a (i : Int) b0 b) (matchGo (l.drop i) a b) := by
  induction n with
  | zero =>
    intro i a hn hi
    refine Ev.step (fun k => by rw [depotref14_Match.l0]) (Ev.neg (by omega) ?_)
    rw [List.drop_eq_nil_of_le (by omega)]
    exact Ev.some' rfl
  | succ n ih =>
    intro i a hn hi
    have hlt : i < l.length := by omega
    have hw : wrap64 ((i : Int) + 1) = ((i + 1 : Nat) : Int) := by rw [wrap_id] <;> omega
    refine Ev.step (fun k => by rw [depotref14_Match.l0]) (Ev.pos (by omega) ?_)
    rw [List.drop_eq_getElem_cons hlt, matchGo, rd_at l i hlt, hw]
    cases a with
    | true => exact Ev.pos rfl (ih (i + 1) true (by omega) (by omega))
    | false =>
      refine Ev.neg (by simp) (Ev.pos (by omega) (Ev.sbind (show depotref14_Weak.f _ _ _ _ = some _ from rfl) ?_))
      exact ih (i + 1) _ (by omega) (by omega)
theorem ref14_Match (s : ByteArray) (b0 : Bool) (b : ByteArray) (hs : s.size ≤ 100000) : Ev (fun k => depotref14_Match.f k s b0 b) (matchSpec s.data.toList b) := by
  unfold depotref14_Match.f
  refine Ev.bind (ref14_List s hs) ?_
  have h := listSpec_len s.data.toList
  rw [size_data] at h
  exact rmatch_l0 _ b0 b (by omega) _ 0 _ rfl (by omega)
theorem same_l0 (l : List Tag) (hl : l.length ≤ 1000000) (n : Nat) : ∀ i : Nat, l.length - i = n → i ≤ l.length → Ev (fun k => depotref14_Same.l0 k l l (i : Int)) true := by
  induction n with
  | zero =>
    intro i hn hi
    exact Ev.step (fun k => by rw [depotref14_Same.l0]) (Ev.neg (by omega) (Ev.some' rfl))
  | succ n ih =>
    intro i hn hi
    have hw : wrap64 ((i : Int) + 1) = ((i + 1 : Nat) : Int) := by rw [wrap_id] <;> omega
    refine Ev.step (fun k => by rw [depotref14_Same.l0]) (Ev.pos (by omega) (Ev.pos (by omega) (Ev.pos (by omega) ?_)))
    rw [hw]
    exact Ev.neg (by simp) (ih (i + 1) (by omega) (by omega))
theorem same14 (l : List Tag) (hl : l.length ≤ 1000000) : Ev (fun k => depotref14_Same.f k l l) true := by
  unfold depotref14_Same.f
  exact Ev.pos rfl (same_l0 l hl _ 0 rfl (by omega))
end Go.Proofs.YtfjbjcheehojoaaDoor.Pu
