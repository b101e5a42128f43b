/- The statement LineBack, without the program in sight. -/
import Derived.Test.YtljikgfhglihhaaDoorPuLaw10
import Derived.Test.YtljikgfhglihhaaDoorPR15
namespace Go.Proofs.YtljikgfhglihhaaDoor.Pu
open Go.RowKit Go.Proofs.YtljikgfhglihhaaDoorW.PrintWords Go.Proofs.YtljikgfhglihhaaDoorW.PrintLast Go.Proofs.YtljikgfhglihhaaDoor.PR
set_option linter.unusedVariables false
set_option linter.unusedSimpArgs false

theorem plain_ver {V : List UInt8} (h : 0 ≤ verL V) : http ++ plain (verL V) = V := by
  obtain ⟨_, _, e, _⟩ := ver_facts h
  unfold plain
  rw [if_neg (by omega), ← e]
theorem ver_plain (v : Int) (h : v = 0 ∨ v = 1) : verL (http ++ plain v) = v := by
  rcases h with rfl | rfl
  · have : plain 0 = [48] := by unfold plain; rw [if_neg (by decide), digs_small (by decide)]; rfl
    rw [this]; rfl
  · have : plain 1 = [49] := by unfold plain; rw [if_neg (by decide), digs_small (by decide)]; rfl
    rw [this]; rfl
theorem req_cases (l : List UInt8) : (reqL l).2.2.2 = 0 ∧ ReqOk (cutAt 32 l).1 (cutAt 32 (cutAt 32 l).2.1).1 (cutAt 32 (cutAt 32 l).2.1).2.1 ∧ reqL l = ((cutAt 32 l).1, (cutAt 32 (cutAt 32 l).2.1).1, verL (cutAt 32 (cutAt 32 l).2.1).2.1, 0) ∨ ¬ (reqL l).2.2.2 = 0 := by
  unfold reqL
  by_cases h0 : 8192 < l.length
  · rw [if_pos h0]; exact Or.inr (by decide)
  · rw [if_neg h0]
    by_cases c : ReqOk (cutAt 32 l).1 (cutAt 32 (cutAt 32 l).2.1).1 (cutAt 32 (cutAt 32 l).2.1).2.1
    · rw [reqE_yes c]; exact Or.inl ⟨rfl, c, rfl⟩
    · rw [reqE_no c]; exact Or.inr (by decide)
theorem req_shape (l : List UInt8) (hk : ReqOk (cutAt 32 l).1 (cutAt 32 (cutAt 32 l).2.1).1 (cutAt 32 (cutAt 32 l).2.1).2.1) :
    l = (cutAt 32 l).1 ++ 32 :: ((cutAt 32 (cutAt 32 l).2.1).1 ++ 32 :: (cutAt 32 (cutAt 32 l).2.1).2.1) := by
  cases h2 : (cutAt 32 (cutAt 32 l).2.1).2.2
  · have h3 := hk.2.2.2
    rw [(cut_no 32 _ h2).2] at h3
    exact absurd h3 (by decide)
  · cases h1 : (cutAt 32 l).2.2
    · rw [(cut_no 32 l h1).2] at h2
      simp [cutAt] at h2
    · rw [← cut_yes 32 _ h2]
      exact cut_yes 32 l h1
theorem req_back (l : List UInt8) (h : (reqL l).2.2.2 = 0) : reqW (reqL l).1 (reqL l).2.1 (reqL l).2.2.1 = l ∧ (0 ≤ (reqL l).2.2.1 ∧ (reqL l).2.2.1 ≤ 1) := by
  rcases req_cases l with ⟨_, hk, e⟩ | hn
  · rw [e]
    have hs := req_shape l hk
    obtain ⟨_, _, _, h1⟩ := ver_facts hk.2.2.2
    refine ⟨?_, hk.2.2.2, h1⟩
    show (cutAt 32 l).1 ++ 32 :: ((cutAt 32 (cutAt 32 l).2.1).1 ++ 32 :: (http ++ plain (verL (cutAt 32 (cutAt 32 l).2.1).2.1))) = l
    rw [plain_ver hk.2.2.2]
    exact hs.symm
  · exact absurd h hn
theorem sta_cases (l : List UInt8) : (staL l).2.2.2 = 0 ∧ StaOk (cutAt 32 l).1 (cutAt 32 (cutAt 32 l).2.1).1 (cutAt 32 (cutAt 32 l).2.1).2.1 (cutAt 32 (cutAt 32 l).2.1).2.2 ∧ staL l = ((readP (bOf (cutAt 32 (cutAt 32 l).2.1).1) 10 18 599).1, (cutAt 32 (cutAt 32 l).2.1).2.1, verL (cutAt 32 l).1, 0) ∨ ¬ (staL l).2.2.2 = 0 := by
  unfold staL
  by_cases h0 : 8192 < l.length
  · rw [if_pos h0]; exact Or.inr (by decide)
  · rw [if_neg h0]
    by_cases c : StaOk (cutAt 32 l).1 (cutAt 32 (cutAt 32 l).2.1).1 (cutAt 32 (cutAt 32 l).2.1).2.1 (cutAt 32 (cutAt 32 l).2.1).2.2
    · rw [staE_yes c]; exact Or.inl ⟨rfl, c, rfl⟩
    · rw [staE_no c]; exact Or.inr (by decide)
theorem plain_read {C : List UInt8} (hl : C.length = 3) (h : (readP (bOf C) 10 18 599).2 = 0) (h1 : 100 ≤ (readP (bOf C) 10 18 599).1) : plain (readP (bOf C) 10 18 599).1 = C ∧ (readP (bOf C) 10 18 599).1 ≤ 599 := by
  match C, hl with
  | [a, b, c], _ =>
    rw [read3] at h h1 ⊢
    refine ⟨?_, (num3_yes h).2.2.2.2⟩
    unfold plain
    rw [if_neg (by omega), num3_plain h h1]
theorem sta_back (l : List UInt8) (h : (staL l).2.2.2 = 0) : staW (staL l).1 (staL l).2.1 (staL l).2.2.1 = l ∧ (0 ≤ (staL l).2.2.1 ∧ (staL l).2.2.1 ≤ 1) ∧ 0 ≤ (staL l).1 ∧ (staL l).1 ≤ 599 := by
  rcases sta_cases l with ⟨_, hk, e⟩ | hn
  · rw [e]
    have hs := sta_shape l hk
    obtain ⟨_, _, _, h1⟩ := ver_facts hk.1
    obtain ⟨hp, h599⟩ := plain_read hk.2.2.2.2.1 hk.2.2.1 hk.2.2.2.1
    refine ⟨?_, ⟨hk.1, h1⟩, ?_, h599⟩
    · show (http ++ plain (verL (cutAt 32 l).1)) ++ 32 :: (plain (readP (bOf (cutAt 32 (cutAt 32 l).2.1).1) 10 18 599).1 ++ 32 :: (cutAt 32 (cutAt 32 l).2.1).2.1) = l
      rw [plain_ver hk.1, hp]
      exact hs.symm
    · show 0 ≤ (readP (bOf (cutAt 32 (cutAt 32 l).2.1).1) 10 18 599).1
      have := hk.2.2.2.1
      omega
  · exact absurd h hn
/-! ### what is printed is read -/
theorem tok_32 : tokU 32 = false := by kernel_rfl
theorem vis_32 : visU 32 = false := by kernel_rfl
theorem all_no (p : UInt8 → Bool) (l : List UInt8) (h : l.all p = true) (hp : p 32 = false) : ∀ x ∈ l, x ≠ 32 := by
  rintro x hx rfl
  have := List.all_eq_true.1 h 32 hx
  rw [hp] at this
  cases this
theorem ver_no32 (v : Int) (h : v = 0 ∨ v = 1) : ∀ x ∈ http ++ plain v, x ≠ 32 := (ver_facts (by rw [ver_plain v h]; omega)).2.1
theorem count_no {l : List UInt8} (h : ∀ x ∈ l, x ≠ 32) : l.count 32 = 0 := List.count_eq_zero.2 (fun hm => h 32 hm rfl)
def Fine (m t : List UInt8) : Prop := isTok m = true ∧ ¬ t = [] ∧ t.all visU = true
instance (m t : List UInt8) : Decidable (Fine m t) := by unfold Fine; exact inferInstance
theorem tok_no32 {m : List UInt8} (h : isTok m = true) : ∀ x ∈ m, x ≠ 32 := by
  unfold isTok at h
  exact all_no tokU m (by simp at h; simpa using h.2) tok_32
theorem req_print (m t : List UInt8) (v : Int) (hv : v = 0 ∨ v = 1) (hm : m.length ≤ 1000) (ht : t.length ≤ 1000) :
    (Fine m t ∧ reqL (reqW m t v) = (m, t, v, 0)) ∨ (¬ Fine m t ∧ ¬ (reqL (reqW m t v)).2.2.2 = 0) := by
  have hlen : (reqW m t v).length ≤ 8192 := by
    have := plain_len v (by omega)
    unfold reqW http
    simp
    omega
  by_cases h32 : (∀ x ∈ m, x ≠ 32) ∧ (∀ x ∈ t, x ≠ 32)
  · have e : reqL (reqW m t v) = reqE m t (http ++ plain v) := by
      unfold reqL
      rw [if_neg (by omega)]
      unfold reqW
      rw [cut_at 32 m _ h32.1]
      simp only
      rw [cut_at 32 t _ h32.2]
    rw [e]
    by_cases c : Fine m t
    · refine Or.inl ⟨c, ?_⟩
      rw [reqE_yes ⟨c.1, c.2.1, c.2.2, by rw [ver_plain v hv]; omega⟩, ver_plain v hv]
    · refine Or.inr ⟨c, ?_⟩
      rw [reqE_no (fun hk => c ⟨hk.1, hk.2.1, hk.2.2.1⟩)]
      decide
  · have c : ¬ Fine m t := fun c => h32 ⟨tok_no32 c.1, all_no visU t c.2.2 vis_32⟩
    refine Or.inr ⟨c, ?_⟩
    intro h0
    rcases req_cases (reqW m t v) with ⟨_, hk, _⟩ | hn
    · have hs := congrArg (List.count 32) (req_shape _ hk)
      have z1 := count_no (cut_first 32 (reqW m t v))
      have z2 := count_no (cut_first 32 (cutAt 32 (reqW m t v)).2.1)
      have z3 := count_no (ver_facts hk.2.2.2).2.1
      have z4 := count_no (ver_no32 v hv)
      simp only [List.count_append, List.count_cons, z1, z2, z3] at hs
      unfold reqW at hs
      simp only [List.count_append, List.count_cons] at hs z4
      have zm : m.count 32 = 0 := by simp at hs; omega
      have zt : t.count 32 = 0 := by simp at hs; omega
      exact h32 ⟨fun x hx e => by subst e; exact absurd hx (List.count_eq_zero.1 zm), fun x hx e => by subst e; exact absurd hx (List.count_eq_zero.1 zt)⟩
    · exact hn h0
theorem digs3 (n : Nat) (h : 100 ≤ n) (h1 : n ≤ 599) : (digs 10 n).length = 3 ∧ ∀ x ∈ digs 10 n, x ≠ 32 := by
  have hd : ∀ d : Fin 10, dch d ≠ 32 := by decide
  rw [digs_big (by decide) (by omega), digs_big (by decide) (by omega), digs_small (by omega)]
  refine ⟨rfl, fun x hx => ?_⟩
  simp at hx
  rcases hx with rfl | rfl | rfl
  · exact hd ⟨_, by omega⟩
  · exact hd ⟨_, by omega⟩
  · exact hd ⟨_, by omega⟩
theorem sta_print (c : Int) (r : List UInt8) (v : Int) (hv : v = 0 ∨ v = 1) (h0 : 100 ≤ c) (h1 : c ≤ 599) (hr : r.length ≤ 1000) (ht : isTxt r = true) : staL (staW c r v) = (c, r, v, 0) := by
  have hp : plain c = digs 10 c.toNat := by unfold plain; rw [if_neg (by omega)]
  obtain ⟨d3, d32⟩ := digs3 c.toNat (by omega) (by omega)
  have hlen : (staW c r v).length ≤ 8192 := by
    have := plain_len v (by omega)
    unfold staW http
    rw [hp]
    simp
    omega
  have hb := ten_back c.toNat 599 (by omega) (by omega)
  have hc : ((c.toNat : Nat) : Int) = c := by omega
  rw [hc] at hb
  unfold staW at hlen ⊢
  rw [hp] at hlen ⊢
  rw [sta_of _ _ r (by rw [ver_plain v hv]; omega) d32 hlen, staE_yes ⟨by rw [ver_plain v hv]; omega, rfl, by rw [hb], by rw [hb]; exact h0, d3, ht⟩, hb, ver_plain v hv]
/-! ### the law -/
theorem lb_j6 (t : List UInt8) (c v : Int) (ht : t.length ≤ 1000) (hc : -9223372036854775808 ≤ c ∧ c ≤ 9223372036854775807) (hv : v = 0 ∨ v = 1) : Ev (fun k => depotlaw10_LineBack.j6 k (bOf t) c v false) true := by
  have hv' : -9223372036854775808 ≤ v ∧ v ≤ 9223372036854775807 := by omega
  have hW := prog_PrintStatus c t v (by omega) hc hv'
  have hl : (staW c t v).length ≤ 100000 := by
    have := plain_len v hv'
    have := plain_len c hc
    unfold staW http
    simp
    omega
  have hS := prog_Status _ hl
  have any : Ev (fun k => (line_PrintStatus.f c (bOf t) v).bind fun t248 => (line_Status.f t248).bind fun bt249 => if bt249.2.2.2 = 0 then (depotlaw10_lines.f k).bind fun t253 => some t253 else (depotlaw10_lines.f k).bind fun t254 => some t254) true :=
    Ev.sbind hW (Ev.sbind hS (Ev.ite (fun _ => lines_end) (fun _ => lines_end)))
  refine Ev.step (fun k => by rw [depotlaw10_LineBack.j6]) ?_
  refine Ev.neg (by simp) ?_
  refine Ev.ite (fun h0 => Ev.ite (fun h1 => ?_) (fun _ => any)) (fun _ => any)
  refine Ev.sbind (prog_IsText t (by omega)) (Ev.sbind hW (Ev.sbind hS ?_))
  by_cases c1 : isTxt t = true
  · have c1' : t.all textU = true := c1
    rw [c1', sta_print c t v hv h0 h1 ht c1]
    exact Ev.pos rfl (Ev.pos rfl (Ev.pos rfl (Ev.pos rfl (Ev.pos rfl lines_end))))
  · have c1' : t.all textU = false := by simpa [isTxt] using c1
    rw [c1']
    exact Ev.ite (fun _ => Ev.neg (by simp) lines_end) (fun _ => Ev.neg (by simp) lines_end)
theorem lb_l0 (m t : List UInt8) (c v : Int) (hm : m.length ≤ 1000) (ht : t.length ≤ 1000) (hc : -9223372036854775808 ≤ c ∧ c ≤ 9223372036854775807) (hv : v = 0 ∨ v = 1) (n : Nat) : ∀ (p s : List UInt8) (b : Bool), s.length = n → t = p ++ s →
    (b && s.all visU) = decide (Fine m t) → Ev (fun k => depotlaw10_LineBack.l0 k (bOf m) (bOf t) c v b (p.length : Int)) true := by
  induction n with
  | zero =>
    intro p s b hs hl hb
    have : s = [] := List.eq_nil_of_length_eq_zero hs
    subst this
    rw [List.append_nil] at hl
    subst hl
    have hv' : -9223372036854775808 ≤ v ∧ v ≤ 9223372036854775807 := by omega
    have hl : (reqW m t v).length ≤ 100000 := by
      have := plain_len v hv'
      unfold reqW http
      simp
      omega
    have hb' : b = decide (Fine m t) := by simpa using hb
    refine Ev.step (fun k => by rw [depotlaw10_LineBack.l0]) ?_
    refine Ev.neg (by rw [bOf_size]; omega) (Ev.sbind (prog_PrintRequest m t v (by omega) (by omega) hv') (Ev.bind (prog_Request _ hl) ?_))
    rcases req_print m t v hv hm ht with ⟨hf, e⟩ | ⟨hf, e⟩
    · rw [e]
      rw [decide_eq_true hf] at hb'
      subst hb'
      refine Ev.neg (by simp [reqB]) (Ev.pos rfl (Ev.pos rfl (Ev.pos rfl ?_)))
      rw [show ((reqB (m, t, v, 0)).2.2.1 != v) = false by simp [reqB]]
      exact lb_j6 t c v ht hc hv
    · rw [decide_eq_false hf] at hb'
      subst hb'
      have e2 : ((reqB (reqL (reqW m t v))).2.2.2 == 0) = false := by simpa [reqB] using e
      refine Ev.neg (by rw [e2]; decide) (Ev.neg (by simp) ?_)
      exact lb_j6 t c v ht hc hv
  | succ n ih =>
    intro p s b hs hl hb
    obtain ⟨x, s, rfl⟩ : ∃ x t, s = x :: t := by
      cases s with
      | nil => simp at hs
      | cons x t => exact ⟨x, t, rfl⟩
    have hlen : t.length = p.length + (s.length + 1) := by rw [hl]; simp
    have hbt : bt (bOf t) (p.length : Int) = (x.toNat : Int) := by rw [hl]; exact bt_at_cut p x s
    have hw : wrap64 ((p.length : Int) + 1) = (((p ++ [x]).length : Nat) : Int) := by rw [wrap_id (by omega) (by omega)]; simp
    refine Ev.step (fun k => by rw [depotlaw10_LineBack.l0]) (Ev.pos (by rw [bOf_size]; omega) ?_)
    rw [hbt, hw]
    have next := fun b' hb' => ih (p ++ [x]) s b' (by simpa using hs) (by rw [hl]; simp) hb'
    rw [List.all_cons] at hb
    cases b
    · exact Ev.neg (by simp) (next false (by simpa using hb))
    · refine Ev.pos rfl (Ev.pos (by omega) ?_)
      rw [Bool.true_and] at hb
      by_cases c1 : (x.toNat : Int) > 32
      · refine Ev.pos c1 (next _ ?_)
        have : visU x = decide ((x.toNat : Int) < 127) := by
          unfold visU visB
          rw [decide_eq_true (by omega), Bool.true_and]
          by_cases c2 : (x.toNat : Int) < 127
          · rw [decide_eq_true c2, decide_eq_true (by omega)]
          · rw [decide_eq_false c2, decide_eq_false (by omega)]
        rw [← this]
        exact hb
      · refine Ev.neg c1 (next _ ?_)
        have : visU x = false := by unfold visU visB; rw [decide_eq_false (by omega)]; rfl
        rw [this] at hb
        exact hb
theorem lback_law (a0 a1 : ByteArray) (c v : Int) (a4 : ByteArray) (hc : (Lit.int .i64 c).wf = true) (hv : (Lit.int .i64 v).wf = true) : ∃ k, depotlaw10_LineBack.f k a0 a1 c v a4 = some true := by
  have hc := wf64 hc
  have hv := wf64 hv
  refine Ev.rounds ?_
  obtain ⟨m, rfl, hm⟩ := ex_bOf a0
  obtain ⟨t, rfl, ht⟩ := ex_bOf a1
  obtain ⟨l, rfl, hl⟩ := ex_bOf a4
  have j0t : Ev (fun k => depotlaw10_LineBack.j0 k (bOf m) (bOf t) c v (bOf l) true) true := by
    refine Ev.step (fun k => by rw [depotlaw10_LineBack.j0]) ?_
    exact Ev.pos rfl lines_end
  unfold depotlaw10_LineBack.f
  refine Ev.ite (fun _ => j0t) (fun h1 => Ev.ite (fun _ => j0t) (fun h2 => ?_))
  by_cases h3 : ((bOf l).size : Int) > 5000
  · rw [decide_eq_true h3]; exact j0t
  · rw [decide_eq_false h3]
    rw [bOf_size] at h1 h2 h3
    have j2f : Ev (fun k => depotlaw10_LineBack.j2 k (bOf m) (bOf t) c v false) true := by
      refine Ev.step (fun k => by rw [depotlaw10_LineBack.j2]) ?_
      refine Ev.neg (by simp) ?_
      have j3t : Ev (fun k => depotlaw10_LineBack.j3 k (bOf m) (bOf t) c v true) true := by
        refine Ev.step (fun k => by rw [depotlaw10_LineBack.j3]) ?_
        exact Ev.pos rfl lines_end
      refine Ev.ite (fun _ => j3t) (fun g1 => ?_)
      by_cases g2 : v > 1
      · rw [decide_eq_true g2]; exact j3t
      · rw [decide_eq_false g2]
        have hv01 : v = 0 ∨ v = 1 := by omega
        refine Ev.step (fun k => by rw [depotlaw10_LineBack.j3]) ?_
        refine Ev.neg (by simp) (Ev.sbind (prog_IsToken m (by omega)) ?_)
        have j4 := fun b hb => (Ev.step (g := fun k => depotlaw10_LineBack.j4 k (bOf m) (bOf t) c v b) (fun k => by rw [depotlaw10_LineBack.j4]; rfl) (lb_l0 m t c v (by omega) (by omega) hc hv01 t.length [] t b rfl rfl hb))
        by_cases c1 : isTok m = true
        · have c1' : (!m.isEmpty && m.all tokU) = true := c1
          rw [c1', toList_bOf]
          refine Ev.pos rfl (j4 _ ?_)
          have : decide (Fine m t) = ((t != []) && t.all visU) := by
            unfold Fine
            rw [Bool.eq_iff_iff]
            simp [c1]
          exact this.symm
        · have c1' : (!m.isEmpty && m.all tokU) = false := by simpa [isTok] using c1
          rw [c1']
          exact Ev.neg (by simp) (j4 _ (by rw [decide_eq_false (fun hf => c1 hf.1)]; rfl))
    have j1f : Ev (fun k => depotlaw10_LineBack.j1 k (bOf m) (bOf t) c v (bOf l) false) true := by
      refine Ev.step (fun k => by rw [depotlaw10_LineBack.j1]) ?_
      refine Ev.neg (by simp) (Ev.sbind (prog_Status l (by omega)) ?_)
      by_cases e0 : (staL l).2.2.2 = 0
      · obtain ⟨e1, e2, e3, e4⟩ := sta_back l e0
        have hle : (staL l).2.1.length ≤ 100000 := by
          have := congrArg List.length e1
          unfold staW at this
          simp at this
          omega
        refine Ev.pos e0 (Ev.sbind (prog_PrintStatus (staL l).1 (staL l).2.1 (staL l).2.2.1 hle (by omega) (by omega)) ?_)
        rw [e1, show ((bOf l).toList != (bOf l).toList) = false by simp]
        exact j2f
      · exact Ev.neg e0 j2f
    refine Ev.step (fun k => by rw [depotlaw10_LineBack.j0]) ?_
    refine Ev.neg (by simp) (Ev.bind (prog_Request l (by omega)) ?_)
    by_cases e0 : (reqL l).2.2.2 = 0
    · obtain ⟨e1, e2⟩ := req_back l e0
      have hle : (reqL l).1.length ≤ 100000 ∧ (reqL l).2.1.length ≤ 100000 := by
        have := congrArg List.length e1
        unfold reqW at this
        simp at this
        omega
      refine Ev.pos e0 (Ev.sbind (prog_PrintRequest (reqL l).1 (reqL l).2.1 (reqL l).2.2.1 hle.1 hle.2 (by omega)) ?_)
      rw [e1, show ((bOf l).toList != (bOf l).toList) = false by simp]
      exact j1f
    · exact Ev.neg e0 j1f
end Go.Proofs.YtljikgfhglihhaaDoor.Pu
