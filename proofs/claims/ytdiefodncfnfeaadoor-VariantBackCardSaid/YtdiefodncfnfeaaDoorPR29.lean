-- Out of the translation, by a program of this session: each function that a law comes to as a Lean function, and that the machine's call does what it says. Lean checks it.
import Derived.Test.YtdiefodncfnfeaaDoorPR0
import Derived.Test.YtdiefodncfnfeaaDoorPR14
import Derived.Test.YtdiefodncfnfeaaDoorPR15
import Derived.Test.YtdiefodncfnfeaaDoorPR28
namespace Go.Proofs.YtdiefodncfnfeaaDoor.PR
open Go.RowKit Go.Proofs.YtdiefodncfnfeaaDoorW.PrintWords Go.Proofs.YtdiefodncfnfeaaDoorW.PrintLast Go.Proofs.YtdiefodncfnfeaaDoorW.PrintMore
attribute [local go_sem] max2_int min2_int max_two min_two max_three min_three max_four min_four   -- for this text's walks alone
set_option linter.unusedVariables false
set_option linter.unusedSimpArgs false

/-! ### depotref20_Encode: function 19: told by hand -/
theorem leB_next (n : Int) (i : Nat) (h0 : 0 ≤ n) : n / 2 ^ (8 * i) / 256 = n / 2 ^ (8 * (i + 1)) := by
  rw [Int.ediv_ediv_of_nonneg (Int.pow_nonneg (by decide)), show (2 : Int) ^ (8 * (i + 1)) = 2 ^ (8 * i) * 256 by rw [Nat.mul_add, Int.pow_add]; rfl]
theorem pow256 (wd : Nat) : (256 : Int) ^ wd = 2 ^ (8 * wd) := by rw [Int.pow_mul]; rfl
theorem refPut_l0 (n : Int) (wd : Nat) (h0 : 0 ≤ n) (h1 : n < 256 ^ wd) (hb : n ≤ 9223372036854775807) (hw : wd ≤ 7) : ∀ (d i k : Nat) (acc : List Int), d + i = wd → d < k → acc.length + d < 140737488355328 →
    depotref03_Put.l0 k n wd acc (n / 2 ^ (8 * i)) i = some (acc ++ (List.range' i d).map (leB n), 0) := by
  intro d
  induction d with
  | zero =>
    intro i k acc hd hk hl
    obtain ⟨k, rfl⟩ : ∃ m, k = m + 1 := ⟨k - 1, by omega⟩
    obtain rfl : i = wd := by omega
    rw [depotref03_Put.l0, if_neg (by omega), if_neg (by omega)]
    rw [pow256] at h1
    rw [Int.ediv_eq_zero_of_lt h0 h1, if_neg (by decide)]
    simp
  | succ d ih =>
    intro i k acc hd hk hl
    obtain ⟨k, rfl⟩ : ∃ m, k = m + 1 := ⟨k - 1, by omega⟩
    have hq0 : 0 ≤ n / 2 ^ (8 * i) := Int.ediv_nonneg h0 (Int.pow_nonneg (by decide))
    have hq1 : n / 2 ^ (8 * i) ≤ n := Int.ediv_le_self _ h0
    rw [depotref03_Put.l0, if_pos (by omega), if_pos (by omega)]
    have e1 : (Int.tmod (n / 2 ^ (8 * i)) 256) % 256 = leB n i := by
      rw [Int.tmod_eq_emod_of_nonneg hq0]
      unfold leB
      omega
    have e2 : wrap64 (Int.tdiv (n / 2 ^ (8 * i)) 256) = n / 2 ^ (8 * (i + 1)) := by
      rw [Int.tdiv_eq_ediv_of_nonneg hq0, ← leB_next n i h0]
      unfold wrap64
      omega
    have e3 : wrap64 ((i : Int) + 1) = ((i + 1 : Nat) : Int) := by unfold wrap64; omega
    rw [e1, e2, e3, ih (i + 1) k _ (by omega) (by omega) (by simp; omega)]
    rw [List.append_assoc, List.range'_succ, List.map_cons, List.singleton_append]
theorem refPut_f (bs : List Int) (n : Int) (wd : Nat) (h0 : 0 ≤ n) (h1 : n < 256 ^ wd) (hw : wd = 1 ∨ wd = 2 ∨ wd = 4 ∨ wd = 5) (hl : bs.length < 1000000000) : depotref03_Put.f 20 bs n wd = some (bs ++ leBytes n wd, 0) := by
  have hb : n ≤ 9223372036854775807 := by rcases hw with rfl | rfl | rfl | rfl <;> omega
  unfold depotref03_Put.f
  rw [if_neg (by omega), decide_eq_false (by omega), depotref03_Put.j0, if_neg (by simp), Option.bind_some, if_pos (by simp; omega)]
  have := refPut_l0 n wd h0 h1 hb (by omega) wd 0 19 ([] ++ bs) (by omega) (by omega) (by simp; omega)
  rw [Nat.mul_zero, Int.pow_zero, Int.ediv_one] at this
  rw [show ((0 : Nat) : Int) = 0 from rfl] at this
  rw [this]
  rw [List.nil_append]
  unfold leBytes
  rw [List.range_eq_range']
theorem refPutText_f (bs : List Int) (s : ByteArray) (hl : bs.length < 900000000) : depotref03_PutText.f 20 bs s = some ((textW (0, bs) s).2, (textW (0, bs) s).1) := by
  unfold depotref03_PutText.f textW
  rw [if_neg (show ¬ ((0, bs) : Int × List Int).1 ≠ 0 by simp)]
  by_cases c : 65536 < s.size
  · rw [if_pos (by omega), if_pos c]
  · rw [if_neg (by omega), if_neg c]
    have hlen : (leBytes s.size 4).length = 4 := rfl
    have hp := refPut_f bs s.size 4 (by omega) (by show (s.size : Int) < 256 ^ 4; omega) (by decide) (by omega)
    rw [show ((4 : Nat) : Int) = 4 from rfl] at hp
    rw [hp, Option.bind_some, if_pos (by rw [List.length_append, hlen]; omega)]
/-- The reference's writer in block b: the bytes, the first error. -/
structure RwAt (B b : Nat) (e : Int) (bs : List Int) (w : World) : Prop where
  hB : B ≤ b
  hw : B ≤ w.heap.size
  out : ∃ v, w.heap[b]? = some (.cells #[v, .int .i64 e] 74 (0, 0)) ∧ Kd.R (Kd.int .u8) 5 w B (fun _ => True) v bs
theorem RwAt.below {B b : Nat} {e : Int} {bs : List Int} {w w' : World} (h : RwAt B b e bs w) (hb : Below w.heap.size w w') : RwAt B b e bs w' := by
  obtain ⟨v, hk, hr⟩ := h.out
  exact ⟨h.hB, Nat.le_trans h.hw hb.size, v, blk_below hk hb, Kd.R_below hr hb⟩
theorem RwAt.lt {B b : Nat} {e : Int} {bs : List Int} {w : World} (h : RwAt B b e bs w) : b < w.heap.size := by
  obtain ⟨v, hk, hr⟩ := h.out
  exact blk_lt hk
theorem RwAt.cell {B b : Nat} {e : Int} {bs : List Int} {w : World} (h : RwAt B b e bs w) : w.cell? ⟨b, 1, none⟩ = some (.int .i64 e) := by
  obtain ⟨v, hk, hr⟩ := h.out
  exact blk_cell hk 1
theorem RwAt.err {B b : Nat} {e e' : Int} {bs : List Int} {w : World} (h : RwAt B b e bs w) : RwAt B b e' bs (w.setCell ⟨b, 1, none⟩ (.int .i64 e')) := by
  obtain ⟨v, hk, hr⟩ := h.out
  exact ⟨h.hB, by simpa [World.setCell] using h.hw, v, blk_put hk 1 _ rfl, Kd.R_set hr hk (by decide) 1 _⟩
theorem RwAt.put {B b : Nat} {e e' : Int} {bs bs' : List Int} {w : World} (h : RwAt B b e bs w) (v : Value) (hv : Kd.R (Kd.int .u8) 5 w B (fun _ => True) v bs') : RwAt B b e' bs' ((w.setCell ⟨b, 0, none⟩ v).setCell ⟨b, 1, none⟩ (.int .i64 e')) := by
  obtain ⟨v0, hk, _⟩ := h.out
  have hk1 := blk_put hk 0 v (cs' := #[v, .int .i64 e]) rfl
  exact ⟨h.hB, by simpa [World.setCell] using h.hw, v, blk_put hk1 1 _ rfl, Kd.R_set (Kd.R_set hv hk (by decide) 0 _) hk1 (by decide) 1 _⟩
theorem RwAt.put0 {B b : Nat} {e : Int} {bs bs' : List Int} {w : World} (h : RwAt B b e bs w) (v : Value) (hv : Kd.R (Kd.int .u8) 5 w B (fun _ => True) v bs') : RwAt B b e bs' (w.setCell ⟨b, 0, none⟩ v) := by
  obtain ⟨v0, hk, _⟩ := h.out
  exact ⟨h.hB, by simpa [World.setCell] using h.hw, v, blk_put hk 0 v rfl, Kd.R_set hv hk (by decide) 0 _⟩
set_option maxHeartbeats 1600000 in
theorem rw_num (B b : Nat) (e : Int) (bs : List Int) (n : Int) (wd : Nat) (lo hi wrong : Int) (w : World) (h : RwAt B b e bs w) (hwd : wd = 1 ∨ wd = 2 ∨ wd = 5) (hlo : 0 ≤ lo) (hhi : hi < 256 ^ wd) (hl : bs.length < 1000000000) (hwr : wrong ≠ 0) :
    Calls Tryd.prog 34 #[.pointer (some ⟨b, 0, none⟩), .int .i64 n, .int .i64 wd, .int .i64 lo, .int .i64 hi, .int .i64 wrong] w fun x w' => x = .returned (.tuple #[]) ∧ RwAt B b (numW (e, bs) n wd lo hi wrong).1 (numW (e, bs) n wd lo hi wrong).2 w' ∧ w.grownBy w' (some b) := by
  obtain ⟨v, hk, hR⟩ := h.out
  have k1 := blk_cell hk 1
  have f1 := blk_frozen hk 1
  have H := Aside0.mk h
  by_cases he : e = 0
  · subst he
    by_cases hin : lo ≤ n ∧ n ≤ hi
    · have hnum : numW (0, bs) n wd lo hi wrong = (0, bs ++ leBytes n wd) := by unfold numW; rw [if_neg (by simp), if_pos hin]
      have HN := Aside0.mk hnum
      have hpf := refPut_f bs n wd (by omega) (Int.lt_of_le_of_lt hin.2 hhi) (by omega) hl
      obtain ⟨bs', hbs'⟩ : ∃ z, z = bs ++ leBytes n wd := ⟨_, rfl⟩
      rw [← hbs'] at HN hpf
      obtain ⟨A, c, rfl, hlc, hC⟩ := Kd.R_reads hR
      have k0 := blk_cell hk 0
      have HP := depotref03_Put.calls 20 A c bs n wd bs' 0 w hC hlc hpf
      obtain ⟨hi1, hi2⟩ := hin
      have d1 : ¬ n < lo := by omega
      have d2 : ¬ hi < n := by omega
      have d3 : decide (n < lo) = false := decide_eq_false d1
      have d4 : decide (hi < n) = false := decide_eq_false d2
      clear h hnum hbs' hpf hR hk hC hlc hwr
      go_enter Tryd.func34, Tryd.ntmps34
      go_wp2_with (go_at_call 54; refine HP.mono ?_; rintro x w3 ⟨v3, rfl, ho3, hb3⟩; clear HP k0; obtain ⟨A3, c3, rfl⟩ := Kd.R_slice ho3; have H3 := Aside0.mk (H.out.below hb3); have HO3 := Aside0.mk (Kd.R_lower ho3 H.out.hw); have HG3 := Aside0.mk (gb_below hb3 b); clear H hb3 ho3; obtain ⟨v, hk, hr⟩ := H3.out.out; have k2 := blk_cell hk 0; have f2 := blk_frozen hk 0; clear hk hr)
      go_end0
      exact ⟨rfl, by rw [HN.out]; exact H3.out.put0 _ HO3.out, gb_set HG3.out 0 _⟩
    · have hnum : numW (0, bs) n wd lo hi wrong = (wrong, bs) := by unfold numW; rw [if_neg (by simp), if_neg hin]
      have HN := Aside0.mk hnum
      have hw2 : (wrong == 0) = false := beq_false_of_ne hwr
      clear h hnum hR hk
      by_cases d1 : n < lo
      · clear hin
        have d3 : decide (n < lo) = true := decide_eq_true d1
        go_enter Tryd.func34, Tryd.ntmps34
        go_wp2_with (fail)
        go_end0
        exact ⟨rfl, by rw [HN.out]; exact H.out.err, gb_set (gb_refl _ _) 1 _⟩
      · have d2 : hi < n := by omega
        clear hin
        have d3 : decide (n < lo) = false := decide_eq_false d1
        have d4 : decide (hi < n) = true := decide_eq_true d2
        go_enter Tryd.func34, Tryd.ntmps34
        go_wp2_with (fail)
        go_end0
        exact ⟨rfl, by rw [HN.out]; exact H.out.err, gb_set (gb_refl _ _) 1 _⟩
  · have hnum : numW (e, bs) n wd lo hi wrong = (e, bs) := by unfold numW; rw [if_pos he]
    have HN := Aside0.mk hnum
    have he2 : (e == 0) = false := beq_false_of_ne he
    clear h hnum hR hk
    go_enter Tryd.func34, Tryd.ntmps34
    go_wp2_with (fail)
    go_end0
    exact ⟨rfl, by rw [HN.out]; exact H.out, gb_refl _ _⟩
theorem rw_text (B b : Nat) (s : ByteArray) (e : Int) (bs : List Int) (w : World) (h : RwAt B b e bs w) (hl : bs.length + (4 + s.size) < 900000000) :
    Calls Tryd.prog 35 #[.pointer (some ⟨b, 0, none⟩), .string s] w fun x w' => x = .returned (.tuple #[]) ∧ RwAt B b (textW (e, bs) s).1 (textW (e, bs) s).2 w' ∧ w.grownBy w' (some b) := by
  obtain ⟨v, hk, hR⟩ := h.out
  have k1 := blk_cell hk 1
  have H := Aside0.mk h
  by_cases he : e = 0
  · subst he
    have hpt := refPutText_f bs s (by omega)
    generalize textW (0, bs) s = st2 at hpt ⊢
    obtain ⟨e2, bs2⟩ := st2
    try simp only at hpt ⊢
    obtain ⟨A, c, rfl, hlc, hC⟩ := Kd.R_reads hR
    have k0 := blk_cell hk 0
    have HP := depotref03_PutText.calls 20 A c bs s bs2 e2 w hC hlc hpt
    clear h hpt hR hk hC hlc
    go_enter Tryd.func35, Tryd.ntmps35
    go_wp2_with (go_at_call 55; refine HP.mono ?_; rintro x w3 ⟨v3, rfl, ho3, hb3⟩; clear HP k0; obtain ⟨A3, c3, rfl⟩ := Kd.R_slice ho3; have H3 := Aside0.mk (H.out.below hb3); have HO3 := Aside0.mk (Kd.R_lower ho3 H.out.hw); have HG3 := Aside0.mk (gb_below hb3 b); clear H hb3 ho3; obtain ⟨v, hk, hr⟩ := H3.out.out; have k2 := blk_cell hk 0; have f2 := blk_frozen hk 0; have k3 := blk_cell hk 1; have f3 := blk_frozen hk 1; clear hk hr)
    go_end0
    exact ⟨rfl, H3.out.put _ HO3.out, gb_set (gb_set HG3.out 0 _) 1 _⟩
  · have hst : textW (e, bs) s = (e, bs) := by unfold textW; rw [if_pos he]
    rw [hst]
    have he2 : (e == 0) = false := beq_false_of_ne he
    clear h hst hR hk
    go_enter Tryd.func35, Tryd.ntmps35
    go_wp2_with (fail)
    go_end0
    exact ⟨rfl, H.out, gb_refl _ _⟩
/-- The reference's writer, and a box beside it. -/
structure RbAt (w : World) (b g : Nat) (cs : Array Value) (t : TypeId) (e : Int) (bs : List Int) (W : World) : Prop where
  wr : RwAt w.heap.size b e bs W
  bx : W.heap[g]? = some (.cells cs t (0, 0))
  ne : some g ≠ some b
  bel : Below w.heap.size w W
theorem RbAt.below {w : World} {b g : Nat} {cs : Array Value} {t : TypeId} {e : Int} {bs : List Int} {W W' : World} (h : RbAt w b g cs t e bs W) (hb : Below W.heap.size W W') : RbAt w b g cs t e bs W' :=
  ⟨h.wr.below hb, blk_below h.bx hb, h.ne, below_step h.bel hb⟩
theorem RbAt.grown {w : World} {b g : Nat} {cs : Array Value} {t : TypeId} {e e' : Int} {bs bs' : List Int} {W W' : World} (h : RbAt w b g cs t e bs W) (hg : W.grownBy W' (some b)) (hw : RwAt w.heap.size b e' bs' W') : RbAt w b g cs t e' bs' W' :=
  ⟨hw, blk_grown h.bx hg h.ne, h.ne, h.bel.trans (gb_to hg h.wr.hB h.wr.hw)⟩
theorem RbAt.num {w : World} {b g : Nat} {cs : Array Value} {t : TypeId} {e : Int} {bs : List Int} {W : World} (h : RbAt w b g cs t e bs W) (n : Int) (wd : Nat) (lo hi wrong : Int) (hwd : wd = 1 ∨ wd = 2 ∨ wd = 5) (hlo : 0 ≤ lo) (hhi : hi < 256 ^ wd) (hl : bs.length < 1000000000) (hwr : wrong ≠ 0) (st : Int × List Int) (hst : numW (e, bs) n wd lo hi wrong = st) :
    Calls Tryd.prog 34 #[.pointer (some ⟨b, 0, none⟩), .int .i64 n, .int .i64 wd, .int .i64 lo, .int .i64 hi, .int .i64 wrong] W fun x w' => x = .returned (.tuple #[]) ∧ RbAt w b g cs t st.1 st.2 w' := by
  subst hst
  exact (rw_num w.heap.size b e bs n wd lo hi wrong W h.wr hwd hlo hhi hl hwr).mono fun x w' ⟨h1, h2, h3⟩ => ⟨h1, h.grown h3 h2⟩
theorem RbAt.text {w : World} {b g : Nat} {cs : Array Value} {t : TypeId} {e : Int} {bs : List Int} {W : World} (h : RbAt w b g cs t e bs W) (s : ByteArray) (hl : bs.length + (4 + s.size) < 900000000) (st : Int × List Int) (hst : textW (e, bs) s = st) :
    Calls Tryd.prog 35 #[.pointer (some ⟨b, 0, none⟩), .string s] W fun x w' => x = .returned (.tuple #[]) ∧ RbAt w b g cs t st.1 st.2 w' := by
  subst hst
  exact (rw_text w.heap.size b s e bs W h.wr hl).mono fun x w' ⟨h1, h2, h3⟩ => ⟨h1, h.grown h3 h2⟩
theorem numW_err (st : Int × List Int) (n : Int) (wd : Nat) (lo hi wrong : Int) (h : st.1 ≠ 0) : numW st n wd lo hi wrong = st := by unfold numW; rw [if_pos h]
theorem textW_err (st : Int × List Int) (s : ByteArray) (h : st.1 ≠ 0) : textW st s = st := by unfold textW; rw [if_pos h]
theorem fold_err {α : Type} (g : Int × List Int → α → Int × List Int) (hg : ∀ st x, st.1 ≠ 0 → g st x = st) (st : Int × List Int) (h : st.1 ≠ 0) : ∀ l : List α, l.foldl g st = st
  | [] => rfl
  | x :: l => by rw [List.foldl_cons, hg st x h]; exact fold_err g hg st h l
theorem fieldW_err (st : Int × List Int) (f : S62) (h : st.1 ≠ 0) : fieldW st f = st := by unfold fieldW; rw [textW_err st f.f0 h, textW_err st f.f1 h]
theorem pickW_err (st : Int × List Int) (f : S53) (h : st.1 ≠ 0) : pickW st f = st := by unfold pickW; rw [textW_err st f.f0 h, numW_err st _ _ _ _ _ h, textW_err st f.f2 h]
theorem storedW_eq (st : Int × List Int) (x : S28) : storedW st x = x.f2.foldl pickW (numW (textW (List.foldl fieldW (numW (textW (numW (numW (numW st x.f1 5 0 253402300799 3) x.f0.f0 2 200 599 3) x.f0.f2 1 0 1 3) x.f0.f1) x.f0.f3.length 1 0 64 4) x.f0.f3) x.f0.f4) x.f2.length 1 0 64 4) := rfl
theorem storedW_err (st : Int × List Int) (x : S28) (h : st.1 ≠ 0) : storedW st x = st := by
  rw [storedW_eq, numW_err st _ _ _ _ _ h, numW_err st _ _ _ _ _ h, numW_err st _ _ _ _ _ h, textW_err st _ h, numW_err st _ _ _ _ _ h, fold_err fieldW fieldW_err st h, textW_err st _ h, numW_err st _ _ _ _ _ h, fold_err pickW pickW_err st h]
theorem fold_rest {α : Type} (g : Int × List Int → α → Int × List Int) (hg : ∀ st x, st.1 ≠ 0 → g st x = st) (l : List α) (s0 : Int × List Int) (n : Nat) (h : ((l.take n).foldl g s0).1 ≠ 0) : (l.take n).foldl g s0 = l.foldl g s0 := by
  conv => rhs; rw [← List.take_append_drop n l, List.foldl_append]
  rw [fold_err g hg _ h]
def depotref20_Encode.f (l0 : List S28) : Option (List Int × Int) := variant_Encode.f l0
set_option maxHeartbeats 6400000 in
set_option maxRecDepth 100000 in
theorem depotref20_Encode.calls (A0 : Option Addr) (c0 : Nat) (l0 : List S28) (r1 : List Int) (r2 : Int) (w : World) (hr0 : Kd.C k28 w A0 l0.length l0) (hc0 : l0.length ≤ c0) (h : depotref20_Encode.f l0 = some (r1, r2)) :
    Calls Tryd.prog 19 #[.slice A0 l0.length c0] w fun e w' => ∃ v0_ : Value, e = .returned (.tuple #[v0_, .int .i64 r2]) ∧ Kd.R (Kd.int .u8) 5 w' w.heap.size (fun _ => True) v0_ r1 ∧ Below w.heap.size w w' := by
  unfold depotref20_Encode.f variant_Encode.f at h
  split at h
  case isFalse => cases h
  case isTrue hh =>
  obtain ⟨hn, hall, hs⟩ := hh
  have hres : encodeR (encodeW l0) = (r1, r2) := Option.some.inj h
  have HRES := Aside0.mk hres
  have HR0 := Aside0.mk hr0
  have HALL := Aside0.mk hall
  clear h hres hr0 hall
  obtain ⟨sa, hsa⟩ : ∃ z, z = numW (0, []) l0.length 1 0 4 4 := ⟨_, rfl⟩
  have LA := numW_len (0, []) l0.length 1 0 4 4
  rw [← hsa] at LA
  try simp only [List.length_nil] at LA
  go_enter Tryd.func19, Tryd.ntmps19
  go_upto_region 2 with (fail)
  have hb1 := Hand.alloc_below w (.cells #[.slice none 0 0, .int .i64 0] 74)
  have hk := blk_new w (.cells #[.slice none 0 0, .int .i64 0] 74)
  have W1 : Aside0 (RwAt w.heap.size w.heap.size 0 [] (w.alloc (.cells #[.slice none 0 0, .int .i64 0] 74))) := ⟨Nat.le_refl _, hb1.size, _, hk, Kd.R_nil _ _ _ _ _⟩
  have HB1 := Aside0.mk hb1
  clear hb1 hk
  generalize w.alloc (.cells #[.slice none 0 0, .int .i64 0] 74) = w1 at W1 HB1 ⊢
  go_wp2_with (go_at_call 34; refine (rw_num w.heap.size w.heap.size 0 [] l0.length 1 0 4 4 _ W1.out (by decide) (by decide) (by decide) (by decide) (by decide)).mono ?_; rintro x w2 ⟨rfl, h2, hg2⟩; rw [← hsa] at h2; have W2 := Aside0.mk h2; have HB2 := Aside0.mk (HB1.out.trans (gb_to hg2 (Nat.le_refl _) HB1.out.size)); clear h2 hg2 W1 HB1)
  go_loopw [5] (fun v5 wx => ∃ n : Nat, n ≤ l0.length ∧ v5 = .int .i64 n ∧ Aside0 (RwAt w.heap.size w.heap.size ((l0.take n).foldl storedW sa).1 ((l0.take n).foldl storedW sa).2 wx) ∧ Aside0 (Below w.heap.size w wx)) (fun v5 _ => l0.length - (intOf v5).toNat)
  case atStart => exact ⟨0, Nat.zero_le _, rfl, W2, HB2⟩
  case round =>
    clear W2 HB2
    obtain ⟨n, hn2, rfl, WR, HB⟩ := hrel
    have hfl := fold_len storedW szS storedW_len (l0.take n) sa
    by_cases hgo : n < l0.length ∧ ((l0.take n).foldl storedW sa).1 = 0
    · obtain ⟨hlt, he⟩ := hgo
      have hsx := sum_at szS l0 n hlt
      have htk : (l0.take (n + 1)).foldl storedW sa = storedW ((l0.take n).foldl storedW sa) l0[n] := by rw [List.take_add_one, List.getElem?_eq_getElem hlt, List.foldl_append]; rfl
      have HTK := Aside0.mk htk
      have hal := HALL.out l0[n] (List.getElem_mem hlt)
      clear htk
      obtain ⟨ad, A3, c3, A6, c6, e0, hx0, hx1, hx2, hx3, hx4, hx5, hx6, hl3, hi3, hl6, hi6⟩ := at_T28 HR0.out n (by omega) (by omega)
      cases e0
      rw [Int.toNat_natCast] at hx0 hx1 hx2 hx3 hx4 hx5 hx6
      have rdn : rd_T28 l0 n = l0[n] := by show l0.getD n _ = _; rw [List.getD_eq_getElem?_getD, List.getElem?_eq_getElem hlt]; rfl
      rw [rdn] at hx0 hx1 hx2 hx3 hx4 hx5 hx6 hl3 hi3 hl6 hi6
      clear rdn
      generalize l0[n] = x at hx0 hx1 hx2 hx3 hx4 hx5 hx6 hl3 hi3 hl6 hi6 HTK hsx hal
      generalize (l0.take n).foldl storedW sa = sn at WR HTK hfl he
      obtain ⟨en, bn⟩ := sn
      try simp only at WR HTK hfl he
      subst he
      have HI3 := Aside0.mk hi3
      have HI6 := Aside0.mk hi6
      have X0 := Aside0.mk hx0
      have X1 := Aside0.mk hx1
      have X2 := Aside0.mk hx2
      have X3 := Aside0.mk hx3
      have X4 := Aside0.mk hx4
      have X5 := Aside0.mk hx5
      have X6 := Aside0.mk hx6
      clear hi3 hi6
      replace hx0 := (HB.out.cell (World.block_lt_of_cell? w _ hx0)).trans hx0
      replace hx1 := (HB.out.cell (World.block_lt_of_cell? w _ hx1)).trans hx1
      replace hx2 := (HB.out.cell (World.block_lt_of_cell? w _ hx2)).trans hx2
      replace hx3 := (HB.out.cell (World.block_lt_of_cell? w _ hx3)).trans hx3
      replace hx4 := (HB.out.cell (World.block_lt_of_cell? w _ hx4)).trans hx4
      have k1 := WR.out.cell
      clear hx5 hx6
      go_upto_region 7 with (fail)
      clear k1 hx0 hx1 hx2 hx3 hx4
      have hb1 := Hand.alloc_below wr (.cells #[.int .i64 x.f0.f0, .string x.f0.f1, .int .i64 x.f0.f2, .slice A3 x.f0.f3.length c3, .string x.f0.f4] 25)
      have hx := blk_new wr (.cells #[.int .i64 x.f0.f0, .string x.f0.f1, .int .i64 x.f0.f2, .slice A3 x.f0.f3.length c3, .string x.f0.f4] 25)
      have R0 : Aside0 (RbAt w w.heap.size wr.heap.size #[.int .i64 x.f0.f0, .string x.f0.f1, .int .i64 x.f0.f2, .slice A3 x.f0.f3.length c3, .string x.f0.f4] 25 0 bn (wr.alloc (.cells #[.int .i64 x.f0.f0, .string x.f0.f1, .int .i64 x.f0.f2, .slice A3 x.f0.f3.length c3, .string x.f0.f4] 25))) := ⟨WR.out.below hb1, hx, (by intro q; injection q with q; have := HB.out.size; have := WR.out.lt; omega), below_step HB.out hb1⟩
      clear WR HB hb1 hx
      generalize wr.heap.size = gr at R0 ⊢
      generalize wr.alloc (.cells #[.int .i64 x.f0.f0, .string x.f0.f1, .int .i64 x.f0.f2, .slice A3 x.f0.f3.length c3, .string x.f0.f4] 25) = wA at R0 ⊢
      have x5 := (R0.out.bel.cell (World.block_lt_of_cell? w _ X5.out)).trans X5.out
      have hseq := storedW_eq (0, bn) x
      have hszS : szS x = 18 + x.f0.f1.size + x.f0.f4.size + (x.f0.f3.map szF).sum + (x.f2.map szP).sum := rfl
      rw [hszS] at hsx
      clear hszS
      obtain ⟨st1, hst1⟩ : ∃ z, z = numW (0, bn) x.f1 5 0 253402300799 3 := ⟨_, rfl⟩
      have L1 := numW_len (0, bn) x.f1 5 0 253402300799 3
      rw [← hst1] at L1 hseq
      obtain ⟨st2, hst2⟩ : ∃ z, z = numW st1 x.f0.f0 2 200 599 3 := ⟨_, rfl⟩
      have L2 := numW_len st1 x.f0.f0 2 200 599 3
      rw [← hst2] at L2 hseq
      obtain ⟨st3, hst3⟩ : ∃ z, z = numW st2 x.f0.f2 1 0 1 3 := ⟨_, rfl⟩
      have L3 := numW_len st2 x.f0.f2 1 0 1 3
      rw [← hst3] at L3 hseq
      obtain ⟨st4, hst4⟩ : ∃ z, z = textW st3 x.f0.f1 := ⟨_, rfl⟩
      have L4 := textW_len st3 x.f0.f1
      rw [← hst4] at L4 hseq
      obtain ⟨st5, hst5⟩ : ∃ z, z = numW st4 x.f0.f3.length 1 0 64 4 := ⟨_, rfl⟩
      have L5 := numW_len st4 x.f0.f3.length 1 0 64 4
      rw [← hst5] at L5 hseq
      obtain ⟨st6, hst6⟩ : ∃ z, z = List.foldl fieldW st5 x.f0.f3 := ⟨_, rfl⟩
      have L6 := fold_len fieldW szF fieldW_len x.f0.f3 st5
      rw [← hst6] at L6 hseq
      obtain ⟨st7, hst7⟩ : ∃ z, z = textW st6 x.f0.f4 := ⟨_, rfl⟩
      have L7 := textW_len st6 x.f0.f4
      rw [← hst7] at L7 hseq
      obtain ⟨st8, hst8⟩ : ∃ z, z = numW st7 x.f2.length 1 0 64 4 := ⟨_, rfl⟩
      have L8 := numW_len st7 x.f2.length 1 0 64 4
      rw [← hst8] at L8 hseq
      try simp only at L1
      rw [hseq] at HTK
      clear hseq
      go_upto_block 2 with (first | (go_at_call 34; refine (RbAt.num R0.out x.f1 5 0 253402300799 3 (by decide) (by decide) (by decide) (by omega) (by decide) st1 hst1.symm).mono ?_; rintro r w2 ⟨rfl, h2⟩; have R1 := Aside0.mk h2; have y0 := blk_cell R1.out.bx 0; clear h2 R0 x5) | (go_at_call 34; refine (RbAt.num R1.out x.f0.f0 2 200 599 3 (by decide) (by decide) (by decide) (by omega) (by decide) st2 hst2.symm).mono ?_; rintro r w3 ⟨rfl, h2⟩; have R2 := Aside0.mk h2; have y2 := blk_cell R2.out.bx 2; clear h2 R1 y0) | (go_at_call 34; refine (RbAt.num R2.out x.f0.f2 1 0 1 3 (by decide) (by decide) (by decide) (by omega) (by decide) st3 hst3.symm).mono ?_; rintro r w4 ⟨rfl, h2⟩; have R3 := Aside0.mk h2; have y1 := blk_cell R3.out.bx 1; clear h2 R2 y2) | (go_at_call 35; refine (RbAt.text R3.out x.f0.f1 (by omega) st4 hst4.symm).mono ?_; rintro r w5 ⟨rfl, h2⟩; have R4 := Aside0.mk h2; have y3 := blk_cell R4.out.bx 3; clear h2 R3 y1) | (go_at_call 34; refine (RbAt.num R4.out x.f0.f3.length 1 0 64 4 (by decide) (by decide) (by decide) (by omega) (by decide) st5 hst5.symm).mono ?_; rintro r w6 ⟨rfl, h2⟩; have R5 := Aside0.mk h2; clear h2 R4 y3))
      go_cut [7] (fun v7 wx => Aside0 (RbAt w w.heap.size gr #[.int .i64 x.f0.f0, .string x.f0.f1, .int .i64 x.f0.f2, .slice A3 x.f0.f3.length c3, .string x.f0.f4] 25 st6.1 st6.2 wx))
      case first =>
        go_wp2
        go_loopw [7] (fun v7 wx => ∃ m : Nat, m ≤ x.f0.f3.length ∧ v7 = .int .i64 m ∧ Aside0 (RbAt w w.heap.size gr #[.int .i64 x.f0.f0, .string x.f0.f1, .int .i64 x.f0.f2, .slice A3 x.f0.f3.length c3, .string x.f0.f4] 25 ((x.f0.f3.take m).foldl fieldW st5).1 ((x.f0.f3.take m).foldl fieldW st5).2 wx)) (fun v7 _ => x.f0.f3.length - (intOf v7).toNat)
        case atStart => exact ⟨0, Nat.zero_le _, rfl, R5⟩
        case round =>
          clear R5
          obtain ⟨m, hm, rfl, RR⟩ := hrel
          have hfm := fold_len fieldW szF fieldW_len (x.f0.f3.take m) st5
          have zz := blk_cell RR.out.bx 3
          have k1 := RR.out.wr.cell
          by_cases hlt2 : m < x.f0.f3.length
          · by_cases hem : ((x.f0.f3.take m).foldl fieldW st5).1 = 0
            · have hsf := sum_at szF x.f0.f3 m hlt2
              have hfs : szF x.f0.f3[m] = 8 + x.f0.f3[m].f0.size + x.f0.f3[m].f1.size := rfl
              rw [hfs] at hsf
              clear hfs
              have htk2 : (x.f0.f3.take (m + 1)).foldl fieldW st5 = fieldW ((x.f0.f3.take m).foldl fieldW st5) x.f0.f3[m] := by rw [List.take_add_one, List.getElem?_eq_getElem hlt2, List.foldl_append]; rfl
              have HTK2 := Aside0.mk htk2
              clear htk2
              obtain ⟨ad3, e3, hx0, hx1⟩ := at_T62 HI3.out m (by omega) (by omega)
              cases e3
              rw [Int.toNat_natCast] at hx0 hx1
              have rdm : rd_T62 x.f0.f3 m = x.f0.f3[m] := by show x.f0.f3.getD m _ = _; rw [List.getD_eq_getElem?_getD, List.getElem?_eq_getElem hlt2]; rfl
              rw [rdm] at hx0 hx1
              clear rdm
              generalize x.f0.f3[m] = f at hx0 hx1 HTK2 hsf
              generalize (x.f0.f3.take m).foldl fieldW st5 = sm at RR HTK2 hfm hem k1
              obtain ⟨em, bm⟩ := sm
              try simp only at RR HTK2 hfm hem k1
              subst hem
              obtain ⟨s1, hs1⟩ : ∃ z, z = textW (0, bm) f.f0 := ⟨_, rfl⟩
              have M1 := textW_len (0, bm) f.f0
              obtain ⟨s2, hs2⟩ : ∃ z, z = textW s1 f.f1 := ⟨_, rfl⟩
              have hfw : fieldW (0, bm) f = s2 := by rw [hs2, hs1]; rfl
              rw [hfw] at HTK2
              rw [← hs1] at M1
              try simp only at M1
              clear hfw
              have Q1 := Aside0.mk hx1
              replace hx0 := (RR.out.bel.cell (World.block_lt_of_cell? w _ hx0)).trans hx0
              clear hx1
              go_wp2_with (first | (go_at_call 35; refine (RbAt.text RR.out f.f0 (by omega) s1 hs1.symm).mono ?_; rintro r w7 ⟨rfl, h2⟩; have R6 := Aside0.mk h2; have y3 := blk_cell R6.out.bx 3; have hx1 := (R6.out.bel.cell (World.block_lt_of_cell? w _ Q1.out)).trans Q1.out; clear h2 RR zz k1 hx0) | (go_at_call 35; refine (RbAt.text R6.out f.f1 (by omega) s2 hs2.symm).mono ?_; rintro r w8 ⟨rfl, h2⟩; have R7 := Aside0.mk h2; clear h2 R6 y3 hx1))
              go_roundw
              case rel => exact ⟨m + 1, by omega, by go_num, by rw [HTK2.out]; exact R7⟩
              case measure => simp [intOf]; omega
            · have hfr := fold_rest fieldW fieldW_err x.f0.f3 st5 m hem
              rw [hfr, ← hst6] at RR
              have he2 : (((x.f0.f3.take m).foldl fieldW st5).1 == 0) = false := beq_false_of_ne hem
              generalize ((x.f0.f3.take m).foldl fieldW st5).1 = em at k1 he2
              clear hfr hem hfm
              go_wp2
              go_meet
              exact RR
          · rw [List.take_of_length_le (by omega), ← hst6] at RR
            clear k1 hfm
            go_wp2
            go_meet
            exact RR
      case rest =>
        have R6 := hcut
        clear hcut R5
        have y4 := blk_cell R6.out.bx 4
        go_upto_block 4 with (first | (go_at_call 35; refine (RbAt.text R6.out x.f0.f4 (by omega) st7 hst7.symm).mono ?_; rintro r w7 ⟨rfl, h2⟩; have R7 := Aside0.mk h2; have x6 := (R7.out.bel.cell (World.block_lt_of_cell? w _ X6.out)).trans X6.out; clear h2 R6 y4) | (go_at_call 34; refine (RbAt.num R7.out x.f2.length 1 0 64 4 (by decide) (by decide) (by decide) (by omega) (by decide) st8 hst8.symm).mono ?_; rintro r w8 ⟨rfl, h2⟩; have R8 := Aside0.mk h2; clear h2 R7 x6))
        have R9 := Aside0.mk R8.out.wr
        have B9 := Aside0.mk R8.out.bel
        clear R8
        go_wp2
        go_loopw [8] (fun v8 wx => ∃ m : Nat, m ≤ x.f2.length ∧ v8 = .int .i64 m ∧ Aside0 (RwAt w.heap.size w.heap.size ((x.f2.take m).foldl pickW st8).1 ((x.f2.take m).foldl pickW st8).2 wx) ∧ Aside0 (Below w.heap.size w wx)) (fun v8 _ => x.f2.length - (intOf v8).toNat)
        case atStart => exact ⟨0, Nat.zero_le _, rfl, R9, B9⟩
        case round =>
          clear R9 B9
          obtain ⟨m, hm, rfl, RR, HB⟩ := hrel
          have hfm := fold_len pickW szP pickW_len (x.f2.take m) st8
          have zz := (HB.out.cell (World.block_lt_of_cell? w _ X6.out)).trans X6.out
          have k1 := RR.out.cell
          by_cases hlt2 : m < x.f2.length
          · by_cases hem : ((x.f2.take m).foldl pickW st8).1 = 0
            · have hsf := sum_at szP x.f2 m hlt2
              have htk2 : (x.f2.take (m + 1)).foldl pickW st8 = pickW ((x.f2.take m).foldl pickW st8) x.f2[m] := by rw [List.take_add_one, List.getElem?_eq_getElem hlt2, List.foldl_append]; rfl
              have HTK2 := Aside0.mk htk2
              clear htk2
              obtain ⟨ad3, e3, hx0, hx1, hx2⟩ := at_T53 HI6.out m (by omega) (by omega)
              cases e3
              rw [Int.toNat_natCast] at hx0 hx1 hx2
              have rdm : rd_T53 x.f2 m = x.f2[m] := by show x.f2.getD m _ = _; rw [List.getD_eq_getElem?_getD, List.getElem?_eq_getElem hlt2]; rfl
              rw [rdm] at hx0 hx1 hx2
              clear rdm
              generalize x.f2[m] = q at hx0 hx1 hx2 HTK2 hsf
              generalize (x.f2.take m).foldl pickW st8 = sm at RR HTK2 hfm hem k1
              obtain ⟨em, bm⟩ := sm
              obtain ⟨q0, q1, q2⟩ := q
              try simp only at RR HTK2 hfm hem k1 hx0 hx1 hx2
              have hfs : szP ⟨q0, q1, q2⟩ = 9 + q0.size + q2.size := rfl
              rw [hfs] at hsf
              clear hfs
              subst hem
              replace hx0 := (HB.out.cell (World.block_lt_of_cell? w _ hx0)).trans hx0
              replace hx1 := (HB.out.cell (World.block_lt_of_cell? w _ hx1)).trans hx1
              replace hx2 := (HB.out.cell (World.block_lt_of_cell? w _ hx2)).trans hx2
              obtain ⟨s1, hs1⟩ : ∃ z, z = textW (0, bm) q0 := ⟨_, rfl⟩
              have M1 := textW_len (0, bm) q0
              obtain ⟨s2, hs2⟩ : ∃ z, z = numW s1 (hasI q1) 1 0 1 3 := ⟨_, rfl⟩
              have M2 := numW_len s1 (hasI q1) 1 0 1 3
              obtain ⟨s3, hs3⟩ : ∃ z, z = textW s2 q2 := ⟨_, rfl⟩
              have hfw : pickW (0, bm) ⟨q0, q1, q2⟩ = s3 := by rw [hs3, hs2, hs1]; rfl
              rw [hfw] at HTK2
              rw [← hs1] at M1
              rw [← hs2] at M2
              try simp only at M1
              clear hfw
              go_upto_region 23 with (fail)
              have hb1 := Hand.alloc_below wr (.cells #[.string q0, .bool q1, .string q2] 53)
              have hx := blk_new wr (.cells #[.string q0, .bool q1, .string q2] 53)
              have P0 : Aside0 (RbAt w w.heap.size wr.heap.size #[.string q0, .bool q1, .string q2] 53 0 bm (wr.alloc (.cells #[.string q0, .bool q1, .string q2] 53))) := ⟨RR.out.below hb1, hx, (by intro z; injection z with z; have := RR.out.lt; omega), below_step HB.out hb1⟩
              clear RR HB hb1 hx hx0 hx1 hx2 zz k1
              generalize wr.heap.size = gp at P0 ⊢
              generalize wr.alloc (.cells #[.string q0, .bool q1, .string q2] 53) = wP at P0 ⊢
              have y0 := blk_cell P0.out.bx 0
              cases q1
              · have hs2' := hs2
                go_wp2_with (first | (go_at_call 35; refine (RbAt.text P0.out q0 (by omega) s1 hs1.symm).mono ?_; rintro r w7 ⟨rfl, h2⟩; have P1 := Aside0.mk h2; have y1 := blk_cell P1.out.bx 1; clear h2 P0 y0) | (go_at_call 34; refine (RbAt.num P1.out 0 1 0 1 3 (by decide) (by decide) (by decide) (by omega) (by decide) s2 hs2.symm).mono ?_; rintro r w8 ⟨rfl, h2⟩; have P2 := Aside0.mk h2; have y2 := blk_cell P2.out.bx 2; clear h2 P1 y1) | (go_at_call 35; refine (RbAt.text P2.out q2 (by omega) s3 hs3.symm).mono ?_; rintro r w9 ⟨rfl, h2⟩; have P3 := Aside0.mk h2; clear h2 P2 y2))
                go_roundw
                case rel => exact ⟨m + 1, by omega, by go_num, ⟨by rw [HTK2.out]; exact P3.out.wr⟩, ⟨P3.out.bel⟩⟩
                case measure => simp [intOf]; omega
              · have hs2' := hs2
                go_wp2_with (first | (go_at_call 35; refine (RbAt.text P0.out q0 (by omega) s1 hs1.symm).mono ?_; rintro r w7 ⟨rfl, h2⟩; have P1 := Aside0.mk h2; have y1 := blk_cell P1.out.bx 1; clear h2 P0 y0) | (go_at_call 34; refine (RbAt.num P1.out 1 1 0 1 3 (by decide) (by decide) (by decide) (by omega) (by decide) s2 hs2.symm).mono ?_; rintro r w8 ⟨rfl, h2⟩; have P2 := Aside0.mk h2; have y2 := blk_cell P2.out.bx 2; clear h2 P1 y1) | (go_at_call 35; refine (RbAt.text P2.out q2 (by omega) s3 hs3.symm).mono ?_; rintro r w9 ⟨rfl, h2⟩; have P3 := Aside0.mk h2; clear h2 P2 y2))
                go_roundw
                case rel => exact ⟨m + 1, by omega, by go_num, ⟨by rw [HTK2.out]; exact P3.out.wr⟩, ⟨P3.out.bel⟩⟩
                case measure => simp [intOf]; omega
            · have hfr := fold_rest pickW pickW_err x.f2 st8 m hem
              rw [hfr] at RR
              have he2 : (((x.f2.take m).foldl pickW st8).1 == 0) = false := beq_false_of_ne hem
              generalize ((x.f2.take m).foldl pickW st8).1 = em at k1 he2
              clear hfr hem hfm
              go_wp2
              go_roundw
              case rel => exact ⟨n + 1, by omega, by go_num, by rw [HTK.out]; exact RR, HB⟩
              case measure => simp [intOf]; omega
          · rw [List.take_of_length_le (by omega)] at RR
            clear k1 hfm
            go_wp2
            go_roundw
            case rel => exact ⟨n + 1, by omega, by go_num, by rw [HTK.out]; exact RR, HB⟩
            case measure => simp [intOf]; omega
    · have hfin : (l0.take n).foldl storedW sa = encodeW l0 := by
        by_cases hlt : n < l0.length
        · rw [fold_rest storedW storedW_err l0 sa n (fun e => hgo ⟨hlt, e⟩), hsa]; rfl
        · rw [List.take_of_length_le (by omega), hsa]; rfl
      rw [hfin] at WR hgo
      clear hfin hfl
      generalize encodeW l0 = st at WR HRES hgo
      obtain ⟨e, bs⟩ := st
      try simp only at WR hgo
      have hr := HRES.out
      unfold encodeR at hr
      have k1 := WR.out.cell
      by_cases hlt : n < l0.length
      · have he : ¬ e = 0 := fun q => hgo ⟨hlt, q⟩
        rw [if_neg he] at hr
        clear hgo
        obtain ⟨rfl, rfl⟩ : [] = r1 ∧ e = r2 := by simpa using hr
        have he2 : (e == 0) = false := beq_false_of_ne he
        have he4 : (e != 0) = true := bne_iff_ne.mpr he
        clear hr HRES
        go_wp2
        go_region_with (fail)
        all_goals (go_wp2_with fail; go_ret2; exact ⟨_, rfl, Kd.R_nil _ _ _ _ _, HB.out.trans (Below.drew (Below.refl _ _))⟩)
      · clear hgo
        by_cases he : e = 0
        · subst he
          rw [if_pos rfl] at hr
          obtain ⟨rfl, rfl⟩ : bs = r1 ∧ 0 = r2 := by simpa using hr
          obtain ⟨v, hk, hR⟩ := WR.out.out
          have HRR := Aside0.mk hR
          obtain ⟨A9, c9, rfl⟩ := Kd.R_slice hR
          have k2 := blk_cell hk 0
          clear hk hR hr HRES
          go_wp2
          go_ret2
          exact ⟨_, rfl, HRR.out, HB.out⟩
        · rw [if_neg he] at hr
          obtain ⟨rfl, rfl⟩ : [] = r1 ∧ e = r2 := by simpa using hr
          have he2 : (e == 0) = false := beq_false_of_ne he
          have he4 : (e != 0) = true := bne_iff_ne.mpr he
          clear hr HRES
          go_wp2
          go_region_with (fail)
          all_goals (go_wp2_with fail; go_ret2; exact ⟨_, rfl, Kd.R_nil _ _ _ _ _, HB.out.trans (Below.drew (Below.refl _ _))⟩)

end Go.Proofs.YtdiefodncfnfeaaDoor.PR
