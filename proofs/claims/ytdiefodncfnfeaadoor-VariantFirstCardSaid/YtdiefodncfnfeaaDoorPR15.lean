-- Out of the translation, by a program of this session: each function that a law comes to as a Lean function, and that the machine's call does what it says. Lean checks it.
import Derived.Test.YtdiefodncfnfeaaDoorPR0
import Derived.Test.YtdiefodncfnfeaaDoorPR13
import Derived.Test.YtdiefodncfnfeaaDoorPR14
namespace Go.Proofs.YtdiefodncfnfeaaDoor.PR
open Go.RowKit Go.Proofs.YtdiefodncfnfeaaDoorW.PrintWords Go.Proofs.YtdiefodncfnfeaaDoorW.PrintLast Go.Proofs.YtdiefodncfnfeaaDoorW.PrintMore
attribute [local go_sem] max2_int min2_int max_two min_two max_three min_three max_four min_four   -- for this text's walks alone
set_option linter.unusedVariables false
set_option linter.unusedSimpArgs false

/-! ### variant_Encode: function 18: told by hand -/
/-! frames: all blocks but one stay -/
theorem gb_below {w w' : World} (h : Below w.heap.size w w') (b : Nat) : w.grownBy w' (some b) := ⟨h.os, h.tape, h.output, h.size, fun k hk _ => h.block k hk⟩
theorem gb_set {w w' : World} {b : Nat} (h : w.grownBy w' (some b)) (j : Nat) (u : Value) : w.grownBy (w'.setCell ⟨b, j, none⟩ u) (some b) :=
  ⟨h.os, h.tape, h.output, by simpa [World.setCell] using h.size, fun k hk hne => (Below.heap_setCell w' ⟨b, j, none⟩ u k (fun e => hne (by rw [e]))).trans (h.block k hk hne)⟩
theorem gb_refl (w : World) (b : Nat) : w.grownBy w (some b) := gb_below (Below.refl _ _) b
theorem gb_to {w w' : World} {b B : Nat} (h : w.grownBy w' (some b)) (hB : B ≤ b) (hw : B ≤ w.heap.size) : Below B w w' :=
  ⟨h.os, h.tape, h.output, h.size, fun k hk => h.block k (by omega) (fun e => by injection e with e; omega)⟩
/-- The writer in block b: the first error, the bytes. -/
structure WrAt (B b : Nat) (e : Int) (bs : List Int) (w : World) : Prop where
  hB : B ≤ b
  hw : B ≤ w.heap.size
  out : ∃ v, w.heap[b]? = some (.cells #[.int .i64 e, v] 67 (0, 0)) ∧ Kd.R (Kd.int .u8) 5 w B (fun _ => True) v bs
theorem WrAt.below {B b : Nat} {e : Int} {bs : List Int} {w w' : World} (h : WrAt B b e bs w) (hb : Below w.heap.size w w') : WrAt B b e bs w' := by
  obtain ⟨v, hk, hr⟩ := h.out
  exact ⟨h.hB, Nat.le_trans h.hw hb.size, v, blk_below hk hb, Kd.R_below hr hb⟩
theorem WrAt.lt {B b : Nat} {e : Int} {bs : List Int} {w : World} (h : WrAt B b e bs w) : b < w.heap.size := by
  obtain ⟨v, hk, hr⟩ := h.out
  exact blk_lt hk
theorem WrAt.cell {B b : Nat} {e : Int} {bs : List Int} {w : World} (h : WrAt B b e bs w) : w.cell? ⟨b, 0, none⟩ = some (.int .i64 e) := by
  obtain ⟨v, hk, hr⟩ := h.out
  exact blk_cell hk 0
theorem WrAt.err {B b : Nat} {e e' : Int} {bs : List Int} {w : World} (h : WrAt B b e bs w) : WrAt B b e' bs (w.setCell ⟨b, 0, none⟩ (.int .i64 e')) := by
  obtain ⟨v, hk, hr⟩ := h.out
  exact ⟨h.hB, by simpa [World.setCell] using h.hw, v, blk_put hk 0 _ rfl, Kd.R_set hr hk (by decide) 0 _⟩
theorem WrAt.put {B b : Nat} {e e' : Int} {bs bs' : List Int} {w : World} (h : WrAt B b e bs w) (v : Value) (hv : Kd.R (Kd.int .u8) 5 w B (fun _ => True) v bs') : WrAt B b e' bs' ((w.setCell ⟨b, 1, none⟩ v).setCell ⟨b, 0, none⟩ (.int .i64 e')) := by
  obtain ⟨v0, hk, _⟩ := h.out
  have hk1 := blk_put hk 1 v (cs' := #[.int .i64 e, v]) rfl
  exact ⟨h.hB, by simpa [World.setCell] using h.hw, v, blk_put hk1 0 _ rfl, Kd.R_set (Kd.R_set hv hk (by decide) 1 _) hk1 (by decide) 0 _⟩
theorem wr_fine (b : Nat) (e : Int) (w : World) (h : w.cell? ⟨b, 0, none⟩ = some (.int .i64 e)) : Calls Tryd.prog 33 #[.pointer (some ⟨b, 0, none⟩)] w fun x w' => x = .returned (.bool (decide (e = 0))) ∧ w' = w := by
  by_cases he : e = 0
  · subst he
    go_enter Tryd.func33, Tryd.ntmps33
    go_wp2
    go_ret
    exact ⟨rfl, rfl⟩
  · have he2 : (e == 0) = false := beq_false_of_ne he
    have he3 : decide (e = 0) = false := decide_eq_false he
    go_enter Tryd.func33, Tryd.ntmps33
    go_wp2
    go_ret
    exact ⟨by simp [he], rfl⟩
def numW (st : Int × List Int) (n : Int) (wd : Nat) (lo hi wrong : Int) : Int × List Int := if st.1 ≠ 0 then st else if lo ≤ n ∧ n ≤ hi then (0, st.2 ++ leBytes n wd) else (wrong, st.2)
theorem wr_num (B b : Nat) (e : Int) (bs : List Int) (n : Int) (wd : Nat) (lo hi wrong : Int) (w : World) (h : WrAt B b e bs w) (hwd : wd = 1 ∨ wd = 2 ∨ wd = 5) (hlo : 0 ≤ lo) (hhi : hi < 256 ^ wd) (hl : bs.length < 1000000000) :
    Calls Tryd.prog 31 #[.pointer (some ⟨b, 0, none⟩), .int .i64 n, .int .i64 wd, .agg #[.int .i64 lo, .int .i64 hi], .int .i64 wrong] w fun x w' => x = .returned (.tuple #[]) ∧ WrAt B b (numW (e, bs) n wd lo hi wrong).1 (numW (e, bs) n wd lo hi wrong).2 w' ∧ w.grownBy w' (some b) := by
  have HF := fun (w1 : World) (h1 : WrAt B b e bs w1) => wr_fine b e w1 h1.cell
  have hA := Hand.alloc_below w (.cells #[.int .i64 lo, .int .i64 hi] 70)
  have h1 := h.below hA
  by_cases he : e = 0
  · subst he
    have H1 := Aside0.mk h1
    have HG := Aside0.mk (gb_below hA b)
    by_cases hin : lo ≤ n ∧ n ≤ hi
    · have hnum : numW (0, bs) n wd lo hi wrong = (0, bs ++ leBytes n wd) := by unfold numW; rw [if_neg (by simp), if_pos hin]
      have HN := Aside0.mk hnum
      have hif : variant_limit_in.f lo hi n = some true := by unfold variant_limit_in.f; rw [if_pos hin.1, decide_eq_true hin.2]
      have hpf : wire_Put.f bs n wd = some (bs ++ leBytes n wd, 0) := by
        unfold wire_Put.f
        rw [if_pos ⟨by omega, by omega, by rw [Int.toNat_natCast]; exact Int.lt_of_le_of_lt hin.2 hhi, hl⟩, Int.toNat_natCast]
      obtain ⟨bs', hbs'⟩ : ∃ z, z = bs ++ leBytes n wd := ⟨_, rfl⟩
      rw [← hbs'] at HN hpf
      clear hbs' hnum
      have HP := fun (A : Option Addr) (c : Nat) (w1 : World) (hr : Kd.C (Kd.int .u8) w1 A bs.length bs) (hc : bs.length ≤ c) => wire_Put.calls A c bs n wd _ _ w1 hr hc hpf
      have HI := fun (w1 : World) => variant_limit_in.calls lo hi n true w1 hif
      have HPA := Aside0.mk HP
      clear h h1 hA hif hpf hin HP
      go_enter Tryd.func31, Tryd.ntmps31
      go_wp2_with (first | (go_at_call 33; refine (HF _ H1.out).mono ?_; rintro x w1 ⟨rfl, rfl⟩; clear HF) | (go_at_call 46; refine (HI _).mono ?_; rintro x w2 ⟨rfl, hb2⟩; clear HI; have H2 := Aside0.mk (H1.out.below hb2); have HG2 := Aside0.mk (HG.out.trans (gb_below hb2 b)); clear H1 HG hb2; obtain ⟨v, hk, hr⟩ := H2.out.out; obtain ⟨A, c, rfl, hlc, hC⟩ := Kd.R_reads hr; have k1 := blk_cell hk 1; have HPC := HPA.out A c w2 hC hlc; clear hk hr hC hlc HPA) | (go_at_call 47; refine HPC.mono ?_; rintro x w3 ⟨v3, rfl, ho3, hb3⟩; clear HPC k1; obtain ⟨A3, c3, rfl⟩ := Kd.R_slice ho3; have H3 := Aside0.mk (H2.out.below hb3); have HO3 := Aside0.mk (Kd.R_lower ho3 H2.out.hw); have HG3 := Aside0.mk (HG2.out.trans (gb_below hb3 b)); clear H2 HG2 hb3 ho3; obtain ⟨v, hk, hr⟩ := H3.out.out; have k0 := blk_cell hk 0; have k1 := blk_cell hk 1; have f0 := blk_frozen hk 0; have f1 := blk_frozen hk 1; clear hk hr))
      go_end0
      exact ⟨rfl, by rw [HN.out]; exact H3.out.put _ HO3.out, gb_set (gb_set HG3.out 1 _) 0 _⟩
    · have hnum : numW (0, bs) n wd lo hi wrong = (wrong, bs) := by unfold numW; rw [if_neg (by simp), if_neg hin]
      have HN := Aside0.mk hnum
      have hif : variant_limit_in.f lo hi n = some false := by
        unfold variant_limit_in.f
        by_cases c : n ≥ lo
        · rw [if_pos c, decide_eq_false (fun c2 => hin ⟨c, c2⟩)]
        · rw [if_neg c]
      have HI := fun (w1 : World) => variant_limit_in.calls lo hi n false w1 hif
      clear h hnum h1 hA hif hin
      go_enter Tryd.func31, Tryd.ntmps31
      go_wp2_with (first | (go_at_call 33; refine (HF _ H1.out).mono ?_; rintro x w1 ⟨rfl, rfl⟩; clear HF) | (go_at_call 46; refine (HI _).mono ?_; rintro x w2 ⟨rfl, hb2⟩; clear HI; have H2 := Aside0.mk (H1.out.below hb2); have HG2 := Aside0.mk (HG.out.trans (gb_below hb2 b)); clear H1 HG hb2; obtain ⟨v, hk, hr⟩ := H2.out.out; have k0 := blk_cell hk 0; have f0 := blk_frozen hk 0; clear hk hr))
      go_end0
      exact ⟨rfl, by rw [HN.out]; exact H2.out.err, gb_set HG2.out 0 _⟩
  · have hnum : numW (e, bs) n wd lo hi wrong = (e, bs) := by unfold numW; rw [if_pos he]
    have HN := Aside0.mk hnum
    have he3 : decide (e = 0) = false := decide_eq_false he
    have H1 := Aside0.mk h1
    have HG := Aside0.mk (gb_below hA b)
    clear h hnum h1 hA
    go_enter Tryd.func31, Tryd.ntmps31
    go_wp2_with (go_at_call 33; refine (HF _ H1.out).mono ?_; rintro x w1 ⟨rfl, rfl⟩; rw [he3])
    go_end0
    exact ⟨rfl, by rw [HN.out]; exact H1.out, HG.out⟩
def textW (st : Int × List Int) (s : ByteArray) : Int × List Int := if st.1 ≠ 0 then st else if 65536 < s.size then (4, []) else (0, (st.2 ++ leBytes s.size 4) ++ bytesOf s)
theorem putText_f (bs : List Int) (s : ByteArray) (hl : bs.length < 900000000) : wire_PutText.f bs s = some ((textW (0, bs) s).2, (textW (0, bs) s).1) := by
  unfold wire_PutText.f textW
  rw [if_neg (show ¬ ((0, bs) : Int × List Int).1 ≠ 0 by simp)]
  by_cases c : 65536 < s.size
  · rw [if_pos (by omega), if_pos c]
  · rw [if_neg (by omega), if_neg c]
    have hp : wire_Put.f bs (s.size : Int) 4 = some (bs ++ leBytes s.size 4, 0) := by
      unfold wire_Put.f
      rw [if_pos ⟨by omega, by omega, by show (s.size : Int) < 256 ^ 4; omega, by omega⟩]
      rfl
    have hlen : (leBytes s.size 4).length = 4 := rfl
    rw [hp, Option.bind_some, if_pos (by rw [List.length_append, hlen]; omega)]
theorem wr_text (B b : Nat) (xs : List ByteArray) (e : Int) (bs : List Int) (A : Option Addr) (c : Nat) (w : World) (h : WrAt B b e bs w) (hC : Kd.C Kd.string w A xs.length xs) (hc : xs.length ≤ c) (hn : xs.length < 1000)
    (hl : ∀ n, n ≤ xs.length → ((xs.take n).foldl textW (e, bs)).2.length < 900000000) :
    Calls Tryd.prog 51 #[.pointer (some ⟨b, 0, none⟩), .slice A xs.length c] w fun x w' => x = .returned (.tuple #[]) ∧ WrAt B b (xs.foldl textW (e, bs)).1 (xs.foldl textW (e, bs)).2 w' ∧ w.grownBy w' (some b) := by
  have HR := Aside0.mk hC
  have HL := Aside0.mk hl
  have H := Aside0.mk h
  clear hC hl h
  go_enter Tryd.func51, Tryd.ntmps51
  go_wp2
  go_loopw [8] (fun v8 w' => ∃ n : Nat, n ≤ xs.length ∧ v8 = .int .i64 n ∧ Aside0 (WrAt B b ((xs.take n).foldl textW (e, bs)).1 ((xs.take n).foldl textW (e, bs)).2 w') ∧ Aside0 (w.grownBy w' (some b))) (fun v8 _ => xs.length - (intOf v8).toNat)
  case atStart => exact ⟨0, Nat.zero_le _, rfl, H, ⟨gb_refl _ _⟩⟩
  case round =>
    obtain ⟨n, hn2, rfl, HW, HG⟩ := hrel
    by_cases hlt : n < xs.length
    · obtain ⟨bk, o, rfl, hbk, hcells⟩ := Hand.C_cells HR.out (by omega)
      have hne : bk ≠ b := by
        rintro rfl
        obtain ⟨v, hk, hr⟩ := H.out.out
        obtain ⟨A2, c2, rfl⟩ := Kd.R_slice hr
        have h1 := hcells n xs[n] (List.getElem?_eq_getElem hlt)
        rw [blk_cell hk] at h1
        have h2 : ∀ j : Nat, (#[.int .i64 e, .slice A2 bs.length c2] : Array Value)[j]? ≠ some (.string xs[n]) := by
          intro j
          match j with
          | 0 => simp
          | 1 => simp
          | j + 2 => simp
        exact h2 _ h1
      have hx0 := (HG.out.cell_far ⟨bk, o + n, none⟩ hbk (by simp [hne])).trans (hcells n xs[n] (List.getElem?_eq_getElem hlt))
      have htk : xs.take (n + 1) = xs.take n ++ [xs[n]] := by rw [List.take_add_one, List.getElem?_eq_getElem hlt]; rfl
      have hfold : (xs.take (n + 1)).foldl textW (e, bs) = textW ((xs.take n).foldl textW (e, bs)) xs[n] := by rw [htk, List.foldl_append]; rfl
      have HFO := Aside0.mk hfold
      have hl1 := HL.out n hn2
      clear htk hfold hcells
      generalize xs[n] = s at hx0 HFO
      generalize (xs.take n).foldl textW (e, bs) = st at HW HFO hl1
      obtain ⟨e1, bs1⟩ := st
      try simp only at HW HFO hl1
      have c0 := HW.out.cell
      have f0 := wr_fine b e1 wr c0
      by_cases he : e1 = 0
      · subst he
        have hpt := putText_f bs1 s hl1
        generalize textW (0, bs1) s = st2 at hpt HFO
        obtain ⟨e2, bs2⟩ := st2
        try simp only at hpt HFO
        obtain ⟨v, hk, hr⟩ := HW.out.out
        obtain ⟨A, c1, rfl, hlc, hC⟩ := Kd.R_reads hr
        have k1 := blk_cell hk 1
        have HPC := wire_PutText.calls A c1 bs1 s bs2 e2 wr hC hlc hpt
        clear hk hr hC hlc hpt
        go_wp2_with (first | (go_at_call 33; refine f0.mono ?_; rintro x w1 ⟨rfl, rfl⟩; clear f0) | (go_at_call 69; refine HPC.mono ?_; rintro x w3 ⟨v3, rfl, ho3, hb3⟩; clear HPC k1; obtain ⟨A3, c3, rfl⟩ := Kd.R_slice ho3; have H3 := Aside0.mk (HW.out.below hb3); have HO3 := Aside0.mk (Kd.R_lower ho3 HW.out.hw); have HG3 := Aside0.mk (HG.out.trans (gb_below hb3 b)); clear HW HG hb3 ho3; obtain ⟨v, hk, hr⟩ := H3.out.out; have k0 := blk_cell hk 0; have k1 := blk_cell hk 1; have f0 := blk_frozen hk 0; have f1 := blk_frozen hk 1; clear hk hr))
        go_roundw
        case rel => exact ⟨n + 1, by omega, by go_num, ⟨by rw [HFO.out]; exact H3.out.put _ HO3.out⟩, ⟨gb_set (gb_set HG3.out 1 _) 0 _⟩⟩
        case measure => simp [intOf]; omega
      · have hst : textW (e1, bs1) s = (e1, bs1) := by unfold textW; rw [if_pos he]
        rw [hst] at HFO
        rw [decide_eq_false he] at f0
        clear hst
        go_wp2_with (go_at_call 33; refine f0.mono ?_; rintro x w1 ⟨rfl, rfl⟩; clear f0)
        go_roundw
        case rel => exact ⟨n + 1, by omega, by go_num, ⟨by rw [HFO.out]; exact HW.out⟩, HG⟩
        case measure => simp [intOf]; omega
    · go_wp2
      go_end0
      refine ⟨rfl, ?_, HG.out⟩
      have h1 := HW.out
      rw [List.take_of_length_le (by omega)] at h1
      exact h1
theorem textW_len (st : Int × List Int) (s : ByteArray) : (textW st s).2.length ≤ st.2.length + (4 + s.size) := by
  unfold textW
  split
  · omega
  · split
    · simp
    · have h1 : (leBytes s.size 4).length = 4 := rfl
      have h2 : (bytesOf s).length = s.size := bytesOf_length s
      simp only [List.length_append, h1, h2]
      omega
theorem numW_len (st : Int × List Int) (n : Int) (wd : Nat) (lo hi wrong : Int) : (numW st n wd lo hi wrong).2.length ≤ st.2.length + wd := by
  unfold numW
  split
  · omega
  · split
    · have h1 : (leBytes n wd).length = wd := by simp [leBytes]
      simp only [List.length_append, h1]
      omega
    · simp
theorem C_one {w : World} {g t : Nat} {s : ByteArray} (h : w.heap[g]? = some (.cells #[.string s] t (0, 0))) : Kd.C Kd.string w (some ⟨g, 0, none⟩) 1 [s] := by
  refine ⟨rfl, by decide, fun _ => ⟨_, rfl, fun j p hp => ⟨[.string p], rfl, rfl, fun i u hu => ?_⟩⟩⟩
  match i, hu with
  | 0, hu =>
    simp at hu
    subst hu
    match j, hp with
    | 0, hp =>
      simp at hp
      subst hp
      have := blk_cell h 0
      simpa [add_plain, Kd.string, Kd.scalar] using this
theorem C_two {w : World} {g t : Nat} {s1 s2 : ByteArray} (h : w.heap[g]? = some (.cells #[.string s1, .string s2] t (0, 0))) : Kd.C Kd.string w (some ⟨g, 0, none⟩) 2 [s1, s2] := by
  refine ⟨rfl, by decide, fun _ => ⟨_, rfl, fun j p hp => ⟨[.string p], rfl, rfl, fun i u hu => ?_⟩⟩⟩
  match i, hu with
  | 0, hu =>
    simp at hu
    subst hu
    match j, hp with
    | 0, hp =>
      simp at hp
      subst hp
      have := blk_cell h 0
      simpa [add_plain, Kd.string, Kd.scalar] using this
    | 1, hp =>
      simp at hp
      subst hp
      have := blk_cell h 1
      simpa [add_plain, Kd.string, Kd.scalar] using this
/-- One text, in a row of its own. -/
theorem wr_text1 (B b : Nat) (s : ByteArray) (e : Int) (bs : List Int) (g : Nat) (w : World) (h : WrAt B b e bs w) (hk : w.heap[g]? = some (.cells #[.string s] 9 (0, 0))) (hl : bs.length + (4 + s.size) < 900000000) :
    Calls Tryd.prog 51 #[.pointer (some ⟨b, 0, none⟩), .slice (some ⟨g, 0, none⟩) 1 1] w fun x w' => x = .returned (.tuple #[]) ∧ WrAt B b (textW (e, bs) s).1 (textW (e, bs) s).2 w' ∧ w.grownBy w' (some b) :=
  wr_text B b [s] e bs _ 1 w h (C_one hk) (Nat.le_refl _) (by simp) (fun n hn => by
    match n, hn with
    | 0, _ => show bs.length < _; omega
    | 1, _ => have := textW_len (e, bs) s; show (textW (e, bs) s).2.length < _; simp only at this; omega)
theorem wr_text2 (B b : Nat) (s1 s2 : ByteArray) (e : Int) (bs : List Int) (g : Nat) (w : World) (h : WrAt B b e bs w) (hk : w.heap[g]? = some (.cells #[.string s1, .string s2] 9 (0, 0))) (hl : bs.length + (8 + s1.size + s2.size) < 900000000) :
    Calls Tryd.prog 51 #[.pointer (some ⟨b, 0, none⟩), .slice (some ⟨g, 0, none⟩) 2 2] w fun x w' => x = .returned (.tuple #[]) ∧ WrAt B b (textW (textW (e, bs) s1) s2).1 (textW (textW (e, bs) s1) s2).2 w' ∧ w.grownBy w' (some b) :=
  wr_text B b [s1, s2] e bs _ 2 w h (C_two hk) (Nat.le_refl _) (by simp) (fun n hn => by
    have h1 := textW_len (e, bs) s1
    have h2 := textW_len (textW (e, bs) s1) s2
    simp only at h1
    match n, hn with
    | 0, _ => show bs.length < _; omega
    | 1, _ => show (textW (e, bs) s1).2.length < _; omega
    | 2, _ => show (textW (textW (e, bs) s1) s2).2.length < _; omega)
def hasI (p : Bool) : Int := if p = true then 1 else 0
def pickW (st : Int × List Int) (p : S53) : Int × List Int := textW (numW (textW st p.f0) (hasI p.f1) 1 0 1 3) p.f2
set_option maxHeartbeats 1600000 in
theorem wr_pick (B b : Nat) (p : S53) (e : Int) (bs : List Int) (w : World) (h : WrAt B b e bs w) (hl : bs.length + (9 + p.f0.size + p.f2.size) < 900000000) :
    Calls Tryd.prog 53 #[.pointer (some ⟨b, 0, none⟩), .agg #[.string p.f0, .bool p.f1, .string p.f2]] w fun x w' => x = .returned (.tuple #[]) ∧ WrAt B b (pickW (e, bs) p).1 (pickW (e, bs) p).2 w' ∧ w.grownBy w' (some b) := by
  have l1 := textW_len (e, bs) p.f0
  have l2 := numW_len (textW (e, bs) p.f0) (hasI p.f1) 1 0 1 3
  have hpw : pickW (e, bs) p = textW (numW (textW (e, bs) p.f0) (hasI p.f1) 1 0 1 3) p.f2 := rfl
  obtain ⟨s1, x1, s2⟩ := p
  simp only at l1 l2 hpw hl
  have HPW := Aside0.mk hpw
  clear hpw
  have T1 := fun (W : World) (g : Nat) (hW : WrAt B b e bs W) (hk : W.heap[g]? = some (.cells #[.string s1] 9 (0, 0))) => wr_text1 B b s1 e bs g W hW hk (by omega)
  generalize textW (e, bs) s1 = st1 at T1 HPW l1 l2
  obtain ⟨e1, bs1⟩ := st1
  try simp only at T1 HPW l1 l2
  have T2 := fun (W : World) (hW : WrAt B b e1 bs1 W) => wr_num B b e1 bs1 (hasI x1) 1 0 1 3 W hW (Or.inl rfl) (by decide) (by decide) (by omega)
  generalize numW (e1, bs1) (hasI x1) 1 0 1 3 = st2 at T2 HPW l2
  obtain ⟨e2, bs2⟩ := st2
  try simp only at T2 HPW l2
  have T3 := fun (W : World) (g : Nat) (hW : WrAt B b e2 bs2 W) (hk : W.heap[g]? = some (.cells #[.string s2] 9 (0, 0))) => wr_text1 B b s2 e2 bs2 g W hW hk (by omega)
  have H := Aside0.mk h
  have hb0 := h.lt
  clear h
  cases x1
  · go_enter Tryd.func53, Tryd.ntmps53
    go_wp2_with (first | ((with_reducible refine gate_dst (N := 3) rfl ?_); refine box_event ?hg (N := 3) ?hd (cs := #[.string s1, .bool false, .string s2]) (t := 53) ?hr ?_; (case hd => rfl); (case hg => rfl); (case hr => first | (go_simp; done) | (go_simp; rfl)); intro gb hgb w1 hbox hb; have H1 := Aside0.mk (H.out.below hb); have HG1 := Aside0.mk (gb_below hb b); have hne : some gb ≠ some b := (by intro q; injection q with q; omega); have HX := Aside0.mk hbox; have z0 := blk_cell hbox 0; have z1 := blk_cell hbox 1; have z2 := blk_cell hbox 2; clear H hgb hbox hb) | (go_at_call 51; refine (T1 _ _ (H1.out.below (Hand.alloc_below _ _)) (blk_new _ _)).mono ?_; rintro x w2 ⟨rfl, h2, hg2⟩; clear T1; have H2 := Aside0.mk h2; have HX2 := Aside0.mk (blk_grown (blk_alloc HX.out _) hg2 hne); have HG2 := Aside0.mk ((HG1.out.trans (gb_below (Hand.alloc_below _ _) b)).trans hg2); have z3 := blk_cell HX2.out 0; have z4 := blk_cell HX2.out 1; have z5 := blk_cell HX2.out 2; clear H1 HX HG1 h2 hg2) | (go_at_call 50; refine (variant_minors.calls 0 1 _ rfl).mono ?_; rintro x w3 ⟨rfl, hb3⟩; have H3 := Aside0.mk (H2.out.below hb3); have HX3 := Aside0.mk (blk_below HX2.out hb3); have HG3 := Aside0.mk (HG2.out.trans (gb_below hb3 b)); clear H2 HX2 HG2 hb3) | (go_at_call 31; refine (T2 _ H3.out).mono ?_; rintro x w4 ⟨rfl, h4, hg4⟩; clear T2; have H4 := Aside0.mk h4; have HX4 := Aside0.mk (blk_grown HX3.out hg4 hne); have HG4 := Aside0.mk (HG3.out.trans hg4); have z6 := blk_cell HX4.out 0; have z7 := blk_cell HX4.out 1; have z8 := blk_cell HX4.out 2; clear H3 HX3 HG3 h4 hg4) | (go_at_call 51; refine (T3 _ _ (H4.out.below (Hand.alloc_below _ _)) (blk_new _ _)).mono ?_; rintro x w5 ⟨rfl, h5, hg5⟩; clear T3; have H5 := Aside0.mk h5; have HG5 := Aside0.mk ((HG4.out.trans (gb_below (Hand.alloc_below _ _) b)).trans hg5); clear H4 HG4 h5 hg5))
    go_end0
    exact ⟨rfl, by rw [HPW.out]; exact H5.out, HG5.out⟩
  · go_enter Tryd.func53, Tryd.ntmps53
    go_wp2_with (first | ((with_reducible refine gate_dst (N := 3) rfl ?_); refine box_event ?hg (N := 3) ?hd (cs := #[.string s1, .bool true, .string s2]) (t := 53) ?hr ?_; (case hd => rfl); (case hg => rfl); (case hr => first | (go_simp; done) | (go_simp; rfl)); intro gb hgb w1 hbox hb; have H1 := Aside0.mk (H.out.below hb); have HG1 := Aside0.mk (gb_below hb b); have hne : some gb ≠ some b := (by intro q; injection q with q; omega); have HX := Aside0.mk hbox; have z0 := blk_cell hbox 0; have z1 := blk_cell hbox 1; have z2 := blk_cell hbox 2; clear H hgb hbox hb) | (go_at_call 51; refine (T1 _ _ (H1.out.below (Hand.alloc_below _ _)) (blk_new _ _)).mono ?_; rintro x w2 ⟨rfl, h2, hg2⟩; clear T1; have H2 := Aside0.mk h2; have HX2 := Aside0.mk (blk_grown (blk_alloc HX.out _) hg2 hne); have HG2 := Aside0.mk ((HG1.out.trans (gb_below (Hand.alloc_below _ _) b)).trans hg2); have z3 := blk_cell HX2.out 0; have z4 := blk_cell HX2.out 1; have z5 := blk_cell HX2.out 2; clear H1 HX HG1 h2 hg2) | (go_at_call 50; refine (variant_minors.calls 0 1 _ rfl).mono ?_; rintro x w3 ⟨rfl, hb3⟩; have H3 := Aside0.mk (H2.out.below hb3); have HX3 := Aside0.mk (blk_below HX2.out hb3); have HG3 := Aside0.mk (HG2.out.trans (gb_below hb3 b)); clear H2 HX2 HG2 hb3) | (go_at_call 31; refine (T2 _ H3.out).mono ?_; rintro x w4 ⟨rfl, h4, hg4⟩; clear T2; have H4 := Aside0.mk h4; have HX4 := Aside0.mk (blk_grown HX3.out hg4 hne); have HG4 := Aside0.mk (HG3.out.trans hg4); have z6 := blk_cell HX4.out 0; have z7 := blk_cell HX4.out 1; have z8 := blk_cell HX4.out 2; clear H3 HX3 HG3 h4 hg4) | (go_at_call 51; refine (T3 _ _ (H4.out.below (Hand.alloc_below _ _)) (blk_new _ _)).mono ?_; rintro x w5 ⟨rfl, h5, hg5⟩; clear T3; have H5 := Aside0.mk h5; have HG5 := Aside0.mk ((HG4.out.trans (gb_below (Hand.alloc_below _ _) b)).trans hg5); clear H4 HG4 h5 hg5))
    go_end0
    exact ⟨rfl, by rw [HPW.out]; exact H5.out, HG5.out⟩
/-! a stored reply -/
def fieldW (st : Int × List Int) (f : S62) : Int × List Int := textW (textW st f.f0) f.f1
def szF (f : S62) : Nat := 8 + f.f0.size + f.f1.size
def szP (p : S53) : Nat := 9 + p.f0.size + p.f2.size
def szS (x : S28) : Nat := 18 + x.f0.f1.size + x.f0.f4.size + (x.f0.f3.map szF).sum + (x.f2.map szP).sum
theorem fieldW_len (st : Int × List Int) (f : S62) : (fieldW st f).2.length ≤ st.2.length + szF f := by
  have h1 := textW_len st f.f0
  have h2 := textW_len (textW st f.f0) f.f1
  unfold fieldW szF
  omega
theorem pickW_len (st : Int × List Int) (p : S53) : (pickW st p).2.length ≤ st.2.length + szP p := by
  have h1 := textW_len st p.f0
  have h2 := numW_len (textW st p.f0) (hasI p.f1) 1 0 1 3
  have h3 := textW_len (numW (textW st p.f0) (hasI p.f1) 1 0 1 3) p.f2
  unfold pickW szP
  omega
theorem fold_len {α : Type} (g : Int × List Int → α → Int × List Int) (sz : α → Nat) (hg : ∀ st x, (g st x).2.length ≤ st.2.length + sz x) : ∀ (l : List α) (st : Int × List Int), (l.foldl g st).2.length ≤ st.2.length + (l.map sz).sum
  | [], st => by simp
  | x :: l, st => by
    have h1 := fold_len g sz hg l (g st x)
    have h2 := hg st x
    simp only [List.foldl_cons, List.map_cons, List.sum_cons]
    omega
theorem sum_take {α : Type} (sz : α → Nat) (l : List α) (n : Nat) : ((l.take n).map sz).sum ≤ (l.map sz).sum := by
  conv => rhs; rw [← List.take_append_drop n l, List.map_append, List.sum_append]
  omega
theorem sum_at {α : Type} (sz : α → Nat) (l : List α) (n : Nat) (h : n < l.length) : ((l.take n).map sz).sum + sz l[n] ≤ (l.map sz).sum := by
  have h1 := sum_take sz l (n + 1)
  rw [List.take_add_one, List.getElem?_eq_getElem h, List.map_append, List.sum_append] at h1
  simpa using h1
/-- The writer, and beside it the two boxes of a stored reply. -/
structure StAt (w : World) (B b : Nat) (c7 c5 : Array Value) (e : Int) (bs : List Int) (W : World) : Prop where
  wr : WrAt B b e bs W
  s7 : W.heap[w.heap.size]? = some (.cells c7 28 (0, 0))
  s5 : W.heap[w.heap.size + 1]? = some (.cells c5 25 (0, 0))
  gr : w.grownBy W (some b)
  lt : b < w.heap.size
theorem StAt.below {w : World} {B b : Nat} {c7 c5 : Array Value} {e : Int} {bs : List Int} {W W' : World} (h : StAt w B b c7 c5 e bs W) (hb : Below W.heap.size W W') : StAt w B b c7 c5 e bs W' :=
  ⟨h.wr.below hb, blk_below h.s7 hb, blk_below h.s5 hb, h.gr.trans (gb_below hb b), h.lt⟩
theorem StAt.grown {w : World} {B b : Nat} {c7 c5 : Array Value} {e e' : Int} {bs bs' : List Int} {W W' : World} (h : StAt w B b c7 c5 e bs W) (hg : W.grownBy W' (some b)) (hw : WrAt B b e' bs' W') : StAt w B b c7 c5 e' bs' W' :=
  ⟨hw, blk_grown h.s7 hg (by have := h.lt; simp; omega), blk_grown h.s5 hg (by have := h.lt; simp; omega), h.gr.trans hg, h.lt⟩
theorem StAt.num {w : World} {B b : Nat} {c7 c5 : Array Value} {e : Int} {bs : List Int} {W : World} (h : StAt w B b c7 c5 e bs W) (n : Int) (wd : Nat) (lo hi wrong : Int) (hwd : wd = 1 ∨ wd = 2 ∨ wd = 5) (hlo : 0 ≤ lo) (hhi : hi < 256 ^ wd) (hl : bs.length < 1000000000) (st : Int × List Int) (hst : numW (e, bs) n wd lo hi wrong = st) :
    Calls Tryd.prog 31 #[.pointer (some ⟨b, 0, none⟩), .int .i64 n, .int .i64 wd, .agg #[.int .i64 lo, .int .i64 hi], .int .i64 wrong] W fun x w' => x = .returned (.tuple #[]) ∧ StAt w B b c7 c5 st.1 st.2 w' := by
  subst hst
  exact (wr_num B b e bs n wd lo hi wrong W h.wr hwd hlo hhi hl).mono fun x w' ⟨h1, h2, h3⟩ => ⟨h1, h.grown h3 h2⟩
theorem StAt.text {w : World} {B b : Nat} {c7 c5 : Array Value} {e : Int} {bs : List Int} {W : World} (h : StAt w B b c7 c5 e bs W) (s : ByteArray) (g : Nat) (hk : W.heap[g]? = some (.cells #[.string s] 9 (0, 0))) (hl : bs.length + (4 + s.size) < 900000000) (st : Int × List Int) (hst : textW (e, bs) s = st) :
    Calls Tryd.prog 51 #[.pointer (some ⟨b, 0, none⟩), .slice (some ⟨g, 0, none⟩) 1 1] W fun x w' => x = .returned (.tuple #[]) ∧ StAt w B b c7 c5 st.1 st.2 w' := by
  subst hst
  exact (wr_text1 B b s e bs g W h.wr hk hl).mono fun x w' ⟨h1, h2, h3⟩ => ⟨h1, h.grown h3 h2⟩
theorem StAt.text2 {w : World} {B b : Nat} {c7 c5 : Array Value} {e : Int} {bs : List Int} {W : World} (h : StAt w B b c7 c5 e bs W) (f : S62) (g : Nat) (hk : W.heap[g]? = some (.cells #[.string f.f0, .string f.f1] 9 (0, 0))) (hl : bs.length + szF f < 900000000) (st : Int × List Int) (hst : fieldW (e, bs) f = st) :
    Calls Tryd.prog 51 #[.pointer (some ⟨b, 0, none⟩), .slice (some ⟨g, 0, none⟩) 2 2] W fun x w' => x = .returned (.tuple #[]) ∧ StAt w B b c7 c5 st.1 st.2 w' := by
  subst hst
  exact (wr_text2 B b f.f0 f.f1 e bs g W h.wr hk (by unfold szF at hl; omega)).mono fun x w' ⟨h1, h2, h3⟩ => ⟨h1, h.grown h3 h2⟩
theorem StAt.pick {w : World} {B b : Nat} {c7 c5 : Array Value} {e : Int} {bs : List Int} {W : World} (h : StAt w B b c7 c5 e bs W) (p : S53) (hl : bs.length + szP p < 900000000) (st : Int × List Int) (hst : pickW (e, bs) p = st) :
    Calls Tryd.prog 53 #[.pointer (some ⟨b, 0, none⟩), .agg #[.string p.f0, .bool p.f1, .string p.f2]] W fun x w' => x = .returned (.tuple #[]) ∧ StAt w B b c7 c5 st.1 st.2 w' := by
  subst hst
  exact (wr_pick B b p e bs W h.wr (by unfold szP at hl; omega)).mono fun x w' ⟨h1, h2, h3⟩ => ⟨h1, h.grown h3 h2⟩
theorem StAt.read {w0 w : World} {b : Nat} {c7 c5 : Array Value} {e : Int} {bs : List Int} {W : World} (h : StAt w w0.heap.size b c7 c5 e bs W) (hb : Below w0.heap.size w0 w) : Below w0.heap.size w0 W := hb.trans (gb_to h.gr h.wr.hB (Nat.le_trans hb.size (Nat.le_refl _)))
def storedW (st : Int × List Int) (x : S28) : Int × List Int :=
  let st1 := numW st x.f1 5 0 253402300799 3
  let st2 := numW st1 x.f0.f0 2 200 599 3
  let st3 := numW st2 x.f0.f2 1 0 1 3
  let st4 := textW st3 x.f0.f1
  let st5 := numW st4 x.f0.f3.length 1 0 64 4
  let st6 := x.f0.f3.foldl fieldW st5
  let st7 := textW st6 x.f0.f4
  let st8 := numW st7 x.f2.length 1 0 64 4
  x.f2.foldl pickW st8
set_option maxHeartbeats 6400000 in
set_option maxRecDepth 100000 in
theorem wr_stored (w0 : World) (b : Nat) (x : S28) (e : Int) (bs : List Int) (A3 A6 : Option Addr) (c3 c6 : Nat) (w : World) (h : WrAt w0.heap.size b e bs w) (hb0 : Below w0.heap.size w0 w)
    (hC3 : Kd.C k62 w0 A3 x.f0.f3.length x.f0.f3) (hc3 : x.f0.f3.length ≤ c3) (hC6 : Kd.C k53 w0 A6 x.f2.length x.f2) (hc6 : x.f2.length ≤ c6) (hn3 : x.f0.f3.length < 1000000) (hn6 : x.f2.length < 1000000) (hl : bs.length + szS x < 900000000) :
    Calls Tryd.prog 32 #[.pointer (some ⟨b, 0, none⟩), .agg #[.int .i64 x.f0.f0, .string x.f0.f1, .int .i64 x.f0.f2, .slice A3 x.f0.f3.length c3, .string x.f0.f4, .int .i64 x.f1, .slice A6 x.f2.length c6]] w fun r w' => r = .returned (.tuple #[]) ∧ WrAt w0.heap.size b (storedW (e, bs) x).1 (storedW (e, bs) x).2 w' ∧ w.grownBy w' (some b) := by
  obtain ⟨⟨code, reason, minor, fs, body⟩, time, ps⟩ := x
  simp only at hC3 hc3 hC6 hc6 hn3 hn6 hl ⊢
  have HC3 := Aside0.mk hC3
  have HC6 := Aside0.mk hC6
  have HB0 := Aside0.mk hb0
  have H := Aside0.mk h
  clear hC3 hC6 hb0 h
  go_enter Tryd.func32, Tryd.ntmps32
  go_upto_region 2 with (fail)
  have hb1 := Hand.alloc_below w (.cells #[.int .i64 code, .string reason, .int .i64 minor, .slice A3 fs.length c3, .string body, .int .i64 time, .slice A6 ps.length c6] 28)
  have hb2 := Hand.alloc_below (w.alloc (.cells #[.int .i64 code, .string reason, .int .i64 minor, .slice A3 fs.length c3, .string body, .int .i64 time, .slice A6 ps.length c6] 28)) (.cells #[.int .i64 code, .string reason, .int .i64 minor, .slice A3 fs.length c3, .string body] 25)
  have s5 := blk_new (w.alloc (.cells #[.int .i64 code, .string reason, .int .i64 minor, .slice A3 fs.length c3, .string body, .int .i64 time, .slice A6 ps.length c6] 28)) (.cells #[.int .i64 code, .string reason, .int .i64 minor, .slice A3 fs.length c3, .string body] 25)
  rw [show (w.alloc (.cells #[.int .i64 code, .string reason, .int .i64 minor, .slice A3 fs.length c3, .string body, .int .i64 time, .slice A6 ps.length c6] 28)).heap.size = w.heap.size + 1 by simp] at s5
  have S0 : Aside0 (StAt w w0.heap.size b #[.int .i64 code, .string reason, .int .i64 minor, .slice A3 fs.length c3, .string body, .int .i64 time, .slice A6 ps.length c6] #[.int .i64 code, .string reason, .int .i64 minor, .slice A3 fs.length c3, .string body] e bs ((w.alloc (.cells #[.int .i64 code, .string reason, .int .i64 minor, .slice A3 fs.length c3, .string body, .int .i64 time, .slice A6 ps.length c6] 28)).alloc (.cells #[.int .i64 code, .string reason, .int .i64 minor, .slice A3 fs.length c3, .string body] 25))) := ⟨(H.out.below hb1).below hb2, blk_alloc (blk_new w (.cells #[.int .i64 code, .string reason, .int .i64 minor, .slice A3 fs.length c3, .string body, .int .i64 time, .slice A6 ps.length c6] 28)) (.cells #[.int .i64 code, .string reason, .int .i64 minor, .slice A3 fs.length c3, .string body] 25), s5, (gb_below hb1 b).trans (gb_below hb2 b), H.out.lt⟩
  clear hb1 hb2 s5
  generalize (w.alloc (.cells #[.int .i64 code, .string reason, .int .i64 minor, .slice A3 fs.length c3, .string body, .int .i64 time, .slice A6 ps.length c6] 28)).alloc (.cells #[.int .i64 code, .string reason, .int .i64 minor, .slice A3 fs.length c3, .string body] 25) = W0 at S0 ⊢
  obtain ⟨st1, hst1⟩ : ∃ z, z = numW (e, bs) time 5 0 253402300799 3 := ⟨_, rfl⟩
  have L1 := numW_len (e, bs) time 5 0 253402300799 3
  rw [← hst1] at L1
  go_cut [15] (fun v15 wx => Aside0 (StAt w w0.heap.size b #[.int .i64 code, .string reason, .int .i64 minor, .slice A3 fs.length c3, .string body, .int .i64 time, .slice A6 ps.length c6] #[.int .i64 code, .string reason, .int .i64 minor, .slice A3 fs.length c3, .string body] st1.1 st1.2 wx))
  case first =>
    have zz := blk_cell S0.out.s7 5
    go_region_with (first | (go_at_call 48; refine (variant_times.calls 0 253402300799 _ rfl).mono ?_; rintro r w1 ⟨rfl, hb⟩; have T1 := Aside0.mk (StAt.below S0.out (Below.trans (Below.drew (Below.refl _ _)) hb)); have z6 := blk_cell T1.out.s7 5; clear hb) | (go_at_call 31; refine (StAt.num T1.out time 5 0 253402300799 3 (by decide) (by decide) (by decide) (by omega) st1 hst1.symm).mono ?_; rintro r w2 ⟨rfl, h2⟩; have T2 := Aside0.mk h2; clear h2))
    all_goals (go_wp2_with fail; go_meet; exact T2)
  case rest =>
    have S1 := hcut
    clear hcut S0
    obtain ⟨st2, hst2⟩ : ∃ z, z = numW st1 code 2 200 599 3 := ⟨_, rfl⟩
    have L2 := numW_len st1 code 2 200 599 3
    rw [← hst2] at L2
    go_upto_region 3 with (fail)
    go_cut [20] (fun v20 wx => Aside0 (StAt w w0.heap.size b #[.int .i64 code, .string reason, .int .i64 minor, .slice A3 fs.length c3, .string body, .int .i64 time, .slice A6 ps.length c6] #[.int .i64 code, .string reason, .int .i64 minor, .slice A3 fs.length c3, .string body] st2.1 st2.2 wx))
    case first =>
      have zz := blk_cell S1.out.s5 0
      go_region_with (first | (go_at_call 49; refine (variant_codes.calls 200 599 _ rfl).mono ?_; rintro r w1 ⟨rfl, hb⟩; have T1 := Aside0.mk (StAt.below S1.out (Below.trans (Below.drew (Below.refl _ _)) hb)); have z6 := blk_cell T1.out.s5 0; clear hb) | (go_at_call 31; refine (StAt.num T1.out code 2 200 599 3 (by decide) (by decide) (by decide) (by omega) st2 hst2.symm).mono ?_; rintro r w2 ⟨rfl, h2⟩; have T2 := Aside0.mk h2; clear h2))
      all_goals (go_wp2_with fail; go_meet; exact T2)
    case rest =>
      have S2 := hcut
      clear hcut S1
      obtain ⟨st3, hst3⟩ : ∃ z, z = numW st2 minor 1 0 1 3 := ⟨_, rfl⟩
      have L3 := numW_len st2 minor 1 0 1 3
      rw [← hst3] at L3
      go_upto_region 4 with (fail)
      go_cut [25] (fun v25 wx => Aside0 (StAt w w0.heap.size b #[.int .i64 code, .string reason, .int .i64 minor, .slice A3 fs.length c3, .string body, .int .i64 time, .slice A6 ps.length c6] #[.int .i64 code, .string reason, .int .i64 minor, .slice A3 fs.length c3, .string body] st3.1 st3.2 wx))
      case first =>
        have zz := blk_cell S2.out.s5 2
        go_region_with (first | (go_at_call 50; refine (variant_minors.calls 0 1 _ rfl).mono ?_; rintro r w1 ⟨rfl, hb⟩; have T1 := Aside0.mk (StAt.below S2.out (Below.trans (Below.drew (Below.refl _ _)) hb)); have z6 := blk_cell T1.out.s5 2; clear hb) | (go_at_call 31; refine (StAt.num T1.out minor 1 0 1 3 (by decide) (by decide) (by decide) (by omega) st3 hst3.symm).mono ?_; rintro r w2 ⟨rfl, h2⟩; have T2 := Aside0.mk h2; clear h2))
        all_goals (go_wp2_with fail; go_meet; exact T2)
      case rest =>
        have S3 := hcut
        clear hcut S2
        obtain ⟨st4, hst4⟩ : ∃ z, z = textW st3 reason := ⟨_, rfl⟩
        have L4 := textW_len st3 reason
        rw [← hst4] at L4
        have zr := blk_cell S3.out.s5 1
        have hsz : szS ⟨⟨code, reason, minor, fs, body⟩, time, ps⟩ = 18 + reason.size + body.size + (fs.map szF).sum + (ps.map szP).sum := rfl
        rw [hsz] at hl
        simp only at L1 L2 L3 L4
        go_upto_region 6 with (go_at_call 51; refine (StAt.text (StAt.below S3.out (Hand.alloc_below _ _)) reason _ (blk_new _ _) (by omega) st4 hst4.symm).mono ?_; rintro r w4 ⟨rfl, h2⟩; have S4 := Aside0.mk h2; clear h2)
        clear S3 zr
        obtain ⟨st5, hst5⟩ : ∃ z, z = numW st4 fs.length 1 0 64 4 := ⟨_, rfl⟩
        have L5 := numW_len st4 fs.length 1 0 64 4
        rw [← hst5] at L5
        go_cut [36] (fun v36 wx => Aside0 (StAt w w0.heap.size b #[.int .i64 code, .string reason, .int .i64 minor, .slice A3 fs.length c3, .string body, .int .i64 time, .slice A6 ps.length c6] #[.int .i64 code, .string reason, .int .i64 minor, .slice A3 fs.length c3, .string body] st5.1 st5.2 wx))
        case first =>
          have zz := blk_cell S4.out.s5 3
          go_region_with (first | (go_at_call 52; refine (variant_counts.calls 0 64 _ rfl).mono ?_; rintro r w1 ⟨rfl, hb⟩; have T1 := Aside0.mk (StAt.below S4.out (Below.trans (Below.drew (Below.refl _ _)) hb)); have z6 := blk_cell T1.out.s5 3; clear hb) | (go_at_call 31; refine (StAt.num T1.out fs.length 1 0 64 4 (by decide) (by decide) (by decide) (by omega) st5 hst5.symm).mono ?_; rintro r w2 ⟨rfl, h2⟩; have T2 := Aside0.mk h2; clear h2))
          all_goals (go_wp2_with fail; go_meet; exact T2)
        case rest =>
          have S5 := hcut
          clear hcut S4
          have zz := blk_cell S5.out.s5 3
          go_wp2
          clear zz
          go_loopw [40] (fun v40 wx => ∃ n : Nat, n ≤ fs.length ∧ v40 = .int .i64 n ∧ Aside0 (StAt w w0.heap.size b #[.int .i64 code, .string reason, .int .i64 minor, .slice A3 fs.length c3, .string body, .int .i64 time, .slice A6 ps.length c6] #[.int .i64 code, .string reason, .int .i64 minor, .slice A3 fs.length c3, .string body] ((fs.take n).foldl fieldW st5).1 ((fs.take n).foldl fieldW st5).2 wx)) (fun v40 _ => fs.length - (intOf v40).toNat)
          case atStart => exact ⟨0, Nat.zero_le _, rfl, S5⟩
          case round =>
            clear S5
            obtain ⟨n, hn, rfl, SR⟩ := hrel
            have hfl := fold_len fieldW szF fieldW_len (fs.take n) st5
            by_cases hlt : n < fs.length
            · have hsa := sum_at szF fs n hlt
              have htk : (fs.take (n + 1)).foldl fieldW st5 = fieldW ((fs.take n).foldl fieldW st5) fs[n] := by rw [List.take_add_one, List.getElem?_eq_getElem hlt, List.foldl_append]; rfl
              have HTK := Aside0.mk htk
              clear htk
              obtain ⟨ad, e0, hx0, hx1⟩ := at_T62 HC3.out n (by omega) (by omega)
              cases e0
              have hbr := StAt.read SR.out HB0.out
              replace hx0 := (hbr.cell (World.block_lt_of_cell? w0 _ hx0)).trans hx0
              replace hx1 := (hbr.cell (World.block_lt_of_cell? w0 _ hx1)).trans hx1
              clear hbr
              rw [Int.toNat_natCast] at hx0 hx1
              have rdn : rd_T62 fs n = fs[n] := by show fs.getD n _ = _; rw [List.getD_eq_getElem?_getD, List.getElem?_eq_getElem hlt]; rfl
              rw [rdn] at hx0 hx1
              clear rdn
              generalize fs[n] = f at hx0 hx1 HTK hsa
              generalize (fs.take n).foldl fieldW st5 = sn at SR HTK hfl
              obtain ⟨en, bn⟩ := sn
              try simp only at SR HTK hfl
              obtain ⟨sm, hsm⟩ : ∃ z, fieldW (en, bn) f = z := ⟨_, rfl⟩
              rw [hsm] at HTK
              go_upto_region 10 with (fail)
              have hb1 := Hand.alloc_below wr (.cells #[.string f.f0, .string f.f1] 62)
              have hx := blk_new wr (.cells #[.string f.f0, .string f.f1] 62)
              have S1 := Aside0.mk (StAt.below SR.out hb1)
              clear SR hx0 hx1 hb1
              generalize wr.alloc (.cells #[.string f.f0, .string f.f1] 62) = wA at hx S1 ⊢
              have z0 := blk_cell hx 0
              have z1 := blk_cell hx 1
              clear hx
              go_wp2_with (go_at_call 51; refine (StAt.text2 (StAt.below S1.out (Hand.alloc_below _ _)) f _ (blk_new _ _) (by omega) sm hsm).mono ?_; rintro r w4 ⟨rfl, h2⟩; have S2 := Aside0.mk h2; clear S1 h2)
              go_roundw
              case rel => exact ⟨n + 1, by omega, by go_num, by rw [HTK.out]; exact S2⟩
              case measure => simp [intOf]; omega
            · rw [List.take_of_length_le (by omega)] at SR hfl
              obtain ⟨st6, hst6⟩ : ∃ z, z = fs.foldl fieldW st5 := ⟨_, rfl⟩
              rw [← hst6] at SR hfl
              obtain ⟨st7, hst7⟩ : ∃ z, z = textW st6 body := ⟨_, rfl⟩
              have L7 := textW_len st6 body
              rw [← hst7] at L7
              have zr := blk_cell SR.out.s5 4
              try simp only at L5
              go_upto_region 13 with (go_at_call 51; refine (StAt.text (StAt.below SR.out (Hand.alloc_below _ _)) body _ (blk_new _ _) (by omega) st7 hst7.symm).mono ?_; rintro r w7 ⟨rfl, h2⟩; have S7 := Aside0.mk h2; clear h2)
              clear SR zr
              obtain ⟨st8, hst8⟩ : ∃ z, z = numW st7 ps.length 1 0 64 4 := ⟨_, rfl⟩
              have L8 := numW_len st7 ps.length 1 0 64 4
              rw [← hst8] at L8
              go_cut [62] (fun v62 wx => Aside0 (StAt w w0.heap.size b #[.int .i64 code, .string reason, .int .i64 minor, .slice A3 fs.length c3, .string body, .int .i64 time, .slice A6 ps.length c6] #[.int .i64 code, .string reason, .int .i64 minor, .slice A3 fs.length c3, .string body] st8.1 st8.2 wx))
              case first =>
                have zz := blk_cell S7.out.s7 6
                go_region_with (first | (go_at_call 52; refine (variant_counts.calls 0 64 _ rfl).mono ?_; rintro r w1 ⟨rfl, hb⟩; have T1 := Aside0.mk (StAt.below S7.out (Below.trans (Below.drew (Below.refl _ _)) hb)); have z6 := blk_cell T1.out.s7 6; clear hb) | (go_at_call 31; refine (StAt.num T1.out ps.length 1 0 64 4 (by decide) (by decide) (by decide) (by omega) st8 hst8.symm).mono ?_; rintro r w2 ⟨rfl, h2⟩; have T2 := Aside0.mk h2; clear h2))
                all_goals (go_wp2_with fail; go_meet; exact T2)
              case rest =>
                have S8 := hcut
                clear hcut S7
                have zz := blk_cell S8.out.s7 6
                go_wp2
                clear zz
                go_loopw [66] (fun v66 wx => ∃ n : Nat, n ≤ ps.length ∧ v66 = .int .i64 n ∧ Aside0 (StAt w w0.heap.size b #[.int .i64 code, .string reason, .int .i64 minor, .slice A3 fs.length c3, .string body, .int .i64 time, .slice A6 ps.length c6] #[.int .i64 code, .string reason, .int .i64 minor, .slice A3 fs.length c3, .string body] ((ps.take n).foldl pickW st8).1 ((ps.take n).foldl pickW st8).2 wx)) (fun v66 _ => ps.length - (intOf v66).toNat)
                case atStart => exact ⟨0, Nat.zero_le _, rfl, S8⟩
                case round =>
                  clear S8
                  obtain ⟨n, hn, rfl, SR⟩ := hrel
                  have hfl2 := fold_len pickW szP pickW_len (ps.take n) st8
                  by_cases hlt : n < ps.length
                  · have hsa := sum_at szP ps n hlt
                    have htk : (ps.take (n + 1)).foldl pickW st8 = pickW ((ps.take n).foldl pickW st8) ps[n] := by rw [List.take_add_one, List.getElem?_eq_getElem hlt, List.foldl_append]; rfl
                    have HTK := Aside0.mk htk
                    clear htk
                    obtain ⟨ad, e0, hx0, hx1, hx2⟩ := at_T53 HC6.out n (by omega) (by omega)
                    cases e0
                    have hbr := StAt.read SR.out HB0.out
                    replace hx0 := (hbr.cell (World.block_lt_of_cell? w0 _ hx0)).trans hx0
                    replace hx1 := (hbr.cell (World.block_lt_of_cell? w0 _ hx1)).trans hx1
                    replace hx2 := (hbr.cell (World.block_lt_of_cell? w0 _ hx2)).trans hx2
                    clear hbr
                    rw [Int.toNat_natCast] at hx0 hx1 hx2
                    have rdn : rd_T53 ps n = ps[n] := by show ps.getD n _ = _; rw [List.getD_eq_getElem?_getD, List.getElem?_eq_getElem hlt]; rfl
                    rw [rdn] at hx0 hx1 hx2
                    clear rdn
                    generalize ps[n] = q at hx0 hx1 hx2 HTK hsa
                    generalize (ps.take n).foldl pickW st8 = sn at SR HTK hfl2
                    obtain ⟨en, bn⟩ := sn
                    try simp only at SR HTK hfl2
                    obtain ⟨sm, hsm⟩ : ∃ z, pickW (en, bn) q = z := ⟨_, rfl⟩
                    rw [hsm] at HTK
                    go_upto_region 17 with (fail)
                    have hb1 := Hand.alloc_below wr (.cells #[.string q.f0, .bool q.f1, .string q.f2] 53)
                    have hx := blk_new wr (.cells #[.string q.f0, .bool q.f1, .string q.f2] 53)
                    have S1 := Aside0.mk (StAt.below SR.out hb1)
                    clear SR hx0 hx1 hx2 hb1
                    generalize wr.alloc (.cells #[.string q.f0, .bool q.f1, .string q.f2] 53) = wA at hx S1 ⊢
                    have z0 := blk_cell hx 0
                    have z1 := blk_cell hx 1
                    have z2 := blk_cell hx 2
                    clear hx
                    go_wp2_with (go_at_call 53; refine (StAt.pick S1.out q (by omega) sm hsm).mono ?_; rintro r w4 ⟨rfl, h2⟩; have S2 := Aside0.mk h2; clear S1 h2)
                    go_roundw
                    case rel => exact ⟨n + 1, by omega, by go_num, by rw [HTK.out]; exact S2⟩
                    case measure => simp [intOf]; omega
                  · rw [List.take_of_length_le (by omega)] at SR
                    have hfin : storedW (e, bs) ⟨⟨code, reason, minor, fs, body⟩, time, ps⟩ = ps.foldl pickW st8 := by
                      rw [hst8, hst7, hst6, hst5, hst4, hst3, hst2, hst1]
                      rfl
                    have HFIN := Aside0.mk hfin
                    clear hfin
                    go_wp2
                    go_end0
                    exact ⟨rfl, by rw [HFIN.out]; exact SR.out.wr, SR.out.gr⟩
def encodeW (l0 : List S28) : Int × List Int := l0.foldl storedW (numW (0, []) l0.length 1 0 4 4)
def encodeR (st : Int × List Int) : List Int × Int := if st.1 = 0 then (st.2, 0) else ([], st.1)
def variant_Encode.f (l0 : List S28) : Option (List Int × Int) :=
  if l0.length < 1000000 ∧ (∀ x ∈ l0, x.f0.f3.length < 1000000 ∧ x.f2.length < 1000000) ∧ (l0.map szS).sum < 800000000 then some (encodeR (encodeW l0)) else none
theorem storedW_len (st : Int × List Int) (x : S28) : (storedW st x).2.length ≤ st.2.length + szS x := by
  have e0 : storedW st x = x.f2.foldl pickW (numW (textW (List.foldl fieldW (numW (textW (numW (numW (numW st x.f1 5 0 253402300799 3) x.f0.f0 2 200 599 3) x.f0.f2 1 0 1 3) x.f0.f1) x.f0.f3.length 1 0 64 4) x.f0.f3) x.f0.f4) x.f2.length 1 0 64 4) := rfl
  rw [e0]
  unfold szS
  have h1 := numW_len st x.f1 5 0 253402300799 3
  generalize numW st x.f1 5 0 253402300799 3 = s1 at h1 ⊢
  have h2 := numW_len s1 x.f0.f0 2 200 599 3
  generalize numW s1 x.f0.f0 2 200 599 3 = s2 at h2 ⊢
  have h3 := numW_len s2 x.f0.f2 1 0 1 3
  generalize numW s2 x.f0.f2 1 0 1 3 = s3 at h3 ⊢
  have h4 := textW_len s3 x.f0.f1
  generalize textW s3 x.f0.f1 = s4 at h4 ⊢
  have h5 := numW_len s4 x.f0.f3.length 1 0 64 4
  generalize numW s4 x.f0.f3.length 1 0 64 4 = s5 at h5 ⊢
  have h6 := fold_len fieldW szF fieldW_len x.f0.f3 s5
  generalize x.f0.f3.foldl fieldW s5 = s6 at h6 ⊢
  have h7 := textW_len s6 x.f0.f4
  generalize textW s6 x.f0.f4 = s7 at h7 ⊢
  have h8 := numW_len s7 x.f2.length 1 0 64 4
  generalize numW s7 x.f2.length 1 0 64 4 = s8 at h8 ⊢
  have h9 := fold_len pickW szP pickW_len x.f2 s8
  omega
set_option maxHeartbeats 6400000 in
set_option maxRecDepth 100000 in
theorem variant_Encode.calls (A0 : Option Addr) (c0 : Nat) (l0 : List S28) (r1 : List Int) (r2 : Int) (w : World) (hr0 : Kd.C k28 w A0 l0.length l0) (hc0 : l0.length ≤ c0) (h : variant_Encode.f l0 = some (r1, r2)) :
    Calls Tryd.prog 18 #[.slice A0 l0.length c0] w fun e w' => ∃ v0_ : Value, e = .returned (.tuple #[v0_, .int .i64 r2]) ∧ Kd.R (Kd.int .u8) 5 w' w.heap.size (fun _ => True) v0_ r1 ∧ Below w.heap.size w w' := by
  unfold variant_Encode.f at h
  split at h
  case isFalse => cases h
  case isTrue hh =>
  obtain ⟨hn, hall, hs⟩ := hh
  have hres : encodeR (encodeW l0) = (r1, r2) := Option.some.inj h
  have HRES := Aside0.mk hres
  have HR0 := Aside0.mk hr0
  have HALL := Aside0.mk hall
  clear h hres hr0 hall
  obtain ⟨sa, hsa⟩ : ∃ z, z = numW (0, []) l0.length 1 0 4 4 := ⟨_, rfl⟩
  have LA := numW_len (0, []) l0.length 1 0 4 4
  rw [← hsa] at LA
  try simp only [List.length_nil] at LA
  go_enter Tryd.func18, Tryd.ntmps18
  go_upto_region 2 with (fail)
  have hb1 := Hand.alloc_below w (.cells #[.int .i64 0, .slice none 0 0] 67)
  have hk := blk_new w (.cells #[.int .i64 0, .slice none 0 0] 67)
  have W1 : Aside0 (WrAt w.heap.size w.heap.size 0 [] (w.alloc (.cells #[.int .i64 0, .slice none 0 0] 67))) := ⟨Nat.le_refl _, hb1.size, _, hk, Kd.R_nil _ _ _ _ _⟩
  have HB1 := Aside0.mk hb1
  clear hb1 hk
  generalize w.alloc (.cells #[.int .i64 0, .slice none 0 0] 67) = w1 at W1 HB1 ⊢
  go_wp2_with (go_at_call 31; refine (wr_num w.heap.size w.heap.size 0 [] l0.length 1 0 4 4 _ W1.out (by decide) (by decide) (by decide) (by decide)).mono ?_; rintro x w2 ⟨rfl, h2, hg2⟩; rw [← hsa] at h2; have W2 := Aside0.mk h2; have HB2 := Aside0.mk (HB1.out.trans (gb_to hg2 (Nat.le_refl _) HB1.out.size)); clear h2 hg2 W1 HB1)
  go_loopw [16] (fun v16 wx => ∃ n : Nat, n ≤ l0.length ∧ v16 = .int .i64 n ∧ Aside0 (WrAt w.heap.size w.heap.size ((l0.take n).foldl storedW sa).1 ((l0.take n).foldl storedW sa).2 wx) ∧ Aside0 (Below w.heap.size w wx)) (fun v16 _ => l0.length - (intOf v16).toNat)
  case atStart => exact ⟨0, Nat.zero_le _, rfl, W2, HB2⟩
  case round =>
    clear W2 HB2
    obtain ⟨n, hn2, rfl, WR, HB⟩ := hrel
    have hfl := fold_len storedW szS storedW_len (l0.take n) sa
    by_cases hlt : n < l0.length
    · have hsx := sum_at szS l0 n hlt
      have htk : (l0.take (n + 1)).foldl storedW sa = storedW ((l0.take n).foldl storedW sa) l0[n] := by rw [List.take_add_one, List.getElem?_eq_getElem hlt, List.foldl_append]; rfl
      have HTK := Aside0.mk htk
      have hal := HALL.out l0[n] (List.getElem_mem hlt)
      clear htk
      obtain ⟨ad, A3, c3, A6, c6, e0, hx0, hx1, hx2, hx3, hx4, hx5, hx6, hl3, hi3, hl6, hi6⟩ := at_T28 HR0.out n (by omega) (by omega)
      cases e0
      replace hx0 := (HB.out.cell (World.block_lt_of_cell? w _ hx0)).trans hx0
      replace hx1 := (HB.out.cell (World.block_lt_of_cell? w _ hx1)).trans hx1
      replace hx2 := (HB.out.cell (World.block_lt_of_cell? w _ hx2)).trans hx2
      replace hx3 := (HB.out.cell (World.block_lt_of_cell? w _ hx3)).trans hx3
      replace hx4 := (HB.out.cell (World.block_lt_of_cell? w _ hx4)).trans hx4
      replace hx5 := (HB.out.cell (World.block_lt_of_cell? w _ hx5)).trans hx5
      replace hx6 := (HB.out.cell (World.block_lt_of_cell? w _ hx6)).trans hx6
      rw [Int.toNat_natCast] at hx0 hx1 hx2 hx3 hx4 hx5 hx6
      have rdn : rd_T28 l0 n = l0[n] := by show l0.getD n _ = _; rw [List.getD_eq_getElem?_getD, List.getElem?_eq_getElem hlt]; rfl
      rw [rdn] at hx0 hx1 hx2 hx3 hx4 hx5 hx6 hl3 hi3 hl6 hi6
      clear rdn
      generalize l0[n] = x at hx0 hx1 hx2 hx3 hx4 hx5 hx6 hl3 hi3 hl6 hi6 HTK hsx hal
      generalize (l0.take n).foldl storedW sa = sn at WR HTK hfl
      obtain ⟨en, bn⟩ := sn
      try simp only at WR HTK hfl
      have HST := fun (W : World) (hW : WrAt w.heap.size w.heap.size en bn W) (hb : Below w.heap.size w W) => wr_stored w w.heap.size x en bn A3 A6 c3 c6 W hW hb hi3 hl3 hi6 hl6 hal.1 hal.2 (by omega)
      clear hl3 hi3 hl6 hi6 hal
      go_upto_region 6 with (fail)
      have hb1 := Hand.alloc_below wr (.cells #[.int .i64 x.f0.f0, .string x.f0.f1, .int .i64 x.f0.f2, .slice A3 x.f0.f3.length c3, .string x.f0.f4, .int .i64 x.f1, .slice A6 x.f2.length c6] 28)
      have hx := blk_new wr (.cells #[.int .i64 x.f0.f0, .string x.f0.f1, .int .i64 x.f0.f2, .slice A3 x.f0.f3.length c3, .string x.f0.f4, .int .i64 x.f1, .slice A6 x.f2.length c6] 28)
      have W1 := Aside0.mk (WR.out.below hb1)
      have HB1 := Aside0.mk (below_step HB.out hb1)
      clear WR HB hx0 hx1 hx2 hx3 hx4 hx5 hx6 hb1
      generalize wr.alloc (.cells #[.int .i64 x.f0.f0, .string x.f0.f1, .int .i64 x.f0.f2, .slice A3 x.f0.f3.length c3, .string x.f0.f4, .int .i64 x.f1, .slice A6 x.f2.length c6] 28) = wA at hx W1 HB1 ⊢
      have z0 := blk_cell hx 0
      have z1 := blk_cell hx 1
      have z2 := blk_cell hx 2
      have z3 := blk_cell hx 3
      have z4 := blk_cell hx 4
      have z5 := blk_cell hx 5
      have z6 := blk_cell hx 6
      clear hx
      go_wp2_with (go_at_call 32; refine (HST _ W1.out HB1.out).mono ?_; rintro r w4 ⟨rfl, h2, hg2⟩; have W2 := Aside0.mk h2; have HB2 := Aside0.mk (HB1.out.trans (gb_to hg2 (Nat.le_refl _) HB1.out.size)); clear h2 hg2 W1 HB1 HST)
      go_roundw
      case rel => exact ⟨n + 1, by omega, by go_num, by rw [HTK.out]; exact W2, HB2⟩
      case measure => simp [intOf]; omega
    · rw [List.take_of_length_le (by omega)] at WR
      have hst : l0.foldl storedW sa = encodeW l0 := by rw [hsa]; rfl
      rw [hst] at WR
      generalize encodeW l0 = st at WR HRES
      obtain ⟨e, bs⟩ := st
      try simp only at WR
      have hr := HRES.out
      unfold encodeR at hr
      have f0 := wr_fine w.heap.size e wr WR.out.cell
      by_cases he : e = 0
      · subst he
        rw [if_pos rfl] at hr
        obtain ⟨rfl, rfl⟩ : bs = r1 ∧ 0 = r2 := by simpa using hr
        obtain ⟨v, hk, hR⟩ := WR.out.out
        have HRR := Aside0.mk hR
        obtain ⟨A9, c9, rfl⟩ := Kd.R_slice hR
        have k1 := blk_cell hk 1
        clear hk hR hr HRES
        go_wp2_with (go_at_call 33; refine f0.mono ?_; rintro r w4 ⟨rfl, rfl⟩; clear f0)
        go_ret2
        exact ⟨_, rfl, HRR.out, HB.out⟩
      · rw [if_neg he] at hr
        obtain ⟨rfl, rfl⟩ : [] = r1 ∧ e = r2 := by simpa using hr
        rw [decide_eq_false he] at f0
        have k0 := WR.out.cell
        clear hr HRES
        go_wp2_with (go_at_call 33; refine f0.mono ?_; rintro r w4 ⟨rfl, rfl⟩; clear f0)
        go_region_with (fail)
        all_goals (go_wp2_with fail; go_ret2; exact ⟨_, rfl, Kd.R_nil _ _ _ _ _, HB.out.trans (Below.drew (Below.refl _ _))⟩)

end Go.Proofs.YtdiefodncfnfeaaDoor.PR
