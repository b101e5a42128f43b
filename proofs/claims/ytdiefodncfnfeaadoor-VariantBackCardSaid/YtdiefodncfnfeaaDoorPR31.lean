-- Out of the translation, by a program of this session: each function that a law comes to as a Lean function, and that the machine's call does what it says. Lean checks it.
import Derived.Test.YtdiefodncfnfeaaDoorPR0
import Derived.Test.YtdiefodncfnfeaaDoorPR6
import Derived.Test.YtdiefodncfnfeaaDoorPR15
import Derived.Test.YtdiefodncfnfeaaDoorPR16
import Derived.Test.YtdiefodncfnfeaaDoorPR18
namespace Go.Proofs.YtdiefodncfnfeaaDoor.PR
open Go.RowKit Go.Proofs.YtdiefodncfnfeaaDoorW.PrintWords Go.Proofs.YtdiefodncfnfeaaDoorW.PrintLast Go.Proofs.YtdiefodncfnfeaaDoorW.PrintMore
attribute [local go_sem] max2_int min2_int max_two min_two max_three min_three max_four min_four   -- for this text's walks alone
set_option linter.unusedVariables false
set_option linter.unusedSimpArgs false

/-! ### depotref20_Decode: function 22: told by hand -/
set_option maxHeartbeats 3200000 in
set_option maxRecDepth 100000 in
theorem ref_text (A0 : Option Addr) (c0 : Nat) (L : List Int) (a : Nat) (W : World) (hr0 : Kd.C (Kd.int .u8) W A0 L.length L) (hc0 : L.length ≤ c0) (ha : a ≤ L.length) (hL : Oct L) (hs : L.length < 1000000000) :
    Calls Tryd.prog 60 #[.slice A0 L.length c0, .int .i64 a] W fun x w' => x = .returned (.tuple #[.string (textG L a).1, .int .i64 (textG L a).2.2, .int .i64 (textG L a).2.1]) ∧ ∃ nd, w' = W.drewN nd := by
  have HG := Aside0.mk (rget_f L hL a 4 (by decide) ha hs)
  have HC := Aside0.mk hr0
  have HLC := Aside0.mk hc0
  by_cases hc : a + 4 ≤ L.length
  · have hge := (getR_err L a 4).2 hc
    have hn0 : 0 ≤ (getR L a 4).1 := by unfold getR; rw [if_pos hc]; exact leN_lo _ (oct_cut hL a 4)
    have htg : textG L a = if 65536 < (getR L a 4).1 then (⟨#[]⟩, 4, a) else if (L.length : Int) - (a + 4) < (getR L a 4).1 then (⟨#[]⟩, 6, a) else (strOfNums ((L.drop (a + 4)).take (getR L a 4).1.toNat), 0, a + 4 + (getR L a 4).1.toNat) := if_pos hc
    rw [htg]
    generalize getR L a 4 = gg at HG hge hn0 ⊢
    obtain ⟨n1, e1⟩ := gg
    try simp only at HG hge hn0 ⊢
    subst hge
    clear htg
    by_cases c1 : 65536 < n1
    · rw [if_pos c1]
      clear hr0 hc0
      go_enter Tryd.func60, Tryd.ntmps60
      go_wp2_with (go_at_call 59; refine (depotref03_Get.calls 20 A0 c0 L a 4 n1 0 _ HC.out HLC.out HG.out).mono ?_; rintro x w1 ⟨rfl, ⟨nd, rfl⟩⟩)
      go_ret3
      exact ⟨rfl, _, rfl⟩
    · rw [if_neg c1]
      by_cases c2 : (L.length : Int) - (a + 4) < n1
      · rw [if_pos c2]
        have c3 : (L.length : Int) - a - 4 < n1 := by omega
        clear hr0 hc0
        go_enter Tryd.func60, Tryd.ntmps60
        go_wp2_with (go_at_call 59; refine (depotref03_Get.calls 20 A0 c0 L a 4 n1 0 _ HC.out HLC.out HG.out).mono ?_; rintro x w1 ⟨rfl, ⟨nd, rfl⟩⟩)
        go_ret3
        exact ⟨rfl, _, rfl⟩
      · rw [if_neg c2]
        obtain ⟨n, rfl⟩ := Int.eq_ofNat_of_zero_le hn0
        rw [Int.toNat_natCast]
        have c3 : ¬ (L.length : Int) - a - 4 < n := by omega
        obtain ⟨i0, hi0, _, hsz, _⟩ := info_parts info5
        have hcut := cut_mid (P := Tryd.prog) 37 5 .i64 .i64 Tryd.underlying37 hi0 1 hsz A0 L.length c0 ((a : Int) + 4) ((a : Int) + 4 + n) (by omega) (by omega) (by omega) hc0
        have e1 : ((a : Int) + 4).toNat = a + 4 := by omega
        have e2 : ((a : Int) + 4 + n).toNat = a + 4 + n := by omega
        rw [e1, e2, show a + 4 + n - (a + 4) = n by omega] at hcut
        have hC := Kd.C_mid (lo := a + 4) (hi := a + 4 + n) hr0 (by omega) (by omega) hc0
        have hcl : (L.take (a + 4 + n)).drop (a + 4) = (L.drop (a + 4)).take n := by rw [List.drop_take]; congr 1; omega
        rw [hcl, show (Kd.int IntKind.u8).sz = 1 from rfl] at hC
        have hll : ((L.drop (a + 4)).take n).length = n := by rw [List.length_take, List.length_drop]; omega
        rw [hll] at hC
        obtain ⟨Aq, hAq⟩ : ∃ A1, A1 = (if c0 = a + 4 then A0 else A0.map (·.add ((a + 4) * 1))) := ⟨_, rfl⟩
        rw [← hAq] at hcut hC
        have hcv := fun (nd : Nat) => Kd.C_string (P := Tryd.prog) (c := c0 - (a + 4)) Tryd.underlying37 Tryd.underlying5 Tryd.underlying9 (Kd.C_drewN hC nd)
        have hsum : ((a + 4 + n : Nat) : Int) = (a : Int) + 4 + n := by omega
        rw [hsum]
        clear hr0 hc0 hC hll hcl hAq e1 e2 hsz hi0 hsum
        go_enter Tryd.func60, Tryd.ntmps60
        go_wp2_with (go_at_call 59; refine (depotref03_Get.calls 20 A0 c0 L a 4 n 0 _ HC.out HLC.out HG.out).mono ?_; rintro x w1 ⟨rfl, ⟨nd, rfl⟩⟩)
        go_ret3
        exact ⟨rfl, _, rfl⟩
  · have hg6 : getR L a 4 = (0, 6) := if_neg hc
    have htg : textG L a = (⟨#[]⟩, 6, a) := if_neg hc
    rw [htg]
    rw [hg6] at HG
    clear hr0 hc0 hc htg hg6
    go_enter Tryd.func60, Tryd.ntmps60
    go_wp2_with (go_at_call 59; refine (depotref03_Get.calls 20 A0 c0 L a 4 0 6 _ HC.out HLC.out HG.out).mono ?_; rintro x w1 ⟨rfl, ⟨nd, rfl⟩⟩)
    go_ret3
    exact ⟨rfl, _, rfl⟩
/-- The reference's reader in block b: the bytes that came in, the position, the first error. -/
structure RrAt (w0 : World) (b : Nat) (A0 : Option Addr) (c0 : Nat) (L : List Int) (st : Nat × Int) (W : World) : Prop where
  hk : W.heap[b]? = some (.cells #[.slice A0 L.length c0, .int .i64 st.1, .int .i64 st.2] 87 (0, 0))
  ha : st.1 ≤ L.length
  hB : w0.heap.size ≤ b
  hb : Below w0.heap.size w0 W
  hC : Kd.C (Kd.int .u8) w0 A0 L.length L
  hc : L.length ≤ c0
theorem RrAt.cc {w0 : World} {b : Nat} {A0 : Option Addr} {c0 : Nat} {L : List Int} {st : Nat × Int} {W : World} (h : RrAt w0 b A0 c0 L st W) : Kd.C (Kd.int .u8) W A0 L.length L := Kd.C_below h.hC h.hb
theorem RrAt.drewN {w0 : World} {b : Nat} {A0 : Option Addr} {c0 : Nat} {L : List Int} {st : Nat × Int} {W : World} (h : RrAt w0 b A0 c0 L st W) (n : Nat) : RrAt w0 b A0 c0 L st (W.drewN n) := ⟨h.hk, h.ha, h.hB, pw_below_drewN h.hb n, h.hC, h.hc⟩
theorem RrAt.err {w0 : World} {b : Nat} {A0 : Option Addr} {c0 : Nat} {L : List Int} {st : Nat × Int} {W : World} (h : RrAt w0 b A0 c0 L st W) (e : Int) : RrAt w0 b A0 c0 L (st.1, e) (W.setCell ⟨b, 2, none⟩ (.int .i64 e)) := ⟨blk_put h.hk 2 _ rfl, h.ha, h.hB, h.hb.setCell h.hB _, h.hC, h.hc⟩
theorem RrAt.go {w0 : World} {b : Nat} {A0 : Option Addr} {c0 : Nat} {L : List Int} {st : Nat × Int} {W : World} (h : RrAt w0 b A0 c0 L st W) (a : Nat) (ha : a ≤ L.length) : RrAt w0 b A0 c0 L (a, st.2) (W.setCell ⟨b, 1, none⟩ (.int .i64 a)) := ⟨blk_put h.hk 1 _ rfl, ha, h.hB, h.hb.setCell h.hB _, h.hC, h.hc⟩
theorem textG_le (L : List Int) (a : Nat) (hL : Oct L) (ha : a ≤ L.length) : (textG L a).2.2 ≤ L.length := by
  unfold textG
  split
  · rename_i hc
    have hn0 : 0 ≤ (getR L a 4).1 := by unfold getR; rw [if_pos hc]; exact leN_lo _ (oct_cut hL a 4)
    split
    · exact ha
    · split
      · exact ha
      · show a + 4 + (getR L a 4).1.toNat ≤ L.length
        omega
  · exact ha
set_option maxHeartbeats 3200000 in
set_option maxRecDepth 100000 in
theorem rr_num (w0 : World) (b : Nat) (A0 : Option Addr) (c0 : Nat) (L : List Int) (st : Nat × Int) (wd : Nat) (lo hi : Int) (W : World) (h : RrAt w0 b A0 c0 L st W) (hL : Oct L) (hs : L.length < 1000000000) (hw : 1 ≤ wd ∧ wd ≤ 5) :
    Calls Tryd.prog 40 #[.pointer (some ⟨b, 0, none⟩), .int .i64 wd, .int .i64 lo, .int .i64 hi] W fun x w' => x = .returned (.int .i64 (numD L st wd lo hi).1) ∧ RrAt w0 b A0 c0 L (numD L st wd lo hi).2 w' ∧ W.grownBy w' (some b) := by
  obtain ⟨a, e⟩ := st
  have H := Aside0.mk h
  have k0 := blk_cell h.hk 0
  have k1 := blk_cell h.hk 1
  have k2 := blk_cell h.hk 2
  have f1 := blk_frozen h.hk 1
  have f2 := blk_frozen h.hk 2
  have ha := h.ha
  replace ha : a ≤ L.length := ha
  by_cases he : e = 0
  · subst he
    have HG := Aside0.mk (rget_f L hL a wd hw ha hs)
    have hge := getR_err L a wd
    have hz : numD L (a, 0) wd lo hi = if a + wd ≤ L.length then (if lo ≤ (getR L a wd).1 ∧ (getR L a wd).1 ≤ hi then ((getR L a wd).1, a + wd, 0) else (0, a, 5)) else (0, a, 6) := if_neg (by simp)
    rw [hz]
    have HC := Aside0.mk h.cc
    have HLC := Aside0.mk h.hc
    clear h hz
    by_cases hc : a + wd ≤ L.length
    · rw [if_pos hc]
      have hg0 := hge.2 hc
      generalize getR L a wd = gg at HG hg0 ⊢
      obtain ⟨n1, e1⟩ := gg
      try simp only at HG hg0 ⊢
      subst hg0
      have hsum : (((a + wd : Nat)) : Int) = (a : Int) + wd := by omega
      by_cases hin : lo ≤ n1 ∧ n1 ≤ hi
      · rw [if_pos hin]
        have HST := fun (nd : Nat) => RrAt.go (H.out.drewN nd) (a + wd) hc
        rw [hsum] at HST
        obtain ⟨q1, q2⟩ := hin
        have q3 : ¬ n1 < lo := by omega
        have q4 : ¬ hi < n1 := by omega
        clear hge
        go_enter Tryd.func40, Tryd.ntmps40
        go_wp2
        go_region_with (go_at_call 59; refine (depotref03_Get.calls 20 A0 c0 L a wd n1 0 _ ?hh1 HLC.out HG.out).mono ?_; (case hh1 => exact Kd.C_drewN (Kd.C_drew HC.out) 0); rintro x w1 ⟨rfl, ⟨nd, rfl⟩⟩)
        all_goals
          go_wp2_with fail
          go_ret
          exact ⟨rfl, HST _, gb_set (gb_below (pw_below_drewN (Below.refl _ _) _) b) 1 _⟩
      · rw [if_neg hin]
        have HST := fun (nd : Nat) => RrAt.err (H.out.drewN nd) 5
        clear hge hsum
        by_cases q1 : n1 < lo
        all_goals
          (try have q2 : hi < n1 := by omega)
          clear hin
          go_enter Tryd.func40, Tryd.ntmps40
          go_wp2
          go_region_with (go_at_call 59; refine (depotref03_Get.calls 20 A0 c0 L a wd n1 0 _ ?hh1 HLC.out HG.out).mono ?_; (case hh1 => exact Kd.C_drewN (Kd.C_drew HC.out) 0); rintro x w1 ⟨rfl, ⟨nd, rfl⟩⟩)
          all_goals
            go_wp2_with fail
            go_ret
            exact ⟨rfl, HST _, gb_set (gb_below (pw_below_drewN (Below.refl _ _) _) b) 2 _⟩
    · rw [if_neg hc]
      have hg6 : getR L a wd = (0, 6) := if_neg hc
      rw [hg6] at HG
      have HST := fun (nd : Nat) => RrAt.err (H.out.drewN nd) 6
      clear hge hc hg6
      go_enter Tryd.func40, Tryd.ntmps40
      go_wp2
      go_region_with (go_at_call 59; refine (depotref03_Get.calls 20 A0 c0 L a wd 0 6 _ ?hh1 HLC.out HG.out).mono ?_; (case hh1 => exact Kd.C_drewN (Kd.C_drew HC.out) 0); rintro x w1 ⟨rfl, ⟨nd, rfl⟩⟩)
      all_goals
        go_wp2_with fail
        go_ret
        exact ⟨rfl, HST _, gb_set (gb_below (pw_below_drewN (Below.refl _ _) _) b) 2 _⟩
  · have hz : numD L (a, e) wd lo hi = (0, a, e) := if_pos he
    rw [hz]
    clear h hz
    go_enter Tryd.func40, Tryd.ntmps40
    go_wp2
    go_ret
    exact ⟨rfl, H.out, gb_refl _ _⟩
set_option maxHeartbeats 3200000 in
set_option maxRecDepth 100000 in
theorem rr_text (w0 : World) (b : Nat) (A0 : Option Addr) (c0 : Nat) (L : List Int) (st : Nat × Int) (W : World) (h : RrAt w0 b A0 c0 L st W) (hL : Oct L) (hs : L.length < 1000000000) :
    Calls Tryd.prog 41 #[.pointer (some ⟨b, 0, none⟩)] W fun x w' => x = .returned (.string (textD L st).1) ∧ RrAt w0 b A0 c0 L (textD L st).2 w' ∧ W.grownBy w' (some b) := by
  obtain ⟨a, e⟩ := st
  have H := Aside0.mk h
  have k0 := blk_cell h.hk 0
  have k1 := blk_cell h.hk 1
  have k2 := blk_cell h.hk 2
  have f1 := blk_frozen h.hk 1
  have f2 := blk_frozen h.hk 2
  have ha := h.ha
  replace ha : a ≤ L.length := ha
  by_cases he : e = 0
  · subst he
    have hz : textD L (a, 0) = ((textG L a).1, (textG L a).2.2, (textG L a).2.1) := if_neg (by simp)
    rw [hz]
    have HT := fun (W : World) (hc : Kd.C (Kd.int .u8) W A0 L.length L) => ref_text A0 c0 L a W hc h.hc ha hL hs
    have HC := Aside0.mk h.cc
    have hle := textG_le L a hL ha
    generalize textG L a = gg at HT hle ⊢
    obtain ⟨s1, e1, a1⟩ := gg
    try simp only at HT hle ⊢
    have HST := fun (nd : Nat) => RrAt.err (RrAt.go (H.out.drewN nd) a1 hle) e1
    try simp only at HST
    clear h hz
    go_enter Tryd.func41, Tryd.ntmps41
    go_wp2
    go_region_with (go_at_call 60; refine (HT _ ?hh1).mono ?_; (case hh1 => exact Kd.C_drewN (Kd.C_drew HC.out) 0); rintro x w1 ⟨rfl, nd, rfl⟩)
    all_goals
      go_wp2_with fail
      go_ret
      exact ⟨rfl, HST _, gb_set (gb_set (gb_below (pw_below_drewN (Below.refl _ _) _) b) 1 _) 2 _⟩
  · have hz : textD L (a, e) = (⟨#[]⟩, a, e) := if_pos he
    rw [hz]
    clear h hz
    go_enter Tryd.func41, Tryd.ntmps41
    go_wp2
    go_ret
    exact ⟨rfl, H.out, gb_refl _ _⟩
/-- The reference's reader in a round that began at wo; beside it the reply's box, whose rows are fs and ps. -/
structure SrAt (w wo : World) (b : Nat) (A0 : Option Addr) (c0 : Nat) (L : List Int) (st : Nat × Int) (c : Array Value) (ok : Nat → Prop) (v3 : Value) (fs : List S62) (v6 : Value) (ps : List S53) (W : World) : Prop where
  rd : RrAt w b A0 c0 L st W
  s3 : W.heap[wo.heap.size]? = some (.cells c 28 (0, 0))
  gr : wo.grownBy W (some b)
  l1 : b < wo.heap.size
  r3 : Kd.R k62 62 W wo.heap.size ok v3 fs
  r6 : Kd.R k53 53 W wo.heap.size ok v6 ps
theorem RrAt.below {w0 : World} {b : Nat} {A0 : Option Addr} {c0 : Nat} {L : List Int} {st : Nat × Int} {W W' : World} (h : RrAt w0 b A0 c0 L st W) (hb : Below W.heap.size W W') : RrAt w0 b A0 c0 L st W' := ⟨blk_below h.hk hb, h.ha, h.hB, below_step h.hb hb, h.hC, h.hc⟩
theorem RrAt.lt {w0 : World} {b : Nat} {A0 : Option Addr} {c0 : Nat} {L : List Int} {st : Nat × Int} {W : World} (h : RrAt w0 b A0 c0 L st W) : b < W.heap.size := blk_lt h.hk
section
variable {w wo : World} {b : Nat} {A0 : Option Addr} {c0 : Nat} {L : List Int} {st : Nat × Int} {c : Array Value} {ok : Nat → Prop} {v3 v6 : Value} {fs : List S62} {ps : List S53} {W W' : World}
theorem SrAt.step (h : SrAt w wo b A0 c0 L st c ok v3 fs v6 ps W) (hg : W.grownBy W' (some b)) {st' : Nat × Int} (hr : RrAt w b A0 c0 L st' W') : SrAt w wo b A0 c0 L st' c ok v3 fs v6 ps W' :=
  ⟨hr, blk_grown h.s3 hg (by have := h.l1; simp; omega), h.gr.trans hg, h.l1,
    Kd.R_mono (Kd.R_grown (Kd.R_bound h.r3) hg (fun k hk e => by have := h.l1; have := hk.2.1; have := Option.some.inj e; omega)) (fun _ hk => hk.1),
    Kd.R_mono (Kd.R_grown (Kd.R_bound h.r6) hg (fun k hk e => by have := h.l1; have := hk.2.1; have := Option.some.inj e; omega)) (fun _ hk => hk.1)⟩
theorem SrAt.below (h : SrAt w wo b A0 c0 L st c ok v3 fs v6 ps W) (hb : Below W.heap.size W W') : SrAt w wo b A0 c0 L st c ok v3 fs v6 ps W' := h.step (gb_below hb b) (h.rd.below hb)
theorem SrAt.mono (h : SrAt w wo b A0 c0 L st c ok v3 fs v6 ps W) {ok' : Nat → Prop} (hk : ∀ k, k < W.heap.size → ok k → ok' k) : SrAt w wo b A0 c0 L st c ok' v3 fs v6 ps W :=
  ⟨h.rd, h.s3, h.gr, h.l1, Kd.R_mono (Kd.R_bound h.r3) (fun k q => hk k q.2.2.1 q.1), Kd.R_mono (Kd.R_bound h.r6) (fun k q => hk k q.2.2.1 q.1)⟩
theorem RrAt.set {w0 : World} (h : RrAt w0 b A0 c0 L st W) {g : Nat} (h1 : g ≠ b) (h2 : w0.heap.size ≤ g) (j : Nat) (u : Value) : RrAt w0 b A0 c0 L st (W.setCell ⟨g, j, none⟩ u) :=
  ⟨blk_far h.hk (fun e => h1 e.symm) u, h.ha, h.hB, h.hb.setCell h2 _, h.hC, h.hc⟩
theorem RrAt.le {w0 : World} (h : RrAt w0 b A0 c0 L st W) (hl : b < wo.heap.size) : w0.heap.size ≤ wo.heap.size := by have := h.hB; omega
theorem gb_put (h : wo.grownBy W (some b)) {g : Nat} (hg : wo.heap.size ≤ g) (j : Nat) (u : Value) : wo.grownBy (W.setCell ⟨g, j, none⟩ u) (some b) :=
  ⟨h.os, h.tape, h.output, by simpa [World.setCell] using h.size, fun k hk hne => (Below.heap_setCell W ⟨g, j, none⟩ u k (by show k ≠ g; omega)).trans (h.block k hk hne)⟩
theorem SrAt.put (h : SrAt w wo b A0 c0 L st c ok v3 fs v6 ps W) (j : Nat) (u : Value) {c' : Array Value} (hc : c.setIfInBounds j u = c') : SrAt w wo b A0 c0 L st c' ok v3 fs v6 ps (W.setCell ⟨wo.heap.size, j, none⟩ u) :=
  ⟨h.rd.set (by have := h.l1; omega) (h.rd.le h.l1) j u, blk_put h.s3 j u hc, gb_put h.gr (Nat.le_refl _) j u, h.l1, Kd.R_set h.r3 h.s3 (by decide) j u, Kd.R_set h.r6 h.s3 (by decide) j u⟩
theorem SrAt.box {g t : Nat} {cs : Array Value} (h : SrAt w wo b A0 c0 L st c ok v3 fs v6 ps W) (hk : W.heap[g]? = some (.cells cs t (0, 0))) (hg : wo.heap.size + 1 ≤ g) (hok : ∀ k, ok k → k ≠ g) (j : Nat) (u : Value) : SrAt w wo b A0 c0 L st c ok v3 fs v6 ps (W.setCell ⟨g, j, none⟩ u) :=
  ⟨h.rd.set (by have := h.l1; omega) (by have := h.rd.le h.l1; omega) j u, blk_far h.s3 (by show wo.heap.size ≠ g; omega) u, gb_put h.gr (by omega) j u, h.l1, Kd.R_far h.r3 (p := ⟨g, j, none⟩) hok u, Kd.R_far h.r6 (p := ⟨g, j, none⟩) hok u⟩
theorem RrAt.over {w0 : World} (h : RrAt w0 b A0 c0 L st W) {B : Nat} {row : Option Nat} (hg : W.grownBy W' row) (hne : some b ≠ row) (hb : Below B W W') (hB : w0.heap.size ≤ B) : RrAt w0 b A0 c0 L st W' :=
  ⟨blk_grown h.hk hg hne, h.ha, h.hB, h.hb.trans ⟨hb.os, hb.tape, hb.output, hb.size, fun k hk => hb.block k (by omega)⟩, h.hC, h.hc⟩
theorem gb_over (h : wo.grownBy W (some b)) (hb : Below wo.heap.size W W') : wo.grownBy W' (some b) := ⟨hb.os.trans h.os, hb.tape.trans h.tape, hb.output.trans h.output, Nat.le_trans h.size hb.size, fun k hk hne => (hb.block k hk).trans (h.block k hk hne)⟩
theorem SrAt.app3 (h : SrAt w wo b A0 c0 L st c ok v3 fs v6 ps W) (hg : W.grownBy W' v3.ownBlock) (hb : Below wo.heap.size W W') {v3' : Value} {fs' : List S62} (hr : Kd.R k62 62 W' wo.heap.size ok v3' fs') : SrAt w wo b A0 c0 L st c ok v3' fs' v6 ps W' :=
  ⟨h.rd.over hg (Kd.R_ne h.r3 h.rd.hk (by decide)) hb (h.rd.le h.l1), blk_grown h.s3 hg (Kd.R_ne h.r3 h.s3 (by decide)), gb_over h.gr hb, h.l1, hr, Kd.R_over' h.r6 (Kd.R_typed h.r3) (by decide) hg⟩
theorem SrAt.app6 (h : SrAt w wo b A0 c0 L st c ok v3 fs v6 ps W) (hg : W.grownBy W' v6.ownBlock) (hb : Below wo.heap.size W W') {v6' : Value} {ps' : List S53} (hr : Kd.R k53 53 W' wo.heap.size ok v6' ps') : SrAt w wo b A0 c0 L st c ok v3 fs v6' ps' W' :=
  ⟨h.rd.over hg (Kd.R_ne h.r6 h.rd.hk (by decide)) hb (h.rd.le h.l1), blk_grown h.s3 hg (Kd.R_ne h.r6 h.s3 (by decide)), gb_over h.gr hb, h.l1, Kd.R_over' h.r3 (Kd.R_typed h.r6) (by decide) hg, hr⟩
theorem SrAt.num (h : SrAt w wo b A0 c0 L st c ok v3 fs v6 ps W) (wd : Nat) (lo hi : Int) (hL : Oct L) (hs : L.length < 1000000000) (hw : 1 ≤ wd ∧ wd ≤ 5) (r : Int × Nat × Int) (hr : numD L st wd lo hi = r) :
    Calls Tryd.prog 40 #[.pointer (some ⟨b, 0, none⟩), .int .i64 wd, .int .i64 lo, .int .i64 hi] W fun x w' => x = .returned (.int .i64 r.1) ∧ SrAt w wo b A0 c0 L r.2 c ok v3 fs v6 ps w' ∧ W.grownBy w' (some b) := by
  subst hr
  exact (rr_num w b A0 c0 L st wd lo hi W h.rd hL hs hw).mono fun x w' ⟨h1, h2, h3⟩ => ⟨h1, h.step h3 h2, h3⟩
theorem SrAt.text (h : SrAt w wo b A0 c0 L st c ok v3 fs v6 ps W) (hL : Oct L) (hs : L.length < 1000000000) (r : ByteArray × Nat × Int) (hr : textD L st = r) :
    Calls Tryd.prog 41 #[.pointer (some ⟨b, 0, none⟩)] W fun x w' => x = .returned (.string r.1) ∧ SrAt w wo b A0 c0 L r.2 c ok v3 fs v6 ps w' ∧ W.grownBy w' (some b) := by
  subst hr
  exact (rr_text w b A0 c0 L st W h.rd hL hs).mono fun x w' ⟨h1, h2, h3⟩ => ⟨h1, h.step h3 h2, h3⟩
end
theorem R_storedr {b : Nat} {W W' : World} {base : Nat} {ok : Nat → Prop} {v : Value} {xs : List S28} {cs : Array Value} (h : Kd.R k28 28 W base ok v xs) (hk : W.heap[b]? = some (.cells cs 87 (0, 0))) (hg : W.grownBy W' (some b)) : Kd.R k28 28 W' base ok v xs :=
  Kd.R_mono (Kd.R_grown (Kd.R_types h hk (by show ∀ q, q ∈ [28, 62, 53] → _; decide)) hg (fun k hk e => hk.2 (Option.some.inj e))) (fun _ hk => hk.1)
def depotref20_Decode.f (l0 : List Int) : Option (List S28 × Int) := variant_Decode.f l0
set_option maxHeartbeats 25600000 in
set_option maxRecDepth 100000 in
theorem depotref20_Decode.calls (A0 : Option Addr) (c0 : Nat) (l0 : List Int) (r1 : List S28) (r2 : Int) (w : World) (hr0 : Kd.C (Kd.int .u8) w A0 l0.length l0) (hc0 : l0.length ≤ c0) (h : depotref20_Decode.f l0 = some (r1, r2)) :
    Calls Tryd.prog 22 #[.slice A0 l0.length c0] w fun e w' => ∃ v0_ : Value, e = .returned (.tuple #[v0_, .int .i64 r2]) ∧ Kd.R k28 28 w' w.heap.size (fun _ => True) v0_ r1 ∧ Below w.heap.size w w' := by
  unfold depotref20_Decode.f variant_Decode.f at h
  split at h
  case isFalse => cases h
  case isTrue hh =>
  obtain ⟨hs, hL⟩ := hh
  replace hL : Oct l0 := hL
  have hres : decodeE l0 (decodeD l0) = (r1, r2) := Option.some.inj h
  have HR0 := Aside0.mk hr0
  clear h hr0
  obtain ⟨z1, hz1⟩ : ∃ z, numD l0 (0, 0) 1 0 4 = z := ⟨_, rfl⟩
  obtain ⟨z2, hz2⟩ : ∃ z, manyD (storedD l0) z1.1.toNat z1.2 = z := ⟨_, rfl⟩
  rw [show decodeD l0 = z2 by rw [← hz2, ← hz1]; rfl] at hres
  have hn1 := numD_in l0 (0, 0) 1 4 0 (by decide) (by decide)
  rw [hz1] at hn1
  obtain ⟨n1, hn1e⟩ := Int.eq_ofNat_of_zero_le hn1.1
  rw [hn1e] at hz2
  rw [Int.toNat_natCast] at hz2
  have hn1b : n1 ≤ 4 := by omega
  have HN1 := Aside0.mk hn1e
  have HRES := Aside0.mk hres
  have Z1 := Aside0.mk hz1
  have Z2 := Aside0.mk hz2
  clear hn1 hn1e hz1 hz2 hres
  go_enter Tryd.func22, Tryd.ntmps22
  go_wp2_with (first | ((with_reducible refine gate_dst (N := 17) rfl ?_); refine box_event ?hg (N := 17) ?hd (cs := #[.slice A0 l0.length c0, .int .i64 0, .int .i64 0]) (t := 87) ?hr ?_; (case hd => rfl); (case hg => rfl); (case hr => first | (go_simp; done) | (go_simp; rfl)); intro b hgb w5 hbox hb; have V1 : Aside0 (RrAt w b A0 c0 l0 (0, 0) w5) := ⟨hbox, Nat.zero_le _, by omega, hb, HR0.out, hc0⟩; clear hbox hb hgb) | (go_at_call 40; refine (rr_num w b A0 c0 l0 (0, 0) 1 0 4 _ V1.out hL hs (by decide)).mono ?_; rintro x w6 ⟨rfl, hv, hg⟩; rw [Z1.out] at hv ⊢; rw [HN1.out]; have V2 := Aside0.mk hv; clear V1 hv hg))
  go_loopw [5, 7] (fun v5 v7 wx => ∃ (i : Nat) (A : Option Addr) (c : Nat) (acc : List S28) (stk : Nat × Int), v7 = .int .i64 i ∧ v5 = .slice A acc.length c ∧ i ≤ n1 ∧ acc.length ≤ i ∧ Aside0 (RrAt w b A0 c0 l0 stk wx) ∧ Aside0 (Kd.R k28 28 wx w.heap.size (fun _ => True) (.slice A acc.length c) acc) ∧ Aside0 (z2 = (acc ++ (manyD (storedD l0) (n1 - i) stk).1, (manyD (storedD l0) (n1 - i) stk).2))) (fun _ v7 _ => n1 - (intOf v7).toNat)
  case atStart => exact ⟨0, none, 0, [], z1.2, rfl, rfl, Nat.zero_le _, Nat.le_refl _, V2, ⟨Kd.R_nil _ _ _ _ _⟩, ⟨by rw [← Z2.out]; rfl⟩⟩
  case round =>
    clear V2 Z2
    obtain ⟨wo, rfl⟩ : ∃ wo : World, wo = wr := ⟨_, rfl⟩
    obtain ⟨i, A, c, acc, stk, rfl, rfl, hi, hai, VR, HO, ZR⟩ := hrel
    obtain ⟨sa, se⟩ := stk
    have k2 := blk_cell VR.out.hk 2
    try simp only at k2
    by_cases hgo : i < n1 ∧ se = 0
    · obtain ⟨hi0, he0⟩ := hgo
      subst he0
      have zr := ZR.out
      rw [show n1 - i = (n1 - (i + 1)) + 1 by omega, many_go _ _ _ rfl] at zr
      obtain ⟨z1, hz1⟩ : ∃ z, numD l0 (sa, 0) 5 0 253402300799 = z := ⟨_, rfl⟩
      obtain ⟨z2', hz2⟩ : ∃ z, numD l0 z1.2 2 200 599 = z := ⟨_, rfl⟩
      obtain ⟨z3, hz3⟩ : ∃ z, numD l0 z2'.2 1 0 1 = z := ⟨_, rfl⟩
      obtain ⟨z4, hz4⟩ : ∃ z, textD l0 z3.2 = z := ⟨_, rfl⟩
      obtain ⟨z5, hz5⟩ : ∃ z, numD l0 z4.2 1 0 64 = z := ⟨_, rfl⟩
      obtain ⟨z6, hz6⟩ : ∃ z, manyD (fieldD l0) z5.1.toNat z5.2 = z := ⟨_, rfl⟩
      obtain ⟨z7, hz7⟩ : ∃ z, textD l0 z6.2 = z := ⟨_, rfl⟩
      obtain ⟨z8, hz8⟩ : ∃ z, numD l0 z7.2 1 0 64 = z := ⟨_, rfl⟩
      obtain ⟨z9, hz9⟩ : ∃ z, manyD (pickD l0) z8.1.toNat z8.2 = z := ⟨_, rfl⟩
      have hfin : storedD l0 (sa, 0) = (⟨⟨z2'.1, z4.1, z3.1, z6.1, z7.1⟩, z1.1, z9.1⟩, z9.2) := by rw [← hz9, ← hz8, ← hz7, ← hz6, ← hz5, ← hz4, ← hz3, ← hz2, ← hz1]; rfl
      rw [hfin] at zr
      have ZR2 := Aside0.mk zr
      have hn5 := numD_in l0 z4.2 1 64 0 (by decide) (by decide)
      have hn8 := numD_in l0 z7.2 1 64 0 (by decide) (by decide)
      rw [hz5] at hn5
      rw [hz8] at hn8
      have Y1 := Aside0.mk hz1
      have Y2 := Aside0.mk hz2
      have Y3 := Aside0.mk hz3
      have Y4 := Aside0.mk hz4
      have Y5 := Aside0.mk hz5
      have Y6 := Aside0.mk hz6
      have Y7 := Aside0.mk hz7
      have Y8 := Aside0.mk hz8
      have Y9 := Aside0.mk hz9
      have hlt : ∀ k, (Value.slice A acc.length c).ownBlock = some k → k < wo.heap.size := by
        obtain ⟨inner, ho⟩ := Kd.R_own HO.out
        exact own_lt ho
      have hbl := VR.out.lt
      clear hfin hz1 hz2 hz3 hz4 hz5 hz6 hz7 hz8 hz9 zr ZR
      go_upto_region 8 with (fail)
      have hb1 := Hand.alloc_below wo (.cells #[.int .i64 0, .string ⟨#[]⟩, .int .i64 0, .slice none 0 0, .string ⟨#[]⟩, .int .i64 0, .slice none 0 0] 28)
      have S0 : Aside0 (SrAt w wo b A0 c0 l0 (sa, 0) #[.int .i64 0, .string ⟨#[]⟩, .int .i64 0, .slice none 0 0, .string ⟨#[]⟩, .int .i64 0, .slice none 0 0] (fun _ => True) (.slice none 0 0) [] (.slice none 0 0) [] (wo.alloc (.cells #[.int .i64 0, .string ⟨#[]⟩, .int .i64 0, .slice none 0 0, .string ⟨#[]⟩, .int .i64 0, .slice none 0 0] 28))) := ⟨VR.out.below hb1, blk_new wo (.cells #[.int .i64 0, .string ⟨#[]⟩, .int .i64 0, .slice none 0 0, .string ⟨#[]⟩, .int .i64 0, .slice none 0 0] 28), gb_below hb1 b, hbl, Kd.R_nil _ _ _ _ _, Kd.R_nil _ _ _ _ _⟩
      clear hb1
      generalize wo.alloc (.cells #[.int .i64 0, .string ⟨#[]⟩, .int .i64 0, .slice none 0 0, .string ⟨#[]⟩, .int .i64 0, .slice none 0 0] 28) = W0 at S0 ⊢
      go_upto_region 9 with (go_at_call 40; refine (SrAt.num S0.out 5 0 253402300799 hL hs (by decide) z1 Y1.out).mono ?_; rintro r w2 ⟨rfl, hq, _⟩; have T1 := Aside0.mk hq; have c5 := blk_cell hq.s3 5; have f5 := blk_frozen hq.s3 5; clear hq)
      have S1 := Aside0.mk (T1.out.put 5 (.int .i64 z1.1) (c' := #[.int .i64 0, .string ⟨#[]⟩, .int .i64 0, .slice none 0 0, .string ⟨#[]⟩, .int .i64 z1.1, .slice none 0 0]) rfl)
      clear T1 c5 f5 S0
      generalize w2.setCell ⟨wo.heap.size, 5, none⟩ (.int .i64 z1.1) = W1 at S1 ⊢
      go_upto_region 10 with (go_at_call 40; refine (SrAt.num S1.out 2 200 599 hL hs (by decide) z2' Y2.out).mono ?_; rintro r w2 ⟨rfl, hq, _⟩; have T1 := Aside0.mk hq; have c5 := blk_cell hq.s3 0; have f5 := blk_frozen hq.s3 0; clear hq)
      have S2 := Aside0.mk (T1.out.put 0 (.int .i64 z2'.1) (c' := #[.int .i64 z2'.1, .string ⟨#[]⟩, .int .i64 0, .slice none 0 0, .string ⟨#[]⟩, .int .i64 z1.1, .slice none 0 0]) rfl)
      clear T1 c5 f5 S1
      generalize w2.setCell ⟨wo.heap.size, 0, none⟩ (.int .i64 z2'.1) = W2 at S2 ⊢
      go_upto_region 11 with (go_at_call 40; refine (SrAt.num S2.out 1 0 1 hL hs (by decide) z3 Y3.out).mono ?_; rintro r w2 ⟨rfl, hq, _⟩; have T1 := Aside0.mk hq; have c5 := blk_cell hq.s3 2; have f5 := blk_frozen hq.s3 2; clear hq)
      have S3 := Aside0.mk (T1.out.put 2 (.int .i64 z3.1) (c' := #[.int .i64 z2'.1, .string ⟨#[]⟩, .int .i64 z3.1, .slice none 0 0, .string ⟨#[]⟩, .int .i64 z1.1, .slice none 0 0]) rfl)
      clear T1 c5 f5 S2
      generalize w2.setCell ⟨wo.heap.size, 2, none⟩ (.int .i64 z3.1) = W3 at S3 ⊢
      go_upto_region 12 with (go_at_call 41; refine (SrAt.text S3.out hL hs z4 Y4.out).mono ?_; rintro r w2 ⟨rfl, hq, _⟩; have T1 := Aside0.mk hq; have c5 := blk_cell hq.s3 1; have f5 := blk_frozen hq.s3 1; clear hq)
      have S4 := Aside0.mk (T1.out.put 1 (.string z4.1) (c' := #[.int .i64 z2'.1, .string z4.1, .int .i64 z3.1, .slice none 0 0, .string ⟨#[]⟩, .int .i64 z1.1, .slice none 0 0]) rfl)
      clear T1 c5 f5 S3
      generalize w2.setCell ⟨wo.heap.size, 1, none⟩ (.string z4.1) = W4 at S4 ⊢
      obtain ⟨n5, hn5e⟩ := Int.eq_ofNat_of_zero_le hn5.1
      have Y6' : Aside0 (manyD (fieldD l0) n5 z5.2 = z6) := by have := Y6.out; rw [hn5e] at this; exact ⟨this⟩
      have hn5b : n5 ≤ 64 := by omega
      have HN5 := Aside0.mk hn5e
      clear hn5e hn5 Y6
      go_wp2_with (go_at_call 40; refine (SrAt.num S4.out 1 0 64 hL hs (by decide) z5 Y5.out).mono ?_; rintro r w2 ⟨rfl, hq, _⟩; rw [HN5.out]; have S5 := Aside0.mk hq; clear hq S4)
      go_loopw [10] (fun v10 wx => ∃ (k : Nat) (A3 : Option Addr) (c3 : Nat) (acf : List S62) (stf : Nat × Int), v10 = .int .i64 k ∧ k ≤ n5 ∧ acf.length ≤ k ∧ Aside0 (SrAt w wo b A0 c0 l0 stf #[.int .i64 z2'.1, .string z4.1, .int .i64 z3.1, .slice A3 acf.length c3, .string ⟨#[]⟩, .int .i64 z1.1, .slice none 0 0] (fun _ => True) (.slice A3 acf.length c3) acf (.slice none 0 0) [] wx) ∧ Aside0 (z6 = (acf ++ (manyD (fieldD l0) (n5 - k) stf).1, (manyD (fieldD l0) (n5 - k) stf).2))) (fun v10 _ => n5 - (intOf v10).toNat)
      case atStart => exact ⟨0, none, 0, [], z5.2, rfl, Nat.zero_le _, Nat.le_refl _, S5, ⟨by rw [← Y6'.out]; rfl⟩⟩
      case round =>
        clear S5 Y6'
        obtain ⟨k, A3, c3, acf, stf, rfl, hk, hak, SR, ZF⟩ := hrel
        obtain ⟨fa, fe⟩ := stf
        have k2 := blk_cell SR.out.rd.hk 2
        try simp only at k2
        by_cases hgo : k < n5 ∧ fe = 0
        · obtain ⟨hk0, he0⟩ := hgo
          subst he0
          have zr := ZF.out
          rw [show n5 - k = (n5 - (k + 1)) + 1 by omega, many_go _ _ _ rfl] at zr
          obtain ⟨y1, hy1⟩ : ∃ z, textD l0 (fa, 0) = z := ⟨_, rfl⟩
          obtain ⟨y2, hy2⟩ : ∃ z, textD l0 y1.2 = z := ⟨_, rfl⟩
          have hfd : fieldD l0 (fa, 0) = (⟨y1.1, y2.1⟩, y2.2) := by rw [← hy2, ← hy1]; rfl
          rw [hfd] at zr
          have ZF2 := Aside0.mk zr
          have X1 := Aside0.mk hy1
          have X2 := Aside0.mk hy2
          clear zr hfd hy1 hy2 ZF
          go_upto_region 17 with (fail)
          have hbx := blk_new wr (.cells #[.string ⟨#[]⟩, .string ⟨#[]⟩] 62)
          have hge : wo.heap.size + 1 ≤ wr.heap.size := by have := blk_lt SR.out.s3; omega
          have S1 := Aside0.mk ((SR.out.mono (ok' := fun k => k ≠ wr.heap.size) (fun k hk _ => by omega)).below (Hand.alloc_below wr (.cells #[.string ⟨#[]⟩, .string ⟨#[]⟩] 62)))
          clear SR k2
          generalize wr.alloc (.cells #[.string ⟨#[]⟩, .string ⟨#[]⟩] 62) = wA at hbx S1 ⊢
          generalize wr.heap.size = g5 at hbx S1 hge ⊢
          have HBX := Aside0.mk hbx
          clear hbx
          go_upto_region 18 with (go_at_call 41; refine (SrAt.text S1.out hL hs y1 X1.out).mono ?_; rintro r w2 ⟨rfl, hq, hg⟩; have S2 := Aside0.mk hq; have HB2 := Aside0.mk (blk_grown HBX.out hg (by simp; omega)); have c5 := blk_cell HB2.out 0; have f5 := blk_frozen HB2.out 0; clear hq hg S1 HBX)
          have S3 := Aside0.mk (S2.out.box HB2.out hge (fun _ h => h) 0 (.string y1.1))
          have HB3 := Aside0.mk (blk_put HB2.out 0 (.string y1.1) (cs' := #[.string y1.1, .string ⟨#[]⟩]) rfl)
          clear S2 HB2 c5 f5
          generalize w2.setCell ⟨g5, 0, none⟩ (.string y1.1) = wB at S3 HB3 ⊢
          go_upto_region 19 with (go_at_call 41; refine (SrAt.text S3.out hL hs y2 X2.out).mono ?_; rintro r w3 ⟨rfl, hq, hg⟩; have S4 := Aside0.mk hq; have HB4 := Aside0.mk (blk_grown HB3.out hg (by simp; omega)); have c5 := blk_cell HB4.out 1; have f5 := blk_frozen HB4.out 1; clear hq hg S3 HB3)
          have S5 := Aside0.mk (S4.out.box HB4.out hge (fun _ h => h) 1 (.string y2.1))
          have HB5 := Aside0.mk (blk_put HB4.out 1 (.string y2.1) (cs' := #[.string y1.1, .string y2.1]) rfl)
          clear S4 HB4 c5 f5
          generalize w3.setCell ⟨g5, 1, none⟩ (.string y2.1) = wC at S5 HB5 ⊢
          have b0 := blk_cell HB5.out 0
          have b1 := blk_cell HB5.out 1
          have c5 := blk_cell S5.out.s3 3
          have S6 := Aside0.mk (S5.out.mono (ok' := fun _ => True) (fun _ _ _ => trivial))
          clear S5 HB5
          have HR := Aside0.mk S6.out.r3
          have HS3 : wo.heap.size ≤ wC.heap.size := S6.out.gr.size
          go_wp2_with (at_builtin; go_loud (refine Kd.R_append k62 (w0 := wC) wo.heap.size rfl (.tmp 69) (.tmp 71) 23 62 (.agg #[(.string ⟨#[]⟩), (.string ⟨#[]⟩)]) 32 rfl Tryd.underlying23 fields_info rfl (by decide) (by omega) (.slice A3 acf.length c3) acf ⟨y1.1, y2.1⟩ [.string y1.1, .string y2.1] (fun _ => True) (fun _ => False) rfl rfl ?aP (fun _ hk => hk.elim) ?aF ?aO ?aB ?aS ?aL ?_); (case aP => exact k62_mkM _ _ _ _); (case aB => exact Below.refl _ _); (case aF => exact (fun _ _ => trivial)); (case aO => exact HR.out); (case aS => exact HS3); (case aL => omega); intro v2 w4 ho hb hg hat; obtain ⟨A9, c9, rfl⟩ := Kd.R_slice ho; have S7 := Aside0.mk (S6.out.app3 hg hb ho); have c7 := blk_cell S7.out.s3 3; have f7 := blk_frozen S7.out.s3 3; clear S6 HR ho hb hg hat)
          refine ⟨⟨k + 1, A9, c9, acf ++ [⟨y1.1, y2.1⟩], y2.2, by go_num, by omega, by simp; omega, ⟨?_⟩, ⟨?_⟩⟩, by simp [intOf] <;> omega⟩
          · have q := S7.out
            have hl9 : (acf ++ [(⟨y1.1, y2.1⟩ : S62)]).length = acf.length + 1 := by simp
            rw [hl9] at q ⊢
            exact q.put 3 _ rfl
          · rw [List.append_assoc]; exact ZF2.out
        · have hz6 : z6 = (acf, (fa, fe)) := by
            have hz : n5 - k = 0 ∨ (fa, fe).2 ≠ 0 := by by_cases e : fe = 0; (exact .inl (by omega)); (exact .inr e)
            have h9 := ZF.out
            rw [many_err _ _ _ hz] at h9
            simpa using h9
          have Y7' : Aside0 (textD l0 (fa, fe) = z7) := ⟨by have := Y7.out; rw [hz6] at this; exact this⟩
          have HZ6 := Aside0.mk hz6
          clear hz6 Y7 ZF
          by_cases hk0 : k < n5
          all_goals
            (try have he0 : ¬ fe = 0 := fun e => hgo ⟨hk0, e⟩)
            (try have he1 : (fe == 0) = false := beq_false_of_ne he0)
            clear hgo
            go_upto_region 21 with (go_at_call 41; refine (SrAt.text SR.out hL hs z7 Y7'.out).mono ?_; rintro r w5 ⟨rfl, hq, _⟩; have T1 := Aside0.mk hq; have c5 := blk_cell hq.s3 4; have f5 := blk_frozen hq.s3 4; clear hq SR)
            have S1 := Aside0.mk (T1.out.put 4 (.string z7.1) (c' := #[.int .i64 z2'.1, .string z4.1, .int .i64 z3.1, .slice A3 acf.length c3, .string z7.1, .int .i64 z1.1, .slice none 0 0]) rfl)
            clear T1 c5 f5 k2
            (try clear he0 he1)
            generalize w5.setCell ⟨wo.heap.size, 4, none⟩ (.string z7.1) = W5 at S1 ⊢
            obtain ⟨n8, hn8e⟩ := Int.eq_ofNat_of_zero_le hn8.1
            have Y9' : Aside0 (manyD (pickD l0) n8 z8.2 = z9) := by have := Y9.out; rw [hn8e] at this; exact ⟨this⟩
            have hn8b : n8 ≤ 64 := by omega
            have HN8 := Aside0.mk hn8e
            clear hn8e hn8 Y9
            go_wp2_with (go_at_call 40; refine (SrAt.num S1.out 1 0 64 hL hs (by decide) z8 Y8.out).mono ?_; rintro r w2 ⟨rfl, hq, _⟩; rw [HN8.out]; have S2 := Aside0.mk hq; clear hq S1)
            go_loopw [13] (fun v13 wx => ∃ (kk : Nat) (A6 : Option Addr) (c6 : Nat) (acd : List S53) (stp : Nat × Int), v13 = .int .i64 kk ∧ kk ≤ n8 ∧ acd.length ≤ kk ∧ Aside0 (SrAt w wo b A0 c0 l0 stp #[.int .i64 z2'.1, .string z4.1, .int .i64 z3.1, .slice A3 acf.length c3, .string z7.1, .int .i64 z1.1, .slice A6 acd.length c6] (fun _ => True) (.slice A3 acf.length c3) acf (.slice A6 acd.length c6) acd wx) ∧ Aside0 (z9 = (acd ++ (manyD (pickD l0) (n8 - kk) stp).1, (manyD (pickD l0) (n8 - kk) stp).2))) (fun v13 _ => n8 - (intOf v13).toNat)
            case atStart => exact ⟨0, none, 0, [], z8.2, rfl, Nat.zero_le _, Nat.le_refl _, S2, ⟨by rw [← Y9'.out]; rfl⟩⟩
            case round =>
              clear S2 Y9'
              obtain ⟨kk, A6, c6, acd, stp, rfl, hkk, hakk, SR, ZP⟩ := hrel
              obtain ⟨pa, pe⟩ := stp
              have k2 := blk_cell SR.out.rd.hk 2
              try simp only at k2
              by_cases hgp : kk < n8 ∧ pe = 0
              · obtain ⟨hkk0, he0⟩ := hgp
                subst he0
                have zr := ZP.out
                rw [show n8 - kk = (n8 - (kk + 1)) + 1 by omega, many_go _ _ _ rfl] at zr
                obtain ⟨y1, hy1⟩ : ∃ z, textD l0 (pa, 0) = z := ⟨_, rfl⟩
                obtain ⟨y2, hy2⟩ : ∃ z, numD l0 y1.2 1 0 1 = z := ⟨_, rfl⟩
                obtain ⟨y3, hy3⟩ : ∃ z, textD l0 y2.2 = z := ⟨_, rfl⟩
                have hfd : pickD l0 (pa, 0) = (⟨y1.1, y2.1 == 1, y3.1⟩, y3.2) := by rw [← hy3, ← hy2, ← hy1]; unfold pickD; rw [hasD_num _ _ hL]
                rw [hfd] at zr
                have ZP2 := Aside0.mk zr
                have X1 := Aside0.mk hy1
                have X2 := Aside0.mk hy2
                have X3 := Aside0.mk hy3
                clear zr hfd hy1 hy2 hy3 ZP
                go_upto_region 26 with (fail)
                have hbx := blk_new wr (.cells #[.string ⟨#[]⟩, .bool false, .string ⟨#[]⟩] 53)
                have hge : wo.heap.size + 1 ≤ wr.heap.size := by have := blk_lt SR.out.s3; omega
                have S1 := Aside0.mk ((SR.out.mono (ok' := fun k => k ≠ wr.heap.size) (fun k hk _ => by omega)).below (Hand.alloc_below wr (.cells #[.string ⟨#[]⟩, .bool false, .string ⟨#[]⟩] 53)))
                clear SR k2
                generalize wr.alloc (.cells #[.string ⟨#[]⟩, .bool false, .string ⟨#[]⟩] 53) = wA at hbx S1 ⊢
                generalize wr.heap.size = g5 at hbx S1 hge ⊢
                have HBX := Aside0.mk hbx
                clear hbx
                go_upto_region 27 with (go_at_call 41; refine (SrAt.text S1.out hL hs y1 X1.out).mono ?_; rintro r w2 ⟨rfl, hq, hg⟩; have S2 := Aside0.mk hq; have HB2 := Aside0.mk (blk_grown HBX.out hg (by simp; omega)); have c5 := blk_cell HB2.out 0; have f5 := blk_frozen HB2.out 0; clear hq hg S1 HBX)
                have S3 := Aside0.mk (S2.out.box HB2.out hge (fun _ h => h) 0 (.string y1.1))
                have HB3 := Aside0.mk (blk_put HB2.out 0 (.string y1.1) (cs' := #[.string y1.1, .bool false, .string ⟨#[]⟩]) rfl)
                clear S2 HB2 c5 f5
                generalize w2.setCell ⟨g5, 0, none⟩ (.string y1.1) = wB at S3 HB3 ⊢
                go_upto_region 28 with (go_at_call 40; refine (SrAt.num S3.out 1 0 1 hL hs (by decide) y2 X2.out).mono ?_; rintro r w3 ⟨rfl, hq, hg⟩; have S4 := Aside0.mk hq; have HB4 := Aside0.mk (blk_grown HB3.out hg (by simp; omega)); have c5 := blk_cell HB4.out 1; have f5 := blk_frozen HB4.out 1; clear hq hg S3 HB3)
                have S5 := Aside0.mk (S4.out.box HB4.out hge (fun _ h => h) 1 (.bool (y2.1 == 1)))
                have HB5 := Aside0.mk (blk_put HB4.out 1 (.bool (y2.1 == 1)) (cs' := #[.string y1.1, .bool (y2.1 == 1), .string ⟨#[]⟩]) rfl)
                clear S4 HB4 c5 f5
                generalize w3.setCell ⟨g5, 1, none⟩ (.bool (y2.1 == 1)) = wC at S5 HB5 ⊢
                go_upto_region 29 with (go_at_call 41; refine (SrAt.text S5.out hL hs y3 X3.out).mono ?_; rintro r w6 ⟨rfl, hq, hg⟩; have S6 := Aside0.mk hq; have HB6 := Aside0.mk (blk_grown HB5.out hg (by simp; omega)); have c5 := blk_cell HB6.out 2; have f5 := blk_frozen HB6.out 2; clear hq hg S5 HB5)
                have S7 := Aside0.mk (S6.out.box HB6.out hge (fun _ h => h) 2 (.string y3.1))
                have HB7 := Aside0.mk (blk_put HB6.out 2 (.string y3.1) (cs' := #[.string y1.1, .bool (y2.1 == 1), .string y3.1]) rfl)
                clear S6 HB6 c5 f5
                generalize w6.setCell ⟨g5, 2, none⟩ (.string y3.1) = wD at S7 HB7 ⊢
                have b0 := blk_cell HB7.out 0
                have b1 := blk_cell HB7.out 1
                have b2 := blk_cell HB7.out 2
                have c5 := blk_cell S7.out.s3 6
                have S8 := Aside0.mk (S7.out.mono (ok' := fun _ => True) (fun _ _ _ => trivial))
                clear S7 HB7
                have HR := Aside0.mk S8.out.r6
                have HS3 : wo.heap.size ≤ wD.heap.size := S8.out.gr.size
                generalize (y2.1 == 1) = yb at *
                go_wp2_with (at_builtin; go_loud (refine Kd.R_append k53 (w0 := wD) wo.heap.size rfl (.tmp 104) (.tmp 106) 26 53 (.agg #[(.string ⟨#[]⟩), (.bool false), (.string ⟨#[]⟩)]) 40 rfl Tryd.underlying26 picks_info rfl (by decide) (by omega) (.slice A6 acd.length c6) acd ⟨y1.1, yb, y3.1⟩ [.string y1.1, .bool yb, .string y3.1] (fun _ => True) (fun _ => False) rfl rfl ?aP (fun _ hk => hk.elim) ?aF ?aO ?aB ?aS ?aL ?_); (case aP => exact k53_mkM _ _ _ _); (case aB => exact Below.refl _ _); (case aF => exact (fun _ _ => trivial)); (case aO => exact HR.out); (case aS => exact HS3); (case aL => omega); intro v2 w4 ho hb hg hat; obtain ⟨A9, c9, rfl⟩ := Kd.R_slice ho; have S9 := Aside0.mk (S8.out.app6 hg hb ho); have c7 := blk_cell S9.out.s3 6; have f7 := blk_frozen S9.out.s3 6; clear S8 HR ho hb hg hat)
                refine ⟨⟨kk + 1, A9, c9, acd ++ [⟨y1.1, yb, y3.1⟩], y3.2, by go_num, by omega, by simp; omega, ⟨?_⟩, ⟨?_⟩⟩, by simp [intOf] <;> omega⟩
                · have q := S9.out
                  have hl9 : (acd ++ [(⟨y1.1, yb, y3.1⟩ : S53)]).length = acd.length + 1 := by simp
                  rw [hl9] at q ⊢
                  exact q.put 6 _ rfl
                · rw [List.append_assoc]; exact ZP2.out
              · have hz9 : z9 = (acd, (pa, pe)) := by
                  have hz : n8 - kk = 0 ∨ (pa, pe).2 ≠ 0 := by by_cases e : pe = 0; (exact .inl (by omega)); (exact .inr e)
                  have h9 := ZP.out
                  rw [many_err _ _ _ hz] at h9
                  simpa using h9
                have HZ9 := Aside0.mk hz9
                clear hz9 ZP
                by_cases hkk0 : kk < n8
                all_goals
                  (try have he0 : ¬ pe = 0 := fun e => hgp ⟨hkk0, e⟩)
                  (try have he1 : (pe == 0) = false := beq_false_of_ne he0)
                  clear hgp
                  go_upto_region 30 with (fail)
                  have d0 := blk_cell SR.out.s3 0
                  have d1 := blk_cell SR.out.s3 1
                  have d2 := blk_cell SR.out.s3 2
                  have d3 := blk_cell SR.out.s3 3
                  have d4 := blk_cell SR.out.s3 4
                  have d5 := blk_cell SR.out.s3 5
                  have d6 := blk_cell SR.out.s3 6
                  (try clear he0 he1)
                  clear k2
                  have HO2 := Aside0.mk (R_storedr HO.out VR.out.hk SR.out.gr)
                  have HM := Aside0.mk (k28_mkM wr w.heap.size (fun k => True ∧ some k ≠ (Value.slice A acc.length c).ownBlock) ⟨⟨z2'.1, z4.1, z3.1, acf, z7.1⟩, z1.1, acd⟩ (Kd.R_lower (Kd.R_new' SR.out.r3 hlt) VR.out.hb.size) (Kd.R_lower (Kd.R_new' SR.out.r6 hlt) VR.out.hb.size))
                  have HBL := Aside0.mk SR.out.rd.hb
                  have HRD := Aside0.mk SR.out.rd
                  go_wp2_with (at_builtin; go_loud (refine Kd.R_append k28 (w0 := w) w.heap.size rfl (.tmp 109) (.tmp 111) 22 28 (.agg #[(.int .i64 0), (.string ⟨#[]⟩), (.int .i64 0), (.slice none 0 0), (.string ⟨#[]⟩), (.int .i64 0), (.slice none 0 0)]) 104 rfl Tryd.underlying22 info28 rfl (by decide) (by omega) (.slice A acc.length c) acc ⟨⟨z2'.1, z4.1, z3.1, acf, z7.1⟩, z1.1, acd⟩ [.int .i64 z2'.1, .string z4.1, .int .i64 z3.1, .slice A3 acf.length c3, .string z7.1, .int .i64 z1.1, .slice A6 acd.length c6] (fun _ => True) (fun k => True ∧ some k ≠ (Value.slice A acc.length c).ownBlock) rfl rfl ?aP (fun _ hk => hk) ?aF ?aO ?aB ?aS ?aL ?_); (case aP => exact HM.out); (case aB => exact HBL.out); (case aF => exact (fun _ _ => trivial)); (case aO => exact HO2.out); (case aS => exact HBL.out.size); (case aL => omega); intro v2 w4 ho hb hg hat; obtain ⟨A9, c9, rfl⟩ := Kd.R_slice ho; have VR3 : Aside0 (RrAt w b A0 c0 l0 (pa, pe) w4) := ⟨blk_grown HRD.out.hk hg (Kd.R_ne HO2.out HRD.out.hk (by decide)), HRD.out.ha, HRD.out.hB, hb, HRD.out.hC, HRD.out.hc⟩; have HO3 := Aside0.mk ho; clear HO2 HM HBL HRD ho hb hg hat)
                  refine ⟨⟨i + 1, A9, c9, acc ++ [⟨⟨z2'.1, z4.1, z3.1, acf, z7.1⟩, z1.1, acd⟩], (pa, pe), by go_num, by simp, by omega, by simp; omega, VR3, HO3, ⟨?_⟩⟩, by simp [intOf] <;> omega⟩
                  rw [List.append_assoc]
                  have q := ZR2.out
                  rw [HZ9.out, HZ6.out] at q
                  exact q
    · have hz2 : z2 = (acc, (sa, se)) := by
        have hz : n1 - i = 0 ∨ (sa, se).2 ≠ 0 := by by_cases e : se = 0; (exact .inl (by omega)); (exact .inr e)
        have h9 := ZR.out
        rw [many_err _ _ _ hz] at h9
        simpa using h9
      have hr := HRES.out
      rw [hz2] at hr
      clear hz2 ZR HRES
      have k1 := blk_cell VR.out.hk 1
      have f2 := blk_frozen VR.out.hk 2
      try simp only at k1
      by_cases he : se = 0
      · have hi0 : ¬ i < n1 := by omega
        subst he
        have hr' : (if sa < l0.length then (([] : List S28), (5 : Int)) else (acc, 0)) = (r1, r2) := by rw [← hr]; rfl
        clear hgo hr
        by_cases hc : sa < l0.length
        · rw [if_pos hc] at hr'
          obtain ⟨rfl, rfl⟩ : [] = r1 ∧ 5 = r2 := by simpa using hr'
          have HE := Aside0.mk (VR.out.err 5)
          clear hr'
          go_upto_region 33 with (fail)
          generalize wo.setCell ⟨b, 2, none⟩ (.int .i64 5) = W9 at HE ⊢
          clear k1 k2 f2
          have k2 := blk_cell HE.out.hk 2
          try simp only at k2
          go_wp2_with fail
          go_region_with (fail)
          all_goals (go_wp2_with fail; go_ret2; exact ⟨_, rfl, Kd.R_nil _ _ _ _ _, HE.out.hb.trans (Below.drew (Below.refl _ _))⟩)
        · rw [if_neg hc] at hr'
          obtain ⟨rfl, rfl⟩ : acc = r1 ∧ 0 = r2 := by simpa using hr'
          clear hr'
          go_wp2_with fail
          go_ret2
          exact ⟨_, rfl, HO.out, VR.out.hb⟩
      · have hr' : (([] : List S28), se) = (r1, r2) := by rw [← hr]; exact (if_pos he).symm
        obtain ⟨rfl, rfl⟩ : [] = r1 ∧ se = r2 := by simpa using hr'
        have he1 : (se == 0) = false := beq_false_of_ne he
        have he2 : (se != 0) = true := by simp [he]
        clear hgo hr hr'
        by_cases hi0 : i < n1
        all_goals
          go_wp2_with fail
          go_region_with (fail)
          all_goals (go_wp2_with fail; go_ret2; exact ⟨_, rfl, Kd.R_nil _ _ _ _ _, VR.out.hb.trans (Below.drew (Below.refl _ _))⟩)

end Go.Proofs.YtdiefodncfnfeaaDoor.PR
