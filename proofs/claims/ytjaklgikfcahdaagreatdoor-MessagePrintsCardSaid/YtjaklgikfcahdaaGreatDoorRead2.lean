/- The reader of chunks: trailers and Decode, by walks. -/
import Derived.Test.YtjaklgikfcahdaaGreatDoorRead
import Derived.ScopeJumps
namespace Go.Proofs.YtjaklgikfcahdaaGreatDoor.Hand
open Go.RowKit Go.Proofs.YtjaklgikfcahdaaGreatDoorW.PrintWords
set_option linter.unusedVariables false
set_option linter.unusedSimpArgs false
def trGo (pf : ByteArray → Option (ByteArray × ByteArray × Int)) : Nat → Nat → ByteArray → Int → Option (Int × Int)
  | 0, _, _, _ => none
  | k + 1, n, s, g =>
    if lineI s < 0 then some (25, g)
    else if lineI s + 2 ≤ s.size then
      if lineI s = 0 then some (0, g + 2)
      else (pf (s.extract 0 (lineI s).toNat)).bind fun r =>
        if ¬ r.2.2 = 0 then some (25, g)
        else if n = 64 then some (4, g)
        else trGo pf k (n + 1) (s.extract (lineI s + 2).toNat s.size) (g + (lineI s + 2))
    else none
def ParseOk (pf : ByteArray → Option (ByteArray × ByteArray × Int)) : Prop := ∀ l r, pf l = some r → ∀ w,
  Calls Tryz.prog 61 #[.string l] w fun e w' => e = .returned (.tuple #[.agg #[.string r.1, .string r.2.1], .int .i64 r.2.2]) ∧ Below w.heap.size w w'
def TrPost (w0 : World) (b : Nat) (g' : Int) (p : Value) (bs : List Value) (e : Int) (w' : World) : Prop := e = 0 → ∃ s', RdAt w0.heap.size b s' g' p bs w'
theorem TrPost.no {w0 : World} {b : Nat} {g' : Int} {p : Value} {bs : List Value} {e : Int} {w' : World} (h : ¬ e = 0) : TrPost w0 b g' p bs e w' := fun x => absurd x h
theorem rd_trailer (pf : ByteArray → Option (ByteArray × ByteArray × Int)) (PO : ParseOk pf) (w0 : World) (HL : Laid w0) (b : Nat) (s : ByteArray) (g : Int) (p : Value) (bs : List Value) (w : World) (hw : Below w0.heap.size w0 w)
    (h : RdAt w0.heap.size b s g p bs w) (hs : s.size < 4294967281) (hg : 0 ≤ g) (hg1 : g + s.size ≤ 4294967281) (K : Nat) (e g' : Int) (hr : trGo pf K 0 s g = some (e, g')) :
    Calls Tryz.prog 129 #[.pointer (some ⟨b, 0, none⟩)] w fun x w' => x = .returned (.int .i64 e) ∧ TrPost w0 b g' p bs e w' ∧ Below w0.heap.size w w' := by
  have PO' := Lib.hid PO; have HL' := Lib.hid HL; have HR := Lib.hid hr; have HW := Lib.hid hw; have HH := Lib.hid h
  clear PO HL hr hw h
  go_enter Tryz.func129, Tryz.ntmps129
  go_wp2
  go_loopw [3] (fun i w' => ∃ (k K' : Nat) (s1 : ByteArray) (g1 : Int), k ≤ 64 ∧ i = .int .i64 k ∧ RdAt w0.heap.size b s1 g1 p bs w' ∧ Below w0.heap.size w0 w' ∧ Below w0.heap.size w w' ∧ s1.size < 4294967281 ∧ 0 ≤ g1 ∧ g1 + s1.size ≤ 4294967281 ∧ trGo pf K' k s1 g1 = some (e, g')) (fun i _ => 65 - (intOf i).toNat)
  case atStart => exact ⟨0, K, s, g, by omega, rfl, HH.out, HW.out, Below.refl _ _, hs, hg, hg1, HR.out⟩
  case round =>
    clear HH HW HR hs hg hg1 s g
    obtain ⟨k, K', s, g, hk, rfl, h, hb0, hbw, hs, hg, hg1, hr⟩ := hrel
    have hlay := (HL'.out.below hb0).shaped
    have hsz := hb0.size
    obtain _ | K' := K'
    · simp [trGo] at hr
    unfold trGo at hr
    by_cases c1 : lineI s < 0
    · rw [if_pos c1] at hr
      obtain ⟨rfl, rfl⟩ : 25 = e ∧ g = g' := by simpa using hr
      have HLn := rd_line_no _ b s g p bs wr h hlay hs c1
      have HB := Lib.hid hbw; have HB0 := Lib.hid hb0
      clear hr c1 h hb0 hbw hlay
      go_wp2_with (go_at_call 154; refine HLn.mono ?_; rintro e1 w1 ⟨rfl, rfl⟩; clear HLn)
      go_ret
      exact ⟨rfl, TrPost.no (by decide), HB.out⟩
    rw [if_neg c1] at hr
    by_cases c2 : lineI s + 2 ≤ s.size
    case neg => rw [if_neg c2] at hr; simp at hr
    rw [if_pos c2] at hr
    have HLn := rd_line_yes _ b s g p bs wr h hlay hs hg (by omega) c1 c2
    have hz : s.extract 0 (lineI s).toNat = ⟨#[]⟩ ↔ lineI s = 0 := by
      constructor
      · intro e1
        have := congrArg ByteArray.size e1
        have z : (⟨#[]⟩ : ByteArray).size = 0 := rfl
        rw [ByteArray.size_extract, z] at this
        omega
      · intro e1
        rw [e1]
        apply ByteArray.ext
        simp
    by_cases c3 : lineI s = 0
    · rw [if_pos c3] at hr
      obtain ⟨rfl, rfl⟩ : 0 = e ∧ g + 2 = g' := by simpa using hr
      rw [hz.2 c3, c3] at HLn
      have HB := Lib.hid hbw; have HB0 := Lib.hid hb0
      clear hr c1 c2 c3 hz h hb0 hbw hlay
      go_wp2_with (go_at_call 154; refine HLn.mono ?_; rintro e1 w1 ⟨rfl, hr1, hb1⟩; clear HLn)
      go_ret
      exact ⟨rfl, fun _ => ⟨_, hr1⟩, HB.out.trans hb1⟩
    rw [if_neg c3] at hr
    have hl0 : ¬ (s.extract 0 (lineI s).toNat).size = 0 := fun e1 => c3 (hz.1 (by
      apply ByteArray.ext
      exact Array.eq_empty_of_size_eq_zero e1))
    have hs2 : (s.extract (lineI s + 2).toNat s.size).size = s.size - (lineI s + 2).toNat := by simp
    generalize s.extract 0 (lineI s).toNat = l at HLn hr hl0
    generalize hs' : s.extract (lineI s + 2).toNat s.size = s' at HLn hr hs2
    have hg2 : 0 ≤ g + (lineI s + 2) := by omega
    have hg3 : g + (lineI s + 2) + s'.size ≤ 4294967281 := by omega
    have hs3 : s'.size < 4294967281 := by omega
    generalize g + (lineI s + 2) = g2 at HLn hr hg2 hg3
    cases hpf : pf l with
    | none => rw [hpf] at hr; simp at hr
    | some r =>
      have HP := PO'.out l r hpf
      rw [hpf] at hr
      replace hr : (if ¬ r.2.2 = 0 then some (25, g) else if k = 64 then some (4, g) else trGo pf K' (k + 1) s' g2) = some (e, g') := hr
      obtain ⟨nm, vl, pe⟩ := r
      simp only at HP hr
      have hne := toList_cons_of hl0
      have HB := Lib.hid hbw; have HB0 := Lib.hid hb0
      clear c1 c2 c3 hz hl0 h hb0 hbw hlay hpf hs' hs2
      by_cases c4 : pe = 0
      · subst c4
        rw [if_neg (by simp)] at hr
        by_cases c5 : k = 64
        · rw [if_pos c5] at hr
          subst c5
          obtain ⟨rfl, rfl⟩ : 4 = e ∧ g = g' := by simpa using hr
          clear hr
          go_wp2_with (first | (go_at_call 154; refine HLn.mono ?_; rintro e1 w1 ⟨rfl, hr1, hb1⟩; clear HLn) | (go_at_call 61; refine (HP _).mono ?_; rintro e1 w2 ⟨rfl, hb2'⟩; have hb2 := hb2'.alloc hb2'.size (.cells #[.string nm, .string vl] 98); clear HP hb2'))
          go_ret
          exact ⟨rfl, TrPost.no (by decide), (HB.out.trans hb1).trans (hb2.mono (Nat.le_trans hsz hb1.size))⟩
        · rw [if_neg c5] at hr
          have HR := Lib.hid hr
          have hk2 : k < 64 := by omega
          have hk3 : ((k : Int) == 64) = false := by simpa using (by omega : ¬ (k : Int) = 64)
          clear hr c5
          go_wp2_with (first | (go_at_call 154; refine HLn.mono ?_; rintro e1 w1 ⟨rfl, hr1, hb1⟩; clear HLn) | (go_at_call 61; refine (HP _).mono ?_; rintro e1 w2 ⟨rfl, hb2'⟩; have hb2 := hb2'.alloc hb2'.size (.cells #[.string nm, .string vl] 98); clear HP hb2'))
          go_round
          case rel => exact ⟨k + 1, K', s', g2, by omega, by go_num, hr1.below hb2, (HB0.out.trans hb1).trans (hb2.mono (Nat.le_trans hsz hb1.size)), (HB.out.trans hb1).trans (hb2.mono (Nat.le_trans hsz hb1.size)), hs3, hg2, hg3, HR.out⟩
          case measure => simp [intOf]; omega
      · rw [if_pos c4] at hr
        obtain ⟨rfl, rfl⟩ : 25 = e ∧ g = g' := by simpa using hr
        have hpe : (pe != 0) = true := bne_iff_ne.mpr c4
        clear hr c4
        go_wp2_with (first | (go_at_call 154; refine HLn.mono ?_; rintro e1 w1 ⟨rfl, hr1, hb1⟩; clear HLn) | (go_at_call 61; refine (HP _).mono ?_; rintro e1 w2 ⟨rfl, hb2'⟩; have hb2 := hb2'.alloc hb2'.size (.cells #[.string nm, .string vl] 98); clear HP hb2'))
        go_ret
        exact ⟨rfl, TrPost.no (by decide), (HB.out.trans hb1).trans (hb2.mono (Nat.le_trans hsz hb1.size))⟩
def decGo (pf : ByteArray → Option (ByteArray × ByteArray × Int)) (sz : ByteArray → Option (Int × Int)) : Nat → ByteArray → Int → ByteArray → Option (ByteArray × Int × Int)
  | 0, _, _, _ => none
  | k + 1, s, g, body =>
    if lineI s < 0 then some (⟨#[]⟩, 0, 25)
    else if lineI s + 2 ≤ s.size then
      (sz (s.extract 0 (lineI s).toNat)).bind fun r =>
        if ¬ r.2 = 0 then some (⟨#[]⟩, 0, r.2)
        else if 0 < r.1 then
          if 65536 < body.size + r.1 then some (⟨#[]⟩, 0, 4)
          else if ((s.extract (lineI s + 2).toNat s.size).size : Int) < r.1 + 2 then some (⟨#[]⟩, 0, 25)
          else if ((s.extract (lineI s + 2).toNat s.size).extract r.1.toNat (r.1 + 2).toNat).toList == [13, 10] then
            decGo pf sz k ((s.extract (lineI s + 2).toNat s.size).extract (r.1 + 2).toNat (s.extract (lineI s + 2).toNat s.size).size) (g + (lineI s + 2) + (r.1 + 2)) (body ++ (s.extract (lineI s + 2).toNat s.size).extract 0 r.1.toNat)
          else some (⟨#[]⟩, 0, 25)
        else (trGo pf ((s.extract (lineI s + 2).toNat s.size).size + 1) 0 (s.extract (lineI s + 2).toNat s.size) (g + (lineI s + 2))).bind fun t =>
          if t.1 = 0 then some (body, t.2, 0) else some (⟨#[]⟩, 0, t.1)
    else none
/-- What reads a size's line does so. -/
def SizeOk (sz : ByteArray → Option (Int × Int)) : Prop := ∀ (B b : Nat) (s : ByteArray) (gone : Int) (p : Value) (bs : List Value) (w : World) (r : Int × Int), LineOk B b s gone p bs w → B ≤ w.heap.size → sz (s.extract 0 (lineI s).toNat) = some r →
  (Calls Tryz.prog 127 #[.pointer (some ⟨b, 0, none⟩)] w fun x w' => x = .returned (.tuple #[.int .i64 r.1, .int .i64 r.2]) ∧ RdAt B b (s.extract (lineI s + 2).toNat s.size) (gone + (lineI s + 2)) p bs w' ∧ Below B w w') ∧ r.1 ≤ 65536
def DecOk (pf : ByteArray → Option (ByteArray × ByteArray × Int)) (sz : ByteArray → Option (Int × Int)) (s1 : ByteArray) (g1 : Int) (body : ByteArray) (r : ByteArray × Int × Int) : Prop :=
  ∃ K' : Nat, body.size ≤ 65536 ∧ s1.size < 4294967281 ∧ 0 ≤ g1 ∧ g1 + s1.size ≤ 4294967281 ∧ decGo pf sz K' s1 g1 body = some r
def DecJ (pf : ByteArray → Option (ByteArray × ByteArray × Int)) (sz : ByteArray → Option (Int × Int)) (w : World) (r : ByteArray × Int × Int) (w' : World) : Prop :=
  ∃ (K' : Nat) (s1 : ByteArray) (g1 : Int) (body : ByteArray), IsRd w.heap.size w.heap.size s1 g1 (Lib.byteCells body.data.toList) w' ∧ Below w.heap.size w w' ∧ body.size ≤ 65536 ∧ s1.size < 4294967281 ∧ 0 ≤ g1 ∧ g1 + s1.size ≤ 4294967281 ∧ decGo pf sz K' s1 g1 body = some r
theorem DecOk.j {pf : ByteArray → Option (ByteArray × ByteArray × Int)} {sz : ByteArray → Option (Int × Int)} {s1 : ByteArray} {g1 : Int} {body : ByteArray} {r : ByteArray × Int × Int} {w w' : World} (h : DecOk pf sz s1 g1 body r)
    (hr : RdAt w.heap.size w.heap.size s1 g1 (selfP w.heap.size) (Lib.byteCells body.data.toList) w') (hb : Below w.heap.size w w') : DecJ pf sz w r w' := by
  obtain ⟨K', h1, h2, h3, h4, h5⟩ := h
  exact ⟨K', s1, g1, body, Or.inr hr, hb, h1, h2, h3, h4, h5⟩
def decMu (w w' : World) : Nat := match w'.cell? ⟨w.heap.size, 0, none⟩ with | some (.string x) => x.size | _ => 0
theorem ex_slots (f : (Nat → Value) → Act) (A : Act) (h : A = f (fun i => A.tmps.getD i undef)) : ∃ u, A = f u := ⟨_, h⟩
set_option maxHeartbeats 1600000 in
theorem dec_any (pf : ByteArray → Option (ByteArray × ByteArray × Int)) (PO : ParseOk pf) (sz : ByteArray → Option (Int × Int)) (SO : SizeOk sz) (s : ByteArray) (w : World) (HL : Laid w) (hs : s.size < 4294967281) (K : Nat) (r : ByteArray × Int × Int) (hr : decGo pf sz K s 0 ⟨#[]⟩ = some r) :
    Calls Tryz.prog 97 #[.string s] w fun x w' => x = .returned (.tuple #[.string r.1, .int .i64 r.2.1, .int .i64 r.2.2]) ∧ Below w.heap.size w w' := by
  have PO' := Lib.hid PO; have SO' := Lib.hid SO; have HL' := Lib.hid HL; have HR := Lib.hid hr
  have hrd : RdAt w.heap.size w.heap.size s 0 (.pointer none) (Lib.byteCells (⟨#[]⟩ : ByteArray).data.toList) (w.alloc (.cells #[.string s, .int .i64 0, .pointer none, .slice none 0 0] TR)) :=
    ⟨Nat.le_refl _, .slice none 0 0, heap_alloc_new w _, World.ownsRow_nil _ _ _ _, by simp [Value.ownBlock]⟩
  have hJ : DecJ pf sz w r (w.alloc (.cells #[.string s, .int .i64 0, .pointer none, .slice none 0 0] TR)) :=
    ⟨K, s, 0, ⟨#[]⟩, Or.inl hrd, alloc_below _ _, by decide, hs, by decide, by omega, hr⟩
  have HJ := Lib.hid hJ
  clear PO SO HL hr hrd hJ hs HR
  go_enter Tryz.func97, Tryz.ntmps97
  go_wp2
  refine wp_scope_jumps 0 (fun a' w' => (∃ u : Nat → Value, a' = { tmps := #[.string s, undef, .string ⟨#[]⟩, .int .i64 0, .int .i64 0, .pointer (some ⟨w.heap.size, 0, none⟩), u 6, u 7, u 8, u 9, u 10, u 11, u 12, u 13, u 14, u 15, u 16, u 17, u 18, u 19, u 20, u 21, u 22, u 23, u 24, u 25, u 26, u 27, u 28, u 29, u 30, u 31, u 32, u 33, u 34, u 35, u 36, u 37, u 38, u 39, u 40, u 41, u 42, u 43], defers := [] }) ∧ DecJ pf sz w r w') (fun _ w' => decMu w w') rfl ?_ ?_
  · go_wp2
    go_step3
    have hJ := HJ.out
    clear HJ
    generalize w.alloc _ = wj at hJ ⊢
    obtain ⟨K', s1, g1, body, h, hb0, hbs, hs1, hg, hg1, hr⟩ := hJ
    have hlay := (HL'.out.below hb0).shaped
    have hsz := hb0.size
    obtain ⟨p, hp, h⟩ : ∃ p, (p = .pointer none ∨ p = selfP w.heap.size) ∧ RdAt w.heap.size w.heap.size s1 g1 p (Lib.byteCells body.data.toList) wj := by
      rcases h with h | h
      · exact ⟨_, Or.inl rfl, h⟩
      · exact ⟨_, Or.inr rfl, h⟩
    have hmu : decMu w wj = s1.size := by unfold decMu; rw [h.cells.1]
    obtain _ | K' := K'
    · simp [decGo] at hr
    unfold decGo at hr
    by_cases c1 : lineI s1 < 0
    · rw [if_pos c1] at hr
      obtain rfl := Option.some.inj hr
      have HS : Calls Tryz.prog 127 #[.pointer (some ⟨w.heap.size, 0, none⟩)] wj fun e w' => e = .returned (.tuple #[.int .i64 0, .int .i64 25]) ∧ True ∧ w' = wj := (rd_size_no _ _ s1 g1 p _ wj h hlay hs1 c1).mono fun e w' x => ⟨x.1, trivial, x.2⟩
      have HB0 := Lib.hid hb0
      clear hr c1 h hb0 hlay hmu hp
      go_wp2_with (go_at_call 127; refine HS.mono ?_; rintro e1 w1 ⟨rfl, _, rfl⟩; clear HS)
      simp only [Exit.jump]
      go_ret3
      exact ⟨rfl, HB0.out⟩
    rw [if_neg c1] at hr
    by_cases c2 : lineI s1 + 2 ≤ s1.size
    case neg => rw [if_neg c2] at hr; simp at hr
    rw [if_pos c2] at hr
    have HLn : LineOk _ _ s1 g1 p _ wj := rd_line_yes _ _ s1 g1 p _ wj h hlay hs1 hg (by omega) c1 c2
    cases hszr : sz (s1.extract 0 (lineI s1).toNat) with
    | none => rw [hszr] at hr; simp at hr
    | some q =>
    rw [hszr] at hr
    simp only [Option.bind_some] at hr
    obtain ⟨HS, hn1⟩ := SO'.out _ _ s1 g1 p _ wj q HLn hsz hszr
    have hs2 : (s1.extract (lineI s1 + 2).toNat s1.size).size = s1.size - (lineI s1 + 2).toNat := by simp
    generalize s1.extract (lineI s1 + 2).toNat s1.size = s2 at HS hr hs2
    have hg2 : 0 ≤ g1 + (lineI s1 + 2) := by omega
    have hg3 : g1 + (lineI s1 + 2) + s2.size ≤ 4294967281 := by omega
    have hs3 : s2.size < 4294967281 := by omega
    have hs4 : s2.size + 2 ≤ s1.size := by omega
    generalize g1 + (lineI s1 + 2) = g2 at HS hr hg2 hg3
    obtain ⟨n, e⟩ := q
    simp only at HS hr hn1
    have HB0 := Lib.hid hb0; have HMU := Lib.hid hmu
    clear c1 c2 h hb0 hlay hszr HLn hs2 hmu
    by_cases c3 : e = 0
    case neg =>
      rw [if_pos c3] at hr
      obtain rfl := Option.some.inj hr
      have he1 : (e == 0) = false := beq_eq_false_iff_ne.mpr c3
      have he2 : (e != 0) = true := bne_iff_ne.mpr c3
      clear hr c3
      go_wp2_with (go_at_call 127; refine HS.mono ?_; rintro e1 w1 ⟨rfl, hr1, hb1⟩; clear HS)
      simp only [Exit.jump]
      go_ret3
      exact ⟨rfl, HB0.out.trans hb1⟩
    subst c3
    rw [if_neg (by simp)] at hr
    have hbl : (Lib.byteCells body.data.toList).length = body.size := by rw [Lib.byteCells_length, data_length]
    by_cases c4 : 0 < n
    · rw [if_pos c4] at hr
      have IR : ∀ w1, RdAt w.heap.size w.heap.size s2 g2 p (Lib.byteCells body.data.toList) w1 → IsRd w.heap.size w.heap.size s2 g2 (Lib.byteCells body.data.toList) w1 := fun w1 h1 => by
        rcases hp with rfl | rfl
        · exact Or.inl h1
        · exact Or.inr h1
      by_cases c5 : 65536 < body.size + n
      · rw [if_pos c5] at hr
        obtain rfl := Option.some.inj hr
        have HD : ∀ w1, RdAt w.heap.size w.heap.size s2 g2 p (Lib.byteCells body.data.toList) w1 → Calls Tryz.prog 128 #[.pointer (some ⟨w.heap.size, 0, none⟩), .int .i64 n] w1 fun e w' => e = .returned (.int .i64 4) ∧ w' = w1 :=
          fun w1 h1 => rd_data_long _ _ s2 g2 _ _ n w1 (IR w1 h1) hbl c4 hn1 hbs c5
        clear hr c5 IR hp hbl
        go_wp2_with (first | (go_at_call 127; refine HS.mono ?_; rintro e1 w1 ⟨rfl, hr1, hb1⟩; clear HS) | (go_at_call 128; refine (HD _ hr1).mono ?_; rintro e2 w2 ⟨rfl, rfl⟩; clear HD))
        simp only [Exit.jump]
        go_ret3
        exact ⟨rfl, HB0.out.trans hb1⟩
      rw [if_neg c5] at hr
      by_cases c6 : (s2.size : Int) < n + 2
      · rw [if_pos c6] at hr
        obtain rfl := Option.some.inj hr
        have HD : ∀ w1, RdAt w.heap.size w.heap.size s2 g2 p (Lib.byteCells body.data.toList) w1 → Calls Tryz.prog 128 #[.pointer (some ⟨w.heap.size, 0, none⟩), .int .i64 n] w1 fun e w' => e = .returned (.int .i64 25) ∧ w' = w1 :=
          fun w1 h1 => rd_data_short _ _ s2 g2 _ _ n w1 (IR w1 h1) hbl c4 hn1 hbs (by omega) (by omega) c6
        clear hr c5 c6 IR hp hbl
        go_wp2_with (first | (go_at_call 127; refine HS.mono ?_; rintro e1 w1 ⟨rfl, hr1, hb1⟩; clear HS) | (go_at_call 128; refine (HD _ hr1).mono ?_; rintro e2 w2 ⟨rfl, rfl⟩; clear HD))
        simp only [Exit.jump]
        go_ret3
        exact ⟨rfl, HB0.out.trans hb1⟩
      rw [if_neg c6] at hr
      cases c7 : (s2.extract n.toNat (n + 2).toNat).toList == [13, 10]
      · rw [c7] at hr
        obtain rfl := Option.some.inj hr
        have HD : ∀ w1, RdAt w.heap.size w.heap.size s2 g2 p (Lib.byteCells body.data.toList) w1 → Calls Tryz.prog 128 #[.pointer (some ⟨w.heap.size, 0, none⟩), .int .i64 n] w1 fun e w' => e = .returned (.int .i64 25) ∧ w' = w1 :=
          fun w1 h1 => rd_data_off _ _ s2 g2 _ _ n w1 (IR w1 h1) hbl c4 hn1 hbs (by omega) (by omega) (by omega) c7
        clear hr c5 c6 c7 IR hp hbl
        go_wp2_with (first | (go_at_call 127; refine HS.mono ?_; rintro e1 w1 ⟨rfl, hr1, hb1⟩; clear HS) | (go_at_call 128; refine (HD _ hr1).mono ?_; rintro e2 w2 ⟨rfl, rfl⟩; clear HD))
        simp only [Exit.jump]
        go_ret3
        exact ⟨rfl, HB0.out.trans hb1⟩
      · rw [c7] at hr
        have HD : ∀ w1, Below w.heap.size w w1 → RdAt w.heap.size w.heap.size s2 g2 p (Lib.byteCells body.data.toList) w1 → Calls Tryz.prog 128 #[.pointer (some ⟨w.heap.size, 0, none⟩), .int .i64 n] w1 fun e w' => e = .returned (.int .i64 0) ∧ RdAt w.heap.size w.heap.size (s2.extract (n + 2).toNat s2.size) (g2 + (n + 2)) (selfP w.heap.size) (Lib.byteCells body.data.toList ++ Lib.strCells (s2.extract 0 n.toNat)) w' ∧ Below w.heap.size w1 w' :=
          fun w1 hb h1 => rd_data_ok _ _ s2 g2 _ _ n w1 hb.size (IR w1 h1) hg2 (by omega) hbl c4 hn1 hbs (by omega) (by omega) (by omega) c7
        have hcells : Lib.byteCells body.data.toList ++ Lib.strCells (s2.extract 0 n.toNat) = Lib.byteCells (body ++ s2.extract 0 n.toNat).data.toList := by
          rw [Lib.strCells_eq, ← Lib.byteCells_append, ByteArray.data_append, Array.toList_append]
        rw [hcells] at HD
        have hs5 : (s2.extract (n + 2).toNat s2.size).size = s2.size - (n + 2).toNat := by simp
        have hb5 : (body ++ s2.extract 0 n.toNat).size = body.size + n.toNat := by rw [ByteArray.size_append, ByteArray.size_extract]; omega
        simp only [if_true] at hr
        have NX : DecOk pf sz (s2.extract (n + 2).toNat s2.size) (g2 + (n + 2)) (body ++ s2.extract 0 n.toNat) r := ⟨K', by omega, by omega, by omega, by omega, hr⟩
        have hs6 : (s2.extract (n + 2).toNat s2.size).size < s1.size := by omega
        have NX := Lib.hid NX; have HS6 := Lib.hid hs6
        clear hr c5 c6 c7 IR hp hbl hcells hs5 hb5 hs6 hg3 hs3 hs4 hg2
        go_wp2_with (first | (go_at_call 127; refine HS.mono ?_; rintro e1 w1 ⟨rfl, hr1, hb1⟩; clear HS) | (go_at_call 128; refine (HD _ (HB0.out.trans hb1) hr1).mono ?_; rintro e2 w2 ⟨rfl, hr2, hb2⟩; clear HD))
        go_step3
        refine ⟨rfl, ?_, ?_⟩
        exact ex_slots _ _ rfl
        exact NX.out.j hr2 ((HB0.out.trans hb1).trans hb2)
    rw [if_neg c4] at hr
    cases htr : trGo pf (s2.size + 1) 0 s2 g2 with
    | none => rw [htr] at hr; simp at hr
    | some q =>
    rw [htr] at hr
    simp only [Option.bind_some] at hr
    obtain ⟨e, g3⟩ := q
    have HD : ∀ w1, Below w.heap.size w w1 → RdAt w.heap.size w.heap.size s2 g2 p (Lib.byteCells body.data.toList) w1 → Calls Tryz.prog 129 #[.pointer (some ⟨w.heap.size, 0, none⟩)] w1 fun x w' => x = .returned (.int .i64 e) ∧ TrPost w w.heap.size g3 p (Lib.byteCells body.data.toList) e w' ∧ Below w.heap.size w1 w' :=
      fun w1 hb h1 => rd_trailer pf PO'.out w HL'.out _ s2 g2 p _ w1 hb h1 hs3 hg2 hg3 _ e g3 htr
    have hn0 : n ≤ 0 := by omega
    clear c4 htr hbl
    by_cases c8 : e = 0
    · subst c8
      simp only [if_true] at hr
      obtain rfl := Option.some.inj hr
      have HSt : ∀ s' w1, Below w.heap.size w w1 → RdAt w.heap.size w.heap.size s' g3 p (Lib.byteCells body.data.toList) w1 → Calls Tryz.prog 113 #[.pointer (some ⟨w.heap.size, 2, none⟩)] w1.drew fun e w' => e = .returned (.string body) ∧ Below w.heap.size w1.drew w' ∧ w'.cell? ⟨w.heap.size, 1, none⟩ = some (.int .i64 g3) := fun s' w1 hb h1 => by
        have h2 : IsRd w.heap.size w.heap.size s' g3 (Lib.byteCells body.data.toList) w1.drew := by
          rcases hp with rfl | rfl
          · exact Or.inl h1
          · exact Or.inr h1
        exact rd_string _ _ s' g3 body.data.toList w1.drew h2 hb.size
      clear hr hp
      go_wp2_with (first | (go_at_call 127; refine HS.mono ?_; rintro e1 w1 ⟨rfl, hr1, hb1⟩; clear HS) | (go_at_call 129; refine (HD _ (HB0.out.trans hb1) hr1).mono ?_; rintro e2 w2 ⟨rfl, hr2, hb2⟩; clear HD; obtain ⟨s', hr3⟩ := hr2 rfl; have d1 := hr3.cells.2.1; have HSt2 := HSt s' w2 ((HB0.out.trans hb1).trans hb2) hr3))
      go_region_with (go_at_call 113; refine HSt2.mono ?_; rintro e3 w3 ⟨rfl, hb3, d2⟩; clear HSt2)
      all_goals
        go_wp2_with fail
        simp only [Exit.jump]
        go_ret3
        exact ⟨rfl, (((HB0.out.trans hb1).trans hb2).trans (Below.drew (Below.refl _ _))).trans hb3⟩
    · rw [if_neg c8] at hr
      obtain rfl := Option.some.inj hr
      have he1 : (e == 0) = false := beq_eq_false_iff_ne.mpr c8
      have he2 : (e != 0) = true := bne_iff_ne.mpr c8
      clear hr hp c8
      go_wp2_with (first | (go_at_call 127; refine HS.mono ?_; rintro e1 w1 ⟨rfl, hr1, hb1⟩; clear HS) | (go_at_call 129; refine (HD _ (HB0.out.trans hb1) hr1).mono ?_; rintro e2 w2 ⟨rfl, hr2, hb2⟩; clear HD))
      simp only [Exit.jump]
      go_ret3
      exact ⟨rfl, (HB0.out.trans hb1).trans hb2⟩
  · rintro a' wj ⟨⟨u, rfl⟩, hJ⟩
    clear HJ
    obtain ⟨K', s1, g1, body, h, hb0, hbs, hs1, hg, hg1, hr⟩ := hJ
    have hlay := (HL'.out.below hb0).shaped
    have hsz := hb0.size
    obtain ⟨p, hp, h⟩ : ∃ p, (p = .pointer none ∨ p = selfP w.heap.size) ∧ RdAt w.heap.size w.heap.size s1 g1 p (Lib.byteCells body.data.toList) wj := by
      rcases h with h | h
      · exact ⟨_, Or.inl rfl, h⟩
      · exact ⟨_, Or.inr rfl, h⟩
    have hmu : decMu w wj = s1.size := by unfold decMu; rw [h.cells.1]
    obtain _ | K' := K'
    · simp [decGo] at hr
    unfold decGo at hr
    by_cases c1 : lineI s1 < 0
    · rw [if_pos c1] at hr
      obtain rfl := Option.some.inj hr
      have HS : Calls Tryz.prog 127 #[.pointer (some ⟨w.heap.size, 0, none⟩)] wj fun e w' => e = .returned (.tuple #[.int .i64 0, .int .i64 25]) ∧ True ∧ w' = wj := (rd_size_no _ _ s1 g1 p _ wj h hlay hs1 c1).mono fun e w' x => ⟨x.1, trivial, x.2⟩
      have HB0 := Lib.hid hb0
      clear hr c1 h hb0 hlay hmu hp
      go_wp2_with (go_at_call 127; refine HS.mono ?_; rintro e1 w1 ⟨rfl, _, rfl⟩; clear HS)
      simp only [Exit.jump]
      go_ret3
      exact ⟨rfl, HB0.out⟩
    rw [if_neg c1] at hr
    by_cases c2 : lineI s1 + 2 ≤ s1.size
    case neg => rw [if_neg c2] at hr; simp at hr
    rw [if_pos c2] at hr
    have HLn : LineOk _ _ s1 g1 p _ wj := rd_line_yes _ _ s1 g1 p _ wj h hlay hs1 hg (by omega) c1 c2
    cases hszr : sz (s1.extract 0 (lineI s1).toNat) with
    | none => rw [hszr] at hr; simp at hr
    | some q =>
    rw [hszr] at hr
    simp only [Option.bind_some] at hr
    obtain ⟨HS, hn1⟩ := SO'.out _ _ s1 g1 p _ wj q HLn hsz hszr
    have hs2 : (s1.extract (lineI s1 + 2).toNat s1.size).size = s1.size - (lineI s1 + 2).toNat := by simp
    generalize s1.extract (lineI s1 + 2).toNat s1.size = s2 at HS hr hs2
    have hg2 : 0 ≤ g1 + (lineI s1 + 2) := by omega
    have hg3 : g1 + (lineI s1 + 2) + s2.size ≤ 4294967281 := by omega
    have hs3 : s2.size < 4294967281 := by omega
    have hs4 : s2.size + 2 ≤ s1.size := by omega
    generalize g1 + (lineI s1 + 2) = g2 at HS hr hg2 hg3
    obtain ⟨n, e⟩ := q
    simp only at HS hr hn1
    have HB0 := Lib.hid hb0; have HMU := Lib.hid hmu
    clear c1 c2 h hb0 hlay hszr HLn hs2 hmu
    by_cases c3 : e = 0
    case neg =>
      rw [if_pos c3] at hr
      obtain rfl := Option.some.inj hr
      have he1 : (e == 0) = false := beq_eq_false_iff_ne.mpr c3
      have he2 : (e != 0) = true := bne_iff_ne.mpr c3
      clear hr c3
      go_wp2_with (go_at_call 127; refine HS.mono ?_; rintro e1 w1 ⟨rfl, hr1, hb1⟩; clear HS)
      simp only [Exit.jump]
      go_ret3
      exact ⟨rfl, HB0.out.trans hb1⟩
    subst c3
    rw [if_neg (by simp)] at hr
    have hbl : (Lib.byteCells body.data.toList).length = body.size := by rw [Lib.byteCells_length, data_length]
    by_cases c4 : 0 < n
    · rw [if_pos c4] at hr
      have IR : ∀ w1, RdAt w.heap.size w.heap.size s2 g2 p (Lib.byteCells body.data.toList) w1 → IsRd w.heap.size w.heap.size s2 g2 (Lib.byteCells body.data.toList) w1 := fun w1 h1 => by
        rcases hp with rfl | rfl
        · exact Or.inl h1
        · exact Or.inr h1
      by_cases c5 : 65536 < body.size + n
      · rw [if_pos c5] at hr
        obtain rfl := Option.some.inj hr
        have HD : ∀ w1, RdAt w.heap.size w.heap.size s2 g2 p (Lib.byteCells body.data.toList) w1 → Calls Tryz.prog 128 #[.pointer (some ⟨w.heap.size, 0, none⟩), .int .i64 n] w1 fun e w' => e = .returned (.int .i64 4) ∧ w' = w1 :=
          fun w1 h1 => rd_data_long _ _ s2 g2 _ _ n w1 (IR w1 h1) hbl c4 hn1 hbs c5
        clear hr c5 IR hp hbl
        go_wp2_with (first | (go_at_call 127; refine HS.mono ?_; rintro e1 w1 ⟨rfl, hr1, hb1⟩; clear HS) | (go_at_call 128; refine (HD _ hr1).mono ?_; rintro e2 w2 ⟨rfl, rfl⟩; clear HD))
        simp only [Exit.jump]
        go_ret3
        exact ⟨rfl, HB0.out.trans hb1⟩
      rw [if_neg c5] at hr
      by_cases c6 : (s2.size : Int) < n + 2
      · rw [if_pos c6] at hr
        obtain rfl := Option.some.inj hr
        have HD : ∀ w1, RdAt w.heap.size w.heap.size s2 g2 p (Lib.byteCells body.data.toList) w1 → Calls Tryz.prog 128 #[.pointer (some ⟨w.heap.size, 0, none⟩), .int .i64 n] w1 fun e w' => e = .returned (.int .i64 25) ∧ w' = w1 :=
          fun w1 h1 => rd_data_short _ _ s2 g2 _ _ n w1 (IR w1 h1) hbl c4 hn1 hbs (by omega) (by omega) c6
        clear hr c5 c6 IR hp hbl
        go_wp2_with (first | (go_at_call 127; refine HS.mono ?_; rintro e1 w1 ⟨rfl, hr1, hb1⟩; clear HS) | (go_at_call 128; refine (HD _ hr1).mono ?_; rintro e2 w2 ⟨rfl, rfl⟩; clear HD))
        simp only [Exit.jump]
        go_ret3
        exact ⟨rfl, HB0.out.trans hb1⟩
      rw [if_neg c6] at hr
      cases c7 : (s2.extract n.toNat (n + 2).toNat).toList == [13, 10]
      · rw [c7] at hr
        obtain rfl := Option.some.inj hr
        have HD : ∀ w1, RdAt w.heap.size w.heap.size s2 g2 p (Lib.byteCells body.data.toList) w1 → Calls Tryz.prog 128 #[.pointer (some ⟨w.heap.size, 0, none⟩), .int .i64 n] w1 fun e w' => e = .returned (.int .i64 25) ∧ w' = w1 :=
          fun w1 h1 => rd_data_off _ _ s2 g2 _ _ n w1 (IR w1 h1) hbl c4 hn1 hbs (by omega) (by omega) (by omega) c7
        clear hr c5 c6 c7 IR hp hbl
        go_wp2_with (first | (go_at_call 127; refine HS.mono ?_; rintro e1 w1 ⟨rfl, hr1, hb1⟩; clear HS) | (go_at_call 128; refine (HD _ hr1).mono ?_; rintro e2 w2 ⟨rfl, rfl⟩; clear HD))
        simp only [Exit.jump]
        go_ret3
        exact ⟨rfl, HB0.out.trans hb1⟩
      · rw [c7] at hr
        have HD : ∀ w1, Below w.heap.size w w1 → RdAt w.heap.size w.heap.size s2 g2 p (Lib.byteCells body.data.toList) w1 → Calls Tryz.prog 128 #[.pointer (some ⟨w.heap.size, 0, none⟩), .int .i64 n] w1 fun e w' => e = .returned (.int .i64 0) ∧ RdAt w.heap.size w.heap.size (s2.extract (n + 2).toNat s2.size) (g2 + (n + 2)) (selfP w.heap.size) (Lib.byteCells body.data.toList ++ Lib.strCells (s2.extract 0 n.toNat)) w' ∧ Below w.heap.size w1 w' :=
          fun w1 hb h1 => rd_data_ok _ _ s2 g2 _ _ n w1 hb.size (IR w1 h1) hg2 (by omega) hbl c4 hn1 hbs (by omega) (by omega) (by omega) c7
        have hcells : Lib.byteCells body.data.toList ++ Lib.strCells (s2.extract 0 n.toNat) = Lib.byteCells (body ++ s2.extract 0 n.toNat).data.toList := by
          rw [Lib.strCells_eq, ← Lib.byteCells_append, ByteArray.data_append, Array.toList_append]
        rw [hcells] at HD
        have hs5 : (s2.extract (n + 2).toNat s2.size).size = s2.size - (n + 2).toNat := by simp
        have hb5 : (body ++ s2.extract 0 n.toNat).size = body.size + n.toNat := by rw [ByteArray.size_append, ByteArray.size_extract]; omega
        simp only [if_true] at hr
        have NX : DecOk pf sz (s2.extract (n + 2).toNat s2.size) (g2 + (n + 2)) (body ++ s2.extract 0 n.toNat) r := ⟨K', by omega, by omega, by omega, by omega, hr⟩
        have hs6 : (s2.extract (n + 2).toNat s2.size).size < s1.size := by omega
        have NX := Lib.hid NX; have HS6 := Lib.hid hs6
        clear hr c5 c6 c7 IR hp hbl hcells hs5 hb5 hs6 hg3 hs3 hs4 hg2
        go_wp2_with (first | (go_at_call 127; refine HS.mono ?_; rintro e1 w1 ⟨rfl, hr1, hb1⟩; clear HS) | (go_at_call 128; refine (HD _ (HB0.out.trans hb1) hr1).mono ?_; rintro e2 w2 ⟨rfl, hr2, hb2⟩; clear HD))
        go_step3
        refine ⟨rfl, ⟨?_, ?_⟩, ?_⟩
        exact ex_slots _ _ rfl
        exact NX.out.j hr2 ((HB0.out.trans hb1).trans hb2)
        show decMu w _ < decMu w _
        rw [HMU.out, show decMu w w2 = _ from by unfold decMu; rw [hr2.cells.1]]
        exact HS6.out
    rw [if_neg c4] at hr
    cases htr : trGo pf (s2.size + 1) 0 s2 g2 with
    | none => rw [htr] at hr; simp at hr
    | some q =>
    rw [htr] at hr
    simp only [Option.bind_some] at hr
    obtain ⟨e, g3⟩ := q
    have HD : ∀ w1, Below w.heap.size w w1 → RdAt w.heap.size w.heap.size s2 g2 p (Lib.byteCells body.data.toList) w1 → Calls Tryz.prog 129 #[.pointer (some ⟨w.heap.size, 0, none⟩)] w1 fun x w' => x = .returned (.int .i64 e) ∧ TrPost w w.heap.size g3 p (Lib.byteCells body.data.toList) e w' ∧ Below w.heap.size w1 w' :=
      fun w1 hb h1 => rd_trailer pf PO'.out w HL'.out _ s2 g2 p _ w1 hb h1 hs3 hg2 hg3 _ e g3 htr
    have hn0 : n ≤ 0 := by omega
    clear c4 htr hbl
    by_cases c8 : e = 0
    · subst c8
      simp only [if_true] at hr
      obtain rfl := Option.some.inj hr
      have HSt : ∀ s' w1, Below w.heap.size w w1 → RdAt w.heap.size w.heap.size s' g3 p (Lib.byteCells body.data.toList) w1 → Calls Tryz.prog 113 #[.pointer (some ⟨w.heap.size, 2, none⟩)] w1.drew fun e w' => e = .returned (.string body) ∧ Below w.heap.size w1.drew w' ∧ w'.cell? ⟨w.heap.size, 1, none⟩ = some (.int .i64 g3) := fun s' w1 hb h1 => by
        have h2 : IsRd w.heap.size w.heap.size s' g3 (Lib.byteCells body.data.toList) w1.drew := by
          rcases hp with rfl | rfl
          · exact Or.inl h1
          · exact Or.inr h1
        exact rd_string _ _ s' g3 body.data.toList w1.drew h2 hb.size
      clear hr hp
      go_wp2_with (first | (go_at_call 127; refine HS.mono ?_; rintro e1 w1 ⟨rfl, hr1, hb1⟩; clear HS) | (go_at_call 129; refine (HD _ (HB0.out.trans hb1) hr1).mono ?_; rintro e2 w2 ⟨rfl, hr2, hb2⟩; clear HD; obtain ⟨s', hr3⟩ := hr2 rfl; have d1 := hr3.cells.2.1; have HSt2 := HSt s' w2 ((HB0.out.trans hb1).trans hb2) hr3))
      go_region_with (go_at_call 113; refine HSt2.mono ?_; rintro e3 w3 ⟨rfl, hb3, d2⟩; clear HSt2)
      all_goals
        go_wp2_with fail
        simp only [Exit.jump]
        go_ret3
        exact ⟨rfl, (((HB0.out.trans hb1).trans hb2).trans (Below.drew (Below.refl _ _))).trans hb3⟩
    · rw [if_neg c8] at hr
      obtain rfl := Option.some.inj hr
      have he1 : (e == 0) = false := beq_eq_false_iff_ne.mpr c8
      have he2 : (e != 0) = true := bne_iff_ne.mpr c8
      clear hr hp c8
      go_wp2_with (first | (go_at_call 127; refine HS.mono ?_; rintro e1 w1 ⟨rfl, hr1, hb1⟩; clear HS) | (go_at_call 129; refine (HD _ (HB0.out.trans hb1) hr1).mono ?_; rintro e2 w2 ⟨rfl, hr2, hb2⟩; clear HD))
      simp only [Exit.jump]
      go_ret3
      exact ⟨rfl, (HB0.out.trans hb1).trans hb2⟩
end Go.Proofs.YtjaklgikfcahdaaGreatDoor.Hand
