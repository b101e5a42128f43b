-- Out of the translation, by a program of this session: each function that a law comes to as a Lean function, and that the machine's call does what it says. Lean checks it.
import Derived.Test.YtjaklgikfcahdaaGreatDoorPB0
import Derived.Test.YtjaklgikfcahdaaGreatDoorPB5
import Derived.Test.YtjaklgikfcahdaaGreatDoorPB6
namespace Go.Proofs.YtjaklgikfcahdaaGreatDoor.PB
open Go.RowKit Go.Proofs.YtjaklgikfcahdaaGreatDoorW.PrintWords Go.Proofs.YtjaklgikfcahdaaGreatDoorW.PrintLast Go.Proofs.YtjaklgikfcahdaaGreatDoorW.PrintMore
attribute [local go_sem] max2_int min2_int max_two min_two max_three min_three max_four min_four   -- for this text's walks alone
set_option linter.unusedVariables false
set_option linter.unusedSimpArgs false

/-! ### items_Split: function 98: told by hand -/
/-- A piece, its blanks off, if anything is left. -/
def itemsTake (s : ByteArray) (fr hi : Nat) (out : List ByteArray) : List ByteArray :=
  if Lib.trimS (s.extract fr hi).data.toList [32, 9] = [] then out else out ++ [⟨(Lib.trimS (s.extract fr hi).data.toList [32, 9]).toArray⟩]
/-- A byte's turn: its place, where the piece began, are we in a quoted text. -/
def itemsGo (s : ByteArray) : Nat → Nat → Nat → Bool → List ByteArray → List ByteArray × Int
  | 0, _, _, _, _ => ([], 5)
  | k + 1, i, fr, q, out =>
    if i < s.size then
      (if bt s i = 34 then itemsGo s k (i + 1) fr (!q) out
       else if bt s i = 92 ∧ q = true then itemsGo s k (i + 2) fr q out
       else if bt s i = 44 ∧ q = false then itemsGo s k (i + 1) (i + 1) q (itemsTake s fr i out)
       else itemsGo s k (i + 1) fr q out)
    else if q = true then ([], 5) else (itemsTake s fr s.size out, 0)
def items_Split.f (a0 : ByteArray) : Option (List ByteArray × Int) := if a0.size < 1000000 then some (itemsGo a0 (a0.size + 2) 0 0 false []) else none
structure SpAt (w : World) (s : ByteArray) (fr : Nat) (out : List ByteArray) (b1 b5 b4 : Nat) (W : World) : Prop where
  k1 : W.heap[b1]? = some (.cells #[.string s] 9 (0, 0))
  k5 : W.heap[b5]? = some (.cells #[.int .i64 fr] 3 (0, 0))
  k4 : ∃ v, W.heap[b4]? = some (.cells #[v] 59 (0, 0)) ∧ Kd.R Kd.string 9 W w.heap.size (fun k => k ≠ b1) v out
  hb : Below w.heap.size w W
  h1 : w.heap.size ≤ b1
  h5 : w.heap.size ≤ b5
  h4 : w.heap.size ≤ b4
theorem SpAt.below {w W W' : World} {s : ByteArray} {fr b1 b5 b4 : Nat} {out : List ByteArray} (h : SpAt w s fr out b1 b5 b4 W) (hb : Below W.heap.size W W') : SpAt w s fr out b1 b5 b4 W' := by
  obtain ⟨v, hk, hr⟩ := h.k4
  exact ⟨blk_below h.k1 hb, blk_below h.k5 hb, ⟨v, blk_below hk hb, Kd.R_below hr hb⟩, below_step h.hb hb, h.h1, h.h5, h.h4⟩
theorem SpAt.from_ {w W : World} {s : ByteArray} {fr b1 b5 b4 : Nat} {out : List ByteArray} (h : SpAt w s fr out b1 b5 b4 W) (hi : Nat) : SpAt w s hi out b1 b5 b4 (W.setCell ⟨b5, 0, none⟩ (.int .i64 hi)) := by
  obtain ⟨v, hk, hr⟩ := h.k4
  have n1 : b1 ≠ b5 := blk_ne h.k1 h.k5 (by decide)
  have n4 : b4 ≠ b5 := blk_ne hk h.k5 (by decide)
  exact ⟨blk_far h.k1 n1 _, blk_put h.k5 0 _ rfl, ⟨v, blk_far hk n4 _, Kd.R_set hr h.k5 (by decide) 0 _⟩, h.hb.setCell h.h5 _, h.h1, h.h5, h.h4⟩
theorem SpAt.put {w W W' : World} {s : ByteArray} {fr b1 b5 b4 : Nat} {out out' : List ByteArray} {v : Value} (h : SpAt w s fr out b1 b5 b4 W) (hv : W.heap[b4]? = some (.cells #[v] 59 (0, 0))) (hr : Kd.R Kd.string 9 W w.heap.size (fun k => k ≠ b1) v out) (hg : W.grownBy W' v.ownBlock) (hb : Below w.heap.size w W') {v' : Value} (hr' : Kd.R Kd.string 9 W' w.heap.size (fun k => k ≠ b1) v' out') : SpAt w s fr out' b1 b5 b4 (W'.setCell ⟨b4, 0, none⟩ v') := by
  have e1 : some b1 ≠ v.ownBlock := fun e => hr.1 b1 e.symm rfl
  have k1 := blk_grown h.k1 hg e1
  have k5 := blk_grown h.k5 hg (Kd.R_ne hr h.k5 (by decide))
  have k4 := blk_grown hv hg (Kd.R_ne hr hv (by decide))
  have n1 : b1 ≠ b4 := blk_ne k1 k4 (by decide)
  have n5 : b5 ≠ b4 := blk_ne k5 k4 (by decide)
  exact ⟨blk_far k1 n1 _, blk_far k5 n5 _, ⟨v', blk_put k4 0 _ rfl, Kd.R_set hr' k4 (by decide) 0 _⟩, hb.setCell h.h4 _, h.h1, h.h5, h.h4⟩
theorem isEmpty_arr (l : List UInt8) : ((⟨l.toArray⟩ : ByteArray) = ⟨#[]⟩) ↔ l = [] := by
  constructor
  · intro h
    have := congrArg (fun x => x.data.toList) h
    exact this
  · rintro rfl; rfl
set_option maxHeartbeats 1600000 in
theorem items_take (w : World) (s : ByteArray) (fr hi : Nat) (out : List ByteArray) (b1 b5 b4 : Nat) (W : World) (h : SpAt w s fr out b1 b5 b4 W) (h1 : fr ≤ hi) (h2 : hi ≤ s.size) (hs : s.size < 1000000) (ho : out.length < 2000000) :
    Calls Tryz.prog 130 #[.int .i64 hi, .pointer (some ⟨b1, 0, none⟩), .pointer (some ⟨b5, 0, none⟩), .pointer (some ⟨b4, 0, none⟩)] W fun e w' => e = .returned (.tuple #[]) ∧ SpAt w s (hi + 1) (itemsTake s fr hi out) b1 b5 b4 w' := by
  have H := Aside0.mk h
  have c1 := blk_cell h.k1 0
  have c5 := blk_cell h.k5 0
  have g1 : (fr : Int) ≤ hi := by omega
  have g2 : (hi : Int) ≤ s.size := by omega
  have g3 : (0 : Int) ≤ fr := by omega
  have g4 : (0 : Int) ≤ hi := by omega
  have ht : octet_Trim.f (s.extract fr hi) = some ⟨(Lib.trimS (s.extract fr hi).data.toList [32, 9]).toArray⟩ := if_pos (by rw [ByteArray.size_extract]; omega)
  have HTR := fun (W : World) => octet_Trim.calls (s.extract fr hi) _ W ht
  by_cases he : Lib.trimS (s.extract fr hi).data.toList [32, 9] = []
  · have hit : itemsTake s fr hi out = out := if_pos he
    rw [hit]
    rw [he] at HTR
    clear h ht he hit
    go_enter Tryz.func130, Tryz.ntmps130
    go_wp2_with (go_at_call 93; refine (HTR _).mono ?_; rintro e w1 ⟨rfl, hb⟩; have H1 := Aside0.mk (H.out.below hb); have z5 := blk_cell H1.out.k5 0; have y5 := blk_frozen H1.out.k5 0; clear H c1 c5 hb)
    go_end0
    have hh := H1.out.from_ (hi + 1)
    rw [show ((hi + 1 : Nat) : Int) = (hi : Int) + 1 by omega] at hh
    exact ⟨rfl, hh⟩
  · have hit : itemsTake s fr hi out = out ++ [⟨(Lib.trimS (s.extract fr hi).data.toList [32, 9]).toArray⟩] := if_neg he
    rw [hit]
    have hne2 : ¬ (⟨(Lib.trimS (s.extract fr hi).data.toList [32, 9]).toArray⟩ : ByteArray).toList = [] := by rw [ByteArray.toList_eq]; exact he
    generalize (⟨(Lib.trimS (s.extract fr hi).data.toList [32, 9]).toArray⟩ : ByteArray) = pt at HTR hne2 ⊢
    have hne3 : pt.toList.isEmpty = false := by cases hq : pt.toList with
      | nil => exact absurd hq hne2
      | cons a l => rfl
    clear h ht he hit hne2
    go_enter Tryz.func130, Tryz.ntmps130
    go_wp2_with (first | (go_at_call 93; refine (HTR _).mono ?_; rintro e w1 ⟨rfl, hb⟩; have H1 := Aside0.mk (H.out.below hb); obtain ⟨v, hk, hr⟩ := H1.out.k4; have HK := Aside0.mk hk; have HR := Aside0.mk hr; obtain ⟨A, c, rfl⟩ := Kd.R_slice hr; have z4 := blk_cell hk 0; have hlt1 := blk_lt H1.out.k1; clear H c1 c5 hb hk hr) | (at_builtin; go_loud ((refine Kd.R_append Kd.string (w0 := w) w.heap.size rfl (.tmp 13) (.tmp 15) 59 9 (.string ⟨#[]⟩) 16 rfl Tryz.underlying59 fields_infos rfl (by decide) (by omega) (.slice A out.length c) out pt [.string pt] (fun k => k ≠ b1) (fun _ => False) rfl rfl ?aP (fun _ hk => hk.elim) ?aF ?aO ?aB ?aS ?aL ?_); (case aP => exact rfl); (case aB => exact H1.out.hb); (case aF => exact (fun k hk => by omega)); (case aO => exact HR.out); (case aS => exact H1.out.hb.size); (case aL => omega); intro v2 w2 ho2 hb2 hg2 hat2; obtain ⟨A2, c2, rfl⟩ := Kd.R_slice ho2; have H2 := Aside0.mk (SpAt.put H1.out HK.out HR.out hg2 hb2 ho2); have k4 := blk_grown HK.out hg2 (Kd.R_ne HR.out HK.out (by decide)); have k5 := blk_grown H1.out.k5 hg2 (Kd.R_ne HR.out H1.out.k5 (by decide)); have x4 := blk_cell k4 0; have f4 := blk_frozen k4 0; have n45 := blk_ne k4 k5 (by decide); have x5 := blk_cell k5 0; have f5 := blk_frozen k5 0; clear H1 HK HR z4 ho2 hb2 hg2 hat2 k4 k5)))
    go_end0
    have hh := H2.out.from_ (hi + 1)
    rw [show ((hi + 1 : Nat) : Int) = (hi : Int) + 1 by omega, show (out ++ [pt]).length = out.length + 1 by simp] at hh
    exact ⟨rfl, hh⟩
set_option maxHeartbeats 3200000 in
set_option maxRecDepth 100000 in
theorem items_Split.calls (a0 : ByteArray) (r1 : List ByteArray) (r2 : Int) (w : World) (h : items_Split.f a0 = some (r1, r2)) :
    Calls Tryz.prog 98 #[.string a0] w fun e w' => ∃ v0_ : Value, e = .returned (.tuple #[v0_, .int .i64 r2]) ∧ Kd.R Kd.string 9 w' w.heap.size (fun _ => True) v0_ r1 ∧ Below w.heap.size w w' := by
  unfold items_Split.f at h
  split at h
  case isFalse => cases h
  case isTrue hs =>
  have HRES := Aside0.mk (Option.some.inj h)
  clear h
  go_enter Tryz.func98, Tryz.ntmps98
  go_wp2; (try (go_step3; go_wp2)); (try (go_step3; go_wp2))
  have hb1 := Hand.alloc_below w (.cells #[.string a0] 9)
  have S0 : Aside0 (SpAt w a0 0 [] w.heap.size (w.heap.size + 1 + 1) (w.heap.size + 1) (((w.alloc (.cells #[.string a0] 9)).alloc (.cells #[.slice none 0 0] 59)).alloc (.cells #[.int .i64 0] 3))) := by
    have e1 := blk_new w (.cells #[.string a0] 9)
    have e2 := blk_new (w.alloc (.cells #[.string a0] 9)) (.cells #[.slice none 0 0] 59)
    have e3 := blk_new ((w.alloc (.cells #[.string a0] 9)).alloc (.cells #[.slice none 0 0] 59)) (.cells #[.int .i64 0] 3)
    rw [show (w.alloc (.cells #[.string a0] 9)).heap.size = w.heap.size + 1 by simp] at e2
    rw [show ((w.alloc (.cells #[.string a0] 9)).alloc (.cells #[.slice none 0 0] 59)).heap.size = w.heap.size + 1 + 1 by simp] at e3
    exact ⟨blk_alloc (blk_alloc e1 _) _, e3, ⟨_, blk_alloc e2 _, Kd.R_nil _ _ _ _ _⟩, ((hb1.alloc hb1.size _).alloc (by simp; omega) _), Nat.le_refl _, by omega, by omega⟩
  clear hb1
  generalize ((w.alloc (.cells #[.string a0] 9)).alloc (.cells #[.slice none 0 0] 59)).alloc (.cells #[.int .i64 0] 3) = W0 at S0 ⊢
  go_loopw [7, 8] (fun v7 v8 wx => ∃ (i fr kf : Nat) (q : Bool) (out : List ByteArray), v7 = .bool q ∧ v8 = .int .i64 i ∧ i ≤ a0.size + 1 ∧ fr ≤ i ∧ fr ≤ a0.size ∧ out.length ≤ i ∧ a0.size + 1 < kf + i ∧ Aside0 (SpAt w a0 fr out w.heap.size (w.heap.size + 1 + 1) (w.heap.size + 1) wx) ∧ Aside0 (itemsGo a0 kf i fr q out = (r1, r2))) (fun _ v8 _ => a0.size + 2 - (intOf v8).toNat)
  case atStart => exact ⟨0, 0, a0.size + 2, false, [], rfl, rfl, Nat.zero_le _, Nat.le_refl _, Nat.zero_le _, Nat.le_refl _, by omega, S0, HRES⟩
  case round =>
    clear S0 HRES
    obtain ⟨i, fr, kf, q, out, rfl, rfl, hi, hfi, hfs, ho, hk, HS, HG⟩ := hrel
    have c1 := blk_cell HS.out.k1 0
    by_cases hlt : i < a0.size
    · obtain ⟨kf, rfl⟩ : ∃ m, kf = m + 1 := ⟨kf - 1, by omega⟩
      have hg := HG.out
      rw [itemsGo, if_pos hlt] at hg
      have hbt : bt a0 (i : Int) = ((a0[i]'hlt).toNat : Int) := (bt_at a0 (i : Int) (by omega)).symm
      rw [hbt] at hg
      clear hbt HG
      have HG2 := Aside0.mk hg
      clear hg
      by_cases h34 : ((a0[i]'hlt).toNat : Int) = 34
      · have e34 : (((a0[i]'hlt).toNat : Int) == 34) = true := beq_iff_eq.2 h34
        have hg := HG2.out
        rw [if_pos h34] at hg
        have HG3 := Aside0.mk hg
        clear hg HG2 h34
        go_wp2
        go_roundw
        case rel => exact ⟨i + 1, fr, kf, !q, out, by simp, by go_num, by omega, by omega, hfs, by omega, by omega, HS, HG3⟩
        case measure => simp [intOf]; omega
      · have e34 : (((a0[i]'hlt).toNat : Int) == 34) = false := beq_eq_false_iff_ne.2 h34
        have hg := HG2.out
        rw [if_neg h34] at hg
        clear HG2
        by_cases h92 : ((a0[i]'hlt).toNat : Int) = 92
        · have e92 : (((a0[i]'hlt).toNat : Int) == 92) = true := beq_iff_eq.2 h92
          have e44 : (((a0[i]'hlt).toNat : Int) == 44) = false := beq_eq_false_iff_ne.2 (by omega)
          cases q
          · rw [if_neg (by simp), if_neg (by omega)] at hg
            have HG3 := Aside0.mk hg
            clear hg h34 h92
            go_wp2
            go_roundw
            case rel => exact ⟨i + 1, fr, kf, false, out, rfl, by go_num, by omega, by omega, hfs, by omega, by omega, HS, HG3⟩
            case measure => simp [intOf]; omega
          · rw [if_pos ⟨h92, rfl⟩] at hg
            have HG3 := Aside0.mk hg
            clear hg h34 h92
            go_wp2
            go_roundw
            case rel => exact ⟨i + 2, fr, kf, true, out, rfl, by go_num, by omega, by omega, hfs, by omega, by omega, HS, HG3⟩
            case measure => simp [intOf]; omega
        · have e92 : (((a0[i]'hlt).toNat : Int) == 92) = false := beq_eq_false_iff_ne.2 h92
          rw [if_neg (fun h => h92 h.1)] at hg
          by_cases h44 : ((a0[i]'hlt).toNat : Int) = 44
          · have e44 : (((a0[i]'hlt).toNat : Int) == 44) = true := beq_iff_eq.2 h44
            cases q
            · rw [if_pos ⟨h44, rfl⟩] at hg
              have HG3 := Aside0.mk hg
              have HTK := items_take w a0 fr i out _ _ _ wr HS.out hfi (by omega) hs (by omega)
              have hol : (itemsTake a0 fr i out).length ≤ i + 1 := by unfold itemsTake; split; omega; simp; omega
              clear hg h34 h92 h44
              go_wp2_with (go_at_call 130; refine HTK.mono ?_; rintro e w4 ⟨rfl, hs4⟩; have HS4 := Aside0.mk hs4; clear HS HTK hs4)
              go_roundw
              case rel => exact ⟨i + 1, i + 1, kf, false, itemsTake a0 fr i out, rfl, by go_num, by omega, Nat.le_refl _, by omega, hol, by omega, HS4, HG3⟩
              case measure => simp [intOf]; omega
            · rw [if_neg (by simp)] at hg
              have HG3 := Aside0.mk hg
              clear hg h34 h92 h44
              go_wp2
              go_roundw
              case rel => exact ⟨i + 1, fr, kf, true, out, rfl, by go_num, by omega, by omega, hfs, by omega, by omega, HS, HG3⟩
              case measure => simp [intOf]; omega
          · have e44 : (((a0[i]'hlt).toNat : Int) == 44) = false := beq_eq_false_iff_ne.2 h44
            rw [if_neg (fun h => h44 h.1)] at hg
            have HG3 := Aside0.mk hg
            clear hg h34 h92 h44
            go_wp2
            go_roundw
            case rel => exact ⟨i + 1, fr, kf, q, out, rfl, by go_num, by omega, by omega, hfs, by omega, by omega, HS, HG3⟩
            case measure => simp [intOf]; omega
    · obtain ⟨kf, rfl⟩ : ∃ m, kf = m + 1 := ⟨kf - 1, by omega⟩
      have hg := HG.out
      rw [itemsGo, if_neg hlt] at hg
      clear HG
      cases q
      · rw [if_neg (by simp)] at hg
        have HG3 := Aside0.mk hg
        have HTK := items_take w a0 fr a0.size out _ _ _ wr HS.out hfs (Nat.le_refl _) hs (by omega)
        clear hg
        go_wp2_with (go_at_call 130; refine HTK.mono ?_; rintro e w4 ⟨rfl, hs4⟩; obtain ⟨v, hk4, hr4⟩ := hs4.k4; have HR4 := Aside0.mk hr4; have HB4 := Aside0.mk hs4.hb; have z4 := blk_cell hk4 0; clear HS HTK hs4 hk4 hr4)
        (try rw [Exit.noGoto_ret]); go_ret2
        obtain ⟨rfl, rfl⟩ : itemsTake a0 fr a0.size out = r1 ∧ 0 = r2 := by simpa using HG3.out
        exact ⟨_, rfl, Kd.R_mono HR4.out (fun _ _ => trivial), HB4.out⟩
      · rw [if_pos rfl] at hg
        obtain ⟨rfl, rfl⟩ : [] = r1 ∧ 5 = r2 := by simpa using hg
        clear hg
        go_wp2
        (try rw [Exit.noGoto_ret]); go_ret2
        exact ⟨_, rfl, Kd.R_nil _ _ _ _ _, HS.out.hb⟩

end Go.Proofs.YtjaklgikfcahdaaGreatDoor.PB
