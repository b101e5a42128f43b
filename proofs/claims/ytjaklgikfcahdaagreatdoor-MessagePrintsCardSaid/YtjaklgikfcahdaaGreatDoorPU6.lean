-- Halved: the indents of this text are half of the print's.
-- Out of the translation, by a program of this session: each function that a law comes to as a Lean function, and that the machine's call does what it says. Lean checks it.
import Derived.Test.YtjaklgikfcahdaaGreatDoorPU0
import Derived.Test.YtjaklgikfcahdaaGreatDoorPU1
import Derived.Test.YtjaklgikfcahdaaGreatDoorPU2
import Derived.Test.YtjaklgikfcahdaaGreatDoorPU3
import Derived.Test.YtjaklgikfcahdaaGreatDoorPU4
import Derived.Test.YtjaklgikfcahdaaGreatDoorPU5
namespace Go.Proofs.YtjaklgikfcahdaaGreatDoor.PU
open Go.RowKit Go.Proofs.YtjaklgikfcahdaaGreatDoorW.PrintWords Go.Proofs.YtjaklgikfcahdaaGreatDoorW.PrintLast Go.Proofs.YtjaklgikfcahdaaGreatDoorW.PrintMore
attribute [local go_sem] max2_int min2_int max_two min_two max_three min_three max_four min_four   -- for this text's walks alone
set_option linter.unusedVariables false
set_option linter.unusedSimpArgs false

/-! ### message_ParseRequest: function 9: told by hand -/
def hostedP (fs : List S98) (minor : Int) : Option Bool := (fields_All.f fs (⟨#[72, 111, 115, 116]⟩ : ByteArray)).bind fun l => some (if l.length = 1 then true else if l.length = 0 then decide (minor = 0) else false)
set_option maxHeartbeats 1600000 in
theorem message_hosted (A : Option Addr) (c : Nat) (fs : List S98) (minor : Int) (r : Bool) (b : Nat) (W : World) (k1 : W.cell? ⟨b, 1, none⟩ = some (.slice A fs.length c)) (k2 : W.cell? ⟨b, 2, none⟩ = some (.int .i64 minor)) (hC : Kd.C k98 W A fs.length fs) (hc : fs.length ≤ c) (h : hostedP fs minor = some r) :
  Calls Tryz.prog 30 #[.pointer (some ⟨b, 0, none⟩)] W fun e w' => e = .returned (.bool r) ∧ Below W.heap.size W w' := by
 unfold hostedP at h
 obtain ⟨l, hl, h⟩ := Option.bind_eq_some_iff.1 h
 obtain rfl := Option.some.inj h
 have HA := Aside0.mk (fields_All.calls A c fs (⟨#[72, 111, 115, 116]⟩ : ByteArray) l W hC hc hl)
 have hb2 := World.block_lt_of_cell? W _ k2
 clear hC hl h
 by_cases h1 : l.length = 1
 ·rw [if_pos h1]
  have e1 : ((l.length : Int) == 1) = true := beq_iff_eq.2 (by omega)
  clear h1
  go_enter Tryz.func30, Tryz.ntmps30
  go_wp2_with (go_at_call 62; refine HA.out.mono ?_; rintro e w1 ⟨v, rfl, ho, hb⟩; clear HA; obtain ⟨A1, c1, rfl, hl1, hC1⟩ := Kd.R_reads ho; have HB := Aside0.mk hb; clear ho hC1 hb)
  go_ret
  exact ⟨rfl, HB.out⟩
 ·rw [if_neg h1]
  have e1 : ((l.length : Int) == 1) = false := beq_eq_false_iff_ne.2 (by omega)
  by_cases h0 : l.length = 0
  ·rw [if_pos h0]
   have e0 : ((l.length : Int) == 0) = true := beq_iff_eq.2 (by omega)
   clear h1 h0
   go_enter Tryz.func30, Tryz.ntmps30
   go_wp2_with (go_at_call 62; refine HA.out.mono ?_; rintro e w1 ⟨v, rfl, ho, hb⟩; clear HA; obtain ⟨A1, c1, rfl, hl1, hC1⟩ := Kd.R_reads ho; have j2 := (hb.cell hb2).trans k2; have HB := Aside0.mk hb; clear ho hC1 hb)
   go_ret
   exact ⟨by rfl, HB.out⟩
  ·rw [if_neg h0]
   have e0 : ((l.length : Int) == 0) = false := beq_eq_false_iff_ne.2 (by omega)
   clear h1 h0
   go_enter Tryz.func30, Tryz.ntmps30
   go_wp2_with (go_at_call 62; refine HA.out.mono ?_; rintro e w1 ⟨v, rfl, ho, hb⟩; clear HA; obtain ⟨A1, c1, rfl, hl1, hC1⟩ := Kd.R_reads ho; have j2 := (hb.cell hb2).trans k2; have HB := Aside0.mk hb; clear ho hC1 hb)
   go_ret
   exact ⟨rfl, HB.out⟩
def frames : List ByteArray := [(⟨#[67, 111, 110, 116, 101, 110, 116, 45, 76, 101, 110, 103, 116, 104]⟩ : ByteArray), (⟨#[84, 114, 97, 110, 115, 102, 101, 114, 45, 69, 110, 99, 111, 100, 105, 110, 103]⟩ : ByteArray), (⟨#[84, 114, 97, 105, 108, 101, 114]⟩ : ByteArray)]
def bareP (fs : List S98) : Option (List S98) := fields_Drop.f fs frames
set_option maxHeartbeats 1600000 in
theorem message_bare (A : Option Addr) (c : Nat) (fs r : List S98) (b : Nat) (W : World) (k1 : W.cell? ⟨b, 1, none⟩ = some (.slice A fs.length c)) (hC : Kd.C k98 W A fs.length fs) (hc : fs.length ≤ c) (h : bareP fs = some r) :
  Calls Tryz.prog 32 #[.pointer (some ⟨b, 0, none⟩)] W fun e w' => ∃ v0_ : Value, e = .returned (v0_) ∧ Kd.R k98 98 w' W.heap.size (fun _ => True) v0_ r ∧ Below W.heap.size W w' := by
 have HD := fun (W1 : World) (hb : Below W.heap.size W W1) (A1 : Option Addr) (c1 : Nat) (hr1 : Kd.C Kd.string W1 A1 frames.length frames) (hc1 : frames.length ≤ c1) => fields_Drop.calls A c fs A1 c1 frames r W1 (Kd.C_below hC hb) hc hr1 hc1 h
 have HDD := Aside0.mk HD
 clear hC h HD
 go_enter Tryz.func32, Tryz.ntmps32
 go_wp2_with (first | ((with_reducible refine gate_dst (N := 7) rfl ?_); refine Kd.R_lit Kd.string _ 9 ?hg (N := 7) ?hd (xs := [(⟨#[67, 111, 110, 116, 101, 110, 116, 45, 76, 101, 110, 103, 116, 104]⟩ : ByteArray), (⟨#[84, 114, 97, 110, 115, 102, 101, 114, 45, 69, 110, 99, 111, 100, 105, 110, 103]⟩ : ByteArray), (⟨#[84, 114, 97, 105, 108, 101, 114]⟩ : ByteArray)]) (inner := [.string (⟨#[67, 111, 110, 116, 101, 110, 116, 45, 76, 101, 110, 103, 116, 104]⟩ : ByteArray), .string (⟨#[84, 114, 97, 110, 115, 102, 101, 114, 45, 69, 110, 99, 111, 100, 105, 110, 103]⟩ : ByteArray), .string (⟨#[84, 114, 97, 105, 108, 101, 114]⟩ : ByteArray)]) (ok := fun _ => True) (okp := fun _ => True) ?hr ?hp (fun _ hk => hk) trivial (Below.refl _ _) (Nat.le_refl _) (by simp) ?_; (case hd => rfl); (case hg => rfl); (case hr => first | (go_simp; done) | (go_simp; rfl)); (case hp => exact (Reps.one (show Kd.M Kd.string _ _ _ (⟨#[67, 111, 110, 116, 101, 110, 116, 45, 76, 101, 110, 103, 116, 104]⟩ : ByteArray) [.string (⟨#[67, 111, 110, 116, 101, 110, 116, 45, 76, 101, 110, 103, 116, 104]⟩ : ByteArray)] from rfl) (Reps.one (show Kd.M Kd.string _ _ _ (⟨#[84, 114, 97, 110, 115, 102, 101, 114, 45, 69, 110, 99, 111, 100, 105, 110, 103]⟩ : ByteArray) [.string (⟨#[84, 114, 97, 110, 115, 102, 101, 114, 45, 69, 110, 99, 111, 100, 105, 110, 103]⟩ : ByteArray)] from rfl) (Reps.one (show Kd.M Kd.string _ _ _ (⟨#[84, 114, 97, 105, 108, 101, 114]⟩ : ByteArray) [.string (⟨#[84, 114, 97, 105, 108, 101, 114]⟩ : ByteArray)] from rfl) (Reps.none _ _))))); intro v1 w1 ho hb hg_ hnew_; obtain ⟨A1, c1, rfl, hl1, hC1⟩ := Kd.R_reads ho; have HB1 := Aside0.mk hb; have HF := Aside0.mk (HDD.out w1 hb A1 c1 hC1 hl1); clear HDD ho hb hC1 hg_ hnew_) | (go_at_call 65; refine HF.out.mono ?_; rintro e w2 ⟨v, rfl, ho, hb2⟩; clear HF; have HO := Aside0.mk (Kd.R_lower ho HB1.out.size); have HB2 := Aside0.mk (below_then HB1.out HB1.out.size hb2); clear ho hb2))
 go_ret
 exact ⟨_, rfl, HO.out, HB2.out⟩
def msgBegin (raw : ByteArray) : Option (Int × List ByteArray × ByteArray) :=
 if 65536 < raw.size then some (4, [], (⟨#[]⟩ : ByteArray)) else
 (strings_Cut.f raw (⟨#[13, 10, 13, 10]⟩ : ByteArray)).bind fun t => if t.2.2 = true then (if t.1.size = 0 then some (5, [], (⟨#[]⟩ : ByteArray)) else
  (strings_HasPrefix.f raw (⟨#[13, 10]⟩ : ByteArray)).bind fun p => if p = true then some (5, [], (⟨#[]⟩ : ByteArray)) else
  (strings_Split.f t.1 (⟨#[13, 10]⟩ : ByteArray)).bind fun l => if 0 < l.length then some (0, l, t.2.1) else none) else some (5, [], (⟨#[]⟩ : ByteArray))
theorem empty_beq {s : ByteArray} (h : s.size = 0) : (s.toList == []) = true := by rw [Hand.toList_nil_of h]; rfl
theorem empty_ne {s : ByteArray} (h : ¬ s.size = 0) : (s.toList == []) = false := Hand.toList_cons_of h
theorem empty_ise {s : ByteArray} (h : s.size = 0) : s.toList.isEmpty = true := by rw [Hand.toList_nil_of h]; rfl
theorem empty_isn {s : ByteArray} (h : ¬ s.size = 0) : s.toList.isEmpty = false := by
 have := Hand.toList_cons_of h
 cases hq : s.toList with
 | nil => rw [hq] at this; cases this
 | cons a l => rfl
set_option maxHeartbeats 1600000 in
theorem message_begin_no (raw : ByteArray) (e : Int) (he : e ≠ 0) (w : World) (HT : Aside0 (Hand.Laid w)) (h : msgBegin raw = some (e, [], (⟨#[]⟩ : ByteArray))) :
  Calls Tryz.prog 27 #[.string raw] w fun x w' => x = .returned (.tuple #[.pointer none, .int .i64 e]) ∧ Below w.heap.size w w' := by
 unfold msgBegin at h
 by_cases h1 : 65536 < raw.size
 ·rw [if_pos h1] at h
  obtain rfl : 4 = e := by simpa using h
  have c1 : decide (65536 < (raw.size : Int)) = true := decide_eq_true (by omega)
  have c2 : decide (65536 < raw.size) = true := decide_eq_true h1
  clear h he h1
  go_enter Tryz.func27, Tryz.ntmps27
  go_wp2
  go_ret2
  exact ⟨rfl, Below.refl _ _⟩
 ·rw [if_neg h1] at h
  have c1 : decide (65536 < (raw.size : Int)) = false := decide_eq_false (by omega)
  have c2 : decide (65536 < raw.size) = false := decide_eq_false h1
  obtain ⟨⟨t1, t2, t3⟩, ht, h⟩ := Option.bind_eq_some_iff.1 h
  have HC := Aside0.mk ht
  simp only at h
  clear ht h1
  cases t3
  ·obtain rfl : 5 = e := by simpa using h
   clear h he
   go_enter Tryz.func27, Tryz.ntmps27
   go_wp2_with (go_at_call 55; refine (strings_Cut.calls raw (⟨#[13, 10, 13, 10]⟩ : ByteArray) t1 t2 false _ ⟨HT.out.below (Below.refl _ _)⟩ HC.out).mono ?_; rintro x w1 ⟨rfl, hb⟩; have HB := Aside0.mk hb; clear hb)
   go_ret2
   exact ⟨rfl, HB.out⟩
  ·rw [if_pos rfl] at h
   by_cases h2 : t1.size = 0
   ·rw [if_pos h2] at h
    obtain rfl : 5 = e := by simpa using h
    have d1 := empty_beq h2
    have d2 := empty_ise h2
    clear h he h2
    go_enter Tryz.func27, Tryz.ntmps27
    go_wp2_with (go_at_call 55; refine (strings_Cut.calls raw (⟨#[13, 10, 13, 10]⟩ : ByteArray) t1 t2 true _ ⟨HT.out.below (Below.refl _ _)⟩ HC.out).mono ?_; rintro x w1 ⟨rfl, hb⟩; have HB := Aside0.mk hb; clear hb)
    go_ret2
    exact ⟨rfl, HB.out⟩
   ·rw [if_neg h2] at h
    have d1 := empty_ne h2
    have d2 := empty_isn h2
    obtain ⟨p, hp, h⟩ := Option.bind_eq_some_iff.1 h
    have HP := Aside0.mk hp
    clear hp h2
    cases p
    ·rw [if_neg (by simp)] at h
     obtain ⟨l, _, h⟩ := Option.bind_eq_some_iff.1 h
     split at h
     ·exact absurd (by simpa using h : 0 = e ∧ _).1.symm he
     ·cases h
    ·rw [if_pos rfl] at h
     obtain rfl : 5 = e := by simpa using h
     clear h he
     go_enter Tryz.func27, Tryz.ntmps27
     go_wp2_with (first | (go_at_call 55; refine (strings_Cut.calls raw (⟨#[13, 10, 13, 10]⟩ : ByteArray) t1 t2 true _ ⟨HT.out.below (Below.refl _ _)⟩ HC.out).mono ?_; rintro x w1 ⟨rfl, hb⟩; have HB := Aside0.mk hb; clear hb) | (go_at_call 56; refine (strings_HasPrefix.calls raw (⟨#[13, 10]⟩ : ByteArray) true _ HP.out).mono ?_; rintro x w2 ⟨rfl, n2, rfl⟩))
     go_ret2
     exact ⟨rfl, pw_below_drewN HB.out _⟩
set_option maxHeartbeats 1600000 in
set_option maxRecDepth 100000 in
theorem message_begin_ok (raw : ByteArray) (l : List ByteArray) (rest : ByteArray) (w : World) (HT : Aside0 (Hand.Laid w)) (h : msgBegin raw = some (0, l, rest)) :
  0 < l.length ∧ Calls Tryz.prog 27 #[.string raw] w fun x w' => ∃ b A c, x = .returned (.tuple #[.pointer (some ⟨b, 0, none⟩), .int .i64 0]) ∧ w'.heap[b]? = some (.cells #[.string (l.getD 0 ByteArray.empty), .slice none 0 0, .int .i64 0, .slice A (l.drop 1).length c, .string rest] 61 (0, 0)) ∧ Kd.C Kd.string w' A (l.drop 1).length (l.drop 1) ∧ (l.drop 1).length ≤ c ∧ (∀ a, A = some a → 0 < (l.drop 1).length → a.block < b) ∧ w.heap.size ≤ b ∧ Below w.heap.size w w' := by
 unfold msgBegin at h
 by_cases h1 : 65536 < raw.size
 ·rw [if_pos h1] at h
  simp at h
 ·rw [if_neg h1] at h
  have c1 : decide (65536 < (raw.size : Int)) = false := decide_eq_false (by omega)
  have c2 : decide (65536 < raw.size) = false := decide_eq_false h1
  obtain ⟨⟨t1, t2, t3⟩, ht, h⟩ := Option.bind_eq_some_iff.1 h
  have HC := Aside0.mk ht
  simp only at h
  clear ht h1
  cases t3
  ·simp at h
  ·rw [if_pos rfl] at h
   by_cases h2 : t1.size = 0
   ·rw [if_pos h2] at h
    simp at h
   ·rw [if_neg h2] at h
    have d1 := empty_ne h2
    have d2 := empty_isn h2
    obtain ⟨p, hp, h⟩ := Option.bind_eq_some_iff.1 h
    have HP := Aside0.mk hp
    clear hp h2
    cases p
    case true =>
     rw [if_pos rfl] at h
     simp at h
    rw [if_neg (by simp)] at h
    obtain ⟨l', hl, h⟩ := Option.bind_eq_some_iff.1 h
    split at h
    case isFalse => cases h
    case isTrue hp0 =>
     obtain ⟨rfl, rfl⟩ : l' = l ∧ t2 = rest := by simpa using h
     refine ⟨hp0, ?_⟩
     have HL := Aside0.mk hl
     have i0 : (0 < l'.length) = True := eq_true hp0
     have i1 : (0 : Int) < l'.length := by omega
     have i2 : (1 : Int) ≤ l'.length := by omega
     have hdl : (l'.drop 1).length = l'.length - 1 := List.length_drop
     obtain ⟨i3, hi3, _, hsz, _⟩ := info_parts info9
     clear h hl
     go_enter Tryz.func27, Tryz.ntmps27
     go_wp2_with (first | (go_at_call 55; refine (strings_Cut.calls raw (⟨#[13, 10, 13, 10]⟩ : ByteArray) t1 t2 true _ ⟨HT.out.below (Below.refl _ _)⟩ HC.out).mono ?_; rintro x w1 ⟨rfl, hb⟩; have HB := Aside0.mk hb; clear hb) | (go_at_call 56; refine (strings_HasPrefix.calls raw (⟨#[13, 10]⟩ : ByteArray) false _ HP.out).mono ?_; rintro x w2 ⟨rfl, n2, rfl⟩; have HB2 := Aside0.mk (pw_below_drewN HB.out n2); clear HB) | (go_at_call 57; refine (strings_Split.calls t1 (⟨#[13, 10]⟩ : ByteArray) l' _ ⟨HT.out.below HB2.out⟩ HL.out).mono ?_; rintro x w3 ⟨v, rfl, ho, hb⟩; obtain ⟨A0, c0, rfl, hlc, hC0⟩ := Kd.R_reads ho; have HB3 := Aside0.mk (below_step HB2.out hb); obtain ⟨bk, o, rfl, hbk, hcells⟩ := Hand.C_cells hC0 hp0; have x0 := hcells 0 l'[0] (List.getElem?_eq_getElem hp0); rw [Nat.add_zero] at x0; have hD := Kd.C_drop (m := 1) hC0 hp0 hlc; have hcut := cut_from (P := Tryz.prog) 59 9 .i64 Tryz.underlying59 hi3 1 hsz (some ⟨bk, o, none⟩) l'.length c0 1 (by omega) i2; have e1 : (1 : Int).toNat = 1 := rfl; rw [e1] at hcut; rw [show Kd.string.sz = 1 from rfl] at hD; obtain ⟨Aq, hAq⟩ : ∃ A1, A1 = (if c0 = 1 then some (⟨bk, o, none⟩ : Addr) else Option.map (fun x => x.add (1 * 1)) (some (⟨bk, o, none⟩ : Addr))) := ⟨_, rfl⟩; rw [← hAq] at hcut hD; have hqb : ∀ a, Aq = some a → a.block = bk := fun a ha => (by rw [hAq] at ha; split at ha; (obtain rfl := Option.some.inj ha; rfl); (obtain rfl := Option.some.inj ha; unfold Addr.add; split <;> rfl)); have HQB := Aside0.mk hqb; clear hAq hqb; have HBK := Aside0.mk hbk; have HD := Aside0.mk hD; have HLC := Aside0.mk hlc; clear HB2 hb ho hC0 hcells hbk hD))
     go_region_with (fail)
     all_goals
      go_wp2_with fail
      go_ret2
      rw [show l'.getD 0 ByteArray.empty = l'[0] by rw [List.getD_eq_getElem?_getD, List.getElem?_eq_getElem hp0]; rfl]
      refine ⟨w3.heap.size, Aq, c0 - 1, rfl, ?_, Kd.C_below HD.out (Hand.alloc_below _ _).drew, by omega, fun a ha _ => by rw [HQB.out a ha]; exact HBK.out, HB3.out.size, (HB3.out.alloc HB3.out.size _).drew⟩
      rw [hdl]
      exact blk_new _ _
/-- A message on its way in block b; its lines in block bl; what it is put into in block g. -/
structure PaAt (w : World) (b bl : Nat) (ob : Obj) (n : Nat) (cs : Array Value) (v : Value) (fs : List S98) (g : Nat) (rc : Array Value) (gt : Nat) (W : World) : Prop where
 k : W.heap[b]? = some (.cells cs 61 (0, 0))
 r : Kd.R k98 98 W w.heap.size (fun k => k ≠ bl) v fs
 l : 0 < n → W.heap[bl]? = some ob
 hb : Below w.heap.size w W
 h1 : w.heap.size ≤ b
 h2 : bl < b
 kg : W.heap[g]? = some (.cells rc gt (0, 0))
 h3 : b < g
 t1 : 98 ≠ gt
 t2 : ∀ q, q ∈ 98 :: k98.E → q ≠ gt
section
variable {w : World} {b bl : Nat} {ob : Obj} {n : Nat} {cs : Array Value} {v : Value} {fs : List S98} {g : Nat} {rc : Array Value} {gt : Nat} {W W' : World}
theorem PaAt.below (h : PaAt w b bl ob n cs v fs g rc gt W) (hb : Below W.heap.size W W') : PaAt w b bl ob n cs v fs g rc gt W' :=
 ⟨blk_below h.k hb, Kd.R_below h.r hb, fun hn => blk_below (h.l hn) hb, below_step h.hb hb, h.h1, h.h2, blk_below h.kg hb, h.h3, h.t1, h.t2⟩
theorem PaAt.put (h : PaAt w b bl ob n cs v fs g rc gt W) (j : Nat) (u : Value) {cs' : Array Value} (hc : cs.setIfInBounds j u = cs') : PaAt w b bl ob n cs' v fs g rc gt (W.setCell ⟨b, j, none⟩ u) :=
 ⟨blk_put h.k j u hc, Kd.R_set h.r h.k (by decide) j u, fun hn => (Below.heap_setCell W ⟨b, j, none⟩ u bl (Nat.ne_of_lt h.h2)).trans (h.l hn), h.hb.setCell h.h1 _, h.h1, h.h2, blk_far h.kg (Nat.ne_of_gt h.h3) u, h.h3, h.t1, h.t2⟩
theorem PaAt.putg (h : PaAt w b bl ob n cs v fs g rc gt W) (j : Nat) (u : Value) {rc' : Array Value} (hc : rc.setIfInBounds j u = rc') : PaAt w b bl ob n cs v fs g rc' gt (W.setCell ⟨g, j, none⟩ u) :=
 ⟨blk_far h.k (Nat.ne_of_lt h.h3) u, Kd.R_set h.r h.kg h.t2 j u, fun hn => (Below.heap_setCell W ⟨g, j, none⟩ u bl (Nat.ne_of_lt (Nat.lt_trans h.h2 h.h3))).trans (h.l hn), h.hb.setCell (Nat.le_of_lt (Nat.lt_of_le_of_lt h.h1 h.h3)) _, h.h1, h.h2, blk_put h.kg j u hc, h.h3, h.t1, h.t2⟩
theorem PaAt.app (h : PaAt w b bl ob n cs v fs g rc gt W) (hg : W.grownBy W' v.ownBlock) (hb : Below w.heap.size w W') {v' : Value} {fs' : List S98} (hr : Kd.R k98 98 W' w.heap.size (fun k => k ≠ bl) v' fs') : PaAt w b bl ob n cs v' fs' g rc gt W' :=
 ⟨blk_grown h.k hg (Kd.R_ne h.r h.k (by decide)), hr, fun hn => blk_grown (h.l hn) hg (fun e => h.r.1 bl e.symm rfl), hb, h.h1, h.h2, blk_grown h.kg hg (Kd.R_ne h.r h.kg h.t1), h.h3, h.t1, h.t2⟩
end
def rowsP : List ByteArray → List S98 → Option (Int × List S98)
 | [], acc => some (0, acc)
 | l :: ls, acc => (fields_Parse.f l).bind fun f => if f.2.2 = 0 then rowsP ls (acc ++ [⟨f.1, f.2.1⟩]) else some (f.2.2, acc)
theorem rowsP_len : ∀ (ls : List ByteArray) (acc : List S98) (r : Int × List S98), rowsP ls acc = some r → r.2.length ≤ acc.length + ls.length
 | [], acc, r, h => by obtain rfl := Option.some.inj h; simp
 | l :: ls, acc, r, h => by
  rw [rowsP] at h
  obtain ⟨f, _, h⟩ := Option.bind_eq_some_iff.1 h
  split at h
  ·have := rowsP_len ls _ r h
   simp at this ⊢
   omega
  ·obtain rfl := Option.some.inj h; simp
set_option maxHeartbeats 1600000 in
set_option maxRecDepth 100000 in
theorem message_rows (w : World) (b bl : Nat) (ob : Obj) (first rest : ByteArray) (minor : Int) (A : Option Addr) (c : Nat) (ls : List ByteArray) (g : Nat) (rc : Array Value) (gt : Nat) (W : World) (h : PaAt w b bl ob ls.length #[.string first, .slice none 0 0, .int .i64 minor, .slice A ls.length c, .string rest] (.slice none 0 0) [] g rc gt W) (o : Nat) (hA : 0 < ls.length → A = some ⟨bl, o, none⟩) (hcells : ∀ W1 : World, W1.heap[bl]? = some ob → ∀ (j : Nat) x, ls[j]? = some x → W1.cell? ⟨bl, o + j, none⟩ = some (.string x)) (r : Int × List S98) (hr : rowsP ls [] = some r) (hlen : ls.length ≤ 64) :
  Calls Tryz.prog 29 #[.pointer (some ⟨b, 0, none⟩)] W fun x w' => x = .returned (.int .i64 r.1) ∧ ∃ A1 c1, PaAt w b bl ob ls.length #[.string first, .slice A1 r.2.length c1, .int .i64 minor, .slice A ls.length c, .string rest] (.slice A1 r.2.length c1) r.2 g rc gt w' := by
 have H := Aside0.mk h
 have HR := Aside0.mk hr
 have HC := Aside0.mk hcells
 have k3 := blk_cell h.k 3
 have c1 : decide (64 < (ls.length : Int)) = false := decide_eq_false (by omega)
 have c2 : decide (64 < ls.length) = false := decide_eq_false (by omega)
 clear h hr hcells
 go_enter Tryz.func29, Tryz.ntmps29
 go_wp2
 go_loopw [18] (fun v18 wx => ∃ (n : Nat) (acc : List S98) (A1 : Option Addr) (c1 : Nat), n ≤ ls.length ∧ v18 = .int .i64 n ∧ acc.length ≤ n ∧ Aside0 (rowsP (ls.drop n) acc = some r) ∧ Aside0 (PaAt w b bl ob ls.length #[.string first, .slice A1 acc.length c1, .int .i64 minor, .slice A ls.length c, .string rest] (.slice A1 acc.length c1) acc g rc gt wx)) (fun v18 _ => ls.length - (intOf v18).toNat)
 case atStart => exact ⟨0, [], none, 0, Nat.zero_le _, rfl, Nat.le_refl _, HR, H⟩
 case round =>
  clear H HR k3
  obtain ⟨n, acc, A1, c1', hn, rfl, hal, HRR, HP⟩ := hrel
  by_cases hlt : n < ls.length
  ·have hrr := HRR.out
   rw [List.drop_eq_getElem_cons hlt, rowsP] at hrr
   obtain ⟨⟨q1, q2, q3⟩, hq, hrr⟩ := Option.bind_eq_some_iff.1 hrr
   simp only at hrr
   obtain rfl := hA (by omega)
   have hx0 := HC.out wr (HP.out.l (by omega)) n ls[n] (List.getElem?_eq_getElem hlt)
   generalize ls[n] = ln at hq hx0
   have HQ := Aside0.mk hq
   clear hq HRR
   by_cases h3 : q3 = 0
   ·rw [if_pos h3] at hrr
    subst h3
    have HR2 := Aside0.mk hrr
    clear hrr
    go_upto_region 9 with (go_at_call 61; refine (fields_Parse.calls ln q1 q2 0 _ HQ.out).mono ?_; rintro e w1 ⟨rfl, hb⟩; have P1 := Aside0.mk (HP.out.below hb); clear HP hb)
    have P2 := Aside0.mk (P1.out.below (Hand.alloc_below w1 (.cells #[.string q1, .string q2] 98)))
    have hx := blk_new w1 (.cells #[.string q1, .string q2] 98)
    clear P1 hx0
    generalize w1.heap.size = bx at hx ⊢
    generalize w1.alloc (.cells #[.string q1, .string q2] 98) = w2 at P2 hx ⊢
    have d0 := blk_cell hx 0
    have d1 := blk_cell hx 1
    have c5 := blk_cell P2.out.k 1
    have hbl := blk_lt P2.out.k
    have hb2 := P2.out.h2
    clear hx
    have P4 := Aside0.mk (P2.out.below (Below.drew (Below.refl w2.heap.size w2)))
    go_region_law (refine Kd.R_append_step k98 (w0 := w) (W := w2.drew) w.heap.size (by rfl) (.tmp 35) (.tmp 37) 23 98 (.agg #[(.string ⟨#[]⟩), (.string ⟨#[]⟩)]) 32 rfl Tryz.underlying23 fields_info rfl (by decide) (by omega) (.slice A1 acc.length c1') acc ⟨q1, q2⟩ [.string q1, .string q2] (fun k => k ≠ bl) (fun _ => False) rfl rfl ?aP (fun _ hk => hk.elim) ?aF ?aO ?aB ?aS ?aL ?_; (case aP => exact k98_mkM _ _ _ _); (case aB => exact P4.out.hb); (case aF => exact (fun k hk => by have hk2 : w2.heap.size ≤ k := hk; omega)); (case aO => exact P4.out.r); (case aS => exact P4.out.hb.size); (case aL => omega); intro v2 w4 ho hb hg hat; obtain ⟨A9, c9, rfl⟩ := Kd.R_slice ho; have P3 := Aside0.mk (P4.out.app hg hb ho); have c7 := blk_cell P3.out.k 1; have f7 := blk_frozen P3.out.k 1; clear P2 P4 ho hb hg hat)
    all_goals
     go_wp2_with fail
     go_roundw
     case rel => exact ⟨n + 1, acc ++ [⟨q1, q2⟩], A9, c9, by omega, by go_num, by simp; omega, HR2, ⟨by have q := P3.out.put 1 (.slice A9 (acc ++ [(⟨q1, q2⟩ : S98)]).length c9) rfl; rw [show (acc ++ [(⟨q1, q2⟩ : S98)]).length = acc.length + 1 by simp] at q ⊢; exact q⟩⟩
     case measure => simp [intOf]; omega
   ·rw [if_neg h3] at hrr
    have e3 : (q3 != 0) = true := bne_iff_ne.2 h3
    have e4 : (q3 == 0) = false := beq_eq_false_iff_ne.2 h3
    obtain rfl := Option.some.inj hrr
    clear h3 hrr
    go_wp2_with (go_at_call 61; refine (fields_Parse.calls ln q1 q2 q3 _ HQ.out).mono ?_; rintro e w1 ⟨rfl, hb⟩; have P1 := Aside0.mk (HP.out.below hb); clear HP hb)
    go_ret
    exact ⟨rfl, A1, c1', P1.out.below (Hand.alloc_below _ _)⟩
  ·have hrr := HRR.out
   rw [List.drop_of_length_le (by omega), rowsP] at hrr
   obtain rfl := Option.some.inj hrr
   clear hrr HRR
   go_wp2
   go_ret
   exact ⟨rfl, A1, c1', HP.out⟩
def chunksP (te : List ByteArray) (fs : List S98) (minor : Int) (rest : ByteArray) : Option (ByteArray × Int) :=
 if minor = 0 then some ((⟨#[]⟩ : ByteArray), 22) else if 1 < te.length then some ((⟨#[]⟩ : ByteArray), 22) else
 (octet_Same.f (te.getD 0 ByteArray.empty) (⟨#[99, 104, 117, 110, 107, 101, 100]⟩ : ByteArray)).bind fun s => if s = true then
  ((fields_All.f fs (⟨#[67, 111, 110, 116, 101, 110, 116, 45, 76, 101, 110, 103, 116, 104]⟩ : ByteArray)).bind fun cl => if 0 < cl.length then some ((⟨#[]⟩ : ByteArray), 22) else
   (chunk_Decode.f rest).bind fun d => if d.2.2 = 0 then (if d.2.1 < rest.size then some ((⟨#[]⟩ : ByteArray), 22) else some (d.1, 0)) else some (d.1, d.2.2))
 else some ((⟨#[]⟩ : ByteArray), 22)
set_option maxHeartbeats 1600000 in
theorem message_chunks (A : Option Addr) (c : Nat) (fs : List S98) (minor : Int) (rest : ByteArray) (A1 : Option Addr) (c1 : Nat) (te : List ByteArray) (r1 : ByteArray) (r2 : Int) (b : Nat) (W : World) (HT : Aside0 (Hand.Laid W)) (k1 : W.cell? ⟨b, 1, none⟩ = some (.slice A fs.length c)) (k2 : W.cell? ⟨b, 2, none⟩ = some (.int .i64 minor)) (k4 : W.cell? ⟨b, 4, none⟩ = some (.string rest)) (hC : Kd.C k98 W A fs.length fs) (hc : fs.length ≤ c) (hT : Kd.C Kd.string W A1 te.length te) (hte : 0 < te.length) (h : chunksP te fs minor rest = some (r1, r2)) :
  Calls Tryz.prog 63 #[.pointer (some ⟨b, 0, none⟩), .slice A1 te.length c1] W fun e w' => e = .returned (.tuple #[.string r1, .int .i64 r2]) ∧ Below W.heap.size W w' := by
 have HC := Aside0.mk hC
 obtain ⟨bk, o, rfl, hbk, hcells⟩ := Hand.C_cells hT hte
 have x0 := hcells 0 te[0] (List.getElem?_eq_getElem hte)
 rw [Nat.add_zero] at x0
 have hbl := World.block_lt_of_cell? W _ k1
 have hb4 := World.block_lt_of_cell? W _ k4
 have i0 : (0 < te.length) = True := eq_true hte
 have hg0 : te.getD 0 ByteArray.empty = te[0] := by rw [List.getD_eq_getElem?_getD, List.getElem?_eq_getElem hte]; rfl
 unfold chunksP at h
 rw [hg0] at h
 clear hC hT hcells hg0
 by_cases h1 : minor = 0
 ·rw [if_pos h1] at h
  obtain ⟨rfl, rfl⟩ : (⟨#[]⟩ : ByteArray) = r1 ∧ 22 = r2 := by simpa using h
  have e1 : (minor == 0) = true := beq_iff_eq.2 h1
  clear h h1
  go_enter Tryz.func63, Tryz.ntmps63
  go_wp2
  go_ret2
  exact ⟨rfl, Below.refl _ _⟩
 rw [if_neg h1] at h
 have e1 : (minor == 0) = false := beq_eq_false_iff_ne.2 h1
 clear h1
 by_cases h2 : 1 < te.length
 ·rw [if_pos h2] at h
  obtain ⟨rfl, rfl⟩ : (⟨#[]⟩ : ByteArray) = r1 ∧ 22 = r2 := by simpa using h
  have e2 : decide (1 < (te.length : Int)) = true := decide_eq_true (by omega)
  have e3 : decide (1 < te.length) = true := decide_eq_true h2
  clear h h2
  go_enter Tryz.func63, Tryz.ntmps63
  go_wp2
  go_ret2
  exact ⟨rfl, Below.refl _ _⟩
 rw [if_neg h2] at h
 have e2 : decide (1 < (te.length : Int)) = false := decide_eq_false (by omega)
 have e3 : decide (1 < te.length) = false := decide_eq_false h2
 clear h2
 obtain ⟨s, hs, h⟩ := Option.bind_eq_some_iff.1 h
 have HS := Aside0.mk hs
 clear hs
 cases s
 ·obtain ⟨rfl, rfl⟩ : (⟨#[]⟩ : ByteArray) = r1 ∧ 22 = r2 := by simpa using h
  clear h
  go_enter Tryz.func63, Tryz.ntmps63
  go_wp2_with (go_at_call 96; refine (octet_Same.calls te[0] (⟨#[99, 104, 117, 110, 107, 101, 100]⟩ : ByteArray) false _ HS.out).mono ?_; rintro e w1 ⟨rfl, hb⟩; have j1 := (hb.cell hbl).trans k1; have j4 := (hb.cell hbl).trans k4; have HB1 := Aside0.mk hb; clear hb)
  go_ret2
  exact ⟨rfl, HB1.out⟩
 rw [if_pos rfl] at h
 obtain ⟨cl, hcl, h⟩ := Option.bind_eq_some_iff.1 h
 have HCL := Aside0.mk hcl
 clear hcl
 by_cases h3 : 0 < cl.length
 ·rw [if_pos h3] at h
  obtain ⟨rfl, rfl⟩ : (⟨#[]⟩ : ByteArray) = r1 ∧ 22 = r2 := by simpa using h
  have e4 : decide (0 < (cl.length : Int)) = true := decide_eq_true (by omega)
  have e5 : decide (0 < cl.length) = true := decide_eq_true h3
  clear h h3
  go_enter Tryz.func63, Tryz.ntmps63
  go_wp2_with (first | (go_at_call 96; refine (octet_Same.calls te[0] (⟨#[99, 104, 117, 110, 107, 101, 100]⟩ : ByteArray) true _ HS.out).mono ?_; rintro e w1 ⟨rfl, hb⟩; have j1 := (hb.cell hbl).trans k1; have j4 := (hb.cell hbl).trans k4; have HB1 := Aside0.mk hb; clear hb) | (go_at_call 62; have hz_ := HCL.out; clear HCL; refine (fields_All.calls A c fs (⟨#[67, 111, 110, 116, 101, 110, 116, 45, 76, 101, 110, 103, 116, 104]⟩ : ByteArray) cl _ (Kd.C_below HC.out HB1.out) hc hz_).mono ?_; clear hz_; rintro e w2 ⟨v, rfl, ho, hb⟩; obtain ⟨A3, c3, rfl, hl3, hC3⟩ := Kd.R_reads ho; have hb2 := below_step HB1.out hb; have i4 := (hb2.cell hb4).trans k4; have HB2 := Aside0.mk hb2; clear ho hb hC3 hb2))
  go_ret2
  exact ⟨rfl, HB2.out⟩
 rw [if_neg h3] at h
 have e4 : decide (0 < (cl.length : Int)) = false := decide_eq_false (by omega)
 have e5 : decide (0 < cl.length) = false := decide_eq_false h3
 clear h3
 obtain ⟨⟨d1, d2, d3⟩, hd, h⟩ := Option.bind_eq_some_iff.1 h
 have HD := Aside0.mk hd
 simp only at h
 clear hd
 by_cases h4 : d3 = 0
 ·rw [if_pos h4] at h
  subst h4
  by_cases h5 : d2 < rest.size
  ·rw [if_pos h5] at h
   obtain ⟨rfl, rfl⟩ : (⟨#[]⟩ : ByteArray) = r1 ∧ 22 = r2 := by simpa using h
   have e6 : decide (d2 < (rest.size : Int)) = true := decide_eq_true h5
   clear h h5
   go_enter Tryz.func63, Tryz.ntmps63
   go_wp2_with (first | (go_at_call 96; refine (octet_Same.calls te[0] (⟨#[99, 104, 117, 110, 107, 101, 100]⟩ : ByteArray) true _ HS.out).mono ?_; rintro e w1 ⟨rfl, hb⟩; have j1 := (hb.cell hbl).trans k1; have j4 := (hb.cell hbl).trans k4; have HB1 := Aside0.mk hb; clear hb) | (go_at_call 62; have hz_ := HCL.out; clear HCL; refine (fields_All.calls A c fs (⟨#[67, 111, 110, 116, 101, 110, 116, 45, 76, 101, 110, 103, 116, 104]⟩ : ByteArray) cl _ (Kd.C_below HC.out HB1.out) hc hz_).mono ?_; clear hz_; rintro e w2 ⟨v, rfl, ho, hb⟩; obtain ⟨A3, c3, rfl, hl3, hC3⟩ := Kd.R_reads ho; have hb2 := below_step HB1.out hb; have i4 := (hb2.cell hb4).trans k4; have HB2 := Aside0.mk hb2; clear ho hb hC3 hb2) | (go_at_call 97; refine (chunk_Decode.calls rest d1 d2 _ _ ⟨HT.out.below HB2.out⟩ HD.out).mono ?_; rintro e w3 ⟨rfl, hb⟩; have hb3 := below_step HB2.out hb; have g4 := (hb3.cell hb4).trans k4; have HB3 := Aside0.mk hb3; clear hb hb3))
   go_ret2
   exact ⟨rfl, HB3.out⟩
  ·rw [if_neg h5] at h
   obtain ⟨rfl, rfl⟩ : d1 = r1 ∧ 0 = r2 := by simpa using h
   have e6 : decide (d2 < (rest.size : Int)) = false := decide_eq_false h5
   clear h h5
   go_enter Tryz.func63, Tryz.ntmps63
   go_wp2_with (first | (go_at_call 96; refine (octet_Same.calls te[0] (⟨#[99, 104, 117, 110, 107, 101, 100]⟩ : ByteArray) true _ HS.out).mono ?_; rintro e w1 ⟨rfl, hb⟩; have j1 := (hb.cell hbl).trans k1; have j4 := (hb.cell hbl).trans k4; have HB1 := Aside0.mk hb; clear hb) | (go_at_call 62; have hz_ := HCL.out; clear HCL; refine (fields_All.calls A c fs (⟨#[67, 111, 110, 116, 101, 110, 116, 45, 76, 101, 110, 103, 116, 104]⟩ : ByteArray) cl _ (Kd.C_below HC.out HB1.out) hc hz_).mono ?_; clear hz_; rintro e w2 ⟨v, rfl, ho, hb⟩; obtain ⟨A3, c3, rfl, hl3, hC3⟩ := Kd.R_reads ho; have hb2 := below_step HB1.out hb; have i4 := (hb2.cell hb4).trans k4; have HB2 := Aside0.mk hb2; clear ho hb hC3 hb2) | (go_at_call 97; refine (chunk_Decode.calls rest d1 d2 _ _ ⟨HT.out.below HB2.out⟩ HD.out).mono ?_; rintro e w3 ⟨rfl, hb⟩; have hb3 := below_step HB2.out hb; have g4 := (hb3.cell hb4).trans k4; have HB3 := Aside0.mk hb3; clear hb hb3))
   go_ret2
   exact ⟨rfl, HB3.out⟩
 ·rw [if_neg h4] at h
  obtain ⟨rfl, rfl⟩ : d1 = r1 ∧ d3 = r2 := by simpa using h
  have e6 : (d3 == 0) = false := beq_eq_false_iff_ne.2 h4
  clear h h4
  go_enter Tryz.func63, Tryz.ntmps63
  go_wp2_with (first | (go_at_call 96; refine (octet_Same.calls te[0] (⟨#[99, 104, 117, 110, 107, 101, 100]⟩ : ByteArray) true _ HS.out).mono ?_; rintro e w1 ⟨rfl, hb⟩; have j1 := (hb.cell hbl).trans k1; have j4 := (hb.cell hbl).trans k4; have HB1 := Aside0.mk hb; clear hb) | (go_at_call 62; have hz_ := HCL.out; clear HCL; refine (fields_All.calls A c fs (⟨#[67, 111, 110, 116, 101, 110, 116, 45, 76, 101, 110, 103, 116, 104]⟩ : ByteArray) cl _ (Kd.C_below HC.out HB1.out) hc hz_).mono ?_; clear hz_; rintro e w2 ⟨v, rfl, ho, hb⟩; obtain ⟨A3, c3, rfl, hl3, hC3⟩ := Kd.R_reads ho; have hb2 := below_step HB1.out hb; have i4 := (hb2.cell hb4).trans k4; have HB2 := Aside0.mk hb2; clear ho hb hC3 hb2) | (go_at_call 97; refine (chunk_Decode.calls rest d1 d2 _ _ ⟨HT.out.below HB2.out⟩ HD.out).mono ?_; rintro e w3 ⟨rfl, hb⟩; have hb3 := below_step HB2.out hb; have g4 := (hb3.cell hb4).trans k4; have HB3 := Aside0.mk hb3; clear hb hb3))
  go_ret2
  exact ⟨rfl, HB3.out⟩
def bodyP (k : Nat) (fs : List S98) (rest : ByteArray) (minor : Int) (op : Bool) : Option (ByteArray × Int) :=
 (fields_All.f fs (⟨#[84, 114, 97, 110, 115, 102, 101, 114, 45, 69, 110, 99, 111, 100, 105, 110, 103]⟩ : ByteArray)).bind fun te => if 0 < te.length then chunksP te fs minor rest else
  (fields_All.f fs (⟨#[67, 111, 110, 116, 101, 110, 116, 45, 76, 101, 110, 103, 116, 104]⟩ : ByteArray)).bind fun cl => if 0 < cl.length then
   ((message_told.f k cl).bind fun t => if t.2 = true then (if t.1 < rest.size then some ((⟨#[]⟩ : ByteArray), 22) else if (rest.size : Int) < t.1 then some ((⟨#[]⟩ : ByteArray), 6) else some (rest, 0)) else some ((⟨#[]⟩ : ByteArray), 22))
  else if rest.size = 0 then some (rest, 0) else if op = true then some (rest, 0) else some ((⟨#[]⟩ : ByteArray), 22)
theorem bodyP_mono (k : Nat) (fs : List S98) (rest : ByteArray) (minor : Int) (op : Bool) : LeO (bodyP k fs rest minor op) (bodyP (k + 1) fs rest minor op) := by
 unfold bodyP
 exact LeO.bind (LeO.refl _) fun _ => LeO.ite (LeO.refl _) (LeO.bind (LeO.refl _) fun _ => LeO.ite (LeO.bind (message_told.mono _ k) fun _ => LeO.refl _) (LeO.refl _))
theorem empty_bne {s : ByteArray} (h : s.size = 0) : (s.toList != []) = false := by rw [Hand.toList_nil_of h]; rfl
theorem empty_bnn {s : ByteArray} (h : ¬ s.size = 0) : (s.toList != []) = true := by rw [bne, empty_ne h]; rfl
set_option maxHeartbeats 1600000 in
theorem message_body (k : Nat) (A : Option Addr) (c : Nat) (fs : List S98) (minor : Int) (rest : ByteArray) (op : Bool) (r1 : ByteArray) (r2 : Int) (b : Nat) (W : World) (HT : Aside0 (Hand.Laid W)) (k1 : W.cell? ⟨b, 1, none⟩ = some (.slice A fs.length c)) (k2 : W.cell? ⟨b, 2, none⟩ = some (.int .i64 minor)) (k4 : W.cell? ⟨b, 4, none⟩ = some (.string rest)) (hC : Kd.C k98 W A fs.length fs) (hc : fs.length ≤ c) (h : bodyP k fs rest minor op = some (r1, r2)) :
  Calls Tryz.prog 31 #[.pointer (some ⟨b, 0, none⟩), .bool op] W fun e w' => e = .returned (.tuple #[.string r1, .int .i64 r2]) ∧ Below W.heap.size W w' := by
 have HC := Aside0.mk hC
 have hb4 := World.block_lt_of_cell? W _ k4
 unfold bodyP at h
 clear hC
 obtain ⟨te, hte, h⟩ := Option.bind_eq_some_iff.1 h
 have HTE := Aside0.mk hte
 clear hte
 by_cases h1 : 0 < te.length
 ·rw [if_pos h1] at h
  have HR := Aside0.mk h
  have hte := h1
  have e1 : decide (0 < (te.length : Int)) = true := decide_eq_true (by omega)
  have e2 : decide (0 < te.length) = true := decide_eq_true h1
  clear h h1
  go_enter Tryz.func31, Tryz.ntmps31
  go_wp2_with (first | (go_at_call 63; refine (message_chunks A c fs minor rest A1 c1 te r1 r2 b _ ⟨HT.out.below HB1.out⟩ j1 j2 j4 (Kd.C_below HC.out HB1.out) hc HC1.out hte HR.out).mono ?_; rintro e w2 ⟨rfl, hb⟩; have HB2 := Aside0.mk (below_step HB1.out hb); clear hb) | (go_at_call 62; have hz_ := HTE.out; clear HTE; refine (fields_All.calls A c fs (⟨#[84, 114, 97, 110, 115, 102, 101, 114, 45, 69, 110, 99, 111, 100, 105, 110, 103]⟩ : ByteArray) te W HC.out hc hz_).mono ?_; clear hz_; rintro e w1 ⟨v, rfl, ho, hb⟩; obtain ⟨A1, c1, rfl, hl1, hC1⟩ := Kd.R_reads ho; have j1 := (hb.cell hb4).trans k1; have j2 := (hb.cell hb4).trans k2; have j4 := (hb.cell hb4).trans k4; have HB1 := Aside0.mk hb; have HC1 := Aside0.mk hC1; clear ho hb hC1))
  go_ret2
  exact ⟨rfl, HB2.out⟩
 rw [if_neg h1] at h
 have e1 : decide (0 < (te.length : Int)) = false := decide_eq_false (by omega)
 have e2 : decide (0 < te.length) = false := decide_eq_false h1
 clear h1
 obtain ⟨cl, hcl, h⟩ := Option.bind_eq_some_iff.1 h
 have HCL := Aside0.mk hcl
 clear hcl
 by_cases h3 : 0 < cl.length
 ·rw [if_pos h3] at h
  have e4 : decide (0 < (cl.length : Int)) = true := decide_eq_true (by omega)
  have e5 : decide (0 < cl.length) = true := decide_eq_true h3
  clear h3
  obtain ⟨⟨t1, t2⟩, ht, h⟩ := Option.bind_eq_some_iff.1 h
  have HTO := Aside0.mk ht
  simp only at h
  clear ht
  cases t2
  ·obtain ⟨rfl, rfl⟩ : (⟨#[]⟩ : ByteArray) = r1 ∧ 22 = r2 := by simpa using h
   clear h
   go_enter Tryz.func31, Tryz.ntmps31
   go_wp2_with (first | (go_at_call 64; refine (message_told.calls k A3 c3 cl t1 _ _ HC3.out hl3 HTO.out).mono ?_; rintro e w3 ⟨rfl, hb⟩; have g4 := ((below_step HB2.out hb).cell hb4).trans k4; have HB3 := Aside0.mk (below_step HB2.out hb); clear hb) | (go_at_call 62; have hz_ := HTE.out; clear HTE; refine (fields_All.calls A c fs (⟨#[84, 114, 97, 110, 115, 102, 101, 114, 45, 69, 110, 99, 111, 100, 105, 110, 103]⟩ : ByteArray) te W HC.out hc hz_).mono ?_; clear hz_; rintro e w1 ⟨v, rfl, ho, hb⟩; obtain ⟨A1, c1, rfl, hl1, hC1⟩ := Kd.R_reads ho; have j1 := (hb.cell hb4).trans k1; have j2 := (hb.cell hb4).trans k2; have j4 := (hb.cell hb4).trans k4; have HB1 := Aside0.mk hb; have HC1 := Aside0.mk hC1; clear ho hb hC1) | (go_at_call 62; have hz_ := HCL.out; clear HCL; refine (fields_All.calls A c fs (⟨#[67, 111, 110, 116, 101, 110, 116, 45, 76, 101, 110, 103, 116, 104]⟩ : ByteArray) cl _ (Kd.C_below HC.out HB1.out) hc hz_).mono ?_; clear hz_; rintro e w2 ⟨v, rfl, ho, hb⟩; obtain ⟨A3, c3, rfl, hl3, hC3⟩ := Kd.R_reads ho; have i4 := ((below_step HB1.out hb).cell hb4).trans k4; have HB2 := Aside0.mk (below_step HB1.out hb); have HC3 := Aside0.mk hC3; clear ho hb hC3))
   go_ret2
   exact ⟨rfl, HB3.out⟩
  ·rw [if_pos rfl] at h
   by_cases h4 : t1 < rest.size
   ·rw [if_pos h4] at h
    obtain ⟨rfl, rfl⟩ : (⟨#[]⟩ : ByteArray) = r1 ∧ 22 = r2 := by simpa using h
    have e6 : decide (t1 < (rest.size : Int)) = true := decide_eq_true h4
    clear h h4
    go_enter Tryz.func31, Tryz.ntmps31
    go_wp2_with (first | (go_at_call 64; refine (message_told.calls k A3 c3 cl t1 _ _ HC3.out hl3 HTO.out).mono ?_; rintro e w3 ⟨rfl, hb⟩; have g4 := ((below_step HB2.out hb).cell hb4).trans k4; have HB3 := Aside0.mk (below_step HB2.out hb); clear hb) | (go_at_call 62; have hz_ := HTE.out; clear HTE; refine (fields_All.calls A c fs (⟨#[84, 114, 97, 110, 115, 102, 101, 114, 45, 69, 110, 99, 111, 100, 105, 110, 103]⟩ : ByteArray) te W HC.out hc hz_).mono ?_; clear hz_; rintro e w1 ⟨v, rfl, ho, hb⟩; obtain ⟨A1, c1, rfl, hl1, hC1⟩ := Kd.R_reads ho; have j1 := (hb.cell hb4).trans k1; have j2 := (hb.cell hb4).trans k2; have j4 := (hb.cell hb4).trans k4; have HB1 := Aside0.mk hb; have HC1 := Aside0.mk hC1; clear ho hb hC1) | (go_at_call 62; have hz_ := HCL.out; clear HCL; refine (fields_All.calls A c fs (⟨#[67, 111, 110, 116, 101, 110, 116, 45, 76, 101, 110, 103, 116, 104]⟩ : ByteArray) cl _ (Kd.C_below HC.out HB1.out) hc hz_).mono ?_; clear hz_; rintro e w2 ⟨v, rfl, ho, hb⟩; obtain ⟨A3, c3, rfl, hl3, hC3⟩ := Kd.R_reads ho; have i4 := ((below_step HB1.out hb).cell hb4).trans k4; have HB2 := Aside0.mk (below_step HB1.out hb); have HC3 := Aside0.mk hC3; clear ho hb hC3))
    go_ret2
    exact ⟨rfl, HB3.out⟩
   ·rw [if_neg h4] at h
    have e6 : decide (t1 < (rest.size : Int)) = false := decide_eq_false h4
    clear h4
    by_cases h5 : (rest.size : Int) < t1
    ·rw [if_pos h5] at h
     obtain ⟨rfl, rfl⟩ : (⟨#[]⟩ : ByteArray) = r1 ∧ 6 = r2 := by simpa using h
     have e7 : decide ((rest.size : Int) < t1) = true := decide_eq_true h5
     clear h h5
     go_enter Tryz.func31, Tryz.ntmps31
     go_wp2_with (first | (go_at_call 64; refine (message_told.calls k A3 c3 cl t1 _ _ HC3.out hl3 HTO.out).mono ?_; rintro e w3 ⟨rfl, hb⟩; have g4 := ((below_step HB2.out hb).cell hb4).trans k4; have HB3 := Aside0.mk (below_step HB2.out hb); clear hb) | (go_at_call 62; have hz_ := HTE.out; clear HTE; refine (fields_All.calls A c fs (⟨#[84, 114, 97, 110, 115, 102, 101, 114, 45, 69, 110, 99, 111, 100, 105, 110, 103]⟩ : ByteArray) te W HC.out hc hz_).mono ?_; clear hz_; rintro e w1 ⟨v, rfl, ho, hb⟩; obtain ⟨A1, c1, rfl, hl1, hC1⟩ := Kd.R_reads ho; have j1 := (hb.cell hb4).trans k1; have j2 := (hb.cell hb4).trans k2; have j4 := (hb.cell hb4).trans k4; have HB1 := Aside0.mk hb; have HC1 := Aside0.mk hC1; clear ho hb hC1) | (go_at_call 62; have hz_ := HCL.out; clear HCL; refine (fields_All.calls A c fs (⟨#[67, 111, 110, 116, 101, 110, 116, 45, 76, 101, 110, 103, 116, 104]⟩ : ByteArray) cl _ (Kd.C_below HC.out HB1.out) hc hz_).mono ?_; clear hz_; rintro e w2 ⟨v, rfl, ho, hb⟩; obtain ⟨A3, c3, rfl, hl3, hC3⟩ := Kd.R_reads ho; have i4 := ((below_step HB1.out hb).cell hb4).trans k4; have HB2 := Aside0.mk (below_step HB1.out hb); have HC3 := Aside0.mk hC3; clear ho hb hC3))
     go_ret2
     exact ⟨rfl, HB3.out⟩
    ·rw [if_neg h5] at h
     obtain ⟨rfl, rfl⟩ : rest = r1 ∧ 0 = r2 := by simpa using h
     have e7 : decide ((rest.size : Int) < t1) = false := decide_eq_false h5
     clear h h5
     go_enter Tryz.func31, Tryz.ntmps31
     go_wp2_with (first | (go_at_call 64; refine (message_told.calls k A3 c3 cl t1 _ _ HC3.out hl3 HTO.out).mono ?_; rintro e w3 ⟨rfl, hb⟩; have g4 := ((below_step HB2.out hb).cell hb4).trans k4; have HB3 := Aside0.mk (below_step HB2.out hb); clear hb) | (go_at_call 62; have hz_ := HTE.out; clear HTE; refine (fields_All.calls A c fs (⟨#[84, 114, 97, 110, 115, 102, 101, 114, 45, 69, 110, 99, 111, 100, 105, 110, 103]⟩ : ByteArray) te W HC.out hc hz_).mono ?_; clear hz_; rintro e w1 ⟨v, rfl, ho, hb⟩; obtain ⟨A1, c1, rfl, hl1, hC1⟩ := Kd.R_reads ho; have j1 := (hb.cell hb4).trans k1; have j2 := (hb.cell hb4).trans k2; have j4 := (hb.cell hb4).trans k4; have HB1 := Aside0.mk hb; have HC1 := Aside0.mk hC1; clear ho hb hC1) | (go_at_call 62; have hz_ := HCL.out; clear HCL; refine (fields_All.calls A c fs (⟨#[67, 111, 110, 116, 101, 110, 116, 45, 76, 101, 110, 103, 116, 104]⟩ : ByteArray) cl _ (Kd.C_below HC.out HB1.out) hc hz_).mono ?_; clear hz_; rintro e w2 ⟨v, rfl, ho, hb⟩; obtain ⟨A3, c3, rfl, hl3, hC3⟩ := Kd.R_reads ho; have i4 := ((below_step HB1.out hb).cell hb4).trans k4; have HB2 := Aside0.mk (below_step HB1.out hb); have HC3 := Aside0.mk hC3; clear ho hb hC3))
     go_ret2
     exact ⟨rfl, HB3.out⟩
 ·rw [if_neg h3] at h
  have e4 : decide (0 < (cl.length : Int)) = false := decide_eq_false (by omega)
  have e5 : decide (0 < cl.length) = false := decide_eq_false h3
  clear h3
  by_cases h6 : rest.size = 0
  ·rw [if_pos h6] at h
   obtain ⟨rfl, rfl⟩ : rest = r1 ∧ 0 = r2 := by simpa using h
   have d1 := empty_beq h6
   have d2 := empty_ise h6
   have d3 := empty_bne h6
   clear h h6
   go_enter Tryz.func31, Tryz.ntmps31
   go_wp2_with (first | (go_at_call 62; have hz_ := HTE.out; clear HTE; refine (fields_All.calls A c fs (⟨#[84, 114, 97, 110, 115, 102, 101, 114, 45, 69, 110, 99, 111, 100, 105, 110, 103]⟩ : ByteArray) te W HC.out hc hz_).mono ?_; clear hz_; rintro e w1 ⟨v, rfl, ho, hb⟩; obtain ⟨A1, c1, rfl, hl1, hC1⟩ := Kd.R_reads ho; have j1 := (hb.cell hb4).trans k1; have j2 := (hb.cell hb4).trans k2; have j4 := (hb.cell hb4).trans k4; have HB1 := Aside0.mk hb; have HC1 := Aside0.mk hC1; clear ho hb hC1) | (go_at_call 62; have hz_ := HCL.out; clear HCL; refine (fields_All.calls A c fs (⟨#[67, 111, 110, 116, 101, 110, 116, 45, 76, 101, 110, 103, 116, 104]⟩ : ByteArray) cl _ (Kd.C_below HC.out HB1.out) hc hz_).mono ?_; clear hz_; rintro e w2 ⟨v, rfl, ho, hb⟩; obtain ⟨A3, c3, rfl, hl3, hC3⟩ := Kd.R_reads ho; have i4 := ((below_step HB1.out hb).cell hb4).trans k4; have HB2 := Aside0.mk (below_step HB1.out hb); have HC3 := Aside0.mk hC3; clear ho hb hC3))
   go_ret2
   exact ⟨rfl, HB2.out⟩
  ·rw [if_neg h6] at h
   have d1 := empty_ne h6
   have d2 := empty_isn h6
   have d3 := empty_bnn h6
   clear h6
   cases op
   ·obtain ⟨rfl, rfl⟩ : (⟨#[]⟩ : ByteArray) = r1 ∧ 22 = r2 := by simpa using h
    clear h
    go_enter Tryz.func31, Tryz.ntmps31
    go_wp2_with (first | (go_at_call 62; have hz_ := HTE.out; clear HTE; refine (fields_All.calls A c fs (⟨#[84, 114, 97, 110, 115, 102, 101, 114, 45, 69, 110, 99, 111, 100, 105, 110, 103]⟩ : ByteArray) te W HC.out hc hz_).mono ?_; clear hz_; rintro e w1 ⟨v, rfl, ho, hb⟩; obtain ⟨A1, c1, rfl, hl1, hC1⟩ := Kd.R_reads ho; have j1 := (hb.cell hb4).trans k1; have j2 := (hb.cell hb4).trans k2; have j4 := (hb.cell hb4).trans k4; have HB1 := Aside0.mk hb; have HC1 := Aside0.mk hC1; clear ho hb hC1) | (go_at_call 62; have hz_ := HCL.out; clear HCL; refine (fields_All.calls A c fs (⟨#[67, 111, 110, 116, 101, 110, 116, 45, 76, 101, 110, 103, 116, 104]⟩ : ByteArray) cl _ (Kd.C_below HC.out HB1.out) hc hz_).mono ?_; clear hz_; rintro e w2 ⟨v, rfl, ho, hb⟩; obtain ⟨A3, c3, rfl, hl3, hC3⟩ := Kd.R_reads ho; have i4 := ((below_step HB1.out hb).cell hb4).trans k4; have HB2 := Aside0.mk (below_step HB1.out hb); have HC3 := Aside0.mk hC3; clear ho hb hC3))
    go_ret2
    exact ⟨rfl, HB2.out⟩
   ·obtain ⟨rfl, rfl⟩ : rest = r1 ∧ 0 = r2 := by simpa using h
    clear h
    go_enter Tryz.func31, Tryz.ntmps31
    go_wp2_with (first | (go_at_call 62; have hz_ := HTE.out; clear HTE; refine (fields_All.calls A c fs (⟨#[84, 114, 97, 110, 115, 102, 101, 114, 45, 69, 110, 99, 111, 100, 105, 110, 103]⟩ : ByteArray) te W HC.out hc hz_).mono ?_; clear hz_; rintro e w1 ⟨v, rfl, ho, hb⟩; obtain ⟨A1, c1, rfl, hl1, hC1⟩ := Kd.R_reads ho; have j1 := (hb.cell hb4).trans k1; have j2 := (hb.cell hb4).trans k2; have j4 := (hb.cell hb4).trans k4; have HB1 := Aside0.mk hb; have HC1 := Aside0.mk hC1; clear ho hb hC1) | (go_at_call 62; have hz_ := HCL.out; clear HCL; refine (fields_All.calls A c fs (⟨#[67, 111, 110, 116, 101, 110, 116, 45, 76, 101, 110, 103, 116, 104]⟩ : ByteArray) cl _ (Kd.C_below HC.out HB1.out) hc hz_).mono ?_; clear hz_; rintro e w2 ⟨v, rfl, ho, hb⟩; obtain ⟨A3, c3, rfl, hl3, hC3⟩ := Kd.R_reads ho; have i4 := ((below_step HB1.out hb).cell hb4).trans k4; have HB2 := Aside0.mk (below_step HB1.out hb); have HC3 := Aside0.mk hC3; clear ho hb hC3))
    go_ret2
    exact ⟨rfl, HB2.out⟩
theorem msgBegin_no {raw : ByteArray} {g : Int × List ByteArray × ByteArray} (h : msgBegin raw = some g) (hg : g.1 ≠ 0) : g = (g.1, [], (⟨#[]⟩ : ByteArray)) := by
 unfold msgBegin at h
 split at h
 ·obtain rfl := Option.some.inj h; rfl
 ·obtain ⟨t, _, h⟩ := Option.bind_eq_some_iff.1 h
  split at h
  ·split at h
   ·obtain rfl := Option.some.inj h; rfl
   ·obtain ⟨p, _, h⟩ := Option.bind_eq_some_iff.1 h
    split at h
    ·obtain rfl := Option.some.inj h; rfl
    ·obtain ⟨l, _, h⟩ := Option.bind_eq_some_iff.1 h
     split at h
     ·obtain rfl := Option.some.inj h; exact absurd rfl hg
     ·cases h
  ·obtain rfl := Option.some.inj h; rfl
theorem begin_rows {w : World} {A : Option Addr} {ls : List ByteArray} {b : Nat} (hC : Kd.C Kd.string w A ls.length ls) (hb : 0 < b) (ha : ∀ a, A = some a → 0 < ls.length → a.block < b) :
  ∃ bl ob o, bl < b ∧ (0 < ls.length → A = some ⟨bl, o, none⟩) ∧ (0 < ls.length → w.heap[bl]? = some ob) ∧ ∀ W1 : World, W1.heap[bl]? = some ob → ∀ (j : Nat) x, ls[j]? = some x → W1.cell? ⟨bl, o + j, none⟩ = some (.string x) := by
 by_cases hn : 0 < ls.length
 ·obtain ⟨bk, o, rfl, hbk, hcells⟩ := Hand.C_cells hC hn
  refine ⟨bk, w.heap[bk]'hbk, o, ha _ rfl hn, fun _ => rfl, fun _ => Array.getElem?_eq_getElem hbk, fun W1 h1 j x hj => ?_⟩
  exact (World.cell?_of_block (h1.trans (Array.getElem?_eq_getElem hbk).symm)).trans (hcells j x hj)
 ·refine ⟨0, .cells #[] 0 (0, 0), 0, hb, fun h => absurd h hn, fun h => absurd h hn, fun W1 _ j x hj => ?_⟩
  have := (List.getElem?_eq_some_iff.1 hj).1
  omega
def rowsS (ls : List ByteArray) : Option (Int × List S98) := if 64 < ls.length then some (4, []) else rowsP ls []
set_option maxHeartbeats 1600000 in
theorem message_rows_long (b n c : Nat) (A : Option Addr) (W : World) (k3 : W.cell? ⟨b, 3, none⟩ = some (.slice A n c)) (hn : 64 < n) :
  Calls Tryz.prog 29 #[.pointer (some ⟨b, 0, none⟩)] W fun x w' => x = .returned (.int .i64 4) ∧ Below W.heap.size W w' := by
 have c1 : decide (64 < (n : Int)) = true := decide_eq_true (by omega)
 have c2 : decide (64 < n) = true := decide_eq_true (by omega)
 go_enter Tryz.func29, Tryz.ntmps29
 go_wp2
 go_ret
 exact ⟨rfl, Below.refl _ _⟩
def message_ParseRequest.f (k : Nat) (a0 : ByteArray) : Option (ByteArray × ByteArray × Int × (List S98) × ByteArray × Int) :=
 (msgBegin a0).bind fun g => if g.1 = 0 then
  ((line_Request.f k (g.2.1.getD 0 ByteArray.empty)).bind fun q => if q.2.2.2 = 0 then
   ((rowsS (g.2.1.drop 1)).bind fun rs => if rs.1 = 0 then
    ((hostedP rs.2 q.2.2.1).bind fun ho => if ho = true then
     ((bodyP k rs.2 g.2.2 q.2.2.1 false).bind fun bd => if bd.2 = 0 then ((bareP rs.2).bind fun fs => some (q.1, q.2.1, q.2.2.1, fs, bd.1, 0)) else some ((⟨#[]⟩ : ByteArray), (⟨#[]⟩ : ByteArray), 0, [], (⟨#[]⟩ : ByteArray), bd.2))
    else some ((⟨#[]⟩ : ByteArray), (⟨#[]⟩ : ByteArray), 0, [], (⟨#[]⟩ : ByteArray), 26))
   else some ((⟨#[]⟩ : ByteArray), (⟨#[]⟩ : ByteArray), 0, [], (⟨#[]⟩ : ByteArray), rs.1))
  else some ((⟨#[]⟩ : ByteArray), (⟨#[]⟩ : ByteArray), 0, [], (⟨#[]⟩ : ByteArray), q.2.2.2))
 else some ((⟨#[]⟩ : ByteArray), (⟨#[]⟩ : ByteArray), 0, [], (⟨#[]⟩ : ByteArray), g.1)
theorem message_ParseRequest.mono : ∀ a0 k, LeO (message_ParseRequest.f k a0) (message_ParseRequest.f (k + 1) a0) := fun a0 k => by
 unfold message_ParseRequest.f
 exact LeO.bind (LeO.refl _) fun _ => LeO.ite (LeO.bind (line_Request.mono _ k) fun _ => LeO.ite (LeO.bind (LeO.refl _) fun _ => LeO.ite (LeO.bind (LeO.refl _) fun _ => LeO.ite (LeO.bind (bodyP_mono k _ _ _ _) fun _ => LeO.refl _) (LeO.refl _)) (LeO.refl _)) (LeO.refl _)) (LeO.refl _)
set_option maxHeartbeats 400000 in
set_option maxRecDepth 100000 in
theorem message_ParseRequest.calls (k : Nat) (a0 : ByteArray) (r1 : ByteArray) (r2 : ByteArray) (r3 : Int) (r4 : List (S98)) (r5 : ByteArray) (r6 : Int) (w : World) (HT : Aside0 (Hand.Laid w)) (h : message_ParseRequest.f k a0 = some (r1, r2, r3, r4, r5, r6)) :
  Calls Tryz.prog 9 #[.string a0] w fun e w' => ∃ v3_ : Value, e = .returned (.tuple #[.agg #[.string r1, .string r2, .int .i64 r3, v3_, .string r5], .int .i64 r6]) ∧ Kd.R k98 98 w' w.heap.size (fun _ => True) v3_ r4 ∧ Below w.heap.size w w' := by
 unfold message_ParseRequest.f at h
 obtain ⟨⟨g1, gl, gr⟩, hg, h⟩ := Option.bind_eq_some_iff.1 h
 simp only at h
 have hb0 := Hand.alloc_below w (.cells #[.string (⟨#[]⟩ : ByteArray), .string (⟨#[]⟩ : ByteArray), .int .i64 0, .slice none 0 0, .string (⟨#[]⟩ : ByteArray)] 25)
 have hz := blk_new w (.cells #[.string (⟨#[]⟩ : ByteArray), .string (⟨#[]⟩ : ByteArray), .int .i64 0, .slice none 0 0, .string (⟨#[]⟩ : ByteArray)] 25)
 by_cases h1 : g1 = 0
 ·subst h1
  rw [if_pos rfl] at h
  obtain ⟨hl0, hbeg⟩ := message_begin_ok a0 gl gr _ ⟨HT.out.below hb0⟩ hg
  obtain ⟨⟨q1, q2, q3, q4⟩, hq, h⟩ := Option.bind_eq_some_iff.1 h
  simp only at h hq
  generalize gl.getD 0 ByteArray.empty = first at hbeg hq
  have HG := Aside0.mk hbeg
  have HQ := Aside0.mk hq
  have HB0 := Aside0.mk hb0
  have HZ := Aside0.mk hz
  have hlt0 := blk_lt hz
  clear hg hbeg hq hb0 hz
  go_enter Tryz.func9, Tryz.ntmps9
  go_upto_region 1 with (fail)
  generalize w.alloc (.cells #[.string (⟨#[]⟩ : ByteArray), .string (⟨#[]⟩ : ByteArray), .int .i64 0, .slice none 0 0, .string (⟨#[]⟩ : ByteArray)] 25) = W0 at HG HB0 HZ hlt0 ⊢
  go_upto_region 4 with (go_at_call 27; refine HG.out.mono ?_; rintro e w1 ⟨b, A, c, rfl, hk, hC, hc, ha, hB, hb⟩; obtain ⟨bl, ob, o, hbl, hA, hob, hcells⟩ := begin_rows hC (by omega) ha; have HK := Aside0.mk hk; have HOB := Aside0.mk hob; have HCE := Aside0.mk hcells; have HB1 := Aside0.mk hb; clear HG hk hC hc ha hob hcells hb)
  go_upto_region 5 with (fail)
  have P0 : Aside0 (PaAt W0 b bl ob (gl.drop 1).length #[.string first, .slice none 0 0, .int .i64 0, .slice A (gl.drop 1).length c, .string gr] (.slice none 0 0) [] w1.heap.size #[.string (⟨#[]⟩ : ByteArray), .string (⟨#[]⟩ : ByteArray), .int .i64 0, .slice none 0 0, .string (⟨#[]⟩ : ByteArray)] 25 (w1.alloc (.cells #[.string (⟨#[]⟩ : ByteArray), .string (⟨#[]⟩ : ByteArray), .int .i64 0, .slice none 0 0, .string (⟨#[]⟩ : ByteArray)] 25))) := ⟨blk_alloc HK.out _, Kd.R_nil _ _ _ _ _, fun hn => blk_alloc (HOB.out hn) _, HB1.out.alloc HB1.out.size _, hB, hbl, blk_new _ _, blk_lt HK.out, by decide, by decide⟩
  clear HK HOB HB1
  generalize w1.heap.size = g at P0 ⊢
  generalize w1.alloc (.cells #[.string (⟨#[]⟩ : ByteArray), .string (⟨#[]⟩ : ByteArray), .int .i64 0, .slice none 0 0, .string (⟨#[]⟩ : ByteArray)] 25) = w2 at P0 ⊢
  have k0 := blk_cell P0.out.k 0
  go_upto_region 6 with (go_at_call 28; refine (line_Request.calls k first q1 q2 q3 q4 _ ⟨HT.out.below (below_step HB0.out P0.out.hb)⟩ HQ.out).mono ?_; rintro e w3 ⟨rfl, hb⟩; have P1 := Aside0.mk (P0.out.below hb); have c0 := blk_cell P1.out.kg 0; have c1 := blk_cell P1.out.kg 1; have c2 := blk_cell P1.out.k 2; have f0 := blk_frozen P1.out.kg 0; have f1 := blk_frozen P1.out.kg 1; have f2 := blk_frozen P1.out.k 2; have n1 := P1.out.h3; clear P0 HQ k0 hb)
  have P2 := Aside0.mk (((P1.out.putg 0 (.string q1) rfl).putg 1 (.string q2) rfl).put 2 (.int .i64 q3) rfl)
  clear P1 c0 c1 c2 f0 f1 f2 n1
  generalize ((w3.setCell ⟨g, 0, none⟩ (.string q1)).setCell ⟨g, 1, none⟩ (.string q2)).setCell ⟨b, 2, none⟩ (.int .i64 q3) = w4 at P2 ⊢
  by_cases h2 : q4 = 0
  ·subst h2
   rw [if_pos rfl] at h
   obtain ⟨⟨s1, s2⟩, hs, h⟩ := Option.bind_eq_some_iff.1 h
   simp only at h
   unfold rowsS at hs
   by_cases h3 : 64 < (gl.drop 1).length
   ·rw [if_pos h3] at hs
    obtain ⟨rfl, rfl⟩ : 4 = s1 ∧ [] = s2 := by simpa using hs
    rw [if_neg (by simp)] at h
    obtain ⟨rfl, rfl, rfl, rfl, rfl, rfl⟩ : (⟨#[]⟩ : ByteArray) = r1 ∧ (⟨#[]⟩ : ByteArray) = r2 ∧ 0 = r3 ∧ [] = r4 ∧ (⟨#[]⟩ : ByteArray) = r5 ∧ 4 = r6 := by simpa using h
    have k3 := blk_cell P2.out.k 3
    clear h hs
    go_wp2_with (go_at_call 29; refine (message_rows_long b _ c A _ k3 h3).mono ?_; rintro e w5 ⟨rfl, hb⟩; have P3 := Aside0.mk (P2.out.below hb); clear P2 k3 hb; have HZ3 := blk_below HZ.out P3.out.hb; have HB3 := Aside0.mk (below_step HB0.out P3.out.hb); have z0 := blk_cell HZ3 0; have zf0 := blk_frozen HZ3 0; have z1 := blk_cell HZ3 1; have zf1 := blk_frozen HZ3 1; have z2 := blk_cell HZ3 2; have zf2 := blk_frozen HZ3 2; have z3 := blk_cell HZ3 3; have zf3 := blk_frozen HZ3 3; have z4 := blk_cell HZ3 4; have zf4 := blk_frozen HZ3 4)
    refine bodyPost_ret (results_ct rfl _ _ w.heap.size 25 #[.string (⟨#[]⟩ : ByteArray), .string (⟨#[]⟩ : ByteArray), .int .i64 0, .slice none 0 0, .string (⟨#[]⟩ : ByteArray)] (0, 0) _ rfl (blk_put (blk_put (blk_put (blk_put (blk_put HZ3 0 (.string (⟨#[]⟩ : ByteArray)) rfl) 1 (.string (⟨#[]⟩ : ByteArray)) rfl) 2 (.int .i64 0) rfl) 3 (.slice none 0 0) rfl) 4 (.string (⟨#[]⟩ : ByteArray)) rfl) Tryz.underlying25 rfl (by kernel_rfl)) rfl ?_
    exact ⟨_, rfl, Kd.R_nil _ _ _ _ _, (((((HB3.out.setCell (Nat.le_refl _) _).setCell (Nat.le_refl _) _).setCell (Nat.le_refl _) _).setCell (Nat.le_refl _) _).setCell (Nat.le_refl _) _)⟩
   ·rw [if_neg h3] at hs
    have HRW := Aside0.mk (message_rows W0 b bl ob _ gr q3 A c (gl.drop 1) g _ 25 w4 P2.out o hA HCE.out (s1, s2) hs (by omega))
    clear hs HCE
    by_cases h4 : s1 = 0
    ·subst h4
     rw [if_pos rfl] at h
     obtain ⟨ho, hho, h⟩ := Option.bind_eq_some_iff.1 h
     have HHO := Aside0.mk hho
     clear hho
     go_upto_region 11 with (go_at_call 29; refine HRW.out.mono ?_; rintro e w5 ⟨rfl, A1, c1, hp⟩; have P3 := Aside0.mk hp; clear P2 HRW hp)
     have k1 := blk_cell P3.out.k 1
     have k2 := blk_cell P3.out.k 2
     have k4 := blk_cell P3.out.k 4
     obtain ⟨A1', c1', heq, hl, hC⟩ := Kd.R_reads P3.out.r
     cases heq
     have HC := Aside0.mk hC
     clear hC
     cases ho
     ·rw [if_neg (by simp)] at h
      obtain ⟨rfl, rfl, rfl, rfl, rfl, rfl⟩ : (⟨#[]⟩ : ByteArray) = r1 ∧ (⟨#[]⟩ : ByteArray) = r2 ∧ 0 = r3 ∧ [] = r4 ∧ (⟨#[]⟩ : ByteArray) = r5 ∧ 26 = r6 := by simpa using h
      clear h
      go_wp2_with (go_at_call 30; refine (message_hosted A1 c1 s2 q3 false b _ k1 k2 HC.out hl HHO.out).mono ?_; rintro e w6 ⟨rfl, hb⟩; have P4 := Aside0.mk (P3.out.below hb); clear P3 k1 k2 k4 hb; have HZ4 := blk_below HZ.out P4.out.hb; have HB4 := Aside0.mk (below_step HB0.out P4.out.hb); have z0 := blk_cell HZ4 0; have zf0 := blk_frozen HZ4 0; have z1 := blk_cell HZ4 1; have zf1 := blk_frozen HZ4 1; have z2 := blk_cell HZ4 2; have zf2 := blk_frozen HZ4 2; have z3 := blk_cell HZ4 3; have zf3 := blk_frozen HZ4 3; have z4 := blk_cell HZ4 4; have zf4 := blk_frozen HZ4 4)
      refine bodyPost_ret (results_ct rfl _ _ w.heap.size 25 #[.string (⟨#[]⟩ : ByteArray), .string (⟨#[]⟩ : ByteArray), .int .i64 0, .slice none 0 0, .string (⟨#[]⟩ : ByteArray)] (0, 0) _ rfl (blk_put (blk_put (blk_put (blk_put (blk_put HZ4 0 (.string (⟨#[]⟩ : ByteArray)) rfl) 1 (.string (⟨#[]⟩ : ByteArray)) rfl) 2 (.int .i64 0) rfl) 3 (.slice none 0 0) rfl) 4 (.string (⟨#[]⟩ : ByteArray)) rfl) Tryz.underlying25 rfl (by kernel_rfl)) rfl ?_
      exact ⟨_, rfl, Kd.R_nil _ _ _ _ _, (((((HB4.out.setCell (Nat.le_refl _) _).setCell (Nat.le_refl _) _).setCell (Nat.le_refl _) _).setCell (Nat.le_refl _) _).setCell (Nat.le_refl _) _)⟩
     ·rw [if_pos rfl] at h
      obtain ⟨⟨d1, d2⟩, hd, h⟩ := Option.bind_eq_some_iff.1 h
      simp only at h
      have HD := Aside0.mk hd
      clear hd
      go_upto_region 14 with (first | (go_at_call 30; refine (message_hosted A1 c1 s2 q3 true b _ k1 k2 HC.out hl HHO.out).mono ?_; rintro e w6 ⟨rfl, hb⟩; have P4 := Aside0.mk (P3.out.below hb); have j1 := blk_cell P4.out.k 1; have j2 := blk_cell P4.out.k 2; have j4 := blk_cell P4.out.k 4; have HC4 := Aside0.mk (Kd.C_below HC.out hb); clear P3 k1 k2 k4 HC HHO hb) | (go_at_call 31; refine (message_body k A1 c1 s2 q3 gr false d1 d2 b _ ⟨HT.out.below (below_step HB0.out P4.out.hb)⟩ j1 j2 j4 HC4.out hl HD.out).mono ?_; rintro e w7 ⟨rfl, hb⟩; have P5 := Aside0.mk (P4.out.below hb); have c4 := blk_cell P5.out.kg 4; have f4 := blk_frozen P5.out.kg 4; have HC5 := Aside0.mk (Kd.C_below HC4.out hb); clear P4 j1 j2 j4 HC4 HD hb))
      have P6 := Aside0.mk (P5.out.putg 4 (.string d1) rfl)
      clear P5 c4 f4 HC5
      generalize w7.setCell ⟨g, 4, none⟩ (.string d1) = w8 at P6 ⊢
      by_cases h5 : d2 = 0
      ·subst h5
       rw [if_pos rfl] at h
       obtain ⟨fs, hfs, h⟩ := Option.bind_eq_some_iff.1 h
       obtain ⟨rfl, rfl, rfl, rfl, rfl, rfl⟩ : q1 = r1 ∧ q2 = r2 ∧ q3 = r3 ∧ fs = r4 ∧ d1 = r5 ∧ 0 = r6 := by simpa using h
       clear h
       obtain ⟨A2, c2, heq, hl2, hC2⟩ := Kd.R_reads P6.out.r
       cases heq
       have P7 := Aside0.mk (P6.out.below (Below.drew (Below.refl w8.heap.size w8)))
       have k1 := blk_cell P7.out.k 1
       have HBA := Aside0.mk (message_bare A1 c1 s2 fs b w8.drew k1 (Kd.C_below hC2 (Below.drew (Below.refl _ _))) hl hfs)
       have k2 := blk_cell P6.out.k 2
       have hlg := blk_lt P6.out.kg
       have hlz : W0.heap.size ≤ w8.heap.size := P6.out.hb.size
       have hgw : w.heap.size ≤ g := by have := P6.out.h1; have := P6.out.h3; omega
       have hgz : w.heap.size ≠ g := by have := P6.out.h1; have := P6.out.h3; omega
       clear hC2 hfs P6 k1
       go_upto_region 16 with (fail)
       go_region_with (go_at_call 32; refine HBA.out.mono ?_; rintro e w9 ⟨v, rfl, hv, hb⟩; obtain ⟨A4, c4, rfl⟩ := Kd.R_slice hv; have P8 := Aside0.mk (P7.out.below hb); have HSZ : w8.heap.size ≤ w9.heap.size := hb.size; have RV := Aside0.mk (Kd.R_lower (Kd.R_mono (ok' := fun k => k ≠ g ∧ k ≠ w.heap.size) (Kd.R_bound hv) (fun k hk => ⟨by have h9 : w8.heap.size ≤ k := hk.2.1; omega, by have h9 : w8.heap.size ≤ k := hk.2.1; omega⟩)) (show w.heap.size ≤ w8.heap.size by omega)); have j2 := blk_cell P8.out.k 2; have d0_ := blk_cell P8.out.kg 0; have d1_ := blk_cell P8.out.kg 1; have d2_ := blk_cell P8.out.kg 2; have d3_ := blk_cell P8.out.kg 3; have d4_ := blk_cell P8.out.kg 4; have f2 := blk_frozen P8.out.kg 2; have f3 := blk_frozen P8.out.kg 3; have HZ8 := blk_below HZ.out P8.out.hb; have HB8 := Aside0.mk (below_step HB0.out P8.out.hb); have z0 := blk_cell HZ8 0; have zf0 := blk_frozen HZ8 0; have z1 := blk_cell HZ8 1; have zf1 := blk_frozen HZ8 1; have z2 := blk_cell HZ8 2; have zf2 := blk_frozen HZ8 2; have z3 := blk_cell HZ8 3; have zf3 := blk_frozen HZ8 3; have z4 := blk_cell HZ8 4; have zf4 := blk_frozen HZ8 4; clear HBA P7 k2 hv hb)
       all_goals
        go_wp2_with fail
        trace_state
        refine bodyPost_ret (results_ct rfl _ _ w.heap.size 25 #[.string q1, .string q2, .int .i64 q3, .slice A4 fs.length c4, .string d1] (0, 0) _ rfl (blk_put (blk_put (blk_put (blk_put (blk_put (blk_far (blk_far HZ8 hgz (.int .i64 q3)) hgz (.slice A4 fs.length c4)) 0 (.string q1) rfl) 1 (.string q2) rfl) 2 (.int .i64 q3) rfl) 3 (.slice A4 fs.length c4) rfl) 4 (.string d1) rfl) Tryz.underlying25 rfl (by kernel_rfl)) rfl ?_
        exact ⟨_, rfl, Kd.R_mono (Kd.R_far (p := ⟨w.heap.size, 4, none⟩) (Kd.R_far (p := ⟨w.heap.size, 3, none⟩) (Kd.R_far (p := ⟨w.heap.size, 2, none⟩) (Kd.R_far (p := ⟨w.heap.size, 1, none⟩) (Kd.R_far (p := ⟨w.heap.size, 0, none⟩) (Kd.R_far (p := ⟨g, 3, none⟩) (Kd.R_far (p := ⟨g, 2, none⟩) RV.out (fun k hk => hk.1) (.int .i64 q3)) (fun k hk => hk.1) (.slice A4 fs.length c4)) (fun k hk => hk.2) (.string q1)) (fun k hk => hk.2) (.string q2)) (fun k hk => hk.2) (.int .i64 q3)) (fun k hk => hk.2) (.slice A4 fs.length c4)) (fun k hk => hk.2) (.string d1)) (fun _ _ => trivial), (((((((HB8.out.setCell hgw _).setCell hgw _).setCell (Nat.le_refl _) _).setCell (Nat.le_refl _) _).setCell (Nat.le_refl _) _).setCell (Nat.le_refl _) _).setCell (Nat.le_refl _) _)⟩
      ·rw [if_neg h5] at h
       obtain ⟨rfl, rfl, rfl, rfl, rfl, rfl⟩ : (⟨#[]⟩ : ByteArray) = r1 ∧ (⟨#[]⟩ : ByteArray) = r2 ∧ 0 = r3 ∧ [] = r4 ∧ (⟨#[]⟩ : ByteArray) = r5 ∧ d2 = r6 := by simpa using h
       have e5 : (d2 != 0) = true := bne_iff_ne.2 h5
       clear h h5
       have HZ6 := blk_below HZ.out P6.out.hb
       have HB6 := Aside0.mk (below_step HB0.out P6.out.hb)
       have z0 := blk_cell HZ6 0
       have zf0 := blk_frozen HZ6 0
       have z1 := blk_cell HZ6 1
       have zf1 := blk_frozen HZ6 1
       have z2 := blk_cell HZ6 2
       have zf2 := blk_frozen HZ6 2
       have z3 := blk_cell HZ6 3
       have zf3 := blk_frozen HZ6 3
       have z4 := blk_cell HZ6 4
       have zf4 := blk_frozen HZ6 4
       go_wp2
       refine bodyPost_ret (results_ct rfl _ _ w.heap.size 25 #[.string (⟨#[]⟩ : ByteArray), .string (⟨#[]⟩ : ByteArray), .int .i64 0, .slice none 0 0, .string (⟨#[]⟩ : ByteArray)] (0, 0) _ rfl (blk_put (blk_put (blk_put (blk_put (blk_put HZ6 0 (.string (⟨#[]⟩ : ByteArray)) rfl) 1 (.string (⟨#[]⟩ : ByteArray)) rfl) 2 (.int .i64 0) rfl) 3 (.slice none 0 0) rfl) 4 (.string (⟨#[]⟩ : ByteArray)) rfl) Tryz.underlying25 rfl (by kernel_rfl)) rfl ?_
       exact ⟨_, rfl, Kd.R_nil _ _ _ _ _, (((((HB6.out.setCell (Nat.le_refl _) _).setCell (Nat.le_refl _) _).setCell (Nat.le_refl _) _).setCell (Nat.le_refl _) _).setCell (Nat.le_refl _) _)⟩
    ·rw [if_neg h4] at h
     obtain ⟨rfl, rfl, rfl, rfl, rfl, rfl⟩ : (⟨#[]⟩ : ByteArray) = r1 ∧ (⟨#[]⟩ : ByteArray) = r2 ∧ 0 = r3 ∧ [] = r4 ∧ (⟨#[]⟩ : ByteArray) = r5 ∧ s1 = r6 := by simpa using h
     have e4 : (s1 != 0) = true := bne_iff_ne.2 h4
     clear h h4
     go_wp2_with (go_at_call 29; refine HRW.out.mono ?_; rintro e w5 ⟨rfl, A1, c1, hp⟩; have P3 := Aside0.mk hp; clear P2 HRW hp; have HZ3 := blk_below HZ.out P3.out.hb; have HB3 := Aside0.mk (below_step HB0.out P3.out.hb); have z0 := blk_cell HZ3 0; have zf0 := blk_frozen HZ3 0; have z1 := blk_cell HZ3 1; have zf1 := blk_frozen HZ3 1; have z2 := blk_cell HZ3 2; have zf2 := blk_frozen HZ3 2; have z3 := blk_cell HZ3 3; have zf3 := blk_frozen HZ3 3; have z4 := blk_cell HZ3 4; have zf4 := blk_frozen HZ3 4)
     refine bodyPost_ret (results_ct rfl _ _ w.heap.size 25 #[.string (⟨#[]⟩ : ByteArray), .string (⟨#[]⟩ : ByteArray), .int .i64 0, .slice none 0 0, .string (⟨#[]⟩ : ByteArray)] (0, 0) _ rfl (blk_put (blk_put (blk_put (blk_put (blk_put HZ3 0 (.string (⟨#[]⟩ : ByteArray)) rfl) 1 (.string (⟨#[]⟩ : ByteArray)) rfl) 2 (.int .i64 0) rfl) 3 (.slice none 0 0) rfl) 4 (.string (⟨#[]⟩ : ByteArray)) rfl) Tryz.underlying25 rfl (by kernel_rfl)) rfl ?_
     exact ⟨_, rfl, Kd.R_nil _ _ _ _ _, (((((HB3.out.setCell (Nat.le_refl _) _).setCell (Nat.le_refl _) _).setCell (Nat.le_refl _) _).setCell (Nat.le_refl _) _).setCell (Nat.le_refl _) _)⟩
  ·rw [if_neg h2] at h
   obtain ⟨rfl, rfl, rfl, rfl, rfl, rfl⟩ : (⟨#[]⟩ : ByteArray) = r1 ∧ (⟨#[]⟩ : ByteArray) = r2 ∧ 0 = r3 ∧ [] = r4 ∧ (⟨#[]⟩ : ByteArray) = r5 ∧ q4 = r6 := by simpa using h
   have e2 : (q4 != 0) = true := bne_iff_ne.2 h2
   clear h h2
   have HZ2 := blk_below HZ.out P2.out.hb
   have HB2 := Aside0.mk (below_step HB0.out P2.out.hb)
   have z0 := blk_cell HZ2 0
   have zf0 := blk_frozen HZ2 0
   have z1 := blk_cell HZ2 1
   have zf1 := blk_frozen HZ2 1
   have z2 := blk_cell HZ2 2
   have zf2 := blk_frozen HZ2 2
   have z3 := blk_cell HZ2 3
   have zf3 := blk_frozen HZ2 3
   have z4 := blk_cell HZ2 4
   have zf4 := blk_frozen HZ2 4
   go_wp2
   refine bodyPost_ret (results_ct rfl _ _ w.heap.size 25 #[.string (⟨#[]⟩ : ByteArray), .string (⟨#[]⟩ : ByteArray), .int .i64 0, .slice none 0 0, .string (⟨#[]⟩ : ByteArray)] (0, 0) _ rfl (blk_put (blk_put (blk_put (blk_put (blk_put HZ2 0 (.string (⟨#[]⟩ : ByteArray)) rfl) 1 (.string (⟨#[]⟩ : ByteArray)) rfl) 2 (.int .i64 0) rfl) 3 (.slice none 0 0) rfl) 4 (.string (⟨#[]⟩ : ByteArray)) rfl) Tryz.underlying25 rfl (by kernel_rfl)) rfl ?_
   exact ⟨_, rfl, Kd.R_nil _ _ _ _ _, (((((HB2.out.setCell (Nat.le_refl _) _).setCell (Nat.le_refl _) _).setCell (Nat.le_refl _) _).setCell (Nat.le_refl _) _).setCell (Nat.le_refl _) _)⟩
 ·rw [if_neg h1] at h
  obtain ⟨rfl, rfl, rfl, rfl, rfl, rfl⟩ : (⟨#[]⟩ : ByteArray) = r1 ∧ (⟨#[]⟩ : ByteArray) = r2 ∧ 0 = r3 ∧ [] = r4 ∧ (⟨#[]⟩ : ByteArray) = r5 ∧ g1 = r6 := by simpa using h
  have e1 : (g1 != 0) = true := bne_iff_ne.2 h1
  have hgn := msgBegin_no hg h1
  rw [hgn] at hg
  have HG := Aside0.mk (message_begin_no a0 g1 h1 _ ⟨HT.out.below hb0⟩ hg)
  have HB0 := Aside0.mk hb0
  have HZ := Aside0.mk hz
  clear h hgn hg h1 hb0 hz
  go_enter Tryz.func9, Tryz.ntmps9
  go_wp2_with (go_at_call 27; refine HG.out.mono ?_; rintro e w1 ⟨rfl, hb⟩; have HZ1 := Aside0.mk (blk_below HZ.out hb); have HB1 := Aside0.mk (below_step HB0.out hb); have z0 := blk_cell HZ1.out 0; have zf0 := blk_frozen HZ1.out 0; have z1 := blk_cell HZ1.out 1; have zf1 := blk_frozen HZ1.out 1; have z2 := blk_cell HZ1.out 2; have zf2 := blk_frozen HZ1.out 2; have z3 := blk_cell HZ1.out 3; have zf3 := blk_frozen HZ1.out 3; have z4 := blk_cell HZ1.out 4; have zf4 := blk_frozen HZ1.out 4; clear HG HZ HB0 hb)
  refine bodyPost_ret (results_ct rfl _ _ w.heap.size 25 #[.string (⟨#[]⟩ : ByteArray), .string (⟨#[]⟩ : ByteArray), .int .i64 0, .slice none 0 0, .string (⟨#[]⟩ : ByteArray)] (0, 0) _ rfl (blk_put (blk_put (blk_put (blk_put (blk_put HZ1.out 0 (.string (⟨#[]⟩ : ByteArray)) rfl) 1 (.string (⟨#[]⟩ : ByteArray)) rfl) 2 (.int .i64 0) rfl) 3 (.slice none 0 0) rfl) 4 (.string (⟨#[]⟩ : ByteArray)) rfl) Tryz.underlying25 rfl (by kernel_rfl)) rfl ?_
  exact ⟨_, rfl, Kd.R_nil _ _ _ _ _, (((((HB1.out.setCell (Nat.le_refl _) _).setCell (Nat.le_refl _) _).setCell (Nat.le_refl _) _).setCell (Nat.le_refl _) _).setCell (Nat.le_refl _) _)⟩

end Go.Proofs.YtjaklgikfcahdaaGreatDoor.PU
