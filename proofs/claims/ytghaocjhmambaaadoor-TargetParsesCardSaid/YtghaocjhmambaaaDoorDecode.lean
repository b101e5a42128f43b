/- target.decoded, by a walk: a builder of its own. -/
import Derived.Test.YtghaocjhmambaaaDoorTarget
namespace Go.Proofs.YtghaocjhmambaaaDoor.Hand
open Go.RowKit Go.Proofs.YtghaocjhmambaaaDoorW.PrintWords
set_option linter.unusedVariables false
set_option linter.unusedSimpArgs false
open Go.Shelf in
def lays167_ren : Go.Shelf.Ren := ⟨fun | 167 => 41 | 240 => 56 | 276 => 70 | n => n, fun | 0 => 0 | 3 => 3 | 4 => 4 | 5 => 5 | 9 => 9 | 20 => 20 | 37 => 65 | 70 => 64 | 72 => 67 | 75 => 69 | 80 => 73 | 164 => 97 | n => n, fun | n => n⟩
set_option maxRecDepth 100000 in
theorem lays167 : Lays.n167 Tryd.prog lays167_ren := {
  mixed := by kernel_rfl
  f167 := Tryd.func41.trans (congrArg some (by kernel_rfl))
  f240 := Tryd.func56.trans (congrArg some (by kernel_rfl))
  f276 := Tryd.func70.trans (congrArg some (by kernel_rfl))
  t0 := Tryd.underlying0
  a0 := Tryd.isAgg0
  z0 := Tryd.sizeOf0
  v0 := Tryd.zeroValue0
  t4 := Tryd.underlying4
  a4 := Tryd.isAgg4
  z4 := Tryd.sizeOf4
  v4 := Tryd.zeroValue4
  t5 := Tryd.underlying5
  a5 := Tryd.isAgg5
  z5 := Tryd.sizeOf5
  v5 := Tryd.zeroValue5
  t9 := Tryd.underlying9
  a9 := Tryd.isAgg9
  z9 := Tryd.sizeOf9
  v9 := Tryd.zeroValue9
  t20 := Tryd.underlying20
  a20 := Tryd.isAgg20
  z20 := Tryd.sizeOf20
  v20 := Tryd.zeroValue20
  t37 := Tryd.underlying65
  a37 := Tryd.isAgg65
  z37 := Tryd.sizeOf65
  v37 := Tryd.zeroValue65
  t70 := Tryd.underlying64
  a70 := Tryd.isAgg64
  z70 := Tryd.sizeOf64
  v70 := Tryd.zeroValue64
  t72 := Tryd.underlying67
  a72 := Tryd.isAgg67
  z72 := Tryd.sizeOf67
  v72 := Tryd.zeroValue67
  t75 := Tryd.underlying69
  a75 := Tryd.isAgg69
  z75 := Tryd.sizeOf69
  v75 := Tryd.zeroValue69
  t164 := Tryd.underlying97
  a164 := Tryd.isAgg97
  z164 := Tryd.sizeOf97
  v164 := Tryd.zeroValue97 }
abbrev TBd : TypeId := 67
abbrev TBy : TypeId := 5
theorem bAt_below {B b : Nat} {p : Value} {bs : List Value} {w w' : World} (h : Lib.BuilderAtF TBd TBy B b p bs w) (hb : Below w.heap.size w w') : Lib.BuilderAtF TBd TBy B b p bs w' := by
  have hlt := h.lt
  obtain ⟨hB, v, hbk, hown, hne⟩ := h
  refine ⟨hB, v, ?_, ?_, hne⟩
  · rw [← hbk]; exact hb.block b hlt
  · exact hown.kept (row := none) ⟨hb.os, hb.tape, hb.output, hb.size, fun k hk _ => hb.block k hk⟩ (by by_cases e : v.ownBlock = none; exact Or.inl e; exact Or.inr e)
theorem isB_below {B b : Nat} {bs : List Value} {w w' : World} (h : Lib.IsBuilderF TBd TBy B b bs w) (hb : Below w.heap.size w w') : Lib.IsBuilderF TBd TBy B b bs w' :=
  h.elim (fun x => .inl (bAt_below x hb)) (fun x => .inr (bAt_below x hb))
/-- The builder of block b holds a text. -/
def Holds (b : Nat) (out : ByteArray) (w : World) : Prop := Lib.IsBuilderF TBd TBy b b (Lib.byteCells out.data.toList) w
theorem Holds.fresh (w : World) : Holds w.heap.size ⟨#[]⟩ (w.alloc (.cells #[.pointer none, .slice none 0 0] TBd)) := Lib.IsBuilderF.of (Lib.fresh_isBuilder TBd TBy w)
theorem Holds.below {b : Nat} {out : ByteArray} {w w' : World} (h : Holds b out w) (hb : Below w.heap.size w w') : Holds b out w' := isB_below h hb
theorem Holds.lt {b : Nat} {out : ByteArray} {w : World} (h : Holds b out w) : b < w.heap.size := h.elim (fun x => x.lt) (fun x => x.lt)
theorem builder_extra9 : Builder.Extra Tryd.prog Tryd.lays169_ren := {
  sizeBuilder := by kernel_rfl
  liesBuilder := by kernel_rfl
  t5 := Tryd.underlying5
  a5 := Tryd.isAgg5
  z5 := Tryd.sizeOf5
  v5 := Tryd.zeroValue5
  infoByte := by kernel_rfl
  cellsByte := by kernel_rfl
  sizeByte := by kernel_rfl
  neB5 := by decide }
theorem Holds.string {b : Nat} {out : ByteArray} {w : World} (h : Holds b out w) :
    Calls Tryd.prog 43 #[.pointer (some ⟨b, 0, none⟩)] w fun e w' => e = .returned (.string out) ∧ Below b w w' := by
  refine (Any.Builder_String_any_k Tryd.lays169 builder_extra9 b b out.data.toList w h (Nat.le_of_lt h.lt)).mono ?_
  rintro e w' ⟨rfl, h1, h2, h3⟩
  exact ⟨rfl, h2⟩
theorem builder_extra7 : Builder.Extra Tryd.prog lays167_ren := {
  sizeBuilder := by kernel_rfl
  liesBuilder := by kernel_rfl
  t5 := Tryd.underlying5
  a5 := Tryd.isAgg5
  z5 := Tryd.sizeOf5
  v5 := Tryd.zeroValue5
  infoByte := by kernel_rfl
  cellsByte := by kernel_rfl
  sizeByte := by kernel_rfl
  neB5 := by decide }
def oneB (c : Int) : ByteArray := ⟨#[c.toNat.toUInt8]⟩
theorem Holds.byte {b : Nat} {out : ByteArray} {w : World} (h : Holds b out w) (c : Int) (hc : 0 ≤ c ∧ c ≤ 255) (hlen : out.size + 1 ≤ 140737488355328) :
    Calls Tryd.prog 41 #[.pointer (some ⟨b, 0, none⟩), .int .u8 c] w fun e w' => e = .returned .nilIface ∧ Holds b (out ++ oneB c) w' ∧ Below b w w' := by
  refine (Any.Builder_WriteByte_k lays167 builder_extra7 b b (Lib.byteCells out.data.toList) c w h (by rw [Lib.byteCells_length, data_length]; exact hlen) (Nat.le_of_lt h.lt)).mono ?_
  rintro e w' ⟨rfl, h1, h2, h3⟩
  refine ⟨rfl, Or.inr ?_, h2⟩
  have e1 : Lib.byteCells (out ++ oneB c).data.toList = Lib.byteCells out.data.toList ++ [.int .u8 c] := by
    rw [ByteArray.data_append, Array.toList_append, Lib.byteCells_append]
    show _ ++ Lib.byteCells [c.toNat.toUInt8] = _
    have := u8_back c hc
    simp only [Lib.byteCells, List.map_cons, List.map_nil]
    rw [this]
  rw [e1]
  exact h1
/-! what decoded computes -/
def plainT : ByteArray := ⟨#[45, 46, 95, 126]⟩
def great : ByteArray := ⟨#[48, 49, 50, 51, 52, 53, 54, 55, 56, 57, 65, 66, 67, 68, 69, 70]⟩
def decdGo (kind : Int → Bool) : Nat → ByteArray → ByteArray → Option (ByteArray × Bool)
  | 0, _, _ => none
  | k + 1, s, out =>
    if s.size = 0 then some (out, true)
    else if ¬ bt s 0 = 37 then if kind (bt s 0) = true then decdGo kind k (s.extract 1 s.size) (out ++ oneB (bt s 0)) else some (⟨#[]⟩, false)
    else if s.size < 3 then some (⟨#[]⟩, false)
    else if (hexP (bt s 1)).2 = true ∧ (hexP (bt s 2)).2 = true then
      if ofB plainT (16 * (hexP (bt s 1)).1 + (hexP (bt s 2)).1) = true then decdGo kind k (s.extract 3 s.size) (out ++ oneB (16 * (hexP (bt s 1)).1 + (hexP (bt s 2)).1))
      else decdGo kind k (s.extract 3 s.size) (out ++ oneB 37 ++ oneB (bt great (hexP (bt s 1)).1) ++ oneB (bt great (hexP (bt s 2)).1))
    else some (⟨#[]⟩, false)
theorem hexP_range (c : Int) : 0 ≤ (hexP c).1 ∧ (hexP c).1 ≤ 15 := by
  unfold hexP
  split
  case isTrue h => have := range_le h; show 0 ≤ c - 48 ∧ c - 48 ≤ 15; omega
  case isFalse =>
    split
    case isTrue h => have := range_le h; show 0 ≤ c - 97 + 10 ∧ c - 97 + 10 ≤ 15; omega
    case isFalse =>
      split
      case isTrue h => have := range_le h; show 0 ≤ c - 65 + 10 ∧ c - 65 + 10 ≤ 15; omega
      case isFalse => decide
def strOf : Value → ByteArray | .string s => s | _ => ⟨#[]⟩
theorem u8_int (c : UInt8) : 0 ≤ (c.toNat : Int) ∧ (c.toNat : Int) ≤ 255 := by have := c.toNat_lt; omega
theorem one_size (c : Int) : (oneB c).size = 1 := rfl
/-- The state of decoded's loop. -/
structure DecAt (w : World) (b : Nat) (v f : Value) (more : ByteArray) (N : Nat) (s out : ByteArray) (w' : World) : Prop where
  holds : Holds b out w'
  kind : OfAt w' v more
  free : OfAt w' f plainT
  kb : ∃ k, v = .func (.func 45) #[] #[.pointer (some ⟨k, 0, none⟩)] ∧ k < b
  fb : ∃ k, f = .func (.func 45) #[] #[.pointer (some ⟨k, 0, none⟩)] ∧ k < b
  le : w.heap.size ≤ b
  below : Below w.heap.size w w'
  room : out.size + s.size ≤ N
theorem OfAt.keep {w w' : World} {v : Value} {more : ByteArray} {b : Nat} (h : OfAt w v more) (hv : ∃ k, v = .func (.func 45) #[] #[.pointer (some ⟨k, 0, none⟩)] ∧ k < b) (hb : Below b w w') : OfAt w' v more := by
  obtain ⟨k, e, hk⟩ := hv
  obtain ⟨k', e', h1, h2⟩ := h.out
  have : k = k' := by
    rw [e] at e'
    simpa using e'
  subst this
  refine ⟨⟨k, e, ?_, Nat.lt_of_lt_of_le h2 hb.size⟩⟩
  rw [← h1]
  exact World.cell?_of_block (hb.block k hk)
theorem DecAt.step {w : World} {b N : Nat} {v f : Value} {more s out s' out' : ByteArray} {w1 w2 : World} (h : DecAt w b v f more N s out w1) (hh : Holds b out' w2) (hb : Below b w1 w2) (hr : out'.size + s'.size ≤ N) : DecAt w b v f more N s' out' w2 :=
  ⟨hh, h.kind.keep h.kb hb, h.free.keep h.fb hb, h.kb, h.fb, h.le, h.below.trans (hb.mono h.le), hr⟩
theorem DecAt.quiet {w : World} {b N : Nat} {v f : Value} {more s out : ByteArray} {w1 w2 : World} (h : DecAt w b v f more N s out w1) (hb : Below w1.heap.size w1 w2) : DecAt w b v f more N s out w2 :=
  ⟨h.holds.below hb, h.kind.below hb, h.free.below hb, h.kb, h.fb, h.le, below_then h.below h.below.size hb, h.room⟩
set_option maxHeartbeats 1200000 in
set_option maxRecDepth 100000 in
theorem decoded_any (s0 more : ByteArray) (v : Value) (w : World) (hk : OfAt w v more) (hs : s0.size ≤ 100000000) (K : Nat) (r : ByteArray × Bool) (hr : decdGo (ofB more) K s0 ⟨#[]⟩ = some r) :
    Calls Tryd.prog 23 #[.string s0, v] w fun e w' => e = .returned (.tuple #[.string r.1, .bool r.2]) ∧ Below w.heap.size w w' := by
  obtain ⟨kb, rfl, hkc, hkl⟩ := hk.out
  have HK := Lib.hid hk; have HKL := Lib.hid hkl; have HR := Lib.hid hr; clear hk hkc hkl hr
  go_enter Tryd.func23, Tryd.ntmps23
  go_wp2_with (go_at_call 24; refine (of_any [plainT] 1 _ plainT rfl rfl _ (fun j x h => by match j, h with | 0, h => (simp at h; subst h; simp [go_sem, plainT])) (by simp) (by decide) (by decide)).mono ?_; rintro e w1 ⟨⟨f, rfl, hf⟩, hb1⟩; obtain ⟨fb, rfl, hfc, hfl⟩ := hf.out)
  have hb0 : Below w.heap.size w w1 := below_then (alloc_below w _) (by simp) hb1
  have hD : DecAt w w1.heap.size (.func (.func 45) #[] #[.pointer (some ⟨kb, 0, none⟩)]) (.func (.func 45) #[] #[.pointer (some ⟨fb, 0, none⟩)]) more s0.size s0 ⟨#[]⟩ (w1.alloc (.cells #[.pointer none, .slice none 0 0] TBd)) :=
    ⟨Holds.fresh w1, (HK.out.below hb0).below (alloc_below _ _), hf.below (alloc_below _ _), ⟨kb, rfl, Nat.lt_of_lt_of_le HKL.out hb0.size⟩, ⟨fb, rfl, hfl⟩, hb0.size, below_then hb0 hb0.size (alloc_below _ _), by show 0 + s0.size ≤ s0.size; omega⟩
  clear hb1 hf hfc hfl hb0
  generalize w1.heap.size = B at hD ⊢
  generalize w1.alloc _ = wB at hD ⊢
  have HD := Lib.hid hD; clear hD
  go_loopw [0] (fun sv w' => ∃ (k : Nat) (s out : ByteArray), sv = .string s ∧ Hid (decdGo (ofB more) k s out = some r) ∧ DecAt w B (.func (.func 45) #[] #[.pointer (some ⟨kb, 0, none⟩)]) (.func (.func 45) #[] #[.pointer (some ⟨fb, 0, none⟩)]) more s0.size s out w') (fun sv _ => (strOf sv).size)
  case atStart => exact ⟨K, s0, ⟨#[]⟩, rfl, HR, HD.out⟩
  case round =>
    obtain ⟨k, s, out, rfl, h, hd⟩ := hrel
    cases k with
    | zero => exact absurd h.out (by simp [decdGo])
    | succ k =>
      have hg := h.out
      clear h
      rw [decdGo] at hg
      have hroom := hd.room
      by_cases c0 : s.size = 0
      · rw [if_pos c0] at hg
        have hr1 := Option.some.inj hg
        have hn := toList_nil_of c0
        have HW := hd.holds.string
        have HD := Lib.hid hd
        have HRR := Lib.hid hr1
        clear hd hg hr1
        go_wp2_with (go_at_call 43; refine HW.mono ?_; rintro e w2 ⟨rfl, hb2⟩; clear HW)
        go_ret2
        exact ⟨by rw [← HRR.out]; rfl, HD.out.below.trans (hb2.mono HD.out.le)⟩
      · rw [if_neg c0] at hg
        have hn := toList_cons_of c0
        have hf0 : 0 < s.size := by omega
        have e0 : ((s[0]'hf0).toNat : Int) = bt s 0 := bt_at s 0 hf0
        have hr0 := bt_range s 0
        obtain ⟨kb', ekb, hkc, hkl⟩ := hd.kind.out
        obtain rfl : kb = kb' := by simpa using ekb
        by_cases c1 : bt s 0 = 37
        · rw [if_neg (not_not_intro c1)] at hg
          have q1 : (bt s 0 != 37) = false := by rw [c1]; rfl
          have HD := Lib.hid hd
          by_cases c2 : s.size < 3
          · rw [if_pos c2] at hg
            have HRR := Lib.hid (Option.some.inj hg)
            clear hd hg ekb hkc hkl
            go_wp2
            go_ret2
            exact ⟨by rw [← HRR.out]; rfl, HD.out.below⟩
          · rw [if_neg c2] at hg
            have hf1 : 1 < s.size := by omega
            have hf2 : 2 < s.size := by omega
            have e1 : ((s[1]'hf1).toNat : Int) = bt s 1 := bt_at s 1 hf1
            have e2 : ((s[2]'hf2).toNat : Int) = bt s 2 := bt_at s 2 hf2
            have X1 := fun w => Hex_any (bt s 1) w (bt_range s 1)
            have X2 := fun w => Hex_any (bt s 2) w (bt_range s 2)
            unfold HexPost at X1 X2
            have ra := hexP_range (bt s 1)
            have rb := hexP_range (bt s 2)
            generalize hexP (bt s 1) = p1 at hg X1 ra
            generalize hexP (bt s 2) = p2 at hg X2 rb
            obtain ⟨a, oka⟩ := p1
            obtain ⟨b, okb⟩ := p2
            simp only at hg X1 X2 ra rb
            cases oka
            · rw [if_neg (by simp)] at hg
              have HRR := Lib.hid (Option.some.inj hg)
              clear hd hg ekb hkc hkl
              go_wp2_with (first | (go_at_call 42; refine (X1 _).mono ?_; rintro e w2 ⟨rfl, hb2⟩; clear X1) | (go_at_call 42; refine (X2 _).mono ?_; rintro e w3 ⟨rfl, hb3⟩; clear X2))
              go_ret2
              exact ⟨by rw [← HRR.out]; rfl, below_then (below_then HD.out.below HD.out.below.size hb2) (Nat.le_trans HD.out.below.size hb2.size) hb3⟩
            · cases okb
              · rw [if_neg (by simp)] at hg
                have HRR := Lib.hid (Option.some.inj hg)
                clear hd hg ekb hkc hkl
                go_wp2_with (first | (go_at_call 42; refine (X1 _).mono ?_; rintro e w2 ⟨rfl, hb2⟩; clear X1) | (go_at_call 42; refine (X2 _).mono ?_; rintro e w3 ⟨rfl, hb3⟩; clear X2))
                go_ret2
                exact ⟨by rw [← HRR.out]; rfl, below_then (below_then HD.out.below HD.out.below.size hb2) (Nat.le_trans HD.out.below.size hb2.size) hb3⟩
              · rw [if_pos ⟨rfl, rfl⟩] at hg
                obtain ⟨fb', efb, hfc, hfl⟩ := hd.free.out
                obtain rfl : fb = fb' := by simpa using efb
                have xr : 0 ≤ 16 * a + b ∧ 16 * a + b ≤ 255 := by omega
                have H := fun w2 (hb2 : Below wr.heap.size wr w2) => of1_any (16 * a + b) plainT fb w2 (cell_below hb2 hfc hfl) (Nat.lt_of_lt_of_le hfl hb2.size)
                cases c3 : ofB plainT (16 * a + b)
                · rw [c3] at H
                  rw [c3, if_neg (by simp)] at hg
                  have ga : (((⟨#[48, 49, 50, 51, 52, 53, 54, 55, 56, 57, 65, 66, 67, 68, 69, 70]⟩ : ByteArray)[a.toNat]'(by show a.toNat < 16; omega)).toNat : Int) = bt great a := bt_at great a (by show a.toNat < 16; omega)
                  have gb : (((⟨#[48, 49, 50, 51, 52, 53, 54, 55, 56, 57, 65, 66, 67, 68, 69, 70]⟩ : ByteArray)[b.toNat]'(by show b.toNat < 16; omega)).toNat : Int) = bt great b := bt_at great b (by show b.toNat < 16; omega)
                  rw [← ga, ← gb] at hg
                  have HG := Lib.hid hg
                  have HH := Lib.hid H
                  have HW1 := Lib.hid (fun w2 (hb2 : Below wr.heap.size wr w2) => (HD.out.quiet hb2).holds.byte 37 (by decide) (by omega))
                  clear ga gb hd hg ekb hkc hkl efb hfc hfl H
                  go_wp2_with (first | (go_at_call 42; refine (X1 _).mono ?_; rintro e w2 ⟨rfl, hb2⟩; clear X1) | (go_at_call 42; refine (X2 _).mono ?_; rintro e w3 ⟨rfl, hb3⟩; clear X2; have hb23 := below_then hb2 hb2.size hb3) | (go_at_call 45; refine (HH.out _ hb23).mono ?_; rintro e w4 ⟨rfl, hb4⟩; have hb24 := below_then hb23 hb23.size hb4) | (go_at_call 41; refine (HW1.out _ hb24).mono ?_; rintro e w5 ⟨rfl, hh5, hb5⟩; clear HW1))
                  go_wp2_with (go_at_call 41; refine (hh5.byte _ (u8_int _) (by rw [ByteArray.size_append, one_size]; omega)).mono ?_; rintro e w6 ⟨rfl, hh6, hb6⟩)
                  go_wp2_with (go_at_call 41; refine (hh6.byte _ (u8_int _) (by rw [ByteArray.size_append, ByteArray.size_append, one_size, one_size]; omega)).mono ?_; rintro e w7 ⟨rfl, hh7, hb7⟩)
                  go_round
                  case rel => exact ⟨k, _, _, rfl, HG, (HD.out.quiet hb24).step hh7 ((hb5.trans hb6).trans hb7) (by rw [ByteArray.size_append, ByteArray.size_append, ByteArray.size_append, one_size, one_size, one_size, ByteArray.size_extract]; omega)⟩
                  case measure => simp [strOf]; omega
                · rw [c3] at H
                  rw [c3, if_pos rfl] at hg
                  have HG := Lib.hid hg
                  have HH := Lib.hid H
                  have HW := fun w2 (hb2 : Below wr.heap.size wr w2) => (HD.out.quiet hb2).holds.byte (16 * a + b) xr (by omega)
                  have HW' := Lib.hid HW
                  clear hd hg ekb hkc hkl HW efb hfc hfl H
                  go_wp2_with (first | (go_at_call 42; refine (X1 _).mono ?_; rintro e w2 ⟨rfl, hb2⟩; clear X1) | (go_at_call 42; refine (X2 _).mono ?_; rintro e w3 ⟨rfl, hb3⟩; clear X2; have hb23 := below_then hb2 hb2.size hb3) | (go_at_call 45; refine (HH.out _ hb23).mono ?_; rintro e w4 ⟨rfl, hb4⟩; have hb24 := below_then hb23 hb23.size hb4) | (go_at_call 41; refine (HW'.out _ hb24).mono ?_; rintro e w5 ⟨rfl, hh5, hb5⟩))
                  go_round
                  case rel => exact ⟨k, _, _, rfl, HG, (HD.out.quiet hb24).step hh5 hb5 (by rw [ByteArray.size_append, one_size, ByteArray.size_extract]; omega)⟩
                  case measure => simp [strOf]; omega
        · rw [if_pos c1] at hg
          have q1 : (bt s 0 != 37) = true := bne_iff_ne.mpr c1
          have H := of1_any (bt s 0) more kb wr hkc hkl
          have HD := Lib.hid hd
          cases c2 : ofB more (bt s 0)
          · rw [c2] at H
            rw [c2, if_neg (by simp)] at hg
            have HRR := Lib.hid (Option.some.inj hg)
            clear hd hg ekb hkc hkl
            go_wp2_with (go_at_call 45; refine H.mono ?_; rintro e w2 ⟨rfl, hb2⟩; clear H)
            go_ret2
            exact ⟨by rw [← HRR.out]; rfl, below_then HD.out.below HD.out.below.size hb2⟩
          · rw [c2] at H
            rw [c2, if_pos rfl] at hg
            have HG := Lib.hid hg
            have HW := fun w2 (hb2 : Below wr.heap.size wr w2) => (HD.out.quiet hb2).holds.byte (bt s 0) hr0 (by omega)
            have HW' := Lib.hid HW
            clear hd hg ekb hkc hkl HW
            go_wp2_with (first | (go_at_call 45; refine H.mono ?_; rintro e w2 ⟨rfl, hb2⟩; clear H) | (go_at_call 41; refine (HW'.out _ hb2).mono ?_; rintro e w3 ⟨rfl, hh3, hb3⟩))
            go_round
            case rel => exact ⟨k, _, _, rfl, HG, (HD.out.quiet hb2).step hh3 hb3 (by rw [ByteArray.size_append, one_size, ByteArray.size_extract]; omega)⟩
            case measure => simp [strOf]; omega
end Go.Proofs.YtghaocjhmambaaaDoor.Hand
