/- chunk.Encode, by a walk: a builder of its own. -/
import Derived.Test.YtmmmfippfoginaaDoorHand
import Derived.Test.YtmmmfippfoginaaDoorShelf
import Derived.LoopN
import Derived.Shelf.Strings.BuilderK
namespace Go.Proofs.YtmmmfippfoginaaDoor.Hand
open Go.RowKit Go.Proofs.YtmmmfippfoginaaDoorW.PrintWords
set_option linter.unusedVariables false
set_option linter.unusedSimpArgs false
def crlf : ByteArray := ⟨#[13, 10]⟩
def encGo (hx : Int → Option ByteArray) : Nat → ByteArray → Int → ByteArray → Option ByteArray
  | 0, _, _, _ => none
  | k + 1, s, z, out =>
    if s.size = 0 then some (out ++ ⟨#[48, 13, 10]⟩ ++ crlf)
    else (hx (min z s.size)).bind fun h =>
      if out.size + h.size + s.size + 100 ≤ 140737488355328 then encGo hx k (s.extract (min z s.size).toNat s.size) z (out ++ h ++ crlf ++ s.extract 0 (min z s.size).toNat ++ crlf) else none
def HexOk (hx : Int → Option ByteArray) : Prop := ∀ n h, hx n = some h → ∀ w, Calls Tryd.prog 19 #[.int .i64 n] w fun e w' => e = .returned (.string h) ∧ Below w.heap.size w w'
open Go.Shelf in
def lays166_ren : Go.Shelf.Ren := ⟨fun | 166 => 20 | 240 => 35 | 276 => 52 | n => n, fun | 0 => 0 | 3 => 3 | 4 => 4 | 5 => 5 | 9 => 9 | 20 => 20 | 37 => 40 | 70 => 39 | 72 => 42 | 75 => 60 | 80 => 49 | 164 => 92 | n => n, fun | n => n⟩
set_option maxRecDepth 100000 in
theorem lays166 : Lays.n166 Tryd.prog lays166_ren := {
  mixed := by kernel_rfl
  f166 := Tryd.func20.trans (congrArg some (by kernel_rfl))
  f240 := Tryd.func35.trans (congrArg some (by kernel_rfl))
  f276 := Tryd.func52.trans (congrArg some (by kernel_rfl))
  t0 := Tryd.underlying0
  a0 := Tryd.isAgg0
  z0 := Tryd.sizeOf0
  v0 := Tryd.zeroValue0
  t3 := Tryd.underlying3
  a3 := Tryd.isAgg3
  z3 := Tryd.sizeOf3
  v3 := Tryd.zeroValue3
  t4 := Tryd.underlying4
  a4 := Tryd.isAgg4
  z4 := Tryd.sizeOf4
  v4 := Tryd.zeroValue4
  t9 := Tryd.underlying9
  a9 := Tryd.isAgg9
  z9 := Tryd.sizeOf9
  v9 := Tryd.zeroValue9
  t20 := Tryd.underlying20
  a20 := Tryd.isAgg20
  z20 := Tryd.sizeOf20
  v20 := Tryd.zeroValue20
  t37 := Tryd.underlying40
  a37 := Tryd.isAgg40
  z37 := Tryd.sizeOf40
  v37 := Tryd.zeroValue40
  t70 := Tryd.underlying39
  a70 := Tryd.isAgg39
  z70 := Tryd.sizeOf39
  v70 := Tryd.zeroValue39
  t72 := Tryd.underlying42
  a72 := Tryd.isAgg42
  z72 := Tryd.sizeOf42
  v72 := Tryd.zeroValue42
  t75 := Tryd.underlying60
  a75 := Tryd.isAgg60
  z75 := Tryd.sizeOf60
  v75 := Tryd.zeroValue60
  t164 := Tryd.underlying92
  a164 := Tryd.isAgg92
  z164 := Tryd.sizeOf92
  v164 := Tryd.zeroValue92 }
theorem builder_extra : Builder.Extra Tryd.prog lays166_ren := {
  sizeBuilder := by kernel_rfl
  liesBuilder := by kernel_rfl
  t5 := Tryd.underlying5
  a5 := Tryd.isAgg5
  z5 := Tryd.sizeOf5
  v5 := Tryd.zeroValue5
  infoByte := by kernel_rfl
  cellsByte := by kernel_rfl
  sizeByte := by kernel_rfl
  neB5 := by decide }
abbrev TBd : TypeId := 42
abbrev TBy : TypeId := 5
theorem bAt_below {B b : Nat} {p : Value} {bs : List Value} {w w' : World} (h : Lib.BuilderAtF TBd TBy B b p bs w) (hb : Below w.heap.size w w') : Lib.BuilderAtF TBd TBy B b p bs w' := by
  have hlt := h.lt
  obtain ⟨hB, v, hbk, hown, hne⟩ := h
  refine ⟨hB, v, ?_, ?_, hne⟩
  · rw [← hbk]; exact hb.block b hlt
  · exact hown.kept (row := none) ⟨hb.os, hb.tape, hb.output, hb.size, fun k hk _ => hb.block k hk⟩ (by by_cases e : v.ownBlock = none; exact Or.inl e; exact Or.inr e)
theorem isB_below {B b : Nat} {bs : List Value} {w w' : World} (h : Lib.IsBuilderF TBd TBy B b bs w) (hb : Below w.heap.size w w') : Lib.IsBuilderF TBd TBy B b bs w' :=
  h.elim (fun x => .inl (bAt_below x hb)) (fun x => .inr (bAt_below x hb))
/-- The builder of block b holds a text. -/
def Holds (b : Nat) (out : ByteArray) (w : World) : Prop := Lib.IsBuilderF TBd TBy b b (Lib.byteCells out.data.toList) w
theorem Holds.fresh (w : World) : Holds w.heap.size ⟨#[]⟩ (w.alloc (.cells #[.pointer none, .slice none 0 0] TBd)) := Lib.IsBuilderF.of (Lib.fresh_isBuilder TBd TBy w)
theorem Holds.below {b : Nat} {out : ByteArray} {w w' : World} (h : Holds b out w) (hb : Below w.heap.size w w') : Holds b out w' := isB_below h hb
theorem Holds.lt {b : Nat} {out : ByteArray} {w : World} (h : Holds b out w) : b < w.heap.size := h.elim (fun x => x.lt) (fun x => x.lt)
theorem Holds.write {b : Nat} {out : ByteArray} {w : World} (h : Holds b out w) (x : ByteArray) (hlen : out.size + x.size ≤ 140737488355328) :
    Calls Tryd.prog 20 #[.pointer (some ⟨b, 0, none⟩), .string x] w fun e w' => e = .returned (.tuple #[.int .i64 x.size, .nilIface]) ∧ Holds b (out ++ x) w' ∧ Below b w w' ∧ Lib.OthersKept TBy (some b) w w' := by
  refine (Any.Builder_WriteString_k lays166 builder_extra b b (Lib.byteCells out.data.toList) x w h (by rw [Lib.byteCells_length, data_length]; exact hlen) (Nat.le_of_lt h.lt)).mono ?_
  rintro e w' ⟨rfl, h1, h2, h3⟩
  refine ⟨rfl, Or.inr ?_, h2, h3⟩
  rw [ByteArray.data_append, Array.toList_append, Lib.byteCells_append, ← Lib.strCells_eq x]
  exact h1
theorem builder_extra9 : Builder.Extra Tryd.prog Tryd.lays169_ren := {
  sizeBuilder := by kernel_rfl
  liesBuilder := by kernel_rfl
  t5 := Tryd.underlying5
  a5 := Tryd.isAgg5
  z5 := Tryd.sizeOf5
  v5 := Tryd.zeroValue5
  infoByte := by kernel_rfl
  cellsByte := by kernel_rfl
  sizeByte := by kernel_rfl
  neB5 := by decide }
theorem Holds.string {b : Nat} {out : ByteArray} {w : World} (h : Holds b out w) :
    Calls Tryd.prog 15 #[.pointer (some ⟨b, 0, none⟩)] w fun e w' => e = .returned (.string out) ∧ Below b w w' := by
  refine (Any.Builder_String_any_k Tryd.lays169 builder_extra9 b b out.data.toList w h (Nat.le_of_lt h.lt)).mono ?_
  rintro e w' ⟨rfl, h1, h2, h3⟩
  exact ⟨rfl, h2⟩
theorem kept_cell {b k : Nat} {w w' : World} (h : Lib.OthersKept TBy (some b) w w') {o : Obj} (hk : w.heap[k]? = some o) (hb : k ≠ b) (ho : ∀ c fz, o ≠ .cells c TBy fz) : w'.heap[k]? = some o :=
  h k o hk (fun e => hb (Option.some.inj e)) ho
set_option maxHeartbeats 800000 in
theorem enc_loop (hx : Int → Option ByteArray) (HX : HexOk hx) (s : ByteArray) (z : Int) (w : World) (hz : 1 ≤ z) (hz1 : z ≤ 65536) (hs : s.size ≤ 65536) (K : Nat) (r : ByteArray) (hr : encGo hx K s z ⟨#[]⟩ = some r) (hrs : r.size ≤ 140737488355328) :
    Calls Tryd.prog 10 #[.string s, .int .i64 z] w fun x w' => x = .returned (.tuple #[.string r, .int .i64 0]) ∧ Below w.heap.size w w' := by
  have HR := Lib.hid hr; have HX' := Lib.hid HX; have HRS := Lib.hid hrs
  have HF := Lib.hid (Holds.fresh w)
  clear hr HX hrs
  go_enter Tryd.func10, Tryd.ntmps10
  go_wp2
  go_loopw [0] (fun sv w' => ∃ (K' : Nat) (s1 out : ByteArray), sv = .string s1 ∧ Holds w.heap.size out w' ∧ Below w.heap.size w w' ∧ s1.size ≤ 65536 ∧ encGo hx K' s1 z out = some r) (fun sv _ => match sv with | .string x => x.size | _ => 0)
  case atStart => exact ⟨K, s, ⟨#[]⟩, rfl, HF.out, alloc_below _ _, hs, HR.out⟩
  case round =>
    clear HF HR hs
    obtain ⟨K', t, out, rfl, hh, hb, hs, hr⟩ := hrel
    obtain _ | K' := K'
    · simp [encGo] at hr
    unfold encGo at hr
    by_cases c1 : t.size = 0
    · rw [if_pos c1] at hr
      replace hr := Option.some.inj hr
      have hn := toList_nil_of c1
      have hlen : r.size = out.size + 5 := by rw [← hr, ByteArray.size_append, ByteArray.size_append]; rfl
      have H1 := Holds.write hh ⟨#[48, 13, 10]⟩ (by have := HRS.out; show out.size + 3 ≤ _; omega)
      have H2 := fun w1 (h1 : Holds w.heap.size (out ++ ⟨#[48, 13, 10]⟩) w1) => Holds.write h1 ⟨#[13, 10]⟩ (by have := HRS.out; rw [ByteArray.size_append]; show out.size + 3 + 2 ≤ _; omega)
      have H3 := fun w1 (h1 : Holds w.heap.size (out ++ ⟨#[48, 13, 10]⟩ ++ crlf) w1) => Holds.string h1
      rw [hr] at H3
      have HB := Lib.hid hb
      have hx1 : Holds w.heap.size (out ++ ⟨#[48, 13, 10]⟩ ++ crlf) = Holds w.heap.size r := by rw [hr]
      have HX1 := Lib.hid hx1
      clear c1 hs hh hb hr hlen hx1
      go_wp2_with (first | (go_at_call 20; refine H1.mono ?_; rintro e w1 ⟨rfl, h1, hb1, ho1⟩; clear H1) | (go_at_call 20; refine (H2 _ h1).mono ?_; rintro e w2 ⟨rfl, h2, hb2, ho2⟩; clear H2) | (go_at_call 15; refine (H3 _ (HX1.out ▸ h2)).mono ?_; rintro e w3 ⟨rfl, hb3⟩; clear H3))
      go_ret2
      exact ⟨rfl, HB.out.trans (hb1.trans (hb2.trans hb3))⟩
    · rw [if_neg c1] at hr
      have hn := toList_cons_of c1
      have hn1 : 1 ≤ min z (t.size : Int) := by omega
      have hn2 : min z (t.size : Int) ≤ t.size := by omega
      go_wp2_with fail
      generalize min z (t.size : Int) = n at hr hn1 hn2 ⊢
      cases hhx : hx n with
      | none => rw [hhx] at hr; simp at hr
      | some h =>
        rw [hhx] at hr
        simp only [Option.bind_some] at hr
        by_cases c2 : out.size + h.size + t.size + 100 ≤ 140737488355328
        case neg => rw [if_neg c2] at hr; simp at hr
        rw [if_pos c2] at hr
        have H0 := HX'.out n h hhx
        have hsz : (t.extract 0 n.toNat).size ≤ t.size := by rw [ByteArray.size_extract]; omega
        have hsx : (t.extract n.toNat t.size).size = t.size - n.toNat := by rw [ByteArray.size_extract]; omega
        have HH := Lib.hid hh; have HB := Lib.hid hb; have HR := Lib.hid hr; have HSX := Lib.hid hsx
        clear hh hb hr hsx hhx c1 hn
        go_region_with (go_at_call 19; refine (H0 _).mono ?_; rintro e w1 ⟨rfl, hb1⟩; clear H0)
        all_goals
          go_wp2_with fail
          have hw0 : Holds w.heap.size out (w1.alloc (.cells #[.string h, .string ⟨#[13, 10]⟩, .string (t.extract 0 n.toNat), .string ⟨#[13, 10]⟩] 9)) := Holds.below (Holds.below (w := wr.drew) HH.out hb1) (alloc_below _ _)
          have hbw0 : Below w.heap.size w (w1.alloc (.cells #[.string h, .string ⟨#[13, 10]⟩, .string (t.extract 0 n.toNat), .string ⟨#[13, 10]⟩] 9)) := (HB.out.trans (Below.drew (Below.refl _ _))).trans ((hb1.mono (Nat.le_of_lt (show w.heap.size < wr.drew.heap.size from Holds.lt HH.out))).alloc (Nat.le_of_lt (Nat.lt_of_lt_of_le (show w.heap.size < wr.drew.heap.size from Holds.lt HH.out) hb1.size)) _)
          have hk0 : w1.heap.size ≠ w.heap.size := Nat.ne_of_gt (Nat.lt_of_lt_of_le (show w.heap.size < wr.drew.heap.size from Holds.lt HH.out) hb1.size)
          have hp0 : (w1.alloc (.cells #[.string h, .string ⟨#[13, 10]⟩, .string (t.extract 0 n.toNat), .string ⟨#[13, 10]⟩] 9)).heap[w1.heap.size]? = some (.cells #[.string h, .string ⟨#[13, 10]⟩, .string (t.extract 0 n.toNat), .string ⟨#[13, 10]⟩] 9 (0, 0)) := heap_alloc_new _ _
          generalize t.extract 0 n.toNat = x at hsz hw0 hbw0 hp0 HR ⊢
          generalize w1.alloc _ = wA at hw0 hbw0 hp0 ⊢
          have CK : ∀ w2, Lib.OthersKept TBy (some w.heap.size) wA w2 → w2.cell? ⟨w1.heap.size, 0, none⟩ = some (.string h) ∧ w2.cell? ⟨w1.heap.size, 1, none⟩ = some (.string ⟨#[13, 10]⟩) ∧ w2.cell? ⟨w1.heap.size, 2, none⟩ = some (.string x) ∧ w2.cell? ⟨w1.heap.size, 3, none⟩ = some (.string ⟨#[13, 10]⟩) := fun w2 hk => by
            have hb := kept_cell hk hp0 hk0 (by intro c fz e; simp only [Obj.cells.injEq] at e; exact absurd e.2.1 (by decide))
            refine ⟨?_, ?_, ?_, ?_⟩ <;> rw [Lib.cell_of_heap hb] <;> rfl
          obtain ⟨p0, p1, p2, p3⟩ := CK wA (Lib.OthersKept.refl _ _ _)
          have z2 : (⟨#[13, 10]⟩ : ByteArray).size = 2 := rfl
          have H1 := hw0.write h (by omega)
          have H2 := fun w2 (h2 : Holds w.heap.size (out ++ h) w2) => Holds.write h2 ⟨#[13, 10]⟩ (by rw [ByteArray.size_append, z2]; omega)
          have H3 := fun w2 (h2 : Holds w.heap.size (out ++ h ++ ⟨#[13, 10]⟩) w2) => Holds.write h2 x (by rw [ByteArray.size_append, ByteArray.size_append, z2]; omega)
          have H4 := fun w2 (h2 : Holds w.heap.size (out ++ h ++ ⟨#[13, 10]⟩ ++ x) w2) => Holds.write h2 ⟨#[13, 10]⟩ (by rw [ByteArray.size_append, ByteArray.size_append, ByteArray.size_append, z2]; omega)
          have HBW := Lib.hid hbw0; have HCK := Lib.hid CK
          clear hbw0 CK hw0 hk0 hp0 hb1 z2 c2 hsz
          refine wp_loop_rounds 5 ?_
          rw [rounds_succ]
          go_wp2_with (go_at_call 20; refine H1.mono ?_; rintro e w2 ⟨rfl, h2, hb2, ho2⟩; clear H1)
          rw [rounds_succ]
          obtain ⟨q0, q1, q2, q3⟩ := HCK.out _ ho2
          go_wp2_with (go_at_call 20; refine (H2 _ h2).mono ?_; rintro e w3 ⟨rfl, h3, hb3, ho3⟩; clear H2)
          rw [rounds_succ]
          obtain ⟨q4, q5, q6, q7⟩ := HCK.out _ (ho2.trans ho3)
          go_wp2_with (go_at_call 20; refine (H3 _ h3).mono ?_; rintro e w4 ⟨rfl, h4, hb4, ho4⟩; clear H3)
          rw [rounds_succ]
          obtain ⟨q8, q9, q10, q11⟩ := HCK.out _ ((ho2.trans ho3).trans ho4)
          go_wp2_with (go_at_call 20; refine (H4 _ h4).mono ?_; rintro e w5 ⟨rfl, h5, hb5, ho5⟩; clear H4)
          rw [rounds_succ]
          go_wp2_with fail
          go_round
          case rel => exact ⟨K', _, _, rfl, h5, HBW.out.trans (hb2.trans (hb3.trans (hb4.trans hb5))), by rw [HSX.out]; omega, HR.out⟩
          case measure => show (t.extract n.toNat t.size).size < t.size; rw [HSX.out]; omega
end Go.Proofs.YtmmmfippfoginaaDoor.Hand
