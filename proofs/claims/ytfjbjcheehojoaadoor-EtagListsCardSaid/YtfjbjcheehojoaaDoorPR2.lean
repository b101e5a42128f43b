-- Out of the translation, by a program of this session: each function that a law comes to as a Lean function, and that the machine's call does what it says. Lean checks it.
import Derived.Test.YtfjbjcheehojoaaDoorPR0
namespace Go.Proofs.YtfjbjcheehojoaaDoor.PR
open Go.RowKit Go.Proofs.YtfjbjcheehojoaaDoorW.PrintWords Go.Proofs.YtfjbjcheehojoaaDoorW.PrintLast Go.Proofs.YtfjbjcheehojoaaDoorW.PrintMore
attribute [local go_sem] max2_int min2_int max_two min_two max_three min_three max_four min_four   -- for this text's walks alone
set_option linter.unusedVariables false
set_option linter.unusedSimpArgs false

/-! ### etag_Parse: function 8: told by hand -/
def etag_innerB (c : Int) : Bool := decide (33 ≤ c) && !(c == 34) && !(c == 127)
theorem etag_inner_any (c : Int) (w : World) : Calls Tryd.prog 22 #[.int .u8 c] w fun e w' => e = .returned (.bool (etag_innerB c)) ∧ w' = w := by
  by_cases h1 : 33 ≤ c
  · by_cases h2 : c = 34
    · subst h2; go_enter Tryd.func22, Tryd.ntmps22; go_wp2; go_ret; exact ⟨rfl, rfl⟩
    · have h2a : (c == 34) = false := beq_eq_false_iff_ne.mpr h2
      have h2b : (c != 34) = true := bne_iff_ne.mpr h2
      go_enter Tryd.func22, Tryd.ntmps22
      go_wp2
      go_ret
      exact ⟨by rw [etag_innerB, h2a, decide_eq_true h1]; rfl, rfl⟩
  · have h1a : decide (33 ≤ c) = false := decide_eq_false h1
    go_enter Tryd.func22, Tryd.ntmps22
    go_wp2
    go_ret
    exact ⟨by rw [etag_innerB, h1a]; rfl, rfl⟩
def etag_cut (s : ByteArray) : ByteArray := ⟨(Lib.trimPrefix s.data.toList [87, 47]).toArray⟩
def etag_parse (s : ByteArray) : Bool × ByteArray × Bool :=
  if (etag_cut s).size < 2 then (false, ⟨#[]⟩, false)
  else if ¬ bt (etag_cut s) 0 = 34 then (false, ⟨#[]⟩, false)
  else if ¬ bt (etag_cut s) ((etag_cut s).size - 1 : Nat) = 34 then (false, ⟨#[]⟩, false)
  else if Hand.allB etag_innerB ((etag_cut s).extract 1 ((etag_cut s).size - 1)) ((etag_cut s).extract 1 ((etag_cut s).size - 1)).size = true then (Lib.hasPrefix s.data.toList [87, 47], (etag_cut s).extract 1 ((etag_cut s).size - 1), true)
  else (false, ⟨#[]⟩, false)
def etag_Parse.f (a0 : ByteArray) : Option (Bool × ByteArray × Bool) := if (etag_cut a0).size ≤ 9223372036854775807 then some (etag_parse a0) else none
def EtagPost (w : World) (b : Bool) (x : ByteArray) (e : Ending) (w' : World) : Prop :=
  e = .returned (if Hand.allB etag_innerB x x.size = true then .tuple #[.agg #[.bool b, .string x], .bool true] else .tuple #[.agg #[.bool false, .string ⟨#[]⟩], .bool false]) ∧ Below w.heap.size w w'
structure EtagLF (w wL : World) (b : Bool) (x : ByteArray) : Prop where
  a0 : wL.cell? ⟨w.heap.size, 0, none⟩ = some (.bool false)
  a1 : wL.cell? ⟨w.heap.size, 1, none⟩ = some (.string ⟨#[]⟩)
  f0 : wL.frozen? ⟨w.heap.size, 0, none⟩ = false
  f1 : wL.frozen? ⟨w.heap.size, 1, none⟩ = false
  b0 : wL.cell? ⟨w.heap.size + 1, 0, none⟩ = some (.bool b)
  b1 : wL.cell? ⟨w.heap.size + 1, 1, none⟩ = some (.string x)
  below : Below w.heap.size w wL
theorem EtagLF.mk' (w : World) (b : Bool) (x : ByteArray) : EtagLF w (Lib.bytesWorld ((w.alloc (.cells #[.bool false, .string ⟨#[]⟩] 23)).alloc (.cells #[.bool b, .string x] 23)) 5 x) b x := by
  refine ⟨?_, ?_, ?_, ?_, ?_, ?_, ?b⟩
  case b => exact bytes_below (((Below.refl _ _).alloc (Nat.le_refl _) _).alloc (by simp) _) (by simp; omega) _ _
  case refine_1 => rw [Lib.bytesWorld_old _ _ _ _ (by simp; try omega)]; simp [go_sem]
  case refine_2 => rw [Lib.bytesWorld_old _ _ _ _ (by simp; try omega)]; simp [go_sem]
  case refine_3 => rw [World.frozen?_of_block (Lib.bytesWorld_at_old _ _ _ _ (by simp; try omega))]; simp [go_sem]
  case refine_4 => rw [World.frozen?_of_block (Lib.bytesWorld_at_old _ _ _ _ (by simp; try omega))]; simp [go_sem]
  case refine_5 => rw [Lib.bytesWorld_old _ _ _ _ (by simp; try omega)]; simp [go_sem]
  case refine_6 => rw [Lib.bytesWorld_old _ _ _ _ (by simp; try omega)]; simp [go_sem]
theorem etag_Parse_short (s t : ByteArray) (b : Bool) (w : World) (h2 : (t.size : Int) < 2)
   (h1 : ∀ w, Calls Tryd.prog 21 #[.string s, .string ⟨#[87, 47]⟩] w fun e w' => e = .returned (.tuple #[.string t, .bool b]) ∧ w' = w) :
   Calls Tryd.prog 8 #[.string s] w fun e w' => e = .returned (.tuple #[.agg #[.bool false, .string ⟨#[]⟩], .bool false]) ∧ Below w.heap.size w w' := by
  go_enter Tryd.func8, Tryd.ntmps8
  go_wp2_with (go_at_call 21; refine (h1 _).mono ?_; rintro e w' ⟨rfl, rfl⟩; clear h1)
  refine bodyPost_ret (v := .tuple #[.agg #[.bool false, .string ⟨#[]⟩], .bool false]) (by simp [results, Tryd.results8, go_sem]) rfl ⟨rfl, ?_⟩
  exact (Below.refl _ _).alloc (Nat.le_refl _) _
set_option maxHeartbeats 800000 in
theorem etag_Parse_first (s t : ByteArray) (b : Bool) (w : World) (h2 : 2 ≤ (t.size : Int)) (hf : 0 < t.size) (h3 : (((t[0]'hf).toNat : Int) != 34) = true)
   (h1 : ∀ w, Calls Tryd.prog 21 #[.string s, .string ⟨#[87, 47]⟩] w fun e w' => e = .returned (.tuple #[.string t, .bool b]) ∧ w' = w) :
   Calls Tryd.prog 8 #[.string s] w fun e w' => e = .returned (.tuple #[.agg #[.bool false, .string ⟨#[]⟩], .bool false]) ∧ Below w.heap.size w w' := by
  go_enter Tryd.func8, Tryd.ntmps8
  go_wp2_with (go_at_call 21; refine (h1 _).mono ?_; rintro e w' ⟨rfl, rfl⟩; clear h1)
  refine bodyPost_ret (v := .tuple #[.agg #[.bool false, .string ⟨#[]⟩], .bool false]) (by simp [results, Tryd.results8, go_sem]) rfl ⟨rfl, ?_⟩
  exact (Below.refl _ _).alloc (Nat.le_refl _) _
set_option maxHeartbeats 800000 in
theorem etag_Parse_last (s t : ByteArray) (b : Bool) (w : World) (h2 : 2 ≤ (t.size : Int)) (hm : (t.size : Int) ≤ 9223372036854775807) (hf : 0 < t.size) (h3 : (((t[0]'hf).toNat : Int) != 34) = false)
   (hl : t.size - 1 < t.size) (h4 : (((t[t.size - 1]'hl).toNat : Int) != 34) = true)
   (h1 : ∀ w, Calls Tryd.prog 21 #[.string s, .string ⟨#[87, 47]⟩] w fun e w' => e = .returned (.tuple #[.string t, .bool b]) ∧ w' = w) :
   Calls Tryd.prog 8 #[.string s] w fun e w' => e = .returned (.tuple #[.agg #[.bool false, .string ⟨#[]⟩], .bool false]) ∧ Below w.heap.size w w' := by
  go_enter Tryd.func8, Tryd.ntmps8
  go_wp2_with (go_at_call 21; refine (h1 _).mono ?_; rintro e w' ⟨rfl, rfl⟩; clear h1)
  refine bodyPost_ret (v := .tuple #[.agg #[.bool false, .string ⟨#[]⟩], .bool false]) (by simp [results, Tryd.results8, go_sem]) rfl ⟨rfl, ?_⟩
  exact (Below.refl _ _).alloc (Nat.le_refl _) _
set_option maxHeartbeats 1600000 in
theorem etag_Parse_loop (s t x : ByteArray) (b : Bool) (w : World) (h2 : 2 ≤ (t.size : Int)) (hm : (t.size : Int) ≤ 9223372036854775807) (hf : 0 < t.size) (h3 : (((t[0]'hf).toNat : Int) != 34) = false)
   (hl : t.size - 1 < t.size) (h4 : (((t[t.size - 1]'hl).toNat : Int) != 34) = false) (HE : Hid (t.extract 1 (t.size - 1) = x))
   (h1 : ∀ w, Calls Tryd.prog 21 #[.string s, .string ⟨#[87, 47]⟩] w fun e w' => e = .returned (.tuple #[.string t, .bool b]) ∧ w' = w) :
   Calls Tryd.prog 8 #[.string s] w (EtagPost w b x) := by
  have hcv := fun (w : World) (x : ByteArray) => Lib.run_convert_string_bytes (P := Tryd.prog) w 9 41 5 x Tryd.underlying9 Tryd.underlying41 Tryd.underlying5
  go_enter Tryd.func8, Tryd.ntmps8
  go_wp2_with (go_at_call 21; refine (h1 _).mono ?_; rintro e w' ⟨rfl, rfl⟩; clear h1)
  clear h3 h4 hcv
  have hx : (t.extract 1 (t.size - 1)).size = t.size - 1 - 1 := by simp
  have hL := EtagLF.mk' w b (t.extract 1 (t.size - 1))
  have hc : ∀ k : Nat, k < t.size - 1 - 1 → (Lib.bytesWorld ((w.alloc (.cells #[.bool false, .string ⟨#[]⟩] 23)).alloc (.cells #[.bool b, .string (t.extract 1 (t.size - 1))] 23)) 5 (t.extract 1 (t.size - 1))).cell? ⟨w.heap.size + 1 + 1, k, none⟩ = some (.int .u8 (bt (t.extract 1 (t.size - 1)) k)) := by
    intro k hk
    have := Hand.bytes_cell_bt ((w.alloc (.cells #[.bool false, .string ⟨#[]⟩] 23)).alloc (.cells #[.bool b, .string (t.extract 1 (t.size - 1))] 23)) 5 (t.extract 1 (t.size - 1)) k (by omega)
    simpa using this
  generalize Lib.bytesWorld _ _ _ = wL at hL hc ⊢
  rw [HE.out] at hL hc hx ⊢
  generalize grownCap _ _ _ _ = cp
  have HL := Lib.hid hL
  have HC := Lib.hid hc
  have HX := Lib.hid hx
  clear hL hc hx
  go_loop [41] (fun i => ∃ k : Nat, k ≤ t.size - 1 - 1 ∧ i = .int .i64 k ∧ Hand.allB etag_innerB x k = true) (fun i => t.size - (intOf i).toNat)
  case atStart => exact ⟨0, Nat.zero_le _, rfl, rfl⟩
  case round =>
    obtain ⟨k, hk, rfl, HA0⟩ := hrel
    have HA := Lib.hid HA0; clear HA0
    by_cases hlt : k < t.size - 1 - 1
    · have hcell := HC.out k hlt
      have hbr := bt_range x k
      cases hi : etag_innerB (bt x k)
      · have H := etag_inner_any (bt x k)
        rw [hi] at H
        have HI := Lib.hid hi; clear hi
        obtain ⟨ha0, ha1, hf0, hf1, hb0, hb1, _⟩ := HL.out
        go_wp2_with (go_at_call 22; refine (H _).mono ?_; rintro e w' ⟨rfl, rfl⟩; clear H)
        refine bodyPost_ret (v := .tuple #[.agg #[.bool false, .string ⟨#[]⟩], .bool false]) (by obtain ⟨r0, r1⟩ := Hand.two_cells ha0 ha1 (.bool false) (.string ⟨#[]⟩); simp [results, Tryd.results8, go_sem, r0, r1]) rfl ⟨?_, ?_⟩
        · rw [HX.out, Hand.allB_false _ x k _ hlt HI.out]; rfl
        · have hb := HL.out.below
          exact (hb.setCell (Nat.le_refl _) _).setCell (Nat.le_refl _) _
      · have H := etag_inner_any (bt x k)
        rw [hi] at H
        have HI := Lib.hid hi; clear hi
        go_wp2_with (go_at_call 22; refine (H _).mono ?_; rintro e w' ⟨rfl, rfl⟩; clear H)
        go_round
        case rel => exact ⟨k + 1, by omega, by go_num, by rw [Hand.allB_succ, HA.out, HI.out]; rfl⟩
        case measure => simp [intOf]; omega
    · obtain ⟨ha0, ha1, hf0, hf1, hb0, hb1, _⟩ := HL.out
      go_wp2
      refine bodyPost_ret (v := .tuple #[.agg #[.bool b, .string x], .bool true]) (by obtain ⟨r0, r1⟩ := Hand.two_cells ha0 ha1 (.bool b) (.string x); simp [results, Tryd.results8, go_sem, r0, r1]) rfl ⟨?_, ?_⟩
      · rw [HX.out, show t.size - 1 - 1 = k by omega, HA.out]; rfl
      · have hb := HL.out.below
        exact (hb.setCell (Nat.le_refl _) _).setCell (Nat.le_refl _) _
theorem etag_Parse.calls (a0 : ByteArray) (r1 : Bool) (r2 : ByteArray) (r3 : Bool) (w : World) (h : etag_Parse.f a0 = some (r1, r2, r3)) :
    Calls Tryd.prog 8 #[.string a0] w fun e w' => e = .returned (.tuple #[.agg #[.bool r1, .string r2], .bool r3]) ∧ Below w.heap.size w w' := by
  have h1 : ∀ w, Calls Tryd.prog 21 #[.string a0, .string ⟨#[87, 47]⟩] w fun e w' => e = .returned (.tuple #[.string (etag_cut a0), .bool (Lib.hasPrefix a0.data.toList [87, 47])]) ∧ w' = w := fun w => Any.strings_CutPrefix Tryd.lays103 a0 ⟨#[87, 47]⟩ w
  unfold etag_Parse.f at h
  split at h
  case isFalse => cases h
  case isTrue hs =>
    have h' := Option.some.inj h
    clear h
    unfold etag_parse at h'
    generalize hb : Lib.hasPrefix a0.data.toList [87, 47] = b at h1 h'
    generalize ht : etag_cut a0 = t at h1 h' hs
    clear hb ht
    by_cases c1 : t.size < 2
    · rw [if_pos c1] at h'
      obtain ⟨rfl, rfl, rfl⟩ := h'
      exact etag_Parse_short a0 t b w (by omega) h1
    · rw [if_neg c1] at h'
      have hf : 0 < t.size := by omega
      have hl : t.size - 1 < t.size := by omega
      have e0 : ((t[0]'hf).toNat : Int) = bt t 0 := bt_at t 0 hf
      have el : ((t[t.size - 1]'hl).toNat : Int) = bt t (t.size - 1 : Nat) := bt_at t (t.size - 1 : Nat) (by simpa using hl)
      by_cases c2 : ¬ bt t 0 = 34
      · rw [if_pos c2] at h'
        obtain ⟨rfl, rfl, rfl⟩ := h'
        exact etag_Parse_first a0 t b w (by omega) hf (by rw [e0]; exact bne_iff_ne.mpr c2) h1
      · rw [if_neg c2] at h'
        have z0 : (((t[0]'hf).toNat : Int) != 34) = false := by rw [e0]; exact bne_eq_false_iff_eq.mpr (Decidable.not_not.1 c2)
        by_cases c3 : ¬ bt t (t.size - 1 : Nat) = 34
        · rw [if_pos c3] at h'
          obtain ⟨rfl, rfl, rfl⟩ := h'
          exact etag_Parse_last a0 t b w (by omega) (by omega) hf z0 hl (by rw [el]; exact bne_iff_ne.mpr c3) h1
        · rw [if_neg c3] at h'
          have z1 : (((t[t.size - 1]'hl).toNat : Int) != 34) = false := by rw [el]; exact bne_eq_false_iff_eq.mpr (Decidable.not_not.1 c3)
          refine (etag_Parse_loop a0 t _ b w (by omega) (by omega) hf z0 hl z1 (Lib.hid rfl) h1).mono ?_
          rintro e w' ⟨rfl, hb⟩
          refine ⟨?_, hb⟩
          by_cases c4 : Hand.allB etag_innerB (t.extract 1 (t.size - 1)) (t.extract 1 (t.size - 1)).size = true
          · rw [if_pos c4] at h' ⊢
            obtain ⟨rfl, rfl, rfl⟩ := h'
            rfl
          · rw [if_neg c4] at h' ⊢
            obtain ⟨rfl, rfl, rfl⟩ := h'
            rfl

/-! ### octet_Trim: function 24: told by hand -/
def octet_Trim.f (a0 : ByteArray) : Option (ByteArray) := if a0.size ≤ 9223372036854775807 then some ⟨(Lib.trimS a0.data.toList [32, 9]).toArray⟩ else none
theorem octet_Trim.calls (a0 : ByteArray) (r : ByteArray) (w : World) (h : octet_Trim.f a0 = some r) :
    Calls Tryd.prog 24 #[.string a0] w fun e w' => e = .returned (.string r) ∧ Below w.heap.size w w' := by
  unfold octet_Trim.f at h
  split at h
  case isFalse => cases h
  case isTrue hs =>
    obtain rfl := Option.some.inj h
    have h1 := fun w => Any.strings_Trim_laid Tryd.lays160 (by kernel_rfl) a0 ⟨#[32, 9]⟩ w hs (by decide) (Go.Proofs.ascii_of_all (by decide))
    clear h
    go_enter Tryd.func24, Tryd.ntmps24
    go_wp2_with (go_at_call 28; refine (h1 _).mono ?_; rintro e w' ⟨rfl, hb⟩)
    go_ret
    exact ⟨rfl, hb⟩

end Go.Proofs.YtfjbjcheehojoaaDoor.PR
