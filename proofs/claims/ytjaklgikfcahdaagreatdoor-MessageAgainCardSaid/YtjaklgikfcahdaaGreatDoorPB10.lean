-- Out of the translation, by a program of this session: each function that a law comes to as a Lean function, and that the machine's call does what it says. Lean checks it.
import Derived.Test.YtjaklgikfcahdaaGreatDoorPB0
import Derived.Test.YtjaklgikfcahdaaGreatDoorPB5
import Derived.Test.YtjaklgikfcahdaaGreatDoorPB6
import Derived.Test.YtjaklgikfcahdaaGreatDoorPB7
namespace Go.Proofs.YtjaklgikfcahdaaGreatDoor.PB
open Go.RowKit Go.Proofs.YtjaklgikfcahdaaGreatDoorW.PrintWords Go.Proofs.YtjaklgikfcahdaaGreatDoorW.PrintLast Go.Proofs.YtjaklgikfcahdaaGreatDoorW.PrintMore
attribute [local go_sem] max2_int min2_int max_two min_two max_three min_three max_four min_four   -- for this text's walks alone
set_option linter.unusedVariables false
set_option linter.unusedSimpArgs false

/-! ### fields_Drop: function 65: told by hand -/
/-- Is a field's name one of them? -/
def fields_in (names : List ByteArray) (x : S98) : Bool := names.any fun n => decide (octet_Same.f x.f0 n = some true)
def fields_Drop.f (l0 : List S98) (l1 : List ByteArray) : Option (List S98) := if l0.length < 1000000 ∧ l1.length < 1000000 ∧ ∀ x ∈ l0, ∀ n ∈ l1, (octet_Same.f x.f0 n).isSome = true then some (l0.filter fun x => !fields_in l1 x) else none
set_option maxHeartbeats 1600000 in
theorem fields_Drop1 (x : S98) (b : Nat) (A1 : Option Addr) (c1 : Nat) (names : List ByteArray) (w : World) (hc : w.cell? ⟨b, 0, none⟩ = some (.slice A1 names.length c1)) (hl : b < w.heap.size) (hr1 : Kd.C Kd.string w A1 names.length names) (hc1 : names.length ≤ c1) (hn : names.length < 1000000) (hs : ∀ n ∈ names, (octet_Same.f x.f0 n).isSome = true) :
    Calls Tryz.prog 99 #[.agg #[.string x.f0, .string x.f1], .pointer (some ⟨b, 0, none⟩)] w fun e w' => e = .returned (.bool (!fields_in names x)) ∧ Below w.heap.size w w' := by
  have hne : b ≠ w.heap.size := by omega
  have HR := Aside0.mk hr1
  have HS := Aside0.mk hs
  clear hr1 hs
  go_enter Tryz.func99, Tryz.ntmps99
  go_wp2
  go_loopw [8] (fun v8 w' => ∃ n : Nat, n ≤ names.length ∧ v8 = .int .i64 n ∧ Aside0 (fields_in names x = fields_in (names.drop n) x) ∧ Aside0 (w'.heap[w.heap.size]? = some (.cells #[.string x.f0, .string x.f1] 98 (0, 0))) ∧ Aside0 (Below w.heap.size w w')) (fun v8 _ => names.length - (intOf v8).toNat)
  case atStart => exact ⟨0, Nat.zero_le _, rfl, ⟨rfl⟩, ⟨blk_new _ _⟩, ⟨Hand.alloc_below _ _⟩⟩
  case round =>
    obtain ⟨n, hn0, rfl, HF, HK, HB⟩ := hrel
    by_cases hlt : n < names.length
    · obtain ⟨bk, o, rfl, hbk, hcells⟩ := Hand.C_cells HR.out (by omega)
      have hx0 := (HB.out.cell (World.block_lt_of_cell? w _ (hcells n names[n] (List.getElem?_eq_getElem hlt)))).trans (hcells n names[n] (List.getElem?_eq_getElem hlt))
      obtain ⟨t, ht⟩ := Option.isSome_iff_exists.1 (HS.out names[n] (List.getElem_mem hlt))
      have hdr : fields_in (names.drop n) x = (decide (octet_Same.f x.f0 names[n] = some true) || fields_in (names.drop (n + 1)) x) := by rw [List.drop_eq_getElem_cons hlt]; rfl
      rw [ht] at hdr
      have hf := HF.out
      rw [hdr] at hf
      generalize names[n] = nm at hx0 ht
      have HT := Aside0.mk ht
      have HF2 := Aside0.mk hf
      have z0 := blk_cell HK.out 0
      clear ht hf hdr hcells HF
      cases t
      · go_wp2_with (go_at_call 96; refine (octet_Same.calls x.f0 nm false _ HT.out).mono ?_; rintro e w1 ⟨rfl, hb⟩; have HB1 := Aside0.mk (below_step HB.out hb); have HK1 := Aside0.mk (blk_below HK.out hb); clear HB HK hb)
        go_roundw
        case rel => exact ⟨n + 1, by omega, by go_num, ⟨by rw [HF2.out]; simp⟩, HK1, HB1⟩
        case measure => simp [intOf]; omega
      · have hfin : fields_in names x = true := by rw [HF2.out]; simp
        have HFIN := Aside0.mk hfin
        clear hfin
        go_wp2_with (go_at_call 96; refine (octet_Same.calls x.f0 nm true _ HT.out).mono ?_; rintro e w1 ⟨rfl, hb⟩; have HB1 := Aside0.mk (below_step HB.out hb); clear HB HK hb)
        go_ret
        exact ⟨by rw [HFIN.out]; rfl, HB1.out⟩
    · have hfin : fields_in names x = false := by rw [HF.out, List.drop_of_length_le (by omega)]; rfl
      have HFIN := Aside0.mk hfin
      clear hfin HF
      go_wp2
      go_ret
      exact ⟨by rw [HFIN.out]; rfl, HB.out⟩
set_option maxHeartbeats 1600000 in
theorem fields_chosen_drop (A0 : Option Addr) (c0 : Nat) (l0 : List S98) (A1 : Option Addr) (c1 : Nat) (names : List ByteArray) (b : Nat) (w : World) (hr0 : Kd.C k98 w A0 l0.length l0) (hc0 : l0.length ≤ c0) (hc : w.cell? ⟨b, 0, none⟩ = some (.slice A1 names.length c1)) (hl : b < w.heap.size) (hr1 : Kd.C Kd.string w A1 names.length names) (hc1 : names.length ≤ c1) (hlen : l0.length < 1000000) (hn : names.length < 1000000) (hall : ∀ x ∈ l0, ∀ n ∈ names, (octet_Same.f x.f0 n).isSome = true) :
    Calls Tryz.prog 94 #[.slice A0 l0.length c0, .func (.func 99) #[] #[.pointer (some ⟨b, 0, none⟩)]] w fun e w' => ∃ v0_ : Value, e = .returned (v0_) ∧ Kd.R k98 98 w' w.heap.size (fun _ => True) v0_ (l0.filter fun x => !fields_in names x) ∧ Below w.heap.size w w' := by
  have HR0 := Aside0.mk hr0
  have HALL := Aside0.mk hall
  have HD := fun (W : World) (hb : Below w.heap.size w W) (x : S98) (hx : x ∈ l0) => fields_Drop1 x b A1 c1 names W (Hand.cell_below hb hc hl) (Nat.lt_of_lt_of_le hl hb.size) (Kd.C_below hr1 hb) hc1 hn (hall x hx)
  have HDA := Aside0.mk HD
  clear hr0 hall HD hr1 hc
  go_enter Tryz.func94, Tryz.ntmps94
  go_wp2
  go_loopw [5, 10] (fun v5 v10 w' => ∃ n : Nat, n ≤ l0.length ∧ v10 = .int .i64 n ∧ Aside0 (Kd.R k98 98 w' w.heap.size (fun _ => True) v5 ((l0.take n).filter fun x => !fields_in names x)) ∧ Aside0 (Below w.heap.size w w')) (fun _ v10 _ => l0.length - (intOf v10).toNat)
  case atStart => exact ⟨0, Nat.zero_le _, rfl, ⟨Kd.R_nil _ _ _ _ _⟩, ⟨Below.refl _ _⟩⟩
  case round =>
    obtain ⟨n, hn2, rfl, HO, HB⟩ := hrel
    by_cases hlt : n < l0.length
    · obtain ⟨ad, e0, hx0, hx1⟩ := at_T98 HR0.out n (by omega) (by omega)
      cases e0
      replace hx0 := (HB.out.cell (World.block_lt_of_cell? w _ hx0)).trans hx0
      replace hx1 := (HB.out.cell (World.block_lt_of_cell? w _ hx1)).trans hx1
      rw [Int.toNat_natCast] at hx0 hx1
      have rdn : rd_T98 l0 n = l0[n] := by show l0.getD n _ = _; rw [List.getD_eq_getElem?_getD, List.getElem?_eq_getElem hlt]; rfl
      rw [rdn] at hx0 hx1
      clear rdn
      have htk : l0.take (n + 1) = l0.take n ++ [l0[n]] := by rw [List.take_add_one, List.getElem?_eq_getElem hlt]; rfl
      have hlen2 : ((l0.take n).filter fun x => !fields_in names x).length ≤ n := Nat.le_trans (List.length_filter_le _ _) (by rw [List.length_take]; omega)
      have HDX := fun (W : World) (hb : Below w.heap.size w W) => HDA.out W hb l0[n] (List.getElem_mem hlt)
      generalize l0[n] = x at hx0 hx1 htk HDX
      have HTK := Aside0.mk htk
      clear htk
      cases hin : fields_in names x
      · rw [hin] at HDX
        have HIN := Aside0.mk hin
        clear hin
        go_wp2_with (first | (go_at_call 99; refine (HDX _ (HB.out.alloc HB.out.size _)).mono ?_; rintro e w1 ⟨rfl, hb⟩; have d0 : w1.cell? ⟨wr.heap.size, 0, none⟩ = some (.string x.f0) := Hand.cell_below hb (by simp [go_sem]) (by simp); have d1 : w1.cell? ⟨wr.heap.size, 1, none⟩ = some (.string x.f1) := Hand.cell_below hb (by simp [go_sem]) (by simp); have HO1 := Aside0.mk (Kd.R_below (Kd.R_alloc HO.out _) hb); have HB1 := Aside0.mk (below_step (HB.out.alloc HB.out.size _) hb); clear HO HB hb HDX) | (at_builtin; refine Kd.R_append k98 (w0 := w) w.heap.size rfl (.tmp 17) (.tmp 19) 23 98 (.agg #[(.string ⟨#[]⟩), (.string ⟨#[]⟩)]) 32 rfl Tryz.underlying23 fields_info rfl (by decide) (by omega) u5 ((l0.take n).filter fun x => !fields_in names x) x [.string x.f0, .string x.f1] (fun _ => True) (fun _ => False) rfl rfl ?aP (fun _ hk => hk.elim) ?aF ?aO ?aB ?aS ?aL ?_; (case aP => exact k98_mkM _ _ _ _); (case aB => exact HB1.out); (case aF => exact (fun _ _ => trivial)); (case aO => exact HO1.out); (case aS => exact HB1.out.size); (case aL => omega); intro v2 w2 ho hb hg hat; have HO2 := Aside0.mk ho; have HB2 := Aside0.mk hb; clear HO1 HB1 ho hb hg hat))
        go_roundw
        case rel => exact ⟨n + 1, by omega, by go_num, ⟨by rw [HTK.out, List.filter_append, show [x].filter (fun x => !fields_in names x) = [x] by simp [HIN.out]]; exact HO2.out⟩, HB2⟩
        case measure => simp [intOf]; omega
      · rw [hin] at HDX
        have HIN := Aside0.mk hin
        clear hin
        go_wp2_with (go_at_call 99; refine (HDX _ (HB.out.alloc HB.out.size _)).mono ?_; rintro e w1 ⟨rfl, hb⟩; have HO1 := Aside0.mk (Kd.R_below (Kd.R_alloc HO.out _) hb); have HB1 := Aside0.mk (below_step (HB.out.alloc HB.out.size _) hb); clear HO HB hb HDX)
        go_roundw
        case rel => exact ⟨n + 1, by omega, by go_num, ⟨by rw [HTK.out, List.filter_append, show [x].filter (fun x => !fields_in names x) = [] by simp [HIN.out], List.append_nil]; exact HO1.out⟩, HB1⟩
        case measure => simp [intOf]; omega
    · go_wp2
      go_ret
      exact ⟨_, rfl, by rw [List.take_of_length_le (by omega)] at HO; exact HO.out, HB.out⟩
theorem fields_Drop.calls (A0 : Option Addr) (c0 : Nat) (l0 : List S98) (A1 : Option Addr) (c1 : Nat) (l1 : List ByteArray) (r : List S98) (w : World) (hr0 : Kd.C k98 w A0 l0.length l0) (hc0 : l0.length ≤ c0) (hr1 : Kd.C Kd.string w A1 l1.length l1) (hc1 : l1.length ≤ c1) (h : fields_Drop.f l0 l1 = some r) :
    Calls Tryz.prog 65 #[.slice A0 l0.length c0, .slice A1 l1.length c1] w fun e w' => ∃ v0_ : Value, e = .returned (v0_) ∧ Kd.R k98 98 w' w.heap.size (fun _ => True) v0_ r ∧ Below w.heap.size w w' := by
  unfold fields_Drop.f at h
  split at h
  case isFalse => cases h
  case isTrue hh =>
  obtain rfl := Option.some.inj h
  clear h
  obtain ⟨hlen, hn, hall⟩ := hh
  have hb1 := Hand.alloc_below w (.cells #[.slice A1 l1.length c1] 59)
  have HC := Aside0.mk (fields_chosen_drop A0 c0 l0 A1 c1 l1 w.heap.size _ (Kd.C_below hr0 hb1) hc0 (blk_cell (blk_new w (.cells #[.slice A1 l1.length c1] 59)) 0) (by simp) (Kd.C_below hr1 hb1) hc1 hlen hn hall)
  have HB1 := Aside0.mk hb1
  clear hr0 hr1 hall hb1
  go_enter Tryz.func65, Tryz.ntmps65
  go_wp2_with (go_at_call 94; refine HC.out.mono ?_; rintro e w2 ⟨v, rfl, ho, hb2⟩; clear HC; have HO := Aside0.mk (Kd.R_lower ho HB1.out.size); have HB2 := Aside0.mk (below_then HB1.out HB1.out.size hb2); clear ho hb2)
  go_ret
  exact ⟨_, rfl, HO.out, HB2.out⟩

/-! ### decimal_ReadHex: function 155 -/
def decimal_ReadHex.f (a0 : ByteArray) (a1 : Int) : Option (Int × Int) := (decimal_read.f a0 16 15 a1).bind fun bt145 => (some (bt145.1, bt145.2))
set_option maxHeartbeats 8000000 in
set_option maxRecDepth 100000 in
theorem decimal_ReadHex.calls (a0 : ByteArray) (a1 : Int) (r1 : Int) (r2 : Int) (w : World) (h : decimal_ReadHex.f a0 a1 = some (r1, r2)) :
    Calls Tryz.prog 155 #[.string a0, .int .i64 a1] w fun e w' => e = .returned (.tuple #[.int .i64 r1, .int .i64 r2]) ∧ Below w.heap.size w w' := by
  have HB := Aside0.mk (Below.refl w.heap.size w)
  have H : ((decimal_read.f a0 16 15 a1).bind fun bt145 => (some (bt145.1, bt145.2))) = some (r1, r2) := h
  clear h
  replace H := Option.bind_eq_some_iff.mp H
  obtain ⟨⟨t145, t146⟩, A30, H⟩ := H
  replace H : (some (t145, t146)) = some (r1, r2) := H
  have A3 := Aside0.mk A30
  clear A30
  simp only [Option.some.injEq, Prod.mk.injEq] at H
  obtain ⟨rfl, rfl⟩ := H
  go_enter Tryz.func155, Tryz.ntmps155
  go_wp2_with (first | ((with_reducible refine gate_callee (f := 107) rfl ?_); refine goesL_ (some 8) rfl rfl Tryz.func107 (by kernel_rfl) rfl #[.string a0, .int .i64 16, .int .i64 15, .int .i64 a1] rfl (by (try simp only [List.map_toArray, List.map_cons, List.map_nil]); first | done | rfl | (simp only [List.length_drop, List.length_take]; rfl)) ?_; (with_reducible refine (decimal_read.calls a0 16 15 a1 t145 t146 _ A3.out).mono ?_); rintro e w4 ⟨rfl, hb⟩; refine ⟨_, rfl, ?_⟩; have n0_ := Aside0.mk (below_step (by repeat (first | (with_reducible first | exact HB.out | apply below_alloc | apply pw_below_drewN | apply below_drew1) | exact HB.out)) hb); clear HB; have HB := n0_; clear n0_; (try clear hb); (try clear hb2); (try clear hk); (try clear hi)))
  go_ret2
  exact ⟨by first | rfl | (simp [errW_none, errW_some] <;> rfl) | (simp [*, errW_none, errW_some] <;> rfl), by repeat (first | (with_reducible first | exact HB.out | apply below_alloc | apply pw_below_drewN | apply below_drew1) | exact HB.out)⟩

/-! ### strings_TrimRight: function 156: told by hand -/
def strings_TrimRight.f (a0 a1 : ByteArray) : Option (ByteArray) := if a0.size ≤ 9223372036854775807 ∧ a1.size < 4294967281 ∧ ((a1.data.toList.all fun b => decide (b.toNat < 128)) = true) then some ⟨(Lib.trimRightS a0.data.toList a1.data.toList).toArray⟩ else none
theorem strings_TrimRight.calls (a0 a1 : ByteArray) (r : ByteArray) (w : World) (h : strings_TrimRight.f a0 a1 = some r) :
    Calls Tryz.prog 156 #[.string a0, .string a1] w fun e w' => e = .returned (.string r) ∧ Below w.heap.size w w' := by
  unfold strings_TrimRight.f at h
  split at h
  case isFalse => cases h
  case isTrue hs =>
    obtain rfl := Option.some.inj h
    obtain ⟨h0, h1, h2⟩ := hs
    exact Any.strings_TrimRight_laid Tryz.lays162 (by kernel_rfl) a0 a1 w h0 h1 (fun j b hb => by
      have := List.all_eq_true.1 h2 b (List.mem_of_getElem? hb)
      simpa using this)

/-! ### chunk_Decode: function 97: told by hand -/
def chunk_sz (l : ByteArray) : Option (Int × Int) :=
  (octet_Cut.f l 59).bind fun c => (strings_TrimRight.f c.1 ⟨#[32, 9]⟩).bind fun d => (decimal_ReadHex.f d 1152921504606846976).bind fun r => (octet_IsText.f c.2.1).bind fun t => some (Hand.szR r.1 r.2 t)
theorem szR_le (v e : Int) (t : Bool) : (Hand.szR v e t).1 ≤ 65536 := by
  unfold Hand.szR
  split
  · decide
  · split
    · decide
    · split
      · decide
      · show v ≤ 65536; omega
theorem chunk_sizeOk : Hand.SizeOk chunk_sz := by
  intro B b s gone p bs w r HL hB h
  unfold chunk_sz at h
  generalize hl : s.extract 0 (Hand.lineI s).toNat = l at h
  cases h1 : octet_Cut.f l 59 with
  | none => rw [h1] at h; cases h
  | some c =>
  rw [h1] at h
  simp only [Option.bind_some] at h
  obtain ⟨dg, more, cb⟩ := c
  simp only at h
  cases h2 : strings_TrimRight.f dg ⟨#[32, 9]⟩ with
  | none => rw [h2] at h; cases h
  | some tr =>
  rw [h2] at h
  simp only [Option.bind_some] at h
  cases h3 : decimal_ReadHex.f tr 1152921504606846976 with
  | none => rw [h3] at h; cases h
  | some q =>
  rw [h3] at h
  simp only [Option.bind_some] at h
  obtain ⟨v, e⟩ := q
  simp only at h
  cases h4 : octet_IsText.f more with
  | none => rw [h4] at h; cases h
  | some t =>
  rw [h4] at h
  simp only [Option.bind_some] at h
  obtain rfl := Option.some.inj h
  exact ⟨Hand.rd_size_yes B b s gone p bs w HL hB l _ dg more tr cb _ v e t hl rfl rfl (fun w => octet_Cut.calls l 59 dg more cb w h1) (fun w => strings_TrimRight.calls dg ⟨#[32, 9]⟩ tr w h2) (fun w => decimal_ReadHex.calls tr 1152921504606846976 v e w h3) (fun w => octet_IsText.calls more t w h4), szR_le v e t⟩
theorem chunk_parseOk : Hand.ParseOk fields_Parse.f := fun l r h w => fields_Parse.calls l r.1 r.2.1 r.2.2 w h
def chunk_Decode.f (a0 : ByteArray) : Option (ByteArray × Int × Int) := if a0.size < 4294967281 then Hand.decGo fields_Parse.f chunk_sz (a0.size + 1) a0 0 ⟨#[]⟩ else none
theorem chunk_Decode.calls (a0 : ByteArray) (r1 : ByteArray) (r2 r3 : Int) (w : World) (HT : Aside0 (Hand.Laid w)) (h : chunk_Decode.f a0 = some (r1, r2, r3)) :
    Calls Tryz.prog 97 #[.string a0] w fun e w' => e = .returned (.tuple #[.string r1, .int .i64 r2, .int .i64 r3]) ∧ Below w.heap.size w w' := by
  unfold chunk_Decode.f at h
  split at h
  case isFalse => cases h
  case isTrue hs => exact Hand.dec_any fields_Parse.f chunk_parseOk chunk_sz chunk_sizeOk a0 w HT.out hs _ (r1, r2, r3) h

end Go.Proofs.YtjaklgikfcahdaaGreatDoor.PB
