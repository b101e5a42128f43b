-- Out of the translation, by a program of this session: each function that a law comes to as a Lean function, and that the machine's call does what it says. Lean checks it.
import Derived.Test.YtjaklgikfcahdaaGreatDoorPB0
import Derived.Test.YtjaklgikfcahdaaGreatDoorPB5
namespace Go.Proofs.YtjaklgikfcahdaaGreatDoor.PB
open Go.RowKit Go.Proofs.YtjaklgikfcahdaaGreatDoorW.PrintWords Go.Proofs.YtjaklgikfcahdaaGreatDoorW.PrintLast Go.Proofs.YtjaklgikfcahdaaGreatDoorW.PrintMore
attribute [local go_sem] max2_int min2_int max_two min_two max_three min_three max_four min_four   -- for this text's walks alone
set_option linter.unusedVariables false
set_option linter.unusedSimpArgs false

/-! ### octet_Same: function 96 -/
def octet_Same.f (a0 : ByteArray) (a1 : ByteArray) : Option (Bool) := if (a0.size : Int) = (a1.size : Int) then ((octet_Lower.f a0).bind fun t127 => ((octet_Lower.f a1).bind fun t128 => (some (t127.toList == t128.toList)))) else (some false)
set_option maxHeartbeats 8000000 in
set_option maxRecDepth 100000 in
theorem octet_Same.calls (a0 : ByteArray) (a1 : ByteArray) (r : Bool) (w : World) (h : octet_Same.f a0 a1 = some r) :
    Calls Tryz.prog 96 #[.string a0, .string a1] w fun e w' => e = .returned (.bool r) ∧ Below w.heap.size w w' := by
  have HB := Aside0.mk (Below.refl w.heap.size w)
  have H : (if (a0.size : Int) = (a1.size : Int) then ((octet_Lower.f a0).bind fun t127 => ((octet_Lower.f a1).bind fun t128 => (some (t127.toList == t128.toList)))) else (some false)) = some r := h
  clear h
  by_cases c3 : (a0.size : Int) = (a1.size : Int)
  · rw [if_pos c3] at H
    have c3b0 : ((a0.size : Int) == (a1.size : Int)) = true := beq_iff_eq.mpr c3
    have c3b1 : ((a0.size : Int) != (a1.size : Int)) = false := bne_eq_false_iff_eq.mpr c3
    have c3b2 : (a0.size == a1.size) = true := by first | simpa using c3 | (simp at c3 ⊢; omega)
    clear c3
    replace H := Option.bind_eq_some_iff.mp H
    obtain ⟨t127, A40, H⟩ := H
    replace H : ((octet_Lower.f a1).bind fun t128 => (some (t127.toList == t128.toList))) = some r := H
    have A4 := Aside0.mk A40
    clear A40
    replace H := Option.bind_eq_some_iff.mp H
    obtain ⟨t128, A50, H⟩ := H
    replace H : (some (t127.toList == t128.toList)) = some r := H
    have A5 := Aside0.mk A50
    clear A50
    obtain rfl := Option.some.inj H
    go_enter Tryz.func96, Tryz.ntmps96
    go_wp2_with (first | (go_at_call 126; (with_reducible refine (octet_Lower.calls a0 t127 _ A4.out).mono ?_); rintro e w6 ⟨rfl, hb⟩; have n0_ := Aside0.mk (below_step (by repeat (first | (with_reducible first | exact HB.out | apply below_alloc | apply pw_below_drewN | apply below_drew1) | exact HB.out)) hb); clear HB; have HB := n0_; clear n0_; (try clear hb); (try clear hb2); (try clear hk); (try clear hi)) | (go_at_call 126; (with_reducible refine (octet_Lower.calls a1 t128 _ A5.out).mono ?_); rintro e w7 ⟨rfl, hb⟩; have n0_ := Aside0.mk (below_step (by repeat (first | (with_reducible first | exact HB.out | apply below_alloc | apply pw_below_drewN | apply below_drew1) | exact HB.out)) hb); clear HB; have HB := n0_; clear n0_; (try clear hb); (try clear hb2); (try clear hk); (try clear hi)))
    go_ret
    exact ⟨by first | rfl | (simp [errW_none, errW_some] <;> rfl) | (simp [*, errW_none, errW_some] <;> rfl), by repeat (first | (with_reducible first | exact HB.out | apply below_alloc | apply pw_below_drewN | apply below_drew1) | exact HB.out)⟩
  · rw [if_neg c3] at H
    have c3b0 : ((a0.size : Int) == (a1.size : Int)) = false := beq_eq_false_iff_ne.mpr c3
    have c3b1 : ((a0.size : Int) != (a1.size : Int)) = true := bne_iff_ne.mpr c3
    have c3b2 : (a0.size == a1.size) = false := by first | simpa using c3 | (simp at c3 ⊢; omega)
    obtain rfl := Option.some.inj H
    go_enter Tryz.func96, Tryz.ntmps96
    go_wp2
    go_ret
    exact ⟨by first | rfl | (simp [errW_none, errW_some] <;> rfl) | (simp [*, errW_none, errW_some] <;> rfl), by repeat (first | (with_reducible first | exact HB.out | apply below_alloc | apply pw_below_drewN | apply below_drew1) | exact HB.out)⟩

/-! ### fields_All: function 62: told by hand -/
def fields_is (name : ByteArray) (x : S98) : Bool := decide (octet_Same.f x.f0 name = some true)
def fields_All.f (l0 : List S98) (a1 : ByteArray) : Option (List ByteArray) := if l0.length < 1000000 ∧ ∀ x ∈ l0, (octet_Same.f x.f0 a1).isSome = true then some ((l0.filter (fields_is a1)).map (·.f1)) else none
theorem fields_All_len (l : List S98) (a : ByteArray) (r : List ByteArray) (h : fields_All.f l a = some r) : r.length < 1000000 := by
  unfold fields_All.f at h
  split at h
  case isFalse => cases h
  case isTrue hh =>
    obtain rfl := Option.some.inj h
    rw [List.length_map]
    exact Nat.lt_of_le_of_lt (List.length_filter_le _ _) hh.1
theorem fields_info : (Tryz.prog.info? 98).map (fun i => (i.zero, i.size, i.bytes)) = some (some (.agg #[(.string ⟨#[]⟩), (.string ⟨#[]⟩)]), 2, 32) := by kernel_rfl
theorem fields_infos : (Tryz.prog.info? 9).map (fun i => (i.zero, i.size, i.bytes)) = some (some (.string ⟨#[]⟩), 1, 16) := by kernel_rfl
theorem fields_named1 (x : S98) (b : Nat) (name : ByteArray) (r : Bool) (w : World) (hc : w.cell? ⟨b, 0, none⟩ = some (.string name)) (hl : b < w.heap.size) (h : octet_Same.f x.f0 name = some r) :
    Calls Tryz.prog 125 #[.agg #[.string x.f0, .string x.f1], .pointer (some ⟨b, 0, none⟩)] w fun e w' => e = .returned (.bool r) ∧ Below w.heap.size w w' := by
  have hne : b ≠ w.heap.size := by omega
  go_enter Tryz.func125, Tryz.ntmps125
  go_wp2_with (go_at_call 96; refine (octet_Same.calls x.f0 name r _ h).mono ?_; rintro e w1 ⟨rfl, hb⟩)
  go_ret
  exact ⟨rfl, below_then (Hand.alloc_below _ _) (by simp) hb⟩
set_option maxHeartbeats 1600000 in
theorem fields_chosen_named (A0 : Option Addr) (c0 : Nat) (l0 : List S98) (name : ByteArray) (b : Nat) (w : World) (hr0 : Kd.C k98 w A0 l0.length l0) (hc0 : l0.length ≤ c0) (hn : w.cell? ⟨b, 0, none⟩ = some (.string name)) (hl : b < w.heap.size) (hlen : l0.length < 1000000) (hall : ∀ x ∈ l0, (octet_Same.f x.f0 name).isSome = true) :
    Calls Tryz.prog 94 #[.slice A0 l0.length c0, .func (.func 125) #[] #[.pointer (some ⟨b, 0, none⟩)]] w fun e w' => ∃ v0_ : Value, e = .returned (v0_) ∧ Kd.R k98 98 w' w.heap.size (fun _ => True) v0_ (l0.filter (fields_is name)) ∧ Below w.heap.size w w' := by
  have HR0 := Aside0.mk hr0
  have HN := Aside0.mk hn
  have HALL := Aside0.mk hall
  clear hr0 hn hall
  go_enter Tryz.func94, Tryz.ntmps94
  go_wp2
  go_loopw [5, 10] (fun v5 v10 w' => ∃ n : Nat, n ≤ l0.length ∧ v10 = .int .i64 n ∧ Aside0 (Kd.R k98 98 w' w.heap.size (fun _ => True) v5 ((l0.take n).filter (fields_is name))) ∧ Aside0 (Below w.heap.size w w')) (fun _ v10 _ => l0.length - (intOf v10).toNat)
  case atStart => exact ⟨0, Nat.zero_le _, rfl, ⟨Kd.R_nil _ _ _ _ _⟩, ⟨Below.refl _ _⟩⟩
  case round =>
    obtain ⟨n, hn, rfl, HO, HB⟩ := hrel
    by_cases hlt : n < l0.length
    · obtain ⟨ad, e0, hx0, hx1⟩ := at_T98 HR0.out n (by omega) (by omega)
      cases e0
      replace hx0 := (HB.out.cell (World.block_lt_of_cell? w _ hx0)).trans hx0
      replace hx1 := (HB.out.cell (World.block_lt_of_cell? w _ hx1)).trans hx1
      rw [Int.toNat_natCast] at hx0 hx1
      have rdn : rd_T98 l0 n = l0[n] := by show l0.getD n _ = _; rw [List.getD_eq_getElem?_getD, List.getElem?_eq_getElem hlt]; rfl
      rw [rdn] at hx0 hx1
      clear rdn
      have htk : l0.take (n + 1) = l0.take n ++ [l0[n]] := by rw [List.take_add_one, List.getElem?_eq_getElem hlt]; rfl
      obtain ⟨t, ht⟩ := Option.isSome_iff_exists.1 (HALL.out l0[n] (List.getElem_mem hlt))
      have hlen2 : ((l0.take n).filter (fields_is name)).length ≤ n := Nat.le_trans (List.length_filter_le _ _) (by rw [List.length_take]; omega)
      generalize hxn : l0[n] = x at hx0 hx1 ht htk
      have HT := Aside0.mk ht
      have HTK := Aside0.mk htk
      clear ht htk
      cases t
      · go_wp2_with (go_at_call 125; refine (fields_named1 x b name false _ (Hand.cell_below (HB.out.alloc HB.out.size _) HN.out hl) (Nat.lt_of_lt_of_le hl (HB.out.alloc HB.out.size _).size) HT.out).mono ?_; rintro e w1 ⟨rfl, hb⟩; have d0 : w1.cell? ⟨wr.heap.size, 0, none⟩ = some (.string x.f0) := Hand.cell_below hb (by simp [go_sem]) (by simp); have d1 : w1.cell? ⟨wr.heap.size, 1, none⟩ = some (.string x.f1) := Hand.cell_below hb (by simp [go_sem]) (by simp); have HO1 := Aside0.mk (Kd.R_below (Kd.R_alloc HO.out _) hb); have HB1 := Aside0.mk (below_step (HB.out.alloc HB.out.size _) hb); clear HO HB hb)
        go_roundw
        case rel => exact ⟨n + 1, by omega, by go_num, ⟨by rw [HTK.out, List.filter_append, show [x].filter (fields_is name) = [] by simp [fields_is, HT.out], List.append_nil]; exact HO1.out⟩, HB1⟩
        case measure => simp [intOf]; omega
      · go_wp2_with (first | (go_at_call 125; refine (fields_named1 x b name true _ (Hand.cell_below (HB.out.alloc HB.out.size _) HN.out hl) (Nat.lt_of_lt_of_le hl (HB.out.alloc HB.out.size _).size) HT.out).mono ?_; rintro e w1 ⟨rfl, hb⟩; have d0 : w1.cell? ⟨wr.heap.size, 0, none⟩ = some (.string x.f0) := Hand.cell_below hb (by simp [go_sem]) (by simp); have d1 : w1.cell? ⟨wr.heap.size, 1, none⟩ = some (.string x.f1) := Hand.cell_below hb (by simp [go_sem]) (by simp); have HO1 := Aside0.mk (Kd.R_below (Kd.R_alloc HO.out _) hb); have HB1 := Aside0.mk (below_step (HB.out.alloc HB.out.size _) hb); clear HO HB hb) | (at_builtin; refine Kd.R_append k98 (w0 := w) w.heap.size rfl (.tmp 17) (.tmp 19) 23 98 (.agg #[(.string ⟨#[]⟩), (.string ⟨#[]⟩)]) 32 rfl Tryz.underlying23 fields_info rfl (by decide) (by omega) u5 ((l0.take n).filter (fields_is name)) x [.string x.f0, .string x.f1] (fun _ => True) (fun _ => False) rfl rfl ?aP (fun _ hk => hk.elim) ?aF ?aO ?aB ?aS ?aL ?_; (case aP => exact k98_mkM _ _ _ _); (case aB => exact HB1.out); (case aF => exact (fun _ _ => trivial)); (case aO => exact HO1.out); (case aS => exact HB1.out.size); (case aL => omega); intro v2 w2 ho hb hg hat; have HO2 := Aside0.mk ho; have HB2 := Aside0.mk hb; clear HO1 HB1 ho hb hg hat))
        go_roundw
        case rel => exact ⟨n + 1, by omega, by go_num, ⟨by rw [HTK.out, List.filter_append, show [x].filter (fields_is name) = [x] by simp [fields_is, HT.out]]; exact HO2.out⟩, HB2⟩
        case measure => simp [intOf]; omega
    · go_wp2
      go_ret
      exact ⟨_, rfl, by rw [List.take_of_length_le (by omega)] at HO; exact HO.out, HB.out⟩
theorem fields_named (name : ByteArray) (w : World) :
    Calls Tryz.prog 95 #[.string name] w fun e w' => (∃ b, e = .returned (.func (.func 125) #[] #[.pointer (some ⟨b, 0, none⟩)]) ∧ w'.cell? ⟨b, 0, none⟩ = some (.string name) ∧ b < w'.heap.size) ∧ Below w.heap.size w w' := by
  go_enter Tryz.func95, Tryz.ntmps95
  go_wp2
  refine bodyPost_ret (v := .func (.func 125) #[] #[.pointer (some ⟨w.heap.size, 0, none⟩)]) (by simp [results, Tryz.results95, go_sem]) rfl ⟨⟨_, rfl, by simp [go_sem], by simp⟩, ?_⟩
  exact (Below.refl _ _).alloc (Nat.le_refl _) _
set_option maxHeartbeats 1600000 in
theorem fields_All.calls (A0 : Option Addr) (c0 : Nat) (l0 : List S98) (a1 : ByteArray) (r : List ByteArray) (w : World) (hr0 : Kd.C k98 w A0 l0.length l0) (hc0 : l0.length ≤ c0) (h : fields_All.f l0 a1 = some r) :
    Calls Tryz.prog 62 #[.slice A0 l0.length c0, .string a1] w fun e w' => ∃ v0_ : Value, e = .returned (v0_) ∧ Kd.R Kd.string 9 w' w.heap.size (fun _ => True) v0_ r ∧ Below w.heap.size w w' := by
  unfold fields_All.f at h
  split at h
  case isFalse => cases h
  case isTrue hh =>
  obtain rfl := Option.some.inj h
  clear h
  obtain ⟨hlen, hall⟩ := hh
  have hfl : (l0.filter (fields_is a1)).length < 1000000 := Nat.lt_of_le_of_lt (List.length_filter_le _ _) hlen
  have HC := fun (w1 : World) (hb : Below w.heap.size w w1) (b : Nat) (hn : w1.cell? ⟨b, 0, none⟩ = some (.string a1)) (hl : b < w1.heap.size) => fields_chosen_named A0 c0 l0 a1 b w1 (Kd.C_below hr0 hb) hc0 hn hl hlen hall
  clear hr0 hall hlen
  generalize l0.filter (fields_is a1) = xs at HC hfl ⊢
  generalize l0.length = n0 at HC hc0 ⊢
  go_enter Tryz.func62, Tryz.ntmps62
  go_wp2_with (first | (go_at_call 95; refine (fields_named a1 _).mono ?_; rintro e w1 ⟨⟨b, rfl, hn, hl⟩, hb1⟩) | (go_at_call 94; refine (HC _ hb1 b hn hl).mono ?_; rintro e w2 ⟨v, rfl, ho, hb2⟩; clear HC hn; obtain ⟨A, c, rfl, hlc, hC⟩ := Kd.R_reads ho; clear ho; have HR := Aside0.mk hC; have HW := Aside0.mk (below_then hb1 hb1.size hb2); clear hC hb1 hb2))
  go_loopw [5, 13] (fun v5 v13 w' => ∃ n : Nat, n ≤ xs.length ∧ v13 = .int .i64 n ∧ Aside0 (Kd.R Kd.string 9 w' w2.heap.size (fun _ => True) v5 ((xs.take n).map (·.f1))) ∧ Aside0 (Below w2.heap.size w2 w')) (fun _ v13 _ => xs.length - (intOf v13).toNat)
  case atStart => exact ⟨0, Nat.zero_le _, rfl, ⟨Kd.R_nil _ _ _ _ _⟩, ⟨Below.refl _ _⟩⟩
  case round =>
    obtain ⟨n, hn, rfl, HO, HB⟩ := hrel
    by_cases hlt : n < xs.length
    · obtain ⟨ad, e0, hx0, hx1⟩ := at_T98 HR.out n (by omega) (by omega)
      cases e0
      replace hx0 := (HB.out.cell (World.block_lt_of_cell? w2 _ hx0)).trans hx0
      replace hx1 := (HB.out.cell (World.block_lt_of_cell? w2 _ hx1)).trans hx1
      rw [Int.toNat_natCast] at hx0 hx1
      have rdn : rd_T98 xs n = xs[n] := by show xs.getD n _ = _; rw [List.getD_eq_getElem?_getD, List.getElem?_eq_getElem hlt]; rfl
      rw [rdn] at hx0 hx1
      clear rdn
      have htk : (xs.take (n + 1)).map (·.f1) = (xs.take n).map (·.f1) ++ [xs[n].f1] := by rw [List.take_add_one, List.getElem?_eq_getElem hlt, List.map_append]; rfl
      have HTK := Aside0.mk htk
      clear htk
      have hlen2 : ((xs.take n).map (·.f1)).length ≤ n := by rw [List.length_map, List.length_take]; omega
      generalize xs[n] = x at hx0 hx1 HTK
      go_wp2_with (at_builtin; go_loud (refine Kd.R_append Kd.string (w0 := w2) w2.heap.size rfl (.tmp 17) (.tmp 20) 59 9 (.string ⟨#[]⟩) 16 rfl Tryz.underlying59 fields_infos rfl (by decide) (by omega) u5 ((xs.take n).map (·.f1)) x.f1 [.string x.f1] (fun _ => True) (fun _ => False) rfl (by first | rfl | (show Value.slice _ _ _ = Value.slice _ _ _; simp)) ?aP (fun _ hk => hk.elim) ?aF ?aO ?aB ?aS ?aL ?_); (case aP => exact rfl); (case aB => exact HB.out.alloc HB.out.size _); (case aF => exact (fun _ _ => trivial)); (case aO => exact Kd.R_alloc HO.out _); (case aS => exact (HB.out.alloc HB.out.size _).size); (case aL => omega); intro v3 w3 ho hb hg hat; have HO2 := Aside0.mk ho; have HB2 := Aside0.mk hb; clear HO HB ho hb hg hat)
      go_roundw
      case rel => exact ⟨n + 1, by omega, by go_num, ⟨by rw [HTK.out]; exact HO2.out⟩, HB2⟩
      case measure => simp [intOf]; omega
    · go_wp2
      go_ret
      refine ⟨_, rfl, ?_, below_then HW.out HW.out.size HB.out⟩
      have h1 := HO.out
      rw [List.take_of_length_le (by omega)] at h1
      exact Kd.R_lower h1 HW.out.size

end Go.Proofs.YtjaklgikfcahdaaGreatDoor.PB
