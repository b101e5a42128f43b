-- Out of the translation, by a program of this session: each function that a law comes to as a Lean function, and that the machine's call does what it says. Lean checks it.
import Derived.Test.YtdiefodncfnfeaaDoorPR0
import Derived.Test.YtdiefodncfnfeaaDoorPR5
namespace Go.Proofs.YtdiefodncfnfeaaDoor.PR
open Go.RowKit Go.Proofs.YtdiefodncfnfeaaDoorW.PrintWords Go.Proofs.YtdiefodncfnfeaaDoorW.PrintLast Go.Proofs.YtdiefodncfnfeaaDoorW.PrintMore
attribute [local go_sem] max2_int min2_int max_two min_two max_three min_three max_four min_four   -- for this text's walks alone
set_option linter.unusedVariables false
set_option linter.unusedSimpArgs false

/-! ### fields_All: function 61: told by hand -/
def fields_is (name : ByteArray) (x : S62) : Bool := decide (octet_Same.f x.f0 name = some true)
def fields_All.f (l0 : List S62) (a1 : ByteArray) : Option (List ByteArray) := if l0.length < 1000000 ∧ ∀ x ∈ l0, (octet_Same.f x.f0 a1).isSome = true then some ((l0.filter (fields_is a1)).map (·.f1)) else none
theorem fields_All_len (l : List S62) (a : ByteArray) (r : List ByteArray) (h : fields_All.f l a = some r) : r.length < 1000000 := by
  unfold fields_All.f at h
  split at h
  case isFalse => cases h
  case isTrue hh =>
    obtain rfl := Option.some.inj h
    rw [List.length_map]
    exact Nat.lt_of_le_of_lt (List.length_filter_le _ _) hh.1
theorem fields_info : (Tryd.prog.info? 62).map (fun i => (i.zero, i.size, i.bytes)) = some (some (.agg #[(.string ⟨#[]⟩), (.string ⟨#[]⟩)]), 2, 32) := by kernel_rfl
theorem fields_infos : (Tryd.prog.info? 9).map (fun i => (i.zero, i.size, i.bytes)) = some (some (.string ⟨#[]⟩), 1, 16) := by kernel_rfl
theorem fields_named1 (x : S62) (b : Nat) (name : ByteArray) (r : Bool) (w : World) (hc : w.cell? ⟨b, 0, none⟩ = some (.string name)) (hl : b < w.heap.size) (h : octet_Same.f x.f0 name = some r) :
    Calls Tryd.prog 79 #[.agg #[.string x.f0, .string x.f1], .pointer (some ⟨b, 0, none⟩)] w fun e w' => e = .returned (.bool r) ∧ Below w.heap.size w w' := by
  have hne : b ≠ w.heap.size := by omega
  go_enter Tryd.func79, Tryd.ntmps79
  go_wp2_with (go_at_call 80; refine (octet_Same.calls x.f0 name r _ h).mono ?_; rintro e w1 ⟨rfl, hb⟩)
  go_ret
  exact ⟨rfl, below_then (Hand.alloc_below _ _) (by simp) hb⟩
set_option maxHeartbeats 1600000 in
theorem fields_chosen_named (A0 : Option Addr) (c0 : Nat) (l0 : List S62) (name : ByteArray) (b : Nat) (w : World) (hr0 : Kd.C k62 w A0 l0.length l0) (hc0 : l0.length ≤ c0) (hn : w.cell? ⟨b, 0, none⟩ = some (.string name)) (hl : b < w.heap.size) (hlen : l0.length < 1000000) (hall : ∀ x ∈ l0, (octet_Same.f x.f0 name).isSome = true) :
    Calls Tryd.prog 73 #[.slice A0 l0.length c0, .func (.func 79) #[] #[.pointer (some ⟨b, 0, none⟩)]] w fun e w' => ∃ v0_ : Value, e = .returned (v0_) ∧ Kd.R k62 62 w' w.heap.size (fun _ => True) v0_ (l0.filter (fields_is name)) ∧ Below w.heap.size w w' := by
  have HR0 := Aside0.mk hr0
  have HN := Aside0.mk hn
  have HALL := Aside0.mk hall
  clear hr0 hn hall
  go_enter Tryd.func73, Tryd.ntmps73
  go_wp2
  go_loopw [5, 10] (fun v5 v10 w' => ∃ n : Nat, n ≤ l0.length ∧ v10 = .int .i64 n ∧ Aside0 (Kd.R k62 62 w' w.heap.size (fun _ => True) v5 ((l0.take n).filter (fields_is name))) ∧ Aside0 (Below w.heap.size w w')) (fun _ v10 _ => l0.length - (intOf v10).toNat)
  case atStart => exact ⟨0, Nat.zero_le _, rfl, ⟨Kd.R_nil _ _ _ _ _⟩, ⟨Below.refl _ _⟩⟩
  case round =>
    obtain ⟨n, hn, rfl, HO, HB⟩ := hrel
    by_cases hlt : n < l0.length
    · obtain ⟨ad, e0, hx0, hx1⟩ := at_T62 HR0.out n (by omega) (by omega)
      cases e0
      replace hx0 := (HB.out.cell (World.block_lt_of_cell? w _ hx0)).trans hx0
      replace hx1 := (HB.out.cell (World.block_lt_of_cell? w _ hx1)).trans hx1
      rw [Int.toNat_natCast] at hx0 hx1
      have rdn : rd_T62 l0 n = l0[n] := by show l0.getD n _ = _; rw [List.getD_eq_getElem?_getD, List.getElem?_eq_getElem hlt]; rfl
      rw [rdn] at hx0 hx1
      clear rdn
      have htk : l0.take (n + 1) = l0.take n ++ [l0[n]] := by rw [List.take_add_one, List.getElem?_eq_getElem hlt]; rfl
      obtain ⟨t, ht⟩ := Option.isSome_iff_exists.1 (HALL.out l0[n] (List.getElem_mem hlt))
      have hlen2 : ((l0.take n).filter (fields_is name)).length ≤ n := Nat.le_trans (List.length_filter_le _ _) (by rw [List.length_take]; omega)
      generalize hxn : l0[n] = x at hx0 hx1 ht htk
      have HT := Aside0.mk ht
      have HTK := Aside0.mk htk
      clear ht htk
      cases t
      · go_wp2_with (go_at_call 79; refine (fields_named1 x b name false _ (Hand.cell_below (HB.out.alloc HB.out.size _) HN.out hl) (Nat.lt_of_lt_of_le hl (HB.out.alloc HB.out.size _).size) HT.out).mono ?_; rintro e w1 ⟨rfl, hb⟩; have d0 : w1.cell? ⟨wr.heap.size, 0, none⟩ = some (.string x.f0) := Hand.cell_below hb (by simp [go_sem]) (by simp); have d1 : w1.cell? ⟨wr.heap.size, 1, none⟩ = some (.string x.f1) := Hand.cell_below hb (by simp [go_sem]) (by simp); have HO1 := Aside0.mk (Kd.R_below (Kd.R_alloc HO.out _) hb); have HB1 := Aside0.mk (below_step (HB.out.alloc HB.out.size _) hb); clear HO HB hb)
        go_roundw
        case rel => exact ⟨n + 1, by omega, by go_num, ⟨by rw [HTK.out, List.filter_append, show [x].filter (fields_is name) = [] by simp [fields_is, HT.out], List.append_nil]; exact HO1.out⟩, HB1⟩
        case measure => simp [intOf]; omega
      · go_wp2_with (first | (go_at_call 79; refine (fields_named1 x b name true _ (Hand.cell_below (HB.out.alloc HB.out.size _) HN.out hl) (Nat.lt_of_lt_of_le hl (HB.out.alloc HB.out.size _).size) HT.out).mono ?_; rintro e w1 ⟨rfl, hb⟩; have d0 : w1.cell? ⟨wr.heap.size, 0, none⟩ = some (.string x.f0) := Hand.cell_below hb (by simp [go_sem]) (by simp); have d1 : w1.cell? ⟨wr.heap.size, 1, none⟩ = some (.string x.f1) := Hand.cell_below hb (by simp [go_sem]) (by simp); have HO1 := Aside0.mk (Kd.R_below (Kd.R_alloc HO.out _) hb); have HB1 := Aside0.mk (below_step (HB.out.alloc HB.out.size _) hb); clear HO HB hb) | (at_builtin; refine Kd.R_append k62 (w0 := w) w.heap.size rfl (.tmp 17) (.tmp 19) 23 62 (.agg #[(.string ⟨#[]⟩), (.string ⟨#[]⟩)]) 32 rfl Tryd.underlying23 fields_info rfl (by decide) (by omega) u5 ((l0.take n).filter (fields_is name)) x [.string x.f0, .string x.f1] (fun _ => True) (fun _ => False) rfl rfl ?aP (fun _ hk => hk.elim) ?aF ?aO ?aB ?aS ?aL ?_; (case aP => exact k62_mkM _ _ _ _); (case aB => exact HB1.out); (case aF => exact (fun _ _ => trivial)); (case aO => exact HO1.out); (case aS => exact HB1.out.size); (case aL => omega); intro v2 w2 ho hb hg hat; have HO2 := Aside0.mk ho; have HB2 := Aside0.mk hb; clear HO1 HB1 ho hb hg hat))
        go_roundw
        case rel => exact ⟨n + 1, by omega, by go_num, ⟨by rw [HTK.out, List.filter_append, show [x].filter (fields_is name) = [x] by simp [fields_is, HT.out]]; exact HO2.out⟩, HB2⟩
        case measure => simp [intOf]; omega
    · go_wp2
      go_ret
      exact ⟨_, rfl, by rw [List.take_of_length_le (by omega)] at HO; exact HO.out, HB.out⟩
theorem fields_named (name : ByteArray) (w : World) :
    Calls Tryd.prog 74 #[.string name] w fun e w' => (∃ b, e = .returned (.func (.func 79) #[] #[.pointer (some ⟨b, 0, none⟩)]) ∧ w'.cell? ⟨b, 0, none⟩ = some (.string name) ∧ b < w'.heap.size) ∧ Below w.heap.size w w' := by
  go_enter Tryd.func74, Tryd.ntmps74
  go_wp2
  refine bodyPost_ret (v := .func (.func 79) #[] #[.pointer (some ⟨w.heap.size, 0, none⟩)]) (by simp [results, Tryd.results74, go_sem]) rfl ⟨⟨_, rfl, by simp [go_sem], by simp⟩, ?_⟩
  exact (Below.refl _ _).alloc (Nat.le_refl _) _
set_option maxHeartbeats 1600000 in
theorem fields_All.calls (A0 : Option Addr) (c0 : Nat) (l0 : List S62) (a1 : ByteArray) (r : List ByteArray) (w : World) (hr0 : Kd.C k62 w A0 l0.length l0) (hc0 : l0.length ≤ c0) (h : fields_All.f l0 a1 = some r) :
    Calls Tryd.prog 61 #[.slice A0 l0.length c0, .string a1] w fun e w' => ∃ v0_ : Value, e = .returned (v0_) ∧ Kd.R Kd.string 9 w' w.heap.size (fun _ => True) v0_ r ∧ Below w.heap.size w w' := by
  unfold fields_All.f at h
  split at h
  case isFalse => cases h
  case isTrue hh =>
  obtain rfl := Option.some.inj h
  clear h
  obtain ⟨hlen, hall⟩ := hh
  have hfl : (l0.filter (fields_is a1)).length < 1000000 := Nat.lt_of_le_of_lt (List.length_filter_le _ _) hlen
  have HC := fun (w1 : World) (hb : Below w.heap.size w w1) (b : Nat) (hn : w1.cell? ⟨b, 0, none⟩ = some (.string a1)) (hl : b < w1.heap.size) => fields_chosen_named A0 c0 l0 a1 b w1 (Kd.C_below hr0 hb) hc0 hn hl hlen hall
  clear hr0 hall hlen
  generalize l0.filter (fields_is a1) = xs at HC hfl ⊢
  generalize l0.length = n0 at HC hc0 ⊢
  go_enter Tryd.func61, Tryd.ntmps61
  go_wp2_with (first | (go_at_call 74; refine (fields_named a1 _).mono ?_; rintro e w1 ⟨⟨b, rfl, hn, hl⟩, hb1⟩) | (go_at_call 73; refine (HC _ hb1 b hn hl).mono ?_; rintro e w2 ⟨v, rfl, ho, hb2⟩; clear HC hn; obtain ⟨A, c, rfl, hlc, hC⟩ := Kd.R_reads ho; clear ho; have HR := Aside0.mk hC; have HW := Aside0.mk (below_then hb1 hb1.size hb2); clear hC hb1 hb2))
  go_loopw [5, 13] (fun v5 v13 w' => ∃ n : Nat, n ≤ xs.length ∧ v13 = .int .i64 n ∧ Aside0 (Kd.R Kd.string 9 w' w2.heap.size (fun _ => True) v5 ((xs.take n).map (·.f1))) ∧ Aside0 (Below w2.heap.size w2 w')) (fun _ v13 _ => xs.length - (intOf v13).toNat)
  case atStart => exact ⟨0, Nat.zero_le _, rfl, ⟨Kd.R_nil _ _ _ _ _⟩, ⟨Below.refl _ _⟩⟩
  case round =>
    obtain ⟨n, hn, rfl, HO, HB⟩ := hrel
    by_cases hlt : n < xs.length
    · obtain ⟨ad, e0, hx0, hx1⟩ := at_T62 HR.out n (by omega) (by omega)
      cases e0
      replace hx0 := (HB.out.cell (World.block_lt_of_cell? w2 _ hx0)).trans hx0
      replace hx1 := (HB.out.cell (World.block_lt_of_cell? w2 _ hx1)).trans hx1
      rw [Int.toNat_natCast] at hx0 hx1
      have rdn : rd_T62 xs n = xs[n] := by show xs.getD n _ = _; rw [List.getD_eq_getElem?_getD, List.getElem?_eq_getElem hlt]; rfl
      rw [rdn] at hx0 hx1
      clear rdn
      have htk : (xs.take (n + 1)).map (·.f1) = (xs.take n).map (·.f1) ++ [xs[n].f1] := by rw [List.take_add_one, List.getElem?_eq_getElem hlt, List.map_append]; rfl
      have HTK := Aside0.mk htk
      clear htk
      have hlen2 : ((xs.take n).map (·.f1)).length ≤ n := by rw [List.length_map, List.length_take]; omega
      generalize xs[n] = x at hx0 hx1 HTK
      go_wp2_with (at_builtin; go_loud (refine Kd.R_append Kd.string (w0 := w2) w2.heap.size rfl (.tmp 17) (.tmp 20) 51 9 (.string ⟨#[]⟩) 16 rfl Tryd.underlying51 fields_infos rfl (by decide) (by omega) u5 ((xs.take n).map (·.f1)) x.f1 [.string x.f1] (fun _ => True) (fun _ => False) rfl (by first | rfl | (show Value.slice _ _ _ = Value.slice _ _ _; simp)) ?aP (fun _ hk => hk.elim) ?aF ?aO ?aB ?aS ?aL ?_); (case aP => exact rfl); (case aB => exact HB.out.alloc HB.out.size _); (case aF => exact (fun _ _ => trivial)); (case aO => exact Kd.R_alloc HO.out _); (case aS => exact (HB.out.alloc HB.out.size _).size); (case aL => omega); intro v3 w3 ho hb hg hat; have HO2 := Aside0.mk ho; have HB2 := Aside0.mk hb; clear HO HB ho hb hg hat)
      go_roundw
      case rel => exact ⟨n + 1, by omega, by go_num, ⟨by rw [HTK.out]; exact HO2.out⟩, HB2⟩
      case measure => simp [intOf]; omega
    · go_wp2
      go_ret
      refine ⟨_, rfl, ?_, below_then HW.out HW.out.size HB.out⟩
      have h1 := HO.out
      rw [List.take_of_length_le (by omega)] at h1
      exact Kd.R_lower h1 HW.out.size

/-! ### strings_ReplaceAll: function 75: told by hand -/
theorem replace_extra : Builder.Extra Tryd.prog Tryd.laysM155_ren := {
  sizeBuilder := by kernel_rfl
  liesBuilder := by kernel_rfl
  t5 := Tryd.underlying5
  a5 := Tryd.isAgg5
  z5 := Tryd.sizeOf5
  v5 := Tryd.zeroValue5
  infoByte := by kernel_rfl
  cellsByte := by kernel_rfl
  sizeByte := by kernel_rfl
  neB5 := by decide }
def strings_ReplaceAll.f (a0 a1 a2 : ByteArray) : Option (ByteArray) := if a0.size < 4294967281 ∧ 1 ≤ a1.size ∧ a0.size + Lib.countB a0 a1 * a2.size ≤ 140737488355328 then some ⟨(Lib.replaceAll a0.data.toList a1.data.toList a2.data.toList).toArray⟩ else none
theorem strings_ReplaceAll.calls (a0 a1 a2 r : ByteArray) (w : World) (HT : Aside0 (Hand.Laid w)) (h : strings_ReplaceAll.f a0 a1 a2 = some r) :
    Calls Tryd.prog 75 #[.string a0, .string a1, .string a2] w fun e w' => e = .returned (.string r) ∧ Below w.heap.size w w' := by
  unfold strings_ReplaceAll.f at h
  split at h
  case isFalse => cases h
  case isTrue hs =>
    obtain rfl := Option.some.inj h
    exact Any.strings_ReplaceAll_shaped Tryd.laysM155 replace_extra a0 a1 a2 w HT.out.shaped hs.1 hs.2.1 hs.2.2

/-! ### strings_Index: function 82: told by hand -/
def strings_Index.f (a0 a1 : ByteArray) : Option (Int) := if a0.size < 4294967281 then some (Lib.index a0.data.toList a1.data.toList) else none
theorem strings_Index.calls (a0 a1 : ByteArray) (r : Int) (w : World) (HT : Aside0 (Hand.Laid w)) (h : strings_Index.f a0 a1 = some r) :
    Calls Tryd.prog 82 #[.string a0, .string a1] w fun e w' => e = .returned (.int .i64 r) ∧ Below w.heap.size w w' := by
  unfold strings_Index.f at h
  split at h
  case isFalse => cases h
  case isTrue hs =>
    obtain rfl := Option.some.inj h
    exact (Any.strings_Index_shaped Tryd.laysM143 a0 a1 w HT.out.shaped hs).mono fun e w' ⟨he, hw⟩ => ⟨he, hw ▸ Below.refl _ _⟩

/-! ### strings_Contains: function 76 -/
def strings_Contains.f (a0 : ByteArray) (a1 : ByteArray) : Option (Bool) := (strings_Index.f a0 a1).bind fun t113 => (some (decide (t113 ≥ 0)))
set_option maxHeartbeats 8000000 in
set_option maxRecDepth 100000 in
theorem strings_Contains.calls (a0 : ByteArray) (a1 : ByteArray) (r : Bool) (w : World) (HT : Aside0 (Hand.Laid w)) (h : strings_Contains.f a0 a1 = some r) :
    Calls Tryd.prog 76 #[.string a0, .string a1] w fun e w' => e = .returned (.bool r) ∧ Below w.heap.size w w' := by
  have HB := Aside0.mk (Below.refl w.heap.size w)
  have H : ((strings_Index.f a0 a1).bind fun t113 => (some (decide (t113 ≥ 0)))) = some r := h
  clear h
  replace H := Option.bind_eq_some_iff.mp H
  obtain ⟨t113, A30, H⟩ := H
  replace H : (some (decide (t113 ≥ 0))) = some r := H
  have A3 := Aside0.mk A30
  clear A30
  obtain rfl := Option.some.inj H
  go_enter Tryd.func76, Tryd.ntmps76
  go_wp2_with (first | ((with_reducible refine gate_callee (f := 82) rfl ?_); refine goesL_ (some 7) rfl rfl Tryd.func82 (by kernel_rfl) rfl #[.string a0, .string a1] rfl (by (try simp only [List.map_toArray, List.map_cons, List.map_nil]); first | done | rfl | (simp only [List.length_drop, List.length_take]; rfl)) ?_; (with_reducible refine (strings_Index.calls a0 a1 t113 _ ?side1 A3.out).mono ?_); (case side1 => first | exact HT | exact ⟨Hand.Laid.below HT.out (by repeat (first | (with_reducible first | exact HB.out | apply below_alloc | apply pw_below_drewN | apply below_drew1) | exact HB.out))⟩); rintro e w4 ⟨rfl, hb⟩; refine ⟨_, rfl, ?_⟩; have n0_ := Aside0.mk (below_step (by repeat (first | (with_reducible first | exact HB.out | apply below_alloc | apply pw_below_drewN | apply below_drew1) | exact HB.out)) hb); clear HB; have HB := n0_; clear n0_; (try clear hb); (try clear hb2); (try clear hk); (try clear hi)))
  go_ret
  exact ⟨by first | rfl | (simp [errW_none, errW_some] <;> rfl) | (simp [*, errW_none, errW_some] <;> rfl), by repeat (first | (with_reducible first | exact HB.out | apply below_alloc | apply pw_below_drewN | apply below_drew1) | exact HB.out)⟩

/-! ### vary_single: function 62 -/
def vary_single.l0 : Nat → ByteArray → Option (ByteArray)
  | 0, _ => none
  | k + 1, x0 => (strings_Contains.f x0 (⟨#[32, 32]⟩ : ByteArray)).bind fun t115 => (if t115 = true then ((strings_ReplaceAll.f x0 (⟨#[32, 32]⟩ : ByteArray) (⟨#[32]⟩ : ByteArray)).bind fun t116 => (vary_single.l0 k t116)) else (some x0))
def vary_single.f (k : Nat) (a0 : ByteArray) : Option (ByteArray) := (strings_ReplaceAll.f a0 (⟨#[9]⟩ : ByteArray) (⟨#[32]⟩ : ByteArray)).bind fun t114 => (vary_single.l0 k t114)
theorem vary_single.mono_l : ∀ k, (∀ y0, LeO (vary_single.l0 k y0) (vary_single.l0 (k + 1) y0))
  | 0 => fun _ r h => by simp [vary_single.l0] at h
  | k + 1 => by
    have ih0 := vary_single.mono_l k
    · intro y0
      unfold vary_single.l0
      repeat' first
      | (with_reducible exact ih0 _)
      | (with_reducible exact LeO.refl _)
      | (with_reducible exact LeO.none _)
      | (with_reducible refine LeO.ite ?_ ?_)
      | (with_reducible refine LeO.bind ?_ (fun _ => ?_))
      | exact ih0 _
      | exact LeO.none _
      | refine LeO.ite ?_ ?_
      | refine LeO.bind ?_ (fun _ => ?_)
theorem vary_single.mono : ∀ a0 k, LeO (vary_single.f k a0) (vary_single.f (k + 1) a0) := by
  intro a0 k
  have ih0 := vary_single.mono_l k
  unfold vary_single.f
  repeat' first
      | (with_reducible exact ih0 _)
      | (with_reducible exact LeO.refl _)
      | (with_reducible exact LeO.none _)
      | (with_reducible refine LeO.ite ?_ ?_)
      | (with_reducible refine LeO.bind ?_ (fun _ => ?_))
      | exact ih0 _
      | exact LeO.none _
      | refine LeO.ite ?_ ?_
      | refine LeO.bind ?_ (fun _ => ?_)
set_option maxHeartbeats 8000000 in
set_option maxRecDepth 100000 in
theorem vary_single.calls (k : Nat) (a0 : ByteArray) (r : ByteArray) (w : World) (HT : Aside0 (Hand.Laid w)) (h : vary_single.f k a0 = some r) :
    Calls Tryd.prog 62 #[.string a0] w fun e w' => e = .returned (.string r) ∧ Below w.heap.size w w' := by
  have HB := Aside0.mk (Below.refl w.heap.size w)
  have H : ((strings_ReplaceAll.f a0 (⟨#[9]⟩ : ByteArray) (⟨#[32]⟩ : ByteArray)).bind fun t114 => (vary_single.l0 k t114)) = some r := h
  clear h
  replace H := Option.bind_eq_some_iff.mp H
  obtain ⟨t114, A20, H⟩ := H
  replace H : (vary_single.l0 k t114) = some r := H
  have A2 := Aside0.mk A20
  clear A20
  have H' := Aside0.mk H
  clear H
  go_enter Tryd.func62, Tryd.ntmps62
  go_wp2_with (first | ((with_reducible refine gate_callee (f := 75) rfl ?_); refine goesL_ (some 4) rfl rfl Tryd.func75 (by kernel_rfl) rfl #[.string a0, .string (⟨#[9]⟩ : ByteArray), .string (⟨#[32]⟩ : ByteArray)] rfl (by (try simp only [List.map_toArray, List.map_cons, List.map_nil]); first | done | rfl | (simp only [List.length_drop, List.length_take]; rfl)) ?_; (with_reducible refine (strings_ReplaceAll.calls a0 (⟨#[9]⟩ : ByteArray) (⟨#[32]⟩ : ByteArray) t114 _ ?side1 A2.out).mono ?_); (case side1 => first | exact HT | exact ⟨Hand.Laid.below HT.out (by repeat (first | (with_reducible first | exact HB.out | apply below_alloc | apply pw_below_drewN | apply below_drew1) | exact HB.out))⟩); rintro e w3 ⟨rfl, hb⟩; refine ⟨_, rfl, ?_⟩; have n0_ := Aside0.mk (below_step (by repeat (first | (with_reducible first | exact HB.out | apply below_alloc | apply pw_below_drewN | apply below_drew1) | exact HB.out)) hb); clear HB; have HB := n0_; clear n0_; (try clear hb); (try clear hb2); (try clear hk); (try clear hi)))
  go_loopg [0] k (fun kq v0 w' => ∃ (x0_1 : ByteArray), v0 = .string x0_1 ∧ Aside0 (vary_single.l0 kq x0_1 = some r) ∧ Aside0 (kq ≤ k) ∧ Aside0 (Below w.heap.size w w'))
  case atStart => exact ⟨(t114), (by first | rfl | (simp; done) | (simp [*]; done) | (simp; exact Hand.isEmpty_ne _)), H', ⟨Nat.le_refl _⟩, ⟨by repeat (first | (with_reducible first | exact HB.out | apply below_alloc | apply pw_below_drewN | apply below_drew1) | exact HB.out)⟩⟩
  case round =>
    clear H'
    try clear p2
    obtain ⟨x0_1, rfl, HA, HK1, HB⟩ := hrel
    cases gk with
    | zero => exact absurd HA.out (by simp [vary_single.l0])
    | succ k1 =>
      have H := HA.out
      clear HA
      simp only [vary_single.l0] at H
      replace H := Option.bind_eq_some_iff.mp H
      obtain ⟨t115, A40, H⟩ := H
      replace H : (if t115 = true then ((strings_ReplaceAll.f x0_1 (⟨#[32, 32]⟩ : ByteArray) (⟨#[32]⟩ : ByteArray)).bind fun t116 => (vary_single.l0 k1 t116)) else (some x0_1)) = some r := H
      have A4 := Aside0.mk A40
      clear A40
      by_cases c5 : t115 = true
      · subst c5
        have H1 : ((strings_ReplaceAll.f x0_1 (⟨#[32, 32]⟩ : ByteArray) (⟨#[32]⟩ : ByteArray)).bind fun t116 => (vary_single.l0 k1 t116)) = some r := by rw [if_pos rfl] at H; exact H
        clear H
        have H := H1
        clear H1
        replace H := Option.bind_eq_some_iff.mp H
        obtain ⟨t116, A60, H⟩ := H
        replace H : (vary_single.l0 k1 t116) = some r := H
        have A6 := Aside0.mk A60
        clear A60
        have H' := Aside0.mk H
        clear H
        go_wp2_with (first | ((with_reducible refine gate_callee (f := 76) rfl ?_); refine goesL_ (some 6) rfl rfl Tryd.func76 (by kernel_rfl) rfl #[.string x0_1, .string (⟨#[32, 32]⟩ : ByteArray)] rfl (by (try simp only [List.map_toArray, List.map_cons, List.map_nil]); first | done | rfl | (simp only [List.length_drop, List.length_take]; rfl)) ?_; (with_reducible refine (strings_Contains.calls x0_1 (⟨#[32, 32]⟩ : ByteArray) true _ ?side1 A4.out).mono ?_); (case side1 => first | exact HT | exact ⟨Hand.Laid.below HT.out (by repeat (first | (with_reducible first | exact HB.out | apply below_alloc | apply pw_below_drewN | apply below_drew1) | exact HB.out))⟩); rintro e w7 ⟨rfl, hb⟩; refine ⟨_, rfl, ?_⟩; have n0_ := Aside0.mk (below_step (by repeat (first | (with_reducible first | exact HB.out | apply below_alloc | apply pw_below_drewN | apply below_drew1) | exact HB.out)) hb); clear HB; have HB := n0_; clear n0_; (try clear hb); (try clear hb2); (try clear hk); (try clear hi)) | ((with_reducible refine gate_callee (f := 75) rfl ?_); refine goesL_ (some 8) rfl rfl Tryd.func75 (by kernel_rfl) rfl #[.string x0_1, .string (⟨#[32, 32]⟩ : ByteArray), .string (⟨#[32]⟩ : ByteArray)] rfl (by (try simp only [List.map_toArray, List.map_cons, List.map_nil]); first | done | rfl | (simp only [List.length_drop, List.length_take]; rfl)) ?_; (with_reducible refine (strings_ReplaceAll.calls x0_1 (⟨#[32, 32]⟩ : ByteArray) (⟨#[32]⟩ : ByteArray) t116 _ ?side1 A6.out).mono ?_); (case side1 => first | exact HT | exact ⟨Hand.Laid.below HT.out (by repeat (first | (with_reducible first | exact HB.out | apply below_alloc | apply pw_below_drewN | apply below_drew1) | exact HB.out))⟩); rintro e w8 ⟨rfl, hb⟩; refine ⟨_, rfl, ?_⟩; have n0_ := Aside0.mk (below_step (by repeat (first | (with_reducible first | exact HB.out | apply below_alloc | apply pw_below_drewN | apply below_drew1) | exact HB.out)) hb); clear HB; have HB := n0_; clear n0_; (try clear hb); (try clear hb2); (try clear hk); (try clear hi)))
        go_roundg k1
        case measure => have := HK1.out; omega
        case rel => exact ⟨(t116), (by first | rfl | (simp; done) | (simp [*]; done) | (simp; exact Hand.isEmpty_ne _)), H', ⟨by have := HK1.out; omega⟩, ⟨by repeat (first | (with_reducible first | exact HB.out | apply below_alloc | apply pw_below_drewN | apply below_drew1) | exact HB.out)⟩⟩
      · replace c5 := Bool.eq_false_iff.mpr c5
        subst c5
        have H1 : (some x0_1) = some r := by rw [if_neg (show ¬ (false = true) by decide)] at H; exact H
        clear H
        have H := H1
        clear H1
        obtain rfl := Option.some.inj H
        go_wp2_with (first | ((with_reducible refine gate_callee (f := 76) rfl ?_); refine goesL_ (some 6) rfl rfl Tryd.func76 (by kernel_rfl) rfl #[.string x0_1, .string (⟨#[32, 32]⟩ : ByteArray)] rfl (by (try simp only [List.map_toArray, List.map_cons, List.map_nil]); first | done | rfl | (simp only [List.length_drop, List.length_take]; rfl)) ?_; (with_reducible refine (strings_Contains.calls x0_1 (⟨#[32, 32]⟩ : ByteArray) false _ ?side1 A4.out).mono ?_); (case side1 => first | exact HT | exact ⟨Hand.Laid.below HT.out (by repeat (first | (with_reducible first | exact HB.out | apply below_alloc | apply pw_below_drewN | apply below_drew1) | exact HB.out))⟩); rintro e w9 ⟨rfl, hb⟩; refine ⟨_, rfl, ?_⟩; have n0_ := Aside0.mk (below_step (by repeat (first | (with_reducible first | exact HB.out | apply below_alloc | apply pw_below_drewN | apply below_drew1) | exact HB.out)) hb); clear HB; have HB := n0_; clear n0_; (try clear hb); (try clear hb2); (try clear hk); (try clear hi)))
        go_ret
        exact ⟨by first | rfl | (simp [errW_none, errW_some] <;> rfl) | (simp [*, errW_none, errW_some] <;> rfl), by repeat (first | (with_reducible first | exact HB.out | apply below_alloc | apply pw_below_drewN | apply below_drew1) | exact HB.out)⟩

/-! ### strings_Join: function 77: told by hand -/
theorem join_extra : Builder.Extra Tryd.prog Tryd.lays156_ren := {
  sizeBuilder := by kernel_rfl
  liesBuilder := by kernel_rfl
  t5 := Tryd.underlying5
  a5 := Tryd.isAgg5
  z5 := Tryd.sizeOf5
  v5 := Tryd.zeroValue5
  infoByte := by kernel_rfl
  cellsByte := by kernel_rfl
  sizeByte := by kernel_rfl
  neB5 := by decide }
def strings_Join.f (l0 : List ByteArray) (a1 : ByteArray) : Option (ByteArray) := if l0.length ≤ 140737488355328 ∧ (Lib.join (l0.map (·.data.toList)) a1.data.toList).length ≤ 140737488355328 then some ⟨(Lib.join (l0.map (·.data.toList)) a1.data.toList).toArray⟩ else none
theorem strings_Join.calls (A0 : Option Addr) (c0 : Nat) (l0 : List ByteArray) (a1 r : ByteArray) (w : World) (hr0 : Kd.C Kd.string w A0 l0.length l0) (hc0 : l0.length ≤ c0) (h : strings_Join.f l0 a1 = some r) :
    Calls Tryd.prog 77 #[.slice A0 l0.length c0, .string a1] w fun e w' => e = .returned (.string r) ∧ Below w.heap.size w w' := by
  unfold strings_Join.f at h
  split at h
  case isFalse => cases h
  case isTrue hs =>
    obtain rfl := Option.some.inj h
    by_cases hn : 0 < l0.length
    · obtain ⟨bk, o, rfl, hbk, hcells⟩ := Hand.C_cells hr0 hn
      exact Any.strings_Join Tryd.lays156 join_extra bk o c0 l0 a1 w hcells hbk hs.1 hc0 hs.2
    · obtain rfl : l0 = [] := List.eq_nil_of_length_eq_zero (by omega)
      exact (Any.strings_Join_none Tryd.lays156 join_extra A0 c0 a1 w).mono fun e w' ⟨he, hw⟩ => ⟨he, hw ▸ Below.refl _ _⟩

/-! ### items_Join: function 63 -/
def items_Join.f (l0 : List ByteArray) : Option (ByteArray) := (strings_Join.f l0 (⟨#[44, 32]⟩ : ByteArray)).bind fun t117 => (some t117)
set_option maxHeartbeats 8000000 in
set_option maxRecDepth 100000 in
theorem items_Join.calls (A0 : Option Addr) (c0 : Nat) (l0 : List ByteArray) (r : ByteArray) (w : World) (hr0 : Kd.C Kd.string w A0 l0.length l0) (hc0 : l0.length ≤ c0) (h : items_Join.f l0 = some r) :
    Calls Tryd.prog 63 #[.slice A0 l0.length c0] w fun e w' => e = .returned (.string r) ∧ Below w.heap.size w w' := by
  have HR0 := Aside0.mk hr0
  have HC0 := Aside0.mk hc0
  clear hr0 hc0
  have HB := Aside0.mk (Below.refl w.heap.size w)
  have H : ((strings_Join.f l0 (⟨#[44, 32]⟩ : ByteArray)).bind fun t117 => (some t117)) = some r := h
  clear h
  replace H := Option.bind_eq_some_iff.mp H
  obtain ⟨t117, A20, H⟩ := H
  replace H : (some t117) = some r := H
  have A2 := Aside0.mk A20
  clear A20
  obtain rfl := Option.some.inj H
  go_enter Tryd.func63, Tryd.ntmps63
  go_wp2_with (first | ((with_reducible refine gate_callee (f := 77) rfl ?_); refine goesL_ (some 4) rfl rfl Tryd.func77 (by kernel_rfl) rfl #[.slice A0 l0.length c0, .string (⟨#[44, 32]⟩ : ByteArray)] rfl (by (try simp only [List.map_toArray, List.map_cons, List.map_nil]); first | done | rfl | (simp only [List.length_drop, List.length_take]; rfl)) ?_; (with_reducible refine (strings_Join.calls _ _ l0 (⟨#[44, 32]⟩ : ByteArray) t117 _ ?side1 ?side2 A2.out).mono ?_); (case side1 => repeat (first | exact HR0.out | (with_reducible refine Kd.C_alloc ?_ _) | (with_reducible refine Kd.C_drewN ?_ _) | (with_reducible refine Kd.C_drew ?_))); (case side2 => exact HC0.out); rintro e w3 ⟨rfl, hb⟩; refine ⟨_, rfl, ?_⟩; have n0_ := Aside0.mk (below_step (by repeat (first | (with_reducible first | exact HB.out | apply below_alloc | apply pw_below_drewN | apply below_drew1) | exact HB.out)) hb); clear HB; have HB := n0_; clear n0_; (try clear hb); (try clear hb2); (try clear hk); (try clear hi)))
  go_ret
  exact ⟨by first | rfl | (simp [errW_none, errW_some] <;> rfl) | (simp [*, errW_none, errW_some] <;> rfl), by repeat (first | (with_reducible first | exact HB.out | apply below_alloc | apply pw_below_drewN | apply below_drew1) | exact HB.out)⟩

end Go.Proofs.YtdiefodncfnfeaaDoor.PR
