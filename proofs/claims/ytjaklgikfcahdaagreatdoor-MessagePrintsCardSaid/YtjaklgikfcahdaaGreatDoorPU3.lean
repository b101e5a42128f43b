-- Halved: the indents of this text are half of the print's.
-- Out of the translation, by a program of this session: each function that a law comes to as a Lean function, and that the machine's call does what it says. Lean checks it.
import Derived.Test.YtjaklgikfcahdaaGreatDoorPU0
import Derived.Test.YtjaklgikfcahdaaGreatDoorPU2
namespace Go.Proofs.YtjaklgikfcahdaaGreatDoor.PU
open Go.RowKit Go.Proofs.YtjaklgikfcahdaaGreatDoorW.PrintWords Go.Proofs.YtjaklgikfcahdaaGreatDoorW.PrintLast Go.Proofs.YtjaklgikfcahdaaGreatDoorW.PrintMore
attribute [local go_sem] max2_int min2_int max_two min_two max_three min_three max_four min_four   -- for this text's walks alone
set_option linter.unusedVariables false
set_option linter.unusedSimpArgs false

/-! ### octet_Same: function 96 -/
def octet_Same.f (a0 : ByteArray) (a1 : ByteArray) : Option (Bool) := if (a0.size : Int) = (a1.size : Int) then ((octet_Lower.f a0).bind fun t127 => ((octet_Lower.f a1).bind fun t128 => (some (t127.toList == t128.toList)))) else (some false)
set_option maxHeartbeats 8000000 in
set_option maxRecDepth 100000 in
theorem octet_Same.calls (a0 : ByteArray) (a1 : ByteArray) (r : Bool) (w : World) (h : octet_Same.f a0 a1 = some r) :
  Calls Tryz.prog 96 #[.string a0, .string a1] w fun e w' => e = .returned (.bool r) ∧ Below w.heap.size w w' := by
 have HB := Aside0.mk (Below.refl w.heap.size w)
 have H : (if (a0.size : Int) = (a1.size : Int) then ((octet_Lower.f a0).bind fun t127 => ((octet_Lower.f a1).bind fun t128 => (some (t127.toList == t128.toList)))) else (some false)) = some r := h
 clear h
 by_cases c3 : (a0.size : Int) = (a1.size : Int)
 ·rw [if_pos c3] at H
  have c3b0 : ((a0.size : Int) == (a1.size : Int)) = true := beq_iff_eq.mpr c3
  have c3b1 : ((a0.size : Int) != (a1.size : Int)) = false := bne_eq_false_iff_eq.mpr c3
  have c3b2 : (a0.size == a1.size) = true := by first | simpa using c3 | (simp at c3 ⊢; omega)
  clear c3
  replace H := Option.bind_eq_some_iff.mp H
  obtain ⟨t127, A40, H⟩ := H
  replace H : ((octet_Lower.f a1).bind fun t128 => (some (t127.toList == t128.toList))) = some r := H
  have A4 := Aside0.mk A40
  clear A40
  replace H := Option.bind_eq_some_iff.mp H
  obtain ⟨t128, A50, H⟩ := H
  replace H : (some (t127.toList == t128.toList)) = some r := H
  have A5 := Aside0.mk A50
  clear A50
  obtain rfl := Option.some.inj H
  go_enter Tryz.func96, Tryz.ntmps96
  go_wp2_with (first | (go_at_call 126; (with_reducible refine (octet_Lower.calls a0 t127 _ A4.out).mono ?_); rintro e w6 ⟨rfl, hb⟩; have n0_ := Aside0.mk (below_step (by repeat (first | (with_reducible first | exact HB.out | apply below_alloc | apply pw_below_drewN | apply below_drew1) | exact HB.out)) hb); clear HB; have HB := n0_; clear n0_; (try clear hb); (try clear hb2); (try clear hk); (try clear hi)) | (go_at_call 126; (with_reducible refine (octet_Lower.calls a1 t128 _ A5.out).mono ?_); rintro e w7 ⟨rfl, hb⟩; have n0_ := Aside0.mk (below_step (by repeat (first | (with_reducible first | exact HB.out | apply below_alloc | apply pw_below_drewN | apply below_drew1) | exact HB.out)) hb); clear HB; have HB := n0_; clear n0_; (try clear hb); (try clear hb2); (try clear hk); (try clear hi)))
  go_ret
  exact ⟨by first | rfl | (simp [errW_none, errW_some] <;> rfl) | (simp [*, errW_none, errW_some] <;> rfl), by repeat (first | (with_reducible first | exact HB.out | apply below_alloc | apply pw_below_drewN | apply below_drew1) | exact HB.out)⟩
 ·rw [if_neg c3] at H
  have c3b0 : ((a0.size : Int) == (a1.size : Int)) = false := beq_eq_false_iff_ne.mpr c3
  have c3b1 : ((a0.size : Int) != (a1.size : Int)) = true := bne_iff_ne.mpr c3
  have c3b2 : (a0.size == a1.size) = false := by first | simpa using c3 | (simp at c3 ⊢; omega)
  obtain rfl := Option.some.inj H
  go_enter Tryz.func96, Tryz.ntmps96
  go_wp2
  go_ret
  exact ⟨by first | rfl | (simp [errW_none, errW_some] <;> rfl) | (simp [*, errW_none, errW_some] <;> rfl), by repeat (first | (with_reducible first | exact HB.out | apply below_alloc | apply pw_below_drewN | apply below_drew1) | exact HB.out)⟩

/-! ### fields_All: function 62: told by hand -/
def fields_is (name : ByteArray) (x : S98) : Bool := decide (octet_Same.f x.f0 name = some true)
def fields_All.f (l0 : List S98) (a1 : ByteArray) : Option (List ByteArray) := if l0.length < 1000000 ∧ ∀ x ∈ l0, (octet_Same.f x.f0 a1).isSome = true then some ((l0.filter (fields_is a1)).map (·.f1)) else none
theorem fields_All_len (l : List S98) (a : ByteArray) (r : List ByteArray) (h : fields_All.f l a = some r) : r.length < 1000000 := by
 unfold fields_All.f at h
 split at h
 case isFalse => cases h
 case isTrue hh =>
  obtain rfl := Option.some.inj h
  rw [List.length_map]
  exact Nat.lt_of_le_of_lt (List.length_filter_le _ _) hh.1
theorem fields_info : (Tryz.prog.info? 98).map (fun i => (i.zero, i.size, i.bytes)) = some (some (.agg #[(.string ⟨#[]⟩), (.string ⟨#[]⟩)]), 2, 32) := by kernel_rfl
theorem fields_infos : (Tryz.prog.info? 9).map (fun i => (i.zero, i.size, i.bytes)) = some (some (.string ⟨#[]⟩), 1, 16) := by kernel_rfl
theorem fields_named1 (x : S98) (b : Nat) (name : ByteArray) (r : Bool) (w : World) (hc : w.cell? ⟨b, 0, none⟩ = some (.string name)) (hl : b < w.heap.size) (h : octet_Same.f x.f0 name = some r) :
  Calls Tryz.prog 125 #[.agg #[.string x.f0, .string x.f1], .pointer (some ⟨b, 0, none⟩)] w fun e w' => e = .returned (.bool r) ∧ Below w.heap.size w w' := by
 have hne : b ≠ w.heap.size := by omega
 go_enter Tryz.func125, Tryz.ntmps125
 go_wp2_with (go_at_call 96; refine (octet_Same.calls x.f0 name r _ h).mono ?_; rintro e w1 ⟨rfl, hb⟩)
 go_ret
 exact ⟨rfl, below_then (Hand.alloc_below _ _) (by simp) hb⟩
set_option maxHeartbeats 1600000 in
theorem fields_chosen_named (A0 : Option Addr) (c0 : Nat) (l0 : List S98) (name : ByteArray) (b : Nat) (w : World) (hr0 : Kd.C k98 w A0 l0.length l0) (hc0 : l0.length ≤ c0) (hn : w.cell? ⟨b, 0, none⟩ = some (.string name)) (hl : b < w.heap.size) (hlen : l0.length < 1000000) (hall : ∀ x ∈ l0, (octet_Same.f x.f0 name).isSome = true) :
  Calls Tryz.prog 94 #[.slice A0 l0.length c0, .func (.func 125) #[] #[.pointer (some ⟨b, 0, none⟩)]] w fun e w' => ∃ v0_ : Value, e = .returned (v0_) ∧ Kd.R k98 98 w' w.heap.size (fun _ => True) v0_ (l0.filter (fields_is name)) ∧ Below w.heap.size w w' := by
 have HR0 := Aside0.mk hr0
 have HN := Aside0.mk hn
 have HALL := Aside0.mk hall
 clear hr0 hn hall
 go_enter Tryz.func94, Tryz.ntmps94
 go_wp2
 go_loopw [5, 10] (fun v5 v10 w' => ∃ n : Nat, n ≤ l0.length ∧ v10 = .int .i64 n ∧ Aside0 (Kd.R k98 98 w' w.heap.size (fun _ => True) v5 ((l0.take n).filter (fields_is name))) ∧ Aside0 (Below w.heap.size w w')) (fun _ v10 _ => l0.length - (intOf v10).toNat)
 case atStart => exact ⟨0, Nat.zero_le _, rfl, ⟨Kd.R_nil _ _ _ _ _⟩, ⟨Below.refl _ _⟩⟩
 case round =>
  obtain ⟨n, hn, rfl, HO, HB⟩ := hrel
  by_cases hlt : n < l0.length
  ·obtain ⟨ad, e0, hx0, hx1⟩ := at_T98 HR0.out n (by omega) (by omega)
   cases e0
   replace hx0 := (HB.out.cell (World.block_lt_of_cell? w _ hx0)).trans hx0
   replace hx1 := (HB.out.cell (World.block_lt_of_cell? w _ hx1)).trans hx1
   rw [Int.toNat_natCast] at hx0 hx1
   have rdn : rd_T98 l0 n = l0[n] := by show l0.getD n _ = _; rw [List.getD_eq_getElem?_getD, List.getElem?_eq_getElem hlt]; rfl
   rw [rdn] at hx0 hx1
   clear rdn
   have htk : l0.take (n + 1) = l0.take n ++ [l0[n]] := by rw [List.take_add_one, List.getElem?_eq_getElem hlt]; rfl
   obtain ⟨t, ht⟩ := Option.isSome_iff_exists.1 (HALL.out l0[n] (List.getElem_mem hlt))
   have hlen2 : ((l0.take n).filter (fields_is name)).length ≤ n := Nat.le_trans (List.length_filter_le _ _) (by rw [List.length_take]; omega)
   generalize hxn : l0[n] = x at hx0 hx1 ht htk
   have HT := Aside0.mk ht
   have HTK := Aside0.mk htk
   clear ht htk
   cases t
   ·go_wp2_with (go_at_call 125; refine (fields_named1 x b name false _ (Hand.cell_below (HB.out.alloc HB.out.size _) HN.out hl) (Nat.lt_of_lt_of_le hl (HB.out.alloc HB.out.size _).size) HT.out).mono ?_; rintro e w1 ⟨rfl, hb⟩; have d0 : w1.cell? ⟨wr.heap.size, 0, none⟩ = some (.string x.f0) := Hand.cell_below hb (by simp [go_sem]) (by simp); have d1 : w1.cell? ⟨wr.heap.size, 1, none⟩ = some (.string x.f1) := Hand.cell_below hb (by simp [go_sem]) (by simp); have HO1 := Aside0.mk (Kd.R_below (Kd.R_alloc HO.out _) hb); have HB1 := Aside0.mk (below_step (HB.out.alloc HB.out.size _) hb); clear HO HB hb)
    go_roundw
    case rel => exact ⟨n + 1, by omega, by go_num, ⟨by rw [HTK.out, List.filter_append, show [x].filter (fields_is name) = [] by simp [fields_is, HT.out], List.append_nil]; exact HO1.out⟩, HB1⟩
    case measure => simp [intOf]; omega
   ·go_wp2_with (first | (go_at_call 125; refine (fields_named1 x b name true _ (Hand.cell_below (HB.out.alloc HB.out.size _) HN.out hl) (Nat.lt_of_lt_of_le hl (HB.out.alloc HB.out.size _).size) HT.out).mono ?_; rintro e w1 ⟨rfl, hb⟩; have d0 : w1.cell? ⟨wr.heap.size, 0, none⟩ = some (.string x.f0) := Hand.cell_below hb (by simp [go_sem]) (by simp); have d1 : w1.cell? ⟨wr.heap.size, 1, none⟩ = some (.string x.f1) := Hand.cell_below hb (by simp [go_sem]) (by simp); have HO1 := Aside0.mk (Kd.R_below (Kd.R_alloc HO.out _) hb); have HB1 := Aside0.mk (below_step (HB.out.alloc HB.out.size _) hb); clear HO HB hb) | (at_builtin; refine Kd.R_append k98 (w0 := w) w.heap.size rfl (.tmp 17) (.tmp 19) 23 98 (.agg #[(.string ⟨#[]⟩), (.string ⟨#[]⟩)]) 32 rfl Tryz.underlying23 fields_info rfl (by decide) (by omega) u5 ((l0.take n).filter (fields_is name)) x [.string x.f0, .string x.f1] (fun _ => True) (fun _ => False) rfl rfl ?aP (fun _ hk => hk.elim) ?aF ?aO ?aB ?aS ?aL ?_; (case aP => exact k98_mkM _ _ _ _); (case aB => exact HB1.out); (case aF => exact (fun _ _ => trivial)); (case aO => exact HO1.out); (case aS => exact HB1.out.size); (case aL => omega); intro v2 w2 ho hb hg hat; have HO2 := Aside0.mk ho; have HB2 := Aside0.mk hb; clear HO1 HB1 ho hb hg hat))
    go_roundw
    case rel => exact ⟨n + 1, by omega, by go_num, ⟨by rw [HTK.out, List.filter_append, show [x].filter (fields_is name) = [x] by simp [fields_is, HT.out]]; exact HO2.out⟩, HB2⟩
    case measure => simp [intOf]; omega
  ·go_wp2
   go_ret
   exact ⟨_, rfl, by rw [List.take_of_length_le (by omega)] at HO; exact HO.out, HB.out⟩
theorem fields_named (name : ByteArray) (w : World) :
  Calls Tryz.prog 95 #[.string name] w fun e w' => (∃ b, e = .returned (.func (.func 125) #[] #[.pointer (some ⟨b, 0, none⟩)]) ∧ w'.cell? ⟨b, 0, none⟩ = some (.string name) ∧ b < w'.heap.size) ∧ Below w.heap.size w w' := by
 go_enter Tryz.func95, Tryz.ntmps95
 go_wp2
 refine bodyPost_ret (v := .func (.func 125) #[] #[.pointer (some ⟨w.heap.size, 0, none⟩)]) (by simp [results, Tryz.results95, go_sem]) rfl ⟨⟨_, rfl, by simp [go_sem], by simp⟩, ?_⟩
 exact (Below.refl _ _).alloc (Nat.le_refl _) _
set_option maxHeartbeats 1600000 in
theorem fields_All.calls (A0 : Option Addr) (c0 : Nat) (l0 : List S98) (a1 : ByteArray) (r : List ByteArray) (w : World) (hr0 : Kd.C k98 w A0 l0.length l0) (hc0 : l0.length ≤ c0) (h : fields_All.f l0 a1 = some r) :
  Calls Tryz.prog 62 #[.slice A0 l0.length c0, .string a1] w fun e w' => ∃ v0_ : Value, e = .returned (v0_) ∧ Kd.R Kd.string 9 w' w.heap.size (fun _ => True) v0_ r ∧ Below w.heap.size w w' := by
 unfold fields_All.f at h
 split at h
 case isFalse => cases h
 case isTrue hh =>
 obtain rfl := Option.some.inj h
 clear h
 obtain ⟨hlen, hall⟩ := hh
 have hfl : (l0.filter (fields_is a1)).length < 1000000 := Nat.lt_of_le_of_lt (List.length_filter_le _ _) hlen
 have HC := fun (w1 : World) (hb : Below w.heap.size w w1) (b : Nat) (hn : w1.cell? ⟨b, 0, none⟩ = some (.string a1)) (hl : b < w1.heap.size) => fields_chosen_named A0 c0 l0 a1 b w1 (Kd.C_below hr0 hb) hc0 hn hl hlen hall
 clear hr0 hall hlen
 generalize l0.filter (fields_is a1) = xs at HC hfl ⊢
 generalize l0.length = n0 at HC hc0 ⊢
 go_enter Tryz.func62, Tryz.ntmps62
 go_wp2_with (first | (go_at_call 95; refine (fields_named a1 _).mono ?_; rintro e w1 ⟨⟨b, rfl, hn, hl⟩, hb1⟩) | (go_at_call 94; refine (HC _ hb1 b hn hl).mono ?_; rintro e w2 ⟨v, rfl, ho, hb2⟩; clear HC hn; obtain ⟨A, c, rfl, hlc, hC⟩ := Kd.R_reads ho; clear ho; have HR := Aside0.mk hC; have HW := Aside0.mk (below_then hb1 hb1.size hb2); clear hC hb1 hb2))
 go_loopw [5, 13] (fun v5 v13 w' => ∃ n : Nat, n ≤ xs.length ∧ v13 = .int .i64 n ∧ Aside0 (Kd.R Kd.string 9 w' w2.heap.size (fun _ => True) v5 ((xs.take n).map (·.f1))) ∧ Aside0 (Below w2.heap.size w2 w')) (fun _ v13 _ => xs.length - (intOf v13).toNat)
 case atStart => exact ⟨0, Nat.zero_le _, rfl, ⟨Kd.R_nil _ _ _ _ _⟩, ⟨Below.refl _ _⟩⟩
 case round =>
  obtain ⟨n, hn, rfl, HO, HB⟩ := hrel
  by_cases hlt : n < xs.length
  ·obtain ⟨ad, e0, hx0, hx1⟩ := at_T98 HR.out n (by omega) (by omega)
   cases e0
   replace hx0 := (HB.out.cell (World.block_lt_of_cell? w2 _ hx0)).trans hx0
   replace hx1 := (HB.out.cell (World.block_lt_of_cell? w2 _ hx1)).trans hx1
   rw [Int.toNat_natCast] at hx0 hx1
   have rdn : rd_T98 xs n = xs[n] := by show xs.getD n _ = _; rw [List.getD_eq_getElem?_getD, List.getElem?_eq_getElem hlt]; rfl
   rw [rdn] at hx0 hx1
   clear rdn
   have htk : (xs.take (n + 1)).map (·.f1) = (xs.take n).map (·.f1) ++ [xs[n].f1] := by rw [List.take_add_one, List.getElem?_eq_getElem hlt, List.map_append]; rfl
   have HTK := Aside0.mk htk
   clear htk
   have hlen2 : ((xs.take n).map (·.f1)).length ≤ n := by rw [List.length_map, List.length_take]; omega
   generalize xs[n] = x at hx0 hx1 HTK
   go_wp2_with (at_builtin; go_loud (refine Kd.R_append Kd.string (w0 := w2) w2.heap.size rfl (.tmp 17) (.tmp 20) 59 9 (.string ⟨#[]⟩) 16 rfl Tryz.underlying59 fields_infos rfl (by decide) (by omega) u5 ((xs.take n).map (·.f1)) x.f1 [.string x.f1] (fun _ => True) (fun _ => False) rfl (by first | rfl | (show Value.slice _ _ _ = Value.slice _ _ _; simp)) ?aP (fun _ hk => hk.elim) ?aF ?aO ?aB ?aS ?aL ?_); (case aP => exact rfl); (case aB => exact HB.out.alloc HB.out.size _); (case aF => exact (fun _ _ => trivial)); (case aO => exact Kd.R_alloc HO.out _); (case aS => exact (HB.out.alloc HB.out.size _).size); (case aL => omega); intro v3 w3 ho hb hg hat; have HO2 := Aside0.mk ho; have HB2 := Aside0.mk hb; clear HO HB ho hb hg hat)
   go_roundw
   case rel => exact ⟨n + 1, by omega, by go_num, ⟨by rw [HTK.out]; exact HO2.out⟩, HB2⟩
   case measure => simp [intOf]; omega
  ·go_wp2
   go_ret
   refine ⟨_, rfl, ?_, below_then HW.out HW.out.size HB.out⟩
   have h1 := HO.out
   rw [List.take_of_length_le (by omega)] at h1
   exact Kd.R_lower h1 HW.out.size

/-! ### decimal_read: function 107: told by hand -/
def readGo (s : ByteArray) (base : Int) : Nat → Int → Nat → Option Int
 | 0, acc, _ => some acc
 | k + 1, acc, i => if Hand.dig (bt s i) base < 0 then none else readGo s base k (wrap64 (wrap64 (acc * base) + Hand.dig (bt s i) base)) (i + 1)
def readEnd (most : Int) : Option Int → Int × Int
 | none => (0, 5)
 | some n => if most < n then (0, 3) else (n, 0)
def readP (s : ByteArray) (base long most : Int) : Int × Int := if s.size = 0 then (0, 5) else if long < s.size then (0, 5) else readEnd most (readGo s base s.size 0 0)
def ReadPost (w : World) (p : Int × Int) (e : Ending) (w' : World) : Prop := e = .returned (.tuple #[.int .i64 p.1, .int .i64 p.2]) ∧ Below w.heap.size w w'
set_option maxHeartbeats 800000 in
theorem read_empty (s : ByteArray) (base long most : Int) (w : World) (h : s.toList = []) : Calls Tryz.prog 107 #[.string s, .int .i64 base, .int .i64 long, .int .i64 most] w (ReadPost w (0, 5)) := by
 go_enter Tryz.func107, Tryz.ntmps107
 go_wp2_with fail
 go_ret2
 exact ⟨rfl, Below.refl _ _⟩
set_option maxHeartbeats 800000 in
theorem read_long (s : ByteArray) (base long most : Int) (w : World) (h : (s.toList == []) = false) (hl : long < (s.size : Int)) : Calls Tryz.prog 107 #[.string s, .int .i64 base, .int .i64 long, .int .i64 most] w (ReadPost w (0, 5)) := by
 go_enter Tryz.func107, Tryz.ntmps107
 go_wp2_with fail
 go_ret2
 exact ⟨rfl, Below.refl _ _⟩
set_option maxHeartbeats 1600000 in
theorem read_loop (s : ByteArray) (base long most : Int) (w : World) (hb : 1 ≤ base) (hb2 : base ≤ 16) (hm : (s.size : Int) ≤ 9223372036854775807) (h : (s.toList == []) = false) (hl : (s.size : Int) ≤ long) :
  Calls Tryz.prog 107 #[.string s, .int .i64 base, .int .i64 long, .int .i64 most] w (ReadPost w (readEnd most (readGo s base s.size 0 0))) := by
 go_enter Tryz.func107, Tryz.ntmps107
 go_wp2_with fail
 go_loopw [10] (fun n w' => ∃ (k : Nat) (acc : Int), k ≤ s.size ∧ w' = w.iter s k ∧ n = .int .i64 acc ∧ Hid (readGo s base (s.size - k) acc k = readGo s base s.size 0 0)) (fun _ w' => s.size - w'.iterPos w.heap.size)
 case atStart => exact ⟨0, 0, Nat.zero_le _, rfl, rfl, Lib.hid rfl⟩
 case round =>
  obtain ⟨k, acc, hk, rfl, rfl, HA⟩ := hrel
  by_cases hp : k < s.size
  ·have hgo : Hid (readGo s base (s.size - k) acc k = if Hand.dig (bt s k) base < 0 then none else readGo s base (s.size - (k + 1)) (wrap64 (wrap64 (acc * base) + Hand.dig (bt s k) base)) (k + 1)) := by
    have e : s.size - k = (s.size - (k + 1)) + 1 := by omega
    show _ = _
    rw [e, readGo]
   have hbt : ((s[k]'hp).toNat : Int) = bt s k := bt_at s (k : Int) hp
   by_cases hneg : Hand.dig (bt s k) base < 0
   ·have hnone : Hid (readGo s base s.size 0 0 = none) := by
     show _ = _
     rw [← HA.out, hgo.out, if_pos hneg]
    clear hgo HA
    obtain ⟨r, p, hr, hnx⟩ : ∃ (r : Int) (p : Nat), Hid (Hand.dig r base < 0) ∧ ∀ ty, (Instr.next (.pointer (some ⟨w.heap.size, 0, none⟩)) true ty).run Tryz.prog (w.iter s k) = .ok (.tuple #[.bool true, .int .i64 k, .int .i32 r]) (w.iter s p) := by
     by_cases ha : (s[k]'hp).toNat < 128
     ·refine ⟨bt s k, k + 1, hneg, fun ty => ?_⟩
      rw [run_next_any w s k ty hp, decode_ascii s k hp ha, ← hbt]
     ·refine ⟨((Utf8.decode s k).1 : Int), _, ?_, fun ty => run_next_any w s k ty hp⟩
      have := (decode_high s k hp (by omega)).1
      show Hand.dig _ _ < 0
      rw [Hand.dig, Hand.dig0, if_neg (by omega), if_neg (by omega), if_neg (by omega)]
      split <;> omega
    have hdv : Hand.dig r base = -1 := by
     have := hr.out
     unfold Hand.dig at this ⊢
     unfold Hand.dig0 at this ⊢
     repeat' split at this
     all_goals (first | omega | (repeat' split) <;> omega)
    have H := Hand.digit_any r base
    rw [hdv] at H
    clear hdv hneg hbt
    go_wp2_with (go_at_call 134; refine (H _ hb hb2).mono ?_; rintro e w' ⟨rfl, rfl⟩; clear H)
    go_ret2
    exact ⟨by rw [hnone.out]; rfl, Hand.below_iter _ _ _⟩
   ·have ha : (s[k]'hp).toNat < 128 := by
     rcases Nat.lt_or_ge (s[k]'hp).toNat 128 with h | h
     ·exact h
     ·exfalso
      apply hneg
      rw [← hbt, Hand.dig, Hand.dig0, if_neg (by omega), if_neg (by omega), if_neg (by omega)]
      split <;> omega
    have hnx : ∀ ty, (Instr.next (.pointer (some ⟨w.heap.size, 0, none⟩)) true ty).run Tryz.prog (w.iter s k) = .ok (.tuple #[.bool true, .int .i64 k, .int .i32 (bt s k)]) (w.iter s (k + 1)) := by
     intro ty
     rw [run_next_any w s k ty hp, decode_ascii s k hp ha, ← hbt]
    have H := Hand.digit_any (bt s k) base
    have hgo2 : Hid (readGo s base (s.size - (k + 1)) (wrap64 (wrap64 (acc * base) + Hand.dig (bt s k) base)) (k + 1) = readGo s base s.size 0 0) := by
     show _ = _
     rw [← HA.out, hgo.out, if_neg hneg]
    have hd0 : 0 ≤ Hand.dig (bt s k) base := by omega
    clear hgo HA hbt hneg
    generalize Hand.dig (bt s k) base = dg at H hgo2 hd0
    go_wp2_with (go_at_call 134; refine (H _ hb hb2).mono ?_; rintro e w' ⟨rfl, rfl⟩; clear H)
    go_roundw
    case rel => exact ⟨k + 1, _, by omega, rfl, rfl, hgo2⟩
    case measure => simp; omega
  ·have hnx : ∀ ty, (Instr.next (.pointer (some ⟨w.heap.size, 0, none⟩)) true ty).run Tryz.prog (w.iter s k) = _ := fun ty => run_next_end w s k ty hp
   have hfin : Hid (readGo s base s.size 0 0 = some acc) := by
    show _ = _
    rw [← HA.out, show s.size - k = 0 by omega]; rfl
   clear HA
   by_cases hgt : most < acc
   ·have hE : Hid (readEnd most (some acc) = (0, 3)) := by show _ = _; simp [readEnd, hgt]
    go_wp2
    go_ret2
    exact ⟨by rw [hfin.out, hE.out]; rfl, Hand.below_iter _ _ _⟩
   ·have hE : Hid (readEnd most (some acc) = (acc, 0)) := by show _ = _; simp [readEnd, hgt]
    go_wp2
    go_ret2
    exact ⟨by rw [hfin.out, hE.out]; rfl, Hand.below_iter _ _ _⟩
def decimal_read.f (a0 : ByteArray) (a1 : Int) (a2 : Int) (a3 : Int) : Option (Int × Int) := if 1 ≤ a1 ∧ a1 ≤ 16 ∧ a0.size ≤ 9223372036854775807 then some (readP a0 a1 a2 a3) else none
theorem decimal_read.calls (a0 : ByteArray) (a1 : Int) (a2 : Int) (a3 : Int) (r1 : Int) (r2 : Int) (w : World) (h : decimal_read.f a0 a1 a2 a3 = some (r1, r2)) :
  Calls Tryz.prog 107 #[.string a0, .int .i64 a1, .int .i64 a2, .int .i64 a3] w fun e w' => e = .returned (.tuple #[.int .i64 r1, .int .i64 r2]) ∧ Below w.heap.size w w' := by
 unfold decimal_read.f at h
 split at h
 case isFalse => cases h
 case isTrue hs =>
  obtain ⟨h1, h2, h3⟩ := hs
  have e := Option.some.inj h
  have fin : Calls Tryz.prog 107 #[.string a0, .int .i64 a1, .int .i64 a2, .int .i64 a3] w (ReadPost w (readP a0 a1 a2 a3)) := by
   unfold readP
   by_cases c1 : a0.size = 0
   ·rw [if_pos c1]
    exact read_empty a0 a1 a2 a3 w (by rw [ByteArray.toList_eq]; exact List.eq_nil_of_length_eq_zero (by rw [data_length]; exact c1))
   ·rw [if_neg c1]
    have hne : (a0.toList == []) = false := by
     rw [ByteArray.toList_eq]
     have : a0.data.toList ≠ [] := fun e => c1 (by rw [← data_length, e]; rfl)
     simpa using this
    by_cases c2 : a2 < a0.size
    ·rw [if_pos c2]
     exact read_long a0 a1 a2 a3 w hne c2
    ·rw [if_neg c2]
     exact read_loop a0 a1 a2 a3 w h1 h2 (by omega) hne (by omega)
  rw [e] at fin
  exact fin

/-! ### decimal_Number: function 75 -/
def decimal_Number.f (a0 : ByteArray) (a1 : Int) : Option (Int × Int) := (decimal_read.f a0 10 18 a1).bind fun bt129 => (some (bt129.1, bt129.2))
set_option maxHeartbeats 8000000 in
set_option maxRecDepth 100000 in
theorem decimal_Number.calls (a0 : ByteArray) (a1 : Int) (r1 : Int) (r2 : Int) (w : World) (h : decimal_Number.f a0 a1 = some (r1, r2)) :
  Calls Tryz.prog 75 #[.string a0, .int .i64 a1] w fun e w' => e = .returned (.tuple #[.int .i64 r1, .int .i64 r2]) ∧ Below w.heap.size w w' := by
 have HB := Aside0.mk (Below.refl w.heap.size w)
 have H : ((decimal_read.f a0 10 18 a1).bind fun bt129 => (some (bt129.1, bt129.2))) = some (r1, r2) := h
 clear h
 replace H := Option.bind_eq_some_iff.mp H
 obtain ⟨⟨t129, t130⟩, A30, H⟩ := H
 replace H : (some (t129, t130)) = some (r1, r2) := H
 have A3 := Aside0.mk A30
 clear A30
 simp only [Option.some.injEq, Prod.mk.injEq] at H
 obtain ⟨rfl, rfl⟩ := H
 go_enter Tryz.func75, Tryz.ntmps75
 go_wp2_with (first | ((with_reducible refine gate_callee (f := 107) rfl ?_); refine goesL_ (some 8) rfl rfl Tryz.func107 (by kernel_rfl) rfl #[.string a0, .int .i64 10, .int .i64 18, .int .i64 a1] rfl (by (try simp only [List.map_toArray, List.map_cons, List.map_nil]); first | done | rfl | (simp only [List.length_drop, List.length_take]; rfl)) ?_; (with_reducible refine (decimal_read.calls a0 10 18 a1 t129 t130 _ A3.out).mono ?_); rintro e w4 ⟨rfl, hb⟩; refine ⟨_, rfl, ?_⟩; have n0_ := Aside0.mk (below_step (by repeat (first | (with_reducible first | exact HB.out | apply below_alloc | apply pw_below_drewN | apply below_drew1) | exact HB.out)) hb); clear HB; have HB := n0_; clear n0_; (try clear hb); (try clear hb2); (try clear hk); (try clear hi)))
 go_ret2
 exact ⟨by first | rfl | (simp [errW_none, errW_some] <;> rfl) | (simp [*, errW_none, errW_some] <;> rfl), by repeat (first | (with_reducible first | exact HB.out | apply below_alloc | apply pw_below_drewN | apply below_drew1) | exact HB.out)⟩

/-! ### items_Split: function 98: told by hand -/
/-- A piece, its blanks off, if anything is left. -/
def itemsTake (s : ByteArray) (fr hi : Nat) (out : List ByteArray) : List ByteArray :=
 if Lib.trimS (s.extract fr hi).data.toList [32, 9] = [] then out else out ++ [⟨(Lib.trimS (s.extract fr hi).data.toList [32, 9]).toArray⟩]
/-- A byte's turn: its place, where the piece began, are we in a quoted text. -/
def itemsGo (s : ByteArray) : Nat → Nat → Nat → Bool → List ByteArray → List ByteArray × Int
 | 0, _, _, _, _ => ([], 5)
 | k + 1, i, fr, q, out =>
  if i < s.size then
   (if bt s i = 34 then itemsGo s k (i + 1) fr (!q) out
   else if bt s i = 92 ∧ q = true then itemsGo s k (i + 2) fr q out
   else if bt s i = 44 ∧ q = false then itemsGo s k (i + 1) (i + 1) q (itemsTake s fr i out)
   else itemsGo s k (i + 1) fr q out)
  else if q = true then ([], 5) else (itemsTake s fr s.size out, 0)
def items_Split.f (a0 : ByteArray) : Option (List ByteArray × Int) := if a0.size < 1000000 then some (itemsGo a0 (a0.size + 2) 0 0 false []) else none
structure SpAt (w : World) (s : ByteArray) (fr : Nat) (out : List ByteArray) (b1 b5 b4 : Nat) (W : World) : Prop where
 k1 : W.heap[b1]? = some (.cells #[.string s] 9 (0, 0))
 k5 : W.heap[b5]? = some (.cells #[.int .i64 fr] 3 (0, 0))
 k4 : ∃ v, W.heap[b4]? = some (.cells #[v] 59 (0, 0)) ∧ Kd.R Kd.string 9 W w.heap.size (fun k => k ≠ b1) v out
 hb : Below w.heap.size w W
 h1 : w.heap.size ≤ b1
 h5 : w.heap.size ≤ b5
 h4 : w.heap.size ≤ b4
theorem SpAt.below {w W W' : World} {s : ByteArray} {fr b1 b5 b4 : Nat} {out : List ByteArray} (h : SpAt w s fr out b1 b5 b4 W) (hb : Below W.heap.size W W') : SpAt w s fr out b1 b5 b4 W' := by
 obtain ⟨v, hk, hr⟩ := h.k4
 exact ⟨blk_below h.k1 hb, blk_below h.k5 hb, ⟨v, blk_below hk hb, Kd.R_below hr hb⟩, below_step h.hb hb, h.h1, h.h5, h.h4⟩
theorem SpAt.from_ {w W : World} {s : ByteArray} {fr b1 b5 b4 : Nat} {out : List ByteArray} (h : SpAt w s fr out b1 b5 b4 W) (hi : Nat) : SpAt w s hi out b1 b5 b4 (W.setCell ⟨b5, 0, none⟩ (.int .i64 hi)) := by
 obtain ⟨v, hk, hr⟩ := h.k4
 have n1 : b1 ≠ b5 := blk_ne h.k1 h.k5 (by decide)
 have n4 : b4 ≠ b5 := blk_ne hk h.k5 (by decide)
 exact ⟨blk_far h.k1 n1 _, blk_put h.k5 0 _ rfl, ⟨v, blk_far hk n4 _, Kd.R_set hr h.k5 (by decide) 0 _⟩, h.hb.setCell h.h5 _, h.h1, h.h5, h.h4⟩
theorem SpAt.put {w W W' : World} {s : ByteArray} {fr b1 b5 b4 : Nat} {out out' : List ByteArray} {v : Value} (h : SpAt w s fr out b1 b5 b4 W) (hv : W.heap[b4]? = some (.cells #[v] 59 (0, 0))) (hr : Kd.R Kd.string 9 W w.heap.size (fun k => k ≠ b1) v out) (hg : W.grownBy W' v.ownBlock) (hb : Below w.heap.size w W') {v' : Value} (hr' : Kd.R Kd.string 9 W' w.heap.size (fun k => k ≠ b1) v' out') : SpAt w s fr out' b1 b5 b4 (W'.setCell ⟨b4, 0, none⟩ v') := by
 have e1 : some b1 ≠ v.ownBlock := fun e => hr.1 b1 e.symm rfl
 have k1 := blk_grown h.k1 hg e1
 have k5 := blk_grown h.k5 hg (Kd.R_ne hr h.k5 (by decide))
 have k4 := blk_grown hv hg (Kd.R_ne hr hv (by decide))
 have n1 : b1 ≠ b4 := blk_ne k1 k4 (by decide)
 have n5 : b5 ≠ b4 := blk_ne k5 k4 (by decide)
 exact ⟨blk_far k1 n1 _, blk_far k5 n5 _, ⟨v', blk_put k4 0 _ rfl, Kd.R_set hr' k4 (by decide) 0 _⟩, hb.setCell h.h4 _, h.h1, h.h5, h.h4⟩
theorem isEmpty_arr (l : List UInt8) : ((⟨l.toArray⟩ : ByteArray) = ⟨#[]⟩) ↔ l = [] := by
 constructor
 ·intro h
  have := congrArg (fun x => x.data.toList) h
  exact this
 ·rintro rfl; rfl
set_option maxHeartbeats 1600000 in
theorem items_take (w : World) (s : ByteArray) (fr hi : Nat) (out : List ByteArray) (b1 b5 b4 : Nat) (W : World) (h : SpAt w s fr out b1 b5 b4 W) (h1 : fr ≤ hi) (h2 : hi ≤ s.size) (hs : s.size < 1000000) (ho : out.length < 2000000) :
  Calls Tryz.prog 130 #[.int .i64 hi, .pointer (some ⟨b1, 0, none⟩), .pointer (some ⟨b5, 0, none⟩), .pointer (some ⟨b4, 0, none⟩)] W fun e w' => e = .returned (.tuple #[]) ∧ SpAt w s (hi + 1) (itemsTake s fr hi out) b1 b5 b4 w' := by
 have H := Aside0.mk h
 have c1 := blk_cell h.k1 0
 have c5 := blk_cell h.k5 0
 have g1 : (fr : Int) ≤ hi := by omega
 have g2 : (hi : Int) ≤ s.size := by omega
 have g3 : (0 : Int) ≤ fr := by omega
 have g4 : (0 : Int) ≤ hi := by omega
 have ht : octet_Trim.f (s.extract fr hi) = some ⟨(Lib.trimS (s.extract fr hi).data.toList [32, 9]).toArray⟩ := if_pos (by rw [ByteArray.size_extract]; omega)
 have HTR := fun (W : World) => octet_Trim.calls (s.extract fr hi) _ W ht
 by_cases he : Lib.trimS (s.extract fr hi).data.toList [32, 9] = []
 ·have hit : itemsTake s fr hi out = out := if_pos he
  rw [hit]
  rw [he] at HTR
  clear h ht he hit
  go_enter Tryz.func130, Tryz.ntmps130
  go_wp2_with (go_at_call 93; refine (HTR _).mono ?_; rintro e w1 ⟨rfl, hb⟩; have H1 := Aside0.mk (H.out.below hb); have z5 := blk_cell H1.out.k5 0; have y5 := blk_frozen H1.out.k5 0; clear H c1 c5 hb)
  go_end0
  have hh := H1.out.from_ (hi + 1)
  rw [show ((hi + 1 : Nat) : Int) = (hi : Int) + 1 by omega] at hh
  exact ⟨rfl, hh⟩
 ·have hit : itemsTake s fr hi out = out ++ [⟨(Lib.trimS (s.extract fr hi).data.toList [32, 9]).toArray⟩] := if_neg he
  rw [hit]
  have hne2 : ¬ (⟨(Lib.trimS (s.extract fr hi).data.toList [32, 9]).toArray⟩ : ByteArray).toList = [] := by rw [ByteArray.toList_eq]; exact he
  generalize (⟨(Lib.trimS (s.extract fr hi).data.toList [32, 9]).toArray⟩ : ByteArray) = pt at HTR hne2 ⊢
  have hne3 : pt.toList.isEmpty = false := by cases hq : pt.toList with
   | nil => exact absurd hq hne2
   | cons a l => rfl
  clear h ht he hit hne2
  go_enter Tryz.func130, Tryz.ntmps130
  go_wp2_with (first | (go_at_call 93; refine (HTR _).mono ?_; rintro e w1 ⟨rfl, hb⟩; have H1 := Aside0.mk (H.out.below hb); obtain ⟨v, hk, hr⟩ := H1.out.k4; have HK := Aside0.mk hk; have HR := Aside0.mk hr; obtain ⟨A, c, rfl⟩ := Kd.R_slice hr; have z4 := blk_cell hk 0; have hlt1 := blk_lt H1.out.k1; clear H c1 c5 hb hk hr) | (at_builtin; go_loud ((refine Kd.R_append Kd.string (w0 := w) w.heap.size rfl (.tmp 13) (.tmp 15) 59 9 (.string ⟨#[]⟩) 16 rfl Tryz.underlying59 fields_infos rfl (by decide) (by omega) (.slice A out.length c) out pt [.string pt] (fun k => k ≠ b1) (fun _ => False) rfl rfl ?aP (fun _ hk => hk.elim) ?aF ?aO ?aB ?aS ?aL ?_); (case aP => exact rfl); (case aB => exact H1.out.hb); (case aF => exact (fun k hk => by omega)); (case aO => exact HR.out); (case aS => exact H1.out.hb.size); (case aL => omega); intro v2 w2 ho2 hb2 hg2 hat2; obtain ⟨A2, c2, rfl⟩ := Kd.R_slice ho2; have H2 := Aside0.mk (SpAt.put H1.out HK.out HR.out hg2 hb2 ho2); have k4 := blk_grown HK.out hg2 (Kd.R_ne HR.out HK.out (by decide)); have k5 := blk_grown H1.out.k5 hg2 (Kd.R_ne HR.out H1.out.k5 (by decide)); have x4 := blk_cell k4 0; have f4 := blk_frozen k4 0; have n45 := blk_ne k4 k5 (by decide); have x5 := blk_cell k5 0; have f5 := blk_frozen k5 0; clear H1 HK HR z4 ho2 hb2 hg2 hat2 k4 k5)))
  go_end0
  have hh := H2.out.from_ (hi + 1)
  rw [show ((hi + 1 : Nat) : Int) = (hi : Int) + 1 by omega, show (out ++ [pt]).length = out.length + 1 by simp] at hh
  exact ⟨rfl, hh⟩
set_option maxHeartbeats 3200000 in
set_option maxRecDepth 100000 in
theorem items_Split.calls (a0 : ByteArray) (r1 : List ByteArray) (r2 : Int) (w : World) (h : items_Split.f a0 = some (r1, r2)) :
  Calls Tryz.prog 98 #[.string a0] w fun e w' => ∃ v0_ : Value, e = .returned (.tuple #[v0_, .int .i64 r2]) ∧ Kd.R Kd.string 9 w' w.heap.size (fun _ => True) v0_ r1 ∧ Below w.heap.size w w' := by
 unfold items_Split.f at h
 split at h
 case isFalse => cases h
 case isTrue hs =>
 have HRES := Aside0.mk (Option.some.inj h)
 clear h
 go_enter Tryz.func98, Tryz.ntmps98
 go_wp2; (try (go_step3; go_wp2)); (try (go_step3; go_wp2))
 have hb1 := Hand.alloc_below w (.cells #[.string a0] 9)
 have S0 : Aside0 (SpAt w a0 0 [] w.heap.size (w.heap.size + 1 + 1) (w.heap.size + 1) (((w.alloc (.cells #[.string a0] 9)).alloc (.cells #[.slice none 0 0] 59)).alloc (.cells #[.int .i64 0] 3))) := by
  have e1 := blk_new w (.cells #[.string a0] 9)
  have e2 := blk_new (w.alloc (.cells #[.string a0] 9)) (.cells #[.slice none 0 0] 59)
  have e3 := blk_new ((w.alloc (.cells #[.string a0] 9)).alloc (.cells #[.slice none 0 0] 59)) (.cells #[.int .i64 0] 3)
  rw [show (w.alloc (.cells #[.string a0] 9)).heap.size = w.heap.size + 1 by simp] at e2
  rw [show ((w.alloc (.cells #[.string a0] 9)).alloc (.cells #[.slice none 0 0] 59)).heap.size = w.heap.size + 1 + 1 by simp] at e3
  exact ⟨blk_alloc (blk_alloc e1 _) _, e3, ⟨_, blk_alloc e2 _, Kd.R_nil _ _ _ _ _⟩, ((hb1.alloc hb1.size _).alloc (by simp; omega) _), Nat.le_refl _, by omega, by omega⟩
 clear hb1
 generalize ((w.alloc (.cells #[.string a0] 9)).alloc (.cells #[.slice none 0 0] 59)).alloc (.cells #[.int .i64 0] 3) = W0 at S0 ⊢
 go_loopw [7, 8] (fun v7 v8 wx => ∃ (i fr kf : Nat) (q : Bool) (out : List ByteArray), v7 = .bool q ∧ v8 = .int .i64 i ∧ i ≤ a0.size + 1 ∧ fr ≤ i ∧ fr ≤ a0.size ∧ out.length ≤ i ∧ a0.size + 1 < kf + i ∧ Aside0 (SpAt w a0 fr out w.heap.size (w.heap.size + 1 + 1) (w.heap.size + 1) wx) ∧ Aside0 (itemsGo a0 kf i fr q out = (r1, r2))) (fun _ v8 _ => a0.size + 2 - (intOf v8).toNat)
 case atStart => exact ⟨0, 0, a0.size + 2, false, [], rfl, rfl, Nat.zero_le _, Nat.le_refl _, Nat.zero_le _, Nat.le_refl _, by omega, S0, HRES⟩
 case round =>
  clear S0 HRES
  obtain ⟨i, fr, kf, q, out, rfl, rfl, hi, hfi, hfs, ho, hk, HS, HG⟩ := hrel
  have c1 := blk_cell HS.out.k1 0
  by_cases hlt : i < a0.size
  ·obtain ⟨kf, rfl⟩ : ∃ m, kf = m + 1 := ⟨kf - 1, by omega⟩
   have hg := HG.out
   rw [itemsGo, if_pos hlt] at hg
   have hbt : bt a0 (i : Int) = ((a0[i]'hlt).toNat : Int) := (bt_at a0 (i : Int) (by omega)).symm
   rw [hbt] at hg
   clear hbt HG
   have HG2 := Aside0.mk hg
   clear hg
   by_cases h34 : ((a0[i]'hlt).toNat : Int) = 34
   ·have e34 : (((a0[i]'hlt).toNat : Int) == 34) = true := beq_iff_eq.2 h34
    have hg := HG2.out
    rw [if_pos h34] at hg
    have HG3 := Aside0.mk hg
    clear hg HG2 h34
    go_wp2
    go_roundw
    case rel => exact ⟨i + 1, fr, kf, !q, out, by simp, by go_num, by omega, by omega, hfs, by omega, by omega, HS, HG3⟩
    case measure => simp [intOf]; omega
   ·have e34 : (((a0[i]'hlt).toNat : Int) == 34) = false := beq_eq_false_iff_ne.2 h34
    have hg := HG2.out
    rw [if_neg h34] at hg
    clear HG2
    by_cases h92 : ((a0[i]'hlt).toNat : Int) = 92
    ·have e92 : (((a0[i]'hlt).toNat : Int) == 92) = true := beq_iff_eq.2 h92
     have e44 : (((a0[i]'hlt).toNat : Int) == 44) = false := beq_eq_false_iff_ne.2 (by omega)
     cases q
     ·rw [if_neg (by simp), if_neg (by omega)] at hg
      have HG3 := Aside0.mk hg
      clear hg h34 h92
      go_wp2
      go_roundw
      case rel => exact ⟨i + 1, fr, kf, false, out, rfl, by go_num, by omega, by omega, hfs, by omega, by omega, HS, HG3⟩
      case measure => simp [intOf]; omega
     ·rw [if_pos ⟨h92, rfl⟩] at hg
      have HG3 := Aside0.mk hg
      clear hg h34 h92
      go_wp2
      go_roundw
      case rel => exact ⟨i + 2, fr, kf, true, out, rfl, by go_num, by omega, by omega, hfs, by omega, by omega, HS, HG3⟩
      case measure => simp [intOf]; omega
    ·have e92 : (((a0[i]'hlt).toNat : Int) == 92) = false := beq_eq_false_iff_ne.2 h92
     rw [if_neg (fun h => h92 h.1)] at hg
     by_cases h44 : ((a0[i]'hlt).toNat : Int) = 44
     ·have e44 : (((a0[i]'hlt).toNat : Int) == 44) = true := beq_iff_eq.2 h44
      cases q
      ·rw [if_pos ⟨h44, rfl⟩] at hg
       have HG3 := Aside0.mk hg
       have HTK := items_take w a0 fr i out _ _ _ wr HS.out hfi (by omega) hs (by omega)
       have hol : (itemsTake a0 fr i out).length ≤ i + 1 := by unfold itemsTake; split; omega; simp; omega
       clear hg h34 h92 h44
       go_wp2_with (go_at_call 130; refine HTK.mono ?_; rintro e w4 ⟨rfl, hs4⟩; have HS4 := Aside0.mk hs4; clear HS HTK hs4)
       go_roundw
       case rel => exact ⟨i + 1, i + 1, kf, false, itemsTake a0 fr i out, rfl, by go_num, by omega, Nat.le_refl _, by omega, hol, by omega, HS4, HG3⟩
       case measure => simp [intOf]; omega
      ·rw [if_neg (by simp)] at hg
       have HG3 := Aside0.mk hg
       clear hg h34 h92 h44
       go_wp2
       go_roundw
       case rel => exact ⟨i + 1, fr, kf, true, out, rfl, by go_num, by omega, by omega, hfs, by omega, by omega, HS, HG3⟩
       case measure => simp [intOf]; omega
     ·have e44 : (((a0[i]'hlt).toNat : Int) == 44) = false := beq_eq_false_iff_ne.2 h44
      rw [if_neg (fun h => h44 h.1)] at hg
      have HG3 := Aside0.mk hg
      clear hg h34 h92 h44
      go_wp2
      go_roundw
      case rel => exact ⟨i + 1, fr, kf, q, out, rfl, by go_num, by omega, by omega, hfs, by omega, by omega, HS, HG3⟩
      case measure => simp [intOf]; omega
  ·obtain ⟨kf, rfl⟩ : ∃ m, kf = m + 1 := ⟨kf - 1, by omega⟩
   have hg := HG.out
   rw [itemsGo, if_neg hlt] at hg
   clear HG
   cases q
   ·rw [if_neg (by simp)] at hg
    have HG3 := Aside0.mk hg
    have HTK := items_take w a0 fr a0.size out _ _ _ wr HS.out hfs (Nat.le_refl _) hs (by omega)
    clear hg
    go_wp2_with (go_at_call 130; refine HTK.mono ?_; rintro e w4 ⟨rfl, hs4⟩; obtain ⟨v, hk4, hr4⟩ := hs4.k4; have HR4 := Aside0.mk hr4; have HB4 := Aside0.mk hs4.hb; have z4 := blk_cell hk4 0; clear HS HTK hs4 hk4 hr4)
    (try rw [Exit.noGoto_ret]); go_ret2
    obtain ⟨rfl, rfl⟩ : itemsTake a0 fr a0.size out = r1 ∧ 0 = r2 := by simpa using HG3.out
    exact ⟨_, rfl, Kd.R_mono HR4.out (fun _ _ => trivial), HB4.out⟩
   ·rw [if_pos rfl] at hg
    obtain ⟨rfl, rfl⟩ : [] = r1 ∧ 5 = r2 := by simpa using hg
    clear hg
    go_wp2
    (try rw [Exit.noGoto_ret]); go_ret2
    exact ⟨_, rfl, Kd.R_nil _ _ _ _ _, HS.out.hb⟩

end Go.Proofs.YtjaklgikfcahdaaGreatDoor.PU
