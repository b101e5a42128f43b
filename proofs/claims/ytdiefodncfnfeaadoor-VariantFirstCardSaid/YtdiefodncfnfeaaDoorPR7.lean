-- Out of the translation, by a program of this session: each function that a law comes to as a Lean function, and that the machine's call does what it says. Lean checks it.
import Derived.Test.YtdiefodncfnfeaaDoorPR0
import Derived.Test.YtdiefodncfnfeaaDoorPR6
namespace Go.Proofs.YtdiefodncfnfeaaDoor.PR
open Go.RowKit Go.Proofs.YtdiefodncfnfeaaDoorW.PrintWords Go.Proofs.YtdiefodncfnfeaaDoorW.PrintLast Go.Proofs.YtdiefodncfnfeaaDoorW.PrintMore
attribute [local go_sem] max2_int min2_int max_two min_two max_three min_three max_four min_four   -- for this text's walks alone
set_option linter.unusedVariables false
set_option linter.unusedSimpArgs false

/-! ### vary_pick: function 42: told by hand -/
def pick_map (k : Nat) : List ByteArray → Option (List ByteArray)
  | [] => some []
  | x :: l => (vary_single.f k x).bind fun y => (pick_map k l).bind fun r => some (y :: r)
def vary_pick.f (k : Nat) (a0 : ByteArray) (l1 : List S62) : Option (ByteArray × Bool × ByteArray) :=
  (fields_All.f l1 a0).bind fun v => (pick_map k v).bind fun s => (items_Join.f s).bind fun j => some (a0, decide (0 < v.length), j)
theorem pick_map_mono : ∀ (k : Nat) (l : List ByteArray), LeO (pick_map k l) (pick_map (k + 1) l)
  | k, [] => LeO.refl _
  | k, x :: l => by
    show LeO ((vary_single.f k x).bind fun y => (pick_map k l).bind fun r => some (y :: r)) ((vary_single.f (k + 1) x).bind fun y => (pick_map (k + 1) l).bind fun r => some (y :: r))
    exact LeO.bind (vary_single.mono _ k) fun _ => LeO.bind (pick_map_mono k l) fun _ => LeO.refl _
theorem vary_pick.mono : ∀ a0 l1 k, LeO (vary_pick.f k a0 l1) (vary_pick.f (k + 1) a0 l1) := fun a0 l1 k => by
  unfold vary_pick.f
  exact LeO.bind (LeO.refl _) fun _ => LeO.bind (pick_map_mono k _) fun _ => LeO.refl _
theorem pick_map_len (k : Nat) : ∀ (l r : List ByteArray), pick_map k l = some r → r.length = l.length
  | [], r, h => by obtain rfl := Option.some.inj h; rfl
  | x :: l, r, h => by
    obtain ⟨y, h1, h⟩ := Option.bind_eq_some_iff.1 h
    obtain ⟨r2, h2, h⟩ := Option.bind_eq_some_iff.1 h
    obtain rfl := Option.some.inj h
    simp [pick_map_len k l r2 h2]
theorem pick_map_at (k : Nat) : ∀ (l r : List ByteArray), pick_map k l = some r → ∀ (n : Nat) (h1 : n < l.length) (h2 : n < r.length), vary_single.f k l[n] = some r[n]
  | [], r, h, n, h1, h2 => absurd h1 (Nat.not_lt_zero _)
  | x :: l, r, h, n, h1, h2 => by
    obtain ⟨y, e1, h⟩ := Option.bind_eq_some_iff.1 h
    obtain ⟨r2, e2, h⟩ := Option.bind_eq_some_iff.1 h
    obtain rfl := Option.some.inj h
    cases n with
    | zero => exact e1
    | succ n => exact pick_map_at k l r2 e2 n (by simpa using h1) (by simpa using h2)
theorem row_addr {w : World} {base e size n c : Nat} {A : Option Addr} {inner : List Value} (h : w.ownsRow base e size (.slice A n c) n inner) (hn : n ≠ 0) : ∃ g, A = some ⟨g, 0, none⟩ ∧ base ≤ g := by
  rcases h.2 with ⟨_, h0⟩ | ⟨g, cap, cur, hv, hg, _⟩
  · exact absurd h0 hn
  · injection hv with h1 h2 h3
    exact ⟨g, h1, hg⟩
set_option maxHeartbeats 3200000 in
set_option maxRecDepth 100000 in
theorem vary_pick.calls (k : Nat) (a0 : ByteArray) (A1 : Option Addr) (c1 : Nat) (l1 : List S62) (r1 : ByteArray) (r2 : Bool) (r3 : ByteArray) (w : World) (HT : Aside0 (Hand.Laid w)) (hr1 : Kd.C k62 w A1 l1.length l1) (hc1 : l1.length ≤ c1) (h : vary_pick.f k a0 l1 = some (r1, r2, r3)) :
    Calls Tryd.prog 42 #[.string a0, .slice A1 l1.length c1] w fun e w' => e = .returned (.agg #[.string r1, .bool r2, .string r3]) ∧ Below w.heap.size w w' := by
  unfold vary_pick.f at h
  obtain ⟨xs, hx, h⟩ := Option.bind_eq_some_iff.1 h
  obtain ⟨ss, hs, h⟩ := Option.bind_eq_some_iff.1 h
  obtain ⟨j, hj, h⟩ := Option.bind_eq_some_iff.1 h
  obtain ⟨rfl, rfl, rfl⟩ : a0 = r1 ∧ decide (0 < xs.length) = r2 ∧ j = r3 := by simpa using h
  clear h
  have hlen := pick_map_len k xs ss hs
  have hx0 := fields_All_len _ _ _ hx
  have HS := pick_map_at k xs ss hs
  clear hs
  have hbA : Below w.heap.size w (w.alloc (.cells #[.string ⟨#[]⟩, .bool false, .string ⟨#[]⟩] 53)) := Hand.alloc_below _ _
  have HA := fields_All.calls A1 c1 l1 a0 xs _ (Kd.C_below hr1 hbA) hc1 hx
  have HJ := fun (w : World) (A : Option Addr) (c : Nat) (hr : Kd.C Kd.string w A ss.length ss) (hc : ss.length ≤ c) => items_Join.calls A c ss j w hr hc hj
  clear hr1 hx hj hbA
  generalize l1.length = n1 at HA hc1 ⊢
  have HSA := Aside0.mk HS
  have HJA := Aside0.mk HJ
  clear HS HJ
  go_enter Tryd.func42, Tryd.ntmps42
  go_wp2_with (go_at_call 61; refine HA.mono ?_; rintro e w2 ⟨v, rfl, ho, hb2⟩; clear HA; have HK := Aside0.mk (blk_below (blk_new w (.cells #[.string ⟨#[]⟩, .bool false, .string ⟨#[]⟩] 53)) hb2); have HB2 := Aside0.mk (below_then (Hand.alloc_below w (.cells #[.string ⟨#[]⟩, .bool false, .string ⟨#[]⟩] 53)) (by simp) hb2); obtain ⟨A, c, rfl⟩ := Kd.R_slice ho; have HO2 := Aside0.mk ho; clear ho hb2)
  go_loopw [13] (fun v13 w' => ∃ n : Nat, n ≤ xs.length ∧ v13 = .int .i64 n ∧ Aside0 (Kd.R Kd.string 9 w' (w.heap.size + 1) (fun _ => True) (.slice A xs.length c) (ss.take n ++ xs.drop n)) ∧ Aside0 (w'.heap[w.heap.size]? = some (.cells #[.string ⟨#[]⟩, .bool false, .string ⟨#[]⟩] 53 (0, 0))) ∧ Aside0 (Below w.heap.size w w')) (fun v13 _ => xs.length - (intOf v13).toNat)
  case atStart => exact ⟨0, Nat.zero_le _, rfl, ⟨by simpa using HO2.out⟩, HK, HB2⟩
  case round =>
    clear HK HB2 HO2
    obtain ⟨n, hn, rfl, HO, HK, HB⟩ := hrel
    have hol := Kd.own_of_R HO.out
    have hzl : (ss.take n ++ xs.drop n).length = xs.length := by rw [List.length_append, List.length_take, List.length_drop]; omega
    rw [hzl] at hol
    by_cases hlt : n < xs.length
    · obtain ⟨g, rfl, hg⟩ := row_addr hol (by omega)
      clear hol
      have hrd : rdOf ByteArray.empty (ss.take n ++ xs.drop n) (n : Int) = xs[n] := by
        show (ss.take n ++ xs.drop n).getD n _ = _
        rw [List.getD_eq_getElem?_getD, List.getElem?_append_right (by rw [List.length_take]; omega), List.length_take, List.getElem?_drop, show n + (n - min n ss.length) = n by omega, List.getElem?_eq_getElem hlt]; rfl
      have hset : (ss.take n ++ xs.drop n).set n (ss[n]'(by omega)) = ss.take (n + 1) ++ xs.drop (n + 1) := by
        rw [List.set_append_right _ _ (by rw [List.length_take]; omega), List.length_take, show n - min n ss.length = 0 by omega, List.drop_eq_getElem_cons hlt, List.set_cons_zero, show ss.take (n + 1) = ss.take n ++ [ss[n]'(by omega)] by rw [List.take_add_one, List.getElem?_eq_getElem (by omega)]; rfl, List.append_assoc]
        rfl
      have hsn := HSA.out n hlt (by omega)
      have hc0 := (Kd.R_celln ByteArray.empty HO.out (n : Int) (by omega) (by omega)).1
      rw [hrd, Int.toNat_natCast] at hc0
      have RST := fun (w3 : World) (hb : Below wr.heap.size wr w3) => Kd.R_celln ByteArray.empty (Kd.R_below HO.out hb) (n : Int) (by omega) (by omega)
      have HSET := Aside0.mk hset
      clear hset hrd
      generalize xs[n] = x at hc0 hsn
      generalize ss[n]'(by omega) = y at hsn HSET
      have HSN := Aside0.mk hsn
      clear hsn
      go_wp2_with (go_at_call 62; refine (vary_single.calls k x y _ ⟨HT.out.below HB.out⟩ HSN.out).mono ?_; rintro e w3 ⟨rfl, hb⟩; obtain ⟨hc3, hf3⟩ := RST _ hb; rw [Int.toNat_natCast] at hc3 hf3; clear RST; have HO3 := Aside0.mk (Kd.R_below HO.out hb); have HK3 := Aside0.mk (blk_below HK.out hb); have HB3 := Aside0.mk (below_step HB.out hb); clear HO HK HB hb)
      go_roundw
      case rel =>
        refine ⟨n + 1, by omega, by go_num, ⟨?_⟩, ⟨?_⟩, ⟨?_⟩⟩
        · have h9 := Kd.R_putn HO3.out (n : Int) y
          rw [Int.toNat_natCast, HSET.out] at h9
          exact h9
        · exact blk_far HK3.out (by show w.heap.size ≠ g; omega) _
        · exact HB3.out.setCell (by show w.heap.size ≤ g; omega) _
      case measure => simp [intOf]; omega
    · have hss : ss.take n ++ xs.drop n = ss := by rw [List.take_of_length_le (by omega), List.drop_of_length_le (by omega), List.append_nil]
      have h8 := HO.out
      rw [hss] at h8
      obtain ⟨A', c', he, hl', hC⟩ := Kd.R_reads h8
      obtain ⟨rfl, rfl⟩ : A = A' ∧ c = c' := by injection he with h1 h2 h3; exact ⟨h1, h3⟩
      have HJ := HJA.out wr A c hC hl'
      rw [hlen] at HJ
      clear hC he h8 hol hl' hss hzl hlen
      have k0 := fun (w3 : World) (hb : Below wr.heap.size wr w3) => blk_below HK.out hb
      go_wp2_with (go_at_call 63; refine HJ.mono ?_; rintro e w3 ⟨rfl, hb⟩; clear HJ; have hk3 := k0 _ hb; have z0 := (blk_cell hk3 0); have z1 := (blk_cell hk3 1); have z2 := (blk_cell hk3 2); have y0 := (blk_frozen hk3 0); have y1 := (blk_frozen hk3 1); have y2 := (blk_frozen hk3 2); have HB3 := Aside0.mk (below_step HB.out hb); have HK3 := Aside0.mk hk3; clear HB hb hk3 k0)
      refine bodyPost_ret (results_cell_row rfl _ _ w.heap.size 53 #[.string a0, .bool (decide (0 < xs.length)), .string j] (0, 0) _ rfl (by
        refine blk_put (cs := #[.string a0, .bool (decide (0 < xs.length)), .string ⟨#[]⟩]) ?_ 2 _ rfl
        refine blk_put (cs := #[.string a0, .bool false, .string ⟨#[]⟩]) ?_ 1 _ rfl
        refine blk_put (cs := #[.string ⟨#[]⟩, .bool false, .string ⟨#[]⟩]) ?_ 0 _ rfl
        exact HK3.out) Tryd.underlying53 rfl (by kernel_rfl)) rfl ?_
      exact ⟨rfl, ((HB3.out.setCell (Nat.le_refl _) _).setCell (Nat.le_refl _) _).setCell (Nat.le_refl _) _⟩

end Go.Proofs.YtdiefodncfnfeaaDoor.PR
