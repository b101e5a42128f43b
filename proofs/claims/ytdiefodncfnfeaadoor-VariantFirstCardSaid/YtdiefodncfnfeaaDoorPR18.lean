-- Out of the translation, by a program of this session: each function that a law comes to as a Lean function, and that the machine's call does what it says. Lean checks it.
import Derived.Test.YtdiefodncfnfeaaDoorPR0
import Derived.Test.YtdiefodncfnfeaaDoorPR6
import Derived.Test.YtdiefodncfnfeaaDoorPR7
import Derived.Test.YtdiefodncfnfeaaDoorPR13
import Derived.Test.YtdiefodncfnfeaaDoorPR14
import Derived.Test.YtdiefodncfnfeaaDoorPR15
import Derived.Test.YtdiefodncfnfeaaDoorPR16
import Derived.Test.YtdiefodncfnfeaaDoorPR17
namespace Go.Proofs.YtdiefodncfnfeaaDoor.PR
open Go.RowKit Go.Proofs.YtdiefodncfnfeaaDoorW.PrintWords Go.Proofs.YtdiefodncfnfeaaDoorW.PrintLast Go.Proofs.YtdiefodncfnfeaaDoorW.PrintMore
attribute [local go_sem] max2_int min2_int max_two min_two max_three min_three max_four min_four   -- for this text's walks alone
set_option linter.unusedVariables false
set_option linter.unusedSimpArgs false

/-! ### variant_Decode: function 21: told by hand -/
/-! numbers out of bytes, the lowest one first -/
def leN : List Int → Int
  | [] => 0
  | b :: l => b + 256 * leN l
def Oct (L : List Int) : Prop := ∀ x ∈ L, 0 ≤ x ∧ x ≤ 255
theorem leN_lo : ∀ l : List Int, Oct l → 0 ≤ leN l
  | [], _ => Int.le_refl _
  | b :: l, h => by
    have h1 := leN_lo l (fun x hx => h x (List.mem_cons_of_mem _ hx))
    have h2 := h b List.mem_cons_self
    show 0 ≤ b + 256 * leN l
    omega
theorem leN_hi : ∀ l : List Int, Oct l → leN l < 256 ^ l.length
  | [], _ => by decide
  | b :: l, h => by
    have h1 := leN_hi l (fun x hx => h x (List.mem_cons_of_mem _ hx))
    have h2 := h b List.mem_cons_self
    show b + 256 * leN l < 256 ^ (l.length + 1)
    rw [Int.pow_succ]
    omega
theorem leN_snoc : ∀ (l : List Int) (b : Int), leN (l ++ [b]) = leN l + 256 ^ l.length * b
  | [], b => by show b + 256 * 0 = 0 + 1 * b; omega
  | a :: l, b => by
    show a + 256 * leN (l ++ [b]) = a + 256 * leN l + 256 ^ (l.length + 1) * b
    rw [leN_snoc l b, Int.pow_succ, Int.mul_add, Int.mul_comm (256 ^ l.length) 256, Int.mul_assoc]
    omega
theorem oct_cut {L : List Int} (h : Oct L) (a n : Nat) : Oct ((L.drop a).take n) := fun x hx => h x (List.mem_of_mem_drop (List.mem_of_mem_take hx))
theorem rd_at (L : List Int) (i : Int) (h0 : 0 ≤ i) (h1 : i < L.length) : rd L i = L[i.toNat]'(by omega) := by
  unfold rd
  rw [List.getD_eq_getElem?_getD, List.getElem?_eq_getElem (by omega)]
  rfl
theorem pow_le5 (i : Nat) (h : i ≤ 5) : (256 : Int) ^ i ≤ 1099511627776 := by
  match i, h with
  | 0, _ => decide
  | 1, _ => decide
  | 2, _ => decide
  | 3, _ => decide
  | 4, _ => decide
  | 5, _ => decide
theorem wrap_in (n : Int) (h0 : -9223372036854775808 ≤ n) (h1 : n ≤ 9223372036854775807) : wrap64 n = n := by unfold wrap64; omega
theorem get_l0 (L : List Int) (hL : Oct L) (a wd : Nat) (hw : wd ≤ 5) (hlen : a + wd ≤ L.length) (hs : L.length < 1000000000) : ∀ (d i k : Nat) (n : Int), d + i = wd → d < k → 0 ≤ n → n < 256 ^ i →
    wire_Get.l0 k L a n (256 ^ i) wd i = some (n + 256 ^ i * leN ((L.drop (a + i)).take d), 0) := by
  intro d
  induction d with
  | zero =>
    intro i k n hd hk h0 h1
    obtain ⟨k, rfl⟩ : ∃ m, k = m + 1 := ⟨k - 1, by omega⟩
    rw [wire_Get.l0, if_neg (by omega)]
    simp [leN]
  | succ d ih =>
    intro i k n hd hk h0 h1
    obtain ⟨k, rfl⟩ : ∃ m, k = m + 1 := ⟨k - 1, by omega⟩
    have hp := pow_le5 i (by omega)
    have hp1 := pow_le5 (i + 1) (by omega)
    have hpp : (0 : Int) < 256 ^ i := Int.pow_pos (by decide)
    have e0 : wrap64 ((a : Int) + i) = ((a + i : Nat) : Int) := by rw [wrap_in _ (by omega) (by omega)]; omega
    have hb := hL (L[a + i]'(by omega)) (List.getElem_mem _)
    have erd : rd L ((a + i : Nat) : Int) = L[a + i]'(by omega) := by rw [rd_at L _ (by omega) (by omega)]; rfl
    rw [wire_Get.l0, if_pos (by omega), e0, if_pos (by omega), if_pos (by omega), erd]
    have hcut : (L.drop (a + i)).take (d + 1) = (L[a + i]'(by omega)) :: (L.drop (a + i + 1)).take d := by rw [List.drop_eq_getElem_cons (by omega), List.take_succ_cons]
    rw [hcut]
    generalize L[a + i]'(by omega) = x at hb
    have hx : 256 ^ i * x ≤ 256 ^ i * 255 := Int.mul_le_mul_of_nonneg_left hb.2 (Int.le_of_lt hpp)
    have hx0 : 0 ≤ 256 ^ i * x := Int.mul_nonneg (Int.le_of_lt hpp) hb.1
    have e1 : (256 : Int) ^ i * 256 = 256 ^ (i + 1) := (Int.pow_succ _ _).symm
    rw [wrap_in x (by omega) (by omega), wrap_in (256 ^ i * x) (by omega) (by omega), wrap_in (n + 256 ^ i * x) (by omega) (by omega), e1, wrap_in (256 ^ (i + 1)) (by have : (0 : Int) < 256 ^ (i + 1) := Int.pow_pos (by decide); omega) (by omega), show wrap64 ((i : Int) + 1) = ((i + 1 : Nat) : Int) by rw [wrap_in _ (by omega) (by omega)]; omega]
    rw [ih (i + 1) k (n + 256 ^ i * x) (by omega) (by omega) (by omega) (by rw [← e1]; omega)]
    show some (n + 256 ^ i * x + 256 ^ (i + 1) * leN ((L.drop (a + (i + 1))).take d), (0 : Int)) = some (n + 256 ^ i * (x + 256 * leN ((L.drop (a + i + 1)).take d)), 0)
    rw [← e1, Int.mul_add, Int.mul_assoc, Int.add_assoc, Nat.add_assoc]
def getR (L : List Int) (a wd : Nat) : Int × Int := if a + wd ≤ L.length then (leN ((L.drop a).take wd), 0) else (0, 6)
theorem get_f (L : List Int) (hL : Oct L) (a wd : Nat) (hw : 1 ≤ wd ∧ wd ≤ 5) (ha : a ≤ L.length) (hs : L.length < 1000000000) : wire_Get.f 20 L a wd = some (getR L a wd) := by
  unfold wire_Get.f getR
  rw [if_neg (by omega), decide_eq_false (by omega), wire_Get.j0, if_neg (by simp), if_neg (by omega), if_neg (by omega), wrap_in _ (by omega) (by omega)]
  by_cases c : a + wd ≤ L.length
  · rw [if_neg (by omega), if_pos c]
    have h := get_l0 L hL a wd hw.2 c hs wd 0 19 0 (by omega) (by omega) (by omega) (by decide)
    rw [Int.pow_zero, Int.zero_add, Int.one_mul, Nat.add_zero] at h
    exact h
  · rw [if_pos (by omega), if_neg c]
theorem rget_l0 (L : List Int) (hL : Oct L) (a wd : Nat) (hw : wd ≤ 5) (hlen : a + wd ≤ L.length) (hs : L.length < 1000000000) : ∀ (d k : Nat) (n : Int), d ≤ wd → d < k → 0 ≤ n → n < 256 ^ (wd - d) →
    depotref03_Get.l0 k L a n ((d : Int) - 1) = some (256 ^ d * n + leN ((L.drop a).take d), 0) := by
  intro d
  induction d with
  | zero =>
    intro k n hd hk h0 h1
    obtain ⟨k, rfl⟩ : ∃ m, k = m + 1 := ⟨k - 1, by omega⟩
    rw [depotref03_Get.l0, if_neg (by omega)]
    simp [leN]
  | succ d ih =>
    intro k n hd hk h0 h1
    obtain ⟨k, rfl⟩ : ∃ m, k = m + 1 := ⟨k - 1, by omega⟩
    have hp := pow_le5 (wd - (d + 1)) (by omega)
    have e1 : (256 : Int) ^ (wd - d) = 256 ^ (wd - (d + 1)) * 256 := by rw [← Int.pow_succ]; congr 1; omega
    have e0 : wrap64 ((a : Int) + ((d + 1 : Nat) - 1 : Int)) = ((a + d : Nat) : Int) := by rw [wrap_in _ (by omega) (by omega)]; omega
    have hb := hL (L[a + d]'(by omega)) (List.getElem_mem _)
    have erd : rd L ((a + d : Nat) : Int) = L[a + d]'(by omega) := by rw [rd_at L _ (by omega) (by omega)]; rfl
    rw [depotref03_Get.l0, if_pos (by omega), e0, if_pos (by omega), if_pos (by omega), erd]
    have hcut : (L.drop a).take (d + 1) = (L.drop a).take d ++ [L[a + d]'(by omega)] := by
      rw [List.take_add_one, List.getElem?_drop, List.getElem?_eq_getElem (by omega)]; rfl
    have hlt : ((L.drop a).take d).length = d := by rw [List.length_take, List.length_drop]; omega
    rw [hcut, leN_snoc, hlt]
    generalize L[a + d]'(by omega) = x at hb
    rw [wrap_in x (by omega) (by omega), wrap_in (256 * n) (by omega) (by omega), wrap_in (256 * n + x) (by omega) (by omega), show wrap64 (((d + 1 : Nat) : Int) - 1 - 1) = (d : Int) - 1 by rw [wrap_in _ (by omega) (by omega)]; omega]
    rw [ih k (256 * n + x) (by omega) (by omega) (by omega) (by rw [e1]; omega)]
    have e9 : (256 : Int) ^ d * (256 * n + x) = 256 ^ (d + 1) * n + 256 ^ d * x := by rw [Int.mul_add, ← Int.mul_assoc, ← Int.pow_succ]
    rw [e9, Int.add_assoc, Int.add_comm (256 ^ d * x)]
theorem rget_f (L : List Int) (hL : Oct L) (a wd : Nat) (hw : 1 ≤ wd ∧ wd ≤ 5) (ha : a ≤ L.length) (hs : L.length < 1000000000) : depotref03_Get.f 20 L a wd = some (getR L a wd) := by
  unfold depotref03_Get.f getR
  rw [if_neg (by omega), decide_eq_false (by omega), depotref03_Get.j0, if_neg (by simp), if_neg (by omega), if_neg (by omega), wrap_in _ (by omega) (by omega), depotref03_Get.j1]
  by_cases c : a + wd ≤ L.length
  · rw [if_neg (by simp; omega), if_pos c, wrap_in _ (by omega) (by omega)]
    have h := rget_l0 L hL a wd hw.2 c hs wd 18 0 (Nat.le_refl _) (by omega) (Int.le_refl _) (by rw [Nat.sub_self]; decide)
    rw [Int.mul_zero, Int.zero_add] at h
    exact h
  · rw [if_pos (by simp; omega), if_neg c]
/-- The library's reader in block g: its bytes, where it stands. -/
structure WrdAt (B g : Nat) (L : List Int) (a : Nat) (W : World) : Prop where
  hB : B ≤ g
  hw : B ≤ W.heap.size
  ha : a ≤ L.length
  out : ∃ v, W.heap[g]? = some (.cells #[v, .int .i64 a] 101 (0, 0)) ∧ Kd.R (Kd.int .u8) 5 W B (fun _ => True) v L
theorem WrdAt.below {B g : Nat} {L : List Int} {a : Nat} {W W' : World} (h : WrdAt B g L a W) (hb : Below W.heap.size W W') : WrdAt B g L a W' := by
  obtain ⟨v, hk, hr⟩ := h.out
  exact ⟨h.hB, Nat.le_trans h.hw hb.size, h.ha, v, blk_below hk hb, Kd.R_below hr hb⟩
theorem WrdAt.lt {B g : Nat} {L : List Int} {a : Nat} {W : World} (h : WrdAt B g L a W) : g < W.heap.size := by
  obtain ⟨v, hk, hr⟩ := h.out
  exact blk_lt hk
theorem WrdAt.go {B g : Nat} {L : List Int} {a a' : Nat} {W : World} (h : WrdAt B g L a W) (ha : a' ≤ L.length) : WrdAt B g L a' (W.setCell ⟨g, 1, none⟩ (.int .i64 a')) := by
  obtain ⟨v, hk, hr⟩ := h.out
  exact ⟨h.hB, by simpa [World.setCell] using h.hw, ha, v, blk_put hk 1 _ rfl, Kd.R_set hr hk (by decide) 1 _⟩
theorem WrdAt.drewN {B g : Nat} {L : List Int} {a : Nat} {W : World} (h : WrdAt B g L a W) (n : Nat) : WrdAt B g L a (W.drewN n) := by
  obtain ⟨v, hk, hr⟩ := h.out
  exact ⟨h.hB, h.hw, h.ha, v, hk, Kd.R_drewN hr n⟩
def wrdNum (L : List Int) (a wd : Nat) : Nat := if a + wd ≤ L.length then a + wd else a
theorem getR_err (L : List Int) (a wd : Nat) : (getR L a wd).2 = 0 ↔ a + wd ≤ L.length := by
  unfold getR
  by_cases c : a + wd ≤ L.length
  · rw [if_pos c]; simp [c]
  · rw [if_neg c]; simp [c]
set_option maxHeartbeats 1600000 in
theorem wrd_num (B g : Nat) (L : List Int) (a wd : Nat) (W : World) (h : WrdAt B g L a W) (hL : Oct L) (hs : L.length < 1000000000) (hw : 1 ≤ wd ∧ wd ≤ 5) :
    Calls Tryd.prog 56 #[.pointer (some ⟨g, 0, none⟩), .int .i64 wd] W fun x w' => x = .returned (.tuple #[.int .i64 (getR L a wd).1, .int .i64 (getR L a wd).2]) ∧ WrdAt B g L (wrdNum L a wd) w' ∧ W.grownBy w' (some g) := by
  have HG := Aside0.mk (get_f L hL a wd hw h.ha hs)
  have hge := getR_err L a wd
  obtain ⟨v, hk, hr⟩ := h.out
  obtain ⟨A, c, rfl, hlc, hC⟩ := Kd.R_reads hr
  have HLC := Aside0.mk hlc
  have HC := Aside0.mk hC
  have H := Aside0.mk h
  have k0 := blk_cell hk 0
  have k1 := blk_cell hk 1
  have f1 := blk_frozen hk 1
  have hal := h.ha
  clear h hk hr hlc hC
  by_cases hc : a + wd ≤ L.length
  · have hg0 := hge.2 hc
    have hwn : wrdNum L a wd = a + wd := if_pos hc
    have HWN := Aside0.mk hwn
    have hsum : (((a + wd : Nat)) : Int) = (a : Int) + wd := by omega
    generalize getR L a wd = gg at HG hg0 ⊢
    obtain ⟨n1, e1⟩ := gg
    try simp only at HG hg0 ⊢
    subst hg0
    have HST := fun (nd : Nat) => WrdAt.go (WrdAt.drewN H.out nd) hc
    rw [hsum] at HST
    clear hge hwn
    go_enter Tryd.func56, Tryd.ntmps56
    go_wp2
    go_region_with (go_at_call 70; refine (wire_Get.calls 20 A c L a wd n1 0 _ ?hh1 HLC.out HG.out).mono ?_; (case hh1 => exact Kd.C_drewN (Kd.C_drew HC.out) 0); rintro x w1 ⟨rfl, ⟨nd, rfl⟩⟩)
    all_goals
      go_wp2_with fail
      go_ret2
      exact ⟨rfl, by rw [HWN.out]; exact HST _, gb_set (gb_below (pw_below_drewN (Below.refl _ _) _) g) 1 _⟩
  · have hwn : wrdNum L a wd = a := if_neg hc
    have HWN := Aside0.mk hwn
    have hg6 : getR L a wd = (0, 6) := if_neg hc
    rw [hg6] at HG ⊢
    clear hge hwn hg6
    go_enter Tryd.func56, Tryd.ntmps56
    go_wp2
    go_region_with (go_at_call 70; refine (wire_Get.calls 20 A c L a wd 0 6 _ ?hh1 HLC.out HG.out).mono ?_; (case hh1 => exact Kd.C_drewN (Kd.C_drew HC.out) 0); rintro x w1 ⟨rfl, ⟨nd, rfl⟩⟩)
    all_goals
      go_wp2_with fail
      go_ret2
      refine ⟨rfl, by rw [HWN.out]; exact H.out.drewN _, gb_below (pw_below_drewN (Below.refl _ _) _) g⟩
theorem wrd_left (B g : Nat) (L : List Int) (a : Nat) (W : World) (h : WrdAt B g L a W) (hs : L.length < 1000000000) :
    Calls Tryd.prog 39 #[.pointer (some ⟨g, 0, none⟩)] W fun x w' => x = .returned (.int .i64 ((L.length : Int) - a)) ∧ ∃ nd, w' = W.drewN nd := by
  obtain ⟨v, hk, hr⟩ := h.out
  obtain ⟨A, c, rfl, hlc, hC⟩ := Kd.R_reads hr
  have k0 := blk_cell hk 0
  have k1 := blk_cell hk 1
  have hal := h.ha
  have hwr : IntKind.i64.wrap ((L.length : Int) - (a : Int)) = (L.length : Int) - a := by rw [i64_w]; exact wrap_in _ (by omega) (by omega)
  clear h hk hr hC
  go_enter Tryd.func39, Tryd.ntmps39
  go_wp2
  go_region_with (fail)
  all_goals
    go_wp2_with fail
    go_ret
    exact ⟨by simp [Act.put, hwr], _, rfl⟩
theorem cut_C {W : World} {e B gg c : Nat} {L : List Int} {ok : Nat → Prop} (hr : Kd.R (Kd.int .u8) e W B ok (.slice (some ⟨gg, 0, none⟩) L.length c) L) (f n : Nat) (h : f + n ≤ L.length) (hl : L.length < 1000000000) : Kd.C (Kd.int .u8) W (some ⟨gg, f, none⟩) n ((L.drop f).take n) := by
  refine ⟨by rw [List.length_take, List.length_drop]; omega, by omega, fun _ => ⟨_, rfl, fun j p hp => ⟨[.int .u8 p], rfl, rfl, fun i u hu => ?_⟩⟩⟩
  match i, hu with
  | 0, hu =>
    simp at hu
    subst hu
    have hj : j < n := by
      have := (List.getElem?_eq_some_iff.1 hp).1
      rw [List.length_take] at this
      omega
    rw [List.getElem?_take_of_lt hj, List.getElem?_drop, List.getElem?_eq_getElem (by omega)] at hp
    obtain rfl := Option.some.inj hp
    have h1 := (Kd.R_celln (0 : Int) hr ((f + j : Nat) : Int) (by omega) (by omega)).1
    rw [Int.toNat_natCast, show rdOf (0 : Int) L ((f + j : Nat) : Int) = L[f + j]'(by omega) by show L.getD _ _ = _; rw [Int.toNat_natCast, List.getD_eq_getElem?_getD, List.getElem?_eq_getElem (by omega)]; rfl] at h1
    rw [show (Kd.int .u8).sz = 1 from rfl]
    rw [show (⟨gg, f, none⟩ : Addr).add (j * 1 + 0) = ⟨gg, f + j, none⟩ by rw [Nat.mul_one, Nat.add_zero]; unfold Addr.add; split <;> simp_all]
    exact h1
def textG (L : List Int) (a : Nat) : ByteArray × Int × Nat :=
  if a + 4 ≤ L.length then (if 65536 < (getR L a 4).1 then (⟨#[]⟩, 4, a) else if (L.length : Int) - (a + 4) < (getR L a 4).1 then (⟨#[]⟩, 6, a) else (strOfNums ((L.drop (a + 4)).take (getR L a 4).1.toNat), 0, a + 4 + (getR L a 4).1.toNat)) else (⟨#[]⟩, 6, a)
set_option maxHeartbeats 3200000 in
set_option maxRecDepth 100000 in
theorem wrd_text (B g : Nat) (L : List Int) (a : Nat) (W : World) (h : WrdAt B g L a W) (hL : Oct L) (hs : L.length < 1000000000) :
    Calls Tryd.prog 71 #[.pointer (some ⟨g, 0, none⟩)] W fun x w' => x = .returned (.tuple #[.string (textG L a).1, .int .i64 (textG L a).2.1]) ∧ WrdAt B g L (textG L a).2.2 w' ∧ W.grownBy w' (some g) := by
  have HG := Aside0.mk (get_f L hL a 4 (by decide) h.ha hs)
  obtain ⟨v, hk, hr⟩ := h.out
  obtain ⟨A, c, rfl, hlc, hC⟩ := Kd.R_reads hr
  have HLC := Aside0.mk hlc
  have HC := Aside0.mk hC
  have H := Aside0.mk h
  have k0 := blk_cell hk 0
  have k1 := blk_cell hk 1
  have f1 := blk_frozen hk 1
  have hal := h.ha
  by_cases hc : a + 4 ≤ L.length
  · have hge := (getR_err L a 4).2 hc
    have hn0 : 0 ≤ (getR L a 4).1 := by unfold getR; rw [if_pos hc]; exact leN_lo _ (oct_cut hL a 4)
    have htg : textG L a = if 65536 < (getR L a 4).1 then (⟨#[]⟩, 4, a) else if (L.length : Int) - (a + 4) < (getR L a 4).1 then (⟨#[]⟩, 6, a) else (strOfNums ((L.drop (a + 4)).take (getR L a 4).1.toNat), 0, a + 4 + (getR L a 4).1.toNat) := if_pos hc
    rw [htg]
    generalize getR L a 4 = gg at HG hge hn0 ⊢
    obtain ⟨n1, e1⟩ := gg
    try simp only at HG hge hn0 ⊢
    subst hge
    clear h hk hr hlc hC htg
    by_cases c1 : 65536 < n1
    · rw [if_pos c1]
      go_enter Tryd.func71, Tryd.ntmps71
      go_wp2
      go_region_with (go_at_call 70; refine (wire_Get.calls 20 A c L a 4 n1 0 _ ?hh1 HLC.out HG.out).mono ?_; (case hh1 => exact Kd.C_drewN (Kd.C_drew HC.out) 0); rintro x w1 ⟨rfl, ⟨nd, rfl⟩⟩)
      all_goals
        go_wp2_with fail
        go_ret2
        exact ⟨rfl, H.out.drewN _, gb_below (pw_below_drewN (Below.refl _ _) _) g⟩
    · rw [if_neg c1]
      by_cases c2 : (L.length : Int) - (a + 4) < n1
      · rw [if_pos c2]
        go_enter Tryd.func71, Tryd.ntmps71
        go_wp2
        go_region_with (go_at_call 70; refine (wire_Get.calls 20 A c L a 4 n1 0 _ ?hh1 HLC.out HG.out).mono ?_; (case hh1 => exact Kd.C_drewN (Kd.C_drew HC.out) 0); rintro x w1 ⟨rfl, ⟨nd, rfl⟩⟩)
        all_goals
          go_wp2_with fail
          go_ret2
          exact ⟨rfl, H.out.drewN _, gb_below (pw_below_drewN (Below.refl _ _) _) g⟩
      · rw [if_neg c2]
        obtain ⟨n, rfl⟩ := Int.eq_ofNat_of_zero_le hn0
        rw [Int.toNat_natCast]
        go_enter Tryd.func71, Tryd.ntmps71
        go_wp2
        go_region_with (go_at_call 70; refine (wire_Get.calls 20 A c L a 4 n 0 _ ?hh1 HLC.out HG.out).mono ?_; (case hh1 => exact Kd.C_drewN (Kd.C_drew HC.out) 0); rintro x w1 ⟨rfl, ⟨nd, rfl⟩⟩)
        all_goals
          go_upto_region 12 with (fail)
          have hca : (((a + 4 + n : Nat)) : Int) = (a : Int) + 4 + n := by omega
          have H9 := WrdAt.go (H.out.drewN (1 + nd)) (a' := a + 4 + n) (by omega)
          rw [hca] at H9
          have G9 := Aside0.mk (gb_set (gb_below (pw_below_drewN (Below.refl W.heap.size W) (1 + nd)) g) 1 (.int .i64 ((a : Int) + 4 + n)))
          clear k0 k1 f1 H HG HC HLC
          generalize (W.drewN (1 + nd)).setCell ⟨g, 1, none⟩ (.int .i64 ((a : Int) + 4 + n)) = W9 at H9 G9 ⊢
          obtain ⟨v9, hk9, hr9⟩ := H9.out
          obtain ⟨A9, c9, rfl, hlc9, hC9⟩ := Kd.R_reads hr9
          have g1 : (a : Int) + 4 ≤ (a : Int) + 4 + n := by omega
          have g2 : (a : Int) + 4 + n ≤ (c9 : Int) := by omega
          have g3 : 0 ≤ (a : Int) + 4 := by omega
          have g4 : 0 ≤ (a : Int) + 4 + n := by omega
          obtain ⟨gg, rfl, hgg⟩ := row_addr (Kd.own_of_R hr9) (by omega)
          have k0 := blk_cell hk9 0
          have k1 : W9.cell? ⟨g, 1, none⟩ = some (.int .i64 ((a : Int) + 4 + n)) := by rw [← hca]; exact blk_cell hk9 1
          have HX := Aside0.mk H9
          clear hk9 H9
          have hcv : (convert 37 9 (.slice (if c9 = ((a : Int) + 4).toNat then some ⟨gg, 0, none⟩ else some ⟨gg, ((a : Int) + 4).toNat, none⟩) (((a : Int) + 4 + n).toNat - ((a : Int) + 4).toNat) (c9 - ((a : Int) + 4).toNat))).run Tryd.prog W9.drew = .ok (.string (strOfNums ((L.drop (a + 4)).take n))) W9.drew := by
            have e1 : ((a : Int) + 4).toNat = a + 4 := by omega
            have e2 : ((a : Int) + 4 + n).toNat = a + 4 + n := by omega
            rw [e1, e2, show a + 4 + n - (a + 4) = n by omega]
            refine Kd.C_string (P := Tryd.prog) Tryd.underlying37 Tryd.underlying5 Tryd.underlying9 ?_
            by_cases hcc : c9 = a + 4
            · obtain rfl : n = 0 := by omega
              rw [List.take_zero]
              refine ⟨rfl, by decide, fun h => absurd h (by decide)⟩
            · rw [if_neg hcc]
              exact Kd.C_drewN (cut_C hr9 (a + 4) n (by omega) hs) 1
          clear hr9 hC9
          go_region_with (fail)
          all_goals
            (try go_wp2_with fail)
            by_cases hcz : c9 = ((a : Int) + 4).toNat
            all_goals
              go_ret2
              all_goals (try go_ret2)
              all_goals exact ⟨rfl, HX.out.drewN _, G9.out.trans (gb_below (pw_below_drewN (Below.refl _ _) _) g)⟩
  · have hg6 : getR L a 4 = (0, 6) := if_neg hc
    have htg : textG L a = (⟨#[]⟩, 6, a) := if_neg hc
    rw [htg]
    rw [hg6] at HG
    clear h hk hr hlc hC htg hg6
    go_enter Tryd.func71, Tryd.ntmps71
    go_wp2
    go_region_with (go_at_call 70; refine (wire_Get.calls 20 A c L a 4 0 6 _ ?hh1 HLC.out HG.out).mono ?_; (case hh1 => exact Kd.C_drewN (Kd.C_drew HC.out) 0); rintro x w1 ⟨rfl, ⟨nd, rfl⟩⟩)
    all_goals
      go_wp2_with fail
      go_ret2
      exact ⟨rfl, H.out.drewN _, gb_below (pw_below_drewN (Below.refl _ _) _) g⟩
def flagG (L : List Int) (a : Nat) : Bool × Int × Nat :=
  if a + 1 ≤ L.length then (if 1 < (getR L a 1).1 then (false, 5, a) else ((getR L a 1).1 == 1, 0, a + 1)) else (false, 6, a)
set_option maxHeartbeats 3200000 in
set_option maxRecDepth 100000 in
theorem wrd_flag (B g : Nat) (L : List Int) (a : Nat) (W : World) (h : WrdAt B g L a W) (hL : Oct L) (hs : L.length < 1000000000) :
    Calls Tryd.prog 72 #[.pointer (some ⟨g, 0, none⟩)] W fun x w' => x = .returned (.tuple #[.bool (flagG L a).1, .int .i64 (flagG L a).2.1]) ∧ WrdAt B g L (flagG L a).2.2 w' ∧ W.grownBy w' (some g) := by
  have HG := Aside0.mk (get_f L hL a 1 (by decide) h.ha hs)
  obtain ⟨v, hk, hr⟩ := h.out
  obtain ⟨A, c, rfl, hlc, hC⟩ := Kd.R_reads hr
  have HLC := Aside0.mk hlc
  have HC := Aside0.mk hC
  have H := Aside0.mk h
  have k0 := blk_cell hk 0
  have k1 := blk_cell hk 1
  have f1 := blk_frozen hk 1
  have hal := h.ha
  by_cases hc : a + 1 ≤ L.length
  · have hge := (getR_err L a 1).2 hc
    have hn0 : 0 ≤ (getR L a 1).1 := by unfold getR; rw [if_pos hc]; exact leN_lo _ (oct_cut hL a 1)
    have htg : flagG L a = if 1 < (getR L a 1).1 then (false, 5, a) else ((getR L a 1).1 == 1, 0, a + 1) := if_pos hc
    rw [htg]
    generalize getR L a 1 = gg at HG hge hn0 ⊢
    obtain ⟨n1, e1⟩ := gg
    try simp only at HG hge hn0 ⊢
    subst hge
    clear hk hr hlc hC htg
    by_cases c1 : 1 < n1
    · rw [if_pos c1]
      clear h
      go_enter Tryd.func72, Tryd.ntmps72
      go_wp2
      go_region_with (go_at_call 70; refine (wire_Get.calls 20 A c L a 1 n1 0 _ ?hh1 HLC.out HG.out).mono ?_; (case hh1 => exact Kd.C_drewN (Kd.C_drew HC.out) 0); rintro x w1 ⟨rfl, ⟨nd, rfl⟩⟩)
      all_goals
        go_wp2_with fail
        go_ret2
        exact ⟨rfl, H.out.drewN _, gb_below (pw_below_drewN (Below.refl _ _) _) g⟩
    · rw [if_neg c1]
      have hsum : (((a + 1 : Nat)) : Int) = (a : Int) + 1 := by omega
      have HST := fun (nd : Nat) => WrdAt.go (WrdAt.drewN h nd) hc
      rw [hsum] at HST
      clear h
      have hn2 : n1 = 0 ∨ n1 = 1 := by omega
      obtain rfl | rfl := hn2
      · go_enter Tryd.func72, Tryd.ntmps72
        go_wp2
        go_region_with (go_at_call 70; refine (wire_Get.calls 20 A c L a 1 0 0 _ ?hh1 HLC.out HG.out).mono ?_; (case hh1 => exact Kd.C_drewN (Kd.C_drew HC.out) 0); rintro x w1 ⟨rfl, ⟨nd, rfl⟩⟩)
        all_goals
          go_wp2_with fail
          go_ret2
          exact ⟨rfl, HST _, gb_set (gb_below (pw_below_drewN (Below.refl _ _) _) g) 1 _⟩
      · go_enter Tryd.func72, Tryd.ntmps72
        go_wp2
        go_region_with (go_at_call 70; refine (wire_Get.calls 20 A c L a 1 1 0 _ ?hh1 HLC.out HG.out).mono ?_; (case hh1 => exact Kd.C_drewN (Kd.C_drew HC.out) 0); rintro x w1 ⟨rfl, ⟨nd, rfl⟩⟩)
        all_goals
          go_wp2_with fail
          go_ret2
          exact ⟨rfl, HST _, gb_set (gb_below (pw_below_drewN (Below.refl _ _) _) g) 1 _⟩
  · have hg6 : getR L a 1 = (0, 6) := if_neg hc
    have htg : flagG L a = (false, 6, a) := if_neg hc
    rw [htg]
    rw [hg6] at HG
    clear h hk hr hlc hC htg hg6
    go_enter Tryd.func72, Tryd.ntmps72
    go_wp2
    go_region_with (go_at_call 70; refine (wire_Get.calls 20 A c L a 1 0 6 _ ?hh1 HLC.out HG.out).mono ?_; (case hh1 => exact Kd.C_drewN (Kd.C_drew HC.out) 0); rintro x w1 ⟨rfl, ⟨nd, rfl⟩⟩)
    all_goals
      go_wp2_with fail
      go_ret2
      exact ⟨rfl, H.out.drewN _, gb_below (pw_below_drewN (Below.refl _ _) _) g⟩
/-- All blocks but two stay. -/
structure Gb2 (w w' : World) (b b2 : Nat) : Prop where
  os : w'.os = w.os
  tape : w'.tape = w.tape
  output : w'.output = w.output
  size : w.heap.size ≤ w'.heap.size
  block : ∀ k, k < w.heap.size → k ≠ b → k ≠ b2 → w'.heap[k]? = w.heap[k]?
theorem Gb2.refl (w : World) (b b2 : Nat) : Gb2 w w b b2 := ⟨rfl, rfl, rfl, Nat.le_refl _, fun _ _ _ _ => rfl⟩
theorem Gb2.trans {w1 w2 w3 : World} {b b2 : Nat} (h : Gb2 w1 w2 b b2) (k : Gb2 w2 w3 b b2) : Gb2 w1 w3 b b2 :=
  ⟨k.os.trans h.os, k.tape.trans h.tape, k.output.trans h.output, Nat.le_trans h.size k.size, fun i hi h1 h2 => (k.block i (Nat.lt_of_lt_of_le hi h.size) h1 h2).trans (h.block i hi h1 h2)⟩
theorem Gb2.of_below {w w' : World} (h : Below w.heap.size w w') (b b2 : Nat) : Gb2 w w' b b2 := ⟨h.os, h.tape, h.output, h.size, fun k hk _ _ => h.block k hk⟩
theorem Gb2.of1 {w w' : World} {b : Nat} (h : w.grownBy w' (some b)) (b2 : Nat) : Gb2 w w' b b2 := ⟨h.os, h.tape, h.output, h.size, fun k hk h1 _ => h.block k hk (fun e => h1 (Option.some.inj e))⟩
theorem Gb2.of2 {w w' : World} {b2 : Nat} (h : w.grownBy w' (some b2)) (b : Nat) : Gb2 w w' b b2 := ⟨h.os, h.tape, h.output, h.size, fun k hk _ h1 => h.block k hk (fun e => h1 (Option.some.inj e))⟩
theorem Gb2.set {w w' : World} {b b2 : Nat} (h : Gb2 w w' b b2) (j : Nat) (u : Value) : Gb2 w (w'.setCell ⟨b, j, none⟩ u) b b2 := h.trans (Gb2.of1 (gb_set (gb_refl _ _) j u) b2)
theorem Gb2.to {w w' : World} {b b2 B : Nat} (h : Gb2 w w' b b2) (hB : B ≤ b) (hB2 : B ≤ b2) (hw : B ≤ w.heap.size) : Below B w w' :=
  ⟨h.os, h.tape, h.output, h.size, fun k hk => h.block k (by omega) (by omega) (by omega)⟩
theorem Gb2.blk {w w' : World} {b b2 g : Nat} {o : Obj} (h : Gb2 w w' b b2) (hk : w.heap[g]? = some o) (h1 : g ≠ b) (h2 : g ≠ b2) : w'.heap[g]? = some o := (h.block g (blk_lt hk) h1 h2).trans hk
/-- The reader in block b, the library's in block b2. -/
structure VrAt (B b b2 : Nat) (L : List Int) (st : Nat × Int) (W : World) : Prop where
  hB : B ≤ b
  hne : b ≠ b2
  hk : W.heap[b]? = some (.cells #[.int .i64 st.2, .pointer (some ⟨b2, 0, none⟩)] 81 (0, 0))
  out : ∃ a, (st.2 = 0 → a = st.1) ∧ WrdAt B b2 L a W
theorem VrAt.below {B b b2 : Nat} {L : List Int} {st : Nat × Int} {W W' : World} (h : VrAt B b b2 L st W) (hb : Below W.heap.size W W') : VrAt B b b2 L st W' := by
  obtain ⟨a, ha, hw⟩ := h.out
  exact ⟨h.hB, h.hne, blk_below h.hk hb, a, ha, hw.below hb⟩
theorem WrdAt.far {B g b : Nat} {L : List Int} {a : Nat} {W : World} {cs : Array Value} (h : WrdAt B g L a W) (hk : W.heap[b]? = some (.cells cs 81 (0, 0))) (hne : b ≠ g) (j : Nat) (u : Value) : WrdAt B g L a (W.setCell ⟨b, j, none⟩ u) := by
  obtain ⟨v, hg, hr⟩ := h.out
  exact ⟨h.hB, by simpa [World.setCell] using h.hw, h.ha, v, blk_far hg (fun e => hne e.symm) u, Kd.R_set hr hk (by decide) j u⟩
/-- After a call of the library's reader: the error stored. -/
theorem VrAt.after {B b b2 : Nat} {L : List Int} {st : Nat × Int} {W W' : World} (h : VrAt B b b2 L st W) (hg : W.grownBy W' (some b2)) {a' : Nat} (hw : WrdAt B b2 L a' W') (st' : Nat × Int) (ha : st'.2 = 0 → a' = st'.1) : VrAt B b b2 L st' (W'.setCell ⟨b, 0, none⟩ (.int .i64 st'.2)) := by
  have hk := blk_grown h.hk hg (fun e => h.hne (Option.some.inj e))
  exact ⟨h.hB, h.hne, blk_put hk 0 _ rfl, a', ha, hw.far hk h.hne 0 _⟩
/-! the readers' answers: the position and the first error -/
def numD (L : List Int) (st : Nat × Int) (wd : Nat) (lo hi : Int) : Int × Nat × Int :=
  if st.2 ≠ 0 then (0, st) else if st.1 + wd ≤ L.length then (if lo ≤ (getR L st.1 wd).1 ∧ (getR L st.1 wd).1 ≤ hi then ((getR L st.1 wd).1, st.1 + wd, 0) else (0, st.1, 5)) else (0, st.1, 6)
def textD (L : List Int) (st : Nat × Int) : ByteArray × Nat × Int := if st.2 ≠ 0 then (⟨#[]⟩, st) else ((textG L st.1).1, (textG L st.1).2.2, (textG L st.1).2.1)
def hasD (L : List Int) (st : Nat × Int) : Bool × Nat × Int := if st.2 ≠ 0 then (false, st) else ((flagG L st.1).1, (flagG L st.1).2.2, (flagG L st.1).2.1)
theorem hasD_num (L : List Int) (st : Nat × Int) (hL : Oct L) : hasD L st = ((numD L st 1 0 1).1 == 1, (numD L st 1 0 1).2) := by
  unfold hasD numD
  by_cases h : st.2 ≠ 0
  · rw [if_pos h, if_pos h]; rfl
  · rw [if_neg h, if_neg h]
    unfold flagG
    by_cases c : st.1 + 1 ≤ L.length
    · rw [if_pos c, if_pos c]
      have h0 : 0 ≤ (getR L st.1 1).1 := by unfold getR; rw [if_pos c]; exact leN_lo _ (oct_cut hL st.1 1)
      by_cases c1 : 1 < (getR L st.1 1).1
      · rw [if_pos c1, if_neg (by omega)]; rfl
      · rw [if_neg c1, if_pos (by omega)]
    · rw [if_neg c, if_neg c]; rfl
theorem VrAt.cell {B b b2 : Nat} {L : List Int} {st : Nat × Int} {W : World} (h : VrAt B b b2 L st W) : W.cell? ⟨b, 0, none⟩ = some (.int .i64 st.2) := blk_cell h.hk 0
theorem VrAt.wrd {B b b2 : Nat} {L : List Int} {a : Nat} {W : World} (h : VrAt B b b2 L (a, 0) W) : WrdAt B b2 L a W := by
  obtain ⟨a', ha, hw⟩ := h.out
  obtain rfl := ha rfl
  exact hw
theorem VrAt.lt2 {B b b2 : Nat} {L : List Int} {st : Nat × Int} {W : World} (h : VrAt B b b2 L st W) : b2 < W.heap.size := by
  obtain ⟨a, _, hw⟩ := h.out
  exact hw.lt
theorem VrAt.lt1 {B b b2 : Nat} {L : List Int} {st : Nat × Int} {W : World} (h : VrAt B b b2 L st W) : b < W.heap.size := blk_lt h.hk
set_option maxHeartbeats 3200000 in
theorem vr_num (B b b2 : Nat) (L : List Int) (st : Nat × Int) (wd : Nat) (lo hi : Int) (W : World) (h : VrAt B b b2 L st W) (hL : Oct L) (hs : L.length < 1000000000) (hw : 1 ≤ wd ∧ wd ≤ 5) :
    Calls Tryd.prog 37 #[.pointer (some ⟨b, 0, none⟩), .int .i64 wd, .agg #[.int .i64 lo, .int .i64 hi]] W fun x w' => x = .returned (.int .i64 (numD L st wd lo hi).1) ∧ VrAt B b b2 L (numD L st wd lo hi).2 w' ∧ Gb2 W w' b b2 := by
  obtain ⟨a, e⟩ := st
  have HF := fun (w1 : World) (h1 : VrAt B b b2 L (a, e) w1) => wr_fine b e w1 h1.cell
  have hA := Hand.alloc_below W (.cells #[.int .i64 lo, .int .i64 hi] 70)
  have h1 := h.below hA
  have H1 := Aside0.mk h1
  have HG := Aside0.mk (Gb2.of_below hA b b2)
  have hlt2 := h.lt2
  have HX := Aside0.mk (blk_new W (.cells #[.int .i64 lo, .int .i64 hi] 70))
  by_cases he : e = 0
  · subst he
    have HN := fun (w1 : World) (h1 : VrAt B b b2 L (a, 0) w1) => wrd_num B b2 L a wd w1 h1.wrd hL hs hw
    have hge := getR_err L a wd
    have hz : numD L (a, 0) wd lo hi = if a + wd ≤ L.length then (if lo ≤ (getR L a wd).1 ∧ (getR L a wd).1 ≤ hi then ((getR L a wd).1, a + wd, 0) else (0, a, 5)) else (0, a, 6) := if_neg (by simp)
    rw [hz]
    by_cases hc : a + wd ≤ L.length
    · rw [if_pos hc]
      have hg0 := hge.2 hc
      rw [show wrdNum L a wd = a + wd from if_pos hc] at HN
      generalize getR L a wd = gg at HN hg0 ⊢
      obtain ⟨n1, e1⟩ := gg
      try simp only at HN hg0 ⊢
      subst hg0
      by_cases hin : lo ≤ n1 ∧ n1 ≤ hi
      · rw [if_pos hin]
        have hif : variant_limit_in.f lo hi n1 = some true := by unfold variant_limit_in.f; rw [if_pos hin.1, decide_eq_true hin.2]
        have HI := fun (w1 : World) => variant_limit_in.calls lo hi n1 true w1 hif
        clear h h1 hA hif hin hge hz hc
        go_enter Tryd.func37, Tryd.ntmps37
        go_wp2_with (first | (go_at_call 33; refine (HF _ H1.out).mono ?_; rintro x w1 ⟨rfl, rfl⟩; clear HF; have k1 := blk_cell H1.out.hk 1) | (go_at_call 56; refine (HN _ H1.out).mono ?_; rintro x w2 ⟨rfl, h2, g2⟩; clear HN k1; have H2 := Aside0.mk (fun (w9 : World) (hb : Below w2.heap.size w2 w9) => (VrAt.after H1.out (g2.trans (gb_below hb b2)) (h2.below hb) (a + wd, 0) (fun _ => rfl))); have HG2 := Aside0.mk (HG.out.trans (Gb2.of2 g2 b)); have HK2 := Aside0.mk (blk_grown H1.out.hk g2 (fun e => H1.out.hne (Option.some.inj e))); have hx := blk_grown HX.out g2 (by simp; omega); have l0 := blk_cell hx 0; have l1 := blk_cell hx 1; clear hx h2 g2) | (go_at_call 46; refine (HI _).mono ?_; rintro x w3 ⟨rfl, hb3⟩; clear l0 l1; have H3 := Aside0.mk (H2.out _ hb3); have HG3 := Aside0.mk (HG2.out.trans (Gb2.of_below hb3 b b2)); have hk3 := blk_below HK2.out hb3; have k0 := blk_cell hk3 0; have f0 := blk_frozen hk3 0; clear hk3 hb3 H2 HG2 HK2))
        go_ret
        exact ⟨rfl, H3.out, HG3.out.set 0 _⟩
      · rw [if_neg hin]
        have hif : variant_limit_in.f lo hi n1 = some false := by
          unfold variant_limit_in.f
          by_cases c : n1 ≥ lo
          · rw [if_pos c, decide_eq_false (fun c2 => hin ⟨c, c2⟩)]
          · rw [if_neg c]
        have HI := fun (w1 : World) => variant_limit_in.calls lo hi n1 false w1 hif
        clear h h1 hA hif hin hge hz hc
        go_enter Tryd.func37, Tryd.ntmps37
        go_wp2_with (first | (go_at_call 33; refine (HF _ H1.out).mono ?_; rintro x w1 ⟨rfl, rfl⟩; clear HF; have k1 := blk_cell H1.out.hk 1) | (go_at_call 56; refine (HN _ H1.out).mono ?_; rintro x w2 ⟨rfl, h2, g2⟩; clear HN k1; have H2 := Aside0.mk (fun (w9 : World) (hb : Below w2.heap.size w2 w9) => (VrAt.after H1.out (g2.trans (gb_below hb b2)) (h2.below hb) (a, 5) (fun h => absurd h (show ¬ (5 : Int) = 0 by decide)))); have HG2 := Aside0.mk (HG.out.trans (Gb2.of2 g2 b)); have HK2 := Aside0.mk (blk_grown H1.out.hk g2 (fun e => H1.out.hne (Option.some.inj e))); have hx := blk_grown HX.out g2 (by simp; omega); have l0 := blk_cell hx 0; have l1 := blk_cell hx 1; clear hx h2 g2) | (go_at_call 46; refine (HI _).mono ?_; rintro x w3 ⟨rfl, hb3⟩; clear l0 l1; have H3 := Aside0.mk (H2.out _ hb3); have HG3 := Aside0.mk (HG2.out.trans (Gb2.of_below hb3 b b2)); have hk3 := blk_below HK2.out hb3; have k0 := blk_cell hk3 0; have f0 := blk_frozen hk3 0; clear hk3 hb3 H2 HG2 HK2))
        go_ret
        exact ⟨rfl, H3.out, HG3.out.set 0 _⟩
    · rw [if_neg hc]
      have hg6 : getR L a wd = (0, 6) := if_neg hc
      rw [show wrdNum L a wd = a from if_neg hc, hg6] at HN
      clear h h1 hA hge hz hc hg6
      go_enter Tryd.func37, Tryd.ntmps37
      go_wp2_with (first | (go_at_call 33; refine (HF _ H1.out).mono ?_; rintro x w1 ⟨rfl, rfl⟩; clear HF; have k1 := blk_cell H1.out.hk 1) | (go_at_call 56; refine (HN _ H1.out).mono ?_; rintro x w2 ⟨rfl, h2, g2⟩; clear HN k1; have H2 := Aside0.mk (VrAt.after H1.out g2 h2 (a, 6) (fun h => absurd h (show ¬ (6 : Int) = 0 by decide))); have HG2 := Aside0.mk (HG.out.trans (Gb2.of2 g2 b)); have hk2 := blk_grown H1.out.hk g2 (fun e => H1.out.hne (Option.some.inj e)); have k0 := blk_cell hk2 0; have f0 := blk_frozen hk2 0; clear hk2 h2 g2))
      go_ret
      exact ⟨rfl, H2.out, HG2.out.set 0 _⟩
  · have hz : numD L (a, e) wd lo hi = (0, a, e) := if_pos he
    rw [hz]
    rw [decide_eq_false he] at HF
    clear h h1 hA hz
    go_enter Tryd.func37, Tryd.ntmps37
    go_wp2_with (go_at_call 33; refine (HF _ H1.out).mono ?_; rintro x w1 ⟨rfl, rfl⟩; clear HF)
    go_ret
    exact ⟨rfl, H1.out, HG.out⟩
set_option maxHeartbeats 3200000 in
theorem vr_text (B b b2 : Nat) (L : List Int) (st : Nat × Int) (W : World) (h : VrAt B b b2 L st W) (hL : Oct L) (hs : L.length < 1000000000) :
    Calls Tryd.prog 57 #[.pointer (some ⟨b, 0, none⟩)] W fun x w' => x = .returned (.string (textD L st).1) ∧ VrAt B b b2 L (textD L st).2 w' ∧ Gb2 W w' b b2 := by
  obtain ⟨a, e⟩ := st
  have HF := fun (w1 : World) (h1 : VrAt B b b2 L (a, e) w1) => wr_fine b e w1 h1.cell
  have H1 := Aside0.mk h
  by_cases he : e = 0
  · subst he
    have HN := fun (w1 : World) (h1 : VrAt B b b2 L (a, 0) w1) => wrd_text B b2 L a w1 h1.wrd hL hs
    have hz : textD L (a, 0) = ((textG L a).1, (textG L a).2.2, (textG L a).2.1) := if_neg (by simp)
    rw [hz]
    generalize textG L a = gg at HN ⊢
    obtain ⟨s1, e1, a1⟩ := gg
    try simp only at HN ⊢
    clear h hz
    go_enter Tryd.func57, Tryd.ntmps57
    go_wp2_with (first | (go_at_call 33; refine (HF _ H1.out).mono ?_; rintro x w1 ⟨rfl, rfl⟩; clear HF; have k1 := blk_cell H1.out.hk 1) | (go_at_call 71; refine (HN _ H1.out).mono ?_; rintro x w2 ⟨rfl, h2, g2⟩; clear HN k1; have H2 := Aside0.mk (VrAt.after H1.out g2 h2 (a1, e1) (fun _ => rfl)); have HG2 := Aside0.mk (Gb2.of2 g2 b); have hk2 := blk_grown H1.out.hk g2 (fun e => H1.out.hne (Option.some.inj e)); have k0 := blk_cell hk2 0; have f0 := blk_frozen hk2 0; clear hk2 h2 g2))
    go_ret
    exact ⟨rfl, H2.out, HG2.out.set 0 _⟩
  · have hz : textD L (a, e) = (⟨#[]⟩, a, e) := if_pos he
    rw [hz]
    rw [decide_eq_false he] at HF
    clear h hz
    go_enter Tryd.func57, Tryd.ntmps57
    go_wp2_with (go_at_call 33; refine (HF _ H1.out).mono ?_; rintro x w1 ⟨rfl, rfl⟩; clear HF)
    go_ret
    exact ⟨rfl, H1.out, Gb2.refl _ _ _⟩
set_option maxHeartbeats 3200000 in
theorem vr_has (B b b2 : Nat) (L : List Int) (st : Nat × Int) (W : World) (h : VrAt B b b2 L st W) (hL : Oct L) (hs : L.length < 1000000000) :
    Calls Tryd.prog 58 #[.pointer (some ⟨b, 0, none⟩)] W fun x w' => x = .returned (.bool (hasD L st).1) ∧ VrAt B b b2 L (hasD L st).2 w' ∧ Gb2 W w' b b2 := by
  obtain ⟨a, e⟩ := st
  have HF := fun (w1 : World) (h1 : VrAt B b b2 L (a, e) w1) => wr_fine b e w1 h1.cell
  have H1 := Aside0.mk h
  by_cases he : e = 0
  · subst he
    have HN := fun (w1 : World) (h1 : VrAt B b b2 L (a, 0) w1) => wrd_flag B b2 L a w1 h1.wrd hL hs
    have hz : hasD L (a, 0) = ((flagG L a).1, (flagG L a).2.2, (flagG L a).2.1) := if_neg (by simp)
    rw [hz]
    generalize flagG L a = gg at HN ⊢
    obtain ⟨s1, e1, a1⟩ := gg
    try simp only at HN ⊢
    clear h hz
    go_enter Tryd.func58, Tryd.ntmps58
    go_wp2_with (first | (go_at_call 33; refine (HF _ H1.out).mono ?_; rintro x w1 ⟨rfl, rfl⟩; clear HF; have k1 := blk_cell H1.out.hk 1) | (go_at_call 72; refine (HN _ H1.out).mono ?_; rintro x w2 ⟨rfl, h2, g2⟩; clear HN k1; have H2 := Aside0.mk (VrAt.after H1.out g2 h2 (a1, e1) (fun _ => rfl)); have HG2 := Aside0.mk (Gb2.of2 g2 b); have hk2 := blk_grown H1.out.hk g2 (fun e => H1.out.hne (Option.some.inj e)); have k0 := blk_cell hk2 0; have f0 := blk_frozen hk2 0; clear hk2 h2 g2))
    go_ret
    exact ⟨rfl, H2.out, HG2.out.set 0 _⟩
  · have hz : hasD L (a, e) = (false, a, e) := if_pos he
    rw [hz]
    rw [decide_eq_false he] at HF
    clear h hz
    go_enter Tryd.func58, Tryd.ntmps58
    go_wp2_with (go_at_call 33; refine (HF _ H1.out).mono ?_; rintro x w1 ⟨rfl, rfl⟩; clear HF)
    go_ret
    exact ⟨rfl, H1.out, Gb2.refl _ _ _⟩
/-! a stored reply, read -/
def manyD {α : Type} (item : Nat × Int → α × Nat × Int) : Nat → Nat × Int → List α × Nat × Int
  | 0, st => ([], st)
  | n + 1, st => if st.2 ≠ 0 then ([], st) else ((item st).1 :: (manyD item n (item st).2).1, (manyD item n (item st).2).2)
def fieldD (L : List Int) (st : Nat × Int) : S62 × Nat × Int := (⟨(textD L st).1, (textD L (textD L st).2).1⟩, (textD L (textD L st).2).2)
def pickD (L : List Int) (st : Nat × Int) : S53 × Nat × Int := (⟨(textD L st).1, (hasD L (textD L st).2).1, (textD L (hasD L (textD L st).2).2).1⟩, (textD L (hasD L (textD L st).2).2).2)
def storedD (L : List Int) (st : Nat × Int) : S28 × Nat × Int :=
  let t := numD L st 5 0 253402300799
  let c := numD L t.2 2 200 599
  let m := numD L c.2 1 0 1
  let r := textD L m.2
  let n := numD L r.2 1 0 64
  let fs := manyD (fieldD L) n.1.toNat n.2
  let bd := textD L fs.2
  let n2 := numD L bd.2 1 0 64
  let ps := manyD (pickD L) n2.1.toNat n2.2
  (⟨⟨c.1, r.1, m.1, fs.1, bd.1⟩, t.1, ps.1⟩, ps.2)
theorem numD_in (L : List Int) (st : Nat × Int) (wd : Nat) (hi : Int) (lo : Int) (h : 0 ≤ lo) (hh : 0 ≤ hi) : 0 ≤ (numD L st wd lo hi).1 ∧ (numD L st wd lo hi).1 ≤ hi := by
  unfold numD
  split
  · exact ⟨Int.le_refl _, hh⟩
  · split
    · split
      · rename_i h1; exact ⟨Int.le_trans h h1.1, h1.2⟩
      · exact ⟨Int.le_refl _, hh⟩
    · exact ⟨Int.le_refl _, hh⟩
theorem many_err {α : Type} (item : Nat × Int → α × Nat × Int) (n : Nat) (st : Nat × Int) (h : n = 0 ∨ st.2 ≠ 0) : manyD item n st = ([], st) := by
  cases n with
  | zero => rfl
  | succ n =>
    rcases h with h | h
    · cases h
    · exact if_pos h
theorem many_go {α : Type} (item : Nat × Int → α × Nat × Int) (n : Nat) (st : Nat × Int) (h : st.2 = 0) : manyD item (n + 1) st = ((item st).1 :: (manyD item n (item st).2).1, (manyD item n (item st).2).2) := if_neg (fun c => c h)
theorem many_len {α : Type} (item : Nat × Int → α × Nat × Int) : ∀ (n : Nat) (st : Nat × Int), (manyD item n st).1.length ≤ n
  | 0, st => Nat.le_refl _
  | n + 1, st => by
    by_cases h : st.2 = 0
    · rw [many_go item n st h]; exact Nat.succ_le_succ (many_len item n _)
    · rw [many_err item _ _ (.inr h)]; exact Nat.zero_le _
theorem WrdAt.set {B g b t : Nat} {L : List Int} {a : Nat} {W : World} {cs : Array Value} (h : WrdAt B g L a W) (hk : W.heap[b]? = some (.cells cs t (0, 0))) (hne : b ≠ g) (ht : ∀ q, q ∈ [5] → q ≠ t) (j : Nat) (u : Value) : WrdAt B g L a (W.setCell ⟨b, j, none⟩ u) := by
  obtain ⟨v, hg, hr⟩ := h.out
  exact ⟨h.hB, by simpa [World.setCell] using h.hw, h.ha, v, blk_far hg (fun e => hne e.symm) u, Kd.R_set hr hk ht j u⟩
theorem WrdAt.over {B g : Nat} {L : List Int} {a : Nat} {W W1 : World} {v : Value} {e' : Nat} (h : WrdAt B g L a W) (hty : ∀ k, v.ownBlock = some k → ∃ cells, W.heap[k]? = some (.cells cells e' (0, 0))) (h1 : ∀ q, q ∈ [5] → q ≠ e') (h2 : 101 ≠ e') (hg : W.grownBy W1 v.ownBlock) : WrdAt B g L a W1 := by
  obtain ⟨u, hk, hr⟩ := h.out
  refine ⟨h.hB, Nat.le_trans h.hw hg.size, h.ha, u, blk_grown hk hg (fun e => ?_), Kd.R_over' hr hty h1 hg⟩
  obtain ⟨cells, hc⟩ := hty g e.symm
  rw [hk] at hc
  injection hc with hc
  injection hc with _ hc
  exact h2 hc
theorem VrAt.set {B b b2 g t : Nat} {L : List Int} {st : Nat × Int} {W : World} {cs : Array Value} (h : VrAt B b b2 L st W) (hk : W.heap[g]? = some (.cells cs t (0, 0))) (h1 : g ≠ b) (h2 : g ≠ b2) (ht : ∀ q, q ∈ [5] → q ≠ t) (j : Nat) (u : Value) : VrAt B b b2 L st (W.setCell ⟨g, j, none⟩ u) := by
  obtain ⟨a, ha, hw⟩ := h.out
  exact ⟨h.hB, h.hne, blk_far h.hk (fun e => h1 e.symm) u, a, ha, hw.set hk h2 ht j u⟩
theorem VrAt.over {B b b2 : Nat} {L : List Int} {st : Nat × Int} {W W1 : World} {v : Value} {e' : Nat} (h : VrAt B b b2 L st W) (hty : ∀ k, v.ownBlock = some k → ∃ cells, W.heap[k]? = some (.cells cells e' (0, 0))) (h1 : ∀ q, q ∈ [5] → q ≠ e') (h2 : 101 ≠ e') (h3 : 81 ≠ e') (hg : W.grownBy W1 v.ownBlock) : VrAt B b b2 L st W1 := by
  obtain ⟨a, ha, hw⟩ := h.out
  refine ⟨h.hB, h.hne, blk_grown h.hk hg (fun e => ?_), a, ha, hw.over hty h1 h2 hg⟩
  obtain ⟨cells, hc⟩ := hty b e.symm
  rw [h.hk] at hc
  injection hc with hc
  injection hc with _ hc
  exact h3 hc
/-- The readers; beside them the result's box (zero) and the reply's, whose rows are fs and ps (in blocks that are ok). -/
structure SdAt (w : World) (B b b2 : Nat) (L : List Int) (st : Nat × Int) (c : Array Value) (ok : Nat → Prop) (v3 : Value) (fs : List S62) (v6 : Value) (ps : List S53) (W : World) : Prop where
  rd : VrAt B b b2 L st W
  s2 : W.heap[w.heap.size]? = some (.cells #[.int .i64 0, .string ⟨#[]⟩, .int .i64 0, .slice none 0 0, .string ⟨#[]⟩, .int .i64 0, .slice none 0 0] 28 (0, 0))
  s3 : W.heap[w.heap.size + 1]? = some (.cells c 28 (0, 0))
  gr : Gb2 w W b b2
  l1 : b < w.heap.size
  l2 : b2 < w.heap.size
  r3 : Kd.R k62 62 W w.heap.size ok v3 fs
  r6 : Kd.R k53 53 W w.heap.size ok v6 ps
/-- The like, at the end: the result's box. -/
structure SfAt (w : World) (B b b2 : Nat) (L : List Int) (st : Nat × Int) (c : Array Value) (ok : Nat → Prop) (v3 : Value) (fs : List S62) (v6 : Value) (ps : List S53) (W : World) : Prop where
  rd : VrAt B b b2 L st W
  s2 : W.heap[w.heap.size]? = some (.cells c 28 (0, 0))
  gr : Gb2 w W b b2
  l1 : b < w.heap.size
  l2 : b2 < w.heap.size
  r3 : Kd.R k62 62 W w.heap.size ok v3 fs
  r6 : Kd.R k53 53 W w.heap.size ok v6 ps
section
variable {w : World} {B b b2 : Nat} {L : List Int} {st : Nat × Int} {c : Array Value} {ok : Nat → Prop} {v3 v6 : Value} {fs : List S62} {ps : List S53} {W W' : World}
theorem SdAt.step (h : SdAt w B b b2 L st c ok v3 fs v6 ps W) (hg : Gb2 W W' b b2) {st' : Nat × Int} (hr : VrAt B b b2 L st' W') : SdAt w B b b2 L st' c ok v3 fs v6 ps W' :=
  ⟨hr, hg.blk h.s2 (by have := h.l1; omega) (by have := h.l2; omega), hg.blk h.s3 (by have := h.l1; omega) (by have := h.l2; omega), h.gr.trans hg, h.l1, h.l2,
    Kd.R_mono (Kd.R_step (Kd.R_bound h.r3) (fun k hk hlt => hg.block k hlt (by have := h.l1; have := hk.2.1; omega) (by have := h.l2; have := hk.2.1; omega))) (fun _ hk => hk.1),
    Kd.R_mono (Kd.R_step (Kd.R_bound h.r6) (fun k hk hlt => hg.block k hlt (by have := h.l1; have := hk.2.1; omega) (by have := h.l2; have := hk.2.1; omega))) (fun _ hk => hk.1)⟩
theorem SdAt.below (h : SdAt w B b b2 L st c ok v3 fs v6 ps W) (hb : Below W.heap.size W W') : SdAt w B b b2 L st c ok v3 fs v6 ps W' := h.step (Gb2.of_below hb b b2) (h.rd.below hb)
theorem SdAt.mono (h : SdAt w B b b2 L st c ok v3 fs v6 ps W) {ok' : Nat → Prop} (hk : ∀ k, k < W.heap.size → ok k → ok' k) : SdAt w B b b2 L st c ok' v3 fs v6 ps W :=
  ⟨h.rd, h.s2, h.s3, h.gr, h.l1, h.l2, Kd.R_mono (Kd.R_bound h.r3) (fun k q => hk k q.2.2.1 q.1), Kd.R_mono (Kd.R_bound h.r6) (fun k q => hk k q.2.2.1 q.1)⟩
theorem SdAt.put (h : SdAt w B b b2 L st c ok v3 fs v6 ps W) (j : Nat) (u : Value) {c' : Array Value} (hc : c.setIfInBounds j u = c') : SdAt w B b b2 L st c' ok v3 fs v6 ps (W.setCell ⟨w.heap.size + 1, j, none⟩ u) :=
  ⟨h.rd.set h.s3 (by have := h.l1; omega) (by have := h.l2; omega) (by decide) j u, blk_far h.s2 (by show w.heap.size ≠ w.heap.size + 1; omega) u, blk_put h.s3 j u hc,
    ⟨h.gr.os, h.gr.tape, h.gr.output, by simpa [World.setCell] using h.gr.size, fun k hk h1 h2 => (Below.heap_setCell W ⟨w.heap.size + 1, j, none⟩ u k (by show k ≠ w.heap.size + 1; omega)).trans (h.gr.block k hk h1 h2)⟩, h.l1, h.l2,
    Kd.R_set h.r3 h.s3 (by decide) j u, Kd.R_set h.r6 h.s3 (by decide) j u⟩
theorem SdAt.box {g t : Nat} {cs : Array Value} (h : SdAt w B b b2 L st c ok v3 fs v6 ps W) (hk : W.heap[g]? = some (.cells cs t (0, 0))) (hg : w.heap.size + 2 ≤ g) (hok : ∀ k, ok k → k ≠ g) (ht : ∀ q, q ∈ [5] → q ≠ t) (j : Nat) (u : Value) : SdAt w B b b2 L st c ok v3 fs v6 ps (W.setCell ⟨g, j, none⟩ u) :=
  ⟨h.rd.set hk (by have := h.l1; omega) (by have := h.l2; omega) ht j u, blk_far h.s2 (by show w.heap.size ≠ g; omega) u, blk_far h.s3 (by show w.heap.size + 1 ≠ g; omega) u,
    ⟨h.gr.os, h.gr.tape, h.gr.output, by simpa [World.setCell] using h.gr.size, fun k hk h1 h2 => (Below.heap_setCell W ⟨g, j, none⟩ u k (by show k ≠ g; omega)).trans (h.gr.block k hk h1 h2)⟩, h.l1, h.l2,
    Kd.R_far h.r3 (p := ⟨g, j, none⟩) hok u, Kd.R_far h.r6 (p := ⟨g, j, none⟩) hok u⟩
theorem SdAt.app3 (h : SdAt w B b b2 L st c ok v3 fs v6 ps W) (hg : W.grownBy W' v3.ownBlock) (hb : Below w.heap.size W W') {v3' : Value} {fs' : List S62} (hr : Kd.R k62 62 W' w.heap.size ok v3' fs') : SdAt w B b b2 L st c ok v3' fs' v6 ps W' :=
  ⟨h.rd.over (Kd.R_typed h.r3) (by decide) (by decide) (by decide) hg, blk_grown h.s2 hg (Kd.R_ne h.r3 h.s2 (by decide)), blk_grown h.s3 hg (Kd.R_ne h.r3 h.s3 (by decide)),
    ⟨hb.os.trans h.gr.os, hb.tape.trans h.gr.tape, hb.output.trans h.gr.output, Nat.le_trans h.gr.size hb.size, fun k hk h1 h2 => (hb.block k hk).trans (h.gr.block k hk h1 h2)⟩, h.l1, h.l2,
    hr, Kd.R_over' h.r6 (Kd.R_typed h.r3) (by decide) hg⟩
theorem SdAt.app6 (h : SdAt w B b b2 L st c ok v3 fs v6 ps W) (hg : W.grownBy W' v6.ownBlock) (hb : Below w.heap.size W W') {v6' : Value} {ps' : List S53} (hr : Kd.R k53 53 W' w.heap.size ok v6' ps') : SdAt w B b b2 L st c ok v3 fs v6' ps' W' :=
  ⟨h.rd.over (Kd.R_typed h.r6) (by decide) (by decide) (by decide) hg, blk_grown h.s2 hg (Kd.R_ne h.r6 h.s2 (by decide)), blk_grown h.s3 hg (Kd.R_ne h.r6 h.s3 (by decide)),
    ⟨hb.os.trans h.gr.os, hb.tape.trans h.gr.tape, hb.output.trans h.gr.output, Nat.le_trans h.gr.size hb.size, fun k hk h1 h2 => (hb.block k hk).trans (h.gr.block k hk h1 h2)⟩, h.l1, h.l2,
    Kd.R_over' h.r3 (Kd.R_typed h.r6) (by decide) hg, hr⟩
theorem SdAt.fin (h : SdAt w B b b2 L st c ok v3 fs v6 ps W) : SfAt w B b b2 L st #[.int .i64 0, .string ⟨#[]⟩, .int .i64 0, .slice none 0 0, .string ⟨#[]⟩, .int .i64 0, .slice none 0 0] ok v3 fs v6 ps W := ⟨h.rd, h.s2, h.gr, h.l1, h.l2, h.r3, h.r6⟩
theorem SfAt.put (h : SfAt w B b b2 L st c ok v3 fs v6 ps W) (j : Nat) (u : Value) {c' : Array Value} (hc : c.setIfInBounds j u = c') : SfAt w B b b2 L st c' ok v3 fs v6 ps (W.setCell ⟨w.heap.size, j, none⟩ u) :=
  ⟨h.rd.set h.s2 (by have := h.l1; omega) (by have := h.l2; omega) (by decide) j u, blk_put h.s2 j u hc,
    ⟨h.gr.os, h.gr.tape, h.gr.output, by simpa [World.setCell] using h.gr.size, fun k hk h1 h2 => (Below.heap_setCell W ⟨w.heap.size, j, none⟩ u k (by show k ≠ w.heap.size; omega)).trans (h.gr.block k hk h1 h2)⟩, h.l1, h.l2,
    Kd.R_set h.r3 h.s2 (by decide) j u, Kd.R_set h.r6 h.s2 (by decide) j u⟩
theorem SdAt.num (h : SdAt w B b b2 L st c ok v3 fs v6 ps W) (wd : Nat) (lo hi : Int) (hL : Oct L) (hs : L.length < 1000000000) (hw : 1 ≤ wd ∧ wd ≤ 5) (r : Int × Nat × Int) (hr : numD L st wd lo hi = r) :
    Calls Tryd.prog 37 #[.pointer (some ⟨b, 0, none⟩), .int .i64 wd, .agg #[.int .i64 lo, .int .i64 hi]] W fun x w' => x = .returned (.int .i64 r.1) ∧ SdAt w B b b2 L r.2 c ok v3 fs v6 ps w' ∧ Gb2 W w' b b2 := by
  subst hr
  exact (vr_num B b b2 L st wd lo hi W h.rd hL hs hw).mono fun x w' ⟨h1, h2, h3⟩ => ⟨h1, h.step h3 h2, h3⟩
theorem SdAt.text (h : SdAt w B b b2 L st c ok v3 fs v6 ps W) (hL : Oct L) (hs : L.length < 1000000000) (r : ByteArray × Nat × Int) (hr : textD L st = r) :
    Calls Tryd.prog 57 #[.pointer (some ⟨b, 0, none⟩)] W fun x w' => x = .returned (.string r.1) ∧ SdAt w B b b2 L r.2 c ok v3 fs v6 ps w' ∧ Gb2 W w' b b2 := by
  subst hr
  exact (vr_text B b b2 L st W h.rd hL hs).mono fun x w' ⟨h1, h2, h3⟩ => ⟨h1, h.step h3 h2, h3⟩
theorem SdAt.has (h : SdAt w B b b2 L st c ok v3 fs v6 ps W) (hL : Oct L) (hs : L.length < 1000000000) (r : Bool × Nat × Int) (hr : hasD L st = r) :
    Calls Tryd.prog 58 #[.pointer (some ⟨b, 0, none⟩)] W fun x w' => x = .returned (.bool r.1) ∧ SdAt w B b b2 L r.2 c ok v3 fs v6 ps w' ∧ Gb2 W w' b b2 := by
  subst hr
  exact (vr_has B b b2 L st W h.rd hL hs).mono fun x w' ⟨h1, h2, h3⟩ => ⟨h1, h.step h3 h2, h3⟩
end
theorem picks_info : (Tryd.prog.info? 53).map (fun i => (i.zero, i.size, i.bytes)) = some (some (.agg #[(.string ⟨#[]⟩), (.bool false), (.string ⟨#[]⟩)]), 3, 40) := by kernel_rfl
set_option maxHeartbeats 12800000 in
set_option maxRecDepth 100000 in
theorem vr_stored (B b b2 : Nat) (L : List Int) (st : Nat × Int) (w : World) (h : VrAt B b b2 L st w) (hL : Oct L) (hs : L.length < 1000000000) :
    Calls Tryd.prog 38 #[.pointer (some ⟨b, 0, none⟩)] w fun x w' => (∃ v3 v6, x = .returned (.agg #[.int .i64 (storedD L st).1.f0.f0, .string (storedD L st).1.f0.f1, .int .i64 (storedD L st).1.f0.f2, v3, .string (storedD L st).1.f0.f4, .int .i64 (storedD L st).1.f1, v6]) ∧ Kd.R k62 62 w' w.heap.size (fun _ => True) v3 (storedD L st).1.f0.f3 ∧ Kd.R k53 53 w' w.heap.size (fun _ => True) v6 (storedD L st).1.f2) ∧ VrAt B b b2 L (storedD L st).2 w' ∧ Gb2 w w' b b2 := by
  have h1 := h.lt1
  have h2 := h.lt2
  have HH := Aside0.mk h
  clear h
  obtain ⟨z1, hz1⟩ : ∃ z, numD L st 5 0 253402300799 = z := ⟨_, rfl⟩
  obtain ⟨z2, hz2⟩ : ∃ z, numD L z1.2 2 200 599 = z := ⟨_, rfl⟩
  obtain ⟨z3, hz3⟩ : ∃ z, numD L z2.2 1 0 1 = z := ⟨_, rfl⟩
  obtain ⟨z4, hz4⟩ : ∃ z, textD L z3.2 = z := ⟨_, rfl⟩
  obtain ⟨z5, hz5⟩ : ∃ z, numD L z4.2 1 0 64 = z := ⟨_, rfl⟩
  obtain ⟨z6, hz6⟩ : ∃ z, manyD (fieldD L) z5.1.toNat z5.2 = z := ⟨_, rfl⟩
  obtain ⟨z7, hz7⟩ : ∃ z, textD L z6.2 = z := ⟨_, rfl⟩
  obtain ⟨z8, hz8⟩ : ∃ z, numD L z7.2 1 0 64 = z := ⟨_, rfl⟩
  obtain ⟨z9, hz9⟩ : ∃ z, manyD (pickD L) z8.1.toNat z8.2 = z := ⟨_, rfl⟩
  have hfin : storedD L st = (⟨⟨z2.1, z4.1, z3.1, z6.1, z7.1⟩, z1.1, z9.1⟩, z9.2) := by rw [← hz9, ← hz8, ← hz7, ← hz6, ← hz5, ← hz4, ← hz3, ← hz2, ← hz1]; rfl
  rw [hfin]
  simp only
  clear hfin
  have hn5 := numD_in L z4.2 1 64 0 (by decide) (by decide)
  have hn8 := numD_in L z7.2 1 64 0 (by decide) (by decide)
  rw [hz5] at hn5
  rw [hz8] at hn8
  have Z1 := Aside0.mk hz1
  have Z2 := Aside0.mk hz2
  have Z3 := Aside0.mk hz3
  have Z4 := Aside0.mk hz4
  have Z5 := Aside0.mk hz5
  have Z6 := Aside0.mk hz6
  have Z7 := Aside0.mk hz7
  have Z8 := Aside0.mk hz8
  have Z9 := Aside0.mk hz9
  clear hz1 hz2 hz3 hz4 hz5 hz6 hz7 hz8 hz9
  go_enter Tryd.func38, Tryd.ntmps38
  go_upto_region 2 with (fail)
  have hb1 := Hand.alloc_below w (.cells #[.int .i64 0, .string ⟨#[]⟩, .int .i64 0, .slice none 0 0, .string ⟨#[]⟩, .int .i64 0, .slice none 0 0] 28)
  have hb2 := Hand.alloc_below (w.alloc (.cells #[.int .i64 0, .string ⟨#[]⟩, .int .i64 0, .slice none 0 0, .string ⟨#[]⟩, .int .i64 0, .slice none 0 0] 28)) (.cells #[.int .i64 0, .string ⟨#[]⟩, .int .i64 0, .slice none 0 0, .string ⟨#[]⟩, .int .i64 0, .slice none 0 0] 28)
  have s3 := blk_new (w.alloc (.cells #[.int .i64 0, .string ⟨#[]⟩, .int .i64 0, .slice none 0 0, .string ⟨#[]⟩, .int .i64 0, .slice none 0 0] 28)) (.cells #[.int .i64 0, .string ⟨#[]⟩, .int .i64 0, .slice none 0 0, .string ⟨#[]⟩, .int .i64 0, .slice none 0 0] 28)
  rw [show (w.alloc (.cells #[.int .i64 0, .string ⟨#[]⟩, .int .i64 0, .slice none 0 0, .string ⟨#[]⟩, .int .i64 0, .slice none 0 0] 28)).heap.size = w.heap.size + 1 by simp] at s3
  have S0 : Aside0 (SdAt w B b b2 L st #[.int .i64 0, .string ⟨#[]⟩, .int .i64 0, .slice none 0 0, .string ⟨#[]⟩, .int .i64 0, .slice none 0 0] (fun _ => True) (.slice none 0 0) [] (.slice none 0 0) [] ((w.alloc (.cells #[.int .i64 0, .string ⟨#[]⟩, .int .i64 0, .slice none 0 0, .string ⟨#[]⟩, .int .i64 0, .slice none 0 0] 28)).alloc (.cells #[.int .i64 0, .string ⟨#[]⟩, .int .i64 0, .slice none 0 0, .string ⟨#[]⟩, .int .i64 0, .slice none 0 0] 28))) := ⟨(HH.out.below hb1).below hb2, blk_alloc (blk_new w (.cells #[.int .i64 0, .string ⟨#[]⟩, .int .i64 0, .slice none 0 0, .string ⟨#[]⟩, .int .i64 0, .slice none 0 0] 28)) (.cells #[.int .i64 0, .string ⟨#[]⟩, .int .i64 0, .slice none 0 0, .string ⟨#[]⟩, .int .i64 0, .slice none 0 0] 28), s3, (Gb2.of_below hb1 b b2).trans (Gb2.of_below hb2 b b2), h1, h2, Kd.R_nil _ _ _ _ _, Kd.R_nil _ _ _ _ _⟩
  clear hb1 hb2 s3 HH
  generalize (w.alloc (.cells #[.int .i64 0, .string ⟨#[]⟩, .int .i64 0, .slice none 0 0, .string ⟨#[]⟩, .int .i64 0, .slice none 0 0] 28)).alloc (.cells #[.int .i64 0, .string ⟨#[]⟩, .int .i64 0, .slice none 0 0, .string ⟨#[]⟩, .int .i64 0, .slice none 0 0] 28) = W0 at S0 ⊢
  go_upto_region 3 with (first | (go_at_call 48; refine (variant_times.calls 0 253402300799 _ rfl).mono ?_; rintro r w1 ⟨rfl, hb⟩; have T0 := Aside0.mk (S0.out.below hb); clear hb) | (go_at_call 37; refine (SdAt.num T0.out 5 0 253402300799 hL hs (by decide) z1 Z1.out).mono ?_; rintro r w2 ⟨rfl, hq, _⟩; have T1 := Aside0.mk hq; have c5 := blk_cell hq.s3 5; have f5 := blk_frozen hq.s3 5; clear hq T0))
  have S1 := Aside0.mk (T1.out.put 5 (.int .i64 z1.1) (c' := #[.int .i64 0, .string ⟨#[]⟩, .int .i64 0, .slice none 0 0, .string ⟨#[]⟩, .int .i64 z1.1, .slice none 0 0]) rfl)
  clear T1 c5 f5 S0
  generalize w2.setCell ⟨w.heap.size + 1, 5, none⟩ (.int .i64 z1.1) = W1 at S1 ⊢
  go_upto_region 4 with (first | (go_at_call 49; refine (variant_codes.calls 200 599 _ rfl).mono ?_; rintro r w1 ⟨rfl, hb⟩; have T0 := Aside0.mk (S1.out.below hb); clear hb) | (go_at_call 37; refine (SdAt.num T0.out 2 200 599 hL hs (by decide) z2 Z2.out).mono ?_; rintro r w2 ⟨rfl, hq, _⟩; have T1 := Aside0.mk hq; have c5 := blk_cell hq.s3 0; have f5 := blk_frozen hq.s3 0; clear hq T0))
  have S2 := Aside0.mk (T1.out.put 0 (.int .i64 z2.1) (c' := #[.int .i64 z2.1, .string ⟨#[]⟩, .int .i64 0, .slice none 0 0, .string ⟨#[]⟩, .int .i64 z1.1, .slice none 0 0]) rfl)
  clear T1 c5 f5 S1
  generalize w2.setCell ⟨w.heap.size + 1, 0, none⟩ (.int .i64 z2.1) = W2 at S2 ⊢
  go_upto_region 5 with (first | (go_at_call 50; refine (variant_minors.calls 0 1 _ rfl).mono ?_; rintro r w1 ⟨rfl, hb⟩; have T0 := Aside0.mk (S2.out.below hb); clear hb) | (go_at_call 37; refine (SdAt.num T0.out 1 0 1 hL hs (by decide) z3 Z3.out).mono ?_; rintro r w2 ⟨rfl, hq, _⟩; have T1 := Aside0.mk hq; have c5 := blk_cell hq.s3 2; have f5 := blk_frozen hq.s3 2; clear hq T0))
  have S3 := Aside0.mk (T1.out.put 2 (.int .i64 z3.1) (c' := #[.int .i64 z2.1, .string ⟨#[]⟩, .int .i64 z3.1, .slice none 0 0, .string ⟨#[]⟩, .int .i64 z1.1, .slice none 0 0]) rfl)
  clear T1 c5 f5 S2
  generalize w2.setCell ⟨w.heap.size + 1, 2, none⟩ (.int .i64 z3.1) = W3 at S3 ⊢
  go_upto_region 6 with (go_at_call 57; refine (SdAt.text S3.out hL hs z4 Z4.out).mono ?_; rintro r w2 ⟨rfl, hq, _⟩; have T1 := Aside0.mk hq; have c5 := blk_cell hq.s3 1; have f5 := blk_frozen hq.s3 1; clear hq)
  have S4 := Aside0.mk (T1.out.put 1 (.string z4.1) (c' := #[.int .i64 z2.1, .string z4.1, .int .i64 z3.1, .slice none 0 0, .string ⟨#[]⟩, .int .i64 z1.1, .slice none 0 0]) rfl)
  clear T1 c5 f5 S3
  generalize w2.setCell ⟨w.heap.size + 1, 1, none⟩ (.string z4.1) = W4 at S4 ⊢
  obtain ⟨n5, hn5e⟩ := Int.eq_ofNat_of_zero_le hn5.1
  have Z6' : Aside0 (manyD (fieldD L) n5 z5.2 = z6) := by have := Z6.out; rw [hn5e] at this; exact ⟨this⟩
  have hn5b : n5 ≤ 64 := by omega
  have HN5 := Aside0.mk hn5e
  clear hn5e hn5 Z6
  go_wp2_with (first | (go_at_call 52; refine (variant_counts.calls 0 64 _ rfl).mono ?_; rintro r w1 ⟨rfl, hb⟩; have T0 := Aside0.mk (S4.out.below hb); clear hb S4) | (go_at_call 37; refine (SdAt.num T0.out 1 0 64 hL hs (by decide) z5 Z5.out).mono ?_; rintro r w2 ⟨rfl, hq, _⟩; rw [HN5.out]; have S5 := Aside0.mk hq; clear hq T0))
  go_loopw [4, 5] (fun v4 v5 wx => ∃ (k : Nat) (A3 : Option Addr) (c3 : Nat) (acc : List S62) (stk : Nat × Int), v4 = .int .i64 k ∧ k ≤ 64 ∧ acc.length + k ≤ 64 ∧ Aside0 (SdAt w B b b2 L stk #[.int .i64 z2.1, .string z4.1, .int .i64 z3.1, .slice A3 acc.length c3, .string ⟨#[]⟩, .int .i64 z1.1, .slice none 0 0] (fun _ => True) (.slice A3 acc.length c3) acc (.slice none 0 0) [] wx) ∧ Aside0 (z6 = (acc ++ (manyD (fieldD L) k stk).1, (manyD (fieldD L) k stk).2))) (fun v4 _ _ => (intOf v4).toNat)
  case atStart => exact ⟨n5, none, 0, [], z5.2, rfl, hn5b, by simpa using hn5b, S5, ⟨by rw [← Z6'.out]; rfl⟩⟩
  case round =>
    clear S5 Z6' hn5b
    obtain ⟨k, A3, c3, acc, stk, rfl, hk, hak, SR, ZR⟩ := hrel
    have f0 := wr_fine b stk.2 wr SR.out.rd.cell
    by_cases hgo : 0 < k ∧ stk.2 = 0
    · obtain ⟨hk0, he0⟩ := hgo
      obtain ⟨k, rfl⟩ : ∃ m, k = m + 1 := ⟨k - 1, by omega⟩
      have zr := ZR.out
      rw [many_go _ _ _ he0] at zr
      have hcast : ((k + 1 : Nat) : Int) = (k : Int) + 1 := by omega
      rw [decide_eq_true he0] at f0
      rw [hcast]
      obtain ⟨y1, hy1⟩ : ∃ z, textD L stk = z := ⟨_, rfl⟩
      obtain ⟨y2, hy2⟩ : ∃ z, textD L y1.2 = z := ⟨_, rfl⟩
      have hfd : fieldD L stk = (⟨y1.1, y2.1⟩, y2.2) := by rw [← hy2, ← hy1]; rfl
      rw [hfd] at zr
      have ZR2 := Aside0.mk zr
      have Y1 := Aside0.mk hy1
      have Y2 := Aside0.mk hy2
      clear zr hcast hfd hy1 hy2 ZR he0
      go_upto_region 10 with (go_at_call 33; refine f0.mono ?_; rintro x w1 ⟨rfl, rfl⟩; clear f0)
      have hbx := blk_new w1 (.cells #[.string ⟨#[]⟩, .string ⟨#[]⟩] 62)
      have hge : w.heap.size + 2 ≤ w1.heap.size := by have := blk_lt SR.out.s3; omega
      have S1 := Aside0.mk ((SR.out.mono (ok' := fun k => k ≠ w1.heap.size) (fun k hk _ => by omega)).below (Hand.alloc_below w1 (.cells #[.string ⟨#[]⟩, .string ⟨#[]⟩] 62)))
      clear SR
      generalize w1.alloc (.cells #[.string ⟨#[]⟩, .string ⟨#[]⟩] 62) = wA at hbx S1 ⊢
      generalize w1.heap.size = g5 at hbx S1 hge ⊢
      have HBX := Aside0.mk hbx
      clear hbx
      go_upto_region 11 with (go_at_call 57; refine (SdAt.text S1.out hL hs y1 Y1.out).mono ?_; rintro r w2 ⟨rfl, hq, hg⟩; have S2 := Aside0.mk hq; have HB2 := Aside0.mk (hg.blk HBX.out (by omega) (by omega)); have c5 := blk_cell HB2.out 0; have f5 := blk_frozen HB2.out 0; clear hq hg S1 HBX)
      have S3 := Aside0.mk (S2.out.box HB2.out hge (fun _ h => h) (by decide) 0 (.string y1.1))
      have HB3 := Aside0.mk (blk_put HB2.out 0 (.string y1.1) (cs' := #[.string y1.1, .string ⟨#[]⟩]) rfl)
      clear S2 HB2 c5 f5
      generalize w2.setCell ⟨g5, 0, none⟩ (.string y1.1) = wB at S3 HB3 ⊢
      go_upto_region 12 with (go_at_call 57; refine (SdAt.text S3.out hL hs y2 Y2.out).mono ?_; rintro r w3 ⟨rfl, hq, hg⟩; have S4 := Aside0.mk hq; have HB4 := Aside0.mk (hg.blk HB3.out (by omega) (by omega)); have c5 := blk_cell HB4.out 1; have f5 := blk_frozen HB4.out 1; clear hq hg S3 HB3)
      have S5 := Aside0.mk (S4.out.box HB4.out hge (fun _ h => h) (by decide) 1 (.string y2.1))
      have HB5 := Aside0.mk (blk_put HB4.out 1 (.string y2.1) (cs' := #[.string y1.1, .string y2.1]) rfl)
      clear S4 HB4 c5 f5
      generalize w3.setCell ⟨g5, 1, none⟩ (.string y2.1) = wC at S5 HB5 ⊢
      have b0 := blk_cell HB5.out 0
      have b1 := blk_cell HB5.out 1
      have c5 := blk_cell S5.out.s3 3
      have S6 := Aside0.mk (S5.out.mono (ok' := fun _ => True) (fun _ _ _ => trivial))
      clear S5 HB5
      have HR := Aside0.mk S6.out.r3
      have HS3 : w.heap.size ≤ wC.heap.size := S6.out.gr.size
      go_wp2_with (at_builtin; go_loud (refine Kd.R_append k62 (w0 := wC) w.heap.size rfl (.tmp 47) (.tmp 49) 23 62 (.agg #[(.string ⟨#[]⟩), (.string ⟨#[]⟩)]) 32 rfl Tryd.underlying23 fields_info rfl (by decide) (by omega) (.slice A3 acc.length c3) acc ⟨y1.1, y2.1⟩ [.string y1.1, .string y2.1] (fun _ => True) (fun _ => False) rfl rfl ?aP (fun _ hk => hk.elim) ?aF ?aO ?aB ?aS ?aL ?_); (case aP => exact k62_mkM _ _ _ _); (case aB => exact Below.refl _ _); (case aF => exact (fun _ _ => trivial)); (case aO => exact HR.out); (case aS => exact HS3); (case aL => omega); intro v2 w4 ho hb hg hat; obtain ⟨A9, c9, rfl⟩ := Kd.R_slice ho; have S7 := Aside0.mk (S6.out.app3 hg hb ho); have c7 := blk_cell S7.out.s3 3; have f7 := blk_frozen S7.out.s3 3; clear S6 HR ho hb hg hat)
      refine ⟨⟨k, A9, c9, acc ++ [⟨y1.1, y2.1⟩], y2.2, rfl, by omega, by simp; omega, ⟨?_⟩, ⟨?_⟩⟩, by simp [intOf] <;> omega⟩
      · have q := S7.out
        have hl9 : (acc ++ [(⟨y1.1, y2.1⟩ : S62)]).length = acc.length + 1 := by simp
        rw [hl9] at q ⊢
        exact q.put 3 _ rfl
      · rw [List.append_assoc]; exact ZR2.out
    · have hz6 : z6 = (acc, stk) := by
        have hz : k = 0 ∨ stk.2 ≠ 0 := by omega
        have h9 := ZR.out
        rw [many_err _ _ _ hz] at h9
        simpa using h9
      have Z7' : Aside0 (textD L stk = z7) := ⟨by have := Z7.out; rw [hz6] at this; exact this⟩
      have HZ6 := Aside0.mk hz6
      clear hz6 Z7 ZR
      by_cases hk0 : 0 < k
      all_goals
        (try have he0 : ¬ stk.2 = 0 := fun e => hgo ⟨hk0, e⟩)
        (try rw [decide_eq_false he0] at f0)
        clear hgo
        (try clear he0)
        go_upto_region 14 with (first | (go_at_call 33; refine f0.mono ?_; rintro x w1 ⟨rfl, rfl⟩; clear f0) | (go_at_call 57; refine (SdAt.text SR.out hL hs z7 Z7'.out).mono ?_; rintro r w5 ⟨rfl, hq, _⟩; have T1 := Aside0.mk hq; have c5 := blk_cell hq.s3 4; have f5 := blk_frozen hq.s3 4; clear hq SR))
        have S1 := Aside0.mk (T1.out.put 4 (.string z7.1) (c' := #[.int .i64 z2.1, .string z4.1, .int .i64 z3.1, .slice A3 acc.length c3, .string z7.1, .int .i64 z1.1, .slice none 0 0]) rfl)
        clear T1 c5 f5
        generalize w5.setCell ⟨w.heap.size + 1, 4, none⟩ (.string z7.1) = W5 at S1 ⊢
        obtain ⟨n8, hn8e⟩ := Int.eq_ofNat_of_zero_le hn8.1
        have Z9' : Aside0 (manyD (pickD L) n8 z8.2 = z9) := by have := Z9.out; rw [hn8e] at this; exact ⟨this⟩
        have hn8b : n8 ≤ 64 := by omega
        have HN8 := Aside0.mk hn8e
        clear hn8e hn8 Z9
        go_wp2_with (first | (go_at_call 52; refine (variant_counts.calls 0 64 _ rfl).mono ?_; rintro r w1 ⟨rfl, hb⟩; have T0 := Aside0.mk (S1.out.below hb); clear hb S1) | (go_at_call 37; refine (SdAt.num T0.out 1 0 64 hL hs (by decide) z8 Z8.out).mono ?_; rintro r w2 ⟨rfl, hq, _⟩; rw [HN8.out]; have S2 := Aside0.mk hq; clear hq T0))
        go_loopw [6, 7] (fun v6 v7 wx => ∃ (kk : Nat) (A6 : Option Addr) (c6 : Nat) (acd : List S53) (stq : Nat × Int), v6 = .int .i64 kk ∧ kk ≤ 64 ∧ acd.length + kk ≤ 64 ∧ Aside0 (SdAt w B b b2 L stq #[.int .i64 z2.1, .string z4.1, .int .i64 z3.1, .slice A3 acc.length c3, .string z7.1, .int .i64 z1.1, .slice A6 acd.length c6] (fun _ => True) (.slice A3 acc.length c3) acc (.slice A6 acd.length c6) acd wx) ∧ Aside0 (z9 = (acd ++ (manyD (pickD L) kk stq).1, (manyD (pickD L) kk stq).2))) (fun v6 _ _ => (intOf v6).toNat)
        case atStart => exact ⟨n8, none, 0, [], z8.2, rfl, hn8b, by simpa using hn8b, S2, ⟨by rw [← Z9'.out]; rfl⟩⟩
        case round =>
          clear S2 Z9' hn8b
          obtain ⟨kk, A6, c6, acd, stq, rfl, hkk, hakk, SR, ZR⟩ := hrel
          have f0 := wr_fine b stq.2 wr SR.out.rd.cell
          by_cases hgo : 0 < kk ∧ stq.2 = 0
          · obtain ⟨hkk0, he0⟩ := hgo
            obtain ⟨kk, rfl⟩ : ∃ m, kk = m + 1 := ⟨kk - 1, by omega⟩
            have zr := ZR.out
            rw [many_go _ _ _ he0] at zr
            have hcast : ((kk + 1 : Nat) : Int) = (kk : Int) + 1 := by omega
            rw [decide_eq_true he0] at f0
            rw [hcast]
            obtain ⟨y1, hy1⟩ : ∃ z, textD L stq = z := ⟨_, rfl⟩
            obtain ⟨y2, hy2⟩ : ∃ z, hasD L y1.2 = z := ⟨_, rfl⟩
            obtain ⟨y3, hy3⟩ : ∃ z, textD L y2.2 = z := ⟨_, rfl⟩
            have hfd : pickD L stq = (⟨y1.1, y2.1, y3.1⟩, y3.2) := by rw [← hy3, ← hy2, ← hy1]; rfl
            rw [hfd] at zr
            have ZR2 := Aside0.mk zr
            have Y1 := Aside0.mk hy1
            have Y2 := Aside0.mk hy2
            have Y3 := Aside0.mk hy3
            clear zr hcast hfd hy1 hy2 hy3 ZR he0
            go_upto_region 18 with (go_at_call 33; refine f0.mono ?_; rintro x w1 ⟨rfl, rfl⟩; clear f0)
            have hbx := blk_new w1 (.cells #[.string ⟨#[]⟩, .bool false, .string ⟨#[]⟩] 53)
            have hge : w.heap.size + 2 ≤ w1.heap.size := by have := blk_lt SR.out.s3; omega
            have S1 := Aside0.mk ((SR.out.mono (ok' := fun k => k ≠ w1.heap.size) (fun k hk _ => by omega)).below (Hand.alloc_below w1 (.cells #[.string ⟨#[]⟩, .bool false, .string ⟨#[]⟩] 53)))
            clear SR
            generalize w1.alloc (.cells #[.string ⟨#[]⟩, .bool false, .string ⟨#[]⟩] 53) = wA at hbx S1 ⊢
            generalize w1.heap.size = g5 at hbx S1 hge ⊢
            have HBX := Aside0.mk hbx
            clear hbx
            go_upto_region 19 with (go_at_call 57; refine (SdAt.text S1.out hL hs y1 Y1.out).mono ?_; rintro r w2 ⟨rfl, hq, hg⟩; have S2 := Aside0.mk hq; have HB2 := Aside0.mk (hg.blk HBX.out (by omega) (by omega)); have c5 := blk_cell HB2.out 0; have f5 := blk_frozen HB2.out 0; clear hq hg S1 HBX)
            have S3 := Aside0.mk (S2.out.box HB2.out hge (fun _ h => h) (by decide) 0 (.string y1.1))
            have HB3 := Aside0.mk (blk_put HB2.out 0 (.string y1.1) (cs' := #[.string y1.1, .bool false, .string ⟨#[]⟩]) rfl)
            clear S2 HB2 c5 f5
            generalize w2.setCell ⟨g5, 0, none⟩ (.string y1.1) = wB at S3 HB3 ⊢
            go_upto_region 20 with (go_at_call 58; refine (SdAt.has S3.out hL hs y2 Y2.out).mono ?_; rintro r w3 ⟨rfl, hq, hg⟩; have S4 := Aside0.mk hq; have HB4 := Aside0.mk (hg.blk HB3.out (by omega) (by omega)); have c5 := blk_cell HB4.out 1; have f5 := blk_frozen HB4.out 1; clear hq hg S3 HB3)
            have S5 := Aside0.mk (S4.out.box HB4.out hge (fun _ h => h) (by decide) 1 (.bool y2.1))
            have HB5 := Aside0.mk (blk_put HB4.out 1 (.bool y2.1) (cs' := #[.string y1.1, .bool y2.1, .string ⟨#[]⟩]) rfl)
            clear S4 HB4 c5 f5
            generalize w3.setCell ⟨g5, 1, none⟩ (.bool y2.1) = wC at S5 HB5 ⊢
            go_upto_region 21 with (go_at_call 57; refine (SdAt.text S5.out hL hs y3 Y3.out).mono ?_; rintro r w6 ⟨rfl, hq, hg⟩; have S6 := Aside0.mk hq; have HB6 := Aside0.mk (hg.blk HB5.out (by omega) (by omega)); have c5 := blk_cell HB6.out 2; have f5 := blk_frozen HB6.out 2; clear hq hg S5 HB5)
            have S7 := Aside0.mk (S6.out.box HB6.out hge (fun _ h => h) (by decide) 2 (.string y3.1))
            have HB7 := Aside0.mk (blk_put HB6.out 2 (.string y3.1) (cs' := #[.string y1.1, .bool y2.1, .string y3.1]) rfl)
            clear S6 HB6 c5 f5
            generalize w6.setCell ⟨g5, 2, none⟩ (.string y3.1) = wD at S7 HB7 ⊢
            have b0 := blk_cell HB7.out 0
            have b1 := blk_cell HB7.out 1
            have b2 := blk_cell HB7.out 2
            have c5 := blk_cell S7.out.s3 6
            have S8 := Aside0.mk (S7.out.mono (ok' := fun _ => True) (fun _ _ _ => trivial))
            clear S7 HB7
            have HR := Aside0.mk S8.out.r6
            have HS3 : w.heap.size ≤ wD.heap.size := S8.out.gr.size
            go_wp2_with (at_builtin; go_loud (refine Kd.R_append k53 (w0 := wD) w.heap.size rfl (.tmp 80) (.tmp 82) 26 53 (.agg #[(.string ⟨#[]⟩), (.bool false), (.string ⟨#[]⟩)]) 40 rfl Tryd.underlying26 picks_info rfl (by decide) (by omega) (.slice A6 acd.length c6) acd ⟨y1.1, y2.1, y3.1⟩ [.string y1.1, .bool y2.1, .string y3.1] (fun _ => True) (fun _ => False) rfl rfl ?aP (fun _ hk => hk.elim) ?aF ?aO ?aB ?aS ?aL ?_); (case aP => exact k53_mkM _ _ _ _); (case aB => exact Below.refl _ _); (case aF => exact (fun _ _ => trivial)); (case aO => exact HR.out); (case aS => exact HS3); (case aL => omega); intro v2 w4 ho hb hg hat; obtain ⟨A9, c9, rfl⟩ := Kd.R_slice ho; have S9 := Aside0.mk (S8.out.app6 hg hb ho); have c7 := blk_cell S9.out.s3 6; have f7 := blk_frozen S9.out.s3 6; clear S8 HR ho hb hg hat)
            refine ⟨⟨kk, A9, c9, acd ++ [⟨y1.1, y2.1, y3.1⟩], y3.2, rfl, by omega, by simp; omega, ⟨?_⟩, ⟨?_⟩⟩, by simp [intOf] <;> omega⟩
            · have q := S9.out
              have hl9 : (acd ++ [(⟨y1.1, y2.1, y3.1⟩ : S53)]).length = acd.length + 1 := by simp
              rw [hl9] at q ⊢
              exact q.put 6 _ rfl
            · rw [List.append_assoc]; exact ZR2.out
          · have hz9 : z9 = (acd, stq) := by
              have hz : kk = 0 ∨ stq.2 ≠ 0 := by omega
              have h9 := ZR.out
              rw [many_err _ _ _ hz] at h9
              simpa using h9
            have HZ9 := Aside0.mk hz9
            clear hz9 ZR
            by_cases hkk0 : 0 < kk
            all_goals
              (try have he0 : ¬ stq.2 = 0 := fun e => hgo ⟨hkk0, e⟩)
              (try rw [decide_eq_false he0] at f0)
              clear hgo
              (try clear he0)
              go_upto_region 22 with (go_at_call 33; refine f0.mono ?_; rintro x w1 ⟨rfl, rfl⟩; clear f0)
              have d0 := blk_cell SR.out.s3 0
              have d1 := blk_cell SR.out.s3 1
              have d2 := blk_cell SR.out.s3 2
              have d3 := blk_cell SR.out.s3 3
              have d4 := blk_cell SR.out.s3 4
              have d5 := blk_cell SR.out.s3 5
              have d6 := blk_cell SR.out.s3 6
              have e0 := blk_cell SR.out.s2 0
              have e1 := blk_cell SR.out.s2 1
              have e2 := blk_cell SR.out.s2 2
              have e3 := blk_cell SR.out.s2 3
              have e4 := blk_cell SR.out.s2 4
              have e5 := blk_cell SR.out.s2 5
              have e6 := blk_cell SR.out.s2 6
              have g0 := blk_frozen SR.out.s2 0
              have g1 := blk_frozen SR.out.s2 1
              have g2 := blk_frozen SR.out.s2 2
              have g3 := blk_frozen SR.out.s2 3
              have g4 := blk_frozen SR.out.s2 4
              have g5 := blk_frozen SR.out.s2 5
              have g6 := blk_frozen SR.out.s2 6
              go_wp2_with fail
              have F := (((((((SR.out.fin.put 0 (.int .i64 z2.1) rfl).put 1 (.string z4.1) rfl).put 2 (.int .i64 z3.1) rfl).put 3 (.slice A3 acc.length c3) rfl).put 4 (.string z7.1) rfl).put 5 (.int .i64 z1.1) rfl).put 6 (.slice A6 acd.length c6) rfl)
              clear d0 d1 d2 d3 d4 d5 d6 e0 e1 e2 e3 e4 e5 e6 g0 g1 g2 g3 g4 g5 g6
              refine bodyPost_ret (results_cell_row rfl _ _ w.heap.size 28 _ (0, 0) _ rfl F.s2 Tryd.underlying28 rfl (by kernel_rfl)) rfl ?_
              exact ⟨⟨_, _, rfl, by rw [HZ6.out]; exact F.r3, by rw [HZ9.out]; exact F.r6⟩, by rw [HZ9.out]; exact F.rd, F.gr⟩
set_option maxHeartbeats 1600000 in
theorem wire_new (A0 : Option Addr) (c0 : Nat) (l0 : List Int) (w : World) (hr0 : Kd.C (Kd.int .u8) w A0 l0.length l0) (hc0 : l0.length ≤ c0) (hs : l0.length < 1000000000) :
    Calls Tryd.prog 36 #[.slice A0 l0.length c0] w fun e w' => ∃ g, e = .returned (.pointer (some ⟨g, 0, none⟩)) ∧ WrdAt w.heap.size g l0 0 w' ∧ Below w.heap.size w w' := by
  have HR0 := Aside0.mk hr0
  clear hr0
  go_enter Tryd.func36, Tryd.ntmps36
  go_wp2_with (first | ((with_reducible refine gate_dst (N := 3) rfl ?_); refine Kd.R_lit (Kd.int .u8) _ 5 ?hg (N := 3) ?hd (xs := ([] : List Int)) (inner := []) (ok := fun _ => True) (okp := fun _ => True) ?hr ?hp (fun _ hk => hk) trivial (Below.refl _ _) (Nat.le_refl _) (by simp) ?_; (case hd => rfl); (case hg => rfl); (case hr => first | (go_simp; done) | (go_simp; rfl)); (case hp => exact (Reps.none _ _)); intro v1 w1 ho hb hg_ hnew_; have HO := Aside0.mk ho; have HB := Aside0.mk hb; clear hg_ hnew_ ho hb) | (at_builtin; go_loud (refine Kd.R_append_rows (Kd.int .u8) (w0 := w) w.heap.size rfl (.tmp 3) (.tmp 4) 37 5 (.int .u8 0) 1 rfl Tryd.underlying37 wire_info rfl (by decide) (by omega) v1 [] l0 A0 l0.length c0 (fun _ => True) (fun _ => False) rfl rfl ?aO ?aR (fun _ _ h => h) (fun _ h => h.elim) ?aF ?aB ?aS ?aL ?_); (case aO => exact HO.out); (case aR => exact Kd.C_below HR0.out HB.out); (case aB => exact HB.out); (case aF => exact (fun _ _ => trivial)); (case aS => exact HB.out.size); (case aL => simp; omega); intro v4 w4 ho hb hg hat; obtain ⟨A5, c5, rfl⟩ := Kd.R_slice ho; have HO4 := Aside0.mk ho; have HB4 := Aside0.mk hb; clear HO HB ho hb hg hat) | ((with_reducible refine gate_dst (N := 7) rfl ?_); refine box_event ?hg (N := 7) ?hd (cs := #[.slice A5 ([] ++ l0).length c5, .int .i64 0]) (t := 101) ?hr ?_; (case hd => rfl); (case hg => rfl); (case hr => first | (go_simp; done) | (go_simp; rfl)); intro gb hgb w5 hbox hb; have HX := Aside0.mk hbox; have HB5 := Aside0.mk hb))
  go_ret
  have h1 := HO4.out
  rw [List.nil_append] at h1
  have h2 := Kd.R_below h1 HB5.out
  have hb := below_step HB4.out HB5.out
  rw [hgb, List.nil_append] at hbox
  exact ⟨_, rfl, ⟨HB4.out.size, hb.size, Nat.zero_le _, _, hbox, h2⟩, hb⟩
theorem R_gb2 {α : Type} {d : Kd α} {e base b b2 t1 t2 : Nat} {ok : Nat → Prop} {v : Value} {xs : List α} {W W' : World} {cs cs2 : Array Value} (h : d.R e W base ok v xs) (hg : Gb2 W W' b b2) (hk1 : W.heap[b]? = some (.cells cs t1 (0, 0))) (hk2 : W.heap[b2]? = some (.cells cs2 t2 (0, 0))) (ht1 : ∀ q, q ∈ e :: d.E → q ≠ t1) (ht2 : ∀ q, q ∈ e :: d.E → q ≠ t2) : d.R e W' base ok v xs :=
  Kd.R_mono (Kd.R_step (Kd.R_types (Kd.R_types h hk1 ht1) hk2 ht2) (fun k hk hlt => hg.block k hlt hk.1.2 hk.2)) (fun _ hk => hk.1.1)
theorem VrAt.kE : ∀ q, q ∈ 28 :: (k28).E → q ≠ 81 ∧ q ≠ 101 ∧ q ≠ 5 := by
  show ∀ q, q ∈ [28, 62, 53] → _
  decide
theorem R_stored {B b b2 : Nat} {L : List Int} {st : Nat × Int} {W W' : World} {base : Nat} {ok : Nat → Prop} {v : Value} {xs : List S28} (h : Kd.R k28 28 W base ok v xs) (hv : VrAt B b b2 L st W) (hg : Gb2 W W' b b2) : Kd.R k28 28 W' base ok v xs := by
  obtain ⟨a, _, u, hk2, _⟩ := show ∃ a, _ ∧ ∃ u, _ ∧ _ from (by obtain ⟨a, ha, hw⟩ := hv.out; obtain ⟨u, h1, h2⟩ := hw.out; exact ⟨a, ha, u, h1, h2⟩)
  exact R_gb2 h hg hv.hk hk2 (fun q hq => (VrAt.kE q hq).1) (fun q hq => (VrAt.kE q hq).2.1)
def decodeD (L : List Int) : List S28 × Nat × Int := manyD (storedD L) (numD L (0, 0) 1 0 4).1.toNat (numD L (0, 0) 1 0 4).2
def decodeE (L : List Int) (d : List S28 × Nat × Int) : List S28 × Int := if d.2.2 ≠ 0 then ([], d.2.2) else if d.2.1 < L.length then ([], 5) else (d.1, 0)
def variant_Decode.f (l0 : List Int) : Option (List S28 × Int) := if l0.length < 1000000000 ∧ (∀ x ∈ l0, 0 ≤ x ∧ x ≤ 255) then some (decodeE l0 (decodeD l0)) else none
set_option maxHeartbeats 6400000 in
set_option maxRecDepth 100000 in
theorem variant_Decode.calls (A0 : Option Addr) (c0 : Nat) (l0 : List Int) (r1 : List S28) (r2 : Int) (w : World) (hr0 : Kd.C (Kd.int .u8) w A0 l0.length l0) (hc0 : l0.length ≤ c0) (h : variant_Decode.f l0 = some (r1, r2)) :
    Calls Tryd.prog 21 #[.slice A0 l0.length c0] w fun e w' => ∃ v0_ : Value, e = .returned (.tuple #[v0_, .int .i64 r2]) ∧ Kd.R k28 28 w' w.heap.size (fun _ => True) v0_ r1 ∧ Below w.heap.size w w' := by
  unfold variant_Decode.f at h
  split at h
  case isFalse => cases h
  case isTrue hh =>
  obtain ⟨hs, hL⟩ := hh
  replace hL : Oct l0 := hL
  have hres : decodeE l0 (decodeD l0) = (r1, r2) := Option.some.inj h
  have HR0 := Aside0.mk hr0
  clear h hr0
  obtain ⟨z1, hz1⟩ : ∃ z, numD l0 (0, 0) 1 0 4 = z := ⟨_, rfl⟩
  obtain ⟨z2, hz2⟩ : ∃ z, manyD (storedD l0) z1.1.toNat z1.2 = z := ⟨_, rfl⟩
  rw [show decodeD l0 = z2 by rw [← hz2, ← hz1]; rfl] at hres
  have hn1 := numD_in l0 (0, 0) 1 4 0 (by decide) (by decide)
  rw [hz1] at hn1
  obtain ⟨n1, hn1e⟩ := Int.eq_ofNat_of_zero_le hn1.1
  rw [hn1e] at hz2
  rw [Int.toNat_natCast] at hz2
  have hn1b : n1 ≤ 4 := by omega
  have HN1 := Aside0.mk hn1e
  have HRES := Aside0.mk hres
  have Z1 := Aside0.mk hz1
  have Z2 := Aside0.mk hz2
  clear hn1 hn1e hz1 hz2 hres
  go_enter Tryd.func21, Tryd.ntmps21
  go_wp2_with (first | (go_at_call 36; refine (wire_new A0 c0 l0 _ HR0.out hc0 hs).mono ?_; rintro e w1 ⟨b2, rfl, hw, hb⟩; have HW := Aside0.mk hw; have HB := Aside0.mk hb; clear hw hb) | ((with_reducible refine gate_dst (N := 10) rfl ?_); refine box_event ?hg (N := 10) ?hd (cs := #[.int .i64 0, .pointer (some ⟨b2, 0, none⟩)]) (t := 81) ?hr ?_; (case hd => rfl); (case hg => rfl); (case hr => first | (go_simp; done) | (go_simp; rfl)); intro b hgb w5 hbox hb; have V1 : Aside0 (VrAt w.heap.size b b2 l0 (0, 0) w5) := ⟨by rw [hgb]; exact HB.out.size, by have := HW.out.lt; omega, hbox, 0, fun _ => rfl, HW.out.below hb⟩; have HB5 := Aside0.mk (below_step HB.out hb); clear HB HW hbox hb hgb) | (go_at_call 37; refine (vr_num w.heap.size b b2 l0 (0, 0) 1 0 4 _ V1.out hL hs (by decide)).mono ?_; rintro x w6 ⟨rfl, hv, hg⟩; rw [Z1.out] at hv ⊢; rw [HN1.out]; have V2 := Aside0.mk hv; have HB6 := Aside0.mk (HB5.out.trans (hg.to V1.out.hB V1.out.wrd.hB HB5.out.size)); clear V1 HB5 hv hg))
  go_loopw [5, 6] (fun v5 v6 wx => ∃ (k : Nat) (A : Option Addr) (c : Nat) (acc : List S28) (stk : Nat × Int), v6 = .int .i64 k ∧ v5 = .slice A acc.length c ∧ k ≤ 4 ∧ acc.length + k ≤ 4 ∧ Aside0 (VrAt w.heap.size b b2 l0 stk wx) ∧ Aside0 (Kd.R k28 28 wx w.heap.size (fun _ => True) (.slice A acc.length c) acc) ∧ Aside0 (Below w.heap.size w wx) ∧ Aside0 (z2 = (acc ++ (manyD (storedD l0) k stk).1, (manyD (storedD l0) k stk).2))) (fun _ v6 _ => (intOf v6).toNat)
  case atStart => exact ⟨n1, none, 0, [], z1.2, rfl, rfl, hn1b, by simpa using hn1b, V2, ⟨Kd.R_nil _ _ _ _ _⟩, HB6, ⟨by rw [← Z2.out]; rfl⟩⟩
  case round =>
    clear V2 HB6 Z2 hn1b
    obtain ⟨k, A, c, acc, stk, rfl, rfl, hk, hak, VR, HO, HB, ZR⟩ := hrel
    have f0 := wr_fine b stk.2 wr VR.out.cell
    by_cases hgo : 0 < k ∧ stk.2 = 0
    · obtain ⟨hk0, he0⟩ := hgo
      obtain ⟨k, rfl⟩ : ∃ m, k = m + 1 := ⟨k - 1, by omega⟩
      have zr := ZR.out
      rw [many_go _ _ _ he0] at zr
      have hcast : ((k + 1 : Nat) : Int) = (k : Int) + 1 := by omega
      rw [decide_eq_true he0] at f0
      rw [hcast]
      have HST := vr_stored w.heap.size b b2 l0 stk wr VR.out hL hs
      generalize storedD l0 stk = y1 at zr HST
      obtain ⟨x, st1⟩ := y1
      try simp only at zr HST
      have ZR2 := Aside0.mk zr
      have hlt : ∀ k, (Value.slice A acc.length c).ownBlock = some k → k < wr.heap.size := by
        obtain ⟨inner, ho⟩ := Kd.R_own HO.out
        exact own_lt ho
      clear zr hcast ZR he0
      go_wp2_with (first | (go_at_call 33; refine f0.mono ?_; rintro x w1 ⟨rfl, rfl⟩; clear f0) | (go_at_call 38; refine HST.mono ?_; rintro r w2 ⟨⟨v3, v6, rfl, hr3, hr6⟩, hv, hg⟩; obtain ⟨A3, c3, rfl⟩ := Kd.R_slice hr3; obtain ⟨A6, c6, rfl⟩ := Kd.R_slice hr6; have VR2 := Aside0.mk hv; have HO2 := Aside0.mk (R_stored HO.out VR.out hg); have HB2 := Aside0.mk (HB.out.trans (hg.to VR.out.hB (by obtain ⟨a, _, hw⟩ := VR.out.out; exact hw.hB) HB.out.size)); have HM := Aside0.mk (k28_mkM w2 w.heap.size (fun k => True ∧ some k ≠ (Value.slice A acc.length c).ownBlock) x (Kd.R_lower (Kd.R_new' hr3 hlt) HB.out.size) (Kd.R_lower (Kd.R_new' hr6 hlt) HB.out.size)); clear HST hr3 hr6 hv hg VR HO HB) | (at_builtin; go_loud (refine Kd.R_append k28 (w0 := w) w.heap.size rfl (.tmp 24) (.tmp 27) 22 28 (.agg #[(.int .i64 0), (.string ⟨#[]⟩), (.int .i64 0), (.slice none 0 0), (.string ⟨#[]⟩), (.int .i64 0), (.slice none 0 0)]) 104 rfl Tryd.underlying22 info28 rfl (by decide) (by omega) (.slice A acc.length c) acc x [.int .i64 x.f0.f0, .string x.f0.f1, .int .i64 x.f0.f2, .slice A3 x.f0.f3.length c3, .string x.f0.f4, .int .i64 x.f1, .slice A6 x.f2.length c6] (fun _ => True) (fun k => True ∧ some k ≠ (Value.slice A acc.length c).ownBlock) rfl rfl ?aP (fun _ hk => hk) ?aF ?aO ?aB ?aS ?aL ?_); (case aP => exact HM.out); (case aB => exact HB2.out); (case aF => exact (fun _ _ => trivial)); (case aO => exact HO2.out); (case aS => exact HB2.out.size); (case aL => omega); intro v2 w4 ho hb hg hat; obtain ⟨A9, c9, rfl⟩ := Kd.R_slice ho; have VR3 := Aside0.mk (VR2.out.over (Kd.R_typed HO2.out) (by decide) (by decide) (by decide) hg); have HO3 := Aside0.mk ho; have HB3 := Aside0.mk hb; clear HB2 VR2 HO2 HM ho hb hg hat))
      have hl9 : (acc ++ [x]).length = acc.length + 1 := by simp
      refine ⟨⟨k, A9, c9, acc ++ [x], st1, rfl, by rw [hl9], by omega, by simp; omega, VR3, HO3, HB3, ⟨?_⟩⟩, by simp [intOf] <;> omega⟩
      rw [List.append_assoc]; exact ZR2.out
    · have hz2 : z2 = (acc, stk) := by
        have hz : k = 0 ∨ stk.2 ≠ 0 := by omega
        have h9 := ZR.out
        rw [many_err _ _ _ hz] at h9
        simpa using h9
      have hr := HRES.out
      rw [hz2] at hr
      clear hz2 ZR HRES
      by_cases he : stk.2 = 0
      · have hk0 : k = 0 := by omega
        subst hk0
        obtain ⟨a, e⟩ := stk
        replace he : e = 0 := he
        subst he
        rw [decide_eq_true rfl] at f0
        have hl := wrd_left w.heap.size b2 l0 a wr VR.out.wrd hs
        have hal := VR.out.wrd.ha
        have k1 := blk_cell VR.out.hk 1
        have hr' : (if a < l0.length then (([] : List S28), (5 : Int)) else (acc, 0)) = (r1, r2) := by rw [← hr]; rfl
        clear hgo hr
        by_cases hc : a < l0.length
        · rw [if_pos hc] at hr'
          obtain ⟨rfl, rfl⟩ : [] = r1 ∧ 5 = r2 := by simpa using hr'
          have hpos : (0 : Int) < (l0.length : Int) - a := by omega
          clear hr'
          go_wp2_with (first | (go_at_call 33; refine f0.mono ?_; rintro x w1 ⟨rfl, rfl⟩; clear f0) | (go_at_call 39; refine hl.mono ?_; rintro x w4 ⟨rfl, nd, rfl⟩; clear hl))
          go_ret2
          exact ⟨_, rfl, Kd.R_nil _ _ _ _ _, pw_below_drewN HB.out _⟩
        · rw [if_neg hc] at hr'
          obtain ⟨rfl, rfl⟩ : acc = r1 ∧ 0 = r2 := by simpa using hr'
          have hpos : ¬ (0 : Int) < (l0.length : Int) - a := by omega
          clear hr'
          go_wp2_with (first | (go_at_call 33; refine f0.mono ?_; rintro x w1 ⟨rfl, rfl⟩; clear f0) | (go_at_call 39; refine hl.mono ?_; rintro x w4 ⟨rfl, nd, rfl⟩; clear hl))
          go_ret2
          exact ⟨_, rfl, Kd.R_drewN HO.out _, pw_below_drewN HB.out _⟩
      · rw [decide_eq_false he] at f0
        have hr' : (([] : List S28), stk.2) = (r1, r2) := by rw [← hr]; exact (if_pos he).symm
        obtain ⟨rfl, rfl⟩ : [] = r1 ∧ stk.2 = r2 := by simpa using hr'
        have k0 := VR.out.cell
        clear hgo hr hr'
        by_cases hk0 : 0 < k
        all_goals
          go_wp2_with (go_at_call 33; refine f0.mono ?_; rintro x w1 ⟨rfl, rfl⟩)
          go_region_with (fail)
          all_goals (go_wp2_with fail; go_ret2; exact ⟨_, rfl, Kd.R_nil _ _ _ _ _, HB.out.trans (Below.drew (Below.refl _ _))⟩)

end Go.Proofs.YtdiefodncfnfeaaDoor.PR
