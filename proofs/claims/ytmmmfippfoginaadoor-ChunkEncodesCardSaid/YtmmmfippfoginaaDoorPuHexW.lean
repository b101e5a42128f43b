/- Digits to a base: what decimal.Hex and its reference write (for seats that reach Hex). -/
import Derived.Test.YtmmmfippfoginaaDoorPuRead
import Derived.Test.YtmmmfippfoginaaDoorPR2
import Derived.Test.YtmmmfippfoginaaDoorPR11
import Derived.Lib.ItoaNum
namespace Go.Proofs.YtmmmfippfoginaaDoor.Pu
open Go.RowKit Go.Proofs.YtmmmfippfoginaaDoorW.PrintWords Go.Proofs.YtmmmfippfoginaaDoorW.PrintLast Go.Proofs.YtmmmfippfoginaaDoor.PR
set_option linter.unusedVariables false
set_option linter.unusedSimpArgs false

def hexd : List UInt8 := [48, 49, 50, 51, 52, 53, 54, 55, 56, 57, 97, 98, 99, 100, 101, 102]
def dch (d : Nat) : UInt8 := hexd.getD d 0
theorem hexd_lit : (⟨#[48, 49, 50, 51, 52, 53, 54, 55, 56, 57, 97, 98, 99, 100, 101, 102]⟩ : ByteArray) = bOf hexd := rfl
/-- a number's digits to a base -/
def digs (b n : Nat) : List UInt8 := if h : n < b ∨ b < 2 then [dch n] else digs b (n / b) ++ [dch (n % b)]
termination_by n
decreasing_by exact Nat.div_lt_self (by omega) (by omega)
theorem digs_small {b n : Nat} (h : n < b) : digs b n = [dch n] := by rw [digs, dif_pos (Or.inl h)]
theorem digs_big {b n : Nat} (hb : 2 ≤ b) (h : ¬ n < b) : digs b n = digs b (n / b) ++ [dch (n % b)] := by rw [digs, dif_neg (by omega)]
theorem dch_ten : ∀ d : Fin 10, dch d = UInt8.ofNat (48 + d) := by decide
theorem digs_ten (n : Nat) : Lib.decDigits n = digs 10 n := by
  induction n using Nat.strongRecOn with
  | _ n ih =>
    rw [Lib.decDigits]
    by_cases h : n < 10
    · rw [dif_pos h, digs_small h, dch_ten ⟨n, h⟩]
    · rw [dif_neg h, digs_big (by decide) h, ih (n / 10) (by omega), dch_ten ⟨n % 10, by omega⟩]
theorem digs_len (b : Nat) (hb : 2 ≤ b) (m : Nat) : ∀ n : Nat, n < b ^ m → (digs b n).length ≤ max m 1 := by
  induction m with
  | zero => intro n h; rw [digs_small (by simp at h; omega)]; simp
  | succ m ih =>
    intro n h
    by_cases hn : n < b
    · rw [digs_small hn]; simp
    · rw [digs_big hb hn]
      have h2 : n / b < b ^ m := by
        rw [Nat.div_lt_iff_lt_mul (by omega)]
        rw [Nat.pow_succ] at h
        exact h
      have := ih _ h2
      have hm : m ≠ 0 := by
        intro e; subst e
        simp at h2
        omega
      simp; omega
theorem digs_pos (b n : Nat) (hb : 2 ≤ b) : 1 ≤ (digs b n).length := by
  by_cases hn : n < b
  · rw [digs_small hn]; simp
  · rw [digs_big hb hn]; simp
theorem hex_cut (d : Nat) (h : d < 16) : (bOf hexd).extract d (d + 1) = bOf [dch d] := by
  rw [bOf_extract]
  congr 1
  have : ∀ d : Fin 16, (hexd.take (d + 1)).drop d = [dch d] := by decide
  exact this ⟨d, h⟩
/-! ### the reference's digits -/
theorem rdigits (b : Nat) (hb : 2 ≤ b) (hb2 : b ≤ 16) (m : Nat) : ∀ (n : Nat) (acc : List UInt8), n < b ^ m → n ≤ 18446744073709551615 → acc.length + m ≤ 1000 →
    Ev (fun k => depotref02_digits.l0 k (n : Int) (b : Int) (bOf hexd) (bOf acc)) (bOf (digs b n ++ acc)) := by
  have cut : ∀ d : Nat, d < b → ∀ acc : List UInt8, acc.length ≤ 1000 → (bOf hexd).extract ((d : Int)).toNat ((IntKind.u64.wrap ((d : Int) + 1))).toNat = bOf [dch d] ∧ IntKind.u64.wrap ((d : Int) + 1) = ((d + 1 : Nat) : Int) := by
    intro d hd acc _
    have hw : IntKind.u64.wrap ((d : Int) + 1) = ((d + 1 : Nat) : Int) := by rw [IntWalk.u64_in _ (by omega)]; omega
    refine ⟨?_, hw⟩
    rw [hw, Int.toNat_natCast, Int.toNat_natCast]
    exact hex_cut d (by omega)
  have hsz : ((bOf hexd).size : Int) = 16 := rfl
  have last : ∀ (n : Nat) (acc : List UInt8), n < b → acc.length ≤ 1000 → Ev (fun k => depotref02_digits.l0 k (n : Int) (b : Int) (bOf hexd) (bOf acc)) (bOf (digs b n ++ acc)) := by
    intro n acc hn ha
    obtain ⟨e1, e2⟩ := cut n hn acc ha
    refine Ev.step (fun k => by rw [depotref02_digits.l0]) (Ev.neg (by omega) ?_)
    rw [e1, e2, hsz, bOf_append, digs_small hn]
    exact Ev.pos (by omega) (Ev.pos (by omega) (Ev.pos (by omega) (Ev.pos (by rw [bOf_size, bOf_size]; simp; omega) (Ev.some' rfl))))
  induction m with
  | zero =>
    intro n acc h hn ha
    exact last n acc (by simp at h; omega) (by omega)
  | succ m ih =>
    intro n acc h hn ha
    by_cases hlt : n < b
    · exact last n acc hlt (by omega)
    · have hmod : n % b < b := Nat.mod_lt _ (by omega)
      obtain ⟨e1, e2⟩ := cut (n % b) hmod acc (by omega)
      have t1 : Int.tmod (n : Int) (b : Int) = ((n % b : Nat) : Int) := by rw [Int.tmod_eq_emod_of_nonneg (by omega)]; rfl
      obtain ⟨q, hq⟩ : ∃ q, n / b = q := ⟨_, rfl⟩
      have hle : q ≤ n := hq ▸ Nat.div_le_self n b
      have t2 : IntKind.u64.wrap (Int.tdiv (n : Int) (b : Int)) = ((n / b : Nat) : Int) := by
        rw [Int.tdiv_eq_ediv_of_nonneg (by omega), show ((n : Int) / (b : Int)) = (q : Int) by rw [← hq]; rfl, IntWalk.u64_in _ (by omega), hq]
      refine Ev.step (fun k => by rw [depotref02_digits.l0]) (Ev.pos (by omega) (Ev.neg (by omega) ?_))
      rw [t1, t2, e1, e2, hsz, bOf_append, digs_big hb hlt, List.append_assoc]
      refine Ev.pos (by omega) (Ev.pos (by omega) (Ev.pos (by omega) (Ev.pos (by rw [bOf_size, bOf_size]; simp; omega) ?_)))
      refine ih (n / b) _ ?_ (by rw [hq]; omega) (by simp; omega)
      rw [Nat.div_lt_iff_lt_mul (by omega)]
      rw [Nat.pow_succ] at h
      exact h
theorem ref_digits (b : Nat) (hb : 2 ≤ b) (hb2 : b ≤ 16) (n : Nat) (hn : n ≤ 18446744073709551615) : Ev (fun k => depotref02_digits.f k (n : Int) (b : Int)) (bOf (digs b n)) := by
  unfold depotref02_digits.f
  rw [hexd_lit]
  have h : n < b ^ 64 := by
    have h1 : 2 ^ 64 ≤ b ^ 64 := Nat.pow_le_pow_left hb 64
    have h2 : (2 : Nat) ^ 64 = 18446744073709551616 := by decide
    omega
  have := rdigits b hb hb2 64 n [] h hn (by simp)
  rw [List.append_nil] at this
  exact this
theorem hex_bt (d : Nat) (h : d < 16) : bt (bOf hexd) (d : Int) = ((dch d).toNat : Int) := by
  rw [bt_bOf _ _ (by omega) (by show (d : Int) < 16; omega), Int.toNat_natCast]
  rfl
theorem hex_step (n : Nat) (xs : List Int) (hn : n ≤ 9223372036854775807) (hx : xs.length ≤ 1000)
    (ih : ¬ n < 16 → Ev (fun k => decimal_Hex.l0 k ((n / 16 : Nat) : Int) ([((dch (n % 16)).toNat : Int)] ++ xs)) (bOf (digs 16 (n / 16) ++ ([((dch (n % 16)).toNat : Int)] ++ xs).map fun x => UInt8.ofNat x.toNat))) :
    Ev (fun k => decimal_Hex.l0 k (n : Int) xs) (bOf (digs 16 n ++ xs.map fun x => UInt8.ofNat x.toNat)) := by
  have t1 : Int.tmod (n : Int) 16 = ((n % 16 : Nat) : Int) := by rw [Int.tmod_eq_emod_of_nonneg (by omega)]; rfl
  have t2 : wrap64 (Int.tdiv (n : Int) 16) = ((n / 16 : Nat) : Int) := by
    rw [Int.tdiv_eq_ediv_of_nonneg (by omega), show ((n : Int) / 16) = ((n / 16 : Nat) : Int) from rfl, wrap_id (by omega) (by omega)]
  refine Ev.step (fun k => by rw [decimal_Hex.l0]) ?_
  rw [t1, t2, hexd_lit, hex_bt _ (by omega)]
  refine Ev.pos (by omega) (Ev.pos (by omega) (Ev.sbind rfl (Ev.pos (by simp; omega) (Ev.sbind rfl ?_))))
  have hd : UInt8.ofNat ((dch (n % 16)).toNat : Int).toNat = dch (n % 16) := by simp
  refine Ev.ite (fun h0 => ?_) (fun h0 => ?_)
  · have hlt : n < 16 := by omega
    rw [digs_small hlt]
    refine Ev.some' ?_
    unfold strOfNums
    rw [bOf_mk]
    congr 1
    rw [List.map_append, List.map_cons, hd, show n % 16 = n by omega]
    rfl
  · have hlt : ¬ n < 16 := by omega
    have := ih hlt
    rw [digs_big (by decide) hlt]
    rw [List.map_append, List.map_cons, hd] at this
    rw [List.append_assoc]
    exact this
theorem hex_l0 (m : Nat) : ∀ (n : Nat) (xs : List Int), n < 16 ^ (m + 1) → n ≤ 9223372036854775807 → xs.length + m ≤ 1000 →
    Ev (fun k => decimal_Hex.l0 k (n : Int) xs) (bOf (digs 16 n ++ xs.map fun x => UInt8.ofNat x.toNat)) := by
  induction m with
  | zero => intro n xs h hn hx; exact hex_step n xs hn (by omega) (fun hc => absurd (by simpa using h) hc)
  | succ m ih =>
    intro n xs h hn hx
    refine hex_step n xs hn (by omega) (fun hc => ih (n / 16) _ ?_ (by omega) (by simp; omega))
    rw [Nat.div_lt_iff_lt_mul (by omega)]
    rw [Nat.pow_succ] at h
    exact h
def hexs (n : Int) : List UInt8 := if n < 0 then [] else digs 16 n.toNat
theorem prog_Hex (n : Int) (h : n ≤ 9223372036854775807) : Ev (fun k => decimal_Hex.f k n) (bOf (hexs n)) := by
  unfold decimal_Hex.f hexs
  refine Ev.ite (fun hn => ?_) (fun hn => ?_)
  · rw [if_pos hn]; exact Ev.some' rfl
  · rw [if_neg hn]
    obtain ⟨m, rfl⟩ := Int.eq_ofNat_of_zero_le (show 0 ≤ n by omega)
    have h2 : (16 : Nat) ^ 16 = 18446744073709551616 := by decide
    have := hex_l0 15 m [] (by omega) (by omega) (by simp)
    rw [List.map_nil, List.append_nil] at this
    exact this
theorem ref_Hex' (n : Int) (h : n ≤ 9223372036854775807) : Ev (fun k => depotref02_Hex.f k n) (bOf (hexs n)) := by
  unfold depotref02_Hex.f hexs
  refine Ev.ite (fun hn => ?_) (fun hn => ?_)
  · rw [if_pos hn]; exact Ev.some' rfl
  · rw [if_neg hn]
    have e : IntKind.u64.wrap n = ((n.toNat : Nat) : Int) := by rw [IntWalk.u64_in _ (by omega)]; omega
    rw [e]
    exact Ev.bind (ref_digits 16 (by decide) (by decide) _ (by omega)) (Ev.some' rfl)
/-! ### read back -/
theorem dig_dch : ∀ (b : Fin 17) (d : Fin 16), (d : Nat) < b → Hand.dig ((dch d).toNat : Int) ((b : Nat) : Int) = ((d : Nat) : Int) := by decide +kernel
end Go.Proofs.YtmmmfippfoginaaDoor.Pu
