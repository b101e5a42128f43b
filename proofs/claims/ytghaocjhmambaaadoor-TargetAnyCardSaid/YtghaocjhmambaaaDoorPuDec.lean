/- Decimal digits, written and read back (for seats that reach Plain and Number). -/
import Derived.Test.YtghaocjhmambaaaDoorPuNum
import Derived.Test.YtghaocjhmambaaaDoorPR6
import Derived.Test.YtghaocjhmambaaaDoorPR18
import Derived.Lib.ItoaMem
namespace Go.Proofs.YtghaocjhmambaaaDoor.Pu
open Go.RowKit Go.Proofs.YtghaocjhmambaaaDoorW.PrintWords Go.Proofs.YtghaocjhmambaaaDoorW.PrintLast Go.Proofs.YtghaocjhmambaaaDoor.PR
set_option linter.unusedVariables false
set_option linter.unusedSimpArgs false

def hexd : List UInt8 := [48, 49, 50, 51, 52, 53, 54, 55, 56, 57, 97, 98, 99, 100, 101, 102]
def dch (d : Nat) : UInt8 := hexd.getD d 0
theorem hexd_lit : (⟨#[48, 49, 50, 51, 52, 53, 54, 55, 56, 57, 97, 98, 99, 100, 101, 102]⟩ : ByteArray) = bOf hexd := rfl
/-- a number's digits to a base -/
def digs (b n : Nat) : List UInt8 := if h : n < b ∨ b < 2 then [dch n] else digs b (n / b) ++ [dch (n % b)]
termination_by n
decreasing_by exact Nat.div_lt_self (by omega) (by omega)
theorem digs_small {b n : Nat} (h : n < b) : digs b n = [dch n] := by rw [digs, dif_pos (Or.inl h)]
theorem digs_big {b n : Nat} (hb : 2 ≤ b) (h : ¬ n < b) : digs b n = digs b (n / b) ++ [dch (n % b)] := by rw [digs, dif_neg (by omega)]
theorem dch_ten : ∀ d : Fin 10, dch d = UInt8.ofNat (48 + d) := by decide
theorem digs_ten (n : Nat) : Lib.decDigits n = digs 10 n := by
  induction n using Nat.strongRecOn with
  | _ n ih =>
    rw [Lib.decDigits]
    by_cases h : n < 10
    · rw [dif_pos h, digs_small h, dch_ten ⟨n, h⟩]
    · rw [dif_neg h, digs_big (by decide) h, ih (n / 10) (by omega), dch_ten ⟨n % 10, by omega⟩]
theorem digs_len (b : Nat) (hb : 2 ≤ b) (m : Nat) : ∀ n : Nat, n < b ^ m → (digs b n).length ≤ max m 1 := by
  induction m with
  | zero => intro n h; rw [digs_small (by simp at h; omega)]; simp
  | succ m ih =>
    intro n h
    by_cases hn : n < b
    · rw [digs_small hn]; simp
    · rw [digs_big hb hn]
      have h2 : n / b < b ^ m := by
        rw [Nat.div_lt_iff_lt_mul (by omega)]
        rw [Nat.pow_succ] at h
        exact h
      have := ih _ h2
      have hm : m ≠ 0 := by
        intro e; subst e
        simp at h2
        omega
      simp; omega
theorem digs_pos (b n : Nat) (hb : 2 ≤ b) : 1 ≤ (digs b n).length := by
  by_cases hn : n < b
  · rw [digs_small hn]; simp
  · rw [digs_big hb hn]; simp
theorem hex_cut (d : Nat) (h : d < 16) : (bOf hexd).extract d (d + 1) = bOf [dch d] := by
  rw [bOf_extract]
  congr 1
  have : ∀ d : Fin 16, (hexd.take (d + 1)).drop d = [dch d] := by decide
  exact this ⟨d, h⟩
/-! ### the reference's digits -/
theorem rdigits (b : Nat) (hb : 2 ≤ b) (hb2 : b ≤ 16) (m : Nat) : ∀ (n : Nat) (acc : List UInt8), n < b ^ m → n ≤ 18446744073709551615 → acc.length + m ≤ 1000 →
    Ev (fun k => depotref02_digits.l0 k (n : Int) (b : Int) (bOf hexd) (bOf acc)) (bOf (digs b n ++ acc)) := by
  have cut : ∀ d : Nat, d < b → ∀ acc : List UInt8, acc.length ≤ 1000 → (bOf hexd).extract ((d : Int)).toNat ((IntKind.u64.wrap ((d : Int) + 1))).toNat = bOf [dch d] ∧ IntKind.u64.wrap ((d : Int) + 1) = ((d + 1 : Nat) : Int) := by
    intro d hd acc _
    have hw : IntKind.u64.wrap ((d : Int) + 1) = ((d + 1 : Nat) : Int) := by rw [IntWalk.u64_in _ (by omega)]; omega
    refine ⟨?_, hw⟩
    rw [hw, Int.toNat_natCast, Int.toNat_natCast]
    exact hex_cut d (by omega)
  have hsz : ((bOf hexd).size : Int) = 16 := rfl
  have last : ∀ (n : Nat) (acc : List UInt8), n < b → acc.length ≤ 1000 → Ev (fun k => depotref02_digits.l0 k (n : Int) (b : Int) (bOf hexd) (bOf acc)) (bOf (digs b n ++ acc)) := by
    intro n acc hn ha
    obtain ⟨e1, e2⟩ := cut n hn acc ha
    refine Ev.step (fun k => by rw [depotref02_digits.l0]) (Ev.neg (by omega) ?_)
    rw [e1, e2, hsz, bOf_append, digs_small hn]
    exact Ev.pos (by omega) (Ev.pos (by omega) (Ev.pos (by omega) (Ev.pos (by rw [bOf_size, bOf_size]; simp; omega) (Ev.some' rfl))))
  induction m with
  | zero =>
    intro n acc h hn ha
    exact last n acc (by simp at h; omega) (by omega)
  | succ m ih =>
    intro n acc h hn ha
    by_cases hlt : n < b
    · exact last n acc hlt (by omega)
    · have hmod : n % b < b := Nat.mod_lt _ (by omega)
      obtain ⟨e1, e2⟩ := cut (n % b) hmod acc (by omega)
      have t1 : Int.tmod (n : Int) (b : Int) = ((n % b : Nat) : Int) := by rw [Int.tmod_eq_emod_of_nonneg (by omega)]; rfl
      obtain ⟨q, hq⟩ : ∃ q, n / b = q := ⟨_, rfl⟩
      have hle : q ≤ n := hq ▸ Nat.div_le_self n b
      have t2 : IntKind.u64.wrap (Int.tdiv (n : Int) (b : Int)) = ((n / b : Nat) : Int) := by
        rw [Int.tdiv_eq_ediv_of_nonneg (by omega), show ((n : Int) / (b : Int)) = (q : Int) by rw [← hq]; rfl, IntWalk.u64_in _ (by omega), hq]
      refine Ev.step (fun k => by rw [depotref02_digits.l0]) (Ev.pos (by omega) (Ev.neg (by omega) ?_))
      rw [t1, t2, e1, e2, hsz, bOf_append, digs_big hb hlt, List.append_assoc]
      refine Ev.pos (by omega) (Ev.pos (by omega) (Ev.pos (by omega) (Ev.pos (by rw [bOf_size, bOf_size]; simp; omega) ?_)))
      refine ih (n / b) _ ?_ (by rw [hq]; omega) (by simp; omega)
      rw [Nat.div_lt_iff_lt_mul (by omega)]
      rw [Nat.pow_succ] at h
      exact h
theorem ref_digits (b : Nat) (hb : 2 ≤ b) (hb2 : b ≤ 16) (n : Nat) (hn : n ≤ 18446744073709551615) : Ev (fun k => depotref02_digits.f k (n : Int) (b : Int)) (bOf (digs b n)) := by
  unfold depotref02_digits.f
  rw [hexd_lit]
  have h : n < b ^ 64 := by
    have h1 : 2 ^ 64 ≤ b ^ 64 := Nat.pow_le_pow_left hb 64
    have h2 : (2 : Nat) ^ 64 = 18446744073709551616 := by decide
    omega
  have := rdigits b hb hb2 64 n [] h hn (by simp)
  rw [List.append_nil] at this
  exact this
def plain (n : Int) : List UInt8 := if n < 0 then 45 :: digs 10 n.natAbs else digs 10 n.toNat
theorem plain_eq (n : Int) : Lib.itoa n = plain n := by unfold Lib.itoa plain; rw [digs_ten, digs_ten]
theorem plain_len (n : Int) (h : -9223372036854775808 ≤ n ∧ n ≤ 9223372036854775807) : (plain n).length ≤ 21 := by
  have h20 : (10 : Nat) ^ 20 = 100000000000000000000 := by decide
  unfold plain
  split
  · have := digs_len 10 (by decide) 20 n.natAbs (by omega)
    simp; omega
  · have := digs_len 10 (by decide) 20 n.toNat (by omega)
    omega
theorem prog_Plain (n : Int) (h : -9223372036854775808 ≤ n ∧ n ≤ 9223372036854775807) : decimal_Plain.f n = some (bOf (plain n)) := by
  unfold decimal_Plain.f strconv_Itoa.f
  rw [if_pos h, plain_eq]
  rfl
theorem ref_Plain (n : Int) (h : -9223372036854775808 ≤ n ∧ n ≤ 9223372036854775807) : Ev (fun k => depotref02_Plain.f k n) (bOf (plain n)) := by
  unfold depotref02_Plain.f
  have h20 : (10 : Nat) ^ 20 = 100000000000000000000 := by decide
  refine Ev.ite (fun hn => ?_) (fun hn => ?_)
  · have e : IntKind.u64.wrap (-(IntKind.u64.wrap n)) = ((n.natAbs : Nat) : Int) := by
      have e1 : IntKind.u64.wrap n = n + 18446744073709551616 := by
        have := IntKind.wrap_u64 n
        rw [this]; omega
      rw [e1, IntKind.wrap_u64]; omega
    rw [e]
    have hp : plain n = 45 :: digs 10 n.natAbs := by unfold plain; rw [if_pos hn]
    have hl := plain_len n h
    rw [hp] at hl ⊢
    refine Ev.bind (ref_digits 10 (by decide) (by decide) _ (by omega)) (Ev.pos (by rw [bOf_size]; simp at hl; omega) (Ev.some' ?_))
    rw [show (⟨#[45]⟩ : ByteArray) = bOf [45] from rfl, bOf_append]; rfl
  · have e : IntKind.u64.wrap n = ((n.toNat : Nat) : Int) := by rw [IntWalk.u64_in _ (by omega)]; omega
    rw [e]
    have hp : plain n = digs 10 n.toNat := by unfold plain; rw [if_neg hn]
    rw [hp]
    exact Ev.bind (ref_digits 10 (by decide) (by decide) _ (by omega)) (Ev.some' rfl)
theorem dig_dch : ∀ (b : Fin 17) (d : Fin 16), (d : Nat) < b → Hand.dig ((dch d).toNat : Int) ((b : Nat) : Int) = ((d : Nat) : Int) := by decide +kernel
theorem at_mid (pre post : List UInt8) (c : UInt8) : bt (bOf (pre ++ c :: post)) (pre.length : Int) = c.toNat := by
  rw [bt_bOf _ _ (by omega) (by simp; omega), Int.toNat_natCast]
  simp [at_]
theorem read_one (b d : Nat) (hb2 : b ≤ 16) (hd : d < b) (pre post : List UInt8) (acc : Int) (h0 : 0 ≤ acc) (hm : acc * b + d ≤ 9223372036854775807) :
    readGo (bOf (pre ++ dch d :: post)) b (post.length + 1) acc pre.length = readGo (bOf (pre ++ dch d :: post)) b post.length (acc * b + d) (pre.length + 1) := by
  rw [readGo, at_mid]
  have hdg : Hand.dig ((dch d).toNat : Int) (b : Int) = (d : Int) := dig_dch ⟨b, by omega⟩ ⟨d, by omega⟩ hd
  rw [hdg, if_neg (by omega)]
  have hp : 0 ≤ acc * (b : Int) := Int.mul_nonneg h0 (by omega)
  rw [wrap_id (n := acc * (b : Int)) (by omega) (by omega), wrap_id (by omega) (by omega)]
theorem read_digs (b : Nat) (hb : 2 ≤ b) (hb2 : b ≤ 16) (n : Nat) : ∀ (pre post : List UInt8), n ≤ 9223372036854775807 →
    readGo (bOf (pre ++ (digs b n ++ post))) b ((digs b n).length + post.length) 0 pre.length = readGo (bOf (pre ++ (digs b n ++ post))) b post.length n (pre.length + (digs b n).length) := by
  induction n using Nat.strongRecOn with
  | _ n ih =>
    intro pre post hn
    by_cases h : n < b
    · rw [digs_small h]
      have := read_one b n hb2 h pre post 0 (by omega) (by omega)
      rw [show (0 : Int) * (b : Int) + (n : Int) = (n : Int) by omega] at this
      rw [show [dch n].length + post.length = post.length + 1 by simp; omega]
      exact this
    · have hlt : n / b < n := Nat.div_lt_self (by omega) (by omega)
      have hmod : n % b < b := Nat.mod_lt _ (by omega)
      have hdm : ((n / b : Nat) : Int) * (b : Int) + ((n % b : Nat) : Int) = (n : Int) := by
        have := Nat.div_add_mod n b
        rw [Nat.mul_comm] at this
        exact_mod_cast this
      rw [digs_big hb h, List.append_assoc]
      have h1 := ih (n / b) hlt pre ([dch (n % b)] ++ post) (by omega)
      rw [show (digs b (n / b) ++ [dch (n % b)]).length + post.length = (digs b (n / b)).length + ([dch (n % b)] ++ post).length by simp; omega, h1]
      have h2 := read_one b (n % b) hb2 hmod (pre ++ digs b (n / b)) post ((n / b : Nat) : Int) (Int.natCast_nonneg _) (by rw [hdm]; omega)
      rw [hdm] at h2
      rw [List.append_assoc, List.length_append] at h2
      rw [show ([dch (n % b)] ++ post).length = post.length + 1 by simp, List.length_append]
      exact h2
theorem ten_back (n : Nat) (most : Int) (hn : n < 1000000000000000000) (hm : (n : Int) ≤ most) : readP (bOf (digs 10 n)) 10 18 most = ((n : Int), 0) := by
  have hp := digs_pos 10 n (by decide)
  have h18 : (10 : Nat) ^ 18 = 1000000000000000000 := by decide
  have hl := digs_len 10 (by decide) 18 n (by omega)
  unfold readP
  rw [bOf_size, if_neg (by omega), if_neg (by omega)]
  have h2 := read_digs 10 (by decide) (by decide) n [] [] (by omega)
  simp only [List.nil_append, List.append_nil, List.length_nil, Nat.zero_add, Nat.add_zero] at h2
  have e : readGo (bOf (digs 10 n)) 10 (digs 10 n).length 0 0 = some (n : Int) := by
    refine h2.trans ?_
    rfl
  rw [e]
  show (if most < (n : Int) then ((0 : Int), (3 : Int)) else ((n : Int), 0)) = _
  rw [if_neg (by omega)]
theorem wf64 {n : Int} (h : (Lit.int .i64 n).wf = true) : -9223372036854775808 ≤ n ∧ n ≤ 9223372036854775807 := by
  have h2 : IntKind.i64.min ≤ n ∧ n ≤ IntKind.i64.max := by simpa [Lit.wf] using h
  have e1 : IntKind.i64.min = -9223372036854775808 := rfl
  have e2 : IntKind.i64.max = 9223372036854775807 := rfl
  omega
end Go.Proofs.YtghaocjhmambaaaDoor.Pu
