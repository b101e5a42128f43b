/- The pure statements about package decimal. -/
import Derived.Test.YtheimnfgiigfoaaDoorPu02w
import Derived.Test.YtheimnfgiigfoaaDoorPR4
import Derived.Test.YtheimnfgiigfoaaDoorPR5
import Derived.Test.YtheimnfgiigfoaaDoorPR7
import Derived.Test.YtheimnfgiigfoaaDoorPR8
import Derived.Test.YtheimnfgiigfoaaDoorPR8
import Derived.Test.YtheimnfgiigfoaaDoorPR9
namespace Go.Proofs.YtheimnfgiigfoaaDoor.Pu
open Go.RowKit Go.Proofs.YtheimnfgiigfoaaDoorW.PrintWords Go.Proofs.YtheimnfgiigfoaaDoorW.PrintLast Go.Proofs.YtheimnfgiigfoaaDoor.PR
set_option linter.unusedVariables false
set_option linter.unusedSimpArgs false

theorem counts_plain : decimal_Plain.f (-5) = some (bOf [45, 53]) := by
  rw [prog_Plain _ (by decide), plain, if_pos (by decide), digs_small (by decide)]
  rfl
theorem counts_pad : decimal_Pad.f 7 2 = some (bOf [48, 55]) := by
  rw [prog_Pad _ _ (by decide), pad, if_neg (by decide), plain, if_neg (by decide), digs_small (by decide)]
  rfl
theorem counts_hex : Ev (fun k => decimal_Hex.f k 255) (bOf [102, 102]) := by
  have h : decimal_Hex.f 10 255 = some (bOf [102, 102]) := by kernel_rfl
  exact Ev.of (decimal_Hex.mono _) h
theorem counts_true : Ev (fun k => depotlaw02_counts.f k) true := by
  unfold depotlaw02_counts.f
  refine Ev.sbind (a := (7, 0)) (by kernel_rfl) (Ev.sbind (a := (2147483648, true)) (by kernel_rfl) (Ev.sbind (a := (255, 0)) (by kernel_rfl) (Ev.sbind (a := (0, 3)) (by kernel_rfl) ?_)))
  refine Ev.sbind counts_plain (Ev.pos (toList_bOf _) (Ev.sbind counts_pad (Ev.pos (toList_bOf _) ?_)))
  refine Ev.pos rfl (Ev.pos rfl (Ev.pos rfl (Ev.pos rfl (Ev.bind counts_hex (Ev.pos (toList_bOf _) (Ev.pos rfl (Ev.pos rfl (Ev.pos rfl ?_))))))))
  exact Ev.bind (prog_Add _ _) (Ev.pos (by decide) (Ev.bind (prog_Less _ _) (Ev.some' (by decide))))
theorem counts_end : Ev (fun k => (depotlaw02_counts.f k).bind fun t => some t) true := Ev.bind counts_true (Ev.some' rfl)
theorem sums_law (a b : Int) : ∃ k, depotlaw02_DecimalSums.f k a b = some true := by
  refine Ev.rounds ?_
  unfold depotlaw02_DecimalSums.f
  exact Ev.bind (prog_Add a b) (Ev.sbind (ref_Add a b) (Ev.pos rfl (Ev.bind (prog_Less a b) (Ev.sbind (ref_Less a b) (Ev.pos rfl counts_end)))))
theorem wf64 {n : Int} (h : (Lit.int .i64 n).wf = true) : -9223372036854775808 ≤ n ∧ n ≤ 9223372036854775807 := by
  have h2 : IntKind.i64.min ≤ n ∧ n ≤ IntKind.i64.max := by simpa [Lit.wf] using h
  have e1 : IntKind.i64.min = -9223372036854775808 := rfl
  have e2 : IntKind.i64.max = 9223372036854775807 := rfl
  omega
theorem writes_law (n width : Int) (h : (Lit.int .i64 n).wf = true) : ∃ k, depotlaw02_DecimalWrites.f k n width = some true := by
  have hn := wf64 h
  refine Ev.rounds ?_
  unfold depotlaw02_DecimalWrites.f
  refine Ev.sbind (prog_Plain n hn) (Ev.bind (ref_Plain n hn) (Ev.pos rfl ?_))
  refine Ev.sbind (prog_Pad n width hn) (Ev.bind (ref_Pad n width hn) (Ev.pos rfl ?_))
  exact Ev.bind (prog_Hex n hn.2) (Ev.bind (ref_Hex' n hn.2) (Ev.pos rfl counts_end))
theorem reads_law (s : ByteArray) (most : Int) : ∃ k, depotlaw02_DecimalReads.f k s most = some true := by
  refine Ev.rounds ?_
  unfold depotlaw02_DecimalReads.f
  refine Ev.ite (fun _ => counts_end) (fun h => ?_)
  have hs : s.size ≤ 100000 := by omega
  refine Ev.sbind (prog_Number s most hs) (Ev.bind (ref_Number s most hs) (Ev.sbind (prog_ReadHex s most hs) (Ev.bind (ref_ReadHex s most hs) (Ev.sbind (prog_Seconds s hs) (Ev.bind (ref_Seconds s hs) ?_)))))
  exact Ev.pos rfl (Ev.pos rfl (Ev.pos rfl (Ev.pos rfl (Ev.pos rfl (Ev.pos (by simp) counts_end)))))
/-! ### held -/
theorem held_law (a b c : Int) : ∃ k, depotlaw02_DecimalHeld.f k a b c = some true := by
  refine Ev.rounds ?_
  unfold depotlaw02_DecimalHeld.f
  have h1 : held (held b + held a) = held (held a + held b) := by rw [Int.add_comm]
  have ha := held_range a
  have hb := held_range b
  have hc := held_range c
  have hn := held_range (held a + held b)
  have hh : ∀ x : Int, 0 ≤ x → held x = if 2147483648 < x then 2147483648 else x := fun x hx => by rw [held, if_neg (by omega)]
  have h3' : ∀ x y z : Int, 0 ≤ x → x ≤ 2147483648 → 0 ≤ y → y ≤ 2147483648 → 0 ≤ z → z ≤ 2147483648 → held (held (x + y) + z) = held (x + held (y + z)) := by
    intro x y z _ _ _ _ _ _
    have e1 := hh (x + y) (by omega)
    have e2 := hh (y + z) (by omega)
    have g1 := held_range (x + y)
    have g2 := held_range (y + z)
    have e3 := hh (held (x + y) + z) (by omega)
    have e4 := hh (x + held (y + z)) (by omega)
    rw [e3, e4]
    split at e1 <;> split at e2 <;> split <;> split <;> omega
  have h3 : held (held (held a + held b) + held c) = held (held a + held (held b + held c)) := h3' _ _ _ ha.1 ha.2 hb.1 hb.2 hc.1 hc.2
  have hidem : ∀ x : Int, held (held x) = held x := fun x => by have := held_range x; rw [hh (held x) (by omega), if_neg (by omega)]
  refine Ev.bind (prog_Add a b) (Ev.bind (prog_Add b a) (Ev.pos h1.symm (Ev.neg (by omega) (Ev.neg (by omega) ?_))))
  refine Ev.bind (prog_Add _ c) (Ev.bind (prog_Add b c) (Ev.bind (prog_Add a _) (Ev.pos (by rw [hidem, hidem]; exact h3) ?_)))
  have less0 : ∀ r : Option Bool, ¬ a > b → held (held a - held b) = 0 := by
    intro _ hab
    unfold held
    repeat' split
    all_goals omega
  have tail : Ev (fun k => if a > b then (depotlaw02_counts.f k).bind fun t => some t else (decimal_Less.f k a b).bind fun t => if t = 0 then (depotlaw02_counts.f k).bind fun t => some t else some false) true := by
    refine Ev.ite (fun _ => counts_end) (fun hab => ?_)
    refine Ev.bind (prog_Less a b) (Ev.pos ?_ counts_end)
    exact less0 none hab
  have last : Ev (fun k => depotlaw02_DecimalHeld.j0 k a b (held (held a + held b)) false) true := by
    refine Ev.step (fun k => by rw [depotlaw02_DecimalHeld.j0]) (Ev.neg (by simp) ?_)
    refine Ev.ite (fun _ => tail) (fun ha0 => ?_)
    refine Ev.ite (fun _ => tail) (fun hb0 => ?_)
    refine Ev.ite (fun _ => tail) (fun hne => ?_)
    refine Ev.bind (prog_Less _ b) (Ev.pos ?_ tail)
    rw [hidem]
    have e1 : held (held a + held b) = held a + held b := by
      rw [hh _ (by omega)] at hne ⊢
      split at hne
      · omega
      · rename_i hx; rw [if_neg hx]
    rw [e1]
    have e2 : held a = a := by
      have := hh a (by omega)
      split at this
      · rw [e1] at hne; omega
      · exact this
    rw [show held a + held b - held b = held a by omega, hidem, e2]
  refine Ev.ite (fun hbc => ?_) (fun _ => last)
  refine Ev.bind (prog_Add a b) (Ev.bind (prog_Add a c) ?_)
  have hmono : ¬ held (held a + held b) > held (held a + held c) := by
    have : held b ≤ held c := by
      unfold held
      repeat' split
      all_goals omega
    rw [hh (held a + held b) (by omega), hh (held a + held c) (by omega)]
    split <;> split <;> omega
  rw [decide_eq_false hmono]
  exact last
/-! ### read back -/
theorem at_mid (pre post : List UInt8) (c : UInt8) : bt (bOf (pre ++ c :: post)) (pre.length : Int) = c.toNat := by
  rw [bt_bOf _ _ (by omega) (by simp; omega), Int.toNat_natCast]
  simp [at_]
theorem read_one (b d : Nat) (hb2 : b ≤ 16) (hd : d < b) (pre post : List UInt8) (acc : Int) (h0 : 0 ≤ acc) (hm : acc * b + d ≤ 9223372036854775807) :
    readGo (bOf (pre ++ dch d :: post)) b (post.length + 1) acc pre.length = readGo (bOf (pre ++ dch d :: post)) b post.length (acc * b + d) (pre.length + 1) := by
  rw [readGo, at_mid]
  have hdg : Hand.dig ((dch d).toNat : Int) (b : Int) = (d : Int) := dig_dch ⟨b, by omega⟩ ⟨d, by omega⟩ hd
  rw [hdg, if_neg (by omega)]
  have hp : 0 ≤ acc * (b : Int) := Int.mul_nonneg h0 (by omega)
  rw [wrap_id (n := acc * (b : Int)) (by omega) (by omega), wrap_id (by omega) (by omega)]
theorem read_digs (b : Nat) (hb : 2 ≤ b) (hb2 : b ≤ 16) (n : Nat) : ∀ (pre post : List UInt8), n ≤ 9223372036854775807 →
    readGo (bOf (pre ++ (digs b n ++ post))) b ((digs b n).length + post.length) 0 pre.length = readGo (bOf (pre ++ (digs b n ++ post))) b post.length n (pre.length + (digs b n).length) := by
  induction n using Nat.strongRecOn with
  | _ n ih =>
    intro pre post hn
    by_cases h : n < b
    · rw [digs_small h]
      have := read_one b n hb2 h pre post 0 (by omega) (by omega)
      rw [show (0 : Int) * (b : Int) + (n : Int) = (n : Int) by omega] at this
      rw [show [dch n].length + post.length = post.length + 1 by simp; omega]
      exact this
    · have hlt : n / b < n := Nat.div_lt_self (by omega) (by omega)
      have hmod : n % b < b := Nat.mod_lt _ (by omega)
      have hdm : ((n / b : Nat) : Int) * (b : Int) + ((n % b : Nat) : Int) = (n : Int) := by
        have := Nat.div_add_mod n b
        rw [Nat.mul_comm] at this
        exact_mod_cast this
      rw [digs_big hb h, List.append_assoc]
      have h1 := ih (n / b) hlt pre ([dch (n % b)] ++ post) (by omega)
      rw [show (digs b (n / b) ++ [dch (n % b)]).length + post.length = (digs b (n / b)).length + ([dch (n % b)] ++ post).length by simp; omega, h1]
      have h2 := read_one b (n % b) hb2 hmod (pre ++ digs b (n / b)) post ((n / b : Nat) : Int) (Int.natCast_nonneg _) (by rw [hdm]; omega)
      rw [hdm] at h2
      rw [List.append_assoc, List.length_append] at h2
      rw [show ([dch (n % b)] ++ post).length = post.length + 1 by simp, List.length_append]
      exact h2
theorem read_zeros (k : Nat) : ∀ (pre post : List UInt8), readGo (bOf (pre ++ (zeros k ++ post))) ((10 : Nat) : Int) (k + post.length) 0 pre.length = readGo (bOf (pre ++ (zeros k ++ post))) ((10 : Nat) : Int) post.length 0 (pre.length + k) := by
  induction k with
  | zero => intro pre post; simp [zeros]
  | succ k ih =>
    intro pre post
    have h1 := read_one 10 0 (by decide) (by decide) pre (zeros k ++ post) 0 (by decide) (by decide)
    have hz : zeros (k + 1) = dch 0 :: zeros k := by unfold zeros; rw [List.replicate_succ]; rfl
    rw [hz, List.cons_append]
    rw [show k + 1 + post.length = (zeros k ++ post).length + 1 by simp [zeros]; omega, h1]
    have h2 := ih (pre ++ [dch 0]) post
    rw [List.append_assoc] at h2
    rw [show (zeros k ++ post).length = k + post.length by simp [zeros]]
    have e : pre ++ ([dch 0] ++ (zeros k ++ post)) = pre ++ dch 0 :: (zeros k ++ post) := by simp
    rw [e, show (pre ++ [dch 0]).length = pre.length + 1 by simp] at h2
    rw [show pre.length + (k + 1) = pre.length + 1 + k by omega]
    exact h2
theorem number_back (n : Nat) (k : Nat) (hn : n < 1000000000000000000) (hl : (zeros k ++ digs 10 n).length ≤ 18) : readP (bOf (zeros k ++ digs 10 n)) 10 18 n = ((n : Int), 0) := by
  have hp := digs_pos 10 n (by decide)
  unfold readP
  have hlen : (zeros k ++ digs 10 n).length = k + (digs 10 n).length := by simp [zeros]
  rw [bOf_size]
  rw [if_neg (by omega), if_neg (by omega)]
  have h1 := read_zeros k [] (digs 10 n)
  have h2 := read_digs 10 (by decide) (by decide) n (zeros k) [] (by omega)
  simp only [List.nil_append, List.append_nil, List.length_nil, Nat.zero_add, Nat.add_zero] at h1 h2
  rw [show (zeros k ++ digs 10 n).length = k + (digs 10 n).length by simp [zeros]]
  have e : readGo (bOf (zeros k ++ digs 10 n)) 10 (k + (digs 10 n).length) 0 0 = some (n : Int) := by
    refine h1.trans ?_
    rw [show k = (zeros k).length by simp [zeros]]
    rw [show ((zeros k).length) = k by simp [zeros]] 
    have e2 : (zeros k).length = k := by simp [zeros]
    rw [e2] at h2
    rw [h2]
    rfl
  rw [e]
  simp [readEnd]
theorem hex_back (n : Nat) (hn : n < 1000000000000000000) : readP (bOf (digs 16 n)) 16 15 n = ((n : Int), 0) := by
  have hp := digs_pos 16 n (by decide)
  have h15 : (16 : Nat) ^ 15 = 1152921504606846976 := by decide
  have hl := digs_len 16 (by decide) 15 n (by omega)
  unfold readP
  rw [bOf_size, if_neg (by omega), if_neg (by omega)]
  have h2 := read_digs 16 (by decide) (by decide) n [] [] (by omega)
  simp only [List.nil_append, List.append_nil, List.length_nil, Nat.zero_add, Nat.add_zero] at h2
  have e : readGo (bOf (digs 16 n)) 16 (digs 16 n).length 0 0 = some (n : Int) := by
    refine h2.trans ?_
    rfl
  rw [e]
  simp [readEnd]
theorem sec_one (d : Nat) (hd : d < 10) (pre post : List UInt8) (acc : Int) (h0 : 0 ≤ acc) (hm : acc ≤ 2147483648) :
    secGo (bOf (pre ++ dch d :: post)) (post.length + 1) acc pre.length = secGo (bOf (pre ++ dch d :: post)) post.length (leastI (acc * 10 + d) 2147483648) (pre.length + 1) := by
  rw [secGo, at_mid]
  have hdg : Hand.dig ((dch d).toNat : Int) 10 = (d : Int) := dig_dch ⟨10, by omega⟩ ⟨d, by omega⟩ hd
  rw [hdg, if_neg (by omega), wrap_id (n := acc * 10) (by omega) (by omega), wrap_id (by omega) (by omega)]
theorem least_range (n : Nat) : 0 ≤ leastI n 2147483648 ∧ leastI n 2147483648 ≤ 2147483648 := by unfold leastI; split <;> omega
theorem sec_digs (n : Nat) : ∀ (pre post : List UInt8),
    secGo (bOf (pre ++ (digs 10 n ++ post))) ((digs 10 n).length + post.length) 0 pre.length = secGo (bOf (pre ++ (digs 10 n ++ post))) post.length (leastI n 2147483648) (pre.length + (digs 10 n).length) := by
  induction n using Nat.strongRecOn with
  | _ n ih =>
    intro pre post
    by_cases h : n < 10
    · rw [digs_small h]
      have := sec_one n h pre post 0 (by omega) (by omega)
      rw [show (0 : Int) * 10 + (n : Int) = (n : Int) by omega] at this
      rw [show [dch n].length + post.length = post.length + 1 by simp; omega]
      exact this
    · have hlt : n / 10 < n := by omega
      rw [digs_big (by decide) h, List.append_assoc]
      have h1 := ih (n / 10) hlt pre ([dch (n % 10)] ++ post)
      rw [show (digs 10 (n / 10) ++ [dch (n % 10)]).length + post.length = (digs 10 (n / 10)).length + ([dch (n % 10)] ++ post).length by simp; omega, h1]
      have hr := least_range (n / 10)
      have h2 := sec_one (n % 10) (by omega) (pre ++ digs 10 (n / 10)) post (leastI ((n / 10 : Nat) : Int) 2147483648) hr.1 hr.2
      have hv : leastI (leastI ((n / 10 : Nat) : Int) 2147483648 * 10 + ((n % 10 : Nat) : Int)) 2147483648 = leastI n 2147483648 := by
        unfold leastI
        repeat' split
        all_goals omega
      rw [hv, List.append_assoc, List.length_append] at h2
      rw [show ([dch (n % 10)] ++ post).length = post.length + 1 by simp, List.length_append]
      exact h2
theorem sec_back (n : Nat) : secP (bOf (digs 10 n)) = (leastI n 2147483648, true) := by
  have hp := digs_pos 10 n (by decide)
  have h2 := sec_digs n [] []
  simp only [List.nil_append, List.append_nil, List.length_nil, Nat.zero_add, Nat.add_zero] at h2
  unfold secP
  rw [bOf_size]
  have e : secGo (bOf (digs 10 n)) (digs 10 n).length 0 0 = some (leastI n 2147483648) := by
    refine h2.trans ?_
    rfl
  rw [e]
  unfold secEnd
  rw [toList_bOf]
  cases hd : digs 10 n with
  | nil => rw [hd] at hp; simp at hp
  | cons a r => rfl
theorem back_law (n width : Int) (h : (Lit.int .i64 n).wf = true) : ∃ k, depotlaw02_DecimalBack.f k n width = some true := by
  have hn := wf64 h
  refine Ev.rounds ?_
  unfold depotlaw02_DecimalBack.f
  refine Ev.ite (fun h1 => ?_) (fun h1 => ?_)
  · exact Ev.step (fun k => by rw [depotlaw02_DecimalBack.j0]) (Ev.pos rfl counts_end)
  · refine Ev.step (fun k => by rw [depotlaw02_DecimalBack.j0]) ?_
    refine Ev.ite (fun _ => counts_end) (fun h2 => ?_)
    have h2' : n < 1000000000000000000 := by
      have : ¬ n ≥ 1000000000000000000 := by simpa using h2
      omega
    obtain ⟨m, rfl⟩ := Int.eq_ofNat_of_zero_le (show 0 ≤ n by omega)
    have hm : m < 1000000000000000000 := by omega
    have h18 : (10 : Nat) ^ 18 = 1000000000000000000 := by decide
    have hl := digs_len 10 (by decide) 18 m (by omega)
    have hpl : plain (m : Int) = zeros 0 ++ digs 10 m := by unfold plain zeros; rw [if_neg (by omega)]; simp
    have hpd : ∃ z, pad (m : Int) width = zeros z ++ digs 10 m ∧ (zeros z ++ digs 10 m).length ≤ 18 := by
      unfold pad
      by_cases hc : (m : Int) < 0 ∨ 9 < width
      · rw [if_pos hc]; exact ⟨0, hpl, by simp [zeros]; omega⟩
      · rw [if_neg hc, hpl]
        refine ⟨width.toNat - (zeros 0 ++ digs 10 m).length, by simp [zeros], ?_⟩
        simp [zeros]
        omega
    obtain ⟨z, hz, hzl⟩ := hpd
    have hhx : hexs (m : Int) = digs 16 m := by unfold hexs; rw [if_neg (by omega)]; simp
    have h15 : (16 : Nat) ^ 15 = 1152921504606846976 := by decide
    have hhl := digs_len 16 (by decide) 15 m (by omega)
    have hpl0 : plain (m : Int) = digs 10 m := by rw [hpl]; simp [zeros]
    refine Ev.sbind (prog_Plain _ hn) (Ev.sbind (prog_Number _ _ (by rw [bOf_size, hpl0]; omega)) ?_)
    rw [hpl, number_back m 0 hm (by simp [zeros]; omega)]
    refine Ev.sbind (prog_Pad _ width hn) ?_
    rw [hz]
    refine Ev.sbind (prog_Number _ _ (by rw [bOf_size]; omega)) ?_
    rw [number_back m z hm hzl]
    refine Ev.bind (prog_Hex _ hn.2) ?_
    rw [hhx]
    refine Ev.sbind (prog_ReadHex _ _ (by rw [bOf_size]; omega)) ?_
    rw [hex_back m hm]
    refine Ev.sbind (prog_Plain _ hn) ?_
    rw [hpl0]
    refine Ev.sbind (prog_Seconds _ (by rw [bOf_size]; omega)) ?_
    rw [sec_back m]
    exact Ev.pos rfl (Ev.pos rfl (Ev.pos rfl (Ev.pos rfl (Ev.pos rfl (Ev.pos rfl (Ev.pos (by rw [mn_least]) (Ev.pos rfl counts_end)))))))
end Go.Proofs.YtheimnfgiigfoaaDoor.Pu
