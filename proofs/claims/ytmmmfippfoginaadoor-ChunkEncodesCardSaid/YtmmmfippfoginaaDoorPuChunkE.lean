/- Chunks: encodings, the program's and the reference's. -/
import Derived.Test.YtmmmfippfoginaaDoorPuLaw11a
import Derived.Test.YtmmmfippfoginaaDoorPR2
import Derived.Test.YtmmmfippfoginaaDoorPR12
import Derived.Test.YtmmmfippfoginaaDoorPR12
namespace Go.Proofs.YtmmmfippfoginaaDoor.Pu
open Go.RowKit Go.Proofs.YtmmmfippfoginaaDoorW.PrintWords Go.Proofs.YtmmmfippfoginaaDoorW.PrintLast Go.Proofs.YtmmmfippfoginaaDoor.PR
set_option linter.unusedVariables false
set_option linter.unusedSimpArgs false

theorem Ev.shift {α : Type} {g : Nat → Option α} {r : α} (h : Ev g r) : Ev (fun k => g (k + 1)) r := by
  obtain ⟨K, h⟩ := h
  exact ⟨K, fun k hk => h (k + 1) (by omega)⟩
def encC : Nat → List UInt8 → Nat → List UInt8
  | 0, _, _ => []
  | k + 1, s, z => if s = [] then [48, 13, 10, 13, 10] else hexs ((min z s.length : Nat) : Int) ++ [13, 10] ++ s.take (min z s.length) ++ [13, 10] ++ encC k (s.drop (min z s.length)) z
theorem hexs_len (n : Nat) (h : n ≤ 65536) : (hexs (n : Int)).length ≤ 5 := by
  unfold hexs
  rw [if_neg (by omega), Int.toNat_natCast]
  exact digs_len 16 (by decide) 5 n (by omega)
theorem encC_len (z : Nat) (hz : 1 ≤ z) (hz1 : z ≤ 65536) : ∀ (k : Nat) (s : List UInt8), s.length < k → (encC k s z).length ≤ 10 * s.length + 5
  | 0, s, hk => by omega
  | k + 1, s, hk => by
    unfold encC
    by_cases c1 : s = []
    · rw [if_pos c1]; simp
    · have h0 : 0 < s.length := List.length_pos_iff.2 c1
      rw [if_neg c1]
      have hn1 : 1 ≤ min z s.length := by omega
      have hn2 : min z s.length ≤ s.length := by omega
      have hn3 : min z s.length ≤ 65536 := by omega
      generalize min z s.length = n at hn1 hn2 hn3 ⊢
      have hl := hexs_len n hn3
      have ih := encC_len z hz hz1 k (s.drop n) (by simp; omega)
      simp only [List.length_append, List.length_take, List.length_cons, List.length_nil, List.length_drop] at ih ⊢
      omega
theorem prog_enc (z : Nat) (hz : 1 ≤ z) (hz1 : z ≤ 65536) : ∀ (k : Nat) (hx : Nat → Int → Option ByteArray) (s out : List UInt8), (∀ n : Nat, n ≤ 65536 → Ev (fun k => hx k (n : Int)) (bOf (hexs (n : Int)))) →
    s.length < k → s.length ≤ 65536 → out.length + 10 * s.length ≤ 1000000000 → Ev (fun k => Hand.encGo (hx k) k (bOf s) (z : Int) (bOf out)) (bOf (out ++ encC k s z))
  | 0, hx, s, out, H, hk, hs, ho => by omega
  | k + 1, hx, s, out, H, hk, hs, ho => by
    refine Ev.step (fun k => by rw [Hand.encGo]) ?_
    unfold encC
    rw [bOf_size]
    by_cases c1 : s = []
    · rw [if_pos c1]
      refine Ev.pos (by rw [c1]; rfl) (Ev.some' ?_)
      rw [show (⟨#[48, 13, 10]⟩ : ByteArray) = bOf [48, 13, 10] from rfl, show Hand.crlf = bOf [13, 10] from rfl, bOf_append, bOf_append, List.append_assoc]
      rfl
    · have h0 : 0 < s.length := List.length_pos_iff.2 c1
      rw [if_neg c1]
      have hn : min (z : Int) (s.length : Int) = ((min z s.length : Nat) : Int) := by omega
      rw [hn]
      have hn1 : 1 ≤ min z s.length := by omega
      have hn2 : min z s.length ≤ s.length := by omega
      have hn3 : min z s.length ≤ 65536 := by omega
      generalize min z s.length = n at hn1 hn2 hn3 ⊢
      refine Ev.neg (by omega) (Ev.bind (Ev.shift (H n hn3)) ?_)
      have hl := hexs_len n hn3
      refine Ev.pos (by rw [bOf_size, bOf_size]; omega) ?_
      have e1 : (bOf s).extract ((n : Int)).toNat s.length = bOf (s.drop n) := by rw [bOf_extract, List.take_length, Int.toNat_natCast]
      have e2 : (bOf s).extract 0 ((n : Int)).toNat = bOf (s.take n) := by rw [bOf_extract, List.drop_zero, Int.toNat_natCast]
      rw [e1, e2, show Hand.crlf = bOf [13, 10] from rfl, bOf_append, bOf_append, bOf_append, bOf_append]
      refine Ev.eq (prog_enc z hz hz1 k (fun k => hx (k + 1)) (s.drop n) _ (fun m hm => Ev.shift (H m hm)) (by simp; omega) (by simp; omega) (by simp; omega)) ?_
      simp
theorem prog_Encode (s : List UInt8) (z : Int) (hs : s.length ≤ 65536) : Ev (fun k => chunk_Encode.f k (bOf s) z) (if z < 1 ∨ 65536 < z then (bOf [], 2) else (bOf (encC (s.length + 1) s z.toNat), 0)) := by
  unfold chunk_Encode.f
  by_cases c1 : z < 1
  · rw [if_pos (Or.inl c1)]
    exact Ev.pos c1 (Ev.some' rfl)
  · refine Ev.neg c1 ?_
    by_cases c2 : 65536 < z
    · rw [if_pos (Or.inr c2)]
      exact Ev.pos c2 (Ev.some' rfl)
    · rw [if_neg (by omega)]
      refine Ev.neg c2 (Ev.neg (by rw [bOf_size]; omega) ?_)
      obtain ⟨z, rfl⟩ := Int.eq_ofNat_of_zero_le (show 0 ≤ z by omega)
      have h := prog_enc z (by omega) (by omega) (s.length + 1) (fun k => decimal_Hex.f k) s [] (fun n hn => prog_Hex n (by omega)) (by omega) hs (by simp; omega)
      rw [List.nil_append] at h
      refine Ev.bind h (Ev.pos ?_ (Ev.some' rfl))
      rw [bOf_size]
      have := encC_len z (by omega) (by omega) (s.length + 1) s (by omega)
      omega
theorem renc_l0 (z : Nat) (hz : 1 ≤ z) (hz1 : z ≤ 65536) : ∀ (k : Nat) (s out : List UInt8), s.length < k → s.length ≤ 65536 → out.length + 10 * s.length ≤ 1000000000 →
    Ev (fun k => depotref11_Encode.l0 k (bOf s) (z : Int) (bOf out)) (bOf (out ++ encC k s z), 0)
  | 0, s, out, hk, hs, ho => by omega
  | k + 1, s, out, hk, hs, ho => by
    refine Ev.step (fun k => by rw [depotref11_Encode.l0]) ?_
    unfold encC
    rw [bOf_size]
    by_cases c1 : s = []
    · rw [if_pos c1]
      refine Ev.neg (by rw [c1]; simp) (Ev.pos (by rw [bOf_size]; omega) (Ev.some' ?_))
      rw [show (⟨#[48, 13, 10, 13, 10]⟩ : ByteArray) = bOf [48, 13, 10, 13, 10] from rfl, bOf_append]
    · have h0 : 0 < s.length := List.length_pos_iff.2 c1
      rw [if_neg c1]
      have hn : mn (z : Int) (s.length : Int) = ((min z s.length : Nat) : Int) := by unfold mn; split <;> omega
      rw [hn]
      have hn1 : 1 ≤ min z s.length := by omega
      have hn2 : min z s.length ≤ s.length := by omega
      have hn3 : min z s.length ≤ 65536 := by omega
      generalize min z s.length = n at hn1 hn2 hn3 ⊢
      refine Ev.pos (by omega) (Ev.bind (ref_Hex' n (by omega)) ?_)
      have hl := hexs_len n hn3
      have e1 : (bOf s).extract ((n : Int)).toNat s.length = bOf (s.drop n) := by rw [bOf_extract, List.take_length, Int.toNat_natCast]
      have e2 : (bOf s).extract 0 ((n : Int)).toNat = bOf (s.take n) := by rw [bOf_extract, List.drop_zero, Int.toNat_natCast]
      have hln : (s.take n).length ≤ n := by simp; omega
      rw [e1, e2, show (⟨#[13, 10]⟩ : ByteArray) = bOf [13, 10] from rfl, bOf_append, bOf_append, bOf_append, bOf_append]
      refine Ev.pos (by rw [bOf_size, bOf_size]; omega) (Ev.pos (by rw [bOf_size, List.length_append]; omega) (Ev.pos (by omega) (Ev.pos (by omega) (Ev.pos ?_ (Ev.pos ?_ ?_)))))
      · rw [bOf_size, bOf_size]
        simp only [List.length_append, List.length_cons, List.length_nil]
        omega
      · rw [bOf_size]
        simp only [List.length_append, List.length_cons, List.length_nil]
        omega
      · refine Ev.eq (renc_l0 z hz hz1 k (s.drop n) _ (by simp; omega) (by simp; omega) (by simp; omega)) ?_
        simp
theorem ref_Encode (s : List UInt8) (z : Int) (hs : s.length ≤ 65536) : Ev (fun k => depotref11_Encode.f k (bOf s) z) (if z < 1 ∨ 65536 < z then (bOf [], 2) else (bOf (encC (s.length + 1) s z.toNat), 0)) := by
  unfold depotref11_Encode.f
  by_cases c1 : z < 1
  · rw [if_pos (Or.inl c1)]
    refine Ev.pos c1 (Ev.step (fun k => by rw [depotref11_Encode.j0]) ?_)
    exact Ev.pos rfl (Ev.some' rfl)
  · refine Ev.neg c1 (Ev.step (fun k => by rw [depotref11_Encode.j0]) ?_)
    by_cases c2 : 65536 < z
    · rw [if_pos (Or.inr c2)]
      exact Ev.pos (by simpa using c2) (Ev.some' rfl)
    · rw [if_neg (by omega)]
      refine Ev.neg (by simpa using c2) (Ev.neg (by rw [bOf_size]; omega) ?_)
      obtain ⟨z, rfl⟩ := Int.eq_ofNat_of_zero_le (show 0 ≤ z by omega)
      have h := renc_l0 z (by omega) (by omega) (s.length + 1) s [] (by omega) hs (by simp; omega)
      rw [List.nil_append] at h
      exact h
theorem encodes_law (s : ByteArray) (z : Int) : ∃ k, depotlaw11_ChunkEncodes.f k s z = some true := by
  refine Ev.rounds ?_
  obtain ⟨l, rfl, hl⟩ := ex_bOf s
  unfold depotlaw11_ChunkEncodes.f
  refine Ev.ite (fun _ => chunks_end) (fun h => ?_)
  have hs : l.length ≤ 65536 := by rw [bOf_size] at h; omega
  refine Ev.bind (prog_Encode l z hs) (Ev.bind (ref_Encode l z hs) ?_)
  exact Ev.pos rfl (Ev.pos rfl chunks_end)
end Go.Proofs.YtmmmfippfoginaaDoor.Pu
