/- What decimal.digit answers, by a walk. -/
import Derived.Test.YtjaklgikfcahdaaGreatDoorHand
import Derived.Laws.RangeAny
import Derived.Lib.OthersKept
namespace Go.Proofs.YtjaklgikfcahdaaGreatDoor.Hand
open Go.RowKit Go.Proofs.YtjaklgikfcahdaaGreatDoorW.PrintWords
set_option linter.unusedVariables false
set_option linter.unusedSimpArgs false

def dig0 (c : Int) : Int := if 48 ≤ c ∧ c ≤ 57 then c - 48 else if 97 ≤ c ∧ c ≤ 102 then c - 97 + 10 else if 65 ≤ c ∧ c ≤ 70 then c - 65 + 10 else -1
def dig (c base : Int) : Int := if base ≤ dig0 c then -1 else dig0 c
theorem ret_int {k : IntKind} {a b : Int} (h : a = b) : Ending.returned (.int k a) = .returned (.int k b) := by rw [h]
set_option maxHeartbeats 800000 in
theorem digit_any (c base : Int) (w : World) (hb : 1 ≤ base) (hb2 : base ≤ 16) :
    Calls Tryz.prog 134 #[.int .i32 c, .int .i64 base] w fun e w' => e = .returned (.int .i64 (dig c base)) ∧ w' = w := by
  have key : ∀ r : Int, dig0 c = r → dig c base = if base ≤ r then -1 else r := fun r h => by rw [dig, h]
  by_cases a1 : 48 ≤ c ∧ c ≤ 57
  · obtain ⟨a, b⟩ := a1
    have K := Lib.hid (key (c - 48) (by rw [dig0, if_pos ⟨a, b⟩])); clear key
    by_cases hc : base ≤ c - 48
    all_goals
      go_enter Tryz.func134, Tryz.ntmps134
      go_wp2
      go_ret
      exact ⟨ret_int (by rw [K.out]; split <;> omega), rfl⟩
  · by_cases a2 : 97 ≤ c ∧ c ≤ 102
    · obtain ⟨a, b⟩ := a2
      have K := Lib.hid (key (c - 97 + 10) (by rw [dig0, if_neg (by omega), if_pos ⟨a, b⟩])); clear key a1
      by_cases hc : base ≤ c - 97 + 10
      all_goals
        go_enter Tryz.func134, Tryz.ntmps134
        go_wp2
        go_ret
        exact ⟨ret_int (by rw [K.out]; split <;> omega), rfl⟩
    · by_cases a3 : 65 ≤ c ∧ c ≤ 70
      · obtain ⟨a, b⟩ := a3
        have K := Lib.hid (key (c - 65 + 10) (by rw [dig0, if_neg (by omega), if_neg (by omega), if_pos ⟨a, b⟩])); clear key a1 a2
        by_cases hc : base ≤ c - 65 + 10
        all_goals
          go_enter Tryz.func134, Tryz.ntmps134
          go_wp2
          go_ret
          exact ⟨ret_int (by rw [K.out]; split <;> omega), rfl⟩
      · have K := Lib.hid (key (-1) (by rw [dig0, if_neg a1, if_neg a2, if_neg a3])); clear key
        have b1 : c < 48 ∨ (57 < c ∧ c < 65) ∨ (70 < c ∧ c < 97) ∨ 102 < c := by omega
        clear a1 a2 a3
        rcases b1 with b | ⟨b, b'⟩ | ⟨b, b'⟩ | b
        all_goals
          go_enter Tryz.func134, Tryz.ntmps134
          go_wp2
          go_ret
          exact ⟨ret_int (by rw [K.out]; split <;> omega), rfl⟩

theorem below_iter (w : World) (s : ByteArray) (p : Nat) : Below w.heap.size w (w.iter s p) := (Below.refl _ _).alloc (Nat.le_refl _) _
theorem below_iterAt {B : Nat} {w wr : World} (h : Below B w wr) (k : Nat) (hk : B ≤ k) (s : ByteArray) (p : Nat) : Below B w (wr.iterAt k s p) :=
  h.trans ⟨rfl, rfl, rfl, by simp [World.iterAt], fun i hi => by
    have hne : k ≠ i := by omega
    simp [World.iterAt, hne]⟩
theorem iterAt_at (w : World) (k : Nat) (s : ByteArray) (p : Nat) (hk : k < w.heap.size) : (w.iterAt k s p).heap[k]? = some (.stringIter s p) := by
  simp [World.iterAt, hk]
theorem iterAt_size (w : World) (k : Nat) (s : ByteArray) (p : Nat) : (w.iterAt k s p).heap.size = w.heap.size := by simp [World.iterAt]
end Go.Proofs.YtjaklgikfcahdaaGreatDoor.Hand
