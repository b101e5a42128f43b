-- Out of the translation, by a program of this session: each function that a law comes to as a Lean function, and that the machine's call does what it says. Lean checks it.
import Derived.Test.YtghaocjhmambaaaDoorPR0
import Derived.Test.YtghaocjhmambaaaDoorPR2
import Derived.Test.YtghaocjhmambaaaDoorPR3
namespace Go.Proofs.YtghaocjhmambaaaDoor.PR
open Go.RowKit Go.Proofs.YtghaocjhmambaaaDoorW.PrintWords Go.Proofs.YtghaocjhmambaaaDoorW.PrintLast Go.Proofs.YtghaocjhmambaaaDoorW.PrintMore
attribute [local go_sem] max2_int min2_int max_two min_two max_three min_three max_four min_four   -- for this text's walks alone
set_option linter.unusedVariables false
set_option linter.unusedSimpArgs false

/-! ### target_Path: function 9: told by hand -/
def delT : ByteArray := ⟨#[45, 46, 95, 126, 33, 36, 38, 39, 40, 41, 42, 43, 44, 59, 61, 58, 64, 47]⟩
def queT : ByteArray := ⟨#[45, 46, 95, 126, 33, 36, 38, 39, 40, 41, 42, 43, 44, 59, 61, 58, 64, 47, 63]⟩
def path_decoded (t : ByteArray) (s : ByteArray) : Option (ByteArray × Bool) := if s.size ≤ 100000000 then Hand.decdGo (Hand.ofB t) (s.size + 1) s ⟨#[]⟩ else none
def path_end (u : ByteArray) (has : Bool) (q : ByteArray) : Option (ByteArray × Int) := if has = false then some (u, 0) else if 1 + q.size ≤ 9223372036854775807 ∧ u.size + (1 + q.size) ≤ 9223372036854775807 then some (u ++ (⟨#[63]⟩ ++ q), 0) else none
def target_Path.f (k : Nat) (a0 : ByteArray) : Option (ByteArray × Int) :=
  if 8192 < a0.size then some (⟨#[]⟩, 4)
  else if Lib.hasPrefix a0.data.toList [47] = false then some (⟨#[]⟩, 23)
  else (octet_Cut.f a0 63).bind fun c => (path_decoded delT c.1).bind fun p => (path_decoded queT c.2.1).bind fun q =>
    if p.2 = false then some (⟨#[]⟩, 23) else if q.2 = false then some (⟨#[]⟩, 23)
    else (target_undotted.f k p.1).bind fun u => path_end u c.2.2 q.1
theorem target_Path.mono : ∀ a0 k, LeO (target_Path.f k a0) (target_Path.f (k + 1) a0) := by
  intro a0 k
  unfold target_Path.f
  exact LeO.ite (LeO.refl _) (LeO.ite (LeO.refl _) (LeO.bind (LeO.refl _) (fun _ => LeO.bind (LeO.refl _) (fun _ => LeO.bind (LeO.refl _) (fun _ => LeO.ite (LeO.refl _) (LeO.ite (LeO.refl _) (LeO.bind (target_undotted.mono _ k) (fun _ => LeO.refl _))))))))
theorem path_dec_calls (t s : ByteArray) (v : Value) (w : World) (hv : Hand.OfAt w v t) (r : ByteArray × Bool) (h : path_decoded t s = some r) :
    Calls Tryd.prog 23 #[.string s, v] w fun e w' => e = .returned (.tuple #[.string r.1, .bool r.2]) ∧ Below w.heap.size w w' := by
  unfold path_decoded at h
  split at h
  case isFalse => cases h
  case isTrue hs => exact Hand.decoded_any s t v w hv hs _ r h
theorem path_of2 (w : World) : Calls Tryd.prog 24 #[.slice (some ⟨w.heap.size, 0, none⟩) 2 2] (w.alloc (.cells #[.string ⟨#[45, 46, 95, 126]⟩, .string ⟨#[33, 36, 38, 39, 40, 41, 42, 43, 44, 59, 61, 58, 64, 47]⟩] 9)) fun e w' => (∃ v, e = .returned v ∧ Hand.OfAt w' v delT) ∧ Below w.heap.size w w' := by
  refine (Hand.of_any [⟨#[45, 46, 95, 126]⟩, ⟨#[33, 36, 38, 39, 40, 41, 42, 43, 44, 59, 61, 58, 64, 47]⟩] 2 _ delT rfl rfl _ (fun j x h => ?_) (by simp) (by decide) (by decide)).mono fun e w' ⟨he, hb⟩ => ⟨he, below_then (Hand.alloc_below _ _) (by simp) hb⟩
  match j, h with
  | 0, h => simp at h; subst h; simp [go_sem]
  | 1, h => simp at h; subst h; simp [go_sem]
theorem path_of3 (w : World) : Calls Tryd.prog 24 #[.slice (some ⟨w.heap.size, 0, none⟩) 3 3] (w.alloc (.cells #[.string ⟨#[45, 46, 95, 126]⟩, .string ⟨#[33, 36, 38, 39, 40, 41, 42, 43, 44, 59, 61, 58, 64, 47]⟩, .string ⟨#[63]⟩] 9)) fun e w' => (∃ v, e = .returned v ∧ Hand.OfAt w' v queT) ∧ Below w.heap.size w w' := by
  refine (Hand.of_any [⟨#[45, 46, 95, 126]⟩, ⟨#[33, 36, 38, 39, 40, 41, 42, 43, 44, 59, 61, 58, 64, 47]⟩, ⟨#[63]⟩] 3 _ queT rfl rfl _ (fun j x h => ?_) (by simp) (by decide) (by decide)).mono fun e w' ⟨he, hb⟩ => ⟨he, below_then (Hand.alloc_below _ _) (by simp) hb⟩
  match j, h with
  | 0, h => simp at h; subst h; simp [go_sem]
  | 1, h => simp at h; subst h; simp [go_sem]
  | 2, h => simp at h; subst h; simp [go_sem]
set_option maxHeartbeats 1600000 in
theorem target_Path.calls (k : Nat) (a0 : ByteArray) (r1 : ByteArray) (r2 : Int) (w : World) (HT : Aside0 (Hand.Laid w)) (h : target_Path.f k a0 = some (r1, r2)) :
    Calls Tryd.prog 9 #[.string a0] w fun e w' => e = .returned (.tuple #[.string r1, .int .i64 r2]) ∧ Below w.heap.size w w' := by
  unfold target_Path.f at h
  by_cases c0 : 8192 < a0.size
  · rw [if_pos c0] at h
    obtain ⟨rfl, rfl⟩ : ⟨#[]⟩ = r1 ∧ 4 = r2 := by simpa using h
    clear h
    have c0' : 8192 < (a0.size : Int) := by omega
    go_enter Tryd.func9, Tryd.ntmps9
    go_wp2_with fail
    go_ret2
    exact ⟨rfl, Below.refl _ _⟩
  rw [if_neg c0] at h
  have c0' : ¬ 8192 < (a0.size : Int) := by omega
  have H1 := fun w => Any.strings_HasPrefix Tryd.lays99 a0 ⟨#[47]⟩ w
  rw [show Lib.hasPrefix a0.data.toList (⟨#[47]⟩ : ByteArray).data.toList = Lib.hasPrefix a0.data.toList [47] from rfl] at H1
  cases c1 : Lib.hasPrefix a0.data.toList [47]
  · rw [c1] at H1
    rw [c1, if_pos rfl] at h
    obtain ⟨rfl, rfl⟩ : ⟨#[]⟩ = r1 ∧ 23 = r2 := by simpa using h
    clear h c1
    go_enter Tryd.func9, Tryd.ntmps9
    go_wp2_with (go_at_call 21; refine (H1 _).mono ?_; rintro e w' ⟨rfl, rfl⟩; clear H1)
    go_ret2
    exact ⟨rfl, Below.refl _ _⟩
  rw [c1] at H1
  rw [c1, if_neg (by simp)] at h
  clear c1
  obtain ⟨⟨c1, c2, has⟩, hc, h⟩ := Option.bind_eq_some_iff.1 h
  obtain ⟨⟨p, pok⟩, hp, h⟩ := Option.bind_eq_some_iff.1 h
  obtain ⟨⟨q, qok⟩, hq, h⟩ := Option.bind_eq_some_iff.1 h
  try simp only at hp hq h
  have HC := fun w => octet_Cut.calls a0 63 c1 c2 has w hc
  have D1 := fun (v : Value) (w : World) (hv : Hand.OfAt w v delT) => path_dec_calls delT c1 v w hv _ hp
  have D2 := fun (v : Value) (w : World) (hv : Hand.OfAt w v queT) => path_dec_calls queT c2 v w hv _ hq
  try simp only at D1 D2
  clear hc hp hq
  cases pok
  · rw [if_pos rfl] at h
    obtain ⟨rfl, rfl⟩ : ⟨#[]⟩ = r1 ∧ 23 = r2 := by simpa using h
    clear h
    go_enter Tryd.func9, Tryd.ntmps9
    go_wp2_with (first | (go_at_call 21; refine (H1 _).mono ?_; rintro e w' ⟨rfl, rfl⟩; clear H1) | (go_at_call 22; refine (HC _).mono ?_; rintro e w1 ⟨rfl, hb1⟩; clear HC) | (go_at_call 24; refine (path_of2 _).mono ?_; rintro e w2 ⟨⟨v2, rfl, ho2⟩, hb2⟩; have g2 := below_then hb1 hb1.size hb2))
    go_wp2_with (first | (go_at_call 23; refine (D1 _ _ ho2).mono ?_; rintro e w3 ⟨rfl, hb3⟩; clear D1; have g3 := below_then g2 g2.size hb3) | (go_at_call 24; refine (path_of3 _).mono ?_; rintro e w4 ⟨⟨v4, rfl, ho4⟩, hb4⟩; have g4 := below_then g3 g3.size hb4))
    go_wp2_with (go_at_call 23; refine (D2 _ _ ho4).mono ?_; rintro e w5 ⟨rfl, hb5⟩; clear D2; have g5 := below_then g4 g4.size hb5)
    go_ret2
    exact ⟨rfl, g5⟩
  rw [if_neg (by simp)] at h
  cases qok
  · rw [if_pos rfl] at h
    obtain ⟨rfl, rfl⟩ : ⟨#[]⟩ = r1 ∧ 23 = r2 := by simpa using h
    clear h
    go_enter Tryd.func9, Tryd.ntmps9
    go_wp2_with (first | (go_at_call 21; refine (H1 _).mono ?_; rintro e w' ⟨rfl, rfl⟩; clear H1) | (go_at_call 22; refine (HC _).mono ?_; rintro e w1 ⟨rfl, hb1⟩; clear HC) | (go_at_call 24; refine (path_of2 _).mono ?_; rintro e w2 ⟨⟨v2, rfl, ho2⟩, hb2⟩; have g2 := below_then hb1 hb1.size hb2))
    go_wp2_with (first | (go_at_call 23; refine (D1 _ _ ho2).mono ?_; rintro e w3 ⟨rfl, hb3⟩; clear D1; have g3 := below_then g2 g2.size hb3) | (go_at_call 24; refine (path_of3 _).mono ?_; rintro e w4 ⟨⟨v4, rfl, ho4⟩, hb4⟩; have g4 := below_then g3 g3.size hb4))
    go_wp2_with (go_at_call 23; refine (D2 _ _ ho4).mono ?_; rintro e w5 ⟨rfl, hb5⟩; clear D2; have g5 := below_then g4 g4.size hb5)
    go_ret2
    exact ⟨rfl, g5⟩
  rw [if_neg (by simp)] at h
  obtain ⟨u, hu, h⟩ := Option.bind_eq_some_iff.1 h
  have HU := fun (w : World) (HT : Aside0 (Hand.Laid w)) => target_undotted.calls k p u w HT hu
  clear hu
  try simp only at h
  unfold path_end at h
  cases has
  · rw [if_pos rfl] at h
    obtain ⟨rfl, rfl⟩ : u = r1 ∧ 0 = r2 := by simpa using h
    clear h
    go_enter Tryd.func9, Tryd.ntmps9
    go_wp2_with (first | (go_at_call 21; refine (H1 _).mono ?_; rintro e w' ⟨rfl, rfl⟩; clear H1) | (go_at_call 22; refine (HC _).mono ?_; rintro e w1 ⟨rfl, hb1⟩; clear HC) | (go_at_call 24; refine (path_of2 _).mono ?_; rintro e w2 ⟨⟨v2, rfl, ho2⟩, hb2⟩; have g2 := below_then hb1 hb1.size hb2))
    go_wp2_with (first | (go_at_call 23; refine (D1 _ _ ho2).mono ?_; rintro e w3 ⟨rfl, hb3⟩; clear D1; have g3 := below_then g2 g2.size hb3) | (go_at_call 24; refine (path_of3 _).mono ?_; rintro e w4 ⟨⟨v4, rfl, ho4⟩, hb4⟩; have g4 := below_then g3 g3.size hb4))
    go_wp2_with (go_at_call 23; refine (D2 _ _ ho4).mono ?_; rintro e w5 ⟨rfl, hb5⟩; clear D2; have g5 := below_then g4 g4.size hb5)
    go_wp2_with (go_at_call 25; refine (HU _ ⟨HT.out.below g5⟩).mono ?_; rintro e w6 ⟨rfl, hb6⟩; clear HU)
    go_ret2
    exact ⟨rfl, below_then g5 g5.size hb6⟩
  · rw [if_neg (by simp)] at h
    split at h
    case isFalse => cases h
    case isTrue hl =>
      obtain ⟨rfl, rfl⟩ : u ++ (⟨#[63]⟩ ++ q) = r1 ∧ 0 = r2 := by simpa using h
      clear h
      obtain ⟨hl1, hl2⟩ := hl
      go_enter Tryd.func9, Tryd.ntmps9
      go_wp2_with (first | (go_at_call 21; refine (H1 _).mono ?_; rintro e w' ⟨rfl, rfl⟩; clear H1) | (go_at_call 22; refine (HC _).mono ?_; rintro e w1 ⟨rfl, hb1⟩; clear HC) | (go_at_call 24; refine (path_of2 _).mono ?_; rintro e w2 ⟨⟨v2, rfl, ho2⟩, hb2⟩; have g2 := below_then hb1 hb1.size hb2))
      go_wp2_with (first | (go_at_call 23; refine (D1 _ _ ho2).mono ?_; rintro e w3 ⟨rfl, hb3⟩; clear D1; have g3 := below_then g2 g2.size hb3) | (go_at_call 24; refine (path_of3 _).mono ?_; rintro e w4 ⟨⟨v4, rfl, ho4⟩, hb4⟩; have g4 := below_then g3 g3.size hb4))
      go_wp2_with (go_at_call 23; refine (D2 _ _ ho4).mono ?_; rintro e w5 ⟨rfl, hb5⟩; clear D2; have g5 := below_then g4 g4.size hb5)
      go_wp2_with (go_at_call 25; refine (HU _ ⟨HT.out.below g5⟩).mono ?_; rintro e w6 ⟨rfl, hb6⟩; clear HU)
      go_ret2
      exact ⟨rfl, below_then g5 g5.size hb6⟩

/-! ### decimal_read: function 50: told by hand -/
def readGo (s : ByteArray) (base : Int) : Nat → Int → Nat → Option Int
  | 0, acc, _ => some acc
  | k + 1, acc, i => if Hand.dig (bt s i) base < 0 then none else readGo s base k (wrap64 (wrap64 (acc * base) + Hand.dig (bt s i) base)) (i + 1)
def readEnd (most : Int) : Option Int → Int × Int
  | none => (0, 5)
  | some n => if most < n then (0, 3) else (n, 0)
def readP (s : ByteArray) (base long most : Int) : Int × Int := if s.size = 0 then (0, 5) else if long < s.size then (0, 5) else readEnd most (readGo s base s.size 0 0)
def ReadPost (w : World) (p : Int × Int) (e : Ending) (w' : World) : Prop := e = .returned (.tuple #[.int .i64 p.1, .int .i64 p.2]) ∧ Below w.heap.size w w'
set_option maxHeartbeats 800000 in
theorem read_empty (s : ByteArray) (base long most : Int) (w : World) (h : s.toList = []) : Calls Tryd.prog 50 #[.string s, .int .i64 base, .int .i64 long, .int .i64 most] w (ReadPost w (0, 5)) := by
  go_enter Tryd.func50, Tryd.ntmps50
  go_wp2_with fail
  go_ret2
  exact ⟨rfl, Below.refl _ _⟩
set_option maxHeartbeats 800000 in
theorem read_long (s : ByteArray) (base long most : Int) (w : World) (h : (s.toList == []) = false) (hl : long < (s.size : Int)) : Calls Tryd.prog 50 #[.string s, .int .i64 base, .int .i64 long, .int .i64 most] w (ReadPost w (0, 5)) := by
  go_enter Tryd.func50, Tryd.ntmps50
  go_wp2_with fail
  go_ret2
  exact ⟨rfl, Below.refl _ _⟩
set_option maxHeartbeats 1600000 in
theorem read_loop (s : ByteArray) (base long most : Int) (w : World) (hb : 1 ≤ base) (hb2 : base ≤ 16) (hm : (s.size : Int) ≤ 9223372036854775807) (h : (s.toList == []) = false) (hl : (s.size : Int) ≤ long) :
    Calls Tryd.prog 50 #[.string s, .int .i64 base, .int .i64 long, .int .i64 most] w (ReadPost w (readEnd most (readGo s base s.size 0 0))) := by
  go_enter Tryd.func50, Tryd.ntmps50
  go_wp2_with fail
  go_loopw [10] (fun n w' => ∃ (k : Nat) (acc : Int), k ≤ s.size ∧ w' = w.iter s k ∧ n = .int .i64 acc ∧ Hid (readGo s base (s.size - k) acc k = readGo s base s.size 0 0)) (fun _ w' => s.size - w'.iterPos w.heap.size)
  case atStart => exact ⟨0, 0, Nat.zero_le _, rfl, rfl, Lib.hid rfl⟩
  case round =>
    obtain ⟨k, acc, hk, rfl, rfl, HA⟩ := hrel
    by_cases hp : k < s.size
    · have hgo : Hid (readGo s base (s.size - k) acc k = if Hand.dig (bt s k) base < 0 then none else readGo s base (s.size - (k + 1)) (wrap64 (wrap64 (acc * base) + Hand.dig (bt s k) base)) (k + 1)) := by
        have e : s.size - k = (s.size - (k + 1)) + 1 := by omega
        show _ = _
        rw [e, readGo]
      have hbt : ((s[k]'hp).toNat : Int) = bt s k := bt_at s (k : Int) hp
      by_cases hneg : Hand.dig (bt s k) base < 0
      · have hnone : Hid (readGo s base s.size 0 0 = none) := by
          show _ = _
          rw [← HA.out, hgo.out, if_pos hneg]
        clear hgo HA
        obtain ⟨r, p, hr, hnx⟩ : ∃ (r : Int) (p : Nat), Hid (Hand.dig r base < 0) ∧ ∀ ty, (Instr.next (.pointer (some ⟨w.heap.size, 0, none⟩)) true ty).run Tryd.prog (w.iter s k) = .ok (.tuple #[.bool true, .int .i64 k, .int .i32 r]) (w.iter s p) := by
          by_cases ha : (s[k]'hp).toNat < 128
          · refine ⟨bt s k, k + 1, hneg, fun ty => ?_⟩
            rw [run_next_any w s k ty hp, decode_ascii s k hp ha, ← hbt]
          · refine ⟨((Utf8.decode s k).1 : Int), _, ?_, fun ty => run_next_any w s k ty hp⟩
            have := (decode_high s k hp (by omega)).1
            show Hand.dig _ _ < 0
            rw [Hand.dig, Hand.dig0, if_neg (by omega), if_neg (by omega), if_neg (by omega)]
            split <;> omega
        have hdv : Hand.dig r base = -1 := by
          have := hr.out
          unfold Hand.dig at this ⊢
          unfold Hand.dig0 at this ⊢
          repeat' split at this
          all_goals (first | omega | (repeat' split) <;> omega)
        have H := Hand.digit_any r base
        rw [hdv] at H
        clear hdv hneg hbt
        go_wp2_with (go_at_call 63; refine (H _ hb hb2).mono ?_; rintro e w' ⟨rfl, rfl⟩; clear H)
        go_ret2
        exact ⟨by rw [hnone.out]; rfl, Hand.below_iter _ _ _⟩
      · have ha : (s[k]'hp).toNat < 128 := by
          rcases Nat.lt_or_ge (s[k]'hp).toNat 128 with h | h
          · exact h
          · exfalso
            apply hneg
            rw [← hbt, Hand.dig, Hand.dig0, if_neg (by omega), if_neg (by omega), if_neg (by omega)]
            split <;> omega
        have hnx : ∀ ty, (Instr.next (.pointer (some ⟨w.heap.size, 0, none⟩)) true ty).run Tryd.prog (w.iter s k) = .ok (.tuple #[.bool true, .int .i64 k, .int .i32 (bt s k)]) (w.iter s (k + 1)) := by
          intro ty
          rw [run_next_any w s k ty hp, decode_ascii s k hp ha, ← hbt]
        have H := Hand.digit_any (bt s k) base
        have hgo2 : Hid (readGo s base (s.size - (k + 1)) (wrap64 (wrap64 (acc * base) + Hand.dig (bt s k) base)) (k + 1) = readGo s base s.size 0 0) := by
          show _ = _
          rw [← HA.out, hgo.out, if_neg hneg]
        have hd0 : 0 ≤ Hand.dig (bt s k) base := by omega
        clear hgo HA hbt hneg
        generalize Hand.dig (bt s k) base = dg at H hgo2 hd0
        go_wp2_with (go_at_call 63; refine (H _ hb hb2).mono ?_; rintro e w' ⟨rfl, rfl⟩; clear H)
        go_roundw
        case rel => exact ⟨k + 1, _, by omega, rfl, rfl, hgo2⟩
        case measure => simp; omega
    · have hnx : ∀ ty, (Instr.next (.pointer (some ⟨w.heap.size, 0, none⟩)) true ty).run Tryd.prog (w.iter s k) = _ := fun ty => run_next_end w s k ty hp
      have hfin : Hid (readGo s base s.size 0 0 = some acc) := by
        show _ = _
        rw [← HA.out, show s.size - k = 0 by omega]; rfl
      clear HA
      by_cases hgt : most < acc
      · have hE : Hid (readEnd most (some acc) = (0, 3)) := by show _ = _; simp [readEnd, hgt]
        go_wp2
        go_ret2
        exact ⟨by rw [hfin.out, hE.out]; rfl, Hand.below_iter _ _ _⟩
      · have hE : Hid (readEnd most (some acc) = (acc, 0)) := by show _ = _; simp [readEnd, hgt]
        go_wp2
        go_ret2
        exact ⟨by rw [hfin.out, hE.out]; rfl, Hand.below_iter _ _ _⟩
def decimal_read.f (a0 : ByteArray) (a1 : Int) (a2 : Int) (a3 : Int) : Option (Int × Int) := if 1 ≤ a1 ∧ a1 ≤ 16 ∧ a0.size ≤ 9223372036854775807 then some (readP a0 a1 a2 a3) else none
theorem decimal_read.calls (a0 : ByteArray) (a1 : Int) (a2 : Int) (a3 : Int) (r1 : Int) (r2 : Int) (w : World) (h : decimal_read.f a0 a1 a2 a3 = some (r1, r2)) :
    Calls Tryd.prog 50 #[.string a0, .int .i64 a1, .int .i64 a2, .int .i64 a3] w fun e w' => e = .returned (.tuple #[.int .i64 r1, .int .i64 r2]) ∧ Below w.heap.size w w' := by
  unfold decimal_read.f at h
  split at h
  case isFalse => cases h
  case isTrue hs =>
    obtain ⟨h1, h2, h3⟩ := hs
    have e := Option.some.inj h
    have fin : Calls Tryd.prog 50 #[.string a0, .int .i64 a1, .int .i64 a2, .int .i64 a3] w (ReadPost w (readP a0 a1 a2 a3)) := by
      unfold readP
      by_cases c1 : a0.size = 0
      · rw [if_pos c1]
        exact read_empty a0 a1 a2 a3 w (by rw [ByteArray.toList_eq]; exact List.eq_nil_of_length_eq_zero (by rw [data_length]; exact c1))
      · rw [if_neg c1]
        have hne : (a0.toList == []) = false := by
          rw [ByteArray.toList_eq]
          have : a0.data.toList ≠ [] := fun e => c1 (by rw [← data_length, e]; rfl)
          simpa using this
        by_cases c2 : a2 < a0.size
        · rw [if_pos c2]
          exact read_long a0 a1 a2 a3 w hne c2
        · rw [if_neg c2]
          exact read_loop a0 a1 a2 a3 w h1 h2 (by omega) hne (by omega)
    rw [e] at fin
    exact fin

/-! ### decimal_Number: function 31 -/
def decimal_Number.f (a0 : ByteArray) (a1 : Int) : Option (Int × Int) := (decimal_read.f a0 10 18 a1).bind fun bt135 => (some (bt135.1, bt135.2))
set_option maxHeartbeats 8000000 in
set_option maxRecDepth 100000 in
theorem decimal_Number.calls (a0 : ByteArray) (a1 : Int) (r1 : Int) (r2 : Int) (w : World) (h : decimal_Number.f a0 a1 = some (r1, r2)) :
    Calls Tryd.prog 31 #[.string a0, .int .i64 a1] w fun e w' => e = .returned (.tuple #[.int .i64 r1, .int .i64 r2]) ∧ Below w.heap.size w w' := by
  have HB := Aside0.mk (Below.refl w.heap.size w)
  have H : ((decimal_read.f a0 10 18 a1).bind fun bt135 => (some (bt135.1, bt135.2))) = some (r1, r2) := h
  clear h
  replace H := Option.bind_eq_some_iff.mp H
  obtain ⟨⟨t135, t136⟩, A30, H⟩ := H
  replace H : (some (t135, t136)) = some (r1, r2) := H
  have A3 := Aside0.mk A30
  clear A30
  simp only [Option.some.injEq, Prod.mk.injEq] at H
  obtain ⟨rfl, rfl⟩ := H
  go_enter Tryd.func31, Tryd.ntmps31
  go_wp2_with (first | ((with_reducible refine gate_callee (f := 50) rfl ?_); refine goesL_ (some 8) rfl rfl Tryd.func50 (by kernel_rfl) rfl #[.string a0, .int .i64 10, .int .i64 18, .int .i64 a1] rfl (by (try simp only [List.map_toArray, List.map_cons, List.map_nil]); first | done | rfl | (simp only [List.length_drop, List.length_take]; rfl)) ?_; (with_reducible refine (decimal_read.calls a0 10 18 a1 t135 t136 _ A3.out).mono ?_); rintro e w4 ⟨rfl, hb⟩; refine ⟨_, rfl, ?_⟩; have n0_ := Aside0.mk (below_step (by repeat (first | (with_reducible first | exact HB.out | apply below_alloc | apply pw_below_drewN | apply below_drew1) | exact HB.out)) hb); clear HB; have HB := n0_; clear n0_; (try clear hb); (try clear hb2); (try clear hk); (try clear hi)))
  go_ret2
  exact ⟨by first | rfl | (simp [errW_none, errW_some] <;> rfl) | (simp [*, errW_none, errW_some] <;> rfl), by repeat (first | (with_reducible first | exact HB.out | apply below_alloc | apply pw_below_drewN | apply below_drew1) | exact HB.out)⟩

/-! ### target_Authority: function 11: told by hand -/
def hostT : ByteArray := ⟨#[45, 46]⟩
def auth_end (host rest : ByteArray) (n : Int × Int) : ByteArray × Int × Int := if ¬ n.2 = 0 then (⟨#[]⟩, 0, 26) else if n.1 = 0 then (⟨#[]⟩, 0, 26) else if 5 < rest.size then (⟨#[]⟩, 0, 26) else (Hand.lowerS host, n.1, 0)
def auth_mid (host rest : ByteArray) : Option (ByteArray × Int × Int) :=
  if host.size = 0 then some (⟨#[]⟩, 0, 26) else if 253 < host.size then some (⟨#[]⟩, 0, 26)
  else if Hand.allB (Hand.ofB hostT) host host.size = false then some (⟨#[]⟩, 0, 26)
  else if rest.size = 0 then some (Hand.lowerS host, 80, 0)
  else (decimal_Number.f rest 65535).bind fun n => some (auth_end host rest n)
def target_Authority.f (a0 : ByteArray) : Option (ByteArray × Int × Int) := (octet_Cut.f a0 58).bind fun c => auth_mid c.1 c.2.1
theorem auth_of (w : World) : Calls Tryd.prog 24 #[.slice (some ⟨w.heap.size, 0, none⟩) 1 1] (w.alloc (.cells #[.string ⟨#[45, 46]⟩] 9)) fun e w' => (∃ v, e = .returned v ∧ Hand.OfAt w' v hostT) ∧ Below w.heap.size w w' := by
  refine (Hand.of_any [⟨#[45, 46]⟩] 1 _ hostT rfl rfl _ (fun j x h => ?_) (by simp) (by decide) (by decide)).mono fun e w' ⟨he, hb⟩ => ⟨he, below_then (Hand.alloc_below _ _) (by simp) hb⟩
  match j, h with
  | 0, h => simp at h; subst h; simp [go_sem]
set_option maxHeartbeats 1600000 in
theorem target_Authority.calls (a0 : ByteArray) (r1 : ByteArray) (r2 r3 : Int) (w : World) (h : target_Authority.f a0 = some (r1, r2, r3)) :
    Calls Tryd.prog 11 #[.string a0] w fun e w' => e = .returned (.tuple #[.string r1, .int .i64 r2, .int .i64 r3]) ∧ Below w.heap.size w w' := by
  unfold target_Authority.f at h
  obtain ⟨⟨host, rest, has⟩, hc, h⟩ := Option.bind_eq_some_iff.1 h
  have HC := fun w => octet_Cut.calls a0 58 host rest has w hc
  clear hc
  simp only at h
  unfold auth_mid at h
  by_cases c0 : host.size = 0
  · rw [if_pos c0] at h
    obtain ⟨rfl, rfl, rfl⟩ : ⟨#[]⟩ = r1 ∧ 0 = r2 ∧ 26 = r3 := by simpa using h
    have hn := Hand.toList_nil_of c0
    clear h
    go_enter Tryd.func11, Tryd.ntmps11
    go_wp2_with (go_at_call 22; refine (HC _).mono ?_; rintro e w1 ⟨rfl, hb1⟩; clear HC)
    go_ret3
    exact ⟨rfl, hb1⟩
  rw [if_neg c0] at h
  have hn := Hand.toList_cons_of c0
  by_cases c1 : 253 < host.size
  · rw [if_pos c1] at h
    obtain ⟨rfl, rfl, rfl⟩ : ⟨#[]⟩ = r1 ∧ 0 = r2 ∧ 26 = r3 := by simpa using h
    have c1' : 253 < (host.size : Int) := by omega
    clear h
    go_enter Tryd.func11, Tryd.ntmps11
    go_wp2_with (go_at_call 22; refine (HC _).mono ?_; rintro e w1 ⟨rfl, hb1⟩; clear HC)
    go_ret3
    exact ⟨rfl, hb1⟩
  rw [if_neg c1] at h
  have c1' : ¬ 253 < (host.size : Int) := by omega
  have HA := fun (v : Value) (w : World) (hv : Hand.OfAt w v hostT) => Hand.all_of host hostT v w hv (by omega)
  cases c2 : Hand.allB (Hand.ofB hostT) host host.size
  · rw [c2, if_pos rfl] at h
    rw [c2] at HA
    obtain ⟨rfl, rfl, rfl⟩ : ⟨#[]⟩ = r1 ∧ 0 = r2 ∧ 26 = r3 := by simpa using h
    clear h c2
    go_enter Tryd.func11, Tryd.ntmps11
    go_wp2_with (first | (go_at_call 22; refine (HC _).mono ?_; rintro e w1 ⟨rfl, hb1⟩; clear HC) | (go_at_call 24; refine (auth_of _).mono ?_; rintro e w2 ⟨⟨v2, rfl, ho2⟩, hb2⟩; have g2 := below_then hb1 hb1.size hb2) | (go_at_call 29; refine (HA _ _ ho2).mono ?_; rintro e w3 ⟨rfl, hb3⟩; clear HA; have g3 := below_then g2 g2.size hb3))
    go_ret3
    exact ⟨rfl, g3⟩
  rw [c2, if_neg (by simp)] at h
  rw [c2] at HA
  have HL := fun w => Hand.Lower_any host w (by omega)
  by_cases c3 : rest.size = 0
  · rw [if_pos c3] at h
    obtain ⟨rfl, rfl, rfl⟩ : Hand.lowerS host = r1 ∧ 80 = r2 ∧ 0 = r3 := by simpa using h
    have hn2 := Hand.toList_nil_of c3
    clear h c2
    go_enter Tryd.func11, Tryd.ntmps11
    go_wp2_with (first | (go_at_call 22; refine (HC _).mono ?_; rintro e w1 ⟨rfl, hb1⟩; clear HC) | (go_at_call 24; refine (auth_of _).mono ?_; rintro e w2 ⟨⟨v2, rfl, ho2⟩, hb2⟩; have g2 := below_then hb1 hb1.size hb2) | (go_at_call 29; refine (HA _ _ ho2).mono ?_; rintro e w3 ⟨rfl, hb3⟩; clear HA; have g3 := below_then g2 g2.size hb3) | (go_at_call 30; refine (HL _).mono ?_; rintro e w4 ⟨rfl, hb4⟩; clear HL; have g4 := below_then g3 g3.size hb4))
    go_ret3
    exact ⟨rfl, g4⟩
  rw [if_neg c3] at h
  have hn2 := Hand.toList_cons_of c3
  obtain ⟨⟨n, e⟩, hN, h⟩ := Option.bind_eq_some_iff.1 h
  have HN := fun w => decimal_Number.calls rest 65535 n e w hN
  clear hN
  replace h := Option.some.inj h
  unfold auth_end at h
  simp only at h
  by_cases c4 : e = 0
  · rw [if_neg (not_not_intro c4)] at h
    subst c4
    by_cases c5 : n = 0
    · rw [if_pos c5] at h
      obtain ⟨rfl, rfl, rfl⟩ : ⟨#[]⟩ = r1 ∧ 0 = r2 ∧ 26 = r3 := by simpa using h
      subst c5
      clear h c2
      go_enter Tryd.func11, Tryd.ntmps11
      go_wp2_with (first | (go_at_call 22; refine (HC _).mono ?_; rintro e w1 ⟨rfl, hb1⟩; clear HC) | (go_at_call 24; refine (auth_of _).mono ?_; rintro e w2 ⟨⟨v2, rfl, ho2⟩, hb2⟩; have g2 := below_then hb1 hb1.size hb2) | (go_at_call 29; refine (HA _ _ ho2).mono ?_; rintro e w3 ⟨rfl, hb3⟩; clear HA; have g3 := below_then g2 g2.size hb3) | (go_at_call 31; refine (HN _).mono ?_; rintro e w4 ⟨rfl, hb4⟩; clear HN; have g4 := below_then g3 g3.size hb4))
      go_ret3
      exact ⟨rfl, g4⟩
    · rw [if_neg c5] at h
      have q5 : (n == 0) = false := beq_eq_false_iff_ne.mpr c5
      by_cases c6 : 5 < rest.size
      · rw [if_pos c6] at h
        obtain ⟨rfl, rfl, rfl⟩ : ⟨#[]⟩ = r1 ∧ 0 = r2 ∧ 26 = r3 := by simpa using h
        have c6' : 5 < (rest.size : Int) := by omega
        clear h c2
        go_enter Tryd.func11, Tryd.ntmps11
        go_wp2_with (first | (go_at_call 22; refine (HC _).mono ?_; rintro e w1 ⟨rfl, hb1⟩; clear HC) | (go_at_call 24; refine (auth_of _).mono ?_; rintro e w2 ⟨⟨v2, rfl, ho2⟩, hb2⟩; have g2 := below_then hb1 hb1.size hb2) | (go_at_call 29; refine (HA _ _ ho2).mono ?_; rintro e w3 ⟨rfl, hb3⟩; clear HA; have g3 := below_then g2 g2.size hb3) | (go_at_call 31; refine (HN _).mono ?_; rintro e w4 ⟨rfl, hb4⟩; clear HN; have g4 := below_then g3 g3.size hb4))
        go_ret3
        exact ⟨rfl, g4⟩
      · rw [if_neg c6] at h
        obtain ⟨rfl, rfl, rfl⟩ : Hand.lowerS host = r1 ∧ n = r2 ∧ 0 = r3 := by simpa using h
        have c6' : ¬ 5 < (rest.size : Int) := by omega
        clear h c2
        go_enter Tryd.func11, Tryd.ntmps11
        go_wp2_with (first | (go_at_call 22; refine (HC _).mono ?_; rintro e w1 ⟨rfl, hb1⟩; clear HC) | (go_at_call 24; refine (auth_of _).mono ?_; rintro e w2 ⟨⟨v2, rfl, ho2⟩, hb2⟩; have g2 := below_then hb1 hb1.size hb2) | (go_at_call 29; refine (HA _ _ ho2).mono ?_; rintro e w3 ⟨rfl, hb3⟩; clear HA; have g3 := below_then g2 g2.size hb3) | (go_at_call 31; refine (HN _).mono ?_; rintro e w4 ⟨rfl, hb4⟩; clear HN; have g4 := below_then g3 g3.size hb4) | (go_at_call 30; refine (HL _).mono ?_; rintro e w5 ⟨rfl, hb5⟩; clear HL; have g5 := below_then g4 g4.size hb5))
        go_ret3
        exact ⟨rfl, g5⟩
  · rw [if_pos c4] at h
    obtain ⟨rfl, rfl, rfl⟩ : ⟨#[]⟩ = r1 ∧ 0 = r2 ∧ 26 = r3 := by simpa using h
    have q4 : (e != 0) = true := bne_iff_ne.mpr c4
    clear h c2
    go_enter Tryd.func11, Tryd.ntmps11
    go_wp2_with (first | (go_at_call 22; refine (HC _).mono ?_; rintro e w1 ⟨rfl, hb1⟩; clear HC) | (go_at_call 24; refine (auth_of _).mono ?_; rintro e w2 ⟨⟨v2, rfl, ho2⟩, hb2⟩; have g2 := below_then hb1 hb1.size hb2) | (go_at_call 29; refine (HA _ _ ho2).mono ?_; rintro e w3 ⟨rfl, hb3⟩; clear HA; have g3 := below_then g2 g2.size hb3) | (go_at_call 31; refine (HN _).mono ?_; rintro e w4 ⟨rfl, hb4⟩; clear HN; have g4 := below_then g3 g3.size hb4))
    go_ret3
    exact ⟨rfl, g4⟩

end Go.Proofs.YtghaocjhmambaaaDoor.PR
