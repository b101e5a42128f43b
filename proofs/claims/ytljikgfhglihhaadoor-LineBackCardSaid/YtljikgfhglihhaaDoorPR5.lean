-- Out of the translation, by a program of this session: each function that a law comes to as a Lean function, and that the machine's call does what it says. Lean checks it.
import Derived.Test.YtljikgfhglihhaaDoorPR0
import Derived.Test.YtljikgfhglihhaaDoorPR2
import Derived.Test.YtljikgfhglihhaaDoorPR3
import Derived.Test.YtljikgfhglihhaaDoorPR4
namespace Go.Proofs.YtljikgfhglihhaaDoor.PR
open Go.RowKit Go.Proofs.YtljikgfhglihhaaDoorW.PrintWords Go.Proofs.YtljikgfhglihhaaDoorW.PrintLast Go.Proofs.YtljikgfhglihhaaDoorW.PrintMore
attribute [local go_sem] max2_int min2_int max_two min_two max_three min_three max_four min_four   -- for this text's walks alone
set_option linter.unusedVariables false
set_option linter.unusedSimpArgs false

/-! ### depotlaw10_lines: function 6 -/
def depotlaw10_lines.f (k : Nat)  : Option (Bool) := (line_Request.f k (⟨#[71, 69, 84, 32, 47, 97, 32, 72, 84, 84, 80, 47, 49, 46, 49]⟩ : ByteArray)).bind fun bt145 => ((line_Status.f (⟨#[72, 84, 84, 80, 47, 49, 46, 48, 32, 52, 48, 52, 32]⟩ : ByteArray)).bind fun bt149 => ((line_Request.f k (⟨#[71, 69, 84, 32, 47, 97, 32, 72, 84, 84, 80, 47, 49, 46, 50]⟩ : ByteArray)).bind fun bt153 => (if bt145.1.toList = ([71, 69, 84] : List UInt8) then (if bt145.2.1.toList = ([47, 97] : List UInt8) then (if bt145.2.2.1 = 1 then (if bt145.2.2.2 = 0 then (if bt149.1 = 404 then (if bt149.2.1.toList = ([] : List UInt8) then (if bt149.2.2.1 = 0 then (if bt149.2.2.2 = 0 then (if bt153.2.2.2 = 20 then ((line_Safe.f (⟨#[72, 69, 65, 68]⟩ : ByteArray)).bind fun t157 => (if t157 = true then ((line_Safe.f (⟨#[80, 79, 83, 84]⟩ : ByteArray)).bind fun t158 => (if t158 = true then (some false) else ((line_Usual.f 304).bind fun t159 => (if t159.toList = ([78, 111, 116, 32, 77, 111, 100, 105, 102, 105, 101, 100] : List UInt8) then ((line_PrintStatus.f 200 (⟨#[79, 75]⟩ : ByteArray) 1).bind fun t160 => (if t160.toList = ([72, 84, 84, 80, 47, 49, 46, 49, 32, 50, 48, 48, 32, 79, 75] : List UInt8) then ((line_PrintRequest.f (⟨#[65]⟩ : ByteArray) (⟨#[47]⟩ : ByteArray) 0).bind fun t161 => (some (t161.toList == ([65, 32, 47, 32, 72, 84, 84, 80, 47, 49, 46, 48] : List UInt8)))) else (some false))) else (some false))))) else (some false))) else (some false)) else (some false)) else (some false)) else (some false)) else (some false)) else (some false)) else (some false)) else (some false)) else (some false))))
theorem depotlaw10_lines.mono : ∀ k, LeO (depotlaw10_lines.f k ) (depotlaw10_lines.f (k + 1) ) := by
  intro  k
  unfold depotlaw10_lines.f
  repeat' first
      | (with_reducible exact line_Request.mono _ _)
      | (with_reducible exact LeO.refl _)
      | (with_reducible exact LeO.none _)
      | (with_reducible refine LeO.ite ?_ ?_)
      | (with_reducible refine LeO.bind ?_ (fun _ => ?_))
      | exact line_Request.mono _ _
      | exact LeO.none _
      | refine LeO.ite ?_ ?_
      | refine LeO.bind ?_ (fun _ => ?_)
set_option maxHeartbeats 8000000 in
set_option maxRecDepth 100000 in
theorem depotlaw10_lines.calls (k : Nat)  (r : Bool) (w : World) (HTRUE : Aside0 (r = true)) (HT : Aside0 (Hand.Laid w)) (h : depotlaw10_lines.f k  = some r) :
    Calls Tryd.prog 6 #[] w fun e w' => e = .returned (.bool r) ∧ Below w.heap.size w w' := by
  have HB := Aside0.mk (Below.refl w.heap.size w)
  have H : ((line_Request.f k (⟨#[71, 69, 84, 32, 47, 97, 32, 72, 84, 84, 80, 47, 49, 46, 49]⟩ : ByteArray)).bind fun bt145 => ((line_Status.f (⟨#[72, 84, 84, 80, 47, 49, 46, 48, 32, 52, 48, 52, 32]⟩ : ByteArray)).bind fun bt149 => ((line_Request.f k (⟨#[71, 69, 84, 32, 47, 97, 32, 72, 84, 84, 80, 47, 49, 46, 50]⟩ : ByteArray)).bind fun bt153 => (if bt145.1.toList = ([71, 69, 84] : List UInt8) then (if bt145.2.1.toList = ([47, 97] : List UInt8) then (if bt145.2.2.1 = 1 then (if bt145.2.2.2 = 0 then (if bt149.1 = 404 then (if bt149.2.1.toList = ([] : List UInt8) then (if bt149.2.2.1 = 0 then (if bt149.2.2.2 = 0 then (if bt153.2.2.2 = 20 then ((line_Safe.f (⟨#[72, 69, 65, 68]⟩ : ByteArray)).bind fun t157 => (if t157 = true then ((line_Safe.f (⟨#[80, 79, 83, 84]⟩ : ByteArray)).bind fun t158 => (if t158 = true then (some false) else ((line_Usual.f 304).bind fun t159 => (if t159.toList = ([78, 111, 116, 32, 77, 111, 100, 105, 102, 105, 101, 100] : List UInt8) then ((line_PrintStatus.f 200 (⟨#[79, 75]⟩ : ByteArray) 1).bind fun t160 => (if t160.toList = ([72, 84, 84, 80, 47, 49, 46, 49, 32, 50, 48, 48, 32, 79, 75] : List UInt8) then ((line_PrintRequest.f (⟨#[65]⟩ : ByteArray) (⟨#[47]⟩ : ByteArray) 0).bind fun t161 => (some (t161.toList == ([65, 32, 47, 32, 72, 84, 84, 80, 47, 49, 46, 48] : List UInt8)))) else (some false))) else (some false))))) else (some false))) else (some false)) else (some false)) else (some false)) else (some false)) else (some false)) else (some false)) else (some false)) else (some false)) else (some false))))) = some r := h
  clear h
  replace H := Option.bind_eq_some_iff.mp H
  obtain ⟨⟨t145, t146, t147, t148⟩, A10, H⟩ := H
  replace H : ((line_Status.f (⟨#[72, 84, 84, 80, 47, 49, 46, 48, 32, 52, 48, 52, 32]⟩ : ByteArray)).bind fun bt149 => ((line_Request.f k (⟨#[71, 69, 84, 32, 47, 97, 32, 72, 84, 84, 80, 47, 49, 46, 50]⟩ : ByteArray)).bind fun bt153 => (if t145.toList = ([71, 69, 84] : List UInt8) then (if t146.toList = ([47, 97] : List UInt8) then (if t147 = 1 then (if t148 = 0 then (if bt149.1 = 404 then (if bt149.2.1.toList = ([] : List UInt8) then (if bt149.2.2.1 = 0 then (if bt149.2.2.2 = 0 then (if bt153.2.2.2 = 20 then ((line_Safe.f (⟨#[72, 69, 65, 68]⟩ : ByteArray)).bind fun t157 => (if t157 = true then ((line_Safe.f (⟨#[80, 79, 83, 84]⟩ : ByteArray)).bind fun t158 => (if t158 = true then (some false) else ((line_Usual.f 304).bind fun t159 => (if t159.toList = ([78, 111, 116, 32, 77, 111, 100, 105, 102, 105, 101, 100] : List UInt8) then ((line_PrintStatus.f 200 (⟨#[79, 75]⟩ : ByteArray) 1).bind fun t160 => (if t160.toList = ([72, 84, 84, 80, 47, 49, 46, 49, 32, 50, 48, 48, 32, 79, 75] : List UInt8) then ((line_PrintRequest.f (⟨#[65]⟩ : ByteArray) (⟨#[47]⟩ : ByteArray) 0).bind fun t161 => (some (t161.toList == ([65, 32, 47, 32, 72, 84, 84, 80, 47, 49, 46, 48] : List UInt8)))) else (some false))) else (some false))))) else (some false))) else (some false)) else (some false)) else (some false)) else (some false)) else (some false)) else (some false)) else (some false)) else (some false)) else (some false)))) = some r := H
  have A1 := Aside0.mk A10
  clear A10
  replace H := Option.bind_eq_some_iff.mp H
  obtain ⟨⟨t149, t150, t151, t152⟩, A20, H⟩ := H
  replace H : ((line_Request.f k (⟨#[71, 69, 84, 32, 47, 97, 32, 72, 84, 84, 80, 47, 49, 46, 50]⟩ : ByteArray)).bind fun bt153 => (if t145.toList = ([71, 69, 84] : List UInt8) then (if t146.toList = ([47, 97] : List UInt8) then (if t147 = 1 then (if t148 = 0 then (if t149 = 404 then (if t150.toList = ([] : List UInt8) then (if t151 = 0 then (if t152 = 0 then (if bt153.2.2.2 = 20 then ((line_Safe.f (⟨#[72, 69, 65, 68]⟩ : ByteArray)).bind fun t157 => (if t157 = true then ((line_Safe.f (⟨#[80, 79, 83, 84]⟩ : ByteArray)).bind fun t158 => (if t158 = true then (some false) else ((line_Usual.f 304).bind fun t159 => (if t159.toList = ([78, 111, 116, 32, 77, 111, 100, 105, 102, 105, 101, 100] : List UInt8) then ((line_PrintStatus.f 200 (⟨#[79, 75]⟩ : ByteArray) 1).bind fun t160 => (if t160.toList = ([72, 84, 84, 80, 47, 49, 46, 49, 32, 50, 48, 48, 32, 79, 75] : List UInt8) then ((line_PrintRequest.f (⟨#[65]⟩ : ByteArray) (⟨#[47]⟩ : ByteArray) 0).bind fun t161 => (some (t161.toList == ([65, 32, 47, 32, 72, 84, 84, 80, 47, 49, 46, 48] : List UInt8)))) else (some false))) else (some false))))) else (some false))) else (some false)) else (some false)) else (some false)) else (some false)) else (some false)) else (some false)) else (some false)) else (some false)) else (some false))) = some r := H
  have A2 := Aside0.mk A20
  clear A20
  replace H := Option.bind_eq_some_iff.mp H
  obtain ⟨⟨t153, t154, t155, t156⟩, A30, H⟩ := H
  replace H : (if t145.toList = ([71, 69, 84] : List UInt8) then (if t146.toList = ([47, 97] : List UInt8) then (if t147 = 1 then (if t148 = 0 then (if t149 = 404 then (if t150.toList = ([] : List UInt8) then (if t151 = 0 then (if t152 = 0 then (if t156 = 20 then ((line_Safe.f (⟨#[72, 69, 65, 68]⟩ : ByteArray)).bind fun t157 => (if t157 = true then ((line_Safe.f (⟨#[80, 79, 83, 84]⟩ : ByteArray)).bind fun t158 => (if t158 = true then (some false) else ((line_Usual.f 304).bind fun t159 => (if t159.toList = ([78, 111, 116, 32, 77, 111, 100, 105, 102, 105, 101, 100] : List UInt8) then ((line_PrintStatus.f 200 (⟨#[79, 75]⟩ : ByteArray) 1).bind fun t160 => (if t160.toList = ([72, 84, 84, 80, 47, 49, 46, 49, 32, 50, 48, 48, 32, 79, 75] : List UInt8) then ((line_PrintRequest.f (⟨#[65]⟩ : ByteArray) (⟨#[47]⟩ : ByteArray) 0).bind fun t161 => (some (t161.toList == ([65, 32, 47, 32, 72, 84, 84, 80, 47, 49, 46, 48] : List UInt8)))) else (some false))) else (some false))))) else (some false))) else (some false)) else (some false)) else (some false)) else (some false)) else (some false)) else (some false)) else (some false)) else (some false)) else (some false)) = some r := H
  have A3 := Aside0.mk A30
  clear A30
  by_cases c4 : t145.toList = ([71, 69, 84] : List UInt8)
  · rw [if_pos c4] at H
    have c4b0 : (t145.toList == ([71, 69, 84] : List UInt8)) = true := beq_iff_eq.mpr c4
    have c4b1 : (t145.toList != ([71, 69, 84] : List UInt8)) = false := bne_eq_false_iff_eq.mpr c4
    clear c4
    by_cases c5 : t146.toList = ([47, 97] : List UInt8)
    · rw [if_pos c5] at H
      have c5b0 : (t146.toList == ([47, 97] : List UInt8)) = true := beq_iff_eq.mpr c5
      have c5b1 : (t146.toList != ([47, 97] : List UInt8)) = false := bne_eq_false_iff_eq.mpr c5
      clear c5
      by_cases c6 : t147 = 1
      · rw [if_pos c6] at H
        have c6b0 : (t147 == 1) = true := beq_iff_eq.mpr c6
        have c6b1 : (t147 != 1) = false := bne_eq_false_iff_eq.mpr c6
        clear c6
        by_cases c7 : t148 = 0
        · rw [if_pos c7] at H
          have c7b0 : (t148 == 0) = true := beq_iff_eq.mpr c7
          have c7b1 : (t148 != 0) = false := bne_eq_false_iff_eq.mpr c7
          clear c7
          by_cases c8 : t149 = 404
          · rw [if_pos c8] at H
            have c8b0 : (t149 == 404) = true := beq_iff_eq.mpr c8
            have c8b1 : (t149 != 404) = false := bne_eq_false_iff_eq.mpr c8
            clear c8
            by_cases c9 : t150.toList = ([] : List UInt8)
            · rw [if_pos c9] at H
              have c9b0 : (t150.toList == ([] : List UInt8)) = true := beq_iff_eq.mpr c9
              have c9b1 : (t150.toList != ([] : List UInt8)) = false := bne_eq_false_iff_eq.mpr c9
              clear c9
              by_cases c10 : t151 = 0
              · rw [if_pos c10] at H
                have c10b0 : (t151 == 0) = true := beq_iff_eq.mpr c10
                have c10b1 : (t151 != 0) = false := bne_eq_false_iff_eq.mpr c10
                clear c10
                by_cases c11 : t152 = 0
                · rw [if_pos c11] at H
                  have c11b0 : (t152 == 0) = true := beq_iff_eq.mpr c11
                  have c11b1 : (t152 != 0) = false := bne_eq_false_iff_eq.mpr c11
                  clear c11
                  by_cases c12 : t156 = 20
                  · rw [if_pos c12] at H
                    have c12b0 : (t156 == 20) = true := beq_iff_eq.mpr c12
                    have c12b1 : (t156 != 20) = false := bne_eq_false_iff_eq.mpr c12
                    clear c12
                    replace H := Option.bind_eq_some_iff.mp H
                    obtain ⟨t157, A130, H⟩ := H
                    replace H : (if t157 = true then ((line_Safe.f (⟨#[80, 79, 83, 84]⟩ : ByteArray)).bind fun t158 => (if t158 = true then (some false) else ((line_Usual.f 304).bind fun t159 => (if t159.toList = ([78, 111, 116, 32, 77, 111, 100, 105, 102, 105, 101, 100] : List UInt8) then ((line_PrintStatus.f 200 (⟨#[79, 75]⟩ : ByteArray) 1).bind fun t160 => (if t160.toList = ([72, 84, 84, 80, 47, 49, 46, 49, 32, 50, 48, 48, 32, 79, 75] : List UInt8) then ((line_PrintRequest.f (⟨#[65]⟩ : ByteArray) (⟨#[47]⟩ : ByteArray) 0).bind fun t161 => (some (t161.toList == ([65, 32, 47, 32, 72, 84, 84, 80, 47, 49, 46, 48] : List UInt8)))) else (some false))) else (some false))))) else (some false)) = some r := H
                    have A13 := Aside0.mk A130
                    clear A130
                    by_cases c14 : t157 = true
                    · subst c14
                      have H1 : ((line_Safe.f (⟨#[80, 79, 83, 84]⟩ : ByteArray)).bind fun t158 => (if t158 = true then (some false) else ((line_Usual.f 304).bind fun t159 => (if t159.toList = ([78, 111, 116, 32, 77, 111, 100, 105, 102, 105, 101, 100] : List UInt8) then ((line_PrintStatus.f 200 (⟨#[79, 75]⟩ : ByteArray) 1).bind fun t160 => (if t160.toList = ([72, 84, 84, 80, 47, 49, 46, 49, 32, 50, 48, 48, 32, 79, 75] : List UInt8) then ((line_PrintRequest.f (⟨#[65]⟩ : ByteArray) (⟨#[47]⟩ : ByteArray) 0).bind fun t161 => (some (t161.toList == ([65, 32, 47, 32, 72, 84, 84, 80, 47, 49, 46, 48] : List UInt8)))) else (some false))) else (some false))))) = some r := by rw [if_pos rfl] at H; exact H
                      clear H
                      have H := H1
                      clear H1
                      replace H := Option.bind_eq_some_iff.mp H
                      obtain ⟨t158, A150, H⟩ := H
                      replace H : (if t158 = true then (some false) else ((line_Usual.f 304).bind fun t159 => (if t159.toList = ([78, 111, 116, 32, 77, 111, 100, 105, 102, 105, 101, 100] : List UInt8) then ((line_PrintStatus.f 200 (⟨#[79, 75]⟩ : ByteArray) 1).bind fun t160 => (if t160.toList = ([72, 84, 84, 80, 47, 49, 46, 49, 32, 50, 48, 48, 32, 79, 75] : List UInt8) then ((line_PrintRequest.f (⟨#[65]⟩ : ByteArray) (⟨#[47]⟩ : ByteArray) 0).bind fun t161 => (some (t161.toList == ([65, 32, 47, 32, 72, 84, 84, 80, 47, 49, 46, 48] : List UInt8)))) else (some false))) else (some false)))) = some r := H
                      have A15 := Aside0.mk A150
                      clear A150
                      by_cases c16 : t158 = true
                      · subst c16
                        have H1 : (some false) = some r := by rw [if_pos rfl] at H; exact H
                        clear H
                        have H := H1
                        clear H1
                        obtain rfl := Option.some.inj H
                        exact absurd HTRUE.out (by decide)
                      · replace c16 := Bool.eq_false_iff.mpr c16
                        subst c16
                        have H1 : ((line_Usual.f 304).bind fun t159 => (if t159.toList = ([78, 111, 116, 32, 77, 111, 100, 105, 102, 105, 101, 100] : List UInt8) then ((line_PrintStatus.f 200 (⟨#[79, 75]⟩ : ByteArray) 1).bind fun t160 => (if t160.toList = ([72, 84, 84, 80, 47, 49, 46, 49, 32, 50, 48, 48, 32, 79, 75] : List UInt8) then ((line_PrintRequest.f (⟨#[65]⟩ : ByteArray) (⟨#[47]⟩ : ByteArray) 0).bind fun t161 => (some (t161.toList == ([65, 32, 47, 32, 72, 84, 84, 80, 47, 49, 46, 48] : List UInt8)))) else (some false))) else (some false))) = some r := by rw [if_neg (show ¬ (false = true) by decide)] at H; exact H
                        clear H
                        have H := H1
                        clear H1
                        replace H := Option.bind_eq_some_iff.mp H
                        obtain ⟨t159, A170, H⟩ := H
                        replace H : (if t159.toList = ([78, 111, 116, 32, 77, 111, 100, 105, 102, 105, 101, 100] : List UInt8) then ((line_PrintStatus.f 200 (⟨#[79, 75]⟩ : ByteArray) 1).bind fun t160 => (if t160.toList = ([72, 84, 84, 80, 47, 49, 46, 49, 32, 50, 48, 48, 32, 79, 75] : List UInt8) then ((line_PrintRequest.f (⟨#[65]⟩ : ByteArray) (⟨#[47]⟩ : ByteArray) 0).bind fun t161 => (some (t161.toList == ([65, 32, 47, 32, 72, 84, 84, 80, 47, 49, 46, 48] : List UInt8)))) else (some false))) else (some false)) = some r := H
                        have A17 := Aside0.mk A170
                        clear A170
                        by_cases c18 : t159.toList = ([78, 111, 116, 32, 77, 111, 100, 105, 102, 105, 101, 100] : List UInt8)
                        · rw [if_pos c18] at H
                          have c18b0 : (t159.toList == ([78, 111, 116, 32, 77, 111, 100, 105, 102, 105, 101, 100] : List UInt8)) = true := beq_iff_eq.mpr c18
                          have c18b1 : (t159.toList != ([78, 111, 116, 32, 77, 111, 100, 105, 102, 105, 101, 100] : List UInt8)) = false := bne_eq_false_iff_eq.mpr c18
                          clear c18
                          replace H := Option.bind_eq_some_iff.mp H
                          obtain ⟨t160, A190, H⟩ := H
                          replace H : (if t160.toList = ([72, 84, 84, 80, 47, 49, 46, 49, 32, 50, 48, 48, 32, 79, 75] : List UInt8) then ((line_PrintRequest.f (⟨#[65]⟩ : ByteArray) (⟨#[47]⟩ : ByteArray) 0).bind fun t161 => (some (t161.toList == ([65, 32, 47, 32, 72, 84, 84, 80, 47, 49, 46, 48] : List UInt8)))) else (some false)) = some r := H
                          have A19 := Aside0.mk A190
                          clear A190
                          by_cases c20 : t160.toList = ([72, 84, 84, 80, 47, 49, 46, 49, 32, 50, 48, 48, 32, 79, 75] : List UInt8)
                          · rw [if_pos c20] at H
                            have c20b0 : (t160.toList == ([72, 84, 84, 80, 47, 49, 46, 49, 32, 50, 48, 48, 32, 79, 75] : List UInt8)) = true := beq_iff_eq.mpr c20
                            have c20b1 : (t160.toList != ([72, 84, 84, 80, 47, 49, 46, 49, 32, 50, 48, 48, 32, 79, 75] : List UInt8)) = false := bne_eq_false_iff_eq.mpr c20
                            clear c20
                            replace H := Option.bind_eq_some_iff.mp H
                            obtain ⟨t161, A210, H⟩ := H
                            replace H : (some (t161.toList == ([65, 32, 47, 32, 72, 84, 84, 80, 47, 49, 46, 48] : List UInt8))) = some r := H
                            have A21 := Aside0.mk A210
                            clear A210
                            obtain rfl := Option.some.inj H
                            go_enter Tryd.func6, Tryd.ntmps6
                            go_wp2_with (first | ((with_reducible refine gate_callee (f := 7) rfl ?_); refine goesL_ (some 14) rfl rfl Tryd.func7 (by kernel_rfl) rfl #[.string (⟨#[71, 69, 84, 32, 47, 97, 32, 72, 84, 84, 80, 47, 49, 46, 49]⟩ : ByteArray)] rfl (by (try simp only [List.map_toArray, List.map_cons, List.map_nil]); first | done | rfl | (simp only [List.length_drop, List.length_take]; rfl)) ?_; (with_reducible refine (line_Request.calls k (⟨#[71, 69, 84, 32, 47, 97, 32, 72, 84, 84, 80, 47, 49, 46, 49]⟩ : ByteArray) t145 t146 t147 t148 _ ?side1 A1.out).mono ?_); (case side1 => first | exact HT | exact ⟨Hand.Laid.below HT.out (by repeat (first | (with_reducible first | exact HB.out | apply below_alloc | apply pw_below_drewN | apply below_drew1) | exact HB.out))⟩); rintro e w22 ⟨rfl, hb⟩; refine ⟨_, rfl, ?_⟩; have n0_ := Aside0.mk (below_step (by repeat (first | (with_reducible first | exact HB.out | apply below_alloc | apply pw_below_drewN | apply below_drew1) | exact HB.out)) hb); clear HB; have HB := n0_; clear n0_; (try clear hb); (try clear hb2); (try clear hk); (try clear hi)) | ((with_reducible refine gate_callee (f := 9) rfl ?_); refine goesL_ (some 20) rfl rfl Tryd.func9 (by kernel_rfl) rfl #[.string (⟨#[72, 84, 84, 80, 47, 49, 46, 48, 32, 52, 48, 52, 32]⟩ : ByteArray)] rfl (by (try simp only [List.map_toArray, List.map_cons, List.map_nil]); first | done | rfl | (simp only [List.length_drop, List.length_take]; rfl)) ?_; (with_reducible refine (line_Status.calls (⟨#[72, 84, 84, 80, 47, 49, 46, 48, 32, 52, 48, 52, 32]⟩ : ByteArray) t149 t150 t151 t152 _ A2.out).mono ?_); rintro e w23 ⟨rfl, hb⟩; refine ⟨_, rfl, ?_⟩; have n0_ := Aside0.mk (below_step (by repeat (first | (with_reducible first | exact HB.out | apply below_alloc | apply pw_below_drewN | apply below_drew1) | exact HB.out)) hb); clear HB; have HB := n0_; clear n0_; (try clear hb); (try clear hb2); (try clear hk); (try clear hi)) | ((with_reducible refine gate_callee (f := 7) rfl ?_); refine goesL_ (some 26) rfl rfl Tryd.func7 (by kernel_rfl) rfl #[.string (⟨#[71, 69, 84, 32, 47, 97, 32, 72, 84, 84, 80, 47, 49, 46, 50]⟩ : ByteArray)] rfl (by (try simp only [List.map_toArray, List.map_cons, List.map_nil]); first | done | rfl | (simp only [List.length_drop, List.length_take]; rfl)) ?_; (with_reducible refine (line_Request.calls k (⟨#[71, 69, 84, 32, 47, 97, 32, 72, 84, 84, 80, 47, 49, 46, 50]⟩ : ByteArray) t153 t154 t155 t156 _ ?side1 A3.out).mono ?_); (case side1 => first | exact HT | exact ⟨Hand.Laid.below HT.out (by repeat (first | (with_reducible first | exact HB.out | apply below_alloc | apply pw_below_drewN | apply below_drew1) | exact HB.out))⟩); rintro e w24 ⟨rfl, hb⟩; refine ⟨_, rfl, ?_⟩; have n0_ := Aside0.mk (below_step (by repeat (first | (with_reducible first | exact HB.out | apply below_alloc | apply pw_below_drewN | apply below_drew1) | exact HB.out)) hb); clear HB; have HB := n0_; clear n0_; (try clear hb); (try clear hb2); (try clear hk); (try clear hi)) | (go_at_call 15; (with_reducible refine (line_Safe.calls (⟨#[72, 69, 65, 68]⟩ : ByteArray) true _ A13.out).mono ?_); rintro e w' ⟨rfl, ⟨nd, rfl⟩⟩) | (go_at_call 15; (with_reducible refine (line_Safe.calls (⟨#[80, 79, 83, 84]⟩ : ByteArray) false _ A15.out).mono ?_); rintro e w' ⟨rfl, ⟨nd, rfl⟩⟩) | (go_at_call 17; (with_reducible refine (line_Usual.calls 304 t159 _ ?side1 A17.out).mono ?_); (case side1 => first | exact HT | exact ⟨Hand.Laid.below HT.out (by repeat (first | (with_reducible first | exact HB.out | apply below_alloc | apply pw_below_drewN | apply below_drew1) | exact HB.out))⟩); rintro e w25 ⟨rfl, hb⟩; have n0_ := Aside0.mk (below_step (by repeat (first | (with_reducible first | exact HB.out | apply below_alloc | apply pw_below_drewN | apply below_drew1) | exact HB.out)) hb); clear HB; have HB := n0_; clear n0_; (try clear hb); (try clear hb2); (try clear hk); (try clear hi)) | (go_at_call 13; (with_reducible refine (line_PrintStatus.calls 200 (⟨#[79, 75]⟩ : ByteArray) 1 t160 _ ?side1 A19.out).mono ?_); (case side1 => first | exact HT | exact ⟨Hand.Laid.below HT.out (by repeat (first | (with_reducible first | exact HB.out | apply below_alloc | apply pw_below_drewN | apply below_drew1) | exact HB.out))⟩); rintro e w26 ⟨rfl, hb⟩; have n0_ := Aside0.mk (below_step (by repeat (first | (with_reducible first | exact HB.out | apply below_alloc | apply pw_below_drewN | apply below_drew1) | exact HB.out)) hb); clear HB; have HB := n0_; clear n0_; (try clear hb); (try clear hb2); (try clear hk); (try clear hi)) | (go_at_call 11; (with_reducible refine (line_PrintRequest.calls (⟨#[65]⟩ : ByteArray) (⟨#[47]⟩ : ByteArray) 0 t161 _ ?side1 A21.out).mono ?_); (case side1 => first | exact HT | exact ⟨Hand.Laid.below HT.out (by repeat (first | (with_reducible first | exact HB.out | apply below_alloc | apply pw_below_drewN | apply below_drew1) | exact HB.out))⟩); rintro e w27 ⟨rfl, hb⟩; have n0_ := Aside0.mk (below_step (by repeat (first | (with_reducible first | exact HB.out | apply below_alloc | apply pw_below_drewN | apply below_drew1) | exact HB.out)) hb); clear HB; have HB := n0_; clear n0_; (try clear hb); (try clear hb2); (try clear hk); (try clear hi)))
                            go_ret
                            exact ⟨by first | rfl | (simp [errW_none, errW_some] <;> rfl) | (simp [*, errW_none, errW_some] <;> rfl), by repeat (first | (with_reducible first | exact HB.out | apply below_alloc | apply pw_below_drewN | apply below_drew1) | exact HB.out)⟩
                          · rw [if_neg c20] at H
                            have c20b0 : (t160.toList == ([72, 84, 84, 80, 47, 49, 46, 49, 32, 50, 48, 48, 32, 79, 75] : List UInt8)) = false := beq_eq_false_iff_ne.mpr c20
                            have c20b1 : (t160.toList != ([72, 84, 84, 80, 47, 49, 46, 49, 32, 50, 48, 48, 32, 79, 75] : List UInt8)) = true := bne_iff_ne.mpr c20
                            obtain rfl := Option.some.inj H
                            exact absurd HTRUE.out (by decide)
                        · rw [if_neg c18] at H
                          have c18b0 : (t159.toList == ([78, 111, 116, 32, 77, 111, 100, 105, 102, 105, 101, 100] : List UInt8)) = false := beq_eq_false_iff_ne.mpr c18
                          have c18b1 : (t159.toList != ([78, 111, 116, 32, 77, 111, 100, 105, 102, 105, 101, 100] : List UInt8)) = true := bne_iff_ne.mpr c18
                          obtain rfl := Option.some.inj H
                          exact absurd HTRUE.out (by decide)
                    · replace c14 := Bool.eq_false_iff.mpr c14
                      subst c14
                      have H1 : (some false) = some r := by rw [if_neg (show ¬ (false = true) by decide)] at H; exact H
                      clear H
                      have H := H1
                      clear H1
                      obtain rfl := Option.some.inj H
                      exact absurd HTRUE.out (by decide)
                  · rw [if_neg c12] at H
                    have c12b0 : (t156 == 20) = false := beq_eq_false_iff_ne.mpr c12
                    have c12b1 : (t156 != 20) = true := bne_iff_ne.mpr c12
                    obtain rfl := Option.some.inj H
                    exact absurd HTRUE.out (by decide)
                · rw [if_neg c11] at H
                  have c11b0 : (t152 == 0) = false := beq_eq_false_iff_ne.mpr c11
                  have c11b1 : (t152 != 0) = true := bne_iff_ne.mpr c11
                  obtain rfl := Option.some.inj H
                  exact absurd HTRUE.out (by decide)
              · rw [if_neg c10] at H
                have c10b0 : (t151 == 0) = false := beq_eq_false_iff_ne.mpr c10
                have c10b1 : (t151 != 0) = true := bne_iff_ne.mpr c10
                obtain rfl := Option.some.inj H
                exact absurd HTRUE.out (by decide)
            · rw [if_neg c9] at H
              have c9b0 : (t150.toList == ([] : List UInt8)) = false := beq_eq_false_iff_ne.mpr c9
              have c9b1 : (t150.toList != ([] : List UInt8)) = true := bne_iff_ne.mpr c9
              obtain rfl := Option.some.inj H
              exact absurd HTRUE.out (by decide)
          · rw [if_neg c8] at H
            have c8b0 : (t149 == 404) = false := beq_eq_false_iff_ne.mpr c8
            have c8b1 : (t149 != 404) = true := bne_iff_ne.mpr c8
            obtain rfl := Option.some.inj H
            exact absurd HTRUE.out (by decide)
        · rw [if_neg c7] at H
          have c7b0 : (t148 == 0) = false := beq_eq_false_iff_ne.mpr c7
          have c7b1 : (t148 != 0) = true := bne_iff_ne.mpr c7
          obtain rfl := Option.some.inj H
          exact absurd HTRUE.out (by decide)
      · rw [if_neg c6] at H
        have c6b0 : (t147 == 1) = false := beq_eq_false_iff_ne.mpr c6
        have c6b1 : (t147 != 1) = true := bne_iff_ne.mpr c6
        obtain rfl := Option.some.inj H
        exact absurd HTRUE.out (by decide)
    · rw [if_neg c5] at H
      have c5b0 : (t146.toList == ([47, 97] : List UInt8)) = false := beq_eq_false_iff_ne.mpr c5
      have c5b1 : (t146.toList != ([47, 97] : List UInt8)) = true := bne_iff_ne.mpr c5
      obtain rfl := Option.some.inj H
      exact absurd HTRUE.out (by decide)
  · rw [if_neg c4] at H
    have c4b0 : (t145.toList == ([71, 69, 84] : List UInt8)) = false := beq_eq_false_iff_ne.mpr c4
    have c4b1 : (t145.toList != ([71, 69, 84] : List UInt8)) = true := bne_iff_ne.mpr c4
    obtain rfl := Option.some.inj H
    exact absurd HTRUE.out (by decide)

/-! ### depotref01_Cut: function 24 -/
def depotref01_Cut.l0 : Nat → ByteArray → Int → Int → Option (ByteArray × ByteArray × Bool)
  | 0, _, _, _ => none
  | k + 1, x0, x1, x7 => if x7 < (x0.size : Int) then (if 0 ≤ x7 then (if (bt x0 x7) = x1 then (if x7 ≤ (x0.size : Int) then (if 0 ≤ (wrap64 (x7 + 1)) then (if (wrap64 (x7 + 1)) ≤ (x0.size : Int) then (some (x0.extract 0 (x7 : Int).toNat, x0.extract ((wrap64 (x7 + 1)) : Int).toNat x0.size, true)) else (none)) else (none)) else (none)) else (depotref01_Cut.l0 k x0 x1 (wrap64 (x7 + 1)))) else (none)) else (some (x0, (⟨#[]⟩ : ByteArray), false))
def depotref01_Cut.f (k : Nat) (a0 : ByteArray) (a1 : Int) : Option (ByteArray × ByteArray × Bool) := depotref01_Cut.l0 k a0 a1 0
theorem depotref01_Cut.mono_l : ∀ k, (∀ y0 y1 y2, LeO (depotref01_Cut.l0 k y0 y1 y2) (depotref01_Cut.l0 (k + 1) y0 y1 y2))
  | 0 => fun _ _ _ r h => by simp [depotref01_Cut.l0] at h
  | k + 1 => by
    have ih0 := depotref01_Cut.mono_l k
    · intro y0 y1 y2
      unfold depotref01_Cut.l0
      repeat' first
      | (with_reducible exact ih0 _ _ _)
      | (with_reducible exact LeO.refl _)
      | (with_reducible exact LeO.none _)
      | (with_reducible refine LeO.ite ?_ ?_)
      | (with_reducible refine LeO.bind ?_ (fun _ => ?_))
      | exact ih0 _ _ _
      | exact LeO.none _
      | refine LeO.ite ?_ ?_
      | refine LeO.bind ?_ (fun _ => ?_)
theorem depotref01_Cut.mono : ∀ a0 a1 k, LeO (depotref01_Cut.f k a0 a1) (depotref01_Cut.f (k + 1) a0 a1) := by
  intro a0 a1 k
  have ih0 := depotref01_Cut.mono_l k
  unfold depotref01_Cut.f
  repeat' first
      | (with_reducible exact ih0 _ _ _)
      | (with_reducible exact LeO.refl _)
      | (with_reducible exact LeO.none _)
      | (with_reducible refine LeO.ite ?_ ?_)
      | (with_reducible refine LeO.bind ?_ (fun _ => ?_))
      | exact ih0 _ _ _
      | exact LeO.none _
      | refine LeO.ite ?_ ?_
      | refine LeO.bind ?_ (fun _ => ?_)
set_option maxHeartbeats 8000000 in
set_option maxRecDepth 100000 in
theorem depotref01_Cut.calls (k : Nat) (a0 : ByteArray) (a1 : Int) (r1 : ByteArray) (r2 : ByteArray) (r3 : Bool) (w : World) (h : depotref01_Cut.f k a0 a1 = some (r1, r2, r3)) :
    Calls Tryd.prog 24 #[.string a0, .int .u8 a1] w fun e w' => e = .returned (.tuple #[.string r1, .string r2, .bool r3]) ∧ Drawn0 w w' := by
  have H : (depotref01_Cut.l0 k a0 a1 0) = some (r1, r2, r3) := h
  clear h
  have H' := Aside0.mk H
  clear H
  go_enter Tryd.func24, Tryd.ntmps24
  go_wp2
  repeat (go_quiet (fail); try go_wp2)
  go_loopg [7] k (fun kq v7 w' => ∃ (x7_1 : Int), v7 = .int .i64 x7_1 ∧ Aside0 (depotref01_Cut.l0 kq a0 a1 x7_1 = some (r1, r2, r3)) ∧ Aside0 (kq ≤ k) ∧ Drawn0 w w')
  case atStart => exact ⟨(0), (by first | rfl | (simp; done) | (simp [*]; done) | (simp; exact Hand.isEmpty_ne _)), H', ⟨Nat.le_refl _⟩, by repeat (first | exact Drawn0.refl _ | apply Drawn0.step)⟩
  case round =>
    clear H'
    try clear c2
    try clear p2
    obtain ⟨x7_1, rfl, HA, HK1, ⟨m1, rfl⟩⟩ := hrel
    cases gk with
    | zero => exact absurd HA.out (by simp [depotref01_Cut.l0])
    | succ k1 =>
      have H := HA.out
      clear HA
      simp only [depotref01_Cut.l0] at H
      by_cases c3 : x7_1 < (a0.size : Int)
      · rw [if_pos c3] at H
        have c3b0 : decide (x7_1 < (a0.size : Int)) = true := decide_eq_true c3
        clear c3
        by_cases c4 : 0 ≤ x7_1
        · rw [if_pos c4] at H
          have c4b0 : decide (0 ≤ x7_1) = true := decide_eq_true c4
          clear c4
          by_cases c6 : (bt a0 x7_1) = a1
          · rw [if_pos c6] at H
            have c6b0 : ((bt a0 x7_1) == a1) = true := beq_iff_eq.mpr c6
            have c6b1 : ((bt a0 x7_1) != a1) = false := bne_eq_false_iff_eq.mpr c6
            clear c6
            have c7b0 := eq_true (of_decide_eq_true (by first | (with_reducible assumption) | assumption) : 0 ≤ x7_1)
            by_cases c8 : x7_1 ≤ (a0.size : Int)
            · rw [if_pos c8] at H
              have c8b0 := eq_true c8
              have c8b1 : decide (x7_1 ≤ (a0.size : Int)) = true := decide_eq_true c8
              clear c8
              obtain ⟨ji9, hji9⟩ : ∃ j_ : Int, (wrap64 (x7_1 + 1)) = j_ := ⟨_, rfl⟩
              replace H : (if 0 ≤ (ji9) then (if (ji9) ≤ (a0.size : Int) then (some (a0.extract 0 (x7_1 : Int).toNat, a0.extract ((ji9) : Int).toNat a0.size, true)) else (none)) else (none)) = some (r1, r2, r3) := by first | (rw [hji9] at H; exact H) | (simp only [hji9] at H ⊢; exact H)
              have hji9w : (IntKind.i64.wrap (x7_1 + 1)) = ji9 := (i64_w _).trans hji9
              by_cases c10 : 0 ≤ (ji9)
              · rw [if_pos c10] at H
                have c10b0 := eq_true c10
                have c10b1 : decide (0 ≤ (ji9)) = true := decide_eq_true c10
                clear c10
                by_cases c11 : (ji9) ≤ (a0.size : Int)
                · rw [if_pos c11] at H
                  have c11b0 := eq_true c11
                  have c11b1 : decide ((ji9) ≤ (a0.size : Int)) = true := decide_eq_true c11
                  clear c11
                  simp only [Option.some.injEq, Prod.mk.injEq] at H
                  obtain ⟨rfl, rfl, rfl⟩ := H
                  have p5 : 0 ≤ (x7_1 : Int) := of_decide_eq_true (by first | (with_reducible assumption) | assumption)
                  have q5 : x7_1 < (a0.size : Int) := of_decide_eq_true (by first | (with_reducible assumption) | assumption)
                  have hx5 := bt_at a0 x7_1
                  replace p5 := eq_true p5
                  replace q5 := eq_true q5
                  go_wp2
                  repeat (go_quiet (fail); try go_wp2)
                  go_ret3
                  exact ⟨by first | rfl | (simp; done) | (simp only [← hji9] <;> (first | rfl | simp)) | (simp [*]; done), by repeat (first | exact Drawn0.refl _ | apply Drawn0.step)⟩
                · rw [if_neg c11] at H
                  exact absurd H (by simp)
              · rw [if_neg c10] at H
                exact absurd H (by simp)
            · rw [if_neg c8] at H
              exact absurd H (by simp)
          · rw [if_neg c6] at H
            have c6b0 : ((bt a0 x7_1) == a1) = false := beq_eq_false_iff_ne.mpr c6
            have c6b1 : ((bt a0 x7_1) != a1) = true := bne_iff_ne.mpr c6
            have H' := Aside0.mk H
            clear H
            have p5 : 0 ≤ (x7_1 : Int) := of_decide_eq_true (by first | (with_reducible assumption) | assumption)
            have q5 : x7_1 < (a0.size : Int) := of_decide_eq_true (by first | (with_reducible assumption) | assumption)
            have hx5 := bt_at a0 x7_1
            replace p5 := eq_true p5
            replace q5 := eq_true q5
            go_wp2
            repeat (go_quiet (fail); try go_wp2)
            go_roundg k1
            case measure => have := HK1.out; omega
            case rel => exact ⟨(wrap64 (x7_1 + 1)), (by first | rfl | (simp; done) | (simp [*]; done) | (simp; exact Hand.isEmpty_ne _)), H', ⟨by have := HK1.out; omega⟩, by repeat (first | exact Drawn0.refl _ | apply Drawn0.step)⟩
        · rw [if_neg c4] at H
          exact absurd H (by simp)
      · rw [if_neg c3] at H
        have c3b0 : decide (x7_1 < (a0.size : Int)) = false := decide_eq_false c3
        clear c3
        simp only [Option.some.injEq, Prod.mk.injEq] at H
        obtain ⟨rfl, rfl, rfl⟩ := H
        go_wp2
        repeat (go_quiet (fail); try go_wp2)
        go_ret3
        exact ⟨by first | rfl | (simp; done) | (simp [*]; done) | (simp; exact Hand.isEmpty_ne _), by repeat (first | exact Drawn0.refl _ | apply Drawn0.step)⟩

/-! ### depotref10_version: function 25 -/
def depotref10_version.f (a0 : ByteArray) : Option (Int) := if a0.toList = ([72, 84, 84, 80, 47, 49, 46, 48] : List UInt8) then (some 0) else (if a0.toList = ([72, 84, 84, 80, 47, 49, 46, 49] : List UInt8) then (some 1) else (some (-1)))
set_option maxHeartbeats 8000000 in
set_option maxRecDepth 100000 in
theorem depotref10_version.calls (a0 : ByteArray) (r : Int) (w : World) (h : depotref10_version.f a0 = some r) :
    Calls Tryd.prog 25 #[.string a0] w fun e w' => e = .returned (.int .i64 r) ∧ Drawn0 w w' := by
  have H : (if a0.toList = ([72, 84, 84, 80, 47, 49, 46, 48] : List UInt8) then (some 0) else (if a0.toList = ([72, 84, 84, 80, 47, 49, 46, 49] : List UInt8) then (some 1) else (some (-1)))) = some r := h
  clear h
  by_cases c2 : a0.toList = ([72, 84, 84, 80, 47, 49, 46, 48] : List UInt8)
  · rw [if_pos c2] at H
    have c2b0 : (a0.toList == ([72, 84, 84, 80, 47, 49, 46, 48] : List UInt8)) = true := beq_iff_eq.mpr c2
    have c2b1 : (a0.toList != ([72, 84, 84, 80, 47, 49, 46, 48] : List UInt8)) = false := bne_eq_false_iff_eq.mpr c2
    clear c2
    obtain rfl := Option.some.inj H
    go_enter Tryd.func25, Tryd.ntmps25
    go_wp2
    go_ret
    exact ⟨by first | rfl | (simp; done) | (simp [*]; done) | (simp; exact Hand.isEmpty_ne _), by repeat (first | exact Drawn0.refl _ | apply Drawn0.step)⟩
  · rw [if_neg c2] at H
    have c2b0 : (a0.toList == ([72, 84, 84, 80, 47, 49, 46, 48] : List UInt8)) = false := beq_eq_false_iff_ne.mpr c2
    have c2b1 : (a0.toList != ([72, 84, 84, 80, 47, 49, 46, 48] : List UInt8)) = true := bne_iff_ne.mpr c2
    by_cases c3 : a0.toList = ([72, 84, 84, 80, 47, 49, 46, 49] : List UInt8)
    · rw [if_pos c3] at H
      have c3b0 : (a0.toList == ([72, 84, 84, 80, 47, 49, 46, 49] : List UInt8)) = true := beq_iff_eq.mpr c3
      have c3b1 : (a0.toList != ([72, 84, 84, 80, 47, 49, 46, 49] : List UInt8)) = false := bne_eq_false_iff_eq.mpr c3
      clear c3
      obtain rfl := Option.some.inj H
      go_enter Tryd.func25, Tryd.ntmps25
      go_wp2
      go_ret
      exact ⟨by first | rfl | (simp; done) | (simp [*]; done) | (simp; exact Hand.isEmpty_ne _), by repeat (first | exact Drawn0.refl _ | apply Drawn0.step)⟩
    · rw [if_neg c3] at H
      have c3b0 : (a0.toList == ([72, 84, 84, 80, 47, 49, 46, 49] : List UInt8)) = false := beq_eq_false_iff_ne.mpr c3
      have c3b1 : (a0.toList != ([72, 84, 84, 80, 47, 49, 46, 49] : List UInt8)) = true := bne_iff_ne.mpr c3
      obtain rfl := Option.some.inj H
      go_enter Tryd.func25, Tryd.ntmps25
      go_wp2
      go_ret
      exact ⟨by first | rfl | (simp; done) | (simp [*]; done) | (simp; exact Hand.isEmpty_ne _), by repeat (first | exact Drawn0.refl _ | apply Drawn0.step)⟩

end Go.Proofs.YtljikgfhglihhaaDoor.PR
