/- The pure statements of VariantEncodes: the program's and the reference's answers are alike. -/
import Derived.Test.YtdiefodncfnfeaaDoorPuVarA
import Derived.Test.YtdiefodncfnfeaaDoorPR19
import Derived.Test.YtdiefodncfnfeaaDoorPR30
import Derived.KernelRfl
namespace Go.Proofs.YtdiefodncfnfeaaDoor.Pu
open Go.RowKit Go.Proofs.YtdiefodncfnfeaaDoorW.PrintWords Go.Proofs.YtdiefodncfnfeaaDoorW.PrintLast Go.Proofs.YtdiefodncfnfeaaDoor.PR
set_option linter.unusedVariables false
set_option linter.unusedSimpArgs false

theorem variants_60 : depotlaw20_variants.f 60 = some true := by kernel_rfl
theorem variants_true : Ev (fun k => depotlaw20_variants.f k) true := Ev.of depotlaw20_variants.mono variants_60
theorem variants_end : Ev (fun k => (depotlaw20_variants.f k).bind fun t => some t) true := Ev.bind variants_true (Ev.some' rfl)
theorem sum_le {α : Type} (sz : α → Nat) (b : Nat) : ∀ l : List α, (∀ x ∈ l, sz x ≤ b) → (l.map sz).sum ≤ l.length * b
  | [], _ => by simp
  | x :: l, h => by
    have h1 := sum_le sz b l (fun y hy => h y (List.mem_cons_of_mem _ hy))
    have h2 := h x List.mem_cons_self
    rw [List.map_cons, List.sum_cons, List.length_cons, Nat.succ_mul]
    omega
theorem szS_small (n : Nat) (x : S28) (h : smallS n x) : szS x ≤ 18 + 2 * n + 70 * (8 + 2 * n) + 70 * (9 + 2 * n) := by
  obtain ⟨h1, h4, ⟨h3, g3⟩, ⟨h2, g2⟩⟩ := h
  have e1 := sum_le szF (8 + 2 * n) x.f0.f3 (fun f hf => by have := g3 f hf; unfold szF; unfold smallF at this; omega)
  have e2 := sum_le szP (9 + 2 * n) x.f2 (fun f hf => by have := g2 f hf; unfold szP; unfold smallP at this; omega)
  have e3 : x.f0.f3.length * (8 + 2 * n) ≤ 70 * (8 + 2 * n) := Nat.mul_le_mul_right _ h3
  have e4 : x.f2.length * (9 + 2 * n) ≤ 70 * (9 + 2 * n) := Nat.mul_le_mul_right _ h2
  unfold szS
  omega
theorem encode_some (l : List S28) (m : Nat) (hm : m ≤ 20) (h : l.length ≤ m) (hs : ∀ x ∈ l, smallS 300 x) : variant_Encode.f l = some (encodeR (encodeW l)) := by
  unfold variant_Encode.f
  refine if_pos ⟨by omega, fun x hx => ?_, ?_⟩
  · have := hs x hx
    exact ⟨Nat.lt_of_le_of_lt this.2.2.1.1 (by decide), Nat.lt_of_le_of_lt this.2.2.2.1 (by decide)⟩
  · have e1 := sum_le szS 90000 l (fun x hx => by have := szS_small 300 x (hs x hx); omega)
    have e2 : l.length * 90000 ≤ 20 * 90000 := Nat.mul_le_mul_right _ (by omega)
    omega
theorem encodes_law (l : List S28) (hl : l.length ≤ 9223372036854775807) (hok : ∀ x ∈ l, okS x) : ∃ k, depotlaw20_VariantEncodes.f k l = some true := by
  refine Ev.rounds ?_
  unfold depotlaw20_VariantEncodes.f
  obtain ⟨b, hb, hc⟩ := fewS l 6 300 hl hok
  refine Ev.bind hb ?_
  cases b with
  | false => exact Ev.neg (by simp) variants_end
  | true =>
    refine Ev.pos rfl ?_
    obtain ⟨h1, h2⟩ := hc rfl
    have he := encode_some l 6 (by decide) h1 h2
    refine Ev.sbind he (Ev.sbind (show depotref20_Encode.f l = some (encodeR (encodeW l)) from he) (Ev.sbind (a := true) ?_ (Ev.pos rfl (Ev.pos rfl variants_end))))
    unfold depotref03_Same.f
    simp
end Go.Proofs.YtdiefodncfnfeaaDoor.Pu
