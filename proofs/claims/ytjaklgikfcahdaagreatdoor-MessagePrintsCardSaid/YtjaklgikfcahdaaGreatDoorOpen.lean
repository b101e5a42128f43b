/- Arguments as they are read: from the form's reading of a value to the kinds of the print. -/
import Derived.Test.YtjaklgikfcahdaaGreatDoorWWords
import Derived.ProofKit
import Derived.OpenShut
namespace Go.Proofs.YtjaklgikfcahdaaGreatDoor.Open
open Go.RowKit Go.Proofs.YtjaklgikfcahdaaGreatDoorW.PrintWords
set_option linter.unusedVariables false

/-- Whatever reads as a value of type t is of kind k, and G holds of it. -/
def Opn {α : Type} (P : Program) (k : Kd α) (t : TypeId) (G : α → Prop) : Prop :=
  ∀ {H : Type} (enc : TypeId × Value → H) (w : World) (base : Nat) (sp : Nat → Bool) (held : Bool) (fuel : Nat) (cs : List Value) (x : DataW H × List MemPlace),
    DataW.trod enc P w base sp held fuel t cs = some x → ∃ a : α, k.K w a cs ∧ G a
theorem Opn.int {P : Program} {t : TypeId} {k : IntKind} (ht : P.underlying t = some (.int k)) : Opn P (Kd.int k) t (fun n => (Lit.int k n).wf = true) := by
  intro H enc w base sp held fuel cs x h
  obtain ⟨n, rfl, _, hw⟩ := DataW.trod_int ht h
  exact ⟨n, rfl, hw⟩
theorem Opn.bool {P : Program} {t : TypeId} (ht : P.underlying t = some .bool) : Opn P Kd.bool t (fun _ => True) := by
  intro H enc w base sp held fuel cs x h
  obtain ⟨b, rfl, _⟩ := DataW.trod_bool ht h
  exact ⟨b, rfl, trivial⟩
theorem Opn.string {P : Program} {t : TypeId} (ht : P.underlying t = some .string) : Opn P Kd.string t (fun s => s.size ≤ 9223372036854775807) := by
  intro H enc w base sp held fuel cs x h
  obtain ⟨s, rfl, _, hs⟩ := DataW.trod_string ht h
  exact ⟨s, rfl, hs⟩
theorem choose_list {α : Type} (n : Nat) (R : Nat → α → Prop) (h : ∀ i, i < n → ∃ a, R i a) : ∃ xs : List α, xs.length = n ∧ ∀ i a, xs[i]? = some a → R i a := by
  induction n with
  | zero => exact ⟨[], rfl, fun i a h => by simp at h⟩
  | succ n ih =>
    obtain ⟨xs, hl, hx⟩ := ih (fun i hi => h i (by omega))
    obtain ⟨a, ha⟩ := h n (by omega)
    refine ⟨xs ++ [a], by simp [hl], fun i b hb => ?_⟩
    rcases Nat.lt_or_ge i n with hi | hi
    · rw [List.getElem?_append_left (by omega)] at hb
      exact hx i b hb
    · have : i = n := by
        have := (List.getElem?_eq_some_iff.1 hb).1
        simp [hl] at this; omega
      subst this
      rw [List.getElem?_append_right (by omega), hl] at hb
      simp at hb
      exact hb ▸ ha
theorem Opn.slice {α : Type} {P : Program} {t e : TypeId} {k : Kd α} {G : α → Prop} (ht : P.underlying t = some (.slice e)) (hk : Opn P k e G) (hsz : k.sz = P.cellsOf e) :
    Opn P (Kd.slice e k) t (fun xs => xs.length ≤ 9223372036854775807 ∧ ∀ x ∈ xs, G x) := by
  intro H enc w base sp held fuel cs x h
  rcases DataW.trod_slice ht h with ⟨rfl, _⟩ | ⟨a, len, cap, elems, rest, n, _, rfl, _, hb, hl, hm, hlen, hel, _, _⟩
  · exact ⟨[], ⟨none, 0, rfl, Nat.le_refl _, ⟨rfl, by simp, fun h => by simp at h⟩⟩, by simp, by simp⟩
  · have hex : ∀ i, i < len → ∃ y : α, (∃ c, c.length = k.sz ∧ k.K w y c ∧ ∀ j u, c[j]? = some u → w.cell? (a.add (i * k.sz + j)) = some u) ∧ G y := by
      intro i hi
      have he := hel i hi
      rw [List.getElem?_eq_getElem (by omega)] at he
      obtain ⟨cs', hc, ht'⟩ := Option.bind_eq_some_iff.1 he
      obtain ⟨y, hy, hg⟩ := hk enc w base sp held n cs' _ ht'
      obtain ⟨_, hcl, hcc⟩ := World.cells?_some hc
      refine ⟨y, ⟨cs', k.K_len hy, hy, fun j u hu => ?_⟩, hg⟩
      have hj := (List.getElem?_eq_some_iff.1 hu).1
      have := hcc j (by rw [k.K_len hy, hsz] at hj; exact hj)
      rw [hsz, ← hu, ← this]
      congr 1
      have hadd : ∀ (p : Addr) (m n : Nat), (p.add m).add n = p.add (m + n) := by
        intro p m n
        unfold Addr.add
        by_cases h1 : m = 0 <;> by_cases h2 : n = 0 <;> simp [h1, h2, Nat.add_assoc]
      exact (hadd a _ j).symm
    obtain ⟨xs, hxl, hxs⟩ := choose_list len _ hex
    have hmx : len ≤ 9223372036854775807 := by unfold maxLen at hm; omega
    refine ⟨xs, ⟨some a, cap, by rw [hxl], by omega, ⟨rfl, by omega, fun _ => ⟨a, rfl, fun j p hp => (hxs j p hp).1⟩⟩⟩, by omega, fun y hy => ?_⟩
    obtain ⟨i, hi, rfl⟩ := List.getElem_of_mem hy
    exact (hxs i _ (List.getElem?_eq_getElem hi)).2
/-- A struct's fields, from one on. -/
def OpnF {α : Type} (P : Program) (k : Kd α) (fs : List Field) (o : Nat) (G : α → Prop) : Prop :=
  ∀ {H : Type} (enc : TypeId × Value → H) (w : World) (base : Nat) (sp : Nat → Bool) (held : Bool) (fuel : Nat) (cs : List Value),
    (∀ f ∈ fs, ∃ x, DataW.trod enc P w base sp held fuel f.type ((cs.drop f.offset).take (P.cellsOf f.type)) = some x) → cs.length = o + k.sz → ∃ a : α, k.K w a (cs.drop o) ∧ G a
theorem OpnF.last {α : Type} {P : Program} {k : Kd α} {f : Field} {o : Nat} {G : α → Prop} (h : Opn P k f.type G) (ho : f.offset = o) (hsz : k.sz = P.cellsOf f.type) : OpnF P k [f] o G := by
  intro H enc w base sp held fuel cs hf hl
  obtain ⟨x, hx⟩ := hf f (by simp)
  rw [ho, List.take_of_length_le (by rw [List.length_drop]; omega)] at hx
  exact h enc w base sp held fuel _ x hx
theorem OpnF.cons {α β : Type} {P : Program} {k : Kd α} {k' : Kd β} {f : Field} {fs : List Field} {o : Nat} {G : α → Prop} {G' : β → Prop} (h : Opn P k f.type G) (ho : f.offset = o) (hsz : k.sz = P.cellsOf f.type) (h' : OpnF P k' fs (o + k.sz) G') :
    OpnF P (Kd.pair k k') (f :: fs) o (fun p => G p.1 ∧ G' p.2) := by
  intro H enc w base sp held fuel cs hf hl
  have hl' : cs.length = o + (k.sz + k'.sz) := hl
  obtain ⟨x, hx⟩ := hf f (by simp)
  rw [ho, ← hsz] at hx
  obtain ⟨a, ha, hga⟩ := h enc w base sp held fuel _ x hx
  obtain ⟨b, hb, hgb⟩ := h' enc w base sp held fuel cs (fun g hg => hf g (by simp [hg])) (by omega)
  refine ⟨(a, b), ⟨_, _, ?_, ha, hb⟩, hga, hgb⟩
  rw [← List.drop_drop, List.take_append_drop]
theorem Opn.struct {α β : Type} {P : Program} {t : TypeId} {fs : Array Field} {k : Kd α} {G : α → Prop} {f : β → α} {g : α → β} (ht : P.underlying t = some (.struct fs)) (hf : OpnF P k fs.toList 0 G) (hsz : k.sz = P.cellsOf t) (hfg : ∀ a, f (g a) = a) :
    Opn P (Kd.iso k f) t (fun b => G (f b)) := by
  intro H enc w base sp held fuel cs x h
  obtain ⟨xs, n, _, _, hl, hxl, hx⟩ := DataW.trod_struct ht h
  have hall : ∀ y ∈ fs.toList, ∃ x, DataW.trod enc P w base sp held n y.type ((cs.drop y.offset).take (P.cellsOf y.type)) = some x := by
    intro y hy
    obtain ⟨i, hi, rfl⟩ := List.getElem_of_mem hy
    have hi' : i < fs.size := by simpa using hi
    have := hx i fs[i] (by simp [hi'])
    rw [List.getElem?_eq_getElem (by omega)] at this
    exact ⟨_, by simpa using this⟩
  obtain ⟨a, ha, hg⟩ := hf enc w base sp held n cs hall (by omega)
  refine ⟨g a, ?_, by show G (f (g a)); rw [hfg]; exact hg⟩
  show k.K w (f (g a)) cs
  rw [hfg]
  simpa using ha
/-- A parameter's value, if it is one cell. -/
theorem Opn.arg {α : Type} {P : Program} {k : Kd α} {t : TypeId} {G : α → Prop} {H : Type} {enc : TypeId × Value → H} {w : World} {base : Nat} {sp : Nat → Bool} {held : Bool} {v : Value} {d : DataW H} {p : List MemPlace}
    (hk : Opn P k t G) (h : DataW.Trod enc P w base sp held t v d p) : ∃ a : α, k.K w a v.cells.toList ∧ G a := by
  obtain ⟨fuel, hf⟩ := h
  exact hk enc w base sp held fuel _ _ hf
end Go.Proofs.YtjaklgikfcahdaaGreatDoor.Open
