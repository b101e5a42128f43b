/-
  VariantFirst holds: the row and its card. For every input the law answers true, and the input reads afterwards as it did; the listed package variables read as the program's text lays them (tied).
-/
import Derived.Test.YtdiefodncfnfeaaDoorCards
import Derived.Test.YtdiefodncfnfeaaDoorTie
import Derived.Test.YtdiefodncfnfeaaDoorPR35
import Derived.Test.YtdiefodncfnfeaaDoorPuMFirst
import Derived.Test.YtdiefodncfnfeaaDoorOpen
import Derived.WalkKit
import Derived.ProofKit
import Derived.OpenShut
import Derived.ShutString
import Derived.ChangeOld
import Derived.Below
import Derived.SizedLaws
import Derived.Deep.DeepHandedRow
import Derived.Lib.LaidTab
import Derived.Lib.ItoaNum
import Derived.Stop.LaidErr
import Derived.LaidMore
namespace Go.Proofs.YtdiefodncfnfeaaDoor.variantFirst
open Go.ChangeShapes Go.WideShapes Go.ChangeAt Go.RowKit Go.Proofs.YtdiefodncfnfeaaDoorW.PrintWords Go.Proofs.YtdiefodncfnfeaaDoor.PR Go.Proofs.YtdiefodncfnfeaaDoor.Open Go.Proofs.YtdiefodncfnfeaaDoorW.PrintLast Go.Proofs.YtdiefodncfnfeaaDoorW.PrintMore
open Go.ChangeMaps (open_string shut_string)
set_option linter.unusedVariables false
set_option linter.unusedSimpArgs false

theorem own : ownKnob Tryd.prog.godebug = none := by kernel_rfl
theorem laidOut : laidOutB Tryd.prog = true := by kernel_rfl
def G62 (b : S62) : Prop := b.f0.size ≤ 9223372036854775807 ∧ b.f1.size ≤ 9223372036854775807
theorem opn62 : Opn Tryd.prog k62 62 G62 := Opn.struct (g := fun p => ⟨p.1, p.2⟩) Tryd.underlying62 (OpnF.cons (Opn.string Tryd.underlying9) rfl (by kernel_rfl) (OpnF.last (Opn.string Tryd.underlying9) rfl (by kernel_rfl))) (by kernel_rfl) (fun _ => rfl)
def G25 (b : S25) : Prop := (Lit.int .i64 b.f0).wf = true ∧ b.f1.size ≤ 9223372036854775807 ∧ (Lit.int .i64 b.f2).wf = true ∧ (b.f3.length ≤ 9223372036854775807 ∧ ∀ x ∈ b.f3, G62 x) ∧ b.f4.size ≤ 9223372036854775807
theorem opn25 : Opn Tryd.prog k25 25 G25 := Opn.struct (g := fun p => ⟨p.1, p.2.1, p.2.2.1, p.2.2.2.1, p.2.2.2.2⟩) Tryd.underlying25 (OpnF.cons (Opn.int Tryd.underlying3) rfl (by kernel_rfl) (OpnF.cons (Opn.string Tryd.underlying9) rfl (by kernel_rfl) (OpnF.cons (Opn.int Tryd.underlying3) rfl (by kernel_rfl) (OpnF.cons (Opn.slice Tryd.underlying23 opn62 (by kernel_rfl)) rfl (by kernel_rfl) (OpnF.last (Opn.string Tryd.underlying9) rfl (by kernel_rfl)))))) (by kernel_rfl) (fun _ => rfl)
def G53 (b : S53) : Prop := b.f0.size ≤ 9223372036854775807 ∧ True ∧ b.f2.size ≤ 9223372036854775807
theorem opn53 : Opn Tryd.prog k53 53 G53 := Opn.struct (g := fun p => ⟨p.1, p.2.1, p.2.2⟩) Tryd.underlying53 (OpnF.cons (Opn.string Tryd.underlying9) rfl (by kernel_rfl) (OpnF.cons (Opn.bool Tryd.underlying4) rfl (by kernel_rfl) (OpnF.last (Opn.string Tryd.underlying9) rfl (by kernel_rfl)))) (by kernel_rfl) (fun _ => rfl)
def G28 (b : S28) : Prop := G25 b.f0 ∧ (Lit.int .i64 b.f1).wf = true ∧ (b.f2.length ≤ 9223372036854775807 ∧ ∀ x ∈ b.f2, G53 x)
theorem opn28 : Opn Tryd.prog k28 28 G28 := Opn.struct (g := fun p => ⟨p.1, p.2.1, p.2.2⟩) Tryd.underlying28 (OpnF.cons opn25 rfl (by kernel_rfl) (OpnF.cons (Opn.int Tryd.underlying3) rfl (by kernel_rfl) (OpnF.last (Opn.slice Tryd.underlying26 opn53 (by kernel_rfl)) rfl (by kernel_rfl)))) (by kernel_rfl) (fun _ => rfl)

set_option maxRecDepth 100000 in
/-- What the walk and the pure law give, for every argument and every world. -/
theorem contract (H : Type) (enc : TypeId × Value → H) (W : World) (base : Nat) (args : Array Value) (ds gs : List (DataW H)) (before : List MemPlace)
    (hval : ∀ (j : Nat) t v, Tryd.f7.params[j]? = some t → args[j]? = some v → Value.okWide Tryd.prog W .any base t v)
    (hW : DataW.Whole enc Tryd.prog Tryd.f7.params.toList Rows.variantFirstSpec.vars false W args.toList ds gs before) (hL : laidMetH Tryd.prog Rows.variantFirstRow.laid W) (hShaped : W.ShapedOpen Tryd.prog) :
    Calls Tryd.prog 7 args W fun e W' => ∃ v, e = .returned v ∧ Rows.variantFirstSpec.post enc Tryd.prog Tryd.f7 false true false false W args v W' := by
  have hW' := hW
  obtain ⟨p, q, hA0, hV, rfl, hfz, hnd⟩ := hW
  have hA : DataW.TrodAll enc Tryd.prog W 0 (fun _ => true) true Tryd.f7.params.toList args.toList ds p := hA0
  rw [Tryd.params7] at hA hval
  obtain ⟨v0, vs0, d0, ds0, p0, q0, hargs, rfl, rfl, h0, r0⟩ := trodAll_cons hA
  obtain ⟨v1, vs1, d1, ds1, p1, q1, rfl, rfl, rfl, h1, r1⟩ := trodAll_cons r0
  obtain ⟨v2, vs2, d2, ds2, p2, q2, rfl, rfl, rfl, h2, r2⟩ := trodAll_cons r1
  obtain ⟨v3, vs3, d3, ds3, p3, q3, rfl, rfl, rfl, h3, r3⟩ := trodAll_cons r2
  obtain ⟨rfl, rfl, rfl⟩ := trodAll_nil r3
  obtain rfl : args = #[v0, v1, v2, v3] := by cases args; simp_all
  obtain ⟨rfl, rfl⟩ := trodVars_none hV
  have z0 := h0
  have lt0 : ∀ x ∈ p0, x.block < W.heap.size := by obtain ⟨m, hm⟩ := z0; exact DataW.trod_lt m _ _ _ hm
  obtain ⟨b0, len0, cap0, rfl⟩ := okWide_slice Tryd.underlying22 (hval 0 22 v0 rfl rfl)
  obtain ⟨a0, ⟨A0, c0, he0, hc0, hr0⟩, w0⟩ := Opn.arg (Opn.slice Tryd.underlying22 opn28 (by kernel_rfl)) h0
  obtain ⟨rfl, rfl, rfl⟩ : b0 = A0 ∧ len0 = a0.length ∧ cap0 = c0 := by simpa [Value.cells] using he0
  have z1 := h1
  have lt1 : ∀ x ∈ p1, x.block < W.heap.size := by obtain ⟨m, hm⟩ := z1; exact DataW.trod_lt m _ _ _ hm
  obtain ⟨cs1, rfl, hsz1⟩ := okWide_struct Tryd.underlying28 (hval 1 28 v1 rfl rfl)
  obtain ⟨a1, hk1, w1⟩ := Opn.arg opn28 h1
  obtain ⟨c1a, c1b, e1, k1a, k1b⟩ := hk1
  obtain ⟨c2a, c2b, e2, k2a, k2b⟩ := k1a
  have e_c2a : c2a = [.int .i64 a1.f0.f0] := k2a
  obtain ⟨c3a, c3b, e3, k3a, k3b⟩ := k2b
  have e_c3a : c3a = [.string a1.f0.f1] := k3a
  obtain ⟨c4a, c4b, e4, k4a, k4b⟩ := k3b
  have e_c4a : c4a = [.int .i64 a1.f0.f2] := k4a
  obtain ⟨c5a, c5b, e5, k5a, k5b⟩ := k4b
  obtain ⟨A6, cap6, e6, hc6, hr6⟩ := k5a
  have e_c5b : c5b = [.string a1.f0.f4] := k5b
  obtain ⟨c7a, c7b, e7, k7a, k7b⟩ := k1b
  have e_c7a : c7a = [.int .i64 a1.f1] := k7a
  obtain ⟨A8, cap8, e8, hc8, hr8⟩ := k7b
  obtain rfl : cs1 = #[.int .i64 a1.f0.f0, .string a1.f0.f1, .int .i64 a1.f0.f2, .slice A6 a1.f0.f3.length cap6, .string a1.f0.f4, .int .i64 a1.f1, .slice A8 a1.f2.length cap8] := by
    have hcs : (Value.agg cs1).cells.toList = [.int .i64 a1.f0.f0, .string a1.f0.f1, .int .i64 a1.f0.f2, .slice A6 a1.f0.f3.length cap6, .string a1.f0.f4, .int .i64 a1.f1, .slice A8 a1.f2.length cap8] := by simp [e1, e2, e3, e4, e5, e6, e7, e8, e_c2a, e_c3a, e_c4a, e_c5b, e_c7a]
    cases cs1; simpa [Value.cells] using hcs
  have z2 := h2
  have lt2 : ∀ x ∈ p2, x.block < W.heap.size := by obtain ⟨m, hm⟩ := z2; exact DataW.trod_lt m _ _ _ hm
  obtain ⟨b2, len2, cap2, rfl⟩ := okWide_slice Tryd.underlying23 (hval 2 23 v2 rfl rfl)
  obtain ⟨a2, ⟨A2, c2, he2, hc2, hr2⟩, w2⟩ := Opn.arg (Opn.slice Tryd.underlying23 opn62 (by kernel_rfl)) h2
  obtain ⟨rfl, rfl, rfl⟩ : b2 = A2 ∧ len2 = a2.length ∧ cap2 = c2 := by simpa [Value.cells] using he2
  have z3 := h3
  have lt3 : ∀ x ∈ p3, x.block < W.heap.size := by obtain ⟨m, hm⟩ := z3; exact DataW.trod_lt m _ _ _ hm
  obtain ⟨b3, len3, cap3, rfl⟩ := okWide_slice Tryd.underlying23 (hval 3 23 v3 rfl rfl)
  obtain ⟨a3, ⟨A3, c3, he3, hc3, hr3⟩, w3⟩ := Opn.arg (Opn.slice Tryd.underlying23 opn62 (by kernel_rfl)) h3
  obtain ⟨rfl, rfl, rfl⟩ : b3 = A3 ∧ len3 = a3.length ∧ cap3 = c3 := by simpa [Value.cells] using he3
  clear hA0
  obtain ⟨k, hp⟩ := Pu.first_law a0 a1.f0.f0 a1.f0.f1 a1.f0.f2 a1.f0.f3 a1.f0.f4 a1.f1 a1.f2 a2 a3 w0.1 (fun x hx => ⟨(w0.2 x hx).1.2.2.2.1.1, (w0.2 x hx).2.2.1⟩) w1.1.2.2.2.1.1 w1.2.2.1 w2.1 w3.1
  refine (depotlaw20_VariantFirst.calls k (fun k_ => k_ < W.heap.size) b0 cap0 a0 a1.f0.f0 a1.f0.f1 a1.f0.f2 (fun k_ => k_ < W.heap.size) A6 cap6 a1.f0.f3 a1.f0.f4 a1.f1 (fun k_ => k_ < W.heap.size) A8 cap8 a1.f2 b2 cap2 a2 b3 cap3 a3 true W ⟨rfl⟩  ⟨Hand.Laid.start ⟨hShaped⟩⟩ (Kd.V_mk hc0 (Kd.C_F k28_heap hr0)) (Kd.V_mk hc6 (Kd.C_F k62_heap hr6)) (Kd.V_mk hc8 (Kd.C_F k53_heap hr8)) hr2 hc2 hr3 hc3 hp).mono fun e W' ⟨he, bel0⟩ => ?_
  have bel : Below W.heap.size W W' := bel0
  subst he
  exact ⟨_, rfl, _, _, _, [], _, [], hW', trodAll_mk1 (shut_bool Tryd.underlying4 _), (trodAll_cons_mk (Below.trod laidOut (by kernel_rfl) (of_decide_eq_true (by kernel_rfl)) z0 bel lt0) (trodAll_cons_mk (Below.trod laidOut (by kernel_rfl) (of_decide_eq_true (by kernel_rfl)) z1 bel lt1) (trodAll_cons_mk (Below.trod laidOut (by kernel_rfl) (of_decide_eq_true (by kernel_rfl)) z2 bel lt2) (trodAll_cons_mk (Below.trod laidOut (by kernel_rfl) (of_decide_eq_true (by kernel_rfl)) z3 bel lt3) trodAll_mk0)))), rfl, bel.frame _, fun h => by cases h⟩

mutual
def cellsD : DataW Unit → List Value
  | .lit (.int k n) => [.int k n]
  | .lit (.bool b) => [.bool b]
  | .lit (.string l) => [.string ⟨l.toArray⟩]
  | .agg parts => cellsAll parts
  | _ => []
def cellsAll : List (DataW Unit) → List Value
  | [] => []
  | d :: r => cellsD d ++ cellsAll r
end
/-- A world for the witness: the settled one, the listed variables holding what the program's text lays. -/
noncomputable def laidWorld (os : Os) : World :=
  { World.holding Tryd.prog os ⟨#[], #[], []⟩ with heap := (((World.holding Tryd.prog os ⟨#[], #[], []⟩).heap).modify 2 (fun | .cells _ t frozen => .cells (cellsD Rows.laid_unicode_utf8_acceptRanges).toArray t frozen | o => o)).modify 1 (fun | .cells _ t frozen => .cells (cellsD Rows.laid_unicode_utf8_first).toArray t frozen | o => o) }
theorem laid_met (os : Os) : laidMet Tryd.prog Rows.variantFirstRow.laid ((laidWorld os).forCall (fun _ _ => 0) ⟨#[], #[.slice none 0 0, .agg #[.int .i64 0, .string ByteArray.empty, .int .i64 0, .slice none 0 0, .string ByteArray.empty, .int .i64 0, .slice none 0 0], .slice none 0 0, .slice none 0 0], []⟩).memory :=
  laidMet_of_run' 8 (by kernel_rfl) (by kernel_rfl)
theorem reads (os : Os) {H : Type} (enc : TypeId × Value → H) : ∃ places, DataW.whole enc Tryd.prog ((laidWorld os).forCall (fun _ _ => 0) ⟨#[], #[.slice none 0 0, .agg #[.int .i64 0, .string ByteArray.empty, .int .i64 0, .slice none 0 0, .string ByteArray.empty, .int .i64 0, .slice none 0 0], .slice none 0 0, .slice none 0 0], []⟩).memory Tryd.f7.params.toList Rows.variantFirstSpec.vars false (#[.slice none 0 0, .agg #[.int .i64 0, .string ByteArray.empty, .int .i64 0, .slice none 0 0, .string ByteArray.empty, .int .i64 0, .slice none 0 0], .slice none 0 0, .slice none 0 0] : Array Value).toList 8 = some ([.nil, .agg [.agg [.lit (.int .i64 0), .lit (.string []), .lit (.int .i64 0), .nil, .lit (.string [])], .lit (.int .i64 0), .nil], .nil, .nil], [], places) :=
  ⟨[], by kernel_rfl⟩

set_option maxRecDepth 100000 in
theorem lifted (os : Os) (started : os.Started) (H : Type) (enc : TypeId × Value → H) (F : Stop.Interp) :
    ReturnsInHanded {} Tryd.checked os 7 .any ((OpenSpec.ofChange Rows.variantFirstSpec).preRow enc Tryd.prog Tryd.f7 Rows.variantFirstRow.domain false Rows.variantFirstRow.laid) (((OpenSpec.ofChange Rows.variantFirstSpec).at F).post enc Tryd.prog Tryd.f7 false true false false) := by
  obtain ⟨places, hx⟩ := reads os enc
  refine returnsInHanded_of_row (C := Tryd.checked) (s := OpenSpec.ofChange Rows.variantFirstSpec) own started (by kernel_rfl) Tryd.func7
    (witness_row_at (enc := enc) (C := Tryd.checked) false (laidWorld os) #[.slice none 0 0, .agg #[.int .i64 0, .string ByteArray.empty, .int .i64 0, .slice none 0 0, .string ByteArray.empty, .int .i64 0, .slice none 0 0], .slice none 0 0, .slice none 0 0] rfl (by kernel_rfl) (by kernel_rfl) (by kernel_rfl)
      (OpenSpec.preRow_of_cond 8 hx (by kernel_rfl) (fun k hk => by cases hk) (by kernel_rfl) (laid_met os))) ?_
  intro W base args ds gs before hval hW _ _ _ hL hS _
  exact contract H enc W base args ds gs before hval hW hL hS

theorem said : Rows.VariantFirstSaid :=
  OpenClaim.holds_of_cond 7 Tryd.f7 rfl rfl rfl rfl rfl rfl rfl ⟨rfl, rfl, rfl, rfl, rfl⟩ rfl rfl rfl rfl rfl (by kernel_rfl) Tryd.func7 (by kernel_rfl)
    (of_decide_eq_true (by kernel_rfl)) (by unfold Func.isWrapper; first | (rw [if_pos (by decide +kernel)]; kernel_rfl) | (rw [if_neg (by decide +kernel)]; exact ⟨rfl, rfl⟩))
    (fun os started H enc _ F => by rw [OpenClaim.pre_eq_preRow]; exact lifted os started H enc F)

/-- No parameter wants a stand-in; the program's own looks are off: what the card asks. -/
theorem plain (f : FuncId) (fn : Func) (hf : Tryd.pinned.checked.prog.funcNamed "depot/depotlaw20.VariantFirst" = some f) (hfn : Tryd.pinned.checked.prog.funcs[f]? = some fn) :
    false = Tryd.pinned.checked.prog.looks [] ∧ ∀ (j : Nat) t, fn.params[j]? = some t → Tryd.pinned.checked.prog.wantsStandIn t = false := by
  obtain rfl : f = 7 := Option.some.inj ((show Tryd.prog.funcNamed "depot/depotlaw20.VariantFirst" = some 7 by kernel_rfl).symm.trans hf) |>.symm
  obtain rfl : fn = Tryd.f7 := (Option.some.inj (Tryd.func7.symm.trans hfn)).symm
  refine ⟨by kernel_rfl, fun j t ht => ?_⟩
  rw [Tryd.params7] at ht
  have hm : t ∈ [22, 28, 23, 23] := by simpa using Array.mem_of_getElem? ht
  have hall : ([22, 28, 23, 23].all fun u => !Tryd.prog.wantsStandIn u) = true := by kernel_rfl
  exact (show Tryd.prog.wantsStandIn t = false by simpa using List.all_eq_true.1 hall t hm)
/-- The card. -/
theorem card : Rows.VariantFirstCardSaid :=
  Claim7.holds_tied_plain_at .later [] _ _ _ _ said (fun _ h => by cases h) (by kernel_rfl) (fun _ h => by cases h) variantFirst_row_tie rfl ⟨rfl, rfl⟩ (by kernel_rfl) rfl plain (by kernel_rfl)
end Go.Proofs.YtdiefodncfnfeaaDoor.variantFirst
namespace Go.Proofs.YtdiefodncfnfeaaDoor
/-- The statement, under a short name, for the claim. -/
theorem variantFirst_holds : Rows.VariantFirstCardSaid := variantFirst.card
#print axioms variantFirst_holds
end Go.Proofs.YtdiefodncfnfeaaDoor
