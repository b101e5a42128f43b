/-
  MessagePrints holds: the row and its card. For every input the law answers true, and the input reads afterwards as it did; the listed package variables read as the program's text lays them (tied).
-/
import Derived.Test.YtjaklgikfcahdaaGreatDoorCards
import Derived.Test.YtjaklgikfcahdaaGreatDoorTie
import Derived.Test.YtjaklgikfcahdaaGreatDoorPU26
import Derived.Test.YtjaklgikfcahdaaGreatDoorPuMPri
import Derived.Test.YtjaklgikfcahdaaGreatDoorOpen
import Derived.WalkKit
import Derived.ProofKit
import Derived.OpenShut
import Derived.ShutString
import Derived.ChangeOld
import Derived.Below
import Derived.SizedLaws
import Derived.Deep.DeepHandedRow
import Derived.Lib.LaidTab
import Derived.Lib.ItoaNum
import Derived.Stop.LaidErr
import Derived.LaidMore
namespace Go.Proofs.YtjaklgikfcahdaaGreatDoor.messagePrints
open Go.ChangeShapes Go.WideShapes Go.ChangeAt Go.RowKit Go.Proofs.YtjaklgikfcahdaaGreatDoorW.PrintWords Go.Proofs.YtjaklgikfcahdaaGreatDoor.PU Go.Proofs.YtjaklgikfcahdaaGreatDoor.Open
open Go.ChangeMaps (open_string shut_string)
set_option linter.unusedVariables false
set_option linter.unusedSimpArgs false

theorem own : ownKnob Tryz.prog.godebug = none := by kernel_rfl
theorem laidOut : laidOutB Tryz.prog = true := by kernel_rfl
def G98 (b : S98) : Prop := b.f0.size ≤ 9223372036854775807 ∧ b.f1.size ≤ 9223372036854775807
theorem opn98 : Opn Tryz.prog k98 98 G98 := Opn.struct (g := fun p => ⟨p.1, p.2⟩) Tryz.underlying98 (OpnF.cons (Opn.string Tryz.underlying9) rfl (by kernel_rfl) (OpnF.last (Opn.string Tryz.underlying9) rfl (by kernel_rfl))) (by kernel_rfl) (fun _ => rfl)
def G25 (b : S25) : Prop := b.f0.size ≤ 9223372036854775807 ∧ b.f1.size ≤ 9223372036854775807 ∧ (Lit.int .i64 b.f2).wf = true ∧ (b.f3.length ≤ 9223372036854775807 ∧ ∀ x ∈ b.f3, G98 x) ∧ b.f4.size ≤ 9223372036854775807
theorem opn25 : Opn Tryz.prog k25 25 G25 := Opn.struct (g := fun p => ⟨p.1, p.2.1, p.2.2.1, p.2.2.2.1, p.2.2.2.2⟩) Tryz.underlying25 (OpnF.cons (Opn.string Tryz.underlying9) rfl (by kernel_rfl) (OpnF.cons (Opn.string Tryz.underlying9) rfl (by kernel_rfl) (OpnF.cons (Opn.int Tryz.underlying3) rfl (by kernel_rfl) (OpnF.cons (Opn.slice Tryz.underlying23 opn98 (by kernel_rfl)) rfl (by kernel_rfl) (OpnF.last (Opn.string Tryz.underlying9) rfl (by kernel_rfl)))))) (by kernel_rfl) (fun _ => rfl)
def G34 (b : S34) : Prop := (Lit.int .i64 b.f0).wf = true ∧ b.f1.size ≤ 9223372036854775807 ∧ (Lit.int .i64 b.f2).wf = true ∧ (b.f3.length ≤ 9223372036854775807 ∧ ∀ x ∈ b.f3, G98 x) ∧ b.f4.size ≤ 9223372036854775807
theorem opn34 : Opn Tryz.prog k34 34 G34 := Opn.struct (g := fun p => ⟨p.1, p.2.1, p.2.2.1, p.2.2.2.1, p.2.2.2.2⟩) Tryz.underlying34 (OpnF.cons (Opn.int Tryz.underlying3) rfl (by kernel_rfl) (OpnF.cons (Opn.string Tryz.underlying9) rfl (by kernel_rfl) (OpnF.cons (Opn.int Tryz.underlying3) rfl (by kernel_rfl) (OpnF.cons (Opn.slice Tryz.underlying23 opn98 (by kernel_rfl)) rfl (by kernel_rfl) (OpnF.last (Opn.string Tryz.underlying9) rfl (by kernel_rfl)))))) (by kernel_rfl) (fun _ => rfl)
theorem pow10 {W : World} (h : laidMetH Tryz.prog Rows.messagePrintsRow.laid W) : Lib.TabIs Tryz.prog W "internal/strconv.uint64pow10" .u64 Lib.pow10Tab := by
  rw [MakeChecks.laidMetH_plain _ _ _ (by kernel_rfl)] at h
  have hl : Rows.messagePrintsRow.laid = [("math/bits.deBruijn32tab", Rows.laid_math_bits_deBruijn32tab), ("math/bits.deBruijn64tab", Rows.laid_math_bits_deBruijn64tab), ("internal/strconv.uint64pow10", Lib.tabData .u64 Lib.pow10Tab), ("unicode/utf8.acceptRanges", Rows.laid_unicode_utf8_acceptRanges), ("unicode/utf8.first", Rows.laid_unicode_utf8_first)] := by kernel_rfl
  rw [hl] at h
  exact Lib.tabIs_of_head (show Tryz.prog.globalNamed "internal/strconv.uint64pow10" = some 3 by kernel_rfl) (show (Tryz.prog.globals[3]?).map (·.type) = some 202 by kernel_rfl) Tryz.underlying202 Tryz.underlying119 (by kernel_rfl) (by kernel_rfl) h.tail.tail

set_option maxRecDepth 100000 in
/-- What the walk and the pure law give, for every argument and every world. -/
theorem contract (H : Type) (enc : TypeId × Value → H) (W : World) (base : Nat) (args : Array Value) (ds gs : List (DataW H)) (before : List MemPlace)
    (hval : ∀ (j : Nat) t v, Tryz.f5.params[j]? = some t → args[j]? = some v → Value.okWide Tryz.prog W .any base t v)
    (hW : DataW.Whole enc Tryz.prog Tryz.f5.params.toList Rows.messagePrintsSpec.vars false W args.toList ds gs before) (hL : laidMetH Tryz.prog Rows.messagePrintsRow.laid W) (hShaped : W.ShapedOpen Tryz.prog) :
    Calls Tryz.prog 5 args W fun e W' => ∃ v, e = .returned v ∧ Rows.messagePrintsSpec.post enc Tryz.prog Tryz.f5 false true false false W args v W' := by
  have hW' := hW
  obtain ⟨p, q, hA0, hV, rfl, hfz, hnd⟩ := hW
  have hA : DataW.TrodAll enc Tryz.prog W 0 (fun _ => true) true Tryz.f5.params.toList args.toList ds p := hA0
  rw [Tryz.params5] at hA hval
  obtain ⟨v0, vs0, d0, ds0, p0, q0, hargs, rfl, rfl, h0, r0⟩ := trodAll_cons hA
  obtain ⟨v1, vs1, d1, ds1, p1, q1, rfl, rfl, rfl, h1, r1⟩ := trodAll_cons r0
  obtain ⟨v2, vs2, d2, ds2, p2, q2, rfl, rfl, rfl, h2, r2⟩ := trodAll_cons r1
  obtain ⟨rfl, rfl, rfl⟩ := trodAll_nil r2
  obtain rfl : args = #[v0, v1, v2] := by cases args; simp_all
  obtain ⟨rfl, rfl⟩ := trodVars_none hV
  have z0 := h0
  have lt0 : ∀ x ∈ p0, x.block < W.heap.size := by obtain ⟨m, hm⟩ := z0; exact DataW.trod_lt m _ _ _ hm
  obtain ⟨cs0, rfl, hsz0⟩ := okWide_struct Tryz.underlying25 (hval 0 25 v0 rfl rfl)
  obtain ⟨a0, hk0, w0⟩ := Opn.arg opn25 h0
  obtain ⟨c1a, c1b, e1, k1a, k1b⟩ := hk0
  have e_c1a : c1a = [.string a0.f0] := k1a
  obtain ⟨c2a, c2b, e2, k2a, k2b⟩ := k1b
  have e_c2a : c2a = [.string a0.f1] := k2a
  obtain ⟨c3a, c3b, e3, k3a, k3b⟩ := k2b
  have e_c3a : c3a = [.int .i64 a0.f2] := k3a
  obtain ⟨c4a, c4b, e4, k4a, k4b⟩ := k3b
  obtain ⟨A5, cap5, e5, hc5, hr5⟩ := k4a
  have e_c4b : c4b = [.string a0.f4] := k4b
  obtain rfl : cs0 = #[.string a0.f0, .string a0.f1, .int .i64 a0.f2, .slice A5 a0.f3.length cap5, .string a0.f4] := by
    have hcs : (Value.agg cs0).cells.toList = [.string a0.f0, .string a0.f1, .int .i64 a0.f2, .slice A5 a0.f3.length cap5, .string a0.f4] := by simp [e1, e2, e3, e4, e5, e_c1a, e_c2a, e_c3a, e_c4b]
    cases cs0; simpa [Value.cells] using hcs
  have z1 := h1
  have lt1 : ∀ x ∈ p1, x.block < W.heap.size := by obtain ⟨m, hm⟩ := z1; exact DataW.trod_lt m _ _ _ hm
  obtain ⟨cs1, rfl, hsz1⟩ := okWide_struct Tryz.underlying34 (hval 1 34 v1 rfl rfl)
  obtain ⟨a1, hk1, w1⟩ := Opn.arg opn34 h1
  obtain ⟨c6a, c6b, e6, k6a, k6b⟩ := hk1
  have e_c6a : c6a = [.int .i64 a1.f0] := k6a
  obtain ⟨c7a, c7b, e7, k7a, k7b⟩ := k6b
  have e_c7a : c7a = [.string a1.f1] := k7a
  obtain ⟨c8a, c8b, e8, k8a, k8b⟩ := k7b
  have e_c8a : c8a = [.int .i64 a1.f2] := k8a
  obtain ⟨c9a, c9b, e9, k9a, k9b⟩ := k8b
  obtain ⟨A10, cap10, e10, hc10, hr10⟩ := k9a
  have e_c9b : c9b = [.string a1.f4] := k9b
  obtain rfl : cs1 = #[.int .i64 a1.f0, .string a1.f1, .int .i64 a1.f2, .slice A10 a1.f3.length cap10, .string a1.f4] := by
    have hcs : (Value.agg cs1).cells.toList = [.int .i64 a1.f0, .string a1.f1, .int .i64 a1.f2, .slice A10 a1.f3.length cap10, .string a1.f4] := by simp [e6, e7, e8, e9, e10, e_c6a, e_c7a, e_c8a, e_c9b]
    cases cs1; simpa [Value.cells] using hcs
  have z2 := h2
  have lt2 : ∀ x ∈ p2, x.block < W.heap.size := by obtain ⟨m, hm⟩ := z2; exact DataW.trod_lt m _ _ _ hm
  obtain ⟨a2, rfl, rfl, rfl⟩ := open_bool Tryz.underlying4 (hval 2 4 v2 rfl rfl) h2
  clear hA0
  obtain ⟨k, hp⟩ := Pu.mprints_law a0.f0 a0.f1 a0.f2 a0.f3 a0.f4 a1.f0 a1.f1 a1.f2 a1.f3 a1.f4 a2 w0.2.2.1 w1.1 w1.2.2.1 w0.2.2.2.1.1 w1.2.2.2.1.1
  refine (depotlaw12_MessagePrints.calls k a0.f0 a0.f1 a0.f2 A5 cap5 a0.f3 a0.f4 a1.f0 a1.f1 a1.f2 A10 cap10 a1.f3 a1.f4 a2 true W ⟨rfl⟩  ⟨Hand.Laid.start ⟨hShaped, pow10 hL⟩⟩ hr5 hc5 hr10 hc10 hp).mono fun e W' ⟨he, bel0⟩ => ?_
  have bel : Below W.heap.size W W' := bel0
  subst he
  exact ⟨_, rfl, _, _, _, [], _, [], hW', trodAll_mk1 (shut_bool Tryz.underlying4 _), (trodAll_cons_mk (Below.trod laidOut (by kernel_rfl) (of_decide_eq_true (by kernel_rfl)) z0 bel lt0) (trodAll_cons_mk (Below.trod laidOut (by kernel_rfl) (of_decide_eq_true (by kernel_rfl)) z1 bel lt1) (trodAll_cons_mk (Below.trod laidOut (by kernel_rfl) (of_decide_eq_true (by kernel_rfl)) z2 bel lt2) trodAll_mk0))), rfl, bel.frame _, fun h => by cases h⟩

mutual
def cellsD : DataW Unit → List Value
  | .lit (.int k n) => [.int k n]
  | .lit (.bool b) => [.bool b]
  | .lit (.string l) => [.string ⟨l.toArray⟩]
  | .agg parts => cellsAll parts
  | _ => []
def cellsAll : List (DataW Unit) → List Value
  | [] => []
  | d :: r => cellsD d ++ cellsAll r
end
/-- A world for the witness: the settled one, the listed variables holding what the program's text lays. -/
noncomputable def laidWorld (os : Os) : World :=
  { World.holding Tryz.prog os ⟨#[], #[], []⟩ with heap := ((((((World.holding Tryz.prog os ⟨#[], #[], []⟩).heap).modify 4 (fun | .cells _ t frozen => .cells (cellsD Rows.laid_math_bits_deBruijn32tab).toArray t frozen | o => o)).modify 5 (fun | .cells _ t frozen => .cells (cellsD Rows.laid_math_bits_deBruijn64tab).toArray t frozen | o => o)).modify 3 (fun | .cells _ t frozen => .cells (cellsD Rows.laid_internal_strconv_uint64pow10).toArray t frozen | o => o)).modify 2 (fun | .cells _ t frozen => .cells (cellsD Rows.laid_unicode_utf8_acceptRanges).toArray t frozen | o => o)).modify 1 (fun | .cells _ t frozen => .cells (cellsD Rows.laid_unicode_utf8_first).toArray t frozen | o => o) }
theorem laid_met (os : Os) : laidMet Tryz.prog Rows.messagePrintsRow.laid ((laidWorld os).forCall (fun _ _ => 0) ⟨#[], #[.agg #[.string ByteArray.empty, .string ByteArray.empty, .int .i64 0, .slice none 0 0, .string ByteArray.empty], .agg #[.int .i64 0, .string ByteArray.empty, .int .i64 0, .slice none 0 0, .string ByteArray.empty], .bool false], []⟩).memory :=
  laidMet_of_run' 8 (by kernel_rfl) (by kernel_rfl)
theorem reads (os : Os) {H : Type} (enc : TypeId × Value → H) : ∃ places, DataW.whole enc Tryz.prog ((laidWorld os).forCall (fun _ _ => 0) ⟨#[], #[.agg #[.string ByteArray.empty, .string ByteArray.empty, .int .i64 0, .slice none 0 0, .string ByteArray.empty], .agg #[.int .i64 0, .string ByteArray.empty, .int .i64 0, .slice none 0 0, .string ByteArray.empty], .bool false], []⟩).memory Tryz.f5.params.toList Rows.messagePrintsSpec.vars false (#[.agg #[.string ByteArray.empty, .string ByteArray.empty, .int .i64 0, .slice none 0 0, .string ByteArray.empty], .agg #[.int .i64 0, .string ByteArray.empty, .int .i64 0, .slice none 0 0, .string ByteArray.empty], .bool false] : Array Value).toList 8 = some ([.agg [.lit (.string []), .lit (.string []), .lit (.int .i64 0), .nil, .lit (.string [])], .agg [.lit (.int .i64 0), .lit (.string []), .lit (.int .i64 0), .nil, .lit (.string [])], .lit (.bool false)], [], places) :=
  ⟨[], by kernel_rfl⟩

set_option maxRecDepth 100000 in
theorem lifted (os : Os) (started : os.Started) (H : Type) (enc : TypeId × Value → H) (F : Stop.Interp) :
    ReturnsInHanded {} Tryz.checked os 5 .any ((OpenSpec.ofChange Rows.messagePrintsSpec).preRow enc Tryz.prog Tryz.f5 Rows.messagePrintsRow.domain false Rows.messagePrintsRow.laid) (((OpenSpec.ofChange Rows.messagePrintsSpec).at F).post enc Tryz.prog Tryz.f5 false true false false) := by
  obtain ⟨places, hx⟩ := reads os enc
  refine returnsInHanded_of_row (C := Tryz.checked) (s := OpenSpec.ofChange Rows.messagePrintsSpec) own started (by kernel_rfl) Tryz.func5
    (witness_row_at (enc := enc) (C := Tryz.checked) false (laidWorld os) #[.agg #[.string ByteArray.empty, .string ByteArray.empty, .int .i64 0, .slice none 0 0, .string ByteArray.empty], .agg #[.int .i64 0, .string ByteArray.empty, .int .i64 0, .slice none 0 0, .string ByteArray.empty], .bool false] rfl (by kernel_rfl) (by kernel_rfl) (by kernel_rfl)
      (OpenSpec.preRow_of_cond 8 hx (by kernel_rfl) (fun k hk => by cases hk) (by kernel_rfl) (laid_met os))) ?_
  intro W base args ds gs before hval hW _ _ _ hL hS _
  exact contract H enc W base args ds gs before hval hW hL hS

theorem said : Rows.MessagePrintsSaid :=
  OpenClaim.holds_of_cond 5 Tryz.f5 rfl rfl rfl rfl rfl rfl rfl ⟨rfl, rfl, rfl, rfl, rfl⟩ rfl rfl rfl rfl rfl (by kernel_rfl) Tryz.func5 (by kernel_rfl)
    (of_decide_eq_true (by kernel_rfl)) (by unfold Func.isWrapper; first | (rw [if_pos (by decide +kernel)]; kernel_rfl) | (rw [if_neg (by decide +kernel)]; exact ⟨rfl, rfl⟩))
    (fun os started H enc _ F => by rw [OpenClaim.pre_eq_preRow]; exact lifted os started H enc F)

/-- No parameter wants a stand-in; the program's own looks are off: what the card asks. -/
theorem plain (f : FuncId) (fn : Func) (hf : Tryz.pinned.checked.prog.funcNamed "depot/depotlaw12.MessagePrints" = some f) (hfn : Tryz.pinned.checked.prog.funcs[f]? = some fn) :
    false = Tryz.pinned.checked.prog.looks [] ∧ ∀ (j : Nat) t, fn.params[j]? = some t → Tryz.pinned.checked.prog.wantsStandIn t = false := by
  obtain rfl : f = 5 := Option.some.inj ((show Tryz.prog.funcNamed "depot/depotlaw12.MessagePrints" = some 5 by kernel_rfl).symm.trans hf) |>.symm
  obtain rfl : fn = Tryz.f5 := (Option.some.inj (Tryz.func5.symm.trans hfn)).symm
  refine ⟨by kernel_rfl, fun j t ht => ?_⟩
  rw [Tryz.params5] at ht
  have hm : t ∈ [25, 34, 4] := by simpa using Array.mem_of_getElem? ht
  have hall : ([25, 34, 4].all fun u => !Tryz.prog.wantsStandIn u) = true := by kernel_rfl
  exact (show Tryz.prog.wantsStandIn t = false by simpa using List.all_eq_true.1 hall t hm)
/-- The card. -/
theorem card : Rows.MessagePrintsCardSaid :=
  Claim7.holds_tied_plain_at .later [] _ _ _ _ said (fun _ h => by cases h) (by kernel_rfl) (fun _ h => by cases h) messagePrints_row_tie rfl ⟨rfl, rfl⟩ (by kernel_rfl) rfl plain (by kernel_rfl)
end Go.Proofs.YtjaklgikfcahdaaGreatDoor.messagePrints
namespace Go.Proofs.YtjaklgikfcahdaaGreatDoor
/-- The statement, under a short name, for the claim. -/
theorem messagePrints_holds : Rows.MessagePrintsCardSaid := messagePrints.card
#print axioms messagePrints_holds
end Go.Proofs.YtjaklgikfcahdaaGreatDoor
