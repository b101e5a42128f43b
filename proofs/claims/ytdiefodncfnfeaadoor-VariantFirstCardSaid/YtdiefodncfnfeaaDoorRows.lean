/-
  NARROWER THAN 'FOR EVERY INPUT', by the rows' own cells (each row's printed sentence says how): VariantLists: laid · VariantEncodes: laid · VariantDecodes: laid · VariantBack: laid · VariantFirst: laid.
  DERIVED. THE GIVEN ROWS OF THIS SEAT. 5 by the template 'for every input the law returns true; each argument reads behind the call as it read before'; 0 by the template 'total and deterministic' (their statements: YtdiefodncfnfeaaDoorTotals.lean).
  GIVEN WITH THE SEED: the statements are not yours to turn. If you find one false, say at which input.
  Laid BY PROGRAM, IN A SANDBOX (cutbox-rows.mjs): the forced cells as the released guide's own fill.sh prints them over the translation aa324985d5260614… (all of the seat's roots in one cut). By AI agents, Wed Nov 11 2026. No macro, syntax, notation, axiom, sorry.
-/
import Derived.Test.YtdiefodncfnfeaaDoorChecked
import GoSem.PinnedTables
import GoSem.Claim
import GoSem.ClaimJoined
import GoSem.ClaimMapViews
import Derived.JoinedTies
import Derived.KernelRfl
namespace Go.Proofs.YtdiefodncfnfeaaDoor
/- THE CELL 'sum', in the pinned program and in every row, IS THE sha256 OF THE DUMP (.gsa) THAT YtdiefodncfnfeaaDoorProg.lean LOADS. Nothing in Lean hashes anything: it is a label: what it is worth is what the hold of that sum in a sandbox is worth. -/
noncomputable def Tryd.pinned : Pinned := { name := "ytdiefodncfnfeaadoor", sum := "aa324985d526061405b86740e996d6acc3a3cb0e686c73babbe7f32feb3984a5", checked := Tryd.checked }
namespace Rows
def none {H : Type} : Left H := { results := [], args := [] }

/- WHAT THE LISTED PACKAGE-LEVEL VARIABLES READ AS WHEN THE CALL BEGINS. Each datum BY PROGRAM (the guide's laid-datum.mjs) off the statement by which the dump's own 'gosem.cut.vars' lays the variable. In a bare row this is a premise. The card (YtdiefodncfnfeaaDoorCards.lean) ties it to the program's text. -/
def laid_unicode_utf8_acceptRanges {H : Type} : DataW H := .agg [.agg [.lit (.int .u8 128), .lit (.int .u8 191)], .agg [.lit (.int .u8 160), .lit (.int .u8 191)], .agg [.lit (.int .u8 128), .lit (.int .u8 159)], .agg [.lit (.int .u8 144), .lit (.int .u8 191)], .agg [.lit (.int .u8 128), .lit (.int .u8 143)], .agg [.lit (.int .u8 0), .lit (.int .u8 0)], .agg [.lit (.int .u8 0), .lit (.int .u8 0)], .agg [.lit (.int .u8 0), .lit (.int .u8 0)], .agg [.lit (.int .u8 0), .lit (.int .u8 0)], .agg [.lit (.int .u8 0), .lit (.int .u8 0)], .agg [.lit (.int .u8 0), .lit (.int .u8 0)], .agg [.lit (.int .u8 0), .lit (.int .u8 0)], .agg [.lit (.int .u8 0), .lit (.int .u8 0)], .agg [.lit (.int .u8 0), .lit (.int .u8 0)], .agg [.lit (.int .u8 0), .lit (.int .u8 0)], .agg [.lit (.int .u8 0), .lit (.int .u8 0)]]
/-- One of Go's own tables, pinned by name: the form's constant. -/
def laid_unicode_utf8_first : DataW Unit := Go.Pinned.utf8First

/-- 'depotlaw20.VariantLists': WHATEVER THE INPUT: true; the input reads as it did. -/
def variantListsSpec : ChangeSpec := { name := "variantLists", fn := fun _ => fun
  | [d1, d2, d3, d4] => { results := [.lit (.bool true)], args := [d1, d2, d3, d4] }
  | _ => none }
def variantListsRow : OpenClaim := { program := "ytdiefodncfnfeaadoor", sum := "aa324985d526061405b86740e996d6acc3a3cb0e686c73babbe7f32feb3984a5", func := "depot/depotlaw20.VariantLists", spec := "variantLists", inPlace := ["internal/bytealg.CountString", "internal/bytealg.IndexByteString", "internal/bytealg.IndexString", "internal/abi.NoEscape", "internal/bytealg.MakeNoZero"], unfollowed := true, recurses := true, named := ["internal/bytealg.MaxLen", "unicode/utf8.first", "unicode/utf8.acceptRanges"], apart := false, laid := [("unicode/utf8.acceptRanges", laid_unicode_utf8_acceptRanges), ("unicode/utf8.first", laid_unicode_utf8_first)] }
def VariantListsSaid : Prop := variantListsRow.holds Tryd.pinned (OpenSpec.ofChange variantListsSpec)

/-- ITS FALSE NEIGHBOUR: 'it returns false'. Refute it at one input. -/
def variantListsWrong : ChangeSpec := { name := "variantLists", fn := fun _ => fun
  | [d1, d2, d3, d4] => { results := [.lit (.bool false)], args := [d1, d2, d3, d4] }
  | _ => none }
def VariantListsWrongFalsely : Prop := variantListsRow.holds Tryd.pinned (OpenSpec.ofChange variantListsWrong)

/-- 'depotlaw20.VariantEncodes': WHATEVER THE INPUT: true; the input reads as it did. -/
def variantEncodesSpec : ChangeSpec := { name := "variantEncodes", fn := fun _ => fun
  | [d] => { results := [.lit (.bool true)], args := [d] }
  | _ => none }
def variantEncodesRow : OpenClaim := { program := "ytdiefodncfnfeaadoor", sum := "aa324985d526061405b86740e996d6acc3a3cb0e686c73babbe7f32feb3984a5", func := "depot/depotlaw20.VariantEncodes", spec := "variantEncodes", inPlace := ["internal/bytealg.CountString", "internal/bytealg.IndexByteString", "internal/bytealg.IndexString", "internal/abi.NoEscape", "internal/bytealg.MakeNoZero"], unfollowed := true, recurses := true, named := ["internal/bytealg.MaxLen", "unicode/utf8.first", "unicode/utf8.acceptRanges"], apart := false, laid := [("unicode/utf8.acceptRanges", laid_unicode_utf8_acceptRanges), ("unicode/utf8.first", laid_unicode_utf8_first)] }
def VariantEncodesSaid : Prop := variantEncodesRow.holds Tryd.pinned (OpenSpec.ofChange variantEncodesSpec)

/-- ITS FALSE NEIGHBOUR: 'it returns false'. Refute it at one input. -/
def variantEncodesWrong : ChangeSpec := { name := "variantEncodes", fn := fun _ => fun
  | [d] => { results := [.lit (.bool false)], args := [d] }
  | _ => none }
def VariantEncodesWrongFalsely : Prop := variantEncodesRow.holds Tryd.pinned (OpenSpec.ofChange variantEncodesWrong)

/-- 'depotlaw20.VariantDecodes': WHATEVER THE INPUT: true; the input reads as it did. -/
def variantDecodesSpec : ChangeSpec := { name := "variantDecodes", fn := fun _ => fun
  | [d] => { results := [.lit (.bool true)], args := [d] }
  | _ => none }
def variantDecodesRow : OpenClaim := { program := "ytdiefodncfnfeaadoor", sum := "aa324985d526061405b86740e996d6acc3a3cb0e686c73babbe7f32feb3984a5", func := "depot/depotlaw20.VariantDecodes", spec := "variantDecodes", inPlace := ["internal/bytealg.CountString", "internal/bytealg.IndexByteString", "internal/bytealg.IndexString", "internal/abi.NoEscape", "internal/bytealg.MakeNoZero"], unfollowed := true, recurses := true, named := ["internal/bytealg.MaxLen", "unicode/utf8.first", "unicode/utf8.acceptRanges"], apart := false, laid := [("unicode/utf8.acceptRanges", laid_unicode_utf8_acceptRanges), ("unicode/utf8.first", laid_unicode_utf8_first)] }
def VariantDecodesSaid : Prop := variantDecodesRow.holds Tryd.pinned (OpenSpec.ofChange variantDecodesSpec)

/-- ITS FALSE NEIGHBOUR: 'it returns false'. Refute it at one input. -/
def variantDecodesWrong : ChangeSpec := { name := "variantDecodes", fn := fun _ => fun
  | [d] => { results := [.lit (.bool false)], args := [d] }
  | _ => none }
def VariantDecodesWrongFalsely : Prop := variantDecodesRow.holds Tryd.pinned (OpenSpec.ofChange variantDecodesWrong)

/-- 'depotlaw20.VariantBack': WHATEVER THE INPUT: true; the input reads as it did. -/
def variantBackSpec : ChangeSpec := { name := "variantBack", fn := fun _ => fun
  | [d1, d2, d3] => { results := [.lit (.bool true)], args := [d1, d2, d3] }
  | _ => none }
def variantBackRow : OpenClaim := { program := "ytdiefodncfnfeaadoor", sum := "aa324985d526061405b86740e996d6acc3a3cb0e686c73babbe7f32feb3984a5", func := "depot/depotlaw20.VariantBack", spec := "variantBack", inPlace := ["internal/bytealg.CountString", "internal/bytealg.IndexByteString", "internal/bytealg.IndexString", "internal/abi.NoEscape", "internal/bytealg.MakeNoZero"], unfollowed := true, recurses := true, named := ["internal/bytealg.MaxLen", "unicode/utf8.first", "unicode/utf8.acceptRanges"], apart := false, laid := [("unicode/utf8.acceptRanges", laid_unicode_utf8_acceptRanges), ("unicode/utf8.first", laid_unicode_utf8_first)] }
def VariantBackSaid : Prop := variantBackRow.holds Tryd.pinned (OpenSpec.ofChange variantBackSpec)

/-- ITS FALSE NEIGHBOUR: 'it returns false'. Refute it at one input. -/
def variantBackWrong : ChangeSpec := { name := "variantBack", fn := fun _ => fun
  | [d1, d2, d3] => { results := [.lit (.bool false)], args := [d1, d2, d3] }
  | _ => none }
def VariantBackWrongFalsely : Prop := variantBackRow.holds Tryd.pinned (OpenSpec.ofChange variantBackWrong)

/-- 'depotlaw20.VariantFirst': WHATEVER THE INPUT: true; the input reads as it did. -/
def variantFirstSpec : ChangeSpec := { name := "variantFirst", fn := fun _ => fun
  | [d1, d2, d3, d4] => { results := [.lit (.bool true)], args := [d1, d2, d3, d4] }
  | _ => none }
def variantFirstRow : OpenClaim := { program := "ytdiefodncfnfeaadoor", sum := "aa324985d526061405b86740e996d6acc3a3cb0e686c73babbe7f32feb3984a5", func := "depot/depotlaw20.VariantFirst", spec := "variantFirst", inPlace := ["internal/bytealg.CountString", "internal/bytealg.IndexByteString", "internal/bytealg.IndexString", "internal/abi.NoEscape", "internal/bytealg.MakeNoZero"], unfollowed := true, recurses := true, named := ["internal/bytealg.MaxLen", "unicode/utf8.first", "unicode/utf8.acceptRanges"], apart := false, laid := [("unicode/utf8.acceptRanges", laid_unicode_utf8_acceptRanges), ("unicode/utf8.first", laid_unicode_utf8_first)] }
def VariantFirstSaid : Prop := variantFirstRow.holds Tryd.pinned (OpenSpec.ofChange variantFirstSpec)

/-- ITS FALSE NEIGHBOUR: 'it returns false'. Refute it at one input. -/
def variantFirstWrong : ChangeSpec := { name := "variantFirst", fn := fun _ => fun
  | [d1, d2, d3, d4] => { results := [.lit (.bool false)], args := [d1, d2, d3, d4] }
  | _ => none }
def VariantFirstWrongFalsely : Prop := variantFirstRow.holds Tryd.pinned (OpenSpec.ofChange variantFirstWrong)

/- THE SECOND FORM. 'bulk': how many values and letters a reading holds, each counted each time it is reached (what is shared counts as often as it is met; a slice's spare places count too). A statement '..UptoSaid' is the law's where the arguments, and the package variables that the reading takes, are together of bulk at most 1048576: NARROWER than '..Said'. Prove '..Said' where nothing that the law and all that it calls make is longer than what came in: it says more and counts as full. Else prove '..UptoSaid'. A law counts once. -/
mutual
def uptoBulk {H : Type} : DataW H → Nat
  | .lit (.string bytes) => bytes.length + 1
  | .lit _ => 1
  | .nil => 1
  | .ptr d => uptoBulk d + 1
  | .slice elems spare => uptoBulkAll elems + uptoBulkAll spare + 1
  | .agg parts => uptoBulkAll parts + 1
  | .iface _ d => uptoBulk d + 1
  | .map entries => uptoBulkEntries entries + 1
  | .held _ => 1
def uptoBulkAll {H : Type} : List (DataW H) → Nat
  | [] => 0
  | d :: r => uptoBulk d + uptoBulkAll r
def uptoBulkEntries {H : Type} : List (Lit × DataW H) → Nat
  | [] => 0
  | x :: r => uptoBulkEntry x + uptoBulkEntries r
def uptoBulkEntry {H : Type} : Lit × DataW H → Nat
  | (.string bytes, d) => bytes.length + uptoBulk d + 1
  | (_, d) => uptoBulk d + 1
 end
def uptoSmall : (H : Type) → List (DataW H) → Bool := fun _ ds => decide (uptoBulkAll ds ≤ 1048576)
def OpenSpec.upto (s : _root_.Go.ChangeSpec) : _root_.Go.OpenSpec := { _root_.Go.OpenSpec.ofChange s with cond := some uptoSmall }

/-- 'depotlaw20.VariantLists', WHERE WHAT IT READS IS OF BULK AT MOST 1048576: true; the input reads as it did. -/
def variantListsUptoRow : OpenClaim := { program := "ytdiefodncfnfeaadoor", sum := "aa324985d526061405b86740e996d6acc3a3cb0e686c73babbe7f32feb3984a5", func := "depot/depotlaw20.VariantLists", spec := "variantLists", inPlace := ["internal/bytealg.CountString", "internal/bytealg.IndexByteString", "internal/bytealg.IndexString", "internal/abi.NoEscape", "internal/bytealg.MakeNoZero"], unfollowed := true, recurses := true, named := ["internal/bytealg.MaxLen", "unicode/utf8.first", "unicode/utf8.acceptRanges"], apart := false, laid := [("unicode/utf8.acceptRanges", laid_unicode_utf8_acceptRanges), ("unicode/utf8.first", laid_unicode_utf8_first)], narrowed := true }
def VariantListsUptoSaid : Prop := variantListsUptoRow.holds Tryd.pinned (OpenSpec.upto variantListsSpec)

/-- 'depotlaw20.VariantEncodes', WHERE WHAT IT READS IS OF BULK AT MOST 1048576: true; the input reads as it did. -/
def variantEncodesUptoRow : OpenClaim := { program := "ytdiefodncfnfeaadoor", sum := "aa324985d526061405b86740e996d6acc3a3cb0e686c73babbe7f32feb3984a5", func := "depot/depotlaw20.VariantEncodes", spec := "variantEncodes", inPlace := ["internal/bytealg.CountString", "internal/bytealg.IndexByteString", "internal/bytealg.IndexString", "internal/abi.NoEscape", "internal/bytealg.MakeNoZero"], unfollowed := true, recurses := true, named := ["internal/bytealg.MaxLen", "unicode/utf8.first", "unicode/utf8.acceptRanges"], apart := false, laid := [("unicode/utf8.acceptRanges", laid_unicode_utf8_acceptRanges), ("unicode/utf8.first", laid_unicode_utf8_first)], narrowed := true }
def VariantEncodesUptoSaid : Prop := variantEncodesUptoRow.holds Tryd.pinned (OpenSpec.upto variantEncodesSpec)

/-- 'depotlaw20.VariantDecodes', WHERE WHAT IT READS IS OF BULK AT MOST 1048576: true; the input reads as it did. -/
def variantDecodesUptoRow : OpenClaim := { program := "ytdiefodncfnfeaadoor", sum := "aa324985d526061405b86740e996d6acc3a3cb0e686c73babbe7f32feb3984a5", func := "depot/depotlaw20.VariantDecodes", spec := "variantDecodes", inPlace := ["internal/bytealg.CountString", "internal/bytealg.IndexByteString", "internal/bytealg.IndexString", "internal/abi.NoEscape", "internal/bytealg.MakeNoZero"], unfollowed := true, recurses := true, named := ["internal/bytealg.MaxLen", "unicode/utf8.first", "unicode/utf8.acceptRanges"], apart := false, laid := [("unicode/utf8.acceptRanges", laid_unicode_utf8_acceptRanges), ("unicode/utf8.first", laid_unicode_utf8_first)], narrowed := true }
def VariantDecodesUptoSaid : Prop := variantDecodesUptoRow.holds Tryd.pinned (OpenSpec.upto variantDecodesSpec)

/-- 'depotlaw20.VariantBack', WHERE WHAT IT READS IS OF BULK AT MOST 1048576: true; the input reads as it did. -/
def variantBackUptoRow : OpenClaim := { program := "ytdiefodncfnfeaadoor", sum := "aa324985d526061405b86740e996d6acc3a3cb0e686c73babbe7f32feb3984a5", func := "depot/depotlaw20.VariantBack", spec := "variantBack", inPlace := ["internal/bytealg.CountString", "internal/bytealg.IndexByteString", "internal/bytealg.IndexString", "internal/abi.NoEscape", "internal/bytealg.MakeNoZero"], unfollowed := true, recurses := true, named := ["internal/bytealg.MaxLen", "unicode/utf8.first", "unicode/utf8.acceptRanges"], apart := false, laid := [("unicode/utf8.acceptRanges", laid_unicode_utf8_acceptRanges), ("unicode/utf8.first", laid_unicode_utf8_first)], narrowed := true }
def VariantBackUptoSaid : Prop := variantBackUptoRow.holds Tryd.pinned (OpenSpec.upto variantBackSpec)

/-- 'depotlaw20.VariantFirst', WHERE WHAT IT READS IS OF BULK AT MOST 1048576: true; the input reads as it did. -/
def variantFirstUptoRow : OpenClaim := { program := "ytdiefodncfnfeaadoor", sum := "aa324985d526061405b86740e996d6acc3a3cb0e686c73babbe7f32feb3984a5", func := "depot/depotlaw20.VariantFirst", spec := "variantFirst", inPlace := ["internal/bytealg.CountString", "internal/bytealg.IndexByteString", "internal/bytealg.IndexString", "internal/abi.NoEscape", "internal/bytealg.MakeNoZero"], unfollowed := true, recurses := true, named := ["internal/bytealg.MaxLen", "unicode/utf8.first", "unicode/utf8.acceptRanges"], apart := false, laid := [("unicode/utf8.acceptRanges", laid_unicode_utf8_acceptRanges), ("unicode/utf8.first", laid_unicode_utf8_first)], narrowed := true }
def VariantFirstUptoSaid : Prop := variantFirstUptoRow.holds Tryd.pinned (OpenSpec.upto variantFirstSpec)

end Rows
end Go.Proofs.YtdiefodncfnfeaaDoor
