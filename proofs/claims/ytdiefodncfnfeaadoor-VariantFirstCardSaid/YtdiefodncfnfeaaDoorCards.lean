/-
  DERIVED. GIVEN WITH THE SEED: THE CARDS: each row of YtdiefodncfnfeaaDoorRows.lean that lists a variable, with what it lists TIED to the program's text (the seventh form; the later family's looks); each row that meets fmt, with fmt's text TOLD by the authors' own Lean function (tested against real Go, not proved from fmt's source: count such statements apart). THE CARD IS WHAT COUNTS. Prove the row's statement (the work); the ties are given (YtdiefodncfnfeaaDoorTie.lean); close each card by the builder's one call (the guide's Derived/Test/ToyasCard.lean, 'card_holds'). Laid BY PROGRAM, IN A SANDBOX (cutbox-door.mjs). By AI agents, Wed Nov 11 2026. No macro, syntax, notation, axiom, sorry.
-/
import Derived.Test.YtdiefodncfnfeaaDoorRows
import GoSem.ClaimSeven
namespace Go.Proofs.YtdiefodncfnfeaaDoor
namespace Rows

/-- THE TIED CARD OF 'depotlaw20.VariantLists'. -/
def variantListsCard : Claim7 := { stood := { row := variantListsRow, standIns := [], harness := (true, "4ded33a0f16af76b19324b686ceaf841ca881b2426789c1369b6fb9a35a65b6d"), looks := false }, kinds := [], alts := [], laidByText := true, laidKinds := [.data, .pinned], laidTests := true, laidLooks := .later }
def VariantListsCardSaid : Prop := Claim7.holds Tryd.pinned (.plain (OpenSpec.ofChange variantListsSpec)) variantListsCard

/-- THE TIED CARD OF 'depotlaw20.VariantEncodes'. -/
def variantEncodesCard : Claim7 := { stood := { row := variantEncodesRow, standIns := [], harness := (true, "4ded33a0f16af76b19324b686ceaf841ca881b2426789c1369b6fb9a35a65b6d"), looks := false }, kinds := [], alts := [], laidByText := true, laidKinds := [.data, .pinned], laidTests := true, laidLooks := .later }
def VariantEncodesCardSaid : Prop := Claim7.holds Tryd.pinned (.plain (OpenSpec.ofChange variantEncodesSpec)) variantEncodesCard

/-- THE TIED CARD OF 'depotlaw20.VariantDecodes'. -/
def variantDecodesCard : Claim7 := { stood := { row := variantDecodesRow, standIns := [], harness := (true, "4ded33a0f16af76b19324b686ceaf841ca881b2426789c1369b6fb9a35a65b6d"), looks := false }, kinds := [], alts := [], laidByText := true, laidKinds := [.data, .pinned], laidTests := true, laidLooks := .later }
def VariantDecodesCardSaid : Prop := Claim7.holds Tryd.pinned (.plain (OpenSpec.ofChange variantDecodesSpec)) variantDecodesCard

/-- THE TIED CARD OF 'depotlaw20.VariantBack'. -/
def variantBackCard : Claim7 := { stood := { row := variantBackRow, standIns := [], harness := (true, "4ded33a0f16af76b19324b686ceaf841ca881b2426789c1369b6fb9a35a65b6d"), looks := false }, kinds := [], alts := [], laidByText := true, laidKinds := [.data, .pinned], laidTests := true, laidLooks := .later }
def VariantBackCardSaid : Prop := Claim7.holds Tryd.pinned (.plain (OpenSpec.ofChange variantBackSpec)) variantBackCard

/-- THE TIED CARD OF 'depotlaw20.VariantFirst'. -/
def variantFirstCard : Claim7 := { stood := { row := variantFirstRow, standIns := [], harness := (true, "4ded33a0f16af76b19324b686ceaf841ca881b2426789c1369b6fb9a35a65b6d"), looks := false }, kinds := [], alts := [], laidByText := true, laidKinds := [.data, .pinned], laidTests := true, laidLooks := .later }
def VariantFirstCardSaid : Prop := Claim7.holds Tryd.pinned (.plain (OpenSpec.ofChange variantFirstSpec)) variantFirstCard

/-- THE SECOND FORM's CARD OF 'depotlaw20.VariantLists'. -/
def variantListsUptoCard : Claim7 := { stood := { row := variantListsUptoRow, standIns := [], harness := (true, "4ded33a0f16af76b19324b686ceaf841ca881b2426789c1369b6fb9a35a65b6d"), looks := false }, kinds := [], alts := [], laidByText := true, laidKinds := [.data, .pinned], laidTests := true, laidLooks := .later }
def VariantListsUptoCardSaid : Prop := Claim7.holds Tryd.pinned (.plain (OpenSpec.upto variantListsSpec)) variantListsUptoCard

/-- THE SECOND FORM's CARD OF 'depotlaw20.VariantEncodes'. -/
def variantEncodesUptoCard : Claim7 := { stood := { row := variantEncodesUptoRow, standIns := [], harness := (true, "4ded33a0f16af76b19324b686ceaf841ca881b2426789c1369b6fb9a35a65b6d"), looks := false }, kinds := [], alts := [], laidByText := true, laidKinds := [.data, .pinned], laidTests := true, laidLooks := .later }
def VariantEncodesUptoCardSaid : Prop := Claim7.holds Tryd.pinned (.plain (OpenSpec.upto variantEncodesSpec)) variantEncodesUptoCard

/-- THE SECOND FORM's CARD OF 'depotlaw20.VariantDecodes'. -/
def variantDecodesUptoCard : Claim7 := { stood := { row := variantDecodesUptoRow, standIns := [], harness := (true, "4ded33a0f16af76b19324b686ceaf841ca881b2426789c1369b6fb9a35a65b6d"), looks := false }, kinds := [], alts := [], laidByText := true, laidKinds := [.data, .pinned], laidTests := true, laidLooks := .later }
def VariantDecodesUptoCardSaid : Prop := Claim7.holds Tryd.pinned (.plain (OpenSpec.upto variantDecodesSpec)) variantDecodesUptoCard

/-- THE SECOND FORM's CARD OF 'depotlaw20.VariantBack'. -/
def variantBackUptoCard : Claim7 := { stood := { row := variantBackUptoRow, standIns := [], harness := (true, "4ded33a0f16af76b19324b686ceaf841ca881b2426789c1369b6fb9a35a65b6d"), looks := false }, kinds := [], alts := [], laidByText := true, laidKinds := [.data, .pinned], laidTests := true, laidLooks := .later }
def VariantBackUptoCardSaid : Prop := Claim7.holds Tryd.pinned (.plain (OpenSpec.upto variantBackSpec)) variantBackUptoCard

/-- THE SECOND FORM's CARD OF 'depotlaw20.VariantFirst'. -/
def variantFirstUptoCard : Claim7 := { stood := { row := variantFirstUptoRow, standIns := [], harness := (true, "4ded33a0f16af76b19324b686ceaf841ca881b2426789c1369b6fb9a35a65b6d"), looks := false }, kinds := [], alts := [], laidByText := true, laidKinds := [.data, .pinned], laidTests := true, laidLooks := .later }
def VariantFirstUptoCardSaid : Prop := Claim7.holds Tryd.pinned (.plain (OpenSpec.upto variantFirstSpec)) variantFirstUptoCard
end Rows
end Go.Proofs.YtdiefodncfnfeaaDoor
