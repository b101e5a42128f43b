/-
  DERIVED. GIVEN WITH THE SEED: THE CARDS: each row of YtheimnfgiigfoaaDoorRows.lean that lists a variable, with what it lists TIED to the program's text (the seventh form; the later family's looks); each row that meets fmt, with fmt's text TOLD by the authors' own Lean function (tested against real Go, not proved from fmt's source: count such statements apart). THE CARD IS WHAT COUNTS. Prove the row's statement (the work); the ties are given (YtheimnfgiigfoaaDoorTie.lean); close each card by the builder's one call (the guide's Derived/Test/ToyasCard.lean, 'card_holds'). Laid BY PROGRAM, IN A SANDBOX (cutbox-door.mjs). By AI agents, Wed Nov 11 2026. No macro, syntax, notation, axiom, sorry.
-/
import Derived.Test.YtheimnfgiigfoaaDoorRows
import GoSem.ClaimSeven
namespace Go.Proofs.YtheimnfgiigfoaaDoor
namespace Rows

/-- THE TIED CARD OF 'depotlaw02.DecimalWrites'. -/
def decimalWritesCard : Claim7 := { stood := { row := decimalWritesRow, standIns := [], harness := (true, "3bfc3c64a3eb09096d7b520b09734c4e4c245476c0a0e1eb965d49a1c6142229"), looks := false }, kinds := [], alts := [], laidByText := true, laidKinds := [.data, .data, .data], laidTests := true, laidLooks := .later }
def DecimalWritesCardSaid : Prop := Claim7.holds Tryd.pinned (.plain (OpenSpec.ofChange decimalWritesSpec)) decimalWritesCard

/-- THE TIED CARD OF 'depotlaw02.DecimalReads'. -/
def decimalReadsCard : Claim7 := { stood := { row := decimalReadsRow, standIns := [], harness := (true, "3bfc3c64a3eb09096d7b520b09734c4e4c245476c0a0e1eb965d49a1c6142229"), looks := false }, kinds := [], alts := [], laidByText := true, laidKinds := [.data, .data, .data], laidTests := true, laidLooks := .later }
def DecimalReadsCardSaid : Prop := Claim7.holds Tryd.pinned (.plain (OpenSpec.ofChange decimalReadsSpec)) decimalReadsCard

/-- THE TIED CARD OF 'depotlaw02.DecimalSums'. -/
def decimalSumsCard : Claim7 := { stood := { row := decimalSumsRow, standIns := [], harness := (true, "3bfc3c64a3eb09096d7b520b09734c4e4c245476c0a0e1eb965d49a1c6142229"), looks := false }, kinds := [], alts := [], laidByText := true, laidKinds := [.data, .data, .data], laidTests := true, laidLooks := .later }
def DecimalSumsCardSaid : Prop := Claim7.holds Tryd.pinned (.plain (OpenSpec.ofChange decimalSumsSpec)) decimalSumsCard

/-- THE TIED CARD OF 'depotlaw02.DecimalBack'. -/
def decimalBackCard : Claim7 := { stood := { row := decimalBackRow, standIns := [], harness := (true, "3bfc3c64a3eb09096d7b520b09734c4e4c245476c0a0e1eb965d49a1c6142229"), looks := false }, kinds := [], alts := [], laidByText := true, laidKinds := [.data, .data, .data], laidTests := true, laidLooks := .later }
def DecimalBackCardSaid : Prop := Claim7.holds Tryd.pinned (.plain (OpenSpec.ofChange decimalBackSpec)) decimalBackCard

/-- THE TIED CARD OF 'depotlaw02.DecimalHeld'. -/
def decimalHeldCard : Claim7 := { stood := { row := decimalHeldRow, standIns := [], harness := (true, "3bfc3c64a3eb09096d7b520b09734c4e4c245476c0a0e1eb965d49a1c6142229"), looks := false }, kinds := [], alts := [], laidByText := true, laidKinds := [.data, .data, .data], laidTests := true, laidLooks := .later }
def DecimalHeldCardSaid : Prop := Claim7.holds Tryd.pinned (.plain (OpenSpec.ofChange decimalHeldSpec)) decimalHeldCard

/-- THE SECOND FORM's CARD OF 'depotlaw02.DecimalWrites'. -/
def decimalWritesUptoCard : Claim7 := { stood := { row := decimalWritesUptoRow, standIns := [], harness := (true, "3bfc3c64a3eb09096d7b520b09734c4e4c245476c0a0e1eb965d49a1c6142229"), looks := false }, kinds := [], alts := [], laidByText := true, laidKinds := [.data, .data, .data], laidTests := true, laidLooks := .later }
def DecimalWritesUptoCardSaid : Prop := Claim7.holds Tryd.pinned (.plain (OpenSpec.upto decimalWritesSpec)) decimalWritesUptoCard

/-- THE SECOND FORM's CARD OF 'depotlaw02.DecimalReads'. -/
def decimalReadsUptoCard : Claim7 := { stood := { row := decimalReadsUptoRow, standIns := [], harness := (true, "3bfc3c64a3eb09096d7b520b09734c4e4c245476c0a0e1eb965d49a1c6142229"), looks := false }, kinds := [], alts := [], laidByText := true, laidKinds := [.data, .data, .data], laidTests := true, laidLooks := .later }
def DecimalReadsUptoCardSaid : Prop := Claim7.holds Tryd.pinned (.plain (OpenSpec.upto decimalReadsSpec)) decimalReadsUptoCard

/-- THE SECOND FORM's CARD OF 'depotlaw02.DecimalSums'. -/
def decimalSumsUptoCard : Claim7 := { stood := { row := decimalSumsUptoRow, standIns := [], harness := (true, "3bfc3c64a3eb09096d7b520b09734c4e4c245476c0a0e1eb965d49a1c6142229"), looks := false }, kinds := [], alts := [], laidByText := true, laidKinds := [.data, .data, .data], laidTests := true, laidLooks := .later }
def DecimalSumsUptoCardSaid : Prop := Claim7.holds Tryd.pinned (.plain (OpenSpec.upto decimalSumsSpec)) decimalSumsUptoCard

/-- THE SECOND FORM's CARD OF 'depotlaw02.DecimalBack'. -/
def decimalBackUptoCard : Claim7 := { stood := { row := decimalBackUptoRow, standIns := [], harness := (true, "3bfc3c64a3eb09096d7b520b09734c4e4c245476c0a0e1eb965d49a1c6142229"), looks := false }, kinds := [], alts := [], laidByText := true, laidKinds := [.data, .data, .data], laidTests := true, laidLooks := .later }
def DecimalBackUptoCardSaid : Prop := Claim7.holds Tryd.pinned (.plain (OpenSpec.upto decimalBackSpec)) decimalBackUptoCard

/-- THE SECOND FORM's CARD OF 'depotlaw02.DecimalHeld'. -/
def decimalHeldUptoCard : Claim7 := { stood := { row := decimalHeldUptoRow, standIns := [], harness := (true, "3bfc3c64a3eb09096d7b520b09734c4e4c245476c0a0e1eb965d49a1c6142229"), looks := false }, kinds := [], alts := [], laidByText := true, laidKinds := [.data, .data, .data], laidTests := true, laidLooks := .later }
def DecimalHeldUptoCardSaid : Prop := Claim7.holds Tryd.pinned (.plain (OpenSpec.upto decimalHeldSpec)) decimalHeldUptoCard
end Rows
end Go.Proofs.YtheimnfgiigfoaaDoor
