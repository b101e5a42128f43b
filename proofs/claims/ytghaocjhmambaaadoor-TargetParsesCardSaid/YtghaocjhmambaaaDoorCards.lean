/-
  DERIVED. GIVEN WITH THE SEED: THE CARDS: each row of YtghaocjhmambaaaDoorRows.lean that lists a variable, with what it lists TIED to the program's text (the seventh form; the later family's looks); each row that meets fmt, with fmt's text TOLD by the authors' own Lean function (tested against real Go, not proved from fmt's source: count such statements apart). THE CARD IS WHAT COUNTS. Prove the row's statement (the work); the ties are given (YtghaocjhmambaaaDoorTie.lean); close each card by the builder's one call (the guide's Derived/Test/ToyasCard.lean, 'card_holds'). Laid BY PROGRAM, IN A SANDBOX (cutbox-door.mjs). By AI agents, Wed Nov 11 2026. No macro, syntax, notation, axiom, sorry.
-/
import Derived.Test.YtghaocjhmambaaaDoorRows
import GoSem.ClaimSeven
namespace Go.Proofs.YtghaocjhmambaaaDoor
namespace Rows

/-- THE TIED CARD OF 'depotlaw08.TargetPaths'. -/
def targetPathsCard : Claim7 := { stood := { row := targetPathsRow, standIns := [], harness := (true, "e4b2cd2ecffaf7281b416ed83d3d9461f070f8fe4a1d4dcf11ba066537f6f931"), looks := false }, kinds := [], alts := [], laidByText := true, laidKinds := [.data, .data, .data, .data, .pinned], laidTests := true, laidLooks := .later }
def TargetPathsCardSaid : Prop := Claim7.holds Tryd.pinned (.plain (OpenSpec.ofChange targetPathsSpec)) targetPathsCard

/-- THE TIED CARD OF 'depotlaw08.TargetParses'. -/
def targetParsesCard : Claim7 := { stood := { row := targetParsesRow, standIns := [], harness := (true, "e4b2cd2ecffaf7281b416ed83d3d9461f070f8fe4a1d4dcf11ba066537f6f931"), looks := false }, kinds := [], alts := [], laidByText := true, laidKinds := [.data, .data, .data, .data, .pinned], laidTests := true, laidLooks := .later }
def TargetParsesCardSaid : Prop := Claim7.holds Tryd.pinned (.plain (OpenSpec.ofChange targetParsesSpec)) targetParsesCard

/-- THE TIED CARD OF 'depotlaw08.TargetAny'. -/
def targetAnyCard : Claim7 := { stood := { row := targetAnyRow, standIns := [], harness := (true, "e4b2cd2ecffaf7281b416ed83d3d9461f070f8fe4a1d4dcf11ba066537f6f931"), looks := false }, kinds := [], alts := [], laidByText := true, laidKinds := [.data, .data, .data, .data, .pinned], laidTests := true, laidLooks := .later }
def TargetAnyCardSaid : Prop := Claim7.holds Tryd.pinned (.plain (OpenSpec.ofChange targetAnySpec)) targetAnyCard

/-- THE TIED CARD OF 'depotlaw08.TargetPlain'. -/
def targetPlainCard : Claim7 := { stood := { row := targetPlainRow, standIns := [], harness := (true, "e4b2cd2ecffaf7281b416ed83d3d9461f070f8fe4a1d4dcf11ba066537f6f931"), looks := false }, kinds := [], alts := [], laidByText := true, laidKinds := [.data, .data, .data, .data, .pinned], laidTests := true, laidLooks := .later }
def TargetPlainCardSaid : Prop := Claim7.holds Tryd.pinned (.plain (OpenSpec.ofChange targetPlainSpec)) targetPlainCard

/-- THE TIED CARD OF 'depotlaw08.TargetAgain'. -/
def targetAgainCard : Claim7 := { stood := { row := targetAgainRow, standIns := [], harness := (true, "e4b2cd2ecffaf7281b416ed83d3d9461f070f8fe4a1d4dcf11ba066537f6f931"), looks := false }, kinds := [], alts := [], laidByText := true, laidKinds := [.data, .data, .data, .data, .pinned], laidTests := true, laidLooks := .later }
def TargetAgainCardSaid : Prop := Claim7.holds Tryd.pinned (.plain (OpenSpec.ofChange targetAgainSpec)) targetAgainCard

/-- THE SECOND FORM's CARD OF 'depotlaw08.TargetPaths'. -/
def targetPathsUptoCard : Claim7 := { stood := { row := targetPathsUptoRow, standIns := [], harness := (true, "e4b2cd2ecffaf7281b416ed83d3d9461f070f8fe4a1d4dcf11ba066537f6f931"), looks := false }, kinds := [], alts := [], laidByText := true, laidKinds := [.data, .data, .data, .data, .pinned], laidTests := true, laidLooks := .later }
def TargetPathsUptoCardSaid : Prop := Claim7.holds Tryd.pinned (.plain (OpenSpec.upto targetPathsSpec)) targetPathsUptoCard

/-- THE SECOND FORM's CARD OF 'depotlaw08.TargetParses'. -/
def targetParsesUptoCard : Claim7 := { stood := { row := targetParsesUptoRow, standIns := [], harness := (true, "e4b2cd2ecffaf7281b416ed83d3d9461f070f8fe4a1d4dcf11ba066537f6f931"), looks := false }, kinds := [], alts := [], laidByText := true, laidKinds := [.data, .data, .data, .data, .pinned], laidTests := true, laidLooks := .later }
def TargetParsesUptoCardSaid : Prop := Claim7.holds Tryd.pinned (.plain (OpenSpec.upto targetParsesSpec)) targetParsesUptoCard

/-- THE SECOND FORM's CARD OF 'depotlaw08.TargetAny'. -/
def targetAnyUptoCard : Claim7 := { stood := { row := targetAnyUptoRow, standIns := [], harness := (true, "e4b2cd2ecffaf7281b416ed83d3d9461f070f8fe4a1d4dcf11ba066537f6f931"), looks := false }, kinds := [], alts := [], laidByText := true, laidKinds := [.data, .data, .data, .data, .pinned], laidTests := true, laidLooks := .later }
def TargetAnyUptoCardSaid : Prop := Claim7.holds Tryd.pinned (.plain (OpenSpec.upto targetAnySpec)) targetAnyUptoCard

/-- THE SECOND FORM's CARD OF 'depotlaw08.TargetPlain'. -/
def targetPlainUptoCard : Claim7 := { stood := { row := targetPlainUptoRow, standIns := [], harness := (true, "e4b2cd2ecffaf7281b416ed83d3d9461f070f8fe4a1d4dcf11ba066537f6f931"), looks := false }, kinds := [], alts := [], laidByText := true, laidKinds := [.data, .data, .data, .data, .pinned], laidTests := true, laidLooks := .later }
def TargetPlainUptoCardSaid : Prop := Claim7.holds Tryd.pinned (.plain (OpenSpec.upto targetPlainSpec)) targetPlainUptoCard

/-- THE SECOND FORM's CARD OF 'depotlaw08.TargetAgain'. -/
def targetAgainUptoCard : Claim7 := { stood := { row := targetAgainUptoRow, standIns := [], harness := (true, "e4b2cd2ecffaf7281b416ed83d3d9461f070f8fe4a1d4dcf11ba066537f6f931"), looks := false }, kinds := [], alts := [], laidByText := true, laidKinds := [.data, .data, .data, .data, .pinned], laidTests := true, laidLooks := .later }
def TargetAgainUptoCardSaid : Prop := Claim7.holds Tryd.pinned (.plain (OpenSpec.upto targetAgainSpec)) targetAgainUptoCard
end Rows
end Go.Proofs.YtghaocjhmambaaaDoor
