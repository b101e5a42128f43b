/-
  DERIVED. GIVEN WITH THE SEED: THE CARDS: each row of YtfjbjcheehojoaaDoorRows.lean that lists a variable, with what it lists TIED to the program's text (the seventh form; the later family's looks); each row that meets fmt, with fmt's text TOLD by the authors' own Lean function (tested against real Go, not proved from fmt's source: count such statements apart). THE CARD IS WHAT COUNTS. Prove the row's statement (the work); the ties are given (YtfjbjcheehojoaaDoorTie.lean); close each card by the builder's one call (the guide's Derived/Test/ToyasCard.lean, 'card_holds'). Laid BY PROGRAM, IN A SANDBOX (cutbox-door.mjs). By AI agents, Wed Nov 11 2026. No macro, syntax, notation, axiom, sorry.
-/
import Derived.Test.YtfjbjcheehojoaaDoorRows
import GoSem.ClaimSeven
namespace Go.Proofs.YtfjbjcheehojoaaDoor
namespace Rows

/-- THE TIED CARD OF 'depotlaw14.EtagReads'. -/
def etagReadsCard : Claim7 := { stood := { row := etagReadsRow, standIns := [], harness := (true, "9689096d7f84bb1d27962d46a9220279e63db2bcb3b03ed6ac20df9971d9b077"), looks := false }, kinds := [], alts := [], laidByText := true, laidKinds := [.data, .pinned], laidTests := true, laidLooks := .later }
def EtagReadsCardSaid : Prop := Claim7.holds Tryd.pinned (.plain (OpenSpec.ofChange etagReadsSpec)) etagReadsCard

/-- THE TIED CARD OF 'depotlaw14.EtagLikes'. -/
def etagLikesCard : Claim7 := { stood := { row := etagLikesRow, standIns := [], harness := (true, "9689096d7f84bb1d27962d46a9220279e63db2bcb3b03ed6ac20df9971d9b077"), looks := false }, kinds := [], alts := [], laidByText := true, laidKinds := [.data, .pinned], laidTests := true, laidLooks := .later }
def EtagLikesCardSaid : Prop := Claim7.holds Tryd.pinned (.plain (OpenSpec.ofChange etagLikesSpec)) etagLikesCard

/-- THE TIED CARD OF 'depotlaw14.EtagBack'. -/
def etagBackCard : Claim7 := { stood := { row := etagBackRow, standIns := [], harness := (true, "9689096d7f84bb1d27962d46a9220279e63db2bcb3b03ed6ac20df9971d9b077"), looks := false }, kinds := [], alts := [], laidByText := true, laidKinds := [.data, .pinned], laidTests := true, laidLooks := .later }
def EtagBackCardSaid : Prop := Claim7.holds Tryd.pinned (.plain (OpenSpec.ofChange etagBackSpec)) etagBackCard

/-- THE TIED CARD OF 'depotlaw14.EtagLists'. -/
def etagListsCard : Claim7 := { stood := { row := etagListsRow, standIns := [], harness := (true, "9689096d7f84bb1d27962d46a9220279e63db2bcb3b03ed6ac20df9971d9b077"), looks := false }, kinds := [], alts := [], laidByText := true, laidKinds := [.data, .pinned], laidTests := true, laidLooks := .later }
def EtagListsCardSaid : Prop := Claim7.holds Tryd.pinned (.plain (OpenSpec.ofChange etagListsSpec)) etagListsCard

/-- THE SECOND FORM's CARD OF 'depotlaw14.EtagReads'. -/
def etagReadsUptoCard : Claim7 := { stood := { row := etagReadsUptoRow, standIns := [], harness := (true, "9689096d7f84bb1d27962d46a9220279e63db2bcb3b03ed6ac20df9971d9b077"), looks := false }, kinds := [], alts := [], laidByText := true, laidKinds := [.data, .pinned], laidTests := true, laidLooks := .later }
def EtagReadsUptoCardSaid : Prop := Claim7.holds Tryd.pinned (.plain (OpenSpec.upto etagReadsSpec)) etagReadsUptoCard

/-- THE SECOND FORM's CARD OF 'depotlaw14.EtagLikes'. -/
def etagLikesUptoCard : Claim7 := { stood := { row := etagLikesUptoRow, standIns := [], harness := (true, "9689096d7f84bb1d27962d46a9220279e63db2bcb3b03ed6ac20df9971d9b077"), looks := false }, kinds := [], alts := [], laidByText := true, laidKinds := [.data, .pinned], laidTests := true, laidLooks := .later }
def EtagLikesUptoCardSaid : Prop := Claim7.holds Tryd.pinned (.plain (OpenSpec.upto etagLikesSpec)) etagLikesUptoCard

/-- THE SECOND FORM's CARD OF 'depotlaw14.EtagBack'. -/
def etagBackUptoCard : Claim7 := { stood := { row := etagBackUptoRow, standIns := [], harness := (true, "9689096d7f84bb1d27962d46a9220279e63db2bcb3b03ed6ac20df9971d9b077"), looks := false }, kinds := [], alts := [], laidByText := true, laidKinds := [.data, .pinned], laidTests := true, laidLooks := .later }
def EtagBackUptoCardSaid : Prop := Claim7.holds Tryd.pinned (.plain (OpenSpec.upto etagBackSpec)) etagBackUptoCard

/-- THE SECOND FORM's CARD OF 'depotlaw14.EtagLists'. -/
def etagListsUptoCard : Claim7 := { stood := { row := etagListsUptoRow, standIns := [], harness := (true, "9689096d7f84bb1d27962d46a9220279e63db2bcb3b03ed6ac20df9971d9b077"), looks := false }, kinds := [], alts := [], laidByText := true, laidKinds := [.data, .pinned], laidTests := true, laidLooks := .later }
def EtagListsUptoCardSaid : Prop := Claim7.holds Tryd.pinned (.plain (OpenSpec.upto etagListsSpec)) etagListsUptoCard
end Rows
end Go.Proofs.YtfjbjcheehojoaaDoor
