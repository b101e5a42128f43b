/-
  DERIVED. GIVEN WITH THE SEED: THE CARDS: each row of YtjaklgikfcahdaaGreatDoorRows.lean that lists a variable, with what it lists TIED to the program's text (the seventh form; the later family's looks); each row that meets fmt, with fmt's text TOLD by the authors' own Lean function (tested against real Go, not proved from fmt's source: count such statements apart). THE CARD IS WHAT COUNTS. Prove the row's statement (the work); the ties are given (YtjaklgikfcahdaaGreatDoorTie.lean); close each card by the builder's one call (the guide's Derived/Test/ToyasCard.lean, 'card_holds'). Laid BY PROGRAM, IN A SANDBOX (cutbox-door.mjs). By AI agents, Wed Nov 11 2026. No macro, syntax, notation, axiom, sorry.
-/
import Derived.Test.YtjaklgikfcahdaaGreatDoorRows
import GoSem.ClaimSeven
namespace Go.Proofs.YtjaklgikfcahdaaGreatDoor
namespace Rows

/-- THE TIED CARD OF 'depotlaw12.MessageRequests'. -/
def messageRequestsCard : Claim7 := { stood := { row := messageRequestsRow, standIns := [], harness := (true, "02001da703a64fbb0a7653248a1de325927c1212c74e0fe21f5ee8861587b312"), looks := false }, kinds := [], alts := [], laidByText := true, laidKinds := [.data, .data, .data, .data, .pinned], laidTests := true, laidLooks := .later }
def MessageRequestsCardSaid : Prop := Claim7.holds Tryz.pinned (.plain (OpenSpec.ofChange messageRequestsSpec)) messageRequestsCard

/-- THE TIED CARD OF 'depotlaw12.MessageReplies'. -/
def messageRepliesCard : Claim7 := { stood := { row := messageRepliesRow, standIns := [], harness := (true, "02001da703a64fbb0a7653248a1de325927c1212c74e0fe21f5ee8861587b312"), looks := false }, kinds := [], alts := [], laidByText := true, laidKinds := [.data, .data, .data, .data, .pinned], laidTests := true, laidLooks := .later }
def MessageRepliesCardSaid : Prop := Claim7.holds Tryz.pinned (.plain (OpenSpec.ofChange messageRepliesSpec)) messageRepliesCard

/-- THE TIED CARD OF 'depotlaw12.MessagePrints'. -/
def messagePrintsCard : Claim7 := { stood := { row := messagePrintsRow, standIns := [], harness := (true, "02001da703a64fbb0a7653248a1de325927c1212c74e0fe21f5ee8861587b312"), looks := false }, kinds := [], alts := [], laidByText := true, laidKinds := [.data, .data, .data, .data, .pinned], laidTests := true, laidLooks := .later }
def MessagePrintsCardSaid : Prop := Claim7.holds Tryz.pinned (.plain (OpenSpec.ofChange messagePrintsSpec)) messagePrintsCard

/-- THE TIED CARD OF 'depotlaw12.MessageBack'. -/
def messageBackCard : Claim7 := { stood := { row := messageBackRow, standIns := [], harness := (true, "02001da703a64fbb0a7653248a1de325927c1212c74e0fe21f5ee8861587b312"), looks := false }, kinds := [], alts := [], laidByText := true, laidKinds := [.data, .data, .data, .data, .pinned], laidTests := true, laidLooks := .later }
def MessageBackCardSaid : Prop := Claim7.holds Tryz.pinned (.plain (OpenSpec.ofChange messageBackSpec)) messageBackCard

/-- THE TIED CARD OF 'depotlaw12.MessageAgain'. -/
def messageAgainCard : Claim7 := { stood := { row := messageAgainRow, standIns := [], harness := (true, "02001da703a64fbb0a7653248a1de325927c1212c74e0fe21f5ee8861587b312"), looks := false }, kinds := [], alts := [], laidByText := true, laidKinds := [.data, .data, .data, .data, .pinned], laidTests := true, laidLooks := .later }
def MessageAgainCardSaid : Prop := Claim7.holds Tryz.pinned (.plain (OpenSpec.ofChange messageAgainSpec)) messageAgainCard

/-- THE SECOND FORM's CARD OF 'depotlaw12.MessageRequests'. -/
def messageRequestsUptoCard : Claim7 := { stood := { row := messageRequestsUptoRow, standIns := [], harness := (true, "02001da703a64fbb0a7653248a1de325927c1212c74e0fe21f5ee8861587b312"), looks := false }, kinds := [], alts := [], laidByText := true, laidKinds := [.data, .data, .data, .data, .pinned], laidTests := true, laidLooks := .later }
def MessageRequestsUptoCardSaid : Prop := Claim7.holds Tryz.pinned (.plain (OpenSpec.upto messageRequestsSpec)) messageRequestsUptoCard

/-- THE SECOND FORM's CARD OF 'depotlaw12.MessageReplies'. -/
def messageRepliesUptoCard : Claim7 := { stood := { row := messageRepliesUptoRow, standIns := [], harness := (true, "02001da703a64fbb0a7653248a1de325927c1212c74e0fe21f5ee8861587b312"), looks := false }, kinds := [], alts := [], laidByText := true, laidKinds := [.data, .data, .data, .data, .pinned], laidTests := true, laidLooks := .later }
def MessageRepliesUptoCardSaid : Prop := Claim7.holds Tryz.pinned (.plain (OpenSpec.upto messageRepliesSpec)) messageRepliesUptoCard

/-- THE SECOND FORM's CARD OF 'depotlaw12.MessagePrints'. -/
def messagePrintsUptoCard : Claim7 := { stood := { row := messagePrintsUptoRow, standIns := [], harness := (true, "02001da703a64fbb0a7653248a1de325927c1212c74e0fe21f5ee8861587b312"), looks := false }, kinds := [], alts := [], laidByText := true, laidKinds := [.data, .data, .data, .data, .pinned], laidTests := true, laidLooks := .later }
def MessagePrintsUptoCardSaid : Prop := Claim7.holds Tryz.pinned (.plain (OpenSpec.upto messagePrintsSpec)) messagePrintsUptoCard

/-- THE SECOND FORM's CARD OF 'depotlaw12.MessageBack'. -/
def messageBackUptoCard : Claim7 := { stood := { row := messageBackUptoRow, standIns := [], harness := (true, "02001da703a64fbb0a7653248a1de325927c1212c74e0fe21f5ee8861587b312"), looks := false }, kinds := [], alts := [], laidByText := true, laidKinds := [.data, .data, .data, .data, .pinned], laidTests := true, laidLooks := .later }
def MessageBackUptoCardSaid : Prop := Claim7.holds Tryz.pinned (.plain (OpenSpec.upto messageBackSpec)) messageBackUptoCard

/-- THE SECOND FORM's CARD OF 'depotlaw12.MessageAgain'. -/
def messageAgainUptoCard : Claim7 := { stood := { row := messageAgainUptoRow, standIns := [], harness := (true, "02001da703a64fbb0a7653248a1de325927c1212c74e0fe21f5ee8861587b312"), looks := false }, kinds := [], alts := [], laidByText := true, laidKinds := [.data, .data, .data, .data, .pinned], laidTests := true, laidLooks := .later }
def MessageAgainUptoCardSaid : Prop := Claim7.holds Tryz.pinned (.plain (OpenSpec.upto messageAgainSpec)) messageAgainUptoCard
end Rows
end Go.Proofs.YtjaklgikfcahdaaGreatDoor
