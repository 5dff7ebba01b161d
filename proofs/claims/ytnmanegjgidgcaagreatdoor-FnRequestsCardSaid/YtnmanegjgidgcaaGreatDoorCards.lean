/-
  DERIVED. GIVEN WITH THE SEED: THE CARDS: each row of YtnmanegjgidgcaaGreatDoorRows.lean that lists a variable, with what it lists TIED to the program's text (the seventh form; the later family's looks); each row that meets fmt, with fmt's text TOLD by the authors' own Lean function (tested against real Go, not proved from fmt's source: count such statements apart). THE CARD IS WHAT COUNTS. Prove the row's statement (the work); the ties are given (YtnmanegjgidgcaaGreatDoorTie.lean); close each card by the builder's one call (the guide's Derived/Test/ToyasCard.lean, 'card_holds'). Laid BY PROGRAM, IN A SANDBOX (cutbox-door.mjs). By AI agents, Wed Nov 11 2026. No macro, syntax, notation, axiom, sorry.
-/
import Derived.Test.YtnmanegjgidgcaaGreatDoorRows
import GoSem.ClaimSeven
namespace Go.Proofs.YtnmanegjgidgcaaGreatDoor
namespace Rows

/-- THE TIED CARD OF 'laws.FnPieces'. -/
def fnPiecesCard : Claim7 := { stood := { row := fnPiecesRow, standIns := [], harness := (true, "67a24c458c9bd0cd11347e3584e91ea6a29b4f63c67f0b56a189f717c6ccb372"), looks := true }, kinds := [], alts := [], laidByText := true, laidKinds := [.data, .data, .data, .data, .sentinel, .sentinel, .pinned], laidTests := true, laidLooks := .later }
def FnPiecesCardSaid : Prop := Claim7.holds Tryz.pinned (.plain (OpenSpec.ofChange fnPiecesSpec)) fnPiecesCard

/-- THE TIED CARD OF 'laws.FnRequests'. -/
def fnRequestsCard : Claim7 := { stood := { row := fnRequestsRow, standIns := [], harness := (true, "67a24c458c9bd0cd11347e3584e91ea6a29b4f63c67f0b56a189f717c6ccb372"), looks := true }, kinds := [], alts := [], laidByText := true, laidKinds := [.data, .data, .data, .data, .pinned], laidTests := true, laidLooks := .later }
def FnRequestsCardSaid : Prop := Claim7.holds Tryz.pinned (.plain (OpenSpec.ofChange fnRequestsSpec)) fnRequestsCard

/-- THE TIED CARD OF 'laws.FnExactRespRead'. -/
def fnExactRespReadCard : Claim7 := { stood := { row := fnExactRespReadRow, standIns := [], harness := (true, "67a24c458c9bd0cd11347e3584e91ea6a29b4f63c67f0b56a189f717c6ccb372"), looks := true }, kinds := [], alts := [], laidByText := true, laidKinds := [.data, .data, .data, .data, .sentinel, .sentinel, .pinned], laidTests := true, laidLooks := .later }
def FnExactRespReadCardSaid : Prop := Claim7.holds Tryz.pinned (.plain (OpenSpec.ofChange fnExactRespReadSpec)) fnExactRespReadCard

/-- THE TIED CARD OF 'laws.FnResponses'. -/
def fnResponsesCard : Claim7 := { stood := { row := fnResponsesRow, standIns := [], harness := (true, "67a24c458c9bd0cd11347e3584e91ea6a29b4f63c67f0b56a189f717c6ccb372"), looks := true }, kinds := [], alts := [], laidByText := true, laidKinds := [.data, .data, .data, .data, .sentinel, .sentinel, .pinned], laidTests := true, laidLooks := .later }
def FnResponsesCardSaid : Prop := Claim7.holds Tryz.pinned (.plain (OpenSpec.ofChange fnResponsesSpec)) fnResponsesCard

/-- THE TIED CARD OF 'laws.FnExactFeed'. -/
def fnExactFeedCard : Claim7 := { stood := { row := fnExactFeedRow, standIns := [], harness := (true, "67a24c458c9bd0cd11347e3584e91ea6a29b4f63c67f0b56a189f717c6ccb372"), looks := true }, kinds := [], alts := [], laidByText := true, laidKinds := [.data, .data, .data, .data, .sentinel, .sentinel, .pinned], laidTests := true, laidLooks := .later }
def FnExactFeedCardSaid : Prop := Claim7.holds Tryz.pinned (.plain (OpenSpec.ofChange fnExactFeedSpec)) fnExactFeedCard

/-- THE TIED CARD OF 'laws.FnCut'. -/
def fnCutCard : Claim7 := { stood := { row := fnCutRow, standIns := [], harness := (true, "67a24c458c9bd0cd11347e3584e91ea6a29b4f63c67f0b56a189f717c6ccb372"), looks := true }, kinds := [], alts := [], laidByText := true, laidKinds := [.data, .data, .data, .data, .sentinel, .sentinel, .pinned], laidTests := true, laidLooks := .later }
def FnCutCardSaid : Prop := Claim7.holds Tryz.pinned (.plain (OpenSpec.ofChange fnCutSpec)) fnCutCard

/-- THE TIED CARD OF 'laws.FnExactFeedAll'. -/
def fnExactFeedAllCard : Claim7 := { stood := { row := fnExactFeedAllRow, standIns := [], harness := (true, "67a24c458c9bd0cd11347e3584e91ea6a29b4f63c67f0b56a189f717c6ccb372"), looks := true }, kinds := [], alts := [], laidByText := true, laidKinds := [.data, .data, .data, .data, .sentinel, .sentinel, .pinned], laidTests := true, laidLooks := .later }
def FnExactFeedAllCardSaid : Prop := Claim7.holds Tryz.pinned (.plain (OpenSpec.ofChange fnExactFeedAllSpec)) fnExactFeedAllCard

/-- THE TIED CARD OF 'laws.FnExactObjRead'. -/
def fnExactObjReadCard : Claim7 := { stood := { row := fnExactObjReadRow, standIns := [], harness := (true, "67a24c458c9bd0cd11347e3584e91ea6a29b4f63c67f0b56a189f717c6ccb372"), looks := true }, kinds := [], alts := [], laidByText := true, laidKinds := [.data, .data, .data, .data, .sentinel, .sentinel, .pinned], laidTests := true, laidLooks := .later }
def FnExactObjReadCardSaid : Prop := Claim7.holds Tryz.pinned (.plain (OpenSpec.ofChange fnExactObjReadSpec)) fnExactObjReadCard

/-- THE TIED CARD OF 'laws.FnObjects'. -/
def fnObjectsCard : Claim7 := { stood := { row := fnObjectsRow, standIns := [], harness := (true, "67a24c458c9bd0cd11347e3584e91ea6a29b4f63c67f0b56a189f717c6ccb372"), looks := true }, kinds := [], alts := [], laidByText := true, laidKinds := [.data, .data, .data, .data, .sentinel, .sentinel, .pinned], laidTests := true, laidLooks := .later }
def FnObjectsCardSaid : Prop := Claim7.holds Tryz.pinned (.plain (OpenSpec.ofChange fnObjectsSpec)) fnObjectsCard

/-- THE SECOND FORM's CARD OF 'laws.FnPieces'. -/
def fnPiecesUptoCard : Claim7 := { stood := { row := fnPiecesUptoRow, standIns := [], harness := (true, "67a24c458c9bd0cd11347e3584e91ea6a29b4f63c67f0b56a189f717c6ccb372"), looks := true }, kinds := [], alts := [], laidByText := true, laidKinds := [.data, .data, .data, .data, .sentinel, .sentinel, .pinned], laidTests := true, laidLooks := .later }
def FnPiecesUptoCardSaid : Prop := Claim7.holds Tryz.pinned (.plain (OpenSpec.upto fnPiecesSpec)) fnPiecesUptoCard

/-- THE SECOND FORM's CARD OF 'laws.FnRequests'. -/
def fnRequestsUptoCard : Claim7 := { stood := { row := fnRequestsUptoRow, standIns := [], harness := (true, "67a24c458c9bd0cd11347e3584e91ea6a29b4f63c67f0b56a189f717c6ccb372"), looks := true }, kinds := [], alts := [], laidByText := true, laidKinds := [.data, .data, .data, .data, .pinned], laidTests := true, laidLooks := .later }
def FnRequestsUptoCardSaid : Prop := Claim7.holds Tryz.pinned (.plain (OpenSpec.upto fnRequestsSpec)) fnRequestsUptoCard

/-- THE SECOND FORM's CARD OF 'laws.FnExactRespRead'. -/
def fnExactRespReadUptoCard : Claim7 := { stood := { row := fnExactRespReadUptoRow, standIns := [], harness := (true, "67a24c458c9bd0cd11347e3584e91ea6a29b4f63c67f0b56a189f717c6ccb372"), looks := true }, kinds := [], alts := [], laidByText := true, laidKinds := [.data, .data, .data, .data, .sentinel, .sentinel, .pinned], laidTests := true, laidLooks := .later }
def FnExactRespReadUptoCardSaid : Prop := Claim7.holds Tryz.pinned (.plain (OpenSpec.upto fnExactRespReadSpec)) fnExactRespReadUptoCard

/-- THE SECOND FORM's CARD OF 'laws.FnResponses'. -/
def fnResponsesUptoCard : Claim7 := { stood := { row := fnResponsesUptoRow, standIns := [], harness := (true, "67a24c458c9bd0cd11347e3584e91ea6a29b4f63c67f0b56a189f717c6ccb372"), looks := true }, kinds := [], alts := [], laidByText := true, laidKinds := [.data, .data, .data, .data, .sentinel, .sentinel, .pinned], laidTests := true, laidLooks := .later }
def FnResponsesUptoCardSaid : Prop := Claim7.holds Tryz.pinned (.plain (OpenSpec.upto fnResponsesSpec)) fnResponsesUptoCard

/-- THE SECOND FORM's CARD OF 'laws.FnExactFeed'. -/
def fnExactFeedUptoCard : Claim7 := { stood := { row := fnExactFeedUptoRow, standIns := [], harness := (true, "67a24c458c9bd0cd11347e3584e91ea6a29b4f63c67f0b56a189f717c6ccb372"), looks := true }, kinds := [], alts := [], laidByText := true, laidKinds := [.data, .data, .data, .data, .sentinel, .sentinel, .pinned], laidTests := true, laidLooks := .later }
def FnExactFeedUptoCardSaid : Prop := Claim7.holds Tryz.pinned (.plain (OpenSpec.upto fnExactFeedSpec)) fnExactFeedUptoCard

/-- THE SECOND FORM's CARD OF 'laws.FnCut'. -/
def fnCutUptoCard : Claim7 := { stood := { row := fnCutUptoRow, standIns := [], harness := (true, "67a24c458c9bd0cd11347e3584e91ea6a29b4f63c67f0b56a189f717c6ccb372"), looks := true }, kinds := [], alts := [], laidByText := true, laidKinds := [.data, .data, .data, .data, .sentinel, .sentinel, .pinned], laidTests := true, laidLooks := .later }
def FnCutUptoCardSaid : Prop := Claim7.holds Tryz.pinned (.plain (OpenSpec.upto fnCutSpec)) fnCutUptoCard

/-- THE SECOND FORM's CARD OF 'laws.FnExactFeedAll'. -/
def fnExactFeedAllUptoCard : Claim7 := { stood := { row := fnExactFeedAllUptoRow, standIns := [], harness := (true, "67a24c458c9bd0cd11347e3584e91ea6a29b4f63c67f0b56a189f717c6ccb372"), looks := true }, kinds := [], alts := [], laidByText := true, laidKinds := [.data, .data, .data, .data, .sentinel, .sentinel, .pinned], laidTests := true, laidLooks := .later }
def FnExactFeedAllUptoCardSaid : Prop := Claim7.holds Tryz.pinned (.plain (OpenSpec.upto fnExactFeedAllSpec)) fnExactFeedAllUptoCard

/-- THE SECOND FORM's CARD OF 'laws.FnExactObjRead'. -/
def fnExactObjReadUptoCard : Claim7 := { stood := { row := fnExactObjReadUptoRow, standIns := [], harness := (true, "67a24c458c9bd0cd11347e3584e91ea6a29b4f63c67f0b56a189f717c6ccb372"), looks := true }, kinds := [], alts := [], laidByText := true, laidKinds := [.data, .data, .data, .data, .sentinel, .sentinel, .pinned], laidTests := true, laidLooks := .later }
def FnExactObjReadUptoCardSaid : Prop := Claim7.holds Tryz.pinned (.plain (OpenSpec.upto fnExactObjReadSpec)) fnExactObjReadUptoCard

/-- THE SECOND FORM's CARD OF 'laws.FnObjects'. -/
def fnObjectsUptoCard : Claim7 := { stood := { row := fnObjectsUptoRow, standIns := [], harness := (true, "67a24c458c9bd0cd11347e3584e91ea6a29b4f63c67f0b56a189f717c6ccb372"), looks := true }, kinds := [], alts := [], laidByText := true, laidKinds := [.data, .data, .data, .data, .sentinel, .sentinel, .pinned], laidTests := true, laidLooks := .later }
def FnObjectsUptoCardSaid : Prop := Claim7.holds Tryz.pinned (.plain (OpenSpec.upto fnObjectsSpec)) fnObjectsUptoCard
end Rows
end Go.Proofs.YtnmanegjgidgcaaGreatDoor
