/-
  DERIVED. GIVEN WITH THE SEED: THE CARDS: each row of YtiinmfjbildclaaDoorRows.lean that lists a variable, with what it lists TIED to the program's text (the seventh form; the later family's looks); each row that meets fmt, with fmt's text TOLD by the authors' own Lean function (tested against real Go, not proved from fmt's source: count such statements apart). THE CARD IS WHAT COUNTS. Prove the row's statement (the work); the ties are given (YtiinmfjbildclaaDoorTie.lean); close each card by the builder's one call (the guide's Derived/Test/ToyasCard.lean, 'card_holds'). Laid BY PROGRAM, IN A SANDBOX (cutbox-door.mjs). By AI agents, Wed Nov 11 2026. No macro, syntax, notation, axiom, sorry.
-/
import Derived.Test.YtiinmfjbildclaaDoorRows
import GoSem.ClaimSeven
namespace Go.Proofs.YtiinmfjbildclaaDoor
namespace Rows

/-- THE TIED CARD OF 'laws.FnExactVaryOf'. -/
def fnExactVaryOfCard : Claim7 := { stood := { row := fnExactVaryOfRow, standIns := [], harness := (true, "f2003e51a47d3d3e8e4dd0e3b7b18a867ab03f683df6888b075a0c9ad19275c8"), looks := true }, kinds := [], alts := [], laidByText := true, laidKinds := [.data, .pinned], laidTests := true, laidLooks := .later }
def FnExactVaryOfCardSaid : Prop := Claim7.holds Tryd.pinned (.plain (OpenSpec.ofChange fnExactVaryOfSpec)) fnExactVaryOfCard

/-- THE TIED CARD OF 'laws.FnExactAgeAt'. -/
def fnExactAgeAtCard : Claim7 := { stood := { row := fnExactAgeAtRow, standIns := [], harness := (true, "f2003e51a47d3d3e8e4dd0e3b7b18a867ab03f683df6888b075a0c9ad19275c8"), looks := true }, kinds := [], alts := [], laidByText := true, laidKinds := [.data, .data, .data, .sentinel, .sentinel], laidTests := true, laidLooks := .later }
def FnExactAgeAtCardSaid : Prop := Claim7.holds Tryd.pinned (.plain (OpenSpec.ofChange fnExactAgeAtSpec)) fnExactAgeAtCard

/-- THE TIED CARD OF 'laws.FnAskedAgain'. -/
def fnAskedAgainCard : Claim7 := { stood := { row := fnAskedAgainRow, standIns := [], harness := (true, "f2003e51a47d3d3e8e4dd0e3b7b18a867ab03f683df6888b075a0c9ad19275c8"), looks := true }, kinds := [], alts := [], laidByText := true, laidKinds := [.data, .pinned], laidTests := true, laidLooks := .later }
def FnAskedAgainCardSaid : Prop := Claim7.holds Tryd.pinned (.plain (OpenSpec.ofChange fnAskedAgainSpec)) fnAskedAgainCard

/-- THE TIED CARD OF 'laws.FnExactRespText'. -/
def fnExactRespTextCard : Claim7 := { stood := { row := fnExactRespTextRow, standIns := [], harness := (true, "f2003e51a47d3d3e8e4dd0e3b7b18a867ab03f683df6888b075a0c9ad19275c8"), looks := true }, kinds := [], alts := [], laidByText := true, laidKinds := [.data, .data, .data, .data, .pinned], laidTests := true, laidLooks := .later }
def FnExactRespTextCardSaid : Prop := Claim7.holds Tryd.pinned (.plain (OpenSpec.ofChange fnExactRespTextSpec)) fnExactRespTextCard

/-- THE TIED CARD OF 'laws.FnVary'. -/
def fnVaryCard : Claim7 := { stood := { row := fnVaryRow, standIns := [], harness := (true, "f2003e51a47d3d3e8e4dd0e3b7b18a867ab03f683df6888b075a0c9ad19275c8"), looks := true }, kinds := [], alts := [], laidByText := true, laidKinds := [.data, .pinned], laidTests := true, laidLooks := .later }
def FnVaryCardSaid : Prop := Claim7.holds Tryd.pinned (.plain (OpenSpec.ofChange fnVarySpec)) fnVaryCard

/-- THE TIED CARD OF 'laws.FnExactReqText'. -/
def fnExactReqTextCard : Claim7 := { stood := { row := fnExactReqTextRow, standIns := [], harness := (true, "f2003e51a47d3d3e8e4dd0e3b7b18a867ab03f683df6888b075a0c9ad19275c8"), looks := true }, kinds := [], alts := [], laidByText := true, laidKinds := [.data, .data, .data, .data, .pinned], laidTests := true, laidLooks := .later }
def FnExactReqTextCardSaid : Prop := Claim7.holds Tryd.pinned (.plain (OpenSpec.ofChange fnExactReqTextSpec)) fnExactReqTextCard

/-- THE TIED CARD OF 'laws.FnExactObjOk'. -/
def fnExactObjOkCard : Claim7 := { stood := { row := fnExactObjOkRow, standIns := [], harness := (true, "f2003e51a47d3d3e8e4dd0e3b7b18a867ab03f683df6888b075a0c9ad19275c8"), looks := true }, kinds := [], alts := [], laidByText := true, laidKinds := [.data, .pinned], laidTests := true, laidLooks := .later }
def FnExactObjOkCardSaid : Prop := Claim7.holds Tryd.pinned (.plain (OpenSpec.ofChange fnExactObjOkSpec)) fnExactObjOkCard

/-- THE TIED CARD OF 'laws.FnExactHits'. -/
def fnExactHitsCard : Claim7 := { stood := { row := fnExactHitsRow, standIns := [], harness := (true, "f2003e51a47d3d3e8e4dd0e3b7b18a867ab03f683df6888b075a0c9ad19275c8"), looks := true }, kinds := [], alts := [], laidByText := true, laidKinds := [.data, .pinned], laidTests := true, laidLooks := .later }
def FnExactHitsCardSaid : Prop := Claim7.holds Tryd.pinned (.plain (OpenSpec.ofChange fnExactHitsSpec)) fnExactHitsCard

/-- THE TIED CARD OF 'laws.FnExactHitsAny'. -/
def fnExactHitsAnyCard : Claim7 := { stood := { row := fnExactHitsAnyRow, standIns := [], harness := (true, "f2003e51a47d3d3e8e4dd0e3b7b18a867ab03f683df6888b075a0c9ad19275c8"), looks := true }, kinds := [], alts := [], laidByText := true, laidKinds := [.data, .pinned], laidTests := true, laidLooks := .later }
def FnExactHitsAnyCardSaid : Prop := Claim7.holds Tryd.pinned (.plain (OpenSpec.ofChange fnExactHitsAnySpec)) fnExactHitsAnyCard

/-- THE TIED CARD OF 'laws.FnExactReqRead'. -/
def fnExactReqReadCard : Claim7 := { stood := { row := fnExactReqReadRow, standIns := [], harness := (true, "f2003e51a47d3d3e8e4dd0e3b7b18a867ab03f683df6888b075a0c9ad19275c8"), looks := true }, kinds := [], alts := [], laidByText := true, laidKinds := [.data, .data, .data, .data, .pinned], laidTests := true, laidLooks := .later }
def FnExactReqReadCardSaid : Prop := Claim7.holds Tryd.pinned (.plain (OpenSpec.ofChange fnExactReqReadSpec)) fnExactReqReadCard

/-- THE TIED CARD OF 'laws.FnWords'. -/
def fnWordsCard : Claim7 := { stood := { row := fnWordsRow, standIns := [], harness := (true, "f2003e51a47d3d3e8e4dd0e3b7b18a867ab03f683df6888b075a0c9ad19275c8"), looks := true }, kinds := [], alts := [], laidByText := true, laidKinds := [.data, .data, .data, .data, .sentinel, .sentinel, .pinned], laidTests := true, laidLooks := .later }
def FnWordsCardSaid : Prop := Claim7.holds Tryd.pinned (.plain (OpenSpec.ofChange fnWordsSpec)) fnWordsCard

/-- THE TIED CARD OF 'laws.FnExactCcRead'. -/
def fnExactCcReadCard : Claim7 := { stood := { row := fnExactCcReadRow, standIns := [], harness := (true, "f2003e51a47d3d3e8e4dd0e3b7b18a867ab03f683df6888b075a0c9ad19275c8"), looks := true }, kinds := [], alts := [], laidByText := true, laidKinds := [.data, .data, .data, .data, .sentinel, .sentinel, .pinned], laidTests := true, laidLooks := .later }
def FnExactCcReadCardSaid : Prop := Claim7.holds Tryd.pinned (.plain (OpenSpec.ofChange fnExactCcReadSpec)) fnExactCcReadCard

/-- THE TIED CARD OF 'laws.FnExactLife'. -/
def fnExactLifeCard : Claim7 := { stood := { row := fnExactLifeRow, standIns := [], harness := (true, "f2003e51a47d3d3e8e4dd0e3b7b18a867ab03f683df6888b075a0c9ad19275c8"), looks := true }, kinds := [], alts := [], laidByText := true, laidKinds := [.data, .data, .data, .data, .sentinel, .sentinel, .pinned], laidTests := true, laidLooks := .later }
def FnExactLifeCardSaid : Prop := Claim7.holds Tryd.pinned (.plain (OpenSpec.ofChange fnExactLifeSpec)) fnExactLifeCard

/-- THE TIED CARD OF 'laws.FnExactCcOf'. -/
def fnExactCcOfCard : Claim7 := { stood := { row := fnExactCcOfRow, standIns := [], harness := (true, "f2003e51a47d3d3e8e4dd0e3b7b18a867ab03f683df6888b075a0c9ad19275c8"), looks := true }, kinds := [], alts := [], laidByText := true, laidKinds := [.data, .data, .data, .data, .sentinel, .sentinel, .pinned], laidTests := true, laidLooks := .later }
def FnExactCcOfCardSaid : Prop := Claim7.holds Tryd.pinned (.plain (OpenSpec.ofChange fnExactCcOfSpec)) fnExactCcOfCard

/-- THE SECOND FORM's CARD OF 'laws.FnExactVaryOf'. -/
def fnExactVaryOfUptoCard : Claim7 := { stood := { row := fnExactVaryOfUptoRow, standIns := [], harness := (true, "f2003e51a47d3d3e8e4dd0e3b7b18a867ab03f683df6888b075a0c9ad19275c8"), looks := true }, kinds := [], alts := [], laidByText := true, laidKinds := [.data, .pinned], laidTests := true, laidLooks := .later }
def FnExactVaryOfUptoCardSaid : Prop := Claim7.holds Tryd.pinned (.plain (OpenSpec.upto fnExactVaryOfSpec)) fnExactVaryOfUptoCard

/-- THE SECOND FORM's CARD OF 'laws.FnExactAgeAt'. -/
def fnExactAgeAtUptoCard : Claim7 := { stood := { row := fnExactAgeAtUptoRow, standIns := [], harness := (true, "f2003e51a47d3d3e8e4dd0e3b7b18a867ab03f683df6888b075a0c9ad19275c8"), looks := true }, kinds := [], alts := [], laidByText := true, laidKinds := [.data, .data, .data, .sentinel, .sentinel], laidTests := true, laidLooks := .later }
def FnExactAgeAtUptoCardSaid : Prop := Claim7.holds Tryd.pinned (.plain (OpenSpec.upto fnExactAgeAtSpec)) fnExactAgeAtUptoCard

/-- THE SECOND FORM's CARD OF 'laws.FnAskedAgain'. -/
def fnAskedAgainUptoCard : Claim7 := { stood := { row := fnAskedAgainUptoRow, standIns := [], harness := (true, "f2003e51a47d3d3e8e4dd0e3b7b18a867ab03f683df6888b075a0c9ad19275c8"), looks := true }, kinds := [], alts := [], laidByText := true, laidKinds := [.data, .pinned], laidTests := true, laidLooks := .later }
def FnAskedAgainUptoCardSaid : Prop := Claim7.holds Tryd.pinned (.plain (OpenSpec.upto fnAskedAgainSpec)) fnAskedAgainUptoCard

/-- THE SECOND FORM's CARD OF 'laws.FnExactRespText'. -/
def fnExactRespTextUptoCard : Claim7 := { stood := { row := fnExactRespTextUptoRow, standIns := [], harness := (true, "f2003e51a47d3d3e8e4dd0e3b7b18a867ab03f683df6888b075a0c9ad19275c8"), looks := true }, kinds := [], alts := [], laidByText := true, laidKinds := [.data, .data, .data, .data, .pinned], laidTests := true, laidLooks := .later }
def FnExactRespTextUptoCardSaid : Prop := Claim7.holds Tryd.pinned (.plain (OpenSpec.upto fnExactRespTextSpec)) fnExactRespTextUptoCard

/-- THE SECOND FORM's CARD OF 'laws.FnVary'. -/
def fnVaryUptoCard : Claim7 := { stood := { row := fnVaryUptoRow, standIns := [], harness := (true, "f2003e51a47d3d3e8e4dd0e3b7b18a867ab03f683df6888b075a0c9ad19275c8"), looks := true }, kinds := [], alts := [], laidByText := true, laidKinds := [.data, .pinned], laidTests := true, laidLooks := .later }
def FnVaryUptoCardSaid : Prop := Claim7.holds Tryd.pinned (.plain (OpenSpec.upto fnVarySpec)) fnVaryUptoCard

/-- THE SECOND FORM's CARD OF 'laws.FnExactReqText'. -/
def fnExactReqTextUptoCard : Claim7 := { stood := { row := fnExactReqTextUptoRow, standIns := [], harness := (true, "f2003e51a47d3d3e8e4dd0e3b7b18a867ab03f683df6888b075a0c9ad19275c8"), looks := true }, kinds := [], alts := [], laidByText := true, laidKinds := [.data, .data, .data, .data, .pinned], laidTests := true, laidLooks := .later }
def FnExactReqTextUptoCardSaid : Prop := Claim7.holds Tryd.pinned (.plain (OpenSpec.upto fnExactReqTextSpec)) fnExactReqTextUptoCard

/-- THE SECOND FORM's CARD OF 'laws.FnExactObjOk'. -/
def fnExactObjOkUptoCard : Claim7 := { stood := { row := fnExactObjOkUptoRow, standIns := [], harness := (true, "f2003e51a47d3d3e8e4dd0e3b7b18a867ab03f683df6888b075a0c9ad19275c8"), looks := true }, kinds := [], alts := [], laidByText := true, laidKinds := [.data, .pinned], laidTests := true, laidLooks := .later }
def FnExactObjOkUptoCardSaid : Prop := Claim7.holds Tryd.pinned (.plain (OpenSpec.upto fnExactObjOkSpec)) fnExactObjOkUptoCard

/-- THE SECOND FORM's CARD OF 'laws.FnExactHits'. -/
def fnExactHitsUptoCard : Claim7 := { stood := { row := fnExactHitsUptoRow, standIns := [], harness := (true, "f2003e51a47d3d3e8e4dd0e3b7b18a867ab03f683df6888b075a0c9ad19275c8"), looks := true }, kinds := [], alts := [], laidByText := true, laidKinds := [.data, .pinned], laidTests := true, laidLooks := .later }
def FnExactHitsUptoCardSaid : Prop := Claim7.holds Tryd.pinned (.plain (OpenSpec.upto fnExactHitsSpec)) fnExactHitsUptoCard

/-- THE SECOND FORM's CARD OF 'laws.FnExactHitsAny'. -/
def fnExactHitsAnyUptoCard : Claim7 := { stood := { row := fnExactHitsAnyUptoRow, standIns := [], harness := (true, "f2003e51a47d3d3e8e4dd0e3b7b18a867ab03f683df6888b075a0c9ad19275c8"), looks := true }, kinds := [], alts := [], laidByText := true, laidKinds := [.data, .pinned], laidTests := true, laidLooks := .later }
def FnExactHitsAnyUptoCardSaid : Prop := Claim7.holds Tryd.pinned (.plain (OpenSpec.upto fnExactHitsAnySpec)) fnExactHitsAnyUptoCard

/-- THE SECOND FORM's CARD OF 'laws.FnExactReqRead'. -/
def fnExactReqReadUptoCard : Claim7 := { stood := { row := fnExactReqReadUptoRow, standIns := [], harness := (true, "f2003e51a47d3d3e8e4dd0e3b7b18a867ab03f683df6888b075a0c9ad19275c8"), looks := true }, kinds := [], alts := [], laidByText := true, laidKinds := [.data, .data, .data, .data, .pinned], laidTests := true, laidLooks := .later }
def FnExactReqReadUptoCardSaid : Prop := Claim7.holds Tryd.pinned (.plain (OpenSpec.upto fnExactReqReadSpec)) fnExactReqReadUptoCard

/-- THE SECOND FORM's CARD OF 'laws.FnWords'. -/
def fnWordsUptoCard : Claim7 := { stood := { row := fnWordsUptoRow, standIns := [], harness := (true, "f2003e51a47d3d3e8e4dd0e3b7b18a867ab03f683df6888b075a0c9ad19275c8"), looks := true }, kinds := [], alts := [], laidByText := true, laidKinds := [.data, .data, .data, .data, .sentinel, .sentinel, .pinned], laidTests := true, laidLooks := .later }
def FnWordsUptoCardSaid : Prop := Claim7.holds Tryd.pinned (.plain (OpenSpec.upto fnWordsSpec)) fnWordsUptoCard

/-- THE SECOND FORM's CARD OF 'laws.FnExactCcRead'. -/
def fnExactCcReadUptoCard : Claim7 := { stood := { row := fnExactCcReadUptoRow, standIns := [], harness := (true, "f2003e51a47d3d3e8e4dd0e3b7b18a867ab03f683df6888b075a0c9ad19275c8"), looks := true }, kinds := [], alts := [], laidByText := true, laidKinds := [.data, .data, .data, .data, .sentinel, .sentinel, .pinned], laidTests := true, laidLooks := .later }
def FnExactCcReadUptoCardSaid : Prop := Claim7.holds Tryd.pinned (.plain (OpenSpec.upto fnExactCcReadSpec)) fnExactCcReadUptoCard

/-- THE SECOND FORM's CARD OF 'laws.FnExactLife'. -/
def fnExactLifeUptoCard : Claim7 := { stood := { row := fnExactLifeUptoRow, standIns := [], harness := (true, "f2003e51a47d3d3e8e4dd0e3b7b18a867ab03f683df6888b075a0c9ad19275c8"), looks := true }, kinds := [], alts := [], laidByText := true, laidKinds := [.data, .data, .data, .data, .sentinel, .sentinel, .pinned], laidTests := true, laidLooks := .later }
def FnExactLifeUptoCardSaid : Prop := Claim7.holds Tryd.pinned (.plain (OpenSpec.upto fnExactLifeSpec)) fnExactLifeUptoCard

/-- THE SECOND FORM's CARD OF 'laws.FnExactCcOf'. -/
def fnExactCcOfUptoCard : Claim7 := { stood := { row := fnExactCcOfUptoRow, standIns := [], harness := (true, "f2003e51a47d3d3e8e4dd0e3b7b18a867ab03f683df6888b075a0c9ad19275c8"), looks := true }, kinds := [], alts := [], laidByText := true, laidKinds := [.data, .data, .data, .data, .sentinel, .sentinel, .pinned], laidTests := true, laidLooks := .later }
def FnExactCcOfUptoCardSaid : Prop := Claim7.holds Tryd.pinned (.plain (OpenSpec.upto fnExactCcOfSpec)) fnExactCcOfUptoCard
end Rows
end Go.Proofs.YtiinmfjbildclaaDoor
