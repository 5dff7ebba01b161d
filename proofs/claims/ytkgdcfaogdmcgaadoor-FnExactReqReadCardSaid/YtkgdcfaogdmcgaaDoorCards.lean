/-
  DERIVED. GIVEN WITH THE SEED: THE CARDS: each row of YtkgdcfaogdmcgaaDoorRows.lean that lists a variable, with what it lists TIED to the program's text (the seventh form; the later family's looks); each row that meets fmt, with fmt's text TOLD by the authors' own Lean function (tested against real Go, not proved from fmt's source: count such statements apart). THE CARD IS WHAT COUNTS. Prove the row's statement (the work); the ties are given (YtkgdcfaogdmcgaaDoorTie.lean); close each card by the builder's one call (the guide's Derived/Test/ToyasCard.lean, 'card_holds'). Laid BY PROGRAM, IN A SANDBOX (cutbox-door.mjs). By AI agents, Wed Nov 11 2026. No macro, syntax, notation, axiom, sorry.
-/
import Derived.Test.YtkgdcfaogdmcgaaDoorRows
import GoSem.ClaimSeven
namespace Go.Proofs.YtkgdcfaogdmcgaaDoor
namespace Rows

/-- THE TIED CARD OF 'laws.FnAskedAgain'. -/
def fnAskedAgainCard : Claim7 := { stood := { row := fnAskedAgainRow, standIns := [], harness := (true, "b91319245b75bef6b0e8d811d33adf2d149953a465eb16ab09e1c44efc97a0a9"), looks := true }, kinds := [], alts := [], laidByText := true, laidKinds := [.data, .pinned], laidTests := true, laidLooks := .later }
def FnAskedAgainCardSaid : Prop := Claim7.holds Tryd.pinned (.plain (OpenSpec.ofChange fnAskedAgainSpec)) fnAskedAgainCard

/-- THE TIED CARD OF 'laws.FnExactReqText'. -/
def fnExactReqTextCard : Claim7 := { stood := { row := fnExactReqTextRow, standIns := [], harness := (true, "b91319245b75bef6b0e8d811d33adf2d149953a465eb16ab09e1c44efc97a0a9"), looks := true }, kinds := [], alts := [], laidByText := true, laidKinds := [.data, .data, .data, .data, .pinned], laidTests := true, laidLooks := .later }
def FnExactReqTextCardSaid : Prop := Claim7.holds Tryd.pinned (.plain (OpenSpec.ofChange fnExactReqTextSpec)) fnExactReqTextCard

/-- THE TIED CARD OF 'laws.FnExactObjOk'. -/
def fnExactObjOkCard : Claim7 := { stood := { row := fnExactObjOkRow, standIns := [], harness := (true, "b91319245b75bef6b0e8d811d33adf2d149953a465eb16ab09e1c44efc97a0a9"), looks := true }, kinds := [], alts := [], laidByText := true, laidKinds := [.data, .pinned], laidTests := true, laidLooks := .later }
def FnExactObjOkCardSaid : Prop := Claim7.holds Tryd.pinned (.plain (OpenSpec.ofChange fnExactObjOkSpec)) fnExactObjOkCard

/-- THE TIED CARD OF 'laws.FnExactHitsAny'. -/
def fnExactHitsAnyCard : Claim7 := { stood := { row := fnExactHitsAnyRow, standIns := [], harness := (true, "b91319245b75bef6b0e8d811d33adf2d149953a465eb16ab09e1c44efc97a0a9"), looks := true }, kinds := [], alts := [], laidByText := true, laidKinds := [.data, .pinned], laidTests := true, laidLooks := .later }
def FnExactHitsAnyCardSaid : Prop := Claim7.holds Tryd.pinned (.plain (OpenSpec.ofChange fnExactHitsAnySpec)) fnExactHitsAnyCard

/-- THE TIED CARD OF 'laws.FnExactReqRead'. -/
def fnExactReqReadCard : Claim7 := { stood := { row := fnExactReqReadRow, standIns := [], harness := (true, "b91319245b75bef6b0e8d811d33adf2d149953a465eb16ab09e1c44efc97a0a9"), looks := true }, kinds := [], alts := [], laidByText := true, laidKinds := [.data, .data, .data, .data, .pinned], laidTests := true, laidLooks := .later }
def FnExactReqReadCardSaid : Prop := Claim7.holds Tryd.pinned (.plain (OpenSpec.ofChange fnExactReqReadSpec)) fnExactReqReadCard

/-- THE TIED CARD OF 'laws.FnExactCcOf'. -/
def fnExactCcOfCard : Claim7 := { stood := { row := fnExactCcOfRow, standIns := [], harness := (true, "b91319245b75bef6b0e8d811d33adf2d149953a465eb16ab09e1c44efc97a0a9"), looks := true }, kinds := [], alts := [], laidByText := true, laidKinds := [.data, .data, .data, .data, .sentinel, .sentinel, .pinned], laidTests := true, laidLooks := .later }
def FnExactCcOfCardSaid : Prop := Claim7.holds Tryd.pinned (.plain (OpenSpec.ofChange fnExactCcOfSpec)) fnExactCcOfCard

/-- THE SECOND FORM's CARD OF 'laws.FnAskedAgain'. -/
def fnAskedAgainUptoCard : Claim7 := { stood := { row := fnAskedAgainUptoRow, standIns := [], harness := (true, "b91319245b75bef6b0e8d811d33adf2d149953a465eb16ab09e1c44efc97a0a9"), looks := true }, kinds := [], alts := [], laidByText := true, laidKinds := [.data, .pinned], laidTests := true, laidLooks := .later }
def FnAskedAgainUptoCardSaid : Prop := Claim7.holds Tryd.pinned (.plain (OpenSpec.upto fnAskedAgainSpec)) fnAskedAgainUptoCard

/-- THE SECOND FORM's CARD OF 'laws.FnExactReqText'. -/
def fnExactReqTextUptoCard : Claim7 := { stood := { row := fnExactReqTextUptoRow, standIns := [], harness := (true, "b91319245b75bef6b0e8d811d33adf2d149953a465eb16ab09e1c44efc97a0a9"), looks := true }, kinds := [], alts := [], laidByText := true, laidKinds := [.data, .data, .data, .data, .pinned], laidTests := true, laidLooks := .later }
def FnExactReqTextUptoCardSaid : Prop := Claim7.holds Tryd.pinned (.plain (OpenSpec.upto fnExactReqTextSpec)) fnExactReqTextUptoCard

/-- THE SECOND FORM's CARD OF 'laws.FnExactObjOk'. -/
def fnExactObjOkUptoCard : Claim7 := { stood := { row := fnExactObjOkUptoRow, standIns := [], harness := (true, "b91319245b75bef6b0e8d811d33adf2d149953a465eb16ab09e1c44efc97a0a9"), looks := true }, kinds := [], alts := [], laidByText := true, laidKinds := [.data, .pinned], laidTests := true, laidLooks := .later }
def FnExactObjOkUptoCardSaid : Prop := Claim7.holds Tryd.pinned (.plain (OpenSpec.upto fnExactObjOkSpec)) fnExactObjOkUptoCard

/-- THE SECOND FORM's CARD OF 'laws.FnExactHitsAny'. -/
def fnExactHitsAnyUptoCard : Claim7 := { stood := { row := fnExactHitsAnyUptoRow, standIns := [], harness := (true, "b91319245b75bef6b0e8d811d33adf2d149953a465eb16ab09e1c44efc97a0a9"), looks := true }, kinds := [], alts := [], laidByText := true, laidKinds := [.data, .pinned], laidTests := true, laidLooks := .later }
def FnExactHitsAnyUptoCardSaid : Prop := Claim7.holds Tryd.pinned (.plain (OpenSpec.upto fnExactHitsAnySpec)) fnExactHitsAnyUptoCard

/-- THE SECOND FORM's CARD OF 'laws.FnExactReqRead'. -/
def fnExactReqReadUptoCard : Claim7 := { stood := { row := fnExactReqReadUptoRow, standIns := [], harness := (true, "b91319245b75bef6b0e8d811d33adf2d149953a465eb16ab09e1c44efc97a0a9"), looks := true }, kinds := [], alts := [], laidByText := true, laidKinds := [.data, .data, .data, .data, .pinned], laidTests := true, laidLooks := .later }
def FnExactReqReadUptoCardSaid : Prop := Claim7.holds Tryd.pinned (.plain (OpenSpec.upto fnExactReqReadSpec)) fnExactReqReadUptoCard

/-- THE SECOND FORM's CARD OF 'laws.FnExactCcOf'. -/
def fnExactCcOfUptoCard : Claim7 := { stood := { row := fnExactCcOfUptoRow, standIns := [], harness := (true, "b91319245b75bef6b0e8d811d33adf2d149953a465eb16ab09e1c44efc97a0a9"), looks := true }, kinds := [], alts := [], laidByText := true, laidKinds := [.data, .data, .data, .data, .sentinel, .sentinel, .pinned], laidTests := true, laidLooks := .later }
def FnExactCcOfUptoCardSaid : Prop := Claim7.holds Tryd.pinned (.plain (OpenSpec.upto fnExactCcOfSpec)) fnExactCcOfUptoCard
end Rows
end Go.Proofs.YtkgdcfaogdmcgaaDoor
