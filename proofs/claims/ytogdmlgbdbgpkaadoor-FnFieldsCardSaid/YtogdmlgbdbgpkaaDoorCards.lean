/-
  DERIVED. GIVEN WITH THE SEED: THE CARDS: each row of YtogdmlgbdbgpkaaDoorRows.lean that lists a variable, with what it lists TIED to the program's text (the seventh form; the later family's looks); each row that meets fmt, with fmt's text TOLD by the authors' own Lean function (tested against real Go, not proved from fmt's source: count such statements apart). THE CARD IS WHAT COUNTS. Prove the row's statement (the work); the ties are given (YtogdmlgbdbgpkaaDoorTie.lean); close each card by the builder's one call (the guide's Derived/Test/ToyasCard.lean, 'card_holds'). Laid BY PROGRAM, IN A SANDBOX (cutbox-door.mjs). By AI agents, Wed Nov 11 2026. No macro, syntax, notation, axiom, sorry.
-/
import Derived.Test.YtogdmlgbdbgpkaaDoorRows
import GoSem.ClaimSeven
namespace Go.Proofs.YtogdmlgbdbgpkaaDoor
namespace Rows

/-- THE TIED CARD OF 'laws.FnExactHex'. -/
def fnExactHexCard : Claim7 := { stood := { row := fnExactHexRow, standIns := [], harness := (true, "1c7386abf9cf101f872525862835bf2c050d63856dc107a58877c287b670fba1"), looks := false }, kinds := [], alts := [], laidByText := true, laidKinds := [.data, .data, .data], laidTests := true, laidLooks := .later }
def FnExactHexCardSaid : Prop := Claim7.holds Tryd.pinned (.plain (OpenSpec.ofChange fnExactHexSpec)) fnExactHexCard

/-- THE TIED CARD OF 'laws.FnExactChunkText'. -/
def fnExactChunkTextCard : Claim7 := { stood := { row := fnExactChunkTextRow, standIns := [], harness := (true, "1c7386abf9cf101f872525862835bf2c050d63856dc107a58877c287b670fba1"), looks := false }, kinds := [], alts := [], laidByText := true, laidKinds := [.data, .data, .data], laidTests := true, laidLooks := .later }
def FnExactChunkTextCardSaid : Prop := Claim7.holds Tryd.pinned (.plain (OpenSpec.ofChange fnExactChunkTextSpec)) fnExactChunkTextCard

/-- THE TIED CARD OF 'laws.FnExactCcText'. -/
def fnExactCcTextCard : Claim7 := { stood := { row := fnExactCcTextRow, standIns := [], harness := (true, "1c7386abf9cf101f872525862835bf2c050d63856dc107a58877c287b670fba1"), looks := false }, kinds := [], alts := [], laidByText := true, laidKinds := [.data, .data, .data], laidTests := true, laidLooks := .later }
def FnExactCcTextCardSaid : Prop := Claim7.holds Tryd.pinned (.plain (OpenSpec.ofChange fnExactCcTextSpec)) fnExactCcTextCard

/-- THE TIED CARD OF 'laws.FnSmall'. -/
def fnSmallCard : Claim7 := { stood := { row := fnSmallRow, standIns := [], harness := (true, "1c7386abf9cf101f872525862835bf2c050d63856dc107a58877c287b670fba1"), looks := false }, kinds := [], alts := [], laidByText := true, laidKinds := [.data, .pinned], laidTests := true, laidLooks := .later }
def FnSmallCardSaid : Prop := Claim7.holds Tryd.pinned (.plain (OpenSpec.ofChange fnSmallSpec)) fnSmallCard

/-- THE TIED CARD OF 'laws.FnExactFieldsOk'. -/
def fnExactFieldsOkCard : Claim7 := { stood := { row := fnExactFieldsOkRow, standIns := [], harness := (true, "1c7386abf9cf101f872525862835bf2c050d63856dc107a58877c287b670fba1"), looks := false }, kinds := [], alts := [], laidByText := true, laidKinds := [.data, .pinned], laidTests := true, laidLooks := .later }
def FnExactFieldsOkCardSaid : Prop := Claim7.holds Tryd.pinned (.plain (OpenSpec.ofChange fnExactFieldsOkSpec)) fnExactFieldsOkCard

/-- THE TIED CARD OF 'laws.FnExactRespOk'. -/
def fnExactRespOkCard : Claim7 := { stood := { row := fnExactRespOkRow, standIns := [], harness := (true, "1c7386abf9cf101f872525862835bf2c050d63856dc107a58877c287b670fba1"), looks := false }, kinds := [], alts := [], laidByText := true, laidKinds := [.data, .pinned], laidTests := true, laidLooks := .later }
def FnExactRespOkCardSaid : Prop := Claim7.holds Tryd.pinned (.plain (OpenSpec.ofChange fnExactRespOkSpec)) fnExactRespOkCard

/-- THE TIED CARD OF 'laws.FnExactReqOk'. -/
def fnExactReqOkCard : Claim7 := { stood := { row := fnExactReqOkRow, standIns := [], harness := (true, "1c7386abf9cf101f872525862835bf2c050d63856dc107a58877c287b670fba1"), looks := false }, kinds := [], alts := [], laidByText := true, laidKinds := [.data, .pinned], laidTests := true, laidLooks := .later }
def FnExactReqOkCardSaid : Prop := Claim7.holds Tryd.pinned (.plain (OpenSpec.ofChange fnExactReqOkSpec)) fnExactReqOkCard

/-- THE TIED CARD OF 'laws.FnExactSplit'. -/
def fnExactSplitCard : Claim7 := { stood := { row := fnExactSplitRow, standIns := [], harness := (true, "1c7386abf9cf101f872525862835bf2c050d63856dc107a58877c287b670fba1"), looks := false }, kinds := [], alts := [], laidByText := true, laidKinds := [.data, .pinned], laidTests := true, laidLooks := .later }
def FnExactSplitCardSaid : Prop := Claim7.holds Tryd.pinned (.plain (OpenSpec.ofChange fnExactSplitSpec)) fnExactSplitCard

/-- THE TIED CARD OF 'laws.FnExactMerge'. -/
def fnExactMergeCard : Claim7 := { stood := { row := fnExactMergeRow, standIns := [], harness := (true, "1c7386abf9cf101f872525862835bf2c050d63856dc107a58877c287b670fba1"), looks := false }, kinds := [], alts := [], laidByText := true, laidKinds := [.data, .pinned], laidTests := true, laidLooks := .later }
def FnExactMergeCardSaid : Prop := Claim7.holds Tryd.pinned (.plain (OpenSpec.ofChange fnExactMergeSpec)) fnExactMergeCard

/-- THE TIED CARD OF 'laws.FnFields'. -/
def fnFieldsCard : Claim7 := { stood := { row := fnFieldsRow, standIns := [], harness := (true, "1c7386abf9cf101f872525862835bf2c050d63856dc107a58877c287b670fba1"), looks := false }, kinds := [], alts := [], laidByText := true, laidKinds := [.data, .pinned], laidTests := true, laidLooks := .later }
def FnFieldsCardSaid : Prop := Claim7.holds Tryd.pinned (.plain (OpenSpec.ofChange fnFieldsSpec)) fnFieldsCard

/-- THE TIED CARD OF 'laws.FnExactAsk'. -/
def fnExactAskCard : Claim7 := { stood := { row := fnExactAskRow, standIns := [], harness := (true, "1c7386abf9cf101f872525862835bf2c050d63856dc107a58877c287b670fba1"), looks := false }, kinds := [], alts := [], laidByText := true, laidKinds := [.data, .pinned], laidTests := true, laidLooks := .later }
def FnExactAskCardSaid : Prop := Claim7.holds Tryd.pinned (.plain (OpenSpec.ofChange fnExactAskSpec)) fnExactAskCard

/-- THE TIED CARD OF 'laws.FnExactBanText'. -/
def fnExactBanTextCard : Claim7 := { stood := { row := fnExactBanTextRow, standIns := [], harness := (true, "1c7386abf9cf101f872525862835bf2c050d63856dc107a58877c287b670fba1"), looks := false }, kinds := [], alts := [], laidByText := true, laidKinds := [.data, .data, .data, .data, .pinned], laidTests := true, laidLooks := .later }
def FnExactBanTextCardSaid : Prop := Claim7.holds Tryd.pinned (.plain (OpenSpec.ofChange fnExactBanTextSpec)) fnExactBanTextCard

/-- THE SECOND FORM's CARD OF 'laws.FnExactHex'. -/
def fnExactHexUptoCard : Claim7 := { stood := { row := fnExactHexUptoRow, standIns := [], harness := (true, "1c7386abf9cf101f872525862835bf2c050d63856dc107a58877c287b670fba1"), looks := false }, kinds := [], alts := [], laidByText := true, laidKinds := [.data, .data, .data], laidTests := true, laidLooks := .later }
def FnExactHexUptoCardSaid : Prop := Claim7.holds Tryd.pinned (.plain (OpenSpec.upto fnExactHexSpec)) fnExactHexUptoCard

/-- THE SECOND FORM's CARD OF 'laws.FnExactChunkText'. -/
def fnExactChunkTextUptoCard : Claim7 := { stood := { row := fnExactChunkTextUptoRow, standIns := [], harness := (true, "1c7386abf9cf101f872525862835bf2c050d63856dc107a58877c287b670fba1"), looks := false }, kinds := [], alts := [], laidByText := true, laidKinds := [.data, .data, .data], laidTests := true, laidLooks := .later }
def FnExactChunkTextUptoCardSaid : Prop := Claim7.holds Tryd.pinned (.plain (OpenSpec.upto fnExactChunkTextSpec)) fnExactChunkTextUptoCard

/-- THE SECOND FORM's CARD OF 'laws.FnExactCcText'. -/
def fnExactCcTextUptoCard : Claim7 := { stood := { row := fnExactCcTextUptoRow, standIns := [], harness := (true, "1c7386abf9cf101f872525862835bf2c050d63856dc107a58877c287b670fba1"), looks := false }, kinds := [], alts := [], laidByText := true, laidKinds := [.data, .data, .data], laidTests := true, laidLooks := .later }
def FnExactCcTextUptoCardSaid : Prop := Claim7.holds Tryd.pinned (.plain (OpenSpec.upto fnExactCcTextSpec)) fnExactCcTextUptoCard

/-- THE SECOND FORM's CARD OF 'laws.FnSmall'. -/
def fnSmallUptoCard : Claim7 := { stood := { row := fnSmallUptoRow, standIns := [], harness := (true, "1c7386abf9cf101f872525862835bf2c050d63856dc107a58877c287b670fba1"), looks := false }, kinds := [], alts := [], laidByText := true, laidKinds := [.data, .pinned], laidTests := true, laidLooks := .later }
def FnSmallUptoCardSaid : Prop := Claim7.holds Tryd.pinned (.plain (OpenSpec.upto fnSmallSpec)) fnSmallUptoCard

/-- THE SECOND FORM's CARD OF 'laws.FnExactFieldsOk'. -/
def fnExactFieldsOkUptoCard : Claim7 := { stood := { row := fnExactFieldsOkUptoRow, standIns := [], harness := (true, "1c7386abf9cf101f872525862835bf2c050d63856dc107a58877c287b670fba1"), looks := false }, kinds := [], alts := [], laidByText := true, laidKinds := [.data, .pinned], laidTests := true, laidLooks := .later }
def FnExactFieldsOkUptoCardSaid : Prop := Claim7.holds Tryd.pinned (.plain (OpenSpec.upto fnExactFieldsOkSpec)) fnExactFieldsOkUptoCard

/-- THE SECOND FORM's CARD OF 'laws.FnExactRespOk'. -/
def fnExactRespOkUptoCard : Claim7 := { stood := { row := fnExactRespOkUptoRow, standIns := [], harness := (true, "1c7386abf9cf101f872525862835bf2c050d63856dc107a58877c287b670fba1"), looks := false }, kinds := [], alts := [], laidByText := true, laidKinds := [.data, .pinned], laidTests := true, laidLooks := .later }
def FnExactRespOkUptoCardSaid : Prop := Claim7.holds Tryd.pinned (.plain (OpenSpec.upto fnExactRespOkSpec)) fnExactRespOkUptoCard

/-- THE SECOND FORM's CARD OF 'laws.FnExactReqOk'. -/
def fnExactReqOkUptoCard : Claim7 := { stood := { row := fnExactReqOkUptoRow, standIns := [], harness := (true, "1c7386abf9cf101f872525862835bf2c050d63856dc107a58877c287b670fba1"), looks := false }, kinds := [], alts := [], laidByText := true, laidKinds := [.data, .pinned], laidTests := true, laidLooks := .later }
def FnExactReqOkUptoCardSaid : Prop := Claim7.holds Tryd.pinned (.plain (OpenSpec.upto fnExactReqOkSpec)) fnExactReqOkUptoCard

/-- THE SECOND FORM's CARD OF 'laws.FnExactSplit'. -/
def fnExactSplitUptoCard : Claim7 := { stood := { row := fnExactSplitUptoRow, standIns := [], harness := (true, "1c7386abf9cf101f872525862835bf2c050d63856dc107a58877c287b670fba1"), looks := false }, kinds := [], alts := [], laidByText := true, laidKinds := [.data, .pinned], laidTests := true, laidLooks := .later }
def FnExactSplitUptoCardSaid : Prop := Claim7.holds Tryd.pinned (.plain (OpenSpec.upto fnExactSplitSpec)) fnExactSplitUptoCard

/-- THE SECOND FORM's CARD OF 'laws.FnExactMerge'. -/
def fnExactMergeUptoCard : Claim7 := { stood := { row := fnExactMergeUptoRow, standIns := [], harness := (true, "1c7386abf9cf101f872525862835bf2c050d63856dc107a58877c287b670fba1"), looks := false }, kinds := [], alts := [], laidByText := true, laidKinds := [.data, .pinned], laidTests := true, laidLooks := .later }
def FnExactMergeUptoCardSaid : Prop := Claim7.holds Tryd.pinned (.plain (OpenSpec.upto fnExactMergeSpec)) fnExactMergeUptoCard

/-- THE SECOND FORM's CARD OF 'laws.FnFields'. -/
def fnFieldsUptoCard : Claim7 := { stood := { row := fnFieldsUptoRow, standIns := [], harness := (true, "1c7386abf9cf101f872525862835bf2c050d63856dc107a58877c287b670fba1"), looks := false }, kinds := [], alts := [], laidByText := true, laidKinds := [.data, .pinned], laidTests := true, laidLooks := .later }
def FnFieldsUptoCardSaid : Prop := Claim7.holds Tryd.pinned (.plain (OpenSpec.upto fnFieldsSpec)) fnFieldsUptoCard

/-- THE SECOND FORM's CARD OF 'laws.FnExactAsk'. -/
def fnExactAskUptoCard : Claim7 := { stood := { row := fnExactAskUptoRow, standIns := [], harness := (true, "1c7386abf9cf101f872525862835bf2c050d63856dc107a58877c287b670fba1"), looks := false }, kinds := [], alts := [], laidByText := true, laidKinds := [.data, .pinned], laidTests := true, laidLooks := .later }
def FnExactAskUptoCardSaid : Prop := Claim7.holds Tryd.pinned (.plain (OpenSpec.upto fnExactAskSpec)) fnExactAskUptoCard

/-- THE SECOND FORM's CARD OF 'laws.FnExactBanText'. -/
def fnExactBanTextUptoCard : Claim7 := { stood := { row := fnExactBanTextUptoRow, standIns := [], harness := (true, "1c7386abf9cf101f872525862835bf2c050d63856dc107a58877c287b670fba1"), looks := false }, kinds := [], alts := [], laidByText := true, laidKinds := [.data, .data, .data, .data, .pinned], laidTests := true, laidLooks := .later }
def FnExactBanTextUptoCardSaid : Prop := Claim7.holds Tryd.pinned (.plain (OpenSpec.upto fnExactBanTextSpec)) fnExactBanTextUptoCard
end Rows
end Go.Proofs.YtogdmlgbdbgpkaaDoor
