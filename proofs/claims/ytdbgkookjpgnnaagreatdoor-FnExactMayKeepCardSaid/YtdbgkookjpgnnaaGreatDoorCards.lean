/-
  DERIVED. GIVEN WITH THE SEED: THE CARDS: each row of YtdbgkookjpgnnaaGreatDoorRows.lean that lists a variable, with what it lists TIED to the program's text (the seventh form; the later family's looks); each row that meets fmt, with fmt's text TOLD by the authors' own Lean function (tested against real Go, not proved from fmt's source: count such statements apart). THE CARD IS WHAT COUNTS. Prove the row's statement (the work); the ties are given (YtdbgkookjpgnnaaGreatDoorTie.lean); close each card by the builder's one call (the guide's Derived/Test/ToyasCard.lean, 'card_holds'). Laid BY PROGRAM, IN A SANDBOX (cutbox-door.mjs). By AI agents, Wed Nov 11 2026. No macro, syntax, notation, axiom, sorry.
-/
import Derived.Test.YtdbgkookjpgnnaaGreatDoorRows
import GoSem.ClaimSeven
namespace Go.Proofs.YtdbgkookjpgnnaaGreatDoor
namespace Rows

/-- THE TIED CARD OF 'laws.FnHits'. -/
def fnHitsCard : Claim7 := { stood := { row := fnHitsRow, standIns := [], harness := (true, "d21b7829255ee2a40bfeb3a031821c176a5e725a9c5cdafc92b8ee66a45e6b00"), looks := true }, kinds := [], alts := [], laidByText := true, laidKinds := [.data, .pinned], laidTests := true, laidLooks := .later }
def FnHitsCardSaid : Prop := Claim7.holds Tryz.pinned (.plain (OpenSpec.ofChange fnHitsSpec)) fnHitsCard

/-- THE TIED CARD OF 'laws.FnExactFresh'. -/
def fnExactFreshCard : Claim7 := { stood := { row := fnExactFreshRow, standIns := [], harness := (true, "d21b7829255ee2a40bfeb3a031821c176a5e725a9c5cdafc92b8ee66a45e6b00"), looks := true }, kinds := [], alts := [], laidByText := true, laidKinds := [.data, .data, .data, .data, .sentinel, .sentinel, .pinned], laidTests := true, laidLooks := .later }
def FnExactFreshCardSaid : Prop := Claim7.holds Tryz.pinned (.plain (OpenSpec.ofChange fnExactFreshSpec)) fnExactFreshCard

/-- THE TIED CARD OF 'laws.FnAges'. -/
def fnAgesCard : Claim7 := { stood := { row := fnAgesRow, standIns := [], harness := (true, "d21b7829255ee2a40bfeb3a031821c176a5e725a9c5cdafc92b8ee66a45e6b00"), looks := true }, kinds := [], alts := [], laidByText := true, laidKinds := [.data, .data, .data, .data, .sentinel, .sentinel, .pinned], laidTests := true, laidLooks := .later }
def FnAgesCardSaid : Prop := Claim7.holds Tryz.pinned (.plain (OpenSpec.ofChange fnAgesSpec)) fnAgesCard

/-- THE TIED CARD OF 'laws.FnControl'. -/
def fnControlCard : Claim7 := { stood := { row := fnControlRow, standIns := [], harness := (true, "d21b7829255ee2a40bfeb3a031821c176a5e725a9c5cdafc92b8ee66a45e6b00"), looks := true }, kinds := [], alts := [], laidByText := true, laidKinds := [.data, .data, .data, .data, .sentinel, .sentinel, .pinned], laidTests := true, laidLooks := .later }
def FnControlCardSaid : Prop := Claim7.holds Tryz.pinned (.plain (OpenSpec.ofChange fnControlSpec)) fnControlCard

/-- THE TIED CARD OF 'laws.FnExactMayKeep'. -/
def fnExactMayKeepCard : Claim7 := { stood := { row := fnExactMayKeepRow, standIns := [], harness := (true, "d21b7829255ee2a40bfeb3a031821c176a5e725a9c5cdafc92b8ee66a45e6b00"), looks := true }, kinds := [], alts := [], laidByText := true, laidKinds := [.data, .data, .data, .data, .sentinel, .sentinel, .pinned], laidTests := true, laidLooks := .later }
def FnExactMayKeepCardSaid : Prop := Claim7.holds Tryz.pinned (.plain (OpenSpec.ofChange fnExactMayKeepSpec)) fnExactMayKeepCard

/-- THE TIED CARD OF 'laws.FnMayKeep'. -/
def fnMayKeepCard : Claim7 := { stood := { row := fnMayKeepRow, standIns := [], harness := (true, "d21b7829255ee2a40bfeb3a031821c176a5e725a9c5cdafc92b8ee66a45e6b00"), looks := true }, kinds := [], alts := [], laidByText := true, laidKinds := [.data, .data, .data, .data, .sentinel, .sentinel, .pinned], laidTests := true, laidLooks := .later }
def FnMayKeepCardSaid : Prop := Claim7.holds Tryz.pinned (.plain (OpenSpec.ofChange fnMayKeepSpec)) fnMayKeepCard

/-- THE TIED CARD OF 'laws.FnExactObjText'. -/
def fnExactObjTextCard : Claim7 := { stood := { row := fnExactObjTextRow, standIns := [], harness := (true, "d21b7829255ee2a40bfeb3a031821c176a5e725a9c5cdafc92b8ee66a45e6b00"), looks := true }, kinds := [], alts := [], laidByText := true, laidKinds := [.data, .data, .data, .data, .pinned], laidTests := true, laidLooks := .later }
def FnExactObjTextCardSaid : Prop := Claim7.holds Tryz.pinned (.plain (OpenSpec.ofChange fnExactObjTextSpec)) fnExactObjTextCard

/-- THE TIED CARD OF 'laws.FnExactObjOf'. -/
def fnExactObjOfCard : Claim7 := { stood := { row := fnExactObjOfRow, standIns := [], harness := (true, "d21b7829255ee2a40bfeb3a031821c176a5e725a9c5cdafc92b8ee66a45e6b00"), looks := true }, kinds := [], alts := [], laidByText := true, laidKinds := [.data, .data, .data, .data, .sentinel, .sentinel, .pinned], laidTests := true, laidLooks := .later }
def FnExactObjOfCardSaid : Prop := Claim7.holds Tryz.pinned (.plain (OpenSpec.ofChange fnExactObjOfSpec)) fnExactObjOfCard

/-- THE TIED CARD OF 'laws.FnKeptOf'. -/
def fnKeptOfCard : Claim7 := { stood := { row := fnKeptOfRow, standIns := [], harness := (true, "d21b7829255ee2a40bfeb3a031821c176a5e725a9c5cdafc92b8ee66a45e6b00"), looks := true }, kinds := [], alts := [], laidByText := true, laidKinds := [.data, .data, .data, .data, .sentinel, .sentinel, .pinned], laidTests := true, laidLooks := .later }
def FnKeptOfCardSaid : Prop := Claim7.holds Tryz.pinned (.plain (OpenSpec.ofChange fnKeptOfSpec)) fnKeptOfCard

/-- THE SECOND FORM's CARD OF 'laws.FnHits'. -/
def fnHitsUptoCard : Claim7 := { stood := { row := fnHitsUptoRow, standIns := [], harness := (true, "d21b7829255ee2a40bfeb3a031821c176a5e725a9c5cdafc92b8ee66a45e6b00"), looks := true }, kinds := [], alts := [], laidByText := true, laidKinds := [.data, .pinned], laidTests := true, laidLooks := .later }
def FnHitsUptoCardSaid : Prop := Claim7.holds Tryz.pinned (.plain (OpenSpec.upto fnHitsSpec)) fnHitsUptoCard

/-- THE SECOND FORM's CARD OF 'laws.FnExactFresh'. -/
def fnExactFreshUptoCard : Claim7 := { stood := { row := fnExactFreshUptoRow, standIns := [], harness := (true, "d21b7829255ee2a40bfeb3a031821c176a5e725a9c5cdafc92b8ee66a45e6b00"), looks := true }, kinds := [], alts := [], laidByText := true, laidKinds := [.data, .data, .data, .data, .sentinel, .sentinel, .pinned], laidTests := true, laidLooks := .later }
def FnExactFreshUptoCardSaid : Prop := Claim7.holds Tryz.pinned (.plain (OpenSpec.upto fnExactFreshSpec)) fnExactFreshUptoCard

/-- THE SECOND FORM's CARD OF 'laws.FnAges'. -/
def fnAgesUptoCard : Claim7 := { stood := { row := fnAgesUptoRow, standIns := [], harness := (true, "d21b7829255ee2a40bfeb3a031821c176a5e725a9c5cdafc92b8ee66a45e6b00"), looks := true }, kinds := [], alts := [], laidByText := true, laidKinds := [.data, .data, .data, .data, .sentinel, .sentinel, .pinned], laidTests := true, laidLooks := .later }
def FnAgesUptoCardSaid : Prop := Claim7.holds Tryz.pinned (.plain (OpenSpec.upto fnAgesSpec)) fnAgesUptoCard

/-- THE SECOND FORM's CARD OF 'laws.FnControl'. -/
def fnControlUptoCard : Claim7 := { stood := { row := fnControlUptoRow, standIns := [], harness := (true, "d21b7829255ee2a40bfeb3a031821c176a5e725a9c5cdafc92b8ee66a45e6b00"), looks := true }, kinds := [], alts := [], laidByText := true, laidKinds := [.data, .data, .data, .data, .sentinel, .sentinel, .pinned], laidTests := true, laidLooks := .later }
def FnControlUptoCardSaid : Prop := Claim7.holds Tryz.pinned (.plain (OpenSpec.upto fnControlSpec)) fnControlUptoCard

/-- THE SECOND FORM's CARD OF 'laws.FnExactMayKeep'. -/
def fnExactMayKeepUptoCard : Claim7 := { stood := { row := fnExactMayKeepUptoRow, standIns := [], harness := (true, "d21b7829255ee2a40bfeb3a031821c176a5e725a9c5cdafc92b8ee66a45e6b00"), looks := true }, kinds := [], alts := [], laidByText := true, laidKinds := [.data, .data, .data, .data, .sentinel, .sentinel, .pinned], laidTests := true, laidLooks := .later }
def FnExactMayKeepUptoCardSaid : Prop := Claim7.holds Tryz.pinned (.plain (OpenSpec.upto fnExactMayKeepSpec)) fnExactMayKeepUptoCard

/-- THE SECOND FORM's CARD OF 'laws.FnMayKeep'. -/
def fnMayKeepUptoCard : Claim7 := { stood := { row := fnMayKeepUptoRow, standIns := [], harness := (true, "d21b7829255ee2a40bfeb3a031821c176a5e725a9c5cdafc92b8ee66a45e6b00"), looks := true }, kinds := [], alts := [], laidByText := true, laidKinds := [.data, .data, .data, .data, .sentinel, .sentinel, .pinned], laidTests := true, laidLooks := .later }
def FnMayKeepUptoCardSaid : Prop := Claim7.holds Tryz.pinned (.plain (OpenSpec.upto fnMayKeepSpec)) fnMayKeepUptoCard

/-- THE SECOND FORM's CARD OF 'laws.FnExactObjText'. -/
def fnExactObjTextUptoCard : Claim7 := { stood := { row := fnExactObjTextUptoRow, standIns := [], harness := (true, "d21b7829255ee2a40bfeb3a031821c176a5e725a9c5cdafc92b8ee66a45e6b00"), looks := true }, kinds := [], alts := [], laidByText := true, laidKinds := [.data, .data, .data, .data, .pinned], laidTests := true, laidLooks := .later }
def FnExactObjTextUptoCardSaid : Prop := Claim7.holds Tryz.pinned (.plain (OpenSpec.upto fnExactObjTextSpec)) fnExactObjTextUptoCard

/-- THE SECOND FORM's CARD OF 'laws.FnExactObjOf'. -/
def fnExactObjOfUptoCard : Claim7 := { stood := { row := fnExactObjOfUptoRow, standIns := [], harness := (true, "d21b7829255ee2a40bfeb3a031821c176a5e725a9c5cdafc92b8ee66a45e6b00"), looks := true }, kinds := [], alts := [], laidByText := true, laidKinds := [.data, .data, .data, .data, .sentinel, .sentinel, .pinned], laidTests := true, laidLooks := .later }
def FnExactObjOfUptoCardSaid : Prop := Claim7.holds Tryz.pinned (.plain (OpenSpec.upto fnExactObjOfSpec)) fnExactObjOfUptoCard

/-- THE SECOND FORM's CARD OF 'laws.FnKeptOf'. -/
def fnKeptOfUptoCard : Claim7 := { stood := { row := fnKeptOfUptoRow, standIns := [], harness := (true, "d21b7829255ee2a40bfeb3a031821c176a5e725a9c5cdafc92b8ee66a45e6b00"), looks := true }, kinds := [], alts := [], laidByText := true, laidKinds := [.data, .data, .data, .data, .sentinel, .sentinel, .pinned], laidTests := true, laidLooks := .later }
def FnKeptOfUptoCardSaid : Prop := Claim7.holds Tryz.pinned (.plain (OpenSpec.upto fnKeptOfSpec)) fnKeptOfUptoCard
end Rows
end Go.Proofs.YtdbgkookjpgnnaaGreatDoor
