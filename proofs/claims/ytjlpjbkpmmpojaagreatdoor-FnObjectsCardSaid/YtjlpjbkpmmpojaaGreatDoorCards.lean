/-
  DERIVED. GIVEN WITH THE SEED: THE CARDS: each row of YtjlpjbkpmmpojaaGreatDoorRows.lean that lists a variable, with what it lists TIED to the program's text (the seventh form; the later family's looks); each row that meets fmt, with fmt's text TOLD by the authors' own Lean function (tested against real Go, not proved from fmt's source: count such statements apart). THE CARD IS WHAT COUNTS. Prove the row's statement (the work); the ties are given (YtjlpjbkpmmpojaaGreatDoorTie.lean); close each card by the builder's one call (the guide's Derived/Test/ToyasCard.lean, 'card_holds'). Laid BY PROGRAM, IN A SANDBOX (cutbox-door.mjs). By AI agents, Wed Nov 11 2026. No macro, syntax, notation, axiom, sorry.
-/
import Derived.Test.YtjlpjbkpmmpojaaGreatDoorRows
import GoSem.ClaimSeven
namespace Go.Proofs.YtjlpjbkpmmpojaaGreatDoor
namespace Rows

/-- THE TIED CARD OF 'laws.FnHits'. -/
def fnHitsCard : Claim7 := { stood := { row := fnHitsRow, standIns := [], harness := (true, "98416e4db88c125f53a2842b21afd63e5bac28e25b2a5ecaf36a4455f35f798b"), looks := true }, kinds := [], alts := [], laidByText := true, laidKinds := [.data, .pinned], laidTests := true, laidLooks := .later }
def FnHitsCardSaid : Prop := Claim7.holds Tryz.pinned (.plain (OpenSpec.ofChange fnHitsSpec)) fnHitsCard

/-- THE TIED CARD OF 'laws.FnControl'. -/
def fnControlCard : Claim7 := { stood := { row := fnControlRow, standIns := [], harness := (true, "98416e4db88c125f53a2842b21afd63e5bac28e25b2a5ecaf36a4455f35f798b"), looks := true }, kinds := [], alts := [], laidByText := true, laidKinds := [.data, .data, .data, .data, .sentinel, .sentinel, .pinned], laidTests := true, laidLooks := .later }
def FnControlCardSaid : Prop := Claim7.holds Tryz.pinned (.plain (OpenSpec.ofChange fnControlSpec)) fnControlCard

/-- THE TIED CARD OF 'laws.FnMayKeep'. -/
def fnMayKeepCard : Claim7 := { stood := { row := fnMayKeepRow, standIns := [], harness := (true, "98416e4db88c125f53a2842b21afd63e5bac28e25b2a5ecaf36a4455f35f798b"), looks := true }, kinds := [], alts := [], laidByText := true, laidKinds := [.data, .data, .data, .data, .sentinel, .sentinel, .pinned], laidTests := true, laidLooks := .later }
def FnMayKeepCardSaid : Prop := Claim7.holds Tryz.pinned (.plain (OpenSpec.ofChange fnMayKeepSpec)) fnMayKeepCard

/-- THE TIED CARD OF 'laws.FnExactObjRead'. -/
def fnExactObjReadCard : Claim7 := { stood := { row := fnExactObjReadRow, standIns := [], harness := (true, "98416e4db88c125f53a2842b21afd63e5bac28e25b2a5ecaf36a4455f35f798b"), looks := true }, kinds := [], alts := [], laidByText := true, laidKinds := [.data, .data, .data, .data, .sentinel, .sentinel, .pinned], laidTests := true, laidLooks := .later }
def FnExactObjReadCardSaid : Prop := Claim7.holds Tryz.pinned (.plain (OpenSpec.ofChange fnExactObjReadSpec)) fnExactObjReadCard

/-- THE TIED CARD OF 'laws.FnExactObjOf'. -/
def fnExactObjOfCard : Claim7 := { stood := { row := fnExactObjOfRow, standIns := [], harness := (true, "98416e4db88c125f53a2842b21afd63e5bac28e25b2a5ecaf36a4455f35f798b"), looks := true }, kinds := [], alts := [], laidByText := true, laidKinds := [.data, .data, .data, .data, .sentinel, .sentinel, .pinned], laidTests := true, laidLooks := .later }
def FnExactObjOfCardSaid : Prop := Claim7.holds Tryz.pinned (.plain (OpenSpec.ofChange fnExactObjOfSpec)) fnExactObjOfCard

/-- THE TIED CARD OF 'laws.FnKeptOf'. -/
def fnKeptOfCard : Claim7 := { stood := { row := fnKeptOfRow, standIns := [], harness := (true, "98416e4db88c125f53a2842b21afd63e5bac28e25b2a5ecaf36a4455f35f798b"), looks := true }, kinds := [], alts := [], laidByText := true, laidKinds := [.data, .data, .data, .data, .sentinel, .sentinel, .pinned], laidTests := true, laidLooks := .later }
def FnKeptOfCardSaid : Prop := Claim7.holds Tryz.pinned (.plain (OpenSpec.ofChange fnKeptOfSpec)) fnKeptOfCard

/-- THE TIED CARD OF 'laws.FnObjects'. -/
def fnObjectsCard : Claim7 := { stood := { row := fnObjectsRow, standIns := [], harness := (true, "98416e4db88c125f53a2842b21afd63e5bac28e25b2a5ecaf36a4455f35f798b"), looks := true }, kinds := [], alts := [], laidByText := true, laidKinds := [.data, .data, .data, .data, .sentinel, .sentinel, .pinned], laidTests := true, laidLooks := .later }
def FnObjectsCardSaid : Prop := Claim7.holds Tryz.pinned (.plain (OpenSpec.ofChange fnObjectsSpec)) fnObjectsCard

/-- THE SECOND FORM's CARD OF 'laws.FnHits'. -/
def fnHitsUptoCard : Claim7 := { stood := { row := fnHitsUptoRow, standIns := [], harness := (true, "98416e4db88c125f53a2842b21afd63e5bac28e25b2a5ecaf36a4455f35f798b"), looks := true }, kinds := [], alts := [], laidByText := true, laidKinds := [.data, .pinned], laidTests := true, laidLooks := .later }
def FnHitsUptoCardSaid : Prop := Claim7.holds Tryz.pinned (.plain (OpenSpec.upto fnHitsSpec)) fnHitsUptoCard

/-- THE SECOND FORM's CARD OF 'laws.FnControl'. -/
def fnControlUptoCard : Claim7 := { stood := { row := fnControlUptoRow, standIns := [], harness := (true, "98416e4db88c125f53a2842b21afd63e5bac28e25b2a5ecaf36a4455f35f798b"), looks := true }, kinds := [], alts := [], laidByText := true, laidKinds := [.data, .data, .data, .data, .sentinel, .sentinel, .pinned], laidTests := true, laidLooks := .later }
def FnControlUptoCardSaid : Prop := Claim7.holds Tryz.pinned (.plain (OpenSpec.upto fnControlSpec)) fnControlUptoCard

/-- THE SECOND FORM's CARD OF 'laws.FnMayKeep'. -/
def fnMayKeepUptoCard : Claim7 := { stood := { row := fnMayKeepUptoRow, standIns := [], harness := (true, "98416e4db88c125f53a2842b21afd63e5bac28e25b2a5ecaf36a4455f35f798b"), looks := true }, kinds := [], alts := [], laidByText := true, laidKinds := [.data, .data, .data, .data, .sentinel, .sentinel, .pinned], laidTests := true, laidLooks := .later }
def FnMayKeepUptoCardSaid : Prop := Claim7.holds Tryz.pinned (.plain (OpenSpec.upto fnMayKeepSpec)) fnMayKeepUptoCard

/-- THE SECOND FORM's CARD OF 'laws.FnExactObjRead'. -/
def fnExactObjReadUptoCard : Claim7 := { stood := { row := fnExactObjReadUptoRow, standIns := [], harness := (true, "98416e4db88c125f53a2842b21afd63e5bac28e25b2a5ecaf36a4455f35f798b"), looks := true }, kinds := [], alts := [], laidByText := true, laidKinds := [.data, .data, .data, .data, .sentinel, .sentinel, .pinned], laidTests := true, laidLooks := .later }
def FnExactObjReadUptoCardSaid : Prop := Claim7.holds Tryz.pinned (.plain (OpenSpec.upto fnExactObjReadSpec)) fnExactObjReadUptoCard

/-- THE SECOND FORM's CARD OF 'laws.FnExactObjOf'. -/
def fnExactObjOfUptoCard : Claim7 := { stood := { row := fnExactObjOfUptoRow, standIns := [], harness := (true, "98416e4db88c125f53a2842b21afd63e5bac28e25b2a5ecaf36a4455f35f798b"), looks := true }, kinds := [], alts := [], laidByText := true, laidKinds := [.data, .data, .data, .data, .sentinel, .sentinel, .pinned], laidTests := true, laidLooks := .later }
def FnExactObjOfUptoCardSaid : Prop := Claim7.holds Tryz.pinned (.plain (OpenSpec.upto fnExactObjOfSpec)) fnExactObjOfUptoCard

/-- THE SECOND FORM's CARD OF 'laws.FnKeptOf'. -/
def fnKeptOfUptoCard : Claim7 := { stood := { row := fnKeptOfUptoRow, standIns := [], harness := (true, "98416e4db88c125f53a2842b21afd63e5bac28e25b2a5ecaf36a4455f35f798b"), looks := true }, kinds := [], alts := [], laidByText := true, laidKinds := [.data, .data, .data, .data, .sentinel, .sentinel, .pinned], laidTests := true, laidLooks := .later }
def FnKeptOfUptoCardSaid : Prop := Claim7.holds Tryz.pinned (.plain (OpenSpec.upto fnKeptOfSpec)) fnKeptOfUptoCard

/-- THE SECOND FORM's CARD OF 'laws.FnObjects'. -/
def fnObjectsUptoCard : Claim7 := { stood := { row := fnObjectsUptoRow, standIns := [], harness := (true, "98416e4db88c125f53a2842b21afd63e5bac28e25b2a5ecaf36a4455f35f798b"), looks := true }, kinds := [], alts := [], laidByText := true, laidKinds := [.data, .data, .data, .data, .sentinel, .sentinel, .pinned], laidTests := true, laidLooks := .later }
def FnObjectsUptoCardSaid : Prop := Claim7.holds Tryz.pinned (.plain (OpenSpec.upto fnObjectsSpec)) fnObjectsUptoCard
end Rows
end Go.Proofs.YtjlpjbkpmmpojaaGreatDoor
