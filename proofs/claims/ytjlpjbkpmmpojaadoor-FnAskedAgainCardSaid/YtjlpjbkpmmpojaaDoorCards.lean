/-
  DERIVED. GIVEN WITH THE SEED: THE CARDS: each row of YtjlpjbkpmmpojaaDoorRows.lean that lists a variable, with what it lists TIED to the program's text (the seventh form; the later family's looks); each row that meets fmt, with fmt's text TOLD by the authors' own Lean function (tested against real Go, not proved from fmt's source: count such statements apart). THE CARD IS WHAT COUNTS. Prove the row's statement (the work); the ties are given (YtjlpjbkpmmpojaaDoorTie.lean); close each card by the builder's one call (the guide's Derived/Test/ToyasCard.lean, 'card_holds'). Laid BY PROGRAM, IN A SANDBOX (cutbox-door.mjs). By AI agents, Wed Nov 11 2026. No macro, syntax, notation, axiom, sorry.
-/
import Derived.Test.YtjlpjbkpmmpojaaDoorRows
import GoSem.ClaimSeven
namespace Go.Proofs.YtjlpjbkpmmpojaaDoor
namespace Rows

/-- THE TIED CARD OF 'laws.FnAskedAgain'. -/
def fnAskedAgainCard : Claim7 := { stood := { row := fnAskedAgainRow, standIns := [], harness := (true, "f9bc9023c07680239ea04fef91b0be8fa9cf957721ba2e5e0eefb0e4ed80b603"), looks := false }, kinds := [], alts := [], laidByText := true, laidKinds := [.data, .pinned], laidTests := true, laidLooks := .later }
def FnAskedAgainCardSaid : Prop := Claim7.holds Tryd.pinned (.plain (OpenSpec.ofChange fnAskedAgainSpec)) fnAskedAgainCard

/-- THE SECOND FORM's CARD OF 'laws.FnAskedAgain'. -/
def fnAskedAgainUptoCard : Claim7 := { stood := { row := fnAskedAgainUptoRow, standIns := [], harness := (true, "f9bc9023c07680239ea04fef91b0be8fa9cf957721ba2e5e0eefb0e4ed80b603"), looks := false }, kinds := [], alts := [], laidByText := true, laidKinds := [.data, .pinned], laidTests := true, laidLooks := .later }
def FnAskedAgainUptoCardSaid : Prop := Claim7.holds Tryd.pinned (.plain (OpenSpec.upto fnAskedAgainSpec)) fnAskedAgainUptoCard
end Rows
end Go.Proofs.YtjlpjbkpmmpojaaDoor
