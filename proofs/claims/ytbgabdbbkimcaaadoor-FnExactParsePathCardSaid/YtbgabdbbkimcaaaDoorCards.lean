/-
  DERIVED. GIVEN WITH THE SEED: THE CARDS: each row of YtbgabdbbkimcaaaDoorRows.lean that lists a variable, with what it lists TIED to the program's text (the seventh form; the later family's looks); each row that meets fmt, with fmt's text TOLD by the authors' own Lean function (tested against real Go, not proved from fmt's source: count such statements apart). THE CARD IS WHAT COUNTS. Prove the row's statement (the work); the ties are given (YtbgabdbbkimcaaaDoorTie.lean); close each card by the builder's one call (the guide's Derived/Test/ToyasCard.lean, 'card_holds'). Laid BY PROGRAM, IN A SANDBOX (cutbox-door.mjs). By AI agents, Wed Nov 11 2026. No macro, syntax, notation, axiom, sorry.
-/
import Derived.Test.YtbgabdbbkimcaaaDoorRows
import GoSem.ClaimSeven
namespace Go.Proofs.YtbgabdbbkimcaaaDoor
namespace Rows

/-- THE TIED CARD OF 'laws.FnExactParsePath'. -/
def fnExactParsePathCard : Claim7 := { stood := { row := fnExactParsePathRow, standIns := [], harness := (true, "479f68d2c0f50ac6b25014d1a3e7ba4ccbac3dee24f4a02dc72f6fa586c4d4c4"), looks := false }, kinds := [], alts := [], laidByText := true, laidKinds := [.data, .pinned], laidTests := true, laidLooks := .later }
def FnExactParsePathCardSaid : Prop := Claim7.holds Tryd.pinned (.plain (OpenSpec.ofChange fnExactParsePathSpec)) fnExactParsePathCard

/-- THE SECOND FORM's CARD OF 'laws.FnExactParsePath'. -/
def fnExactParsePathUptoCard : Claim7 := { stood := { row := fnExactParsePathUptoRow, standIns := [], harness := (true, "479f68d2c0f50ac6b25014d1a3e7ba4ccbac3dee24f4a02dc72f6fa586c4d4c4"), looks := false }, kinds := [], alts := [], laidByText := true, laidKinds := [.data, .pinned], laidTests := true, laidLooks := .later }
def FnExactParsePathUptoCardSaid : Prop := Claim7.holds Tryd.pinned (.plain (OpenSpec.upto fnExactParsePathSpec)) fnExactParsePathUptoCard
end Rows
end Go.Proofs.YtbgabdbbkimcaaaDoor
