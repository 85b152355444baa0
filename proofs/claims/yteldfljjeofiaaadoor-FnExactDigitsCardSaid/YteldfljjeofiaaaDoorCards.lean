/-
  DERIVED. GIVEN WITH THE SEED: THE CARDS: each row of YteldfljjeofiaaaDoorRows.lean that lists a variable, with what it lists TIED to the program's text (the seventh form; the later family's looks); each row that meets fmt, with fmt's text TOLD by the authors' own Lean function (tested against real Go, not proved from fmt's source: count such statements apart). THE CARD IS WHAT COUNTS. Prove the row's statement (the work); the ties are given (YteldfljjeofiaaaDoorTie.lean); close each card by the builder's one call (the guide's Derived/Test/ToyasCard.lean, 'card_holds'). Laid BY PROGRAM, IN A SANDBOX (cutbox-door.mjs). By AI agents, Wed Nov 11 2026. No macro, syntax, notation, axiom, sorry.
-/
import Derived.Test.YteldfljjeofiaaaDoorRows
import GoSem.ClaimSeven
namespace Go.Proofs.YteldfljjeofiaaaDoor
namespace Rows

/-- THE TIED CARD OF 'laws.FnExactDigits'. -/
def fnExactDigitsCard : Claim7 := { stood := { row := fnExactDigitsRow, standIns := [], harness := (true, "1b3ac6a31ae2c25fd350fe807d288ebc4cf8ccb99903070bed76bf566111b882"), looks := false }, kinds := [], alts := [], laidByText := true, laidKinds := [.data, .data, .data], laidTests := true, laidLooks := .later }
def FnExactDigitsCardSaid : Prop := Claim7.holds Tryd.pinned (.plain (OpenSpec.ofChange fnExactDigitsSpec)) fnExactDigitsCard

/-- THE SECOND FORM's CARD OF 'laws.FnExactDigits'. -/
def fnExactDigitsUptoCard : Claim7 := { stood := { row := fnExactDigitsUptoRow, standIns := [], harness := (true, "1b3ac6a31ae2c25fd350fe807d288ebc4cf8ccb99903070bed76bf566111b882"), looks := false }, kinds := [], alts := [], laidByText := true, laidKinds := [.data, .data, .data], laidTests := true, laidLooks := .later }
def FnExactDigitsUptoCardSaid : Prop := Claim7.holds Tryd.pinned (.plain (OpenSpec.upto fnExactDigitsSpec)) fnExactDigitsUptoCard
end Rows
end Go.Proofs.YteldfljjeofiaaaDoor
