/-
  DERIVED. GIVEN WITH THE SEED: THE CARDS: each row of YtpcglglfegkdaaaDoorRows.lean that lists a variable, with what it lists TIED to the program's text (the seventh form; the later family's looks); each row that meets fmt, with fmt's text TOLD by the authors' own Lean function (tested against real Go, not proved from fmt's source: count such statements apart). THE CARD IS WHAT COUNTS. Prove the row's statement (the work); the ties are given (YtpcglglfegkdaaaDoorTie.lean); close each card by the builder's one call (the guide's Derived/Test/ToyasCard.lean, 'card_holds'). Laid BY PROGRAM, IN A SANDBOX (cutbox-door.mjs). By AI agents, Wed Nov 11 2026. No macro, syntax, notation, axiom, sorry.
-/
import Derived.Test.YtpcglglfegkdaaaDoorRows
import GoSem.ClaimSeven
namespace Go.Proofs.YtpcglglfegkdaaaDoor
namespace Rows

/-- THE TIED CARD OF 'laws.FnExactCsvText'. -/
def fnExactCsvTextCard : Claim7 := { stood := { row := fnExactCsvTextRow, standIns := [], harness := (true, "09fe9eea533cdf00d037ca9881a488bfbf7a656973c87b13fc57676f1f6ce0b5"), looks := true }, kinds := [], alts := [], laidByText := true, laidKinds := [.data, .pinned], laidTests := true, laidLooks := .later }
def FnExactCsvTextCardSaid : Prop := Claim7.holds Tryd.pinned (.plain (OpenSpec.ofChange fnExactCsvTextSpec)) fnExactCsvTextCard

/-- THE TIED CARD OF 'laws.FnExactFracText'. -/
def fnExactFracTextCard : Claim7 := { stood := { row := fnExactFracTextRow, standIns := [], harness := (true, "09fe9eea533cdf00d037ca9881a488bfbf7a656973c87b13fc57676f1f6ce0b5"), looks := true }, kinds := [], alts := [], laidByText := true, laidKinds := [.data, .data, .data], laidTests := true, laidLooks := .later }
def FnExactFracTextCardSaid : Prop := Claim7.holds Tryd.pinned (.plain (OpenSpec.ofChange fnExactFracTextSpec)) fnExactFracTextCard

/-- THE TIED CARD OF 'laws.FnExactIntText'. -/
def fnExactIntTextCard : Claim7 := { stood := { row := fnExactIntTextRow, standIns := [], harness := (true, "09fe9eea533cdf00d037ca9881a488bfbf7a656973c87b13fc57676f1f6ce0b5"), looks := true }, kinds := [], alts := [], laidByText := true, laidKinds := [.data, .data, .data, .sentinel, .sentinel], laidTests := true, laidLooks := .later }
def FnExactIntTextCardSaid : Prop := Claim7.holds Tryd.pinned (.plain (OpenSpec.ofChange fnExactIntTextSpec)) fnExactIntTextCard

/-- THE TIED CARD OF 'laws.FnExactNumber'. -/
def fnExactNumberCard : Claim7 := { stood := { row := fnExactNumberRow, standIns := [], harness := (true, "09fe9eea533cdf00d037ca9881a488bfbf7a656973c87b13fc57676f1f6ce0b5"), looks := true }, kinds := [], alts := [], laidByText := true, laidKinds := [.data, .data, .data, .sentinel, .sentinel], laidTests := true, laidLooks := .later }
def FnExactNumberCardSaid : Prop := Claim7.holds Tryd.pinned (.plain (OpenSpec.ofChange fnExactNumberSpec)) fnExactNumberCard

/-- THE TIED CARD OF 'laws.FnDigits'. -/
def fnDigitsCard : Claim7 := { stood := { row := fnDigitsRow, standIns := [], harness := (true, "09fe9eea533cdf00d037ca9881a488bfbf7a656973c87b13fc57676f1f6ce0b5"), looks := true }, kinds := [], alts := [], laidByText := true, laidKinds := [.data, .data, .data, .sentinel, .sentinel], laidTests := true, laidLooks := .later }
def FnDigitsCardSaid : Prop := Claim7.holds Tryd.pinned (.plain (OpenSpec.ofChange fnDigitsSpec)) fnDigitsCard

/-- THE TIED CARD OF 'laws.FnCsv'. -/
def fnCsvCard : Claim7 := { stood := { row := fnCsvRow, standIns := [], harness := (true, "09fe9eea533cdf00d037ca9881a488bfbf7a656973c87b13fc57676f1f6ce0b5"), looks := true }, kinds := [], alts := [], laidByText := true, laidKinds := [.data, .pinned], laidTests := true, laidLooks := .later }
def FnCsvCardSaid : Prop := Claim7.holds Tryd.pinned (.plain (OpenSpec.ofChange fnCsvSpec)) fnCsvCard

/-- THE TIED CARD OF 'laws.FnCsvRead'. -/
def fnCsvReadCard : Claim7 := { stood := { row := fnCsvReadRow, standIns := [], harness := (true, "09fe9eea533cdf00d037ca9881a488bfbf7a656973c87b13fc57676f1f6ce0b5"), looks := true }, kinds := [], alts := [], laidByText := true, laidKinds := [.data, .pinned], laidTests := true, laidLooks := .later }
def FnCsvReadCardSaid : Prop := Claim7.holds Tryd.pinned (.plain (OpenSpec.ofChange fnCsvReadSpec)) fnCsvReadCard

/-- THE TIED CARD OF 'laws.FnExactReadWide'. -/
def fnExactReadWideCard : Claim7 := { stood := { row := fnExactReadWideRow, standIns := [], harness := (true, "09fe9eea533cdf00d037ca9881a488bfbf7a656973c87b13fc57676f1f6ce0b5"), looks := true }, kinds := [], alts := [], laidByText := true, laidKinds := [.data, .data, .data], laidTests := true, laidLooks := .later }
def FnExactReadWideCardSaid : Prop := Claim7.holds Tryd.pinned (.plain (OpenSpec.ofChange fnExactReadWideSpec)) fnExactReadWideCard

/-- THE SECOND FORM's CARD OF 'laws.FnExactCsvText'. -/
def fnExactCsvTextUptoCard : Claim7 := { stood := { row := fnExactCsvTextUptoRow, standIns := [], harness := (true, "09fe9eea533cdf00d037ca9881a488bfbf7a656973c87b13fc57676f1f6ce0b5"), looks := true }, kinds := [], alts := [], laidByText := true, laidKinds := [.data, .pinned], laidTests := true, laidLooks := .later }
def FnExactCsvTextUptoCardSaid : Prop := Claim7.holds Tryd.pinned (.plain (OpenSpec.upto fnExactCsvTextSpec)) fnExactCsvTextUptoCard

/-- THE SECOND FORM's CARD OF 'laws.FnExactFracText'. -/
def fnExactFracTextUptoCard : Claim7 := { stood := { row := fnExactFracTextUptoRow, standIns := [], harness := (true, "09fe9eea533cdf00d037ca9881a488bfbf7a656973c87b13fc57676f1f6ce0b5"), looks := true }, kinds := [], alts := [], laidByText := true, laidKinds := [.data, .data, .data], laidTests := true, laidLooks := .later }
def FnExactFracTextUptoCardSaid : Prop := Claim7.holds Tryd.pinned (.plain (OpenSpec.upto fnExactFracTextSpec)) fnExactFracTextUptoCard

/-- THE SECOND FORM's CARD OF 'laws.FnExactIntText'. -/
def fnExactIntTextUptoCard : Claim7 := { stood := { row := fnExactIntTextUptoRow, standIns := [], harness := (true, "09fe9eea533cdf00d037ca9881a488bfbf7a656973c87b13fc57676f1f6ce0b5"), looks := true }, kinds := [], alts := [], laidByText := true, laidKinds := [.data, .data, .data, .sentinel, .sentinel], laidTests := true, laidLooks := .later }
def FnExactIntTextUptoCardSaid : Prop := Claim7.holds Tryd.pinned (.plain (OpenSpec.upto fnExactIntTextSpec)) fnExactIntTextUptoCard

/-- THE SECOND FORM's CARD OF 'laws.FnExactNumber'. -/
def fnExactNumberUptoCard : Claim7 := { stood := { row := fnExactNumberUptoRow, standIns := [], harness := (true, "09fe9eea533cdf00d037ca9881a488bfbf7a656973c87b13fc57676f1f6ce0b5"), looks := true }, kinds := [], alts := [], laidByText := true, laidKinds := [.data, .data, .data, .sentinel, .sentinel], laidTests := true, laidLooks := .later }
def FnExactNumberUptoCardSaid : Prop := Claim7.holds Tryd.pinned (.plain (OpenSpec.upto fnExactNumberSpec)) fnExactNumberUptoCard

/-- THE SECOND FORM's CARD OF 'laws.FnDigits'. -/
def fnDigitsUptoCard : Claim7 := { stood := { row := fnDigitsUptoRow, standIns := [], harness := (true, "09fe9eea533cdf00d037ca9881a488bfbf7a656973c87b13fc57676f1f6ce0b5"), looks := true }, kinds := [], alts := [], laidByText := true, laidKinds := [.data, .data, .data, .sentinel, .sentinel], laidTests := true, laidLooks := .later }
def FnDigitsUptoCardSaid : Prop := Claim7.holds Tryd.pinned (.plain (OpenSpec.upto fnDigitsSpec)) fnDigitsUptoCard

/-- THE SECOND FORM's CARD OF 'laws.FnCsv'. -/
def fnCsvUptoCard : Claim7 := { stood := { row := fnCsvUptoRow, standIns := [], harness := (true, "09fe9eea533cdf00d037ca9881a488bfbf7a656973c87b13fc57676f1f6ce0b5"), looks := true }, kinds := [], alts := [], laidByText := true, laidKinds := [.data, .pinned], laidTests := true, laidLooks := .later }
def FnCsvUptoCardSaid : Prop := Claim7.holds Tryd.pinned (.plain (OpenSpec.upto fnCsvSpec)) fnCsvUptoCard

/-- THE SECOND FORM's CARD OF 'laws.FnCsvRead'. -/
def fnCsvReadUptoCard : Claim7 := { stood := { row := fnCsvReadUptoRow, standIns := [], harness := (true, "09fe9eea533cdf00d037ca9881a488bfbf7a656973c87b13fc57676f1f6ce0b5"), looks := true }, kinds := [], alts := [], laidByText := true, laidKinds := [.data, .pinned], laidTests := true, laidLooks := .later }
def FnCsvReadUptoCardSaid : Prop := Claim7.holds Tryd.pinned (.plain (OpenSpec.upto fnCsvReadSpec)) fnCsvReadUptoCard

/-- THE SECOND FORM's CARD OF 'laws.FnExactReadWide'. -/
def fnExactReadWideUptoCard : Claim7 := { stood := { row := fnExactReadWideUptoRow, standIns := [], harness := (true, "09fe9eea533cdf00d037ca9881a488bfbf7a656973c87b13fc57676f1f6ce0b5"), looks := true }, kinds := [], alts := [], laidByText := true, laidKinds := [.data, .data, .data], laidTests := true, laidLooks := .later }
def FnExactReadWideUptoCardSaid : Prop := Claim7.holds Tryd.pinned (.plain (OpenSpec.upto fnExactReadWideSpec)) fnExactReadWideUptoCard
end Rows
end Go.Proofs.YtpcglglfegkdaaaDoor
