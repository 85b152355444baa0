/-
  DERIVED. GIVEN WITH THE SEED: THE CARDS: each row of YtcbiijfiecjcaaaDoorRows.lean that lists a variable, with what it lists TIED to the program's text (the seventh form; the later family's looks); each row that meets fmt, with fmt's text TOLD by the authors' own Lean function (tested against real Go, not proved from fmt's source: count such statements apart). THE CARD IS WHAT COUNTS. Prove the row's statement (the work); the ties are given (YtcbiijfiecjcaaaDoorTie.lean); close each card by the builder's one call (the guide's Derived/Test/ToyasCard.lean, 'card_holds'). Laid BY PROGRAM, IN A SANDBOX (cutbox-door.mjs). By AI agents, Wed Nov 11 2026. No macro, syntax, notation, axiom, sorry.
-/
import Derived.Test.YtcbiijfiecjcaaaDoorRows
import GoSem.ClaimSeven
namespace Go.Proofs.YtcbiijfiecjcaaaDoor
namespace Rows

/-- THE TIED CARD OF 'laws.FnExactCsvField'. -/
def fnExactCsvFieldCard : Claim7 := { stood := { row := fnExactCsvFieldRow, standIns := [], harness := (true, "1541155c9bd68c5782edc6558b056f0172b61baa5fd729d16da7207a3b6ab93c"), looks := false }, kinds := [], alts := [], laidByText := true, laidKinds := [.data, .pinned], laidTests := true, laidLooks := .later }
def FnExactCsvFieldCardSaid : Prop := Claim7.holds Tryd.pinned (.plain (OpenSpec.ofChange fnExactCsvFieldSpec)) fnExactCsvFieldCard

/-- THE TIED CARD OF 'laws.FnExactConfigText'. -/
def fnExactConfigTextCard : Claim7 := { stood := { row := fnExactConfigTextRow, standIns := [], harness := (true, "1541155c9bd68c5782edc6558b056f0172b61baa5fd729d16da7207a3b6ab93c"), looks := false }, kinds := [], alts := [], laidByText := true, laidKinds := [.data, .data, .data], laidTests := true, laidLooks := .later }
def FnExactConfigTextCardSaid : Prop := Claim7.holds Tryd.pinned (.plain (OpenSpec.ofChange fnExactConfigTextSpec)) fnExactConfigTextCard

/-- THE TIED CARD OF 'laws.FnExactCsvText'. -/
def fnExactCsvTextCard : Claim7 := { stood := { row := fnExactCsvTextRow, standIns := [], harness := (true, "1541155c9bd68c5782edc6558b056f0172b61baa5fd729d16da7207a3b6ab93c"), looks := false }, kinds := [], alts := [], laidByText := true, laidKinds := [.data, .pinned], laidTests := true, laidLooks := .later }
def FnExactCsvTextCardSaid : Prop := Claim7.holds Tryd.pinned (.plain (OpenSpec.ofChange fnExactCsvTextSpec)) fnExactCsvTextCard

/-- THE TIED CARD OF 'laws.FnCsv'. -/
def fnCsvCard : Claim7 := { stood := { row := fnCsvRow, standIns := [], harness := (true, "1541155c9bd68c5782edc6558b056f0172b61baa5fd729d16da7207a3b6ab93c"), looks := false }, kinds := [], alts := [], laidByText := true, laidKinds := [.data, .pinned], laidTests := true, laidLooks := .later }
def FnCsvCardSaid : Prop := Claim7.holds Tryd.pinned (.plain (OpenSpec.ofChange fnCsvSpec)) fnCsvCard

/-- THE TIED CARD OF 'laws.FnCsvRead'. -/
def fnCsvReadCard : Claim7 := { stood := { row := fnCsvReadRow, standIns := [], harness := (true, "1541155c9bd68c5782edc6558b056f0172b61baa5fd729d16da7207a3b6ab93c"), looks := false }, kinds := [], alts := [], laidByText := true, laidKinds := [.data, .pinned], laidTests := true, laidLooks := .later }
def FnCsvReadCardSaid : Prop := Claim7.holds Tryd.pinned (.plain (OpenSpec.ofChange fnCsvReadSpec)) fnCsvReadCard

/-- THE SECOND FORM's CARD OF 'laws.FnExactCsvField'. -/
def fnExactCsvFieldUptoCard : Claim7 := { stood := { row := fnExactCsvFieldUptoRow, standIns := [], harness := (true, "1541155c9bd68c5782edc6558b056f0172b61baa5fd729d16da7207a3b6ab93c"), looks := false }, kinds := [], alts := [], laidByText := true, laidKinds := [.data, .pinned], laidTests := true, laidLooks := .later }
def FnExactCsvFieldUptoCardSaid : Prop := Claim7.holds Tryd.pinned (.plain (OpenSpec.upto fnExactCsvFieldSpec)) fnExactCsvFieldUptoCard

/-- THE SECOND FORM's CARD OF 'laws.FnExactConfigText'. -/
def fnExactConfigTextUptoCard : Claim7 := { stood := { row := fnExactConfigTextUptoRow, standIns := [], harness := (true, "1541155c9bd68c5782edc6558b056f0172b61baa5fd729d16da7207a3b6ab93c"), looks := false }, kinds := [], alts := [], laidByText := true, laidKinds := [.data, .data, .data], laidTests := true, laidLooks := .later }
def FnExactConfigTextUptoCardSaid : Prop := Claim7.holds Tryd.pinned (.plain (OpenSpec.upto fnExactConfigTextSpec)) fnExactConfigTextUptoCard

/-- THE SECOND FORM's CARD OF 'laws.FnExactCsvText'. -/
def fnExactCsvTextUptoCard : Claim7 := { stood := { row := fnExactCsvTextUptoRow, standIns := [], harness := (true, "1541155c9bd68c5782edc6558b056f0172b61baa5fd729d16da7207a3b6ab93c"), looks := false }, kinds := [], alts := [], laidByText := true, laidKinds := [.data, .pinned], laidTests := true, laidLooks := .later }
def FnExactCsvTextUptoCardSaid : Prop := Claim7.holds Tryd.pinned (.plain (OpenSpec.upto fnExactCsvTextSpec)) fnExactCsvTextUptoCard

/-- THE SECOND FORM's CARD OF 'laws.FnCsv'. -/
def fnCsvUptoCard : Claim7 := { stood := { row := fnCsvUptoRow, standIns := [], harness := (true, "1541155c9bd68c5782edc6558b056f0172b61baa5fd729d16da7207a3b6ab93c"), looks := false }, kinds := [], alts := [], laidByText := true, laidKinds := [.data, .pinned], laidTests := true, laidLooks := .later }
def FnCsvUptoCardSaid : Prop := Claim7.holds Tryd.pinned (.plain (OpenSpec.upto fnCsvSpec)) fnCsvUptoCard

/-- THE SECOND FORM's CARD OF 'laws.FnCsvRead'. -/
def fnCsvReadUptoCard : Claim7 := { stood := { row := fnCsvReadUptoRow, standIns := [], harness := (true, "1541155c9bd68c5782edc6558b056f0172b61baa5fd729d16da7207a3b6ab93c"), looks := false }, kinds := [], alts := [], laidByText := true, laidKinds := [.data, .pinned], laidTests := true, laidLooks := .later }
def FnCsvReadUptoCardSaid : Prop := Claim7.holds Tryd.pinned (.plain (OpenSpec.upto fnCsvReadSpec)) fnCsvReadUptoCard
end Rows
end Go.Proofs.YtcbiijfiecjcaaaDoor
