/-
  DERIVED. GIVEN WITH THE SEED: THE CARDS: each row of YtodbmgnhcglcnaaDoorRows.lean that lists a variable, with what it lists TIED to the program's text (the seventh form; the later family's looks); each row that meets fmt, with fmt's text TOLD by the authors' own Lean function (tested against real Go, not proved from fmt's source: count such statements apart). THE CARD IS WHAT COUNTS. Prove the row's statement (the work); the ties are given (YtodbmgnhcglcnaaDoorTie.lean); close each card by the builder's one call (the guide's Derived/Test/ToyasCard.lean, 'card_holds'). Laid BY PROGRAM, IN A SANDBOX (cutbox-door.mjs). By AI agents, Wed Nov 11 2026. No macro, syntax, notation, axiom, sorry.
-/
import Derived.Test.YtodbmgnhcglcnaaDoorRows
import GoSem.ClaimSeven
namespace Go.Proofs.YtodbmgnhcglcnaaDoor
namespace Rows

/-- THE TIED CARD OF 'laws.FnExactParts'. -/
def fnExactPartsCard : Claim7 := { stood := { row := fnExactPartsRow, standIns := [], harness := (true, "19d5543440bdc568afde528e644ce1c8f8b47e90785dcf0f55184991379cc947"), looks := false }, kinds := [], alts := [], laidByText := true, laidKinds := [.data, .pinned], laidTests := true, laidLooks := .later }
def FnExactPartsCardSaid : Prop := Claim7.holds Tryd.pinned (.plain (OpenSpec.ofChange fnExactPartsSpec)) fnExactPartsCard

/-- THE TIED CARD OF 'laws.FnJoined'. -/
def fnJoinedCard : Claim7 := { stood := { row := fnJoinedRow, standIns := [], harness := (true, "19d5543440bdc568afde528e644ce1c8f8b47e90785dcf0f55184991379cc947"), looks := false }, kinds := [], alts := [], laidByText := true, laidKinds := [.data, .pinned], laidTests := true, laidLooks := .later }
def FnJoinedCardSaid : Prop := Claim7.holds Tryd.pinned (.plain (OpenSpec.ofChange fnJoinedSpec)) fnJoinedCard

/-- THE TIED CARD OF 'laws.FnExactCsvField'. -/
def fnExactCsvFieldCard : Claim7 := { stood := { row := fnExactCsvFieldRow, standIns := [], harness := (true, "19d5543440bdc568afde528e644ce1c8f8b47e90785dcf0f55184991379cc947"), looks := false }, kinds := [], alts := [], laidByText := true, laidKinds := [.data, .pinned], laidTests := true, laidLooks := .later }
def FnExactCsvFieldCardSaid : Prop := Claim7.holds Tryd.pinned (.plain (OpenSpec.ofChange fnExactCsvFieldSpec)) fnExactCsvFieldCard

/-- THE TIED CARD OF 'laws.FnExactWideText'. -/
def fnExactWideTextCard : Claim7 := { stood := { row := fnExactWideTextRow, standIns := [], harness := (true, "19d5543440bdc568afde528e644ce1c8f8b47e90785dcf0f55184991379cc947"), looks := false }, kinds := [], alts := [], laidByText := true, laidKinds := [.data, .data, .data], laidTests := true, laidLooks := .later }
def FnExactWideTextCardSaid : Prop := Claim7.holds Tryd.pinned (.plain (OpenSpec.ofChange fnExactWideTextSpec)) fnExactWideTextCard

/-- THE TIED CARD OF 'laws.FnExactConfigText'. -/
def fnExactConfigTextCard : Claim7 := { stood := { row := fnExactConfigTextRow, standIns := [], harness := (true, "19d5543440bdc568afde528e644ce1c8f8b47e90785dcf0f55184991379cc947"), looks := false }, kinds := [], alts := [], laidByText := true, laidKinds := [.data, .data, .data], laidTests := true, laidLooks := .later }
def FnExactConfigTextCardSaid : Prop := Claim7.holds Tryd.pinned (.plain (OpenSpec.ofChange fnExactConfigTextSpec)) fnExactConfigTextCard

/-- THE TIED CARD OF 'laws.FnExactFixText'. -/
def fnExactFixTextCard : Claim7 := { stood := { row := fnExactFixTextRow, standIns := [], harness := (true, "19d5543440bdc568afde528e644ce1c8f8b47e90785dcf0f55184991379cc947"), looks := false }, kinds := [], alts := [], laidByText := true, laidKinds := [.data, .data, .data, .data, .pinned], laidTests := true, laidLooks := .later }
def FnExactFixTextCardSaid : Prop := Claim7.holds Tryd.pinned (.plain (OpenSpec.ofChange fnExactFixTextSpec)) fnExactFixTextCard

/-- THE TIED CARD OF 'laws.FnExactReadFix'. -/
def fnExactReadFixCard : Claim7 := { stood := { row := fnExactReadFixRow, standIns := [], harness := (true, "19d5543440bdc568afde528e644ce1c8f8b47e90785dcf0f55184991379cc947"), looks := false }, kinds := [], alts := [], laidByText := true, laidKinds := [.data, .pinned], laidTests := true, laidLooks := .later }
def FnExactReadFixCardSaid : Prop := Claim7.holds Tryd.pinned (.plain (OpenSpec.ofChange fnExactReadFixSpec)) fnExactReadFixCard

/-- THE SECOND FORM's CARD OF 'laws.FnExactParts'. -/
def fnExactPartsUptoCard : Claim7 := { stood := { row := fnExactPartsUptoRow, standIns := [], harness := (true, "19d5543440bdc568afde528e644ce1c8f8b47e90785dcf0f55184991379cc947"), looks := false }, kinds := [], alts := [], laidByText := true, laidKinds := [.data, .pinned], laidTests := true, laidLooks := .later }
def FnExactPartsUptoCardSaid : Prop := Claim7.holds Tryd.pinned (.plain (OpenSpec.upto fnExactPartsSpec)) fnExactPartsUptoCard

/-- THE SECOND FORM's CARD OF 'laws.FnJoined'. -/
def fnJoinedUptoCard : Claim7 := { stood := { row := fnJoinedUptoRow, standIns := [], harness := (true, "19d5543440bdc568afde528e644ce1c8f8b47e90785dcf0f55184991379cc947"), looks := false }, kinds := [], alts := [], laidByText := true, laidKinds := [.data, .pinned], laidTests := true, laidLooks := .later }
def FnJoinedUptoCardSaid : Prop := Claim7.holds Tryd.pinned (.plain (OpenSpec.upto fnJoinedSpec)) fnJoinedUptoCard

/-- THE SECOND FORM's CARD OF 'laws.FnExactCsvField'. -/
def fnExactCsvFieldUptoCard : Claim7 := { stood := { row := fnExactCsvFieldUptoRow, standIns := [], harness := (true, "19d5543440bdc568afde528e644ce1c8f8b47e90785dcf0f55184991379cc947"), looks := false }, kinds := [], alts := [], laidByText := true, laidKinds := [.data, .pinned], laidTests := true, laidLooks := .later }
def FnExactCsvFieldUptoCardSaid : Prop := Claim7.holds Tryd.pinned (.plain (OpenSpec.upto fnExactCsvFieldSpec)) fnExactCsvFieldUptoCard

/-- THE SECOND FORM's CARD OF 'laws.FnExactWideText'. -/
def fnExactWideTextUptoCard : Claim7 := { stood := { row := fnExactWideTextUptoRow, standIns := [], harness := (true, "19d5543440bdc568afde528e644ce1c8f8b47e90785dcf0f55184991379cc947"), looks := false }, kinds := [], alts := [], laidByText := true, laidKinds := [.data, .data, .data], laidTests := true, laidLooks := .later }
def FnExactWideTextUptoCardSaid : Prop := Claim7.holds Tryd.pinned (.plain (OpenSpec.upto fnExactWideTextSpec)) fnExactWideTextUptoCard

/-- THE SECOND FORM's CARD OF 'laws.FnExactConfigText'. -/
def fnExactConfigTextUptoCard : Claim7 := { stood := { row := fnExactConfigTextUptoRow, standIns := [], harness := (true, "19d5543440bdc568afde528e644ce1c8f8b47e90785dcf0f55184991379cc947"), looks := false }, kinds := [], alts := [], laidByText := true, laidKinds := [.data, .data, .data], laidTests := true, laidLooks := .later }
def FnExactConfigTextUptoCardSaid : Prop := Claim7.holds Tryd.pinned (.plain (OpenSpec.upto fnExactConfigTextSpec)) fnExactConfigTextUptoCard

/-- THE SECOND FORM's CARD OF 'laws.FnExactFixText'. -/
def fnExactFixTextUptoCard : Claim7 := { stood := { row := fnExactFixTextUptoRow, standIns := [], harness := (true, "19d5543440bdc568afde528e644ce1c8f8b47e90785dcf0f55184991379cc947"), looks := false }, kinds := [], alts := [], laidByText := true, laidKinds := [.data, .data, .data, .data, .pinned], laidTests := true, laidLooks := .later }
def FnExactFixTextUptoCardSaid : Prop := Claim7.holds Tryd.pinned (.plain (OpenSpec.upto fnExactFixTextSpec)) fnExactFixTextUptoCard

/-- THE SECOND FORM's CARD OF 'laws.FnExactReadFix'. -/
def fnExactReadFixUptoCard : Claim7 := { stood := { row := fnExactReadFixUptoRow, standIns := [], harness := (true, "19d5543440bdc568afde528e644ce1c8f8b47e90785dcf0f55184991379cc947"), looks := false }, kinds := [], alts := [], laidByText := true, laidKinds := [.data, .pinned], laidTests := true, laidLooks := .later }
def FnExactReadFixUptoCardSaid : Prop := Claim7.holds Tryd.pinned (.plain (OpenSpec.upto fnExactReadFixSpec)) fnExactReadFixUptoCard
end Rows
end Go.Proofs.YtodbmgnhcglcnaaDoor
