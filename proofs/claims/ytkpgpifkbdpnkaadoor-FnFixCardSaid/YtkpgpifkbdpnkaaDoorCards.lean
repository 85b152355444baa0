/-
  DERIVED. GIVEN WITH THE SEED: THE CARDS: each row of YtkpgpifkbdpnkaaDoorRows.lean that lists a variable, with what it lists TIED to the program's text (the seventh form; the later family's looks); each row that meets fmt, with fmt's text TOLD by the authors' own Lean function (tested against real Go, not proved from fmt's source: count such statements apart). THE CARD IS WHAT COUNTS. Prove the row's statement (the work); the ties are given (YtkpgpifkbdpnkaaDoorTie.lean); close each card by the builder's one call (the guide's Derived/Test/ToyasCard.lean, 'card_holds'). Laid BY PROGRAM, IN A SANDBOX (cutbox-door.mjs). By AI agents, Wed Nov 11 2026. No macro, syntax, notation, axiom, sorry.
-/
import Derived.Test.YtkpgpifkbdpnkaaDoorRows
import GoSem.ClaimSeven
namespace Go.Proofs.YtkpgpifkbdpnkaaDoor
namespace Rows

/-- THE TIED CARD OF 'laws.FnWideSmall'. -/
def fnWideSmallCard : Claim7 := { stood := { row := fnWideSmallRow, standIns := [], harness := (true, "f1b8c1925f56daa682f27029f07258d6f91c0924debf9686b5db29ed546d4b02"), looks := true }, kinds := [], alts := [], laidByText := true, laidKinds := [.data, .data, .data], laidTests := true, laidLooks := .later }
def FnWideSmallCardSaid : Prop := Claim7.holds Tryd.pinned (.plain (OpenSpec.ofChange fnWideSmallSpec)) fnWideSmallCard

/-- THE TIED CARD OF 'laws.FnExactFixNormal'. -/
def fnExactFixNormalCard : Claim7 := { stood := { row := fnExactFixNormalRow, standIns := [], harness := (true, "f1b8c1925f56daa682f27029f07258d6f91c0924debf9686b5db29ed546d4b02"), looks := true }, kinds := [], alts := [], laidByText := true, laidKinds := [.data, .data, .data, .data, .pinned], laidTests := true, laidLooks := .later }
def FnExactFixNormalCardSaid : Prop := Claim7.holds Tryd.pinned (.plain (OpenSpec.ofChange fnExactFixNormalSpec)) fnExactFixNormalCard

/-- THE TIED CARD OF 'laws.FnWideText'. -/
def fnWideTextCard : Claim7 := { stood := { row := fnWideTextRow, standIns := [], harness := (true, "f1b8c1925f56daa682f27029f07258d6f91c0924debf9686b5db29ed546d4b02"), looks := true }, kinds := [], alts := [], laidByText := true, laidKinds := [.data, .data, .data], laidTests := true, laidLooks := .later }
def FnWideTextCardSaid : Prop := Claim7.holds Tryd.pinned (.plain (OpenSpec.ofChange fnWideTextSpec)) fnWideTextCard

/-- THE TIED CARD OF 'laws.FnFracSum'. -/
def fnFracSumCard : Claim7 := { stood := { row := fnFracSumRow, standIns := [], harness := (true, "f1b8c1925f56daa682f27029f07258d6f91c0924debf9686b5db29ed546d4b02"), looks := true }, kinds := [], alts := [], laidByText := true, laidKinds := [.data, .data, .data], laidTests := true, laidLooks := .later }
def FnFracSumCardSaid : Prop := Claim7.holds Tryd.pinned (.plain (OpenSpec.ofChange fnFracSumSpec)) fnFracSumCard

/-- THE TIED CARD OF 'laws.FnFix'. -/
def fnFixCard : Claim7 := { stood := { row := fnFixRow, standIns := [], harness := (true, "f1b8c1925f56daa682f27029f07258d6f91c0924debf9686b5db29ed546d4b02"), looks := true }, kinds := [], alts := [], laidByText := true, laidKinds := [.data, .data, .data, .data, .pinned], laidTests := true, laidLooks := .later }
def FnFixCardSaid : Prop := Claim7.holds Tryd.pinned (.plain (OpenSpec.ofChange fnFixSpec)) fnFixCard

/-- THE TIED CARD OF 'laws.FnFracText'. -/
def fnFracTextCard : Claim7 := { stood := { row := fnFracTextRow, standIns := [], harness := (true, "f1b8c1925f56daa682f27029f07258d6f91c0924debf9686b5db29ed546d4b02"), looks := true }, kinds := [], alts := [], laidByText := true, laidKinds := [.data, .data, .data, .sentinel, .sentinel], laidTests := true, laidLooks := .later }
def FnFracTextCardSaid : Prop := Claim7.holds Tryd.pinned (.plain (OpenSpec.ofChange fnFracTextSpec)) fnFracTextCard

/-- THE SECOND FORM's CARD OF 'laws.FnWideSmall'. -/
def fnWideSmallUptoCard : Claim7 := { stood := { row := fnWideSmallUptoRow, standIns := [], harness := (true, "f1b8c1925f56daa682f27029f07258d6f91c0924debf9686b5db29ed546d4b02"), looks := true }, kinds := [], alts := [], laidByText := true, laidKinds := [.data, .data, .data], laidTests := true, laidLooks := .later }
def FnWideSmallUptoCardSaid : Prop := Claim7.holds Tryd.pinned (.plain (OpenSpec.upto fnWideSmallSpec)) fnWideSmallUptoCard

/-- THE SECOND FORM's CARD OF 'laws.FnExactFixNormal'. -/
def fnExactFixNormalUptoCard : Claim7 := { stood := { row := fnExactFixNormalUptoRow, standIns := [], harness := (true, "f1b8c1925f56daa682f27029f07258d6f91c0924debf9686b5db29ed546d4b02"), looks := true }, kinds := [], alts := [], laidByText := true, laidKinds := [.data, .data, .data, .data, .pinned], laidTests := true, laidLooks := .later }
def FnExactFixNormalUptoCardSaid : Prop := Claim7.holds Tryd.pinned (.plain (OpenSpec.upto fnExactFixNormalSpec)) fnExactFixNormalUptoCard

/-- THE SECOND FORM's CARD OF 'laws.FnWideText'. -/
def fnWideTextUptoCard : Claim7 := { stood := { row := fnWideTextUptoRow, standIns := [], harness := (true, "f1b8c1925f56daa682f27029f07258d6f91c0924debf9686b5db29ed546d4b02"), looks := true }, kinds := [], alts := [], laidByText := true, laidKinds := [.data, .data, .data], laidTests := true, laidLooks := .later }
def FnWideTextUptoCardSaid : Prop := Claim7.holds Tryd.pinned (.plain (OpenSpec.upto fnWideTextSpec)) fnWideTextUptoCard

/-- THE SECOND FORM's CARD OF 'laws.FnFracSum'. -/
def fnFracSumUptoCard : Claim7 := { stood := { row := fnFracSumUptoRow, standIns := [], harness := (true, "f1b8c1925f56daa682f27029f07258d6f91c0924debf9686b5db29ed546d4b02"), looks := true }, kinds := [], alts := [], laidByText := true, laidKinds := [.data, .data, .data], laidTests := true, laidLooks := .later }
def FnFracSumUptoCardSaid : Prop := Claim7.holds Tryd.pinned (.plain (OpenSpec.upto fnFracSumSpec)) fnFracSumUptoCard

/-- THE SECOND FORM's CARD OF 'laws.FnFix'. -/
def fnFixUptoCard : Claim7 := { stood := { row := fnFixUptoRow, standIns := [], harness := (true, "f1b8c1925f56daa682f27029f07258d6f91c0924debf9686b5db29ed546d4b02"), looks := true }, kinds := [], alts := [], laidByText := true, laidKinds := [.data, .data, .data, .data, .pinned], laidTests := true, laidLooks := .later }
def FnFixUptoCardSaid : Prop := Claim7.holds Tryd.pinned (.plain (OpenSpec.upto fnFixSpec)) fnFixUptoCard

/-- THE SECOND FORM's CARD OF 'laws.FnFracText'. -/
def fnFracTextUptoCard : Claim7 := { stood := { row := fnFracTextUptoRow, standIns := [], harness := (true, "f1b8c1925f56daa682f27029f07258d6f91c0924debf9686b5db29ed546d4b02"), looks := true }, kinds := [], alts := [], laidByText := true, laidKinds := [.data, .data, .data, .sentinel, .sentinel], laidTests := true, laidLooks := .later }
def FnFracTextUptoCardSaid : Prop := Claim7.holds Tryd.pinned (.plain (OpenSpec.upto fnFracTextSpec)) fnFracTextUptoCard
end Rows
end Go.Proofs.YtkpgpifkbdpnkaaDoor
