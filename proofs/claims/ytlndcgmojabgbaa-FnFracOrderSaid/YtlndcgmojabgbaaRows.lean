/-
  No cell of these rows narrows 'for every input' (looked for: loops, veiled, ifaces, maps, wideKeys, modest, calm, conditions, laid).
  DERIVED. THE GIVEN ROWS OF THIS SEAT. 12 by the template 'for every input the law returns true; each argument reads behind the call as it read before'; 0 by the template 'total and deterministic' (their statements: YtlndcgmojabgbaaTotals.lean).
  GIVEN WITH THE SEED: the statements are not yours to turn. If you find one false, say at which input.
  Laid BY PROGRAM, IN A SANDBOX (cutbox-rows.mjs): the forced cells as the released guide's own fill.sh prints them over the translation 958f5dd6a9ab3b9a… (all of the seat's roots in one cut). By AI agents, Wed Nov 11 2026. No macro, syntax, notation, axiom, sorry.
-/
import Derived.Test.YtlndcgmojabgbaaChecked
import GoSem.Claim
import GoSem.ClaimJoined
import GoSem.ClaimMapViews
import Derived.JoinedTies
import Derived.KernelRfl
namespace Go.Proofs.Ytlndcgmojabgbaa
/- THE CELL 'sum', in the pinned program and in every row, IS THE sha256 OF THE DUMP (.gsa) THAT YtlndcgmojabgbaaProg.lean LOADS. Nothing in Lean hashes anything: it is a label: what it is worth is what the hold of that sum in a sandbox is worth. -/
noncomputable def Try.pinned : Pinned := { name := "ytlndcgmojabgbaa", sum := "958f5dd6a9ab3b9ab2200195f83ee248eb31c5308fb24304d3ec338e7f2a2635", checked := Try.checked }
namespace Rows
def none {H : Type} : Left H := { results := [], args := [] }

/-- 'laws.FnExactNegWide': WHATEVER THE INPUT: true; the input reads as it did. -/
def fnExactNegWideSpec : ChangeSpec := { name := "fnExactNegWide", fn := fun _ => fun
  | [d] => { results := [.lit (.bool true)], args := [d] }
  | _ => none }
def fnExactNegWideRow : OpenClaim := { program := "ytlndcgmojabgbaa", sum := "958f5dd6a9ab3b9ab2200195f83ee248eb31c5308fb24304d3ec338e7f2a2635", func := "loop.example/g00500/laws.FnExactNegWide", spec := "fnExactNegWide", apart := false }
def FnExactNegWideSaid : Prop := fnExactNegWideRow.holds Try.pinned (OpenSpec.ofChange fnExactNegWideSpec)

/-- ITS FALSE NEIGHBOUR: 'it returns false'. Refute it at one input. -/
def fnExactNegWideWrong : ChangeSpec := { name := "fnExactNegWide", fn := fun _ => fun
  | [d] => { results := [.lit (.bool false)], args := [d] }
  | _ => none }
def FnExactNegWideWrongFalsely : Prop := fnExactNegWideRow.holds Try.pinned (OpenSpec.ofChange fnExactNegWideWrong)

/-- 'laws.FnExactMulInt': WHATEVER THE INPUT: true; the input reads as it did. -/
def fnExactMulIntSpec : ChangeSpec := { name := "fnExactMulInt", fn := fun _ => fun
  | [d1, d2] => { results := [.lit (.bool true)], args := [d1, d2] }
  | _ => none }
def fnExactMulIntRow : OpenClaim := { program := "ytlndcgmojabgbaa", sum := "958f5dd6a9ab3b9ab2200195f83ee248eb31c5308fb24304d3ec338e7f2a2635", func := "loop.example/g00500/laws.FnExactMulInt", spec := "fnExactMulInt", apart := false }
def FnExactMulIntSaid : Prop := fnExactMulIntRow.holds Try.pinned (OpenSpec.ofChange fnExactMulIntSpec)

/-- ITS FALSE NEIGHBOUR: 'it returns false'. Refute it at one input. -/
def fnExactMulIntWrong : ChangeSpec := { name := "fnExactMulInt", fn := fun _ => fun
  | [d1, d2] => { results := [.lit (.bool false)], args := [d1, d2] }
  | _ => none }
def FnExactMulIntWrongFalsely : Prop := fnExactMulIntRow.holds Try.pinned (OpenSpec.ofChange fnExactMulIntWrong)

/-- 'laws.FnExactMulWide': WHATEVER THE INPUT: true; the input reads as it did. -/
def fnExactMulWideSpec : ChangeSpec := { name := "fnExactMulWide", fn := fun _ => fun
  | [d1, d2] => { results := [.lit (.bool true)], args := [d1, d2] }
  | _ => none }
def fnExactMulWideRow : OpenClaim := { program := "ytlndcgmojabgbaa", sum := "958f5dd6a9ab3b9ab2200195f83ee248eb31c5308fb24304d3ec338e7f2a2635", func := "loop.example/g00500/laws.FnExactMulWide", spec := "fnExactMulWide", apart := false }
def FnExactMulWideSaid : Prop := fnExactMulWideRow.holds Try.pinned (OpenSpec.ofChange fnExactMulWideSpec)

/-- ITS FALSE NEIGHBOUR: 'it returns false'. Refute it at one input. -/
def fnExactMulWideWrong : ChangeSpec := { name := "fnExactMulWide", fn := fun _ => fun
  | [d1, d2] => { results := [.lit (.bool false)], args := [d1, d2] }
  | _ => none }
def FnExactMulWideWrongFalsely : Prop := fnExactMulWideRow.holds Try.pinned (OpenSpec.ofChange fnExactMulWideWrong)

/-- 'laws.FnWide': WHATEVER THE INPUT: true; the input reads as it did. -/
def fnWideSpec : ChangeSpec := { name := "fnWide", fn := fun _ => fun
  | [d] => { results := [.lit (.bool true)], args := [d] }
  | _ => none }
def fnWideRow : OpenClaim := { program := "ytlndcgmojabgbaa", sum := "958f5dd6a9ab3b9ab2200195f83ee248eb31c5308fb24304d3ec338e7f2a2635", func := "loop.example/g00500/laws.FnWide", spec := "fnWide", inPlace := ["math/bits.Sub64", "math/bits.Add64"], apart := false }
def FnWideSaid : Prop := fnWideRow.holds Try.pinned (OpenSpec.ofChange fnWideSpec)

/-- ITS FALSE NEIGHBOUR: 'it returns false'. Refute it at one input. -/
def fnWideWrong : ChangeSpec := { name := "fnWide", fn := fun _ => fun
  | [d] => { results := [.lit (.bool false)], args := [d] }
  | _ => none }
def FnWideWrongFalsely : Prop := fnWideRow.holds Try.pinned (OpenSpec.ofChange fnWideWrong)

/-- 'laws.FnExactUsualConfig': WHATEVER THE INPUT: true; the input reads as it did. -/
def fnExactUsualConfigSpec : ChangeSpec := { name := "fnExactUsualConfig", fn := fun _ => fun
  | [] => { results := [.lit (.bool true)], args := [] }
  | _ => none }
def fnExactUsualConfigRow : OpenClaim := { program := "ytlndcgmojabgbaa", sum := "958f5dd6a9ab3b9ab2200195f83ee248eb31c5308fb24304d3ec338e7f2a2635", func := "loop.example/g00500/laws.FnExactUsualConfig", spec := "fnExactUsualConfig", apart := false }
def FnExactUsualConfigSaid : Prop := fnExactUsualConfigRow.holds Try.pinned (OpenSpec.ofChange fnExactUsualConfigSpec)

/-- ITS FALSE NEIGHBOUR: 'it returns false'. Refute it at one input. -/
def fnExactUsualConfigWrong : ChangeSpec := { name := "fnExactUsualConfig", fn := fun _ => fun
  | [] => { results := [.lit (.bool false)], args := [] }
  | _ => none }
def FnExactUsualConfigWrongFalsely : Prop := fnExactUsualConfigRow.holds Try.pinned (OpenSpec.ofChange fnExactUsualConfigWrong)

/-- 'laws.FnExactCompareWide': WHATEVER THE INPUT: true; the input reads as it did. -/
def fnExactCompareWideSpec : ChangeSpec := { name := "fnExactCompareWide", fn := fun _ => fun
  | [d1, d2] => { results := [.lit (.bool true)], args := [d1, d2] }
  | _ => none }
def fnExactCompareWideRow : OpenClaim := { program := "ytlndcgmojabgbaa", sum := "958f5dd6a9ab3b9ab2200195f83ee248eb31c5308fb24304d3ec338e7f2a2635", func := "loop.example/g00500/laws.FnExactCompareWide", spec := "fnExactCompareWide", apart := false }
def FnExactCompareWideSaid : Prop := fnExactCompareWideRow.holds Try.pinned (OpenSpec.ofChange fnExactCompareWideSpec)

/-- ITS FALSE NEIGHBOUR: 'it returns false'. Refute it at one input. -/
def fnExactCompareWideWrong : ChangeSpec := { name := "fnExactCompareWide", fn := fun _ => fun
  | [d1, d2] => { results := [.lit (.bool false)], args := [d1, d2] }
  | _ => none }
def FnExactCompareWideWrongFalsely : Prop := fnExactCompareWideRow.holds Try.pinned (OpenSpec.ofChange fnExactCompareWideWrong)

/-- 'laws.FnAdded': WHATEVER THE INPUT: true; the input reads as it did. -/
def fnAddedSpec : ChangeSpec := { name := "fnAdded", fn := fun _ => fun
  | [d] => { results := [.lit (.bool true)], args := [d] }
  | _ => none }
def fnAddedRow : OpenClaim := { program := "ytlndcgmojabgbaa", sum := "958f5dd6a9ab3b9ab2200195f83ee248eb31c5308fb24304d3ec338e7f2a2635", func := "loop.example/g00500/laws.FnAdded", spec := "fnAdded", apart := false }
def FnAddedSaid : Prop := fnAddedRow.holds Try.pinned (OpenSpec.ofChange fnAddedSpec)

/-- ITS FALSE NEIGHBOUR: 'it returns false'. Refute it at one input. -/
def fnAddedWrong : ChangeSpec := { name := "fnAdded", fn := fun _ => fun
  | [d] => { results := [.lit (.bool false)], args := [d] }
  | _ => none }
def FnAddedWrongFalsely : Prop := fnAddedRow.holds Try.pinned (OpenSpec.ofChange fnAddedWrong)

/-- 'laws.FnExactSignFor': WHATEVER THE INPUT: true; the input reads as it did. -/
def fnExactSignForSpec : ChangeSpec := { name := "fnExactSignFor", fn := fun _ => fun
  | [d1, d2] => { results := [.lit (.bool true)], args := [d1, d2] }
  | _ => none }
def fnExactSignForRow : OpenClaim := { program := "ytlndcgmojabgbaa", sum := "958f5dd6a9ab3b9ab2200195f83ee248eb31c5308fb24304d3ec338e7f2a2635", func := "loop.example/g00500/laws.FnExactSignFor", spec := "fnExactSignFor", apart := false }
def FnExactSignForSaid : Prop := fnExactSignForRow.holds Try.pinned (OpenSpec.ofChange fnExactSignForSpec)

/-- ITS FALSE NEIGHBOUR: 'it returns false'. Refute it at one input. -/
def fnExactSignForWrong : ChangeSpec := { name := "fnExactSignFor", fn := fun _ => fun
  | [d1, d2] => { results := [.lit (.bool false)], args := [d1, d2] }
  | _ => none }
def FnExactSignForWrongFalsely : Prop := fnExactSignForRow.holds Try.pinned (OpenSpec.ofChange fnExactSignForWrong)

/-- 'laws.FnBrought': WHATEVER THE INPUT: true; the input reads as it did. -/
def fnBroughtSpec : ChangeSpec := { name := "fnBrought", fn := fun _ => fun
  | [d] => { results := [.lit (.bool true)], args := [d] }
  | _ => none }
def fnBroughtRow : OpenClaim := { program := "ytlndcgmojabgbaa", sum := "958f5dd6a9ab3b9ab2200195f83ee248eb31c5308fb24304d3ec338e7f2a2635", func := "loop.example/g00500/laws.FnBrought", spec := "fnBrought", apart := false }
def FnBroughtSaid : Prop := fnBroughtRow.holds Try.pinned (OpenSpec.ofChange fnBroughtSpec)

/-- ITS FALSE NEIGHBOUR: 'it returns false'. Refute it at one input. -/
def fnBroughtWrong : ChangeSpec := { name := "fnBrought", fn := fun _ => fun
  | [d] => { results := [.lit (.bool false)], args := [d] }
  | _ => none }
def FnBroughtWrongFalsely : Prop := fnBroughtRow.holds Try.pinned (OpenSpec.ofChange fnBroughtWrong)

/-- 'laws.FnSigns': WHATEVER THE INPUT: true; the input reads as it did. -/
def fnSignsSpec : ChangeSpec := { name := "fnSigns", fn := fun _ => fun
  | [d] => { results := [.lit (.bool true)], args := [d] }
  | _ => none }
def fnSignsRow : OpenClaim := { program := "ytlndcgmojabgbaa", sum := "958f5dd6a9ab3b9ab2200195f83ee248eb31c5308fb24304d3ec338e7f2a2635", func := "loop.example/g00500/laws.FnSigns", spec := "fnSigns", apart := false }
def FnSignsSaid : Prop := fnSignsRow.holds Try.pinned (OpenSpec.ofChange fnSignsSpec)

/-- ITS FALSE NEIGHBOUR: 'it returns false'. Refute it at one input. -/
def fnSignsWrong : ChangeSpec := { name := "fnSigns", fn := fun _ => fun
  | [d] => { results := [.lit (.bool false)], args := [d] }
  | _ => none }
def FnSignsWrongFalsely : Prop := fnSignsRow.holds Try.pinned (OpenSpec.ofChange fnSignsWrong)

/-- 'laws.FnFracOrder': WHATEVER THE INPUT: true; the input reads as it did. -/
def fnFracOrderSpec : ChangeSpec := { name := "fnFracOrder", fn := fun _ => fun
  | [d] => { results := [.lit (.bool true)], args := [d] }
  | _ => none }
def fnFracOrderRow : OpenClaim := { program := "ytlndcgmojabgbaa", sum := "958f5dd6a9ab3b9ab2200195f83ee248eb31c5308fb24304d3ec338e7f2a2635", func := "loop.example/g00500/laws.FnFracOrder", spec := "fnFracOrder", inPlace := ["math/bits.Add64", "math/bits.Sub64"], apart := false }
def FnFracOrderSaid : Prop := fnFracOrderRow.holds Try.pinned (OpenSpec.ofChange fnFracOrderSpec)

/-- ITS FALSE NEIGHBOUR: 'it returns false'. Refute it at one input. -/
def fnFracOrderWrong : ChangeSpec := { name := "fnFracOrder", fn := fun _ => fun
  | [d] => { results := [.lit (.bool false)], args := [d] }
  | _ => none }
def FnFracOrderWrongFalsely : Prop := fnFracOrderRow.holds Try.pinned (OpenSpec.ofChange fnFracOrderWrong)

/-- 'laws.FnExactSquareOver': WHATEVER THE INPUT: true; the input reads as it did. -/
def fnExactSquareOverSpec : ChangeSpec := { name := "fnExactSquareOver", fn := fun _ => fun
  | [d1, d2] => { results := [.lit (.bool true)], args := [d1, d2] }
  | _ => none }
def fnExactSquareOverRow : OpenClaim := { program := "ytlndcgmojabgbaa", sum := "958f5dd6a9ab3b9ab2200195f83ee248eb31c5308fb24304d3ec338e7f2a2635", func := "loop.example/g00500/laws.FnExactSquareOver", spec := "fnExactSquareOver", apart := false }
def FnExactSquareOverSaid : Prop := fnExactSquareOverRow.holds Try.pinned (OpenSpec.ofChange fnExactSquareOverSpec)

/-- ITS FALSE NEIGHBOUR: 'it returns false'. Refute it at one input. -/
def fnExactSquareOverWrong : ChangeSpec := { name := "fnExactSquareOver", fn := fun _ => fun
  | [d1, d2] => { results := [.lit (.bool false)], args := [d1, d2] }
  | _ => none }
def FnExactSquareOverWrongFalsely : Prop := fnExactSquareOverRow.holds Try.pinned (OpenSpec.ofChange fnExactSquareOverWrong)

/- THE SECOND FORM. 'bulk': how many values and letters a reading holds, each counted each time it is reached (what is shared counts as often as it is met; a slice's spare places count too). A statement '..UptoSaid' is the law's where the arguments, and the package variables that the reading takes, are together of bulk at most 1048576: NARROWER than '..Said'. Prove '..Said' where nothing that the law and all that it calls make is longer than what came in: it says more and counts as full. Else prove '..UptoSaid'. A law counts once. -/
mutual
def uptoBulk {H : Type} : DataW H → Nat
  | .lit (.string bytes) => bytes.length + 1
  | .lit _ => 1
  | .nil => 1
  | .ptr d => uptoBulk d + 1
  | .slice elems spare => uptoBulkAll elems + uptoBulkAll spare + 1
  | .agg parts => uptoBulkAll parts + 1
  | .iface _ d => uptoBulk d + 1
  | .map entries => uptoBulkEntries entries + 1
  | .held _ => 1
def uptoBulkAll {H : Type} : List (DataW H) → Nat
  | [] => 0
  | d :: r => uptoBulk d + uptoBulkAll r
def uptoBulkEntries {H : Type} : List (Lit × DataW H) → Nat
  | [] => 0
  | x :: r => uptoBulkEntry x + uptoBulkEntries r
def uptoBulkEntry {H : Type} : Lit × DataW H → Nat
  | (.string bytes, d) => bytes.length + uptoBulk d + 1
  | (_, d) => uptoBulk d + 1
 end
def uptoSmall : (H : Type) → List (DataW H) → Bool := fun _ ds => decide (uptoBulkAll ds ≤ 1048576)
def OpenSpec.upto (s : _root_.Go.ChangeSpec) : _root_.Go.OpenSpec := { _root_.Go.OpenSpec.ofChange s with cond := some uptoSmall }

/-- 'laws.FnExactNegWide', WHERE WHAT IT READS IS OF BULK AT MOST 1048576: true; the input reads as it did. -/
def fnExactNegWideUptoRow : OpenClaim := { program := "ytlndcgmojabgbaa", sum := "958f5dd6a9ab3b9ab2200195f83ee248eb31c5308fb24304d3ec338e7f2a2635", func := "loop.example/g00500/laws.FnExactNegWide", spec := "fnExactNegWide", apart := false, narrowed := true }
def FnExactNegWideUptoSaid : Prop := fnExactNegWideUptoRow.holds Try.pinned (OpenSpec.upto fnExactNegWideSpec)

/-- 'laws.FnExactMulInt', WHERE WHAT IT READS IS OF BULK AT MOST 1048576: true; the input reads as it did. -/
def fnExactMulIntUptoRow : OpenClaim := { program := "ytlndcgmojabgbaa", sum := "958f5dd6a9ab3b9ab2200195f83ee248eb31c5308fb24304d3ec338e7f2a2635", func := "loop.example/g00500/laws.FnExactMulInt", spec := "fnExactMulInt", apart := false, narrowed := true }
def FnExactMulIntUptoSaid : Prop := fnExactMulIntUptoRow.holds Try.pinned (OpenSpec.upto fnExactMulIntSpec)

/-- 'laws.FnExactMulWide', WHERE WHAT IT READS IS OF BULK AT MOST 1048576: true; the input reads as it did. -/
def fnExactMulWideUptoRow : OpenClaim := { program := "ytlndcgmojabgbaa", sum := "958f5dd6a9ab3b9ab2200195f83ee248eb31c5308fb24304d3ec338e7f2a2635", func := "loop.example/g00500/laws.FnExactMulWide", spec := "fnExactMulWide", apart := false, narrowed := true }
def FnExactMulWideUptoSaid : Prop := fnExactMulWideUptoRow.holds Try.pinned (OpenSpec.upto fnExactMulWideSpec)

/-- 'laws.FnWide', WHERE WHAT IT READS IS OF BULK AT MOST 1048576: true; the input reads as it did. -/
def fnWideUptoRow : OpenClaim := { program := "ytlndcgmojabgbaa", sum := "958f5dd6a9ab3b9ab2200195f83ee248eb31c5308fb24304d3ec338e7f2a2635", func := "loop.example/g00500/laws.FnWide", spec := "fnWide", inPlace := ["math/bits.Sub64", "math/bits.Add64"], apart := false, narrowed := true }
def FnWideUptoSaid : Prop := fnWideUptoRow.holds Try.pinned (OpenSpec.upto fnWideSpec)

/-- 'laws.FnExactUsualConfig', WHERE WHAT IT READS IS OF BULK AT MOST 1048576: true; the input reads as it did. -/
def fnExactUsualConfigUptoRow : OpenClaim := { program := "ytlndcgmojabgbaa", sum := "958f5dd6a9ab3b9ab2200195f83ee248eb31c5308fb24304d3ec338e7f2a2635", func := "loop.example/g00500/laws.FnExactUsualConfig", spec := "fnExactUsualConfig", apart := false, narrowed := true }
def FnExactUsualConfigUptoSaid : Prop := fnExactUsualConfigUptoRow.holds Try.pinned (OpenSpec.upto fnExactUsualConfigSpec)

/-- 'laws.FnExactCompareWide', WHERE WHAT IT READS IS OF BULK AT MOST 1048576: true; the input reads as it did. -/
def fnExactCompareWideUptoRow : OpenClaim := { program := "ytlndcgmojabgbaa", sum := "958f5dd6a9ab3b9ab2200195f83ee248eb31c5308fb24304d3ec338e7f2a2635", func := "loop.example/g00500/laws.FnExactCompareWide", spec := "fnExactCompareWide", apart := false, narrowed := true }
def FnExactCompareWideUptoSaid : Prop := fnExactCompareWideUptoRow.holds Try.pinned (OpenSpec.upto fnExactCompareWideSpec)

/-- 'laws.FnAdded', WHERE WHAT IT READS IS OF BULK AT MOST 1048576: true; the input reads as it did. -/
def fnAddedUptoRow : OpenClaim := { program := "ytlndcgmojabgbaa", sum := "958f5dd6a9ab3b9ab2200195f83ee248eb31c5308fb24304d3ec338e7f2a2635", func := "loop.example/g00500/laws.FnAdded", spec := "fnAdded", apart := false, narrowed := true }
def FnAddedUptoSaid : Prop := fnAddedUptoRow.holds Try.pinned (OpenSpec.upto fnAddedSpec)

/-- 'laws.FnExactSignFor', WHERE WHAT IT READS IS OF BULK AT MOST 1048576: true; the input reads as it did. -/
def fnExactSignForUptoRow : OpenClaim := { program := "ytlndcgmojabgbaa", sum := "958f5dd6a9ab3b9ab2200195f83ee248eb31c5308fb24304d3ec338e7f2a2635", func := "loop.example/g00500/laws.FnExactSignFor", spec := "fnExactSignFor", apart := false, narrowed := true }
def FnExactSignForUptoSaid : Prop := fnExactSignForUptoRow.holds Try.pinned (OpenSpec.upto fnExactSignForSpec)

/-- 'laws.FnBrought', WHERE WHAT IT READS IS OF BULK AT MOST 1048576: true; the input reads as it did. -/
def fnBroughtUptoRow : OpenClaim := { program := "ytlndcgmojabgbaa", sum := "958f5dd6a9ab3b9ab2200195f83ee248eb31c5308fb24304d3ec338e7f2a2635", func := "loop.example/g00500/laws.FnBrought", spec := "fnBrought", apart := false, narrowed := true }
def FnBroughtUptoSaid : Prop := fnBroughtUptoRow.holds Try.pinned (OpenSpec.upto fnBroughtSpec)

/-- 'laws.FnSigns', WHERE WHAT IT READS IS OF BULK AT MOST 1048576: true; the input reads as it did. -/
def fnSignsUptoRow : OpenClaim := { program := "ytlndcgmojabgbaa", sum := "958f5dd6a9ab3b9ab2200195f83ee248eb31c5308fb24304d3ec338e7f2a2635", func := "loop.example/g00500/laws.FnSigns", spec := "fnSigns", apart := false, narrowed := true }
def FnSignsUptoSaid : Prop := fnSignsUptoRow.holds Try.pinned (OpenSpec.upto fnSignsSpec)

/-- 'laws.FnFracOrder', WHERE WHAT IT READS IS OF BULK AT MOST 1048576: true; the input reads as it did. -/
def fnFracOrderUptoRow : OpenClaim := { program := "ytlndcgmojabgbaa", sum := "958f5dd6a9ab3b9ab2200195f83ee248eb31c5308fb24304d3ec338e7f2a2635", func := "loop.example/g00500/laws.FnFracOrder", spec := "fnFracOrder", inPlace := ["math/bits.Add64", "math/bits.Sub64"], apart := false, narrowed := true }
def FnFracOrderUptoSaid : Prop := fnFracOrderUptoRow.holds Try.pinned (OpenSpec.upto fnFracOrderSpec)

/-- 'laws.FnExactSquareOver', WHERE WHAT IT READS IS OF BULK AT MOST 1048576: true; the input reads as it did. -/
def fnExactSquareOverUptoRow : OpenClaim := { program := "ytlndcgmojabgbaa", sum := "958f5dd6a9ab3b9ab2200195f83ee248eb31c5308fb24304d3ec338e7f2a2635", func := "loop.example/g00500/laws.FnExactSquareOver", spec := "fnExactSquareOver", apart := false, narrowed := true }
def FnExactSquareOverUptoSaid : Prop := fnExactSquareOverUptoRow.holds Try.pinned (OpenSpec.upto fnExactSquareOverSpec)

end Rows
end Go.Proofs.Ytlndcgmojabgbaa
