/-
  No cell of these rows narrows 'for every input' (looked for: loops, veiled, ifaces, maps, wideKeys, modest, calm, conditions, laid).
  DERIVED. THE GIVEN ROWS OF THIS SEAT. 11 by the template 'for every input the law returns true; each argument reads behind the call as it read before'; 0 by the template 'total and deterministic' (their statements: YteldfljjeofiaaaTotals.lean).
  GIVEN WITH THE SEED: the statements are not yours to turn. If you find one false, say at which input.
  Laid BY PROGRAM, IN A SANDBOX (cutbox-rows.mjs): the forced cells as the released guide's own fill.sh prints them over the translation 01693bc0355fef06… (all of the seat's roots in one cut). By AI agents, Wed Nov 11 2026. No macro, syntax, notation, axiom, sorry.
-/
import Derived.Test.YteldfljjeofiaaaChecked
import GoSem.Claim
import GoSem.ClaimJoined
import GoSem.ClaimMapViews
import Derived.JoinedTies
import Derived.KernelRfl
namespace Go.Proofs.Yteldfljjeofiaaa
/- THE CELL 'sum', in the pinned program and in every row, IS THE sha256 OF THE DUMP (.gsa) THAT YteldfljjeofiaaaProg.lean LOADS. Nothing in Lean hashes anything: it is a label: what it is worth is what the hold of that sum in a sandbox is worth. -/
noncomputable def Try.pinned : Pinned := { name := "yteldfljjeofiaaa", sum := "01693bc0355fef06505b6d87a0a8d5e47a8c5ba674ccb8cd6a381d0d2fc9d261", checked := Try.checked }
namespace Rows
def none {H : Type} : Left H := { results := [], args := [] }

/-- 'laws.FnExactSameConfig': WHATEVER THE INPUT: true; the input reads as it did. -/
def fnExactSameConfigSpec : ChangeSpec := { name := "fnExactSameConfig", fn := fun _ => fun
  | [d1, d2] => { results := [.lit (.bool true)], args := [d1, d2] }
  | _ => none }
def fnExactSameConfigRow : OpenClaim := { program := "yteldfljjeofiaaa", sum := "01693bc0355fef06505b6d87a0a8d5e47a8c5ba674ccb8cd6a381d0d2fc9d261", func := "loop.example/g00500/laws.FnExactSameConfig", spec := "fnExactSameConfig", apart := false }
def FnExactSameConfigSaid : Prop := fnExactSameConfigRow.holds Try.pinned (OpenSpec.ofChange fnExactSameConfigSpec)

/-- ITS FALSE NEIGHBOUR: 'it returns false'. Refute it at one input. -/
def fnExactSameConfigWrong : ChangeSpec := { name := "fnExactSameConfig", fn := fun _ => fun
  | [d1, d2] => { results := [.lit (.bool false)], args := [d1, d2] }
  | _ => none }
def FnExactSameConfigWrongFalsely : Prop := fnExactSameConfigRow.holds Try.pinned (OpenSpec.ofChange fnExactSameConfigWrong)

/-- 'laws.FnExactScaleWide': WHATEVER THE INPUT: true; the input reads as it did. -/
def fnExactScaleWideSpec : ChangeSpec := { name := "fnExactScaleWide", fn := fun _ => fun
  | [d1, d2] => { results := [.lit (.bool true)], args := [d1, d2] }
  | _ => none }
def fnExactScaleWideRow : OpenClaim := { program := "yteldfljjeofiaaa", sum := "01693bc0355fef06505b6d87a0a8d5e47a8c5ba674ccb8cd6a381d0d2fc9d261", func := "loop.example/g00500/laws.FnExactScaleWide", spec := "fnExactScaleWide", inPlace := ["math/bits.Add64"], apart := false }
def FnExactScaleWideSaid : Prop := fnExactScaleWideRow.holds Try.pinned (OpenSpec.ofChange fnExactScaleWideSpec)

/-- ITS FALSE NEIGHBOUR: 'it returns false'. Refute it at one input. -/
def fnExactScaleWideWrong : ChangeSpec := { name := "fnExactScaleWide", fn := fun _ => fun
  | [d1, d2] => { results := [.lit (.bool false)], args := [d1, d2] }
  | _ => none }
def FnExactScaleWideWrongFalsely : Prop := fnExactScaleWideRow.holds Try.pinned (OpenSpec.ofChange fnExactScaleWideWrong)

/-- 'laws.FnExactSameRows': WHATEVER THE INPUT: true; the input reads as it did. -/
def fnExactSameRowsSpec : ChangeSpec := { name := "fnExactSameRows", fn := fun _ => fun
  | [d1, d2] => { results := [.lit (.bool true)], args := [d1, d2] }
  | _ => none }
def fnExactSameRowsRow : OpenClaim := { program := "yteldfljjeofiaaa", sum := "01693bc0355fef06505b6d87a0a8d5e47a8c5ba674ccb8cd6a381d0d2fc9d261", func := "loop.example/g00500/laws.FnExactSameRows", spec := "fnExactSameRows", unfollowed := true, recurses := true, apart := false }
def FnExactSameRowsSaid : Prop := fnExactSameRowsRow.holds Try.pinned (OpenSpec.ofChange fnExactSameRowsSpec)

/-- ITS FALSE NEIGHBOUR: 'it returns false'. Refute it at one input. -/
def fnExactSameRowsWrong : ChangeSpec := { name := "fnExactSameRows", fn := fun _ => fun
  | [d1, d2] => { results := [.lit (.bool false)], args := [d1, d2] }
  | _ => none }
def FnExactSameRowsWrongFalsely : Prop := fnExactSameRowsRow.holds Try.pinned (OpenSpec.ofChange fnExactSameRowsWrong)

/-- 'laws.FnExactConfigOk': WHATEVER THE INPUT: true; the input reads as it did. -/
def fnExactConfigOkSpec : ChangeSpec := { name := "fnExactConfigOk", fn := fun _ => fun
  | [d] => { results := [.lit (.bool true)], args := [d] }
  | _ => none }
def fnExactConfigOkRow : OpenClaim := { program := "yteldfljjeofiaaa", sum := "01693bc0355fef06505b6d87a0a8d5e47a8c5ba674ccb8cd6a381d0d2fc9d261", func := "loop.example/g00500/laws.FnExactConfigOk", spec := "fnExactConfigOk", unfollowed := true, recurses := true, apart := false }
def FnExactConfigOkSaid : Prop := fnExactConfigOkRow.holds Try.pinned (OpenSpec.ofChange fnExactConfigOkSpec)

/-- ITS FALSE NEIGHBOUR: 'it returns false'. Refute it at one input. -/
def fnExactConfigOkWrong : ChangeSpec := { name := "fnExactConfigOk", fn := fun _ => fun
  | [d] => { results := [.lit (.bool false)], args := [d] }
  | _ => none }
def FnExactConfigOkWrongFalsely : Prop := fnExactConfigOkRow.holds Try.pinned (OpenSpec.ofChange fnExactConfigOkWrong)

/-- 'laws.FnExactJoined': WHATEVER THE INPUT: true; the input reads as it did. -/
def fnExactJoinedSpec : ChangeSpec := { name := "fnExactJoined", fn := fun _ => fun
  | [d1, d2] => { results := [.lit (.bool true)], args := [d1, d2] }
  | _ => none }
def fnExactJoinedRow : OpenClaim := { program := "yteldfljjeofiaaa", sum := "01693bc0355fef06505b6d87a0a8d5e47a8c5ba674ccb8cd6a381d0d2fc9d261", func := "loop.example/g00500/laws.FnExactJoined", spec := "fnExactJoined", inPlace := ["internal/abi.NoEscape", "internal/bytealg.MakeNoZero"], apart := false }
def FnExactJoinedSaid : Prop := fnExactJoinedRow.holds Try.pinned (OpenSpec.ofChange fnExactJoinedSpec)

/-- ITS FALSE NEIGHBOUR: 'it returns false'. Refute it at one input. -/
def fnExactJoinedWrong : ChangeSpec := { name := "fnExactJoined", fn := fun _ => fun
  | [d1, d2] => { results := [.lit (.bool false)], args := [d1, d2] }
  | _ => none }
def FnExactJoinedWrongFalsely : Prop := fnExactJoinedRow.holds Try.pinned (OpenSpec.ofChange fnExactJoinedWrong)

/-- 'laws.FnWideInt': WHATEVER THE INPUT: true; the input reads as it did. -/
def fnWideIntSpec : ChangeSpec := { name := "fnWideInt", fn := fun _ => fun
  | [d] => { results := [.lit (.bool true)], args := [d] }
  | _ => none }
def fnWideIntRow : OpenClaim := { program := "yteldfljjeofiaaa", sum := "01693bc0355fef06505b6d87a0a8d5e47a8c5ba674ccb8cd6a381d0d2fc9d261", func := "loop.example/g00500/laws.FnWideInt", spec := "fnWideInt", apart := false }
def FnWideIntSaid : Prop := fnWideIntRow.holds Try.pinned (OpenSpec.ofChange fnWideIntSpec)

/-- ITS FALSE NEIGHBOUR: 'it returns false'. Refute it at one input. -/
def fnWideIntWrong : ChangeSpec := { name := "fnWideInt", fn := fun _ => fun
  | [d] => { results := [.lit (.bool false)], args := [d] }
  | _ => none }
def FnWideIntWrongFalsely : Prop := fnWideIntRow.holds Try.pinned (OpenSpec.ofChange fnWideIntWrong)

/-- 'laws.FnHalf': WHATEVER THE INPUT: true; the input reads as it did. -/
def fnHalfSpec : ChangeSpec := { name := "fnHalf", fn := fun _ => fun
  | [d] => { results := [.lit (.bool true)], args := [d] }
  | _ => none }
def fnHalfRow : OpenClaim := { program := "yteldfljjeofiaaa", sum := "01693bc0355fef06505b6d87a0a8d5e47a8c5ba674ccb8cd6a381d0d2fc9d261", func := "loop.example/g00500/laws.FnHalf", spec := "fnHalf", apart := false }
def FnHalfSaid : Prop := fnHalfRow.holds Try.pinned (OpenSpec.ofChange fnHalfSpec)

/-- ITS FALSE NEIGHBOUR: 'it returns false'. Refute it at one input. -/
def fnHalfWrong : ChangeSpec := { name := "fnHalf", fn := fun _ => fun
  | [d] => { results := [.lit (.bool false)], args := [d] }
  | _ => none }
def FnHalfWrongFalsely : Prop := fnHalfRow.holds Try.pinned (OpenSpec.ofChange fnHalfWrong)

/-- 'laws.FnExactAddWide': WHATEVER THE INPUT: true; the input reads as it did. -/
def fnExactAddWideSpec : ChangeSpec := { name := "fnExactAddWide", fn := fun _ => fun
  | [d1, d2] => { results := [.lit (.bool true)], args := [d1, d2] }
  | _ => none }
def fnExactAddWideRow : OpenClaim := { program := "yteldfljjeofiaaa", sum := "01693bc0355fef06505b6d87a0a8d5e47a8c5ba674ccb8cd6a381d0d2fc9d261", func := "loop.example/g00500/laws.FnExactAddWide", spec := "fnExactAddWide", inPlace := ["math/bits.Sub64", "math/bits.Add64"], apart := false }
def FnExactAddWideSaid : Prop := fnExactAddWideRow.holds Try.pinned (OpenSpec.ofChange fnExactAddWideSpec)

/-- ITS FALSE NEIGHBOUR: 'it returns false'. Refute it at one input. -/
def fnExactAddWideWrong : ChangeSpec := { name := "fnExactAddWide", fn := fun _ => fun
  | [d1, d2] => { results := [.lit (.bool false)], args := [d1, d2] }
  | _ => none }
def FnExactAddWideWrongFalsely : Prop := fnExactAddWideRow.holds Try.pinned (OpenSpec.ofChange fnExactAddWideWrong)

/-- 'laws.FnProduct': WHATEVER THE INPUT: true; the input reads as it did. -/
def fnProductSpec : ChangeSpec := { name := "fnProduct", fn := fun _ => fun
  | [d] => { results := [.lit (.bool true)], args := [d] }
  | _ => none }
def fnProductRow : OpenClaim := { program := "yteldfljjeofiaaa", sum := "01693bc0355fef06505b6d87a0a8d5e47a8c5ba674ccb8cd6a381d0d2fc9d261", func := "loop.example/g00500/laws.FnProduct", spec := "fnProduct", apart := false }
def FnProductSaid : Prop := fnProductRow.holds Try.pinned (OpenSpec.ofChange fnProductSpec)

/-- ITS FALSE NEIGHBOUR: 'it returns false'. Refute it at one input. -/
def fnProductWrong : ChangeSpec := { name := "fnProduct", fn := fun _ => fun
  | [d] => { results := [.lit (.bool false)], args := [d] }
  | _ => none }
def FnProductWrongFalsely : Prop := fnProductRow.holds Try.pinned (OpenSpec.ofChange fnProductWrong)

/-- 'laws.FnExactSubWide': WHATEVER THE INPUT: true; the input reads as it did. -/
def fnExactSubWideSpec : ChangeSpec := { name := "fnExactSubWide", fn := fun _ => fun
  | [d1, d2] => { results := [.lit (.bool true)], args := [d1, d2] }
  | _ => none }
def fnExactSubWideRow : OpenClaim := { program := "yteldfljjeofiaaa", sum := "01693bc0355fef06505b6d87a0a8d5e47a8c5ba674ccb8cd6a381d0d2fc9d261", func := "loop.example/g00500/laws.FnExactSubWide", spec := "fnExactSubWide", inPlace := ["math/bits.Sub64", "math/bits.Add64"], apart := false }
def FnExactSubWideSaid : Prop := fnExactSubWideRow.holds Try.pinned (OpenSpec.ofChange fnExactSubWideSpec)

/-- ITS FALSE NEIGHBOUR: 'it returns false'. Refute it at one input. -/
def fnExactSubWideWrong : ChangeSpec := { name := "fnExactSubWide", fn := fun _ => fun
  | [d1, d2] => { results := [.lit (.bool false)], args := [d1, d2] }
  | _ => none }
def FnExactSubWideWrongFalsely : Prop := fnExactSubWideRow.holds Try.pinned (OpenSpec.ofChange fnExactSubWideWrong)

/-- 'laws.FnExactCompareFrac': WHATEVER THE INPUT: true; the input reads as it did. -/
def fnExactCompareFracSpec : ChangeSpec := { name := "fnExactCompareFrac", fn := fun _ => fun
  | [d1, d2] => { results := [.lit (.bool true)], args := [d1, d2] }
  | _ => none }
def fnExactCompareFracRow : OpenClaim := { program := "yteldfljjeofiaaa", sum := "01693bc0355fef06505b6d87a0a8d5e47a8c5ba674ccb8cd6a381d0d2fc9d261", func := "loop.example/g00500/laws.FnExactCompareFrac", spec := "fnExactCompareFrac", inPlace := ["math/bits.Add64"], apart := false }
def FnExactCompareFracSaid : Prop := fnExactCompareFracRow.holds Try.pinned (OpenSpec.ofChange fnExactCompareFracSpec)

/-- ITS FALSE NEIGHBOUR: 'it returns false'. Refute it at one input. -/
def fnExactCompareFracWrong : ChangeSpec := { name := "fnExactCompareFrac", fn := fun _ => fun
  | [d1, d2] => { results := [.lit (.bool false)], args := [d1, d2] }
  | _ => none }
def FnExactCompareFracWrongFalsely : Prop := fnExactCompareFracRow.holds Try.pinned (OpenSpec.ofChange fnExactCompareFracWrong)

/- THE SECOND FORM. 'bulk': how many values and letters a reading holds, each counted each time it is reached (what is shared counts as often as it is met; a slice's spare places count too). A statement '..UptoSaid' is the law's where the arguments, and the package variables that the reading takes, are together of bulk at most 1048576: NARROWER than '..Said'. Prove '..Said' where nothing that the law and all that it calls make is longer than what came in: it says more and counts as full. Else prove '..UptoSaid'. A law counts once. -/
mutual
def uptoBulk {H : Type} : DataW H → Nat
  | .lit (.string bytes) => bytes.length + 1
  | .lit _ => 1
  | .nil => 1
  | .ptr d => uptoBulk d + 1
  | .slice elems spare => uptoBulkAll elems + uptoBulkAll spare + 1
  | .agg parts => uptoBulkAll parts + 1
  | .iface _ d => uptoBulk d + 1
  | .map entries => uptoBulkEntries entries + 1
  | .held _ => 1
def uptoBulkAll {H : Type} : List (DataW H) → Nat
  | [] => 0
  | d :: r => uptoBulk d + uptoBulkAll r
def uptoBulkEntries {H : Type} : List (Lit × DataW H) → Nat
  | [] => 0
  | x :: r => uptoBulkEntry x + uptoBulkEntries r
def uptoBulkEntry {H : Type} : Lit × DataW H → Nat
  | (.string bytes, d) => bytes.length + uptoBulk d + 1
  | (_, d) => uptoBulk d + 1
 end
def uptoSmall : (H : Type) → List (DataW H) → Bool := fun _ ds => decide (uptoBulkAll ds ≤ 1048576)
def OpenSpec.upto (s : _root_.Go.ChangeSpec) : _root_.Go.OpenSpec := { _root_.Go.OpenSpec.ofChange s with cond := some uptoSmall }

/-- 'laws.FnExactSameConfig', WHERE WHAT IT READS IS OF BULK AT MOST 1048576: true; the input reads as it did. -/
def fnExactSameConfigUptoRow : OpenClaim := { program := "yteldfljjeofiaaa", sum := "01693bc0355fef06505b6d87a0a8d5e47a8c5ba674ccb8cd6a381d0d2fc9d261", func := "loop.example/g00500/laws.FnExactSameConfig", spec := "fnExactSameConfig", apart := false, narrowed := true }
def FnExactSameConfigUptoSaid : Prop := fnExactSameConfigUptoRow.holds Try.pinned (OpenSpec.upto fnExactSameConfigSpec)

/-- 'laws.FnExactScaleWide', WHERE WHAT IT READS IS OF BULK AT MOST 1048576: true; the input reads as it did. -/
def fnExactScaleWideUptoRow : OpenClaim := { program := "yteldfljjeofiaaa", sum := "01693bc0355fef06505b6d87a0a8d5e47a8c5ba674ccb8cd6a381d0d2fc9d261", func := "loop.example/g00500/laws.FnExactScaleWide", spec := "fnExactScaleWide", inPlace := ["math/bits.Add64"], apart := false, narrowed := true }
def FnExactScaleWideUptoSaid : Prop := fnExactScaleWideUptoRow.holds Try.pinned (OpenSpec.upto fnExactScaleWideSpec)

/-- 'laws.FnExactSameRows', WHERE WHAT IT READS IS OF BULK AT MOST 1048576: true; the input reads as it did. -/
def fnExactSameRowsUptoRow : OpenClaim := { program := "yteldfljjeofiaaa", sum := "01693bc0355fef06505b6d87a0a8d5e47a8c5ba674ccb8cd6a381d0d2fc9d261", func := "loop.example/g00500/laws.FnExactSameRows", spec := "fnExactSameRows", unfollowed := true, recurses := true, apart := false, narrowed := true }
def FnExactSameRowsUptoSaid : Prop := fnExactSameRowsUptoRow.holds Try.pinned (OpenSpec.upto fnExactSameRowsSpec)

/-- 'laws.FnExactConfigOk', WHERE WHAT IT READS IS OF BULK AT MOST 1048576: true; the input reads as it did. -/
def fnExactConfigOkUptoRow : OpenClaim := { program := "yteldfljjeofiaaa", sum := "01693bc0355fef06505b6d87a0a8d5e47a8c5ba674ccb8cd6a381d0d2fc9d261", func := "loop.example/g00500/laws.FnExactConfigOk", spec := "fnExactConfigOk", unfollowed := true, recurses := true, apart := false, narrowed := true }
def FnExactConfigOkUptoSaid : Prop := fnExactConfigOkUptoRow.holds Try.pinned (OpenSpec.upto fnExactConfigOkSpec)

/-- 'laws.FnExactJoined', WHERE WHAT IT READS IS OF BULK AT MOST 1048576: true; the input reads as it did. -/
def fnExactJoinedUptoRow : OpenClaim := { program := "yteldfljjeofiaaa", sum := "01693bc0355fef06505b6d87a0a8d5e47a8c5ba674ccb8cd6a381d0d2fc9d261", func := "loop.example/g00500/laws.FnExactJoined", spec := "fnExactJoined", inPlace := ["internal/abi.NoEscape", "internal/bytealg.MakeNoZero"], apart := false, narrowed := true }
def FnExactJoinedUptoSaid : Prop := fnExactJoinedUptoRow.holds Try.pinned (OpenSpec.upto fnExactJoinedSpec)

/-- 'laws.FnWideInt', WHERE WHAT IT READS IS OF BULK AT MOST 1048576: true; the input reads as it did. -/
def fnWideIntUptoRow : OpenClaim := { program := "yteldfljjeofiaaa", sum := "01693bc0355fef06505b6d87a0a8d5e47a8c5ba674ccb8cd6a381d0d2fc9d261", func := "loop.example/g00500/laws.FnWideInt", spec := "fnWideInt", apart := false, narrowed := true }
def FnWideIntUptoSaid : Prop := fnWideIntUptoRow.holds Try.pinned (OpenSpec.upto fnWideIntSpec)

/-- 'laws.FnHalf', WHERE WHAT IT READS IS OF BULK AT MOST 1048576: true; the input reads as it did. -/
def fnHalfUptoRow : OpenClaim := { program := "yteldfljjeofiaaa", sum := "01693bc0355fef06505b6d87a0a8d5e47a8c5ba674ccb8cd6a381d0d2fc9d261", func := "loop.example/g00500/laws.FnHalf", spec := "fnHalf", apart := false, narrowed := true }
def FnHalfUptoSaid : Prop := fnHalfUptoRow.holds Try.pinned (OpenSpec.upto fnHalfSpec)

/-- 'laws.FnExactAddWide', WHERE WHAT IT READS IS OF BULK AT MOST 1048576: true; the input reads as it did. -/
def fnExactAddWideUptoRow : OpenClaim := { program := "yteldfljjeofiaaa", sum := "01693bc0355fef06505b6d87a0a8d5e47a8c5ba674ccb8cd6a381d0d2fc9d261", func := "loop.example/g00500/laws.FnExactAddWide", spec := "fnExactAddWide", inPlace := ["math/bits.Sub64", "math/bits.Add64"], apart := false, narrowed := true }
def FnExactAddWideUptoSaid : Prop := fnExactAddWideUptoRow.holds Try.pinned (OpenSpec.upto fnExactAddWideSpec)

/-- 'laws.FnProduct', WHERE WHAT IT READS IS OF BULK AT MOST 1048576: true; the input reads as it did. -/
def fnProductUptoRow : OpenClaim := { program := "yteldfljjeofiaaa", sum := "01693bc0355fef06505b6d87a0a8d5e47a8c5ba674ccb8cd6a381d0d2fc9d261", func := "loop.example/g00500/laws.FnProduct", spec := "fnProduct", apart := false, narrowed := true }
def FnProductUptoSaid : Prop := fnProductUptoRow.holds Try.pinned (OpenSpec.upto fnProductSpec)

/-- 'laws.FnExactSubWide', WHERE WHAT IT READS IS OF BULK AT MOST 1048576: true; the input reads as it did. -/
def fnExactSubWideUptoRow : OpenClaim := { program := "yteldfljjeofiaaa", sum := "01693bc0355fef06505b6d87a0a8d5e47a8c5ba674ccb8cd6a381d0d2fc9d261", func := "loop.example/g00500/laws.FnExactSubWide", spec := "fnExactSubWide", inPlace := ["math/bits.Sub64", "math/bits.Add64"], apart := false, narrowed := true }
def FnExactSubWideUptoSaid : Prop := fnExactSubWideUptoRow.holds Try.pinned (OpenSpec.upto fnExactSubWideSpec)

/-- 'laws.FnExactCompareFrac', WHERE WHAT IT READS IS OF BULK AT MOST 1048576: true; the input reads as it did. -/
def fnExactCompareFracUptoRow : OpenClaim := { program := "yteldfljjeofiaaa", sum := "01693bc0355fef06505b6d87a0a8d5e47a8c5ba674ccb8cd6a381d0d2fc9d261", func := "loop.example/g00500/laws.FnExactCompareFrac", spec := "fnExactCompareFrac", inPlace := ["math/bits.Add64"], apart := false, narrowed := true }
def FnExactCompareFracUptoSaid : Prop := fnExactCompareFracUptoRow.holds Try.pinned (OpenSpec.upto fnExactCompareFracSpec)

end Rows
end Go.Proofs.Yteldfljjeofiaaa
