/-
  No cell of these rows narrows 'for every input' (looked for: loops, veiled, ifaces, maps, wideKeys, modest, calm, conditions, laid).
  DERIVED. THE GIVEN ROWS OF THIS SEAT. 12 by the template 'for every input the law returns true; each argument reads behind the call as it read before'; 0 by the template 'total and deterministic' (their statements: YthognlaaedohgaaTotals.lean).
  GIVEN WITH THE SEED: the statements are not yours to turn. If you find one false, say at which input.
  Laid BY PROGRAM, IN A SANDBOX (cutbox-rows.mjs): the forced cells as the released guide's own fill.sh prints them over the translation b2fd33ff505ae71c… (all of the seat's roots in one cut). By AI agents, Wed Nov 11 2026. No macro, syntax, notation, axiom, sorry.
-/
import Derived.Test.YthognlaaedohgaaChecked
import GoSem.Claim
import GoSem.ClaimJoined
import GoSem.ClaimMapViews
import Derived.JoinedTies
import Derived.KernelRfl
namespace Go.Proofs.Ythognlaaedohgaa
/- THE CELL 'sum', in the pinned program and in every row, IS THE sha256 OF THE DUMP (.gsa) THAT YthognlaaedohgaaProg.lean LOADS. Nothing in Lean hashes anything: it is a label: what it is worth is what the hold of that sum in a sandbox is worth. -/
noncomputable def Try.pinned : Pinned := { name := "ythognlaaedohgaa", sum := "b2fd33ff505ae71ca2fa76fa9e8fe87508eef4a7db4ffe6a25b0fe16ed0881e5", checked := Try.checked }
namespace Rows
def none {H : Type} : Left H := { results := [], args := [] }

/-- 'laws.FnExactConstants': WHATEVER THE INPUT: true; the input reads as it did. -/
def fnExactConstantsSpec : ChangeSpec := { name := "fnExactConstants", fn := fun _ => fun
  | [] => { results := [.lit (.bool true)], args := [] }
  | _ => none }
def fnExactConstantsRow : OpenClaim := { program := "ythognlaaedohgaa", sum := "b2fd33ff505ae71ca2fa76fa9e8fe87508eef4a7db4ffe6a25b0fe16ed0881e5", func := "loop.example/g00500/laws.FnExactConstants", spec := "fnExactConstants", apart := false }
def FnExactConstantsSaid : Prop := fnExactConstantsRow.holds Try.pinned (OpenSpec.ofChange fnExactConstantsSpec)

/-- ITS FALSE NEIGHBOUR: 'it returns false'. Refute it at one input. -/
def fnExactConstantsWrong : ChangeSpec := { name := "fnExactConstants", fn := fun _ => fun
  | [] => { results := [.lit (.bool false)], args := [] }
  | _ => none }
def FnExactConstantsWrongFalsely : Prop := fnExactConstantsRow.holds Try.pinned (OpenSpec.ofChange fnExactConstantsWrong)

/-- 'laws.FnExactHalfSum': WHATEVER THE INPUT: true; the input reads as it did. -/
def fnExactHalfSumSpec : ChangeSpec := { name := "fnExactHalfSum", fn := fun _ => fun
  | [d1, d2] => { results := [.lit (.bool true)], args := [d1, d2] }
  | _ => none }
def fnExactHalfSumRow : OpenClaim := { program := "ythognlaaedohgaa", sum := "b2fd33ff505ae71ca2fa76fa9e8fe87508eef4a7db4ffe6a25b0fe16ed0881e5", func := "loop.example/g00500/laws.FnExactHalfSum", spec := "fnExactHalfSum", apart := false }
def FnExactHalfSumSaid : Prop := fnExactHalfSumRow.holds Try.pinned (OpenSpec.ofChange fnExactHalfSumSpec)

/-- ITS FALSE NEIGHBOUR: 'it returns false'. Refute it at one input. -/
def fnExactHalfSumWrong : ChangeSpec := { name := "fnExactHalfSum", fn := fun _ => fun
  | [d1, d2] => { results := [.lit (.bool false)], args := [d1, d2] }
  | _ => none }
def FnExactHalfSumWrongFalsely : Prop := fnExactHalfSumRow.holds Try.pinned (OpenSpec.ofChange fnExactHalfSumWrong)

/-- 'laws.FnExactWideOk': WHATEVER THE INPUT: true; the input reads as it did. -/
def fnExactWideOkSpec : ChangeSpec := { name := "fnExactWideOk", fn := fun _ => fun
  | [d] => { results := [.lit (.bool true)], args := [d] }
  | _ => none }
def fnExactWideOkRow : OpenClaim := { program := "ythognlaaedohgaa", sum := "b2fd33ff505ae71ca2fa76fa9e8fe87508eef4a7db4ffe6a25b0fe16ed0881e5", func := "loop.example/g00500/laws.FnExactWideOk", spec := "fnExactWideOk", apart := false }
def FnExactWideOkSaid : Prop := fnExactWideOkRow.holds Try.pinned (OpenSpec.ofChange fnExactWideOkSpec)

/-- ITS FALSE NEIGHBOUR: 'it returns false'. Refute it at one input. -/
def fnExactWideOkWrong : ChangeSpec := { name := "fnExactWideOk", fn := fun _ => fun
  | [d] => { results := [.lit (.bool false)], args := [d] }
  | _ => none }
def FnExactWideOkWrongFalsely : Prop := fnExactWideOkRow.holds Try.pinned (OpenSpec.ofChange fnExactWideOkWrong)

/-- 'laws.FnExactAddInt': WHATEVER THE INPUT: true; the input reads as it did. -/
def fnExactAddIntSpec : ChangeSpec := { name := "fnExactAddInt", fn := fun _ => fun
  | [d1, d2] => { results := [.lit (.bool true)], args := [d1, d2] }
  | _ => none }
def fnExactAddIntRow : OpenClaim := { program := "ythognlaaedohgaa", sum := "b2fd33ff505ae71ca2fa76fa9e8fe87508eef4a7db4ffe6a25b0fe16ed0881e5", func := "loop.example/g00500/laws.FnExactAddInt", spec := "fnExactAddInt", apart := false }
def FnExactAddIntSaid : Prop := fnExactAddIntRow.holds Try.pinned (OpenSpec.ofChange fnExactAddIntSpec)

/-- ITS FALSE NEIGHBOUR: 'it returns false'. Refute it at one input. -/
def fnExactAddIntWrong : ChangeSpec := { name := "fnExactAddInt", fn := fun _ => fun
  | [d1, d2] => { results := [.lit (.bool false)], args := [d1, d2] }
  | _ => none }
def FnExactAddIntWrongFalsely : Prop := fnExactAddIntRow.holds Try.pinned (OpenSpec.ofChange fnExactAddIntWrong)

/-- 'laws.FnExactSubInt': WHATEVER THE INPUT: true; the input reads as it did. -/
def fnExactSubIntSpec : ChangeSpec := { name := "fnExactSubInt", fn := fun _ => fun
  | [d1, d2] => { results := [.lit (.bool true)], args := [d1, d2] }
  | _ => none }
def fnExactSubIntRow : OpenClaim := { program := "ythognlaaedohgaa", sum := "b2fd33ff505ae71ca2fa76fa9e8fe87508eef4a7db4ffe6a25b0fe16ed0881e5", func := "loop.example/g00500/laws.FnExactSubInt", spec := "fnExactSubInt", apart := false }
def FnExactSubIntSaid : Prop := fnExactSubIntRow.holds Try.pinned (OpenSpec.ofChange fnExactSubIntSpec)

/-- ITS FALSE NEIGHBOUR: 'it returns false'. Refute it at one input. -/
def fnExactSubIntWrong : ChangeSpec := { name := "fnExactSubInt", fn := fun _ => fun
  | [d1, d2] => { results := [.lit (.bool false)], args := [d1, d2] }
  | _ => none }
def FnExactSubIntWrongFalsely : Prop := fnExactSubIntRow.holds Try.pinned (OpenSpec.ofChange fnExactSubIntWrong)

/-- 'laws.FnExactBrought': WHATEVER THE INPUT: true; the input reads as it did. -/
def fnExactBroughtSpec : ChangeSpec := { name := "fnExactBrought", fn := fun _ => fun
  | [d1, d2, d3] => { results := [.lit (.bool true)], args := [d1, d2, d3] }
  | _ => none }
def fnExactBroughtRow : OpenClaim := { program := "ythognlaaedohgaa", sum := "b2fd33ff505ae71ca2fa76fa9e8fe87508eef4a7db4ffe6a25b0fe16ed0881e5", func := "loop.example/g00500/laws.FnExactBrought", spec := "fnExactBrought", apart := false }
def FnExactBroughtSaid : Prop := fnExactBroughtRow.holds Try.pinned (OpenSpec.ofChange fnExactBroughtSpec)

/-- ITS FALSE NEIGHBOUR: 'it returns false'. Refute it at one input. -/
def fnExactBroughtWrong : ChangeSpec := { name := "fnExactBrought", fn := fun _ => fun
  | [d1, d2, d3] => { results := [.lit (.bool false)], args := [d1, d2, d3] }
  | _ => none }
def FnExactBroughtWrongFalsely : Prop := fnExactBroughtRow.holds Try.pinned (OpenSpec.ofChange fnExactBroughtWrong)

/-- 'laws.FnExactSignOf': WHATEVER THE INPUT: true; the input reads as it did. -/
def fnExactSignOfSpec : ChangeSpec := { name := "fnExactSignOf", fn := fun _ => fun
  | [d] => { results := [.lit (.bool true)], args := [d] }
  | _ => none }
def fnExactSignOfRow : OpenClaim := { program := "ythognlaaedohgaa", sum := "b2fd33ff505ae71ca2fa76fa9e8fe87508eef4a7db4ffe6a25b0fe16ed0881e5", func := "loop.example/g00500/laws.FnExactSignOf", spec := "fnExactSignOf", apart := false }
def FnExactSignOfSaid : Prop := fnExactSignOfRow.holds Try.pinned (OpenSpec.ofChange fnExactSignOfSpec)

/-- ITS FALSE NEIGHBOUR: 'it returns false'. Refute it at one input. -/
def fnExactSignOfWrong : ChangeSpec := { name := "fnExactSignOf", fn := fun _ => fun
  | [d] => { results := [.lit (.bool false)], args := [d] }
  | _ => none }
def FnExactSignOfWrongFalsely : Prop := fnExactSignOfRow.holds Try.pinned (OpenSpec.ofChange fnExactSignOfWrong)

/-- 'laws.FnScale': WHATEVER THE INPUT: true; the input reads as it did. -/
def fnScaleSpec : ChangeSpec := { name := "fnScale", fn := fun _ => fun
  | [d] => { results := [.lit (.bool true)], args := [d] }
  | _ => none }
def fnScaleRow : OpenClaim := { program := "ythognlaaedohgaa", sum := "b2fd33ff505ae71ca2fa76fa9e8fe87508eef4a7db4ffe6a25b0fe16ed0881e5", func := "loop.example/g00500/laws.FnScale", spec := "fnScale", inPlace := ["math/bits.Add64"], apart := false }
def FnScaleSaid : Prop := fnScaleRow.holds Try.pinned (OpenSpec.ofChange fnScaleSpec)

/-- ITS FALSE NEIGHBOUR: 'it returns false'. Refute it at one input. -/
def fnScaleWrong : ChangeSpec := { name := "fnScale", fn := fun _ => fun
  | [d] => { results := [.lit (.bool false)], args := [d] }
  | _ => none }
def FnScaleWrongFalsely : Prop := fnScaleRow.holds Try.pinned (OpenSpec.ofChange fnScaleWrong)

/-- 'laws.FnExactFloorDiv': WHATEVER THE INPUT: true; the input reads as it did. -/
def fnExactFloorDivSpec : ChangeSpec := { name := "fnExactFloorDiv", fn := fun _ => fun
  | [d1, d2] => { results := [.lit (.bool true)], args := [d1, d2] }
  | _ => none }
def fnExactFloorDivRow : OpenClaim := { program := "ythognlaaedohgaa", sum := "b2fd33ff505ae71ca2fa76fa9e8fe87508eef4a7db4ffe6a25b0fe16ed0881e5", func := "loop.example/g00500/laws.FnExactFloorDiv", spec := "fnExactFloorDiv", apart := false }
def FnExactFloorDivSaid : Prop := fnExactFloorDivRow.holds Try.pinned (OpenSpec.ofChange fnExactFloorDivSpec)

/-- ITS FALSE NEIGHBOUR: 'it returns false'. Refute it at one input. -/
def fnExactFloorDivWrong : ChangeSpec := { name := "fnExactFloorDiv", fn := fun _ => fun
  | [d1, d2] => { results := [.lit (.bool false)], args := [d1, d2] }
  | _ => none }
def FnExactFloorDivWrongFalsely : Prop := fnExactFloorDivRow.holds Try.pinned (OpenSpec.ofChange fnExactFloorDivWrong)

/-- 'laws.FnExactFracOk': WHATEVER THE INPUT: true; the input reads as it did. -/
def fnExactFracOkSpec : ChangeSpec := { name := "fnExactFracOk", fn := fun _ => fun
  | [d] => { results := [.lit (.bool true)], args := [d] }
  | _ => none }
def fnExactFracOkRow : OpenClaim := { program := "ythognlaaedohgaa", sum := "b2fd33ff505ae71ca2fa76fa9e8fe87508eef4a7db4ffe6a25b0fe16ed0881e5", func := "loop.example/g00500/laws.FnExactFracOk", spec := "fnExactFracOk", apart := false }
def FnExactFracOkSaid : Prop := fnExactFracOkRow.holds Try.pinned (OpenSpec.ofChange fnExactFracOkSpec)

/-- ITS FALSE NEIGHBOUR: 'it returns false'. Refute it at one input. -/
def fnExactFracOkWrong : ChangeSpec := { name := "fnExactFracOk", fn := fun _ => fun
  | [d] => { results := [.lit (.bool false)], args := [d] }
  | _ => none }
def FnExactFracOkWrongFalsely : Prop := fnExactFracOkRow.holds Try.pinned (OpenSpec.ofChange fnExactFracOkWrong)

/-- 'laws.FnExactWideOf': WHATEVER THE INPUT: true; the input reads as it did. -/
def fnExactWideOfSpec : ChangeSpec := { name := "fnExactWideOf", fn := fun _ => fun
  | [d] => { results := [.lit (.bool true)], args := [d] }
  | _ => none }
def fnExactWideOfRow : OpenClaim := { program := "ythognlaaedohgaa", sum := "b2fd33ff505ae71ca2fa76fa9e8fe87508eef4a7db4ffe6a25b0fe16ed0881e5", func := "loop.example/g00500/laws.FnExactWideOf", spec := "fnExactWideOf", apart := false }
def FnExactWideOfSaid : Prop := fnExactWideOfRow.holds Try.pinned (OpenSpec.ofChange fnExactWideOfSpec)

/-- ITS FALSE NEIGHBOUR: 'it returns false'. Refute it at one input. -/
def fnExactWideOfWrong : ChangeSpec := { name := "fnExactWideOf", fn := fun _ => fun
  | [d] => { results := [.lit (.bool false)], args := [d] }
  | _ => none }
def FnExactWideOfWrongFalsely : Prop := fnExactWideOfRow.holds Try.pinned (OpenSpec.ofChange fnExactWideOfWrong)

/-- 'laws.FnExactIntOf': WHATEVER THE INPUT: true; the input reads as it did. -/
def fnExactIntOfSpec : ChangeSpec := { name := "fnExactIntOf", fn := fun _ => fun
  | [d] => { results := [.lit (.bool true)], args := [d] }
  | _ => none }
def fnExactIntOfRow : OpenClaim := { program := "ythognlaaedohgaa", sum := "b2fd33ff505ae71ca2fa76fa9e8fe87508eef4a7db4ffe6a25b0fe16ed0881e5", func := "loop.example/g00500/laws.FnExactIntOf", spec := "fnExactIntOf", apart := false }
def FnExactIntOfSaid : Prop := fnExactIntOfRow.holds Try.pinned (OpenSpec.ofChange fnExactIntOfSpec)

/-- ITS FALSE NEIGHBOUR: 'it returns false'. Refute it at one input. -/
def fnExactIntOfWrong : ChangeSpec := { name := "fnExactIntOf", fn := fun _ => fun
  | [d] => { results := [.lit (.bool false)], args := [d] }
  | _ => none }
def FnExactIntOfWrongFalsely : Prop := fnExactIntOfRow.holds Try.pinned (OpenSpec.ofChange fnExactIntOfWrong)

/- THE SECOND FORM. 'bulk': how many values and letters a reading holds, each counted each time it is reached (what is shared counts as often as it is met; a slice's spare places count too). A statement '..UptoSaid' is the law's where the arguments, and the package variables that the reading takes, are together of bulk at most 1048576: NARROWER than '..Said'. Prove '..Said' where nothing that the law and all that it calls make is longer than what came in: it says more and counts as full. Else prove '..UptoSaid'. A law counts once. -/
mutual
def uptoBulk {H : Type} : DataW H → Nat
  | .lit (.string bytes) => bytes.length + 1
  | .lit _ => 1
  | .nil => 1
  | .ptr d => uptoBulk d + 1
  | .slice elems spare => uptoBulkAll elems + uptoBulkAll spare + 1
  | .agg parts => uptoBulkAll parts + 1
  | .iface _ d => uptoBulk d + 1
  | .map entries => uptoBulkEntries entries + 1
  | .held _ => 1
def uptoBulkAll {H : Type} : List (DataW H) → Nat
  | [] => 0
  | d :: r => uptoBulk d + uptoBulkAll r
def uptoBulkEntries {H : Type} : List (Lit × DataW H) → Nat
  | [] => 0
  | x :: r => uptoBulkEntry x + uptoBulkEntries r
def uptoBulkEntry {H : Type} : Lit × DataW H → Nat
  | (.string bytes, d) => bytes.length + uptoBulk d + 1
  | (_, d) => uptoBulk d + 1
 end
def uptoSmall : (H : Type) → List (DataW H) → Bool := fun _ ds => decide (uptoBulkAll ds ≤ 1048576)
def OpenSpec.upto (s : _root_.Go.ChangeSpec) : _root_.Go.OpenSpec := { _root_.Go.OpenSpec.ofChange s with cond := some uptoSmall }

/-- 'laws.FnExactConstants', WHERE WHAT IT READS IS OF BULK AT MOST 1048576: true; the input reads as it did. -/
def fnExactConstantsUptoRow : OpenClaim := { program := "ythognlaaedohgaa", sum := "b2fd33ff505ae71ca2fa76fa9e8fe87508eef4a7db4ffe6a25b0fe16ed0881e5", func := "loop.example/g00500/laws.FnExactConstants", spec := "fnExactConstants", apart := false, narrowed := true }
def FnExactConstantsUptoSaid : Prop := fnExactConstantsUptoRow.holds Try.pinned (OpenSpec.upto fnExactConstantsSpec)

/-- 'laws.FnExactHalfSum', WHERE WHAT IT READS IS OF BULK AT MOST 1048576: true; the input reads as it did. -/
def fnExactHalfSumUptoRow : OpenClaim := { program := "ythognlaaedohgaa", sum := "b2fd33ff505ae71ca2fa76fa9e8fe87508eef4a7db4ffe6a25b0fe16ed0881e5", func := "loop.example/g00500/laws.FnExactHalfSum", spec := "fnExactHalfSum", apart := false, narrowed := true }
def FnExactHalfSumUptoSaid : Prop := fnExactHalfSumUptoRow.holds Try.pinned (OpenSpec.upto fnExactHalfSumSpec)

/-- 'laws.FnExactWideOk', WHERE WHAT IT READS IS OF BULK AT MOST 1048576: true; the input reads as it did. -/
def fnExactWideOkUptoRow : OpenClaim := { program := "ythognlaaedohgaa", sum := "b2fd33ff505ae71ca2fa76fa9e8fe87508eef4a7db4ffe6a25b0fe16ed0881e5", func := "loop.example/g00500/laws.FnExactWideOk", spec := "fnExactWideOk", apart := false, narrowed := true }
def FnExactWideOkUptoSaid : Prop := fnExactWideOkUptoRow.holds Try.pinned (OpenSpec.upto fnExactWideOkSpec)

/-- 'laws.FnExactAddInt', WHERE WHAT IT READS IS OF BULK AT MOST 1048576: true; the input reads as it did. -/
def fnExactAddIntUptoRow : OpenClaim := { program := "ythognlaaedohgaa", sum := "b2fd33ff505ae71ca2fa76fa9e8fe87508eef4a7db4ffe6a25b0fe16ed0881e5", func := "loop.example/g00500/laws.FnExactAddInt", spec := "fnExactAddInt", apart := false, narrowed := true }
def FnExactAddIntUptoSaid : Prop := fnExactAddIntUptoRow.holds Try.pinned (OpenSpec.upto fnExactAddIntSpec)

/-- 'laws.FnExactSubInt', WHERE WHAT IT READS IS OF BULK AT MOST 1048576: true; the input reads as it did. -/
def fnExactSubIntUptoRow : OpenClaim := { program := "ythognlaaedohgaa", sum := "b2fd33ff505ae71ca2fa76fa9e8fe87508eef4a7db4ffe6a25b0fe16ed0881e5", func := "loop.example/g00500/laws.FnExactSubInt", spec := "fnExactSubInt", apart := false, narrowed := true }
def FnExactSubIntUptoSaid : Prop := fnExactSubIntUptoRow.holds Try.pinned (OpenSpec.upto fnExactSubIntSpec)

/-- 'laws.FnExactBrought', WHERE WHAT IT READS IS OF BULK AT MOST 1048576: true; the input reads as it did. -/
def fnExactBroughtUptoRow : OpenClaim := { program := "ythognlaaedohgaa", sum := "b2fd33ff505ae71ca2fa76fa9e8fe87508eef4a7db4ffe6a25b0fe16ed0881e5", func := "loop.example/g00500/laws.FnExactBrought", spec := "fnExactBrought", apart := false, narrowed := true }
def FnExactBroughtUptoSaid : Prop := fnExactBroughtUptoRow.holds Try.pinned (OpenSpec.upto fnExactBroughtSpec)

/-- 'laws.FnExactSignOf', WHERE WHAT IT READS IS OF BULK AT MOST 1048576: true; the input reads as it did. -/
def fnExactSignOfUptoRow : OpenClaim := { program := "ythognlaaedohgaa", sum := "b2fd33ff505ae71ca2fa76fa9e8fe87508eef4a7db4ffe6a25b0fe16ed0881e5", func := "loop.example/g00500/laws.FnExactSignOf", spec := "fnExactSignOf", apart := false, narrowed := true }
def FnExactSignOfUptoSaid : Prop := fnExactSignOfUptoRow.holds Try.pinned (OpenSpec.upto fnExactSignOfSpec)

/-- 'laws.FnScale', WHERE WHAT IT READS IS OF BULK AT MOST 1048576: true; the input reads as it did. -/
def fnScaleUptoRow : OpenClaim := { program := "ythognlaaedohgaa", sum := "b2fd33ff505ae71ca2fa76fa9e8fe87508eef4a7db4ffe6a25b0fe16ed0881e5", func := "loop.example/g00500/laws.FnScale", spec := "fnScale", inPlace := ["math/bits.Add64"], apart := false, narrowed := true }
def FnScaleUptoSaid : Prop := fnScaleUptoRow.holds Try.pinned (OpenSpec.upto fnScaleSpec)

/-- 'laws.FnExactFloorDiv', WHERE WHAT IT READS IS OF BULK AT MOST 1048576: true; the input reads as it did. -/
def fnExactFloorDivUptoRow : OpenClaim := { program := "ythognlaaedohgaa", sum := "b2fd33ff505ae71ca2fa76fa9e8fe87508eef4a7db4ffe6a25b0fe16ed0881e5", func := "loop.example/g00500/laws.FnExactFloorDiv", spec := "fnExactFloorDiv", apart := false, narrowed := true }
def FnExactFloorDivUptoSaid : Prop := fnExactFloorDivUptoRow.holds Try.pinned (OpenSpec.upto fnExactFloorDivSpec)

/-- 'laws.FnExactFracOk', WHERE WHAT IT READS IS OF BULK AT MOST 1048576: true; the input reads as it did. -/
def fnExactFracOkUptoRow : OpenClaim := { program := "ythognlaaedohgaa", sum := "b2fd33ff505ae71ca2fa76fa9e8fe87508eef4a7db4ffe6a25b0fe16ed0881e5", func := "loop.example/g00500/laws.FnExactFracOk", spec := "fnExactFracOk", apart := false, narrowed := true }
def FnExactFracOkUptoSaid : Prop := fnExactFracOkUptoRow.holds Try.pinned (OpenSpec.upto fnExactFracOkSpec)

/-- 'laws.FnExactWideOf', WHERE WHAT IT READS IS OF BULK AT MOST 1048576: true; the input reads as it did. -/
def fnExactWideOfUptoRow : OpenClaim := { program := "ythognlaaedohgaa", sum := "b2fd33ff505ae71ca2fa76fa9e8fe87508eef4a7db4ffe6a25b0fe16ed0881e5", func := "loop.example/g00500/laws.FnExactWideOf", spec := "fnExactWideOf", apart := false, narrowed := true }
def FnExactWideOfUptoSaid : Prop := fnExactWideOfUptoRow.holds Try.pinned (OpenSpec.upto fnExactWideOfSpec)

/-- 'laws.FnExactIntOf', WHERE WHAT IT READS IS OF BULK AT MOST 1048576: true; the input reads as it did. -/
def fnExactIntOfUptoRow : OpenClaim := { program := "ythognlaaedohgaa", sum := "b2fd33ff505ae71ca2fa76fa9e8fe87508eef4a7db4ffe6a25b0fe16ed0881e5", func := "loop.example/g00500/laws.FnExactIntOf", spec := "fnExactIntOf", apart := false, narrowed := true }
def FnExactIntOfUptoSaid : Prop := fnExactIntOfUptoRow.holds Try.pinned (OpenSpec.upto fnExactIntOfSpec)

end Rows
end Go.Proofs.Ythognlaaedohgaa
