/-
  No cell of these rows narrows 'for every input' (looked for: loops, veiled, ifaces, maps, wideKeys, modest, calm, conditions, laid).
  DERIVED. THE GIVEN ROWS OF THIS SEAT. 5 by the template 'for every input the law returns true; each argument reads behind the call as it read before'; 0 by the template 'total and deterministic' (their statements: YtodbmgnhcglcnaaTotals.lean).
  GIVEN WITH THE SEED: the statements are not yours to turn. If you find one false, say at which input.
  Laid BY PROGRAM, IN A SANDBOX (cutbox-rows.mjs): the forced cells as the released guide's own fill.sh prints them over the translation 7f1a4039ef6701a5… (all of the seat's roots in one cut). By AI agents, Wed Nov 11 2026. No macro, syntax, notation, axiom, sorry.
-/
import Derived.Test.YtodbmgnhcglcnaaChecked
import GoSem.Claim
import GoSem.ClaimJoined
import GoSem.ClaimMapViews
import Derived.JoinedTies
import Derived.KernelRfl
namespace Go.Proofs.Ytodbmgnhcglcnaa
/- THE CELL 'sum', in the pinned program and in every row, IS THE sha256 OF THE DUMP (.gsa) THAT YtodbmgnhcglcnaaProg.lean LOADS. Nothing in Lean hashes anything: it is a label: what it is worth is what the hold of that sum in a sandbox is worth. -/
noncomputable def Try.pinned : Pinned := { name := "ytodbmgnhcglcnaa", sum := "7f1a4039ef6701a5a560c6bf3537d8d72b6ad353a229878f57316f35235a9cb9", checked := Try.checked }
namespace Rows
def none {H : Type} : Left H := { results := [], args := [] }

/-- 'laws.FnFloor': WHATEVER THE INPUT: true; the input reads as it did. -/
def fnFloorSpec : ChangeSpec := { name := "fnFloor", fn := fun _ => fun
  | [d] => { results := [.lit (.bool true)], args := [d] }
  | _ => none }
def fnFloorRow : OpenClaim := { program := "ytodbmgnhcglcnaa", sum := "7f1a4039ef6701a5a560c6bf3537d8d72b6ad353a229878f57316f35235a9cb9", func := "loop.example/g00500/laws.FnFloor", spec := "fnFloor", inPlace := ["math/bits.Sub64", "math/bits.Add64"], apart := false }
def FnFloorSaid : Prop := fnFloorRow.holds Try.pinned (OpenSpec.ofChange fnFloorSpec)

/-- ITS FALSE NEIGHBOUR: 'it returns false'. Refute it at one input. -/
def fnFloorWrong : ChangeSpec := { name := "fnFloor", fn := fun _ => fun
  | [d] => { results := [.lit (.bool false)], args := [d] }
  | _ => none }
def FnFloorWrongFalsely : Prop := fnFloorRow.holds Try.pinned (OpenSpec.ofChange fnFloorWrong)

/-- 'laws.FnWideOrder': WHATEVER THE INPUT: true; the input reads as it did. -/
def fnWideOrderSpec : ChangeSpec := { name := "fnWideOrder", fn := fun _ => fun
  | [d] => { results := [.lit (.bool true)], args := [d] }
  | _ => none }
def fnWideOrderRow : OpenClaim := { program := "ytodbmgnhcglcnaa", sum := "7f1a4039ef6701a5a560c6bf3537d8d72b6ad353a229878f57316f35235a9cb9", func := "loop.example/g00500/laws.FnWideOrder", spec := "fnWideOrder", inPlace := ["math/bits.Sub64", "math/bits.Add64"], apart := false }
def FnWideOrderSaid : Prop := fnWideOrderRow.holds Try.pinned (OpenSpec.ofChange fnWideOrderSpec)

/-- ITS FALSE NEIGHBOUR: 'it returns false'. Refute it at one input. -/
def fnWideOrderWrong : ChangeSpec := { name := "fnWideOrder", fn := fun _ => fun
  | [d] => { results := [.lit (.bool false)], args := [d] }
  | _ => none }
def FnWideOrderWrongFalsely : Prop := fnWideOrderRow.holds Try.pinned (OpenSpec.ofChange fnWideOrderWrong)

/-- 'laws.FnExactTenTimes': WHATEVER THE INPUT: true; the input reads as it did. -/
def fnExactTenTimesSpec : ChangeSpec := { name := "fnExactTenTimes", fn := fun _ => fun
  | [d1, d2] => { results := [.lit (.bool true)], args := [d1, d2] }
  | _ => none }
def fnExactTenTimesRow : OpenClaim := { program := "ytodbmgnhcglcnaa", sum := "7f1a4039ef6701a5a560c6bf3537d8d72b6ad353a229878f57316f35235a9cb9", func := "loop.example/g00500/laws.FnExactTenTimes", spec := "fnExactTenTimes", inPlace := ["math/bits.Add64", "math/bits.Sub64"], apart := false }
def FnExactTenTimesSaid : Prop := fnExactTenTimesRow.holds Try.pinned (OpenSpec.ofChange fnExactTenTimesSpec)

/-- ITS FALSE NEIGHBOUR: 'it returns false'. Refute it at one input. -/
def fnExactTenTimesWrong : ChangeSpec := { name := "fnExactTenTimes", fn := fun _ => fun
  | [d1, d2] => { results := [.lit (.bool false)], args := [d1, d2] }
  | _ => none }
def FnExactTenTimesWrongFalsely : Prop := fnExactTenTimesRow.holds Try.pinned (OpenSpec.ofChange fnExactTenTimesWrong)

/-- 'laws.FnExactAddFrac': WHATEVER THE INPUT: true; the input reads as it did. -/
def fnExactAddFracSpec : ChangeSpec := { name := "fnExactAddFrac", fn := fun _ => fun
  | [d1, d2] => { results := [.lit (.bool true)], args := [d1, d2] }
  | _ => none }
def fnExactAddFracRow : OpenClaim := { program := "ytodbmgnhcglcnaa", sum := "7f1a4039ef6701a5a560c6bf3537d8d72b6ad353a229878f57316f35235a9cb9", func := "loop.example/g00500/laws.FnExactAddFrac", spec := "fnExactAddFrac", inPlace := ["math/bits.Add64", "math/bits.Sub64"], apart := false }
def FnExactAddFracSaid : Prop := fnExactAddFracRow.holds Try.pinned (OpenSpec.ofChange fnExactAddFracSpec)

/-- ITS FALSE NEIGHBOUR: 'it returns false'. Refute it at one input. -/
def fnExactAddFracWrong : ChangeSpec := { name := "fnExactAddFrac", fn := fun _ => fun
  | [d1, d2] => { results := [.lit (.bool false)], args := [d1, d2] }
  | _ => none }
def FnExactAddFracWrongFalsely : Prop := fnExactAddFracRow.holds Try.pinned (OpenSpec.ofChange fnExactAddFracWrong)

/-- 'laws.FnExactReadCsv': WHATEVER THE INPUT: true; the input reads as it did. -/
def fnExactReadCsvSpec : ChangeSpec := { name := "fnExactReadCsv", fn := fun _ => fun
  | [d] => { results := [.lit (.bool true)], args := [d] }
  | _ => none }
def fnExactReadCsvRow : OpenClaim := { program := "ytodbmgnhcglcnaa", sum := "7f1a4039ef6701a5a560c6bf3537d8d72b6ad353a229878f57316f35235a9cb9", func := "loop.example/g00500/laws.FnExactReadCsv", spec := "fnExactReadCsv", inPlace := ["internal/bytealg.IndexByteString", "internal/bytealg.IndexString"], named := ["internal/bytealg.MaxLen"], apart := false }
def FnExactReadCsvSaid : Prop := fnExactReadCsvRow.holds Try.pinned (OpenSpec.ofChange fnExactReadCsvSpec)

/-- ITS FALSE NEIGHBOUR: 'it returns false'. Refute it at one input. -/
def fnExactReadCsvWrong : ChangeSpec := { name := "fnExactReadCsv", fn := fun _ => fun
  | [d] => { results := [.lit (.bool false)], args := [d] }
  | _ => none }
def FnExactReadCsvWrongFalsely : Prop := fnExactReadCsvRow.holds Try.pinned (OpenSpec.ofChange fnExactReadCsvWrong)

/- THE SECOND FORM. 'bulk': how many values and letters a reading holds, each counted each time it is reached (what is shared counts as often as it is met; a slice's spare places count too). A statement '..UptoSaid' is the law's where the arguments, and the package variables that the reading takes, are together of bulk at most 1048576: NARROWER than '..Said'. Prove '..Said' where nothing that the law and all that it calls make is longer than what came in: it says more and counts as full. Else prove '..UptoSaid'. A law counts once. -/
mutual
def uptoBulk {H : Type} : DataW H → Nat
  | .lit (.string bytes) => bytes.length + 1
  | .lit _ => 1
  | .nil => 1
  | .ptr d => uptoBulk d + 1
  | .slice elems spare => uptoBulkAll elems + uptoBulkAll spare + 1
  | .agg parts => uptoBulkAll parts + 1
  | .iface _ d => uptoBulk d + 1
  | .map entries => uptoBulkEntries entries + 1
  | .held _ => 1
def uptoBulkAll {H : Type} : List (DataW H) → Nat
  | [] => 0
  | d :: r => uptoBulk d + uptoBulkAll r
def uptoBulkEntries {H : Type} : List (Lit × DataW H) → Nat
  | [] => 0
  | x :: r => uptoBulkEntry x + uptoBulkEntries r
def uptoBulkEntry {H : Type} : Lit × DataW H → Nat
  | (.string bytes, d) => bytes.length + uptoBulk d + 1
  | (_, d) => uptoBulk d + 1
 end
def uptoSmall : (H : Type) → List (DataW H) → Bool := fun _ ds => decide (uptoBulkAll ds ≤ 1048576)
def OpenSpec.upto (s : _root_.Go.ChangeSpec) : _root_.Go.OpenSpec := { _root_.Go.OpenSpec.ofChange s with cond := some uptoSmall }

/-- 'laws.FnFloor', WHERE WHAT IT READS IS OF BULK AT MOST 1048576: true; the input reads as it did. -/
def fnFloorUptoRow : OpenClaim := { program := "ytodbmgnhcglcnaa", sum := "7f1a4039ef6701a5a560c6bf3537d8d72b6ad353a229878f57316f35235a9cb9", func := "loop.example/g00500/laws.FnFloor", spec := "fnFloor", inPlace := ["math/bits.Sub64", "math/bits.Add64"], apart := false, narrowed := true }
def FnFloorUptoSaid : Prop := fnFloorUptoRow.holds Try.pinned (OpenSpec.upto fnFloorSpec)

/-- 'laws.FnWideOrder', WHERE WHAT IT READS IS OF BULK AT MOST 1048576: true; the input reads as it did. -/
def fnWideOrderUptoRow : OpenClaim := { program := "ytodbmgnhcglcnaa", sum := "7f1a4039ef6701a5a560c6bf3537d8d72b6ad353a229878f57316f35235a9cb9", func := "loop.example/g00500/laws.FnWideOrder", spec := "fnWideOrder", inPlace := ["math/bits.Sub64", "math/bits.Add64"], apart := false, narrowed := true }
def FnWideOrderUptoSaid : Prop := fnWideOrderUptoRow.holds Try.pinned (OpenSpec.upto fnWideOrderSpec)

/-- 'laws.FnExactTenTimes', WHERE WHAT IT READS IS OF BULK AT MOST 1048576: true; the input reads as it did. -/
def fnExactTenTimesUptoRow : OpenClaim := { program := "ytodbmgnhcglcnaa", sum := "7f1a4039ef6701a5a560c6bf3537d8d72b6ad353a229878f57316f35235a9cb9", func := "loop.example/g00500/laws.FnExactTenTimes", spec := "fnExactTenTimes", inPlace := ["math/bits.Add64", "math/bits.Sub64"], apart := false, narrowed := true }
def FnExactTenTimesUptoSaid : Prop := fnExactTenTimesUptoRow.holds Try.pinned (OpenSpec.upto fnExactTenTimesSpec)

/-- 'laws.FnExactAddFrac', WHERE WHAT IT READS IS OF BULK AT MOST 1048576: true; the input reads as it did. -/
def fnExactAddFracUptoRow : OpenClaim := { program := "ytodbmgnhcglcnaa", sum := "7f1a4039ef6701a5a560c6bf3537d8d72b6ad353a229878f57316f35235a9cb9", func := "loop.example/g00500/laws.FnExactAddFrac", spec := "fnExactAddFrac", inPlace := ["math/bits.Add64", "math/bits.Sub64"], apart := false, narrowed := true }
def FnExactAddFracUptoSaid : Prop := fnExactAddFracUptoRow.holds Try.pinned (OpenSpec.upto fnExactAddFracSpec)

/-- 'laws.FnExactReadCsv', WHERE WHAT IT READS IS OF BULK AT MOST 1048576: true; the input reads as it did. -/
def fnExactReadCsvUptoRow : OpenClaim := { program := "ytodbmgnhcglcnaa", sum := "7f1a4039ef6701a5a560c6bf3537d8d72b6ad353a229878f57316f35235a9cb9", func := "loop.example/g00500/laws.FnExactReadCsv", spec := "fnExactReadCsv", inPlace := ["internal/bytealg.IndexByteString", "internal/bytealg.IndexString"], named := ["internal/bytealg.MaxLen"], apart := false, narrowed := true }
def FnExactReadCsvUptoSaid : Prop := fnExactReadCsvUptoRow.holds Try.pinned (OpenSpec.upto fnExactReadCsvSpec)

end Rows
end Go.Proofs.Ytodbmgnhcglcnaa
