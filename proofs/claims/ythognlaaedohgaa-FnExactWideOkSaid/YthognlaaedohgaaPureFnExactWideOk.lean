/- Whether a wide number is valid: program and reference make the same tests. Conditions: each number is one of its kind, as the row says. -/
import Derived.Test.YthognlaaedohgaaPFnExactWideOkx
import Derived.Test.YthognlaaedohgaaBase
set_option linter.unusedSimpArgs false
set_option linter.unusedVariables false
namespace Go.Proofs.Ythognlaaedohgaa.Pure
open Go.RowKit Go.Proofs.Ythognlaaedohgaa.Base Go.Proofs.Ythognlaaedohgaa.PFnExactWideOk Go.Proofs.YthognlaaedohgaaW.PrintWords Go.Proofs.YthognlaaedohgaaW.PrintLast Go.Proofs.YthognlaaedohgaaW.PrintMore

theorem FnExactWideOk (n : Bool) (h l : Int) (_ : (Lit.int .u64 h).wf = true) (_ : (Lit.int .u64 l).wf = true) : laws_FnExactWideOk.f n h l = some true := by
  have key : spec_WideOk.f n h l = impl_WideOk.f n h l := rfl
  unfold laws_FnExactWideOk.f laws_toWide.f
  simp only [Option.bind_some]
  rw [key]
  cases h' : impl_WideOk.f n h l with
  | none =>
    exfalso
    unfold impl_WideOk.f at h'
    repeat' split at h'
    all_goals cases h'
  | some r => simp

end Go.Proofs.Ythognlaaedohgaa.Pure
