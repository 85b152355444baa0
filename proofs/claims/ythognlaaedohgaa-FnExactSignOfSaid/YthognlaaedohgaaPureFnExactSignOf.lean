/- The sign of a number: program and reference make the same tests in the same order. Conditions: each number is one of its kind, as the row says. -/
import Derived.Test.YthognlaaedohgaaPFnExactSignOfx
import Derived.Test.YthognlaaedohgaaBase
set_option linter.unusedSimpArgs false
set_option linter.unusedVariables false
namespace Go.Proofs.Ythognlaaedohgaa.Pure
open Go.RowKit Go.Proofs.Ythognlaaedohgaa.Base Go.Proofs.Ythognlaaedohgaa.PFnExactSignOf Go.Proofs.YthognlaaedohgaaW.PrintWords Go.Proofs.YthognlaaedohgaaW.PrintLast Go.Proofs.YthognlaaedohgaaW.PrintMore

theorem FnExactSignOf : laws_FnExactSignOf.Pure := by
  intro a _
  have key : spec_SignOf.f a = impl_SignOf.f a := rfl
  unfold laws_FnExactSignOf.f
  rw [key]
  cases h : impl_SignOf.f a with
  | none =>
    exfalso
    unfold impl_SignOf.f at h
    repeat' split at h
    all_goals cases h
  | some r => simp

end Go.Proofs.Ythognlaaedohgaa.Pure
