/- A number brought into a range: program and reference make the same tests in the same order. Conditions: each number is one of its kind, as the row says. -/
import Derived.Test.YthognlaaedohgaaPFnExactBroughtx
import Derived.Test.YthognlaaedohgaaBase
set_option linter.unusedSimpArgs false
set_option linter.unusedVariables false
namespace Go.Proofs.Ythognlaaedohgaa.Pure
open Go.RowKit Go.Proofs.Ythognlaaedohgaa.Base Go.Proofs.Ythognlaaedohgaa.PFnExactBrought Go.Proofs.YthognlaaedohgaaW.PrintWords Go.Proofs.YthognlaaedohgaaW.PrintLast Go.Proofs.YthognlaaedohgaaW.PrintMore

theorem FnExactBrought : laws_FnExactBrought.Pure := by
  intro a b c _ _ _
  have key : spec_Brought.f a b c = impl_Brought.f a b c := rfl
  unfold laws_FnExactBrought.f
  rw [key]
  cases h : impl_Brought.f a b c with
  | none =>
    exfalso
    unfold impl_Brought.f at h
    repeat' split at h
    all_goals cases h
  | some r => simp

end Go.Proofs.Ythognlaaedohgaa.Pure
