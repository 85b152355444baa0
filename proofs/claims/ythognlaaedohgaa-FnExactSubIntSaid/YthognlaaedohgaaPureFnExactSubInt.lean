/- The checked difference: the program's test on signs tells an overflow just where the reference's test on the bounds does, for all pairs of 64-bit integers. Conditions: each number is one of its kind, as the row says. -/
import Derived.Test.YthognlaaedohgaaPFnExactSubIntx
import Derived.Test.YthognlaaedohgaaBase
set_option linter.unusedSimpArgs false
set_option linter.unusedVariables false
namespace Go.Proofs.Ythognlaaedohgaa.Pure
open Go.RowKit Go.Proofs.Ythognlaaedohgaa.Base Go.Proofs.Ythognlaaedohgaa.PFnExactSubInt Go.Proofs.YthognlaaedohgaaW.PrintWords Go.Proofs.YthognlaaedohgaaW.PrintLast Go.Proofs.YthognlaaedohgaaW.PrintMore

theorem FnExactSubInt : laws_FnExactSubInt.Pure := by
  intro a b ha hb
  have ⟨ha0, ha1⟩ := wf64 ha
  have ⟨hb0, hb1⟩ := wf64 hb
  have key : spec_SubInt.f a b = impl_SubInt.f a b := by
    unfold spec_SubInt.f impl_SubInt.f wrap64
    simp only [beq_iff_eq, bne_iff_ne, ne_eq, decide_eq_decide]
    repeat' split
    all_goals first | rfl | omega
  unfold laws_FnExactSubInt.f
  rw [key]
  cases h : impl_SubInt.f a b with
  | none =>
    exfalso
    unfold impl_SubInt.f at h
    repeat' split at h
    all_goals cases h
  | some r => simp

end Go.Proofs.Ythognlaaedohgaa.Pure
