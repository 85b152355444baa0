/- The wide number of an integer: program and reference find the same size and sign, for all 64-bit integers. Conditions: each number is one of its kind, as the row says. -/
import Derived.Test.YthognlaaedohgaaPFnExactWideOfx
import Derived.Test.YthognlaaedohgaaBase
set_option linter.unusedSimpArgs false
set_option linter.unusedVariables false
namespace Go.Proofs.Ythognlaaedohgaa.Pure
open Go.RowKit Go.Proofs.Ythognlaaedohgaa.Base Go.Proofs.Ythognlaaedohgaa.PFnExactWideOf Go.Proofs.YthognlaaedohgaaW.PrintWords Go.Proofs.YthognlaaedohgaaW.PrintLast Go.Proofs.YthognlaaedohgaaW.PrintMore

theorem FnExactWideOf : laws_FnExactWideOf.Pure := by
  intro a ha
  have ⟨ha0, ha1⟩ := wf64 ha
  have key : spec_WideOf.f a = impl_WideOf.f a := by
    unfold spec_WideOf.f spec_l3Abs.f impl_WideOf.f impl_size.f impl_wideOf.f
    by_cases h : a < 0
    · have e : IntKind.u64.wrap (IntKind.u64.wrap (wrap64 (-wrap64 (a + 1))) + 1) = IntKind.u64.wrap (-IntKind.u64.wrap a) := by
        simp only [wu64]; unfold wrap64; omega
      have e2 : IntKind.u64.wrap (-IntKind.u64.wrap a) > 0 := by simp only [wu64]; omega
      simp only [h, if_true, e, Option.bind_some, decide_true, e2]
      rfl
    · simp [h]
  unfold laws_FnExactWideOf.f
  rw [key]
  cases h : impl_WideOf.f a with
  | none =>
    exfalso
    rw [← key] at h
    unfold spec_WideOf.f spec_l3Abs.f at h
    split at h <;> simp at h
  | some r => simp [laws_eqWide.f]

end Go.Proofs.Ythognlaaedohgaa.Pure
