/- Whether a fraction is valid: program and reference make the same tests. Conditions: each number is one of its kind, as the row says. -/
import Derived.Test.YthognlaaedohgaaPFnExactFracOkx
import Derived.Test.YthognlaaedohgaaBase
set_option linter.unusedSimpArgs false
set_option linter.unusedVariables false
namespace Go.Proofs.Ythognlaaedohgaa.Pure
open Go.RowKit Go.Proofs.Ythognlaaedohgaa.Base Go.Proofs.Ythognlaaedohgaa.PFnExactFracOk Go.Proofs.YthognlaaedohgaaW.PrintWords Go.Proofs.YthognlaaedohgaaW.PrintLast Go.Proofs.YthognlaaedohgaaW.PrintMore

theorem impl_WideOk_eq (n : Bool) (h l : Int) : impl_WideOk.f n h l = some (wok n h l) := by
  unfold impl_WideOk.f wok
  by_cases c1 : h < 9223372036854775808
  · rw [if_pos c1]
    cases n
    · simp [c1]
    · by_cases c2 : h > 0
      · simp [c1, c2]
      · simp [c1, c2]
  · rw [if_neg c1]; simp [c1]

theorem impl_within_eq (a b c : Int) : impl_within.f a b c = some (iin a b c) := by
  unfold impl_within.f iin
  by_cases h : a ≥ b
  · rw [if_pos h]; simp [show b ≤ a from h]
  · rw [if_neg h]; simp [show ¬ b ≤ a from h]

theorem impl_FracOk_eq (n : Bool) (h l d : Int) : impl_FracOk.f n h l d = some (wok n h l && iin d 1 1000000) := by
  unfold impl_FracOk.f
  simp only [impl_WideOk_eq, impl_within_eq, Option.bind_some]
  cases wok n h l <;> simp

theorem spec_WideOk_eq (n : Bool) (h l : Int) : spec_WideOk.f n h l = some (wok n h l) := by
  unfold spec_WideOk.f wok
  by_cases c1 : h < 9223372036854775808
  · rw [if_pos c1]
    cases n
    · simp [c1]
    · by_cases c2 : h > 0
      · simp [c1, c2]
      · simp [c1, c2]
  · rw [if_neg c1]; simp [c1]

theorem spec_l1In_eq (a b c : Int) : spec_l1In.f a b c = some (iin a b c) := by
  unfold spec_l1In.f iin
  by_cases h : a ≥ b
  · rw [if_pos h]; simp [show b ≤ a from h]
  · rw [if_neg h]; simp [show ¬ b ≤ a from h]

theorem spec_FracOk_eq (n : Bool) (h l d : Int) : spec_FracOk.f n h l d = some (wok n h l && iin d 1 1000000) := by
  unfold spec_FracOk.f
  simp only [spec_WideOk_eq, spec_l1In_eq, Option.bind_some]
  cases wok n h l <;> simp

theorem FnExactFracOk (n : Bool) (h l d : Int) (_ : (Lit.int .u64 h).wf = true) (_ : (Lit.int .u64 l).wf = true) (_ : (Lit.int .i64 d).wf = true) : laws_FnExactFracOk.f n h l d = some true := by
  unfold laws_FnExactFracOk.f laws_toFrac.f laws_toWide.f
  simp only [impl_FracOk_eq, spec_FracOk_eq, Option.bind_some]
  simp

end Go.Proofs.Ythognlaaedohgaa.Pure
