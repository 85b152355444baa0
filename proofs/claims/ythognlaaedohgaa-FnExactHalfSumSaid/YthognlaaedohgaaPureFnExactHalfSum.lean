/- Half of a sum: the program's halves and last bits give what the reference's common and differing bits give, for all pairs of 64-bit integers. Conditions: each number is one of its kind, as the row says. -/
import Derived.Test.YthognlaaedohgaaPFnExactHalfSumx
import Derived.Test.YthognlaaedohgaaBase
namespace Go.Proofs.Ythognlaaedohgaa.Pure
open Go.RowKit Go.Proofs.Ythognlaaedohgaa.Base Go.Proofs.Ythognlaaedohgaa.PFnExactHalfSum Go.Proofs.YthognlaaedohgaaW.PrintWords Go.Proofs.YthognlaaedohgaaW.PrintLast Go.Proofs.YthognlaaedohgaaW.PrintMore

theorem FnExactHalfSum : laws_FnExactHalfSum.Pure := by
  intro a b ha hb
  have ⟨ha0, ha1⟩ := wf64 ha
  have ⟨hb0, hb1⟩ := wf64 hb
  unfold laws_FnExactHalfSum.f spec_HalfSum.f impl_HalfSum.f
  simp only [Option.bind_some]
  rw [if_pos]
  rw [i64_and_mod2]
  have h := i64_and_xor a b ha0 ha1 hb0 hb1
  generalize Go.bits .and .i64 a b = p at *
  generalize Go.bits .xor .i64 a b = q at *
  by_cases c : a % 2 = 1 ∧ b % 2 = 1
  · rw [if_pos c]; unfold wrap64; omega
  · rw [if_neg c]; unfold wrap64; omega

end Go.Proofs.Ythognlaaedohgaa.Pure
