/- The quotient rounded down: program and reference differ in the order of two tests alone. Conditions: each number is one of its kind, as the row says. -/
import Derived.Test.YthognlaaedohgaaPFnExactFloorDivx
import Derived.Test.YthognlaaedohgaaBase
set_option linter.unusedSimpArgs false
set_option linter.unusedVariables false
namespace Go.Proofs.Ythognlaaedohgaa.Pure
open Go.RowKit Go.Proofs.Ythognlaaedohgaa.Base Go.Proofs.Ythognlaaedohgaa.PFnExactFloorDiv Go.Proofs.YthognlaaedohgaaW.PrintWords Go.Proofs.YthognlaaedohgaaW.PrintLast Go.Proofs.YthognlaaedohgaaW.PrintMore

theorem FloorDiv_same (a b : Int) : spec_FloorDiv.f 1 a b = impl_FloorDiv.f 1 a b := by
  unfold spec_FloorDiv.f impl_FloorDiv.f
  by_cases h0 : b = 0
  · rw [if_pos h0, if_pos h0]; rfl
  · rw [if_neg h0, if_neg h0]
    by_cases h1 : b = -1
    · by_cases h2 : a = -9223372036854775808
      · rw [if_pos h1, if_pos h2, h1, h2]; rfl
      · rw [if_pos h1, if_neg h2]
        have e : (a == (-9223372036854775808)) = false := beq_eq_false_iff_ne.mpr h2
        rw [e]; rfl
    · rw [if_neg h1]
      by_cases h2 : a = -9223372036854775808
      · rw [if_pos h2]
        have e : (b == (-1)) = false := beq_eq_false_iff_ne.mpr h1
        rw [e]; rfl
      · rw [if_neg h2]; rfl
theorem FloorDiv_j0 (a b : Int) (t : Bool) (h0 : b ≠ 0 ∨ t = true) : ∃ r, impl_FloorDiv.j0 1 a b t = some r := by
  unfold impl_FloorDiv.j0
  simp only
  by_cases h : t = true
  · exact ⟨_, by rw [if_pos h]⟩
  · rw [if_neg h, if_neg (by simpa [h] using h0)]
    by_cases h1 : Int.tmod a b = 0
    · exact ⟨_, by rw [if_pos h1]⟩
    · rw [if_neg h1]
      by_cases h2 : (decide (a < 0) != decide (b < 0)) = true
      · exact ⟨_, by rw [if_pos h2]⟩
      · exact ⟨_, by rw [if_neg h2]⟩
theorem FloorDiv_some (a b : Int) : ∃ r, impl_FloorDiv.f 1 a b = some r := by
  unfold impl_FloorDiv.f
  by_cases h0 : b = 0
  · rw [if_pos h0]; exact FloorDiv_j0 a b true (.inr rfl)
  · rw [if_neg h0]
    by_cases h1 : a = -9223372036854775808
    · rw [if_pos h1]; exact FloorDiv_j0 a b _ (.inl h0)
    · rw [if_neg h1]; exact FloorDiv_j0 a b _ (.inl h0)

theorem FnExactFloorDiv : laws_FnExactFloorDiv.Pure := by
  intro a b _ _
  refine ⟨1, ?_⟩
  unfold laws_FnExactFloorDiv.f
  rw [FloorDiv_same]
  obtain ⟨r, h⟩ := FloorDiv_some a b
  rw [h]; simp

end Go.Proofs.Ythognlaaedohgaa.Pure
