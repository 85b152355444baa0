/- The checked product: both ways of telling an overflow tell it just where the product is no 64-bit integer. Conditions: each number is one of its kind, as the row says. -/
import Derived.Test.YtlndcgmojabgbaaPFnExactMulIntx
import Derived.Test.YtlndcgmojabgbaaBase
set_option linter.unusedSimpArgs false
set_option linter.unusedVariables false
namespace Go.Proofs.Ytlndcgmojabgbaa.Pure
open Go.RowKit Go.Proofs.Ytlndcgmojabgbaa.Base Go.Proofs.Ytlndcgmojabgbaa.PFnExactMulInt Go.Proofs.YtlndcgmojabgbaaW.PrintWords Go.Proofs.YtlndcgmojabgbaaW.PrintLast Go.Proofs.YtlndcgmojabgbaaW.PrintMore

theorem impl_size_eq (a : Int) (h0 : -9223372036854775808 ≤ a) (h1 : a ≤ 9223372036854775807) : impl_size.f a = some (iabs a) := by
  unfold impl_size.f iabs
  by_cases h : a < 0
  · rw [if_pos h, if_pos h]; simp only [wu64]; congr 1; omega
  · rw [if_neg h, if_neg h]; simp only [wu64]; congr 1; omega

theorem bits_Mul64_eq (a b : Int) (ha0 : 0 ≤ a) (ha : a < 18446744073709551616) (hb0 : 0 ≤ b) (hb : b < 18446744073709551616) : bits_Mul64.f a b = some (a * b / 18446744073709551616, a * b % 18446744073709551616) := by
  unfold bits_Mul64.f
  rw [mulhi a b ha0 ha hb0 hb, wu64 (a * b)]

/-- What a checked product answers. -/
def mulAns (a b : Int) : Int × Bool := if -9223372036854775808 ≤ a * b ∧ a * b ≤ 9223372036854775807 then (a * b, true) else (0, false)
theorem impl_MulInt_eq (a b : Int) (ha0 : -9223372036854775808 ≤ a) (ha1 : a ≤ 9223372036854775807) (hb0 : -9223372036854775808 ≤ b) (hb1 : b ≤ 9223372036854775807) (k : Nat) (hk : 1 ≤ k) : impl_MulInt.f k a b = some (mulAns a b) := by
  obtain ⟨k, rfl⟩ : ∃ j, k = j + 1 := ⟨k - 1, by omega⟩
  have ⟨a2, a3⟩ := iabs_u64 ha0 ha1
  have ⟨b2, b3⟩ := iabs_u64 hb0 hb1
  unfold impl_MulInt.f mulAns
  simp only [impl_size_eq a ha0 ha1, impl_size_eq b hb0 hb1, bits_Mul64_eq _ _ a2 a3 b2 b3, Option.bind_some, iabs_mul, impl_MulInt.j0]
  have hs := mul_sign a b
  have hn := iabs_nonneg (a * b)
  have hab : iabs (a * b) = if a * b < 0 then -(a * b) else a * b := rfl
  have hz : a * b = 0 ↔ (a = 0 ∨ b = 0) := Int.mul_eq_zero
  generalize a * b = p at *
  generalize iabs p = q at *
  by_cases c : (decide (a < 0) != decide (b < 0)) = true
  · rw [if_pos c]
    rw [c] at hs
    have hle : p ≤ 0 := by
      by_cases d : p = 0
      · omega
      · have : ¬ a = 0 := fun e => d (hz.mpr (.inl e))
        have : ¬ b = 0 := fun e => d (hz.mpr (.inr e))
        have hp : decide (p < 0) = true := by rw [hs]; simp; omega
        have := of_decide_eq_true hp
        omega
    have hq : q = -p := by split at hab <;> omega
    by_cases d : q / 18446744073709551616 > 0
    · rw [if_pos d, if_pos trivial, if_neg (by omega)]
    · rw [if_neg d]
      by_cases e : q % 18446744073709551616 > 9223372036854775808
      · have e2 : ¬ (-9223372036854775808 ≤ p ∧ p ≤ 9223372036854775807) := by omega
        rw [if_neg e2]; simp [e]
      · have e2 : (-9223372036854775808 ≤ p ∧ p ≤ 9223372036854775807) := by omega
        rw [if_pos e2]
        have e3 : wrap64 (IntKind.u64.wrap (-(q % 18446744073709551616))) = p := by rw [wu64]; unfold wrap64; omega
        simp [e, e3]
  · rw [if_neg c]
    have c' : (decide (a < 0) != decide (b < 0)) = false := by simpa using c
    rw [c'] at hs
    have hp : 0 ≤ p := by
      have : decide (p < 0) = false := by rw [hs]; simp
      have := of_decide_eq_false this
      omega
    have hq : q = p := by split at hab <;> omega
    subst hq
    by_cases d : q / 18446744073709551616 > 0
    · rw [if_pos d, if_neg (by omega)]
    · rw [if_neg d]
      by_cases e : q % 18446744073709551616 > 9223372036854775807
      · rw [if_pos e, if_neg (by omega)]
      · rw [if_neg e, if_pos (by omega)]
        have e3 : wrap64 (q % 18446744073709551616) = q := by unfold wrap64; omega
        rw [e3]

theorem tdiv_mul_self {a b : Int} (hb : b ≠ 0) : Int.tdiv (a * b) b = a := Int.mul_tdiv_cancel a hb
theorem spec_MulInt_eq (a b : Int) (ha0 : -9223372036854775808 ≤ a) (ha1 : a ≤ 9223372036854775807) (hb0 : -9223372036854775808 ≤ b) (hb1 : b ≤ 9223372036854775807) (k : Nat) (hk : 1 ≤ k) : spec_MulInt.f k a b = some (mulAns a b) := by
  obtain ⟨k, rfl⟩ : ∃ j, k = j + 1 := ⟨k - 1, by omega⟩
  unfold spec_MulInt.f mulAns
  simp only [spec_MulInt.j0]
  by_cases a0 : a = 0
  · subst a0; simp
  · rw [if_neg a0]
    by_cases b0 : b = 0
    · subst b0; simp
    · have eb : (b == 0) = false := beq_eq_false_iff_ne.mpr b0
      rw [eb, if_neg (by decide), if_neg b0]
      by_cases fit : -9223372036854775808 ≤ a * b ∧ a * b ≤ 9223372036854775807
      · rw [if_pos fit, w64_id fit.1 fit.2, tdiv_mul_self b0, w64_id ha0 ha1, if_pos rfl]
        have n1 : ¬ (a = -1 ∧ b = -9223372036854775808) := by rintro ⟨rfl, rfl⟩; omega
        have n2 : ¬ (b = -1 ∧ a = -9223372036854775808) := by rintro ⟨rfl, rfl⟩; omega
        by_cases d1 : a = -1
        · have d2 : ¬ b = -9223372036854775808 := fun h => n1 ⟨d1, h⟩
          rw [if_pos d1, if_neg d2]
          by_cases d3 : b = -1
          · rw [if_pos d3, if_neg (fun h => n2 ⟨d3, h⟩)]
          · rw [if_neg d3]
        · rw [if_neg d1]
          by_cases d3 : b = -1
          · rw [if_pos d3, if_neg (fun h => n2 ⟨d3, h⟩)]
          · rw [if_neg d3]
      · rw [if_neg fit]
        by_cases t : wrap64 (Int.tdiv (wrap64 (a * b)) b) = a
        · rw [if_pos t]
          -- the wrapped product divides back: only at the least integer and -1
          have wr := w64_range (a * b)
          have hw : wrap64 (a * b) = (a * b + 9223372036854775808) % 18446744073709551616 - 9223372036854775808 := by unfold wrap64; rfl
          have key : (b = -1 ∧ a = -9223372036854775808) ∨ (a = -1 ∧ b = -9223372036854775808) := by
            by_cases d3 : b = -1
            · left
              refine ⟨d3, ?_⟩
              subst d3
              omega
            · exfalso
              have hdm := Int.mul_tdiv_add_tmod (wrap64 (a * b)) b
              have hml : (Int.tmod (wrap64 (a * b)) b).natAbs = (wrap64 (a * b)).natAbs % b.natAbs := Int.natAbs_tmod _ _
              have hmd : (Int.tdiv (wrap64 (a * b)) b).natAbs = (wrap64 (a * b)).natAbs / b.natAbs := Int.natAbs_tdiv _ _
              have hlt : (wrap64 (a * b)).natAbs % b.natAbs < b.natAbs := Nat.mod_lt _ (by omega)
              have hle : (wrap64 (a * b)).natAbs / b.natAbs ≤ (wrap64 (a * b)).natAbs := Nat.div_le_self _ _
              have hin : wrap64 (Int.tdiv (wrap64 (a * b)) b) = Int.tdiv (wrap64 (a * b)) b := by
                apply w64_id
                · omega
                · by_cases b1 : b.natAbs = 1
                  · have : b = 1 := by omega
                    subst this
                    rw [Int.tdiv_one]; omega
                  · have : (wrap64 (a * b)).natAbs / b.natAbs ≤ (wrap64 (a * b)).natAbs / 2 := Nat.div_le_div_left (by omega) (by decide)
                    omega
              rw [hin] at t
              rw [t] at hdm
              rw [Int.mul_comm b a] at hdm
              generalize wrap64 (a * b) = w at *
              generalize a * b = p at *
              generalize Int.tmod w b = m at *
              omega
          rcases key with ⟨d3, d4⟩ | ⟨d3, d4⟩
          · subst d3 d4; simp
          · subst d3 d4; simp
        · rw [if_neg t]

theorem FnExactMulInt : laws_FnExactMulInt.Pure := by
  intro a b ha hb
  have ⟨ha0, ha1⟩ := wf64 ha
  have ⟨hb0, hb1⟩ := wf64 hb
  refine ⟨1, ?_⟩
  unfold laws_FnExactMulInt.f
  simp only [Option.bind_some, impl_MulInt_eq a b ha0 ha1 hb0 hb1 1 (by omega), spec_MulInt_eq a b ha0 ha1 hb0 hb1 1 (by omega)]
  simp

end Go.Proofs.Ytlndcgmojabgbaa.Pure
