/- A square over a number: the wide square is the same, and so is the test whether the fraction is valid. Conditions: each number is one of its kind, as the row says. -/
import Derived.Test.YtlndcgmojabgbaaPFnExactSquareOverx
import Derived.Test.YtlndcgmojabgbaaBase
set_option linter.unusedSimpArgs false
set_option linter.unusedVariables false
namespace Go.Proofs.Ytlndcgmojabgbaa.Pure
open Go.RowKit Go.Proofs.Ytlndcgmojabgbaa.Base Go.Proofs.Ytlndcgmojabgbaa.PFnExactSquareOver Go.Proofs.YtlndcgmojabgbaaW.PrintWords Go.Proofs.YtlndcgmojabgbaaW.PrintLast Go.Proofs.YtlndcgmojabgbaaW.PrintMore

theorem impl_size_eq (a : Int) (h0 : -9223372036854775808 ≤ a) (h1 : a ≤ 9223372036854775807) : impl_size.f a = some (iabs a) := by
  unfold impl_size.f iabs
  by_cases h : a < 0
  · rw [if_pos h, if_pos h]; simp only [wu64]; congr 1; omega
  · rw [if_neg h, if_neg h]; simp only [wu64]; congr 1; omega

theorem bits_Mul64_eq (a b : Int) (ha0 : 0 ≤ a) (ha : a < 18446744073709551616) (hb0 : 0 ≤ b) (hb : b < 18446744073709551616) : bits_Mul64.f a b = some (a * b / 18446744073709551616, a * b % 18446744073709551616) := by
  unfold bits_Mul64.f
  rw [mulhi a b ha0 ha hb0 hb, wu64 (a * b)]

theorem impl_wideOf_eq (n : Bool) (h l : Int) : impl_wideOf.f n h l = some (wnz n h l, h, l) := by
  unfold impl_wideOf.f wnz
  cases n
  · simp
  · by_cases c : h > 0 <;> simp [c]

theorem impl_MulWide_eq (a b : Int) (ha0 : -9223372036854775808 ≤ a) (ha1 : a ≤ 9223372036854775807) (hb0 : -9223372036854775808 ≤ b) (hb1 : b ≤ 9223372036854775807) : impl_MulWide.f a b = some (wnorm (a * b)) := by
  have ⟨a2, a3⟩ := iabs_u64 ha0 ha1
  have ⟨b2, b3⟩ := iabs_u64 hb0 hb1
  unfold impl_MulWide.f
  simp only [impl_size_eq a ha0 ha1, impl_size_eq b hb0 hb1, bits_Mul64_eq _ _ a2 a3 b2 b3, impl_wideOf_eq, Option.bind_some, wnorm, wnz, iabs_mul, mul_sign]
  have hn := iabs_nonneg (a * b)
  have hz : (decide (iabs (a * b) / 18446744073709551616 > 0) || decide (iabs (a * b) % 18446744073709551616 > 0)) = ((a != 0) && (b != 0)) := by
    by_cases c : a = 0
    · subst c; simp [iabs]
    · by_cases d : b = 0
      · subst d; simp [iabs]
      · have hab : a * b ≠ 0 := Int.mul_ne_zero c d
        have : iabs (a * b) > 0 := by unfold iabs; split <;> omega
        have e : (a != 0 && b != 0) = true := by simp [c, d]
        rw [e]
        by_cases f : iabs (a * b) / 18446744073709551616 > 0
        · simp [f]
        · have : iabs (a * b) % 18446744073709551616 > 0 := by omega
          simp [this]
  rw [hz, ← Bool.and_assoc]

theorem spec_l3Abs_eq (a : Int) (h0 : -9223372036854775808 ≤ a) (h1 : a ≤ 9223372036854775807) : spec_l3Abs.f a = some (iabs a) := by
  unfold spec_l3Abs.f iabs
  by_cases h : a < 0
  · rw [if_pos h, if_pos h]; simp only [wu64]; unfold wrap64; congr 1; omega
  · rw [if_neg h, if_neg h]; simp only [wu64]; congr 1; omega

theorem spec_l3Product_eq (a b : Int) (ha0 : 0 ≤ a) (ha : a < 18446744073709551616) (hb0 : 0 ≤ b) (hb : b < 18446744073709551616) : spec_l3Product.f a b = some (a * b / 18446744073709551616, a * b % 18446744073709551616) := by
  unfold spec_l3Product.f
  rw [and_mask32 a ha0 ha, and_mask32 b hb0 hb]
  rw [and_mask32 (IntKind.u64.wrap (_ + _)) (by rw [wu64]; omega) (by rw [wu64]; omega), and_mask32 (IntKind.u64.wrap (a % 4294967296 * (b % 4294967296))) (by rw [wu64]; omega) (by rw [wu64]; omega)]
  have h := prod_split a b
  have ⟨l1, u1⟩ := mul_bound (x := a / 4294967296) (y := b / 4294967296) (by omega) (by omega) (by omega) (by omega)
  have ⟨l2, u2⟩ := mul_bound (x := a / 4294967296) (y := b % 4294967296) (by omega) (by omega) (by omega) (by omega)
  have ⟨l3, u3⟩ := mul_bound (x := a % 4294967296) (y := b / 4294967296) (by omega) (by omega) (by omega) (by omega)
  have ⟨l4, u4⟩ := mul_bound (x := a % 4294967296) (y := b % 4294967296) (by omega) (by omega) (by omega) (by omega)
  have lt := (mul_u64 a b ha0 ha hb0 hb).2
  simp only [wu64]
  generalize (a / 4294967296) * (b / 4294967296) = p at *
  generalize (a / 4294967296) * (b % 4294967296) = q at *
  generalize (a % 4294967296) * (b / 4294967296) = r at *
  generalize (a % 4294967296) * (b % 4294967296) = s at *
  generalize a * b = t at *
  simp only [Option.some.injEq, Prod.mk.injEq]
  constructor <;> omega

theorem spec_MulWide_eq (a b : Int) (ha0 : -9223372036854775808 ≤ a) (ha1 : a ≤ 9223372036854775807) (hb0 : -9223372036854775808 ≤ b) (hb1 : b ≤ 9223372036854775807) : spec_MulWide.f a b = some (wnorm (a * b)) := by
  have ⟨a2, a3⟩ := iabs_u64 ha0 ha1
  have ⟨b2, b3⟩ := iabs_u64 hb0 hb1
  unfold spec_MulWide.f
  simp only [spec_l3Abs_eq a ha0 ha1, spec_l3Abs_eq b hb0 hb1, spec_l3Product_eq _ _ a2 a3 b2 b3, Option.bind_some, wnorm, iabs_mul, mul_sign]
  by_cases c : (decide (a < 0) != decide (b < 0)) = true
  · rw [if_pos c, c]
    by_cases d : a = 0
    · rw [if_pos d]; simp [d]
    · rw [if_neg d]; simp [d]
  · rw [if_neg c]
    have : (decide (a < 0) != decide (b < 0)) = false := by simpa using c
    rw [this]; simp

theorem impl_WideOk_eq (n : Bool) (h l : Int) : impl_WideOk.f n h l = some (wok n h l) := by
  unfold impl_WideOk.f wok
  by_cases c1 : h < 9223372036854775808
  · rw [if_pos c1]
    cases n
    · simp [c1]
    · by_cases c2 : h > 0
      · simp [c1, c2]
      · simp [c1, c2]
  · rw [if_neg c1]; simp [c1]

theorem impl_within_eq (a b c : Int) : impl_within.f a b c = some (iin a b c) := by
  unfold impl_within.f iin
  by_cases h : a ≥ b
  · rw [if_pos h]; simp [show b ≤ a from h]
  · rw [if_neg h]; simp [show ¬ b ≤ a from h]

theorem impl_FracOk_eq (n : Bool) (h l d : Int) : impl_FracOk.f n h l d = some (wok n h l && iin d 1 1000000) := by
  unfold impl_FracOk.f
  simp only [impl_WideOk_eq, impl_within_eq, Option.bind_some]
  cases wok n h l <;> simp

theorem spec_WideOk_eq (n : Bool) (h l : Int) : spec_WideOk.f n h l = some (wok n h l) := by
  unfold spec_WideOk.f wok
  by_cases c1 : h < 9223372036854775808
  · rw [if_pos c1]
    cases n
    · simp [c1]
    · by_cases c2 : h > 0
      · simp [c1, c2]
      · simp [c1, c2]
  · rw [if_neg c1]; simp [c1]

theorem spec_l1In_eq (a b c : Int) : spec_l1In.f a b c = some (iin a b c) := by
  unfold spec_l1In.f iin
  by_cases h : a ≥ b
  · rw [if_pos h]; simp [show b ≤ a from h]
  · rw [if_neg h]; simp [show ¬ b ≤ a from h]

theorem spec_FracOk_eq (n : Bool) (h l d : Int) : spec_FracOk.f n h l d = some (wok n h l && iin d 1 1000000) := by
  unfold spec_FracOk.f
  simp only [spec_WideOk_eq, spec_l1In_eq, Option.bind_some]
  cases wok n h l <;> simp

theorem laws_eqWide_self (n : Bool) (h l : Int) : laws_eqWide.f n h l n h l = some true := by
  unfold laws_eqWide.f; simp

theorem FnExactSquareOver : laws_FnExactSquareOver.Pure := by
  intro a b ha hb
  have ⟨ha0, ha1⟩ := wf64 ha
  unfold laws_FnExactSquareOver.f spec_SquareOver.f impl_SquareOver.f impl_fracOf.f
  simp only [impl_MulWide_eq a a ha0 ha1 ha0 ha1, spec_MulWide_eq a a ha0 ha1 ha0 ha1, impl_FracOk_eq, spec_FracOk_eq, Option.bind_some]
  by_cases c : (wok (wnorm (a * a)).1 (wnorm (a * a)).2.1 (wnorm (a * a)).2.2 && iin b 1 1000000) = true
  · rw [if_pos c]
    simp [laws_eqFrac.f, laws_eqWide_self]
  · rw [if_neg c]
    simp [laws_eqFrac.f, laws_eqWide_self]

end Go.Proofs.Ytlndcgmojabgbaa.Pure
