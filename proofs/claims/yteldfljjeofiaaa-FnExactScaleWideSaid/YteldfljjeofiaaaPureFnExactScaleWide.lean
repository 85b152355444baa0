/- A multiple of a wide number: program and reference tell the product, and that it has no room, for all wide values and integers. Conditions: each number is one of its kind, as the row says. -/
import Derived.Test.YteldfljjeofiaaaPFnExactScaleWidex
import Derived.Test.YteldfljjeofiaaaBase
set_option linter.unusedSimpArgs false
set_option linter.unusedVariables false
namespace Go.Proofs.Yteldfljjeofiaaa.Pure
open Go.RowKit Go.Proofs.Yteldfljjeofiaaa.Base Go.Proofs.Yteldfljjeofiaaa.PFnExactScaleWide Go.Proofs.YteldfljjeofiaaaW.PrintWords Go.Proofs.YteldfljjeofiaaaW.PrintLast Go.Proofs.YteldfljjeofiaaaW.PrintMore

theorem impl_WideOk_eq (n : Bool) (h l : Int) : impl_WideOk.f n h l = some (wok n h l) := by
  unfold impl_WideOk.f wok
  by_cases c1 : h < 9223372036854775808
  · rw [if_pos c1]
    cases n
    · simp [c1]
    · by_cases c2 : h > 0
      · simp [c1, c2]
      · simp [c1, c2]
  · rw [if_neg c1]; simp [c1]

theorem impl_size_eq (a : Int) (h0 : -9223372036854775808 ≤ a) (h1 : a ≤ 9223372036854775807) : impl_size.f a = some (iabs a) := by
  unfold impl_size.f iabs
  by_cases h : a < 0
  · rw [if_pos h, if_pos h]; simp only [wu64]; congr 1; omega
  · rw [if_neg h, if_neg h]; simp only [wu64]; congr 1; omega

theorem bits_Mul64_eq (a b : Int) (ha0 : 0 ≤ a) (ha : a < 18446744073709551616) (hb0 : 0 ≤ b) (hb : b < 18446744073709551616) : bits_Mul64.f a b = some (a * b / 18446744073709551616, a * b % 18446744073709551616) := by
  unfold bits_Mul64.f
  rw [mulhi a b ha0 ha hb0 hb, wu64 (a * b)]

theorem impl_wideOf_eq (n : Bool) (h l : Int) : impl_wideOf.f n h l = some (wnz n h l, h, l) := by
  unfold impl_wideOf.f wnz
  cases n
  · simp
  · by_cases c : h > 0 <;> simp [c]

theorem bits_Add64_eq (a b c : Int) (h : 0 ≤ a ∧ 0 ≤ b ∧ 0 ≤ c ∧ c ≤ 1) : bits_Add64.f a b c = some ((a + b + c) % 18446744073709551616, (a + b + c) / 18446744073709551616) := by
  unfold bits_Add64.f
  rw [if_pos h]
/-- What a multiple of a wide number answers. -/
def scaleAns (n : Bool) (h l k : Int) : Bool × Int × Int × Bool := if wok n h l = true then wans (wval n h l * k) else (false, 0, 0, false)
theorem impl_ScaleWide_eq (n : Bool) (h l k : Int) (h0 : 0 ≤ h) (l0 : 0 ≤ l) (l1 : l < 18446744073709551616) (k0 : -9223372036854775808 ≤ k) (k1 : k ≤ 9223372036854775807) : impl_ScaleWide.f n h l k = some (scaleAns n h l k) := by
  unfold impl_ScaleWide.f scaleAns
  simp only [impl_WideOk_eq, Option.bind_some]
  by_cases w : wok n h l = true
  · rw [if_pos w, if_pos w]
    have hh := wok_high w
    have ⟨u0, u1⟩ := iabs_u64 k0 k1
    have e1 := iabs_wval n h0 l0
    have e2 := iabs_mul (wval n h l) k
    have e3 := scale_parts (u := iabs k) (iabs (wval n h l)) e1
    have sg := scale_sign (k := k) h0 l0 w
    rw [e2] at e3
    have ⟨p0, p1⟩ := mul_u64 h (iabs k) h0 (by omega) u0 u1
    have ⟨q0, q1⟩ := mul_u64 l (iabs k) l0 l1 u0 u1
    simp only [impl_size_eq k k0 k1, bits_Mul64_eq _ _ h0 (show h < 18446744073709551616 by omega) u0 u1, bits_Mul64_eq _ _ l0 l1 u0 u1, Option.bind_some]
    generalize wval n h l * k = v at *
    generalize h * iabs k = p at *
    generalize l * iabs k = q at *
    rw [bits_Add64_eq _ _ _ (by omega)]
    simp only [impl_wideOf_eq, Option.bind_some]
    by_cases c1 : p / 18446744073709551616 > 0
    · rw [if_pos c1, wans_over (by omega)]
    · rw [if_neg c1]
      by_cases c2 : (p % 18446744073709551616 + q / 18446744073709551616 + 0) / 18446744073709551616 > 0
      · rw [if_pos c2, wans_over (by omega)]
      · rw [if_neg c2]
        have e4 : iabs v = ((p % 18446744073709551616 + q / 18446744073709551616 + 0) % 18446744073709551616) * 18446744073709551616 + q % 18446744073709551616 := by omega
        rw [wans_of e4 (by omega) (by omega) (by omega), sign_parts e4 (by omega) (by omega) sg]
        have e5 := sign_parts (s := decide (v < 0)) e4 (by omega) (by omega) (fun _ => rfl)
        have e6 := wok_wnz (decide (v < 0)) ((p % 18446744073709551616 + q / 18446744073709551616 + 0) % 18446744073709551616) (q % 18446744073709551616)
        rw [e5] at e6
        rw [e6]
        generalize (p % 18446744073709551616 + q / 18446744073709551616 + 0) % 18446744073709551616 = a at *
        generalize q % 18446744073709551616 = b at *
        by_cases c3 : a < 9223372036854775808
        · rw [if_pos c3]; simp [c3]
        · rw [if_neg c3]; simp [c3]
  · rw [if_neg w, if_neg w]

theorem spec_WideOk_eq (n : Bool) (h l : Int) : spec_WideOk.f n h l = some (wok n h l) := by
  unfold spec_WideOk.f wok
  by_cases c1 : h < 9223372036854775808
  · rw [if_pos c1]
    cases n
    · simp [c1]
    · by_cases c2 : h > 0
      · simp [c1, c2]
      · simp [c1, c2]
  · rw [if_neg c1]; simp [c1]

theorem spec_l3Abs_eq (a : Int) (h0 : -9223372036854775808 ≤ a) (h1 : a ≤ 9223372036854775807) : spec_l3Abs.f a = some (iabs a) := by
  unfold spec_l3Abs.f iabs
  by_cases h : a < 0
  · rw [if_pos h, if_pos h]; simp only [wu64]; unfold wrap64; congr 1; omega
  · rw [if_neg h, if_neg h]; simp only [wu64]; congr 1; omega

theorem spec_l3Product_eq (a b : Int) (ha0 : 0 ≤ a) (ha : a < 18446744073709551616) (hb0 : 0 ≤ b) (hb : b < 18446744073709551616) : spec_l3Product.f a b = some (a * b / 18446744073709551616, a * b % 18446744073709551616) := by
  unfold spec_l3Product.f
  rw [and_mask32 a ha0 ha, and_mask32 b hb0 hb]
  rw [and_mask32 (IntKind.u64.wrap (_ + _)) (by rw [wu64]; omega) (by rw [wu64]; omega), and_mask32 (IntKind.u64.wrap (a % 4294967296 * (b % 4294967296))) (by rw [wu64]; omega) (by rw [wu64]; omega)]
  have h := prod_split a b
  have ⟨l1, u1⟩ := mul_bound (x := a / 4294967296) (y := b / 4294967296) (by omega) (by omega) (by omega) (by omega)
  have ⟨l2, u2⟩ := mul_bound (x := a / 4294967296) (y := b % 4294967296) (by omega) (by omega) (by omega) (by omega)
  have ⟨l3, u3⟩ := mul_bound (x := a % 4294967296) (y := b / 4294967296) (by omega) (by omega) (by omega) (by omega)
  have ⟨l4, u4⟩ := mul_bound (x := a % 4294967296) (y := b % 4294967296) (by omega) (by omega) (by omega) (by omega)
  have lt := (mul_u64 a b ha0 ha hb0 hb).2
  simp only [wu64]
  generalize (a / 4294967296) * (b / 4294967296) = p at *
  generalize (a / 4294967296) * (b % 4294967296) = q at *
  generalize (a % 4294967296) * (b / 4294967296) = r at *
  generalize (a % 4294967296) * (b % 4294967296) = s at *
  generalize a * b = t at *
  simp only [Option.some.injEq, Prod.mk.injEq]
  constructor <;> omega

theorem spec_l3Zero_eq (n : Bool) (h l : Int) : spec_l3Zero.f n h l = some ((h == 0) && (l == 0)) := by
  unfold spec_l3Zero.f
  by_cases c : h = 0 <;> simp [c]

theorem spec_ScaleWide_eq (n : Bool) (h l k : Int) (h0 : 0 ≤ h) (l0 : 0 ≤ l) (l1 : l < 18446744073709551616) (k0 : -9223372036854775808 ≤ k) (k1 : k ≤ 9223372036854775807) : spec_ScaleWide.f n h l k = some (scaleAns n h l k) := by
  unfold spec_ScaleWide.f scaleAns
  simp only [spec_WideOk_eq, Option.bind_some]
  by_cases w : wok n h l = true
  · rw [if_pos w, if_pos w]
    have hh := wok_high w
    have ⟨u0, u1⟩ := iabs_u64 k0 k1
    have e1 := iabs_wval n h0 l0
    have e2 := iabs_mul (wval n h l) k
    have e3 := scale_parts (u := iabs k) (iabs (wval n h l)) e1
    have sg := scale_sign (k := k) h0 l0 w
    rw [e2] at e3
    have ⟨p0, p1⟩ := mul_u64 h (iabs k) h0 (by omega) u0 u1
    have ⟨q0, q1⟩ := mul_u64 l (iabs k) l0 l1 u0 u1
    simp only [spec_l3Abs_eq k k0 k1, spec_l3Product_eq _ _ h0 (show h < 18446744073709551616 by omega) u0 u1, spec_l3Product_eq _ _ l0 l1 u0 u1, Option.bind_some, spec_l3Zero_eq, wu64]
    generalize wval n h l * k = v at *
    generalize h * iabs k = p at *
    generalize l * iabs k = q at *
    generalize hs : (n != decide (k < 0)) = s at *
    by_cases c1 : p / 18446744073709551616 > 0
    · rw [wans_over (by omega), if_pos c1, if_pos c1]
      simp
    · by_cases c2 : (p % 18446744073709551616 + q / 18446744073709551616) % 18446744073709551616 < p % 18446744073709551616
      · rw [wans_over (by omega), if_neg c1, if_neg c1, if_pos c2, if_pos c2]
        simp
      · have e4 : iabs v = ((p % 18446744073709551616 + q / 18446744073709551616) % 18446744073709551616) * 18446744073709551616 + q % 18446744073709551616 := by omega
        rw [wans_of e4 (by omega) (by omega) (by omega)]
        have e5 := sign_parts e4 (by omega) (by omega) sg
        have m0 : 0 ≤ (p % 18446744073709551616 + q / 18446744073709551616) % 18446744073709551616 := by omega
        have m1 : 0 ≤ q % 18446744073709551616 := by omega
        rw [← e5]
        rw [if_neg c1, if_neg c2, if_neg c1, if_neg c2]
        generalize (p % 18446744073709551616 + q / 18446744073709551616) % 18446744073709551616 = a at *
        generalize q % 18446744073709551616 = b at *
        by_cases z : (a == 0 && b == 0) = true
        · rw [if_pos z]
          have : a = 0 ∧ b = 0 := by simpa using z
          obtain ⟨rfl, rfl⟩ := this
          simp [wok, wnz]
        · rw [if_neg z]
          have nz : a > 0 ∨ b > 0 := by
            have : ¬ (a = 0 ∧ b = 0) := by simpa using z
            omega
          have e7 : wnz s a b = s := by
            unfold wnz
            rcases nz with d | d <;> simp [d]
          have e6 := wok_wnz s a b
          rw [e7] at e6
          rw [e6, e7]
          by_cases c3 : a < 9223372036854775808
          · rw [if_pos c3]; simp [c3]
          · rw [if_neg c3]; simp [c3]
  · rw [if_neg w, if_neg w]

theorem laws_eqWide_self (n : Bool) (h l : Int) : laws_eqWide.f n h l n h l = some true := by
  unfold laws_eqWide.f; simp

theorem FnExactScaleWide (n : Bool) (h l k : Int) (w1 : (Lit.int .u64 h).wf = true) (w2 : (Lit.int .u64 l).wf = true) (w3 : (Lit.int .i64 k).wf = true) : laws_FnExactScaleWide.f n h l k = some true := by
  have ⟨p0, p1⟩ := wfu64 w1
  have ⟨q0, q1⟩ := wfu64 w2
  have ⟨r0, r1⟩ := wf64 w3
  unfold laws_FnExactScaleWide.f laws_toWide.f
  simp only [Option.bind_some, impl_ScaleWide_eq n h l k p0 q0 q1 r0 r1, spec_ScaleWide_eq n h l k p0 q0 q1 r0 r1, laws_eqWide_self]
  simp

end Go.Proofs.Yteldfljjeofiaaa.Pure
