/- The order of fractions: program and reference compare the same products, and fail together. Conditions: each number is one of its kind, as the row says. -/
import Derived.Test.YteldfljjeofiaaaPFnExactCompareFracx
import Derived.Test.YteldfljjeofiaaaBase
set_option linter.unusedSimpArgs false
set_option linter.unusedVariables false
namespace Go.Proofs.Yteldfljjeofiaaa.Pure
open Go.RowKit Go.Proofs.Yteldfljjeofiaaa.Base Go.Proofs.Yteldfljjeofiaaa.PFnExactCompareFrac Go.Proofs.YteldfljjeofiaaaW.PrintWords Go.Proofs.YteldfljjeofiaaaW.PrintLast Go.Proofs.YteldfljjeofiaaaW.PrintMore

theorem impl_WideOk_eq (n : Bool) (h l : Int) : impl_WideOk.f n h l = some (wok n h l) := by
  unfold impl_WideOk.f wok
  by_cases c1 : h < 9223372036854775808
  · rw [if_pos c1]
    cases n
    · simp [c1]
    · by_cases c2 : h > 0
      · simp [c1, c2]
      · simp [c1, c2]
  · rw [if_neg c1]; simp [c1]

theorem impl_within_eq (a b c : Int) : impl_within.f a b c = some (iin a b c) := by
  unfold impl_within.f iin
  by_cases h : a ≥ b
  · rw [if_pos h]; simp [show b ≤ a from h]
  · rw [if_neg h]; simp [show ¬ b ≤ a from h]

theorem impl_FracOk_eq (n : Bool) (h l d : Int) : impl_FracOk.f n h l d = some (wok n h l && iin d 1 1000000) := by
  unfold impl_FracOk.f
  simp only [impl_WideOk_eq, impl_within_eq, Option.bind_some]
  cases wok n h l <;> simp

theorem impl_size_eq (a : Int) (h0 : -9223372036854775808 ≤ a) (h1 : a ≤ 9223372036854775807) : impl_size.f a = some (iabs a) := by
  unfold impl_size.f iabs
  by_cases h : a < 0
  · rw [if_pos h, if_pos h]; simp only [wu64]; congr 1; omega
  · rw [if_neg h, if_neg h]; simp only [wu64]; congr 1; omega

theorem bits_Mul64_eq (a b : Int) (ha0 : 0 ≤ a) (ha : a < 18446744073709551616) (hb0 : 0 ≤ b) (hb : b < 18446744073709551616) : bits_Mul64.f a b = some (a * b / 18446744073709551616, a * b % 18446744073709551616) := by
  unfold bits_Mul64.f
  rw [mulhi a b ha0 ha hb0 hb, wu64 (a * b)]

theorem impl_wideOf_eq (n : Bool) (h l : Int) : impl_wideOf.f n h l = some (wnz n h l, h, l) := by
  unfold impl_wideOf.f wnz
  cases n
  · simp
  · by_cases c : h > 0 <;> simp [c]

theorem bits_Add64_eq (a b c : Int) (h : 0 ≤ a ∧ 0 ≤ b ∧ 0 ≤ c ∧ c ≤ 1) : bits_Add64.f a b c = some ((a + b + c) % 18446744073709551616, (a + b + c) / 18446744073709551616) := by
  unfold bits_Add64.f
  rw [if_pos h]
theorem impl_ScaleWide_eq (n : Bool) (h l k : Int) (h0 : 0 ≤ h) (l0 : 0 ≤ l) (l1 : l < 18446744073709551616) (k0 : -9223372036854775808 ≤ k) (k1 : k ≤ 9223372036854775807) : impl_ScaleWide.f n h l k = some (scaleAns n h l k) := by
  unfold impl_ScaleWide.f scaleAns
  simp only [impl_WideOk_eq, Option.bind_some]
  by_cases w : wok n h l = true
  · rw [if_pos w, if_pos w]
    have hh := wok_high w
    have ⟨u0, u1⟩ := iabs_u64 k0 k1
    have e1 := iabs_wval n h0 l0
    have e2 := iabs_mul (wval n h l) k
    have e3 := scale_parts (u := iabs k) (iabs (wval n h l)) e1
    have sg := scale_sign (k := k) h0 l0 w
    rw [e2] at e3
    have ⟨p0, p1⟩ := mul_u64 h (iabs k) h0 (by omega) u0 u1
    have ⟨q0, q1⟩ := mul_u64 l (iabs k) l0 l1 u0 u1
    simp only [impl_size_eq k k0 k1, bits_Mul64_eq _ _ h0 (show h < 18446744073709551616 by omega) u0 u1, bits_Mul64_eq _ _ l0 l1 u0 u1, Option.bind_some]
    generalize wval n h l * k = v at *
    generalize h * iabs k = p at *
    generalize l * iabs k = q at *
    rw [bits_Add64_eq _ _ _ (by omega)]
    simp only [impl_wideOf_eq, Option.bind_some]
    by_cases c1 : p / 18446744073709551616 > 0
    · rw [if_pos c1, wans_over (by omega)]
    · rw [if_neg c1]
      by_cases c2 : (p % 18446744073709551616 + q / 18446744073709551616 + 0) / 18446744073709551616 > 0
      · rw [if_pos c2, wans_over (by omega)]
      · rw [if_neg c2]
        have e4 : iabs v = ((p % 18446744073709551616 + q / 18446744073709551616 + 0) % 18446744073709551616) * 18446744073709551616 + q % 18446744073709551616 := by omega
        rw [wans_of e4 (by omega) (by omega) (by omega), sign_parts e4 (by omega) (by omega) sg]
        have e5 := sign_parts (s := decide (v < 0)) e4 (by omega) (by omega) (fun _ => rfl)
        have e6 := wok_wnz (decide (v < 0)) ((p % 18446744073709551616 + q / 18446744073709551616 + 0) % 18446744073709551616) (q % 18446744073709551616)
        rw [e5] at e6
        rw [e6]
        generalize (p % 18446744073709551616 + q / 18446744073709551616 + 0) % 18446744073709551616 = a at *
        generalize q % 18446744073709551616 = b at *
        by_cases c3 : a < 9223372036854775808
        · rw [if_pos c3]; simp [c3]
        · rw [if_neg c3]; simp [c3]
  · rw [if_neg w, if_neg w]

theorem impl_crossed_eq (n m : Bool) (h l d h' l' d' : Int) (h0 : 0 ≤ h) (l0 : 0 ≤ l) (l1 : l < 18446744073709551616) (d0 : -9223372036854775808 ≤ d) (d1 : d ≤ 9223372036854775807) (g0 : 0 ≤ h') (m0 : 0 ≤ l') (m1 : l' < 18446744073709551616) (e0 : -9223372036854775808 ≤ d') (e1 : d' ≤ 9223372036854775807) (k : Nat) (hk : 1 ≤ k) : impl_crossed.f k n h l d m h' l' d' = some (crossAns n h l d m h' l' d') := by
  obtain ⟨k, rfl⟩ : ∃ j, k = j + 1 := ⟨k - 1, by omega⟩
  unfold impl_crossed.f crossAns fok
  simp only [impl_FracOk_eq, Option.bind_some, impl_crossed.j0, impl_ScaleWide_eq n h l d' h0 l0 l1 e0 e1, impl_ScaleWide_eq m h' l' d g0 m0 m1 d0 d1]
  cases (wok n h l && iin d 1 1000000) <;> cases (wok m h' l' && iin d' 1 1000000) <;> simp
  cases (scaleAns n h l d').2.2.2 <;> simp

theorem cmp_isNaN_uint64_eq (a : Int) : cmp_isNaN_uint64.f a = some false := by unfold cmp_isNaN_uint64.f; simp
theorem cmp_Compare_uint64_eq (a b : Int) : cmp_Compare_uint64.f a b = some (cmpI a b) := by
  unfold cmp_Compare_uint64.f cmpI
  simp only [cmp_isNaN_uint64_eq, Option.bind_some]
  by_cases h : a < b
  · simp [h]
  · by_cases h' : a > b <;> simp [h, h']
theorem cmp_Or_int_two (a b : Int) (k : Nat) (hk : 3 ≤ k) : cmp_Or_int.f k [a, b] = some (if a = 0 then b else a) := by
  obtain ⟨k, rfl⟩ : ∃ m, k = m + 3 := ⟨k - 3, by omega⟩
  have w1 : wrap64 (0 + 1) = 1 := by unfold wrap64; omega
  have w2 : wrap64 (1 + 1) = 2 := by unfold wrap64; omega
  have r0 : rd [a, b] 0 = a := rfl
  have r1 : rd [a, b] 1 = b := rfl
  unfold cmp_Or_int.f
  simp only [cmp_Or_int.l0, List.length_cons, List.length_nil, w1, w2, r0, r1]
  by_cases h : a = 0
  · subst h
    by_cases h' : b = 0
    · subst h'; simp
    · simp [h']
  · simp [h]

theorem impl_compareSizes_eq (n m : Bool) (h l h' l' : Int) (k : Nat) (hk : 3 ≤ k) : impl_compareSizes.f k n h l m h' l' = some (if cmpI h h' = 0 then cmpI l l' else cmpI h h') := by
  unfold impl_compareSizes.f
  simp only [cmp_Compare_uint64_eq, Option.bind_some, cmp_Or_int_two _ _ k hk]
theorem cmp_sizes {h l h' l' : Int} (l0 : 0 ≤ l) (l1 : l < 18446744073709551616) (m0 : 0 ≤ l') (m1 : l' < 18446744073709551616) :
    (if cmpI h h' = 0 then cmpI l l' else cmpI h h') = cmpI (h * 18446744073709551616 + l) (h' * 18446744073709551616 + l') := by
  unfold cmpI
  by_cases c1 : h < h'
  · have e : h * 18446744073709551616 + l < h' * 18446744073709551616 + l' := by omega
    simp [c1, e]
  · by_cases c2 : h > h'
    · have e : ¬ h * 18446744073709551616 + l < h' * 18446744073709551616 + l' := by omega
      have e2 : h * 18446744073709551616 + l > h' * 18446744073709551616 + l' := by omega
      rw [if_neg c1, if_pos c2, if_neg e, if_pos e2]; rfl
    · obtain rfl : h = h' := by omega
      rw [if_neg c1, if_neg c2, if_pos rfl]
      by_cases c3 : l < l'
      · rw [if_pos c3, if_pos (by omega)]
      · by_cases c4 : l > l'
        · rw [if_neg c3, if_pos c4, if_neg (by omega), if_pos (by omega)]
        · rw [if_neg c3, if_neg c4, if_neg (by omega), if_neg (by omega)]

theorem impl_CompareWide_eq (n m : Bool) (h l h' l' : Int) (hh : 0 ≤ h) (l0 : 0 ≤ l) (l1 : l < 18446744073709551616) (hh' : 0 ≤ h') (m0 : 0 ≤ l') (m1 : l' < 18446744073709551616) (k : Nat) (hk : 6 ≤ k) :
    impl_CompareWide.f k n h l m h' l' = some (cmpI (wval n h l) (wval m h' l')) := by
  obtain ⟨k, rfl⟩ : ∃ j, k = j + 2 := ⟨k - 2, by omega⟩
  have e1 : wval n h l = wval (wnz n h l) h l := by
    unfold wval wnz
    cases n
    · rfl
    · by_cases c : h > 0
      · simp [c]
      · by_cases d : l > 0
        · simp [d]
        · simp [c, d]; omega
  have e2 : wval m h' l' = wval (wnz m h' l') h' l' := by
    unfold wval wnz
    cases m
    · rfl
    · by_cases c : h' > 0
      · simp [c]
      · by_cases d : l' > 0
        · simp [d]
        · simp [c, d]; omega
  have p1 : wnz n h l = true → h * 18446744073709551616 + l > 0 := by
    unfold wnz; intro x; simp at x; omega
  have p2 : wnz m h' l' = true → h' * 18446744073709551616 + l' > 0 := by
    unfold wnz; intro x; simp at x; omega
  rw [e1, e2]
  unfold impl_CompareWide.f
  simp only [impl_wideOf_eq, Option.bind_some, impl_CompareWide.j0, impl_CompareWide.j1, impl_compareSizes_eq _ _ _ _ _ _ k (by omega)]
  generalize wnz n h l = a at *
  generalize wnz m h' l' = b at *
  cases a <;> cases b
  · simp [cmp_sizes l0 l1 m0 m1, wval]
  · have q := p2 rfl
    simp only [wval, cmpI]
    simp
    first | done | (rw [if_neg (by omega), if_pos (by omega)])
  · have q := p1 rfl
    simp [wval, cmpI]
    try omega
  · simp only [Bool.not_true, if_true, cmp_sizes m0 m1 l0 l1, wval]
    simp [cmpI]

theorem impl_CompareFrac_eq (n m : Bool) (h l d h' l' d' : Int) (h0 : 0 ≤ h) (l0 : 0 ≤ l) (l1 : l < 18446744073709551616) (d0 : -9223372036854775808 ≤ d) (d1 : d ≤ 9223372036854775807) (g0 : 0 ≤ h') (m0 : 0 ≤ l') (m1 : l' < 18446744073709551616) (e0 : -9223372036854775808 ≤ d') (e1 : d' ≤ 9223372036854775807) (k : Nat) (hk : 6 ≤ k) : impl_CompareFrac.f k n h l d m h' l' d' = some (cmpFrac n h l d m h' l' d') := by
  unfold impl_CompareFrac.f cmpFrac
  have p := crossAns_parts n h l d m h' l' d'
  rw [impl_crossed_eq n m h l d h' l' d' h0 l0 l1 d0 d1 g0 m0 m1 e0 e1 k (by omega)]
  simp only [Option.bind_some]
  by_cases c : (crossAns n h l d m h' l' d').2.2.2.2.2.2 = true
  · rw [if_pos c, if_pos c, impl_CompareWide_eq _ _ _ _ _ _ p.1 p.2.2.1 p.2.2.2.1 p.2.2.2.2.1 p.2.2.2.2.2.2.1 p.2.2.2.2.2.2.2 k hk]
    rfl
  · rw [if_neg c, if_neg c]

theorem spec_WideOk_eq (n : Bool) (h l : Int) : spec_WideOk.f n h l = some (wok n h l) := by
  unfold spec_WideOk.f wok
  by_cases c1 : h < 9223372036854775808
  · rw [if_pos c1]
    cases n
    · simp [c1]
    · by_cases c2 : h > 0
      · simp [c1, c2]
      · simp [c1, c2]
  · rw [if_neg c1]; simp [c1]

theorem spec_l1In_eq (a b c : Int) : spec_l1In.f a b c = some (iin a b c) := by
  unfold spec_l1In.f iin
  by_cases h : a ≥ b
  · rw [if_pos h]; simp [show b ≤ a from h]
  · rw [if_neg h]; simp [show ¬ b ≤ a from h]

theorem spec_FracOk_eq (n : Bool) (h l d : Int) : spec_FracOk.f n h l d = some (wok n h l && iin d 1 1000000) := by
  unfold spec_FracOk.f
  simp only [spec_WideOk_eq, spec_l1In_eq, Option.bind_some]
  cases wok n h l <;> simp

theorem spec_l3Abs_eq (a : Int) (h0 : -9223372036854775808 ≤ a) (h1 : a ≤ 9223372036854775807) : spec_l3Abs.f a = some (iabs a) := by
  unfold spec_l3Abs.f iabs
  by_cases h : a < 0
  · rw [if_pos h, if_pos h]; simp only [wu64]; unfold wrap64; congr 1; omega
  · rw [if_neg h, if_neg h]; simp only [wu64]; congr 1; omega

theorem spec_l3Product_eq (a b : Int) (ha0 : 0 ≤ a) (ha : a < 18446744073709551616) (hb0 : 0 ≤ b) (hb : b < 18446744073709551616) : spec_l3Product.f a b = some (a * b / 18446744073709551616, a * b % 18446744073709551616) := by
  unfold spec_l3Product.f
  rw [and_mask32 a ha0 ha, and_mask32 b hb0 hb]
  rw [and_mask32 (IntKind.u64.wrap (_ + _)) (by rw [wu64]; omega) (by rw [wu64]; omega), and_mask32 (IntKind.u64.wrap (a % 4294967296 * (b % 4294967296))) (by rw [wu64]; omega) (by rw [wu64]; omega)]
  have h := prod_split a b
  have ⟨l1, u1⟩ := mul_bound (x := a / 4294967296) (y := b / 4294967296) (by omega) (by omega) (by omega) (by omega)
  have ⟨l2, u2⟩ := mul_bound (x := a / 4294967296) (y := b % 4294967296) (by omega) (by omega) (by omega) (by omega)
  have ⟨l3, u3⟩ := mul_bound (x := a % 4294967296) (y := b / 4294967296) (by omega) (by omega) (by omega) (by omega)
  have ⟨l4, u4⟩ := mul_bound (x := a % 4294967296) (y := b % 4294967296) (by omega) (by omega) (by omega) (by omega)
  have lt := (mul_u64 a b ha0 ha hb0 hb).2
  simp only [wu64]
  generalize (a / 4294967296) * (b / 4294967296) = p at *
  generalize (a / 4294967296) * (b % 4294967296) = q at *
  generalize (a % 4294967296) * (b / 4294967296) = r at *
  generalize (a % 4294967296) * (b % 4294967296) = s at *
  generalize a * b = t at *
  simp only [Option.some.injEq, Prod.mk.injEq]
  constructor <;> omega

theorem spec_l3Zero_eq (n : Bool) (h l : Int) : spec_l3Zero.f n h l = some ((h == 0) && (l == 0)) := by
  unfold spec_l3Zero.f
  by_cases c : h = 0 <;> simp [c]

theorem spec_ScaleWide_eq (n : Bool) (h l k : Int) (h0 : 0 ≤ h) (l0 : 0 ≤ l) (l1 : l < 18446744073709551616) (k0 : -9223372036854775808 ≤ k) (k1 : k ≤ 9223372036854775807) : spec_ScaleWide.f n h l k = some (scaleAns n h l k) := by
  unfold spec_ScaleWide.f scaleAns
  simp only [spec_WideOk_eq, Option.bind_some]
  by_cases w : wok n h l = true
  · rw [if_pos w, if_pos w]
    have hh := wok_high w
    have ⟨u0, u1⟩ := iabs_u64 k0 k1
    have e1 := iabs_wval n h0 l0
    have e2 := iabs_mul (wval n h l) k
    have e3 := scale_parts (u := iabs k) (iabs (wval n h l)) e1
    have sg := scale_sign (k := k) h0 l0 w
    rw [e2] at e3
    have ⟨p0, p1⟩ := mul_u64 h (iabs k) h0 (by omega) u0 u1
    have ⟨q0, q1⟩ := mul_u64 l (iabs k) l0 l1 u0 u1
    simp only [spec_l3Abs_eq k k0 k1, spec_l3Product_eq _ _ h0 (show h < 18446744073709551616 by omega) u0 u1, spec_l3Product_eq _ _ l0 l1 u0 u1, Option.bind_some, spec_l3Zero_eq, wu64]
    generalize wval n h l * k = v at *
    generalize h * iabs k = p at *
    generalize l * iabs k = q at *
    generalize hs : (n != decide (k < 0)) = s at *
    by_cases c1 : p / 18446744073709551616 > 0
    · rw [wans_over (by omega), if_pos c1, if_pos c1]
      simp
    · by_cases c2 : (p % 18446744073709551616 + q / 18446744073709551616) % 18446744073709551616 < p % 18446744073709551616
      · rw [wans_over (by omega), if_neg c1, if_neg c1, if_pos c2, if_pos c2]
        simp
      · have e4 : iabs v = ((p % 18446744073709551616 + q / 18446744073709551616) % 18446744073709551616) * 18446744073709551616 + q % 18446744073709551616 := by omega
        rw [wans_of e4 (by omega) (by omega) (by omega)]
        have e5 := sign_parts e4 (by omega) (by omega) sg
        have m0 : 0 ≤ (p % 18446744073709551616 + q / 18446744073709551616) % 18446744073709551616 := by omega
        have m1 : 0 ≤ q % 18446744073709551616 := by omega
        rw [← e5]
        rw [if_neg c1, if_neg c2, if_neg c1, if_neg c2]
        generalize (p % 18446744073709551616 + q / 18446744073709551616) % 18446744073709551616 = a at *
        generalize q % 18446744073709551616 = b at *
        by_cases z : (a == 0 && b == 0) = true
        · rw [if_pos z]
          have : a = 0 ∧ b = 0 := by simpa using z
          obtain ⟨rfl, rfl⟩ := this
          simp [wok, wnz]
        · rw [if_neg z]
          have nz : a > 0 ∨ b > 0 := by
            have : ¬ (a = 0 ∧ b = 0) := by simpa using z
            omega
          have e7 : wnz s a b = s := by
            unfold wnz
            rcases nz with d | d <;> simp [d]
          have e6 := wok_wnz s a b
          rw [e7] at e6
          rw [e6, e7]
          by_cases c3 : a < 9223372036854775808
          · rw [if_pos c3]; simp [c3]
          · rw [if_neg c3]; simp [c3]
  · rw [if_neg w, if_neg w]

theorem spec_l5Cross_eq (n m : Bool) (h l d h' l' d' : Int) (h0 : 0 ≤ h) (l0 : 0 ≤ l) (l1 : l < 18446744073709551616) (d0 : -9223372036854775808 ≤ d) (d1 : d ≤ 9223372036854775807) (g0 : 0 ≤ h') (m0 : 0 ≤ l') (m1 : l' < 18446744073709551616) (e0 : -9223372036854775808 ≤ d') (e1 : d' ≤ 9223372036854775807) (k : Nat) (hk : 1 ≤ k) : spec_l5Cross.f k n h l d m h' l' d' = some (crossAns n h l d m h' l' d') := by
  obtain ⟨k, rfl⟩ : ∃ j, k = j + 1 := ⟨k - 1, by omega⟩
  unfold spec_l5Cross.f crossAns fok
  simp only [spec_FracOk_eq, Option.bind_some, spec_l5Cross.j0, spec_ScaleWide_eq n h l d' h0 l0 l1 e0 e1, spec_ScaleWide_eq m h' l' d g0 m0 m1 d0 d1]
  cases (wok n h l && iin d 1 1000000) <;> cases (wok m h' l' && iin d' 1 1000000) <;> simp
  cases (scaleAns n h l d').2.2.2 <;> simp

theorem spec_l3Order_eq (n m : Bool) (h l h' l' : Int) (l0 : 0 ≤ l) (l1 : l < 18446744073709551616) (m0 : 0 ≤ l') (m1 : l' < 18446744073709551616) (k : Nat) (hk : 1 ≤ k) :
    spec_l3Order.f k n h l m h' l' = some (cmpI (h * 18446744073709551616 + l) (h' * 18446744073709551616 + l')) := by
  obtain ⟨k, rfl⟩ : ∃ j, k = j + 1 := ⟨k - 1, by omega⟩
  unfold spec_l3Order.f cmpI
  simp only [spec_l3Order.j0]
  by_cases c1 : h < h'
  · have e : h * 18446744073709551616 + l < h' * 18446744073709551616 + l' := by omega
    rw [if_pos c1, if_pos e]; rfl
  · rw [if_neg c1]
    by_cases c2 : h = h'
    · subst c2
      rw [if_pos rfl]
      by_cases c3 : l < l'
      · have e : h * 18446744073709551616 + l < h * 18446744073709551616 + l' := by omega
        rw [if_pos e]; simp [c3]
      · have e : ¬ h * 18446744073709551616 + l < h * 18446744073709551616 + l' := by omega
        rw [if_neg e]
        by_cases c4 : l > l'
        · have e2 : h * 18446744073709551616 + l > h * 18446744073709551616 + l' := by omega
          rw [if_pos e2]; simp [c3, c4]
        · have e2 : ¬ h * 18446744073709551616 + l > h * 18446744073709551616 + l' := by omega
          rw [if_neg e2]; simp [c3, c4]
    · have e : ¬ h * 18446744073709551616 + l < h' * 18446744073709551616 + l' := by omega
      have e2 : h * 18446744073709551616 + l > h' * 18446744073709551616 + l' := by omega
      rw [if_neg c2, if_neg e, if_pos e2]
      simp [show h > h' by omega]

theorem spec_CompareWide_eq (n m : Bool) (h l h' l' : Int) (hh : 0 ≤ h) (l0 : 0 ≤ l) (l1 : l < 18446744073709551616) (hh' : 0 ≤ h') (m0 : 0 ≤ l') (m1 : l' < 18446744073709551616) (k : Nat) (hk : 6 ≤ k) :
    spec_CompareWide.f k n h l m h' l' = some (cmpI (wval n h l) (wval m h' l')) := by
  obtain ⟨k, rfl⟩ : ∃ j, k = j + 4 := ⟨k - 4, by omega⟩
  unfold spec_CompareWide.f
  simp only [spec_CompareWide.j0, spec_CompareWide.j1, spec_CompareWide.j2, spec_CompareWide.j3, spec_l3Zero_eq, Option.bind_some, spec_l3Order_eq _ _ h l h' l' l0 l1 m0 m1 k (by omega), spec_l3Order_eq _ _ h' l' h l m0 m1 l0 l1 k (by omega)]
  cases n <;> cases m
  · simp [wval]
  · by_cases c : h' = 0 ∧ l' = 0
    · obtain ⟨rfl, rfl⟩ := c
      simp [wval]
    · have c2 : (h' == 0 && l' == 0) = false := by simpa using c
      simp [c2, wval, cmpI]
      rw [if_neg (by omega), if_pos (by omega)]
  · by_cases c : h = 0 ∧ l = 0
    · obtain ⟨rfl, rfl⟩ := c
      simp [wval]
    · have c2 : (h == 0 && l == 0) = false := by simpa using c
      simp [c2, wval, cmpI]
      try omega
  · by_cases c : h = 0 ∧ l = 0
    · obtain ⟨rfl, rfl⟩ := c
      by_cases d : h' = 0 ∧ l' = 0
      · obtain ⟨rfl, rfl⟩ := d
        simp [wval]
      · have d2 : (h' == 0 && l' == 0) = false := by simpa using d
        simp [d2, wval, cmpI]
        rw [if_neg (by omega), if_pos (by omega)]
    · have c2 : (h == 0 && l == 0) = false := by simpa using c
      by_cases d : h' = 0 ∧ l' = 0
      · obtain ⟨rfl, rfl⟩ := d
        simp [c2, wval, cmpI]
        try omega
      · have d2 : (h' == 0 && l' == 0) = false := by simpa using d
        simp [c2, d2, wval, cmpI]

theorem spec_CompareFrac_eq (n m : Bool) (h l d h' l' d' : Int) (h0 : 0 ≤ h) (l0 : 0 ≤ l) (l1 : l < 18446744073709551616) (d0 : -9223372036854775808 ≤ d) (d1 : d ≤ 9223372036854775807) (g0 : 0 ≤ h') (m0 : 0 ≤ l') (m1 : l' < 18446744073709551616) (e0 : -9223372036854775808 ≤ d') (e1 : d' ≤ 9223372036854775807) (k : Nat) (hk : 6 ≤ k) : spec_CompareFrac.f k n h l d m h' l' d' = some (cmpFrac n h l d m h' l' d') := by
  unfold spec_CompareFrac.f cmpFrac
  have p := crossAns_parts n h l d m h' l' d'
  rw [spec_l5Cross_eq n m h l d h' l' d' h0 l0 l1 d0 d1 g0 m0 m1 e0 e1 k (by omega)]
  simp only [Option.bind_some]
  by_cases c : (crossAns n h l d m h' l' d').2.2.2.2.2.2 = true
  · rw [if_pos c, if_pos c, spec_CompareWide_eq _ _ _ _ _ _ p.1 p.2.2.1 p.2.2.2.1 p.2.2.2.2.1 p.2.2.2.2.2.2.1 p.2.2.2.2.2.2.2 k hk]
    rfl
  · rw [if_neg c, if_neg c]

theorem FnExactCompareFrac (n : Bool) (h l d : Int) (m : Bool) (h' l' d' : Int) (w1 : (Lit.int .u64 h).wf = true) (w2 : (Lit.int .u64 l).wf = true) (w3 : (Lit.int .i64 d).wf = true) (w4 : (Lit.int .u64 h').wf = true) (w5 : (Lit.int .u64 l').wf = true) (w6 : (Lit.int .i64 d').wf = true) : ∃ k, laws_FnExactCompareFrac.f k n h l d m h' l' d' = some true := by
  have ⟨p0, p1⟩ := wfu64 w1
  have ⟨q0, q1⟩ := wfu64 w2
  have ⟨d0, d1⟩ := wf64 w3
  have ⟨r0, r1⟩ := wfu64 w4
  have ⟨s0, s1⟩ := wfu64 w5
  have ⟨e0, e1⟩ := wf64 w6
  refine ⟨6, ?_⟩
  unfold laws_FnExactCompareFrac.f laws_toFrac.f laws_toWide.f
  simp only [Option.bind_some, impl_CompareFrac_eq n m h l d h' l' d' p0 q0 q1 d0 d1 r0 s0 s1 e0 e1 6 (by omega), spec_CompareFrac_eq n m h l d h' l' d' p0 q0 q1 d0 d1 r0 s0 s1 e0 e1 6 (by omega)]
  simp

end Go.Proofs.Yteldfljjeofiaaa.Pure
