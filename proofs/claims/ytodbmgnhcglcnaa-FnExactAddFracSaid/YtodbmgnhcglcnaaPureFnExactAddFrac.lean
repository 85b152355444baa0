/- The sum of fractions: program and reference give the same fraction, and fail together. Conditions: each number is one of its kind, as the row says. -/
import Derived.Test.YtodbmgnhcglcnaaPFnExactAddFracx
import Derived.Test.YtodbmgnhcglcnaaBase
set_option linter.unusedSimpArgs false
set_option linter.unusedVariables false
namespace Go.Proofs.Ytodbmgnhcglcnaa.Pure
open Go.RowKit Go.Proofs.Ytodbmgnhcglcnaa.Base Go.Proofs.Ytodbmgnhcglcnaa.PFnExactAddFrac Go.Proofs.YtodbmgnhcglcnaaW.PrintWords Go.Proofs.YtodbmgnhcglcnaaW.PrintLast Go.Proofs.YtodbmgnhcglcnaaW.PrintMore

theorem impl_WideOk_eq (n : Bool) (h l : Int) : impl_WideOk.f n h l = some (wok n h l) := by
  unfold impl_WideOk.f wok
  by_cases c1 : h < 9223372036854775808
  · rw [if_pos c1]
    cases n
    · simp [c1]
    · by_cases c2 : h > 0
      · simp [c1, c2]
      · simp [c1, c2]
  · rw [if_neg c1]; simp [c1]

theorem impl_within_eq (a b c : Int) : impl_within.f a b c = some (iin a b c) := by
  unfold impl_within.f iin
  by_cases h : a ≥ b
  · rw [if_pos h]; simp [show b ≤ a from h]
  · rw [if_neg h]; simp [show ¬ b ≤ a from h]

theorem impl_FracOk_eq (n : Bool) (h l d : Int) : impl_FracOk.f n h l d = some (wok n h l && iin d 1 1000000) := by
  unfold impl_FracOk.f
  simp only [impl_WideOk_eq, impl_within_eq, Option.bind_some]
  cases wok n h l <;> simp

theorem impl_size_eq (a : Int) (h0 : -9223372036854775808 ≤ a) (h1 : a ≤ 9223372036854775807) : impl_size.f a = some (iabs a) := by
  unfold impl_size.f iabs
  by_cases h : a < 0
  · rw [if_pos h, if_pos h]; simp only [wu64]; congr 1; omega
  · rw [if_neg h, if_neg h]; simp only [wu64]; congr 1; omega

theorem bits_Mul64_eq (a b : Int) (ha0 : 0 ≤ a) (ha : a < 18446744073709551616) (hb0 : 0 ≤ b) (hb : b < 18446744073709551616) : bits_Mul64.f a b = some (a * b / 18446744073709551616, a * b % 18446744073709551616) := by
  unfold bits_Mul64.f
  rw [mulhi a b ha0 ha hb0 hb, wu64 (a * b)]

theorem impl_wideOf_eq (n : Bool) (h l : Int) : impl_wideOf.f n h l = some (wnz n h l, h, l) := by
  unfold impl_wideOf.f wnz
  cases n
  · simp
  · by_cases c : h > 0 <;> simp [c]

theorem bits_Add64_eq (a b c : Int) (h : 0 ≤ a ∧ 0 ≤ b ∧ 0 ≤ c ∧ c ≤ 1) : bits_Add64.f a b c = some ((a + b + c) % 18446744073709551616, (a + b + c) / 18446744073709551616) := by
  unfold bits_Add64.f
  rw [if_pos h]
theorem impl_ScaleWide_eq (n : Bool) (h l k : Int) (h0 : 0 ≤ h) (l0 : 0 ≤ l) (l1 : l < 18446744073709551616) (k0 : -9223372036854775808 ≤ k) (k1 : k ≤ 9223372036854775807) : impl_ScaleWide.f n h l k = some (scaleAns n h l k) := by
  unfold impl_ScaleWide.f scaleAns
  simp only [impl_WideOk_eq, Option.bind_some]
  by_cases w : wok n h l = true
  · rw [if_pos w, if_pos w]
    have hh := wok_high w
    have ⟨u0, u1⟩ := iabs_u64 k0 k1
    have e1 := iabs_wval n h0 l0
    have e2 := iabs_mul (wval n h l) k
    have e3 := scale_parts (u := iabs k) (iabs (wval n h l)) e1
    have sg := scale_sign (k := k) h0 l0 w
    rw [e2] at e3
    have ⟨p0, p1⟩ := mul_u64 h (iabs k) h0 (by omega) u0 u1
    have ⟨q0, q1⟩ := mul_u64 l (iabs k) l0 l1 u0 u1
    simp only [impl_size_eq k k0 k1, bits_Mul64_eq _ _ h0 (show h < 18446744073709551616 by omega) u0 u1, bits_Mul64_eq _ _ l0 l1 u0 u1, Option.bind_some]
    generalize wval n h l * k = v at *
    generalize h * iabs k = p at *
    generalize l * iabs k = q at *
    rw [bits_Add64_eq _ _ _ (by omega)]
    simp only [impl_wideOf_eq, Option.bind_some]
    by_cases c1 : p / 18446744073709551616 > 0
    · rw [if_pos c1, wans_over (by omega)]
    · rw [if_neg c1]
      by_cases c2 : (p % 18446744073709551616 + q / 18446744073709551616 + 0) / 18446744073709551616 > 0
      · rw [if_pos c2, wans_over (by omega)]
      · rw [if_neg c2]
        have e4 : iabs v = ((p % 18446744073709551616 + q / 18446744073709551616 + 0) % 18446744073709551616) * 18446744073709551616 + q % 18446744073709551616 := by omega
        rw [wans_of e4 (by omega) (by omega) (by omega), sign_parts e4 (by omega) (by omega) sg]
        have e5 := sign_parts (s := decide (v < 0)) e4 (by omega) (by omega) (fun _ => rfl)
        have e6 := wok_wnz (decide (v < 0)) ((p % 18446744073709551616 + q / 18446744073709551616 + 0) % 18446744073709551616) (q % 18446744073709551616)
        rw [e5] at e6
        rw [e6]
        generalize (p % 18446744073709551616 + q / 18446744073709551616 + 0) % 18446744073709551616 = a at *
        generalize q % 18446744073709551616 = b at *
        by_cases c3 : a < 9223372036854775808
        · rw [if_pos c3]; simp [c3]
        · rw [if_neg c3]; simp [c3]
  · rw [if_neg w, if_neg w]

theorem impl_crossed_eq (n m : Bool) (h l d h' l' d' : Int) (h0 : 0 ≤ h) (l0 : 0 ≤ l) (l1 : l < 18446744073709551616) (d0 : -9223372036854775808 ≤ d) (d1 : d ≤ 9223372036854775807) (g0 : 0 ≤ h') (m0 : 0 ≤ l') (m1 : l' < 18446744073709551616) (e0 : -9223372036854775808 ≤ d') (e1 : d' ≤ 9223372036854775807) (k : Nat) (hk : 1 ≤ k) : impl_crossed.f k n h l d m h' l' d' = some (crossAns n h l d m h' l' d') := by
  obtain ⟨k, rfl⟩ : ∃ j, k = j + 1 := ⟨k - 1, by omega⟩
  unfold impl_crossed.f crossAns fok
  simp only [impl_FracOk_eq, Option.bind_some, impl_crossed.j0, impl_ScaleWide_eq n h l d' h0 l0 l1 e0 e1, impl_ScaleWide_eq m h' l' d g0 m0 m1 d0 d1]
  cases (wok n h l && iin d 1 1000000) <;> cases (wok m h' l' && iin d' 1 1000000) <;> simp
  cases (scaleAns n h l d').2.2.2 <;> simp

theorem cmp_isNaN_uint64_eq (a : Int) : cmp_isNaN_uint64.f a = some false := by unfold cmp_isNaN_uint64.f; simp
theorem cmp_Compare_uint64_eq (a b : Int) : cmp_Compare_uint64.f a b = some (cmpI a b) := by
  unfold cmp_Compare_uint64.f cmpI
  simp only [cmp_isNaN_uint64_eq, Option.bind_some]
  by_cases h : a < b
  · simp [h]
  · by_cases h' : a > b <;> simp [h, h']
theorem cmp_Or_int_two (a b : Int) (k : Nat) (hk : 3 ≤ k) : cmp_Or_int.f k [a, b] = some (if a = 0 then b else a) := by
  obtain ⟨k, rfl⟩ : ∃ m, k = m + 3 := ⟨k - 3, by omega⟩
  have w1 : wrap64 (0 + 1) = 1 := by unfold wrap64; omega
  have w2 : wrap64 (1 + 1) = 2 := by unfold wrap64; omega
  have r0 : rd [a, b] 0 = a := rfl
  have r1 : rd [a, b] 1 = b := rfl
  unfold cmp_Or_int.f
  simp only [cmp_Or_int.l0, List.length_cons, List.length_nil, w1, w2, r0, r1]
  by_cases h : a = 0
  · subst h
    by_cases h' : b = 0
    · subst h'; simp
    · simp [h']
  · simp [h]

theorem impl_compareSizes_eq (n m : Bool) (h l h' l' : Int) (k : Nat) (hk : 3 ≤ k) : impl_compareSizes.f k n h l m h' l' = some (if cmpI h h' = 0 then cmpI l l' else cmpI h h') := by
  unfold impl_compareSizes.f
  simp only [cmp_Compare_uint64_eq, Option.bind_some, cmp_Or_int_two _ _ k hk]
theorem cmp_sizes {h l h' l' : Int} (l0 : 0 ≤ l) (l1 : l < 18446744073709551616) (m0 : 0 ≤ l') (m1 : l' < 18446744073709551616) :
    (if cmpI h h' = 0 then cmpI l l' else cmpI h h') = cmpI (h * 18446744073709551616 + l) (h' * 18446744073709551616 + l') := by
  unfold cmpI
  by_cases c1 : h < h'
  · have e : h * 18446744073709551616 + l < h' * 18446744073709551616 + l' := by omega
    simp [c1, e]
  · by_cases c2 : h > h'
    · have e : ¬ h * 18446744073709551616 + l < h' * 18446744073709551616 + l' := by omega
      have e2 : h * 18446744073709551616 + l > h' * 18446744073709551616 + l' := by omega
      rw [if_neg c1, if_pos c2, if_neg e, if_pos e2]; rfl
    · obtain rfl : h = h' := by omega
      rw [if_neg c1, if_neg c2, if_pos rfl]
      by_cases c3 : l < l'
      · rw [if_pos c3, if_pos (by omega)]
      · by_cases c4 : l > l'
        · rw [if_neg c3, if_pos c4, if_neg (by omega), if_pos (by omega)]
        · rw [if_neg c3, if_neg c4, if_neg (by omega), if_neg (by omega)]

theorem bits_Add64_eq' (a b c : Int) (h : 0 ≤ a ∧ 0 ≤ b ∧ 0 ≤ c ∧ c ≤ 1) : bits_Add64.f a b c = some ((a + b + c) % 18446744073709551616, (a + b + c) / 18446744073709551616) := by
  unfold bits_Add64.f
  rw [if_pos h]
theorem bits_Sub64_eq (a b c : Int) (h : 0 ≤ a ∧ 0 ≤ b ∧ b < 18446744073709551616 ∧ 0 ≤ c ∧ c ≤ 1) : bits_Sub64.f a b c = some ((a - b - c) % 18446744073709551616, if a < b + c then 1 else 0) := by
  unfold bits_Sub64.f
  rw [if_pos h]
theorem impl_AddWide_eq (n m : Bool) (h l h' l' : Int) (h0 : 0 ≤ h) (l0 : 0 ≤ l) (l1 : l < 18446744073709551616) (g0 : 0 ≤ h') (m0 : 0 ≤ l') (m1 : l' < 18446744073709551616) (k : Nat) (hk : 6 ≤ k) : impl_AddWide.f k n h l m h' l' = some (addAns n h l m h' l') := by
  obtain ⟨k, rfl⟩ : ∃ j, k = j + 1 := ⟨k - 1, by omega⟩
  unfold impl_AddWide.f addAns
  simp only [impl_WideOk_eq, Option.bind_some]
  by_cases w : wok n h l = true
  · rw [if_pos w]
    by_cases w' : wok m h' l' = true
    · have hh := wok_high w
      have gg := wok_high w'
      have nz := wok_nz w
      have mz := wok_nz w'
      have sn := wval_neg n h0 l0
      have sm := wval_neg m g0 m0
      rw [nz] at sn
      rw [mz] at sm
      have dn := wval_def n h l
      have dm := wval_def m h' l'
      rw [w, w']
      simp only [impl_AddWide.j0, Bool.not_true, Bool.false_eq_true, if_false, Bool.and_self, if_true]
      generalize wval n h l = u at *
      generalize wval m h' l' = v at *
      by_cases c : (n != m) = true
      · rw [if_pos c]
        simp only [impl_compareSizes_eq n m h l h' l' k (by omega), cmp_sizes l0 l1 m0 m1, Option.bind_some]
        by_cases d : cmpI (h * 18446744073709551616 + l) (h' * 18446744073709551616 + l') < 0
        · rw [if_pos d]
          have dlt : h * 18446744073709551616 + l < h' * 18446744073709551616 + l' := by
            unfold cmpI at d
            by_cases e : h * 18446744073709551616 + l < h' * 18446744073709551616 + l'
            · exact e
            · rw [if_neg e] at d; split at d <;> omega
          have ⟨p, q⟩ := sub_parts m0 m1 l0 l1 g0 gg h0 (by omega)
          rw [bits_Sub64_eq l' l 0 (by omega)]
          simp only [Option.bind_some]
          rw [bits_Sub64_eq h' h _ (by split <;> omega)]
          simp only [Option.bind_some, impl_wideOf_eq]
          have e4 : iabs (u + v) = (h' - h - (if l' < l + 0 then 1 else 0)) % 18446744073709551616 * 18446744073709551616 + (l' - l - 0) % 18446744073709551616 := by
            rw [p]; subst dn dm; unfold iabs
            cases n <;> cases m <;> simp at c ⊢ <;> omega
          have sg : u + v ≠ 0 → decide (u + v < 0) = m := by
            intro _; subst dn dm
            cases n <;> cases m <;> simp at c ⊢ <;> omega
          generalize (h' - h - (if l' < l + 0 then 1 else 0)) % 18446744073709551616 = a at *
          have a0 : 0 ≤ a := by have := iabs_nonneg (u + v); omega
          have b0 : 0 ≤ (l' - l - 0) % 18446744073709551616 := by omega
          rw [wans_of e4 a0 b0 (by omega), if_pos q, sign_parts e4 a0 b0 sg]
        · rw [if_neg d]
          have dle : h' * 18446744073709551616 + l' ≤ h * 18446744073709551616 + l := by
            unfold cmpI at d
            by_cases e : h * 18446744073709551616 + l < h' * 18446744073709551616 + l'
            · rw [if_pos e] at d; omega
            · omega
          have ⟨p, q⟩ := sub_parts l0 l1 m0 m1 h0 hh g0 dle
          rw [bits_Sub64_eq l l' 0 (by omega)]
          simp only [Option.bind_some]
          rw [bits_Sub64_eq h h' _ (by split <;> omega)]
          simp only [Option.bind_some, impl_wideOf_eq]
          have e4 : iabs (u + v) = (h - h' - (if l < l' + 0 then 1 else 0)) % 18446744073709551616 * 18446744073709551616 + (l - l' - 0) % 18446744073709551616 := by
            rw [p]; subst dn dm; unfold iabs
            cases n <;> cases m <;> simp at c ⊢ <;> omega
          have sg : u + v ≠ 0 → decide (u + v < 0) = n := by
            intro z; subst dn dm
            cases n <;> cases m <;> simp at c z ⊢ <;> omega
          generalize (h - h' - (if l < l' + 0 then 1 else 0)) % 18446744073709551616 = a at *
          have a0 : 0 ≤ a := by have := iabs_nonneg (u + v); omega
          have b0 : 0 ≤ (l - l' - 0) % 18446744073709551616 := by omega
          rw [wans_of e4 a0 b0 (by omega), if_pos q, sign_parts e4 a0 b0 sg]
      · rw [if_neg c]
        have nm : n = m := by simpa using c
        subst nm
        rw [bits_Add64_eq' l l' 0 (by omega)]
        simp only [Option.bind_some]
        rw [bits_Add64_eq' h h' _ (by omega)]
        simp only [Option.bind_some, impl_wideOf_eq]
        have e4 : iabs (u + v) = (h + h' + (l + l' + 0) / 18446744073709551616) % 18446744073709551616 * 18446744073709551616 + (l + l' + 0) % 18446744073709551616 := by
          subst dn dm; unfold iabs
          cases n <;> simp <;> omega
        have sg : u + v ≠ 0 → decide (u + v < 0) = n := by
          intro z; subst dn dm
          cases n <;> simp at z ⊢ <;> omega
        have a0 : 0 ≤ (h + h' + (l + l' + 0) / 18446744073709551616) % 18446744073709551616 := by omega
        have b0 : 0 ≤ (l + l' + 0) % 18446744073709551616 := by omega
        have b1 : (l + l' + 0) % 18446744073709551616 < 18446744073709551616 := by omega
        generalize (h + h' + (l + l' + 0) / 18446744073709551616) % 18446744073709551616 = a at *
        generalize (l + l' + 0) % 18446744073709551616 = b at *
        have e6 := wok_wnz n a b
        rw [sign_parts e4 a0 b0 sg] at e6
        rw [wans_of e4 a0 b0 b1, sign_parts e4 a0 b0 sg, impl_WideOk_eq, e6]
        simp only [Option.bind_some]
        by_cases c3 : a < 9223372036854775808
        · rw [if_pos c3, if_pos (decide_eq_true c3)]
        · rw [if_neg c3, if_neg (by simpa using c3)]
    · have w2 : wok m h' l' = false := by simpa using w'
      rw [w2]
      simp [impl_AddWide.j0]
  · have w2 : wok n h l = false := by simpa using w
    rw [if_neg w, w2]
    simp [impl_AddWide.j0]

theorem impl_AddFrac_eq (n m : Bool) (h l d h' l' d' : Int) (h0 : 0 ≤ h) (l0 : 0 ≤ l) (l1 : l < 18446744073709551616) (d0 : -9223372036854775808 ≤ d) (d1 : d ≤ 9223372036854775807) (g0 : 0 ≤ h') (m0 : 0 ≤ l') (m1 : l' < 18446744073709551616) (e0 : -9223372036854775808 ≤ d') (e1 : d' ≤ 9223372036854775807) (k : Nat) (hk : 6 ≤ k) : impl_AddFrac.f k n h l d m h' l' d' = some (addFrac n h l d m h' l' d') := by
  unfold impl_AddFrac.f addFrac impl_fracOf.f
  have p := crossAns_parts n h l d m h' l' d'
  rw [impl_crossed_eq n m h l d h' l' d' h0 l0 l1 d0 d1 g0 m0 m1 e0 e1 k (by omega)]
  simp only [Option.bind_some]
  generalize crossAns n h l d m h' l' d' = c at *
  by_cases z : c.2.2.2.2.2.2 = true
  · rw [if_pos z, if_pos z, impl_AddWide_eq _ _ _ _ _ _ p.1 p.2.2.1 p.2.2.2.1 p.2.2.2.2.1 p.2.2.2.2.2.2.1 p.2.2.2.2.2.2.2 k hk]
    simp only [Option.bind_some]
    generalize addAns c.1 c.2.1 c.2.2.1 c.2.2.2.1 c.2.2.2.2.1 c.2.2.2.2.2.1 = s
    by_cases y : s.2.2.2 = true
    · rw [if_pos y, if_pos y]
      simp only [impl_FracOk_eq, Option.bind_some]
      by_cases x : (wok s.1 s.2.1 s.2.2.1 && iin (wrap64 (d * d')) 1 1000000) = true
      · rw [if_pos x, if_pos (show fok s.1 s.2.1 s.2.2.1 (wrap64 (d * d')) = true from x)]
        rfl
      · rw [if_neg x, if_neg (show ¬ fok s.1 s.2.1 s.2.2.1 (wrap64 (d * d')) = true from x)]
        rfl
    · rw [if_neg y, if_neg y]
  · rw [if_neg z, if_neg z]

theorem spec_WideOk_eq (n : Bool) (h l : Int) : spec_WideOk.f n h l = some (wok n h l) := by
  unfold spec_WideOk.f wok
  by_cases c1 : h < 9223372036854775808
  · rw [if_pos c1]
    cases n
    · simp [c1]
    · by_cases c2 : h > 0
      · simp [c1, c2]
      · simp [c1, c2]
  · rw [if_neg c1]; simp [c1]

theorem spec_l1In_eq (a b c : Int) : spec_l1In.f a b c = some (iin a b c) := by
  unfold spec_l1In.f iin
  by_cases h : a ≥ b
  · rw [if_pos h]; simp [show b ≤ a from h]
  · rw [if_neg h]; simp [show ¬ b ≤ a from h]

theorem spec_FracOk_eq (n : Bool) (h l d : Int) : spec_FracOk.f n h l d = some (wok n h l && iin d 1 1000000) := by
  unfold spec_FracOk.f
  simp only [spec_WideOk_eq, spec_l1In_eq, Option.bind_some]
  cases wok n h l <;> simp

theorem spec_l3Abs_eq (a : Int) (h0 : -9223372036854775808 ≤ a) (h1 : a ≤ 9223372036854775807) : spec_l3Abs.f a = some (iabs a) := by
  unfold spec_l3Abs.f iabs
  by_cases h : a < 0
  · rw [if_pos h, if_pos h]; simp only [wu64]; unfold wrap64; congr 1; omega
  · rw [if_neg h, if_neg h]; simp only [wu64]; congr 1; omega

theorem spec_l3Product_eq (a b : Int) (ha0 : 0 ≤ a) (ha : a < 18446744073709551616) (hb0 : 0 ≤ b) (hb : b < 18446744073709551616) : spec_l3Product.f a b = some (a * b / 18446744073709551616, a * b % 18446744073709551616) := by
  unfold spec_l3Product.f
  rw [and_mask32 a ha0 ha, and_mask32 b hb0 hb]
  rw [and_mask32 (IntKind.u64.wrap (_ + _)) (by rw [wu64]; omega) (by rw [wu64]; omega), and_mask32 (IntKind.u64.wrap (a % 4294967296 * (b % 4294967296))) (by rw [wu64]; omega) (by rw [wu64]; omega)]
  have h := prod_split a b
  have ⟨l1, u1⟩ := mul_bound (x := a / 4294967296) (y := b / 4294967296) (by omega) (by omega) (by omega) (by omega)
  have ⟨l2, u2⟩ := mul_bound (x := a / 4294967296) (y := b % 4294967296) (by omega) (by omega) (by omega) (by omega)
  have ⟨l3, u3⟩ := mul_bound (x := a % 4294967296) (y := b / 4294967296) (by omega) (by omega) (by omega) (by omega)
  have ⟨l4, u4⟩ := mul_bound (x := a % 4294967296) (y := b % 4294967296) (by omega) (by omega) (by omega) (by omega)
  have lt := (mul_u64 a b ha0 ha hb0 hb).2
  simp only [wu64]
  generalize (a / 4294967296) * (b / 4294967296) = p at *
  generalize (a / 4294967296) * (b % 4294967296) = q at *
  generalize (a % 4294967296) * (b / 4294967296) = r at *
  generalize (a % 4294967296) * (b % 4294967296) = s at *
  generalize a * b = t at *
  simp only [Option.some.injEq, Prod.mk.injEq]
  constructor <;> omega

theorem spec_l3Zero_eq (n : Bool) (h l : Int) : spec_l3Zero.f n h l = some ((h == 0) && (l == 0)) := by
  unfold spec_l3Zero.f
  by_cases c : h = 0 <;> simp [c]

theorem spec_ScaleWide_eq (n : Bool) (h l k : Int) (h0 : 0 ≤ h) (l0 : 0 ≤ l) (l1 : l < 18446744073709551616) (k0 : -9223372036854775808 ≤ k) (k1 : k ≤ 9223372036854775807) : spec_ScaleWide.f n h l k = some (scaleAns n h l k) := by
  unfold spec_ScaleWide.f scaleAns
  simp only [spec_WideOk_eq, Option.bind_some]
  by_cases w : wok n h l = true
  · rw [if_pos w, if_pos w]
    have hh := wok_high w
    have ⟨u0, u1⟩ := iabs_u64 k0 k1
    have e1 := iabs_wval n h0 l0
    have e2 := iabs_mul (wval n h l) k
    have e3 := scale_parts (u := iabs k) (iabs (wval n h l)) e1
    have sg := scale_sign (k := k) h0 l0 w
    rw [e2] at e3
    have ⟨p0, p1⟩ := mul_u64 h (iabs k) h0 (by omega) u0 u1
    have ⟨q0, q1⟩ := mul_u64 l (iabs k) l0 l1 u0 u1
    simp only [spec_l3Abs_eq k k0 k1, spec_l3Product_eq _ _ h0 (show h < 18446744073709551616 by omega) u0 u1, spec_l3Product_eq _ _ l0 l1 u0 u1, Option.bind_some, spec_l3Zero_eq, wu64]
    generalize wval n h l * k = v at *
    generalize h * iabs k = p at *
    generalize l * iabs k = q at *
    generalize hs : (n != decide (k < 0)) = s at *
    by_cases c1 : p / 18446744073709551616 > 0
    · rw [wans_over (by omega), if_pos c1, if_pos c1]
      simp
    · by_cases c2 : (p % 18446744073709551616 + q / 18446744073709551616) % 18446744073709551616 < p % 18446744073709551616
      · rw [wans_over (by omega), if_neg c1, if_neg c1, if_pos c2, if_pos c2]
        simp
      · have e4 : iabs v = ((p % 18446744073709551616 + q / 18446744073709551616) % 18446744073709551616) * 18446744073709551616 + q % 18446744073709551616 := by omega
        rw [wans_of e4 (by omega) (by omega) (by omega)]
        have e5 := sign_parts e4 (by omega) (by omega) sg
        have m0 : 0 ≤ (p % 18446744073709551616 + q / 18446744073709551616) % 18446744073709551616 := by omega
        have m1 : 0 ≤ q % 18446744073709551616 := by omega
        rw [← e5]
        rw [if_neg c1, if_neg c2, if_neg c1, if_neg c2]
        generalize (p % 18446744073709551616 + q / 18446744073709551616) % 18446744073709551616 = a at *
        generalize q % 18446744073709551616 = b at *
        by_cases z : (a == 0 && b == 0) = true
        · rw [if_pos z]
          have : a = 0 ∧ b = 0 := by simpa using z
          obtain ⟨rfl, rfl⟩ := this
          simp [wok, wnz]
        · rw [if_neg z]
          have nz : a > 0 ∨ b > 0 := by
            have : ¬ (a = 0 ∧ b = 0) := by simpa using z
            omega
          have e7 : wnz s a b = s := by
            unfold wnz
            rcases nz with d | d <;> simp [d]
          have e6 := wok_wnz s a b
          rw [e7] at e6
          rw [e6, e7]
          by_cases c3 : a < 9223372036854775808
          · rw [if_pos c3]; simp [c3]
          · rw [if_neg c3]; simp [c3]
  · rw [if_neg w, if_neg w]

theorem spec_l5Cross_eq (n m : Bool) (h l d h' l' d' : Int) (h0 : 0 ≤ h) (l0 : 0 ≤ l) (l1 : l < 18446744073709551616) (d0 : -9223372036854775808 ≤ d) (d1 : d ≤ 9223372036854775807) (g0 : 0 ≤ h') (m0 : 0 ≤ l') (m1 : l' < 18446744073709551616) (e0 : -9223372036854775808 ≤ d') (e1 : d' ≤ 9223372036854775807) (k : Nat) (hk : 1 ≤ k) : spec_l5Cross.f k n h l d m h' l' d' = some (crossAns n h l d m h' l' d') := by
  obtain ⟨k, rfl⟩ : ∃ j, k = j + 1 := ⟨k - 1, by omega⟩
  unfold spec_l5Cross.f crossAns fok
  simp only [spec_FracOk_eq, Option.bind_some, spec_l5Cross.j0, spec_ScaleWide_eq n h l d' h0 l0 l1 e0 e1, spec_ScaleWide_eq m h' l' d g0 m0 m1 d0 d1]
  cases (wok n h l && iin d 1 1000000) <;> cases (wok m h' l' && iin d' 1 1000000) <;> simp
  cases (scaleAns n h l d').2.2.2 <;> simp

theorem spec_l3Order_eq (n m : Bool) (h l h' l' : Int) (l0 : 0 ≤ l) (l1 : l < 18446744073709551616) (m0 : 0 ≤ l') (m1 : l' < 18446744073709551616) (k : Nat) (hk : 1 ≤ k) :
    spec_l3Order.f k n h l m h' l' = some (cmpI (h * 18446744073709551616 + l) (h' * 18446744073709551616 + l')) := by
  obtain ⟨k, rfl⟩ : ∃ j, k = j + 1 := ⟨k - 1, by omega⟩
  unfold spec_l3Order.f cmpI
  simp only [spec_l3Order.j0]
  by_cases c1 : h < h'
  · have e : h * 18446744073709551616 + l < h' * 18446744073709551616 + l' := by omega
    rw [if_pos c1, if_pos e]; rfl
  · rw [if_neg c1]
    by_cases c2 : h = h'
    · subst c2
      rw [if_pos rfl]
      by_cases c3 : l < l'
      · have e : h * 18446744073709551616 + l < h * 18446744073709551616 + l' := by omega
        rw [if_pos e]; simp [c3]
      · have e : ¬ h * 18446744073709551616 + l < h * 18446744073709551616 + l' := by omega
        rw [if_neg e]
        by_cases c4 : l > l'
        · have e2 : h * 18446744073709551616 + l > h * 18446744073709551616 + l' := by omega
          rw [if_pos e2]; simp [c3, c4]
        · have e2 : ¬ h * 18446744073709551616 + l > h * 18446744073709551616 + l' := by omega
          rw [if_neg e2]; simp [c3, c4]
    · have e : ¬ h * 18446744073709551616 + l < h' * 18446744073709551616 + l' := by omega
      have e2 : h * 18446744073709551616 + l > h' * 18446744073709551616 + l' := by omega
      rw [if_neg c2, if_neg e, if_pos e2]
      simp [show h > h' by omega]

theorem spec_AddWide_j1 (n m : Bool) (h l h' l' v : Int) (h0 : 0 ≤ h) (h1 : h < 9223372036854775808) (l0 : 0 ≤ l) (l1 : l < 18446744073709551616) (g0 : 0 ≤ h') (m0 : 0 ≤ l') (m1 : l' < 18446744073709551616) (dle : h' * 18446744073709551616 + l' ≤ h * 18446744073709551616 + l)
    (e : iabs v = h * 18446744073709551616 + l - (h' * 18446744073709551616 + l')) (sg : v ≠ 0 → decide (v < 0) = n) (k : Nat) : spec_AddWide.j1 (k + 1) n h l m h' l' = some (wans v) := by
  simp only [spec_AddWide.j1, spec_l3Zero_eq, Option.bind_some, wu64]
  have fin : ∀ a b : Int, 0 ≤ a → a < 9223372036854775808 → 0 ≤ b → b < 18446744073709551616 → iabs v = a * 18446744073709551616 + b → (if (a == 0 && b == 0) = true then some (false, a, b, true) else some (n, a, b, true)) = some (wans v) := by
    intro a b a0 a1 b0 b1 e4
    have s := sign_parts e4 a0 b0 sg
    rw [wans_of e4 a0 b0 b1, if_pos a1, ← s]
    by_cases z : (a == 0 && b == 0) = true
    · rw [if_pos z]
      have : a = 0 ∧ b = 0 := by simpa using z
      obtain ⟨rfl, rfl⟩ := this
      simp [wnz]
    · rw [if_neg z]
      have nz : a > 0 ∨ b > 0 := by
        have : ¬ (a = 0 ∧ b = 0) := by simpa using z
        omega
      unfold wnz
      rcases nz with d | d <;> simp [d]
  by_cases c : l < l'
  · rw [if_pos c]
    exact fin _ _ (by omega) (by omega) (by omega) (by omega) (by omega)
  · rw [if_neg c]
    exact fin _ _ (by omega) (by omega) (by omega) (by omega) (by omega)
theorem spec_AddWide_eq (n m : Bool) (h l h' l' : Int) (h0 : 0 ≤ h) (l0 : 0 ≤ l) (l1 : l < 18446744073709551616) (g0 : 0 ≤ h') (m0 : 0 ≤ l') (m1 : l' < 18446744073709551616) (k : Nat) (hk : 6 ≤ k) : spec_AddWide.f k n h l m h' l' = some (addAns n h l m h' l') := by
  obtain ⟨k, rfl⟩ : ∃ j, k = j + 2 := ⟨k - 2, by omega⟩
  unfold spec_AddWide.f addAns
  simp only [spec_WideOk_eq, Option.bind_some]
  by_cases w : wok n h l = true
  · rw [if_pos w]
    by_cases w' : wok m h' l' = true
    · have hh := wok_high w
      have gg := wok_high w'
      have nz := wok_nz w
      have mz := wok_nz w'
      have sn := wval_neg n h0 l0
      have sm := wval_neg m g0 m0
      rw [nz] at sn
      rw [mz] at sm
      have dn := wval_def n h l
      have dm := wval_def m h' l'
      rw [w, w']
      simp only [spec_AddWide.j0, Bool.not_true, Bool.false_eq_true, if_false, Bool.and_self, if_true]
      generalize wval n h l = u at *
      generalize wval m h' l' = v at *
      by_cases c : (n == m) = true
      · rw [if_pos c]
        have nm : n = m := by simpa using c
        subst nm
        simp only [spec_WideOk_eq, Option.bind_some, wu64]
        have sg : u + v ≠ 0 → decide (u + v < 0) = n := by
          intro z; subst dn dm
          cases n <;> simp at z ⊢ <;> omega
        have fin : ∀ a b : Int, 0 ≤ a → 0 ≤ b → b < 18446744073709551616 → iabs (u + v) = a * 18446744073709551616 + b → (if wok n a b = true then some (n, a, b, true) else some (false, 0, 0, false)) = some (wans (u + v)) := by
          intro a b a0 b0 b1 e4
          have s := sign_parts e4 a0 b0 sg
          have e6 := wok_wnz n a b
          have sn2 : wnz n a b = n := by
            rw [s]
            cases n
            · simp; subst dn dm; simp; omega
            · simp; subst dn dm; simp at sn sm ⊢; omega
          rw [sn2] at e6 s
          rw [wans_of e4 a0 b0 b1, e6, ← s]
          by_cases c3 : a < 9223372036854775808
          · rw [if_pos c3, if_pos (decide_eq_true c3)]
          · rw [if_neg c3, if_neg (by simpa using c3)]
        have e5 : iabs (u + v) = h * 18446744073709551616 + l + (h' * 18446744073709551616 + l') := by
          subst dn dm; unfold iabs
          cases n <;> simp <;> omega
        by_cases d : (l + l') % 18446744073709551616 < l
        · rw [if_pos d]
          exact fin _ _ (by omega) (by omega) (by omega) (by omega)
        · rw [if_neg d]
          exact fin _ _ (by omega) (by omega) (by omega) (by omega)
      · rw [if_neg c]
        simp only [spec_l3Order_eq n m h l h' l' l0 l1 m0 m1 (k + 1) (by omega), Option.bind_some]
        by_cases d : cmpI (h * 18446744073709551616 + l) (h' * 18446744073709551616 + l') < 0
        · rw [if_pos d]
          have dlt : h * 18446744073709551616 + l < h' * 18446744073709551616 + l' := by
            unfold cmpI at d
            by_cases e : h * 18446744073709551616 + l < h' * 18446744073709551616 + l'
            · exact e
            · rw [if_neg e] at d; split at d <;> omega
          refine spec_AddWide_j1 m n h' l' h l (u + v) g0 gg m0 m1 h0 l0 l1 (by omega) ?_ ?_ k
          · subst dn dm; unfold iabs
            cases n <;> cases m <;> simp at c ⊢ <;> omega
          · intro _; subst dn dm
            cases n <;> cases m <;> simp at c ⊢ <;> omega
        · rw [if_neg d]
          have dle : h' * 18446744073709551616 + l' ≤ h * 18446744073709551616 + l := by
            unfold cmpI at d
            by_cases e : h * 18446744073709551616 + l < h' * 18446744073709551616 + l'
            · rw [if_pos e] at d; omega
            · omega
          refine spec_AddWide_j1 n m h l h' l' (u + v) h0 hh l0 l1 g0 m0 m1 dle ?_ ?_ k
          · subst dn dm; unfold iabs
            cases n <;> cases m <;> simp at c ⊢ <;> omega
          · intro z; subst dn dm
            cases n <;> cases m <;> simp at c z ⊢ <;> omega
    · have w2 : wok m h' l' = false := by simpa using w'
      rw [w2]
      simp [spec_AddWide.j0]
  · have w2 : wok n h l = false := by simpa using w
    rw [if_neg w, w2]
    simp [spec_AddWide.j0]

theorem spec_AddFrac_eq (n m : Bool) (h l d h' l' d' : Int) (h0 : 0 ≤ h) (l0 : 0 ≤ l) (l1 : l < 18446744073709551616) (d0 : -9223372036854775808 ≤ d) (d1 : d ≤ 9223372036854775807) (g0 : 0 ≤ h') (m0 : 0 ≤ l') (m1 : l' < 18446744073709551616) (e0 : -9223372036854775808 ≤ d') (e1 : d' ≤ 9223372036854775807) (k : Nat) (hk : 6 ≤ k) : spec_AddFrac.f k n h l d m h' l' d' = some (addFrac n h l d m h' l' d') := by
  unfold spec_AddFrac.f addFrac
  have p := crossAns_parts n h l d m h' l' d'
  rw [spec_l5Cross_eq n m h l d h' l' d' h0 l0 l1 d0 d1 g0 m0 m1 e0 e1 k (by omega)]
  simp only [Option.bind_some]
  generalize crossAns n h l d m h' l' d' = c at *
  by_cases z : c.2.2.2.2.2.2 = true
  · rw [if_pos z, if_pos z, spec_AddWide_eq _ _ _ _ _ _ p.1 p.2.2.1 p.2.2.2.1 p.2.2.2.2.1 p.2.2.2.2.2.2.1 p.2.2.2.2.2.2.2 k hk]
    simp only [Option.bind_some]
    generalize addAns c.1 c.2.1 c.2.2.1 c.2.2.2.1 c.2.2.2.2.1 c.2.2.2.2.2.1 = s
    by_cases y : s.2.2.2 = true
    · rw [if_pos y, if_pos y]
      simp only [spec_FracOk_eq, Option.bind_some]
      by_cases x : (wok s.1 s.2.1 s.2.2.1 && iin (wrap64 (d * d')) 1 1000000) = true
      · rw [if_pos x, if_pos (show fok s.1 s.2.1 s.2.2.1 (wrap64 (d * d')) = true from x)]
      · rw [if_neg x, if_neg (show ¬ fok s.1 s.2.1 s.2.2.1 (wrap64 (d * d')) = true from x)]
    · rw [if_neg y, if_neg y]
  · rw [if_neg z, if_neg z]

theorem laws_eqWide_self (n : Bool) (h l : Int) : laws_eqWide.f n h l n h l = some true := by
  unfold laws_eqWide.f; simp

theorem FnExactAddFrac (n : Bool) (h l d : Int) (m : Bool) (h' l' d' : Int) (w1 : (Lit.int .u64 h).wf = true) (w2 : (Lit.int .u64 l).wf = true) (w3 : (Lit.int .i64 d).wf = true) (w4 : (Lit.int .u64 h').wf = true) (w5 : (Lit.int .u64 l').wf = true) (w6 : (Lit.int .i64 d').wf = true) : ∃ k, laws_FnExactAddFrac.f k n h l d m h' l' d' = some true := by
  have ⟨p0, p1⟩ := wfu64 w1
  have ⟨q0, q1⟩ := wfu64 w2
  have ⟨d0, d1⟩ := wf64 w3
  have ⟨r0, r1⟩ := wfu64 w4
  have ⟨s0, s1⟩ := wfu64 w5
  have ⟨e0, e1⟩ := wf64 w6
  refine ⟨6, ?_⟩
  unfold laws_FnExactAddFrac.f laws_toFrac.f laws_toWide.f
  simp only [Option.bind_some, impl_AddFrac_eq n m h l d h' l' d' p0 q0 q1 d0 d1 r0 s0 s1 e0 e1 6 (by omega), spec_AddFrac_eq n m h l d h' l' d' p0 q0 q1 d0 d1 r0 s0 s1 e0 e1 6 (by omega), laws_eqFrac.f, laws_eqWide_self]
  simp

end Go.Proofs.Ytodbmgnhcglcnaa.Pure
