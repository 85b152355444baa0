/- The difference of wide numbers: program and reference tell it, and that it has no room, for all wide values. Conditions: each number is one of its kind, as the row says. -/
import Derived.Test.YteldfljjeofiaaaPFnExactSubWidex
import Derived.Test.YteldfljjeofiaaaBase
set_option linter.unusedSimpArgs false
set_option linter.unusedVariables false
namespace Go.Proofs.Yteldfljjeofiaaa.Pure
open Go.RowKit Go.Proofs.Yteldfljjeofiaaa.Base Go.Proofs.Yteldfljjeofiaaa.PFnExactSubWide Go.Proofs.YteldfljjeofiaaaW.PrintWords Go.Proofs.YteldfljjeofiaaaW.PrintLast Go.Proofs.YteldfljjeofiaaaW.PrintMore

theorem impl_WideOk_eq (n : Bool) (h l : Int) : impl_WideOk.f n h l = some (wok n h l) := by
  unfold impl_WideOk.f wok
  by_cases c1 : h < 9223372036854775808
  · rw [if_pos c1]
    cases n
    · simp [c1]
    · by_cases c2 : h > 0
      · simp [c1, c2]
      · simp [c1, c2]
  · rw [if_neg c1]; simp [c1]

theorem impl_wideOf_eq (n : Bool) (h l : Int) : impl_wideOf.f n h l = some (wnz n h l, h, l) := by
  unfold impl_wideOf.f wnz
  cases n
  · simp
  · by_cases c : h > 0 <;> simp [c]

theorem impl_NegWide_eq (n : Bool) (h l : Int) : impl_NegWide.f n h l = some (negAns n h l) := by
  unfold impl_NegWide.f negAns
  simp only [impl_WideOk_eq, impl_wideOf_eq, Option.bind_some]
  by_cases c : wok n h l = true
  · rw [if_pos c, if_pos c]
  · rw [if_neg c, if_neg c]

theorem cmp_isNaN_uint64_eq (a : Int) : cmp_isNaN_uint64.f a = some false := by unfold cmp_isNaN_uint64.f; simp
theorem cmp_Compare_uint64_eq (a b : Int) : cmp_Compare_uint64.f a b = some (cmpI a b) := by
  unfold cmp_Compare_uint64.f cmpI
  simp only [cmp_isNaN_uint64_eq, Option.bind_some]
  by_cases h : a < b
  · simp [h]
  · by_cases h' : a > b <;> simp [h, h']
theorem cmp_Or_int_two (a b : Int) (k : Nat) (hk : 3 ≤ k) : cmp_Or_int.f k [a, b] = some (if a = 0 then b else a) := by
  obtain ⟨k, rfl⟩ : ∃ m, k = m + 3 := ⟨k - 3, by omega⟩
  have w1 : wrap64 (0 + 1) = 1 := by unfold wrap64; omega
  have w2 : wrap64 (1 + 1) = 2 := by unfold wrap64; omega
  have r0 : rd [a, b] 0 = a := rfl
  have r1 : rd [a, b] 1 = b := rfl
  unfold cmp_Or_int.f
  simp only [cmp_Or_int.l0, List.length_cons, List.length_nil, w1, w2, r0, r1]
  by_cases h : a = 0
  · subst h
    by_cases h' : b = 0
    · subst h'; simp
    · simp [h']
  · simp [h]

theorem impl_compareSizes_eq (n m : Bool) (h l h' l' : Int) (k : Nat) (hk : 3 ≤ k) : impl_compareSizes.f k n h l m h' l' = some (if cmpI h h' = 0 then cmpI l l' else cmpI h h') := by
  unfold impl_compareSizes.f
  simp only [cmp_Compare_uint64_eq, Option.bind_some, cmp_Or_int_two _ _ k hk]
theorem cmp_sizes {h l h' l' : Int} (l0 : 0 ≤ l) (l1 : l < 18446744073709551616) (m0 : 0 ≤ l') (m1 : l' < 18446744073709551616) :
    (if cmpI h h' = 0 then cmpI l l' else cmpI h h') = cmpI (h * 18446744073709551616 + l) (h' * 18446744073709551616 + l') := by
  unfold cmpI
  by_cases c1 : h < h'
  · have e : h * 18446744073709551616 + l < h' * 18446744073709551616 + l' := by omega
    simp [c1, e]
  · by_cases c2 : h > h'
    · have e : ¬ h * 18446744073709551616 + l < h' * 18446744073709551616 + l' := by omega
      have e2 : h * 18446744073709551616 + l > h' * 18446744073709551616 + l' := by omega
      rw [if_neg c1, if_pos c2, if_neg e, if_pos e2]; rfl
    · obtain rfl : h = h' := by omega
      rw [if_neg c1, if_neg c2, if_pos rfl]
      by_cases c3 : l < l'
      · rw [if_pos c3, if_pos (by omega)]
      · by_cases c4 : l > l'
        · rw [if_neg c3, if_pos c4, if_neg (by omega), if_pos (by omega)]
        · rw [if_neg c3, if_neg c4, if_neg (by omega), if_neg (by omega)]

theorem bits_Add64_eq' (a b c : Int) (h : 0 ≤ a ∧ 0 ≤ b ∧ 0 ≤ c ∧ c ≤ 1) : bits_Add64.f a b c = some ((a + b + c) % 18446744073709551616, (a + b + c) / 18446744073709551616) := by
  unfold bits_Add64.f
  rw [if_pos h]
theorem bits_Sub64_eq (a b c : Int) (h : 0 ≤ a ∧ 0 ≤ b ∧ b < 18446744073709551616 ∧ 0 ≤ c ∧ c ≤ 1) : bits_Sub64.f a b c = some ((a - b - c) % 18446744073709551616, if a < b + c then 1 else 0) := by
  unfold bits_Sub64.f
  rw [if_pos h]
theorem impl_AddWide_eq (n m : Bool) (h l h' l' : Int) (h0 : 0 ≤ h) (l0 : 0 ≤ l) (l1 : l < 18446744073709551616) (g0 : 0 ≤ h') (m0 : 0 ≤ l') (m1 : l' < 18446744073709551616) (k : Nat) (hk : 6 ≤ k) : impl_AddWide.f k n h l m h' l' = some (addAns n h l m h' l') := by
  obtain ⟨k, rfl⟩ : ∃ j, k = j + 1 := ⟨k - 1, by omega⟩
  unfold impl_AddWide.f addAns
  simp only [impl_WideOk_eq, Option.bind_some]
  by_cases w : wok n h l = true
  · rw [if_pos w]
    by_cases w' : wok m h' l' = true
    · have hh := wok_high w
      have gg := wok_high w'
      have nz := wok_nz w
      have mz := wok_nz w'
      have sn := wval_neg n h0 l0
      have sm := wval_neg m g0 m0
      rw [nz] at sn
      rw [mz] at sm
      have dn := wval_def n h l
      have dm := wval_def m h' l'
      rw [w, w']
      simp only [impl_AddWide.j0, Bool.not_true, Bool.false_eq_true, if_false, Bool.and_self, if_true]
      generalize wval n h l = u at *
      generalize wval m h' l' = v at *
      by_cases c : (n != m) = true
      · rw [if_pos c]
        simp only [impl_compareSizes_eq n m h l h' l' k (by omega), cmp_sizes l0 l1 m0 m1, Option.bind_some]
        by_cases d : cmpI (h * 18446744073709551616 + l) (h' * 18446744073709551616 + l') < 0
        · rw [if_pos d]
          have dlt : h * 18446744073709551616 + l < h' * 18446744073709551616 + l' := by
            unfold cmpI at d
            by_cases e : h * 18446744073709551616 + l < h' * 18446744073709551616 + l'
            · exact e
            · rw [if_neg e] at d; split at d <;> omega
          have ⟨p, q⟩ := sub_parts m0 m1 l0 l1 g0 gg h0 (by omega)
          rw [bits_Sub64_eq l' l 0 (by omega)]
          simp only [Option.bind_some]
          rw [bits_Sub64_eq h' h _ (by split <;> omega)]
          simp only [Option.bind_some, impl_wideOf_eq]
          have e4 : iabs (u + v) = (h' - h - (if l' < l + 0 then 1 else 0)) % 18446744073709551616 * 18446744073709551616 + (l' - l - 0) % 18446744073709551616 := by
            rw [p]; subst dn dm; unfold iabs
            cases n <;> cases m <;> simp at c ⊢ <;> omega
          have sg : u + v ≠ 0 → decide (u + v < 0) = m := by
            intro _; subst dn dm
            cases n <;> cases m <;> simp at c ⊢ <;> omega
          generalize (h' - h - (if l' < l + 0 then 1 else 0)) % 18446744073709551616 = a at *
          have a0 : 0 ≤ a := by have := iabs_nonneg (u + v); omega
          have b0 : 0 ≤ (l' - l - 0) % 18446744073709551616 := by omega
          rw [wans_of e4 a0 b0 (by omega), if_pos q, sign_parts e4 a0 b0 sg]
        · rw [if_neg d]
          have dle : h' * 18446744073709551616 + l' ≤ h * 18446744073709551616 + l := by
            unfold cmpI at d
            by_cases e : h * 18446744073709551616 + l < h' * 18446744073709551616 + l'
            · rw [if_pos e] at d; omega
            · omega
          have ⟨p, q⟩ := sub_parts l0 l1 m0 m1 h0 hh g0 dle
          rw [bits_Sub64_eq l l' 0 (by omega)]
          simp only [Option.bind_some]
          rw [bits_Sub64_eq h h' _ (by split <;> omega)]
          simp only [Option.bind_some, impl_wideOf_eq]
          have e4 : iabs (u + v) = (h - h' - (if l < l' + 0 then 1 else 0)) % 18446744073709551616 * 18446744073709551616 + (l - l' - 0) % 18446744073709551616 := by
            rw [p]; subst dn dm; unfold iabs
            cases n <;> cases m <;> simp at c ⊢ <;> omega
          have sg : u + v ≠ 0 → decide (u + v < 0) = n := by
            intro z; subst dn dm
            cases n <;> cases m <;> simp at c z ⊢ <;> omega
          generalize (h - h' - (if l < l' + 0 then 1 else 0)) % 18446744073709551616 = a at *
          have a0 : 0 ≤ a := by have := iabs_nonneg (u + v); omega
          have b0 : 0 ≤ (l - l' - 0) % 18446744073709551616 := by omega
          rw [wans_of e4 a0 b0 (by omega), if_pos q, sign_parts e4 a0 b0 sg]
      · rw [if_neg c]
        have nm : n = m := by simpa using c
        subst nm
        rw [bits_Add64_eq' l l' 0 (by omega)]
        simp only [Option.bind_some]
        rw [bits_Add64_eq' h h' _ (by omega)]
        simp only [Option.bind_some, impl_wideOf_eq]
        have e4 : iabs (u + v) = (h + h' + (l + l' + 0) / 18446744073709551616) % 18446744073709551616 * 18446744073709551616 + (l + l' + 0) % 18446744073709551616 := by
          subst dn dm; unfold iabs
          cases n <;> simp <;> omega
        have sg : u + v ≠ 0 → decide (u + v < 0) = n := by
          intro z; subst dn dm
          cases n <;> simp at z ⊢ <;> omega
        have a0 : 0 ≤ (h + h' + (l + l' + 0) / 18446744073709551616) % 18446744073709551616 := by omega
        have b0 : 0 ≤ (l + l' + 0) % 18446744073709551616 := by omega
        have b1 : (l + l' + 0) % 18446744073709551616 < 18446744073709551616 := by omega
        generalize (h + h' + (l + l' + 0) / 18446744073709551616) % 18446744073709551616 = a at *
        generalize (l + l' + 0) % 18446744073709551616 = b at *
        have e6 := wok_wnz n a b
        rw [sign_parts e4 a0 b0 sg] at e6
        rw [wans_of e4 a0 b0 b1, sign_parts e4 a0 b0 sg, impl_WideOk_eq, e6]
        simp only [Option.bind_some]
        by_cases c3 : a < 9223372036854775808
        · rw [if_pos c3, if_pos (decide_eq_true c3)]
        · rw [if_neg c3, if_neg (by simpa using c3)]
    · have w2 : wok m h' l' = false := by simpa using w'
      rw [w2]
      simp [impl_AddWide.j0]
  · have w2 : wok n h l = false := by simpa using w
    rw [if_neg w, w2]
    simp [impl_AddWide.j0]

theorem impl_SubWide_eq (n m : Bool) (h l h' l' : Int) (h0 : 0 ≤ h) (l0 : 0 ≤ l) (l1 : l < 18446744073709551616) (g0 : 0 ≤ h') (m0 : 0 ≤ l') (m1 : l' < 18446744073709551616) (k : Nat) (hk : 6 ≤ k) : impl_SubWide.f k n h l m h' l' = some (subAns n h l m h' l') := by
  unfold impl_SubWide.f subAns
  have p := negAns_parts m h' l'
  rw [impl_NegWide_eq]; simp only [Option.bind_some]
  rw [impl_AddWide_eq _ _ _ _ _ _ h0 l0 l1 (by rw [p.1]; exact g0) (by rw [p.2]; exact m0) (by rw [p.2]; exact m1) k hk]
  rfl

theorem spec_WideOk_eq (n : Bool) (h l : Int) : spec_WideOk.f n h l = some (wok n h l) := by
  unfold spec_WideOk.f wok
  by_cases c1 : h < 9223372036854775808
  · rw [if_pos c1]
    cases n
    · simp [c1]
    · by_cases c2 : h > 0
      · simp [c1, c2]
      · simp [c1, c2]
  · rw [if_neg c1]; simp [c1]

theorem spec_NegWide_eq (n : Bool) (h l : Int) (h0 : 0 ≤ h) (l0 : 0 ≤ l) : spec_NegWide.f n h l = some (negAns n h l) := by
  unfold spec_NegWide.f negAns
  simp only [spec_WideOk_eq, Option.bind_some]
  by_cases c : wok n h l = true
  · rw [if_pos c, if_pos c]
    by_cases d : h = 0
    · rw [if_pos d]
      by_cases e : l = 0
      · rw [if_pos e]
        unfold wok at c
        cases n <;> simp_all [wnz]
      · rw [if_neg e]
        have : l > 0 := by omega
        simp [wnz, this]
    · rw [if_neg d]
      have : h > 0 := by omega
      simp [wnz, this]
  · rw [if_neg c, if_neg c]

theorem spec_l3Order_eq (n m : Bool) (h l h' l' : Int) (l0 : 0 ≤ l) (l1 : l < 18446744073709551616) (m0 : 0 ≤ l') (m1 : l' < 18446744073709551616) (k : Nat) (hk : 1 ≤ k) :
    spec_l3Order.f k n h l m h' l' = some (cmpI (h * 18446744073709551616 + l) (h' * 18446744073709551616 + l')) := by
  obtain ⟨k, rfl⟩ : ∃ j, k = j + 1 := ⟨k - 1, by omega⟩
  unfold spec_l3Order.f cmpI
  simp only [spec_l3Order.j0]
  by_cases c1 : h < h'
  · have e : h * 18446744073709551616 + l < h' * 18446744073709551616 + l' := by omega
    rw [if_pos c1, if_pos e]; rfl
  · rw [if_neg c1]
    by_cases c2 : h = h'
    · subst c2
      rw [if_pos rfl]
      by_cases c3 : l < l'
      · have e : h * 18446744073709551616 + l < h * 18446744073709551616 + l' := by omega
        rw [if_pos e]; simp [c3]
      · have e : ¬ h * 18446744073709551616 + l < h * 18446744073709551616 + l' := by omega
        rw [if_neg e]
        by_cases c4 : l > l'
        · have e2 : h * 18446744073709551616 + l > h * 18446744073709551616 + l' := by omega
          rw [if_pos e2]; simp [c3, c4]
        · have e2 : ¬ h * 18446744073709551616 + l > h * 18446744073709551616 + l' := by omega
          rw [if_neg e2]; simp [c3, c4]
    · have e : ¬ h * 18446744073709551616 + l < h' * 18446744073709551616 + l' := by omega
      have e2 : h * 18446744073709551616 + l > h' * 18446744073709551616 + l' := by omega
      rw [if_neg c2, if_neg e, if_pos e2]
      simp [show h > h' by omega]

theorem spec_l3Zero_eq (n : Bool) (h l : Int) : spec_l3Zero.f n h l = some ((h == 0) && (l == 0)) := by
  unfold spec_l3Zero.f
  by_cases c : h = 0 <;> simp [c]

theorem spec_AddWide_j1 (n m : Bool) (h l h' l' v : Int) (h0 : 0 ≤ h) (h1 : h < 9223372036854775808) (l0 : 0 ≤ l) (l1 : l < 18446744073709551616) (g0 : 0 ≤ h') (m0 : 0 ≤ l') (m1 : l' < 18446744073709551616) (dle : h' * 18446744073709551616 + l' ≤ h * 18446744073709551616 + l)
    (e : iabs v = h * 18446744073709551616 + l - (h' * 18446744073709551616 + l')) (sg : v ≠ 0 → decide (v < 0) = n) (k : Nat) : spec_AddWide.j1 (k + 1) n h l m h' l' = some (wans v) := by
  simp only [spec_AddWide.j1, spec_l3Zero_eq, Option.bind_some, wu64]
  have fin : ∀ a b : Int, 0 ≤ a → a < 9223372036854775808 → 0 ≤ b → b < 18446744073709551616 → iabs v = a * 18446744073709551616 + b → (if (a == 0 && b == 0) = true then some (false, a, b, true) else some (n, a, b, true)) = some (wans v) := by
    intro a b a0 a1 b0 b1 e4
    have s := sign_parts e4 a0 b0 sg
    rw [wans_of e4 a0 b0 b1, if_pos a1, ← s]
    by_cases z : (a == 0 && b == 0) = true
    · rw [if_pos z]
      have : a = 0 ∧ b = 0 := by simpa using z
      obtain ⟨rfl, rfl⟩ := this
      simp [wnz]
    · rw [if_neg z]
      have nz : a > 0 ∨ b > 0 := by
        have : ¬ (a = 0 ∧ b = 0) := by simpa using z
        omega
      unfold wnz
      rcases nz with d | d <;> simp [d]
  by_cases c : l < l'
  · rw [if_pos c]
    exact fin _ _ (by omega) (by omega) (by omega) (by omega) (by omega)
  · rw [if_neg c]
    exact fin _ _ (by omega) (by omega) (by omega) (by omega) (by omega)
theorem spec_AddWide_eq (n m : Bool) (h l h' l' : Int) (h0 : 0 ≤ h) (l0 : 0 ≤ l) (l1 : l < 18446744073709551616) (g0 : 0 ≤ h') (m0 : 0 ≤ l') (m1 : l' < 18446744073709551616) (k : Nat) (hk : 6 ≤ k) : spec_AddWide.f k n h l m h' l' = some (addAns n h l m h' l') := by
  obtain ⟨k, rfl⟩ : ∃ j, k = j + 2 := ⟨k - 2, by omega⟩
  unfold spec_AddWide.f addAns
  simp only [spec_WideOk_eq, Option.bind_some]
  by_cases w : wok n h l = true
  · rw [if_pos w]
    by_cases w' : wok m h' l' = true
    · have hh := wok_high w
      have gg := wok_high w'
      have nz := wok_nz w
      have mz := wok_nz w'
      have sn := wval_neg n h0 l0
      have sm := wval_neg m g0 m0
      rw [nz] at sn
      rw [mz] at sm
      have dn := wval_def n h l
      have dm := wval_def m h' l'
      rw [w, w']
      simp only [spec_AddWide.j0, Bool.not_true, Bool.false_eq_true, if_false, Bool.and_self, if_true]
      generalize wval n h l = u at *
      generalize wval m h' l' = v at *
      by_cases c : (n == m) = true
      · rw [if_pos c]
        have nm : n = m := by simpa using c
        subst nm
        simp only [spec_WideOk_eq, Option.bind_some, wu64]
        have sg : u + v ≠ 0 → decide (u + v < 0) = n := by
          intro z; subst dn dm
          cases n <;> simp at z ⊢ <;> omega
        have fin : ∀ a b : Int, 0 ≤ a → 0 ≤ b → b < 18446744073709551616 → iabs (u + v) = a * 18446744073709551616 + b → (if wok n a b = true then some (n, a, b, true) else some (false, 0, 0, false)) = some (wans (u + v)) := by
          intro a b a0 b0 b1 e4
          have s := sign_parts e4 a0 b0 sg
          have e6 := wok_wnz n a b
          have sn2 : wnz n a b = n := by
            rw [s]
            cases n
            · simp; subst dn dm; simp; omega
            · simp; subst dn dm; simp at sn sm ⊢; omega
          rw [sn2] at e6 s
          rw [wans_of e4 a0 b0 b1, e6, ← s]
          by_cases c3 : a < 9223372036854775808
          · rw [if_pos c3, if_pos (decide_eq_true c3)]
          · rw [if_neg c3, if_neg (by simpa using c3)]
        have e5 : iabs (u + v) = h * 18446744073709551616 + l + (h' * 18446744073709551616 + l') := by
          subst dn dm; unfold iabs
          cases n <;> simp <;> omega
        by_cases d : (l + l') % 18446744073709551616 < l
        · rw [if_pos d]
          exact fin _ _ (by omega) (by omega) (by omega) (by omega)
        · rw [if_neg d]
          exact fin _ _ (by omega) (by omega) (by omega) (by omega)
      · rw [if_neg c]
        simp only [spec_l3Order_eq n m h l h' l' l0 l1 m0 m1 (k + 1) (by omega), Option.bind_some]
        by_cases d : cmpI (h * 18446744073709551616 + l) (h' * 18446744073709551616 + l') < 0
        · rw [if_pos d]
          have dlt : h * 18446744073709551616 + l < h' * 18446744073709551616 + l' := by
            unfold cmpI at d
            by_cases e : h * 18446744073709551616 + l < h' * 18446744073709551616 + l'
            · exact e
            · rw [if_neg e] at d; split at d <;> omega
          refine spec_AddWide_j1 m n h' l' h l (u + v) g0 gg m0 m1 h0 l0 l1 (by omega) ?_ ?_ k
          · subst dn dm; unfold iabs
            cases n <;> cases m <;> simp at c ⊢ <;> omega
          · intro _; subst dn dm
            cases n <;> cases m <;> simp at c ⊢ <;> omega
        · rw [if_neg d]
          have dle : h' * 18446744073709551616 + l' ≤ h * 18446744073709551616 + l := by
            unfold cmpI at d
            by_cases e : h * 18446744073709551616 + l < h' * 18446744073709551616 + l'
            · rw [if_pos e] at d; omega
            · omega
          refine spec_AddWide_j1 n m h l h' l' (u + v) h0 hh l0 l1 g0 m0 m1 dle ?_ ?_ k
          · subst dn dm; unfold iabs
            cases n <;> cases m <;> simp at c ⊢ <;> omega
          · intro z; subst dn dm
            cases n <;> cases m <;> simp at c z ⊢ <;> omega
    · have w2 : wok m h' l' = false := by simpa using w'
      rw [w2]
      simp [spec_AddWide.j0]
  · have w2 : wok n h l = false := by simpa using w
    rw [if_neg w, w2]
    simp [spec_AddWide.j0]

theorem spec_SubWide_eq (n m : Bool) (h l h' l' : Int) (h0 : 0 ≤ h) (l0 : 0 ≤ l) (l1 : l < 18446744073709551616) (g0 : 0 ≤ h') (m0 : 0 ≤ l') (m1 : l' < 18446744073709551616) (k : Nat) (hk : 6 ≤ k) : spec_SubWide.f k n h l m h' l' = some (subAns n h l m h' l') := by
  unfold spec_SubWide.f subAns
  have p := negAns_parts m h' l'
  rw [spec_NegWide_eq _ _ _ g0 m0]; simp only [Option.bind_some]
  rw [spec_AddWide_eq _ _ _ _ _ _ h0 l0 l1 (by rw [p.1]; exact g0) (by rw [p.2]; exact m0) (by rw [p.2]; exact m1) k hk]
  rfl

theorem laws_eqWide_self (n : Bool) (h l : Int) : laws_eqWide.f n h l n h l = some true := by
  unfold laws_eqWide.f; simp

theorem FnExactSubWide (n : Bool) (h l : Int) (m : Bool) (h' l' : Int) (w1 : (Lit.int .u64 h).wf = true) (w2 : (Lit.int .u64 l).wf = true) (w3 : (Lit.int .u64 h').wf = true) (w4 : (Lit.int .u64 l').wf = true) : ∃ k, laws_FnExactSubWide.f k n h l m h' l' = some true := by
  have ⟨p0, p1⟩ := wfu64 w1
  have ⟨q0, q1⟩ := wfu64 w2
  have ⟨r0, r1⟩ := wfu64 w3
  have ⟨s0, s1⟩ := wfu64 w4
  refine ⟨6, ?_⟩
  unfold laws_FnExactSubWide.f laws_toWide.f
  simp only [Option.bind_some, impl_SubWide_eq n m h l h' l' p0 q0 q1 r0 s0 s1 6 (by omega), spec_SubWide_eq n m h l h' l' p0 q0 q1 r0 s0 s1 6 (by omega), laws_eqWide_self]
  simp

end Go.Proofs.Yteldfljjeofiaaa.Pure
