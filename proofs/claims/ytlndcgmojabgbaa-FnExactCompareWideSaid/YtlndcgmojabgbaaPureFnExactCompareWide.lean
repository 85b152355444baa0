/- The order of wide numbers: program and reference compare the integers that the wide numbers stand for. Conditions: each number is one of its kind, as the row says. -/
import Derived.Test.YtlndcgmojabgbaaPFnExactCompareWidex
import Derived.Test.YtlndcgmojabgbaaBase
set_option linter.unusedSimpArgs false
set_option linter.unusedVariables false
namespace Go.Proofs.Ytlndcgmojabgbaa.Pure
open Go.RowKit Go.Proofs.Ytlndcgmojabgbaa.Base Go.Proofs.Ytlndcgmojabgbaa.PFnExactCompareWide Go.Proofs.YtlndcgmojabgbaaW.PrintWords Go.Proofs.YtlndcgmojabgbaaW.PrintLast Go.Proofs.YtlndcgmojabgbaaW.PrintMore

theorem cmp_isNaN_uint64_eq (a : Int) : cmp_isNaN_uint64.f a = some false := by unfold cmp_isNaN_uint64.f; simp
theorem cmp_Compare_uint64_eq (a b : Int) : cmp_Compare_uint64.f a b = some (cmpI a b) := by
  unfold cmp_Compare_uint64.f cmpI
  simp only [cmp_isNaN_uint64_eq, Option.bind_some]
  by_cases h : a < b
  · simp [h]
  · by_cases h' : a > b <;> simp [h, h']
theorem cmp_Or_int_two (a b : Int) (k : Nat) (hk : 3 ≤ k) : cmp_Or_int.f k [a, b] = some (if a = 0 then b else a) := by
  obtain ⟨k, rfl⟩ : ∃ m, k = m + 3 := ⟨k - 3, by omega⟩
  have w1 : wrap64 (0 + 1) = 1 := by unfold wrap64; omega
  have w2 : wrap64 (1 + 1) = 2 := by unfold wrap64; omega
  have r0 : rd [a, b] 0 = a := rfl
  have r1 : rd [a, b] 1 = b := rfl
  unfold cmp_Or_int.f
  simp only [cmp_Or_int.l0, List.length_cons, List.length_nil, w1, w2, r0, r1]
  by_cases h : a = 0
  · subst h
    by_cases h' : b = 0
    · subst h'; simp
    · simp [h']
  · simp [h]

theorem impl_compareSizes_eq (n m : Bool) (h l h' l' : Int) (k : Nat) (hk : 3 ≤ k) : impl_compareSizes.f k n h l m h' l' = some (if cmpI h h' = 0 then cmpI l l' else cmpI h h') := by
  unfold impl_compareSizes.f
  simp only [cmp_Compare_uint64_eq, Option.bind_some, cmp_Or_int_two _ _ k hk]
theorem cmp_sizes {h l h' l' : Int} (l0 : 0 ≤ l) (l1 : l < 18446744073709551616) (m0 : 0 ≤ l') (m1 : l' < 18446744073709551616) :
    (if cmpI h h' = 0 then cmpI l l' else cmpI h h') = cmpI (h * 18446744073709551616 + l) (h' * 18446744073709551616 + l') := by
  unfold cmpI
  by_cases c1 : h < h'
  · have e : h * 18446744073709551616 + l < h' * 18446744073709551616 + l' := by omega
    simp [c1, e]
  · by_cases c2 : h > h'
    · have e : ¬ h * 18446744073709551616 + l < h' * 18446744073709551616 + l' := by omega
      have e2 : h * 18446744073709551616 + l > h' * 18446744073709551616 + l' := by omega
      rw [if_neg c1, if_pos c2, if_neg e, if_pos e2]; rfl
    · obtain rfl : h = h' := by omega
      rw [if_neg c1, if_neg c2, if_pos rfl]
      by_cases c3 : l < l'
      · rw [if_pos c3, if_pos (by omega)]
      · by_cases c4 : l > l'
        · rw [if_neg c3, if_pos c4, if_neg (by omega), if_pos (by omega)]
        · rw [if_neg c3, if_neg c4, if_neg (by omega), if_neg (by omega)]

theorem impl_wideOf_eq (n : Bool) (h l : Int) : impl_wideOf.f n h l = some (wnz n h l, h, l) := by
  unfold impl_wideOf.f wnz
  cases n
  · simp
  · by_cases c : h > 0 <;> simp [c]

theorem impl_CompareWide_eq (n m : Bool) (h l h' l' : Int) (hh : 0 ≤ h) (l0 : 0 ≤ l) (l1 : l < 18446744073709551616) (hh' : 0 ≤ h') (m0 : 0 ≤ l') (m1 : l' < 18446744073709551616) (k : Nat) (hk : 6 ≤ k) :
    impl_CompareWide.f k n h l m h' l' = some (cmpI (wval n h l) (wval m h' l')) := by
  obtain ⟨k, rfl⟩ : ∃ j, k = j + 2 := ⟨k - 2, by omega⟩
  have e1 : wval n h l = wval (wnz n h l) h l := by
    unfold wval wnz
    cases n
    · rfl
    · by_cases c : h > 0
      · simp [c]
      · by_cases d : l > 0
        · simp [d]
        · simp [c, d]; omega
  have e2 : wval m h' l' = wval (wnz m h' l') h' l' := by
    unfold wval wnz
    cases m
    · rfl
    · by_cases c : h' > 0
      · simp [c]
      · by_cases d : l' > 0
        · simp [d]
        · simp [c, d]; omega
  have p1 : wnz n h l = true → h * 18446744073709551616 + l > 0 := by
    unfold wnz; intro x; simp at x; omega
  have p2 : wnz m h' l' = true → h' * 18446744073709551616 + l' > 0 := by
    unfold wnz; intro x; simp at x; omega
  rw [e1, e2]
  unfold impl_CompareWide.f
  simp only [impl_wideOf_eq, Option.bind_some, impl_CompareWide.j0, impl_CompareWide.j1, impl_compareSizes_eq _ _ _ _ _ _ k (by omega)]
  generalize wnz n h l = a at *
  generalize wnz m h' l' = b at *
  cases a <;> cases b
  · simp [cmp_sizes l0 l1 m0 m1, wval]
  · have q := p2 rfl
    simp only [wval, cmpI]
    simp
    first | done | (rw [if_neg (by omega), if_pos (by omega)])
  · have q := p1 rfl
    simp [wval, cmpI]
    try omega
  · simp only [Bool.not_true, if_true, cmp_sizes m0 m1 l0 l1, wval]
    simp [cmpI]

theorem spec_l3Order_eq (n m : Bool) (h l h' l' : Int) (l0 : 0 ≤ l) (l1 : l < 18446744073709551616) (m0 : 0 ≤ l') (m1 : l' < 18446744073709551616) (k : Nat) (hk : 1 ≤ k) :
    spec_l3Order.f k n h l m h' l' = some (cmpI (h * 18446744073709551616 + l) (h' * 18446744073709551616 + l')) := by
  obtain ⟨k, rfl⟩ : ∃ j, k = j + 1 := ⟨k - 1, by omega⟩
  unfold spec_l3Order.f cmpI
  simp only [spec_l3Order.j0]
  by_cases c1 : h < h'
  · have e : h * 18446744073709551616 + l < h' * 18446744073709551616 + l' := by omega
    rw [if_pos c1, if_pos e]; rfl
  · rw [if_neg c1]
    by_cases c2 : h = h'
    · subst c2
      rw [if_pos rfl]
      by_cases c3 : l < l'
      · have e : h * 18446744073709551616 + l < h * 18446744073709551616 + l' := by omega
        rw [if_pos e]; simp [c3]
      · have e : ¬ h * 18446744073709551616 + l < h * 18446744073709551616 + l' := by omega
        rw [if_neg e]
        by_cases c4 : l > l'
        · have e2 : h * 18446744073709551616 + l > h * 18446744073709551616 + l' := by omega
          rw [if_pos e2]; simp [c3, c4]
        · have e2 : ¬ h * 18446744073709551616 + l > h * 18446744073709551616 + l' := by omega
          rw [if_neg e2]; simp [c3, c4]
    · have e : ¬ h * 18446744073709551616 + l < h' * 18446744073709551616 + l' := by omega
      have e2 : h * 18446744073709551616 + l > h' * 18446744073709551616 + l' := by omega
      rw [if_neg c2, if_neg e, if_pos e2]
      simp [show h > h' by omega]
theorem spec_l3Zero_eq (n : Bool) (h l : Int) : spec_l3Zero.f n h l = some ((h == 0) && (l == 0)) := by
  unfold spec_l3Zero.f
  by_cases c : h = 0 <;> simp [c]

theorem spec_CompareWide_eq (n m : Bool) (h l h' l' : Int) (hh : 0 ≤ h) (l0 : 0 ≤ l) (l1 : l < 18446744073709551616) (hh' : 0 ≤ h') (m0 : 0 ≤ l') (m1 : l' < 18446744073709551616) (k : Nat) (hk : 6 ≤ k) :
    spec_CompareWide.f k n h l m h' l' = some (cmpI (wval n h l) (wval m h' l')) := by
  obtain ⟨k, rfl⟩ : ∃ j, k = j + 4 := ⟨k - 4, by omega⟩
  unfold spec_CompareWide.f
  simp only [spec_CompareWide.j0, spec_CompareWide.j1, spec_CompareWide.j2, spec_CompareWide.j3, spec_l3Zero_eq, Option.bind_some, spec_l3Order_eq _ _ h l h' l' l0 l1 m0 m1 k (by omega), spec_l3Order_eq _ _ h' l' h l m0 m1 l0 l1 k (by omega)]
  cases n <;> cases m
  · simp [wval]
  · by_cases c : h' = 0 ∧ l' = 0
    · obtain ⟨rfl, rfl⟩ := c
      simp [wval]
    · have c2 : (h' == 0 && l' == 0) = false := by simpa using c
      simp [c2, wval, cmpI]
      rw [if_neg (by omega), if_pos (by omega)]
  · by_cases c : h = 0 ∧ l = 0
    · obtain ⟨rfl, rfl⟩ := c
      simp [wval]
    · have c2 : (h == 0 && l == 0) = false := by simpa using c
      simp [c2, wval, cmpI]
      try omega
  · by_cases c : h = 0 ∧ l = 0
    · obtain ⟨rfl, rfl⟩ := c
      by_cases d : h' = 0 ∧ l' = 0
      · obtain ⟨rfl, rfl⟩ := d
        simp [wval]
      · have d2 : (h' == 0 && l' == 0) = false := by simpa using d
        simp [d2, wval, cmpI]
        rw [if_neg (by omega), if_pos (by omega)]
    · have c2 : (h == 0 && l == 0) = false := by simpa using c
      by_cases d : h' = 0 ∧ l' = 0
      · obtain ⟨rfl, rfl⟩ := d
        simp [c2, wval, cmpI]
        try omega
      · have d2 : (h' == 0 && l' == 0) = false := by simpa using d
        simp [c2, d2, wval, cmpI]

theorem FnExactCompareWide (n : Bool) (h l : Int) (m : Bool) (h' l' : Int) (w1 : (Lit.int .u64 h).wf = true) (w2 : (Lit.int .u64 l).wf = true) (w3 : (Lit.int .u64 h').wf = true) (w4 : (Lit.int .u64 l').wf = true) : ∃ k, laws_FnExactCompareWide.f k n h l m h' l' = some true := by
  have ⟨p0, p1⟩ := wfu64 w1
  have ⟨q0, q1⟩ := wfu64 w2
  have ⟨r0, r1⟩ := wfu64 w3
  have ⟨s0, s1⟩ := wfu64 w4
  refine ⟨6, ?_⟩
  unfold laws_FnExactCompareWide.f laws_toWide.f
  simp only [Option.bind_some, impl_CompareWide_eq n m h l h' l' p0 q0 q1 r0 s0 s1 6 (by omega), spec_CompareWide_eq n m h l h' l' p0 q0 q1 r0 s0 s1 6 (by omega)]
  simp

end Go.Proofs.Ytlndcgmojabgbaa.Pure
