/- Whether two settings are equal: program and reference compare the same numbers and signs. Conditions: each number is one of its kind, as the row says. -/
import Derived.Test.YteldfljjeofiaaaPFnExactSameConfigx
import Derived.Test.YteldfljjeofiaaaBase
set_option linter.unusedSimpArgs false
set_option linter.unusedVariables false
namespace Go.Proofs.Yteldfljjeofiaaa.Pure
open Go.RowKit Go.Proofs.Yteldfljjeofiaaa.Base Go.Proofs.Yteldfljjeofiaaa.PFnExactSameConfig Go.Proofs.YteldfljjeofiaaaW.PrintWords Go.Proofs.YteldfljjeofiaaaW.PrintLast Go.Proofs.YteldfljjeofiaaaW.PrintMore

theorem toIntS_loop (l : List Int) (hl : l.length ≤ 17592186044416) (d : Nat) : ∀ (k : Nat) (x : List Int) (i : Int), 0 ≤ i → i ≤ l.length → (l.length : Int) - i = d → d < k → x.length = l.length → (∀ j : Nat, (j : Int) < i → x[j]? = l[j]?) → laws_toIntS.l0 k l x i = some l := by
  induction d with
  | zero =>
    intro k x i h0 h1 hd hk hx hj
    obtain ⟨k, rfl⟩ : ∃ m, k = m + 1 := ⟨k - 1, by omega⟩
    simp only [laws_toIntS.l0]
    rw [if_neg (by omega)]
    congr 1
    apply List.ext_getElem?
    intro j
    by_cases c : (j : Int) < i
    · exact hj j c
    · rw [List.getElem?_eq_none (by omega), List.getElem?_eq_none (by omega)]
  | succ d ih =>
    intro k x i h0 h1 hd hk hx hj
    obtain ⟨k, rfl⟩ : ∃ m, k = m + 1 := ⟨k - 1, by omega⟩
    simp only [laws_toIntS.l0]
    rw [if_pos (by omega), if_pos h0, if_pos (by omega), w64_id (n := i + 1) (by omega) (by omega)]
    refine ih k _ (i + 1) (by omega) (by omega) (by omega) (by omega) (by simp [hx]) ?_
    intro j hji
    by_cases c : j = i.toNat
    · subst c
      rw [List.getElem?_set_self (by omega)]
      unfold rd
      rw [List.getD_eq_getElem?_getD, List.getElem?_eq_getElem (by omega)]
      simp
    · rw [List.getElem?_set_ne (fun h => c h.symm)]
      exact hj j (by omega)
theorem laws_toIntS_eq (l : List Int) (hl : l.length ≤ 17592186044416) (k : Nat) (hk : l.length < k) : laws_toIntS.f k l = some l := by
  unfold laws_toIntS.f
  rw [if_pos (by omega), if_pos (by omega)]
  exact toIntS_loop l hl l.length k _ 0 (by omega) (by omega) (by omega) hk (by simp) (fun j hj => absurd hj (by omega))

theorem eqIntS_loop (l : List Int) (hl : l.length ≤ 140737488351232) (d : Nat) : ∀ (k : Nat) (i : Int), 0 ≤ i → i ≤ l.length → (l.length : Int) - i = d → d < k → laws_eqIntS.l0 k l l i = some true := by
  induction d with
  | zero =>
    intro k i h0 h1 hd hk
    obtain ⟨k, rfl⟩ : ∃ m, k = m + 1 := ⟨k - 1, by omega⟩
    simp only [laws_eqIntS.l0]
    rw [if_neg (by omega)]
  | succ d ih =>
    intro k i h0 h1 hd hk
    obtain ⟨k, rfl⟩ : ∃ m, k = m + 1 := ⟨k - 1, by omega⟩
    simp only [laws_eqIntS.l0]
    rw [if_pos (by omega), if_pos h0, if_pos (by omega), if_pos trivial, w64_id (n := i + 1) (by omega) (by omega)]
    exact ih k (i + 1) (by omega) (by omega) (by omega) (by omega)
theorem laws_eqIntS_self (l : List Int) (hl : l.length ≤ 140737488351232) (k : Nat) (hk : l.length < k) : laws_eqIntS.f k l l = some true := by
  unfold laws_eqIntS.f
  rw [if_pos rfl]
  exact eqIntS_loop l hl l.length k 0 (by omega) (by omega) (by omega) hk

theorem laws_toConfig_eq (a b c d e g h : Int) (l : List Int) (hl : l.length ≤ 17592186044416) (k : Nat) (hk : l.length < k) : laws_toConfig.f k a b c d e g h l = some (a, b, c, d, e, g, h, l) := by
  unfold laws_toConfig.f
  rw [laws_toIntS_eq l hl k hk]; rfl
theorem laws_eqConfig_self (a b c d e g h : Int) (l : List Int) (hl : l.length ≤ 140737488351232) (k : Nat) (hk : l.length < k) : laws_eqConfig.f k a b c d e g h l a b c d e g h l = some true := by
  unfold laws_eqConfig.f
  rw [laws_eqIntS_self l hl k hk]
  simp
theorem laws_szConfig_eq (a b c d e g h : Int) (l : List Int) (hl : l.length ≤ 9223372036854775807) : laws_szConfig.f a b c d e g h l 1048576 = some (if (1048576 : Int) - l.length < 0 then (-1 : Int) else (1048576 : Int) - l.length) := by
  unfold laws_szConfig.f laws_szIntS.f
  rw [w64_id (n := 1048576 - (l.length : Int)) (by omega) (by omega)]
  by_cases c : (1048576 : Int) - l.length < 0
  · rw [if_pos c, if_pos c]; rfl
  · rw [if_neg c, if_neg c]; simp only [Option.bind_some]; rw [if_neg c]

theorem l8Ints_loop (a b : List Int) (ha : a.length ≤ 140737488351232) (hab : a.length = b.length) (d : Nat) : ∀ (k : Nat) (i : Int), 0 ≤ i → i ≤ a.length → (a.length : Int) - i = d → d < k → spec_l8Ints.l0 k a b i = some (decide (a.drop i.toNat = b.drop i.toNat)) := by
  induction d with
  | zero =>
    intro k i h0 h1 hd hk
    obtain ⟨k, rfl⟩ : ∃ m, k = m + 1 := ⟨k - 1, by omega⟩
    simp only [spec_l8Ints.l0]
    rw [if_neg (by omega), List.drop_eq_nil_of_le (by omega), List.drop_eq_nil_of_le (by omega)]
    simp
  | succ d ih =>
    intro k i h0 h1 hd hk
    obtain ⟨k, rfl⟩ : ∃ m, k = m + 1 := ⟨k - 1, by omega⟩
    simp only [spec_l8Ints.l0]
    rw [if_pos (by omega), if_pos h0, if_pos (by omega), drop_rd a i h0 (by omega), drop_rd b i h0 (by omega), w64_id (n := i + 1) (by omega) (by omega)]
    by_cases c : rd a i = rd b i
    · rw [if_pos c, ih k (i + 1) (by omega) (by omega) (by omega) (by omega)]
      have c' : a.getD i.toNat 0 = b.getD i.toNat 0 := c
      rw [c']; simp
    · rw [if_neg c]
      have c' : ¬ a.getD i.toNat 0 = b.getD i.toNat 0 := c
      simp only [List.cons.injEq, c', false_and, decide_false]
theorem spec_l8Ints_eq (a b : List Int) (ha : a.length ≤ 140737488351232) (k : Nat) (hk : a.length < k) : spec_l8Ints.f k a b = some (decide (a = b)) := by
  unfold spec_l8Ints.f
  by_cases h : (a.length : Int) = (b.length : Int)
  · rw [if_pos h, l8Ints_loop a b ha (by omega) a.length k 0 (by omega) (by omega) (by omega) hk]
    rfl
  · rw [if_neg h]
    have : ¬ a = b := fun e => h (by rw [e])
    simp [this]

theorem slicesEqual_loop (a b : List Int) (ha : a.length ≤ 140737488351232) (hab : a.length = b.length) (d : Nat) : ∀ (k : Nat) (i : Int), 0 ≤ i → i ≤ a.length → (a.length : Int) - i = d → d < k → slices_Equal_int_int.l0 k a b (a.length : Int) i = some (decide (a.drop i.toNat = b.drop i.toNat)) := by
  induction d with
  | zero =>
    intro k i h0 h1 hd hk
    obtain ⟨k, rfl⟩ : ∃ m, k = m + 1 := ⟨k - 1, by omega⟩
    simp only [slices_Equal_int_int.l0]
    rw [if_neg (by omega), List.drop_eq_nil_of_le (by omega), List.drop_eq_nil_of_le (by omega)]
    simp
  | succ d ih =>
    intro k i h0 h1 hd hk
    obtain ⟨k, rfl⟩ : ∃ m, k = m + 1 := ⟨k - 1, by omega⟩
    simp only [slices_Equal_int_int.l0]
    have lt : i < (a.length : Int) := by omega
    rw [if_pos lt, if_pos h0, if_pos lt, if_pos (by omega), drop_rd a i h0 (by omega), drop_rd b i h0 (by omega), w64_id (n := i + 1) (by omega) (by omega)]
    by_cases c : rd a i = rd b i
    · rw [if_pos c, ih k (i + 1) (by omega) (by omega) (by omega) (by omega)]
      have c' : a.getD i.toNat 0 = b.getD i.toNat 0 := c
      rw [c']; simp
    · rw [if_neg c]
      have c' : ¬ a.getD i.toNat 0 = b.getD i.toNat 0 := c
      simp only [List.cons.injEq, c', false_and, decide_false]
theorem slices_Equal_int_eq (a b : List Int) (ha : a.length ≤ 140737488351232) (k : Nat) (hk : a.length < k) : slices_Equal_int_int.f k a b = some (decide (a = b)) := by
  unfold slices_Equal_int_int.f
  by_cases h : (a.length : Int) = (b.length : Int)
  · rw [if_pos h, slicesEqual_loop a b ha (by omega) a.length k 0 (by omega) (by omega) (by omega) hk]
    rfl
  · rw [if_neg h]
    have : ¬ a = b := fun e => h (by rw [e])
    simp [this]

theorem szConfig_any (a b c d e g h : Int) (l : List Int) (n : Int) (n0 : 0 ≤ n) (n1 : n ≤ 1048576) (hl : l.length ≤ 9223372036854775807) : laws_szConfig.f a b c d e g h l n = some (if n - l.length < 0 then (-1 : Int) else n - l.length) := by
  unfold laws_szConfig.f laws_szIntS.f
  rw [w64_id (n := n - (l.length : Int)) (by omega) (by omega)]
  by_cases c : n - (l.length : Int) < 0
  · rw [if_pos c, if_pos c]; rfl
  · rw [if_neg c, if_neg c]; simp only [Option.bind_some]; rw [if_neg c]
theorem same_eq (a b c d e g h : Int) (l : List Int) (a' b' c' d' e' g' h' : Int) (l' : List Int) (k : Nat) (hl : l.length ≤ 140737488351232) (hk : l.length < k) (hk5 : 5 < k) : spec_SameConfig.f k a b c d e g h l a' b' c' d' e' g' h' l' = impl_SameConfig.f k a b c d e g h l a' b' c' d' e' g' h' l' ∧ ∃ r, impl_SameConfig.f k a b c d e g h l a' b' c' d' e' g' h' l' = some r := by
  unfold spec_SameConfig.f impl_SameConfig.f spec_l8Numbers.f
  simp only [Option.bind_some]
  rw [spec_l8Ints_eq [a, b, c, d, e] [a', b', c', d', e'] (by simp) k (by simpa using hk5), spec_l8Ints_eq l l' hl k hk, slices_Equal_int_eq l l' hl k hk]
  simp only [Option.bind_some, List.cons.injEq, and_true]
  by_cases x1 : a = a'
  · by_cases x2 : b = b'
    · by_cases x3 : c = c'
      · by_cases x4 : d = d'
        · by_cases x5 : e = e'
          · by_cases x6 : g = g'
            · by_cases x7 : h = h'
              · simp [x1, x2, x3, x4, x5, x6, x7]
              · simp [x1, x2, x3, x4, x5, x6, x7]
            · simp [x1, x2, x3, x4, x5, x6]
          · simp [x1, x2, x3, x4, x5]
        · simp [x1, x2, x3, x4]
      · simp [x1, x2, x3]
    · simp [x1, x2]
  · simp [x1]
theorem FnExactSameConfig (a b c d e g h : Int) (l : List Int) (a' b' c' d' e' g' h' : Int) (l' : List Int) (_ : (Lit.int .i64 a).wf = true) (_ : (Lit.int .i64 b).wf = true) (_ : (Lit.int .i64 c).wf = true) (_ : (Lit.int .i64 d).wf = true) (_ : (Lit.int .i64 e).wf = true) (_ : (Lit.int .i64 g).wf = true) (_ : (Lit.int .i64 h).wf = true) (hm : l.length ≤ maxLen) (_ : ∀ x ∈ l, (Lit.int .i64 x).wf = true)
    (_ : (Lit.int .i64 a').wf = true) (_ : (Lit.int .i64 b').wf = true) (_ : (Lit.int .i64 c').wf = true) (_ : (Lit.int .i64 d').wf = true) (_ : (Lit.int .i64 e').wf = true) (_ : (Lit.int .i64 g').wf = true) (_ : (Lit.int .i64 h').wf = true) (hm' : l'.length ≤ maxLen) (_ : ∀ x ∈ l', (Lit.int .i64 x).wf = true) : ∃ k, laws_FnExactSameConfig.f k a b c d e g h l a' b' c' d' e' g' h' l' = some true := by
  refine ⟨l.length + l'.length + 6, ?_⟩
  unfold maxLen at hm hm'
  unfold laws_FnExactSameConfig.f
  rw [szConfig_any a b c d e g h l 1048576 (by omega) (by omega) hm]
  simp only [Option.bind_some]
  by_cases big : (1048576 : Int) - l.length < 0
  · rw [if_pos big]; simp
  · rw [if_neg big, if_neg big, szConfig_any a' b' c' d' e' g' h' l' _ (by omega) (by omega) hm']
    simp only [Option.bind_some]
    by_cases big' : (1048576 : Int) - l.length - l'.length < 0
    · rw [if_pos big']; simp
    · rw [if_neg big', if_neg big']
      have ⟨se, r, hr⟩ := same_eq a b c d e g h l a' b' c' d' e' g' h' l' (l.length + l'.length + 6) (by omega) (by omega) (by omega)
      simp only [Option.bind_some, laws_toConfig_eq a b c d e g h l (by omega) (l.length + l'.length + 6) (by omega), laws_toConfig_eq a' b' c' d' e' g' h' l' (by omega) (l.length + l'.length + 6) (by omega), se, hr, laws_eqConfig_self a b c d e g h l (by omega) (l.length + l'.length + 6) (by omega), laws_eqConfig_self a' b' c' d' e' g' h' l' (by omega) (l.length + l'.length + 6) (by omega)]
      simp

end Go.Proofs.Yteldfljjeofiaaa.Pure
