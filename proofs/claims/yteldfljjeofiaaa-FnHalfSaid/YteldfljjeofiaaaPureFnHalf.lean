/- Half of two is the same either way, lies between them, and is at most one off the middle. Conditions: each number is one of its kind, as the row says. -/
import Derived.Test.YteldfljjeofiaaaPFnHalfx
import Derived.Test.YteldfljjeofiaaaBase
set_option linter.unusedSimpArgs false
set_option linter.unusedVariables false
namespace Go.Proofs.Yteldfljjeofiaaa.Pure
open Go.RowKit Go.Proofs.Yteldfljjeofiaaa.Base Go.Proofs.Yteldfljjeofiaaa.PFnHalf Go.Proofs.YteldfljjeofiaaaW.PrintWords Go.Proofs.YteldfljjeofiaaaW.PrintLast Go.Proofs.YteldfljjeofiaaaW.PrintMore

theorem laws_big_eq (b : List Int) : laws_big.f b = some (decide ((b.length : Int) > 1048576)) := by
  unfold laws_big.f; rfl

theorem l1New_loop (b : List Int) (hb : b.length ≤ 140737488351232) (d : Nat) : ∀ (k : Nat) (x3 x4 : Int), 0 ≤ x4 → x4 ≤ b.length → (b.length : Int) - x4 = d → d < k → ∃ h, spec_l1New.l0 k b x3 x4 = some (b, 0, h) := by
  induction d with
  | zero =>
    intro k x3 x4 h0 h1 hd hk
    obtain ⟨k, rfl⟩ : ∃ m, k = m + 1 := ⟨k - 1, by omega⟩
    exact ⟨x3, by simp only [spec_l1New.l0]; rw [if_neg (by omega)]⟩
  | succ d ih =>
    intro k x3 x4 h0 h1 hd hk
    obtain ⟨k, rfl⟩ : ∃ m, k = m + 1 := ⟨k - 1, by omega⟩
    simp only [spec_l1New.l0]
    rw [if_pos (by omega)]
    by_cases c : x4 < 4000
    · rw [if_pos c, if_pos h0]
      have e : wrap64 (x4 + 1) = x4 + 1 := w64_id (by omega) (by omega)
      rw [e]
      exact ih k _ (x4 + 1) (by omega) (by omega) (by omega) (by omega)
    · rw [if_neg c]
      exact ⟨x3, rfl⟩
theorem l1New_some (b : List Int) (hb : b.length ≤ 140737488351232) (k : Nat) (hk : b.length < k) : ∃ h, spec_l1New.f k b = some (b, 0, h) := by
  unfold spec_l1New.f
  exact l1New_loop b hb b.length k _ 0 (by omega) (by omega) (by omega) hk

theorem l1Byte_some (b : List Int) (hb : b.length ≤ 140737488351232) (i h : Int) (hi : 0 ≤ i) : ∃ x i' h', spec_l1Byte.f b i h = some (x, i', h') ∧ 0 ≤ x ∧ x ≤ 255 ∧ 0 ≤ i' := by
  unfold spec_l1Byte.f
  by_cases c : i < (b.length : Int)
  · rw [if_pos c, if_pos hi]
    refine ⟨_, _, _, rfl, (and255 _).1, (and255 _).2, ?_⟩
    rw [w64_id (by omega) (by omega)]; omega
  · rw [if_neg c]
    exact ⟨_, _, _, rfl, (and255 _).1, (and255 _).2, hi⟩

theorem l1Below_some (b : List Int) (hb : b.length ≤ 140737488351232) (i h n : Int) (hi : 0 ≤ i) (hn : n ≤ 4294967296) : ∃ x i' h', spec_l1Below.f b i h n = some (x, i', h') ∧ 0 ≤ x ∧ (0 < n → x < n) ∧ 0 ≤ i' := by
  unfold spec_l1Below.f
  by_cases c : n ≤ 0
  · rw [if_pos c]
    exact ⟨_, _, _, rfl, by omega, fun _ => by omega, hi⟩
  · rw [if_neg c]
    by_cases d : n ≤ 256
    · rw [if_pos d]
      obtain ⟨x, i', h', e, x0, x1, hi'⟩ := l1Byte_some b hb i h hi
      rw [e]
      simp only [Option.bind_some]
      rw [if_neg (by omega)]
      have := tmod_range (n := n) x0 (by omega)
      exact ⟨_, _, _, rfl, this.1, fun _ => this.2, hi'⟩
    · rw [if_neg d]
      obtain ⟨x, i1, h1, e1, x0, x1, hi1⟩ := l1Byte_some b hb i h hi
      obtain ⟨y, i2, h2, e2, y0, y1, hi2⟩ := l1Byte_some b hb i1 h1 hi1
      obtain ⟨z, i3, h3, e3, z0, z1, hi3⟩ := l1Byte_some b hb i2 h2 hi2
      obtain ⟨u, i4, h4, e4, u0, u1, hi4⟩ := l1Byte_some b hb i3 h3 hi3
      rw [e1]; simp only [Option.bind_some]
      rw [e2]; simp only [Option.bind_some]
      rw [e3]; simp only [Option.bind_some]
      rw [e4]; simp only [Option.bind_some]
      rw [if_neg (by omega)]
      have e : wrap64 (wrap64 (wrap64 (wrap64 (x * 16777216) + wrap64 (y * 65536)) + wrap64 (z * 256)) + u) = x * 16777216 + y * 65536 + z * 256 + u := by
        unfold wrap64; omega
      rw [e]
      have := tmod_range (x := x * 16777216 + y * 65536 + z * 256 + u) (n := n) (by omega) (by omega)
      exact ⟨_, _, _, rfl, this.1, fun _ => this.2, hi4⟩

theorem l1PickInt_some (b : List Int) (hb : b.length ≤ 140737488351232) (i h : Int) (l : List Int) (hi : 0 ≤ i) (h0 : 0 < l.length) (hl : l.length ≤ 4294967296) : ∃ x i' h', spec_l1PickInt.f b i h l = some (x, i', h') ∧ x ∈ l ∧ 0 ≤ i' := by
  unfold spec_l1PickInt.f
  obtain ⟨x, i', h', e, x0, x1, hi'⟩ := l1Below_some b hb i h (l.length : Int) hi (by omega)
  have x2 := x1 (by omega)
  rw [e]
  simp only [Option.bind_some]
  rw [if_pos x0, if_pos x2]
  refine ⟨_, _, _, rfl, ?_, hi'⟩
  have : x.toNat < l.length := by omega
  unfold rd
  rw [List.getD_eq_getElem?_getD, List.getElem?_eq_getElem this]
  exact List.getElem_mem this

theorem l1Whole_loop (b : List Int) (hb : b.length ≤ 140737488351232) (d : Nat) : ∀ (k : Nat) (x3 x4 i h : Int), 0 ≤ i → x4 ≤ 8 → -8 ≤ x4 → (8 : Int) - x4 = d → d < k → -9223372036854775808 ≤ x3 → x3 ≤ 9223372036854775807 →
    ∃ x i' h', spec_l1Whole.l0 k x3 x4 b i h = some (x, i', h') ∧ -9223372036854775808 ≤ x ∧ x ≤ 9223372036854775807 ∧ 0 ≤ i' := by
  induction d with
  | zero =>
    intro k x3 x4 i h hi h1 h2 hd hk r0 r1
    obtain ⟨k, rfl⟩ : ∃ m, k = m + 1 := ⟨k - 1, by omega⟩
    exact ⟨x3, i, h, by simp only [spec_l1Whole.l0]; rw [if_neg (by omega)], r0, r1, hi⟩
  | succ d ih =>
    intro k x3 x4 i h hi h1 h2 hd hk r0 r1
    obtain ⟨k, rfl⟩ : ∃ m, k = m + 1 := ⟨k - 1, by omega⟩
    simp only [spec_l1Whole.l0]
    rw [if_pos (by omega)]
    obtain ⟨x, i', h', e, x0, x1, hi'⟩ := l1Byte_some b hb i h hi
    rw [e]
    simp only [Option.bind_some]
    rw [w64_id (n := x4 + 1) (by omega) (by omega)]
    have r := w64_range (wrap64 (x3 * 256) + x)
    exact ih k _ (x4 + 1) i' h' hi' (by omega) (by omega) (by omega) (by omega) r.1 r.2
theorem l1Whole_some (b : List Int) (hb : b.length ≤ 140737488351232) (i h : Int) (hi : 0 ≤ i) (k : Nat) (hk : 9 ≤ k) : ∃ x i' h', spec_l1Whole.f k b i h = some (x, i', h') ∧ -9223372036854775808 ≤ x ∧ x ≤ 9223372036854775807 ∧ 0 ≤ i' := by
  unfold spec_l1Whole.f
  obtain ⟨x, i1, h1, e, x0, x1, hi1⟩ := l1Below_some b hb i h 4 hi (by omega)
  rw [e]
  simp only [Option.bind_some]
  by_cases c0 : x = 0
  · rw [if_pos c0]
    obtain ⟨y, i2, h2, e2, hy, hi2⟩ := l1PickInt_some b hb i1 h1 [0, 1, (-1), 9, 10, 999, 1000, 2147483647, (-2147483648), 3037000499, 3037000500, 9223372036854775807, (-9223372036854775807), (-9223372036854775808)] hi1 (by simp) (by simp)
    rw [e2]
    simp only [Option.bind_some]
    refine ⟨_, _, _, rfl, ?_, ?_, hi2⟩ <;> (simp only [List.mem_cons, List.not_mem_nil, or_false] at hy; omega)
  · rw [if_neg c0]
    by_cases c1 : x = 1
    · rw [if_pos c1]
      exact l1Whole_loop b hb 8 k 0 0 i1 h1 hi1 (by omega) (by omega) (by omega) (by omega) (by omega) (by omega)
    · rw [if_neg c1]
      by_cases c2 : x = 2
      · rw [if_pos c2]
        obtain ⟨y, i2, h2, e2, _, _, hi2⟩ := l1Below_some b hb i1 h1 1000000 hi1 (by omega)
        rw [e2]
        exact ⟨_, _, _, rfl, (w64_range _).1, (w64_range _).2, hi2⟩
      · rw [if_neg c2]
        obtain ⟨y, i2, h2, e2, _, _, hi2⟩ := l1Below_some b hb i1 h1 41 hi1 (by omega)
        rw [e2]
        exact ⟨_, _, _, rfl, (w64_range _).1, (w64_range _).2, hi2⟩

theorem l2Two_some (b : List Int) (hb : b.length ≤ 140737488351232) (k : Nat) (hk : b.length < k) (hk9 : 9 ≤ k) : ∃ x y, spec_l2Two.f k b = some (x, y) ∧ -9223372036854775808 ≤ x ∧ x ≤ 9223372036854775807 ∧ -9223372036854775808 ≤ y ∧ y ≤ 9223372036854775807 := by
  unfold spec_l2Two.f
  obtain ⟨h, e⟩ := l1New_some b hb k hk
  rw [e]; simp only [Option.bind_some]
  obtain ⟨x, i1, h1, e1, x0, x1, hi1⟩ := l1Whole_some b hb 0 h (by omega) k hk9
  rw [e1]; simp only [Option.bind_some]
  obtain ⟨y, i2, h2, e2, _, _, hi2⟩ := l1Below_some b hb i1 h1 5 hi1 (by omega)
  rw [e2]; simp only [Option.bind_some]
  by_cases c0 : y = 0
  · rw [if_pos c0]; exact ⟨_, _, rfl, x0, x1, (w64_range _).1, (w64_range _).2⟩
  · rw [if_neg c0]
    by_cases c1 : y = 1
    · rw [if_pos c1]; exact ⟨_, _, rfl, x0, x1, (w64_range _).1, (w64_range _).2⟩
    · rw [if_neg c1]
      obtain ⟨z, i3, h3, e3, z0, z1, hi3⟩ := l1Whole_some b hb i2 h2 hi2 k hk9
      rw [e3]
      exact ⟨_, _, rfl, x0, x1, z0, z1⟩

theorem spec_l3Abs_eq (a : Int) (h0 : -9223372036854775808 ≤ a) (h1 : a ≤ 9223372036854775807) : spec_l3Abs.f a = some (iabs a) := by
  unfold spec_l3Abs.f iabs
  by_cases h : a < 0
  · rw [if_pos h, if_pos h]; simp only [wu64]; unfold wrap64; congr 1; omega
  · rw [if_neg h, if_neg h]; simp only [wu64]; congr 1; omega

theorem spec_WideOf_eq (a : Int) (h0 : -9223372036854775808 ≤ a) (h1 : a ≤ 9223372036854775807) : spec_WideOf.f a = some (wnorm a) := by
  have hb := iabs_u64 h0 h1
  unfold spec_WideOf.f
  simp only [spec_l3Abs_eq a h0 h1, Option.bind_some, wnorm]
  have e1 : iabs a / 18446744073709551616 = 0 := by omega
  have e2 : iabs a % 18446744073709551616 = iabs a := by omega
  rw [e1, e2]

theorem spec_WideOk_eq (n : Bool) (h l : Int) : spec_WideOk.f n h l = some (wok n h l) := by
  unfold spec_WideOk.f wok
  by_cases c1 : h < 9223372036854775808
  · rw [if_pos c1]
    cases n
    · simp [c1]
    · by_cases c2 : h > 0
      · simp [c1, c2]
      · simp [c1, c2]
  · rw [if_neg c1]; simp [c1]

theorem spec_NegWide_eq (n : Bool) (h l : Int) (h0 : 0 ≤ h) (l0 : 0 ≤ l) : spec_NegWide.f n h l = some (negAns n h l) := by
  unfold spec_NegWide.f negAns
  simp only [spec_WideOk_eq, Option.bind_some]
  by_cases c : wok n h l = true
  · rw [if_pos c, if_pos c]
    by_cases d : h = 0
    · rw [if_pos d]
      by_cases e : l = 0
      · rw [if_pos e]
        unfold wok at c
        cases n <;> simp_all [wnz]
      · rw [if_neg e]
        have : l > 0 := by omega
        simp [wnz, this]
    · rw [if_neg d]
      have : h > 0 := by omega
      simp [wnz, this]
  · rw [if_neg c, if_neg c]

theorem spec_l3Order_eq (n m : Bool) (h l h' l' : Int) (l0 : 0 ≤ l) (l1 : l < 18446744073709551616) (m0 : 0 ≤ l') (m1 : l' < 18446744073709551616) (k : Nat) (hk : 1 ≤ k) :
    spec_l3Order.f k n h l m h' l' = some (cmpI (h * 18446744073709551616 + l) (h' * 18446744073709551616 + l')) := by
  obtain ⟨k, rfl⟩ : ∃ j, k = j + 1 := ⟨k - 1, by omega⟩
  unfold spec_l3Order.f cmpI
  simp only [spec_l3Order.j0]
  by_cases c1 : h < h'
  · have e : h * 18446744073709551616 + l < h' * 18446744073709551616 + l' := by omega
    rw [if_pos c1, if_pos e]; rfl
  · rw [if_neg c1]
    by_cases c2 : h = h'
    · subst c2
      rw [if_pos rfl]
      by_cases c3 : l < l'
      · have e : h * 18446744073709551616 + l < h * 18446744073709551616 + l' := by omega
        rw [if_pos e]; simp [c3]
      · have e : ¬ h * 18446744073709551616 + l < h * 18446744073709551616 + l' := by omega
        rw [if_neg e]
        by_cases c4 : l > l'
        · have e2 : h * 18446744073709551616 + l > h * 18446744073709551616 + l' := by omega
          rw [if_pos e2]; simp [c3, c4]
        · have e2 : ¬ h * 18446744073709551616 + l > h * 18446744073709551616 + l' := by omega
          rw [if_neg e2]; simp [c3, c4]
    · have e : ¬ h * 18446744073709551616 + l < h' * 18446744073709551616 + l' := by omega
      have e2 : h * 18446744073709551616 + l > h' * 18446744073709551616 + l' := by omega
      rw [if_neg c2, if_neg e, if_pos e2]
      simp [show h > h' by omega]

theorem spec_l3Zero_eq (n : Bool) (h l : Int) : spec_l3Zero.f n h l = some ((h == 0) && (l == 0)) := by
  unfold spec_l3Zero.f
  by_cases c : h = 0 <;> simp [c]

theorem spec_AddWide_j1 (n m : Bool) (h l h' l' v : Int) (h0 : 0 ≤ h) (h1 : h < 9223372036854775808) (l0 : 0 ≤ l) (l1 : l < 18446744073709551616) (g0 : 0 ≤ h') (m0 : 0 ≤ l') (m1 : l' < 18446744073709551616) (dle : h' * 18446744073709551616 + l' ≤ h * 18446744073709551616 + l)
    (e : iabs v = h * 18446744073709551616 + l - (h' * 18446744073709551616 + l')) (sg : v ≠ 0 → decide (v < 0) = n) (k : Nat) : spec_AddWide.j1 (k + 1) n h l m h' l' = some (wans v) := by
  simp only [spec_AddWide.j1, spec_l3Zero_eq, Option.bind_some, wu64]
  have fin : ∀ a b : Int, 0 ≤ a → a < 9223372036854775808 → 0 ≤ b → b < 18446744073709551616 → iabs v = a * 18446744073709551616 + b → (if (a == 0 && b == 0) = true then some (false, a, b, true) else some (n, a, b, true)) = some (wans v) := by
    intro a b a0 a1 b0 b1 e4
    have s := sign_parts e4 a0 b0 sg
    rw [wans_of e4 a0 b0 b1, if_pos a1, ← s]
    by_cases z : (a == 0 && b == 0) = true
    · rw [if_pos z]
      have : a = 0 ∧ b = 0 := by simpa using z
      obtain ⟨rfl, rfl⟩ := this
      simp [wnz]
    · rw [if_neg z]
      have nz : a > 0 ∨ b > 0 := by
        have : ¬ (a = 0 ∧ b = 0) := by simpa using z
        omega
      unfold wnz
      rcases nz with d | d <;> simp [d]
  by_cases c : l < l'
  · rw [if_pos c]
    exact fin _ _ (by omega) (by omega) (by omega) (by omega) (by omega)
  · rw [if_neg c]
    exact fin _ _ (by omega) (by omega) (by omega) (by omega) (by omega)
theorem spec_AddWide_eq (n m : Bool) (h l h' l' : Int) (h0 : 0 ≤ h) (l0 : 0 ≤ l) (l1 : l < 18446744073709551616) (g0 : 0 ≤ h') (m0 : 0 ≤ l') (m1 : l' < 18446744073709551616) (k : Nat) (hk : 6 ≤ k) : spec_AddWide.f k n h l m h' l' = some (addAns n h l m h' l') := by
  obtain ⟨k, rfl⟩ : ∃ j, k = j + 2 := ⟨k - 2, by omega⟩
  unfold spec_AddWide.f addAns
  simp only [spec_WideOk_eq, Option.bind_some]
  by_cases w : wok n h l = true
  · rw [if_pos w]
    by_cases w' : wok m h' l' = true
    · have hh := wok_high w
      have gg := wok_high w'
      have nz := wok_nz w
      have mz := wok_nz w'
      have sn := wval_neg n h0 l0
      have sm := wval_neg m g0 m0
      rw [nz] at sn
      rw [mz] at sm
      have dn := wval_def n h l
      have dm := wval_def m h' l'
      rw [w, w']
      simp only [spec_AddWide.j0, Bool.not_true, Bool.false_eq_true, if_false, Bool.and_self, if_true]
      generalize wval n h l = u at *
      generalize wval m h' l' = v at *
      by_cases c : (n == m) = true
      · rw [if_pos c]
        have nm : n = m := by simpa using c
        subst nm
        simp only [spec_WideOk_eq, Option.bind_some, wu64]
        have sg : u + v ≠ 0 → decide (u + v < 0) = n := by
          intro z; subst dn dm
          cases n <;> simp at z ⊢ <;> omega
        have fin : ∀ a b : Int, 0 ≤ a → 0 ≤ b → b < 18446744073709551616 → iabs (u + v) = a * 18446744073709551616 + b → (if wok n a b = true then some (n, a, b, true) else some (false, 0, 0, false)) = some (wans (u + v)) := by
          intro a b a0 b0 b1 e4
          have s := sign_parts e4 a0 b0 sg
          have e6 := wok_wnz n a b
          have sn2 : wnz n a b = n := by
            rw [s]
            cases n
            · simp; subst dn dm; simp; omega
            · simp; subst dn dm; simp at sn sm ⊢; omega
          rw [sn2] at e6 s
          rw [wans_of e4 a0 b0 b1, e6, ← s]
          by_cases c3 : a < 9223372036854775808
          · rw [if_pos c3, if_pos (decide_eq_true c3)]
          · rw [if_neg c3, if_neg (by simpa using c3)]
        have e5 : iabs (u + v) = h * 18446744073709551616 + l + (h' * 18446744073709551616 + l') := by
          subst dn dm; unfold iabs
          cases n <;> simp <;> omega
        by_cases d : (l + l') % 18446744073709551616 < l
        · rw [if_pos d]
          exact fin _ _ (by omega) (by omega) (by omega) (by omega)
        · rw [if_neg d]
          exact fin _ _ (by omega) (by omega) (by omega) (by omega)
      · rw [if_neg c]
        simp only [spec_l3Order_eq n m h l h' l' l0 l1 m0 m1 (k + 1) (by omega), Option.bind_some]
        by_cases d : cmpI (h * 18446744073709551616 + l) (h' * 18446744073709551616 + l') < 0
        · rw [if_pos d]
          have dlt : h * 18446744073709551616 + l < h' * 18446744073709551616 + l' := by
            unfold cmpI at d
            by_cases e : h * 18446744073709551616 + l < h' * 18446744073709551616 + l'
            · exact e
            · rw [if_neg e] at d; split at d <;> omega
          refine spec_AddWide_j1 m n h' l' h l (u + v) g0 gg m0 m1 h0 l0 l1 (by omega) ?_ ?_ k
          · subst dn dm; unfold iabs
            cases n <;> cases m <;> simp at c ⊢ <;> omega
          · intro _; subst dn dm
            cases n <;> cases m <;> simp at c ⊢ <;> omega
        · rw [if_neg d]
          have dle : h' * 18446744073709551616 + l' ≤ h * 18446744073709551616 + l := by
            unfold cmpI at d
            by_cases e : h * 18446744073709551616 + l < h' * 18446744073709551616 + l'
            · rw [if_pos e] at d; omega
            · omega
          refine spec_AddWide_j1 n m h l h' l' (u + v) h0 hh l0 l1 g0 m0 m1 dle ?_ ?_ k
          · subst dn dm; unfold iabs
            cases n <;> cases m <;> simp at c ⊢ <;> omega
          · intro z; subst dn dm
            cases n <;> cases m <;> simp at c z ⊢ <;> omega
    · have w2 : wok m h' l' = false := by simpa using w'
      rw [w2]
      simp [spec_AddWide.j0]
  · have w2 : wok n h l = false := by simpa using w
    rw [if_neg w, w2]
    simp [spec_AddWide.j0]

theorem spec_SubWide_eq (n m : Bool) (h l h' l' : Int) (h0 : 0 ≤ h) (l0 : 0 ≤ l) (l1 : l < 18446744073709551616) (g0 : 0 ≤ h') (m0 : 0 ≤ l') (m1 : l' < 18446744073709551616) (k : Nat) (hk : 6 ≤ k) : spec_SubWide.f k n h l m h' l' = some (subAns n h l m h' l') := by
  unfold spec_SubWide.f subAns
  have p := negAns_parts m h' l'
  rw [spec_NegWide_eq _ _ _ g0 m0]; simp only [Option.bind_some]
  rw [spec_AddWide_eq _ _ _ _ _ _ h0 l0 l1 (by rw [p.1]; exact g0) (by rw [p.2]; exact m0) (by rw [p.2]; exact m1) k hk]
  rfl

theorem spec_IntOf_eq (n : Bool) (h l : Int) (h0 : 0 ≤ h) (l0 : 0 ≤ l) (l1 : l < 18446744073709551616) (k : Nat) (hk : 1 ≤ k) : spec_IntOf.f k n h l = some (intAns n h l) := by
  obtain ⟨k, rfl⟩ : ∃ j, k = j + 1 := ⟨k - 1, by omega⟩
  unfold spec_IntOf.f intAns
  simp only [spec_IntOf.j0]
  by_cases c1 : h > 0
  · have hz : ¬ h = 0 := by omega
    rw [if_pos c1]
    cases n <;> simp [hz]
  · have hz : h = 0 := by omega
    subst hz
    rw [if_neg c1]
    by_cases c2 : l > 9223372036854775808
    · rw [if_pos c2]
      have a1 : ¬ l ≤ 9223372036854775808 := by omega
      have a2 : ¬ l ≤ 9223372036854775807 := by omega
      cases n <;> simp [a1, a2]
    · rw [if_neg c2]
      have a1 : l ≤ 9223372036854775808 := by omega
      cases n
      · by_cases c3 : l = 9223372036854775808
        · rw [if_pos c3]
          have a2 : ¬ l ≤ 9223372036854775807 := by omega
          simp [a2]
        · rw [if_neg c3]
          have a2 : l ≤ 9223372036854775807 := by omega
          have e : wrap64 l = l := w64_id (by omega) a2
          simp [a2, e]
      · have hw : wrap64 (wrap64 (-wrap64 (IntKind.u64.wrap (l - 1))) - 1) = -l ∨ l = 0 := by
          by_cases z : l = 0
          · exact .inr z
          · left
            rw [wu64]; unfold wrap64; omega
        simp only [if_true, ite_self, beq_iff_eq]
        by_cases z : l = 0
        · subst z; simp
        · have hw2 := hw.resolve_right z
          have a2 : 1 ≤ l := by omega
          rw [hw2]
          simp [z, a1, a2]

theorem impl_HalfSum_eq (a b : Int) (ha0 : -9223372036854775808 ≤ a) (ha1 : a ≤ 9223372036854775807) (hb0 : -9223372036854775808 ≤ b) (hb1 : b ≤ 9223372036854775807) : impl_HalfSum.f a b = some ((a + b) / 2) := by
  unfold impl_HalfSum.f
  rw [i64_and_mod2]
  congr 1
  by_cases c : a % 2 = 1 ∧ b % 2 = 1
  · rw [if_pos c]; unfold wrap64; omega
  · rw [if_neg c]; unfold wrap64; omega
theorem spec_HalfSum_eq (a b : Int) (ha0 : -9223372036854775808 ≤ a) (ha1 : a ≤ 9223372036854775807) (hb0 : -9223372036854775808 ≤ b) (hb1 : b ≤ 9223372036854775807) : spec_HalfSum.f a b = some ((a + b) / 2) := by
  unfold spec_HalfSum.f
  have h := i64_and_xor a b ha0 ha1 hb0 hb1
  generalize Go.bits .and .i64 a b = p at *
  generalize Go.bits .xor .i64 a b = q at *
  congr 1
  unfold wrap64; omega
theorem Half_j1 (m lo hi : Int) (m0 : -9223372036854775808 ≤ m) (m1 : m ≤ 9223372036854775807) (l0 : -9223372036854775808 ≤ lo) (l1 : lo ≤ 9223372036854775807) (h0 : -9223372036854775808 ≤ hi) (h1 : hi ≤ 9223372036854775807) (a : lo ≤ m) (b : m ≤ hi) (c : hi - m - (m - lo) = 0 ∨ hi - m - (m - lo) = 1) (k : Nat) (hk : 7 ≤ k) : laws_FnHalf.j1 k m lo hi = some true := by
  obtain ⟨k, rfl⟩ : ∃ j, k = j + 1 := ⟨k - 1, by omega⟩
  simp only [laws_FnHalf.j1]
  have sub : ∀ x y : Int, iabs x < 170141183460469231731687303715884105728 → iabs y < 170141183460469231731687303715884105728 → iabs (x - y) < 170141183460469231731687303715884105728 → spec_SubWide.f k (wnorm x).1 (wnorm x).2.1 (wnorm x).2.2 (wnorm y).1 (wnorm y).2.1 (wnorm y).2.2 = some ((wnorm (x - y)).1, (wnorm (x - y)).2.1, (wnorm (x - y)).2.2, true) := by
    intro x y hx hy hd
    have wx := wnorm_parts (v := x) (by omega)
    have wy := wnorm_parts (v := y) (by omega)
    rw [spec_SubWide_eq _ _ _ _ _ _ wx.1 wx.2.2.1 wx.2.2.2 wy.1 wy.2.2.1 wy.2.2.2 k (by omega), subAns_val wy.1 wy.2.2.1 (wok_wnorm hx) (wok_wnorm hy), wval_wnorm, wval_wnorm, wans_in hd]
  have ia : ∀ x : Int, -100000000000000000000 ≤ x → x ≤ 100000000000000000000 → iabs x < 170141183460469231731687303715884105728 := by
    intro x x0 x1
    unfold iabs; split <;> omega
  rw [spec_WideOf_eq m m0 m1, spec_WideOf_eq lo l0 l1, spec_WideOf_eq hi h0 h1]; simp only [Option.bind_some]
  rw [sub m lo (ia _ (by omega) (by omega)) (ia _ (by omega) (by omega)) (ia _ (by omega) (by omega)), sub hi m (ia _ (by omega) (by omega)) (ia _ (by omega) (by omega)) (ia _ (by omega) (by omega))]; simp only [Option.bind_some]
  rw [sub (hi - m) (m - lo) (ia _ (by omega) (by omega)) (ia _ (by omega) (by omega)) (ia _ (by omega) (by omega))]; simp only [Option.bind_some]
  have wd := wnorm_parts (v := hi - m - (m - lo)) (by have := ia (hi - m - (m - lo)) (by omega) (by omega); omega)
  rw [spec_IntOf_eq _ _ _ wd.1 wd.2.2.1 wd.2.2.2 k (by omega), intAns_small (by omega) (by omega)]; simp only [Option.bind_some]
  rw [if_pos a, if_pos b]
  rcases c with c | c <;> simp [c]
theorem FnHalf : laws_FnHalf.Pure := by
  intro b _ hb _
  refine ⟨b.length + 17, ?_⟩
  have hb' : b.length ≤ 140737488351232 := by omega
  unfold laws_FnHalf.f spec_DrawHalfSum.f
  rw [laws_big_eq]; simp only [Option.bind_some]
  by_cases hbig : decide ((b.length : Int) > 1048576) = true
  · rw [if_pos hbig]
  · rw [if_neg hbig]
    obtain ⟨p, q, e3, p0, p1, q0, q1⟩ := l2Two_some b hb' (b.length + 17) (by omega) (by omega)
    rw [e3]; simp only [Option.bind_some]
    rw [impl_HalfSum_eq p q p0 p1 q0 q1, impl_HalfSum_eq q p q0 q1 p0 p1, spec_HalfSum_eq p q p0 p1 q0 q1, Int.add_comm q p]
    simp only [Option.bind_some, if_true, bne_self_eq_false, laws_FnHalf.j0, Bool.false_eq_true, if_false]
    by_cases c : q < p
    · rw [if_pos c]
      exact Half_j1 _ q p (by omega) (by omega) q0 q1 p0 p1 (by omega) (by omega) (by omega) _ (by omega)
    · rw [if_neg c]
      exact Half_j1 _ p q (by omega) (by omega) p0 p1 q0 q1 (by omega) (by omega) (by omega) _ (by omega)

end Go.Proofs.Yteldfljjeofiaaa.Pure
