/- A product that has room is the wide one; a product divided by a factor is the other one. Conditions: each number is one of its kind, as the row says. -/
import Derived.Test.YteldfljjeofiaaaPFnProductx
import Derived.Test.YteldfljjeofiaaaBase
set_option linter.unusedSimpArgs false
set_option linter.unusedVariables false
namespace Go.Proofs.Yteldfljjeofiaaa.Pure
open Go.RowKit Go.Proofs.Yteldfljjeofiaaa.Base Go.Proofs.Yteldfljjeofiaaa.PFnProduct Go.Proofs.YteldfljjeofiaaaW.PrintWords Go.Proofs.YteldfljjeofiaaaW.PrintLast Go.Proofs.YteldfljjeofiaaaW.PrintMore

theorem laws_big_eq (b : List Int) : laws_big.f b = some (decide ((b.length : Int) > 1048576)) := by
  unfold laws_big.f; rfl

theorem l1New_loop (b : List Int) (hb : b.length ≤ 140737488351232) (d : Nat) : ∀ (k : Nat) (x3 x4 : Int), 0 ≤ x4 → x4 ≤ b.length → (b.length : Int) - x4 = d → d < k → ∃ h, spec_l1New.l0 k b x3 x4 = some (b, 0, h) := by
  induction d with
  | zero =>
    intro k x3 x4 h0 h1 hd hk
    obtain ⟨k, rfl⟩ : ∃ m, k = m + 1 := ⟨k - 1, by omega⟩
    exact ⟨x3, by simp only [spec_l1New.l0]; rw [if_neg (by omega)]⟩
  | succ d ih =>
    intro k x3 x4 h0 h1 hd hk
    obtain ⟨k, rfl⟩ : ∃ m, k = m + 1 := ⟨k - 1, by omega⟩
    simp only [spec_l1New.l0]
    rw [if_pos (by omega)]
    by_cases c : x4 < 4000
    · rw [if_pos c, if_pos h0]
      have e : wrap64 (x4 + 1) = x4 + 1 := w64_id (by omega) (by omega)
      rw [e]
      exact ih k _ (x4 + 1) (by omega) (by omega) (by omega) (by omega)
    · rw [if_neg c]
      exact ⟨x3, rfl⟩
theorem l1New_some (b : List Int) (hb : b.length ≤ 140737488351232) (k : Nat) (hk : b.length < k) : ∃ h, spec_l1New.f k b = some (b, 0, h) := by
  unfold spec_l1New.f
  exact l1New_loop b hb b.length k _ 0 (by omega) (by omega) (by omega) hk

theorem l1Byte_some (b : List Int) (hb : b.length ≤ 140737488351232) (i h : Int) (hi : 0 ≤ i) : ∃ x i' h', spec_l1Byte.f b i h = some (x, i', h') ∧ 0 ≤ x ∧ x ≤ 255 ∧ 0 ≤ i' := by
  unfold spec_l1Byte.f
  by_cases c : i < (b.length : Int)
  · rw [if_pos c, if_pos hi]
    refine ⟨_, _, _, rfl, (and255 _).1, (and255 _).2, ?_⟩
    rw [w64_id (by omega) (by omega)]; omega
  · rw [if_neg c]
    exact ⟨_, _, _, rfl, (and255 _).1, (and255 _).2, hi⟩

theorem l1Below_some (b : List Int) (hb : b.length ≤ 140737488351232) (i h n : Int) (hi : 0 ≤ i) (hn : n ≤ 4294967296) : ∃ x i' h', spec_l1Below.f b i h n = some (x, i', h') ∧ 0 ≤ x ∧ (0 < n → x < n) ∧ 0 ≤ i' := by
  unfold spec_l1Below.f
  by_cases c : n ≤ 0
  · rw [if_pos c]
    exact ⟨_, _, _, rfl, by omega, fun _ => by omega, hi⟩
  · rw [if_neg c]
    by_cases d : n ≤ 256
    · rw [if_pos d]
      obtain ⟨x, i', h', e, x0, x1, hi'⟩ := l1Byte_some b hb i h hi
      rw [e]
      simp only [Option.bind_some]
      rw [if_neg (by omega)]
      have := tmod_range (n := n) x0 (by omega)
      exact ⟨_, _, _, rfl, this.1, fun _ => this.2, hi'⟩
    · rw [if_neg d]
      obtain ⟨x, i1, h1, e1, x0, x1, hi1⟩ := l1Byte_some b hb i h hi
      obtain ⟨y, i2, h2, e2, y0, y1, hi2⟩ := l1Byte_some b hb i1 h1 hi1
      obtain ⟨z, i3, h3, e3, z0, z1, hi3⟩ := l1Byte_some b hb i2 h2 hi2
      obtain ⟨u, i4, h4, e4, u0, u1, hi4⟩ := l1Byte_some b hb i3 h3 hi3
      rw [e1]; simp only [Option.bind_some]
      rw [e2]; simp only [Option.bind_some]
      rw [e3]; simp only [Option.bind_some]
      rw [e4]; simp only [Option.bind_some]
      rw [if_neg (by omega)]
      have e : wrap64 (wrap64 (wrap64 (wrap64 (x * 16777216) + wrap64 (y * 65536)) + wrap64 (z * 256)) + u) = x * 16777216 + y * 65536 + z * 256 + u := by
        unfold wrap64; omega
      rw [e]
      have := tmod_range (x := x * 16777216 + y * 65536 + z * 256 + u) (n := n) (by omega) (by omega)
      exact ⟨_, _, _, rfl, this.1, fun _ => this.2, hi4⟩

theorem l1PickInt_some (b : List Int) (hb : b.length ≤ 140737488351232) (i h : Int) (l : List Int) (hi : 0 ≤ i) (h0 : 0 < l.length) (hl : l.length ≤ 4294967296) : ∃ x i' h', spec_l1PickInt.f b i h l = some (x, i', h') ∧ x ∈ l ∧ 0 ≤ i' := by
  unfold spec_l1PickInt.f
  obtain ⟨x, i', h', e, x0, x1, hi'⟩ := l1Below_some b hb i h (l.length : Int) hi (by omega)
  have x2 := x1 (by omega)
  rw [e]
  simp only [Option.bind_some]
  rw [if_pos x0, if_pos x2]
  refine ⟨_, _, _, rfl, ?_, hi'⟩
  have : x.toNat < l.length := by omega
  unfold rd
  rw [List.getD_eq_getElem?_getD, List.getElem?_eq_getElem this]
  exact List.getElem_mem this

theorem l1Whole_loop (b : List Int) (hb : b.length ≤ 140737488351232) (d : Nat) : ∀ (k : Nat) (x3 x4 i h : Int), 0 ≤ i → x4 ≤ 8 → -8 ≤ x4 → (8 : Int) - x4 = d → d < k → -9223372036854775808 ≤ x3 → x3 ≤ 9223372036854775807 →
    ∃ x i' h', spec_l1Whole.l0 k x3 x4 b i h = some (x, i', h') ∧ -9223372036854775808 ≤ x ∧ x ≤ 9223372036854775807 ∧ 0 ≤ i' := by
  induction d with
  | zero =>
    intro k x3 x4 i h hi h1 h2 hd hk r0 r1
    obtain ⟨k, rfl⟩ : ∃ m, k = m + 1 := ⟨k - 1, by omega⟩
    exact ⟨x3, i, h, by simp only [spec_l1Whole.l0]; rw [if_neg (by omega)], r0, r1, hi⟩
  | succ d ih =>
    intro k x3 x4 i h hi h1 h2 hd hk r0 r1
    obtain ⟨k, rfl⟩ : ∃ m, k = m + 1 := ⟨k - 1, by omega⟩
    simp only [spec_l1Whole.l0]
    rw [if_pos (by omega)]
    obtain ⟨x, i', h', e, x0, x1, hi'⟩ := l1Byte_some b hb i h hi
    rw [e]
    simp only [Option.bind_some]
    rw [w64_id (n := x4 + 1) (by omega) (by omega)]
    have r := w64_range (wrap64 (x3 * 256) + x)
    exact ih k _ (x4 + 1) i' h' hi' (by omega) (by omega) (by omega) (by omega) r.1 r.2
theorem l1Whole_some (b : List Int) (hb : b.length ≤ 140737488351232) (i h : Int) (hi : 0 ≤ i) (k : Nat) (hk : 9 ≤ k) : ∃ x i' h', spec_l1Whole.f k b i h = some (x, i', h') ∧ -9223372036854775808 ≤ x ∧ x ≤ 9223372036854775807 ∧ 0 ≤ i' := by
  unfold spec_l1Whole.f
  obtain ⟨x, i1, h1, e, x0, x1, hi1⟩ := l1Below_some b hb i h 4 hi (by omega)
  rw [e]
  simp only [Option.bind_some]
  by_cases c0 : x = 0
  · rw [if_pos c0]
    obtain ⟨y, i2, h2, e2, hy, hi2⟩ := l1PickInt_some b hb i1 h1 [0, 1, (-1), 9, 10, 999, 1000, 2147483647, (-2147483648), 3037000499, 3037000500, 9223372036854775807, (-9223372036854775807), (-9223372036854775808)] hi1 (by simp) (by simp)
    rw [e2]
    simp only [Option.bind_some]
    refine ⟨_, _, _, rfl, ?_, ?_, hi2⟩ <;> (simp only [List.mem_cons, List.not_mem_nil, or_false] at hy; omega)
  · rw [if_neg c0]
    by_cases c1 : x = 1
    · rw [if_pos c1]
      exact l1Whole_loop b hb 8 k 0 0 i1 h1 hi1 (by omega) (by omega) (by omega) (by omega) (by omega) (by omega)
    · rw [if_neg c1]
      by_cases c2 : x = 2
      · rw [if_pos c2]
        obtain ⟨y, i2, h2, e2, _, _, hi2⟩ := l1Below_some b hb i1 h1 1000000 hi1 (by omega)
        rw [e2]
        exact ⟨_, _, _, rfl, (w64_range _).1, (w64_range _).2, hi2⟩
      · rw [if_neg c2]
        obtain ⟨y, i2, h2, e2, _, _, hi2⟩ := l1Below_some b hb i1 h1 41 hi1 (by omega)
        rw [e2]
        exact ⟨_, _, _, rfl, (w64_range _).1, (w64_range _).2, hi2⟩

theorem l2Two_some (b : List Int) (hb : b.length ≤ 140737488351232) (k : Nat) (hk : b.length < k) (hk9 : 9 ≤ k) : ∃ x y, spec_l2Two.f k b = some (x, y) ∧ -9223372036854775808 ≤ x ∧ x ≤ 9223372036854775807 ∧ -9223372036854775808 ≤ y ∧ y ≤ 9223372036854775807 := by
  unfold spec_l2Two.f
  obtain ⟨h, e⟩ := l1New_some b hb k hk
  rw [e]; simp only [Option.bind_some]
  obtain ⟨x, i1, h1, e1, x0, x1, hi1⟩ := l1Whole_some b hb 0 h (by omega) k hk9
  rw [e1]; simp only [Option.bind_some]
  obtain ⟨y, i2, h2, e2, _, _, hi2⟩ := l1Below_some b hb i1 h1 5 hi1 (by omega)
  rw [e2]; simp only [Option.bind_some]
  by_cases c0 : y = 0
  · rw [if_pos c0]; exact ⟨_, _, rfl, x0, x1, (w64_range _).1, (w64_range _).2⟩
  · rw [if_neg c0]
    by_cases c1 : y = 1
    · rw [if_pos c1]; exact ⟨_, _, rfl, x0, x1, (w64_range _).1, (w64_range _).2⟩
    · rw [if_neg c1]
      obtain ⟨z, i3, h3, e3, z0, z1, hi3⟩ := l1Whole_some b hb i2 h2 hi2 k hk9
      rw [e3]
      exact ⟨_, _, rfl, x0, x1, z0, z1⟩

theorem l1Once_some (b : List Int) (hb : b.length ≤ 140737488351232) (i h n : Int) (hi : 0 ≤ i) (hn : n ≤ 4294967296) : ∃ x i' h', spec_l1Once.f b i h n = some (x, i', h') ∧ 0 ≤ i' := by
  unfold spec_l1Once.f
  obtain ⟨x, i', h', e, _, _, hi'⟩ := l1Below_some b hb i h n hi hn
  rw [e]
  exact ⟨_, _, _, rfl, hi'⟩

theorem impl_size_eq (a : Int) (h0 : -9223372036854775808 ≤ a) (h1 : a ≤ 9223372036854775807) : impl_size.f a = some (iabs a) := by
  unfold impl_size.f iabs
  by_cases h : a < 0
  · rw [if_pos h, if_pos h]; simp only [wu64]; congr 1; omega
  · rw [if_neg h, if_neg h]; simp only [wu64]; congr 1; omega

theorem bits_Mul64_eq (a b : Int) (ha0 : 0 ≤ a) (ha : a < 18446744073709551616) (hb0 : 0 ≤ b) (hb : b < 18446744073709551616) : bits_Mul64.f a b = some (a * b / 18446744073709551616, a * b % 18446744073709551616) := by
  unfold bits_Mul64.f
  rw [mulhi a b ha0 ha hb0 hb, wu64 (a * b)]

theorem impl_MulInt_eq (a b : Int) (ha0 : -9223372036854775808 ≤ a) (ha1 : a ≤ 9223372036854775807) (hb0 : -9223372036854775808 ≤ b) (hb1 : b ≤ 9223372036854775807) (k : Nat) (hk : 1 ≤ k) : impl_MulInt.f k a b = some (mulAns a b) := by
  obtain ⟨k, rfl⟩ : ∃ j, k = j + 1 := ⟨k - 1, by omega⟩
  have ⟨a2, a3⟩ := iabs_u64 ha0 ha1
  have ⟨b2, b3⟩ := iabs_u64 hb0 hb1
  unfold impl_MulInt.f mulAns
  simp only [impl_size_eq a ha0 ha1, impl_size_eq b hb0 hb1, bits_Mul64_eq _ _ a2 a3 b2 b3, Option.bind_some, iabs_mul, impl_MulInt.j0]
  have hs := mul_sign a b
  have hn := iabs_nonneg (a * b)
  have hab : iabs (a * b) = if a * b < 0 then -(a * b) else a * b := rfl
  have hz : a * b = 0 ↔ (a = 0 ∨ b = 0) := Int.mul_eq_zero
  generalize a * b = p at *
  generalize iabs p = q at *
  by_cases c : (decide (a < 0) != decide (b < 0)) = true
  · rw [if_pos c]
    rw [c] at hs
    have hle : p ≤ 0 := by
      by_cases d : p = 0
      · omega
      · have : ¬ a = 0 := fun e => d (hz.mpr (.inl e))
        have : ¬ b = 0 := fun e => d (hz.mpr (.inr e))
        have hp : decide (p < 0) = true := by rw [hs]; simp; omega
        have := of_decide_eq_true hp
        omega
    have hq : q = -p := by split at hab <;> omega
    by_cases d : q / 18446744073709551616 > 0
    · rw [if_pos d, if_pos trivial, if_neg (by omega)]
    · rw [if_neg d]
      by_cases e : q % 18446744073709551616 > 9223372036854775808
      · have e2 : ¬ (-9223372036854775808 ≤ p ∧ p ≤ 9223372036854775807) := by omega
        rw [if_neg e2]; simp [e]
      · have e2 : (-9223372036854775808 ≤ p ∧ p ≤ 9223372036854775807) := by omega
        rw [if_pos e2]
        have e3 : wrap64 (IntKind.u64.wrap (-(q % 18446744073709551616))) = p := by rw [wu64]; unfold wrap64; omega
        simp [e, e3]
  · rw [if_neg c]
    have c' : (decide (a < 0) != decide (b < 0)) = false := by simpa using c
    rw [c'] at hs
    have hp : 0 ≤ p := by
      have : decide (p < 0) = false := by rw [hs]; simp
      have := of_decide_eq_false this
      omega
    have hq : q = p := by split at hab <;> omega
    subst hq
    by_cases d : q / 18446744073709551616 > 0
    · rw [if_pos d, if_neg (by omega)]
    · rw [if_neg d]
      by_cases e : q % 18446744073709551616 > 9223372036854775807
      · rw [if_pos e, if_neg (by omega)]
      · rw [if_neg e, if_pos (by omega)]
        have e3 : wrap64 (q % 18446744073709551616) = q := by unfold wrap64; omega
        rw [e3]

theorem impl_wideOf_eq (n : Bool) (h l : Int) : impl_wideOf.f n h l = some (wnz n h l, h, l) := by
  unfold impl_wideOf.f wnz
  cases n
  · simp
  · by_cases c : h > 0 <;> simp [c]

theorem impl_MulWide_eq (a b : Int) (ha0 : -9223372036854775808 ≤ a) (ha1 : a ≤ 9223372036854775807) (hb0 : -9223372036854775808 ≤ b) (hb1 : b ≤ 9223372036854775807) : impl_MulWide.f a b = some (wnorm (a * b)) := by
  have ⟨a2, a3⟩ := iabs_u64 ha0 ha1
  have ⟨b2, b3⟩ := iabs_u64 hb0 hb1
  unfold impl_MulWide.f
  simp only [impl_size_eq a ha0 ha1, impl_size_eq b hb0 hb1, bits_Mul64_eq _ _ a2 a3 b2 b3, impl_wideOf_eq, Option.bind_some, wnorm, wnz, iabs_mul, mul_sign]
  have hn := iabs_nonneg (a * b)
  have hz : (decide (iabs (a * b) / 18446744073709551616 > 0) || decide (iabs (a * b) % 18446744073709551616 > 0)) = ((a != 0) && (b != 0)) := by
    by_cases c : a = 0
    · subst c; simp [iabs]
    · by_cases d : b = 0
      · subst d; simp [iabs]
      · have hab : a * b ≠ 0 := Int.mul_ne_zero c d
        have : iabs (a * b) > 0 := by unfold iabs; split <;> omega
        have e : (a != 0 && b != 0) = true := by simp [c, d]
        rw [e]
        by_cases f : iabs (a * b) / 18446744073709551616 > 0
        · simp [f]
        · have : iabs (a * b) % 18446744073709551616 > 0 := by omega
          simp [this]
  rw [hz, ← Bool.and_assoc]

theorem spec_l3Abs_eq (a : Int) (h0 : -9223372036854775808 ≤ a) (h1 : a ≤ 9223372036854775807) : spec_l3Abs.f a = some (iabs a) := by
  unfold spec_l3Abs.f iabs
  by_cases h : a < 0
  · rw [if_pos h, if_pos h]; simp only [wu64]; unfold wrap64; congr 1; omega
  · rw [if_neg h, if_neg h]; simp only [wu64]; congr 1; omega

theorem spec_l3Product_eq (a b : Int) (ha0 : 0 ≤ a) (ha : a < 18446744073709551616) (hb0 : 0 ≤ b) (hb : b < 18446744073709551616) : spec_l3Product.f a b = some (a * b / 18446744073709551616, a * b % 18446744073709551616) := by
  unfold spec_l3Product.f
  rw [and_mask32 a ha0 ha, and_mask32 b hb0 hb]
  rw [and_mask32 (IntKind.u64.wrap (_ + _)) (by rw [wu64]; omega) (by rw [wu64]; omega), and_mask32 (IntKind.u64.wrap (a % 4294967296 * (b % 4294967296))) (by rw [wu64]; omega) (by rw [wu64]; omega)]
  have h := prod_split a b
  have ⟨l1, u1⟩ := mul_bound (x := a / 4294967296) (y := b / 4294967296) (by omega) (by omega) (by omega) (by omega)
  have ⟨l2, u2⟩ := mul_bound (x := a / 4294967296) (y := b % 4294967296) (by omega) (by omega) (by omega) (by omega)
  have ⟨l3, u3⟩ := mul_bound (x := a % 4294967296) (y := b / 4294967296) (by omega) (by omega) (by omega) (by omega)
  have ⟨l4, u4⟩ := mul_bound (x := a % 4294967296) (y := b % 4294967296) (by omega) (by omega) (by omega) (by omega)
  have lt := (mul_u64 a b ha0 ha hb0 hb).2
  simp only [wu64]
  generalize (a / 4294967296) * (b / 4294967296) = p at *
  generalize (a / 4294967296) * (b % 4294967296) = q at *
  generalize (a % 4294967296) * (b / 4294967296) = r at *
  generalize (a % 4294967296) * (b % 4294967296) = s at *
  generalize a * b = t at *
  simp only [Option.some.injEq, Prod.mk.injEq]
  constructor <;> omega

theorem spec_MulWide_eq (a b : Int) (ha0 : -9223372036854775808 ≤ a) (ha1 : a ≤ 9223372036854775807) (hb0 : -9223372036854775808 ≤ b) (hb1 : b ≤ 9223372036854775807) : spec_MulWide.f a b = some (wnorm (a * b)) := by
  have ⟨a2, a3⟩ := iabs_u64 ha0 ha1
  have ⟨b2, b3⟩ := iabs_u64 hb0 hb1
  unfold spec_MulWide.f
  simp only [spec_l3Abs_eq a ha0 ha1, spec_l3Abs_eq b hb0 hb1, spec_l3Product_eq _ _ a2 a3 b2 b3, Option.bind_some, wnorm, iabs_mul, mul_sign]
  by_cases c : (decide (a < 0) != decide (b < 0)) = true
  · rw [if_pos c, c]
    by_cases d : a = 0
    · rw [if_pos d]; simp [d]
    · rw [if_neg d]; simp [d]
  · rw [if_neg c]
    have : (decide (a < 0) != decide (b < 0)) = false := by simpa using c
    rw [this]; simp

theorem impl_WideOf_eq (a : Int) (h0 : -9223372036854775808 ≤ a) (h1 : a ≤ 9223372036854775807) : impl_WideOf.f a = some (wnorm a) := by
  have hb := iabs_u64 h0 h1
  unfold impl_WideOf.f
  simp only [impl_size_eq a h0 h1, impl_wideOf_eq, Option.bind_some, wnorm, wnz]
  have e1 : iabs a / 18446744073709551616 = 0 := by omega
  have e2 : iabs a % 18446744073709551616 = iabs a := by omega
  rw [e1, e2]
  by_cases c : a < 0
  · have : iabs a > 0 := by unfold iabs; rw [if_pos c]; omega
    simp [c, this]
  · simp [c]

theorem impl_IntOf_eq (n : Bool) (h l : Int) (h0 : 0 ≤ h) (l0 : 0 ≤ l) (l1 : l < 18446744073709551616) : impl_IntOf.f n h l = some (intAns n h l) := by
  unfold impl_IntOf.f intAns
  cases n
  · simp only [Bool.false_eq_true, if_false]
    have r := w64_range l
    rw [impl_WideOf_eq _ r.1 r.2, wnorm_i64 r.1 r.2]
    simp only [Option.bind_some]
    by_cases c : h = 0 ∧ l ≤ 9223372036854775807
    · rw [if_pos c]
      have e : wrap64 l = l := w64_id (by omega) c.2
      have e2 : iabs l = l := by unfold iabs; rw [if_neg (by omega)]
      rw [e, e2, c.1]
      have : ¬ l < 0 := by omega
      simp [this]
    · rw [if_neg c]
      rw [if_pos]
      by_cases d : h = 0
      · have e : wrap64 l < 0 := by unfold wrap64; omega
        simp [e]
      · have e : ((0 : Int) == h) = false := beq_eq_false_iff_ne.mpr (fun z => d z.symm)
        simp [e]
  · simp only [if_true]
    have r := w64_range (-wrap64 l)
    rw [impl_WideOf_eq _ r.1 r.2, wnorm_i64 r.1 r.2]
    simp only [Option.bind_some]
    by_cases c : h = 0 ∧ 1 ≤ l ∧ l ≤ 9223372036854775808
    · rw [if_pos c]
      have e : wrap64 (-wrap64 l) = -l := by unfold wrap64; omega
      have e2 : iabs (-l) = l := by unfold iabs; rw [if_pos (by omega)]; omega
      rw [e, e2, c.1]
      have : -l < 0 := by omega
      have this2 : 0 < l := by omega
      simp [this2]
    · rw [if_neg c]
      rw [if_pos]
      by_cases d : h = 0
      · by_cases z : l = 0
        · subst z
          have : ¬ wrap64 (-wrap64 0) < 0 := by unfold wrap64; omega
          simp [this]
        · have hl : l > 9223372036854775808 := by omega
          have : ¬ wrap64 (-wrap64 l) < 0 := by unfold wrap64; omega
          simp [this]
      · have e : ((0 : Int) == h) = false := beq_eq_false_iff_ne.mpr (fun z => d z.symm)
        simp [e]

theorem FloorDiv_exact (a b q : Int) (a0 : -9223372036854775808 ≤ a) (a1 : a ≤ 9223372036854775807) (b0 : -9223372036854775808 ≤ b) (b1 : b ≤ 9223372036854775807) (hb : b ≠ 0) (k : Nat) : ∃ r, impl_FloorDiv.f (k + 1) a b = some r ∧ (¬ (b = -1 ∧ a = -9223372036854775808) → Int.tdiv a b = q → Int.tmod a b = 0 → r = (wrap64 q, true)) := by
  unfold impl_FloorDiv.f
  rw [if_neg hb]
  simp only [impl_FloorDiv.j0]
  by_cases c : a = -9223372036854775808
  · rw [if_pos c]
    by_cases d : b = -1
    · refine ⟨_, by rw [if_pos (by simp [d])], fun o => absurd ⟨d, c⟩ o⟩
    · rw [if_neg (by simpa using d), if_neg hb]
      by_cases m : Int.tmod a b = 0
      · exact ⟨_, by rw [if_pos m], fun _ e _ => by rw [e]⟩
      · rw [if_neg m]
        by_cases n : (decide (a < 0) != decide (b < 0)) = true
        · exact ⟨_, by rw [if_pos n], fun _ _ z => absurd z m⟩
        · exact ⟨_, by rw [if_neg n], fun _ _ z => absurd z m⟩
  · rw [if_neg c, if_neg (by decide), if_neg hb]
    by_cases m : Int.tmod a b = 0
    · exact ⟨_, by rw [if_pos m], fun _ e _ => by rw [e]⟩
    · rw [if_neg m]
      by_cases n : (decide (a < 0) != decide (b < 0)) = true
      · exact ⟨_, by rw [if_pos n], fun _ _ z => absurd z m⟩
      · exact ⟨_, by rw [if_neg n], fun _ _ z => absurd z m⟩

theorem DrawMulInt_some (b : List Int) (hb : b.length ≤ 140737488351232) (k : Nat) (hk : b.length < k) (hk9 : 9 ≤ k) : ∃ x y, spec_DrawMulInt.f k b = some (x, y) ∧ -9223372036854775808 ≤ x ∧ x ≤ 9223372036854775807 ∧ -9223372036854775808 ≤ y ∧ y ≤ 9223372036854775807 := by
  unfold spec_DrawMulInt.f
  obtain ⟨p, q, e3, p0, p1, q0, q1⟩ := l2Two_some b hb k hk hk9
  rw [e3]; simp only [Option.bind_some]
  obtain ⟨h, e⟩ := l1New_some b hb k hk
  rw [e]; simp only [Option.bind_some]
  obtain ⟨u, i1, h1, e1, hi1⟩ := l1Once_some b hb 0 h 4 (by omega) (by omega)
  rw [e1]; simp only [Option.bind_some]
  by_cases c : u = true
  · rw [if_pos c]
    by_cases d : q = 0
    · rw [if_pos d]; exact ⟨_, _, rfl, p0, p1, q0, q1⟩
    · rw [if_neg d]; exact ⟨_, _, rfl, (w64_range _).1, (w64_range _).2, q0, q1⟩
  · rw [if_neg c]; exact ⟨_, _, rfl, p0, p1, q0, q1⟩
theorem mulAns_fit (a b : Int) : mulAns a b = fitI (a * b) := rfl
theorem FnProduct : laws_FnProduct.Pure := by
  intro b _ hb _
  refine ⟨b.length + 10, ?_⟩
  have hb' : b.length ≤ 140737488351232 := by omega
  unfold laws_FnProduct.f
  rw [laws_big_eq]; simp only [Option.bind_some]
  by_cases hbig : decide ((b.length : Int) > 1048576) = true
  · rw [if_pos hbig]
  · rw [if_neg hbig]
    obtain ⟨p, q, e3, p0, p1, q0, q1⟩ := DrawMulInt_some b hb' (b.length + 10) (by omega) (by omega)
    rw [e3]; simp only [Option.bind_some]
    have pa := iabs_i64 p0 p1
    have qa := iabs_i64 q0 q1
    have pm := iabs_mul p q
    have pb := Int.mul_le_mul pa qa (iabs_nonneg q) (by decide)
    have wp := wnorm_parts (v := p * q) (by rw [← pm]; omega)
    rw [impl_MulInt_eq p q p0 p1 q0 q1 _ (by omega), impl_MulWide_eq p q p0 p1 q0 q1]; simp only [Option.bind_some]
    rw [impl_IntOf_eq _ _ _ wp.1 wp.2.2.1 wp.2.2.2, intAns_prod _ (by rw [← pm]; omega), mulAns_fit]; simp only [Option.bind_some]
    rw [if_neg (by simp), if_pos trivial, spec_MulWide_eq p q p0 p1 q0 q1]
    simp only [Option.bind_some, laws_FnProduct.j0, beq_self_eq_true, Bool.not_true, Bool.or_self, Bool.false_eq_true, if_false]
    by_cases f : -9223372036854775808 ≤ p * q ∧ p * q ≤ 9223372036854775807
    · rw [fitI_in f]
      simp only [if_true]
      by_cases z : q = 0
      · subst z; simp
      · rw [if_neg z]
        obtain ⟨r, hr, hin⟩ := FloorDiv_exact (p * q) q p f.1 f.2 q0 q1 z (b.length + 8)
        rw [hr]
        simp only [Option.bind_some]
        by_cases o : q = -1 ∧ p * q = -9223372036854775808
        · rw [o.1, o.2] at *
          by_cases c1 : r.2 = true
          · rw [if_pos c1]
            by_cases c2 : r.1 = p
            · rw [if_pos c2]
            · rw [if_neg c2]; simp
          · rw [if_neg c1]; simp
        · have := hin o (Int.mul_tdiv_cancel p z) (Int.mul_tmod_left p q)
          rw [this, w64_id p0 p1]; simp
    · rw [fitI_out f]; simp

end Go.Proofs.Yteldfljjeofiaaa.Pure
