/- A multiple has room just where the reference's has; a product is the multiple of its factor; a multiple by -1 is the number with the other sign. Conditions: each number is one of its kind, as the row says. -/
import Derived.Test.YthognlaaedohgaaPFnScalex
import Derived.Test.YthognlaaedohgaaBase
set_option linter.unusedSimpArgs false
set_option linter.unusedVariables false
namespace Go.Proofs.Ythognlaaedohgaa.Pure
open Go.RowKit Go.Proofs.Ythognlaaedohgaa.Base Go.Proofs.Ythognlaaedohgaa.PFnScale Go.Proofs.YthognlaaedohgaaW.PrintWords Go.Proofs.YthognlaaedohgaaW.PrintLast Go.Proofs.YthognlaaedohgaaW.PrintMore

theorem laws_big_eq (b : List Int) : laws_big.f b = some (decide ((b.length : Int) > 1048576)) := by
  unfold laws_big.f; rfl

theorem l1New_loop (b : List Int) (hb : b.length ≤ 140737488351232) (d : Nat) : ∀ (k : Nat) (x3 x4 : Int), 0 ≤ x4 → x4 ≤ b.length → (b.length : Int) - x4 = d → d < k → ∃ h, spec_l1New.l0 k b x3 x4 = some (b, 0, h) := by
  induction d with
  | zero =>
    intro k x3 x4 h0 h1 hd hk
    obtain ⟨k, rfl⟩ : ∃ m, k = m + 1 := ⟨k - 1, by omega⟩
    exact ⟨x3, by simp only [spec_l1New.l0]; rw [if_neg (by omega)]⟩
  | succ d ih =>
    intro k x3 x4 h0 h1 hd hk
    obtain ⟨k, rfl⟩ : ∃ m, k = m + 1 := ⟨k - 1, by omega⟩
    simp only [spec_l1New.l0]
    rw [if_pos (by omega)]
    by_cases c : x4 < 4000
    · rw [if_pos c, if_pos h0]
      have e : wrap64 (x4 + 1) = x4 + 1 := w64_id (by omega) (by omega)
      rw [e]
      exact ih k _ (x4 + 1) (by omega) (by omega) (by omega) (by omega)
    · rw [if_neg c]
      exact ⟨x3, rfl⟩
theorem l1New_some (b : List Int) (hb : b.length ≤ 140737488351232) (k : Nat) (hk : b.length < k) : ∃ h, spec_l1New.f k b = some (b, 0, h) := by
  unfold spec_l1New.f
  exact l1New_loop b hb b.length k _ 0 (by omega) (by omega) (by omega) hk

theorem l1Byte_some (b : List Int) (hb : b.length ≤ 140737488351232) (i h : Int) (hi : 0 ≤ i) : ∃ x i' h', spec_l1Byte.f b i h = some (x, i', h') ∧ 0 ≤ x ∧ x ≤ 255 ∧ 0 ≤ i' := by
  unfold spec_l1Byte.f
  by_cases c : i < (b.length : Int)
  · rw [if_pos c, if_pos hi]
    refine ⟨_, _, _, rfl, (and255 _).1, (and255 _).2, ?_⟩
    rw [w64_id (by omega) (by omega)]; omega
  · rw [if_neg c]
    exact ⟨_, _, _, rfl, (and255 _).1, (and255 _).2, hi⟩

theorem l1Below_some (b : List Int) (hb : b.length ≤ 140737488351232) (i h n : Int) (hi : 0 ≤ i) (hn : n ≤ 4294967296) : ∃ x i' h', spec_l1Below.f b i h n = some (x, i', h') ∧ 0 ≤ x ∧ (0 < n → x < n) ∧ 0 ≤ i' := by
  unfold spec_l1Below.f
  by_cases c : n ≤ 0
  · rw [if_pos c]
    exact ⟨_, _, _, rfl, by omega, fun _ => by omega, hi⟩
  · rw [if_neg c]
    by_cases d : n ≤ 256
    · rw [if_pos d]
      obtain ⟨x, i', h', e, x0, x1, hi'⟩ := l1Byte_some b hb i h hi
      rw [e]
      simp only [Option.bind_some]
      rw [if_neg (by omega)]
      have := tmod_range (n := n) x0 (by omega)
      exact ⟨_, _, _, rfl, this.1, fun _ => this.2, hi'⟩
    · rw [if_neg d]
      obtain ⟨x, i1, h1, e1, x0, x1, hi1⟩ := l1Byte_some b hb i h hi
      obtain ⟨y, i2, h2, e2, y0, y1, hi2⟩ := l1Byte_some b hb i1 h1 hi1
      obtain ⟨z, i3, h3, e3, z0, z1, hi3⟩ := l1Byte_some b hb i2 h2 hi2
      obtain ⟨u, i4, h4, e4, u0, u1, hi4⟩ := l1Byte_some b hb i3 h3 hi3
      rw [e1]; simp only [Option.bind_some]
      rw [e2]; simp only [Option.bind_some]
      rw [e3]; simp only [Option.bind_some]
      rw [e4]; simp only [Option.bind_some]
      rw [if_neg (by omega)]
      have e : wrap64 (wrap64 (wrap64 (wrap64 (x * 16777216) + wrap64 (y * 65536)) + wrap64 (z * 256)) + u) = x * 16777216 + y * 65536 + z * 256 + u := by
        unfold wrap64; omega
      rw [e]
      have := tmod_range (x := x * 16777216 + y * 65536 + z * 256 + u) (n := n) (by omega) (by omega)
      exact ⟨_, _, _, rfl, this.1, fun _ => this.2, hi4⟩

theorem l1PickInt_some (b : List Int) (hb : b.length ≤ 140737488351232) (i h : Int) (l : List Int) (hi : 0 ≤ i) (h0 : 0 < l.length) (hl : l.length ≤ 4294967296) : ∃ x i' h', spec_l1PickInt.f b i h l = some (x, i', h') ∧ x ∈ l ∧ 0 ≤ i' := by
  unfold spec_l1PickInt.f
  obtain ⟨x, i', h', e, x0, x1, hi'⟩ := l1Below_some b hb i h (l.length : Int) hi (by omega)
  have x2 := x1 (by omega)
  rw [e]
  simp only [Option.bind_some]
  rw [if_pos x0, if_pos x2]
  refine ⟨_, _, _, rfl, ?_, hi'⟩
  have : x.toNat < l.length := by omega
  unfold rd
  rw [List.getD_eq_getElem?_getD, List.getElem?_eq_getElem this]
  exact List.getElem_mem this

theorem l1Whole_loop (b : List Int) (hb : b.length ≤ 140737488351232) (d : Nat) : ∀ (k : Nat) (x3 x4 i h : Int), 0 ≤ i → x4 ≤ 8 → -8 ≤ x4 → (8 : Int) - x4 = d → d < k → -9223372036854775808 ≤ x3 → x3 ≤ 9223372036854775807 →
    ∃ x i' h', spec_l1Whole.l0 k x3 x4 b i h = some (x, i', h') ∧ -9223372036854775808 ≤ x ∧ x ≤ 9223372036854775807 ∧ 0 ≤ i' := by
  induction d with
  | zero =>
    intro k x3 x4 i h hi h1 h2 hd hk r0 r1
    obtain ⟨k, rfl⟩ : ∃ m, k = m + 1 := ⟨k - 1, by omega⟩
    exact ⟨x3, i, h, by simp only [spec_l1Whole.l0]; rw [if_neg (by omega)], r0, r1, hi⟩
  | succ d ih =>
    intro k x3 x4 i h hi h1 h2 hd hk r0 r1
    obtain ⟨k, rfl⟩ : ∃ m, k = m + 1 := ⟨k - 1, by omega⟩
    simp only [spec_l1Whole.l0]
    rw [if_pos (by omega)]
    obtain ⟨x, i', h', e, x0, x1, hi'⟩ := l1Byte_some b hb i h hi
    rw [e]
    simp only [Option.bind_some]
    rw [w64_id (n := x4 + 1) (by omega) (by omega)]
    have r := w64_range (wrap64 (x3 * 256) + x)
    exact ih k _ (x4 + 1) i' h' hi' (by omega) (by omega) (by omega) (by omega) r.1 r.2
theorem l1Whole_some (b : List Int) (hb : b.length ≤ 140737488351232) (i h : Int) (hi : 0 ≤ i) (k : Nat) (hk : 9 ≤ k) : ∃ x i' h', spec_l1Whole.f k b i h = some (x, i', h') ∧ -9223372036854775808 ≤ x ∧ x ≤ 9223372036854775807 ∧ 0 ≤ i' := by
  unfold spec_l1Whole.f
  obtain ⟨x, i1, h1, e, x0, x1, hi1⟩ := l1Below_some b hb i h 4 hi (by omega)
  rw [e]
  simp only [Option.bind_some]
  by_cases c0 : x = 0
  · rw [if_pos c0]
    obtain ⟨y, i2, h2, e2, hy, hi2⟩ := l1PickInt_some b hb i1 h1 [0, 1, (-1), 9, 10, 999, 1000, 2147483647, (-2147483648), 3037000499, 3037000500, 9223372036854775807, (-9223372036854775807), (-9223372036854775808)] hi1 (by simp) (by simp)
    rw [e2]
    simp only [Option.bind_some]
    refine ⟨_, _, _, rfl, ?_, ?_, hi2⟩ <;> (simp only [List.mem_cons, List.not_mem_nil, or_false] at hy; omega)
  · rw [if_neg c0]
    by_cases c1 : x = 1
    · rw [if_pos c1]
      exact l1Whole_loop b hb 8 k 0 0 i1 h1 hi1 (by omega) (by omega) (by omega) (by omega) (by omega) (by omega)
    · rw [if_neg c1]
      by_cases c2 : x = 2
      · rw [if_pos c2]
        obtain ⟨y, i2, h2, e2, _, _, hi2⟩ := l1Below_some b hb i1 h1 1000000 hi1 (by omega)
        rw [e2]
        exact ⟨_, _, _, rfl, (w64_range _).1, (w64_range _).2, hi2⟩
      · rw [if_neg c2]
        obtain ⟨y, i2, h2, e2, _, _, hi2⟩ := l1Below_some b hb i1 h1 41 hi1 (by omega)
        rw [e2]
        exact ⟨_, _, _, rfl, (w64_range _).1, (w64_range _).2, hi2⟩

theorem l1Once_some (b : List Int) (hb : b.length ≤ 140737488351232) (i h n : Int) (hi : 0 ≤ i) (hn : n ≤ 4294967296) : ∃ x i' h', spec_l1Once.f b i h n = some (x, i', h') ∧ 0 ≤ i' := by
  unfold spec_l1Once.f
  obtain ⟨x, i', h', e, _, _, hi'⟩ := l1Below_some b hb i h n hi hn
  rw [e]
  exact ⟨_, _, _, rfl, hi'⟩

theorem spec_l3Abs_eq (a : Int) (h0 : -9223372036854775808 ≤ a) (h1 : a ≤ 9223372036854775807) : spec_l3Abs.f a = some (iabs a) := by
  unfold spec_l3Abs.f iabs
  by_cases h : a < 0
  · rw [if_pos h, if_pos h]; simp only [wu64]; unfold wrap64; congr 1; omega
  · rw [if_neg h, if_neg h]; simp only [wu64]; congr 1; omega

theorem spec_WideOf_eq (a : Int) (h0 : -9223372036854775808 ≤ a) (h1 : a ≤ 9223372036854775807) : spec_WideOf.f a = some (wnorm a) := by
  have hb := iabs_u64 h0 h1
  unfold spec_WideOf.f
  simp only [spec_l3Abs_eq a h0 h1, Option.bind_some, wnorm]
  have e1 : iabs a / 18446744073709551616 = 0 := by omega
  have e2 : iabs a % 18446744073709551616 = iabs a := by omega
  rw [e1, e2]

theorem spec_l3Product_eq (a b : Int) (ha0 : 0 ≤ a) (ha : a < 18446744073709551616) (hb0 : 0 ≤ b) (hb : b < 18446744073709551616) : spec_l3Product.f a b = some (a * b / 18446744073709551616, a * b % 18446744073709551616) := by
  unfold spec_l3Product.f
  rw [and_mask32 a ha0 ha, and_mask32 b hb0 hb]
  rw [and_mask32 (IntKind.u64.wrap (_ + _)) (by rw [wu64]; omega) (by rw [wu64]; omega), and_mask32 (IntKind.u64.wrap (a % 4294967296 * (b % 4294967296))) (by rw [wu64]; omega) (by rw [wu64]; omega)]
  have h := prod_split a b
  have ⟨l1, u1⟩ := mul_bound (x := a / 4294967296) (y := b / 4294967296) (by omega) (by omega) (by omega) (by omega)
  have ⟨l2, u2⟩ := mul_bound (x := a / 4294967296) (y := b % 4294967296) (by omega) (by omega) (by omega) (by omega)
  have ⟨l3, u3⟩ := mul_bound (x := a % 4294967296) (y := b / 4294967296) (by omega) (by omega) (by omega) (by omega)
  have ⟨l4, u4⟩ := mul_bound (x := a % 4294967296) (y := b % 4294967296) (by omega) (by omega) (by omega) (by omega)
  have lt := (mul_u64 a b ha0 ha hb0 hb).2
  simp only [wu64]
  generalize (a / 4294967296) * (b / 4294967296) = p at *
  generalize (a / 4294967296) * (b % 4294967296) = q at *
  generalize (a % 4294967296) * (b / 4294967296) = r at *
  generalize (a % 4294967296) * (b % 4294967296) = s at *
  generalize a * b = t at *
  simp only [Option.some.injEq, Prod.mk.injEq]
  constructor <;> omega

theorem spec_MulWide_eq (a b : Int) (ha0 : -9223372036854775808 ≤ a) (ha1 : a ≤ 9223372036854775807) (hb0 : -9223372036854775808 ≤ b) (hb1 : b ≤ 9223372036854775807) : spec_MulWide.f a b = some (wnorm (a * b)) := by
  have ⟨a2, a3⟩ := iabs_u64 ha0 ha1
  have ⟨b2, b3⟩ := iabs_u64 hb0 hb1
  unfold spec_MulWide.f
  simp only [spec_l3Abs_eq a ha0 ha1, spec_l3Abs_eq b hb0 hb1, spec_l3Product_eq _ _ a2 a3 b2 b3, Option.bind_some, wnorm, iabs_mul, mul_sign]
  by_cases c : (decide (a < 0) != decide (b < 0)) = true
  · rw [if_pos c, c]
    by_cases d : a = 0
    · rw [if_pos d]; simp [d]
    · rw [if_neg d]; simp [d]
  · rw [if_neg c]
    have : (decide (a < 0) != decide (b < 0)) = false := by simpa using c
    rw [this]; simp

theorem wnorm_parts {v : Int} (hv : iabs v < 340282366920938463463374607431768211456) : 0 ≤ (wnorm v).2.1 ∧ (wnorm v).2.1 < 18446744073709551616 ∧ 0 ≤ (wnorm v).2.2 ∧ (wnorm v).2.2 < 18446744073709551616 := by
  have := iabs_nonneg v
  unfold wnorm
  simp only
  omega
theorem l3Wide_some (b : List Int) (hb : b.length ≤ 140737488351232) (i h : Int) (hi : 0 ≤ i) (k : Nat) (hk : 9 ≤ k) : ∃ n x y i' h', spec_l3Wide.f k b i h = some (n, x, y, i', h') ∧ 0 ≤ x ∧ x < 18446744073709551616 ∧ 0 ≤ y ∧ y < 18446744073709551616 ∧ 0 ≤ i' := by
  unfold spec_l3Wide.f
  obtain ⟨c, i1, h1, e1, c0, c1, hi1⟩ := l1Below_some b hb i h 5 hi (by omega)
  rw [e1]; simp only [Option.bind_some]
  by_cases d0 : c = 0
  · rw [if_pos d0]
    obtain ⟨x, i2, h2, e2, x0, x1, hi2⟩ := l1Whole_some b hb i1 h1 hi1 k hk
    rw [e2]; simp only [Option.bind_some]
    rw [spec_WideOf_eq x x0 x1]
    have p := wnorm_parts (v := x) (by have := iabs_u64 x0 x1; omega)
    exact ⟨_, _, _, _, _, rfl, p.1, p.2.1, p.2.2.1, p.2.2.2, hi2⟩
  · rw [if_neg d0]
    by_cases d1 : c = 1
    · rw [if_pos d1]
      obtain ⟨x, i2, h2, e2, x0, x1, hi2⟩ := l1Below_some b hb i1 h1 7 hi1 (by omega)
      have x2 := x1 (by omega)
      rw [e2]; simp only [Option.bind_some]
      rw [if_pos x0, if_pos (by simpa using x2)]
      have hx : x = 0 ∨ x = 1 ∨ x = 2 ∨ x = 3 ∨ x = 4 ∨ x = 5 ∨ x = 6 := by omega
      refine ⟨_, _, _, _, _, rfl, ?_, ?_, ?_, ?_, hi2⟩ <;>
        (rcases hx with rfl | rfl | rfl | rfl | rfl | rfl | rfl <;> simp [rd_T29])
    · rw [if_neg d1]
      obtain ⟨x, i2, h2, e2, x0, x1, hi2⟩ := l1Whole_some b hb i1 h1 hi1 k hk
      rw [e2]; simp only [Option.bind_some]
      obtain ⟨y, i3, h3, e3, y0, y1, hi3⟩ := l1Whole_some b hb i2 h2 hi2 k hk
      rw [e3]; simp only [Option.bind_some]
      rw [spec_MulWide_eq x y x0 x1 y0 y1]; simp only [Option.bind_some]
      have q0 := iabs_i64 x0 x1
      have q1 := iabs_i64 y0 y1
      have pm := iabs_mul x y
      have pb := Int.mul_le_mul q0 q1 (iabs_nonneg y) (by decide)
      have p := wnorm_parts (v := x * y) (by rw [← pm]; omega)
      obtain ⟨u, i4, h4, e4, hi4⟩ := l1Once_some b hb i3 h3 10 hi3 (by omega)
      rw [e4]; simp only [Option.bind_some]
      obtain ⟨u2, i5, h5, e5, hi5⟩ := l1Once_some b hb i4 h4 10 hi4 (by omega)
      have wr := u64_wrap_range ((wnorm (x * y)).2.1 + 9223372036854775808)
      by_cases cu : u = true
      · rw [if_pos cu, e5]; simp only [Option.bind_some]
        by_cases cv : u2 = true
        · rw [if_pos cv]; exact ⟨_, _, _, _, _, rfl, wr.1, wr.2, p.2.2.1, p.2.2.2, hi5⟩
        · rw [if_neg cv]; exact ⟨_, _, _, _, _, rfl, wr.1, wr.2, p.2.2.1, p.2.2.2, hi5⟩
      · rw [if_neg cu, e5]; simp only [Option.bind_some]
        by_cases cv : u2 = true
        · rw [if_pos cv]; exact ⟨_, _, _, _, _, rfl, p.1, p.2.1, p.2.2.1, p.2.2.2, hi5⟩
        · rw [if_neg cv]; exact ⟨_, _, _, _, _, rfl, p.1, p.2.1, p.2.2.1, p.2.2.2, hi5⟩

theorem l2Two_some (b : List Int) (hb : b.length ≤ 140737488351232) (k : Nat) (hk : b.length < k) (hk9 : 9 ≤ k) : ∃ x y, spec_l2Two.f k b = some (x, y) ∧ -9223372036854775808 ≤ x ∧ x ≤ 9223372036854775807 ∧ -9223372036854775808 ≤ y ∧ y ≤ 9223372036854775807 := by
  unfold spec_l2Two.f
  obtain ⟨h, e⟩ := l1New_some b hb k hk
  rw [e]; simp only [Option.bind_some]
  obtain ⟨x, i1, h1, e1, x0, x1, hi1⟩ := l1Whole_some b hb 0 h (by omega) k hk9
  rw [e1]; simp only [Option.bind_some]
  obtain ⟨y, i2, h2, e2, _, _, hi2⟩ := l1Below_some b hb i1 h1 5 hi1 (by omega)
  rw [e2]; simp only [Option.bind_some]
  by_cases c0 : y = 0
  · rw [if_pos c0]; exact ⟨_, _, rfl, x0, x1, (w64_range _).1, (w64_range _).2⟩
  · rw [if_neg c0]
    by_cases c1 : y = 1
    · rw [if_pos c1]; exact ⟨_, _, rfl, x0, x1, (w64_range _).1, (w64_range _).2⟩
    · rw [if_neg c1]
      obtain ⟨z, i3, h3, e3, z0, z1, hi3⟩ := l1Whole_some b hb i2 h2 hi2 k hk9
      rw [e3]
      exact ⟨_, _, rfl, x0, x1, z0, z1⟩

theorem impl_WideOk_eq (n : Bool) (h l : Int) : impl_WideOk.f n h l = some (wok n h l) := by
  unfold impl_WideOk.f wok
  by_cases c1 : h < 9223372036854775808
  · rw [if_pos c1]
    cases n
    · simp [c1]
    · by_cases c2 : h > 0
      · simp [c1, c2]
      · simp [c1, c2]
  · rw [if_neg c1]; simp [c1]

theorem impl_size_eq (a : Int) (h0 : -9223372036854775808 ≤ a) (h1 : a ≤ 9223372036854775807) : impl_size.f a = some (iabs a) := by
  unfold impl_size.f iabs
  by_cases h : a < 0
  · rw [if_pos h, if_pos h]; simp only [wu64]; congr 1; omega
  · rw [if_neg h, if_neg h]; simp only [wu64]; congr 1; omega

theorem bits_Mul64_eq (a b : Int) (ha0 : 0 ≤ a) (ha : a < 18446744073709551616) (hb0 : 0 ≤ b) (hb : b < 18446744073709551616) : bits_Mul64.f a b = some (a * b / 18446744073709551616, a * b % 18446744073709551616) := by
  unfold bits_Mul64.f
  rw [mulhi a b ha0 ha hb0 hb, wu64 (a * b)]

theorem impl_wideOf_eq (n : Bool) (h l : Int) : impl_wideOf.f n h l = some (wnz n h l, h, l) := by
  unfold impl_wideOf.f wnz
  cases n
  · simp
  · by_cases c : h > 0 <;> simp [c]

theorem bits_Add64_eq (a b c : Int) (h : 0 ≤ a ∧ 0 ≤ b ∧ 0 ≤ c ∧ c ≤ 1) : bits_Add64.f a b c = some ((a + b + c) % 18446744073709551616, (a + b + c) / 18446744073709551616) := by
  unfold bits_Add64.f
  rw [if_pos h]
/-- What a multiple of a wide number answers. -/
def scaleAns (n : Bool) (h l k : Int) : Bool × Int × Int × Bool := if wok n h l = true then wans (wval n h l * k) else (false, 0, 0, false)
theorem impl_ScaleWide_eq (n : Bool) (h l k : Int) (h0 : 0 ≤ h) (l0 : 0 ≤ l) (l1 : l < 18446744073709551616) (k0 : -9223372036854775808 ≤ k) (k1 : k ≤ 9223372036854775807) : impl_ScaleWide.f n h l k = some (scaleAns n h l k) := by
  unfold impl_ScaleWide.f scaleAns
  simp only [impl_WideOk_eq, Option.bind_some]
  by_cases w : wok n h l = true
  · rw [if_pos w, if_pos w]
    have hh := wok_high w
    have ⟨u0, u1⟩ := iabs_u64 k0 k1
    have e1 := iabs_wval n h0 l0
    have e2 := iabs_mul (wval n h l) k
    have e3 := scale_parts (u := iabs k) (iabs (wval n h l)) e1
    have sg := scale_sign (k := k) h0 l0 w
    rw [e2] at e3
    have ⟨p0, p1⟩ := mul_u64 h (iabs k) h0 (by omega) u0 u1
    have ⟨q0, q1⟩ := mul_u64 l (iabs k) l0 l1 u0 u1
    simp only [impl_size_eq k k0 k1, bits_Mul64_eq _ _ h0 (show h < 18446744073709551616 by omega) u0 u1, bits_Mul64_eq _ _ l0 l1 u0 u1, Option.bind_some]
    generalize wval n h l * k = v at *
    generalize h * iabs k = p at *
    generalize l * iabs k = q at *
    rw [bits_Add64_eq _ _ _ (by omega)]
    simp only [impl_wideOf_eq, Option.bind_some]
    by_cases c1 : p / 18446744073709551616 > 0
    · rw [if_pos c1, wans_over (by omega)]
    · rw [if_neg c1]
      by_cases c2 : (p % 18446744073709551616 + q / 18446744073709551616 + 0) / 18446744073709551616 > 0
      · rw [if_pos c2, wans_over (by omega)]
      · rw [if_neg c2]
        have e4 : iabs v = ((p % 18446744073709551616 + q / 18446744073709551616 + 0) % 18446744073709551616) * 18446744073709551616 + q % 18446744073709551616 := by omega
        rw [wans_of e4 (by omega) (by omega) (by omega), sign_parts e4 (by omega) (by omega) sg]
        have e5 := sign_parts (s := decide (v < 0)) e4 (by omega) (by omega) (fun _ => rfl)
        have e6 := wok_wnz (decide (v < 0)) ((p % 18446744073709551616 + q / 18446744073709551616 + 0) % 18446744073709551616) (q % 18446744073709551616)
        rw [e5] at e6
        rw [e6]
        generalize (p % 18446744073709551616 + q / 18446744073709551616 + 0) % 18446744073709551616 = a at *
        generalize q % 18446744073709551616 = b at *
        by_cases c3 : a < 9223372036854775808
        · rw [if_pos c3]; simp [c3]
        · rw [if_neg c3]; simp [c3]
  · rw [if_neg w, if_neg w]

theorem spec_WideOk_eq (n : Bool) (h l : Int) : spec_WideOk.f n h l = some (wok n h l) := by
  unfold spec_WideOk.f wok
  by_cases c1 : h < 9223372036854775808
  · rw [if_pos c1]
    cases n
    · simp [c1]
    · by_cases c2 : h > 0
      · simp [c1, c2]
      · simp [c1, c2]
  · rw [if_neg c1]; simp [c1]

theorem spec_l3Zero_eq (n : Bool) (h l : Int) : spec_l3Zero.f n h l = some ((h == 0) && (l == 0)) := by
  unfold spec_l3Zero.f
  by_cases c : h = 0 <;> simp [c]

theorem spec_ScaleWide_eq (n : Bool) (h l k : Int) (h0 : 0 ≤ h) (l0 : 0 ≤ l) (l1 : l < 18446744073709551616) (k0 : -9223372036854775808 ≤ k) (k1 : k ≤ 9223372036854775807) : spec_ScaleWide.f n h l k = some (scaleAns n h l k) := by
  unfold spec_ScaleWide.f scaleAns
  simp only [spec_WideOk_eq, Option.bind_some]
  by_cases w : wok n h l = true
  · rw [if_pos w, if_pos w]
    have hh := wok_high w
    have ⟨u0, u1⟩ := iabs_u64 k0 k1
    have e1 := iabs_wval n h0 l0
    have e2 := iabs_mul (wval n h l) k
    have e3 := scale_parts (u := iabs k) (iabs (wval n h l)) e1
    have sg := scale_sign (k := k) h0 l0 w
    rw [e2] at e3
    have ⟨p0, p1⟩ := mul_u64 h (iabs k) h0 (by omega) u0 u1
    have ⟨q0, q1⟩ := mul_u64 l (iabs k) l0 l1 u0 u1
    simp only [spec_l3Abs_eq k k0 k1, spec_l3Product_eq _ _ h0 (show h < 18446744073709551616 by omega) u0 u1, spec_l3Product_eq _ _ l0 l1 u0 u1, Option.bind_some, spec_l3Zero_eq, wu64]
    generalize wval n h l * k = v at *
    generalize h * iabs k = p at *
    generalize l * iabs k = q at *
    generalize hs : (n != decide (k < 0)) = s at *
    by_cases c1 : p / 18446744073709551616 > 0
    · rw [wans_over (by omega), if_pos c1, if_pos c1]
      simp
    · by_cases c2 : (p % 18446744073709551616 + q / 18446744073709551616) % 18446744073709551616 < p % 18446744073709551616
      · rw [wans_over (by omega), if_neg c1, if_neg c1, if_pos c2, if_pos c2]
        simp
      · have e4 : iabs v = ((p % 18446744073709551616 + q / 18446744073709551616) % 18446744073709551616) * 18446744073709551616 + q % 18446744073709551616 := by omega
        rw [wans_of e4 (by omega) (by omega) (by omega)]
        have e5 := sign_parts e4 (by omega) (by omega) sg
        have m0 : 0 ≤ (p % 18446744073709551616 + q / 18446744073709551616) % 18446744073709551616 := by omega
        have m1 : 0 ≤ q % 18446744073709551616 := by omega
        rw [← e5]
        rw [if_neg c1, if_neg c2, if_neg c1, if_neg c2]
        generalize (p % 18446744073709551616 + q / 18446744073709551616) % 18446744073709551616 = a at *
        generalize q % 18446744073709551616 = b at *
        by_cases z : (a == 0 && b == 0) = true
        · rw [if_pos z]
          have : a = 0 ∧ b = 0 := by simpa using z
          obtain ⟨rfl, rfl⟩ := this
          simp [wok, wnz]
        · rw [if_neg z]
          have nz : a > 0 ∨ b > 0 := by
            have : ¬ (a = 0 ∧ b = 0) := by simpa using z
            omega
          have e7 : wnz s a b = s := by
            unfold wnz
            rcases nz with d | d <;> simp [d]
          have e6 := wok_wnz s a b
          rw [e7] at e6
          rw [e6, e7]
          by_cases c3 : a < 9223372036854775808
          · rw [if_pos c3]; simp [c3]
          · rw [if_neg c3]; simp [c3]
  · rw [if_neg w, if_neg w]

theorem impl_WideOf_eq (a : Int) (h0 : -9223372036854775808 ≤ a) (h1 : a ≤ 9223372036854775807) : impl_WideOf.f a = some (wnorm a) := by
  have hb := iabs_u64 h0 h1
  unfold impl_WideOf.f
  simp only [impl_size_eq a h0 h1, impl_wideOf_eq, Option.bind_some, wnorm, wnz]
  have e1 : iabs a / 18446744073709551616 = 0 := by omega
  have e2 : iabs a % 18446744073709551616 = iabs a := by omega
  rw [e1, e2]
  by_cases c : a < 0
  · have : iabs a > 0 := by unfold iabs; rw [if_pos c]; omega
    simp [c, this]
  · simp [c]

theorem impl_MulWide_eq (a b : Int) (ha0 : -9223372036854775808 ≤ a) (ha1 : a ≤ 9223372036854775807) (hb0 : -9223372036854775808 ≤ b) (hb1 : b ≤ 9223372036854775807) : impl_MulWide.f a b = some (wnorm (a * b)) := by
  have ⟨a2, a3⟩ := iabs_u64 ha0 ha1
  have ⟨b2, b3⟩ := iabs_u64 hb0 hb1
  unfold impl_MulWide.f
  simp only [impl_size_eq a ha0 ha1, impl_size_eq b hb0 hb1, bits_Mul64_eq _ _ a2 a3 b2 b3, impl_wideOf_eq, Option.bind_some, wnorm, wnz, iabs_mul, mul_sign]
  have hn := iabs_nonneg (a * b)
  have hz : (decide (iabs (a * b) / 18446744073709551616 > 0) || decide (iabs (a * b) % 18446744073709551616 > 0)) = ((a != 0) && (b != 0)) := by
    by_cases c : a = 0
    · subst c; simp [iabs]
    · by_cases d : b = 0
      · subst d; simp [iabs]
      · have hab : a * b ≠ 0 := Int.mul_ne_zero c d
        have : iabs (a * b) > 0 := by unfold iabs; split <;> omega
        have e : (a != 0 && b != 0) = true := by simp [c, d]
        rw [e]
        by_cases f : iabs (a * b) / 18446744073709551616 > 0
        · simp [f]
        · have : iabs (a * b) % 18446744073709551616 > 0 := by omega
          simp [this]
  rw [hz, ← Bool.and_assoc]

/-- What the number with the other sign is. -/
def negAns (n : Bool) (h l : Int) : Bool × Int × Int := if wok n h l = true then (wnz (!n) h l, h, l) else (n, h, l)
theorem impl_NegWide_eq (n : Bool) (h l : Int) : impl_NegWide.f n h l = some (negAns n h l) := by
  unfold impl_NegWide.f negAns
  simp only [impl_WideOk_eq, impl_wideOf_eq, Option.bind_some]
  by_cases c : wok n h l = true
  · rw [if_pos c, if_pos c]
  · rw [if_neg c, if_neg c]

theorem wok_wnorm {v : Int} (hv : iabs v < 170141183460469231731687303715884105728) : wok (wnorm v).1 (wnorm v).2.1 (wnorm v).2.2 = true := by
  have e : iabs v = (iabs v / 18446744073709551616) * 18446744073709551616 + iabs v % 18446744073709551616 := by omega
  have n := iabs_nonneg v
  have s := sign_parts (s := decide (v < 0)) e (by omega) (by omega) (fun _ => rfl)
  have w := wok_wnz (decide (v < 0)) (iabs v / 18446744073709551616) (iabs v % 18446744073709551616)
  rw [s] at w
  unfold wnorm
  simp only
  rw [w]
  exact decide_eq_true (by omega)
theorem wval_wnorm (v : Int) : wval (wnorm v).1 (wnorm v).2.1 (wnorm v).2.2 = v := by
  unfold wval wnorm iabs
  simp only
  by_cases c : v < 0
  · simp only [c, decide_true, if_true]; omega
  · simp only [c, decide_false, if_false, Bool.false_eq_true]; omega
theorem scale_neg {n : Bool} {h l : Int} (h0 : 0 ≤ h) (l0 : 0 ≤ l) (l1 : l < 18446744073709551616) (w : wok n h l = true) : scaleAns n h l (-1) = ((negAns n h l).1, (negAns n h l).2.1, (negAns n h l).2.2, true) := by
  unfold scaleAns negAns
  rw [if_pos w, if_pos w]
  have hh := wok_high w
  have e : iabs (wval n h l * -1) = h * 18446744073709551616 + l := by
    have o : iabs (-1) = 1 := rfl
    rw [← iabs_mul, iabs_wval n h0 l0, o]; omega
  rw [wans_of e h0 l0 l1, if_pos hh]
  have s := sign_parts (s := !n) e h0 l0 (by
    intro z
    have := scale_sign (k := -1) h0 l0 w z
    rw [this]; cases n <;> rfl)
  rw [s]
theorem FnScale : laws_FnScale.Pure := by
  intro b _ hb _
  refine ⟨b.length + 10, ?_⟩
  have hb' : b.length ≤ 140737488351232 := by omega
  unfold laws_FnScale.f spec_DrawScaleWide.f spec_DrawMulWide.f
  rw [laws_big_eq]; simp only [Option.bind_some]
  by_cases hbig : decide ((b.length : Int) > 1048576) = true
  · rw [if_pos hbig]
  · rw [if_neg hbig]
    obtain ⟨h, e⟩ := l1New_some b hb' (b.length + 10) (by omega)
    rw [e]; simp only [Option.bind_some]
    obtain ⟨n, x, y, i1, h1, e1, x0, x1, y0, y1, hi1⟩ := l3Wide_some b hb' 0 h (by omega) (b.length + 10) (by omega)
    rw [e1]; simp only [Option.bind_some]
    obtain ⟨z, i2, h2, e2, z0, z1, hi2⟩ := l1Whole_some b hb' i1 h1 hi1 (b.length + 10) (by omega)
    rw [e2]; simp only [Option.bind_some]
    rw [impl_ScaleWide_eq n x y z x0 y0 y1 z0 z1, spec_ScaleWide_eq n x y z x0 y0 y1 z0 z1]; simp only [Option.bind_some]
    rw [if_neg (by simp)]
    obtain ⟨p, q, e3, p0, p1, q0, q1⟩ := l2Two_some b hb' (b.length + 10) (by omega) (by omega)
    rw [e3]; simp only [Option.bind_some]
    rw [impl_WideOf_eq p p0 p1]; simp only [Option.bind_some]
    have pa := iabs_i64 p0 p1
    have qa := iabs_i64 q0 q1
    have pm := iabs_mul p q
    have pb := Int.mul_le_mul pa qa (iabs_nonneg q) (by decide)
    have wp := wnorm_parts (v := p) (by omega)
    have sc : scaleAns (wnorm p).1 (wnorm p).2.1 (wnorm p).2.2 q = ((wnorm (p * q)).1, (wnorm (p * q)).2.1, (wnorm (p * q)).2.2, true) := by
      unfold scaleAns
      rw [if_pos (wok_wnorm (by omega)), wval_wnorm]
      unfold wans
      rw [if_pos (by rw [← pm]; omega)]
    rw [impl_ScaleWide_eq _ _ _ q wp.1 wp.2.2.1 wp.2.2.2 q0 q1, sc]; simp only [Option.bind_some]
    rw [if_pos trivial, impl_MulWide_eq p q p0 p1 q0 q1]; simp only [Option.bind_some]
    simp only [laws_FnScale.j0, spec_WideOk_eq, impl_NegWide_eq, Option.bind_some, impl_ScaleWide_eq n x y (-1) x0 y0 y1 (by omega) (by omega), beq_self_eq_true, Bool.not_true, Bool.or_self, Bool.false_eq_true, if_false]
    have last : (if wok n x y = true then if (scaleAns n x y (-1)).2.2.2 = true then some ((scaleAns n x y (-1)).1 == (negAns n x y).1 && ((scaleAns n x y (-1)).2.1 == (negAns n x y).2.1 && ((scaleAns n x y (-1)).2.2.1 == (negAns n x y).2.2))) else some false else some true) = some true := by
      by_cases w : wok n x y = true
      · rw [if_pos w, scale_neg x0 y0 y1 w]
        simp
      · rw [if_neg w]
    by_cases ok : (scaleAns n x y z).2.2.2 = true
    · rw [if_pos ok]
      have : wok (scaleAns n x y z).1 (scaleAns n x y z).2.1 (scaleAns n x y z).2.2.1 = true := by
        unfold scaleAns wans at ok ⊢
        by_cases w : wok n x y = true
        · rw [if_pos w] at ok ⊢
          by_cases r : iabs (wval n x y * z) < 170141183460469231731687303715884105728
          · rw [if_pos r] at ok ⊢
            exact wok_wnorm r
          · rw [if_neg r] at ok; simp at ok
        · rw [if_neg w] at ok; simp at ok
      rw [if_pos this]
      exact last
    · rw [if_neg ok]
      exact last

end Go.Proofs.Ythognlaaedohgaa.Pure
