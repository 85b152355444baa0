/- An integer is the integer of its wide number; a wide number that has an integer is the wide number of it. Conditions: each number is one of its kind, as the row says. -/
import Derived.Test.YteldfljjeofiaaaPFnWideIntx
import Derived.Test.YteldfljjeofiaaaBase
set_option linter.unusedSimpArgs false
set_option linter.unusedVariables false
namespace Go.Proofs.Yteldfljjeofiaaa.Pure
open Go.RowKit Go.Proofs.Yteldfljjeofiaaa.Base Go.Proofs.Yteldfljjeofiaaa.PFnWideInt Go.Proofs.YteldfljjeofiaaaW.PrintWords Go.Proofs.YteldfljjeofiaaaW.PrintLast Go.Proofs.YteldfljjeofiaaaW.PrintMore

theorem laws_big_eq (b : List Int) : laws_big.f b = some (decide ((b.length : Int) > 1048576)) := by
  unfold laws_big.f; rfl

theorem l1New_loop (b : List Int) (hb : b.length ≤ 140737488351232) (d : Nat) : ∀ (k : Nat) (x3 x4 : Int), 0 ≤ x4 → x4 ≤ b.length → (b.length : Int) - x4 = d → d < k → ∃ h, spec_l1New.l0 k b x3 x4 = some (b, 0, h) := by
  induction d with
  | zero =>
    intro k x3 x4 h0 h1 hd hk
    obtain ⟨k, rfl⟩ : ∃ m, k = m + 1 := ⟨k - 1, by omega⟩
    exact ⟨x3, by simp only [spec_l1New.l0]; rw [if_neg (by omega)]⟩
  | succ d ih =>
    intro k x3 x4 h0 h1 hd hk
    obtain ⟨k, rfl⟩ : ∃ m, k = m + 1 := ⟨k - 1, by omega⟩
    simp only [spec_l1New.l0]
    rw [if_pos (by omega)]
    by_cases c : x4 < 4000
    · rw [if_pos c, if_pos h0]
      have e : wrap64 (x4 + 1) = x4 + 1 := w64_id (by omega) (by omega)
      rw [e]
      exact ih k _ (x4 + 1) (by omega) (by omega) (by omega) (by omega)
    · rw [if_neg c]
      exact ⟨x3, rfl⟩
theorem l1New_some (b : List Int) (hb : b.length ≤ 140737488351232) (k : Nat) (hk : b.length < k) : ∃ h, spec_l1New.f k b = some (b, 0, h) := by
  unfold spec_l1New.f
  exact l1New_loop b hb b.length k _ 0 (by omega) (by omega) (by omega) hk

theorem l1Byte_some (b : List Int) (hb : b.length ≤ 140737488351232) (i h : Int) (hi : 0 ≤ i) : ∃ x i' h', spec_l1Byte.f b i h = some (x, i', h') ∧ 0 ≤ x ∧ x ≤ 255 ∧ 0 ≤ i' := by
  unfold spec_l1Byte.f
  by_cases c : i < (b.length : Int)
  · rw [if_pos c, if_pos hi]
    refine ⟨_, _, _, rfl, (and255 _).1, (and255 _).2, ?_⟩
    rw [w64_id (by omega) (by omega)]; omega
  · rw [if_neg c]
    exact ⟨_, _, _, rfl, (and255 _).1, (and255 _).2, hi⟩

theorem l1Below_some (b : List Int) (hb : b.length ≤ 140737488351232) (i h n : Int) (hi : 0 ≤ i) (hn : n ≤ 4294967296) : ∃ x i' h', spec_l1Below.f b i h n = some (x, i', h') ∧ 0 ≤ x ∧ (0 < n → x < n) ∧ 0 ≤ i' := by
  unfold spec_l1Below.f
  by_cases c : n ≤ 0
  · rw [if_pos c]
    exact ⟨_, _, _, rfl, by omega, fun _ => by omega, hi⟩
  · rw [if_neg c]
    by_cases d : n ≤ 256
    · rw [if_pos d]
      obtain ⟨x, i', h', e, x0, x1, hi'⟩ := l1Byte_some b hb i h hi
      rw [e]
      simp only [Option.bind_some]
      rw [if_neg (by omega)]
      have := tmod_range (n := n) x0 (by omega)
      exact ⟨_, _, _, rfl, this.1, fun _ => this.2, hi'⟩
    · rw [if_neg d]
      obtain ⟨x, i1, h1, e1, x0, x1, hi1⟩ := l1Byte_some b hb i h hi
      obtain ⟨y, i2, h2, e2, y0, y1, hi2⟩ := l1Byte_some b hb i1 h1 hi1
      obtain ⟨z, i3, h3, e3, z0, z1, hi3⟩ := l1Byte_some b hb i2 h2 hi2
      obtain ⟨u, i4, h4, e4, u0, u1, hi4⟩ := l1Byte_some b hb i3 h3 hi3
      rw [e1]; simp only [Option.bind_some]
      rw [e2]; simp only [Option.bind_some]
      rw [e3]; simp only [Option.bind_some]
      rw [e4]; simp only [Option.bind_some]
      rw [if_neg (by omega)]
      have e : wrap64 (wrap64 (wrap64 (wrap64 (x * 16777216) + wrap64 (y * 65536)) + wrap64 (z * 256)) + u) = x * 16777216 + y * 65536 + z * 256 + u := by
        unfold wrap64; omega
      rw [e]
      have := tmod_range (x := x * 16777216 + y * 65536 + z * 256 + u) (n := n) (by omega) (by omega)
      exact ⟨_, _, _, rfl, this.1, fun _ => this.2, hi4⟩

theorem l1PickInt_some (b : List Int) (hb : b.length ≤ 140737488351232) (i h : Int) (l : List Int) (hi : 0 ≤ i) (h0 : 0 < l.length) (hl : l.length ≤ 4294967296) : ∃ x i' h', spec_l1PickInt.f b i h l = some (x, i', h') ∧ x ∈ l ∧ 0 ≤ i' := by
  unfold spec_l1PickInt.f
  obtain ⟨x, i', h', e, x0, x1, hi'⟩ := l1Below_some b hb i h (l.length : Int) hi (by omega)
  have x2 := x1 (by omega)
  rw [e]
  simp only [Option.bind_some]
  rw [if_pos x0, if_pos x2]
  refine ⟨_, _, _, rfl, ?_, hi'⟩
  have : x.toNat < l.length := by omega
  unfold rd
  rw [List.getD_eq_getElem?_getD, List.getElem?_eq_getElem this]
  exact List.getElem_mem this

theorem l1Whole_loop (b : List Int) (hb : b.length ≤ 140737488351232) (d : Nat) : ∀ (k : Nat) (x3 x4 i h : Int), 0 ≤ i → x4 ≤ 8 → -8 ≤ x4 → (8 : Int) - x4 = d → d < k → -9223372036854775808 ≤ x3 → x3 ≤ 9223372036854775807 →
    ∃ x i' h', spec_l1Whole.l0 k x3 x4 b i h = some (x, i', h') ∧ -9223372036854775808 ≤ x ∧ x ≤ 9223372036854775807 ∧ 0 ≤ i' := by
  induction d with
  | zero =>
    intro k x3 x4 i h hi h1 h2 hd hk r0 r1
    obtain ⟨k, rfl⟩ : ∃ m, k = m + 1 := ⟨k - 1, by omega⟩
    exact ⟨x3, i, h, by simp only [spec_l1Whole.l0]; rw [if_neg (by omega)], r0, r1, hi⟩
  | succ d ih =>
    intro k x3 x4 i h hi h1 h2 hd hk r0 r1
    obtain ⟨k, rfl⟩ : ∃ m, k = m + 1 := ⟨k - 1, by omega⟩
    simp only [spec_l1Whole.l0]
    rw [if_pos (by omega)]
    obtain ⟨x, i', h', e, x0, x1, hi'⟩ := l1Byte_some b hb i h hi
    rw [e]
    simp only [Option.bind_some]
    rw [w64_id (n := x4 + 1) (by omega) (by omega)]
    have r := w64_range (wrap64 (x3 * 256) + x)
    exact ih k _ (x4 + 1) i' h' hi' (by omega) (by omega) (by omega) (by omega) r.1 r.2
theorem l1Whole_some (b : List Int) (hb : b.length ≤ 140737488351232) (i h : Int) (hi : 0 ≤ i) (k : Nat) (hk : 9 ≤ k) : ∃ x i' h', spec_l1Whole.f k b i h = some (x, i', h') ∧ -9223372036854775808 ≤ x ∧ x ≤ 9223372036854775807 ∧ 0 ≤ i' := by
  unfold spec_l1Whole.f
  obtain ⟨x, i1, h1, e, x0, x1, hi1⟩ := l1Below_some b hb i h 4 hi (by omega)
  rw [e]
  simp only [Option.bind_some]
  by_cases c0 : x = 0
  · rw [if_pos c0]
    obtain ⟨y, i2, h2, e2, hy, hi2⟩ := l1PickInt_some b hb i1 h1 [0, 1, (-1), 9, 10, 999, 1000, 2147483647, (-2147483648), 3037000499, 3037000500, 9223372036854775807, (-9223372036854775807), (-9223372036854775808)] hi1 (by simp) (by simp)
    rw [e2]
    simp only [Option.bind_some]
    refine ⟨_, _, _, rfl, ?_, ?_, hi2⟩ <;> (simp only [List.mem_cons, List.not_mem_nil, or_false] at hy; omega)
  · rw [if_neg c0]
    by_cases c1 : x = 1
    · rw [if_pos c1]
      exact l1Whole_loop b hb 8 k 0 0 i1 h1 hi1 (by omega) (by omega) (by omega) (by omega) (by omega) (by omega)
    · rw [if_neg c1]
      by_cases c2 : x = 2
      · rw [if_pos c2]
        obtain ⟨y, i2, h2, e2, _, _, hi2⟩ := l1Below_some b hb i1 h1 1000000 hi1 (by omega)
        rw [e2]
        exact ⟨_, _, _, rfl, (w64_range _).1, (w64_range _).2, hi2⟩
      · rw [if_neg c2]
        obtain ⟨y, i2, h2, e2, _, _, hi2⟩ := l1Below_some b hb i1 h1 41 hi1 (by omega)
        rw [e2]
        exact ⟨_, _, _, rfl, (w64_range _).1, (w64_range _).2, hi2⟩

theorem l1Once_some (b : List Int) (hb : b.length ≤ 140737488351232) (i h n : Int) (hi : 0 ≤ i) (hn : n ≤ 4294967296) : ∃ x i' h', spec_l1Once.f b i h n = some (x, i', h') ∧ 0 ≤ i' := by
  unfold spec_l1Once.f
  obtain ⟨x, i', h', e, _, _, hi'⟩ := l1Below_some b hb i h n hi hn
  rw [e]
  exact ⟨_, _, _, rfl, hi'⟩

theorem spec_l3Abs_eq (a : Int) (h0 : -9223372036854775808 ≤ a) (h1 : a ≤ 9223372036854775807) : spec_l3Abs.f a = some (iabs a) := by
  unfold spec_l3Abs.f iabs
  by_cases h : a < 0
  · rw [if_pos h, if_pos h]; simp only [wu64]; unfold wrap64; congr 1; omega
  · rw [if_neg h, if_neg h]; simp only [wu64]; congr 1; omega

theorem spec_WideOf_eq (a : Int) (h0 : -9223372036854775808 ≤ a) (h1 : a ≤ 9223372036854775807) : spec_WideOf.f a = some (wnorm a) := by
  have hb := iabs_u64 h0 h1
  unfold spec_WideOf.f
  simp only [spec_l3Abs_eq a h0 h1, Option.bind_some, wnorm]
  have e1 : iabs a / 18446744073709551616 = 0 := by omega
  have e2 : iabs a % 18446744073709551616 = iabs a := by omega
  rw [e1, e2]

theorem spec_l3Product_eq (a b : Int) (ha0 : 0 ≤ a) (ha : a < 18446744073709551616) (hb0 : 0 ≤ b) (hb : b < 18446744073709551616) : spec_l3Product.f a b = some (a * b / 18446744073709551616, a * b % 18446744073709551616) := by
  unfold spec_l3Product.f
  rw [and_mask32 a ha0 ha, and_mask32 b hb0 hb]
  rw [and_mask32 (IntKind.u64.wrap (_ + _)) (by rw [wu64]; omega) (by rw [wu64]; omega), and_mask32 (IntKind.u64.wrap (a % 4294967296 * (b % 4294967296))) (by rw [wu64]; omega) (by rw [wu64]; omega)]
  have h := prod_split a b
  have ⟨l1, u1⟩ := mul_bound (x := a / 4294967296) (y := b / 4294967296) (by omega) (by omega) (by omega) (by omega)
  have ⟨l2, u2⟩ := mul_bound (x := a / 4294967296) (y := b % 4294967296) (by omega) (by omega) (by omega) (by omega)
  have ⟨l3, u3⟩ := mul_bound (x := a % 4294967296) (y := b / 4294967296) (by omega) (by omega) (by omega) (by omega)
  have ⟨l4, u4⟩ := mul_bound (x := a % 4294967296) (y := b % 4294967296) (by omega) (by omega) (by omega) (by omega)
  have lt := (mul_u64 a b ha0 ha hb0 hb).2
  simp only [wu64]
  generalize (a / 4294967296) * (b / 4294967296) = p at *
  generalize (a / 4294967296) * (b % 4294967296) = q at *
  generalize (a % 4294967296) * (b / 4294967296) = r at *
  generalize (a % 4294967296) * (b % 4294967296) = s at *
  generalize a * b = t at *
  simp only [Option.some.injEq, Prod.mk.injEq]
  constructor <;> omega

theorem spec_MulWide_eq (a b : Int) (ha0 : -9223372036854775808 ≤ a) (ha1 : a ≤ 9223372036854775807) (hb0 : -9223372036854775808 ≤ b) (hb1 : b ≤ 9223372036854775807) : spec_MulWide.f a b = some (wnorm (a * b)) := by
  have ⟨a2, a3⟩ := iabs_u64 ha0 ha1
  have ⟨b2, b3⟩ := iabs_u64 hb0 hb1
  unfold spec_MulWide.f
  simp only [spec_l3Abs_eq a ha0 ha1, spec_l3Abs_eq b hb0 hb1, spec_l3Product_eq _ _ a2 a3 b2 b3, Option.bind_some, wnorm, iabs_mul, mul_sign]
  by_cases c : (decide (a < 0) != decide (b < 0)) = true
  · rw [if_pos c, c]
    by_cases d : a = 0
    · rw [if_pos d]; simp [d]
    · rw [if_neg d]; simp [d]
  · rw [if_neg c]
    have : (decide (a < 0) != decide (b < 0)) = false := by simpa using c
    rw [this]; simp

theorem l3Wide_some (b : List Int) (hb : b.length ≤ 140737488351232) (i h : Int) (hi : 0 ≤ i) (k : Nat) (hk : 9 ≤ k) : ∃ n x y i' h', spec_l3Wide.f k b i h = some (n, x, y, i', h') ∧ 0 ≤ x ∧ x < 18446744073709551616 ∧ 0 ≤ y ∧ y < 18446744073709551616 ∧ 0 ≤ i' := by
  unfold spec_l3Wide.f
  obtain ⟨c, i1, h1, e1, c0, c1, hi1⟩ := l1Below_some b hb i h 5 hi (by omega)
  rw [e1]; simp only [Option.bind_some]
  by_cases d0 : c = 0
  · rw [if_pos d0]
    obtain ⟨x, i2, h2, e2, x0, x1, hi2⟩ := l1Whole_some b hb i1 h1 hi1 k hk
    rw [e2]; simp only [Option.bind_some]
    rw [spec_WideOf_eq x x0 x1]
    have p := wnorm_parts (v := x) (by have := iabs_u64 x0 x1; omega)
    exact ⟨_, _, _, _, _, rfl, p.1, p.2.1, p.2.2.1, p.2.2.2, hi2⟩
  · rw [if_neg d0]
    by_cases d1 : c = 1
    · rw [if_pos d1]
      obtain ⟨x, i2, h2, e2, x0, x1, hi2⟩ := l1Below_some b hb i1 h1 7 hi1 (by omega)
      have x2 := x1 (by omega)
      rw [e2]; simp only [Option.bind_some]
      rw [if_pos x0, if_pos (by simpa using x2)]
      have hx : x = 0 ∨ x = 1 ∨ x = 2 ∨ x = 3 ∨ x = 4 ∨ x = 5 ∨ x = 6 := by omega
      refine ⟨_, _, _, _, _, rfl, ?_, ?_, ?_, ?_, hi2⟩ <;>
        (rcases hx with rfl | rfl | rfl | rfl | rfl | rfl | rfl <;> simp [rd_T33])
    · rw [if_neg d1]
      obtain ⟨x, i2, h2, e2, x0, x1, hi2⟩ := l1Whole_some b hb i1 h1 hi1 k hk
      rw [e2]; simp only [Option.bind_some]
      obtain ⟨y, i3, h3, e3, y0, y1, hi3⟩ := l1Whole_some b hb i2 h2 hi2 k hk
      rw [e3]; simp only [Option.bind_some]
      rw [spec_MulWide_eq x y x0 x1 y0 y1]; simp only [Option.bind_some]
      have q0 := iabs_i64 x0 x1
      have q1 := iabs_i64 y0 y1
      have pm := iabs_mul x y
      have pb := Int.mul_le_mul q0 q1 (iabs_nonneg y) (by decide)
      have p := wnorm_parts (v := x * y) (by rw [← pm]; omega)
      obtain ⟨u, i4, h4, e4, hi4⟩ := l1Once_some b hb i3 h3 10 hi3 (by omega)
      rw [e4]; simp only [Option.bind_some]
      obtain ⟨u2, i5, h5, e5, hi5⟩ := l1Once_some b hb i4 h4 10 hi4 (by omega)
      have wr := u64_wrap_range ((wnorm (x * y)).2.1 + 9223372036854775808)
      by_cases cu : u = true
      · rw [if_pos cu, e5]; simp only [Option.bind_some]
        by_cases cv : u2 = true
        · rw [if_pos cv]; exact ⟨_, _, _, _, _, rfl, wr.1, wr.2, p.2.2.1, p.2.2.2, hi5⟩
        · rw [if_neg cv]; exact ⟨_, _, _, _, _, rfl, wr.1, wr.2, p.2.2.1, p.2.2.2, hi5⟩
      · rw [if_neg cu, e5]; simp only [Option.bind_some]
        by_cases cv : u2 = true
        · rw [if_pos cv]; exact ⟨_, _, _, _, _, rfl, p.1, p.2.1, p.2.2.1, p.2.2.2, hi5⟩
        · rw [if_neg cv]; exact ⟨_, _, _, _, _, rfl, p.1, p.2.1, p.2.2.1, p.2.2.2, hi5⟩

theorem impl_size_eq (a : Int) (h0 : -9223372036854775808 ≤ a) (h1 : a ≤ 9223372036854775807) : impl_size.f a = some (iabs a) := by
  unfold impl_size.f iabs
  by_cases h : a < 0
  · rw [if_pos h, if_pos h]; simp only [wu64]; congr 1; omega
  · rw [if_neg h, if_neg h]; simp only [wu64]; congr 1; omega

theorem impl_wideOf_eq (n : Bool) (h l : Int) : impl_wideOf.f n h l = some (wnz n h l, h, l) := by
  unfold impl_wideOf.f wnz
  cases n
  · simp
  · by_cases c : h > 0 <;> simp [c]

theorem impl_WideOf_eq (a : Int) (h0 : -9223372036854775808 ≤ a) (h1 : a ≤ 9223372036854775807) : impl_WideOf.f a = some (wnorm a) := by
  have hb := iabs_u64 h0 h1
  unfold impl_WideOf.f
  simp only [impl_size_eq a h0 h1, impl_wideOf_eq, Option.bind_some, wnorm, wnz]
  have e1 : iabs a / 18446744073709551616 = 0 := by omega
  have e2 : iabs a % 18446744073709551616 = iabs a := by omega
  rw [e1, e2]
  by_cases c : a < 0
  · have : iabs a > 0 := by unfold iabs; rw [if_pos c]; omega
    simp [c, this]
  · simp [c]

theorem impl_IntOf_eq (n : Bool) (h l : Int) (h0 : 0 ≤ h) (l0 : 0 ≤ l) (l1 : l < 18446744073709551616) : impl_IntOf.f n h l = some (intAns n h l) := by
  unfold impl_IntOf.f intAns
  cases n
  · simp only [Bool.false_eq_true, if_false]
    have r := w64_range l
    rw [impl_WideOf_eq _ r.1 r.2, wnorm_i64 r.1 r.2]
    simp only [Option.bind_some]
    by_cases c : h = 0 ∧ l ≤ 9223372036854775807
    · rw [if_pos c]
      have e : wrap64 l = l := w64_id (by omega) c.2
      have e2 : iabs l = l := by unfold iabs; rw [if_neg (by omega)]
      rw [e, e2, c.1]
      have : ¬ l < 0 := by omega
      simp [this]
    · rw [if_neg c]
      rw [if_pos]
      by_cases d : h = 0
      · have e : wrap64 l < 0 := by unfold wrap64; omega
        simp [e]
      · have e : ((0 : Int) == h) = false := beq_eq_false_iff_ne.mpr (fun z => d z.symm)
        simp [e]
  · simp only [if_true]
    have r := w64_range (-wrap64 l)
    rw [impl_WideOf_eq _ r.1 r.2, wnorm_i64 r.1 r.2]
    simp only [Option.bind_some]
    by_cases c : h = 0 ∧ 1 ≤ l ∧ l ≤ 9223372036854775808
    · rw [if_pos c]
      have e : wrap64 (-wrap64 l) = -l := by unfold wrap64; omega
      have e2 : iabs (-l) = l := by unfold iabs; rw [if_pos (by omega)]; omega
      rw [e, e2, c.1]
      have : -l < 0 := by omega
      have this2 : 0 < l := by omega
      simp [this2]
    · rw [if_neg c]
      rw [if_pos]
      by_cases d : h = 0
      · by_cases z : l = 0
        · subst z
          have : ¬ wrap64 (-wrap64 0) < 0 := by unfold wrap64; omega
          simp [this]
        · have hl : l > 9223372036854775808 := by omega
          have : ¬ wrap64 (-wrap64 l) < 0 := by unfold wrap64; omega
          simp [this]
      · have e : ((0 : Int) == h) = false := beq_eq_false_iff_ne.mpr (fun z => d z.symm)
        simp [e]

theorem spec_IntOf_eq (n : Bool) (h l : Int) (h0 : 0 ≤ h) (l0 : 0 ≤ l) (l1 : l < 18446744073709551616) (k : Nat) (hk : 1 ≤ k) : spec_IntOf.f k n h l = some (intAns n h l) := by
  obtain ⟨k, rfl⟩ : ∃ j, k = j + 1 := ⟨k - 1, by omega⟩
  unfold spec_IntOf.f intAns
  simp only [spec_IntOf.j0]
  by_cases c1 : h > 0
  · have hz : ¬ h = 0 := by omega
    rw [if_pos c1]
    cases n <;> simp [hz]
  · have hz : h = 0 := by omega
    subst hz
    rw [if_neg c1]
    by_cases c2 : l > 9223372036854775808
    · rw [if_pos c2]
      have a1 : ¬ l ≤ 9223372036854775808 := by omega
      have a2 : ¬ l ≤ 9223372036854775807 := by omega
      cases n <;> simp [a1, a2]
    · rw [if_neg c2]
      have a1 : l ≤ 9223372036854775808 := by omega
      cases n
      · by_cases c3 : l = 9223372036854775808
        · rw [if_pos c3]
          have a2 : ¬ l ≤ 9223372036854775807 := by omega
          simp [a2]
        · rw [if_neg c3]
          have a2 : l ≤ 9223372036854775807 := by omega
          have e : wrap64 l = l := w64_id (by omega) a2
          simp [a2, e]
      · have hw : wrap64 (wrap64 (-wrap64 (IntKind.u64.wrap (l - 1))) - 1) = -l ∨ l = 0 := by
          by_cases z : l = 0
          · exact .inr z
          · left
            rw [wu64]; unfold wrap64; omega
        simp only [if_true, ite_self, beq_iff_eq]
        by_cases z : l = 0
        · subst z; simp
        · have hw2 := hw.resolve_right z
          have a2 : 1 ≤ l := by omega
          rw [hw2]
          simp [z, a1, a2]

theorem spec_WideOk_eq (n : Bool) (h l : Int) : spec_WideOk.f n h l = some (wok n h l) := by
  unfold spec_WideOk.f wok
  by_cases c1 : h < 9223372036854775808
  · rw [if_pos c1]
    cases n
    · simp [c1]
    · by_cases c2 : h > 0
      · simp [c1, c2]
      · simp [c1, c2]
  · rw [if_neg c1]; simp [c1]

theorem DrawIntOf_some (b : List Int) (hb : b.length ≤ 140737488351232) (k : Nat) (hk : b.length < k) (hk9 : 9 ≤ k) : ∃ n x y, spec_DrawIntOf.f k b = some (n, x, y) ∧ 0 ≤ x ∧ x < 18446744073709551616 ∧ 0 ≤ y ∧ y < 18446744073709551616 := by
  unfold spec_DrawIntOf.f
  obtain ⟨h, e⟩ := l1New_some b hb k hk
  rw [e]; simp only [Option.bind_some]
  obtain ⟨u, i1, h1, e1, hi1⟩ := l1Once_some b hb 0 h 3 (by omega) (by omega)
  rw [e1]; simp only [Option.bind_some]
  by_cases c : u = true
  · rw [if_pos c]
    obtain ⟨x, i2, h2, e2, x0, x1, hi2⟩ := l1Below_some b hb i1 h1 5 hi1 (by omega)
    have x2 := x1 (by omega)
    rw [e2]; simp only [Option.bind_some]
    rw [if_pos x0, if_pos (by simpa using x2)]
    have hx : x = 0 ∨ x = 1 ∨ x = 2 ∨ x = 3 ∨ x = 4 := by omega
    refine ⟨_, _, _, rfl, ?_, ?_, ?_, ?_⟩ <;> (rcases hx with rfl | rfl | rfl | rfl | rfl <;> simp [rd_T33])
  · rw [if_neg c]
    obtain ⟨n, x, y, i2, h2, e2, x0, x1, y0, y1, _⟩ := l3Wide_some b hb i1 h1 hi1 k hk9
    rw [e2]
    exact ⟨_, _, _, rfl, x0, x1, y0, y1⟩
theorem intAns_back {n : Bool} {h l : Int} (l0 : 0 ≤ l) (ok : (intAns n h l).2 = true) : -9223372036854775808 ≤ (intAns n h l).1 ∧ (intAns n h l).1 ≤ 9223372036854775807 ∧ wnorm (intAns n h l).1 = (n, h, l) := by
  unfold intAns at ok ⊢
  cases n
  · simp only [Bool.false_eq_true, if_false] at ok ⊢
    by_cases c : h = 0 ∧ l ≤ 9223372036854775807
    · rw [if_pos c]
      refine ⟨by simp only; omega, by simp only; omega, ?_⟩
      rw [wnorm_i64 (by simp only; omega) (by simp only; omega), c.1]
      unfold iabs
      have : ¬ l < 0 := by omega
      simp [this]
    · rw [if_neg c] at ok; simp at ok
  · simp only [if_true] at ok ⊢
    by_cases c : h = 0 ∧ 1 ≤ l ∧ l ≤ 9223372036854775808
    · rw [if_pos c]
      refine ⟨by simp only; omega, by simp only; omega, ?_⟩
      rw [wnorm_i64 (by simp only; omega) (by simp only; omega), c.1]
      unfold iabs
      have : -l < 0 := by omega
      have this2 : 0 < l := by omega
      simp [this2]
    · rw [if_neg c] at ok; simp at ok
theorem FnWideInt : laws_FnWideInt.Pure := by
  intro b _ hb _
  refine ⟨b.length + 10, ?_⟩
  have hb' : b.length ≤ 140737488351232 := by omega
  unfold laws_FnWideInt.f spec_DrawWideOf.f
  rw [laws_big_eq]; simp only [Option.bind_some]
  by_cases hbig : decide ((b.length : Int) > 1048576) = true
  · rw [if_pos hbig]
  · rw [if_neg hbig]
    obtain ⟨h, e⟩ := l1New_some b hb' (b.length + 10) (by omega)
    rw [e]; simp only [Option.bind_some]
    obtain ⟨v, i1, h1, e1, v0, v1, _⟩ := l1Whole_some b hb' 0 h (by omega) (b.length + 10) (by omega)
    rw [e1]; simp only [Option.bind_some]
    have wp := wnorm_parts (v := v) (by have := iabs_u64 v0 v1; omega)
    rw [impl_WideOf_eq v v0 v1]; simp only [Option.bind_some]
    rw [impl_IntOf_eq _ _ _ wp.1 wp.2.2.1 wp.2.2.2, intAns_small v0 v1]; simp only [Option.bind_some]
    obtain ⟨n, x, y, e2, x0, x1, y0, y1⟩ := DrawIntOf_some b hb' (b.length + 10) (by omega) (by omega)
    rw [e2]; simp only [Option.bind_some]
    rw [impl_IntOf_eq n x y x0 y0 y1, spec_IntOf_eq n x y x0 y0 y1 _ (by omega)]; simp only [Option.bind_some, spec_WideOk_eq, if_true]
    rw [wok_wnorm (by have := iabs_u64 v0 v1; omega)]
    simp only [if_true, beq_self_eq_true]
    by_cases ok : (intAns n x y).2 = true
    · rw [if_pos ok]
      have bk := intAns_back y0 ok
      rw [impl_WideOf_eq _ bk.1 bk.2.1, bk.2.2]
      simp
    · rw [if_neg ok]

end Go.Proofs.Yteldfljjeofiaaa.Pure
