/- The sum of two fractions does not hang on their order, and a square over a number is not negative and has a text. Conditions: each number is one of its kind, as the row says. -/
import Derived.Test.YtkpgpifkbdpnkaaDoorPFnFracSumx
import Derived.Test.YtkpgpifkbdpnkaaDoorBase
set_option linter.unusedSimpArgs false
set_option linter.unusedVariables false
namespace Go.Proofs.YtkpgpifkbdpnkaaDoor.Pure
open Go.RowKit Go.Proofs.YtkpgpifkbdpnkaaDoor.Base Go.Proofs.YtkpgpifkbdpnkaaDoor.PFnFracSum Go.Proofs.YtkpgpifkbdpnkaaDoorVFnFracSum.PrintWords Go.Proofs.YtkpgpifkbdpnkaaDoorVFnFracSum.PrintLast Go.Proofs.YtkpgpifkbdpnkaaDoorVFnFracSum.PrintMore

theorem laws_big_eq (b : List Int) : laws_big.f b = some (decide ((b.length : Int) > 1048576)) := by
  unfold laws_big.f; rfl

theorem l1New_loop (b : List Int) (hb : b.length ≤ 140737488351232) (d : Nat) : ∀ (k : Nat) (x3 x4 : Int), 0 ≤ x4 → x4 ≤ b.length → (b.length : Int) - x4 = d → d < k → ∃ h, spec_l1New.l0 k b x3 x4 = some (b, 0, h) := by
  induction d with
  | zero =>
    intro k x3 x4 h0 h1 hd hk
    obtain ⟨k, rfl⟩ : ∃ m, k = m + 1 := ⟨k - 1, by omega⟩
    exact ⟨x3, by simp only [spec_l1New.l0]; rw [if_neg (by omega)]⟩
  | succ d ih =>
    intro k x3 x4 h0 h1 hd hk
    obtain ⟨k, rfl⟩ : ∃ m, k = m + 1 := ⟨k - 1, by omega⟩
    simp only [spec_l1New.l0]
    rw [if_pos (by omega)]
    by_cases c : x4 < 4000
    · rw [if_pos c, if_pos h0]
      have e : wrap64 (x4 + 1) = x4 + 1 := w64_id (by omega) (by omega)
      rw [e]
      exact ih k _ (x4 + 1) (by omega) (by omega) (by omega) (by omega)
    · rw [if_neg c]
      exact ⟨x3, rfl⟩
theorem l1New_some (b : List Int) (hb : b.length ≤ 140737488351232) (k : Nat) (hk : b.length < k) : ∃ h, spec_l1New.f k b = some (b, 0, h) := by
  unfold spec_l1New.f
  exact l1New_loop b hb b.length k _ 0 (by omega) (by omega) (by omega) hk

theorem l1Byte_some (b : List Int) (hb : b.length ≤ 140737488351232) (i h : Int) (hi : 0 ≤ i) : ∃ x i' h', spec_l1Byte.f b i h = some (x, i', h') ∧ 0 ≤ x ∧ x ≤ 255 ∧ 0 ≤ i' := by
  unfold spec_l1Byte.f
  by_cases c : i < (b.length : Int)
  · rw [if_pos c, if_pos hi]
    refine ⟨_, _, _, rfl, (and255 _).1, (and255 _).2, ?_⟩
    rw [w64_id (by omega) (by omega)]; omega
  · rw [if_neg c]
    exact ⟨_, _, _, rfl, (and255 _).1, (and255 _).2, hi⟩

theorem l1Below_some (b : List Int) (hb : b.length ≤ 140737488351232) (i h n : Int) (hi : 0 ≤ i) (hn : n ≤ 4294967296) : ∃ x i' h', spec_l1Below.f b i h n = some (x, i', h') ∧ 0 ≤ x ∧ (0 < n → x < n) ∧ 0 ≤ i' := by
  unfold spec_l1Below.f
  by_cases c : n ≤ 0
  · rw [if_pos c]
    exact ⟨_, _, _, rfl, by omega, fun _ => by omega, hi⟩
  · rw [if_neg c]
    by_cases d : n ≤ 256
    · rw [if_pos d]
      obtain ⟨x, i', h', e, x0, x1, hi'⟩ := l1Byte_some b hb i h hi
      rw [e]
      simp only [Option.bind_some]
      rw [if_neg (by omega)]
      have := tmod_range (n := n) x0 (by omega)
      exact ⟨_, _, _, rfl, this.1, fun _ => this.2, hi'⟩
    · rw [if_neg d]
      obtain ⟨x, i1, h1, e1, x0, x1, hi1⟩ := l1Byte_some b hb i h hi
      obtain ⟨y, i2, h2, e2, y0, y1, hi2⟩ := l1Byte_some b hb i1 h1 hi1
      obtain ⟨z, i3, h3, e3, z0, z1, hi3⟩ := l1Byte_some b hb i2 h2 hi2
      obtain ⟨u, i4, h4, e4, u0, u1, hi4⟩ := l1Byte_some b hb i3 h3 hi3
      rw [e1]; simp only [Option.bind_some]
      rw [e2]; simp only [Option.bind_some]
      rw [e3]; simp only [Option.bind_some]
      rw [e4]; simp only [Option.bind_some]
      rw [if_neg (by omega)]
      have e : wrap64 (wrap64 (wrap64 (wrap64 (x * 16777216) + wrap64 (y * 65536)) + wrap64 (z * 256)) + u) = x * 16777216 + y * 65536 + z * 256 + u := by
        unfold wrap64; omega
      rw [e]
      have := tmod_range (x := x * 16777216 + y * 65536 + z * 256 + u) (n := n) (by omega) (by omega)
      exact ⟨_, _, _, rfl, this.1, fun _ => this.2, hi4⟩

theorem l1PickInt_some (b : List Int) (hb : b.length ≤ 140737488351232) (i h : Int) (l : List Int) (hi : 0 ≤ i) (h0 : 0 < l.length) (hl : l.length ≤ 4294967296) : ∃ x i' h', spec_l1PickInt.f b i h l = some (x, i', h') ∧ x ∈ l ∧ 0 ≤ i' := by
  unfold spec_l1PickInt.f
  obtain ⟨x, i', h', e, x0, x1, hi'⟩ := l1Below_some b hb i h (l.length : Int) hi (by omega)
  have x2 := x1 (by omega)
  rw [e]
  simp only [Option.bind_some]
  rw [if_pos x0, if_pos x2]
  refine ⟨_, _, _, rfl, ?_, hi'⟩
  have : x.toNat < l.length := by omega
  unfold rd
  rw [List.getD_eq_getElem?_getD, List.getElem?_eq_getElem this]
  exact List.getElem_mem this

theorem l1Whole_loop (b : List Int) (hb : b.length ≤ 140737488351232) (d : Nat) : ∀ (k : Nat) (x3 x4 i h : Int), 0 ≤ i → x4 ≤ 8 → -8 ≤ x4 → (8 : Int) - x4 = d → d < k → -9223372036854775808 ≤ x3 → x3 ≤ 9223372036854775807 →
    ∃ x i' h', spec_l1Whole.l0 k x3 x4 b i h = some (x, i', h') ∧ -9223372036854775808 ≤ x ∧ x ≤ 9223372036854775807 ∧ 0 ≤ i' := by
  induction d with
  | zero =>
    intro k x3 x4 i h hi h1 h2 hd hk r0 r1
    obtain ⟨k, rfl⟩ : ∃ m, k = m + 1 := ⟨k - 1, by omega⟩
    exact ⟨x3, i, h, by simp only [spec_l1Whole.l0]; rw [if_neg (by omega)], r0, r1, hi⟩
  | succ d ih =>
    intro k x3 x4 i h hi h1 h2 hd hk r0 r1
    obtain ⟨k, rfl⟩ : ∃ m, k = m + 1 := ⟨k - 1, by omega⟩
    simp only [spec_l1Whole.l0]
    rw [if_pos (by omega)]
    obtain ⟨x, i', h', e, x0, x1, hi'⟩ := l1Byte_some b hb i h hi
    rw [e]
    simp only [Option.bind_some]
    rw [w64_id (n := x4 + 1) (by omega) (by omega)]
    have r := w64_range (wrap64 (x3 * 256) + x)
    exact ih k _ (x4 + 1) i' h' hi' (by omega) (by omega) (by omega) (by omega) r.1 r.2
theorem l1Whole_some (b : List Int) (hb : b.length ≤ 140737488351232) (i h : Int) (hi : 0 ≤ i) (k : Nat) (hk : 9 ≤ k) : ∃ x i' h', spec_l1Whole.f k b i h = some (x, i', h') ∧ -9223372036854775808 ≤ x ∧ x ≤ 9223372036854775807 ∧ 0 ≤ i' := by
  unfold spec_l1Whole.f
  obtain ⟨x, i1, h1, e, x0, x1, hi1⟩ := l1Below_some b hb i h 4 hi (by omega)
  rw [e]
  simp only [Option.bind_some]
  by_cases c0 : x = 0
  · rw [if_pos c0]
    obtain ⟨y, i2, h2, e2, hy, hi2⟩ := l1PickInt_some b hb i1 h1 [0, 1, (-1), 9, 10, 999, 1000, 2147483647, (-2147483648), 3037000499, 3037000500, 9223372036854775807, (-9223372036854775807), (-9223372036854775808)] hi1 (by simp) (by simp)
    rw [e2]
    simp only [Option.bind_some]
    refine ⟨_, _, _, rfl, ?_, ?_, hi2⟩ <;> (simp only [List.mem_cons, List.not_mem_nil, or_false] at hy; omega)
  · rw [if_neg c0]
    by_cases c1 : x = 1
    · rw [if_pos c1]
      exact l1Whole_loop b hb 8 k 0 0 i1 h1 hi1 (by omega) (by omega) (by omega) (by omega) (by omega) (by omega)
    · rw [if_neg c1]
      by_cases c2 : x = 2
      · rw [if_pos c2]
        obtain ⟨y, i2, h2, e2, _, _, hi2⟩ := l1Below_some b hb i1 h1 1000000 hi1 (by omega)
        rw [e2]
        exact ⟨_, _, _, rfl, (w64_range _).1, (w64_range _).2, hi2⟩
      · rw [if_neg c2]
        obtain ⟨y, i2, h2, e2, _, _, hi2⟩ := l1Below_some b hb i1 h1 41 hi1 (by omega)
        rw [e2]
        exact ⟨_, _, _, rfl, (w64_range _).1, (w64_range _).2, hi2⟩

theorem l1Once_some (b : List Int) (hb : b.length ≤ 140737488351232) (i h n : Int) (hi : 0 ≤ i) (hn : n ≤ 4294967296) : ∃ x i' h', spec_l1Once.f b i h n = some (x, i', h') ∧ 0 ≤ i' := by
  unfold spec_l1Once.f
  obtain ⟨x, i', h', e, _, _, hi'⟩ := l1Below_some b hb i h n hi hn
  rw [e]
  exact ⟨_, _, _, rfl, hi'⟩

theorem spec_l3Abs_eq (a : Int) (h0 : -9223372036854775808 ≤ a) (h1 : a ≤ 9223372036854775807) : spec_l3Abs.f a = some (iabs a) := by
  unfold spec_l3Abs.f iabs
  by_cases h : a < 0
  · rw [if_pos h, if_pos h]; simp only [wu64]; unfold wrap64; congr 1; omega
  · rw [if_neg h, if_neg h]; simp only [wu64]; congr 1; omega

theorem spec_WideOf_eq (a : Int) (h0 : -9223372036854775808 ≤ a) (h1 : a ≤ 9223372036854775807) : spec_WideOf.f a = some (wnorm a) := by
  have hb := iabs_u64 h0 h1
  unfold spec_WideOf.f
  simp only [spec_l3Abs_eq a h0 h1, Option.bind_some, wnorm]
  have e1 : iabs a / 18446744073709551616 = 0 := by omega
  have e2 : iabs a % 18446744073709551616 = iabs a := by omega
  rw [e1, e2]

theorem spec_l3Product_eq (a b : Int) (ha0 : 0 ≤ a) (ha : a < 18446744073709551616) (hb0 : 0 ≤ b) (hb : b < 18446744073709551616) : spec_l3Product.f a b = some (a * b / 18446744073709551616, a * b % 18446744073709551616) := by
  unfold spec_l3Product.f
  rw [and_mask32 a ha0 ha, and_mask32 b hb0 hb]
  rw [and_mask32 (IntKind.u64.wrap (_ + _)) (by rw [wu64]; omega) (by rw [wu64]; omega), and_mask32 (IntKind.u64.wrap (a % 4294967296 * (b % 4294967296))) (by rw [wu64]; omega) (by rw [wu64]; omega)]
  have h := prod_split a b
  have ⟨l1, u1⟩ := mul_bound (x := a / 4294967296) (y := b / 4294967296) (by omega) (by omega) (by omega) (by omega)
  have ⟨l2, u2⟩ := mul_bound (x := a / 4294967296) (y := b % 4294967296) (by omega) (by omega) (by omega) (by omega)
  have ⟨l3, u3⟩ := mul_bound (x := a % 4294967296) (y := b / 4294967296) (by omega) (by omega) (by omega) (by omega)
  have ⟨l4, u4⟩ := mul_bound (x := a % 4294967296) (y := b % 4294967296) (by omega) (by omega) (by omega) (by omega)
  have lt := (mul_u64 a b ha0 ha hb0 hb).2
  simp only [wu64]
  generalize (a / 4294967296) * (b / 4294967296) = p at *
  generalize (a / 4294967296) * (b % 4294967296) = q at *
  generalize (a % 4294967296) * (b / 4294967296) = r at *
  generalize (a % 4294967296) * (b % 4294967296) = s at *
  generalize a * b = t at *
  simp only [Option.some.injEq, Prod.mk.injEq]
  constructor <;> omega

theorem spec_MulWide_eq (a b : Int) (ha0 : -9223372036854775808 ≤ a) (ha1 : a ≤ 9223372036854775807) (hb0 : -9223372036854775808 ≤ b) (hb1 : b ≤ 9223372036854775807) : spec_MulWide.f a b = some (wnorm (a * b)) := by
  have ⟨a2, a3⟩ := iabs_u64 ha0 ha1
  have ⟨b2, b3⟩ := iabs_u64 hb0 hb1
  unfold spec_MulWide.f
  simp only [spec_l3Abs_eq a ha0 ha1, spec_l3Abs_eq b hb0 hb1, spec_l3Product_eq _ _ a2 a3 b2 b3, Option.bind_some, wnorm, iabs_mul, mul_sign]
  by_cases c : (decide (a < 0) != decide (b < 0)) = true
  · rw [if_pos c, c]
    by_cases d : a = 0
    · rw [if_pos d]; simp [d]
    · rw [if_neg d]; simp [d]
  · rw [if_neg c]
    have : (decide (a < 0) != decide (b < 0)) = false := by simpa using c
    rw [this]; simp

theorem l3Wide_some (b : List Int) (hb : b.length ≤ 140737488351232) (i h : Int) (hi : 0 ≤ i) (k : Nat) (hk : 9 ≤ k) : ∃ n x y i' h', spec_l3Wide.f k b i h = some (n, x, y, i', h') ∧ 0 ≤ x ∧ x < 18446744073709551616 ∧ 0 ≤ y ∧ y < 18446744073709551616 ∧ 0 ≤ i' := by
  unfold spec_l3Wide.f
  obtain ⟨c, i1, h1, e1, c0, c1, hi1⟩ := l1Below_some b hb i h 5 hi (by omega)
  rw [e1]; simp only [Option.bind_some]
  by_cases d0 : c = 0
  · rw [if_pos d0]
    obtain ⟨x, i2, h2, e2, x0, x1, hi2⟩ := l1Whole_some b hb i1 h1 hi1 k hk
    rw [e2]; simp only [Option.bind_some]
    rw [spec_WideOf_eq x x0 x1]
    have p := wnorm_parts (v := x) (by have := iabs_u64 x0 x1; omega)
    exact ⟨_, _, _, _, _, rfl, p.1, p.2.1, p.2.2.1, p.2.2.2, hi2⟩
  · rw [if_neg d0]
    by_cases d1 : c = 1
    · rw [if_pos d1]
      obtain ⟨x, i2, h2, e2, x0, x1, hi2⟩ := l1Below_some b hb i1 h1 7 hi1 (by omega)
      have x2 := x1 (by omega)
      rw [e2]; simp only [Option.bind_some]
      rw [if_pos x0, if_pos (by simpa using x2)]
      have hx : x = 0 ∨ x = 1 ∨ x = 2 ∨ x = 3 ∨ x = 4 ∨ x = 5 ∨ x = 6 := by omega
      refine ⟨_, _, _, _, _, rfl, ?_, ?_, ?_, ?_, hi2⟩ <;>
        (rcases hx with rfl | rfl | rfl | rfl | rfl | rfl | rfl <;> simp [rd_T28])
    · rw [if_neg d1]
      obtain ⟨x, i2, h2, e2, x0, x1, hi2⟩ := l1Whole_some b hb i1 h1 hi1 k hk
      rw [e2]; simp only [Option.bind_some]
      obtain ⟨y, i3, h3, e3, y0, y1, hi3⟩ := l1Whole_some b hb i2 h2 hi2 k hk
      rw [e3]; simp only [Option.bind_some]
      rw [spec_MulWide_eq x y x0 x1 y0 y1]; simp only [Option.bind_some]
      have q0 := iabs_i64 x0 x1
      have q1 := iabs_i64 y0 y1
      have pm := iabs_mul x y
      have pb := Int.mul_le_mul q0 q1 (iabs_nonneg y) (by decide)
      have p := wnorm_parts (v := x * y) (by rw [← pm]; omega)
      obtain ⟨u, i4, h4, e4, hi4⟩ := l1Once_some b hb i3 h3 10 hi3 (by omega)
      rw [e4]; simp only [Option.bind_some]
      obtain ⟨u2, i5, h5, e5, hi5⟩ := l1Once_some b hb i4 h4 10 hi4 (by omega)
      have wr := u64_wrap_range ((wnorm (x * y)).2.1 + 9223372036854775808)
      by_cases cu : u = true
      · rw [if_pos cu, e5]; simp only [Option.bind_some]
        by_cases cv : u2 = true
        · rw [if_pos cv]; exact ⟨_, _, _, _, _, rfl, wr.1, wr.2, p.2.2.1, p.2.2.2, hi5⟩
        · rw [if_neg cv]; exact ⟨_, _, _, _, _, rfl, wr.1, wr.2, p.2.2.1, p.2.2.2, hi5⟩
      · rw [if_neg cu, e5]; simp only [Option.bind_some]
        by_cases cv : u2 = true
        · rw [if_pos cv]; exact ⟨_, _, _, _, _, rfl, p.1, p.2.1, p.2.2.1, p.2.2.2, hi5⟩
        · rw [if_neg cv]; exact ⟨_, _, _, _, _, rfl, p.1, p.2.1, p.2.2.1, p.2.2.2, hi5⟩

theorem spec_WideOk_eq (n : Bool) (h l : Int) : spec_WideOk.f n h l = some (wok n h l) := by
  unfold spec_WideOk.f wok
  by_cases c1 : h < 9223372036854775808
  · rw [if_pos c1]
    cases n
    · simp [c1]
    · by_cases c2 : h > 0
      · simp [c1, c2]
      · simp [c1, c2]
  · rw [if_neg c1]; simp [c1]

theorem spec_l1In_eq (a b c : Int) : spec_l1In.f a b c = some (iin a b c) := by
  unfold spec_l1In.f iin
  by_cases h : a ≥ b
  · rw [if_pos h]; simp [show b ≤ a from h]
  · rw [if_neg h]; simp [show ¬ b ≤ a from h]

theorem spec_FracOk_eq (n : Bool) (h l d : Int) : spec_FracOk.f n h l d = some (wok n h l && iin d 1 1000000) := by
  unfold spec_FracOk.f
  simp only [spec_WideOk_eq, spec_l1In_eq, Option.bind_some]
  cases wok n h l <;> simp

theorem spec_SquareOver_eq (g d : Int) (g0 : -9223372036854775808 ≤ g) (g1 : g ≤ 9223372036854775807) : spec_SquareOver.f g d = some (sqAns g d) := by
  unfold spec_SquareOver.f sqAns fok
  rw [spec_MulWide_eq g g g0 g1 g0 g1]; simp only [Option.bind_some, spec_FracOk_eq]
  by_cases c : (wok (wnorm (g * g)).1 (wnorm (g * g)).2.1 (wnorm (g * g)).2.2 && iin d 1 1000000) = true
  · rw [if_pos c, if_pos c]
  · rw [if_neg c, if_neg c]

/-- Two parts of a wide number and a denominator, each of 64 bits. -/
def fin64 (p q d : Int) : Prop := 0 ≤ p ∧ p < 18446744073709551616 ∧ 0 ≤ q ∧ q < 18446744073709551616 ∧ -9223372036854775808 ≤ d ∧ d ≤ 9223372036854775807
theorem l5Frac_j0 (b : List Int) (hb : b.length ≤ 140737488351232) (x : Bool) (i h : Int) (hi : 0 ≤ i) (n : Bool) (p q d : Int) (hp : fin64 p q d) (k : Nat) (hk : 10 ≤ k) :
    ∃ n' p' q' d' i' h', spec_l5Frac.j0 k x b i h n p q d = some (n', p', q', d', i', h') ∧ fin64 p' q' d' ∧ 0 ≤ i' := by
  obtain ⟨k, rfl⟩ : ∃ m, k = m + 1 := ⟨k - 1, by omega⟩
  simp only [spec_l5Frac.j0]
  by_cases c : x = true
  · rw [if_pos c]
    obtain ⟨m, y, z, i1, h1, e1, y0, y1, z0, z1, hi1⟩ := l3Wide_some b hb i h hi k (by omega)
    rw [e1]; simp only [Option.bind_some]
    obtain ⟨u, i2, h2, e2, hu, hi2⟩ := l1PickInt_some b hb i1 h1 [1, 2, 3, 999, 1000, 1001, 1000000, 1000001, 0, (-1), 9223372036854775807] hi1 (by simp) (by simp)
    rw [e2]; simp only [Option.bind_some]
    have hd : -9223372036854775808 ≤ u ∧ u ≤ 9223372036854775807 := by
      simp only [List.mem_cons, List.not_mem_nil, or_false] at hu; omega
    exact ⟨_, _, _, _, _, _, rfl, ⟨y0, y1, z0, z1, hd.1, hd.2⟩, hi2⟩
  · rw [if_neg c]
    exact ⟨_, _, _, _, _, _, rfl, hp, hi⟩
theorem l5Frac_some (b : List Int) (hb : b.length ≤ 140737488351232) (i h : Int) (hi : 0 ≤ i) (k : Nat) (hk : 10 ≤ k) :
    ∃ n' p' q' d' i' h', spec_l5Frac.f k b i h = some (n', p', q', d', i', h') ∧ fin64 p' q' d' ∧ 0 ≤ i' := by
  unfold spec_l5Frac.f
  obtain ⟨g, i1, h1, e1, g0, g1, hi1⟩ := l1Whole_some b hb i h hi k (by omega)
  rw [e1]; simp only [Option.bind_some]
  obtain ⟨x, i2, h2, e2, x0, x1, hi2⟩ := l1Below_some b hb i1 h1 140 hi1 (by omega)
  have x2 := x1 (by omega)
  rw [e2]; simp only [Option.bind_some]
  have w : wrap64 (1 + x) = 1 + x := w64_id (by omega) (by omega)
  rw [spec_SquareOver_eq g _ g0 g1, w]; simp only [Option.bind_some]
  have sp := sqAns_parts (g := g) (1 + x) g0 g1
  have sd := sqAns_den (g := g) (1 + x) (by omega) (by omega)
  have f : fin64 (sqAns g (1 + x)).2.1 (sqAns g (1 + x)).2.2.1 (sqAns g (1 + x)).2.2.2.1 := ⟨sp.1, sp.2.1, sp.2.2.1, sp.2.2.2, sd.1, sd.2⟩
  by_cases c : (sqAns g (1 + x)).2.2.2.2 = true
  · rw [if_pos c]
    obtain ⟨y, i3, h3, e3, hi3⟩ := l1Once_some b hb i2 h2 5 hi2 (by omega)
    rw [e3]; simp only [Option.bind_some]
    exact l5Frac_j0 b hb y i3 h3 hi3 _ _ _ _ f k hk
  · rw [if_neg c]
    exact l5Frac_j0 b hb true i2 h2 hi2 _ _ _ _ f k hk

theorem spec_l3Zero_eq (n : Bool) (h l : Int) : spec_l3Zero.f n h l = some ((h == 0) && (l == 0)) := by
  unfold spec_l3Zero.f
  by_cases c : h = 0 <;> simp [c]

theorem spec_ScaleWide_eq (n : Bool) (h l k : Int) (h0 : 0 ≤ h) (l0 : 0 ≤ l) (l1 : l < 18446744073709551616) (k0 : -9223372036854775808 ≤ k) (k1 : k ≤ 9223372036854775807) : spec_ScaleWide.f n h l k = some (scaleAns n h l k) := by
  unfold spec_ScaleWide.f scaleAns
  simp only [spec_WideOk_eq, Option.bind_some]
  by_cases w : wok n h l = true
  · rw [if_pos w, if_pos w]
    have hh := wok_high w
    have ⟨u0, u1⟩ := iabs_u64 k0 k1
    have e1 := iabs_wval n h0 l0
    have e2 := iabs_mul (wval n h l) k
    have e3 := scale_parts (u := iabs k) (iabs (wval n h l)) e1
    have sg := scale_sign (k := k) h0 l0 w
    rw [e2] at e3
    have ⟨p0, p1⟩ := mul_u64 h (iabs k) h0 (by omega) u0 u1
    have ⟨q0, q1⟩ := mul_u64 l (iabs k) l0 l1 u0 u1
    simp only [spec_l3Abs_eq k k0 k1, spec_l3Product_eq _ _ h0 (show h < 18446744073709551616 by omega) u0 u1, spec_l3Product_eq _ _ l0 l1 u0 u1, Option.bind_some, spec_l3Zero_eq, wu64]
    generalize wval n h l * k = v at *
    generalize h * iabs k = p at *
    generalize l * iabs k = q at *
    generalize hs : (n != decide (k < 0)) = s at *
    by_cases c1 : p / 18446744073709551616 > 0
    · rw [wans_over (by omega), if_pos c1, if_pos c1]
      simp
    · by_cases c2 : (p % 18446744073709551616 + q / 18446744073709551616) % 18446744073709551616 < p % 18446744073709551616
      · rw [wans_over (by omega), if_neg c1, if_neg c1, if_pos c2, if_pos c2]
        simp
      · have e4 : iabs v = ((p % 18446744073709551616 + q / 18446744073709551616) % 18446744073709551616) * 18446744073709551616 + q % 18446744073709551616 := by omega
        rw [wans_of e4 (by omega) (by omega) (by omega)]
        have e5 := sign_parts e4 (by omega) (by omega) sg
        have m0 : 0 ≤ (p % 18446744073709551616 + q / 18446744073709551616) % 18446744073709551616 := by omega
        have m1 : 0 ≤ q % 18446744073709551616 := by omega
        rw [← e5]
        rw [if_neg c1, if_neg c2, if_neg c1, if_neg c2]
        generalize (p % 18446744073709551616 + q / 18446744073709551616) % 18446744073709551616 = a at *
        generalize q % 18446744073709551616 = b at *
        by_cases z : (a == 0 && b == 0) = true
        · rw [if_pos z]
          have : a = 0 ∧ b = 0 := by simpa using z
          obtain ⟨rfl, rfl⟩ := this
          simp [wok, wnz]
        · rw [if_neg z]
          have nz : a > 0 ∨ b > 0 := by
            have : ¬ (a = 0 ∧ b = 0) := by simpa using z
            omega
          have e7 : wnz s a b = s := by
            unfold wnz
            rcases nz with d | d <;> simp [d]
          have e6 := wok_wnz s a b
          rw [e7] at e6
          rw [e6, e7]
          by_cases c3 : a < 9223372036854775808
          · rw [if_pos c3]; simp [c3]
          · rw [if_neg c3]; simp [c3]
  · rw [if_neg w, if_neg w]

theorem spec_l3Order_eq (n m : Bool) (h l h' l' : Int) (l0 : 0 ≤ l) (l1 : l < 18446744073709551616) (m0 : 0 ≤ l') (m1 : l' < 18446744073709551616) (k : Nat) (hk : 1 ≤ k) :
    spec_l3Order.f k n h l m h' l' = some (cmpI (h * 18446744073709551616 + l) (h' * 18446744073709551616 + l')) := by
  obtain ⟨k, rfl⟩ : ∃ j, k = j + 1 := ⟨k - 1, by omega⟩
  unfold spec_l3Order.f cmpI
  simp only [spec_l3Order.j0]
  by_cases c1 : h < h'
  · have e : h * 18446744073709551616 + l < h' * 18446744073709551616 + l' := by omega
    rw [if_pos c1, if_pos e]; rfl
  · rw [if_neg c1]
    by_cases c2 : h = h'
    · subst c2
      rw [if_pos rfl]
      by_cases c3 : l < l'
      · have e : h * 18446744073709551616 + l < h * 18446744073709551616 + l' := by omega
        rw [if_pos e]; simp [c3]
      · have e : ¬ h * 18446744073709551616 + l < h * 18446744073709551616 + l' := by omega
        rw [if_neg e]
        by_cases c4 : l > l'
        · have e2 : h * 18446744073709551616 + l > h * 18446744073709551616 + l' := by omega
          rw [if_pos e2]; simp [c3, c4]
        · have e2 : ¬ h * 18446744073709551616 + l > h * 18446744073709551616 + l' := by omega
          rw [if_neg e2]; simp [c3, c4]
    · have e : ¬ h * 18446744073709551616 + l < h' * 18446744073709551616 + l' := by omega
      have e2 : h * 18446744073709551616 + l > h' * 18446744073709551616 + l' := by omega
      rw [if_neg c2, if_neg e, if_pos e2]
      simp [show h > h' by omega]

theorem spec_AddWide_j1 (n m : Bool) (h l h' l' v : Int) (h0 : 0 ≤ h) (h1 : h < 9223372036854775808) (l0 : 0 ≤ l) (l1 : l < 18446744073709551616) (g0 : 0 ≤ h') (m0 : 0 ≤ l') (m1 : l' < 18446744073709551616) (dle : h' * 18446744073709551616 + l' ≤ h * 18446744073709551616 + l)
    (e : iabs v = h * 18446744073709551616 + l - (h' * 18446744073709551616 + l')) (sg : v ≠ 0 → decide (v < 0) = n) (k : Nat) : spec_AddWide.j1 (k + 1) n h l m h' l' = some (wans v) := by
  simp only [spec_AddWide.j1, spec_l3Zero_eq, Option.bind_some, wu64]
  have fin : ∀ a b : Int, 0 ≤ a → a < 9223372036854775808 → 0 ≤ b → b < 18446744073709551616 → iabs v = a * 18446744073709551616 + b → (if (a == 0 && b == 0) = true then some (false, a, b, true) else some (n, a, b, true)) = some (wans v) := by
    intro a b a0 a1 b0 b1 e4
    have s := sign_parts e4 a0 b0 sg
    rw [wans_of e4 a0 b0 b1, if_pos a1, ← s]
    by_cases z : (a == 0 && b == 0) = true
    · rw [if_pos z]
      have : a = 0 ∧ b = 0 := by simpa using z
      obtain ⟨rfl, rfl⟩ := this
      simp [wnz]
    · rw [if_neg z]
      have nz : a > 0 ∨ b > 0 := by
        have : ¬ (a = 0 ∧ b = 0) := by simpa using z
        omega
      unfold wnz
      rcases nz with d | d <;> simp [d]
  by_cases c : l < l'
  · rw [if_pos c]
    exact fin _ _ (by omega) (by omega) (by omega) (by omega) (by omega)
  · rw [if_neg c]
    exact fin _ _ (by omega) (by omega) (by omega) (by omega) (by omega)
theorem spec_AddWide_eq (n m : Bool) (h l h' l' : Int) (h0 : 0 ≤ h) (l0 : 0 ≤ l) (l1 : l < 18446744073709551616) (g0 : 0 ≤ h') (m0 : 0 ≤ l') (m1 : l' < 18446744073709551616) (k : Nat) (hk : 6 ≤ k) : spec_AddWide.f k n h l m h' l' = some (addAns n h l m h' l') := by
  obtain ⟨k, rfl⟩ : ∃ j, k = j + 2 := ⟨k - 2, by omega⟩
  unfold spec_AddWide.f addAns
  simp only [spec_WideOk_eq, Option.bind_some]
  by_cases w : wok n h l = true
  · rw [if_pos w]
    by_cases w' : wok m h' l' = true
    · have hh := wok_high w
      have gg := wok_high w'
      have nz := wok_nz w
      have mz := wok_nz w'
      have sn := wval_neg n h0 l0
      have sm := wval_neg m g0 m0
      rw [nz] at sn
      rw [mz] at sm
      have dn := wval_def n h l
      have dm := wval_def m h' l'
      rw [w, w']
      simp only [spec_AddWide.j0, Bool.not_true, Bool.false_eq_true, if_false, Bool.and_self, if_true]
      generalize wval n h l = u at *
      generalize wval m h' l' = v at *
      by_cases c : (n == m) = true
      · rw [if_pos c]
        have nm : n = m := by simpa using c
        subst nm
        simp only [spec_WideOk_eq, Option.bind_some, wu64]
        have sg : u + v ≠ 0 → decide (u + v < 0) = n := by
          intro z; subst dn dm
          cases n <;> simp at z ⊢ <;> omega
        have fin : ∀ a b : Int, 0 ≤ a → 0 ≤ b → b < 18446744073709551616 → iabs (u + v) = a * 18446744073709551616 + b → (if wok n a b = true then some (n, a, b, true) else some (false, 0, 0, false)) = some (wans (u + v)) := by
          intro a b a0 b0 b1 e4
          have s := sign_parts e4 a0 b0 sg
          have e6 := wok_wnz n a b
          have sn2 : wnz n a b = n := by
            rw [s]
            cases n
            · simp; subst dn dm; simp; omega
            · simp; subst dn dm; simp at sn sm ⊢; omega
          rw [sn2] at e6 s
          rw [wans_of e4 a0 b0 b1, e6, ← s]
          by_cases c3 : a < 9223372036854775808
          · rw [if_pos c3, if_pos (decide_eq_true c3)]
          · rw [if_neg c3, if_neg (by simpa using c3)]
        have e5 : iabs (u + v) = h * 18446744073709551616 + l + (h' * 18446744073709551616 + l') := by
          subst dn dm; unfold iabs
          cases n <;> simp <;> omega
        by_cases d : (l + l') % 18446744073709551616 < l
        · rw [if_pos d]
          exact fin _ _ (by omega) (by omega) (by omega) (by omega)
        · rw [if_neg d]
          exact fin _ _ (by omega) (by omega) (by omega) (by omega)
      · rw [if_neg c]
        simp only [spec_l3Order_eq n m h l h' l' l0 l1 m0 m1 (k + 1) (by omega), Option.bind_some]
        by_cases d : cmpI (h * 18446744073709551616 + l) (h' * 18446744073709551616 + l') < 0
        · rw [if_pos d]
          have dlt : h * 18446744073709551616 + l < h' * 18446744073709551616 + l' := by
            unfold cmpI at d
            by_cases e : h * 18446744073709551616 + l < h' * 18446744073709551616 + l'
            · exact e
            · rw [if_neg e] at d; split at d <;> omega
          refine spec_AddWide_j1 m n h' l' h l (u + v) g0 gg m0 m1 h0 l0 l1 (by omega) ?_ ?_ k
          · subst dn dm; unfold iabs
            cases n <;> cases m <;> simp at c ⊢ <;> omega
          · intro _; subst dn dm
            cases n <;> cases m <;> simp at c ⊢ <;> omega
        · rw [if_neg d]
          have dle : h' * 18446744073709551616 + l' ≤ h * 18446744073709551616 + l := by
            unfold cmpI at d
            by_cases e : h * 18446744073709551616 + l < h' * 18446744073709551616 + l'
            · rw [if_pos e] at d; omega
            · omega
          refine spec_AddWide_j1 n m h l h' l' (u + v) h0 hh l0 l1 g0 m0 m1 dle ?_ ?_ k
          · subst dn dm; unfold iabs
            cases n <;> cases m <;> simp at c ⊢ <;> omega
          · intro z; subst dn dm
            cases n <;> cases m <;> simp at c z ⊢ <;> omega
    · have w2 : wok m h' l' = false := by simpa using w'
      rw [w2]
      simp [spec_AddWide.j0]
  · have w2 : wok n h l = false := by simpa using w
    rw [if_neg w, w2]
    simp [spec_AddWide.j0]

theorem l5Two_some (b : List Int) (hb : b.length ≤ 140737488351232) (k : Nat) (hk : b.length < k) (hk9 : 10 ≤ k) :
    ∃ n p q d n' p' q' d', spec_l5Two.f k b = some (n, p, q, d, n', p', q', d') ∧ fin64 p q d ∧ fin64 p' q' d' := by
  unfold spec_l5Two.f
  obtain ⟨h, e⟩ := l1New_some b hb k hk
  rw [e]; simp only [Option.bind_some]
  obtain ⟨n, p, q, d, i1, h1, e1, f1, hi1⟩ := l5Frac_some b hb 0 h (by omega) k hk9
  rw [e1]; simp only [Option.bind_some]
  obtain ⟨x, i2, h2, e2, _, _, hi2⟩ := l1Below_some b hb i1 h1 4 hi1 (by omega)
  rw [e2]; simp only [Option.bind_some]
  obtain ⟨m, p', q', d', i3, h3, e3, f3, _⟩ := l5Frac_some b hb i2 h2 hi2 k hk9
  rw [e3]; simp only [Option.bind_some]
  by_cases c0 : x = 0
  · rw [if_pos c0, spec_ScaleWide_eq n p q 3 f1.1 f1.2.2.1 f1.2.2.2.1 (by omega) (by omega)]; simp only [Option.bind_some]
    have sp := scaleAns_parts n p q 3
    have w := w64_range (3 * d)
    by_cases c1 : (scaleAns n p q 3).2.2.2 = true
    · rw [if_pos c1]
      by_cases c2 : d < 1000
      · rw [if_pos c2]
        exact ⟨_, _, _, _, _, _, _, _, rfl, f1, ⟨sp.1, by omega, sp.2.2.1, sp.2.2.2, w.1, w.2⟩⟩
      · rw [if_neg c2]; exact ⟨_, _, _, _, _, _, _, _, rfl, f1, f3⟩
    · rw [if_neg c1]; exact ⟨_, _, _, _, _, _, _, _, rfl, f1, f3⟩
  · rw [if_neg c0]
    by_cases c1 : x = 1
    · rw [if_pos c1, spec_WideOf_eq 1 (by omega) (by omega)]; simp only [Option.bind_some]
      have wp := wnorm_parts (v := 1) (by have := iabs_u64 (a := 1) (by omega) (by omega); omega)
      rw [spec_AddWide_eq _ _ _ _ _ _ f1.1 f1.2.2.1 f1.2.2.2.1 wp.1 wp.2.2.1 wp.2.2.2 k (by omega)]; simp only [Option.bind_some]
      have ap := addAns_parts n p q (wnorm 1).1 (wnorm 1).2.1 (wnorm 1).2.2
      by_cases c2 : (addAns n p q (wnorm 1).1 (wnorm 1).2.1 (wnorm 1).2.2).2.2.2 = true
      · rw [if_pos c2]
        exact ⟨_, _, _, _, _, _, _, _, rfl, f1, ⟨ap.1, by omega, ap.2.2.1, ap.2.2.2, f1.2.2.2.2.1, f1.2.2.2.2.2⟩⟩
      · rw [if_neg c2]; exact ⟨_, _, _, _, _, _, _, _, rfl, f1, f3⟩
    · rw [if_neg c1]; exact ⟨_, _, _, _, _, _, _, _, rfl, f1, f3⟩

theorem impl_WideOk_eq (n : Bool) (h l : Int) : impl_WideOk.f n h l = some (wok n h l) := by
  unfold impl_WideOk.f wok
  by_cases c1 : h < 9223372036854775808
  · rw [if_pos c1]
    cases n
    · simp [c1]
    · by_cases c2 : h > 0
      · simp [c1, c2]
      · simp [c1, c2]
  · rw [if_neg c1]; simp [c1]

theorem impl_within_eq (a b c : Int) : impl_within.f a b c = some (iin a b c) := by
  unfold impl_within.f iin
  by_cases h : a ≥ b
  · rw [if_pos h]; simp [show b ≤ a from h]
  · rw [if_neg h]; simp [show ¬ b ≤ a from h]

theorem impl_FracOk_eq (n : Bool) (h l d : Int) : impl_FracOk.f n h l d = some (wok n h l && iin d 1 1000000) := by
  unfold impl_FracOk.f
  simp only [impl_WideOk_eq, impl_within_eq, Option.bind_some]
  cases wok n h l <;> simp

theorem impl_size_eq (a : Int) (h0 : -9223372036854775808 ≤ a) (h1 : a ≤ 9223372036854775807) : impl_size.f a = some (iabs a) := by
  unfold impl_size.f iabs
  by_cases h : a < 0
  · rw [if_pos h, if_pos h]; simp only [wu64]; congr 1; omega
  · rw [if_neg h, if_neg h]; simp only [wu64]; congr 1; omega

theorem bits_Mul64_eq (a b : Int) (ha0 : 0 ≤ a) (ha : a < 18446744073709551616) (hb0 : 0 ≤ b) (hb : b < 18446744073709551616) : bits_Mul64.f a b = some (a * b / 18446744073709551616, a * b % 18446744073709551616) := by
  unfold bits_Mul64.f
  rw [mulhi a b ha0 ha hb0 hb, wu64 (a * b)]

theorem impl_wideOf_eq (n : Bool) (h l : Int) : impl_wideOf.f n h l = some (wnz n h l, h, l) := by
  unfold impl_wideOf.f wnz
  cases n
  · simp
  · by_cases c : h > 0 <;> simp [c]

theorem bits_Add64_eq (a b c : Int) (h : 0 ≤ a ∧ 0 ≤ b ∧ 0 ≤ c ∧ c ≤ 1) : bits_Add64.f a b c = some ((a + b + c) % 18446744073709551616, (a + b + c) / 18446744073709551616) := by
  unfold bits_Add64.f
  rw [if_pos h]
theorem impl_ScaleWide_eq (n : Bool) (h l k : Int) (h0 : 0 ≤ h) (l0 : 0 ≤ l) (l1 : l < 18446744073709551616) (k0 : -9223372036854775808 ≤ k) (k1 : k ≤ 9223372036854775807) : impl_ScaleWide.f n h l k = some (scaleAns n h l k) := by
  unfold impl_ScaleWide.f scaleAns
  simp only [impl_WideOk_eq, Option.bind_some]
  by_cases w : wok n h l = true
  · rw [if_pos w, if_pos w]
    have hh := wok_high w
    have ⟨u0, u1⟩ := iabs_u64 k0 k1
    have e1 := iabs_wval n h0 l0
    have e2 := iabs_mul (wval n h l) k
    have e3 := scale_parts (u := iabs k) (iabs (wval n h l)) e1
    have sg := scale_sign (k := k) h0 l0 w
    rw [e2] at e3
    have ⟨p0, p1⟩ := mul_u64 h (iabs k) h0 (by omega) u0 u1
    have ⟨q0, q1⟩ := mul_u64 l (iabs k) l0 l1 u0 u1
    simp only [impl_size_eq k k0 k1, bits_Mul64_eq _ _ h0 (show h < 18446744073709551616 by omega) u0 u1, bits_Mul64_eq _ _ l0 l1 u0 u1, Option.bind_some]
    generalize wval n h l * k = v at *
    generalize h * iabs k = p at *
    generalize l * iabs k = q at *
    rw [bits_Add64_eq _ _ _ (by omega)]
    simp only [impl_wideOf_eq, Option.bind_some]
    by_cases c1 : p / 18446744073709551616 > 0
    · rw [if_pos c1, wans_over (by omega)]
    · rw [if_neg c1]
      by_cases c2 : (p % 18446744073709551616 + q / 18446744073709551616 + 0) / 18446744073709551616 > 0
      · rw [if_pos c2, wans_over (by omega)]
      · rw [if_neg c2]
        have e4 : iabs v = ((p % 18446744073709551616 + q / 18446744073709551616 + 0) % 18446744073709551616) * 18446744073709551616 + q % 18446744073709551616 := by omega
        rw [wans_of e4 (by omega) (by omega) (by omega), sign_parts e4 (by omega) (by omega) sg]
        have e5 := sign_parts (s := decide (v < 0)) e4 (by omega) (by omega) (fun _ => rfl)
        have e6 := wok_wnz (decide (v < 0)) ((p % 18446744073709551616 + q / 18446744073709551616 + 0) % 18446744073709551616) (q % 18446744073709551616)
        rw [e5] at e6
        rw [e6]
        generalize (p % 18446744073709551616 + q / 18446744073709551616 + 0) % 18446744073709551616 = a at *
        generalize q % 18446744073709551616 = b at *
        by_cases c3 : a < 9223372036854775808
        · rw [if_pos c3]; simp [c3]
        · rw [if_neg c3]; simp [c3]
  · rw [if_neg w, if_neg w]

theorem impl_crossed_eq (n m : Bool) (h l d h' l' d' : Int) (h0 : 0 ≤ h) (l0 : 0 ≤ l) (l1 : l < 18446744073709551616) (d0 : -9223372036854775808 ≤ d) (d1 : d ≤ 9223372036854775807) (g0 : 0 ≤ h') (m0 : 0 ≤ l') (m1 : l' < 18446744073709551616) (e0 : -9223372036854775808 ≤ d') (e1 : d' ≤ 9223372036854775807) (k : Nat) (hk : 1 ≤ k) : impl_crossed.f k n h l d m h' l' d' = some (crossAns n h l d m h' l' d') := by
  obtain ⟨k, rfl⟩ : ∃ j, k = j + 1 := ⟨k - 1, by omega⟩
  unfold impl_crossed.f crossAns fok
  simp only [impl_FracOk_eq, Option.bind_some, impl_crossed.j0, impl_ScaleWide_eq n h l d' h0 l0 l1 e0 e1, impl_ScaleWide_eq m h' l' d g0 m0 m1 d0 d1]
  cases (wok n h l && iin d 1 1000000) <;> cases (wok m h' l' && iin d' 1 1000000) <;> simp
  cases (scaleAns n h l d').2.2.2 <;> simp

theorem cmp_isNaN_uint64_eq (a : Int) : cmp_isNaN_uint64.f a = some false := by unfold cmp_isNaN_uint64.f; simp
theorem cmp_Compare_uint64_eq (a b : Int) : cmp_Compare_uint64.f a b = some (cmpI a b) := by
  unfold cmp_Compare_uint64.f cmpI
  simp only [cmp_isNaN_uint64_eq, Option.bind_some]
  by_cases h : a < b
  · simp [h]
  · by_cases h' : a > b <;> simp [h, h']
theorem cmp_Or_int_two (a b : Int) (k : Nat) (hk : 3 ≤ k) : cmp_Or_int.f k [a, b] = some (if a = 0 then b else a) := by
  obtain ⟨k, rfl⟩ : ∃ m, k = m + 3 := ⟨k - 3, by omega⟩
  have w1 : wrap64 (0 + 1) = 1 := by unfold wrap64; omega
  have w2 : wrap64 (1 + 1) = 2 := by unfold wrap64; omega
  have r0 : rd [a, b] 0 = a := rfl
  have r1 : rd [a, b] 1 = b := rfl
  unfold cmp_Or_int.f
  simp only [cmp_Or_int.l0, List.length_cons, List.length_nil, w1, w2, r0, r1]
  by_cases h : a = 0
  · subst h
    by_cases h' : b = 0
    · subst h'; simp
    · simp [h']
  · simp [h]

theorem impl_compareSizes_eq (n m : Bool) (h l h' l' : Int) (k : Nat) (hk : 3 ≤ k) : impl_compareSizes.f k n h l m h' l' = some (if cmpI h h' = 0 then cmpI l l' else cmpI h h') := by
  unfold impl_compareSizes.f
  simp only [cmp_Compare_uint64_eq, Option.bind_some, cmp_Or_int_two _ _ k hk]
theorem cmp_sizes {h l h' l' : Int} (l0 : 0 ≤ l) (l1 : l < 18446744073709551616) (m0 : 0 ≤ l') (m1 : l' < 18446744073709551616) :
    (if cmpI h h' = 0 then cmpI l l' else cmpI h h') = cmpI (h * 18446744073709551616 + l) (h' * 18446744073709551616 + l') := by
  unfold cmpI
  by_cases c1 : h < h'
  · have e : h * 18446744073709551616 + l < h' * 18446744073709551616 + l' := by omega
    simp [c1, e]
  · by_cases c2 : h > h'
    · have e : ¬ h * 18446744073709551616 + l < h' * 18446744073709551616 + l' := by omega
      have e2 : h * 18446744073709551616 + l > h' * 18446744073709551616 + l' := by omega
      rw [if_neg c1, if_pos c2, if_neg e, if_pos e2]; rfl
    · obtain rfl : h = h' := by omega
      rw [if_neg c1, if_neg c2, if_pos rfl]
      by_cases c3 : l < l'
      · rw [if_pos c3, if_pos (by omega)]
      · by_cases c4 : l > l'
        · rw [if_neg c3, if_pos c4, if_neg (by omega), if_pos (by omega)]
        · rw [if_neg c3, if_neg c4, if_neg (by omega), if_neg (by omega)]

theorem bits_Add64_eq' (a b c : Int) (h : 0 ≤ a ∧ 0 ≤ b ∧ 0 ≤ c ∧ c ≤ 1) : bits_Add64.f a b c = some ((a + b + c) % 18446744073709551616, (a + b + c) / 18446744073709551616) := by
  unfold bits_Add64.f
  rw [if_pos h]
theorem bits_Sub64_eq (a b c : Int) (h : 0 ≤ a ∧ 0 ≤ b ∧ b < 18446744073709551616 ∧ 0 ≤ c ∧ c ≤ 1) : bits_Sub64.f a b c = some ((a - b - c) % 18446744073709551616, if a < b + c then 1 else 0) := by
  unfold bits_Sub64.f
  rw [if_pos h]
theorem impl_AddWide_eq (n m : Bool) (h l h' l' : Int) (h0 : 0 ≤ h) (l0 : 0 ≤ l) (l1 : l < 18446744073709551616) (g0 : 0 ≤ h') (m0 : 0 ≤ l') (m1 : l' < 18446744073709551616) (k : Nat) (hk : 6 ≤ k) : impl_AddWide.f k n h l m h' l' = some (addAns n h l m h' l') := by
  obtain ⟨k, rfl⟩ : ∃ j, k = j + 1 := ⟨k - 1, by omega⟩
  unfold impl_AddWide.f addAns
  simp only [impl_WideOk_eq, Option.bind_some]
  by_cases w : wok n h l = true
  · rw [if_pos w]
    by_cases w' : wok m h' l' = true
    · have hh := wok_high w
      have gg := wok_high w'
      have nz := wok_nz w
      have mz := wok_nz w'
      have sn := wval_neg n h0 l0
      have sm := wval_neg m g0 m0
      rw [nz] at sn
      rw [mz] at sm
      have dn := wval_def n h l
      have dm := wval_def m h' l'
      rw [w, w']
      simp only [impl_AddWide.j0, Bool.not_true, Bool.false_eq_true, if_false, Bool.and_self, if_true]
      generalize wval n h l = u at *
      generalize wval m h' l' = v at *
      by_cases c : (n != m) = true
      · rw [if_pos c]
        simp only [impl_compareSizes_eq n m h l h' l' k (by omega), cmp_sizes l0 l1 m0 m1, Option.bind_some]
        by_cases d : cmpI (h * 18446744073709551616 + l) (h' * 18446744073709551616 + l') < 0
        · rw [if_pos d]
          have dlt : h * 18446744073709551616 + l < h' * 18446744073709551616 + l' := by
            unfold cmpI at d
            by_cases e : h * 18446744073709551616 + l < h' * 18446744073709551616 + l'
            · exact e
            · rw [if_neg e] at d; split at d <;> omega
          have ⟨p, q⟩ := sub_parts m0 m1 l0 l1 g0 gg h0 (by omega)
          rw [bits_Sub64_eq l' l 0 (by omega)]
          simp only [Option.bind_some]
          rw [bits_Sub64_eq h' h _ (by split <;> omega)]
          simp only [Option.bind_some, impl_wideOf_eq]
          have e4 : iabs (u + v) = (h' - h - (if l' < l + 0 then 1 else 0)) % 18446744073709551616 * 18446744073709551616 + (l' - l - 0) % 18446744073709551616 := by
            rw [p]; subst dn dm; unfold iabs
            cases n <;> cases m <;> simp at c ⊢ <;> omega
          have sg : u + v ≠ 0 → decide (u + v < 0) = m := by
            intro _; subst dn dm
            cases n <;> cases m <;> simp at c ⊢ <;> omega
          generalize (h' - h - (if l' < l + 0 then 1 else 0)) % 18446744073709551616 = a at *
          have a0 : 0 ≤ a := by have := iabs_nonneg (u + v); omega
          have b0 : 0 ≤ (l' - l - 0) % 18446744073709551616 := by omega
          rw [wans_of e4 a0 b0 (by omega), if_pos q, sign_parts e4 a0 b0 sg]
        · rw [if_neg d]
          have dle : h' * 18446744073709551616 + l' ≤ h * 18446744073709551616 + l := by
            unfold cmpI at d
            by_cases e : h * 18446744073709551616 + l < h' * 18446744073709551616 + l'
            · rw [if_pos e] at d; omega
            · omega
          have ⟨p, q⟩ := sub_parts l0 l1 m0 m1 h0 hh g0 dle
          rw [bits_Sub64_eq l l' 0 (by omega)]
          simp only [Option.bind_some]
          rw [bits_Sub64_eq h h' _ (by split <;> omega)]
          simp only [Option.bind_some, impl_wideOf_eq]
          have e4 : iabs (u + v) = (h - h' - (if l < l' + 0 then 1 else 0)) % 18446744073709551616 * 18446744073709551616 + (l - l' - 0) % 18446744073709551616 := by
            rw [p]; subst dn dm; unfold iabs
            cases n <;> cases m <;> simp at c ⊢ <;> omega
          have sg : u + v ≠ 0 → decide (u + v < 0) = n := by
            intro z; subst dn dm
            cases n <;> cases m <;> simp at c z ⊢ <;> omega
          generalize (h - h' - (if l < l' + 0 then 1 else 0)) % 18446744073709551616 = a at *
          have a0 : 0 ≤ a := by have := iabs_nonneg (u + v); omega
          have b0 : 0 ≤ (l - l' - 0) % 18446744073709551616 := by omega
          rw [wans_of e4 a0 b0 (by omega), if_pos q, sign_parts e4 a0 b0 sg]
      · rw [if_neg c]
        have nm : n = m := by simpa using c
        subst nm
        rw [bits_Add64_eq' l l' 0 (by omega)]
        simp only [Option.bind_some]
        rw [bits_Add64_eq' h h' _ (by omega)]
        simp only [Option.bind_some, impl_wideOf_eq]
        have e4 : iabs (u + v) = (h + h' + (l + l' + 0) / 18446744073709551616) % 18446744073709551616 * 18446744073709551616 + (l + l' + 0) % 18446744073709551616 := by
          subst dn dm; unfold iabs
          cases n <;> simp <;> omega
        have sg : u + v ≠ 0 → decide (u + v < 0) = n := by
          intro z; subst dn dm
          cases n <;> simp at z ⊢ <;> omega
        have a0 : 0 ≤ (h + h' + (l + l' + 0) / 18446744073709551616) % 18446744073709551616 := by omega
        have b0 : 0 ≤ (l + l' + 0) % 18446744073709551616 := by omega
        have b1 : (l + l' + 0) % 18446744073709551616 < 18446744073709551616 := by omega
        generalize (h + h' + (l + l' + 0) / 18446744073709551616) % 18446744073709551616 = a at *
        generalize (l + l' + 0) % 18446744073709551616 = b at *
        have e6 := wok_wnz n a b
        rw [sign_parts e4 a0 b0 sg] at e6
        rw [wans_of e4 a0 b0 b1, sign_parts e4 a0 b0 sg, impl_WideOk_eq, e6]
        simp only [Option.bind_some]
        by_cases c3 : a < 9223372036854775808
        · rw [if_pos c3, if_pos (decide_eq_true c3)]
        · rw [if_neg c3, if_neg (by simpa using c3)]
    · have w2 : wok m h' l' = false := by simpa using w'
      rw [w2]
      simp [impl_AddWide.j0]
  · have w2 : wok n h l = false := by simpa using w
    rw [if_neg w, w2]
    simp [impl_AddWide.j0]

theorem impl_AddFrac_eq (n m : Bool) (h l d h' l' d' : Int) (h0 : 0 ≤ h) (l0 : 0 ≤ l) (l1 : l < 18446744073709551616) (d0 : -9223372036854775808 ≤ d) (d1 : d ≤ 9223372036854775807) (g0 : 0 ≤ h') (m0 : 0 ≤ l') (m1 : l' < 18446744073709551616) (e0 : -9223372036854775808 ≤ d') (e1 : d' ≤ 9223372036854775807) (k : Nat) (hk : 6 ≤ k) : impl_AddFrac.f k n h l d m h' l' d' = some (addFrac n h l d m h' l' d') := by
  unfold impl_AddFrac.f addFrac impl_fracOf.f
  have p := crossAns_parts n h l d m h' l' d'
  rw [impl_crossed_eq n m h l d h' l' d' h0 l0 l1 d0 d1 g0 m0 m1 e0 e1 k (by omega)]
  simp only [Option.bind_some]
  generalize crossAns n h l d m h' l' d' = c at *
  by_cases z : c.2.2.2.2.2.2 = true
  · rw [if_pos z, if_pos z, impl_AddWide_eq _ _ _ _ _ _ p.1 p.2.2.1 p.2.2.2.1 p.2.2.2.2.1 p.2.2.2.2.2.2.1 p.2.2.2.2.2.2.2 k hk]
    simp only [Option.bind_some]
    generalize addAns c.1 c.2.1 c.2.2.1 c.2.2.2.1 c.2.2.2.2.1 c.2.2.2.2.2.1 = s
    by_cases y : s.2.2.2 = true
    · rw [if_pos y, if_pos y]
      simp only [impl_FracOk_eq, Option.bind_some]
      by_cases x : (wok s.1 s.2.1 s.2.2.1 && iin (wrap64 (d * d')) 1 1000000) = true
      · rw [if_pos x, if_pos (show fok s.1 s.2.1 s.2.2.1 (wrap64 (d * d')) = true from x)]
        rfl
      · rw [if_neg x, if_neg (show ¬ fok s.1 s.2.1 s.2.2.1 (wrap64 (d * d')) = true from x)]
        rfl
    · rw [if_neg y, if_neg y]
  · rw [if_neg z, if_neg z]

theorem spec_l5Cross_eq (n m : Bool) (h l d h' l' d' : Int) (h0 : 0 ≤ h) (l0 : 0 ≤ l) (l1 : l < 18446744073709551616) (d0 : -9223372036854775808 ≤ d) (d1 : d ≤ 9223372036854775807) (g0 : 0 ≤ h') (m0 : 0 ≤ l') (m1 : l' < 18446744073709551616) (e0 : -9223372036854775808 ≤ d') (e1 : d' ≤ 9223372036854775807) (k : Nat) (hk : 1 ≤ k) : spec_l5Cross.f k n h l d m h' l' d' = some (crossAns n h l d m h' l' d') := by
  obtain ⟨k, rfl⟩ : ∃ j, k = j + 1 := ⟨k - 1, by omega⟩
  unfold spec_l5Cross.f crossAns fok
  simp only [spec_FracOk_eq, Option.bind_some, spec_l5Cross.j0, spec_ScaleWide_eq n h l d' h0 l0 l1 e0 e1, spec_ScaleWide_eq m h' l' d g0 m0 m1 d0 d1]
  cases (wok n h l && iin d 1 1000000) <;> cases (wok m h' l' && iin d' 1 1000000) <;> simp
  cases (scaleAns n h l d').2.2.2 <;> simp

theorem spec_AddFrac_eq (n m : Bool) (h l d h' l' d' : Int) (h0 : 0 ≤ h) (l0 : 0 ≤ l) (l1 : l < 18446744073709551616) (d0 : -9223372036854775808 ≤ d) (d1 : d ≤ 9223372036854775807) (g0 : 0 ≤ h') (m0 : 0 ≤ l') (m1 : l' < 18446744073709551616) (e0 : -9223372036854775808 ≤ d') (e1 : d' ≤ 9223372036854775807) (k : Nat) (hk : 6 ≤ k) : spec_AddFrac.f k n h l d m h' l' d' = some (addFrac n h l d m h' l' d') := by
  unfold spec_AddFrac.f addFrac
  have p := crossAns_parts n h l d m h' l' d'
  rw [spec_l5Cross_eq n m h l d h' l' d' h0 l0 l1 d0 d1 g0 m0 m1 e0 e1 k (by omega)]
  simp only [Option.bind_some]
  generalize crossAns n h l d m h' l' d' = c at *
  by_cases z : c.2.2.2.2.2.2 = true
  · rw [if_pos z, if_pos z, spec_AddWide_eq _ _ _ _ _ _ p.1 p.2.2.1 p.2.2.2.1 p.2.2.2.2.1 p.2.2.2.2.2.2.1 p.2.2.2.2.2.2.2 k hk]
    simp only [Option.bind_some]
    generalize addAns c.1 c.2.1 c.2.2.1 c.2.2.2.1 c.2.2.2.2.1 c.2.2.2.2.2.1 = s
    by_cases y : s.2.2.2 = true
    · rw [if_pos y, if_pos y]
      simp only [spec_FracOk_eq, Option.bind_some]
      by_cases x : (wok s.1 s.2.1 s.2.2.1 && iin (wrap64 (d * d')) 1 1000000) = true
      · rw [if_pos x, if_pos (show fok s.1 s.2.1 s.2.2.1 (wrap64 (d * d')) = true from x)]
      · rw [if_neg x, if_neg (show ¬ fok s.1 s.2.1 s.2.2.1 (wrap64 (d * d')) = true from x)]
    · rw [if_neg y, if_neg y]
  · rw [if_neg z, if_neg z]

theorem impl_MulWide_eq (a b : Int) (ha0 : -9223372036854775808 ≤ a) (ha1 : a ≤ 9223372036854775807) (hb0 : -9223372036854775808 ≤ b) (hb1 : b ≤ 9223372036854775807) : impl_MulWide.f a b = some (wnorm (a * b)) := by
  have ⟨a2, a3⟩ := iabs_u64 ha0 ha1
  have ⟨b2, b3⟩ := iabs_u64 hb0 hb1
  unfold impl_MulWide.f
  simp only [impl_size_eq a ha0 ha1, impl_size_eq b hb0 hb1, bits_Mul64_eq _ _ a2 a3 b2 b3, impl_wideOf_eq, Option.bind_some, wnorm, wnz, iabs_mul, mul_sign]
  have hn := iabs_nonneg (a * b)
  have hz : (decide (iabs (a * b) / 18446744073709551616 > 0) || decide (iabs (a * b) % 18446744073709551616 > 0)) = ((a != 0) && (b != 0)) := by
    by_cases c : a = 0
    · subst c; simp [iabs]
    · by_cases d : b = 0
      · subst d; simp [iabs]
      · have hab : a * b ≠ 0 := Int.mul_ne_zero c d
        have : iabs (a * b) > 0 := by unfold iabs; split <;> omega
        have e : (a != 0 && b != 0) = true := by simp [c, d]
        rw [e]
        by_cases f : iabs (a * b) / 18446744073709551616 > 0
        · simp [f]
        · have : iabs (a * b) % 18446744073709551616 > 0 := by omega
          simp [this]
  rw [hz, ← Bool.and_assoc]

theorem impl_SquareOver_eq (g d : Int) (g0 : -9223372036854775808 ≤ g) (g1 : g ≤ 9223372036854775807) : impl_SquareOver.f g d = some (sqAns g d) := by
  unfold impl_SquareOver.f impl_fracOf.f sqAns fok
  simp only [impl_MulWide_eq g g g0 g1 g0 g1, impl_FracOk_eq, Option.bind_some]
  by_cases c : (wok (wnorm (g * g)).1 (wnorm (g * g)).2.1 (wnorm (g * g)).2.2 && iin d 1 1000000) = true
  · rw [if_pos c, if_pos c]
    rfl
  · rw [if_neg c, if_neg c]
    rfl

theorem spec_CompareWide_eq (n m : Bool) (h l h' l' : Int) (hh : 0 ≤ h) (l0 : 0 ≤ l) (l1 : l < 18446744073709551616) (hh' : 0 ≤ h') (m0 : 0 ≤ l') (m1 : l' < 18446744073709551616) (k : Nat) (hk : 6 ≤ k) :
    spec_CompareWide.f k n h l m h' l' = some (cmpI (wval n h l) (wval m h' l')) := by
  obtain ⟨k, rfl⟩ : ∃ j, k = j + 4 := ⟨k - 4, by omega⟩
  unfold spec_CompareWide.f
  simp only [spec_CompareWide.j0, spec_CompareWide.j1, spec_CompareWide.j2, spec_CompareWide.j3, spec_l3Zero_eq, Option.bind_some, spec_l3Order_eq _ _ h l h' l' l0 l1 m0 m1 k (by omega), spec_l3Order_eq _ _ h' l' h l m0 m1 l0 l1 k (by omega)]
  cases n <;> cases m
  · simp [wval]
  · by_cases c : h' = 0 ∧ l' = 0
    · obtain ⟨rfl, rfl⟩ := c
      simp [wval]
    · have c2 : (h' == 0 && l' == 0) = false := by simpa using c
      simp [c2, wval, cmpI]
      rw [if_neg (by omega), if_pos (by omega)]
  · by_cases c : h = 0 ∧ l = 0
    · obtain ⟨rfl, rfl⟩ := c
      simp [wval]
    · have c2 : (h == 0 && l == 0) = false := by simpa using c
      simp [c2, wval, cmpI]
      try omega
  · by_cases c : h = 0 ∧ l = 0
    · obtain ⟨rfl, rfl⟩ := c
      by_cases d : h' = 0 ∧ l' = 0
      · obtain ⟨rfl, rfl⟩ := d
        simp [wval]
      · have d2 : (h' == 0 && l' == 0) = false := by simpa using d
        simp [d2, wval, cmpI]
        rw [if_neg (by omega), if_pos (by omega)]
    · have c2 : (h == 0 && l == 0) = false := by simpa using c
      by_cases d : h' = 0 ∧ l' = 0
      · obtain ⟨rfl, rfl⟩ := d
        simp [c2, wval, cmpI]
        try omega
      · have d2 : (h' == 0 && l' == 0) = false := by simpa using d
        simp [c2, d2, wval, cmpI]

theorem wu (n : Int) : IntKind.u64.wrap n = n % 18446744073709551616 := wu64 n
theorem leadingZeros_chunk : bits_LeadingZeros64.f 10000000000000000000 = some 0 := by
  unfold bits_LeadingZeros64.f bits_Len64.f
  have e : Go.Lib.bitLen (10000000000000000000 : Int).toNat = 64 := by decide +kernel
  rw [if_pos (by omega), e]
  show some (wrap64 (64 - ((64 : Nat) : Int))) = some 0
  rw [w64_id (by omega) (by omega)]; rfl
theorem div_stage1 (h u1 u0 : Int) (h0 : 0 ≤ h) (h1 : h < 10000000000000000000) (a0 : 0 ≤ u1) (a1 : u1 < 4294967296) (d : Nat) : ∀ (k : Nat) (q r : Int), (h * 4294967296 + u1) / 10000000000000000000 ≤ q → q ≤ 4294967297 → 0 ≤ r → r < 4294967296 → r = h - q * 2328306436 → 4294967296 ≤ r + d * 2328306436 → 2 * d < k →
    ∃ k', k ≤ k' + 2 * d + 2 ∧ bits_Div64.l0 k 10000000000000000000 0 2328306436 2313682944 h u1 u0 q r = bits_Div64.j2 k' 10000000000000000000 0 2328306436 2313682944 h u1 u0 ((h * 4294967296 + u1) / 10000000000000000000) := by
  induction d with
  | zero => intro k q r _ _ _ hr _ hd; omega
  | succ d ih =>
    intro k q r hq hq2 r0 r1 hr hd hk
    obtain ⟨k, rfl⟩ : ∃ m, k = m + 2 := ⟨k - 2, by omega⟩
    have eq1 : IntKind.u64.wrap (q * 2313682944) = q * 2313682944 := by rw [wu]; omega
    have eq2 : IntKind.u64.wrap (IntKind.u64.wrap (4294967296 * r) + u1) = 4294967296 * r + u1 := by rw [wu, wu]; omega
    have eq3 : IntKind.u64.wrap (r + 2328306436) = r + 2328306436 := by rw [wu]; omega
    have down : ((h * 4294967296 + u1) / 10000000000000000000 < q) → ∃ k', k + 2 ≤ k' + 2 * (d + 1) + 2 ∧ bits_Div64.j1 (k + 1) 10000000000000000000 0 2328306436 2313682944 h u1 u0 q r true = bits_Div64.j2 k' 10000000000000000000 0 2328306436 2313682944 h u1 u0 ((h * 4294967296 + u1) / 10000000000000000000) := by
      intro hlt
      have eq4 : IntKind.u64.wrap (q - 1) = q - 1 := by rw [wu]; omega
      simp only [bits_Div64.j1]
      rw [if_pos trivial, eq3, eq4]
      by_cases c : r + 2328306436 ≥ 4294967296
      · rw [if_pos c]
        have e : q - 1 = (h * 4294967296 + u1) / 10000000000000000000 := by omega
        rw [e]
        exact ⟨k, by omega, rfl⟩
      · rw [if_neg c]
        obtain ⟨k', hk', e⟩ := ih k (q - 1) (r + 2328306436) (by omega) (by omega) (by omega) (by omega) (by omega) (by omega) (by omega)
        exact ⟨k', by omega, e⟩
    rw [show k + 2 = (k + 1) + 1 from rfl]
    simp only [bits_Div64.l0]
    by_cases c1 : q ≥ 4294967296
    · rw [if_pos c1]
      exact down (by omega)
    · rw [if_neg c1, eq1, eq2]
      by_cases c2 : q * 2313682944 > 4294967296 * r + u1
      · rw [decide_eq_true c2]
        exact down (by omega)
      · rw [decide_eq_false c2]
        simp only [bits_Div64.j1]
        rw [if_neg (by decide)]
        have e : q = (h * 4294967296 + u1) / 10000000000000000000 := by omega
        rw [← e]
        exact ⟨k, by omega, rfl⟩
theorem div_stage2 (h u0 t : Int) (h0 : 0 ≤ h) (h1 : h < 10000000000000000000) (a0 : 0 ≤ u0) (a1 : u0 < 4294967296) (d : Nat) : ∀ (k : Nat) (q r : Int), (h * 4294967296 + u0) / 10000000000000000000 ≤ q → q ≤ 4294967297 → 0 ≤ r → r < 4294967296 → r = h - q * 2328306436 → 4294967296 ≤ r + d * 2328306436 → 2 * d < k →
    bits_Div64.l1 k 10000000000000000000 0 2328306436 2313682944 u0 t r h q = some (IntKind.u64.wrap (IntKind.u64.wrap (t * 4294967296) + (h * 4294967296 + u0) / 10000000000000000000), (h * 4294967296 + u0) % 10000000000000000000) := by
  induction d with
  | zero => intro k q r _ _ _ hr _ hd; omega
  | succ d ih =>
    intro k q r hq hq2 r0 r1 hr hd hk
    obtain ⟨k, rfl⟩ : ∃ m, k = m + 2 := ⟨k - 2, by omega⟩
    have eq1 : IntKind.u64.wrap (q * 2313682944) = q * 2313682944 := by rw [wu]; omega
    have eq2 : IntKind.u64.wrap (IntKind.u64.wrap (4294967296 * r) + u0) = 4294967296 * r + u0 := by rw [wu, wu]; omega
    have eq3 : IntKind.u64.wrap (r + 2328306436) = r + 2328306436 := by rw [wu]; omega
    have fin : ∀ z : Int, z = (h * 4294967296 + u0) / 10000000000000000000 → shr .u64 (IntKind.u64.wrap (IntKind.u64.wrap (IntKind.u64.wrap (h * 4294967296) + u0) - IntKind.u64.wrap (z * 10000000000000000000))) 0 = (h * 4294967296 + u0) % 10000000000000000000 := by
      intro z hz
      have e0 : shr .u64 (IntKind.u64.wrap (IntKind.u64.wrap (IntKind.u64.wrap (h * 4294967296) + u0) - IntKind.u64.wrap (z * 10000000000000000000))) 0 = IntKind.u64.wrap (IntKind.u64.wrap (IntKind.u64.wrap (h * 4294967296) + u0) - IntKind.u64.wrap (z * 10000000000000000000)) := by
        unfold shr; simp
      rw [e0, wu, wu, wu, wu]
      omega
    have down : ((h * 4294967296 + u0) / 10000000000000000000 < q) → bits_Div64.j4 (k + 1) 10000000000000000000 0 2328306436 2313682944 u0 t r h q true = some (IntKind.u64.wrap (IntKind.u64.wrap (t * 4294967296) + (h * 4294967296 + u0) / 10000000000000000000), (h * 4294967296 + u0) % 10000000000000000000) := by
      intro hlt
      have eq4 : IntKind.u64.wrap (q - 1) = q - 1 := by rw [wu]; omega
      simp only [bits_Div64.j4]
      rw [if_pos trivial, eq3, eq4]
      by_cases c : r + 2328306436 ≥ 4294967296
      · rw [if_pos c, if_pos (by decide)]
        have e : q - 1 = (h * 4294967296 + u0) / 10000000000000000000 := by omega
        rw [fin _ e, e]
      · rw [if_neg c]
        exact ih k (q - 1) (r + 2328306436) (by omega) (by omega) (by omega) (by omega) (by omega) (by omega) (by omega)
    rw [show k + 2 = (k + 1) + 1 from rfl]
    simp only [bits_Div64.l1]
    by_cases c1 : q ≥ 4294967296
    · rw [if_pos c1]
      exact down (by omega)
    · rw [if_neg c1, eq1, eq2]
      by_cases c2 : q * 2313682944 > 4294967296 * r + u0
      · rw [decide_eq_true c2]
        exact down (by omega)
      · rw [decide_eq_false c2]
        simp only [bits_Div64.j4]
        rw [if_neg (by decide), if_pos (by decide)]
        have e : q = (h * 4294967296 + u0) / 10000000000000000000 := by omega
        rw [fin _ e, ← e]
theorem Div64_is (h l : Int) (h0 : 0 ≤ h) (h1 : h < 10000000000000000000) (l0 : 0 ≤ l) (l1 : l < 18446744073709551616) (k : Nat) (hk : 30 ≤ k) :
    bits_Div64.f k h l 10000000000000000000 = some ((h * 18446744073709551616 + l) / 10000000000000000000, (h * 18446744073709551616 + l) % 10000000000000000000) := by
  unfold bits_Div64.f
  rw [if_neg (by decide), if_neg (by omega)]
  by_cases z : h = 0
  · rw [if_pos z, wu, Int.tdiv_eq_ediv_of_nonneg l0, Int.tmod_eq_emod_of_nonneg l0]
    subst z
    congr 2
    · omega
    · omega
  · rw [if_neg z, leadingZeros_chunk]
    simp only [Option.bind_some]
    have w0 : IntKind.u64.wrap 0 = 0 := by decide
    have w64 : IntKind.u64.wrap (64 - 0) = 64 := by decide
    rw [w0, w64]
    have sC : shl .u64 10000000000000000000 0 = 10000000000000000000 := by decide +kernel
    have sh : shl .u64 h 0 = h := by unfold shl; simp; rw [wu]; omega
    have sl : shl .u64 l 0 = l := by unfold shl; simp; rw [wu]; omega
    have sr : shr .u64 l 64 = 0 := by
      unfold shr
      have e : (2 : Int) ^ min (64 : Int).toNat IntKind.u64.bits = 18446744073709551616 := by decide +kernel
      rw [e]; omega
    have orz : Go.bits .or .u64 h 0 = h := by
      rw [or_u64]
      have e : ((0 : Int) % 18446744073709551616).toNat = 0 := rfl
      rw [e, Nat.or_zero, wu]; omega
    have d1 : (10000000000000000000 : Int) / 4294967296 = 2328306436 := by decide +kernel
    have m1 : Go.bits .and .u64 10000000000000000000 4294967295 = 2313682944 := by rw [and_mask32 _ (by decide) (by decide)]; decide +kernel
    rw [sC, sh, sl, sr, orz, d1, m1, and_mask32 l l0 l1, if_pos (by decide), if_pos (by decide), if_neg (by decide)]
    have tq : IntKind.u64.wrap (Int.tdiv h 2328306436) = h / 2328306436 := by rw [Int.tdiv_eq_ediv_of_nonneg h0, wu]; omega
    rw [tq]
    have tr : IntKind.u64.wrap (h - IntKind.u64.wrap (h / 2328306436 * 2328306436)) = h - h / 2328306436 * 2328306436 := by rw [wu, wu]; omega
    rw [tr]
    generalize hu1 : l / 4294967296 = u1
    generalize hu0 : l % 4294967296 = u0
    have b1 : 0 ≤ u1 ∧ u1 < 4294967296 := by omega
    have b0 : 0 ≤ u0 ∧ u0 < 4294967296 := by omega
    have el : l = u1 * 4294967296 + u0 := by omega
    clear hu1 hu0
    obtain ⟨k', hk', e⟩ := div_stage1 h u1 u0 h0 h1 b1.1 b1.2 2 k (h / 2328306436) (h - h / 2328306436 * 2328306436) (by omega) (by omega) (by omega) (by omega) rfl (by omega) (by omega)
    rw [e]
    clear e tq tr w0 w64 sC sh sl sr orz d1 m1
    obtain ⟨k', rfl⟩ : ∃ m, k' = m + 1 := ⟨k' - 1, by omega⟩
    simp only [bits_Div64.j2]
    rw [if_neg (by decide)]
    generalize hT : (h * 4294967296 + u1) / 10000000000000000000 = T
    have hR : IntKind.u64.wrap (IntKind.u64.wrap (IntKind.u64.wrap (h * 4294967296) + u1) - IntKind.u64.wrap (T * 10000000000000000000)) = h * 4294967296 + u1 - T * 10000000000000000000 := by
      rw [wu, wu, wu, wu]; omega
    rw [hR]
    generalize hRR : h * 4294967296 + u1 - T * 10000000000000000000 = R
    have bR : 0 ≤ R ∧ R < 10000000000000000000 := by omega
    have bT : 0 ≤ T ∧ T < 4294967296 := by omega
    clear hR
    have tq : IntKind.u64.wrap (Int.tdiv R 2328306436) = R / 2328306436 := by rw [Int.tdiv_eq_ediv_of_nonneg bR.1, wu]; omega
    rw [tq]
    have tr : IntKind.u64.wrap (R - IntKind.u64.wrap (R / 2328306436 * 2328306436)) = R - R / 2328306436 * 2328306436 := by rw [wu, wu]; omega
    rw [tr]
    clear tq tr
    rw [div_stage2 R u0 T bR.1 bR.2 b0.1 b0.2 2 k' (R / 2328306436) (R - R / 2328306436 * 2328306436) (by omega) (by omega) (by omega) (by omega) rfl (by omega) (by omega)]
    have hN : h * 18446744073709551616 + l = (T * 10000000000000000000 + R) * 4294967296 + u0 := by omega
    rw [hN, wu, wu]
    clear hN hT hRR el
    congr 2
    · omega
    · omega

/-- The decimal digits of a number, none for 0. -/
def digs (u : Nat) : List UInt8 := if u = 0 then [] else Go.Lib.decDigits u
theorem digs_step {u : Nat} (h : u ≠ 0) : digs u = digs (u / 10) ++ [UInt8.ofNat (48 + u % 10)] := by
  unfold digs
  rw [if_neg h]
  by_cases c : u < 10
  · rw [Go.Lib.decDigits_one c, if_pos (by omega)]
    have : u % 10 = u := Nat.mod_eq_of_lt c
    rw [this]; rfl
  · rw [Go.Lib.decDigits, dif_neg c, if_neg (by omega)]
theorem byte_of (n : Nat) (h : n < 10) : strOfNums [(wrap64 (48 + (n : Int))) % 256] = ⟨#[UInt8.ofNat (48 + n)]⟩ := by
  have e : (wrap64 (48 + (n : Int))) % 256 = ((48 + n : Nat) : Int) := by unfold wrap64; omega
  rw [e]
  rfl
theorem mk_app (a b : List UInt8) : (⟨a.toArray⟩ : ByteArray) ++ ⟨b.toArray⟩ = ⟨(a ++ b).toArray⟩ := by
  apply ByteArray.ext
  simp

/-- The last k digits of a number, noughts ahead. -/
def padD : Nat → Nat → List UInt8
  | 0, _ => []
  | k + 1, b => padD k (b / 10) ++ [UInt8.ofNat (48 + b % 10)]
theorem padD_len : ∀ (k b : Nat), (padD k b).length = k
  | 0, _ => rfl
  | k + 1, b => by simp [padD, padD_len k]
theorem dec_pad (k : Nat) : ∀ (a b : Nat), 0 < a → b < 10 ^ k → Go.Lib.decDigits (a * 10 ^ k + b) = Go.Lib.decDigits a ++ padD k b := by
  induction k with
  | zero => intro a b ha hb; have : b = 0 := by simpa using hb
            subst this; simp [padD]
  | succ k ih =>
    intro a b ha hb
    have e : a * 10 ^ (k + 1) = a * 10 ^ k * 10 := by rw [Nat.pow_succ, Nat.mul_assoc]
    rw [Nat.pow_succ] at hb
    have h10 : 1 ≤ 10 ^ k := Nat.pos_of_ne_zero (by simp)
    have hm : a * 10 ^ k ≥ 1 := Nat.mul_pos ha h10
    have h := ih a (b / 10) ha (by omega)
    rw [e]
    generalize a * 10 ^ k = z at *
    rw [Go.Lib.decDigits, dif_neg (by omega)]
    have e1 : (z * 10 + b) / 10 = z + b / 10 := by omega
    have e2 : (z * 10 + b) % 10 = b % 10 := by omega
    rw [e1, e2, h, padD, List.append_assoc]
theorem padD_zero : ∀ k, padD k 0 = List.replicate k 48
  | 0 => rfl
  | k + 1 => by rw [padD, show (0:Nat)/10 = 0 from rfl, padD_zero k, List.replicate_succ']; rfl
theorem padD_eq (k : Nat) : ∀ b, 0 < k → b < 10 ^ k → padD k b = List.replicate (k - (Go.Lib.decDigits b).length) 48 ++ Go.Lib.decDigits b := by
  induction k with
  | zero => intro b h; omega
  | succ k ih =>
    intro b _ hb
    by_cases c : b < 10
    · rw [Go.Lib.decDigits, dif_pos c, padD]
      have e1 : b / 10 = 0 := by omega
      have e2 : b % 10 = b := by omega
      rw [e1, e2, padD_zero]; rfl
    · rw [Nat.pow_succ] at hb
      have hk : 0 < k := by
        rcases Nat.eq_zero_or_pos k with h | h
        · subst h; simp at hb; omega
        · exact h
      rw [Go.Lib.decDigits, dif_neg c, padD, ih (b / 10) hk (by omega)]
      simp [Nat.add_sub_add_right]
theorem dec_len_le (k : Nat) : ∀ b, 0 < k → b < 10 ^ k → (Go.Lib.decDigits b).length ≤ k := by
  intro b hk hb
  have h := padD_len k b
  rw [padD_eq k b hk hb] at h
  simp at h
  omega

/-- A number's text behind its sign. -/
def wideL (neg : Bool) (n : Nat) : List UInt8 := (if neg = true then [45] else []) ++ Go.Lib.decDigits n
theorem mkz (l : List UInt8) : (⟨l.toArray⟩ : ByteArray).size = l.length := by simp [ByteArray.size]
theorem dec_step (n : Nat) : Go.Lib.decDigits n = digs (n / 10) ++ [UInt8.ofNat (48 + n % 10)] := by
  by_cases c : n < 10
  · have e : n / 10 = 0 := by omega
    have e2 : n % 10 = n := by omega
    rw [e, e2, Go.Lib.decDigits_one c]; rfl
  · rw [Go.Lib.decDigits, dif_neg c]
    have e : digs (n / 10) = Go.Lib.decDigits (n / 10) := by unfold digs; rw [if_neg (by omega)]
    rw [e]

theorem repeat_zero : ∀ c : Nat, Go.Lib.repeatL [48] c = List.replicate c (48 : UInt8)
  | 0 => rfl
  | c + 1 => by rw [Go.Lib.repeatL, repeat_zero c]; rfl
theorem FormatUint_is (n : Nat) (h : n < 18446744073709551616) : strconv_FormatUint_47.f (n : Int) 10 = some ⟨(Go.Lib.decDigits n).toArray⟩ := by
  unfold strconv_FormatUint_47.f
  rw [if_pos ⟨by omega, by omega, rfl⟩]
  rfl
theorem Repeat_is (c : Nat) (h : c ≤ 19) : strings_Repeat.f ⟨#[48]⟩ (c : Int) = some ⟨(List.replicate c (48 : UInt8)).toArray⟩ := by
  unfold strings_Repeat.f
  have e : (⟨#[48]⟩ : ByteArray).size = 1 := rfl
  rw [e, if_pos ⟨by omega, by omega, by omega⟩]
  have e2 : (c : Int).toNat = c := by omega
  rw [e2, show (⟨#[48]⟩ : ByteArray).data.toList = [48] from rfl, repeat_zero]
theorem dec19 (n : Nat) (h : n < 10000000000000000000) : (Go.Lib.decDigits n).length ≤ 19 := dec_len_le 19 n (by decide) (by omega)
theorem pad19 (n : Nat) (h : n < 10000000000000000000) : padD 19 n = List.replicate (19 - (Go.Lib.decDigits n).length) 48 ++ Go.Lib.decDigits n := padD_eq 19 n (by decide) (by omega)
theorem dec_pad19 (a b : Nat) (ha : 0 < a) (hb : b < 10000000000000000000) : Go.Lib.decDigits (a * 10000000000000000000 + b) = Go.Lib.decDigits a ++ (List.replicate (19 - (Go.Lib.decDigits b).length) 48 ++ Go.Lib.decDigits b) := by
  rw [← pad19 b hb, ← dec_pad 19 a b ha (by omega)]
theorem Div64_zero (l : Int) (l0 : 0 ≤ l) (l1 : l < 18446744073709551616) (k : Nat) : bits_Div64.f k 0 l 10000000000000000000 = some (l / 10000000000000000000, l % 10000000000000000000) := by
  unfold bits_Div64.f
  rw [if_neg (by decide), if_neg (by decide), if_pos rfl, wu, Int.tdiv_eq_ediv_of_nonneg l0, Int.tmod_eq_emod_of_nonneg l0]
  have e : l / 10000000000000000000 % 18446744073709551616 = l / 10000000000000000000 := by omega
  rw [e]
theorem impl_WideText_j1 (sg : List UInt8) (hs : sg.length ≤ 1) (lo la k : Nat) (hk : 30 ≤ k) (blo : lo < 18446744073709551616) (bla : la < 10000000000000000000) :
    impl_WideText.j1 (k + 1) ⟨sg.toArray⟩ 0 (lo : Int) (la : Int) ((lo : Int) == 0) = some ⟨(sg ++ Go.Lib.decDigits (lo * 10000000000000000000 + la)).toArray⟩ := by
  simp only [impl_WideText.j1]
  have fla := FormatUint_is la (by omega)
  have lla := dec19 la bla
  by_cases z : lo = 0
  · subst z
    rw [if_pos (by decide), fla]
    simp only [Option.bind_some]
    rw [mkz, mkz, if_pos (by omega), mk_app]
    have : 0 * 10000000000000000000 + la = la := by omega
    rw [this]
  · have z' : ¬ ((((lo : Nat) : Int) == 0) = true) := by simpa using z
    obtain ⟨fi, hfi⟩ : ∃ fi : Nat, fi = lo / 10000000000000000000 := ⟨_, rfl⟩
    obtain ⟨se, hse⟩ : ∃ se : Nat, se = lo % 10000000000000000000 := ⟨_, rfl⟩
    have e1 : ((lo : Nat) : Int) / 10000000000000000000 = (fi : Int) := by omega
    have e2 : ((lo : Nat) : Int) % 10000000000000000000 = (se : Int) := by omega
    have hs2 : lo = fi * 10000000000000000000 + se := by omega
    have bf : fi < 10 := by omega
    have bs : se < 10000000000000000000 := by omega
    obtain ⟨p, hp⟩ : ∃ p : Int × Int, p = ((fi : Int), (se : Int)) := ⟨_, rfl⟩
    have p1 : p.1 = (fi : Int) := by rw [hp]
    have p2 : p.2 = (se : Int) := by rw [hp]
    rw [if_neg z', Div64_zero lo (by omega) (by omega) k, e1, e2, ← hp]
    clear hfi hse e1 e2 hp
    rw [Option.bind_some, p1, p2, fla]
    simp only [Option.bind_some]
    rw [mkz]
    have w19 : wrap64 (19 - (((Go.Lib.decDigits la).length : Nat) : Int)) = ((19 - (Go.Lib.decDigits la).length : Nat) : Int) := by rw [w64_id (by omega) (by omega)]; omega
    rw [w19, Repeat_is _ (by omega)]
    simp only [Option.bind_some]
    have dla := dec_pad19 lo la (by omega) bla
    rw [dla]
    clear dla w19 z'
    have fse := FormatUint_is se (by omega)
    have lse := dec19 se bs
    rw [mkz, List.length_replicate, if_pos (by omega), fse]
    simp only [Option.bind_some]
    by_cases zf : fi = 0
    · subst zf
      rw [if_pos (by decide), mkz, mkz, if_pos (by omega), mk_app, mk_app, mkz, mkz, if_pos (by simp only [List.length_append, List.length_replicate]; omega), mk_app]
      have : lo = se := by omega
      rw [this]
      simp
    · rw [if_neg (by omega), FormatUint_is fi (by omega)]
      simp only [Option.bind_some]
      have lfi := dec19 fi (by omega)
      have w19 : wrap64 (19 - (((Go.Lib.decDigits se).length : Nat) : Int)) = ((19 - (Go.Lib.decDigits se).length : Nat) : Int) := by rw [w64_id (by omega) (by omega)]; omega
      rw [mkz, mkz, if_pos (by omega), mkz, w19, Repeat_is _ (by omega)]
      simp only [Option.bind_some]
      have dlo := dec_pad19 fi se (by omega) bs
      rw [← hs2] at dlo
      rw [dlo]
      simp only [mk_app, mkz, List.length_append, List.length_replicate]
      rw [if_pos (by omega), if_pos (by omega), if_pos (by omega)]
      simp
theorem impl_WideText_w (sg : List UInt8) (hs : sg.length ≤ 1) (n k : Nat) (hk : 40 ≤ k) (hn : n < 170141183460469231731687303715884105728) (y : Bool) (h l : Int) (h0 : 0 ≤ h) (l0 : 0 ≤ l) (l1 : l < 18446744073709551616) (e : (n : Int) = h * 18446744073709551616 + l) :
    impl_WideText.j0 k ⟨sg.toArray⟩ y h l = some ⟨(sg ++ Go.Lib.decDigits n).toArray⟩ := by
  obtain ⟨k, rfl⟩ : ∃ m, k = m + 2 := ⟨k - 2, by omega⟩
  have hh : h < 9223372036854775808 := by omega
  rw [show k + 2 = (k + 1) + 1 from rfl]
  simp only [impl_WideText.j0]
  have t1 : Int.tmod h 10000000000000000000 = h := by rw [Int.tmod_eq_emod_of_nonneg h0]; omega
  have t2 : IntKind.u64.wrap (Int.tdiv h 10000000000000000000) = 0 := by rw [Int.tdiv_eq_ediv_of_nonneg h0, wu]; omega
  rw [t1, t2, Div64_is h l h0 (by omega) l0 l1 (k + 1) (by omega), ← e]
  clear t1 t2
  simp only [Option.bind_some]
  rw [if_pos trivial]
  obtain ⟨lo, hlo⟩ : ∃ lo : Nat, lo = n / 10000000000000000000 := ⟨_, rfl⟩
  obtain ⟨la, hla⟩ : ∃ la : Nat, la = n % 10000000000000000000 := ⟨_, rfl⟩
  have ed : (n : Int) / 10000000000000000000 = (lo : Int) := by omega
  have em : (n : Int) % 10000000000000000000 = (la : Int) := by omega
  have hsplit : n = lo * 10000000000000000000 + la := by omega
  rw [ed, em, impl_WideText_j1 sg hs lo la k (by omega) (by omega) (by omega), ← hsplit]
theorem impl_WideText_is (b : Bool) (h l : Int) (h0 : 0 ≤ h) (l0 : 0 ≤ l) (l1 : l < 18446744073709551616) (k : Nat) (hk : 60 ≤ k) : impl_WideText.f k b h l = some ⟨(if wok b h l = true then wideL b (h * 18446744073709551616 + l).toNat else []).toArray⟩ := by
  unfold impl_WideText.f
  rw [impl_WideOk_eq]
  simp only [Option.bind_some]
  by_cases w : wok b h l = true
  · rw [if_pos w, if_pos w]
    have hn : (h * 18446744073709551616 + l).toNat < 170141183460469231731687303715884105728 := by
      unfold wok at w
      simp at w
      omega
    have eN : (((h * 18446744073709551616 + l).toNat : Nat) : Int) = h * 18446744073709551616 + l := by omega
    cases b
    · rw [if_neg (by decide)]
      exact (impl_WideText_w [] (by decide) _ k (by omega) hn false h l h0 l0 l1 eN).trans rfl
    · rw [if_pos rfl]
      exact (impl_WideText_w [45] (by decide) _ k (by omega) hn true h l h0 l0 l1 eN).trans rfl
  · rw [if_neg w, if_neg w]

theorem impl_Digits_is (n : Int) (b0 : -9223372036854775808 ≤ n) (b1 : n ≤ 9223372036854775807) : impl_Digits.f n = some ⟨(Go.Lib.itoa n).toArray⟩ := by
  unfold impl_Digits.f strconv_Itoa_102.f
  rw [if_pos ⟨b0, b1⟩]; rfl

theorem itoa20 (v : Int) (h0 : -9223372036854775808 ≤ v) (h1 : v ≤ 9223372036854775807) : (Go.Lib.itoa v).length ≤ 20 := by
  unfold Go.Lib.itoa
  by_cases c : v < 0
  · rw [if_pos c]
    have := dec_len_le 19 v.natAbs (by decide) (by omega)
    simp only [List.length_cons]; omega
  · rw [if_neg c]
    have := dec_len_le 19 v.toNat (by decide) (by omega)
    omega

def fracL (n : Bool) (h l d : Int) : List UInt8 := if (wok n h l && iin d 1 1000000) = true then wideL n (h * 18446744073709551616 + l).toNat ++ (47 :: Go.Lib.itoa d) else []
theorem wideL_len (n : Bool) (v : Nat) (h : v < 170141183460469231731687303715884105728) : (wideL n v).length ≤ 40 := by
  have e : (170141183460469231731687303715884105728 : Nat) ≤ 10 ^ 39 := by decide +kernel
  have := dec_len_le 39 v (by decide) (Nat.lt_of_lt_of_le h e)
  unfold wideL
  cases n <;> simp <;> omega
theorem fok_bound {n : Bool} {h l d : Int} (h0 : 0 ≤ h) (l0 : 0 ≤ l) (l1 : l < 18446744073709551616) (w : (wok n h l && iin d 1 1000000) = true) : wok n h l = true ∧ (h * 18446744073709551616 + l).toNat < 170141183460469231731687303715884105728 ∧ 1 ≤ d ∧ d ≤ 1000000 := by
  have a : wok n h l = true := by
    cases q : wok n h l
    · rw [q] at w; simp at w
    · rfl
  rw [a] at w
  have b : h < 9223372036854775808 := by unfold wok at a; simp at a; omega
  unfold iin at w
  simp at w
  exact ⟨a, by omega, by omega, by omega⟩
theorem impl_FracText_is (n : Bool) (h l d : Int) (h0 : 0 ≤ h) (l0 : 0 ≤ l) (l1 : l < 18446744073709551616) (k : Nat) (hk : 60 ≤ k) : impl_FracText.f k n h l d = some ⟨(fracL n h l d).toArray⟩ := by
  unfold impl_FracText.f fracL
  rw [impl_FracOk_eq]
  simp only [Option.bind_some]
  by_cases w : (wok n h l && iin d 1 1000000) = true
  · rw [if_pos w, if_pos w]
    obtain ⟨a, b, d0, d1⟩ := fok_bound h0 l0 l1 w
    rw [impl_WideText_is n h l h0 l0 l1 k hk, if_pos a]
    simp only [Option.bind_some]
    have lw := wideL_len n _ b
    generalize wideL n (h * 18446744073709551616 + l).toNat = u at *
    have ld := itoa20 d (by omega) (by omega)
    have e47 : (⟨#[47]⟩ : ByteArray) = ⟨([47] : List UInt8).toArray⟩ := rfl
    rw [mkz, if_pos (by omega), impl_Digits_is d (by omega) (by omega)]
    simp only [Option.bind_some]
    rw [e47, mk_app, mkz, mkz, List.length_append, List.length_singleton, if_pos (by omega), mk_app]
    simp
  · rw [if_neg w, if_neg w]

theorem addAns_comm (n : Bool) (h l : Int) (m : Bool) (h' l' : Int) : addAns n h l m h' l' = addAns m h' l' n h l := by
  unfold addAns
  rw [Int.add_comm, Bool.and_comm]
theorem addFrac_comm (n : Bool) (h l d : Int) (m : Bool) (h' l' d' : Int) : addFrac n h l d m h' l' d' = addFrac m h' l' d' n h l d := by
  have f : (crossAns m h' l' d' n h l d).2.2.2.2.2.2 = (crossAns n h l d m h' l' d').2.2.2.2.2.2 := by
    rw [cross_flag, cross_flag]
    cases fok n h l d <;> cases fok m h' l' d' <;> cases (scaleAns n h l d').2.2.2 <;> cases (scaleAns m h' l' d).2.2.2 <;> rfl
  have sw : (crossAns m h' l' d' n h l d).1 = (crossAns n h l d m h' l' d').2.2.2.1 ∧ (crossAns m h' l' d' n h l d).2.1 = (crossAns n h l d m h' l' d').2.2.2.2.1 ∧ (crossAns m h' l' d' n h l d).2.2.1 = (crossAns n h l d m h' l' d').2.2.2.2.2.1 ∧ (crossAns n h l d m h' l' d').1 = (crossAns m h' l' d' n h l d).2.2.2.1 ∧ (crossAns n h l d m h' l' d').2.1 = (crossAns m h' l' d' n h l d).2.2.2.2.1 ∧ (crossAns n h l d m h' l' d').2.2.1 = (crossAns m h' l' d' n h l d).2.2.2.2.2.1 := by
    unfold crossAns
    by_cases c : (fok n h l d && fok m h' l' d') = true
    · have c' : (fok m h' l' d' && fok n h l d) = true := by rw [Bool.and_comm]; exact c
      rw [if_pos c, if_pos c']
      exact ⟨rfl, rfl, rfl, rfl, rfl, rfl⟩
    · have c' : ¬ (fok m h' l' d' && fok n h l d) = true := by rw [Bool.and_comm]; exact c
      rw [if_neg c, if_neg c']
      exact ⟨rfl, rfl, rfl, rfl, rfl, rfl⟩
  unfold addFrac
  simp only
  rw [f, addAns_comm, sw.1, sw.2.1, sw.2.2.1, ← sw.2.2.2.1, ← sw.2.2.2.2.1, ← sw.2.2.2.2.2, Int.mul_comm d d']
theorem DrawSquare_some (b : List Int) (hb : b.length ≤ 140737488351232) (k : Nat) (hk : b.length < k) (hk9 : 9 ≤ k) : ∃ g d, spec_DrawSquareOver.f k b = some (g, d) ∧ -9223372036854775808 ≤ g ∧ g ≤ 9223372036854775807 ∧ -9223372036854775808 ≤ d ∧ d ≤ 9223372036854775807 := by
  unfold spec_DrawSquareOver.f
  obtain ⟨h, e⟩ := l1New_some b hb k hk
  rw [e]; simp only [Option.bind_some]
  obtain ⟨g, i1, h1, e1, g0, g1, hi1⟩ := l1Whole_some b hb 0 h (by omega) k (by omega)
  rw [e1]; simp only [Option.bind_some]
  obtain ⟨u, i2, h2, e2, hu, _⟩ := l1PickInt_some b hb i1 h1 [1, 2, 7, 140, 1000000, 1000001, 0, (-3)] hi1 (by simp) (by simp)
  rw [e2]; simp only [Option.bind_some]
  have hd : -9223372036854775808 ≤ u ∧ u ≤ 9223372036854775807 := by
    simp only [List.mem_cons, List.not_mem_nil, or_false] at hu; omega
  exact ⟨_, _, rfl, g0, g1, hd.1, hd.2⟩
theorem sq_tail (g d : Int) (g0 : -9223372036854775808 ≤ g) (g1 : g ≤ 9223372036854775807) (k : Nat) (hk : 60 ≤ k) :
    (if d ≥ 1 then (if ((sqAns g d).2.2.2.2 == (decide (d ≤ 1000000))) = true then (if (sqAns g d).2.2.2.2 = true then ((spec_CompareWide.f k (sqAns g d).1 (sqAns g d).2.1 (sqAns g d).2.2.1 false 0 0).bind fun t570 => (if t570 ≥ 0 then ((impl_FracText.f k (sqAns g d).1 (sqAns g d).2.1 (sqAns g d).2.2.1 (sqAns g d).2.2.2.1).bind fun t571 => (some (t571.toList != ([] : List UInt8)))) else (some false))) else (some true)) else (some false)) else (if ((sqAns g d).2.2.2.2 == false) = true then (if (sqAns g d).2.2.2.2 = true then ((spec_CompareWide.f k (sqAns g d).1 (sqAns g d).2.1 (sqAns g d).2.2.1 false 0 0).bind fun t572 => (if t572 ≥ 0 then ((impl_FracText.f k (sqAns g d).1 (sqAns g d).2.1 (sqAns g d).2.2.1 (sqAns g d).2.2.2.1).bind fun t573 => (some (t573.toList != ([] : List UInt8)))) else (some false))) else (some true)) else (some false))) = some true := by
  have pm := iabs_mul g g
  have pb := Int.mul_le_mul (iabs_i64 g0 g1) (iabs_i64 g0 g1) (iabs_nonneg g) (by decide)
  have ab : iabs (g * g) < 170141183460469231731687303715884105728 := by omega
  have wk := wok_wnorm ab
  have np : 0 ≤ g * g := by
    rcases Int.le_total 0 g with c | c
    · exact Int.mul_nonneg c c
    · exact Int.mul_nonneg_of_nonpos_of_nonpos c c
  by_cases c : 1 ≤ d ∧ d ≤ 1000000
  · have fk : fok (wnorm (g * g)).1 (wnorm (g * g)).2.1 (wnorm (g * g)).2.2 d = true := by
      unfold fok iin; rw [wk]; simp [c.1, c.2]
    have sq : sqAns g d = ((wnorm (g * g)).1, (wnorm (g * g)).2.1, (wnorm (g * g)).2.2, d, true) := by unfold sqAns; rw [if_pos fk]
    rw [sq]
    have p := wnorm_parts (v := g * g) (by omega)
    rw [if_pos c.1, decide_eq_true c.2]
    simp only [beq_self_eq_true, if_true]
    rw [spec_CompareWide_eq _ _ _ _ _ _ p.1 p.2.2.1 p.2.2.2 (by omega) (by omega) (by omega) k (by omega)]
    simp only [Option.bind_some]
    have cv : cmpI (wval (wnorm (g * g)).1 (wnorm (g * g)).2.1 (wnorm (g * g)).2.2) (wval false 0 0) ≥ 0 := by
      rw [wval_wnorm]
      unfold cmpI wval
      simp only [Bool.false_eq_true, if_false]
      rw [if_neg (by omega)]
      split <;> omega
    rw [if_pos cv, impl_FracText_is _ _ _ _ p.1 p.2.2.1 p.2.2.2 k hk]
    simp only [Option.bind_some]
    have fk2 : (wok (wnorm (g * g)).1 (wnorm (g * g)).2.1 (wnorm (g * g)).2.2 && iin d 1 1000000) = true := fk
    unfold fracL
    rw [if_pos fk2]
    simp
  · have fk : ¬ fok (wnorm (g * g)).1 (wnorm (g * g)).2.1 (wnorm (g * g)).2.2 d = true := fun h => c (fok_den h)
    have sq : sqAns g d = (false, 0, 0, 0, false) := by unfold sqAns; rw [if_neg fk]
    rw [sq]
    by_cases c1 : d ≥ 1
    · have c2 : ¬ d ≤ 1000000 := fun h => c ⟨c1, h⟩
      rw [if_pos c1, decide_eq_false c2]
      simp
    · rw [if_neg c1]; simp
theorem FnFracSum : laws_FnFracSum.Pure := by
  intro b _ hb _
  refine ⟨b.length + 120, ?_⟩
  have hb' : b.length ≤ 140737488351232 := by omega
  unfold laws_FnFracSum.f spec_DrawAddFrac.f
  rw [laws_big_eq]; simp only [Option.bind_some]
  by_cases hbig : decide ((b.length : Int) > 1048576) = true
  · rw [if_pos hbig]
  · rw [if_neg hbig]
    obtain ⟨n, p, q, d, n', p', q', d', e, f, f'⟩ := l5Two_some b hb' (b.length + 120) (by omega) (by omega)
    rw [e]; simp only [Option.bind_some]
    obtain ⟨g, u, eg, g0, g1, u0, u1⟩ := DrawSquare_some b hb' (b.length + 119) (by omega) (by omega)
    have K : 120 ≤ b.length + 120 := by omega
    have e119 : b.length + 120 = (b.length + 119) + 1 := rfl
    rw [e119] at *
    generalize b.length + 119 = k at *
    obtain ⟨f1, f2, f3, f4, f5, f6⟩ := f
    obtain ⟨r1, r2, r3, r4, r5, r6⟩ := f'
    rw [impl_AddFrac_eq n n' p q d p' q' d' f1 f3 f4 f5 f6 r1 r3 r4 r5 r6 (k + 1) (by omega), impl_AddFrac_eq n' n p' q' d' p q d r1 r3 r4 r5 r6 f1 f3 f4 f5 f6 (k + 1) (by omega), spec_AddFrac_eq n n' p q d p' q' d' f1 f3 f4 f5 f6 r1 r3 r4 r5 r6 (k + 1) (by omega), addFrac_comm n' p' q' d' n p q d]
    simp only [Option.bind_some, bne_self_eq_false, Bool.false_eq_true, if_false, beq_self_eq_true, Bool.not_true, Bool.or_self]
    have ok5 := @addFrac_ok n p q d n' p' q' d'
    generalize addFrac n p q d n' p' q' d' = s at *
    simp only [laws_FnFracSum.j0]
    rw [if_neg (by decide), eg]
    simp only [Option.bind_some]
    rw [impl_SquareOver_eq g u g0 g1]
    simp only [Option.bind_some]
    have tl := sq_tail g u g0 g1 k (by omega)
    by_cases o : s.2.2.2.2 = true
    · have fk := (ok5 o).2.2.2.2
      rw [if_pos o, impl_FracOk_eq]
      have fk2 : (wok s.1 s.2.1 s.2.2.1 && iin s.2.2.2.1 1 1000000) = true := fk
      rw [fk2]
      simp only [Option.bind_some, if_true]
      exact tl
    · rw [if_neg o]
      exact tl

end Go.Proofs.YtkpgpifkbdpnkaaDoor.Pure
