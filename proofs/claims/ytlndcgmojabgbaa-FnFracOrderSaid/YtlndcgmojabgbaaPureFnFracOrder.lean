/- Fractions are in one order, whichever is asked first; what is added to both changes nothing of it. Conditions: each number is one of its kind, as the row says. -/
import Derived.Test.YtlndcgmojabgbaaPFnFracOrderx
import Derived.Test.YtlndcgmojabgbaaBase
set_option linter.unusedSimpArgs false
set_option linter.unusedVariables false
namespace Go.Proofs.Ytlndcgmojabgbaa.Pure
open Go.RowKit Go.Proofs.Ytlndcgmojabgbaa.Base Go.Proofs.Ytlndcgmojabgbaa.PFnFracOrder Go.Proofs.YtlndcgmojabgbaaVFnFracOrder.PrintWords Go.Proofs.YtlndcgmojabgbaaVFnFracOrder.PrintLast Go.Proofs.YtlndcgmojabgbaaVFnFracOrder.PrintMore

theorem laws_big_eq (b : List Int) : laws_big.f b = some (decide ((b.length : Int) > 1048576)) := by
  unfold laws_big.f; rfl

theorem l1New_loop (b : List Int) (hb : b.length ≤ 140737488351232) (d : Nat) : ∀ (k : Nat) (x3 x4 : Int), 0 ≤ x4 → x4 ≤ b.length → (b.length : Int) - x4 = d → d < k → ∃ h, spec_l1New.l0 k b x3 x4 = some (b, 0, h) := by
  induction d with
  | zero =>
    intro k x3 x4 h0 h1 hd hk
    obtain ⟨k, rfl⟩ : ∃ m, k = m + 1 := ⟨k - 1, by omega⟩
    exact ⟨x3, by simp only [spec_l1New.l0]; rw [if_neg (by omega)]⟩
  | succ d ih =>
    intro k x3 x4 h0 h1 hd hk
    obtain ⟨k, rfl⟩ : ∃ m, k = m + 1 := ⟨k - 1, by omega⟩
    simp only [spec_l1New.l0]
    rw [if_pos (by omega)]
    by_cases c : x4 < 4000
    · rw [if_pos c, if_pos h0]
      have e : wrap64 (x4 + 1) = x4 + 1 := w64_id (by omega) (by omega)
      rw [e]
      exact ih k _ (x4 + 1) (by omega) (by omega) (by omega) (by omega)
    · rw [if_neg c]
      exact ⟨x3, rfl⟩
theorem l1New_some (b : List Int) (hb : b.length ≤ 140737488351232) (k : Nat) (hk : b.length < k) : ∃ h, spec_l1New.f k b = some (b, 0, h) := by
  unfold spec_l1New.f
  exact l1New_loop b hb b.length k _ 0 (by omega) (by omega) (by omega) hk

theorem l1Byte_some (b : List Int) (hb : b.length ≤ 140737488351232) (i h : Int) (hi : 0 ≤ i) : ∃ x i' h', spec_l1Byte.f b i h = some (x, i', h') ∧ 0 ≤ x ∧ x ≤ 255 ∧ 0 ≤ i' := by
  unfold spec_l1Byte.f
  by_cases c : i < (b.length : Int)
  · rw [if_pos c, if_pos hi]
    refine ⟨_, _, _, rfl, (and255 _).1, (and255 _).2, ?_⟩
    rw [w64_id (by omega) (by omega)]; omega
  · rw [if_neg c]
    exact ⟨_, _, _, rfl, (and255 _).1, (and255 _).2, hi⟩

theorem l1Below_some (b : List Int) (hb : b.length ≤ 140737488351232) (i h n : Int) (hi : 0 ≤ i) (hn : n ≤ 4294967296) : ∃ x i' h', spec_l1Below.f b i h n = some (x, i', h') ∧ 0 ≤ x ∧ (0 < n → x < n) ∧ 0 ≤ i' := by
  unfold spec_l1Below.f
  by_cases c : n ≤ 0
  · rw [if_pos c]
    exact ⟨_, _, _, rfl, by omega, fun _ => by omega, hi⟩
  · rw [if_neg c]
    by_cases d : n ≤ 256
    · rw [if_pos d]
      obtain ⟨x, i', h', e, x0, x1, hi'⟩ := l1Byte_some b hb i h hi
      rw [e]
      simp only [Option.bind_some]
      rw [if_neg (by omega)]
      have := tmod_range (n := n) x0 (by omega)
      exact ⟨_, _, _, rfl, this.1, fun _ => this.2, hi'⟩
    · rw [if_neg d]
      obtain ⟨x, i1, h1, e1, x0, x1, hi1⟩ := l1Byte_some b hb i h hi
      obtain ⟨y, i2, h2, e2, y0, y1, hi2⟩ := l1Byte_some b hb i1 h1 hi1
      obtain ⟨z, i3, h3, e3, z0, z1, hi3⟩ := l1Byte_some b hb i2 h2 hi2
      obtain ⟨u, i4, h4, e4, u0, u1, hi4⟩ := l1Byte_some b hb i3 h3 hi3
      rw [e1]; simp only [Option.bind_some]
      rw [e2]; simp only [Option.bind_some]
      rw [e3]; simp only [Option.bind_some]
      rw [e4]; simp only [Option.bind_some]
      rw [if_neg (by omega)]
      have e : wrap64 (wrap64 (wrap64 (wrap64 (x * 16777216) + wrap64 (y * 65536)) + wrap64 (z * 256)) + u) = x * 16777216 + y * 65536 + z * 256 + u := by
        unfold wrap64; omega
      rw [e]
      have := tmod_range (x := x * 16777216 + y * 65536 + z * 256 + u) (n := n) (by omega) (by omega)
      exact ⟨_, _, _, rfl, this.1, fun _ => this.2, hi4⟩

theorem l1PickInt_some (b : List Int) (hb : b.length ≤ 140737488351232) (i h : Int) (l : List Int) (hi : 0 ≤ i) (h0 : 0 < l.length) (hl : l.length ≤ 4294967296) : ∃ x i' h', spec_l1PickInt.f b i h l = some (x, i', h') ∧ x ∈ l ∧ 0 ≤ i' := by
  unfold spec_l1PickInt.f
  obtain ⟨x, i', h', e, x0, x1, hi'⟩ := l1Below_some b hb i h (l.length : Int) hi (by omega)
  have x2 := x1 (by omega)
  rw [e]
  simp only [Option.bind_some]
  rw [if_pos x0, if_pos x2]
  refine ⟨_, _, _, rfl, ?_, hi'⟩
  have : x.toNat < l.length := by omega
  unfold rd
  rw [List.getD_eq_getElem?_getD, List.getElem?_eq_getElem this]
  exact List.getElem_mem this

theorem l1Whole_loop (b : List Int) (hb : b.length ≤ 140737488351232) (d : Nat) : ∀ (k : Nat) (x3 x4 i h : Int), 0 ≤ i → x4 ≤ 8 → -8 ≤ x4 → (8 : Int) - x4 = d → d < k → -9223372036854775808 ≤ x3 → x3 ≤ 9223372036854775807 →
    ∃ x i' h', spec_l1Whole.l0 k x3 x4 b i h = some (x, i', h') ∧ -9223372036854775808 ≤ x ∧ x ≤ 9223372036854775807 ∧ 0 ≤ i' := by
  induction d with
  | zero =>
    intro k x3 x4 i h hi h1 h2 hd hk r0 r1
    obtain ⟨k, rfl⟩ : ∃ m, k = m + 1 := ⟨k - 1, by omega⟩
    exact ⟨x3, i, h, by simp only [spec_l1Whole.l0]; rw [if_neg (by omega)], r0, r1, hi⟩
  | succ d ih =>
    intro k x3 x4 i h hi h1 h2 hd hk r0 r1
    obtain ⟨k, rfl⟩ : ∃ m, k = m + 1 := ⟨k - 1, by omega⟩
    simp only [spec_l1Whole.l0]
    rw [if_pos (by omega)]
    obtain ⟨x, i', h', e, x0, x1, hi'⟩ := l1Byte_some b hb i h hi
    rw [e]
    simp only [Option.bind_some]
    rw [w64_id (n := x4 + 1) (by omega) (by omega)]
    have r := w64_range (wrap64 (x3 * 256) + x)
    exact ih k _ (x4 + 1) i' h' hi' (by omega) (by omega) (by omega) (by omega) r.1 r.2
theorem l1Whole_some (b : List Int) (hb : b.length ≤ 140737488351232) (i h : Int) (hi : 0 ≤ i) (k : Nat) (hk : 9 ≤ k) : ∃ x i' h', spec_l1Whole.f k b i h = some (x, i', h') ∧ -9223372036854775808 ≤ x ∧ x ≤ 9223372036854775807 ∧ 0 ≤ i' := by
  unfold spec_l1Whole.f
  obtain ⟨x, i1, h1, e, x0, x1, hi1⟩ := l1Below_some b hb i h 4 hi (by omega)
  rw [e]
  simp only [Option.bind_some]
  by_cases c0 : x = 0
  · rw [if_pos c0]
    obtain ⟨y, i2, h2, e2, hy, hi2⟩ := l1PickInt_some b hb i1 h1 [0, 1, (-1), 9, 10, 999, 1000, 2147483647, (-2147483648), 3037000499, 3037000500, 9223372036854775807, (-9223372036854775807), (-9223372036854775808)] hi1 (by simp) (by simp)
    rw [e2]
    simp only [Option.bind_some]
    refine ⟨_, _, _, rfl, ?_, ?_, hi2⟩ <;> (simp only [List.mem_cons, List.not_mem_nil, or_false] at hy; omega)
  · rw [if_neg c0]
    by_cases c1 : x = 1
    · rw [if_pos c1]
      exact l1Whole_loop b hb 8 k 0 0 i1 h1 hi1 (by omega) (by omega) (by omega) (by omega) (by omega) (by omega)
    · rw [if_neg c1]
      by_cases c2 : x = 2
      · rw [if_pos c2]
        obtain ⟨y, i2, h2, e2, _, _, hi2⟩ := l1Below_some b hb i1 h1 1000000 hi1 (by omega)
        rw [e2]
        exact ⟨_, _, _, rfl, (w64_range _).1, (w64_range _).2, hi2⟩
      · rw [if_neg c2]
        obtain ⟨y, i2, h2, e2, _, _, hi2⟩ := l1Below_some b hb i1 h1 41 hi1 (by omega)
        rw [e2]
        exact ⟨_, _, _, rfl, (w64_range _).1, (w64_range _).2, hi2⟩

theorem l1Once_some (b : List Int) (hb : b.length ≤ 140737488351232) (i h n : Int) (hi : 0 ≤ i) (hn : n ≤ 4294967296) : ∃ x i' h', spec_l1Once.f b i h n = some (x, i', h') ∧ 0 ≤ i' := by
  unfold spec_l1Once.f
  obtain ⟨x, i', h', e, _, _, hi'⟩ := l1Below_some b hb i h n hi hn
  rw [e]
  exact ⟨_, _, _, rfl, hi'⟩

theorem spec_l3Abs_eq (a : Int) (h0 : -9223372036854775808 ≤ a) (h1 : a ≤ 9223372036854775807) : spec_l3Abs.f a = some (iabs a) := by
  unfold spec_l3Abs.f iabs
  by_cases h : a < 0
  · rw [if_pos h, if_pos h]; simp only [wu64]; unfold wrap64; congr 1; omega
  · rw [if_neg h, if_neg h]; simp only [wu64]; congr 1; omega

theorem spec_WideOf_eq (a : Int) (h0 : -9223372036854775808 ≤ a) (h1 : a ≤ 9223372036854775807) : spec_WideOf.f a = some (wnorm a) := by
  have hb := iabs_u64 h0 h1
  unfold spec_WideOf.f
  simp only [spec_l3Abs_eq a h0 h1, Option.bind_some, wnorm]
  have e1 : iabs a / 18446744073709551616 = 0 := by omega
  have e2 : iabs a % 18446744073709551616 = iabs a := by omega
  rw [e1, e2]

theorem spec_l3Product_eq (a b : Int) (ha0 : 0 ≤ a) (ha : a < 18446744073709551616) (hb0 : 0 ≤ b) (hb : b < 18446744073709551616) : spec_l3Product.f a b = some (a * b / 18446744073709551616, a * b % 18446744073709551616) := by
  unfold spec_l3Product.f
  rw [and_mask32 a ha0 ha, and_mask32 b hb0 hb]
  rw [and_mask32 (IntKind.u64.wrap (_ + _)) (by rw [wu64]; omega) (by rw [wu64]; omega), and_mask32 (IntKind.u64.wrap (a % 4294967296 * (b % 4294967296))) (by rw [wu64]; omega) (by rw [wu64]; omega)]
  have h := prod_split a b
  have ⟨l1, u1⟩ := mul_bound (x := a / 4294967296) (y := b / 4294967296) (by omega) (by omega) (by omega) (by omega)
  have ⟨l2, u2⟩ := mul_bound (x := a / 4294967296) (y := b % 4294967296) (by omega) (by omega) (by omega) (by omega)
  have ⟨l3, u3⟩ := mul_bound (x := a % 4294967296) (y := b / 4294967296) (by omega) (by omega) (by omega) (by omega)
  have ⟨l4, u4⟩ := mul_bound (x := a % 4294967296) (y := b % 4294967296) (by omega) (by omega) (by omega) (by omega)
  have lt := (mul_u64 a b ha0 ha hb0 hb).2
  simp only [wu64]
  generalize (a / 4294967296) * (b / 4294967296) = p at *
  generalize (a / 4294967296) * (b % 4294967296) = q at *
  generalize (a % 4294967296) * (b / 4294967296) = r at *
  generalize (a % 4294967296) * (b % 4294967296) = s at *
  generalize a * b = t at *
  simp only [Option.some.injEq, Prod.mk.injEq]
  constructor <;> omega

theorem spec_MulWide_eq (a b : Int) (ha0 : -9223372036854775808 ≤ a) (ha1 : a ≤ 9223372036854775807) (hb0 : -9223372036854775808 ≤ b) (hb1 : b ≤ 9223372036854775807) : spec_MulWide.f a b = some (wnorm (a * b)) := by
  have ⟨a2, a3⟩ := iabs_u64 ha0 ha1
  have ⟨b2, b3⟩ := iabs_u64 hb0 hb1
  unfold spec_MulWide.f
  simp only [spec_l3Abs_eq a ha0 ha1, spec_l3Abs_eq b hb0 hb1, spec_l3Product_eq _ _ a2 a3 b2 b3, Option.bind_some, wnorm, iabs_mul, mul_sign]
  by_cases c : (decide (a < 0) != decide (b < 0)) = true
  · rw [if_pos c, c]
    by_cases d : a = 0
    · rw [if_pos d]; simp [d]
    · rw [if_neg d]; simp [d]
  · rw [if_neg c]
    have : (decide (a < 0) != decide (b < 0)) = false := by simpa using c
    rw [this]; simp

theorem l3Wide_some (b : List Int) (hb : b.length ≤ 140737488351232) (i h : Int) (hi : 0 ≤ i) (k : Nat) (hk : 9 ≤ k) : ∃ n x y i' h', spec_l3Wide.f k b i h = some (n, x, y, i', h') ∧ 0 ≤ x ∧ x < 18446744073709551616 ∧ 0 ≤ y ∧ y < 18446744073709551616 ∧ 0 ≤ i' := by
  unfold spec_l3Wide.f
  obtain ⟨c, i1, h1, e1, c0, c1, hi1⟩ := l1Below_some b hb i h 5 hi (by omega)
  rw [e1]; simp only [Option.bind_some]
  by_cases d0 : c = 0
  · rw [if_pos d0]
    obtain ⟨x, i2, h2, e2, x0, x1, hi2⟩ := l1Whole_some b hb i1 h1 hi1 k hk
    rw [e2]; simp only [Option.bind_some]
    rw [spec_WideOf_eq x x0 x1]
    have p := wnorm_parts (v := x) (by have := iabs_u64 x0 x1; omega)
    exact ⟨_, _, _, _, _, rfl, p.1, p.2.1, p.2.2.1, p.2.2.2, hi2⟩
  · rw [if_neg d0]
    by_cases d1 : c = 1
    · rw [if_pos d1]
      obtain ⟨x, i2, h2, e2, x0, x1, hi2⟩ := l1Below_some b hb i1 h1 7 hi1 (by omega)
      have x2 := x1 (by omega)
      rw [e2]; simp only [Option.bind_some]
      rw [if_pos x0, if_pos (by simpa using x2)]
      have hx : x = 0 ∨ x = 1 ∨ x = 2 ∨ x = 3 ∨ x = 4 ∨ x = 5 ∨ x = 6 := by omega
      refine ⟨_, _, _, _, _, rfl, ?_, ?_, ?_, ?_, hi2⟩ <;>
        (rcases hx with rfl | rfl | rfl | rfl | rfl | rfl | rfl <;> simp [rd_T25])
    · rw [if_neg d1]
      obtain ⟨x, i2, h2, e2, x0, x1, hi2⟩ := l1Whole_some b hb i1 h1 hi1 k hk
      rw [e2]; simp only [Option.bind_some]
      obtain ⟨y, i3, h3, e3, y0, y1, hi3⟩ := l1Whole_some b hb i2 h2 hi2 k hk
      rw [e3]; simp only [Option.bind_some]
      rw [spec_MulWide_eq x y x0 x1 y0 y1]; simp only [Option.bind_some]
      have q0 := iabs_i64 x0 x1
      have q1 := iabs_i64 y0 y1
      have pm := iabs_mul x y
      have pb := Int.mul_le_mul q0 q1 (iabs_nonneg y) (by decide)
      have p := wnorm_parts (v := x * y) (by rw [← pm]; omega)
      obtain ⟨u, i4, h4, e4, hi4⟩ := l1Once_some b hb i3 h3 10 hi3 (by omega)
      rw [e4]; simp only [Option.bind_some]
      obtain ⟨u2, i5, h5, e5, hi5⟩ := l1Once_some b hb i4 h4 10 hi4 (by omega)
      have wr := u64_wrap_range ((wnorm (x * y)).2.1 + 9223372036854775808)
      by_cases cu : u = true
      · rw [if_pos cu, e5]; simp only [Option.bind_some]
        by_cases cv : u2 = true
        · rw [if_pos cv]; exact ⟨_, _, _, _, _, rfl, wr.1, wr.2, p.2.2.1, p.2.2.2, hi5⟩
        · rw [if_neg cv]; exact ⟨_, _, _, _, _, rfl, wr.1, wr.2, p.2.2.1, p.2.2.2, hi5⟩
      · rw [if_neg cu, e5]; simp only [Option.bind_some]
        by_cases cv : u2 = true
        · rw [if_pos cv]; exact ⟨_, _, _, _, _, rfl, p.1, p.2.1, p.2.2.1, p.2.2.2, hi5⟩
        · rw [if_neg cv]; exact ⟨_, _, _, _, _, rfl, p.1, p.2.1, p.2.2.1, p.2.2.2, hi5⟩

theorem spec_WideOk_eq (n : Bool) (h l : Int) : spec_WideOk.f n h l = some (wok n h l) := by
  unfold spec_WideOk.f wok
  by_cases c1 : h < 9223372036854775808
  · rw [if_pos c1]
    cases n
    · simp [c1]
    · by_cases c2 : h > 0
      · simp [c1, c2]
      · simp [c1, c2]
  · rw [if_neg c1]; simp [c1]

theorem spec_l1In_eq (a b c : Int) : spec_l1In.f a b c = some (iin a b c) := by
  unfold spec_l1In.f iin
  by_cases h : a ≥ b
  · rw [if_pos h]; simp [show b ≤ a from h]
  · rw [if_neg h]; simp [show ¬ b ≤ a from h]

theorem spec_FracOk_eq (n : Bool) (h l d : Int) : spec_FracOk.f n h l d = some (wok n h l && iin d 1 1000000) := by
  unfold spec_FracOk.f
  simp only [spec_WideOk_eq, spec_l1In_eq, Option.bind_some]
  cases wok n h l <;> simp

theorem spec_SquareOver_eq (g d : Int) (g0 : -9223372036854775808 ≤ g) (g1 : g ≤ 9223372036854775807) : spec_SquareOver.f g d = some (sqAns g d) := by
  unfold spec_SquareOver.f sqAns fok
  rw [spec_MulWide_eq g g g0 g1 g0 g1]; simp only [Option.bind_some, spec_FracOk_eq]
  by_cases c : (wok (wnorm (g * g)).1 (wnorm (g * g)).2.1 (wnorm (g * g)).2.2 && iin d 1 1000000) = true
  · rw [if_pos c, if_pos c]
  · rw [if_neg c, if_neg c]

theorem spec_l3Zero_eq (n : Bool) (h l : Int) : spec_l3Zero.f n h l = some ((h == 0) && (l == 0)) := by
  unfold spec_l3Zero.f
  by_cases c : h = 0 <;> simp [c]

theorem spec_ScaleWide_eq (n : Bool) (h l k : Int) (h0 : 0 ≤ h) (l0 : 0 ≤ l) (l1 : l < 18446744073709551616) (k0 : -9223372036854775808 ≤ k) (k1 : k ≤ 9223372036854775807) : spec_ScaleWide.f n h l k = some (scaleAns n h l k) := by
  unfold spec_ScaleWide.f scaleAns
  simp only [spec_WideOk_eq, Option.bind_some]
  by_cases w : wok n h l = true
  · rw [if_pos w, if_pos w]
    have hh := wok_high w
    have ⟨u0, u1⟩ := iabs_u64 k0 k1
    have e1 := iabs_wval n h0 l0
    have e2 := iabs_mul (wval n h l) k
    have e3 := scale_parts (u := iabs k) (iabs (wval n h l)) e1
    have sg := scale_sign (k := k) h0 l0 w
    rw [e2] at e3
    have ⟨p0, p1⟩ := mul_u64 h (iabs k) h0 (by omega) u0 u1
    have ⟨q0, q1⟩ := mul_u64 l (iabs k) l0 l1 u0 u1
    simp only [spec_l3Abs_eq k k0 k1, spec_l3Product_eq _ _ h0 (show h < 18446744073709551616 by omega) u0 u1, spec_l3Product_eq _ _ l0 l1 u0 u1, Option.bind_some, spec_l3Zero_eq, wu64]
    generalize wval n h l * k = v at *
    generalize h * iabs k = p at *
    generalize l * iabs k = q at *
    generalize hs : (n != decide (k < 0)) = s at *
    by_cases c1 : p / 18446744073709551616 > 0
    · rw [wans_over (by omega), if_pos c1, if_pos c1]
      simp
    · by_cases c2 : (p % 18446744073709551616 + q / 18446744073709551616) % 18446744073709551616 < p % 18446744073709551616
      · rw [wans_over (by omega), if_neg c1, if_neg c1, if_pos c2, if_pos c2]
        simp
      · have e4 : iabs v = ((p % 18446744073709551616 + q / 18446744073709551616) % 18446744073709551616) * 18446744073709551616 + q % 18446744073709551616 := by omega
        rw [wans_of e4 (by omega) (by omega) (by omega)]
        have e5 := sign_parts e4 (by omega) (by omega) sg
        have m0 : 0 ≤ (p % 18446744073709551616 + q / 18446744073709551616) % 18446744073709551616 := by omega
        have m1 : 0 ≤ q % 18446744073709551616 := by omega
        rw [← e5]
        rw [if_neg c1, if_neg c2, if_neg c1, if_neg c2]
        generalize (p % 18446744073709551616 + q / 18446744073709551616) % 18446744073709551616 = a at *
        generalize q % 18446744073709551616 = b at *
        by_cases z : (a == 0 && b == 0) = true
        · rw [if_pos z]
          have : a = 0 ∧ b = 0 := by simpa using z
          obtain ⟨rfl, rfl⟩ := this
          simp [wok, wnz]
        · rw [if_neg z]
          have nz : a > 0 ∨ b > 0 := by
            have : ¬ (a = 0 ∧ b = 0) := by simpa using z
            omega
          have e7 : wnz s a b = s := by
            unfold wnz
            rcases nz with d | d <;> simp [d]
          have e6 := wok_wnz s a b
          rw [e7] at e6
          rw [e6, e7]
          by_cases c3 : a < 9223372036854775808
          · rw [if_pos c3]; simp [c3]
          · rw [if_neg c3]; simp [c3]
  · rw [if_neg w, if_neg w]

theorem spec_l3Order_eq (n m : Bool) (h l h' l' : Int) (l0 : 0 ≤ l) (l1 : l < 18446744073709551616) (m0 : 0 ≤ l') (m1 : l' < 18446744073709551616) (k : Nat) (hk : 1 ≤ k) :
    spec_l3Order.f k n h l m h' l' = some (cmpI (h * 18446744073709551616 + l) (h' * 18446744073709551616 + l')) := by
  obtain ⟨k, rfl⟩ : ∃ j, k = j + 1 := ⟨k - 1, by omega⟩
  unfold spec_l3Order.f cmpI
  simp only [spec_l3Order.j0]
  by_cases c1 : h < h'
  · have e : h * 18446744073709551616 + l < h' * 18446744073709551616 + l' := by omega
    rw [if_pos c1, if_pos e]; rfl
  · rw [if_neg c1]
    by_cases c2 : h = h'
    · subst c2
      rw [if_pos rfl]
      by_cases c3 : l < l'
      · have e : h * 18446744073709551616 + l < h * 18446744073709551616 + l' := by omega
        rw [if_pos e]; simp [c3]
      · have e : ¬ h * 18446744073709551616 + l < h * 18446744073709551616 + l' := by omega
        rw [if_neg e]
        by_cases c4 : l > l'
        · have e2 : h * 18446744073709551616 + l > h * 18446744073709551616 + l' := by omega
          rw [if_pos e2]; simp [c3, c4]
        · have e2 : ¬ h * 18446744073709551616 + l > h * 18446744073709551616 + l' := by omega
          rw [if_neg e2]; simp [c3, c4]
    · have e : ¬ h * 18446744073709551616 + l < h' * 18446744073709551616 + l' := by omega
      have e2 : h * 18446744073709551616 + l > h' * 18446744073709551616 + l' := by omega
      rw [if_neg c2, if_neg e, if_pos e2]
      simp [show h > h' by omega]

theorem spec_AddWide_j1 (n m : Bool) (h l h' l' v : Int) (h0 : 0 ≤ h) (h1 : h < 9223372036854775808) (l0 : 0 ≤ l) (l1 : l < 18446744073709551616) (g0 : 0 ≤ h') (m0 : 0 ≤ l') (m1 : l' < 18446744073709551616) (dle : h' * 18446744073709551616 + l' ≤ h * 18446744073709551616 + l)
    (e : iabs v = h * 18446744073709551616 + l - (h' * 18446744073709551616 + l')) (sg : v ≠ 0 → decide (v < 0) = n) (k : Nat) : spec_AddWide.j1 (k + 1) n h l m h' l' = some (wans v) := by
  simp only [spec_AddWide.j1, spec_l3Zero_eq, Option.bind_some, wu64]
  have fin : ∀ a b : Int, 0 ≤ a → a < 9223372036854775808 → 0 ≤ b → b < 18446744073709551616 → iabs v = a * 18446744073709551616 + b → (if (a == 0 && b == 0) = true then some (false, a, b, true) else some (n, a, b, true)) = some (wans v) := by
    intro a b a0 a1 b0 b1 e4
    have s := sign_parts e4 a0 b0 sg
    rw [wans_of e4 a0 b0 b1, if_pos a1, ← s]
    by_cases z : (a == 0 && b == 0) = true
    · rw [if_pos z]
      have : a = 0 ∧ b = 0 := by simpa using z
      obtain ⟨rfl, rfl⟩ := this
      simp [wnz]
    · rw [if_neg z]
      have nz : a > 0 ∨ b > 0 := by
        have : ¬ (a = 0 ∧ b = 0) := by simpa using z
        omega
      unfold wnz
      rcases nz with d | d <;> simp [d]
  by_cases c : l < l'
  · rw [if_pos c]
    exact fin _ _ (by omega) (by omega) (by omega) (by omega) (by omega)
  · rw [if_neg c]
    exact fin _ _ (by omega) (by omega) (by omega) (by omega) (by omega)
theorem spec_AddWide_eq (n m : Bool) (h l h' l' : Int) (h0 : 0 ≤ h) (l0 : 0 ≤ l) (l1 : l < 18446744073709551616) (g0 : 0 ≤ h') (m0 : 0 ≤ l') (m1 : l' < 18446744073709551616) (k : Nat) (hk : 6 ≤ k) : spec_AddWide.f k n h l m h' l' = some (addAns n h l m h' l') := by
  obtain ⟨k, rfl⟩ : ∃ j, k = j + 2 := ⟨k - 2, by omega⟩
  unfold spec_AddWide.f addAns
  simp only [spec_WideOk_eq, Option.bind_some]
  by_cases w : wok n h l = true
  · rw [if_pos w]
    by_cases w' : wok m h' l' = true
    · have hh := wok_high w
      have gg := wok_high w'
      have nz := wok_nz w
      have mz := wok_nz w'
      have sn := wval_neg n h0 l0
      have sm := wval_neg m g0 m0
      rw [nz] at sn
      rw [mz] at sm
      have dn := wval_def n h l
      have dm := wval_def m h' l'
      rw [w, w']
      simp only [spec_AddWide.j0, Bool.not_true, Bool.false_eq_true, if_false, Bool.and_self, if_true]
      generalize wval n h l = u at *
      generalize wval m h' l' = v at *
      by_cases c : (n == m) = true
      · rw [if_pos c]
        have nm : n = m := by simpa using c
        subst nm
        simp only [spec_WideOk_eq, Option.bind_some, wu64]
        have sg : u + v ≠ 0 → decide (u + v < 0) = n := by
          intro z; subst dn dm
          cases n <;> simp at z ⊢ <;> omega
        have fin : ∀ a b : Int, 0 ≤ a → 0 ≤ b → b < 18446744073709551616 → iabs (u + v) = a * 18446744073709551616 + b → (if wok n a b = true then some (n, a, b, true) else some (false, 0, 0, false)) = some (wans (u + v)) := by
          intro a b a0 b0 b1 e4
          have s := sign_parts e4 a0 b0 sg
          have e6 := wok_wnz n a b
          have sn2 : wnz n a b = n := by
            rw [s]
            cases n
            · simp; subst dn dm; simp; omega
            · simp; subst dn dm; simp at sn sm ⊢; omega
          rw [sn2] at e6 s
          rw [wans_of e4 a0 b0 b1, e6, ← s]
          by_cases c3 : a < 9223372036854775808
          · rw [if_pos c3, if_pos (decide_eq_true c3)]
          · rw [if_neg c3, if_neg (by simpa using c3)]
        have e5 : iabs (u + v) = h * 18446744073709551616 + l + (h' * 18446744073709551616 + l') := by
          subst dn dm; unfold iabs
          cases n <;> simp <;> omega
        by_cases d : (l + l') % 18446744073709551616 < l
        · rw [if_pos d]
          exact fin _ _ (by omega) (by omega) (by omega) (by omega)
        · rw [if_neg d]
          exact fin _ _ (by omega) (by omega) (by omega) (by omega)
      · rw [if_neg c]
        simp only [spec_l3Order_eq n m h l h' l' l0 l1 m0 m1 (k + 1) (by omega), Option.bind_some]
        by_cases d : cmpI (h * 18446744073709551616 + l) (h' * 18446744073709551616 + l') < 0
        · rw [if_pos d]
          have dlt : h * 18446744073709551616 + l < h' * 18446744073709551616 + l' := by
            unfold cmpI at d
            by_cases e : h * 18446744073709551616 + l < h' * 18446744073709551616 + l'
            · exact e
            · rw [if_neg e] at d; split at d <;> omega
          refine spec_AddWide_j1 m n h' l' h l (u + v) g0 gg m0 m1 h0 l0 l1 (by omega) ?_ ?_ k
          · subst dn dm; unfold iabs
            cases n <;> cases m <;> simp at c ⊢ <;> omega
          · intro _; subst dn dm
            cases n <;> cases m <;> simp at c ⊢ <;> omega
        · rw [if_neg d]
          have dle : h' * 18446744073709551616 + l' ≤ h * 18446744073709551616 + l := by
            unfold cmpI at d
            by_cases e : h * 18446744073709551616 + l < h' * 18446744073709551616 + l'
            · rw [if_pos e] at d; omega
            · omega
          refine spec_AddWide_j1 n m h l h' l' (u + v) h0 hh l0 l1 g0 m0 m1 dle ?_ ?_ k
          · subst dn dm; unfold iabs
            cases n <;> cases m <;> simp at c ⊢ <;> omega
          · intro z; subst dn dm
            cases n <;> cases m <;> simp at c z ⊢ <;> omega
    · have w2 : wok m h' l' = false := by simpa using w'
      rw [w2]
      simp [spec_AddWide.j0]
  · have w2 : wok n h l = false := by simpa using w
    rw [if_neg w, w2]
    simp [spec_AddWide.j0]

/-- Two parts of a wide number and a denominator, each of 64 bits. -/
def fin64 (p q d : Int) : Prop := 0 ≤ p ∧ p < 18446744073709551616 ∧ 0 ≤ q ∧ q < 18446744073709551616 ∧ -9223372036854775808 ≤ d ∧ d ≤ 9223372036854775807
theorem l5Frac_j0 (b : List Int) (hb : b.length ≤ 140737488351232) (x : Bool) (i h : Int) (hi : 0 ≤ i) (n : Bool) (p q d : Int) (hp : fin64 p q d) (k : Nat) (hk : 10 ≤ k) :
    ∃ n' p' q' d' i' h', spec_l5Frac.j0 k x b i h n p q d = some (n', p', q', d', i', h') ∧ fin64 p' q' d' ∧ 0 ≤ i' := by
  obtain ⟨k, rfl⟩ : ∃ m, k = m + 1 := ⟨k - 1, by omega⟩
  simp only [spec_l5Frac.j0]
  by_cases c : x = true
  · rw [if_pos c]
    obtain ⟨m, y, z, i1, h1, e1, y0, y1, z0, z1, hi1⟩ := l3Wide_some b hb i h hi k (by omega)
    rw [e1]; simp only [Option.bind_some]
    obtain ⟨u, i2, h2, e2, hu, hi2⟩ := l1PickInt_some b hb i1 h1 [1, 2, 3, 999, 1000, 1001, 1000000, 1000001, 0, (-1), 9223372036854775807] hi1 (by simp) (by simp)
    rw [e2]; simp only [Option.bind_some]
    have hd : -9223372036854775808 ≤ u ∧ u ≤ 9223372036854775807 := by
      simp only [List.mem_cons, List.not_mem_nil, or_false] at hu; omega
    exact ⟨_, _, _, _, _, _, rfl, ⟨y0, y1, z0, z1, hd.1, hd.2⟩, hi2⟩
  · rw [if_neg c]
    exact ⟨_, _, _, _, _, _, rfl, hp, hi⟩
theorem l5Frac_some (b : List Int) (hb : b.length ≤ 140737488351232) (i h : Int) (hi : 0 ≤ i) (k : Nat) (hk : 10 ≤ k) :
    ∃ n' p' q' d' i' h', spec_l5Frac.f k b i h = some (n', p', q', d', i', h') ∧ fin64 p' q' d' ∧ 0 ≤ i' := by
  unfold spec_l5Frac.f
  obtain ⟨g, i1, h1, e1, g0, g1, hi1⟩ := l1Whole_some b hb i h hi k (by omega)
  rw [e1]; simp only [Option.bind_some]
  obtain ⟨x, i2, h2, e2, x0, x1, hi2⟩ := l1Below_some b hb i1 h1 140 hi1 (by omega)
  have x2 := x1 (by omega)
  rw [e2]; simp only [Option.bind_some]
  have w : wrap64 (1 + x) = 1 + x := w64_id (by omega) (by omega)
  rw [spec_SquareOver_eq g _ g0 g1, w]; simp only [Option.bind_some]
  have sp := sqAns_parts (g := g) (1 + x) g0 g1
  have sd := sqAns_den (g := g) (1 + x) (by omega) (by omega)
  have f : fin64 (sqAns g (1 + x)).2.1 (sqAns g (1 + x)).2.2.1 (sqAns g (1 + x)).2.2.2.1 := ⟨sp.1, sp.2.1, sp.2.2.1, sp.2.2.2, sd.1, sd.2⟩
  by_cases c : (sqAns g (1 + x)).2.2.2.2 = true
  · rw [if_pos c]
    obtain ⟨y, i3, h3, e3, hi3⟩ := l1Once_some b hb i2 h2 5 hi2 (by omega)
    rw [e3]; simp only [Option.bind_some]
    exact l5Frac_j0 b hb y i3 h3 hi3 _ _ _ _ f k hk
  · rw [if_neg c]
    exact l5Frac_j0 b hb true i2 h2 hi2 _ _ _ _ f k hk
theorem l5Two_some (b : List Int) (hb : b.length ≤ 140737488351232) (k : Nat) (hk : b.length < k) (hk9 : 10 ≤ k) :
    ∃ n p q d n' p' q' d', spec_l5Two.f k b = some (n, p, q, d, n', p', q', d') ∧ fin64 p q d ∧ fin64 p' q' d' := by
  unfold spec_l5Two.f
  obtain ⟨h, e⟩ := l1New_some b hb k hk
  rw [e]; simp only [Option.bind_some]
  obtain ⟨n, p, q, d, i1, h1, e1, f1, hi1⟩ := l5Frac_some b hb 0 h (by omega) k hk9
  rw [e1]; simp only [Option.bind_some]
  obtain ⟨x, i2, h2, e2, _, _, hi2⟩ := l1Below_some b hb i1 h1 4 hi1 (by omega)
  rw [e2]; simp only [Option.bind_some]
  obtain ⟨m, p', q', d', i3, h3, e3, f3, _⟩ := l5Frac_some b hb i2 h2 hi2 k hk9
  rw [e3]; simp only [Option.bind_some]
  by_cases c0 : x = 0
  · rw [if_pos c0, spec_ScaleWide_eq n p q 3 f1.1 f1.2.2.1 f1.2.2.2.1 (by omega) (by omega)]; simp only [Option.bind_some]
    have sp := scaleAns_parts n p q 3
    have w := w64_range (3 * d)
    by_cases c1 : (scaleAns n p q 3).2.2.2 = true
    · rw [if_pos c1]
      by_cases c2 : d < 1000
      · rw [if_pos c2]
        exact ⟨_, _, _, _, _, _, _, _, rfl, f1, ⟨sp.1, by omega, sp.2.2.1, sp.2.2.2, w.1, w.2⟩⟩
      · rw [if_neg c2]; exact ⟨_, _, _, _, _, _, _, _, rfl, f1, f3⟩
    · rw [if_neg c1]; exact ⟨_, _, _, _, _, _, _, _, rfl, f1, f3⟩
  · rw [if_neg c0]
    by_cases c1 : x = 1
    · rw [if_pos c1, spec_WideOf_eq 1 (by omega) (by omega)]; simp only [Option.bind_some]
      have wp := wnorm_parts (v := 1) (by have := iabs_u64 (a := 1) (by omega) (by omega); omega)
      rw [spec_AddWide_eq _ _ _ _ _ _ f1.1 f1.2.2.1 f1.2.2.2.1 wp.1 wp.2.2.1 wp.2.2.2 k (by omega)]; simp only [Option.bind_some]
      have ap := addAns_parts n p q (wnorm 1).1 (wnorm 1).2.1 (wnorm 1).2.2
      by_cases c2 : (addAns n p q (wnorm 1).1 (wnorm 1).2.1 (wnorm 1).2.2).2.2.2 = true
      · rw [if_pos c2]
        exact ⟨_, _, _, _, _, _, _, _, rfl, f1, ⟨ap.1, by omega, ap.2.2.1, ap.2.2.2, f1.2.2.2.2.1, f1.2.2.2.2.2⟩⟩
      · rw [if_neg c2]; exact ⟨_, _, _, _, _, _, _, _, rfl, f1, f3⟩
    · rw [if_neg c1]; exact ⟨_, _, _, _, _, _, _, _, rfl, f1, f3⟩

theorem impl_WideOk_eq (n : Bool) (h l : Int) : impl_WideOk.f n h l = some (wok n h l) := by
  unfold impl_WideOk.f wok
  by_cases c1 : h < 9223372036854775808
  · rw [if_pos c1]
    cases n
    · simp [c1]
    · by_cases c2 : h > 0
      · simp [c1, c2]
      · simp [c1, c2]
  · rw [if_neg c1]; simp [c1]

theorem impl_within_eq (a b c : Int) : impl_within.f a b c = some (iin a b c) := by
  unfold impl_within.f iin
  by_cases h : a ≥ b
  · rw [if_pos h]; simp [show b ≤ a from h]
  · rw [if_neg h]; simp [show ¬ b ≤ a from h]

theorem impl_FracOk_eq (n : Bool) (h l d : Int) : impl_FracOk.f n h l d = some (wok n h l && iin d 1 1000000) := by
  unfold impl_FracOk.f
  simp only [impl_WideOk_eq, impl_within_eq, Option.bind_some]
  cases wok n h l <;> simp

theorem impl_size_eq (a : Int) (h0 : -9223372036854775808 ≤ a) (h1 : a ≤ 9223372036854775807) : impl_size.f a = some (iabs a) := by
  unfold impl_size.f iabs
  by_cases h : a < 0
  · rw [if_pos h, if_pos h]; simp only [wu64]; congr 1; omega
  · rw [if_neg h, if_neg h]; simp only [wu64]; congr 1; omega

theorem bits_Mul64_eq (a b : Int) (ha0 : 0 ≤ a) (ha : a < 18446744073709551616) (hb0 : 0 ≤ b) (hb : b < 18446744073709551616) : bits_Mul64.f a b = some (a * b / 18446744073709551616, a * b % 18446744073709551616) := by
  unfold bits_Mul64.f
  rw [mulhi a b ha0 ha hb0 hb, wu64 (a * b)]

theorem impl_wideOf_eq (n : Bool) (h l : Int) : impl_wideOf.f n h l = some (wnz n h l, h, l) := by
  unfold impl_wideOf.f wnz
  cases n
  · simp
  · by_cases c : h > 0 <;> simp [c]

theorem bits_Add64_eq (a b c : Int) (h : 0 ≤ a ∧ 0 ≤ b ∧ 0 ≤ c ∧ c ≤ 1) : bits_Add64.f a b c = some ((a + b + c) % 18446744073709551616, (a + b + c) / 18446744073709551616) := by
  unfold bits_Add64.f
  rw [if_pos h]
theorem impl_ScaleWide_eq (n : Bool) (h l k : Int) (h0 : 0 ≤ h) (l0 : 0 ≤ l) (l1 : l < 18446744073709551616) (k0 : -9223372036854775808 ≤ k) (k1 : k ≤ 9223372036854775807) : impl_ScaleWide.f n h l k = some (scaleAns n h l k) := by
  unfold impl_ScaleWide.f scaleAns
  simp only [impl_WideOk_eq, Option.bind_some]
  by_cases w : wok n h l = true
  · rw [if_pos w, if_pos w]
    have hh := wok_high w
    have ⟨u0, u1⟩ := iabs_u64 k0 k1
    have e1 := iabs_wval n h0 l0
    have e2 := iabs_mul (wval n h l) k
    have e3 := scale_parts (u := iabs k) (iabs (wval n h l)) e1
    have sg := scale_sign (k := k) h0 l0 w
    rw [e2] at e3
    have ⟨p0, p1⟩ := mul_u64 h (iabs k) h0 (by omega) u0 u1
    have ⟨q0, q1⟩ := mul_u64 l (iabs k) l0 l1 u0 u1
    simp only [impl_size_eq k k0 k1, bits_Mul64_eq _ _ h0 (show h < 18446744073709551616 by omega) u0 u1, bits_Mul64_eq _ _ l0 l1 u0 u1, Option.bind_some]
    generalize wval n h l * k = v at *
    generalize h * iabs k = p at *
    generalize l * iabs k = q at *
    rw [bits_Add64_eq _ _ _ (by omega)]
    simp only [impl_wideOf_eq, Option.bind_some]
    by_cases c1 : p / 18446744073709551616 > 0
    · rw [if_pos c1, wans_over (by omega)]
    · rw [if_neg c1]
      by_cases c2 : (p % 18446744073709551616 + q / 18446744073709551616 + 0) / 18446744073709551616 > 0
      · rw [if_pos c2, wans_over (by omega)]
      · rw [if_neg c2]
        have e4 : iabs v = ((p % 18446744073709551616 + q / 18446744073709551616 + 0) % 18446744073709551616) * 18446744073709551616 + q % 18446744073709551616 := by omega
        rw [wans_of e4 (by omega) (by omega) (by omega), sign_parts e4 (by omega) (by omega) sg]
        have e5 := sign_parts (s := decide (v < 0)) e4 (by omega) (by omega) (fun _ => rfl)
        have e6 := wok_wnz (decide (v < 0)) ((p % 18446744073709551616 + q / 18446744073709551616 + 0) % 18446744073709551616) (q % 18446744073709551616)
        rw [e5] at e6
        rw [e6]
        generalize (p % 18446744073709551616 + q / 18446744073709551616 + 0) % 18446744073709551616 = a at *
        generalize q % 18446744073709551616 = b at *
        by_cases c3 : a < 9223372036854775808
        · rw [if_pos c3]; simp [c3]
        · rw [if_neg c3]; simp [c3]
  · rw [if_neg w, if_neg w]

theorem impl_crossed_eq (n m : Bool) (h l d h' l' d' : Int) (h0 : 0 ≤ h) (l0 : 0 ≤ l) (l1 : l < 18446744073709551616) (d0 : -9223372036854775808 ≤ d) (d1 : d ≤ 9223372036854775807) (g0 : 0 ≤ h') (m0 : 0 ≤ l') (m1 : l' < 18446744073709551616) (e0 : -9223372036854775808 ≤ d') (e1 : d' ≤ 9223372036854775807) (k : Nat) (hk : 1 ≤ k) : impl_crossed.f k n h l d m h' l' d' = some (crossAns n h l d m h' l' d') := by
  obtain ⟨k, rfl⟩ : ∃ j, k = j + 1 := ⟨k - 1, by omega⟩
  unfold impl_crossed.f crossAns fok
  simp only [impl_FracOk_eq, Option.bind_some, impl_crossed.j0, impl_ScaleWide_eq n h l d' h0 l0 l1 e0 e1, impl_ScaleWide_eq m h' l' d g0 m0 m1 d0 d1]
  cases (wok n h l && iin d 1 1000000) <;> cases (wok m h' l' && iin d' 1 1000000) <;> simp
  cases (scaleAns n h l d').2.2.2 <;> simp

theorem cmp_isNaN_uint64_eq (a : Int) : cmp_isNaN_uint64.f a = some false := by unfold cmp_isNaN_uint64.f; simp
theorem cmp_Compare_uint64_eq (a b : Int) : cmp_Compare_uint64.f a b = some (cmpI a b) := by
  unfold cmp_Compare_uint64.f cmpI
  simp only [cmp_isNaN_uint64_eq, Option.bind_some]
  by_cases h : a < b
  · simp [h]
  · by_cases h' : a > b <;> simp [h, h']
theorem cmp_Or_int_two (a b : Int) (k : Nat) (hk : 3 ≤ k) : cmp_Or_int.f k [a, b] = some (if a = 0 then b else a) := by
  obtain ⟨k, rfl⟩ : ∃ m, k = m + 3 := ⟨k - 3, by omega⟩
  have w1 : wrap64 (0 + 1) = 1 := by unfold wrap64; omega
  have w2 : wrap64 (1 + 1) = 2 := by unfold wrap64; omega
  have r0 : rd [a, b] 0 = a := rfl
  have r1 : rd [a, b] 1 = b := rfl
  unfold cmp_Or_int.f
  simp only [cmp_Or_int.l0, List.length_cons, List.length_nil, w1, w2, r0, r1]
  by_cases h : a = 0
  · subst h
    by_cases h' : b = 0
    · subst h'; simp
    · simp [h']
  · simp [h]

theorem impl_compareSizes_eq (n m : Bool) (h l h' l' : Int) (k : Nat) (hk : 3 ≤ k) : impl_compareSizes.f k n h l m h' l' = some (if cmpI h h' = 0 then cmpI l l' else cmpI h h') := by
  unfold impl_compareSizes.f
  simp only [cmp_Compare_uint64_eq, Option.bind_some, cmp_Or_int_two _ _ k hk]
theorem cmp_sizes {h l h' l' : Int} (l0 : 0 ≤ l) (l1 : l < 18446744073709551616) (m0 : 0 ≤ l') (m1 : l' < 18446744073709551616) :
    (if cmpI h h' = 0 then cmpI l l' else cmpI h h') = cmpI (h * 18446744073709551616 + l) (h' * 18446744073709551616 + l') := by
  unfold cmpI
  by_cases c1 : h < h'
  · have e : h * 18446744073709551616 + l < h' * 18446744073709551616 + l' := by omega
    simp [c1, e]
  · by_cases c2 : h > h'
    · have e : ¬ h * 18446744073709551616 + l < h' * 18446744073709551616 + l' := by omega
      have e2 : h * 18446744073709551616 + l > h' * 18446744073709551616 + l' := by omega
      rw [if_neg c1, if_pos c2, if_neg e, if_pos e2]; rfl
    · obtain rfl : h = h' := by omega
      rw [if_neg c1, if_neg c2, if_pos rfl]
      by_cases c3 : l < l'
      · rw [if_pos c3, if_pos (by omega)]
      · by_cases c4 : l > l'
        · rw [if_neg c3, if_pos c4, if_neg (by omega), if_pos (by omega)]
        · rw [if_neg c3, if_neg c4, if_neg (by omega), if_neg (by omega)]

theorem impl_CompareWide_eq (n m : Bool) (h l h' l' : Int) (hh : 0 ≤ h) (l0 : 0 ≤ l) (l1 : l < 18446744073709551616) (hh' : 0 ≤ h') (m0 : 0 ≤ l') (m1 : l' < 18446744073709551616) (k : Nat) (hk : 6 ≤ k) :
    impl_CompareWide.f k n h l m h' l' = some (cmpI (wval n h l) (wval m h' l')) := by
  obtain ⟨k, rfl⟩ : ∃ j, k = j + 2 := ⟨k - 2, by omega⟩
  have e1 : wval n h l = wval (wnz n h l) h l := by
    unfold wval wnz
    cases n
    · rfl
    · by_cases c : h > 0
      · simp [c]
      · by_cases d : l > 0
        · simp [d]
        · simp [c, d]; omega
  have e2 : wval m h' l' = wval (wnz m h' l') h' l' := by
    unfold wval wnz
    cases m
    · rfl
    · by_cases c : h' > 0
      · simp [c]
      · by_cases d : l' > 0
        · simp [d]
        · simp [c, d]; omega
  have p1 : wnz n h l = true → h * 18446744073709551616 + l > 0 := by
    unfold wnz; intro x; simp at x; omega
  have p2 : wnz m h' l' = true → h' * 18446744073709551616 + l' > 0 := by
    unfold wnz; intro x; simp at x; omega
  rw [e1, e2]
  unfold impl_CompareWide.f
  simp only [impl_wideOf_eq, Option.bind_some, impl_CompareWide.j0, impl_CompareWide.j1, impl_compareSizes_eq _ _ _ _ _ _ k (by omega)]
  generalize wnz n h l = a at *
  generalize wnz m h' l' = b at *
  cases a <;> cases b
  · simp [cmp_sizes l0 l1 m0 m1, wval]
  · have q := p2 rfl
    simp only [wval, cmpI]
    simp
    first | done | (rw [if_neg (by omega), if_pos (by omega)])
  · have q := p1 rfl
    simp [wval, cmpI]
    try omega
  · simp only [Bool.not_true, if_true, cmp_sizes m0 m1 l0 l1, wval]
    simp [cmpI]

theorem impl_CompareFrac_eq (n m : Bool) (h l d h' l' d' : Int) (h0 : 0 ≤ h) (l0 : 0 ≤ l) (l1 : l < 18446744073709551616) (d0 : -9223372036854775808 ≤ d) (d1 : d ≤ 9223372036854775807) (g0 : 0 ≤ h') (m0 : 0 ≤ l') (m1 : l' < 18446744073709551616) (e0 : -9223372036854775808 ≤ d') (e1 : d' ≤ 9223372036854775807) (k : Nat) (hk : 6 ≤ k) : impl_CompareFrac.f k n h l d m h' l' d' = some (cmpFrac n h l d m h' l' d') := by
  unfold impl_CompareFrac.f cmpFrac
  have p := crossAns_parts n h l d m h' l' d'
  rw [impl_crossed_eq n m h l d h' l' d' h0 l0 l1 d0 d1 g0 m0 m1 e0 e1 k (by omega)]
  simp only [Option.bind_some]
  by_cases c : (crossAns n h l d m h' l' d').2.2.2.2.2.2 = true
  · rw [if_pos c, if_pos c, impl_CompareWide_eq _ _ _ _ _ _ p.1 p.2.2.1 p.2.2.2.1 p.2.2.2.2.1 p.2.2.2.2.2.2.1 p.2.2.2.2.2.2.2 k hk]
    rfl
  · rw [if_neg c, if_neg c]

theorem spec_l5Cross_eq (n m : Bool) (h l d h' l' d' : Int) (h0 : 0 ≤ h) (l0 : 0 ≤ l) (l1 : l < 18446744073709551616) (d0 : -9223372036854775808 ≤ d) (d1 : d ≤ 9223372036854775807) (g0 : 0 ≤ h') (m0 : 0 ≤ l') (m1 : l' < 18446744073709551616) (e0 : -9223372036854775808 ≤ d') (e1 : d' ≤ 9223372036854775807) (k : Nat) (hk : 1 ≤ k) : spec_l5Cross.f k n h l d m h' l' d' = some (crossAns n h l d m h' l' d') := by
  obtain ⟨k, rfl⟩ : ∃ j, k = j + 1 := ⟨k - 1, by omega⟩
  unfold spec_l5Cross.f crossAns fok
  simp only [spec_FracOk_eq, Option.bind_some, spec_l5Cross.j0, spec_ScaleWide_eq n h l d' h0 l0 l1 e0 e1, spec_ScaleWide_eq m h' l' d g0 m0 m1 d0 d1]
  cases (wok n h l && iin d 1 1000000) <;> cases (wok m h' l' && iin d' 1 1000000) <;> simp
  cases (scaleAns n h l d').2.2.2 <;> simp

theorem spec_CompareWide_eq (n m : Bool) (h l h' l' : Int) (hh : 0 ≤ h) (l0 : 0 ≤ l) (l1 : l < 18446744073709551616) (hh' : 0 ≤ h') (m0 : 0 ≤ l') (m1 : l' < 18446744073709551616) (k : Nat) (hk : 6 ≤ k) :
    spec_CompareWide.f k n h l m h' l' = some (cmpI (wval n h l) (wval m h' l')) := by
  obtain ⟨k, rfl⟩ : ∃ j, k = j + 4 := ⟨k - 4, by omega⟩
  unfold spec_CompareWide.f
  simp only [spec_CompareWide.j0, spec_CompareWide.j1, spec_CompareWide.j2, spec_CompareWide.j3, spec_l3Zero_eq, Option.bind_some, spec_l3Order_eq _ _ h l h' l' l0 l1 m0 m1 k (by omega), spec_l3Order_eq _ _ h' l' h l m0 m1 l0 l1 k (by omega)]
  cases n <;> cases m
  · simp [wval]
  · by_cases c : h' = 0 ∧ l' = 0
    · obtain ⟨rfl, rfl⟩ := c
      simp [wval]
    · have c2 : (h' == 0 && l' == 0) = false := by simpa using c
      simp [c2, wval, cmpI]
      rw [if_neg (by omega), if_pos (by omega)]
  · by_cases c : h = 0 ∧ l = 0
    · obtain ⟨rfl, rfl⟩ := c
      simp [wval]
    · have c2 : (h == 0 && l == 0) = false := by simpa using c
      simp [c2, wval, cmpI]
      try omega
  · by_cases c : h = 0 ∧ l = 0
    · obtain ⟨rfl, rfl⟩ := c
      by_cases d : h' = 0 ∧ l' = 0
      · obtain ⟨rfl, rfl⟩ := d
        simp [wval]
      · have d2 : (h' == 0 && l' == 0) = false := by simpa using d
        simp [d2, wval, cmpI]
        rw [if_neg (by omega), if_pos (by omega)]
    · have c2 : (h == 0 && l == 0) = false := by simpa using c
      by_cases d : h' = 0 ∧ l' = 0
      · obtain ⟨rfl, rfl⟩ := d
        simp [c2, wval, cmpI]
        try omega
      · have d2 : (h' == 0 && l' == 0) = false := by simpa using d
        simp [c2, d2, wval, cmpI]

theorem spec_CompareFrac_eq (n m : Bool) (h l d h' l' d' : Int) (h0 : 0 ≤ h) (l0 : 0 ≤ l) (l1 : l < 18446744073709551616) (d0 : -9223372036854775808 ≤ d) (d1 : d ≤ 9223372036854775807) (g0 : 0 ≤ h') (m0 : 0 ≤ l') (m1 : l' < 18446744073709551616) (e0 : -9223372036854775808 ≤ d') (e1 : d' ≤ 9223372036854775807) (k : Nat) (hk : 6 ≤ k) : spec_CompareFrac.f k n h l d m h' l' d' = some (cmpFrac n h l d m h' l' d') := by
  unfold spec_CompareFrac.f cmpFrac
  have p := crossAns_parts n h l d m h' l' d'
  rw [spec_l5Cross_eq n m h l d h' l' d' h0 l0 l1 d0 d1 g0 m0 m1 e0 e1 k (by omega)]
  simp only [Option.bind_some]
  by_cases c : (crossAns n h l d m h' l' d').2.2.2.2.2.2 = true
  · rw [if_pos c, if_pos c, spec_CompareWide_eq _ _ _ _ _ _ p.1 p.2.2.1 p.2.2.2.1 p.2.2.2.2.1 p.2.2.2.2.2.2.1 p.2.2.2.2.2.2.2 k hk]
    rfl
  · rw [if_neg c, if_neg c]

theorem bits_Add64_eq' (a b c : Int) (h : 0 ≤ a ∧ 0 ≤ b ∧ 0 ≤ c ∧ c ≤ 1) : bits_Add64.f a b c = some ((a + b + c) % 18446744073709551616, (a + b + c) / 18446744073709551616) := by
  unfold bits_Add64.f
  rw [if_pos h]
theorem bits_Sub64_eq (a b c : Int) (h : 0 ≤ a ∧ 0 ≤ b ∧ b < 18446744073709551616 ∧ 0 ≤ c ∧ c ≤ 1) : bits_Sub64.f a b c = some ((a - b - c) % 18446744073709551616, if a < b + c then 1 else 0) := by
  unfold bits_Sub64.f
  rw [if_pos h]
theorem impl_AddWide_eq (n m : Bool) (h l h' l' : Int) (h0 : 0 ≤ h) (l0 : 0 ≤ l) (l1 : l < 18446744073709551616) (g0 : 0 ≤ h') (m0 : 0 ≤ l') (m1 : l' < 18446744073709551616) (k : Nat) (hk : 6 ≤ k) : impl_AddWide.f k n h l m h' l' = some (addAns n h l m h' l') := by
  obtain ⟨k, rfl⟩ : ∃ j, k = j + 1 := ⟨k - 1, by omega⟩
  unfold impl_AddWide.f addAns
  simp only [impl_WideOk_eq, Option.bind_some]
  by_cases w : wok n h l = true
  · rw [if_pos w]
    by_cases w' : wok m h' l' = true
    · have hh := wok_high w
      have gg := wok_high w'
      have nz := wok_nz w
      have mz := wok_nz w'
      have sn := wval_neg n h0 l0
      have sm := wval_neg m g0 m0
      rw [nz] at sn
      rw [mz] at sm
      have dn := wval_def n h l
      have dm := wval_def m h' l'
      rw [w, w']
      simp only [impl_AddWide.j0, Bool.not_true, Bool.false_eq_true, if_false, Bool.and_self, if_true]
      generalize wval n h l = u at *
      generalize wval m h' l' = v at *
      by_cases c : (n != m) = true
      · rw [if_pos c]
        simp only [impl_compareSizes_eq n m h l h' l' k (by omega), cmp_sizes l0 l1 m0 m1, Option.bind_some]
        by_cases d : cmpI (h * 18446744073709551616 + l) (h' * 18446744073709551616 + l') < 0
        · rw [if_pos d]
          have dlt : h * 18446744073709551616 + l < h' * 18446744073709551616 + l' := by
            unfold cmpI at d
            by_cases e : h * 18446744073709551616 + l < h' * 18446744073709551616 + l'
            · exact e
            · rw [if_neg e] at d; split at d <;> omega
          have ⟨p, q⟩ := sub_parts m0 m1 l0 l1 g0 gg h0 (by omega)
          rw [bits_Sub64_eq l' l 0 (by omega)]
          simp only [Option.bind_some]
          rw [bits_Sub64_eq h' h _ (by split <;> omega)]
          simp only [Option.bind_some, impl_wideOf_eq]
          have e4 : iabs (u + v) = (h' - h - (if l' < l + 0 then 1 else 0)) % 18446744073709551616 * 18446744073709551616 + (l' - l - 0) % 18446744073709551616 := by
            rw [p]; subst dn dm; unfold iabs
            cases n <;> cases m <;> simp at c ⊢ <;> omega
          have sg : u + v ≠ 0 → decide (u + v < 0) = m := by
            intro _; subst dn dm
            cases n <;> cases m <;> simp at c ⊢ <;> omega
          generalize (h' - h - (if l' < l + 0 then 1 else 0)) % 18446744073709551616 = a at *
          have a0 : 0 ≤ a := by have := iabs_nonneg (u + v); omega
          have b0 : 0 ≤ (l' - l - 0) % 18446744073709551616 := by omega
          rw [wans_of e4 a0 b0 (by omega), if_pos q, sign_parts e4 a0 b0 sg]
        · rw [if_neg d]
          have dle : h' * 18446744073709551616 + l' ≤ h * 18446744073709551616 + l := by
            unfold cmpI at d
            by_cases e : h * 18446744073709551616 + l < h' * 18446744073709551616 + l'
            · rw [if_pos e] at d; omega
            · omega
          have ⟨p, q⟩ := sub_parts l0 l1 m0 m1 h0 hh g0 dle
          rw [bits_Sub64_eq l l' 0 (by omega)]
          simp only [Option.bind_some]
          rw [bits_Sub64_eq h h' _ (by split <;> omega)]
          simp only [Option.bind_some, impl_wideOf_eq]
          have e4 : iabs (u + v) = (h - h' - (if l < l' + 0 then 1 else 0)) % 18446744073709551616 * 18446744073709551616 + (l - l' - 0) % 18446744073709551616 := by
            rw [p]; subst dn dm; unfold iabs
            cases n <;> cases m <;> simp at c ⊢ <;> omega
          have sg : u + v ≠ 0 → decide (u + v < 0) = n := by
            intro z; subst dn dm
            cases n <;> cases m <;> simp at c z ⊢ <;> omega
          generalize (h - h' - (if l < l' + 0 then 1 else 0)) % 18446744073709551616 = a at *
          have a0 : 0 ≤ a := by have := iabs_nonneg (u + v); omega
          have b0 : 0 ≤ (l - l' - 0) % 18446744073709551616 := by omega
          rw [wans_of e4 a0 b0 (by omega), if_pos q, sign_parts e4 a0 b0 sg]
      · rw [if_neg c]
        have nm : n = m := by simpa using c
        subst nm
        rw [bits_Add64_eq' l l' 0 (by omega)]
        simp only [Option.bind_some]
        rw [bits_Add64_eq' h h' _ (by omega)]
        simp only [Option.bind_some, impl_wideOf_eq]
        have e4 : iabs (u + v) = (h + h' + (l + l' + 0) / 18446744073709551616) % 18446744073709551616 * 18446744073709551616 + (l + l' + 0) % 18446744073709551616 := by
          subst dn dm; unfold iabs
          cases n <;> simp <;> omega
        have sg : u + v ≠ 0 → decide (u + v < 0) = n := by
          intro z; subst dn dm
          cases n <;> simp at z ⊢ <;> omega
        have a0 : 0 ≤ (h + h' + (l + l' + 0) / 18446744073709551616) % 18446744073709551616 := by omega
        have b0 : 0 ≤ (l + l' + 0) % 18446744073709551616 := by omega
        have b1 : (l + l' + 0) % 18446744073709551616 < 18446744073709551616 := by omega
        generalize (h + h' + (l + l' + 0) / 18446744073709551616) % 18446744073709551616 = a at *
        generalize (l + l' + 0) % 18446744073709551616 = b at *
        have e6 := wok_wnz n a b
        rw [sign_parts e4 a0 b0 sg] at e6
        rw [wans_of e4 a0 b0 b1, sign_parts e4 a0 b0 sg, impl_WideOk_eq, e6]
        simp only [Option.bind_some]
        by_cases c3 : a < 9223372036854775808
        · rw [if_pos c3, if_pos (decide_eq_true c3)]
        · rw [if_neg c3, if_neg (by simpa using c3)]
    · have w2 : wok m h' l' = false := by simpa using w'
      rw [w2]
      simp [impl_AddWide.j0]
  · have w2 : wok n h l = false := by simpa using w
    rw [if_neg w, w2]
    simp [impl_AddWide.j0]

theorem impl_AddFrac_eq (n m : Bool) (h l d h' l' d' : Int) (h0 : 0 ≤ h) (l0 : 0 ≤ l) (l1 : l < 18446744073709551616) (d0 : -9223372036854775808 ≤ d) (d1 : d ≤ 9223372036854775807) (g0 : 0 ≤ h') (m0 : 0 ≤ l') (m1 : l' < 18446744073709551616) (e0 : -9223372036854775808 ≤ d') (e1 : d' ≤ 9223372036854775807) (k : Nat) (hk : 6 ≤ k) : impl_AddFrac.f k n h l d m h' l' d' = some (addFrac n h l d m h' l' d') := by
  unfold impl_AddFrac.f addFrac impl_fracOf.f
  have p := crossAns_parts n h l d m h' l' d'
  rw [impl_crossed_eq n m h l d h' l' d' h0 l0 l1 d0 d1 g0 m0 m1 e0 e1 k (by omega)]
  simp only [Option.bind_some]
  generalize crossAns n h l d m h' l' d' = c at *
  by_cases z : c.2.2.2.2.2.2 = true
  · rw [if_pos z, if_pos z, impl_AddWide_eq _ _ _ _ _ _ p.1 p.2.2.1 p.2.2.2.1 p.2.2.2.2.1 p.2.2.2.2.2.2.1 p.2.2.2.2.2.2.2 k hk]
    simp only [Option.bind_some]
    generalize addAns c.1 c.2.1 c.2.2.1 c.2.2.2.1 c.2.2.2.2.1 c.2.2.2.2.2.1 = s
    by_cases y : s.2.2.2 = true
    · rw [if_pos y, if_pos y]
      simp only [impl_FracOk_eq, Option.bind_some]
      by_cases x : (wok s.1 s.2.1 s.2.2.1 && iin (wrap64 (d * d')) 1 1000000) = true
      · rw [if_pos x, if_pos (show fok s.1 s.2.1 s.2.2.1 (wrap64 (d * d')) = true from x)]
        rfl
      · rw [if_neg x, if_neg (show ¬ fok s.1 s.2.1 s.2.2.1 (wrap64 (d * d')) = true from x)]
        rfl
    · rw [if_neg y, if_neg y]
  · rw [if_neg z, if_neg z]

theorem at0_some (b : List Int) (hb : b.length ≤ 140737488351232) (j : Int) (j0 : 0 ≤ j) (j1 : j ≤ 100) : ∃ r, laws_at0.f b j = some r ∧ -9223372036854775808 ≤ r ∧ r ≤ 9223372036854775807 ∧ ∀ n, 0 < n → n ≤ 1000 → -1000 ≤ Int.tmod r n ∧ Int.tmod r n ≤ 1000 := by
  have t : ∀ r n : Int, 0 < n → n ≤ 1000 → -1000 ≤ Int.tmod r n ∧ Int.tmod r n ≤ 1000 := by
    intro r n h0 h1
    have e := Int.natAbs_tmod r n
    have : r.natAbs % n.natAbs < n.natAbs := Nat.mod_lt _ (by omega)
    omega
  unfold laws_at0.f
  by_cases c : j < (b.length : Int)
  · rw [if_pos c, if_pos j0]
    exact ⟨_, rfl, (w64_range _).1, (w64_range _).2, fun n => t _ n⟩
  · rw [if_neg c]
    have e := Int.natAbs_tmod (wrap64 (wrap64 (j * 7) + (b.length : Int))) 256
    have : (wrap64 (wrap64 (j * 7) + (b.length : Int))).natAbs % (256 : Int).natAbs < (256 : Int).natAbs := Nat.mod_lt _ (by decide)
    have f : (256 : Int).natAbs = 256 := rfl
    rw [f] at e this
    exact ⟨_, rfl, by omega, by omega, fun n => t _ n⟩
theorem order_shift (a b c p q r : Int) (hp : 0 < p) (hq : 0 < q) (hr : 0 < r) : cmpI ((a * r + c * p) * (q * r)) ((b * r + c * q) * (p * r)) = cmpI (a * q) (b * p) := by
  have e1 : (a * r + c * p) * (q * r) = a * q * (r * r) + c * p * q * r := by grind
  have e2 : (b * r + c * q) * (p * r) = b * p * (r * r) + c * p * q * r := by grind
  rw [e1, e2, cmpI_shift, cmpI_scale _ _ _ (Int.mul_pos hr hr)]
theorem FnFracOrder : laws_FnFracOrder.Pure := by
  intro b _ hb _
  refine ⟨b.length + 17, ?_⟩
  have hb' : b.length ≤ 140737488351232 := by omega
  unfold laws_FnFracOrder.f spec_DrawCompareFrac.f
  rw [laws_big_eq]; simp only [Option.bind_some]
  by_cases hbig : decide ((b.length : Int) > 1048576) = true
  · rw [if_pos hbig]
  · rw [if_neg hbig]
    obtain ⟨n, p, q, d, m, p', q', d', e, f1, f2⟩ := l5Two_some b hb' (b.length + 17) (by omega) (by omega)
    rw [e]; simp only [Option.bind_some]
    have a1 := f1.1; have a2 := f1.2.2.1; have a3 := f1.2.2.2.1; have a4 := f1.2.2.2.2.1; have a5 := f1.2.2.2.2.2
    have b1 := f2.1; have b2 := f2.2.2.1; have b3 := f2.2.2.2.1; have b4 := f2.2.2.2.2.1; have b5 := f2.2.2.2.2.2
    rw [impl_CompareFrac_eq n m p q d p' q' d' a1 a2 a3 a4 a5 b1 b2 b3 b4 b5 _ (by omega), impl_CompareFrac_eq m n p' q' d' p q d b1 b2 b3 b4 b5 a1 a2 a3 a4 a5 _ (by omega), spec_CompareFrac_eq n m p q d p' q' d' a1 a2 a3 a4 a5 b1 b2 b3 b4 b5 _ (by omega)]
    simp only [Option.bind_some]
    have sw := cmpFrac_swap n p q d m p' q' d'
    have cs := cmpFrac_cases m p' q' d' n p q d
    have ng : wrap64 (-(cmpFrac m p' q' d' n p q d).1) = -(cmpFrac m p' q' d' n p q d).1 := w64_id (by omega) (by omega)
    rw [if_neg (by simp), if_neg (by simp [sw.1]), ng, ← sw.2]
    simp only [laws_FnFracOrder.j0, bne_self_eq_false, Bool.false_eq_true, if_false]
    obtain ⟨g, eg, g0, g1, _⟩ := at0_some b hb' 3 (by omega) (by omega)
    obtain ⟨u, eu, u0, u1, ut⟩ := at0_some b hb' 4 (by omega) (by omega)
    have ut9 := ut 9 (by omega) (by omega)
    rw [eg, eu]; simp only [Option.bind_some]
    have w : wrap64 (1 + Int.tmod u 9) = 1 + Int.tmod u 9 := w64_id (by omega) (by omega)
    rw [spec_SquareOver_eq g _ g0 g1, w]; simp only [Option.bind_some]
    have sp := sqAns_parts (g := g) (1 + Int.tmod u 9) g0 g1
    have sd := sqAns_den (g := g) (1 + Int.tmod u 9) (by omega) (by omega)
    generalize sqAns g (1 + Int.tmod u 9) = c at *
    rw [impl_AddFrac_eq n c.1 p q d c.2.1 c.2.2.1 c.2.2.2.1 a1 a2 a3 a4 a5 sp.1 sp.2.2.1 sp.2.2.2 sd.1 sd.2 _ (by omega), impl_AddFrac_eq m c.1 p' q' d' c.2.1 c.2.2.1 c.2.2.2.1 b1 b2 b3 b4 b5 sp.1 sp.2.2.1 sp.2.2.2 sd.1 sd.2 _ (by omega)]
    simp only [Option.bind_some]
    by_cases ok : (cmpFrac n p q d m p' q' d').2 = true
    · rw [if_pos ok]
      by_cases o1 : (addFrac n p q d c.1 c.2.1 c.2.2.1 c.2.2.2.1).2.2.2.2 = true
      · rw [if_pos o1]
        by_cases o2 : (addFrac m p' q' d' c.1 c.2.1 c.2.2.1 c.2.2.2.1).2.2.2.2 = true
        · rw [if_pos o2]
          have x1 := addFrac_parts n p q d c.1 c.2.1 c.2.2.1 c.2.2.2.1
          have x2 := addFrac_parts m p' q' d' c.1 c.2.1 c.2.2.1 c.2.2.2.1
          have k1 := addFrac_ok o1
          have k2 := addFrac_ok o2
          rw [impl_CompareFrac_eq _ _ _ _ _ _ _ _ x1.1 x1.2.2.1 x1.2.2.2.1 x1.2.2.2.2.1 x1.2.2.2.2.2 x2.1 x2.2.2.1 x2.2.2.2.1 x2.2.2.2.2.1 x2.2.2.2.2.2 _ (by omega)]
          simp only [Option.bind_some]
          generalize addFrac n p q d c.1 c.2.1 c.2.2.1 c.2.2.2.1 = X at *
          generalize addFrac m p' q' d' c.1 c.2.1 c.2.2.1 c.2.2.2.1 = Y at *
          by_cases o3 : (cmpFrac X.1 X.2.1 X.2.2.1 X.2.2.2.1 Y.1 Y.2.1 Y.2.2.1 Y.2.2.2.1).2 = true
          · rw [if_pos o3, (cmpFrac_ok o3).2.2, (cmpFrac_ok ok).2.2, k1.2.2.2.1, k2.2.2.2.1, k1.2.2.1, k2.2.2.1]
            have t1 := fok_den k1.1
            have t2 := fok_den k2.1
            have t3 := fok_den k1.2.1
            rw [order_shift _ _ _ _ _ _ (by omega) (by omega) (by omega)]
            simp
          · rw [if_neg o3]
        · rw [if_neg o2]
      · rw [if_neg o1]
    · rw [if_neg ok]

end Go.Proofs.Ytlndcgmojabgbaa.Pure
