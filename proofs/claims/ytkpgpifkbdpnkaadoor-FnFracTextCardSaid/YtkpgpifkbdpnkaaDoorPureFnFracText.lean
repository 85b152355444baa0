/- A valid fraction's text is its parts' texts with a stroke between, and both are read back; no other fraction has one. Conditions: each number is one of its kind, as the row says. -/
import Derived.Test.YtkpgpifkbdpnkaaDoorPFnFracTextx
import Derived.Test.YtkpgpifkbdpnkaaDoorBase
set_option linter.unusedSimpArgs false
set_option linter.unusedVariables false
namespace Go.Proofs.YtkpgpifkbdpnkaaDoor.Pure
open Go.RowKit Go.Proofs.YtkpgpifkbdpnkaaDoor.Base Go.Proofs.YtkpgpifkbdpnkaaDoor.PFnFracText Go.Proofs.YtkpgpifkbdpnkaaDoorVFnFracText.PrintWords Go.Proofs.YtkpgpifkbdpnkaaDoorVFnFracText.PrintLast Go.Proofs.YtkpgpifkbdpnkaaDoorVFnFracText.PrintMore

theorem laws_big_eq (b : List Int) : laws_big.f b = some (decide ((b.length : Int) > 1048576)) := by
  unfold laws_big.f; rfl

theorem l1New_loop (b : List Int) (hb : b.length ≤ 140737488351232) (d : Nat) : ∀ (k : Nat) (x3 x4 : Int), 0 ≤ x4 → x4 ≤ b.length → (b.length : Int) - x4 = d → d < k → ∃ h, spec_l1New.l0 k b x3 x4 = some (b, 0, h) := by
  induction d with
  | zero =>
    intro k x3 x4 h0 h1 hd hk
    obtain ⟨k, rfl⟩ : ∃ m, k = m + 1 := ⟨k - 1, by omega⟩
    exact ⟨x3, by simp only [spec_l1New.l0]; rw [if_neg (by omega)]⟩
  | succ d ih =>
    intro k x3 x4 h0 h1 hd hk
    obtain ⟨k, rfl⟩ : ∃ m, k = m + 1 := ⟨k - 1, by omega⟩
    simp only [spec_l1New.l0]
    rw [if_pos (by omega)]
    by_cases c : x4 < 4000
    · rw [if_pos c, if_pos h0]
      have e : wrap64 (x4 + 1) = x4 + 1 := w64_id (by omega) (by omega)
      rw [e]
      exact ih k _ (x4 + 1) (by omega) (by omega) (by omega) (by omega)
    · rw [if_neg c]
      exact ⟨x3, rfl⟩
theorem l1New_some (b : List Int) (hb : b.length ≤ 140737488351232) (k : Nat) (hk : b.length < k) : ∃ h, spec_l1New.f k b = some (b, 0, h) := by
  unfold spec_l1New.f
  exact l1New_loop b hb b.length k _ 0 (by omega) (by omega) (by omega) hk

theorem l1Byte_some (b : List Int) (hb : b.length ≤ 140737488351232) (i h : Int) (hi : 0 ≤ i) : ∃ x i' h', spec_l1Byte.f b i h = some (x, i', h') ∧ 0 ≤ x ∧ x ≤ 255 ∧ 0 ≤ i' := by
  unfold spec_l1Byte.f
  by_cases c : i < (b.length : Int)
  · rw [if_pos c, if_pos hi]
    refine ⟨_, _, _, rfl, (and255 _).1, (and255 _).2, ?_⟩
    rw [w64_id (by omega) (by omega)]; omega
  · rw [if_neg c]
    exact ⟨_, _, _, rfl, (and255 _).1, (and255 _).2, hi⟩

theorem l1Below_some (b : List Int) (hb : b.length ≤ 140737488351232) (i h n : Int) (hi : 0 ≤ i) (hn : n ≤ 4294967296) : ∃ x i' h', spec_l1Below.f b i h n = some (x, i', h') ∧ 0 ≤ x ∧ (0 < n → x < n) ∧ 0 ≤ i' := by
  unfold spec_l1Below.f
  by_cases c : n ≤ 0
  · rw [if_pos c]
    exact ⟨_, _, _, rfl, by omega, fun _ => by omega, hi⟩
  · rw [if_neg c]
    by_cases d : n ≤ 256
    · rw [if_pos d]
      obtain ⟨x, i', h', e, x0, x1, hi'⟩ := l1Byte_some b hb i h hi
      rw [e]
      simp only [Option.bind_some]
      rw [if_neg (by omega)]
      have := tmod_range (n := n) x0 (by omega)
      exact ⟨_, _, _, rfl, this.1, fun _ => this.2, hi'⟩
    · rw [if_neg d]
      obtain ⟨x, i1, h1, e1, x0, x1, hi1⟩ := l1Byte_some b hb i h hi
      obtain ⟨y, i2, h2, e2, y0, y1, hi2⟩ := l1Byte_some b hb i1 h1 hi1
      obtain ⟨z, i3, h3, e3, z0, z1, hi3⟩ := l1Byte_some b hb i2 h2 hi2
      obtain ⟨u, i4, h4, e4, u0, u1, hi4⟩ := l1Byte_some b hb i3 h3 hi3
      rw [e1]; simp only [Option.bind_some]
      rw [e2]; simp only [Option.bind_some]
      rw [e3]; simp only [Option.bind_some]
      rw [e4]; simp only [Option.bind_some]
      rw [if_neg (by omega)]
      have e : wrap64 (wrap64 (wrap64 (wrap64 (x * 16777216) + wrap64 (y * 65536)) + wrap64 (z * 256)) + u) = x * 16777216 + y * 65536 + z * 256 + u := by
        unfold wrap64; omega
      rw [e]
      have := tmod_range (x := x * 16777216 + y * 65536 + z * 256 + u) (n := n) (by omega) (by omega)
      exact ⟨_, _, _, rfl, this.1, fun _ => this.2, hi4⟩

theorem l1PickInt_some (b : List Int) (hb : b.length ≤ 140737488351232) (i h : Int) (l : List Int) (hi : 0 ≤ i) (h0 : 0 < l.length) (hl : l.length ≤ 4294967296) : ∃ x i' h', spec_l1PickInt.f b i h l = some (x, i', h') ∧ x ∈ l ∧ 0 ≤ i' := by
  unfold spec_l1PickInt.f
  obtain ⟨x, i', h', e, x0, x1, hi'⟩ := l1Below_some b hb i h (l.length : Int) hi (by omega)
  have x2 := x1 (by omega)
  rw [e]
  simp only [Option.bind_some]
  rw [if_pos x0, if_pos x2]
  refine ⟨_, _, _, rfl, ?_, hi'⟩
  have : x.toNat < l.length := by omega
  unfold rd
  rw [List.getD_eq_getElem?_getD, List.getElem?_eq_getElem this]
  exact List.getElem_mem this

theorem l1Whole_loop (b : List Int) (hb : b.length ≤ 140737488351232) (d : Nat) : ∀ (k : Nat) (x3 x4 i h : Int), 0 ≤ i → x4 ≤ 8 → -8 ≤ x4 → (8 : Int) - x4 = d → d < k → -9223372036854775808 ≤ x3 → x3 ≤ 9223372036854775807 →
    ∃ x i' h', spec_l1Whole.l0 k x3 x4 b i h = some (x, i', h') ∧ -9223372036854775808 ≤ x ∧ x ≤ 9223372036854775807 ∧ 0 ≤ i' := by
  induction d with
  | zero =>
    intro k x3 x4 i h hi h1 h2 hd hk r0 r1
    obtain ⟨k, rfl⟩ : ∃ m, k = m + 1 := ⟨k - 1, by omega⟩
    exact ⟨x3, i, h, by simp only [spec_l1Whole.l0]; rw [if_neg (by omega)], r0, r1, hi⟩
  | succ d ih =>
    intro k x3 x4 i h hi h1 h2 hd hk r0 r1
    obtain ⟨k, rfl⟩ : ∃ m, k = m + 1 := ⟨k - 1, by omega⟩
    simp only [spec_l1Whole.l0]
    rw [if_pos (by omega)]
    obtain ⟨x, i', h', e, x0, x1, hi'⟩ := l1Byte_some b hb i h hi
    rw [e]
    simp only [Option.bind_some]
    rw [w64_id (n := x4 + 1) (by omega) (by omega)]
    have r := w64_range (wrap64 (x3 * 256) + x)
    exact ih k _ (x4 + 1) i' h' hi' (by omega) (by omega) (by omega) (by omega) r.1 r.2
theorem l1Whole_some (b : List Int) (hb : b.length ≤ 140737488351232) (i h : Int) (hi : 0 ≤ i) (k : Nat) (hk : 9 ≤ k) : ∃ x i' h', spec_l1Whole.f k b i h = some (x, i', h') ∧ -9223372036854775808 ≤ x ∧ x ≤ 9223372036854775807 ∧ 0 ≤ i' := by
  unfold spec_l1Whole.f
  obtain ⟨x, i1, h1, e, x0, x1, hi1⟩ := l1Below_some b hb i h 4 hi (by omega)
  rw [e]
  simp only [Option.bind_some]
  by_cases c0 : x = 0
  · rw [if_pos c0]
    obtain ⟨y, i2, h2, e2, hy, hi2⟩ := l1PickInt_some b hb i1 h1 [0, 1, (-1), 9, 10, 999, 1000, 2147483647, (-2147483648), 3037000499, 3037000500, 9223372036854775807, (-9223372036854775807), (-9223372036854775808)] hi1 (by simp) (by simp)
    rw [e2]
    simp only [Option.bind_some]
    refine ⟨_, _, _, rfl, ?_, ?_, hi2⟩ <;> (simp only [List.mem_cons, List.not_mem_nil, or_false] at hy; omega)
  · rw [if_neg c0]
    by_cases c1 : x = 1
    · rw [if_pos c1]
      exact l1Whole_loop b hb 8 k 0 0 i1 h1 hi1 (by omega) (by omega) (by omega) (by omega) (by omega) (by omega)
    · rw [if_neg c1]
      by_cases c2 : x = 2
      · rw [if_pos c2]
        obtain ⟨y, i2, h2, e2, _, _, hi2⟩ := l1Below_some b hb i1 h1 1000000 hi1 (by omega)
        rw [e2]
        exact ⟨_, _, _, rfl, (w64_range _).1, (w64_range _).2, hi2⟩
      · rw [if_neg c2]
        obtain ⟨y, i2, h2, e2, _, _, hi2⟩ := l1Below_some b hb i1 h1 41 hi1 (by omega)
        rw [e2]
        exact ⟨_, _, _, rfl, (w64_range _).1, (w64_range _).2, hi2⟩

theorem l1Once_some (b : List Int) (hb : b.length ≤ 140737488351232) (i h n : Int) (hi : 0 ≤ i) (hn : n ≤ 4294967296) : ∃ x i' h', spec_l1Once.f b i h n = some (x, i', h') ∧ 0 ≤ i' := by
  unfold spec_l1Once.f
  obtain ⟨x, i', h', e, _, _, hi'⟩ := l1Below_some b hb i h n hi hn
  rw [e]
  exact ⟨_, _, _, rfl, hi'⟩

theorem spec_l3Abs_eq (a : Int) (h0 : -9223372036854775808 ≤ a) (h1 : a ≤ 9223372036854775807) : spec_l3Abs.f a = some (iabs a) := by
  unfold spec_l3Abs.f iabs
  by_cases h : a < 0
  · rw [if_pos h, if_pos h]; simp only [wu64]; unfold wrap64; congr 1; omega
  · rw [if_neg h, if_neg h]; simp only [wu64]; congr 1; omega

theorem spec_WideOf_eq (a : Int) (h0 : -9223372036854775808 ≤ a) (h1 : a ≤ 9223372036854775807) : spec_WideOf.f a = some (wnorm a) := by
  have hb := iabs_u64 h0 h1
  unfold spec_WideOf.f
  simp only [spec_l3Abs_eq a h0 h1, Option.bind_some, wnorm]
  have e1 : iabs a / 18446744073709551616 = 0 := by omega
  have e2 : iabs a % 18446744073709551616 = iabs a := by omega
  rw [e1, e2]

theorem spec_l3Product_eq (a b : Int) (ha0 : 0 ≤ a) (ha : a < 18446744073709551616) (hb0 : 0 ≤ b) (hb : b < 18446744073709551616) : spec_l3Product.f a b = some (a * b / 18446744073709551616, a * b % 18446744073709551616) := by
  unfold spec_l3Product.f
  rw [and_mask32 a ha0 ha, and_mask32 b hb0 hb]
  rw [and_mask32 (IntKind.u64.wrap (_ + _)) (by rw [wu64]; omega) (by rw [wu64]; omega), and_mask32 (IntKind.u64.wrap (a % 4294967296 * (b % 4294967296))) (by rw [wu64]; omega) (by rw [wu64]; omega)]
  have h := prod_split a b
  have ⟨l1, u1⟩ := mul_bound (x := a / 4294967296) (y := b / 4294967296) (by omega) (by omega) (by omega) (by omega)
  have ⟨l2, u2⟩ := mul_bound (x := a / 4294967296) (y := b % 4294967296) (by omega) (by omega) (by omega) (by omega)
  have ⟨l3, u3⟩ := mul_bound (x := a % 4294967296) (y := b / 4294967296) (by omega) (by omega) (by omega) (by omega)
  have ⟨l4, u4⟩ := mul_bound (x := a % 4294967296) (y := b % 4294967296) (by omega) (by omega) (by omega) (by omega)
  have lt := (mul_u64 a b ha0 ha hb0 hb).2
  simp only [wu64]
  generalize (a / 4294967296) * (b / 4294967296) = p at *
  generalize (a / 4294967296) * (b % 4294967296) = q at *
  generalize (a % 4294967296) * (b / 4294967296) = r at *
  generalize (a % 4294967296) * (b % 4294967296) = s at *
  generalize a * b = t at *
  simp only [Option.some.injEq, Prod.mk.injEq]
  constructor <;> omega

theorem spec_MulWide_eq (a b : Int) (ha0 : -9223372036854775808 ≤ a) (ha1 : a ≤ 9223372036854775807) (hb0 : -9223372036854775808 ≤ b) (hb1 : b ≤ 9223372036854775807) : spec_MulWide.f a b = some (wnorm (a * b)) := by
  have ⟨a2, a3⟩ := iabs_u64 ha0 ha1
  have ⟨b2, b3⟩ := iabs_u64 hb0 hb1
  unfold spec_MulWide.f
  simp only [spec_l3Abs_eq a ha0 ha1, spec_l3Abs_eq b hb0 hb1, spec_l3Product_eq _ _ a2 a3 b2 b3, Option.bind_some, wnorm, iabs_mul, mul_sign]
  by_cases c : (decide (a < 0) != decide (b < 0)) = true
  · rw [if_pos c, c]
    by_cases d : a = 0
    · rw [if_pos d]; simp [d]
    · rw [if_neg d]; simp [d]
  · rw [if_neg c]
    have : (decide (a < 0) != decide (b < 0)) = false := by simpa using c
    rw [this]; simp

theorem l3Wide_some (b : List Int) (hb : b.length ≤ 140737488351232) (i h : Int) (hi : 0 ≤ i) (k : Nat) (hk : 9 ≤ k) : ∃ n x y i' h', spec_l3Wide.f k b i h = some (n, x, y, i', h') ∧ 0 ≤ x ∧ x < 18446744073709551616 ∧ 0 ≤ y ∧ y < 18446744073709551616 ∧ 0 ≤ i' := by
  unfold spec_l3Wide.f
  obtain ⟨c, i1, h1, e1, c0, c1, hi1⟩ := l1Below_some b hb i h 5 hi (by omega)
  rw [e1]; simp only [Option.bind_some]
  by_cases d0 : c = 0
  · rw [if_pos d0]
    obtain ⟨x, i2, h2, e2, x0, x1, hi2⟩ := l1Whole_some b hb i1 h1 hi1 k hk
    rw [e2]; simp only [Option.bind_some]
    rw [spec_WideOf_eq x x0 x1]
    have p := wnorm_parts (v := x) (by have := iabs_u64 x0 x1; omega)
    exact ⟨_, _, _, _, _, rfl, p.1, p.2.1, p.2.2.1, p.2.2.2, hi2⟩
  · rw [if_neg d0]
    by_cases d1 : c = 1
    · rw [if_pos d1]
      obtain ⟨x, i2, h2, e2, x0, x1, hi2⟩ := l1Below_some b hb i1 h1 7 hi1 (by omega)
      have x2 := x1 (by omega)
      rw [e2]; simp only [Option.bind_some]
      rw [if_pos x0, if_pos (by simpa using x2)]
      have hx : x = 0 ∨ x = 1 ∨ x = 2 ∨ x = 3 ∨ x = 4 ∨ x = 5 ∨ x = 6 := by omega
      refine ⟨_, _, _, _, _, rfl, ?_, ?_, ?_, ?_, hi2⟩ <;>
        (rcases hx with rfl | rfl | rfl | rfl | rfl | rfl | rfl <;> simp [rd_T28])
    · rw [if_neg d1]
      obtain ⟨x, i2, h2, e2, x0, x1, hi2⟩ := l1Whole_some b hb i1 h1 hi1 k hk
      rw [e2]; simp only [Option.bind_some]
      obtain ⟨y, i3, h3, e3, y0, y1, hi3⟩ := l1Whole_some b hb i2 h2 hi2 k hk
      rw [e3]; simp only [Option.bind_some]
      rw [spec_MulWide_eq x y x0 x1 y0 y1]; simp only [Option.bind_some]
      have q0 := iabs_i64 x0 x1
      have q1 := iabs_i64 y0 y1
      have pm := iabs_mul x y
      have pb := Int.mul_le_mul q0 q1 (iabs_nonneg y) (by decide)
      have p := wnorm_parts (v := x * y) (by rw [← pm]; omega)
      obtain ⟨u, i4, h4, e4, hi4⟩ := l1Once_some b hb i3 h3 10 hi3 (by omega)
      rw [e4]; simp only [Option.bind_some]
      obtain ⟨u2, i5, h5, e5, hi5⟩ := l1Once_some b hb i4 h4 10 hi4 (by omega)
      have wr := u64_wrap_range ((wnorm (x * y)).2.1 + 9223372036854775808)
      by_cases cu : u = true
      · rw [if_pos cu, e5]; simp only [Option.bind_some]
        by_cases cv : u2 = true
        · rw [if_pos cv]; exact ⟨_, _, _, _, _, rfl, wr.1, wr.2, p.2.2.1, p.2.2.2, hi5⟩
        · rw [if_neg cv]; exact ⟨_, _, _, _, _, rfl, wr.1, wr.2, p.2.2.1, p.2.2.2, hi5⟩
      · rw [if_neg cu, e5]; simp only [Option.bind_some]
        by_cases cv : u2 = true
        · rw [if_pos cv]; exact ⟨_, _, _, _, _, rfl, p.1, p.2.1, p.2.2.1, p.2.2.2, hi5⟩
        · rw [if_neg cv]; exact ⟨_, _, _, _, _, rfl, p.1, p.2.1, p.2.2.1, p.2.2.2, hi5⟩

theorem spec_WideOk_eq (n : Bool) (h l : Int) : spec_WideOk.f n h l = some (wok n h l) := by
  unfold spec_WideOk.f wok
  by_cases c1 : h < 9223372036854775808
  · rw [if_pos c1]
    cases n
    · simp [c1]
    · by_cases c2 : h > 0
      · simp [c1, c2]
      · simp [c1, c2]
  · rw [if_neg c1]; simp [c1]

theorem spec_l1In_eq (a b c : Int) : spec_l1In.f a b c = some (iin a b c) := by
  unfold spec_l1In.f iin
  by_cases h : a ≥ b
  · rw [if_pos h]; simp [show b ≤ a from h]
  · rw [if_neg h]; simp [show ¬ b ≤ a from h]

theorem spec_FracOk_eq (n : Bool) (h l d : Int) : spec_FracOk.f n h l d = some (wok n h l && iin d 1 1000000) := by
  unfold spec_FracOk.f
  simp only [spec_WideOk_eq, spec_l1In_eq, Option.bind_some]
  cases wok n h l <;> simp

theorem spec_SquareOver_eq (g d : Int) (g0 : -9223372036854775808 ≤ g) (g1 : g ≤ 9223372036854775807) : spec_SquareOver.f g d = some (sqAns g d) := by
  unfold spec_SquareOver.f sqAns fok
  rw [spec_MulWide_eq g g g0 g1 g0 g1]; simp only [Option.bind_some, spec_FracOk_eq]
  by_cases c : (wok (wnorm (g * g)).1 (wnorm (g * g)).2.1 (wnorm (g * g)).2.2 && iin d 1 1000000) = true
  · rw [if_pos c, if_pos c]
  · rw [if_neg c, if_neg c]

/-- Two parts of a wide number and a denominator, each of 64 bits. -/
def fin64 (p q d : Int) : Prop := 0 ≤ p ∧ p < 18446744073709551616 ∧ 0 ≤ q ∧ q < 18446744073709551616 ∧ -9223372036854775808 ≤ d ∧ d ≤ 9223372036854775807
theorem l5Frac_j0 (b : List Int) (hb : b.length ≤ 140737488351232) (x : Bool) (i h : Int) (hi : 0 ≤ i) (n : Bool) (p q d : Int) (hp : fin64 p q d) (k : Nat) (hk : 10 ≤ k) :
    ∃ n' p' q' d' i' h', spec_l5Frac.j0 k x b i h n p q d = some (n', p', q', d', i', h') ∧ fin64 p' q' d' ∧ 0 ≤ i' := by
  obtain ⟨k, rfl⟩ : ∃ m, k = m + 1 := ⟨k - 1, by omega⟩
  simp only [spec_l5Frac.j0]
  by_cases c : x = true
  · rw [if_pos c]
    obtain ⟨m, y, z, i1, h1, e1, y0, y1, z0, z1, hi1⟩ := l3Wide_some b hb i h hi k (by omega)
    rw [e1]; simp only [Option.bind_some]
    obtain ⟨u, i2, h2, e2, hu, hi2⟩ := l1PickInt_some b hb i1 h1 [1, 2, 3, 999, 1000, 1001, 1000000, 1000001, 0, (-1), 9223372036854775807] hi1 (by simp) (by simp)
    rw [e2]; simp only [Option.bind_some]
    have hd : -9223372036854775808 ≤ u ∧ u ≤ 9223372036854775807 := by
      simp only [List.mem_cons, List.not_mem_nil, or_false] at hu; omega
    exact ⟨_, _, _, _, _, _, rfl, ⟨y0, y1, z0, z1, hd.1, hd.2⟩, hi2⟩
  · rw [if_neg c]
    exact ⟨_, _, _, _, _, _, rfl, hp, hi⟩
theorem l5Frac_some (b : List Int) (hb : b.length ≤ 140737488351232) (i h : Int) (hi : 0 ≤ i) (k : Nat) (hk : 10 ≤ k) :
    ∃ n' p' q' d' i' h', spec_l5Frac.f k b i h = some (n', p', q', d', i', h') ∧ fin64 p' q' d' ∧ 0 ≤ i' := by
  unfold spec_l5Frac.f
  obtain ⟨g, i1, h1, e1, g0, g1, hi1⟩ := l1Whole_some b hb i h hi k (by omega)
  rw [e1]; simp only [Option.bind_some]
  obtain ⟨x, i2, h2, e2, x0, x1, hi2⟩ := l1Below_some b hb i1 h1 140 hi1 (by omega)
  have x2 := x1 (by omega)
  rw [e2]; simp only [Option.bind_some]
  have w : wrap64 (1 + x) = 1 + x := w64_id (by omega) (by omega)
  rw [spec_SquareOver_eq g _ g0 g1, w]; simp only [Option.bind_some]
  have sp := sqAns_parts (g := g) (1 + x) g0 g1
  have sd := sqAns_den (g := g) (1 + x) (by omega) (by omega)
  have f : fin64 (sqAns g (1 + x)).2.1 (sqAns g (1 + x)).2.2.1 (sqAns g (1 + x)).2.2.2.1 := ⟨sp.1, sp.2.1, sp.2.2.1, sp.2.2.2, sd.1, sd.2⟩
  by_cases c : (sqAns g (1 + x)).2.2.2.2 = true
  · rw [if_pos c]
    obtain ⟨y, i3, h3, e3, hi3⟩ := l1Once_some b hb i2 h2 5 hi2 (by omega)
    rw [e3]; simp only [Option.bind_some]
    exact l5Frac_j0 b hb y i3 h3 hi3 _ _ _ _ f k hk
  · rw [if_neg c]
    exact l5Frac_j0 b hb true i2 h2 hi2 _ _ _ _ f k hk

theorem wu (n : Int) : IntKind.u64.wrap n = n % 18446744073709551616 := wu64 n
theorem leadingZeros_chunk : bits_LeadingZeros64.f 10000000000000000000 = some 0 := by
  unfold bits_LeadingZeros64.f bits_Len64.f
  have e : Go.Lib.bitLen (10000000000000000000 : Int).toNat = 64 := by decide +kernel
  rw [if_pos (by omega), e]
  show some (wrap64 (64 - ((64 : Nat) : Int))) = some 0
  rw [w64_id (by omega) (by omega)]; rfl
theorem div_stage1 (h u1 u0 : Int) (h0 : 0 ≤ h) (h1 : h < 10000000000000000000) (a0 : 0 ≤ u1) (a1 : u1 < 4294967296) (d : Nat) : ∀ (k : Nat) (q r : Int), (h * 4294967296 + u1) / 10000000000000000000 ≤ q → q ≤ 4294967297 → 0 ≤ r → r < 4294967296 → r = h - q * 2328306436 → 4294967296 ≤ r + d * 2328306436 → 2 * d < k →
    ∃ k', k ≤ k' + 2 * d + 2 ∧ bits_Div64.l0 k 10000000000000000000 0 2328306436 2313682944 h u1 u0 q r = bits_Div64.j2 k' 10000000000000000000 0 2328306436 2313682944 h u1 u0 ((h * 4294967296 + u1) / 10000000000000000000) := by
  induction d with
  | zero => intro k q r _ _ _ hr _ hd; omega
  | succ d ih =>
    intro k q r hq hq2 r0 r1 hr hd hk
    obtain ⟨k, rfl⟩ : ∃ m, k = m + 2 := ⟨k - 2, by omega⟩
    have eq1 : IntKind.u64.wrap (q * 2313682944) = q * 2313682944 := by rw [wu]; omega
    have eq2 : IntKind.u64.wrap (IntKind.u64.wrap (4294967296 * r) + u1) = 4294967296 * r + u1 := by rw [wu, wu]; omega
    have eq3 : IntKind.u64.wrap (r + 2328306436) = r + 2328306436 := by rw [wu]; omega
    have down : ((h * 4294967296 + u1) / 10000000000000000000 < q) → ∃ k', k + 2 ≤ k' + 2 * (d + 1) + 2 ∧ bits_Div64.j1 (k + 1) 10000000000000000000 0 2328306436 2313682944 h u1 u0 q r true = bits_Div64.j2 k' 10000000000000000000 0 2328306436 2313682944 h u1 u0 ((h * 4294967296 + u1) / 10000000000000000000) := by
      intro hlt
      have eq4 : IntKind.u64.wrap (q - 1) = q - 1 := by rw [wu]; omega
      simp only [bits_Div64.j1]
      rw [if_pos trivial, eq3, eq4]
      by_cases c : r + 2328306436 ≥ 4294967296
      · rw [if_pos c]
        have e : q - 1 = (h * 4294967296 + u1) / 10000000000000000000 := by omega
        rw [e]
        exact ⟨k, by omega, rfl⟩
      · rw [if_neg c]
        obtain ⟨k', hk', e⟩ := ih k (q - 1) (r + 2328306436) (by omega) (by omega) (by omega) (by omega) (by omega) (by omega) (by omega)
        exact ⟨k', by omega, e⟩
    rw [show k + 2 = (k + 1) + 1 from rfl]
    simp only [bits_Div64.l0]
    by_cases c1 : q ≥ 4294967296
    · rw [if_pos c1]
      exact down (by omega)
    · rw [if_neg c1, eq1, eq2]
      by_cases c2 : q * 2313682944 > 4294967296 * r + u1
      · rw [decide_eq_true c2]
        exact down (by omega)
      · rw [decide_eq_false c2]
        simp only [bits_Div64.j1]
        rw [if_neg (by decide)]
        have e : q = (h * 4294967296 + u1) / 10000000000000000000 := by omega
        rw [← e]
        exact ⟨k, by omega, rfl⟩
theorem div_stage2 (h u0 t : Int) (h0 : 0 ≤ h) (h1 : h < 10000000000000000000) (a0 : 0 ≤ u0) (a1 : u0 < 4294967296) (d : Nat) : ∀ (k : Nat) (q r : Int), (h * 4294967296 + u0) / 10000000000000000000 ≤ q → q ≤ 4294967297 → 0 ≤ r → r < 4294967296 → r = h - q * 2328306436 → 4294967296 ≤ r + d * 2328306436 → 2 * d < k →
    bits_Div64.l1 k 10000000000000000000 0 2328306436 2313682944 u0 t r h q = some (IntKind.u64.wrap (IntKind.u64.wrap (t * 4294967296) + (h * 4294967296 + u0) / 10000000000000000000), (h * 4294967296 + u0) % 10000000000000000000) := by
  induction d with
  | zero => intro k q r _ _ _ hr _ hd; omega
  | succ d ih =>
    intro k q r hq hq2 r0 r1 hr hd hk
    obtain ⟨k, rfl⟩ : ∃ m, k = m + 2 := ⟨k - 2, by omega⟩
    have eq1 : IntKind.u64.wrap (q * 2313682944) = q * 2313682944 := by rw [wu]; omega
    have eq2 : IntKind.u64.wrap (IntKind.u64.wrap (4294967296 * r) + u0) = 4294967296 * r + u0 := by rw [wu, wu]; omega
    have eq3 : IntKind.u64.wrap (r + 2328306436) = r + 2328306436 := by rw [wu]; omega
    have fin : ∀ z : Int, z = (h * 4294967296 + u0) / 10000000000000000000 → shr .u64 (IntKind.u64.wrap (IntKind.u64.wrap (IntKind.u64.wrap (h * 4294967296) + u0) - IntKind.u64.wrap (z * 10000000000000000000))) 0 = (h * 4294967296 + u0) % 10000000000000000000 := by
      intro z hz
      have e0 : shr .u64 (IntKind.u64.wrap (IntKind.u64.wrap (IntKind.u64.wrap (h * 4294967296) + u0) - IntKind.u64.wrap (z * 10000000000000000000))) 0 = IntKind.u64.wrap (IntKind.u64.wrap (IntKind.u64.wrap (h * 4294967296) + u0) - IntKind.u64.wrap (z * 10000000000000000000)) := by
        unfold shr; simp
      rw [e0, wu, wu, wu, wu]
      omega
    have down : ((h * 4294967296 + u0) / 10000000000000000000 < q) → bits_Div64.j4 (k + 1) 10000000000000000000 0 2328306436 2313682944 u0 t r h q true = some (IntKind.u64.wrap (IntKind.u64.wrap (t * 4294967296) + (h * 4294967296 + u0) / 10000000000000000000), (h * 4294967296 + u0) % 10000000000000000000) := by
      intro hlt
      have eq4 : IntKind.u64.wrap (q - 1) = q - 1 := by rw [wu]; omega
      simp only [bits_Div64.j4]
      rw [if_pos trivial, eq3, eq4]
      by_cases c : r + 2328306436 ≥ 4294967296
      · rw [if_pos c, if_pos (by decide)]
        have e : q - 1 = (h * 4294967296 + u0) / 10000000000000000000 := by omega
        rw [fin _ e, e]
      · rw [if_neg c]
        exact ih k (q - 1) (r + 2328306436) (by omega) (by omega) (by omega) (by omega) (by omega) (by omega) (by omega)
    rw [show k + 2 = (k + 1) + 1 from rfl]
    simp only [bits_Div64.l1]
    by_cases c1 : q ≥ 4294967296
    · rw [if_pos c1]
      exact down (by omega)
    · rw [if_neg c1, eq1, eq2]
      by_cases c2 : q * 2313682944 > 4294967296 * r + u0
      · rw [decide_eq_true c2]
        exact down (by omega)
      · rw [decide_eq_false c2]
        simp only [bits_Div64.j4]
        rw [if_neg (by decide), if_pos (by decide)]
        have e : q = (h * 4294967296 + u0) / 10000000000000000000 := by omega
        rw [fin _ e, ← e]
theorem Div64_is (h l : Int) (h0 : 0 ≤ h) (h1 : h < 10000000000000000000) (l0 : 0 ≤ l) (l1 : l < 18446744073709551616) (k : Nat) (hk : 30 ≤ k) :
    bits_Div64.f k h l 10000000000000000000 = some ((h * 18446744073709551616 + l) / 10000000000000000000, (h * 18446744073709551616 + l) % 10000000000000000000) := by
  unfold bits_Div64.f
  rw [if_neg (by decide), if_neg (by omega)]
  by_cases z : h = 0
  · rw [if_pos z, wu, Int.tdiv_eq_ediv_of_nonneg l0, Int.tmod_eq_emod_of_nonneg l0]
    subst z
    congr 2
    · omega
    · omega
  · rw [if_neg z, leadingZeros_chunk]
    simp only [Option.bind_some]
    have w0 : IntKind.u64.wrap 0 = 0 := by decide
    have w64 : IntKind.u64.wrap (64 - 0) = 64 := by decide
    rw [w0, w64]
    have sC : shl .u64 10000000000000000000 0 = 10000000000000000000 := by decide +kernel
    have sh : shl .u64 h 0 = h := by unfold shl; simp; rw [wu]; omega
    have sl : shl .u64 l 0 = l := by unfold shl; simp; rw [wu]; omega
    have sr : shr .u64 l 64 = 0 := by
      unfold shr
      have e : (2 : Int) ^ min (64 : Int).toNat IntKind.u64.bits = 18446744073709551616 := by decide +kernel
      rw [e]; omega
    have orz : Go.bits .or .u64 h 0 = h := by
      rw [or_u64]
      have e : ((0 : Int) % 18446744073709551616).toNat = 0 := rfl
      rw [e, Nat.or_zero, wu]; omega
    have d1 : (10000000000000000000 : Int) / 4294967296 = 2328306436 := by decide +kernel
    have m1 : Go.bits .and .u64 10000000000000000000 4294967295 = 2313682944 := by rw [and_mask32 _ (by decide) (by decide)]; decide +kernel
    rw [sC, sh, sl, sr, orz, d1, m1, and_mask32 l l0 l1, if_pos (by decide), if_pos (by decide), if_neg (by decide)]
    have tq : IntKind.u64.wrap (Int.tdiv h 2328306436) = h / 2328306436 := by rw [Int.tdiv_eq_ediv_of_nonneg h0, wu]; omega
    rw [tq]
    have tr : IntKind.u64.wrap (h - IntKind.u64.wrap (h / 2328306436 * 2328306436)) = h - h / 2328306436 * 2328306436 := by rw [wu, wu]; omega
    rw [tr]
    generalize hu1 : l / 4294967296 = u1
    generalize hu0 : l % 4294967296 = u0
    have b1 : 0 ≤ u1 ∧ u1 < 4294967296 := by omega
    have b0 : 0 ≤ u0 ∧ u0 < 4294967296 := by omega
    have el : l = u1 * 4294967296 + u0 := by omega
    clear hu1 hu0
    obtain ⟨k', hk', e⟩ := div_stage1 h u1 u0 h0 h1 b1.1 b1.2 2 k (h / 2328306436) (h - h / 2328306436 * 2328306436) (by omega) (by omega) (by omega) (by omega) rfl (by omega) (by omega)
    rw [e]
    clear e tq tr w0 w64 sC sh sl sr orz d1 m1
    obtain ⟨k', rfl⟩ : ∃ m, k' = m + 1 := ⟨k' - 1, by omega⟩
    simp only [bits_Div64.j2]
    rw [if_neg (by decide)]
    generalize hT : (h * 4294967296 + u1) / 10000000000000000000 = T
    have hR : IntKind.u64.wrap (IntKind.u64.wrap (IntKind.u64.wrap (h * 4294967296) + u1) - IntKind.u64.wrap (T * 10000000000000000000)) = h * 4294967296 + u1 - T * 10000000000000000000 := by
      rw [wu, wu, wu, wu]; omega
    rw [hR]
    generalize hRR : h * 4294967296 + u1 - T * 10000000000000000000 = R
    have bR : 0 ≤ R ∧ R < 10000000000000000000 := by omega
    have bT : 0 ≤ T ∧ T < 4294967296 := by omega
    clear hR
    have tq : IntKind.u64.wrap (Int.tdiv R 2328306436) = R / 2328306436 := by rw [Int.tdiv_eq_ediv_of_nonneg bR.1, wu]; omega
    rw [tq]
    have tr : IntKind.u64.wrap (R - IntKind.u64.wrap (R / 2328306436 * 2328306436)) = R - R / 2328306436 * 2328306436 := by rw [wu, wu]; omega
    rw [tr]
    clear tq tr
    rw [div_stage2 R u0 T bR.1 bR.2 b0.1 b0.2 2 k' (R / 2328306436) (R - R / 2328306436 * 2328306436) (by omega) (by omega) (by omega) (by omega) rfl (by omega) (by omega)]
    have hN : h * 18446744073709551616 + l = (T * 10000000000000000000 + R) * 4294967296 + u0 := by omega
    rw [hN, wu, wu]
    clear hN hT hRR el
    congr 2
    · omega
    · omega

/-- The decimal digits of a number, none for 0. -/
def digs (u : Nat) : List UInt8 := if u = 0 then [] else Go.Lib.decDigits u
theorem digs_step {u : Nat} (h : u ≠ 0) : digs u = digs (u / 10) ++ [UInt8.ofNat (48 + u % 10)] := by
  unfold digs
  rw [if_neg h]
  by_cases c : u < 10
  · rw [Go.Lib.decDigits_one c, if_pos (by omega)]
    have : u % 10 = u := Nat.mod_eq_of_lt c
    rw [this]; rfl
  · rw [Go.Lib.decDigits, dif_neg c, if_neg (by omega)]
theorem byte_of (n : Nat) (h : n < 10) : strOfNums [(wrap64 (48 + (n : Int))) % 256] = ⟨#[UInt8.ofNat (48 + n)]⟩ := by
  have e : (wrap64 (48 + (n : Int))) % 256 = ((48 + n : Nat) : Int) := by unfold wrap64; omega
  rw [e]
  rfl
theorem mk_app (a b : List UInt8) : (⟨a.toArray⟩ : ByteArray) ++ ⟨b.toArray⟩ = ⟨(a ++ b).toArray⟩ := by
  apply ByteArray.ext
  simp

/-- The last k digits of a number, noughts ahead. -/
def padD : Nat → Nat → List UInt8
  | 0, _ => []
  | k + 1, b => padD k (b / 10) ++ [UInt8.ofNat (48 + b % 10)]
theorem padD_len : ∀ (k b : Nat), (padD k b).length = k
  | 0, _ => rfl
  | k + 1, b => by simp [padD, padD_len k]
theorem dec_pad (k : Nat) : ∀ (a b : Nat), 0 < a → b < 10 ^ k → Go.Lib.decDigits (a * 10 ^ k + b) = Go.Lib.decDigits a ++ padD k b := by
  induction k with
  | zero => intro a b ha hb; have : b = 0 := by simpa using hb
            subst this; simp [padD]
  | succ k ih =>
    intro a b ha hb
    have e : a * 10 ^ (k + 1) = a * 10 ^ k * 10 := by rw [Nat.pow_succ, Nat.mul_assoc]
    rw [Nat.pow_succ] at hb
    have h10 : 1 ≤ 10 ^ k := Nat.pos_of_ne_zero (by simp)
    have hm : a * 10 ^ k ≥ 1 := Nat.mul_pos ha h10
    have h := ih a (b / 10) ha (by omega)
    rw [e]
    generalize a * 10 ^ k = z at *
    rw [Go.Lib.decDigits, dif_neg (by omega)]
    have e1 : (z * 10 + b) / 10 = z + b / 10 := by omega
    have e2 : (z * 10 + b) % 10 = b % 10 := by omega
    rw [e1, e2, h, padD, List.append_assoc]
theorem padD_zero : ∀ k, padD k 0 = List.replicate k 48
  | 0 => rfl
  | k + 1 => by rw [padD, show (0:Nat)/10 = 0 from rfl, padD_zero k, List.replicate_succ']; rfl
theorem padD_eq (k : Nat) : ∀ b, 0 < k → b < 10 ^ k → padD k b = List.replicate (k - (Go.Lib.decDigits b).length) 48 ++ Go.Lib.decDigits b := by
  induction k with
  | zero => intro b h; omega
  | succ k ih =>
    intro b _ hb
    by_cases c : b < 10
    · rw [Go.Lib.decDigits, dif_pos c, padD]
      have e1 : b / 10 = 0 := by omega
      have e2 : b % 10 = b := by omega
      rw [e1, e2, padD_zero]; rfl
    · rw [Nat.pow_succ] at hb
      have hk : 0 < k := by
        rcases Nat.eq_zero_or_pos k with h | h
        · subst h; simp at hb; omega
        · exact h
      rw [Go.Lib.decDigits, dif_neg c, padD, ih (b / 10) hk (by omega)]
      simp [Nat.add_sub_add_right]
theorem dec_len_le (k : Nat) : ∀ b, 0 < k → b < 10 ^ k → (Go.Lib.decDigits b).length ≤ k := by
  intro b hk hb
  have h := padD_len k b
  rw [padD_eq k b hk hb] at h
  simp at h
  omega

/-- A number's text behind its sign. -/
def wideL (neg : Bool) (n : Nat) : List UInt8 := (if neg = true then [45] else []) ++ Go.Lib.decDigits n
theorem mkz (l : List UInt8) : (⟨l.toArray⟩ : ByteArray).size = l.length := by simp [ByteArray.size]
theorem dec_step (n : Nat) : Go.Lib.decDigits n = digs (n / 10) ++ [UInt8.ofNat (48 + n % 10)] := by
  by_cases c : n < 10
  · have e : n / 10 = 0 := by omega
    have e2 : n % 10 = n := by omega
    rw [e, e2, Go.Lib.decDigits_one c]; rfl
  · rw [Go.Lib.decDigits, dif_neg c]
    have e : digs (n / 10) = Go.Lib.decDigits (n / 10) := by unfold digs; rw [if_neg (by omega)]
    rw [e]

theorem impl_WideOk_eq (n : Bool) (h l : Int) : impl_WideOk.f n h l = some (wok n h l) := by
  unfold impl_WideOk.f wok
  by_cases c1 : h < 9223372036854775808
  · rw [if_pos c1]
    cases n
    · simp [c1]
    · by_cases c2 : h > 0
      · simp [c1, c2]
      · simp [c1, c2]
  · rw [if_neg c1]; simp [c1]

theorem repeat_zero : ∀ c : Nat, Go.Lib.repeatL [48] c = List.replicate c (48 : UInt8)
  | 0 => rfl
  | c + 1 => by rw [Go.Lib.repeatL, repeat_zero c]; rfl
theorem FormatUint_is (n : Nat) (h : n < 18446744073709551616) : strconv_FormatUint_47.f (n : Int) 10 = some ⟨(Go.Lib.decDigits n).toArray⟩ := by
  unfold strconv_FormatUint_47.f
  rw [if_pos ⟨by omega, by omega, rfl⟩]
  rfl
theorem Repeat_is (c : Nat) (h : c ≤ 19) : strings_Repeat.f ⟨#[48]⟩ (c : Int) = some ⟨(List.replicate c (48 : UInt8)).toArray⟩ := by
  unfold strings_Repeat.f
  have e : (⟨#[48]⟩ : ByteArray).size = 1 := rfl
  rw [e, if_pos ⟨by omega, by omega, by omega⟩]
  have e2 : (c : Int).toNat = c := by omega
  rw [e2, show (⟨#[48]⟩ : ByteArray).data.toList = [48] from rfl, repeat_zero]
theorem dec19 (n : Nat) (h : n < 10000000000000000000) : (Go.Lib.decDigits n).length ≤ 19 := dec_len_le 19 n (by decide) (by omega)
theorem pad19 (n : Nat) (h : n < 10000000000000000000) : padD 19 n = List.replicate (19 - (Go.Lib.decDigits n).length) 48 ++ Go.Lib.decDigits n := padD_eq 19 n (by decide) (by omega)
theorem dec_pad19 (a b : Nat) (ha : 0 < a) (hb : b < 10000000000000000000) : Go.Lib.decDigits (a * 10000000000000000000 + b) = Go.Lib.decDigits a ++ (List.replicate (19 - (Go.Lib.decDigits b).length) 48 ++ Go.Lib.decDigits b) := by
  rw [← pad19 b hb, ← dec_pad 19 a b ha (by omega)]
theorem Div64_zero (l : Int) (l0 : 0 ≤ l) (l1 : l < 18446744073709551616) (k : Nat) : bits_Div64.f k 0 l 10000000000000000000 = some (l / 10000000000000000000, l % 10000000000000000000) := by
  unfold bits_Div64.f
  rw [if_neg (by decide), if_neg (by decide), if_pos rfl, wu, Int.tdiv_eq_ediv_of_nonneg l0, Int.tmod_eq_emod_of_nonneg l0]
  have e : l / 10000000000000000000 % 18446744073709551616 = l / 10000000000000000000 := by omega
  rw [e]
theorem impl_WideText_j1 (sg : List UInt8) (hs : sg.length ≤ 1) (lo la k : Nat) (hk : 30 ≤ k) (blo : lo < 18446744073709551616) (bla : la < 10000000000000000000) :
    impl_WideText.j1 (k + 1) ⟨sg.toArray⟩ 0 (lo : Int) (la : Int) ((lo : Int) == 0) = some ⟨(sg ++ Go.Lib.decDigits (lo * 10000000000000000000 + la)).toArray⟩ := by
  simp only [impl_WideText.j1]
  have fla := FormatUint_is la (by omega)
  have lla := dec19 la bla
  by_cases z : lo = 0
  · subst z
    rw [if_pos (by decide), fla]
    simp only [Option.bind_some]
    rw [mkz, mkz, if_pos (by omega), mk_app]
    have : 0 * 10000000000000000000 + la = la := by omega
    rw [this]
  · have z' : ¬ ((((lo : Nat) : Int) == 0) = true) := by simpa using z
    obtain ⟨fi, hfi⟩ : ∃ fi : Nat, fi = lo / 10000000000000000000 := ⟨_, rfl⟩
    obtain ⟨se, hse⟩ : ∃ se : Nat, se = lo % 10000000000000000000 := ⟨_, rfl⟩
    have e1 : ((lo : Nat) : Int) / 10000000000000000000 = (fi : Int) := by omega
    have e2 : ((lo : Nat) : Int) % 10000000000000000000 = (se : Int) := by omega
    have hs2 : lo = fi * 10000000000000000000 + se := by omega
    have bf : fi < 10 := by omega
    have bs : se < 10000000000000000000 := by omega
    obtain ⟨p, hp⟩ : ∃ p : Int × Int, p = ((fi : Int), (se : Int)) := ⟨_, rfl⟩
    have p1 : p.1 = (fi : Int) := by rw [hp]
    have p2 : p.2 = (se : Int) := by rw [hp]
    rw [if_neg z', Div64_zero lo (by omega) (by omega) k, e1, e2, ← hp]
    clear hfi hse e1 e2 hp
    rw [Option.bind_some, p1, p2, fla]
    simp only [Option.bind_some]
    rw [mkz]
    have w19 : wrap64 (19 - (((Go.Lib.decDigits la).length : Nat) : Int)) = ((19 - (Go.Lib.decDigits la).length : Nat) : Int) := by rw [w64_id (by omega) (by omega)]; omega
    rw [w19, Repeat_is _ (by omega)]
    simp only [Option.bind_some]
    have dla := dec_pad19 lo la (by omega) bla
    rw [dla]
    clear dla w19 z'
    have fse := FormatUint_is se (by omega)
    have lse := dec19 se bs
    rw [mkz, List.length_replicate, if_pos (by omega), fse]
    simp only [Option.bind_some]
    by_cases zf : fi = 0
    · subst zf
      rw [if_pos (by decide), mkz, mkz, if_pos (by omega), mk_app, mk_app, mkz, mkz, if_pos (by simp only [List.length_append, List.length_replicate]; omega), mk_app]
      have : lo = se := by omega
      rw [this]
      simp
    · rw [if_neg (by omega), FormatUint_is fi (by omega)]
      simp only [Option.bind_some]
      have lfi := dec19 fi (by omega)
      have w19 : wrap64 (19 - (((Go.Lib.decDigits se).length : Nat) : Int)) = ((19 - (Go.Lib.decDigits se).length : Nat) : Int) := by rw [w64_id (by omega) (by omega)]; omega
      rw [mkz, mkz, if_pos (by omega), mkz, w19, Repeat_is _ (by omega)]
      simp only [Option.bind_some]
      have dlo := dec_pad19 fi se (by omega) bs
      rw [← hs2] at dlo
      rw [dlo]
      simp only [mk_app, mkz, List.length_append, List.length_replicate]
      rw [if_pos (by omega), if_pos (by omega), if_pos (by omega)]
      simp
theorem impl_WideText_w (sg : List UInt8) (hs : sg.length ≤ 1) (n k : Nat) (hk : 40 ≤ k) (hn : n < 170141183460469231731687303715884105728) (y : Bool) (h l : Int) (h0 : 0 ≤ h) (l0 : 0 ≤ l) (l1 : l < 18446744073709551616) (e : (n : Int) = h * 18446744073709551616 + l) :
    impl_WideText.j0 k ⟨sg.toArray⟩ y h l = some ⟨(sg ++ Go.Lib.decDigits n).toArray⟩ := by
  obtain ⟨k, rfl⟩ : ∃ m, k = m + 2 := ⟨k - 2, by omega⟩
  have hh : h < 9223372036854775808 := by omega
  rw [show k + 2 = (k + 1) + 1 from rfl]
  simp only [impl_WideText.j0]
  have t1 : Int.tmod h 10000000000000000000 = h := by rw [Int.tmod_eq_emod_of_nonneg h0]; omega
  have t2 : IntKind.u64.wrap (Int.tdiv h 10000000000000000000) = 0 := by rw [Int.tdiv_eq_ediv_of_nonneg h0, wu]; omega
  rw [t1, t2, Div64_is h l h0 (by omega) l0 l1 (k + 1) (by omega), ← e]
  clear t1 t2
  simp only [Option.bind_some]
  rw [if_pos trivial]
  obtain ⟨lo, hlo⟩ : ∃ lo : Nat, lo = n / 10000000000000000000 := ⟨_, rfl⟩
  obtain ⟨la, hla⟩ : ∃ la : Nat, la = n % 10000000000000000000 := ⟨_, rfl⟩
  have ed : (n : Int) / 10000000000000000000 = (lo : Int) := by omega
  have em : (n : Int) % 10000000000000000000 = (la : Int) := by omega
  have hsplit : n = lo * 10000000000000000000 + la := by omega
  rw [ed, em, impl_WideText_j1 sg hs lo la k (by omega) (by omega) (by omega), ← hsplit]
theorem impl_WideText_is (b : Bool) (h l : Int) (h0 : 0 ≤ h) (l0 : 0 ≤ l) (l1 : l < 18446744073709551616) (k : Nat) (hk : 60 ≤ k) : impl_WideText.f k b h l = some ⟨(if wok b h l = true then wideL b (h * 18446744073709551616 + l).toNat else []).toArray⟩ := by
  unfold impl_WideText.f
  rw [impl_WideOk_eq]
  simp only [Option.bind_some]
  by_cases w : wok b h l = true
  · rw [if_pos w, if_pos w]
    have hn : (h * 18446744073709551616 + l).toNat < 170141183460469231731687303715884105728 := by
      unfold wok at w
      simp at w
      omega
    have eN : (((h * 18446744073709551616 + l).toNat : Nat) : Int) = h * 18446744073709551616 + l := by omega
    cases b
    · rw [if_neg (by decide)]
      exact (impl_WideText_w [] (by decide) _ k (by omega) hn false h l h0 l0 l1 eN).trans rfl
    · rw [if_pos rfl]
      exact (impl_WideText_w [45] (by decide) _ k (by omega) hn true h l h0 l0 l1 eN).trans rfl
  · rw [if_neg w, if_neg w]

theorem impl_within_eq (a b c : Int) : impl_within.f a b c = some (iin a b c) := by
  unfold impl_within.f iin
  by_cases h : a ≥ b
  · rw [if_pos h]; simp [show b ≤ a from h]
  · rw [if_neg h]; simp [show ¬ b ≤ a from h]

theorem impl_FracOk_eq (n : Bool) (h l d : Int) : impl_FracOk.f n h l d = some (wok n h l && iin d 1 1000000) := by
  unfold impl_FracOk.f
  simp only [impl_WideOk_eq, impl_within_eq, Option.bind_some]
  cases wok n h l <;> simp

theorem impl_Digits_is (n : Int) (b0 : -9223372036854775808 ≤ n) (b1 : n ≤ 9223372036854775807) : impl_Digits.f n = some ⟨(Go.Lib.itoa n).toArray⟩ := by
  unfold impl_Digits.f strconv_Itoa_102.f
  rw [if_pos ⟨b0, b1⟩]; rfl

theorem itoa20 (v : Int) (h0 : -9223372036854775808 ≤ v) (h1 : v ≤ 9223372036854775807) : (Go.Lib.itoa v).length ≤ 20 := by
  unfold Go.Lib.itoa
  by_cases c : v < 0
  · rw [if_pos c]
    have := dec_len_le 19 v.natAbs (by decide) (by omega)
    simp only [List.length_cons]; omega
  · rw [if_neg c]
    have := dec_len_le 19 v.toNat (by decide) (by omega)
    omega

def fracL (n : Bool) (h l d : Int) : List UInt8 := if (wok n h l && iin d 1 1000000) = true then wideL n (h * 18446744073709551616 + l).toNat ++ (47 :: Go.Lib.itoa d) else []
theorem wideL_len (n : Bool) (v : Nat) (h : v < 170141183460469231731687303715884105728) : (wideL n v).length ≤ 40 := by
  have e : (170141183460469231731687303715884105728 : Nat) ≤ 10 ^ 39 := by decide +kernel
  have := dec_len_le 39 v (by decide) (Nat.lt_of_lt_of_le h e)
  unfold wideL
  cases n <;> simp <;> omega
theorem fok_bound {n : Bool} {h l d : Int} (h0 : 0 ≤ h) (l0 : 0 ≤ l) (l1 : l < 18446744073709551616) (w : (wok n h l && iin d 1 1000000) = true) : wok n h l = true ∧ (h * 18446744073709551616 + l).toNat < 170141183460469231731687303715884105728 ∧ 1 ≤ d ∧ d ≤ 1000000 := by
  have a : wok n h l = true := by
    cases q : wok n h l
    · rw [q] at w; simp at w
    · rfl
  rw [a] at w
  have b : h < 9223372036854775808 := by unfold wok at a; simp at a; omega
  unfold iin at w
  simp at w
  exact ⟨a, by omega, by omega, by omega⟩
theorem impl_FracText_is (n : Bool) (h l d : Int) (h0 : 0 ≤ h) (l0 : 0 ≤ l) (l1 : l < 18446744073709551616) (k : Nat) (hk : 60 ≤ k) : impl_FracText.f k n h l d = some ⟨(fracL n h l d).toArray⟩ := by
  unfold impl_FracText.f fracL
  rw [impl_FracOk_eq]
  simp only [Option.bind_some]
  by_cases w : (wok n h l && iin d 1 1000000) = true
  · rw [if_pos w, if_pos w]
    obtain ⟨a, b, d0, d1⟩ := fok_bound h0 l0 l1 w
    rw [impl_WideText_is n h l h0 l0 l1 k hk, if_pos a]
    simp only [Option.bind_some]
    have lw := wideL_len n _ b
    generalize wideL n (h * 18446744073709551616 + l).toNat = u at *
    have ld := itoa20 d (by omega) (by omega)
    have e47 : (⟨#[47]⟩ : ByteArray) = ⟨([47] : List UInt8).toArray⟩ := rfl
    rw [mkz, if_pos (by omega), impl_Digits_is d (by omega) (by omega)]
    simp only [Option.bind_some]
    rw [e47, mk_app, mkz, mkz, List.length_append, List.length_singleton, if_pos (by omega), mk_app]
    simp
  · rw [if_neg w, if_neg w]

theorem spec_l3Zero_eq (n : Bool) (h l : Int) : spec_l3Zero.f n h l = some ((h == 0) && (l == 0)) := by
  unfold spec_l3Zero.f
  by_cases c : h = 0 <;> simp [c]

theorem wu_ (n : Int) : IntKind.u64.wrap n = n % 18446744073709551616 := wu64 n
theorem l4_step0 (k : Nat) (a b c d r : Int) : spec_l4Ten.l0 (k + 1) [a, b, c, d] r 0 = spec_l4Ten.l0 k [IntKind.u64.wrap (Int.tdiv (IntKind.u64.wrap ((IntKind.u64.wrap (r * 4294967296)) + a)) 10), b, c, d] (Int.tmod (IntKind.u64.wrap ((IntKind.u64.wrap (r * 4294967296)) + a)) 10) 1 := by
  simp only [spec_l4Ten.l0]
  have w : wrap64 (0 + 1) = 1 := w64_id (by omega) (by omega)
  rw [if_pos (by decide), if_pos (by decide), if_pos (by simp), w]
  rfl
theorem l4_step1 (k : Nat) (a b c d r : Int) : spec_l4Ten.l0 (k + 1) [a, b, c, d] r 1 = spec_l4Ten.l0 k [a, IntKind.u64.wrap (Int.tdiv (IntKind.u64.wrap ((IntKind.u64.wrap (r * 4294967296)) + b)) 10), c, d] (Int.tmod (IntKind.u64.wrap ((IntKind.u64.wrap (r * 4294967296)) + b)) 10) 2 := by
  simp only [spec_l4Ten.l0]
  have w : wrap64 (1 + 1) = 2 := w64_id (by omega) (by omega)
  rw [if_pos (by decide), if_pos (by decide), if_pos (by simp), w]
  rfl
theorem l4_step2 (k : Nat) (a b c d r : Int) : spec_l4Ten.l0 (k + 1) [a, b, c, d] r 2 = spec_l4Ten.l0 k [a, b, IntKind.u64.wrap (Int.tdiv (IntKind.u64.wrap ((IntKind.u64.wrap (r * 4294967296)) + c)) 10), d] (Int.tmod (IntKind.u64.wrap ((IntKind.u64.wrap (r * 4294967296)) + c)) 10) 3 := by
  simp only [spec_l4Ten.l0]
  have w : wrap64 (2 + 1) = 3 := w64_id (by omega) (by omega)
  rw [if_pos (by decide), if_pos (by decide), if_pos (by simp), w]
  rfl
theorem l4_step3 (k : Nat) (a b c d r : Int) : spec_l4Ten.l0 (k + 1) [a, b, c, d] r 3 = spec_l4Ten.l0 k [a, b, c, IntKind.u64.wrap (Int.tdiv (IntKind.u64.wrap ((IntKind.u64.wrap (r * 4294967296)) + d)) 10)] (Int.tmod (IntKind.u64.wrap ((IntKind.u64.wrap (r * 4294967296)) + d)) 10) 4 := by
  simp only [spec_l4Ten.l0]
  have w : wrap64 (3 + 1) = 4 := w64_id (by omega) (by omega)
  rw [if_pos (by decide), if_pos (by decide), if_pos (by simp), w]
  rfl
theorem l4_end (k : Nat) (a b c d r : Int) (h0 : 0 ≤ r) (h1 : r < 10) : spec_l4Ten.l0 (k + 1) [a, b, c, d] r 4 = some (false, IntKind.u64.wrap ((IntKind.u64.wrap (a * 4294967296)) + b), IntKind.u64.wrap ((IntKind.u64.wrap (c * 4294967296)) + d), r) := by
  simp only [spec_l4Ten.l0]
  rw [if_neg (by decide), if_pos (by simp), if_pos (by simp), if_pos (by simp), if_pos (by simp), w64_id (by omega) (by omega)]
  rfl
theorem l4_div (r p : Int) (r0 : 0 ≤ r) (r1 : r < 10) (p0 : 0 ≤ p) (p1 : p < 4294967296) : IntKind.u64.wrap (Int.tdiv (IntKind.u64.wrap ((IntKind.u64.wrap (r * 4294967296)) + p)) 10) = (r * 4294967296 + p) / 10 ∧ Int.tmod (IntKind.u64.wrap ((IntKind.u64.wrap (r * 4294967296)) + p)) 10 = (r * 4294967296 + p) % 10 := by
  have e : IntKind.u64.wrap ((IntKind.u64.wrap (r * 4294967296)) + p) = r * 4294967296 + p := by rw [wu_, wu_]; omega
  rw [e, Int.tdiv_eq_ediv_of_nonneg (by omega), Int.tmod_eq_emod_of_nonneg (by omega), wu_]
  exact ⟨by omega, rfl⟩
theorem spec_l4Ten_is (b : Bool) (n k : Nat) (hn : n < 340282366920938463463374607431768211456) (hk : 5 ≤ k) :
    spec_l4Ten.f k b ((n / 18446744073709551616 : Nat) : Int) ((n % 18446744073709551616 : Nat) : Int) = some (false, ((n / 10 / 18446744073709551616 : Nat) : Int), ((n / 10 % 18446744073709551616 : Nat) : Int), ((n % 10 : Nat) : Int)) := by
  obtain ⟨k, rfl⟩ : ∃ m, k = m + 5 := ⟨k - 5, by omega⟩
  unfold spec_l4Ten.f
  generalize hh : ((n / 18446744073709551616 : Nat) : Int) = h
  generalize hl : ((n % 18446744073709551616 : Nat) : Int) = l
  have h0 : 0 ≤ h ∧ h < 18446744073709551616 := by omega
  have l0 : 0 ≤ l ∧ l < 18446744073709551616 := by omega
  have hN : (n : Int) = h * 18446744073709551616 + l := by omega
  rw [and_mask32 h h0.1 h0.2, and_mask32 l l0.1 l0.2]
  clear hh hl
  generalize ha : h / 4294967296 = a
  generalize hb : h % 4294967296 = b'
  generalize hc : l / 4294967296 = c
  generalize hd : l % 4294967296 = d
  have A : 0 ≤ a ∧ a < 4294967296 := by omega
  have B : 0 ≤ b' ∧ b' < 4294967296 := by omega
  have C : 0 ≤ c ∧ c < 4294967296 := by omega
  have D : 0 ≤ d ∧ d < 4294967296 := by omega
  have eh : h = a * 4294967296 + b' := by omega
  have el : l = c * 4294967296 + d := by omega
  clear ha hb hc hd
  subst eh el
  rw [show k + 5 = (k + 4) + 1 from rfl, l4_step0]
  have s0 := l4_div 0 a (by omega) (by omega) A.1 A.2
  rw [s0.1, s0.2]
  clear s0
  generalize hq0 : (0 * 4294967296 + a) / 10 = q0
  generalize hr0 : (0 * 4294967296 + a) % 10 = r0
  have R0 : 0 ≤ r0 ∧ r0 < 10 := by omega
  have e0 : a = q0 * 10 + r0 := by omega
  have Q0 : 0 ≤ q0 ∧ q0 < 4294967296 := by omega
  clear hq0 hr0
  rw [show k + 4 = (k + 3) + 1 from rfl, l4_step1]
  have s0 := l4_div r0 b' R0.1 R0.2 B.1 B.2
  rw [s0.1, s0.2]
  clear s0
  generalize hq1 : (r0 * 4294967296 + b') / 10 = q1
  generalize hr1 : (r0 * 4294967296 + b') % 10 = r1
  have R1 : 0 ≤ r1 ∧ r1 < 10 := by omega
  have e1 : r0 * 4294967296 + b' = q1 * 10 + r1 := by omega
  have Q1 : 0 ≤ q1 ∧ q1 < 4294967296 := by omega
  clear hq1 hr1
  rw [show k + 3 = (k + 2) + 1 from rfl, l4_step2]
  have s0 := l4_div r1 c R1.1 R1.2 C.1 C.2
  rw [s0.1, s0.2]
  clear s0
  generalize hq2 : (r1 * 4294967296 + c) / 10 = q2
  generalize hr2 : (r1 * 4294967296 + c) % 10 = r2
  have R2 : 0 ≤ r2 ∧ r2 < 10 := by omega
  have e2 : r1 * 4294967296 + c = q2 * 10 + r2 := by omega
  have Q2 : 0 ≤ q2 ∧ q2 < 4294967296 := by omega
  clear hq2 hr2
  rw [show k + 2 = (k + 1) + 1 from rfl, l4_step3]
  have s0 := l4_div r2 d R2.1 R2.2 D.1 D.2
  rw [s0.1, s0.2]
  clear s0
  generalize hq3 : (r2 * 4294967296 + d) / 10 = q3
  generalize hr3 : (r2 * 4294967296 + d) % 10 = r3
  have R3 : 0 ≤ r3 ∧ r3 < 10 := by omega
  have e3 : r2 * 4294967296 + d = q3 * 10 + r3 := by omega
  have Q3 : 0 ≤ q3 ∧ q3 < 4294967296 := by omega
  clear hq3 hr3
  rw [l4_end k _ _ _ _ _ R3.1 R3.2]
  have f1 : IntKind.u64.wrap (IntKind.u64.wrap (q0 * 4294967296) + q1) = q0 * 4294967296 + q1 := by rw [wu_, wu_]; omega
  have f2 : IntKind.u64.wrap (IntKind.u64.wrap (q2 * 4294967296) + q3) = q2 * 4294967296 + q3 := by rw [wu_, wu_]; omega
  rw [f1, f2]
  clear f1 f2
  have key : (n : Int) = 10 * ((q0 * 4294967296 + q1) * 18446744073709551616 + (q2 * 4294967296 + q3)) + r3 := by omega
  generalize hX : q0 * 4294967296 + q1 = X at *
  generalize hY : q2 * 4294967296 + q3 = Y at *
  have bX : 0 ≤ X := by omega
  have bY : 0 ≤ Y ∧ Y < 18446744073709551616 := by omega
  clear hN e0 e1 e2 e3 hX hY
  have g1 : X = ((n / 10 / 18446744073709551616 : Nat) : Int) := by omega
  have g2 : Y = ((n / 10 % 18446744073709551616 : Nat) : Int) := by omega
  have g3 : r3 = ((n % 10 : Nat) : Int) := by omega
  rw [g1, g2, g3]
theorem l3Zero_nat (b : Bool) (n : Nat) : spec_l3Zero.f b ((n / 18446744073709551616 : Nat) : Int) ((n % 18446744073709551616 : Nat) : Int) = some (decide (n = 0)) := by
  unfold spec_l3Zero.f
  by_cases c : n = 0
  · subst c; decide
  · rw [decide_eq_false c]
    by_cases d : ((n / 18446744073709551616 : Nat) : Int) = 0
    · rw [if_pos d]
      have : ¬ ((n % 18446744073709551616 : Nat) : Int) = 0 := by omega
      exact congrArg some (decide_eq_false this)
    · rw [if_neg d]
theorem byte_of2 (n : Nat) (h : n < 10) : strOfNums [(wrap64 (48 + ((n : Nat) : Int))) % 256] = ⟨[UInt8.ofNat (48 + n)].toArray⟩ := byte_of n h
theorem spec_WideText_l (sg : Bool) (d : Nat) : ∀ (k n : Nat) (b : Bool) (acc : List UInt8), n < 10 ^ d → d + 10 < k → d + acc.length ≤ 60 → n < 340282366920938463463374607431768211456 → acc ≠ [] →
    spec_WideText.l0 k sg ⟨acc.toArray⟩ b ((n / 18446744073709551616 : Nat) : Int) ((n % 18446744073709551616 : Nat) : Int) = some ⟨((if sg = true then [45] else []) ++ (digs n ++ acc)).toArray⟩ := by
  induction d with
  | zero =>
    intro k n b acc hn hk ha _ hne
    obtain ⟨k, rfl⟩ : ∃ m, k = m + 1 := ⟨k - 1, by omega⟩
    have e : n = 0 := by simpa using hn
    subst e
    have ne : ¬ ((⟨acc.toArray⟩ : ByteArray).toList = ([] : List UInt8)) := by rw [Go.Lib.toList_data]; simpa using hne
    simp only [spec_WideText.l0]
    rw [if_neg ne, l3Zero_nat]
    simp only [Option.bind_some]
    rw [if_pos (by decide), mkz]
    have e45 : (⟨#[45]⟩ : ByteArray) = ⟨([45] : List UInt8).toArray⟩ := rfl
    cases sg
    · rw [if_neg (by decide)]; simp [digs]
    · rw [if_pos rfl, if_pos (by omega), e45, mk_app]; simp [digs]
  | succ d ih =>
    intro k n b acc hn hk ha h2 hne
    obtain ⟨k, rfl⟩ : ∃ m, k = m + 1 := ⟨k - 1, by omega⟩
    have ne : ¬ ((⟨acc.toArray⟩ : ByteArray).toList = ([] : List UInt8)) := by rw [Go.Lib.toList_data]; simpa using hne
    simp only [spec_WideText.l0]
    rw [if_neg ne, l3Zero_nat]
    simp only [Option.bind_some]
    by_cases z : n = 0
    · subst z
      rw [if_pos (by decide), mkz]
      have e45 : (⟨#[45]⟩ : ByteArray) = ⟨([45] : List UInt8).toArray⟩ := rfl
      cases sg
      · rw [if_neg (by decide)]; simp [digs]
      · rw [if_pos rfl, if_pos (by omega), e45, mk_app]; simp [digs]
    · rw [if_neg (by simpa using z), spec_l4Ten_is b n k h2 (by omega)]
      simp only [Option.bind_some]
      have hm : n % 10 < 10 := by omega
      have hq : n / 10 < 10 ^ d := by rw [Nat.pow_succ] at hn; omega
      have hq2 : n / 10 < 340282366920938463463374607431768211456 := by omega
      rw [byte_of2 _ hm, mkz, mkz, if_pos (by simp; omega), mk_app, ih k (n / 10) false _ hq (by omega) (by simp; omega) hq2 (by simp), digs_step z]
      simp
theorem lt_pow40 (n : Nat) (h : n < 170141183460469231731687303715884105728) : n / 10 < 10 ^ 40 := by
  have e : (170141183460469231731687303715884105728 : Nat) ≤ 10 ^ 40 := by decide +kernel
  exact Nat.lt_of_le_of_lt (Nat.div_le_self n 10) (Nat.lt_of_lt_of_le h e)
theorem wok_nat' (b : Bool) (h l : Int) (h0 : 0 ≤ h) (l0 : 0 ≤ l) (l1 : l < 18446744073709551616) (w : wok b h l = true) : (h * 18446744073709551616 + l).toNat < 170141183460469231731687303715884105728 := by
  unfold wok at w
  simp at w
  omega
theorem spec_WideText_w (b : Bool) (n k : Nat) (hk : 60 ≤ k) (hn : n < 170141183460469231731687303715884105728) : spec_WideText.l0 k b (⟨#[]⟩ : ByteArray) b ((n / 18446744073709551616 : Nat) : Int) ((n % 18446744073709551616 : Nat) : Int) = some ⟨(wideL b n).toArray⟩ := by
  obtain ⟨k, rfl⟩ : ∃ m, k = m + 1 := ⟨k - 1, by omega⟩
  simp only [spec_WideText.l0]
  have e0 : ((⟨#[]⟩ : ByteArray).toList = ([] : List UInt8)) := by rw [Go.Lib.toList_data]
  rw [if_pos e0, spec_l4Ten_is b n k (by omega) (by omega)]
  simp only [Option.bind_some]
  have hm : n % 10 < 10 := by omega
  have hq : n / 10 < 10 ^ 40 := lt_pow40 n hn
  have hq2 : n / 10 < 340282366920938463463374607431768211456 := by omega
  have e1 : (⟨#[]⟩ : ByteArray) = ⟨([] : List UInt8).toArray⟩ := rfl
  rw [byte_of2 _ hm, e1, mkz, mkz, if_pos (by simp), mk_app, spec_WideText_l b 40 k (n / 10) false _ hq (by omega) (by simp) hq2 (by simp)]
  unfold wideL
  rw [dec_step n]
  simp
theorem spec_WideText_is (b : Bool) (h l : Int) (h0 : 0 ≤ h) (l0 : 0 ≤ l) (l1 : l < 18446744073709551616) (k : Nat) (hk : 60 ≤ k) : spec_WideText.f k b h l = some ⟨(if wok b h l = true then wideL b (h * 18446744073709551616 + l).toNat else []).toArray⟩ := by
  unfold spec_WideText.f
  rw [spec_WideOk_eq]
  simp only [Option.bind_some]
  by_cases w : wok b h l = true
  · rw [if_pos w, if_pos w]
    have hn := wok_nat' b h l h0 l0 l1 w
    have e := spec_WideText_w b _ k hk hn
    generalize hN : (h * 18446744073709551616 + l).toNat = n at *
    have eh : ((n / 18446744073709551616 : Nat) : Int) = h := by omega
    have el : ((n % 18446744073709551616 : Nat) : Int) = l := by omega
    rw [eh, el] at e
    exact e
  · rw [if_neg w, if_neg w]

theorem spec_Digits_l (d : Nat) : ∀ (k : Nat) (n : Int) (s : Bool) (acc : List UInt8), n.natAbs < 10 ^ d → d < k → d + acc.length ≤ 40 → -9223372036854775808 ≤ n → n ≤ 9223372036854775807 →
    spec_Digits.l0 k n s ⟨acc.toArray⟩ = some ⟨((if s = true then [45] else []) ++ digs n.natAbs ++ acc).toArray⟩ := by
  induction d with
  | zero =>
    intro k n s acc h0 hk ha _ _
    obtain ⟨k, rfl⟩ : ∃ m, k = m + 1 := ⟨k - 1, by omega⟩
    have hn : n = 0 := by simp at h0; omega
    subst hn
    simp only [spec_Digits.l0]
    rw [if_pos trivial]
    have e0 : digs (Int.natAbs 0) = [] := rfl
    rw [e0]
    have hsz : 1 + (⟨acc.toArray⟩ : ByteArray).size ≤ 9223372036854775807 := by
      have : (⟨acc.toArray⟩ : ByteArray).size = acc.length := by simp [ByteArray.size]
      omega
    cases s
    · rw [if_neg (by decide), if_neg (by decide)]; simp
    · rw [if_pos rfl, if_pos hsz, if_pos rfl]
      have := mk_app [45] acc
      exact congrArg some (this.trans (by simp))
  | succ d ih =>
    intro k n s acc h0 hk ha b0 b1
    obtain ⟨k, rfl⟩ : ∃ m, k = m + 1 := ⟨k - 1, by omega⟩
    have hsz : (⟨acc.toArray⟩ : ByteArray).size = acc.length := by simp [ByteArray.size]
    by_cases hn : n = 0
    · subst hn
      simp only [spec_Digits.l0]
      rw [if_pos trivial]
      have e0 : digs (Int.natAbs 0) = [] := rfl
      rw [e0]
      cases s
      · rw [if_neg (by decide), if_neg (by decide)]; simp
      · rw [if_pos rfl, if_pos (by omega), if_pos rfl]
        have := mk_app [45] acc
        exact congrArg some (this.trans (by simp))
    · simp only [spec_Digits.l0]
      rw [if_neg hn]
      have hu : n.natAbs ≠ 0 := by omega
      have hq : (wrap64 (Int.tdiv n 10)) = Int.tdiv n 10 := by
        have h1 : (Int.tdiv n 10).natAbs = n.natAbs / 10 := Int.natAbs_tdiv n 10
        unfold wrap64; omega
      have hqa : (Int.tdiv n 10).natAbs = n.natAbs / 10 := Int.natAbs_tdiv n 10
      have hqd : (Int.tdiv n 10).natAbs < 10 ^ d := by rw [hqa]; rw [Nat.pow_succ] at h0; omega
      have hqb : -9223372036854775808 ≤ Int.tdiv n 10 ∧ Int.tdiv n 10 ≤ 9223372036854775807 := by omega
      have hr : (Int.tmod n 10).natAbs = n.natAbs % 10 := Int.natAbs_tmod n 10
      have tail : ∀ y : ByteArray, y = ⟨#[UInt8.ofNat (48 + n.natAbs % 10)]⟩ → (if y.size + (⟨acc.toArray⟩ : ByteArray).size ≤ 9223372036854775807 then spec_Digits.l0 k (wrap64 (Int.tdiv n 10)) s (y ++ ⟨acc.toArray⟩) else none) = some ⟨((if s = true then [45] else []) ++ digs n.natAbs ++ acc).toArray⟩ := by
        intro y hy
        subst hy
        have e1 : (⟨#[UInt8.ofNat (48 + n.natAbs % 10)]⟩ : ByteArray).size = 1 := rfl
        have e2 : (⟨#[UInt8.ofNat (48 + n.natAbs % 10)]⟩ : ByteArray) ++ ⟨acc.toArray⟩ = ⟨(UInt8.ofNat (48 + n.natAbs % 10) :: acc).toArray⟩ := mk_app [UInt8.ofNat (48 + n.natAbs % 10)] acc
        rw [if_pos (by omega), e2, hq, ih k _ s _ hqd (by omega) (by simp only [List.length_cons]; omega) hqb.1 hqb.2, hqa, digs_step hu]
        simp
      by_cases c : Int.tmod n 10 < 0
      · rw [if_pos c]
        have e : wrap64 (-(Int.tmod n 10)) = ((n.natAbs % 10 : Nat) : Int) := by unfold wrap64; omega
        rw [e]
        exact tail _ (byte_of _ (by omega))
      · rw [if_neg c]
        have e : Int.tmod n 10 = ((n.natAbs % 10 : Nat) : Int) := by omega
        rw [e]
        exact tail _ (byte_of _ (by omega))
theorem spec_Digits_is (n : Int) (b0 : -9223372036854775808 ≤ n) (b1 : n ≤ 9223372036854775807) : spec_Digits.f 30 n = some ⟨(Go.Lib.itoa n).toArray⟩ := by
  unfold spec_Digits.f
  by_cases hn : n = 0
  · subst hn
    rw [if_pos rfl]
    rw [show Go.Lib.itoa 0 = [48] from by rw [show (0 : Int) = ((0 : Nat) : Int) from rfl, Go.Lib.itoa_nonneg, Go.Lib.decDigits_one (by decide)]; rfl]
  · rw [if_neg hn]
    have h := spec_Digits_l 20 30 n (decide (n < 0)) [] (by omega) (by decide) (by decide) b0 b1
    have e0 : (⟨#[]⟩ : ByteArray) = ⟨([] : List UInt8).toArray⟩ := rfl
    rw [e0, h]
    have ed : digs n.natAbs = Go.Lib.decDigits n.natAbs := by unfold digs; rw [if_neg (by omega)]
    rw [ed]
    unfold Go.Lib.itoa
    by_cases c : n < 0
    · rw [if_pos c, if_pos (decide_eq_true c)]; simp
    · rw [if_neg c, if_neg (by simpa using c)]
      have : n.toNat = n.natAbs := by omega
      rw [this]; simp

theorem spec_Digits_k (k : Nat) (hk : 20 < k) (n : Int) (b0 : -9223372036854775808 ≤ n) (b1 : n ≤ 9223372036854775807) : spec_Digits.f k n = some ⟨(Go.Lib.itoa n).toArray⟩ := by
  unfold spec_Digits.f
  by_cases hn : n = 0
  · subst hn
    rw [if_pos rfl]
    rw [show Go.Lib.itoa 0 = [48] from by rw [show (0 : Int) = ((0 : Nat) : Int) from rfl, Go.Lib.itoa_nonneg, Go.Lib.decDigits_one (by decide)]; rfl]
  · rw [if_neg hn]
    have h := spec_Digits_l 20 k n (decide (n < 0)) [] (by omega) hk (by decide) b0 b1
    have e0 : (⟨#[]⟩ : ByteArray) = ⟨([] : List UInt8).toArray⟩ := rfl
    rw [e0, h]
    have ed : digs n.natAbs = Go.Lib.decDigits n.natAbs := by unfold digs; rw [if_neg (by omega)]
    rw [ed]
    unfold Go.Lib.itoa
    by_cases c : n < 0
    · rw [if_pos c, if_pos (decide_eq_true c)]; simp
    · rw [if_neg c, if_neg (by simpa using c)]
      have : n.toNat = n.natAbs := by omega
      rw [this]; simp

theorem spec_FracText_is (n : Bool) (h l d : Int) (h0 : 0 ≤ h) (l0 : 0 ≤ l) (l1 : l < 18446744073709551616) (k : Nat) (hk : 60 ≤ k) : spec_FracText.f k n h l d = some ⟨(fracL n h l d).toArray⟩ := by
  unfold spec_FracText.f fracL
  rw [spec_FracOk_eq]
  simp only [Option.bind_some]
  by_cases w : (wok n h l && iin d 1 1000000) = true
  · rw [if_pos w, if_pos w]
    obtain ⟨a, b, d0, d1⟩ := fok_bound h0 l0 l1 w
    rw [spec_WideText_is n h l h0 l0 l1 k hk, if_pos a]
    simp only [Option.bind_some]
    have lw := wideL_len n _ b
    generalize wideL n (h * 18446744073709551616 + l).toNat = u at *
    have ld := itoa20 d (by omega) (by omega)
    have e47 : (⟨#[47]⟩ : ByteArray) = ⟨([47] : List UInt8).toArray⟩ := rfl
    rw [mkz, if_pos (by omega), spec_Digits_k k (by omega) d (by omega) (by omega)]
    simp only [Option.bind_some]
    rw [e47, mk_app, mkz, mkz, List.length_append, List.length_singleton, if_pos (by omega), mk_app]
    simp
  · rw [if_neg w, if_neg w]

theorem dig_toNat (d : Nat) (h : d < 10) : (UInt8.ofNat (48 + d)).toNat = 48 + d := by
  rw [UInt8.toNat_ofNat']
  omega
theorem dec_head (u : Nat) : ∃ c r, Go.Lib.decDigits u = c :: r ∧ 48 ≤ c.toNat ∧ c.toNat ≤ 57 := by
  induction u using Nat.strongRecOn with
  | ind u ih =>
    rw [Go.Lib.decDigits]
    by_cases h : u < 10
    · rw [dif_pos h]
      exact ⟨_, [], rfl, by rw [dig_toNat u h]; omega, by rw [dig_toNat u h]; omega⟩
    · rw [dif_neg h]
      obtain ⟨c, r, e, a, b⟩ := ih (u / 10) (by omega)
      exact ⟨c, r ++ [UInt8.ofNat (48 + u % 10)], by rw [e]; rfl, a, b⟩
theorem parse_app (xs ys : List UInt8) : ∀ acc v, Go.Lib.parseUint10 acc xs = .ok v → Go.Lib.parseUint10 acc (xs ++ ys) = Go.Lib.parseUint10 v ys := by
  induction xs with
  | nil => intro acc v h; simp only [Go.Lib.parseUint10] at h; injection h with h; rw [h]; rfl
  | cons c r ih =>
    intro acc v h
    simp only [Go.Lib.parseUint10, List.cons_append] at h ⊢
    by_cases h1 : 48 ≤ c.toNat ∧ c.toNat ≤ 57
    · rw [if_pos h1] at h ⊢
      by_cases h2 : 1844674407370955162 ≤ acc
      · rw [if_pos h2] at h; cases h
      · rw [if_neg h2] at h ⊢
        by_cases h3 : 18446744073709551616 ≤ acc * 10 + (c.toNat - 48)
        · rw [if_pos h3] at h; cases h
        · rw [if_neg h3] at h ⊢; exact ih _ _ h
    · rw [if_neg h1] at h; cases h
theorem parse_dec (u : Nat) : u < 18446744073709551616 → Go.Lib.parseUint10 0 (Go.Lib.decDigits u) = .ok u := by
  induction u using Nat.strongRecOn with
  | ind u ih =>
    intro hu
    have one : ∀ acc, acc < 1844674407370955162 → ∀ d, d < 10 → acc * 10 + d < 18446744073709551616 → Go.Lib.parseUint10 acc [UInt8.ofNat (48 + d)] = .ok (acc * 10 + d) := by
      intro acc ha d hd hs
      simp only [Go.Lib.parseUint10]
      rw [dig_toNat d hd, if_pos (by omega), if_neg (by omega), if_neg (by omega)]
      congr 1
      omega
    by_cases h : u < 10
    · rw [Go.Lib.decDigits, dif_pos h, one 0 (by omega) u h (by omega)]; congr 1; omega
    · rw [Go.Lib.decDigits, dif_neg h, parse_app _ _ 0 (u / 10) (ih (u / 10) (by omega) (by omega)), one (u / 10) (by omega) (u % 10) (by omega) (by omega)]
      congr 1; omega
theorem atoi_itoa (n : Int) (h0 : -9223372036854775808 ≤ n) (h1 : n ≤ 9223372036854775807) : Go.Lib.atoiAll (Go.Lib.itoa n) = .ok n := by
  unfold Go.Lib.itoa
  by_cases c : n < 0
  · rw [if_pos c]
    have hne : Go.Lib.decDigits n.natAbs ≠ [] := by obtain ⟨c, r, e, _⟩ := dec_head n.natAbs; rw [e]; simp
    simp only [Go.Lib.atoiAll]
    rw [if_pos (by right; rfl)]
    unfold Go.Lib.parseMag
    rw [if_neg hne, parse_dec _ (by omega)]
    have e45 : (45 : UInt8).toNat = 45 := rfl
    simp only [e45, not_true_eq_false, false_and, if_false, true_and, if_true]
    rw [if_neg (by omega)]
    congr 1; omega
  · rw [if_neg c]
    obtain ⟨b, r, e, b0, b1⟩ := dec_head n.toNat
    have hp := parse_dec n.toNat (by omega)
    rw [e] at hp ⊢
    simp only [Go.Lib.atoiAll]
    rw [if_neg (by omega)]
    unfold Go.Lib.parseMag
    rw [if_neg (by simp), hp]
    have nb : ¬ b.toNat = 45 := by omega
    simp only [nb, not_false_eq_true, true_and, false_and, if_false]
    rw [if_neg (by omega)]
    congr 1; omega
theorem itoa_inj {a b : Int} (a0 : -9223372036854775808 ≤ a) (a1 : a ≤ 9223372036854775807) (b0 : -9223372036854775808 ≤ b) (b1 : b ≤ 9223372036854775807) (h : Go.Lib.itoa a = Go.Lib.itoa b) : a = b := by
  have e1 := atoi_itoa a a0 a1
  rw [h, atoi_itoa b b0 b1] at e1
  injection e1 with e1
  exact e1.symm
/-- The reference's way: the number below nought. -/
def negAcc (n : Int) : List UInt8 → Option Int
  | [] => some n
  | c :: r => if (c.toNat : Int) < 48 then none else if (c.toNat : Int) > 57 then none else if n < Int.tdiv (-9223372036854775808 + ((c.toNat : Int) - 48)) 10 then none else negAcc (10 * n - ((c.toNat : Int) - 48)) r
theorem neg_app (xs ys : List UInt8) : ∀ acc v, negAcc acc xs = some v → negAcc acc (xs ++ ys) = negAcc v ys := by
  induction xs with
  | nil => intro acc v h; simp only [negAcc] at h; injection h with h; rw [h]; rfl
  | cons c r ih =>
    intro acc v h
    simp only [negAcc, List.cons_append] at h ⊢
    by_cases h1 : (c.toNat : Int) < 48
    · rw [if_pos h1] at h; cases h
    · rw [if_neg h1] at h ⊢
      by_cases h2 : (c.toNat : Int) > 57
      · rw [if_pos h2] at h; cases h
      · rw [if_neg h2] at h ⊢
        by_cases h3 : acc < Int.tdiv (-9223372036854775808 + ((c.toNat : Int) - 48)) 10
        · rw [if_pos h3] at h; cases h
        · rw [if_neg h3] at h ⊢; exact ih _ _ h
theorem tdiv_low (x : Int) (h : x ≤ 0) : Int.tdiv x 10 = -((-x) / 10) := by
  have e : x = -(-x) := by omega
  rw [e, Int.neg_tdiv, Int.tdiv_eq_ediv_of_nonneg (by omega)]
  simp
theorem neg_dec (u : Nat) : u ≤ 9223372036854775808 → negAcc 0 (Go.Lib.decDigits u) = some (-(u : Int)) := by
  induction u using Nat.strongRecOn with
  | ind u ih =>
    intro hu
    have one : ∀ acc : Nat, ∀ d, d < 10 → acc * 10 + d ≤ 9223372036854775808 → negAcc (-(acc : Int)) [UInt8.ofNat (48 + d)] = some (-((acc * 10 + d : Nat) : Int)) := by
      intro acc d hd hs
      simp only [negAcc]
      rw [dig_toNat d hd, tdiv_low (-9223372036854775808 + (((48 + d : Nat) : Int) - 48)) (by omega), if_neg (by omega), if_neg (by omega), if_neg (by omega)]
      congr 1
      omega
    by_cases h : u < 10
    · rw [Go.Lib.decDigits, dif_pos h]; have := one 0 u h (by omega); simpa using this
    · rw [Go.Lib.decDigits, dif_neg h, neg_app _ _ 0 (-((u / 10 : Nat) : Int)) (ih (u / 10) (by omega) (by omega)), one (u / 10) (u % 10) (by omega) (by omega)]
      congr 2; omega

theorem tenAns_nat (v : Nat) (hv : v < 170141183460469231731687303715884105728) (d : Int) :
    tenAns false ((v : Int) / 18446744073709551616) ((v : Int) % 18446744073709551616) d = if 0 ≤ d ∧ d ≤ 9 ∧ 10 * (v : Int) + d < 170141183460469231731687303715884105728 then (false, (10 * (v : Int) + d) / 18446744073709551616, (10 * (v : Int) + d) % 18446744073709551616, true) else (false, 0, 0, false) := by
  have wo : wok false ((v : Int) / 18446744073709551616) ((v : Int) % 18446744073709551616) = true := by unfold wok; simp; omega
  have wv : wval false ((v : Int) / 18446744073709551616) ((v : Int) % 18446744073709551616) = (v : Int) := by unfold wval; rw [if_neg (by decide)]; omega
  have ab : ∀ x : Int, 0 ≤ x → iabs x = x := fun x hx => by unfold iabs; rw [if_neg (by omega)]
  have wn : ∀ x : Int, 0 ≤ x → wnorm x = (false, x / 18446744073709551616, x % 18446744073709551616) := fun x hx => by
    unfold wnorm; rw [ab x hx, decide_eq_false (by omega)]
  have sc : scaleAns false ((v : Int) / 18446744073709551616) ((v : Int) % 18446744073709551616) 10 = wans ((v : Int) * 10) := by unfold scaleAns; rw [if_pos wo, wv]
  generalize (v : Int) / 18446744073709551616 = h at *
  generalize (v : Int) % 18446744073709551616 = l at *
  unfold tenAns
  rw [sc]
  by_cases c : (v : Int) * 10 < 170141183460469231731687303715884105728
  · have hw : wans ((v : Int) * 10) = ((wnorm ((v : Int) * 10)).1, (wnorm ((v : Int) * 10)).2.1, (wnorm ((v : Int) * 10)).2.2, true) := wans_in (by rw [ab _ (by omega)]; exact c)
    rw [hw]
    have ni : (if false = true then -d else d) = d := if_neg (by decide)
    rw [ni]
    by_cases cd : 0 ≤ d ∧ d ≤ 9
    · have i1 : iin d 0 9 = true := by unfold iin; simp [cd.1, cd.2]
      rw [i1]
      simp only [Bool.and_self, if_true]
      have aa : addAns (wnorm ((v : Int) * 10)).1 (wnorm ((v : Int) * 10)).2.1 (wnorm ((v : Int) * 10)).2.2 (wnorm d).1 (wnorm d).2.1 (wnorm d).2.2 = wans ((v : Int) * 10 + d) := by
        unfold addAns
        rw [wok_wnorm (by rw [ab _ (by omega)]; exact c), wok_wnorm (by rw [ab _ cd.1]; omega), wval_wnorm, wval_wnorm]
        rfl
      rw [aa]
      have e : (v : Int) * 10 + d = 10 * (v : Int) + d := by omega
      rw [e]
      by_cases c2 : 10 * (v : Int) + d < 170141183460469231731687303715884105728
      · rw [if_pos ⟨cd.1, cd.2, c2⟩, wans_in (by rw [ab _ (by omega)]; exact c2), wn _ (by omega)]
      · rw [if_neg (fun h => c2 h.2.2)]
        unfold wans
        rw [if_neg (by rw [ab _ (by omega)]; exact c2)]
    · have i1 : iin d 0 9 = false := by
        unfold iin
        by_cases p : 0 ≤ d
        · have q : ¬ d ≤ 9 := fun q => cd ⟨p, q⟩
          simp [p, q]
        · simp [p]
      rw [i1]
      simp only [Bool.and_false, Bool.false_eq_true, if_false]
      rw [if_neg (fun h => cd ⟨h.1, h.2.1⟩)]
  · have hw : wans ((v : Int) * 10) = (false, 0, 0, false) := by unfold wans; rw [if_neg (by rw [ab _ (by omega)]; exact c)]
    rw [hw]
    simp only [Bool.false_and, Bool.false_eq_true, if_false]
    rw [if_neg (by omega)]
/-- Digits read one behind the other, up to 127 bits. -/
def accW (v : Nat) : List UInt8 → Option Nat
  | [] => some v
  | c :: r => if 48 ≤ c.toNat ∧ c.toNat ≤ 57 ∧ 10 * v + (c.toNat - 48) < 170141183460469231731687303715884105728 then accW (10 * v + (c.toNat - 48)) r else none
theorem accW_app (xs ys : List UInt8) : ∀ a v, accW a xs = some v → accW a (xs ++ ys) = accW v ys := by
  induction xs with
  | nil => intro a v h; simp only [accW] at h; injection h with h; rw [h]; rfl
  | cons c r ih =>
    intro a v h
    simp only [accW, List.cons_append] at h ⊢
    by_cases h1 : 48 ≤ c.toNat ∧ c.toNat ≤ 57 ∧ 10 * a + (c.toNat - 48) < 170141183460469231731687303715884105728
    · rw [if_pos h1] at h ⊢; exact ih _ _ h
    · rw [if_neg h1] at h; cases h
theorem accW_dec (u : Nat) : u < 170141183460469231731687303715884105728 → accW 0 (Go.Lib.decDigits u) = some u := by
  induction u using Nat.strongRecOn with
  | ind u ih =>
    intro hu
    have one : ∀ a d, d < 10 → 10 * a + d < 170141183460469231731687303715884105728 → accW a [UInt8.ofNat (48 + d)] = some (10 * a + d) := by
      intro a d hd hs
      simp only [accW]
      rw [dig_toNat d hd, if_pos ⟨by omega, by omega, by omega⟩]
      congr 1; omega
    by_cases h : u < 10
    · rw [Go.Lib.decDigits, dif_pos h, one 0 u h (by omega)]; congr 1; omega
    · rw [Go.Lib.decDigits, dif_neg h, accW_app _ _ 0 (u / 10) (ih (u / 10) (by omega) (by omega)), one (u / 10) (u % 10) (by omega) (by omega)]
      congr 1; omega
theorem accW_lt : ∀ (l : List UInt8) (a v : Nat), a < 170141183460469231731687303715884105728 → accW a l = some v → v < 170141183460469231731687303715884105728
  | [], a, v, ha, h => by simp only [accW] at h; injection h with h; omega
  | c :: r, a, v, ha, h => by
    simp only [accW] at h
    by_cases h1 : 48 ≤ c.toNat ∧ c.toNat ≤ 57 ∧ 10 * a + (c.toNat - 48) < 170141183460469231731687303715884105728
    · rw [if_pos h1] at h; exact accW_lt r _ v h1.2.2 h
    · rw [if_neg h1] at h; cases h
def finW (l : List UInt8) (x : Int) : Option Nat → Bool × Int × Int × Bool
  | none => (false, 0, 0, false)
  | some v => if Go.Lib.itoa (if x = 1 then -(v : Int) else v) = l then ((wnorm (if x = 1 then -(v : Int) else v)).1, (wnorm (if x = 1 then -(v : Int) else v)).2.1, (wnorm (if x = 1 then -(v : Int) else v)).2.2, true) else (false, 0, 0, false)
theorem wide_itoa (w : Int) (h : iabs w < 170141183460469231731687303715884105728) : wideL (wnorm w).1 ((wnorm w).2.1 * 18446744073709551616 + (wnorm w).2.2).toNat = Go.Lib.itoa w := by
  unfold wideL wnorm Go.Lib.itoa
  have e : (iabs w / 18446744073709551616 * 18446744073709551616 + iabs w % 18446744073709551616).toNat = w.natAbs := by
    unfold iabs
    by_cases c : w < 0
    · rw [if_pos c]; omega
    · rw [if_neg c]; omega
  simp only
  rw [e]
  by_cases c : w < 0
  · rw [if_pos c, if_pos (by simpa using c)]; rfl
  · rw [if_neg c, if_neg (by simpa using c)]
    have e2 : w.natAbs = w.toNat := by omega
    rw [e2]; rfl
theorem itoa_len40 (v : Int) (h : iabs v < 170141183460469231731687303715884105728) : 1 ≤ (Go.Lib.itoa v).length ∧ (Go.Lib.itoa v).length ≤ 40 := by
  have p39 : ∀ u : Nat, u < 170141183460469231731687303715884105728 → u < 10 ^ 39 := fun u hu => by
    have e : (170141183460469231731687303715884105728 : Nat) ≤ 10 ^ 39 := by decide +kernel
    exact Nat.lt_of_lt_of_le hu e
  have hb : v.natAbs < 170141183460469231731687303715884105728 := by unfold iabs at h; split at h <;> omega
  unfold Go.Lib.itoa
  by_cases c : v < 0
  · rw [if_pos c]
    have := dec_len_le 39 v.natAbs (by decide) (p39 _ hb)
    simp only [List.length_cons]; omega
  · rw [if_neg c]
    have := dec_len_le 39 v.toNat (by decide) (p39 _ (by omega))
    obtain ⟨b, r, e, _⟩ := dec_head v.toNat
    refine ⟨?_, by omega⟩
    rw [e]; simp
/-- What the digits behind the sign make of a text that is a number's .. -/
theorem finW_yes (v : Int) (h : iabs v < 170141183460469231731687303715884105728) (x : Int) (ds : List UInt8) (hx : v < 0 ∧ x = 1 ∧ ds = Go.Lib.decDigits v.natAbs ∨ 0 ≤ v ∧ x ≠ 1 ∧ ds = Go.Lib.decDigits v.natAbs) :
    finW (Go.Lib.itoa v) x (accW 0 ds) = ((wnorm v).1, (wnorm v).2.1, (wnorm v).2.2, true) := by
  have hb : v.natAbs < 170141183460469231731687303715884105728 := by unfold iabs at h; split at h <;> omega
  rcases hx with ⟨a, b, rfl⟩ | ⟨a, b, rfl⟩
  · rw [accW_dec _ hb]
    have e : (if x = 1 then -((v.natAbs : Nat) : Int) else ((v.natAbs : Nat) : Int)) = v := by rw [if_pos b]; omega
    simp only [finW, e, if_true]
  · rw [accW_dec _ hb]
    have e : (if x = 1 then -((v.natAbs : Nat) : Int) else ((v.natAbs : Nat) : Int)) = v := by rw [if_neg b]; omega
    simp only [finW, e, if_true]
/-- .. and of one that is no number's. -/
theorem finW_no (l : List UInt8) (hno : ∀ v : Int, iabs v < 170141183460469231731687303715884105728 → Go.Lib.itoa v ≠ l) (x : Int) (ds : List UInt8) : finW l x (accW 0 ds) = (false, 0, 0, false) := by
  cases hn : accW 0 ds with
  | none => rfl
  | some v =>
    have hv := accW_lt ds 0 v (by omega) hn
    simp only [finW]
    rw [if_neg]
    apply hno
    unfold iabs
    by_cases c : x = 1
    · rw [if_pos c]; split <;> omega
    · rw [if_neg c]; split <;> omega
theorem wn_nat (v : Nat) : wnorm (v : Int) = (false, (v : Int) / 18446744073709551616, (v : Int) % 18446744073709551616) := by
  have e : iabs (v : Int) = v := by unfold iabs; rw [if_neg (by omega)]
  unfold wnorm; rw [e, decide_eq_false (by omega)]
theorem neg_nat (v : Nat) (hv : v < 170141183460469231731687303715884105728) : negAns false ((v : Int) / 18446744073709551616) ((v : Int) % 18446744073709551616) = wnorm (-(v : Int)) := by
  have wo : wok false ((v : Int) / 18446744073709551616) ((v : Int) % 18446744073709551616) = true := by unfold wok; simp; omega
  have e : iabs (-(v : Int)) = v := by unfold iabs; split <;> omega
  have key : wnz (!false) ((v : Int) / 18446744073709551616) ((v : Int) % 18446744073709551616) = decide (-(v : Int) < 0) := by
    unfold wnz
    by_cases c : v = 0
    · subst c; decide
    · have d : -(v : Int) < 0 := by omega
      rw [decide_eq_true d]
      by_cases p : (v : Int) / 18446744073709551616 > 0
      · simp [p]
      · have q : (v : Int) % 18446744073709551616 > 0 := by omega
        simp [q]
  unfold negAns wnorm
  rw [if_pos wo, e, key]

theorem impl_size_eq (a : Int) (h0 : -9223372036854775808 ≤ a) (h1 : a ≤ 9223372036854775807) : impl_size.f a = some (iabs a) := by
  unfold impl_size.f iabs
  by_cases h : a < 0
  · rw [if_pos h, if_pos h]; simp only [wu64]; congr 1; omega
  · rw [if_neg h, if_neg h]; simp only [wu64]; congr 1; omega

theorem bits_Mul64_eq (a b : Int) (ha0 : 0 ≤ a) (ha : a < 18446744073709551616) (hb0 : 0 ≤ b) (hb : b < 18446744073709551616) : bits_Mul64.f a b = some (a * b / 18446744073709551616, a * b % 18446744073709551616) := by
  unfold bits_Mul64.f
  rw [mulhi a b ha0 ha hb0 hb, wu64 (a * b)]

theorem impl_wideOf_eq (n : Bool) (h l : Int) : impl_wideOf.f n h l = some (wnz n h l, h, l) := by
  unfold impl_wideOf.f wnz
  cases n
  · simp
  · by_cases c : h > 0 <;> simp [c]

theorem bits_Add64_eq (a b c : Int) (h : 0 ≤ a ∧ 0 ≤ b ∧ 0 ≤ c ∧ c ≤ 1) : bits_Add64.f a b c = some ((a + b + c) % 18446744073709551616, (a + b + c) / 18446744073709551616) := by
  unfold bits_Add64.f
  rw [if_pos h]
theorem impl_ScaleWide_eq (n : Bool) (h l k : Int) (h0 : 0 ≤ h) (l0 : 0 ≤ l) (l1 : l < 18446744073709551616) (k0 : -9223372036854775808 ≤ k) (k1 : k ≤ 9223372036854775807) : impl_ScaleWide.f n h l k = some (scaleAns n h l k) := by
  unfold impl_ScaleWide.f scaleAns
  simp only [impl_WideOk_eq, Option.bind_some]
  by_cases w : wok n h l = true
  · rw [if_pos w, if_pos w]
    have hh := wok_high w
    have ⟨u0, u1⟩ := iabs_u64 k0 k1
    have e1 := iabs_wval n h0 l0
    have e2 := iabs_mul (wval n h l) k
    have e3 := scale_parts (u := iabs k) (iabs (wval n h l)) e1
    have sg := scale_sign (k := k) h0 l0 w
    rw [e2] at e3
    have ⟨p0, p1⟩ := mul_u64 h (iabs k) h0 (by omega) u0 u1
    have ⟨q0, q1⟩ := mul_u64 l (iabs k) l0 l1 u0 u1
    simp only [impl_size_eq k k0 k1, bits_Mul64_eq _ _ h0 (show h < 18446744073709551616 by omega) u0 u1, bits_Mul64_eq _ _ l0 l1 u0 u1, Option.bind_some]
    generalize wval n h l * k = v at *
    generalize h * iabs k = p at *
    generalize l * iabs k = q at *
    rw [bits_Add64_eq _ _ _ (by omega)]
    simp only [impl_wideOf_eq, Option.bind_some]
    by_cases c1 : p / 18446744073709551616 > 0
    · rw [if_pos c1, wans_over (by omega)]
    · rw [if_neg c1]
      by_cases c2 : (p % 18446744073709551616 + q / 18446744073709551616 + 0) / 18446744073709551616 > 0
      · rw [if_pos c2, wans_over (by omega)]
      · rw [if_neg c2]
        have e4 : iabs v = ((p % 18446744073709551616 + q / 18446744073709551616 + 0) % 18446744073709551616) * 18446744073709551616 + q % 18446744073709551616 := by omega
        rw [wans_of e4 (by omega) (by omega) (by omega), sign_parts e4 (by omega) (by omega) sg]
        have e5 := sign_parts (s := decide (v < 0)) e4 (by omega) (by omega) (fun _ => rfl)
        have e6 := wok_wnz (decide (v < 0)) ((p % 18446744073709551616 + q / 18446744073709551616 + 0) % 18446744073709551616) (q % 18446744073709551616)
        rw [e5] at e6
        rw [e6]
        generalize (p % 18446744073709551616 + q / 18446744073709551616 + 0) % 18446744073709551616 = a at *
        generalize q % 18446744073709551616 = b at *
        by_cases c3 : a < 9223372036854775808
        · rw [if_pos c3]; simp [c3]
        · rw [if_neg c3]; simp [c3]
  · rw [if_neg w, if_neg w]

theorem impl_WideOf_eq (a : Int) (h0 : -9223372036854775808 ≤ a) (h1 : a ≤ 9223372036854775807) : impl_WideOf.f a = some (wnorm a) := by
  have hb := iabs_u64 h0 h1
  unfold impl_WideOf.f
  simp only [impl_size_eq a h0 h1, impl_wideOf_eq, Option.bind_some, wnorm, wnz]
  have e1 : iabs a / 18446744073709551616 = 0 := by omega
  have e2 : iabs a % 18446744073709551616 = iabs a := by omega
  rw [e1, e2]
  by_cases c : a < 0
  · have : iabs a > 0 := by unfold iabs; rw [if_pos c]; omega
    simp [c, this]
  · simp [c]

theorem cmp_isNaN_uint64_eq (a : Int) : cmp_isNaN_uint64.f a = some false := by unfold cmp_isNaN_uint64.f; simp
theorem cmp_Compare_uint64_eq (a b : Int) : cmp_Compare_uint64.f a b = some (cmpI a b) := by
  unfold cmp_Compare_uint64.f cmpI
  simp only [cmp_isNaN_uint64_eq, Option.bind_some]
  by_cases h : a < b
  · simp [h]
  · by_cases h' : a > b <;> simp [h, h']
theorem cmp_Or_int_two (a b : Int) (k : Nat) (hk : 3 ≤ k) : cmp_Or_int.f k [a, b] = some (if a = 0 then b else a) := by
  obtain ⟨k, rfl⟩ : ∃ m, k = m + 3 := ⟨k - 3, by omega⟩
  have w1 : wrap64 (0 + 1) = 1 := by unfold wrap64; omega
  have w2 : wrap64 (1 + 1) = 2 := by unfold wrap64; omega
  have r0 : rd [a, b] 0 = a := rfl
  have r1 : rd [a, b] 1 = b := rfl
  unfold cmp_Or_int.f
  simp only [cmp_Or_int.l0, List.length_cons, List.length_nil, w1, w2, r0, r1]
  by_cases h : a = 0
  · subst h
    by_cases h' : b = 0
    · subst h'; simp
    · simp [h']
  · simp [h]

theorem impl_compareSizes_eq (n m : Bool) (h l h' l' : Int) (k : Nat) (hk : 3 ≤ k) : impl_compareSizes.f k n h l m h' l' = some (if cmpI h h' = 0 then cmpI l l' else cmpI h h') := by
  unfold impl_compareSizes.f
  simp only [cmp_Compare_uint64_eq, Option.bind_some, cmp_Or_int_two _ _ k hk]
theorem cmp_sizes {h l h' l' : Int} (l0 : 0 ≤ l) (l1 : l < 18446744073709551616) (m0 : 0 ≤ l') (m1 : l' < 18446744073709551616) :
    (if cmpI h h' = 0 then cmpI l l' else cmpI h h') = cmpI (h * 18446744073709551616 + l) (h' * 18446744073709551616 + l') := by
  unfold cmpI
  by_cases c1 : h < h'
  · have e : h * 18446744073709551616 + l < h' * 18446744073709551616 + l' := by omega
    simp [c1, e]
  · by_cases c2 : h > h'
    · have e : ¬ h * 18446744073709551616 + l < h' * 18446744073709551616 + l' := by omega
      have e2 : h * 18446744073709551616 + l > h' * 18446744073709551616 + l' := by omega
      rw [if_neg c1, if_pos c2, if_neg e, if_pos e2]; rfl
    · obtain rfl : h = h' := by omega
      rw [if_neg c1, if_neg c2, if_pos rfl]
      by_cases c3 : l < l'
      · rw [if_pos c3, if_pos (by omega)]
      · by_cases c4 : l > l'
        · rw [if_neg c3, if_pos c4, if_neg (by omega), if_pos (by omega)]
        · rw [if_neg c3, if_neg c4, if_neg (by omega), if_neg (by omega)]

theorem bits_Add64_eq' (a b c : Int) (h : 0 ≤ a ∧ 0 ≤ b ∧ 0 ≤ c ∧ c ≤ 1) : bits_Add64.f a b c = some ((a + b + c) % 18446744073709551616, (a + b + c) / 18446744073709551616) := by
  unfold bits_Add64.f
  rw [if_pos h]
theorem bits_Sub64_eq (a b c : Int) (h : 0 ≤ a ∧ 0 ≤ b ∧ b < 18446744073709551616 ∧ 0 ≤ c ∧ c ≤ 1) : bits_Sub64.f a b c = some ((a - b - c) % 18446744073709551616, if a < b + c then 1 else 0) := by
  unfold bits_Sub64.f
  rw [if_pos h]
theorem impl_AddWide_eq (n m : Bool) (h l h' l' : Int) (h0 : 0 ≤ h) (l0 : 0 ≤ l) (l1 : l < 18446744073709551616) (g0 : 0 ≤ h') (m0 : 0 ≤ l') (m1 : l' < 18446744073709551616) (k : Nat) (hk : 6 ≤ k) : impl_AddWide.f k n h l m h' l' = some (addAns n h l m h' l') := by
  obtain ⟨k, rfl⟩ : ∃ j, k = j + 1 := ⟨k - 1, by omega⟩
  unfold impl_AddWide.f addAns
  simp only [impl_WideOk_eq, Option.bind_some]
  by_cases w : wok n h l = true
  · rw [if_pos w]
    by_cases w' : wok m h' l' = true
    · have hh := wok_high w
      have gg := wok_high w'
      have nz := wok_nz w
      have mz := wok_nz w'
      have sn := wval_neg n h0 l0
      have sm := wval_neg m g0 m0
      rw [nz] at sn
      rw [mz] at sm
      have dn := wval_def n h l
      have dm := wval_def m h' l'
      rw [w, w']
      simp only [impl_AddWide.j0, Bool.not_true, Bool.false_eq_true, if_false, Bool.and_self, if_true]
      generalize wval n h l = u at *
      generalize wval m h' l' = v at *
      by_cases c : (n != m) = true
      · rw [if_pos c]
        simp only [impl_compareSizes_eq n m h l h' l' k (by omega), cmp_sizes l0 l1 m0 m1, Option.bind_some]
        by_cases d : cmpI (h * 18446744073709551616 + l) (h' * 18446744073709551616 + l') < 0
        · rw [if_pos d]
          have dlt : h * 18446744073709551616 + l < h' * 18446744073709551616 + l' := by
            unfold cmpI at d
            by_cases e : h * 18446744073709551616 + l < h' * 18446744073709551616 + l'
            · exact e
            · rw [if_neg e] at d; split at d <;> omega
          have ⟨p, q⟩ := sub_parts m0 m1 l0 l1 g0 gg h0 (by omega)
          rw [bits_Sub64_eq l' l 0 (by omega)]
          simp only [Option.bind_some]
          rw [bits_Sub64_eq h' h _ (by split <;> omega)]
          simp only [Option.bind_some, impl_wideOf_eq]
          have e4 : iabs (u + v) = (h' - h - (if l' < l + 0 then 1 else 0)) % 18446744073709551616 * 18446744073709551616 + (l' - l - 0) % 18446744073709551616 := by
            rw [p]; subst dn dm; unfold iabs
            cases n <;> cases m <;> simp at c ⊢ <;> omega
          have sg : u + v ≠ 0 → decide (u + v < 0) = m := by
            intro _; subst dn dm
            cases n <;> cases m <;> simp at c ⊢ <;> omega
          generalize (h' - h - (if l' < l + 0 then 1 else 0)) % 18446744073709551616 = a at *
          have a0 : 0 ≤ a := by have := iabs_nonneg (u + v); omega
          have b0 : 0 ≤ (l' - l - 0) % 18446744073709551616 := by omega
          rw [wans_of e4 a0 b0 (by omega), if_pos q, sign_parts e4 a0 b0 sg]
        · rw [if_neg d]
          have dle : h' * 18446744073709551616 + l' ≤ h * 18446744073709551616 + l := by
            unfold cmpI at d
            by_cases e : h * 18446744073709551616 + l < h' * 18446744073709551616 + l'
            · rw [if_pos e] at d; omega
            · omega
          have ⟨p, q⟩ := sub_parts l0 l1 m0 m1 h0 hh g0 dle
          rw [bits_Sub64_eq l l' 0 (by omega)]
          simp only [Option.bind_some]
          rw [bits_Sub64_eq h h' _ (by split <;> omega)]
          simp only [Option.bind_some, impl_wideOf_eq]
          have e4 : iabs (u + v) = (h - h' - (if l < l' + 0 then 1 else 0)) % 18446744073709551616 * 18446744073709551616 + (l - l' - 0) % 18446744073709551616 := by
            rw [p]; subst dn dm; unfold iabs
            cases n <;> cases m <;> simp at c ⊢ <;> omega
          have sg : u + v ≠ 0 → decide (u + v < 0) = n := by
            intro z; subst dn dm
            cases n <;> cases m <;> simp at c z ⊢ <;> omega
          generalize (h - h' - (if l < l' + 0 then 1 else 0)) % 18446744073709551616 = a at *
          have a0 : 0 ≤ a := by have := iabs_nonneg (u + v); omega
          have b0 : 0 ≤ (l - l' - 0) % 18446744073709551616 := by omega
          rw [wans_of e4 a0 b0 (by omega), if_pos q, sign_parts e4 a0 b0 sg]
      · rw [if_neg c]
        have nm : n = m := by simpa using c
        subst nm
        rw [bits_Add64_eq' l l' 0 (by omega)]
        simp only [Option.bind_some]
        rw [bits_Add64_eq' h h' _ (by omega)]
        simp only [Option.bind_some, impl_wideOf_eq]
        have e4 : iabs (u + v) = (h + h' + (l + l' + 0) / 18446744073709551616) % 18446744073709551616 * 18446744073709551616 + (l + l' + 0) % 18446744073709551616 := by
          subst dn dm; unfold iabs
          cases n <;> simp <;> omega
        have sg : u + v ≠ 0 → decide (u + v < 0) = n := by
          intro z; subst dn dm
          cases n <;> simp at z ⊢ <;> omega
        have a0 : 0 ≤ (h + h' + (l + l' + 0) / 18446744073709551616) % 18446744073709551616 := by omega
        have b0 : 0 ≤ (l + l' + 0) % 18446744073709551616 := by omega
        have b1 : (l + l' + 0) % 18446744073709551616 < 18446744073709551616 := by omega
        generalize (h + h' + (l + l' + 0) / 18446744073709551616) % 18446744073709551616 = a at *
        generalize (l + l' + 0) % 18446744073709551616 = b at *
        have e6 := wok_wnz n a b
        rw [sign_parts e4 a0 b0 sg] at e6
        rw [wans_of e4 a0 b0 b1, sign_parts e4 a0 b0 sg, impl_WideOk_eq, e6]
        simp only [Option.bind_some]
        by_cases c3 : a < 9223372036854775808
        · rw [if_pos c3, if_pos (decide_eq_true c3)]
        · rw [if_neg c3, if_neg (by simpa using c3)]
    · have w2 : wok m h' l' = false := by simpa using w'
      rw [w2]
      simp [impl_AddWide.j0]
  · have w2 : wok n h l = false := by simpa using w
    rw [if_neg w, w2]
    simp [impl_AddWide.j0]

theorem tenAns_neg (d : Int) (h0 : 0 ≤ d) (h1 : d ≤ 9) : wrap64 (-d) = -d := w64_id (by omega) (by omega)
theorem impl_TenTimes_eq (n : Bool) (h l d : Int) (h0 : 0 ≤ h) (l0 : 0 ≤ l) (l1 : l < 18446744073709551616) (k : Nat) (hk : 7 ≤ k) : impl_TenTimes.f k n h l d = some (tenAns n h l d) := by
  obtain ⟨k, rfl⟩ : ∃ j, k = j + 1 := ⟨k - 1, by omega⟩
  unfold impl_TenTimes.f tenAns
  rw [impl_ScaleWide_eq n h l 10 h0 l0 l1 (by omega) (by omega)]
  simp only [Option.bind_some, impl_within_eq, impl_TenTimes.j0]
  have p := scaleAns_parts n h l 10
  by_cases c : (scaleAns n h l 10).2.2.2 = true
  · rw [if_pos c, c]
    by_cases e : iin d 0 9 = true
    · rw [e]
      have e' : 0 ≤ d ∧ d ≤ 9 := by simpa [iin] using e
      simp only [Bool.not_true, Bool.false_eq_true, if_false, Bool.and_self, if_true]
      have w : ∀ x : Int, -9 ≤ x → x ≤ 9 → impl_WideOf.f x = some (wnorm x) ∧ 0 ≤ (wnorm x).2.1 ∧ 0 ≤ (wnorm x).2.2 ∧ (wnorm x).2.2 < 18446744073709551616 := by
        intro x x0 x1
        have q := wnorm_parts (v := x) (by unfold iabs; split <;> omega)
        exact ⟨impl_WideOf_eq x (by omega) (by omega), q.1, q.2.2.1, q.2.2.2⟩
      cases n
      · simp only [Bool.false_eq_true, if_false]
        have q := w d (by omega) (by omega)
        rw [q.1]; simp only [Option.bind_some]
        rw [impl_AddWide_eq _ _ _ _ _ _ p.1 p.2.2.1 p.2.2.2 q.2.1 q.2.2.1 q.2.2.2 k (by omega)]
        rfl
      · simp only [if_true]
        rw [tenAns_neg d e'.1 e'.2]
        have q := w (-d) (by omega) (by omega)
        rw [q.1]; simp only [Option.bind_some]
        rw [impl_AddWide_eq _ _ _ _ _ _ p.1 p.2.2.1 p.2.2.2 q.2.1 q.2.2.1 q.2.2.2 k (by omega)]
        rfl
    · have e2 : iin d 0 9 = false := by simpa using e
      rw [e2]; simp
  · rw [if_neg c, if_pos trivial, if_neg (by simp [c])]

theorem impl_NegWide_eq (n : Bool) (h l : Int) : impl_NegWide.f n h l = some (negAns n h l) := by
  unfold impl_NegWide.f negAns
  simp only [impl_WideOk_eq, impl_wideOf_eq, Option.bind_some]
  by_cases c : wok n h l = true
  · rw [if_pos c, if_pos c]
  · rw [if_neg c, if_neg c]

theorem bt_nat (s : ByteArray) (i : Nat) (h : i < s.data.toList.length) : bt s (i : Int) = ((s.data.toList[i]).toNat : Int) := by
  have h' : i < s.size := by rw [Array.length_toList] at h; exact h
  have e := bt_at s (i : Int) (by simpa using h')
  rw [← e]
  simp
  rfl

theorem eq_list3 (l : List UInt8) (s : ByteArray) : ((⟨l.toArray⟩ : ByteArray).toList = s.toList) ↔ l = s.data.toList := by
  rw [Go.Lib.toList_data, Go.Lib.toList_data]
theorem impl_WideText_norm (w : Int) (h : iabs w < 170141183460469231731687303715884105728) (k : Nat) (hk : 60 ≤ k) : impl_WideText.f k (wnorm w).1 (wnorm w).2.1 (wnorm w).2.2 = some ⟨(Go.Lib.itoa w).toArray⟩ := by
  have p := wnorm_parts (v := w) (by omega)
  rw [impl_WideText_is _ _ _ p.1 p.2.2.1 p.2.2.2 k hk, if_pos (wok_wnorm h), wide_itoa w h]
theorem impl_ReadWide_l (s t : ByteArray) (neg : Bool) (hs : t.size ≤ 40) (d : Nat) : ∀ (k i v : Nat), v < 170141183460469231731687303715884105728 → i ≤ t.size → t.size - i = d → d + 62 < k →
    impl_ReadWide.l0 k s t neg (t.size : Int) (i : Int) false ((v : Int) / 18446744073709551616) ((v : Int) % 18446744073709551616) = some (finW s.data.toList (if neg = true then 1 else 0) (accW v (t.data.toList.drop i))) := by
  induction d with
  | zero =>
    intro k i v hv hi hd hk
    obtain ⟨k, rfl⟩ : ∃ m, k = m + 1 := ⟨k - 1, by omega⟩
    have dr : t.data.toList.drop i = [] := List.drop_eq_nil_of_le (by rw [Array.length_toList]; have : t.data.size = t.size := rfl; omega)
    rw [dr]
    simp only [impl_ReadWide.l0, accW, finW]
    rw [if_neg (by omega)]
    have a1 : iabs (-(v : Int)) < 170141183460469231731687303715884105728 := by unfold iabs; split <;> omega
    have a2 : iabs (v : Int) < 170141183460469231731687303715884105728 := by unfold iabs; split <;> omega
    have t2 := impl_WideText_norm (v : Int) a2 k (by omega)
    rw [wn_nat] at t2
    simp only at t2
    cases neg
    · simp only [Bool.false_eq_true, if_false]
      rw [t2]
      have z : ¬ ((0 : Int) = 1) := by decide
      simp only [Option.bind_some, eq_list3, if_neg z]
      rw [wn_nat]
      by_cases e : Go.Lib.itoa (v : Int) = s.data.toList
      · rw [if_pos e, if_pos e]
      · rw [if_neg e, if_neg e]
    · simp only [if_true]
      rw [impl_NegWide_eq, neg_nat v hv]
      simp only [Option.bind_some]
      rw [impl_WideText_norm (-(v : Int)) a1 k (by omega)]
      simp only [Option.bind_some, eq_list3]
      by_cases e : Go.Lib.itoa (-(v : Int)) = s.data.toList
      · rw [if_pos e, if_pos e]
      · rw [if_neg e, if_neg e]
  | succ d ih =>
    intro k i v hv hi hd hk
    obtain ⟨k, rfl⟩ : ∃ m, k = m + 1 := ⟨k - 1, by omega⟩
    have hlt : i < t.size := by omega
    have hl : i < t.data.toList.length := by rw [Array.length_toList]; exact hlt
    have hdr : t.data.toList.drop i = t.data.toList[i] :: t.data.toList.drop (i + 1) := List.drop_eq_getElem_cons hl
    have hb : bt t (i : Int) = ((t.data.toList[i]).toNat : Int) := bt_nat t i hl
    have hb2 : (t.data.toList[i]).toNat < 256 := (t.data.toList[i]).toNat_lt
    rw [hdr]
    simp only [impl_ReadWide.l0, accW]
    rw [if_pos (by omega), if_pos (by omega), if_pos (by omega), hb]
    generalize (t.data.toList[i]).toNat = c at *
    rw [w64_id (n := (c : Int)) (by omega) (by omega), w64_id (n := (c : Int) - 48) (by omega) (by omega), impl_TenTimes_eq _ _ _ _ (by omega) (by omega) (by omega) k (by omega), tenAns_nat v hv]
    simp only [Option.bind_some]
    by_cases q : 48 ≤ c ∧ c ≤ 57 ∧ 10 * v + (c - 48) < 170141183460469231731687303715884105728
    · have e : 10 * (v : Int) + ((c : Int) - 48) = ((10 * v + (c - 48) : Nat) : Int) := by omega
      have q' : 0 ≤ (c : Int) - 48 ∧ (c : Int) - 48 ≤ 9 ∧ 10 * (v : Int) + ((c : Int) - 48) < 170141183460469231731687303715884105728 := ⟨by omega, by omega, by omega⟩
      rw [if_pos q, if_pos q', e]
      simp only [if_true]
      rw [w64_id (n := (i : Int) + 1) (by omega) (by omega)]
      exact ih k (i + 1) _ q.2.2 (by omega) (by omega) (by omega)
    · have q' : ¬ (0 ≤ (c : Int) - 48 ∧ (c : Int) - 48 ≤ 9 ∧ 10 * (v : Int) + ((c : Int) - 48) < 170141183460469231731687303715884105728) := fun h => q ⟨by omega, by omega, by omega⟩
      rw [if_neg q, if_neg q']
      simp only [Bool.false_eq_true, if_false, finW]
theorem CutMinus (s : ByteArray) : strings_CutPrefix.f s ⟨#[45]⟩ = some (if s.data.toList.head? = some 45 then (⟨(s.data.toList.drop 1).toArray⟩, true) else (s, false)) := by
  unfold strings_CutPrefix.f stringslite_CutPrefix.f stringslite_HasPrefix.f
  have e1 : ((⟨#[45]⟩ : ByteArray).size : Int) = 1 := rfl
  have hz : s.data.toList.length = s.size := by rw [Array.length_toList]; rfl
  rw [e1]
  by_cases c : (s.size : Int) ≥ 1
  · rw [if_pos c, if_pos (by decide), if_pos (by omega)]
    have eb : ((s.extract 0 (1 : Int).toNat).toList == (⟨#[45]⟩ : ByteArray).toList) = decide (s.data.toList.head? = some 45) := by
      rw [Go.Lib.toList_data, Go.Lib.toList_data]
      have e2 : (1 : Int).toNat = 1 := rfl
      rw [e2, Go.Lib.extract_from_zero]
      cases hl : s.data.toList with
      | nil => rw [hl] at hz; simp at hz; omega
      | cons a r =>
        simp only [List.take_succ_cons, List.take_zero, List.head?_cons]
        by_cases q : a = 45
        · subst q; rfl
        · simp [q]
    rw [eb]
    simp only [Option.bind_some]
    by_cases q : s.data.toList.head? = some 45
    · have ex : s.extract (1 : Int).toNat s.size = ⟨(s.data.toList.drop 1).toArray⟩ := by
        apply ByteArray.ext
        apply Array.ext'
        have e2 : (1 : Int).toNat = 1 := rfl
        rw [e2, Go.Lib.extract_to_end]
      rw [if_pos (decide_eq_true q), if_pos q, if_pos (by decide), if_pos (by omega), ex]
      rfl
    · rw [if_neg (by simpa using q), if_neg q]
      rfl
  · rw [if_neg c]
    have hn : s.data.toList = [] := List.length_eq_zero_iff.1 (by omega)
    rw [hn]
    simp
theorem impl_ReadWide_yes (s : ByteArray) (v : Int) (hv : iabs v < 170141183460469231731687303715884105728) (e : Go.Lib.itoa v = s.data.toList) (k : Nat) (hk : 120 ≤ k) : impl_ReadWide.f k s = some ((wnorm v).1, (wnorm v).2.1, (wnorm v).2.2, true) := by
  have hz : s.data.toList.length = s.size := by rw [Array.length_toList]; rfl
  have ln := itoa_len40 v hv
  rw [e, hz] at ln
  obtain ⟨k, rfl⟩ : ∃ m, k = m + 1 := ⟨k - 1, by omega⟩
  unfold impl_ReadWide.f
  rw [CutMinus]
  simp only [Option.bind_some]
  have z1 : ((0 : Nat) : Int) / 18446744073709551616 = 0 := by decide
  have z2 : ((0 : Nat) : Int) % 18446744073709551616 = 0 := by decide
  have c0 : ((0 : Nat) : Int) = 0 := rfl
  have fy := finW_yes v hv
  rw [e] at fy
  unfold Go.Lib.itoa at e
  by_cases n : v < 0
  · rw [if_pos n] at e
    have hh : s.data.toList.head? = some 45 := by rw [← e]; rfl
    have hd1 : s.data.toList.drop 1 = Go.Lib.decDigits v.natAbs := by rw [← e]; rfl
    rw [if_pos hh, hd1]
    obtain ⟨b, r, hd, _⟩ := dec_head v.natAbs
    have ne : ¬ ((⟨(Go.Lib.decDigits v.natAbs).toArray⟩ : ByteArray).toList = ([] : List UInt8)) := by rw [Go.Lib.toList_data, hd]; simp
    have l1 : (⟨(Go.Lib.decDigits v.natAbs).toArray⟩ : ByteArray).size ≤ 40 := by
      rw [mkz]
      have := congrArg List.length e
      simp only [List.length_cons] at this
      omega
    have hl := impl_ReadWide_l s ⟨(Go.Lib.decDigits v.natAbs).toArray⟩ true l1 _ k 0 0 (by omega) (by omega) rfl (by omega)
    rw [z1, z2, c0] at hl
    simp only
    rw [if_neg ne]
    simp only [impl_ReadWide.j0]
    rw [if_neg (by simp; omega), hl]
    simp only [if_true, List.drop_zero]
    rw [fy 1 (Go.Lib.decDigits v.natAbs) (Or.inl ⟨n, rfl, rfl⟩)]
  · rw [if_neg n] at e
    obtain ⟨b, r, hd, b48, _⟩ := dec_head v.toNat
    have hh : ¬ (s.data.toList.head? = some 45) := by
      rw [← e, hd]
      intro h
      have hb : b = 45 := Option.some.inj h
      rw [hb] at b48
      exact absurd b48 (by decide)
    rw [if_neg hh]
    have ne : ¬ (s.toList = ([] : List UInt8)) := by rw [Go.Lib.toList_data, ← e, hd]; simp
    have hl := impl_ReadWide_l s s false (by omega) _ k 0 0 (by omega) (by omega) rfl (by omega)
    rw [z1, z2, c0] at hl
    simp only
    rw [if_neg ne]
    simp only [impl_ReadWide.j0]
    rw [if_neg (by simp; omega), hl]
    simp only [Bool.false_eq_true, if_false, List.drop_zero]
    have en : v.natAbs = v.toNat := by omega
    rw [← e, ← en] at fy ⊢
    rw [fy 0 (Go.Lib.decDigits v.natAbs) (Or.inr ⟨by omega, by decide, rfl⟩)]
theorem impl_ReadWide_no (s : ByteArray) (hno : ∀ v : Int, iabs v < 170141183460469231731687303715884105728 → Go.Lib.itoa v ≠ s.data.toList) (k : Nat) (hk : 120 ≤ k) : impl_ReadWide.f k s = some (false, 0, 0, false) := by
  obtain ⟨k, rfl⟩ : ∃ m, k = m + 1 := ⟨k - 1, by omega⟩
  unfold impl_ReadWide.f
  rw [CutMinus]
  simp only [Option.bind_some]
  generalize (if s.data.toList.head? = some 45 then ((⟨(s.data.toList.drop 1).toArray⟩ : ByteArray), true) else (s, false)) = p
  obtain ⟨t, neg⟩ := p
  simp only
  by_cases e : t.toList = ([] : List UInt8)
  · rw [if_pos e]
    simp only [impl_ReadWide.j0]; rfl
  · rw [if_neg e]
    simp only [impl_ReadWide.j0]
    by_cases h2 : (t.size : Int) > 40
    · rw [if_pos (decide_eq_true h2)]
    · rw [if_neg (by simpa using h2)]
      have z1 : ((0 : Nat) : Int) / 18446744073709551616 = 0 := by decide
      have z2 : ((0 : Nat) : Int) % 18446744073709551616 = 0 := by decide
      have c0 : ((0 : Nat) : Int) = 0 := rfl
      have hl := impl_ReadWide_l s t neg (by omega) _ k 0 0 (by omega) (by omega) rfl (by omega)
      rw [z1, z2, c0, finW_no _ hno] at hl
      rw [hl]

/-- What a text is as an int, if it is one's decimal. -/
def intT (l : List UInt8) : Int × Bool := match Go.Lib.atoiAll l with
  | .ok v => if -9223372036854775808 ≤ v ∧ v ≤ 9223372036854775807 then (if Go.Lib.itoa v = l then (v, true) else (0, false)) else (0, false)
  | _ => (0, false)
theorem intT_yes (v : Int) (h0 : -9223372036854775808 ≤ v) (h1 : v ≤ 9223372036854775807) : intT (Go.Lib.itoa v) = (v, true) := by
  unfold intT
  rw [atoi_itoa v h0 h1]
  have hc : -9223372036854775808 ≤ v ∧ v ≤ 9223372036854775807 := ⟨h0, h1⟩
  simp only [hc, and_self, if_true]
theorem intT_no (l : List UInt8) (h : ∀ v, -9223372036854775808 ≤ v → v ≤ 9223372036854775807 → Go.Lib.itoa v ≠ l) : intT l = (0, false) := by
  unfold intT
  cases hA : Go.Lib.atoiAll l with
  | ok v =>
    by_cases c : -9223372036854775808 ≤ v ∧ v ≤ 9223372036854775807
    · simp only [c, and_self, if_true]
      rw [if_neg (h v c.1 c.2)]
    · simp only [c, if_false]
  | «syntax» => rfl
  | range => rfl
theorem atoi_range (l : List UInt8) (v : Int) (h : Go.Lib.atoiAll l = .ok v) : -9223372036854775808 ≤ v ∧ v ≤ 9223372036854775807 := by
  unfold Go.Lib.atoiAll at h
  cases l with
  | nil => simp at h
  | cons c r =>
    simp only at h
    generalize hm : Go.Lib.parseMag _ = m at h
    cases m with
    | «syntax» => simp at h
    | range => simp at h
    | ok u =>
      simp only at h
      by_cases n : c.toNat = 45
      · simp only [n, not_true_eq_false, false_and, if_false, true_and, if_true] at h
        by_cases q : 9223372036854775808 < u
        · rw [if_pos q] at h; cases h
        · rw [if_neg q] at h
          injection h with h
          omega
      · simp only [n, not_false_eq_true, true_and, false_and, if_false] at h
        by_cases q : 9223372036854775808 ≤ u
        · rw [if_pos q] at h; cases h
        · rw [if_neg q] at h
          injection h with h
          omega
theorem itoa_len (v : Int) (h0 : -9223372036854775808 ≤ v) (h1 : v ≤ 9223372036854775807) : 1 ≤ (Go.Lib.itoa v).length ∧ (Go.Lib.itoa v).length ≤ 20 := by
  unfold Go.Lib.itoa
  by_cases c : v < 0
  · rw [if_pos c]
    have := dec_len_le 19 v.natAbs (by decide) (by omega)
    simp only [List.length_cons]; omega
  · rw [if_neg c]
    have := dec_len_le 19 v.toNat (by decide) (by omega)
    obtain ⟨b, r, e, _⟩ := dec_head v.toNat
    refine ⟨?_, by omega⟩
    rw [e]; simp
theorem intT_true (l : List UInt8) (v : Int) (h : intT l = (v, true)) : -9223372036854775808 ≤ v ∧ v ≤ 9223372036854775807 ∧ Go.Lib.itoa v = l := by
  by_cases hv : ∃ v, -9223372036854775808 ≤ v ∧ v ≤ 9223372036854775807 ∧ Go.Lib.itoa v = l
  · obtain ⟨u, a, b, rfl⟩ := hv
    rw [intT_yes u a b] at h
    injection h with h
    subst h
    exact ⟨a, b, rfl⟩
  · rw [intT_no l (fun v a b e => hv ⟨v, a, b, e⟩)] at h
    injection h with _ h
    cases h
/-- The same, from 0 to 999999999. -/
def numT (l : List UInt8) : Int × Bool := if (intT l).2 = true ∧ 0 ≤ (intT l).1 ∧ (intT l).1 ≤ 999999999 then ((intT l).1, true) else (0, false)

theorem impl_IntText_is (s : ByteArray) (hs : s.size ≤ 281474976710656) : impl_IntText.f s = some (intT s.data.toList) := by
  unfold impl_IntText.f intT
  rw [if_pos hs]
  cases hA : Go.Lib.atoiAll s.data.toList with
  | ok v =>
    have c := atoi_range _ v hA
    simp only [c, and_self, if_true]
    by_cases e : Go.Lib.itoa v = s.data.toList
    · rw [if_pos e, if_pos e]
    · rw [if_neg e, if_neg e]
  | «syntax» => rfl
  | range => rfl

theorem impl_Number_is (s : ByteArray) (hs : s.size ≤ 281474976710656) : impl_Number.f s = some (numT s.data.toList) := by
  unfold impl_Number.f numT impl_within.f
  rw [impl_IntText_is s hs]
  generalize intT s.data.toList = r
  obtain ⟨v, b⟩ := r
  cases b
  · simp
  · simp only [Option.bind_some, if_true, true_and]
    by_cases c : v ≥ 0
    · rw [if_pos c]
      simp only [Option.bind_some]
      by_cases d : v ≤ 999999999
      · rw [if_pos (decide_eq_true d), if_pos ⟨c, d⟩]
      · rw [if_neg (by simpa using d), if_neg (fun h => d h.2)]
    · rw [if_neg c]
      simp only [Option.bind_some]
      rw [if_neg (by decide), if_neg (fun h => c h.1)]

/-- A text cut at each byte c; what stands ahead of it belongs to the first piece. -/
def splitP (c : UInt8) (pre : List UInt8) : List UInt8 → List (List UInt8)
  | [] => [pre]
  | b :: l => if b = c then pre :: splitP c [] l else splitP c (pre ++ [b]) l
def ofL (l : List UInt8) : ByteArray := ⟨l.toArray⟩
theorem ofL_data (s : ByteArray) : ofL s.data.toList = s := by
  apply ByteArray.ext; simp [ofL]
theorem index_cons1 (b c : UInt8) (l : List UInt8) : Go.Lib.index (b :: l) [c] = if b = c then 0 else if Go.Lib.index l [c] = -1 then -1 else Go.Lib.index l [c] + 1 := by
  rw [Go.Lib.index]
  by_cases h : b = c
  · subst h; simp [List.isPrefixOf]
  · rw [if_neg (by simp [List.isPrefixOf]; exact fun e => h e.symm), if_neg h]
    by_cases m : Go.Lib.index l [c] = -1
    · rw [if_pos m, if_pos (beq_iff_eq.2 m)]
    · rw [if_neg m, if_neg (fun e => m (beq_iff_eq.1 e))]
theorem splitP_miss (c : UInt8) : ∀ (l pre : List UInt8), Go.Lib.index l [c] = -1 → splitP c pre l = [pre ++ l]
  | [], pre, _ => by simp [splitP]
  | b :: l, pre, h => by
    rw [index_cons1] at h
    by_cases e : b = c
    · rw [if_pos e] at h; cases h
    · rw [if_neg e] at h
      have m : Go.Lib.index l [c] = -1 := by
        by_cases m : Go.Lib.index l [c] = -1
        · exact m
        · rw [if_neg m] at h
          have := Go.Lib.index_ge l [c]
          omega
      rw [splitP, if_neg e, splitP_miss c l _ m]
      simp
theorem splitP_hit (c : UInt8) : ∀ (l pre : List UInt8) (i : Nat), Go.Lib.index l [c] = i → splitP c pre l = (pre ++ l.take i) :: splitP c [] (l.drop (i + 1))
  | [], pre, i, h => by simp [Go.Lib.index] at h
  | b :: l, pre, i, h => by
    rw [index_cons1] at h
    by_cases e : b = c
    · rw [if_pos e] at h
      have : i = 0 := by omega
      subst this
      rw [splitP, if_pos e]
      simp
    · rw [if_neg e] at h
      by_cases m : Go.Lib.index l [c] = -1
      · rw [if_pos m] at h; omega
      · rw [if_neg m] at h
        obtain ⟨j, rfl⟩ : ∃ j, i = j + 1 := ⟨i - 1, by have := Go.Lib.index_ge l [c]; omega⟩
        rw [splitP, if_neg e, splitP_hit c l _ j (by omega)]
        simp
theorem splitB_is (c : UInt8) : ∀ (k : Nat) (s : ByteArray), Go.Lib.countB s ⟨#[c]⟩ = k → Go.Lib.splitB ⟨#[c]⟩ 0 k s = (splitP c [] s.data.toList).map ofL
  | 0, s, hk => by
    rcases Go.Lib.indexB_cases s ⟨#[c]⟩ with hix | ⟨i, hix, _⟩
    · rw [Go.Lib.splitB_zero, splitP_miss c _ _ hix]; simp [ofL_data]
    · have := Go.Lib.countB_hit s ⟨#[c]⟩ i (Nat.le_refl 1) hix; omega
  | k + 1, s, hk => by
    rcases Go.Lib.indexB_cases s ⟨#[c]⟩ with hix | ⟨i, hix, _⟩
    · rw [Go.Lib.countB_miss s _ hix] at hk; omega
    · have hc := Go.Lib.countB_hit s ⟨#[c]⟩ i (Nat.le_refl 1) hix
      have e1 : (⟨#[c]⟩ : ByteArray).size = 1 := rfl
      rw [e1] at hc
      rw [Go.Lib.splitB_hit _ 0 k s i hix, splitP_hit c _ [] i hix, List.map_cons, e1, splitB_is c k _ (by omega), Go.Lib.extract_to_end]
      congr 1
      apply ByteArray.ext
      apply Array.ext'
      rw [Nat.add_zero, Go.Lib.extract_from_zero]
      simp [ofL]
theorem splitP_len (c : UInt8) : ∀ (l pre : List UInt8), 0 < (splitP c pre l).length ∧ (splitP c pre l).length ≤ l.length + 1
  | [], pre => by simp [splitP]
  | b :: l, pre => by
    have h1 := splitP_len c l []
    have h2 := splitP_len c l (pre ++ [b])
    rw [splitP]
    by_cases e : b = c
    · rw [if_pos e]; simp only [List.length_cons]; omega
    · rw [if_neg e]; simp only [List.length_cons]; omega

theorem ext_step (s : ByteArray) (f i : Nat) (hf : f ≤ i) (hi : i < s.size) : (s.data.toList.drop f).take (i + 1 - f) = (s.data.toList.drop f).take (i - f) ++ [s.data.toList[i]'(by simpa using hi)] := by
  have hl : i - f < (s.data.toList.drop f).length := by rw [List.length_drop, Array.length_toList]; have : s.data.size = s.size := rfl; omega
  rw [show i + 1 - f = (i - f) + 1 from by omega, List.take_add_one, List.getElem?_eq_getElem hl]
  simp only [List.getElem_drop, Option.toList_some]
  congr 3
  simp only [show f + (i - f) = i from by omega]
theorem ext_ofL (s : ByteArray) (a b : Nat) (hb : b ≤ s.size) : s.extract a b = ofL ((s.data.toList.drop a).take (b - a)) := by
  apply ByteArray.ext
  apply Array.ext'
  simp [ofL]
theorem spec_Parts_l (s : ByteArray) (c : UInt8) (hs : s.size ≤ 1048576) (d : Nat) : ∀ (k : Nat) (acc : List ByteArray) (f i : Nat), f ≤ i → i ≤ s.size → s.size - i = d → d + 1 < k → acc.length ≤ i →
    spec_Parts.l0 k s (c.toNat : Int) acc (f : Int) (i : Int) = some (acc ++ (splitP c ((s.data.toList.drop f).take (i - f)) (s.data.toList.drop i)).map ofL) := by
  induction d with
  | zero =>
    intro k acc f i hf hi hd hk ha
    obtain ⟨k, rfl⟩ : ∃ m, k = m + 1 := ⟨k - 1, by omega⟩
    have e : i = s.size := by omega
    subst e
    have dr : s.data.toList.drop s.size = [] := List.drop_eq_nil_of_le (by rw [Array.length_toList]; exact Nat.le_refl _)
    rw [dr, splitP]
    simp only [spec_Parts.l0]
    obtain ⟨k, rfl⟩ : ∃ m, k = m + 1 := ⟨k - 1, by omega⟩
    rw [if_pos (by omega), if_pos trivial, if_pos (by omega), if_pos (by omega), if_pos (by omega), w64_id (by omega) (by omega)]
    simp only [spec_Parts.l0]
    rw [if_neg (by omega)]
    have e1 : ((f : Int)).toNat = f := by omega
    have e2 : ((s.size : Int)).toNat = s.size := by omega
    rw [e1, e2, ext_ofL s f s.size (Nat.le_refl _)]
    rfl
  | succ d ih =>
    intro k acc f i hf hi hd hk ha
    obtain ⟨k, rfl⟩ : ∃ m, k = m + 1 := ⟨k - 1, by omega⟩
    have hlt : i < s.size := by omega
    have hl : i < s.data.toList.length := by rw [Array.length_toList]; exact hlt
    simp only [spec_Parts.l0]
    rw [if_pos (by omega), if_neg (by omega), if_pos (by omega), if_pos (by omega)]
    rw [w64_id (n := (i : Int) + 1) (by omega) (by omega), show (i : Int) + 1 = ((i + 1 : Nat) : Int) from rfl]
    have hdr : s.data.toList.drop i = s.data.toList[i] :: s.data.toList.drop (i + 1) := List.drop_eq_getElem_cons hl
    have hb : bt s (i : Int) = ((s.data.toList[i]).toNat : Int) := bt_nat s i hl
    rw [hdr, splitP, hb]
    by_cases e : s.data.toList[i] = c
    · rw [if_pos e, if_pos (by rw [e]), if_pos (by omega), if_pos (by omega), if_pos (by omega)]
      have e1 : ((f : Int)).toNat = f := by omega
      have e2 : ((i : Int)).toNat = i := by omega
      rw [e1, e2, ext_ofL s f i (by omega), ih k _ (i + 1) (i + 1) (Nat.le_refl _) (by omega) (by omega) (by omega) (by simp; omega)]
      simp
    · rw [if_neg e, if_neg (fun h => e (UInt8.toNat_inj.1 (by omega))), ih k acc f (i + 1) (by omega) (by omega) (by omega) (by omega) (by omega), ext_step s f i hf hlt]
theorem spec_Parts_is (s : ByteArray) (c : UInt8) (hs : s.size ≤ 1048576) (k : Nat) (hk : s.size + 1 < k) : spec_Parts.f k s (c.toNat : Int) = some ((splitP c [] s.data.toList).map ofL) := by
  unfold spec_Parts.f
  have h := spec_Parts_l s c hs s.size k [] 0 0 (by omega) (by omega) (by omega) hk (by simp)
  simpa using h

theorem wide_val (n : Bool) (h l : Int) (h0 : 0 ≤ h) (l0 : 0 ≤ l) (l1 : l < 18446744073709551616) (w : wok n h l = true) : wideL n (h * 18446744073709551616 + l).toNat = Go.Lib.itoa (wval n h l) := by
  have e := wide_itoa (wval n h l) (iabs_wok h0 l0 l1 w)
  rw [wnorm_wval h0 l0 l1 w] at e
  exact e
theorem itoa_ne (v : Int) : Go.Lib.itoa v ≠ [] := by
  unfold Go.Lib.itoa
  by_cases c : v < 0
  · rw [if_pos c]; simp
  · rw [if_neg c]
    obtain ⟨b, r, e, _⟩ := dec_head v.toNat
    rw [e]; simp

theorem splitP_none (c : UInt8) : ∀ (l pre : List UInt8), (∀ b ∈ l, b ≠ c) → splitP c pre l = [pre ++ l]
  | [], pre, _ => by simp [splitP]
  | b :: l, pre, h => by
    rw [splitP, if_neg (h b (by simp)), splitP_none c l _ (fun x hx => h x (by simp [hx]))]
    simp
theorem splitP_at (c : UInt8) : ∀ (u pre v : List UInt8), (∀ b ∈ u, b ≠ c) → splitP c pre (u ++ c :: v) = (pre ++ u) :: splitP c [] v
  | [], pre, v, _ => by simp [splitP]
  | b :: l, pre, v, h => by
    rw [List.cons_append, splitP, if_neg (h b (by simp)), splitP_at c l _ v (fun x hx => h x (by simp [hx]))]
    simp
theorem dec_mem (u : Nat) : ∀ b ∈ Go.Lib.decDigits u, 48 ≤ b.toNat ∧ b.toNat ≤ 57 := by
  induction u using Nat.strongRecOn with
  | ind u ih =>
    intro b hb
    rw [Go.Lib.decDigits] at hb
    by_cases h : u < 10
    · rw [dif_pos h] at hb
      rw [List.mem_singleton] at hb
      subst hb
      rw [dig_toNat u h]; omega
    · rw [dif_neg h] at hb
      rcases List.mem_append.1 hb with q | q
      · exact ih (u / 10) (by omega) b q
      · rw [List.mem_singleton] at q
        subst q
        rw [dig_toNat (u % 10) (by omega)]; omega
theorem itoa_mem (v : Int) : ∀ b ∈ Go.Lib.itoa v, b ≠ 47 := by
  intro b hb e
  subst e
  unfold Go.Lib.itoa at hb
  by_cases c : v < 0
  · rw [if_pos c] at hb
    rcases List.mem_cons.1 hb with q | q
    · exact absurd q (by decide)
    · have := dec_mem _ _ q
      exact absurd this (by decide)
  · rw [if_neg c] at hb
    have := dec_mem _ _ hb
    exact absurd this (by decide)
theorem fracText_tail (n : Bool) (p q d : Int) (p0 : 0 ≤ p) (q0 : 0 ≤ q) (q1 : q < 18446744073709551616) (k : Nat) (hk : 130 ≤ k) :
    laws_FnFracText.j0 (k + 1) ⟨(fracL n p q d).toArray⟩ (((⟨(fracL n p q d).toArray⟩ : ByteArray).toList != ([] : List UInt8)) != (wok n p q && iin d 1 1000000)) n p q d = some true := by
  have tl : ∀ l : List UInt8, (⟨l.toArray⟩ : ByteArray).toList = l := fun l => by rw [Go.Lib.toList_data]
  simp only [laws_FnFracText.j0, tl]
  by_cases w : (wok n p q && iin d 1 1000000) = true
  · obtain ⟨a, b, d0, d1⟩ := fok_bound p0 q0 q1 w
    have eF : fracL n p q d = Go.Lib.itoa (wval n p q) ++ (47 :: Go.Lib.itoa d) := by
      unfold fracL; rw [if_pos w, wide_val n p q p0 q0 q1 a]
    have ne : fracL n p q d ≠ [] := by rw [eF]; simp
    have c1 : ((fracL n p q d != []) != (wok n p q && iin d 1 1000000)) = false := by rw [w]; simpa using ne
    have ab := iabs_wok p0 q0 q1 a
    have l1 := (itoa_len40 _ ab).2
    have l2 := itoa20 d (by omega) (by omega)
    rw [c1, if_neg (by decide), if_neg ne]
    have sz : (⟨(fracL n p q d).toArray⟩ : ByteArray).size ≤ 61 := by
      rw [mkz, eF, List.length_append, List.length_cons]; omega
    have sp := spec_Parts_is ⟨(fracL n p q d).toArray⟩ 47 (by omega) k (by omega)
    have e47 : (((47 : UInt8).toNat : Nat) : Int) = 47 := rfl
    rw [e47] at sp
    rw [sp]
    have two : splitP 47 [] (⟨(fracL n p q d).toArray⟩ : ByteArray).data.toList = [Go.Lib.itoa (wval n p q), Go.Lib.itoa d] := by
      show splitP 47 [] (fracL n p q d) = _
      rw [eF, splitP_at 47 _ [] _ (itoa_mem _), splitP_none 47 _ [] (itoa_mem _)]
      simp
    rw [two]
    simp only [Option.bind_some, List.map_cons, List.map_nil, List.length_cons, List.length_nil]
    rw [if_pos (by decide)]
    have r0 : rdOf ByteArray.empty [ofL (Go.Lib.itoa (wval n p q)), ofL (Go.Lib.itoa d)] 0 = ofL (Go.Lib.itoa (wval n p q)) := rfl
    have r1 : rdOf ByteArray.empty [ofL (Go.Lib.itoa (wval n p q)), ofL (Go.Lib.itoa d)] 1 = ofL (Go.Lib.itoa d) := rfl
    rw [r0, r1, impl_ReadWide_yes (ofL (Go.Lib.itoa (wval n p q))) (wval n p q) ab rfl k (by omega), wnorm_wval p0 q0 q1 a]
    simp only [Option.bind_some]
    rw [if_pos (by decide), impl_Number_is (ofL (Go.Lib.itoa d)) (by unfold ofL; rw [mkz]; omega)]
    simp only [Option.bind_some]
    have num : numT (ofL (Go.Lib.itoa d)).data.toList = (d, true) := by
      show numT (Go.Lib.itoa d) = (d, true)
      unfold numT
      rw [intT_yes d (by omega) (by omega)]
      rw [if_pos ⟨rfl, by simp only; omega, by simp only; omega⟩]
    rw [num]
    simp
  · have eF : fracL n p q d = [] := by unfold fracL; rw [if_neg w]
    have w' : (wok n p q && iin d 1 1000000) = false := by simpa using w
    rw [eF, w']
    simp
theorem FnFracText : laws_FnFracText.Pure := by
  intro b _ hb _
  refine ⟨b.length + 140, ?_⟩
  have hb' : b.length ≤ 140737488351232 := by omega
  unfold laws_FnFracText.f spec_DrawFracText.f
  rw [laws_big_eq]; simp only [Option.bind_some]
  by_cases hbig : decide ((b.length : Int) > 1048576) = true
  · rw [if_pos hbig]
  · rw [if_neg hbig]
    obtain ⟨h, e⟩ := l1New_some b hb' (b.length + 140) (by omega)
    rw [e]; simp only [Option.bind_some]
    obtain ⟨n, p, q, d, i1, h1, e1, f, _⟩ := l5Frac_some b hb' 0 h (by omega) (b.length + 140) (by omega)
    rw [e1]; simp only [Option.bind_some]
    obtain ⟨p0, p1, q0, q1, d0, d1⟩ := f
    have K : 139 ≤ b.length + 139 := by omega
    have e139 : b.length + 140 = (b.length + 139) + 1 := rfl
    rw [e139] at *
    generalize b.length + 139 = k at *
    rw [impl_FracText_is n p q d p0 q0 q1 (k + 1) (by omega), spec_FracText_is n p q d p0 q0 q1 (k + 1) (by omega), impl_FracOk_eq]
    simp only [Option.bind_some, if_true]
    exact fracText_tail n p q d p0 q0 q1 k (by omega)

end Go.Proofs.YtkpgpifkbdpnkaaDoor.Pure
