/- What is left over of a division rounded down has the divisor's sign and is smaller than it. Conditions: each number is one of its kind, as the row says. -/
import Derived.Test.YtodbmgnhcglcnaaPFnFloorx
import Derived.Test.YtodbmgnhcglcnaaBase
set_option linter.unusedSimpArgs false
set_option linter.unusedVariables false
namespace Go.Proofs.Ytodbmgnhcglcnaa.Pure
open Go.RowKit Go.Proofs.Ytodbmgnhcglcnaa.Base Go.Proofs.Ytodbmgnhcglcnaa.PFnFloor Go.Proofs.YtodbmgnhcglcnaaW.PrintWords Go.Proofs.YtodbmgnhcglcnaaW.PrintLast Go.Proofs.YtodbmgnhcglcnaaW.PrintMore

theorem laws_big_eq (b : List Int) : laws_big.f b = some (decide ((b.length : Int) > 1048576)) := by
  unfold laws_big.f; rfl

theorem l1New_loop (b : List Int) (hb : b.length ≤ 140737488351232) (d : Nat) : ∀ (k : Nat) (x3 x4 : Int), 0 ≤ x4 → x4 ≤ b.length → (b.length : Int) - x4 = d → d < k → ∃ h, spec_l1New.l0 k b x3 x4 = some (b, 0, h) := by
  induction d with
  | zero =>
    intro k x3 x4 h0 h1 hd hk
    obtain ⟨k, rfl⟩ : ∃ m, k = m + 1 := ⟨k - 1, by omega⟩
    exact ⟨x3, by simp only [spec_l1New.l0]; rw [if_neg (by omega)]⟩
  | succ d ih =>
    intro k x3 x4 h0 h1 hd hk
    obtain ⟨k, rfl⟩ : ∃ m, k = m + 1 := ⟨k - 1, by omega⟩
    simp only [spec_l1New.l0]
    rw [if_pos (by omega)]
    by_cases c : x4 < 4000
    · rw [if_pos c, if_pos h0]
      have e : wrap64 (x4 + 1) = x4 + 1 := w64_id (by omega) (by omega)
      rw [e]
      exact ih k _ (x4 + 1) (by omega) (by omega) (by omega) (by omega)
    · rw [if_neg c]
      exact ⟨x3, rfl⟩
theorem l1New_some (b : List Int) (hb : b.length ≤ 140737488351232) (k : Nat) (hk : b.length < k) : ∃ h, spec_l1New.f k b = some (b, 0, h) := by
  unfold spec_l1New.f
  exact l1New_loop b hb b.length k _ 0 (by omega) (by omega) (by omega) hk

theorem l1Byte_some (b : List Int) (hb : b.length ≤ 140737488351232) (i h : Int) (hi : 0 ≤ i) : ∃ x i' h', spec_l1Byte.f b i h = some (x, i', h') ∧ 0 ≤ x ∧ x ≤ 255 ∧ 0 ≤ i' := by
  unfold spec_l1Byte.f
  by_cases c : i < (b.length : Int)
  · rw [if_pos c, if_pos hi]
    refine ⟨_, _, _, rfl, (and255 _).1, (and255 _).2, ?_⟩
    rw [w64_id (by omega) (by omega)]; omega
  · rw [if_neg c]
    exact ⟨_, _, _, rfl, (and255 _).1, (and255 _).2, hi⟩

theorem l1Below_some (b : List Int) (hb : b.length ≤ 140737488351232) (i h n : Int) (hi : 0 ≤ i) (hn : n ≤ 4294967296) : ∃ x i' h', spec_l1Below.f b i h n = some (x, i', h') ∧ 0 ≤ x ∧ (0 < n → x < n) ∧ 0 ≤ i' := by
  unfold spec_l1Below.f
  by_cases c : n ≤ 0
  · rw [if_pos c]
    exact ⟨_, _, _, rfl, by omega, fun _ => by omega, hi⟩
  · rw [if_neg c]
    by_cases d : n ≤ 256
    · rw [if_pos d]
      obtain ⟨x, i', h', e, x0, x1, hi'⟩ := l1Byte_some b hb i h hi
      rw [e]
      simp only [Option.bind_some]
      rw [if_neg (by omega)]
      have := tmod_range (n := n) x0 (by omega)
      exact ⟨_, _, _, rfl, this.1, fun _ => this.2, hi'⟩
    · rw [if_neg d]
      obtain ⟨x, i1, h1, e1, x0, x1, hi1⟩ := l1Byte_some b hb i h hi
      obtain ⟨y, i2, h2, e2, y0, y1, hi2⟩ := l1Byte_some b hb i1 h1 hi1
      obtain ⟨z, i3, h3, e3, z0, z1, hi3⟩ := l1Byte_some b hb i2 h2 hi2
      obtain ⟨u, i4, h4, e4, u0, u1, hi4⟩ := l1Byte_some b hb i3 h3 hi3
      rw [e1]; simp only [Option.bind_some]
      rw [e2]; simp only [Option.bind_some]
      rw [e3]; simp only [Option.bind_some]
      rw [e4]; simp only [Option.bind_some]
      rw [if_neg (by omega)]
      have e : wrap64 (wrap64 (wrap64 (wrap64 (x * 16777216) + wrap64 (y * 65536)) + wrap64 (z * 256)) + u) = x * 16777216 + y * 65536 + z * 256 + u := by
        unfold wrap64; omega
      rw [e]
      have := tmod_range (x := x * 16777216 + y * 65536 + z * 256 + u) (n := n) (by omega) (by omega)
      exact ⟨_, _, _, rfl, this.1, fun _ => this.2, hi4⟩

theorem l1PickInt_some (b : List Int) (hb : b.length ≤ 140737488351232) (i h : Int) (l : List Int) (hi : 0 ≤ i) (h0 : 0 < l.length) (hl : l.length ≤ 4294967296) : ∃ x i' h', spec_l1PickInt.f b i h l = some (x, i', h') ∧ x ∈ l ∧ 0 ≤ i' := by
  unfold spec_l1PickInt.f
  obtain ⟨x, i', h', e, x0, x1, hi'⟩ := l1Below_some b hb i h (l.length : Int) hi (by omega)
  have x2 := x1 (by omega)
  rw [e]
  simp only [Option.bind_some]
  rw [if_pos x0, if_pos x2]
  refine ⟨_, _, _, rfl, ?_, hi'⟩
  have : x.toNat < l.length := by omega
  unfold rd
  rw [List.getD_eq_getElem?_getD, List.getElem?_eq_getElem this]
  exact List.getElem_mem this

theorem l1Whole_loop (b : List Int) (hb : b.length ≤ 140737488351232) (d : Nat) : ∀ (k : Nat) (x3 x4 i h : Int), 0 ≤ i → x4 ≤ 8 → -8 ≤ x4 → (8 : Int) - x4 = d → d < k → -9223372036854775808 ≤ x3 → x3 ≤ 9223372036854775807 →
    ∃ x i' h', spec_l1Whole.l0 k x3 x4 b i h = some (x, i', h') ∧ -9223372036854775808 ≤ x ∧ x ≤ 9223372036854775807 ∧ 0 ≤ i' := by
  induction d with
  | zero =>
    intro k x3 x4 i h hi h1 h2 hd hk r0 r1
    obtain ⟨k, rfl⟩ : ∃ m, k = m + 1 := ⟨k - 1, by omega⟩
    exact ⟨x3, i, h, by simp only [spec_l1Whole.l0]; rw [if_neg (by omega)], r0, r1, hi⟩
  | succ d ih =>
    intro k x3 x4 i h hi h1 h2 hd hk r0 r1
    obtain ⟨k, rfl⟩ : ∃ m, k = m + 1 := ⟨k - 1, by omega⟩
    simp only [spec_l1Whole.l0]
    rw [if_pos (by omega)]
    obtain ⟨x, i', h', e, x0, x1, hi'⟩ := l1Byte_some b hb i h hi
    rw [e]
    simp only [Option.bind_some]
    rw [w64_id (n := x4 + 1) (by omega) (by omega)]
    have r := w64_range (wrap64 (x3 * 256) + x)
    exact ih k _ (x4 + 1) i' h' hi' (by omega) (by omega) (by omega) (by omega) r.1 r.2
theorem l1Whole_some (b : List Int) (hb : b.length ≤ 140737488351232) (i h : Int) (hi : 0 ≤ i) (k : Nat) (hk : 9 ≤ k) : ∃ x i' h', spec_l1Whole.f k b i h = some (x, i', h') ∧ -9223372036854775808 ≤ x ∧ x ≤ 9223372036854775807 ∧ 0 ≤ i' := by
  unfold spec_l1Whole.f
  obtain ⟨x, i1, h1, e, x0, x1, hi1⟩ := l1Below_some b hb i h 4 hi (by omega)
  rw [e]
  simp only [Option.bind_some]
  by_cases c0 : x = 0
  · rw [if_pos c0]
    obtain ⟨y, i2, h2, e2, hy, hi2⟩ := l1PickInt_some b hb i1 h1 [0, 1, (-1), 9, 10, 999, 1000, 2147483647, (-2147483648), 3037000499, 3037000500, 9223372036854775807, (-9223372036854775807), (-9223372036854775808)] hi1 (by simp) (by simp)
    rw [e2]
    simp only [Option.bind_some]
    refine ⟨_, _, _, rfl, ?_, ?_, hi2⟩ <;> (simp only [List.mem_cons, List.not_mem_nil, or_false] at hy; omega)
  · rw [if_neg c0]
    by_cases c1 : x = 1
    · rw [if_pos c1]
      exact l1Whole_loop b hb 8 k 0 0 i1 h1 hi1 (by omega) (by omega) (by omega) (by omega) (by omega) (by omega)
    · rw [if_neg c1]
      by_cases c2 : x = 2
      · rw [if_pos c2]
        obtain ⟨y, i2, h2, e2, _, _, hi2⟩ := l1Below_some b hb i1 h1 1000000 hi1 (by omega)
        rw [e2]
        exact ⟨_, _, _, rfl, (w64_range _).1, (w64_range _).2, hi2⟩
      · rw [if_neg c2]
        obtain ⟨y, i2, h2, e2, _, _, hi2⟩ := l1Below_some b hb i1 h1 41 hi1 (by omega)
        rw [e2]
        exact ⟨_, _, _, rfl, (w64_range _).1, (w64_range _).2, hi2⟩

theorem l2Two_some (b : List Int) (hb : b.length ≤ 140737488351232) (k : Nat) (hk : b.length < k) (hk9 : 9 ≤ k) : ∃ x y, spec_l2Two.f k b = some (x, y) ∧ -9223372036854775808 ≤ x ∧ x ≤ 9223372036854775807 ∧ -9223372036854775808 ≤ y ∧ y ≤ 9223372036854775807 := by
  unfold spec_l2Two.f
  obtain ⟨h, e⟩ := l1New_some b hb k hk
  rw [e]; simp only [Option.bind_some]
  obtain ⟨x, i1, h1, e1, x0, x1, hi1⟩ := l1Whole_some b hb 0 h (by omega) k hk9
  rw [e1]; simp only [Option.bind_some]
  obtain ⟨y, i2, h2, e2, _, _, hi2⟩ := l1Below_some b hb i1 h1 5 hi1 (by omega)
  rw [e2]; simp only [Option.bind_some]
  by_cases c0 : y = 0
  · rw [if_pos c0]; exact ⟨_, _, rfl, x0, x1, (w64_range _).1, (w64_range _).2⟩
  · rw [if_neg c0]
    by_cases c1 : y = 1
    · rw [if_pos c1]; exact ⟨_, _, rfl, x0, x1, (w64_range _).1, (w64_range _).2⟩
    · rw [if_neg c1]
      obtain ⟨z, i3, h3, e3, z0, z1, hi3⟩ := l1Whole_some b hb i2 h2 hi2 k hk9
      rw [e3]
      exact ⟨_, _, rfl, x0, x1, z0, z1⟩

theorem FloorDiv_same (a b : Int) : spec_FloorDiv.f 1 a b = impl_FloorDiv.f 1 a b := by
  unfold spec_FloorDiv.f impl_FloorDiv.f
  by_cases h0 : b = 0
  · rw [if_pos h0, if_pos h0]; rfl
  · rw [if_neg h0, if_neg h0]
    by_cases h1 : b = -1
    · by_cases h2 : a = -9223372036854775808
      · rw [if_pos h1, if_pos h2, h1, h2]; rfl
      · rw [if_pos h1, if_neg h2]
        have e : (a == (-9223372036854775808)) = false := beq_eq_false_iff_ne.mpr h2
        rw [e]; rfl
    · rw [if_neg h1]
      by_cases h2 : a = -9223372036854775808
      · rw [if_pos h2]
        have e : (b == (-1)) = false := beq_eq_false_iff_ne.mpr h1
        rw [e]; rfl
      · rw [if_neg h2]; rfl
theorem FloorDiv_j0 (a b : Int) (t : Bool) (h0 : b ≠ 0 ∨ t = true) : ∃ r, impl_FloorDiv.j0 1 a b t = some r := by
  unfold impl_FloorDiv.j0
  simp only
  by_cases h : t = true
  · exact ⟨_, by rw [if_pos h]⟩
  · rw [if_neg h, if_neg (by simpa [h] using h0)]
    by_cases h1 : Int.tmod a b = 0
    · exact ⟨_, by rw [if_pos h1]⟩
    · rw [if_neg h1]
      by_cases h2 : (decide (a < 0) != decide (b < 0)) = true
      · exact ⟨_, by rw [if_pos h2]⟩
      · exact ⟨_, by rw [if_neg h2]⟩
theorem FloorDiv_some (a b : Int) : ∃ r, impl_FloorDiv.f 1 a b = some r := by
  unfold impl_FloorDiv.f
  by_cases h0 : b = 0
  · rw [if_pos h0]; exact FloorDiv_j0 a b true (.inr rfl)
  · rw [if_neg h0]
    by_cases h1 : a = -9223372036854775808
    · rw [if_pos h1]; exact FloorDiv_j0 a b _ (.inl h0)
    · rw [if_neg h1]; exact FloorDiv_j0 a b _ (.inl h0)

theorem spec_l3Abs_eq (a : Int) (h0 : -9223372036854775808 ≤ a) (h1 : a ≤ 9223372036854775807) : spec_l3Abs.f a = some (iabs a) := by
  unfold spec_l3Abs.f iabs
  by_cases h : a < 0
  · rw [if_pos h, if_pos h]; simp only [wu64]; unfold wrap64; congr 1; omega
  · rw [if_neg h, if_neg h]; simp only [wu64]; congr 1; omega

theorem spec_WideOf_eq (a : Int) (h0 : -9223372036854775808 ≤ a) (h1 : a ≤ 9223372036854775807) : spec_WideOf.f a = some (wnorm a) := by
  have hb := iabs_u64 h0 h1
  unfold spec_WideOf.f
  simp only [spec_l3Abs_eq a h0 h1, Option.bind_some, wnorm]
  have e1 : iabs a / 18446744073709551616 = 0 := by omega
  have e2 : iabs a % 18446744073709551616 = iabs a := by omega
  rw [e1, e2]

theorem spec_WideOk_eq (n : Bool) (h l : Int) : spec_WideOk.f n h l = some (wok n h l) := by
  unfold spec_WideOk.f wok
  by_cases c1 : h < 9223372036854775808
  · rw [if_pos c1]
    cases n
    · simp [c1]
    · by_cases c2 : h > 0
      · simp [c1, c2]
      · simp [c1, c2]
  · rw [if_neg c1]; simp [c1]

theorem spec_l3Product_eq (a b : Int) (ha0 : 0 ≤ a) (ha : a < 18446744073709551616) (hb0 : 0 ≤ b) (hb : b < 18446744073709551616) : spec_l3Product.f a b = some (a * b / 18446744073709551616, a * b % 18446744073709551616) := by
  unfold spec_l3Product.f
  rw [and_mask32 a ha0 ha, and_mask32 b hb0 hb]
  rw [and_mask32 (IntKind.u64.wrap (_ + _)) (by rw [wu64]; omega) (by rw [wu64]; omega), and_mask32 (IntKind.u64.wrap (a % 4294967296 * (b % 4294967296))) (by rw [wu64]; omega) (by rw [wu64]; omega)]
  have h := prod_split a b
  have ⟨l1, u1⟩ := mul_bound (x := a / 4294967296) (y := b / 4294967296) (by omega) (by omega) (by omega) (by omega)
  have ⟨l2, u2⟩ := mul_bound (x := a / 4294967296) (y := b % 4294967296) (by omega) (by omega) (by omega) (by omega)
  have ⟨l3, u3⟩ := mul_bound (x := a % 4294967296) (y := b / 4294967296) (by omega) (by omega) (by omega) (by omega)
  have ⟨l4, u4⟩ := mul_bound (x := a % 4294967296) (y := b % 4294967296) (by omega) (by omega) (by omega) (by omega)
  have lt := (mul_u64 a b ha0 ha hb0 hb).2
  simp only [wu64]
  generalize (a / 4294967296) * (b / 4294967296) = p at *
  generalize (a / 4294967296) * (b % 4294967296) = q at *
  generalize (a % 4294967296) * (b / 4294967296) = r at *
  generalize (a % 4294967296) * (b % 4294967296) = s at *
  generalize a * b = t at *
  simp only [Option.some.injEq, Prod.mk.injEq]
  constructor <;> omega

theorem spec_l3Zero_eq (n : Bool) (h l : Int) : spec_l3Zero.f n h l = some ((h == 0) && (l == 0)) := by
  unfold spec_l3Zero.f
  by_cases c : h = 0 <;> simp [c]

theorem spec_ScaleWide_eq (n : Bool) (h l k : Int) (h0 : 0 ≤ h) (l0 : 0 ≤ l) (l1 : l < 18446744073709551616) (k0 : -9223372036854775808 ≤ k) (k1 : k ≤ 9223372036854775807) : spec_ScaleWide.f n h l k = some (scaleAns n h l k) := by
  unfold spec_ScaleWide.f scaleAns
  simp only [spec_WideOk_eq, Option.bind_some]
  by_cases w : wok n h l = true
  · rw [if_pos w, if_pos w]
    have hh := wok_high w
    have ⟨u0, u1⟩ := iabs_u64 k0 k1
    have e1 := iabs_wval n h0 l0
    have e2 := iabs_mul (wval n h l) k
    have e3 := scale_parts (u := iabs k) (iabs (wval n h l)) e1
    have sg := scale_sign (k := k) h0 l0 w
    rw [e2] at e3
    have ⟨p0, p1⟩ := mul_u64 h (iabs k) h0 (by omega) u0 u1
    have ⟨q0, q1⟩ := mul_u64 l (iabs k) l0 l1 u0 u1
    simp only [spec_l3Abs_eq k k0 k1, spec_l3Product_eq _ _ h0 (show h < 18446744073709551616 by omega) u0 u1, spec_l3Product_eq _ _ l0 l1 u0 u1, Option.bind_some, spec_l3Zero_eq, wu64]
    generalize wval n h l * k = v at *
    generalize h * iabs k = p at *
    generalize l * iabs k = q at *
    generalize hs : (n != decide (k < 0)) = s at *
    by_cases c1 : p / 18446744073709551616 > 0
    · rw [wans_over (by omega), if_pos c1, if_pos c1]
      simp
    · by_cases c2 : (p % 18446744073709551616 + q / 18446744073709551616) % 18446744073709551616 < p % 18446744073709551616
      · rw [wans_over (by omega), if_neg c1, if_neg c1, if_pos c2, if_pos c2]
        simp
      · have e4 : iabs v = ((p % 18446744073709551616 + q / 18446744073709551616) % 18446744073709551616) * 18446744073709551616 + q % 18446744073709551616 := by omega
        rw [wans_of e4 (by omega) (by omega) (by omega)]
        have e5 := sign_parts e4 (by omega) (by omega) sg
        have m0 : 0 ≤ (p % 18446744073709551616 + q / 18446744073709551616) % 18446744073709551616 := by omega
        have m1 : 0 ≤ q % 18446744073709551616 := by omega
        rw [← e5]
        rw [if_neg c1, if_neg c2, if_neg c1, if_neg c2]
        generalize (p % 18446744073709551616 + q / 18446744073709551616) % 18446744073709551616 = a at *
        generalize q % 18446744073709551616 = b at *
        by_cases z : (a == 0 && b == 0) = true
        · rw [if_pos z]
          have : a = 0 ∧ b = 0 := by simpa using z
          obtain ⟨rfl, rfl⟩ := this
          simp [wok, wnz]
        · rw [if_neg z]
          have nz : a > 0 ∨ b > 0 := by
            have : ¬ (a = 0 ∧ b = 0) := by simpa using z
            omega
          have e7 : wnz s a b = s := by
            unfold wnz
            rcases nz with d | d <;> simp [d]
          have e6 := wok_wnz s a b
          rw [e7] at e6
          rw [e6, e7]
          by_cases c3 : a < 9223372036854775808
          · rw [if_pos c3]; simp [c3]
          · rw [if_neg c3]; simp [c3]
  · rw [if_neg w, if_neg w]

theorem impl_WideOk_eq (n : Bool) (h l : Int) : impl_WideOk.f n h l = some (wok n h l) := by
  unfold impl_WideOk.f wok
  by_cases c1 : h < 9223372036854775808
  · rw [if_pos c1]
    cases n
    · simp [c1]
    · by_cases c2 : h > 0
      · simp [c1, c2]
      · simp [c1, c2]
  · rw [if_neg c1]; simp [c1]

theorem impl_wideOf_eq (n : Bool) (h l : Int) : impl_wideOf.f n h l = some (wnz n h l, h, l) := by
  unfold impl_wideOf.f wnz
  cases n
  · simp
  · by_cases c : h > 0 <;> simp [c]

theorem impl_NegWide_eq (n : Bool) (h l : Int) : impl_NegWide.f n h l = some (negAns n h l) := by
  unfold impl_NegWide.f negAns
  simp only [impl_WideOk_eq, impl_wideOf_eq, Option.bind_some]
  by_cases c : wok n h l = true
  · rw [if_pos c, if_pos c]
  · rw [if_neg c, if_neg c]

theorem cmp_isNaN_uint64_eq (a : Int) : cmp_isNaN_uint64.f a = some false := by unfold cmp_isNaN_uint64.f; simp
theorem cmp_Compare_uint64_eq (a b : Int) : cmp_Compare_uint64.f a b = some (cmpI a b) := by
  unfold cmp_Compare_uint64.f cmpI
  simp only [cmp_isNaN_uint64_eq, Option.bind_some]
  by_cases h : a < b
  · simp [h]
  · by_cases h' : a > b <;> simp [h, h']
theorem cmp_Or_int_two (a b : Int) (k : Nat) (hk : 3 ≤ k) : cmp_Or_int.f k [a, b] = some (if a = 0 then b else a) := by
  obtain ⟨k, rfl⟩ : ∃ m, k = m + 3 := ⟨k - 3, by omega⟩
  have w1 : wrap64 (0 + 1) = 1 := by unfold wrap64; omega
  have w2 : wrap64 (1 + 1) = 2 := by unfold wrap64; omega
  have r0 : rd [a, b] 0 = a := rfl
  have r1 : rd [a, b] 1 = b := rfl
  unfold cmp_Or_int.f
  simp only [cmp_Or_int.l0, List.length_cons, List.length_nil, w1, w2, r0, r1]
  by_cases h : a = 0
  · subst h
    by_cases h' : b = 0
    · subst h'; simp
    · simp [h']
  · simp [h]

theorem impl_compareSizes_eq (n m : Bool) (h l h' l' : Int) (k : Nat) (hk : 3 ≤ k) : impl_compareSizes.f k n h l m h' l' = some (if cmpI h h' = 0 then cmpI l l' else cmpI h h') := by
  unfold impl_compareSizes.f
  simp only [cmp_Compare_uint64_eq, Option.bind_some, cmp_Or_int_two _ _ k hk]
theorem cmp_sizes {h l h' l' : Int} (l0 : 0 ≤ l) (l1 : l < 18446744073709551616) (m0 : 0 ≤ l') (m1 : l' < 18446744073709551616) :
    (if cmpI h h' = 0 then cmpI l l' else cmpI h h') = cmpI (h * 18446744073709551616 + l) (h' * 18446744073709551616 + l') := by
  unfold cmpI
  by_cases c1 : h < h'
  · have e : h * 18446744073709551616 + l < h' * 18446744073709551616 + l' := by omega
    simp [c1, e]
  · by_cases c2 : h > h'
    · have e : ¬ h * 18446744073709551616 + l < h' * 18446744073709551616 + l' := by omega
      have e2 : h * 18446744073709551616 + l > h' * 18446744073709551616 + l' := by omega
      rw [if_neg c1, if_pos c2, if_neg e, if_pos e2]; rfl
    · obtain rfl : h = h' := by omega
      rw [if_neg c1, if_neg c2, if_pos rfl]
      by_cases c3 : l < l'
      · rw [if_pos c3, if_pos (by omega)]
      · by_cases c4 : l > l'
        · rw [if_neg c3, if_pos c4, if_neg (by omega), if_pos (by omega)]
        · rw [if_neg c3, if_neg c4, if_neg (by omega), if_neg (by omega)]

theorem bits_Add64_eq' (a b c : Int) (h : 0 ≤ a ∧ 0 ≤ b ∧ 0 ≤ c ∧ c ≤ 1) : bits_Add64.f a b c = some ((a + b + c) % 18446744073709551616, (a + b + c) / 18446744073709551616) := by
  unfold bits_Add64.f
  rw [if_pos h]
theorem bits_Sub64_eq (a b c : Int) (h : 0 ≤ a ∧ 0 ≤ b ∧ b < 18446744073709551616 ∧ 0 ≤ c ∧ c ≤ 1) : bits_Sub64.f a b c = some ((a - b - c) % 18446744073709551616, if a < b + c then 1 else 0) := by
  unfold bits_Sub64.f
  rw [if_pos h]
theorem impl_AddWide_eq (n m : Bool) (h l h' l' : Int) (h0 : 0 ≤ h) (l0 : 0 ≤ l) (l1 : l < 18446744073709551616) (g0 : 0 ≤ h') (m0 : 0 ≤ l') (m1 : l' < 18446744073709551616) (k : Nat) (hk : 6 ≤ k) : impl_AddWide.f k n h l m h' l' = some (addAns n h l m h' l') := by
  obtain ⟨k, rfl⟩ : ∃ j, k = j + 1 := ⟨k - 1, by omega⟩
  unfold impl_AddWide.f addAns
  simp only [impl_WideOk_eq, Option.bind_some]
  by_cases w : wok n h l = true
  · rw [if_pos w]
    by_cases w' : wok m h' l' = true
    · have hh := wok_high w
      have gg := wok_high w'
      have nz := wok_nz w
      have mz := wok_nz w'
      have sn := wval_neg n h0 l0
      have sm := wval_neg m g0 m0
      rw [nz] at sn
      rw [mz] at sm
      have dn := wval_def n h l
      have dm := wval_def m h' l'
      rw [w, w']
      simp only [impl_AddWide.j0, Bool.not_true, Bool.false_eq_true, if_false, Bool.and_self, if_true]
      generalize wval n h l = u at *
      generalize wval m h' l' = v at *
      by_cases c : (n != m) = true
      · rw [if_pos c]
        simp only [impl_compareSizes_eq n m h l h' l' k (by omega), cmp_sizes l0 l1 m0 m1, Option.bind_some]
        by_cases d : cmpI (h * 18446744073709551616 + l) (h' * 18446744073709551616 + l') < 0
        · rw [if_pos d]
          have dlt : h * 18446744073709551616 + l < h' * 18446744073709551616 + l' := by
            unfold cmpI at d
            by_cases e : h * 18446744073709551616 + l < h' * 18446744073709551616 + l'
            · exact e
            · rw [if_neg e] at d; split at d <;> omega
          have ⟨p, q⟩ := sub_parts m0 m1 l0 l1 g0 gg h0 (by omega)
          rw [bits_Sub64_eq l' l 0 (by omega)]
          simp only [Option.bind_some]
          rw [bits_Sub64_eq h' h _ (by split <;> omega)]
          simp only [Option.bind_some, impl_wideOf_eq]
          have e4 : iabs (u + v) = (h' - h - (if l' < l + 0 then 1 else 0)) % 18446744073709551616 * 18446744073709551616 + (l' - l - 0) % 18446744073709551616 := by
            rw [p]; subst dn dm; unfold iabs
            cases n <;> cases m <;> simp at c ⊢ <;> omega
          have sg : u + v ≠ 0 → decide (u + v < 0) = m := by
            intro _; subst dn dm
            cases n <;> cases m <;> simp at c ⊢ <;> omega
          generalize (h' - h - (if l' < l + 0 then 1 else 0)) % 18446744073709551616 = a at *
          have a0 : 0 ≤ a := by have := iabs_nonneg (u + v); omega
          have b0 : 0 ≤ (l' - l - 0) % 18446744073709551616 := by omega
          rw [wans_of e4 a0 b0 (by omega), if_pos q, sign_parts e4 a0 b0 sg]
        · rw [if_neg d]
          have dle : h' * 18446744073709551616 + l' ≤ h * 18446744073709551616 + l := by
            unfold cmpI at d
            by_cases e : h * 18446744073709551616 + l < h' * 18446744073709551616 + l'
            · rw [if_pos e] at d; omega
            · omega
          have ⟨p, q⟩ := sub_parts l0 l1 m0 m1 h0 hh g0 dle
          rw [bits_Sub64_eq l l' 0 (by omega)]
          simp only [Option.bind_some]
          rw [bits_Sub64_eq h h' _ (by split <;> omega)]
          simp only [Option.bind_some, impl_wideOf_eq]
          have e4 : iabs (u + v) = (h - h' - (if l < l' + 0 then 1 else 0)) % 18446744073709551616 * 18446744073709551616 + (l - l' - 0) % 18446744073709551616 := by
            rw [p]; subst dn dm; unfold iabs
            cases n <;> cases m <;> simp at c ⊢ <;> omega
          have sg : u + v ≠ 0 → decide (u + v < 0) = n := by
            intro z; subst dn dm
            cases n <;> cases m <;> simp at c z ⊢ <;> omega
          generalize (h - h' - (if l < l' + 0 then 1 else 0)) % 18446744073709551616 = a at *
          have a0 : 0 ≤ a := by have := iabs_nonneg (u + v); omega
          have b0 : 0 ≤ (l - l' - 0) % 18446744073709551616 := by omega
          rw [wans_of e4 a0 b0 (by omega), if_pos q, sign_parts e4 a0 b0 sg]
      · rw [if_neg c]
        have nm : n = m := by simpa using c
        subst nm
        rw [bits_Add64_eq' l l' 0 (by omega)]
        simp only [Option.bind_some]
        rw [bits_Add64_eq' h h' _ (by omega)]
        simp only [Option.bind_some, impl_wideOf_eq]
        have e4 : iabs (u + v) = (h + h' + (l + l' + 0) / 18446744073709551616) % 18446744073709551616 * 18446744073709551616 + (l + l' + 0) % 18446744073709551616 := by
          subst dn dm; unfold iabs
          cases n <;> simp <;> omega
        have sg : u + v ≠ 0 → decide (u + v < 0) = n := by
          intro z; subst dn dm
          cases n <;> simp at z ⊢ <;> omega
        have a0 : 0 ≤ (h + h' + (l + l' + 0) / 18446744073709551616) % 18446744073709551616 := by omega
        have b0 : 0 ≤ (l + l' + 0) % 18446744073709551616 := by omega
        have b1 : (l + l' + 0) % 18446744073709551616 < 18446744073709551616 := by omega
        generalize (h + h' + (l + l' + 0) / 18446744073709551616) % 18446744073709551616 = a at *
        generalize (l + l' + 0) % 18446744073709551616 = b at *
        have e6 := wok_wnz n a b
        rw [sign_parts e4 a0 b0 sg] at e6
        rw [wans_of e4 a0 b0 b1, sign_parts e4 a0 b0 sg, impl_WideOk_eq, e6]
        simp only [Option.bind_some]
        by_cases c3 : a < 9223372036854775808
        · rw [if_pos c3, if_pos (decide_eq_true c3)]
        · rw [if_neg c3, if_neg (by simpa using c3)]
    · have w2 : wok m h' l' = false := by simpa using w'
      rw [w2]
      simp [impl_AddWide.j0]
  · have w2 : wok n h l = false := by simpa using w
    rw [if_neg w, w2]
    simp [impl_AddWide.j0]

theorem impl_SubWide_eq (n m : Bool) (h l h' l' : Int) (h0 : 0 ≤ h) (l0 : 0 ≤ l) (l1 : l < 18446744073709551616) (g0 : 0 ≤ h') (m0 : 0 ≤ l') (m1 : l' < 18446744073709551616) (k : Nat) (hk : 6 ≤ k) : impl_SubWide.f k n h l m h' l' = some (subAns n h l m h' l') := by
  unfold impl_SubWide.f subAns
  have p := negAns_parts m h' l'
  rw [impl_NegWide_eq]; simp only [Option.bind_some]
  rw [impl_AddWide_eq _ _ _ _ _ _ h0 l0 l1 (by rw [p.1]; exact g0) (by rw [p.2]; exact m0) (by rw [p.2]; exact m1) k hk]
  rfl

theorem impl_size_eq (a : Int) (h0 : -9223372036854775808 ≤ a) (h1 : a ≤ 9223372036854775807) : impl_size.f a = some (iabs a) := by
  unfold impl_size.f iabs
  by_cases h : a < 0
  · rw [if_pos h, if_pos h]; simp only [wu64]; congr 1; omega
  · rw [if_neg h, if_neg h]; simp only [wu64]; congr 1; omega

theorem impl_WideOf_eq (a : Int) (h0 : -9223372036854775808 ≤ a) (h1 : a ≤ 9223372036854775807) : impl_WideOf.f a = some (wnorm a) := by
  have hb := iabs_u64 h0 h1
  unfold impl_WideOf.f
  simp only [impl_size_eq a h0 h1, impl_wideOf_eq, Option.bind_some, wnorm, wnz]
  have e1 : iabs a / 18446744073709551616 = 0 := by omega
  have e2 : iabs a % 18446744073709551616 = iabs a := by omega
  rw [e1, e2]
  by_cases c : a < 0
  · have : iabs a > 0 := by unfold iabs; rw [if_pos c]; omega
    simp [c, this]
  · simp [c]

theorem impl_IntOf_eq (n : Bool) (h l : Int) (h0 : 0 ≤ h) (l0 : 0 ≤ l) (l1 : l < 18446744073709551616) : impl_IntOf.f n h l = some (intAns n h l) := by
  unfold impl_IntOf.f intAns
  cases n
  · simp only [Bool.false_eq_true, if_false]
    have r := w64_range l
    rw [impl_WideOf_eq _ r.1 r.2, wnorm_i64 r.1 r.2]
    simp only [Option.bind_some]
    by_cases c : h = 0 ∧ l ≤ 9223372036854775807
    · rw [if_pos c]
      have e : wrap64 l = l := w64_id (by omega) c.2
      have e2 : iabs l = l := by unfold iabs; rw [if_neg (by omega)]
      rw [e, e2, c.1]
      have : ¬ l < 0 := by omega
      simp [this]
    · rw [if_neg c]
      rw [if_pos]
      by_cases d : h = 0
      · have e : wrap64 l < 0 := by unfold wrap64; omega
        simp [e]
      · have e : ((0 : Int) == h) = false := beq_eq_false_iff_ne.mpr (fun z => d z.symm)
        simp [e]
  · simp only [if_true]
    have r := w64_range (-wrap64 l)
    rw [impl_WideOf_eq _ r.1 r.2, wnorm_i64 r.1 r.2]
    simp only [Option.bind_some]
    by_cases c : h = 0 ∧ 1 ≤ l ∧ l ≤ 9223372036854775808
    · rw [if_pos c]
      have e : wrap64 (-wrap64 l) = -l := by unfold wrap64; omega
      have e2 : iabs (-l) = l := by unfold iabs; rw [if_pos (by omega)]; omega
      rw [e, e2, c.1]
      have : -l < 0 := by omega
      have this2 : 0 < l := by omega
      simp [this2]
    · rw [if_neg c]
      rw [if_pos]
      by_cases d : h = 0
      · by_cases z : l = 0
        · subst z
          have : ¬ wrap64 (-wrap64 0) < 0 := by unfold wrap64; omega
          simp [this]
        · have hl : l > 9223372036854775808 := by omega
          have : ¬ wrap64 (-wrap64 l) < 0 := by unfold wrap64; omega
          simp [this]
      · have e : ((0 : Int) == h) = false := beq_eq_false_iff_ne.mpr (fun z => d z.symm)
        simp [e]

theorem FloorDiv_some2 (a b : Int) (k : Nat) : ∃ r, impl_FloorDiv.f (k + 1) a b = some r ∧ spec_FloorDiv.f (k + 1) a b = some r ∧ (r.2 = false → r.1 = 0) ∧
    (r.2 = true → b ≠ 0 ∧ ¬ (b = -1 ∧ a = -9223372036854775808) ∧ r.1 = (if Int.tmod a b = 0 then wrap64 (Int.tdiv a b) else if (decide (a < 0) != decide (b < 0)) = true then wrap64 (wrap64 (Int.tdiv a b) - 1) else wrap64 (Int.tdiv a b))) := by
  have j : ∀ t : Bool, (t = true ∨ b ≠ 0) → ∃ r, impl_FloorDiv.j0 (k + 1) a b t = some r ∧ spec_FloorDiv.j0 (k + 1) a b t = some r ∧ (r.2 = false → r.1 = 0) ∧ (r.2 = true → t = false ∧ b ≠ 0 ∧ r.1 = (if Int.tmod a b = 0 then wrap64 (Int.tdiv a b) else if (decide (a < 0) != decide (b < 0)) = true then wrap64 (wrap64 (Int.tdiv a b) - 1) else wrap64 (Int.tdiv a b))) := by
    intro t ht
    simp only [impl_FloorDiv.j0, spec_FloorDiv.j0]
    cases t
    · have hb : b ≠ 0 := by simpa using ht
      rw [if_neg (by decide), if_neg hb]
      by_cases m : Int.tmod a b = 0
      · rw [if_pos m, if_pos m]; exact ⟨_, rfl, rfl, fun z => by simp at z, fun _ => ⟨rfl, hb, rfl⟩⟩
      · rw [if_neg m, if_neg m]
        by_cases n : (decide (a < 0) != decide (b < 0)) = true
        · rw [if_pos n, if_pos n]; exact ⟨_, rfl, rfl, fun z => by simp at z, fun _ => ⟨rfl, hb, rfl⟩⟩
        · rw [if_neg n, if_neg n]; exact ⟨_, rfl, rfl, fun z => by simp at z, fun _ => ⟨rfl, hb, rfl⟩⟩
    · rw [if_pos rfl]; exact ⟨_, rfl, rfl, fun _ => rfl, fun z => by simp at z⟩
  unfold impl_FloorDiv.f spec_FloorDiv.f
  by_cases h0 : b = 0
  · rw [if_pos h0, if_pos h0]
    obtain ⟨r, h1, h2, h3, h4⟩ := j true (.inl rfl)
    exact ⟨r, h1, h2, h3, fun z => by have := (h4 z).1; simp at this⟩
  · rw [if_neg h0, if_neg h0]
    by_cases h1 : b = -1
    · rw [if_pos h1]
      by_cases h2 : a = -9223372036854775808
      · have e1 : (b == -1) = true := beq_iff_eq.mpr h1
        have e2 : (a == -9223372036854775808) = true := beq_iff_eq.mpr h2
        rw [if_pos h2, e1, e2]
        obtain ⟨r, h1, h2, h3, h4⟩ := j true (.inl rfl)
        exact ⟨r, h1, h2, h3, fun z => by have := (h4 z).1; simp at this⟩
      · have e2 : (a == -9223372036854775808) = false := beq_eq_false_iff_ne.mpr h2
        rw [if_neg h2, e2]
        obtain ⟨r, i1, i2, i3, i4⟩ := j false (.inr h0)
        exact ⟨r, i1, i2, i3, fun z => ⟨h0, fun q => h2 q.2, (i4 z).2.2⟩⟩
    · rw [if_neg h1]
      have e1 : (b == -1) = false := beq_eq_false_iff_ne.mpr h1
      obtain ⟨r, i1, i2, i3, i4⟩ := j false (.inr h0)
      by_cases h2 : a = -9223372036854775808
      · rw [if_pos h2, e1]
        exact ⟨r, i1, i2, i3, fun z => ⟨h0, fun q => h1 q.1, (i4 z).2.2⟩⟩
      · rw [if_neg h2]
        exact ⟨r, i1, i2, i3, fun z => ⟨h0, fun q => h1 q.1, (i4 z).2.2⟩⟩
/-- The quotient's range, and what is left over. -/
theorem floor_rest {a b q : Int} (a0 : -9223372036854775808 ≤ a) (a1 : a ≤ 9223372036854775807) (b0 : -9223372036854775808 ≤ b) (b1 : b ≤ 9223372036854775807) (hb : b ≠ 0) (ho : ¬ (b = -1 ∧ a = -9223372036854775808))
    (hq : q = (if Int.tmod a b = 0 then wrap64 (Int.tdiv a b) else if (decide (a < 0) != decide (b < 0)) = true then wrap64 (wrap64 (Int.tdiv a b) - 1) else wrap64 (Int.tdiv a b))) :
    -9223372036854775808 ≤ q ∧ q ≤ 9223372036854775807 ∧ ((0 < b ∧ 0 ≤ a - q * b ∧ a - q * b < b) ∨ (b < 0 ∧ a - q * b ≤ 0 ∧ b < a - q * b)) := by
  have hdm := Int.mul_tdiv_add_tmod a b
  have hml : (Int.tmod a b).natAbs = a.natAbs % b.natAbs := Int.natAbs_tmod _ _
  have hmd : (Int.tdiv a b).natAbs = a.natAbs / b.natAbs := Int.natAbs_tdiv _ _
  have hlt : a.natAbs % b.natAbs < b.natAbs := Nat.mod_lt _ (by omega)
  have hle : a.natAbs / b.natAbs ≤ a.natAbs := Nat.div_le_self _ _
  have sm : 0 ≤ a → 0 ≤ Int.tmod a b := fun h => Int.tmod_nonneg b h
  have sn : a < 0 → Int.tmod a b ≤ 0 := by
    intro h
    have e := Int.neg_tmod (-a) b
    have := Int.tmod_nonneg b (show 0 ≤ -a by omega)
    rw [Int.neg_neg] at e
    rw [e]; omega
  have in1 : Int.tdiv a b ≤ 9223372036854775807 := by
    by_cases c : b.natAbs = 1
    · by_cases c1 : b = 1
      · subst c1; rw [Int.tdiv_one]; exact a1
      · have c2 : b = -1 := by omega
        subst c2
        rw [Int.tdiv_neg, Int.tdiv_one]; omega
    · have : a.natAbs / b.natAbs ≤ a.natAbs / 2 := Nat.div_le_div_left (by omega) (by decide)
      omega
  have w1 : wrap64 (Int.tdiv a b) = Int.tdiv a b := w64_id (by omega) in1
  rw [w1] at hq
  have comm : q * b = b * q := Int.mul_comm q b
  rw [comm]
  by_cases m : Int.tmod a b = 0
  · rw [if_pos m] at hq
    subst hq
    rw [m] at hdm
    refine ⟨by omega, in1, ?_⟩
    generalize b * Int.tdiv a b = p at *
    omega
  · rw [if_neg m] at hq
    by_cases s : (decide (a < 0) != decide (b < 0)) = true
    · rw [if_pos s] at hq
      have nq : -9223372036854775807 ≤ Int.tdiv a b := by
        by_cases c : b.natAbs = 1
        · exfalso
          have : a.natAbs % b.natAbs = 0 := by rw [c]; exact Nat.mod_one _
          omega
        · have : a.natAbs / b.natAbs ≤ a.natAbs / 2 := Nat.div_le_div_left (by omega) (by decide)
          omega
      have w2 : wrap64 (Int.tdiv a b - 1) = Int.tdiv a b - 1 := w64_id (by omega) (by omega)
      rw [w2] at hq
      have e : b * q = b * Int.tdiv a b - b := by rw [hq, Int.mul_sub, Int.mul_one]
      rw [e]
      refine ⟨by omega, by omega, ?_⟩
      generalize b * Int.tdiv a b = p at *
      generalize Int.tmod a b = t at *
      rcases Int.lt_trichotomy b 0 with hb' | hb' | hb'
      · have : ¬ a < 0 := by intro h; simp [h, hb'] at s
        have := sm (by omega)
        right; omega
      · omega
      · have : a < 0 := by
          by_cases h : a < 0
          · exact h
          · have : ¬ b < 0 := by omega
            simp [h, this] at s
        have := sn this
        left; omega
    · rw [if_neg s] at hq
      subst hq
      refine ⟨by omega, in1, ?_⟩
      generalize b * Int.tdiv a b = p at *
      generalize Int.tmod a b = t at *
      rcases Int.lt_trichotomy b 0 with hb' | hb' | hb'
      · have : a < 0 := by
          by_cases h : a < 0
          · exact h
          · simp [h, hb'] at s
        have := sn this
        right; omega
      · omega
      · have : ¬ a < 0 := by
          intro h
          have : ¬ b < 0 := by omega
          simp [h, this] at s
        have := sm (by omega)
        left; omega
theorem FnFloor : laws_FnFloor.Pure := by
  intro b _ hb _
  refine ⟨b.length + 17, ?_⟩
  have hb' : b.length ≤ 140737488351232 := by omega
  unfold laws_FnFloor.f spec_DrawFloorDiv.f
  rw [laws_big_eq]; simp only [Option.bind_some]
  by_cases hbig : decide ((b.length : Int) > 1048576) = true
  · rw [if_pos hbig]
  · rw [if_neg hbig]
    obtain ⟨p, q, e3, p0, p1, q0, q1⟩ := l2Two_some b hb' (b.length + 17) (by omega) (by omega)
    rw [e3]; simp only [Option.bind_some]
    obtain ⟨r, f1, f2, f3, f4⟩ := FloorDiv_some2 p q (b.length + 16)
    rw [f1, f2]; simp only [Option.bind_some]
    rw [if_neg (by simp)]
    by_cases ok : r.2 = true
    · rw [if_pos ok]
      have ⟨qz, qo, qv⟩ := f4 ok
      have ⟨r0, r1, rest⟩ := floor_rest p0 p1 q0 q1 qz qo qv
      have pa := iabs_i64 p0 p1
      have qa := iabs_i64 q0 q1
      have ra := iabs_i64 r0 r1
      have pm := iabs_mul r.1 q
      have pb := Int.mul_le_mul ra qa (iabs_nonneg q) (by decide)
      have wr := wnorm_parts (v := r.1) (by omega)
      have wp := wnorm_parts (v := p) (by omega)
      rw [spec_WideOf_eq r.1 r0 r1]; simp only [Option.bind_some]
      rw [spec_ScaleWide_eq _ _ _ q wr.1 wr.2.2.1 wr.2.2.2 q0 q1]; simp only [Option.bind_some]
      have sc : scaleAns (wnorm r.1).1 (wnorm r.1).2.1 (wnorm r.1).2.2 q = ((wnorm (r.1 * q)).1, (wnorm (r.1 * q)).2.1, (wnorm (r.1 * q)).2.2, true) := by
        unfold scaleAns
        rw [if_pos (wok_wnorm (by omega)), wval_wnorm, wans_in (by rw [← pm]; omega)]
      have ws := wnorm_parts (v := r.1 * q) (by rw [← pm]; omega)
      rw [sc, spec_WideOf_eq p p0 p1]; simp only [Option.bind_some]
      rw [impl_SubWide_eq _ _ _ _ _ _ wp.1 wp.2.2.1 wp.2.2.2 ws.1 ws.2.2.1 ws.2.2.2 _ (by omega), subAns_val ws.1 ws.2.2.1 (wok_wnorm (by omega)) (wok_wnorm (by rw [← pm]; omega)), wval_wnorm, wval_wnorm]
      simp only [Option.bind_some]
      have rl : -9223372036854775808 ≤ p - r.1 * q ∧ p - r.1 * q ≤ 9223372036854775807 := by
        generalize r.1 * q = t at *
        omega
      have ri := iabs_i64 rl.1 rl.2
      rw [wans_in (by omega)]
      have wd := wnorm_parts (v := p - r.1 * q) (by omega)
      simp only
      rw [impl_IntOf_eq _ _ _ wd.1 wd.2.2.1 wd.2.2.2, intAns_small rl.1 rl.2]
      simp only [Option.bind_some, if_true]
      generalize p - r.1 * q = d at *
      rcases rest with ⟨x, y, z⟩ | ⟨x, y, z⟩
      · rw [if_pos x, if_pos y, if_pos z]
      · rw [if_neg (by omega), if_pos x, if_pos y]
        simp; omega
    · rw [if_neg ok]
      have := f3 (by simpa using ok)
      rw [this]; simp

end Go.Proofs.Ytodbmgnhcglcnaa.Pure
