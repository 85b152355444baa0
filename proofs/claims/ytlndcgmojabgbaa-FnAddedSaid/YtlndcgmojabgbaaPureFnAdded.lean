/- What was added is taken away again, and a sum has no room just where the reference says so. Conditions: each number is one of its kind, as the row says. -/
import Derived.Test.YtlndcgmojabgbaaPFnAddedx
import Derived.Test.YtlndcgmojabgbaaBase
set_option linter.unusedSimpArgs false
set_option linter.unusedVariables false
namespace Go.Proofs.Ytlndcgmojabgbaa.Pure
open Go.RowKit Go.Proofs.Ytlndcgmojabgbaa.Base Go.Proofs.Ytlndcgmojabgbaa.PFnAdded Go.Proofs.YtlndcgmojabgbaaW.PrintWords Go.Proofs.YtlndcgmojabgbaaW.PrintLast Go.Proofs.YtlndcgmojabgbaaW.PrintMore

theorem laws_big_eq (b : List Int) : laws_big.f b = some (decide ((b.length : Int) > 1048576)) := by
  unfold laws_big.f; rfl

theorem l1New_loop (b : List Int) (hb : b.length ≤ 140737488351232) (d : Nat) : ∀ (k : Nat) (x3 x4 : Int), 0 ≤ x4 → x4 ≤ b.length → (b.length : Int) - x4 = d → d < k → ∃ h, spec_l1New.l0 k b x3 x4 = some (b, 0, h) := by
  induction d with
  | zero =>
    intro k x3 x4 h0 h1 hd hk
    obtain ⟨k, rfl⟩ : ∃ m, k = m + 1 := ⟨k - 1, by omega⟩
    exact ⟨x3, by simp only [spec_l1New.l0]; rw [if_neg (by omega)]⟩
  | succ d ih =>
    intro k x3 x4 h0 h1 hd hk
    obtain ⟨k, rfl⟩ : ∃ m, k = m + 1 := ⟨k - 1, by omega⟩
    simp only [spec_l1New.l0]
    rw [if_pos (by omega)]
    by_cases c : x4 < 4000
    · rw [if_pos c, if_pos h0]
      have e : wrap64 (x4 + 1) = x4 + 1 := w64_id (by omega) (by omega)
      rw [e]
      exact ih k _ (x4 + 1) (by omega) (by omega) (by omega) (by omega)
    · rw [if_neg c]
      exact ⟨x3, rfl⟩
theorem l1New_some (b : List Int) (hb : b.length ≤ 140737488351232) (k : Nat) (hk : b.length < k) : ∃ h, spec_l1New.f k b = some (b, 0, h) := by
  unfold spec_l1New.f
  exact l1New_loop b hb b.length k _ 0 (by omega) (by omega) (by omega) hk

theorem l1Byte_some (b : List Int) (hb : b.length ≤ 140737488351232) (i h : Int) (hi : 0 ≤ i) : ∃ x i' h', spec_l1Byte.f b i h = some (x, i', h') ∧ 0 ≤ x ∧ x ≤ 255 ∧ 0 ≤ i' := by
  unfold spec_l1Byte.f
  by_cases c : i < (b.length : Int)
  · rw [if_pos c, if_pos hi]
    refine ⟨_, _, _, rfl, (and255 _).1, (and255 _).2, ?_⟩
    rw [w64_id (by omega) (by omega)]; omega
  · rw [if_neg c]
    exact ⟨_, _, _, rfl, (and255 _).1, (and255 _).2, hi⟩

theorem l1Below_some (b : List Int) (hb : b.length ≤ 140737488351232) (i h n : Int) (hi : 0 ≤ i) (hn : n ≤ 4294967296) : ∃ x i' h', spec_l1Below.f b i h n = some (x, i', h') ∧ 0 ≤ x ∧ (0 < n → x < n) ∧ 0 ≤ i' := by
  unfold spec_l1Below.f
  by_cases c : n ≤ 0
  · rw [if_pos c]
    exact ⟨_, _, _, rfl, by omega, fun _ => by omega, hi⟩
  · rw [if_neg c]
    by_cases d : n ≤ 256
    · rw [if_pos d]
      obtain ⟨x, i', h', e, x0, x1, hi'⟩ := l1Byte_some b hb i h hi
      rw [e]
      simp only [Option.bind_some]
      rw [if_neg (by omega)]
      have := tmod_range (n := n) x0 (by omega)
      exact ⟨_, _, _, rfl, this.1, fun _ => this.2, hi'⟩
    · rw [if_neg d]
      obtain ⟨x, i1, h1, e1, x0, x1, hi1⟩ := l1Byte_some b hb i h hi
      obtain ⟨y, i2, h2, e2, y0, y1, hi2⟩ := l1Byte_some b hb i1 h1 hi1
      obtain ⟨z, i3, h3, e3, z0, z1, hi3⟩ := l1Byte_some b hb i2 h2 hi2
      obtain ⟨u, i4, h4, e4, u0, u1, hi4⟩ := l1Byte_some b hb i3 h3 hi3
      rw [e1]; simp only [Option.bind_some]
      rw [e2]; simp only [Option.bind_some]
      rw [e3]; simp only [Option.bind_some]
      rw [e4]; simp only [Option.bind_some]
      rw [if_neg (by omega)]
      have e : wrap64 (wrap64 (wrap64 (wrap64 (x * 16777216) + wrap64 (y * 65536)) + wrap64 (z * 256)) + u) = x * 16777216 + y * 65536 + z * 256 + u := by
        unfold wrap64; omega
      rw [e]
      have := tmod_range (x := x * 16777216 + y * 65536 + z * 256 + u) (n := n) (by omega) (by omega)
      exact ⟨_, _, _, rfl, this.1, fun _ => this.2, hi4⟩

theorem l1PickInt_some (b : List Int) (hb : b.length ≤ 140737488351232) (i h : Int) (l : List Int) (hi : 0 ≤ i) (h0 : 0 < l.length) (hl : l.length ≤ 4294967296) : ∃ x i' h', spec_l1PickInt.f b i h l = some (x, i', h') ∧ x ∈ l ∧ 0 ≤ i' := by
  unfold spec_l1PickInt.f
  obtain ⟨x, i', h', e, x0, x1, hi'⟩ := l1Below_some b hb i h (l.length : Int) hi (by omega)
  have x2 := x1 (by omega)
  rw [e]
  simp only [Option.bind_some]
  rw [if_pos x0, if_pos x2]
  refine ⟨_, _, _, rfl, ?_, hi'⟩
  have : x.toNat < l.length := by omega
  unfold rd
  rw [List.getD_eq_getElem?_getD, List.getElem?_eq_getElem this]
  exact List.getElem_mem this

theorem l1Whole_loop (b : List Int) (hb : b.length ≤ 140737488351232) (d : Nat) : ∀ (k : Nat) (x3 x4 i h : Int), 0 ≤ i → x4 ≤ 8 → -8 ≤ x4 → (8 : Int) - x4 = d → d < k → -9223372036854775808 ≤ x3 → x3 ≤ 9223372036854775807 →
    ∃ x i' h', spec_l1Whole.l0 k x3 x4 b i h = some (x, i', h') ∧ -9223372036854775808 ≤ x ∧ x ≤ 9223372036854775807 ∧ 0 ≤ i' := by
  induction d with
  | zero =>
    intro k x3 x4 i h hi h1 h2 hd hk r0 r1
    obtain ⟨k, rfl⟩ : ∃ m, k = m + 1 := ⟨k - 1, by omega⟩
    exact ⟨x3, i, h, by simp only [spec_l1Whole.l0]; rw [if_neg (by omega)], r0, r1, hi⟩
  | succ d ih =>
    intro k x3 x4 i h hi h1 h2 hd hk r0 r1
    obtain ⟨k, rfl⟩ : ∃ m, k = m + 1 := ⟨k - 1, by omega⟩
    simp only [spec_l1Whole.l0]
    rw [if_pos (by omega)]
    obtain ⟨x, i', h', e, x0, x1, hi'⟩ := l1Byte_some b hb i h hi
    rw [e]
    simp only [Option.bind_some]
    rw [w64_id (n := x4 + 1) (by omega) (by omega)]
    have r := w64_range (wrap64 (x3 * 256) + x)
    exact ih k _ (x4 + 1) i' h' hi' (by omega) (by omega) (by omega) (by omega) r.1 r.2
theorem l1Whole_some (b : List Int) (hb : b.length ≤ 140737488351232) (i h : Int) (hi : 0 ≤ i) (k : Nat) (hk : 9 ≤ k) : ∃ x i' h', spec_l1Whole.f k b i h = some (x, i', h') ∧ -9223372036854775808 ≤ x ∧ x ≤ 9223372036854775807 ∧ 0 ≤ i' := by
  unfold spec_l1Whole.f
  obtain ⟨x, i1, h1, e, x0, x1, hi1⟩ := l1Below_some b hb i h 4 hi (by omega)
  rw [e]
  simp only [Option.bind_some]
  by_cases c0 : x = 0
  · rw [if_pos c0]
    obtain ⟨y, i2, h2, e2, hy, hi2⟩ := l1PickInt_some b hb i1 h1 [0, 1, (-1), 9, 10, 999, 1000, 2147483647, (-2147483648), 3037000499, 3037000500, 9223372036854775807, (-9223372036854775807), (-9223372036854775808)] hi1 (by simp) (by simp)
    rw [e2]
    simp only [Option.bind_some]
    refine ⟨_, _, _, rfl, ?_, ?_, hi2⟩ <;> (simp only [List.mem_cons, List.not_mem_nil, or_false] at hy; omega)
  · rw [if_neg c0]
    by_cases c1 : x = 1
    · rw [if_pos c1]
      exact l1Whole_loop b hb 8 k 0 0 i1 h1 hi1 (by omega) (by omega) (by omega) (by omega) (by omega) (by omega)
    · rw [if_neg c1]
      by_cases c2 : x = 2
      · rw [if_pos c2]
        obtain ⟨y, i2, h2, e2, _, _, hi2⟩ := l1Below_some b hb i1 h1 1000000 hi1 (by omega)
        rw [e2]
        exact ⟨_, _, _, rfl, (w64_range _).1, (w64_range _).2, hi2⟩
      · rw [if_neg c2]
        obtain ⟨y, i2, h2, e2, _, _, hi2⟩ := l1Below_some b hb i1 h1 41 hi1 (by omega)
        rw [e2]
        exact ⟨_, _, _, rfl, (w64_range _).1, (w64_range _).2, hi2⟩

theorem l2Two_some (b : List Int) (hb : b.length ≤ 140737488351232) (k : Nat) (hk : b.length < k) (hk9 : 9 ≤ k) : ∃ x y, spec_l2Two.f k b = some (x, y) ∧ -9223372036854775808 ≤ x ∧ x ≤ 9223372036854775807 ∧ -9223372036854775808 ≤ y ∧ y ≤ 9223372036854775807 := by
  unfold spec_l2Two.f
  obtain ⟨h, e⟩ := l1New_some b hb k hk
  rw [e]; simp only [Option.bind_some]
  obtain ⟨x, i1, h1, e1, x0, x1, hi1⟩ := l1Whole_some b hb 0 h (by omega) k hk9
  rw [e1]; simp only [Option.bind_some]
  obtain ⟨y, i2, h2, e2, _, _, hi2⟩ := l1Below_some b hb i1 h1 5 hi1 (by omega)
  rw [e2]; simp only [Option.bind_some]
  by_cases c0 : y = 0
  · rw [if_pos c0]; exact ⟨_, _, rfl, x0, x1, (w64_range _).1, (w64_range _).2⟩
  · rw [if_neg c0]
    by_cases c1 : y = 1
    · rw [if_pos c1]; exact ⟨_, _, rfl, x0, x1, (w64_range _).1, (w64_range _).2⟩
    · rw [if_neg c1]
      obtain ⟨z, i3, h3, e3, z0, z1, hi3⟩ := l1Whole_some b hb i2 h2 hi2 k hk9
      rw [e3]
      exact ⟨_, _, rfl, x0, x1, z0, z1⟩

theorem impl_AddInt_eq (a b : Int) (ha0 : -9223372036854775808 ≤ a) (ha1 : a ≤ 9223372036854775807) (hb0 : -9223372036854775808 ≤ b) (hb1 : b ≤ 9223372036854775807) : impl_AddInt.f a b = some (fitI (a + b)) := by
  unfold impl_AddInt.f fitI wrap64
  try simp only [beq_iff_eq, bne_iff_ne, ne_eq, decide_eq_decide]
  repeat' split
  all_goals first | rfl | omega | (congr 2; omega)

theorem spec_AddInt_eq (a b : Int) (ha0 : -9223372036854775808 ≤ a) (ha1 : a ≤ 9223372036854775807) (hb0 : -9223372036854775808 ≤ b) (hb1 : b ≤ 9223372036854775807) : spec_AddInt.f a b = some (fitI (a + b)) := by
  unfold spec_AddInt.f fitI wrap64
  try simp only [beq_iff_eq, bne_iff_ne, ne_eq, decide_eq_decide]
  repeat' split
  all_goals first | rfl | omega | (congr 2; omega)

theorem impl_SubInt_eq (a b : Int) (ha0 : -9223372036854775808 ≤ a) (ha1 : a ≤ 9223372036854775807) (hb0 : -9223372036854775808 ≤ b) (hb1 : b ≤ 9223372036854775807) : impl_SubInt.f a b = some (fitI (a - b)) := by
  unfold impl_SubInt.f fitI wrap64
  try simp only [beq_iff_eq, bne_iff_ne, ne_eq, decide_eq_decide]
  repeat' split
  all_goals first | rfl | omega | (congr 2; omega)

theorem spec_SubInt_eq (a b : Int) (ha0 : -9223372036854775808 ≤ a) (ha1 : a ≤ 9223372036854775807) (hb0 : -9223372036854775808 ≤ b) (hb1 : b ≤ 9223372036854775807) : spec_SubInt.f a b = some (fitI (a - b)) := by
  unfold spec_SubInt.f fitI wrap64
  try simp only [beq_iff_eq, bne_iff_ne, ne_eq, decide_eq_decide]
  repeat' split
  all_goals first | rfl | omega | (congr 2; omega)

theorem FnAdded : laws_FnAdded.Pure := by
  intro b _ hb _
  refine ⟨b.length + 10, ?_⟩
  have hb' : b.length ≤ 140737488351232 := by omega
  unfold laws_FnAdded.f spec_DrawAddInt.f
  rw [laws_big_eq]; simp only [Option.bind_some]
  by_cases hbig : decide ((b.length : Int) > 1048576) = true
  · rw [if_pos hbig]
  · rw [if_neg hbig]
    obtain ⟨p, q, e3, p0, p1, q0, q1⟩ := l2Two_some b hb' (b.length + 10) (by omega) (by omega)
    rw [e3]; simp only [Option.bind_some]
    rw [impl_AddInt_eq p q p0 p1 q0 q1, spec_AddInt_eq p q p0 p1 q0 q1]; simp only [Option.bind_some]
    rw [impl_SubInt_eq p q p0 p1 q0 q1, spec_SubInt_eq p q p0 p1 q0 q1]; simp only [Option.bind_some]
    rw [if_neg (by simp)]
    simp only [laws_FnAdded.j0]
    have comm : q + p = p + q := Int.add_comm q p
    by_cases s : -9223372036854775808 ≤ p + q ∧ p + q ≤ 9223372036854775807
    · by_cases d : -9223372036854775808 ≤ p - q ∧ p - q ≤ 9223372036854775807
      · rw [fitI_in s, fitI_in d]
        simp only [impl_SubInt_eq (p + q) q s.1 s.2 q0 q1, impl_AddInt_eq (p - q) q d.1 d.2 q0 q1, impl_AddInt_eq q p q0 q1 p0 p1, Option.bind_some, comm, fitI_in s, show p + q - q = p by omega, show p - q + q = p by omega, fitI_in ⟨p0, p1⟩]
        simp
      · rw [fitI_in s, fitI_out d]
        simp only [impl_SubInt_eq (p + q) q s.1 s.2 q0 q1, impl_AddInt_eq 0 q (by omega) (by omega) q0 q1, impl_AddInt_eq q p q0 q1 p0 p1, Option.bind_some, comm, fitI_in s, show p + q - q = p by omega, fitI_in ⟨p0, p1⟩]
        simp
    · by_cases d : -9223372036854775808 ≤ p - q ∧ p - q ≤ 9223372036854775807
      · rw [fitI_out s, fitI_in d]
        simp only [impl_SubInt_eq 0 q (by omega) (by omega) q0 q1, impl_AddInt_eq (p - q) q d.1 d.2 q0 q1, impl_AddInt_eq q p q0 q1 p0 p1, Option.bind_some, comm, fitI_out s, show p - q + q = p by omega, fitI_in ⟨p0, p1⟩]
        simp
      · rw [fitI_out s, fitI_out d]
        simp only [impl_SubInt_eq 0 q (by omega) (by omega) q0 q1, impl_AddInt_eq 0 q (by omega) (by omega) q0 q1, impl_AddInt_eq q p q0 q1 p0 p1, Option.bind_some, comm, fitI_out s]
        simp

end Go.Proofs.Ytlndcgmojabgbaa.Pure
