/- A number brought into a range lies in it, stays there, and is itself if it was there; the signs agree. Conditions: each number is one of its kind, as the row says. -/
import Derived.Test.YtlndcgmojabgbaaPFnBroughtx
import Derived.Test.YtlndcgmojabgbaaBase
set_option linter.unusedSimpArgs false
set_option linter.unusedVariables false
namespace Go.Proofs.Ytlndcgmojabgbaa.Pure
open Go.RowKit Go.Proofs.Ytlndcgmojabgbaa.Base Go.Proofs.Ytlndcgmojabgbaa.PFnBrought Go.Proofs.YtlndcgmojabgbaaW.PrintWords Go.Proofs.YtlndcgmojabgbaaW.PrintLast Go.Proofs.YtlndcgmojabgbaaW.PrintMore

theorem laws_big_eq (b : List Int) : laws_big.f b = some (decide ((b.length : Int) > 1048576)) := by
  unfold laws_big.f; rfl

theorem l1New_loop (b : List Int) (hb : b.length ≤ 140737488351232) (d : Nat) : ∀ (k : Nat) (x3 x4 : Int), 0 ≤ x4 → x4 ≤ b.length → (b.length : Int) - x4 = d → d < k → ∃ h, spec_l1New.l0 k b x3 x4 = some (b, 0, h) := by
  induction d with
  | zero =>
    intro k x3 x4 h0 h1 hd hk
    obtain ⟨k, rfl⟩ : ∃ m, k = m + 1 := ⟨k - 1, by omega⟩
    exact ⟨x3, by simp only [spec_l1New.l0]; rw [if_neg (by omega)]⟩
  | succ d ih =>
    intro k x3 x4 h0 h1 hd hk
    obtain ⟨k, rfl⟩ : ∃ m, k = m + 1 := ⟨k - 1, by omega⟩
    simp only [spec_l1New.l0]
    rw [if_pos (by omega)]
    by_cases c : x4 < 4000
    · rw [if_pos c, if_pos h0]
      have e : wrap64 (x4 + 1) = x4 + 1 := w64_id (by omega) (by omega)
      rw [e]
      exact ih k _ (x4 + 1) (by omega) (by omega) (by omega) (by omega)
    · rw [if_neg c]
      exact ⟨x3, rfl⟩
theorem l1New_some (b : List Int) (hb : b.length ≤ 140737488351232) (k : Nat) (hk : b.length < k) : ∃ h, spec_l1New.f k b = some (b, 0, h) := by
  unfold spec_l1New.f
  exact l1New_loop b hb b.length k _ 0 (by omega) (by omega) (by omega) hk

theorem l1Byte_some (b : List Int) (hb : b.length ≤ 140737488351232) (i h : Int) (hi : 0 ≤ i) : ∃ x i' h', spec_l1Byte.f b i h = some (x, i', h') ∧ 0 ≤ x ∧ x ≤ 255 ∧ 0 ≤ i' := by
  unfold spec_l1Byte.f
  by_cases c : i < (b.length : Int)
  · rw [if_pos c, if_pos hi]
    refine ⟨_, _, _, rfl, (and255 _).1, (and255 _).2, ?_⟩
    rw [w64_id (by omega) (by omega)]; omega
  · rw [if_neg c]
    exact ⟨_, _, _, rfl, (and255 _).1, (and255 _).2, hi⟩

theorem l1Below_some (b : List Int) (hb : b.length ≤ 140737488351232) (i h n : Int) (hi : 0 ≤ i) (hn : n ≤ 4294967296) : ∃ x i' h', spec_l1Below.f b i h n = some (x, i', h') ∧ 0 ≤ x ∧ (0 < n → x < n) ∧ 0 ≤ i' := by
  unfold spec_l1Below.f
  by_cases c : n ≤ 0
  · rw [if_pos c]
    exact ⟨_, _, _, rfl, by omega, fun _ => by omega, hi⟩
  · rw [if_neg c]
    by_cases d : n ≤ 256
    · rw [if_pos d]
      obtain ⟨x, i', h', e, x0, x1, hi'⟩ := l1Byte_some b hb i h hi
      rw [e]
      simp only [Option.bind_some]
      rw [if_neg (by omega)]
      have := tmod_range (n := n) x0 (by omega)
      exact ⟨_, _, _, rfl, this.1, fun _ => this.2, hi'⟩
    · rw [if_neg d]
      obtain ⟨x, i1, h1, e1, x0, x1, hi1⟩ := l1Byte_some b hb i h hi
      obtain ⟨y, i2, h2, e2, y0, y1, hi2⟩ := l1Byte_some b hb i1 h1 hi1
      obtain ⟨z, i3, h3, e3, z0, z1, hi3⟩ := l1Byte_some b hb i2 h2 hi2
      obtain ⟨u, i4, h4, e4, u0, u1, hi4⟩ := l1Byte_some b hb i3 h3 hi3
      rw [e1]; simp only [Option.bind_some]
      rw [e2]; simp only [Option.bind_some]
      rw [e3]; simp only [Option.bind_some]
      rw [e4]; simp only [Option.bind_some]
      rw [if_neg (by omega)]
      have e : wrap64 (wrap64 (wrap64 (wrap64 (x * 16777216) + wrap64 (y * 65536)) + wrap64 (z * 256)) + u) = x * 16777216 + y * 65536 + z * 256 + u := by
        unfold wrap64; omega
      rw [e]
      have := tmod_range (x := x * 16777216 + y * 65536 + z * 256 + u) (n := n) (by omega) (by omega)
      exact ⟨_, _, _, rfl, this.1, fun _ => this.2, hi4⟩

theorem l1PickInt_some (b : List Int) (hb : b.length ≤ 140737488351232) (i h : Int) (l : List Int) (hi : 0 ≤ i) (h0 : 0 < l.length) (hl : l.length ≤ 4294967296) : ∃ x i' h', spec_l1PickInt.f b i h l = some (x, i', h') ∧ x ∈ l ∧ 0 ≤ i' := by
  unfold spec_l1PickInt.f
  obtain ⟨x, i', h', e, x0, x1, hi'⟩ := l1Below_some b hb i h (l.length : Int) hi (by omega)
  have x2 := x1 (by omega)
  rw [e]
  simp only [Option.bind_some]
  rw [if_pos x0, if_pos x2]
  refine ⟨_, _, _, rfl, ?_, hi'⟩
  have : x.toNat < l.length := by omega
  unfold rd
  rw [List.getD_eq_getElem?_getD, List.getElem?_eq_getElem this]
  exact List.getElem_mem this

theorem l1Whole_loop (b : List Int) (hb : b.length ≤ 140737488351232) (d : Nat) : ∀ (k : Nat) (x3 x4 i h : Int), 0 ≤ i → x4 ≤ 8 → -8 ≤ x4 → (8 : Int) - x4 = d → d < k → -9223372036854775808 ≤ x3 → x3 ≤ 9223372036854775807 →
    ∃ x i' h', spec_l1Whole.l0 k x3 x4 b i h = some (x, i', h') ∧ -9223372036854775808 ≤ x ∧ x ≤ 9223372036854775807 ∧ 0 ≤ i' := by
  induction d with
  | zero =>
    intro k x3 x4 i h hi h1 h2 hd hk r0 r1
    obtain ⟨k, rfl⟩ : ∃ m, k = m + 1 := ⟨k - 1, by omega⟩
    exact ⟨x3, i, h, by simp only [spec_l1Whole.l0]; rw [if_neg (by omega)], r0, r1, hi⟩
  | succ d ih =>
    intro k x3 x4 i h hi h1 h2 hd hk r0 r1
    obtain ⟨k, rfl⟩ : ∃ m, k = m + 1 := ⟨k - 1, by omega⟩
    simp only [spec_l1Whole.l0]
    rw [if_pos (by omega)]
    obtain ⟨x, i', h', e, x0, x1, hi'⟩ := l1Byte_some b hb i h hi
    rw [e]
    simp only [Option.bind_some]
    rw [w64_id (n := x4 + 1) (by omega) (by omega)]
    have r := w64_range (wrap64 (x3 * 256) + x)
    exact ih k _ (x4 + 1) i' h' hi' (by omega) (by omega) (by omega) (by omega) r.1 r.2
theorem l1Whole_some (b : List Int) (hb : b.length ≤ 140737488351232) (i h : Int) (hi : 0 ≤ i) (k : Nat) (hk : 9 ≤ k) : ∃ x i' h', spec_l1Whole.f k b i h = some (x, i', h') ∧ -9223372036854775808 ≤ x ∧ x ≤ 9223372036854775807 ∧ 0 ≤ i' := by
  unfold spec_l1Whole.f
  obtain ⟨x, i1, h1, e, x0, x1, hi1⟩ := l1Below_some b hb i h 4 hi (by omega)
  rw [e]
  simp only [Option.bind_some]
  by_cases c0 : x = 0
  · rw [if_pos c0]
    obtain ⟨y, i2, h2, e2, hy, hi2⟩ := l1PickInt_some b hb i1 h1 [0, 1, (-1), 9, 10, 999, 1000, 2147483647, (-2147483648), 3037000499, 3037000500, 9223372036854775807, (-9223372036854775807), (-9223372036854775808)] hi1 (by simp) (by simp)
    rw [e2]
    simp only [Option.bind_some]
    refine ⟨_, _, _, rfl, ?_, ?_, hi2⟩ <;> (simp only [List.mem_cons, List.not_mem_nil, or_false] at hy; omega)
  · rw [if_neg c0]
    by_cases c1 : x = 1
    · rw [if_pos c1]
      exact l1Whole_loop b hb 8 k 0 0 i1 h1 hi1 (by omega) (by omega) (by omega) (by omega) (by omega) (by omega)
    · rw [if_neg c1]
      by_cases c2 : x = 2
      · rw [if_pos c2]
        obtain ⟨y, i2, h2, e2, _, _, hi2⟩ := l1Below_some b hb i1 h1 1000000 hi1 (by omega)
        rw [e2]
        exact ⟨_, _, _, rfl, (w64_range _).1, (w64_range _).2, hi2⟩
      · rw [if_neg c2]
        obtain ⟨y, i2, h2, e2, _, _, hi2⟩ := l1Below_some b hb i1 h1 41 hi1 (by omega)
        rw [e2]
        exact ⟨_, _, _, rfl, (w64_range _).1, (w64_range _).2, hi2⟩

theorem Brought_same (a b c : Int) : impl_Brought.f a b c = spec_Brought.f a b c := rfl
theorem SignOf_same (a : Int) : impl_SignOf.f a = spec_SignOf.f a := rfl
theorem Brought_in {a b c : Int} : spec_Brought.f a b c = some (if a < b then b else if a > c then c else a) := by
  unfold spec_Brought.f
  repeat' split
  all_goals first | rfl | omega
theorem SignOf_some (a : Int) : ∃ r, spec_SignOf.f a = some r := by
  unfold spec_SignOf.f
  by_cases h : a > 0
  · exact ⟨_, if_pos h⟩
  · rw [if_neg h]
    by_cases h : a < 0
    · exact ⟨_, if_pos h⟩
    · exact ⟨_, if_neg h⟩
theorem FnBrought : laws_FnBrought.Pure := by
  intro b _ hb _
  refine ⟨b.length + 10, ?_⟩
  have hb' : b.length ≤ 140737488351232 := by omega
  unfold laws_FnBrought.f spec_DrawBrought.f
  rw [laws_big_eq]; simp only [Option.bind_some]
  by_cases hbig : decide ((b.length : Int) > 1048576) = true
  · rw [if_pos hbig]
  · rw [if_neg hbig]
    obtain ⟨h, e⟩ := l1New_some b hb' (b.length + 10) (by omega)
    rw [e]; simp only [Option.bind_some]
    obtain ⟨x, i1, h1, e1, _, _, hi1⟩ := l1Whole_some b hb' 0 h (by omega) (b.length + 10) (by omega)
    rw [e1]; simp only [Option.bind_some]
    obtain ⟨lo, i2, h2, e2, _, _, hi2⟩ := l1Whole_some b hb' i1 h1 hi1 (b.length + 10) (by omega)
    rw [e2]; simp only [Option.bind_some]
    obtain ⟨hi, i3, h3, e3, _, _, hi3⟩ := l1Whole_some b hb' i2 h2 hi2 (b.length + 10) (by omega)
    rw [e3]; simp only [Option.bind_some, Brought_same, SignOf_same, Brought_in, if_true]
    obtain ⟨r, hr⟩ := SignOf_some x
    rw [hr]; simp only [Option.bind_some, beq_self_eq_true]
    by_cases c : lo > hi
    · rw [if_pos c]
    · rw [if_neg c]
      have n1 : ¬ hi < lo := by omega
      have n2 : lo ≤ hi := by omega
      by_cases c1 : x < lo
      · simp [c1, n1, n2]
      · have n3 : lo ≤ x := by omega
        by_cases c2 : x > hi
        · simp [c1, c2, n1, n2]
        · have n4 : x ≤ hi := by omega
          have n5 : ¬ hi < x := by omega
          simp [c1, n1, n2, n3, n4, n5]

end Go.Proofs.Ytlndcgmojabgbaa.Pure
