/- A feature's sign is its element, and 0 where there is none. Conditions: each number is one of its kind, as the row says. -/
import Derived.Test.YtlndcgmojabgbaaPFnSignsx
import Derived.Test.YtlndcgmojabgbaaBase
set_option linter.unusedSimpArgs false
set_option linter.unusedVariables false
namespace Go.Proofs.Ytlndcgmojabgbaa.Pure
open Go.RowKit Go.Proofs.Ytlndcgmojabgbaa.Base Go.Proofs.Ytlndcgmojabgbaa.PFnSigns Go.Proofs.YtlndcgmojabgbaaW.PrintWords Go.Proofs.YtlndcgmojabgbaaW.PrintLast Go.Proofs.YtlndcgmojabgbaaW.PrintMore

theorem laws_big_eq (b : List Int) : laws_big.f b = some (decide ((b.length : Int) > 1048576)) := by
  unfold laws_big.f; rfl

theorem l1New_loop (b : List Int) (hb : b.length ≤ 140737488351232) (d : Nat) : ∀ (k : Nat) (x3 x4 : Int), 0 ≤ x4 → x4 ≤ b.length → (b.length : Int) - x4 = d → d < k → ∃ h, spec_l1New.l0 k b x3 x4 = some (b, 0, h) := by
  induction d with
  | zero =>
    intro k x3 x4 h0 h1 hd hk
    obtain ⟨k, rfl⟩ : ∃ m, k = m + 1 := ⟨k - 1, by omega⟩
    exact ⟨x3, by simp only [spec_l1New.l0]; rw [if_neg (by omega)]⟩
  | succ d ih =>
    intro k x3 x4 h0 h1 hd hk
    obtain ⟨k, rfl⟩ : ∃ m, k = m + 1 := ⟨k - 1, by omega⟩
    simp only [spec_l1New.l0]
    rw [if_pos (by omega)]
    by_cases c : x4 < 4000
    · rw [if_pos c, if_pos h0]
      have e : wrap64 (x4 + 1) = x4 + 1 := w64_id (by omega) (by omega)
      rw [e]
      exact ih k _ (x4 + 1) (by omega) (by omega) (by omega) (by omega)
    · rw [if_neg c]
      exact ⟨x3, rfl⟩
theorem l1New_some (b : List Int) (hb : b.length ≤ 140737488351232) (k : Nat) (hk : b.length < k) : ∃ h, spec_l1New.f k b = some (b, 0, h) := by
  unfold spec_l1New.f
  exact l1New_loop b hb b.length k _ 0 (by omega) (by omega) (by omega) hk

theorem l1Byte_some (b : List Int) (hb : b.length ≤ 140737488351232) (i h : Int) (hi : 0 ≤ i) : ∃ x i' h', spec_l1Byte.f b i h = some (x, i', h') ∧ 0 ≤ x ∧ x ≤ 255 ∧ 0 ≤ i' := by
  unfold spec_l1Byte.f
  by_cases c : i < (b.length : Int)
  · rw [if_pos c, if_pos hi]
    refine ⟨_, _, _, rfl, (and255 _).1, (and255 _).2, ?_⟩
    rw [w64_id (by omega) (by omega)]; omega
  · rw [if_neg c]
    exact ⟨_, _, _, rfl, (and255 _).1, (and255 _).2, hi⟩

theorem l1Below_some (b : List Int) (hb : b.length ≤ 140737488351232) (i h n : Int) (hi : 0 ≤ i) (hn : n ≤ 4294967296) : ∃ x i' h', spec_l1Below.f b i h n = some (x, i', h') ∧ 0 ≤ x ∧ (0 < n → x < n) ∧ 0 ≤ i' := by
  unfold spec_l1Below.f
  by_cases c : n ≤ 0
  · rw [if_pos c]
    exact ⟨_, _, _, rfl, by omega, fun _ => by omega, hi⟩
  · rw [if_neg c]
    by_cases d : n ≤ 256
    · rw [if_pos d]
      obtain ⟨x, i', h', e, x0, x1, hi'⟩ := l1Byte_some b hb i h hi
      rw [e]
      simp only [Option.bind_some]
      rw [if_neg (by omega)]
      have := tmod_range (n := n) x0 (by omega)
      exact ⟨_, _, _, rfl, this.1, fun _ => this.2, hi'⟩
    · rw [if_neg d]
      obtain ⟨x, i1, h1, e1, x0, x1, hi1⟩ := l1Byte_some b hb i h hi
      obtain ⟨y, i2, h2, e2, y0, y1, hi2⟩ := l1Byte_some b hb i1 h1 hi1
      obtain ⟨z, i3, h3, e3, z0, z1, hi3⟩ := l1Byte_some b hb i2 h2 hi2
      obtain ⟨u, i4, h4, e4, u0, u1, hi4⟩ := l1Byte_some b hb i3 h3 hi3
      rw [e1]; simp only [Option.bind_some]
      rw [e2]; simp only [Option.bind_some]
      rw [e3]; simp only [Option.bind_some]
      rw [e4]; simp only [Option.bind_some]
      rw [if_neg (by omega)]
      have e : wrap64 (wrap64 (wrap64 (wrap64 (x * 16777216) + wrap64 (y * 65536)) + wrap64 (z * 256)) + u) = x * 16777216 + y * 65536 + z * 256 + u := by
        unfold wrap64; omega
      rw [e]
      have := tmod_range (x := x * 16777216 + y * 65536 + z * 256 + u) (n := n) (by omega) (by omega)
      exact ⟨_, _, _, rfl, this.1, fun _ => this.2, hi4⟩

theorem l1Once_some (b : List Int) (hb : b.length ≤ 140737488351232) (i h n : Int) (hi : 0 ≤ i) (hn : n ≤ 4294967296) : ∃ x i' h', spec_l1Once.f b i h n = some (x, i', h') ∧ 0 ≤ i' := by
  unfold spec_l1Once.f
  obtain ⟨x, i', h', e, _, _, hi'⟩ := l1Below_some b hb i h n hi hn
  rw [e]
  exact ⟨_, _, _, rfl, hi'⟩

theorem l1PickInt_some (b : List Int) (hb : b.length ≤ 140737488351232) (i h : Int) (l : List Int) (hi : 0 ≤ i) (h0 : 0 < l.length) (hl : l.length ≤ 4294967296) : ∃ x i' h', spec_l1PickInt.f b i h l = some (x, i', h') ∧ x ∈ l ∧ 0 ≤ i' := by
  unfold spec_l1PickInt.f
  obtain ⟨x, i', h', e, x0, x1, hi'⟩ := l1Below_some b hb i h (l.length : Int) hi (by omega)
  have x2 := x1 (by omega)
  rw [e]
  simp only [Option.bind_some]
  rw [if_pos x0, if_pos x2]
  refine ⟨_, _, _, rfl, ?_, hi'⟩
  have : x.toNat < l.length := by omega
  unfold rd
  rw [List.getD_eq_getElem?_getD, List.getElem?_eq_getElem this]
  exact List.getElem_mem this

theorem l8Right_loop (b : List Int) (hb : b.length ≤ 140737488351232) (p q r s t u v n : Int) (hn : n ≤ 100) (d : Nat) : ∀ (k : Nat) (j i h : Int) (l : List Int), 0 ≤ i → 0 ≤ j → j ≤ n → n - j = d → d < k → (l.length : Int) ≤ j → ∃ l' i' h', spec_l8Right.l0 k n j b i h p q r s t u v l = some (p, q, r, s, t, u, v, l', i', h') ∧ (l'.length : Int) ≤ n ∧ 0 ≤ i' := by
  induction d with
  | zero =>
    intro k j i h l hi hj0 hj hd hk hl
    obtain ⟨k, rfl⟩ : ∃ m, k = m + 1 := ⟨k - 1, by omega⟩
    exact ⟨l, i, h, by simp only [spec_l8Right.l0]; rw [if_neg (by omega)], by omega, hi⟩
  | succ d ih =>
    intro k j i h l hi hj0 hj hd hk hl
    obtain ⟨k, rfl⟩ : ∃ m, k = m + 1 := ⟨k - 1, by omega⟩
    simp only [spec_l8Right.l0]
    rw [if_pos (by omega)]
    obtain ⟨x, i1, h1, e1, _, _, hi1⟩ := l1Below_some b hb i h 3 hi (by omega)
    rw [e1]; simp only [Option.bind_some]
    rw [if_pos (by omega), w64_id (n := j + 1) (by omega) (by omega)]
    exact ih k (j + 1) i1 h1 _ hi1 (by omega) (by omega) (by omega) (by omega) (by simp; omega)
theorem l8Right_j1 (b : List Int) (hb : b.length ≤ 140737488351232) (i h p q r s t u v : Int) (hi : 0 ≤ i) (k : Nat) (hk : 7 ≤ k) : ∃ l' i' h', spec_l8Right.j1 k b i h p q r s t u v = some (p, q, r, s, t, u, v, l', i', h') ∧ (l'.length : Int) ≤ 4 ∧ 0 ≤ i' := by
  obtain ⟨k, rfl⟩ : ∃ m, k = m + 1 := ⟨k - 1, by omega⟩
  simp only [spec_l8Right.j1]
  obtain ⟨x, i1, h1, e1, x0, x1, hi1⟩ := l1Below_some b hb i h 5 hi (by omega)
  have x2 := x1 (by omega)
  rw [e1]; simp only [Option.bind_some]
  obtain ⟨l', i', h', e, hl, hi'⟩ := l8Right_loop b hb p q r s t u v x (by omega) x.toNat k 0 i1 h1 [] hi1 (by omega) (by omega) (by omega) (by omega) (by simp)
  exact ⟨l', i', h', e, by omega, hi'⟩
theorem l8Right_j0 (b : List Int) (hb : b.length ≤ 140737488351232) (i h p q r s t u v : Int) (hi : 0 ≤ i) (hv : v ≤ 4) (k : Nat) (hk : 8 ≤ k) : ∃ u' l' i' h', spec_l8Right.j0 k b i h p q r s t u v = some (p, q, r, s, t, u', v, l', i', h') ∧ (l'.length : Int) ≤ 4 ∧ 0 ≤ i' := by
  obtain ⟨k, rfl⟩ : ∃ m, k = m + 1 := ⟨k - 1, by omega⟩
  simp only [spec_l8Right.j0]
  obtain ⟨x, i1, h1, e1, hi1⟩ := l1Once_some b hb i h 4 hi (by omega)
  rw [e1]; simp only [Option.bind_some]
  by_cases c : x = true
  · rw [if_pos c]
    obtain ⟨y, i2, h2, e2, y0, y1, hi2⟩ := l1Below_some b hb i1 h1 v hi1 (by omega)
    rw [e2]; simp only [Option.bind_some]
    obtain ⟨l', i', h', e, hl, hi'⟩ := l8Right_j1 b hb i2 h2 p q r s t (wrap64 (1 + y)) v hi2 k (by omega)
    exact ⟨_, l', i', h', e, hl, hi'⟩
  · rw [if_neg c]
    obtain ⟨l', i', h', e, hl, hi'⟩ := l8Right_j1 b hb i1 h1 p q r s t u v hi1 k (by omega)
    exact ⟨_, l', i', h', e, hl, hi'⟩
theorem l8Right_some (b : List Int) (hb : b.length ≤ 140737488351232) (i h : Int) (hi : 0 ≤ i) (k : Nat) (hk : 8 ≤ k) : ∃ p q r s t u v l i' h', spec_l8Right.f k b i h = some (p, q, r, s, t, u, v, l, i', h') ∧ (l.length : Int) ≤ 4 ∧ 0 ≤ i' := by
  unfold spec_l8Right.f
  obtain ⟨x1, i1, h1, e1, _, _, hi1⟩ := l1Below_some b hb i h 4 hi (by omega)
  rw [e1]; simp only [Option.bind_some]
  obtain ⟨x2, i2, h2, e2, _, _, hi2⟩ := l1Below_some b hb i1 h1 4 hi1 (by omega)
  rw [e2]; simp only [Option.bind_some]
  obtain ⟨x3, i3, h3, e3, _, _, hi3⟩ := l1Below_some b hb i2 h2 5 hi2 (by omega)
  rw [e3]; simp only [Option.bind_some]
  obtain ⟨x4, i4, h4, e4, _, _, hi4⟩ := l1Below_some b hb i3 h3 3 hi3 (by omega)
  rw [e4]; simp only [Option.bind_some]
  obtain ⟨x5, i5, h5, e5, _, _, hi5⟩ := l1Below_some b hb i4 h4 3 hi4 (by omega)
  rw [e5]; simp only [Option.bind_some]
  obtain ⟨x6, i6, h6, e6, x60, x61, hi6⟩ := l1Below_some b hb i5 h5 3 hi5 (by omega)
  have x62 := x61 (by omega)
  rw [e6]; simp only [Option.bind_some]
  obtain ⟨x7, i7, h7, e7, hi7⟩ := l1Once_some b hb i6 h6 8 hi6 (by omega)
  rw [e7]; simp only [Option.bind_some]
  have w : wrap64 (1 + x6) = 1 + x6 := w64_id (by omega) (by omega)
  by_cases c : x7 = true
  · rw [if_pos c]
    obtain ⟨x8, i8, h8, e8, _, _, hi8⟩ := l1Below_some b hb i7 h7 100 hi7 (by omega)
    rw [e8]; simp only [Option.bind_some]
    obtain ⟨u, l, i', h', e, hl, hi'⟩ := l8Right_j0 b hb i8 h8 (wrap64 (1 + x1)) x2 (wrap64 (2 + x3)) (wrap64 (1 + x8)) (wrap64 (1 + x5)) 1 (wrap64 (1 + x6)) hi8 (by omega) k hk
    exact ⟨_, _, _, _, _, _, _, _, _, _, e, hl, hi'⟩
  · rw [if_neg c]
    obtain ⟨u, l, i', h', e, hl, hi'⟩ := l8Right_j0 b hb i7 h7 (wrap64 (1 + x1)) x2 (wrap64 (2 + x3)) (wrap64 (1 + x4)) (wrap64 (1 + x5)) 1 (wrap64 (1 + x6)) hi7 (by omega) k hk
    exact ⟨_, _, _, _, _, _, _, _, _, _, e, hl, hi'⟩

theorem l8Bent_some (b : List Int) (hb : b.length ≤ 140737488351232) (i h : Int) (hi : 0 ≤ i) (k : Nat) (hk : 8 ≤ k) : ∃ p q r s t u v l i' h', spec_l8Bent.f k b i h = some (p, q, r, s, t, u, v, l, i', h') ∧ (l.length : Int) ≤ 5 ∧ 0 ≤ i' := by
  unfold spec_l8Bent.f
  obtain ⟨p, q, r, s, t, u, v, l, i1, h1, e1, hl, hi1⟩ := l8Right_some b hb i h hi k hk
  rw [e1]; simp only [Option.bind_some]
  obtain ⟨x, i2, h2, e2, _, _, hi2⟩ := l1Below_some b hb i1 h1 12 hi1 (by omega)
  rw [e2]; simp only [Option.bind_some]
  have pick : ∀ (L : List Int), 0 < L.length → L.length ≤ 4294967296 → ∃ y i' h', spec_l1PickInt.f b i2 h2 L = some (y, i', h') ∧ 0 ≤ i' := by
    intro L a0 a1
    obtain ⟨y, i3, h3, e3, _, hi3⟩ := l1PickInt_some b hb i2 h2 L hi2 a0 a1
    exact ⟨y, i3, h3, e3, hi3⟩
  by_cases c0 : x = 0
  · rw [if_pos c0]
    obtain ⟨y, i3, h3, e3, hi3⟩ := pick [0, 1, 8, 9, (-1)] (by simp) (by simp)
    rw [e3]; exact ⟨_, _, _, _, _, _, _, _, _, _, rfl, by omega, hi3⟩
  rw [if_neg c0]
  by_cases c1 : x = 1
  · rw [if_pos c1]
    obtain ⟨y, i3, h3, e3, hi3⟩ := pick [(-1), 0, 4, 5] (by simp) (by simp)
    rw [e3]; exact ⟨_, _, _, _, _, _, _, _, _, _, rfl, by omega, hi3⟩
  rw [if_neg c1]
  by_cases c2 : x = 2
  · rw [if_pos c2]
    obtain ⟨y, i3, h3, e3, hi3⟩ := pick [1, 2, 8, 9] (by simp) (by simp)
    rw [e3]; exact ⟨_, _, _, _, _, _, _, _, _, _, rfl, by omega, hi3⟩
  rw [if_neg c2]
  by_cases c3 : x = 3
  · rw [if_pos c3]
    obtain ⟨y, i3, h3, e3, hi3⟩ := pick [0, 1, 100, 101, 9223372036854775807] (by simp) (by simp)
    rw [e3]; exact ⟨_, _, _, _, _, _, _, _, _, _, rfl, by omega, hi3⟩
  rw [if_neg c3]
  by_cases c4 : x = 4
  · rw [if_pos c4]
    obtain ⟨y, i3, h3, e3, hi3⟩ := pick [0, 1, 20, 21] (by simp) (by simp)
    rw [e3]; exact ⟨_, _, _, _, _, _, _, _, _, _, rfl, by omega, hi3⟩
  rw [if_neg c4]
  by_cases c5 : x = 5
  · rw [if_pos c5]
    obtain ⟨y, i3, h3, e3, hi3⟩ := pick [0, 1, v, wrap64 (v + 1), (-1)] (by simp) (by simp)
    rw [e3]; exact ⟨_, _, _, _, _, _, _, _, _, _, rfl, by omega, hi3⟩
  rw [if_neg c5]
  by_cases c6 : x = 6
  · rw [if_pos c6]
    obtain ⟨y, i3, h3, e3, hi3⟩ := pick [0, 1, 1000, 1001, 9223372036854775807] (by simp) (by simp)
    rw [e3]; exact ⟨_, _, _, _, _, _, _, _, _, _, rfl, by omega, hi3⟩
  rw [if_neg c6]
  by_cases c7 : x = 7
  · rw [if_pos c7]
    obtain ⟨y, i3, h3, e3, _, _, hi3⟩ := l1Below_some b hb i2 h2 5 hi2 (by omega)
    rw [e3]; simp only [Option.bind_some]
    rw [if_pos (by omega)]
    exact ⟨_, _, _, _, _, _, _, _, _, _, rfl, by simp; omega, hi3⟩
  · rw [if_neg c7]
    exact ⟨_, _, _, _, _, _, _, _, _, _, rfl, by omega, hi2⟩

theorem impl_within_eq (a b c : Int) : impl_within.f a b c = some (iin a b c) := by
  unfold impl_within.f iin
  by_cases h : a ≥ b
  · rw [if_pos h]; simp [show b ≤ a from h]
  · rw [if_neg h]; simp [show ¬ b ≤ a from h]

/-- The sign of a feature. -/
def signAt (l : List Int) (f : Int) : Int := if 0 ≤ f ∧ f < l.length then rd l f else 0
theorem impl_SignFor_eq (a b c d e g h : Int) (l : List Int) (f : Int) (hl : l.length ≤ 140737488351232) : impl_SignFor.f a b c d e g h l f = some (signAt l f) := by
  unfold impl_SignFor.f signAt
  rw [w64_id (n := (l.length : Int) - 1) (by omega) (by omega), impl_within_eq]
  simp only [Option.bind_some]
  by_cases z : 0 ≤ f ∧ f < l.length
  · have : iin f 0 ((l.length : Int) - 1) = true := by unfold iin; simp; omega
    rw [if_pos this, if_pos z.1, if_pos z.2, if_pos z]
  · have : ¬ iin f 0 ((l.length : Int) - 1) = true := by unfold iin; simp; omega
    rw [if_neg this, if_neg z]

theorem spec_l1In_eq (a b c : Int) : spec_l1In.f a b c = some (iin a b c) := by
  unfold spec_l1In.f iin
  by_cases h : a ≥ b
  · rw [if_pos h]; simp [show b ≤ a from h]
  · rw [if_neg h]; simp [show ¬ b ≤ a from h]

theorem spec_SignFor_eq (a b c d e g h : Int) (l : List Int) (f : Int) (hl : l.length ≤ 140737488351232) : spec_SignFor.f a b c d e g h l f = some (signAt l f) := by
  unfold spec_SignFor.f signAt
  rw [w64_id (n := (l.length : Int) - 1) (by omega) (by omega), spec_l1In_eq]
  simp only [Option.bind_some]
  by_cases z : 0 ≤ f ∧ f < l.length
  · have : iin f 0 ((l.length : Int) - 1) = true := by unfold iin; simp; omega
    rw [if_pos this, if_pos z.1, if_pos z.2, if_pos z]
  · have : ¬ iin f 0 ((l.length : Int) - 1) = true := by unfold iin; simp; omega
    rw [if_neg this, if_neg z]

theorem FnSigns : laws_FnSigns.Pure := by
  intro b _ hb _
  refine ⟨b.length + 10, ?_⟩
  have hb' : b.length ≤ 140737488351232 := by omega
  unfold laws_FnSigns.f spec_DrawSignFor.f
  rw [laws_big_eq]; simp only [Option.bind_some]
  by_cases hbig : decide ((b.length : Int) > 1048576) = true
  · rw [if_pos hbig]
  · rw [if_neg hbig]
    obtain ⟨h, e⟩ := l1New_some b hb' (b.length + 10) (by omega)
    rw [e]; simp only [Option.bind_some]
    obtain ⟨p, q, r, s, t, u, v, l, i1, h1, e1, hl, hi1⟩ := l8Bent_some b hb' 0 h (by omega) (b.length + 10) (by omega)
    rw [e1]; simp only [Option.bind_some]
    obtain ⟨f, i2, h2, e2, _, hi2⟩ := l1PickInt_some b hb' i1 h1 [0, 1, 2, 3, 4, (-1), 9223372036854775807] hi1 (by simp) (by simp)
    rw [e2]; simp only [Option.bind_some]
    rw [impl_SignFor_eq p q r s t u v l f (by omega), spec_SignFor_eq p q r s t u v l f (by omega)]
    simp only [Option.bind_some, if_true]
    unfold signAt
    by_cases c1 : f ≥ 0
    · rw [if_pos c1]
      by_cases c2 : f < (l.length : Int)
      · rw [if_pos c2, if_pos c1, if_pos (show 0 ≤ f ∧ f < (l.length : Int) from ⟨c1, c2⟩), if_pos rfl]
      · rw [if_neg c2, if_neg (by omega), if_pos (by omega), if_neg (show ¬ (0 ≤ f ∧ f < (l.length : Int)) by omega)]
        simp
    · rw [if_neg c1, if_pos (by omega), if_neg (show ¬ (0 ≤ f ∧ f < (l.length : Int)) by omega)]
      simp

end Go.Proofs.Ytlndcgmojabgbaa.Pure
