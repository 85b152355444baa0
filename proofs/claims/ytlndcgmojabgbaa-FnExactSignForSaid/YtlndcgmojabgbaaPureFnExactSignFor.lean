/- The sign of a feature: program and reference read the same element, or none. Conditions: each number is one of its kind, as the row says. -/
import Derived.Test.YtlndcgmojabgbaaPFnExactSignForx
import Derived.Test.YtlndcgmojabgbaaBase
set_option linter.unusedSimpArgs false
set_option linter.unusedVariables false
namespace Go.Proofs.Ytlndcgmojabgbaa.Pure
open Go.RowKit Go.Proofs.Ytlndcgmojabgbaa.Base Go.Proofs.Ytlndcgmojabgbaa.PFnExactSignFor Go.Proofs.YtlndcgmojabgbaaW.PrintWords Go.Proofs.YtlndcgmojabgbaaW.PrintLast Go.Proofs.YtlndcgmojabgbaaW.PrintMore

theorem toIntS_loop (l : List Int) (hl : l.length ≤ 17592186044416) (d : Nat) : ∀ (k : Nat) (x : List Int) (i : Int), 0 ≤ i → i ≤ l.length → (l.length : Int) - i = d → d < k → x.length = l.length → (∀ j : Nat, (j : Int) < i → x[j]? = l[j]?) → laws_toIntS.l0 k l x i = some l := by
  induction d with
  | zero =>
    intro k x i h0 h1 hd hk hx hj
    obtain ⟨k, rfl⟩ : ∃ m, k = m + 1 := ⟨k - 1, by omega⟩
    simp only [laws_toIntS.l0]
    rw [if_neg (by omega)]
    congr 1
    apply List.ext_getElem?
    intro j
    by_cases c : (j : Int) < i
    · exact hj j c
    · rw [List.getElem?_eq_none (by omega), List.getElem?_eq_none (by omega)]
  | succ d ih =>
    intro k x i h0 h1 hd hk hx hj
    obtain ⟨k, rfl⟩ : ∃ m, k = m + 1 := ⟨k - 1, by omega⟩
    simp only [laws_toIntS.l0]
    rw [if_pos (by omega), if_pos h0, if_pos (by omega), w64_id (n := i + 1) (by omega) (by omega)]
    refine ih k _ (i + 1) (by omega) (by omega) (by omega) (by omega) (by simp [hx]) ?_
    intro j hji
    by_cases c : j = i.toNat
    · subst c
      rw [List.getElem?_set_self (by omega)]
      unfold rd
      rw [List.getD_eq_getElem?_getD, List.getElem?_eq_getElem (by omega)]
      simp
    · rw [List.getElem?_set_ne (fun h => c h.symm)]
      exact hj j (by omega)
theorem laws_toIntS_eq (l : List Int) (hl : l.length ≤ 17592186044416) (k : Nat) (hk : l.length < k) : laws_toIntS.f k l = some l := by
  unfold laws_toIntS.f
  rw [if_pos (by omega), if_pos (by omega)]
  exact toIntS_loop l hl l.length k _ 0 (by omega) (by omega) (by omega) hk (by simp) (fun j hj => absurd hj (by omega))

theorem eqIntS_loop (l : List Int) (hl : l.length ≤ 140737488351232) (d : Nat) : ∀ (k : Nat) (i : Int), 0 ≤ i → i ≤ l.length → (l.length : Int) - i = d → d < k → laws_eqIntS.l0 k l l i = some true := by
  induction d with
  | zero =>
    intro k i h0 h1 hd hk
    obtain ⟨k, rfl⟩ : ∃ m, k = m + 1 := ⟨k - 1, by omega⟩
    simp only [laws_eqIntS.l0]
    rw [if_neg (by omega)]
  | succ d ih =>
    intro k i h0 h1 hd hk
    obtain ⟨k, rfl⟩ : ∃ m, k = m + 1 := ⟨k - 1, by omega⟩
    simp only [laws_eqIntS.l0]
    rw [if_pos (by omega), if_pos h0, if_pos (by omega), if_pos trivial, w64_id (n := i + 1) (by omega) (by omega)]
    exact ih k (i + 1) (by omega) (by omega) (by omega) (by omega)
theorem laws_eqIntS_self (l : List Int) (hl : l.length ≤ 140737488351232) (k : Nat) (hk : l.length < k) : laws_eqIntS.f k l l = some true := by
  unfold laws_eqIntS.f
  rw [if_pos rfl]
  exact eqIntS_loop l hl l.length k 0 (by omega) (by omega) (by omega) hk

theorem laws_toConfig_eq (a b c d e g h : Int) (l : List Int) (hl : l.length ≤ 17592186044416) (k : Nat) (hk : l.length < k) : laws_toConfig.f k a b c d e g h l = some (a, b, c, d, e, g, h, l) := by
  unfold laws_toConfig.f
  rw [laws_toIntS_eq l hl k hk]; rfl
theorem laws_eqConfig_self (a b c d e g h : Int) (l : List Int) (hl : l.length ≤ 140737488351232) (k : Nat) (hk : l.length < k) : laws_eqConfig.f k a b c d e g h l a b c d e g h l = some true := by
  unfold laws_eqConfig.f
  rw [laws_eqIntS_self l hl k hk]
  simp
theorem laws_szConfig_eq (a b c d e g h : Int) (l : List Int) (hl : l.length ≤ 9223372036854775807) : laws_szConfig.f a b c d e g h l 1048576 = some (if (1048576 : Int) - l.length < 0 then (-1 : Int) else (1048576 : Int) - l.length) := by
  unfold laws_szConfig.f laws_szIntS.f
  rw [w64_id (n := 1048576 - (l.length : Int)) (by omega) (by omega)]
  by_cases c : (1048576 : Int) - l.length < 0
  · rw [if_pos c, if_pos c]; rfl
  · rw [if_neg c, if_neg c]; simp only [Option.bind_some]; rw [if_neg c]

theorem impl_within_eq (a b c : Int) : impl_within.f a b c = some (iin a b c) := by
  unfold impl_within.f iin
  by_cases h : a ≥ b
  · rw [if_pos h]; simp [show b ≤ a from h]
  · rw [if_neg h]; simp [show ¬ b ≤ a from h]

/-- The sign of a feature. -/
def signAt (l : List Int) (f : Int) : Int := if 0 ≤ f ∧ f < l.length then rd l f else 0
theorem impl_SignFor_eq (a b c d e g h : Int) (l : List Int) (f : Int) (hl : l.length ≤ 140737488351232) : impl_SignFor.f a b c d e g h l f = some (signAt l f) := by
  unfold impl_SignFor.f signAt
  rw [w64_id (n := (l.length : Int) - 1) (by omega) (by omega), impl_within_eq]
  simp only [Option.bind_some]
  by_cases z : 0 ≤ f ∧ f < l.length
  · have : iin f 0 ((l.length : Int) - 1) = true := by unfold iin; simp; omega
    rw [if_pos this, if_pos z.1, if_pos z.2, if_pos z]
  · have : ¬ iin f 0 ((l.length : Int) - 1) = true := by unfold iin; simp; omega
    rw [if_neg this, if_neg z]

theorem spec_l1In_eq (a b c : Int) : spec_l1In.f a b c = some (iin a b c) := by
  unfold spec_l1In.f iin
  by_cases h : a ≥ b
  · rw [if_pos h]; simp [show b ≤ a from h]
  · rw [if_neg h]; simp [show ¬ b ≤ a from h]

theorem spec_SignFor_eq (a b c d e g h : Int) (l : List Int) (f : Int) (hl : l.length ≤ 140737488351232) : spec_SignFor.f a b c d e g h l f = some (signAt l f) := by
  unfold spec_SignFor.f signAt
  rw [w64_id (n := (l.length : Int) - 1) (by omega) (by omega), spec_l1In_eq]
  simp only [Option.bind_some]
  by_cases z : 0 ≤ f ∧ f < l.length
  · have : iin f 0 ((l.length : Int) - 1) = true := by unfold iin; simp; omega
    rw [if_pos this, if_pos z.1, if_pos z.2, if_pos z]
  · have : ¬ iin f 0 ((l.length : Int) - 1) = true := by unfold iin; simp; omega
    rw [if_neg this, if_neg z]

theorem FnExactSignFor (a b c d e g h : Int) (l : List Int) (f : Int) (_ : (Lit.int .i64 a).wf = true) (_ : (Lit.int .i64 b).wf = true) (_ : (Lit.int .i64 c).wf = true) (_ : (Lit.int .i64 d).wf = true) (_ : (Lit.int .i64 e).wf = true) (_ : (Lit.int .i64 g).wf = true) (_ : (Lit.int .i64 h).wf = true) (hm : l.length ≤ maxLen) (_ : ∀ x ∈ l, (Lit.int .i64 x).wf = true) (_ : (Lit.int .i64 f).wf = true) : ∃ k, laws_FnExactSignFor.f k a b c d e g h l f = some true := by
  refine ⟨l.length + 1, ?_⟩
  unfold maxLen at hm
  unfold laws_FnExactSignFor.f
  rw [laws_szConfig_eq a b c d e g h l hm]
  simp only [Option.bind_some]
  by_cases big : (1048576 : Int) - l.length < 0
  · rw [if_pos big]; simp
  · rw [if_neg big, if_neg big]
    simp only [Option.bind_some, laws_toConfig_eq a b c d e g h l (by omega) (l.length + 1) (by omega), impl_SignFor_eq a b c d e g h l f (by omega), spec_SignFor_eq a b c d e g h l f (by omega), laws_eqConfig_self a b c d e g h l (by omega) (l.length + 1) (by omega)]
    simp

end Go.Proofs.Ytlndcgmojabgbaa.Pure
