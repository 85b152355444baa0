/- The integer of a wide number: program and reference tell it, and that there is none, for all wide values. Conditions: each number is one of its kind, as the row says. -/
import Derived.Test.YthognlaaedohgaaPFnExactIntOfx
import Derived.Test.YthognlaaedohgaaBase
set_option linter.unusedSimpArgs false
set_option linter.unusedVariables false
namespace Go.Proofs.Ythognlaaedohgaa.Pure
open Go.RowKit Go.Proofs.Ythognlaaedohgaa.Base Go.Proofs.Ythognlaaedohgaa.PFnExactIntOf Go.Proofs.YthognlaaedohgaaW.PrintWords Go.Proofs.YthognlaaedohgaaW.PrintLast Go.Proofs.YthognlaaedohgaaW.PrintMore

theorem impl_size_eq (a : Int) (h0 : -9223372036854775808 ≤ a) (h1 : a ≤ 9223372036854775807) : impl_size.f a = some (iabs a) := by
  unfold impl_size.f iabs
  by_cases h : a < 0
  · rw [if_pos h, if_pos h]; simp only [wu64]; congr 1; omega
  · rw [if_neg h, if_neg h]; simp only [wu64]; congr 1; omega

theorem impl_wideOf_eq (n : Bool) (h l : Int) : impl_wideOf.f n h l = some (wnz n h l, h, l) := by
  unfold impl_wideOf.f wnz
  cases n
  · simp
  · by_cases c : h > 0 <;> simp [c]

theorem impl_WideOf_eq (a : Int) (h0 : -9223372036854775808 ≤ a) (h1 : a ≤ 9223372036854775807) : impl_WideOf.f a = some (wnorm a) := by
  have hb := iabs_u64 h0 h1
  unfold impl_WideOf.f
  simp only [impl_size_eq a h0 h1, impl_wideOf_eq, Option.bind_some, wnorm, wnz]
  have e1 : iabs a / 18446744073709551616 = 0 := by omega
  have e2 : iabs a % 18446744073709551616 = iabs a := by omega
  rw [e1, e2]
  by_cases c : a < 0
  · have : iabs a > 0 := by unfold iabs; rw [if_pos c]; omega
    simp [c, this]
  · simp [c]

/-- What the integer of a wide number is. -/
def intAns (n : Bool) (h l : Int) : Int × Bool := if n = true then (if h = 0 ∧ 1 ≤ l ∧ l ≤ 9223372036854775808 then (-l, true) else (0, false)) else (if h = 0 ∧ l ≤ 9223372036854775807 then (l, true) else (0, false))
theorem wnorm_i64 {v : Int} (h0 : -9223372036854775808 ≤ v) (h1 : v ≤ 9223372036854775807) : wnorm v = (decide (v < 0), 0, iabs v) := by
  have := iabs_u64 h0 h1
  unfold wnorm
  rw [show iabs v / 18446744073709551616 = 0 by omega, show iabs v % 18446744073709551616 = iabs v by omega]
theorem impl_IntOf_eq (n : Bool) (h l : Int) (h0 : 0 ≤ h) (l0 : 0 ≤ l) (l1 : l < 18446744073709551616) : impl_IntOf.f n h l = some (intAns n h l) := by
  unfold impl_IntOf.f intAns
  cases n
  · simp only [Bool.false_eq_true, if_false]
    have r := w64_range l
    rw [impl_WideOf_eq _ r.1 r.2, wnorm_i64 r.1 r.2]
    simp only [Option.bind_some]
    by_cases c : h = 0 ∧ l ≤ 9223372036854775807
    · rw [if_pos c]
      have e : wrap64 l = l := w64_id (by omega) c.2
      have e2 : iabs l = l := by unfold iabs; rw [if_neg (by omega)]
      rw [e, e2, c.1]
      have : ¬ l < 0 := by omega
      simp [this]
    · rw [if_neg c]
      rw [if_pos]
      by_cases d : h = 0
      · have e : wrap64 l < 0 := by unfold wrap64; omega
        simp [e]
      · have e : ((0 : Int) == h) = false := beq_eq_false_iff_ne.mpr (fun z => d z.symm)
        simp [e]
  · simp only [if_true]
    have r := w64_range (-wrap64 l)
    rw [impl_WideOf_eq _ r.1 r.2, wnorm_i64 r.1 r.2]
    simp only [Option.bind_some]
    by_cases c : h = 0 ∧ 1 ≤ l ∧ l ≤ 9223372036854775808
    · rw [if_pos c]
      have e : wrap64 (-wrap64 l) = -l := by unfold wrap64; omega
      have e2 : iabs (-l) = l := by unfold iabs; rw [if_pos (by omega)]; omega
      rw [e, e2, c.1]
      have : -l < 0 := by omega
      have this2 : 0 < l := by omega
      simp [this2]
    · rw [if_neg c]
      rw [if_pos]
      by_cases d : h = 0
      · by_cases z : l = 0
        · subst z
          have : ¬ wrap64 (-wrap64 0) < 0 := by unfold wrap64; omega
          simp [this]
        · have hl : l > 9223372036854775808 := by omega
          have : ¬ wrap64 (-wrap64 l) < 0 := by unfold wrap64; omega
          simp [this]
      · have e : ((0 : Int) == h) = false := beq_eq_false_iff_ne.mpr (fun z => d z.symm)
        simp [e]

theorem spec_IntOf_eq (n : Bool) (h l : Int) (h0 : 0 ≤ h) (l0 : 0 ≤ l) (l1 : l < 18446744073709551616) (k : Nat) (hk : 1 ≤ k) : spec_IntOf.f k n h l = some (intAns n h l) := by
  obtain ⟨k, rfl⟩ : ∃ j, k = j + 1 := ⟨k - 1, by omega⟩
  unfold spec_IntOf.f intAns
  simp only [spec_IntOf.j0]
  by_cases c1 : h > 0
  · have hz : ¬ h = 0 := by omega
    rw [if_pos c1]
    cases n <;> simp [hz]
  · have hz : h = 0 := by omega
    subst hz
    rw [if_neg c1]
    by_cases c2 : l > 9223372036854775808
    · rw [if_pos c2]
      have a1 : ¬ l ≤ 9223372036854775808 := by omega
      have a2 : ¬ l ≤ 9223372036854775807 := by omega
      cases n <;> simp [a1, a2]
    · rw [if_neg c2]
      have a1 : l ≤ 9223372036854775808 := by omega
      cases n
      · by_cases c3 : l = 9223372036854775808
        · rw [if_pos c3]
          have a2 : ¬ l ≤ 9223372036854775807 := by omega
          simp [a2]
        · rw [if_neg c3]
          have a2 : l ≤ 9223372036854775807 := by omega
          have e : wrap64 l = l := w64_id (by omega) a2
          simp [a2, e]
      · have hw : wrap64 (wrap64 (-wrap64 (IntKind.u64.wrap (l - 1))) - 1) = -l ∨ l = 0 := by
          by_cases z : l = 0
          · exact .inr z
          · left
            rw [wu64]; unfold wrap64; omega
        simp only [if_true, ite_self, beq_iff_eq]
        by_cases z : l = 0
        · subst z; simp
        · have hw2 := hw.resolve_right z
          have a2 : 1 ≤ l := by omega
          rw [hw2]
          simp [z, a1, a2]

theorem FnExactIntOf (n : Bool) (h l : Int) (w1 : (Lit.int .u64 h).wf = true) (w2 : (Lit.int .u64 l).wf = true) : ∃ k, laws_FnExactIntOf.f k n h l = some true := by
  have ⟨p0, p1⟩ := wfu64 w1
  have ⟨q0, q1⟩ := wfu64 w2
  refine ⟨1, ?_⟩
  unfold laws_FnExactIntOf.f laws_toWide.f
  simp only [Option.bind_some, impl_IntOf_eq n h l p0 q0 q1, spec_IntOf_eq n h l p0 q0 q1 1 (by omega)]
  simp

end Go.Proofs.Ythognlaaedohgaa.Pure
