/- The wide number with the other sign: program and reference agree on every wide value of two 64-bit parts. Conditions: each number is one of its kind, as the row says. -/
import Derived.Test.YtlndcgmojabgbaaPFnExactNegWidex
import Derived.Test.YtlndcgmojabgbaaBase
set_option linter.unusedSimpArgs false
set_option linter.unusedVariables false
namespace Go.Proofs.Ytlndcgmojabgbaa.Pure
open Go.RowKit Go.Proofs.Ytlndcgmojabgbaa.Base Go.Proofs.Ytlndcgmojabgbaa.PFnExactNegWide Go.Proofs.YtlndcgmojabgbaaW.PrintWords Go.Proofs.YtlndcgmojabgbaaW.PrintLast Go.Proofs.YtlndcgmojabgbaaW.PrintMore

theorem impl_WideOk_eq (n : Bool) (h l : Int) : impl_WideOk.f n h l = some (wok n h l) := by
  unfold impl_WideOk.f wok
  by_cases c1 : h < 9223372036854775808
  · rw [if_pos c1]
    cases n
    · simp [c1]
    · by_cases c2 : h > 0
      · simp [c1, c2]
      · simp [c1, c2]
  · rw [if_neg c1]; simp [c1]

theorem spec_WideOk_eq (n : Bool) (h l : Int) : spec_WideOk.f n h l = some (wok n h l) := by
  unfold spec_WideOk.f wok
  by_cases c1 : h < 9223372036854775808
  · rw [if_pos c1]
    cases n
    · simp [c1]
    · by_cases c2 : h > 0
      · simp [c1, c2]
      · simp [c1, c2]
  · rw [if_neg c1]; simp [c1]

theorem impl_wideOf_eq (n : Bool) (h l : Int) : impl_wideOf.f n h l = some (wnz n h l, h, l) := by
  unfold impl_wideOf.f wnz
  cases n
  · simp
  · by_cases c : h > 0 <;> simp [c]

theorem laws_eqWide_self (n : Bool) (h l : Int) : laws_eqWide.f n h l n h l = some true := by
  unfold laws_eqWide.f; simp

theorem FnExactNegWide (n : Bool) (h l : Int) (hh : (Lit.int .u64 h).wf = true) (hl : (Lit.int .u64 l).wf = true) : laws_FnExactNegWide.f n h l = some true := by
  have ⟨h0, h1⟩ := wfu64 hh
  have ⟨l0, l1⟩ := wfu64 hl
  have key : spec_NegWide.f n h l = impl_NegWide.f n h l := by
    unfold spec_NegWide.f impl_NegWide.f
    simp only [impl_WideOk_eq, spec_WideOk_eq, impl_wideOf_eq, Option.bind_some]
    by_cases c : wok n h l = true
    · rw [if_pos c, if_pos c]
      by_cases d : h = 0
      · rw [if_pos d]
        by_cases e : l = 0
        · rw [if_pos e]
          unfold wok at c
          cases n <;> simp_all [wnz]
        · rw [if_neg e]
          have : l > 0 := by omega
          simp [wnz, this]
      · rw [if_neg d]
        have : h > 0 := by omega
        simp [wnz, this]
    · rw [if_neg c, if_neg c]
  have some_ : ∃ r, impl_NegWide.f n h l = some r := by
    unfold impl_NegWide.f
    simp only [impl_WideOk_eq, impl_wideOf_eq, Option.bind_some]
    by_cases c : wok n h l = true
    · exact ⟨_, by rw [if_pos c]⟩
    · exact ⟨_, by rw [if_neg c]⟩
  obtain ⟨r, hr⟩ := some_
  unfold laws_FnExactNegWide.f laws_toWide.f
  simp only [Option.bind_some, key, hr, laws_eqWide_self]
  rfl

end Go.Proofs.Ytlndcgmojabgbaa.Pure
