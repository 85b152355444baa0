/- The decimal text of a number: program and reference give the same bytes. Conditions: each number is one of its kind, as the row says. -/
import Derived.Test.YteldfljjeofiaaaDoorPFnExactDigitsx
import Derived.Test.YteldfljjeofiaaaDoorBase
set_option linter.unusedSimpArgs false
set_option linter.unusedVariables false
namespace Go.Proofs.YteldfljjeofiaaaDoor.Pure
open Go.RowKit Go.Proofs.YteldfljjeofiaaaDoor.Base Go.Proofs.YteldfljjeofiaaaDoor.PFnExactDigits Go.Proofs.YteldfljjeofiaaaDoorW.PrintWords Go.Proofs.YteldfljjeofiaaaDoorW.PrintLast Go.Proofs.YteldfljjeofiaaaDoorW.PrintMore

/-- The decimal digits of a number, none for 0. -/
def digs (u : Nat) : List UInt8 := if u = 0 then [] else Go.Lib.decDigits u
theorem digs_step {u : Nat} (h : u ≠ 0) : digs u = digs (u / 10) ++ [UInt8.ofNat (48 + u % 10)] := by
  unfold digs
  rw [if_neg h]
  by_cases c : u < 10
  · rw [Go.Lib.decDigits_one c, if_pos (by omega)]
    have : u % 10 = u := Nat.mod_eq_of_lt c
    rw [this]; rfl
  · rw [Go.Lib.decDigits, dif_neg c, if_neg (by omega)]
theorem byte_of (n : Nat) (h : n < 10) : strOfNums [(wrap64 (48 + (n : Int))) % 256] = ⟨#[UInt8.ofNat (48 + n)]⟩ := by
  have e : (wrap64 (48 + (n : Int))) % 256 = ((48 + n : Nat) : Int) := by unfold wrap64; omega
  rw [e]
  rfl
theorem mk_app (a b : List UInt8) : (⟨a.toArray⟩ : ByteArray) ++ ⟨b.toArray⟩ = ⟨(a ++ b).toArray⟩ := by
  apply ByteArray.ext
  simp
theorem spec_Digits_l (d : Nat) : ∀ (k : Nat) (n : Int) (s : Bool) (acc : List UInt8), n.natAbs < 10 ^ d → d < k → d + acc.length ≤ 40 → -9223372036854775808 ≤ n → n ≤ 9223372036854775807 →
    spec_Digits.l0 k n s ⟨acc.toArray⟩ = some ⟨((if s = true then [45] else []) ++ digs n.natAbs ++ acc).toArray⟩ := by
  induction d with
  | zero =>
    intro k n s acc h0 hk ha _ _
    obtain ⟨k, rfl⟩ : ∃ m, k = m + 1 := ⟨k - 1, by omega⟩
    have hn : n = 0 := by simp at h0; omega
    subst hn
    simp only [spec_Digits.l0]
    rw [if_pos trivial]
    have e0 : digs (Int.natAbs 0) = [] := rfl
    rw [e0]
    have hsz : 1 + (⟨acc.toArray⟩ : ByteArray).size ≤ 9223372036854775807 := by
      have : (⟨acc.toArray⟩ : ByteArray).size = acc.length := by simp [ByteArray.size]
      omega
    cases s
    · rw [if_neg (by decide), if_neg (by decide)]; simp
    · rw [if_pos rfl, if_pos hsz, if_pos rfl]
      have := mk_app [45] acc
      exact congrArg some (this.trans (by simp))
  | succ d ih =>
    intro k n s acc h0 hk ha b0 b1
    obtain ⟨k, rfl⟩ : ∃ m, k = m + 1 := ⟨k - 1, by omega⟩
    have hsz : (⟨acc.toArray⟩ : ByteArray).size = acc.length := by simp [ByteArray.size]
    by_cases hn : n = 0
    · subst hn
      simp only [spec_Digits.l0]
      rw [if_pos trivial]
      have e0 : digs (Int.natAbs 0) = [] := rfl
      rw [e0]
      cases s
      · rw [if_neg (by decide), if_neg (by decide)]; simp
      · rw [if_pos rfl, if_pos (by omega), if_pos rfl]
        have := mk_app [45] acc
        exact congrArg some (this.trans (by simp))
    · simp only [spec_Digits.l0]
      rw [if_neg hn]
      have hu : n.natAbs ≠ 0 := by omega
      have hq : (wrap64 (Int.tdiv n 10)) = Int.tdiv n 10 := by
        have h1 : (Int.tdiv n 10).natAbs = n.natAbs / 10 := Int.natAbs_tdiv n 10
        unfold wrap64; omega
      have hqa : (Int.tdiv n 10).natAbs = n.natAbs / 10 := Int.natAbs_tdiv n 10
      have hqd : (Int.tdiv n 10).natAbs < 10 ^ d := by rw [hqa]; rw [Nat.pow_succ] at h0; omega
      have hqb : -9223372036854775808 ≤ Int.tdiv n 10 ∧ Int.tdiv n 10 ≤ 9223372036854775807 := by omega
      have hr : (Int.tmod n 10).natAbs = n.natAbs % 10 := Int.natAbs_tmod n 10
      have tail : ∀ y : ByteArray, y = ⟨#[UInt8.ofNat (48 + n.natAbs % 10)]⟩ → (if y.size + (⟨acc.toArray⟩ : ByteArray).size ≤ 9223372036854775807 then spec_Digits.l0 k (wrap64 (Int.tdiv n 10)) s (y ++ ⟨acc.toArray⟩) else none) = some ⟨((if s = true then [45] else []) ++ digs n.natAbs ++ acc).toArray⟩ := by
        intro y hy
        subst hy
        have e1 : (⟨#[UInt8.ofNat (48 + n.natAbs % 10)]⟩ : ByteArray).size = 1 := rfl
        have e2 : (⟨#[UInt8.ofNat (48 + n.natAbs % 10)]⟩ : ByteArray) ++ ⟨acc.toArray⟩ = ⟨(UInt8.ofNat (48 + n.natAbs % 10) :: acc).toArray⟩ := mk_app [UInt8.ofNat (48 + n.natAbs % 10)] acc
        rw [if_pos (by omega), e2, hq, ih k _ s _ hqd (by omega) (by simp only [List.length_cons]; omega) hqb.1 hqb.2, hqa, digs_step hu]
        simp
      by_cases c : Int.tmod n 10 < 0
      · rw [if_pos c]
        have e : wrap64 (-(Int.tmod n 10)) = ((n.natAbs % 10 : Nat) : Int) := by unfold wrap64; omega
        rw [e]
        exact tail _ (byte_of _ (by omega))
      · rw [if_neg c]
        have e : Int.tmod n 10 = ((n.natAbs % 10 : Nat) : Int) := by omega
        rw [e]
        exact tail _ (byte_of _ (by omega))
theorem spec_Digits_is (n : Int) (b0 : -9223372036854775808 ≤ n) (b1 : n ≤ 9223372036854775807) : spec_Digits.f 30 n = some ⟨(Go.Lib.itoa n).toArray⟩ := by
  unfold spec_Digits.f
  by_cases hn : n = 0
  · subst hn
    rw [if_pos rfl]
    rw [show Go.Lib.itoa 0 = [48] from by rw [show (0 : Int) = ((0 : Nat) : Int) from rfl, Go.Lib.itoa_nonneg, Go.Lib.decDigits_one (by decide)]; rfl]
  · rw [if_neg hn]
    have h := spec_Digits_l 20 30 n (decide (n < 0)) [] (by omega) (by decide) (by decide) b0 b1
    have e0 : (⟨#[]⟩ : ByteArray) = ⟨([] : List UInt8).toArray⟩ := rfl
    rw [e0, h]
    have ed : digs n.natAbs = Go.Lib.decDigits n.natAbs := by unfold digs; rw [if_neg (by omega)]
    rw [ed]
    unfold Go.Lib.itoa
    by_cases c : n < 0
    · rw [if_pos c, if_pos (decide_eq_true c)]; simp
    · rw [if_neg c, if_neg (by simpa using c)]
      have : n.toNat = n.natAbs := by omega
      rw [this]; simp

theorem FnExactDigits (n : Int) (w0 : (Lit.int .i64 n).wf = true) : ∃ k, laws_FnExactDigits.f k n = some true := by
  have ⟨p0, p1⟩ := wf64 w0
  refine ⟨30, ?_⟩
  unfold laws_FnExactDigits.f
  rw [spec_Digits_is n p0 p1]
  simp only [Option.bind_some]
  have e : impl_Digits.f n = some ⟨(Go.Lib.itoa n).toArray⟩ := by
    unfold impl_Digits.f strconv_Itoa_6.f
    rw [if_pos ⟨p0, p1⟩]; rfl
  rw [e]
  simp

end Go.Proofs.YteldfljjeofiaaaDoor.Pure
