/- A number is read back from its decimal text, and no other text is taken. Conditions: each number is one of its kind, as the row says. -/
import Derived.Test.YtpcglglfegkdaaaDoorPFnDigitsx4
import Derived.Test.YtpcglglfegkdaaaDoorBase
set_option linter.unusedSimpArgs false
set_option linter.unusedVariables false
namespace Go.Proofs.YtpcglglfegkdaaaDoor.Pure
open Go.RowKit Go.Proofs.YtpcglglfegkdaaaDoor.Base Go.Proofs.YtpcglglfegkdaaaDoor.PFnDigits Go.Proofs.YtpcglglfegkdaaaDoorW.PrintWords Go.Proofs.YtpcglglfegkdaaaDoorW.PrintLast Go.Proofs.YtpcglglfegkdaaaDoorW.PrintMore

theorem laws_big_eq (b : List Int) : laws_big.f b = some (decide ((b.length : Int) > 1048576)) := by
  unfold laws_big.f; rfl

theorem impl_Digits_is (n : Int) (b0 : -9223372036854775808 ≤ n) (b1 : n ≤ 9223372036854775807) : impl_Digits.f n = some ⟨(Go.Lib.itoa n).toArray⟩ := by
  unfold impl_Digits.f strconv_Itoa_52.f
  rw [if_pos ⟨b0, b1⟩]; rfl

theorem dig_toNat (d : Nat) (h : d < 10) : (UInt8.ofNat (48 + d)).toNat = 48 + d := by
  rw [UInt8.toNat_ofNat']
  omega
theorem dec_head (u : Nat) : ∃ c r, Go.Lib.decDigits u = c :: r ∧ 48 ≤ c.toNat ∧ c.toNat ≤ 57 := by
  induction u using Nat.strongRecOn with
  | ind u ih =>
    rw [Go.Lib.decDigits]
    by_cases h : u < 10
    · rw [dif_pos h]
      exact ⟨_, [], rfl, by rw [dig_toNat u h]; omega, by rw [dig_toNat u h]; omega⟩
    · rw [dif_neg h]
      obtain ⟨c, r, e, a, b⟩ := ih (u / 10) (by omega)
      exact ⟨c, r ++ [UInt8.ofNat (48 + u % 10)], by rw [e]; rfl, a, b⟩
theorem parse_app (xs ys : List UInt8) : ∀ acc v, Go.Lib.parseUint10 acc xs = .ok v → Go.Lib.parseUint10 acc (xs ++ ys) = Go.Lib.parseUint10 v ys := by
  induction xs with
  | nil => intro acc v h; simp only [Go.Lib.parseUint10] at h; injection h with h; rw [h]; rfl
  | cons c r ih =>
    intro acc v h
    simp only [Go.Lib.parseUint10, List.cons_append] at h ⊢
    by_cases h1 : 48 ≤ c.toNat ∧ c.toNat ≤ 57
    · rw [if_pos h1] at h ⊢
      by_cases h2 : 1844674407370955162 ≤ acc
      · rw [if_pos h2] at h; cases h
      · rw [if_neg h2] at h ⊢
        by_cases h3 : 18446744073709551616 ≤ acc * 10 + (c.toNat - 48)
        · rw [if_pos h3] at h; cases h
        · rw [if_neg h3] at h ⊢; exact ih _ _ h
    · rw [if_neg h1] at h; cases h
theorem parse_dec (u : Nat) : u < 18446744073709551616 → Go.Lib.parseUint10 0 (Go.Lib.decDigits u) = .ok u := by
  induction u using Nat.strongRecOn with
  | ind u ih =>
    intro hu
    have one : ∀ acc, acc < 1844674407370955162 → ∀ d, d < 10 → acc * 10 + d < 18446744073709551616 → Go.Lib.parseUint10 acc [UInt8.ofNat (48 + d)] = .ok (acc * 10 + d) := by
      intro acc ha d hd hs
      simp only [Go.Lib.parseUint10]
      rw [dig_toNat d hd, if_pos (by omega), if_neg (by omega), if_neg (by omega)]
      congr 1
      omega
    by_cases h : u < 10
    · rw [Go.Lib.decDigits, dif_pos h, one 0 (by omega) u h (by omega)]; congr 1; omega
    · rw [Go.Lib.decDigits, dif_neg h, parse_app _ _ 0 (u / 10) (ih (u / 10) (by omega) (by omega)), one (u / 10) (by omega) (u % 10) (by omega) (by omega)]
      congr 1; omega
theorem atoi_itoa (n : Int) (h0 : -9223372036854775808 ≤ n) (h1 : n ≤ 9223372036854775807) : Go.Lib.atoiAll (Go.Lib.itoa n) = .ok n := by
  unfold Go.Lib.itoa
  by_cases c : n < 0
  · rw [if_pos c]
    have hne : Go.Lib.decDigits n.natAbs ≠ [] := by obtain ⟨c, r, e, _⟩ := dec_head n.natAbs; rw [e]; simp
    simp only [Go.Lib.atoiAll]
    rw [if_pos (by right; rfl)]
    unfold Go.Lib.parseMag
    rw [if_neg hne, parse_dec _ (by omega)]
    have e45 : (45 : UInt8).toNat = 45 := rfl
    simp only [e45, not_true_eq_false, false_and, if_false, true_and, if_true]
    rw [if_neg (by omega)]
    congr 1; omega
  · rw [if_neg c]
    obtain ⟨b, r, e, b0, b1⟩ := dec_head n.toNat
    have hp := parse_dec n.toNat (by omega)
    rw [e] at hp ⊢
    simp only [Go.Lib.atoiAll]
    rw [if_neg (by omega)]
    unfold Go.Lib.parseMag
    rw [if_neg (by simp), hp]
    have nb : ¬ b.toNat = 45 := by omega
    simp only [nb, not_false_eq_true, true_and, false_and, if_false]
    rw [if_neg (by omega)]
    congr 1; omega
theorem itoa_inj {a b : Int} (a0 : -9223372036854775808 ≤ a) (a1 : a ≤ 9223372036854775807) (b0 : -9223372036854775808 ≤ b) (b1 : b ≤ 9223372036854775807) (h : Go.Lib.itoa a = Go.Lib.itoa b) : a = b := by
  have e1 := atoi_itoa a a0 a1
  rw [h, atoi_itoa b b0 b1] at e1
  injection e1 with e1
  exact e1.symm
/-- The reference's way: the number below nought. -/
def negAcc (n : Int) : List UInt8 → Option Int
  | [] => some n
  | c :: r => if (c.toNat : Int) < 48 then none else if (c.toNat : Int) > 57 then none else if n < Int.tdiv (-9223372036854775808 + ((c.toNat : Int) - 48)) 10 then none else negAcc (10 * n - ((c.toNat : Int) - 48)) r
theorem neg_app (xs ys : List UInt8) : ∀ acc v, negAcc acc xs = some v → negAcc acc (xs ++ ys) = negAcc v ys := by
  induction xs with
  | nil => intro acc v h; simp only [negAcc] at h; injection h with h; rw [h]; rfl
  | cons c r ih =>
    intro acc v h
    simp only [negAcc, List.cons_append] at h ⊢
    by_cases h1 : (c.toNat : Int) < 48
    · rw [if_pos h1] at h; cases h
    · rw [if_neg h1] at h ⊢
      by_cases h2 : (c.toNat : Int) > 57
      · rw [if_pos h2] at h; cases h
      · rw [if_neg h2] at h ⊢
        by_cases h3 : acc < Int.tdiv (-9223372036854775808 + ((c.toNat : Int) - 48)) 10
        · rw [if_pos h3] at h; cases h
        · rw [if_neg h3] at h ⊢; exact ih _ _ h
theorem tdiv_low (x : Int) (h : x ≤ 0) : Int.tdiv x 10 = -((-x) / 10) := by
  have e : x = -(-x) := by omega
  rw [e, Int.neg_tdiv, Int.tdiv_eq_ediv_of_nonneg (by omega)]
  simp
theorem neg_dec (u : Nat) : u ≤ 9223372036854775808 → negAcc 0 (Go.Lib.decDigits u) = some (-(u : Int)) := by
  induction u using Nat.strongRecOn with
  | ind u ih =>
    intro hu
    have one : ∀ acc : Nat, ∀ d, d < 10 → acc * 10 + d ≤ 9223372036854775808 → negAcc (-(acc : Int)) [UInt8.ofNat (48 + d)] = some (-((acc * 10 + d : Nat) : Int)) := by
      intro acc d hd hs
      simp only [negAcc]
      rw [dig_toNat d hd, tdiv_low (-9223372036854775808 + (((48 + d : Nat) : Int) - 48)) (by omega), if_neg (by omega), if_neg (by omega), if_neg (by omega)]
      congr 1
      omega
    by_cases h : u < 10
    · rw [Go.Lib.decDigits, dif_pos h]; have := one 0 u h (by omega); simpa using this
    · rw [Go.Lib.decDigits, dif_neg h, neg_app _ _ 0 (-((u / 10 : Nat) : Int)) (ih (u / 10) (by omega) (by omega)), one (u / 10) (u % 10) (by omega) (by omega)]
      congr 2; omega

/-- The last k digits of a number, noughts ahead. -/
def padD : Nat → Nat → List UInt8
  | 0, _ => []
  | k + 1, b => padD k (b / 10) ++ [UInt8.ofNat (48 + b % 10)]
theorem padD_len : ∀ (k b : Nat), (padD k b).length = k
  | 0, _ => rfl
  | k + 1, b => by simp [padD, padD_len k]
theorem dec_pad (k : Nat) : ∀ (a b : Nat), 0 < a → b < 10 ^ k → Go.Lib.decDigits (a * 10 ^ k + b) = Go.Lib.decDigits a ++ padD k b := by
  induction k with
  | zero => intro a b ha hb; have : b = 0 := by simpa using hb
            subst this; simp [padD]
  | succ k ih =>
    intro a b ha hb
    have e : a * 10 ^ (k + 1) = a * 10 ^ k * 10 := by rw [Nat.pow_succ, Nat.mul_assoc]
    rw [Nat.pow_succ] at hb
    have h10 : 1 ≤ 10 ^ k := Nat.pos_of_ne_zero (by simp)
    have hm : a * 10 ^ k ≥ 1 := Nat.mul_pos ha h10
    have h := ih a (b / 10) ha (by omega)
    rw [e]
    generalize a * 10 ^ k = z at *
    rw [Go.Lib.decDigits, dif_neg (by omega)]
    have e1 : (z * 10 + b) / 10 = z + b / 10 := by omega
    have e2 : (z * 10 + b) % 10 = b % 10 := by omega
    rw [e1, e2, h, padD, List.append_assoc]
theorem padD_zero : ∀ k, padD k 0 = List.replicate k 48
  | 0 => rfl
  | k + 1 => by rw [padD, show (0:Nat)/10 = 0 from rfl, padD_zero k, List.replicate_succ']; rfl
theorem padD_eq (k : Nat) : ∀ b, 0 < k → b < 10 ^ k → padD k b = List.replicate (k - (Go.Lib.decDigits b).length) 48 ++ Go.Lib.decDigits b := by
  induction k with
  | zero => intro b h; omega
  | succ k ih =>
    intro b _ hb
    by_cases c : b < 10
    · rw [Go.Lib.decDigits, dif_pos c, padD]
      have e1 : b / 10 = 0 := by omega
      have e2 : b % 10 = b := by omega
      rw [e1, e2, padD_zero]; rfl
    · rw [Nat.pow_succ] at hb
      have hk : 0 < k := by
        rcases Nat.eq_zero_or_pos k with h | h
        · subst h; simp at hb; omega
        · exact h
      rw [Go.Lib.decDigits, dif_neg c, padD, ih (b / 10) hk (by omega)]
      simp [Nat.add_sub_add_right]
theorem dec_len_le (k : Nat) : ∀ b, 0 < k → b < 10 ^ k → (Go.Lib.decDigits b).length ≤ k := by
  intro b hk hb
  have h := padD_len k b
  rw [padD_eq k b hk hb] at h
  simp at h
  omega

/-- What a text is as an int, if it is one's decimal. -/
def intT (l : List UInt8) : Int × Bool := match Go.Lib.atoiAll l with
  | .ok v => if -9223372036854775808 ≤ v ∧ v ≤ 9223372036854775807 then (if Go.Lib.itoa v = l then (v, true) else (0, false)) else (0, false)
  | _ => (0, false)
theorem intT_yes (v : Int) (h0 : -9223372036854775808 ≤ v) (h1 : v ≤ 9223372036854775807) : intT (Go.Lib.itoa v) = (v, true) := by
  unfold intT
  rw [atoi_itoa v h0 h1]
  have hc : -9223372036854775808 ≤ v ∧ v ≤ 9223372036854775807 := ⟨h0, h1⟩
  simp only [hc, and_self, if_true]
theorem intT_no (l : List UInt8) (h : ∀ v, -9223372036854775808 ≤ v → v ≤ 9223372036854775807 → Go.Lib.itoa v ≠ l) : intT l = (0, false) := by
  unfold intT
  cases hA : Go.Lib.atoiAll l with
  | ok v =>
    by_cases c : -9223372036854775808 ≤ v ∧ v ≤ 9223372036854775807
    · simp only [c, and_self, if_true]
      rw [if_neg (h v c.1 c.2)]
    · simp only [c, if_false]
  | «syntax» => rfl
  | range => rfl
theorem atoi_range (l : List UInt8) (v : Int) (h : Go.Lib.atoiAll l = .ok v) : -9223372036854775808 ≤ v ∧ v ≤ 9223372036854775807 := by
  unfold Go.Lib.atoiAll at h
  cases l with
  | nil => simp at h
  | cons c r =>
    simp only at h
    generalize hm : Go.Lib.parseMag _ = m at h
    cases m with
    | «syntax» => simp at h
    | range => simp at h
    | ok u =>
      simp only at h
      by_cases n : c.toNat = 45
      · simp only [n, not_true_eq_false, false_and, if_false, true_and, if_true] at h
        by_cases q : 9223372036854775808 < u
        · rw [if_pos q] at h; cases h
        · rw [if_neg q] at h
          injection h with h
          omega
      · simp only [n, not_false_eq_true, true_and, false_and, if_false] at h
        by_cases q : 9223372036854775808 ≤ u
        · rw [if_pos q] at h; cases h
        · rw [if_neg q] at h
          injection h with h
          omega
theorem itoa_len (v : Int) (h0 : -9223372036854775808 ≤ v) (h1 : v ≤ 9223372036854775807) : 1 ≤ (Go.Lib.itoa v).length ∧ (Go.Lib.itoa v).length ≤ 20 := by
  unfold Go.Lib.itoa
  by_cases c : v < 0
  · rw [if_pos c]
    have := dec_len_le 19 v.natAbs (by decide) (by omega)
    simp only [List.length_cons]; omega
  · rw [if_neg c]
    have := dec_len_le 19 v.toNat (by decide) (by omega)
    obtain ⟨b, r, e, _⟩ := dec_head v.toNat
    refine ⟨?_, by omega⟩
    rw [e]; simp
theorem intT_true (l : List UInt8) (v : Int) (h : intT l = (v, true)) : -9223372036854775808 ≤ v ∧ v ≤ 9223372036854775807 ∧ Go.Lib.itoa v = l := by
  by_cases hv : ∃ v, -9223372036854775808 ≤ v ∧ v ≤ 9223372036854775807 ∧ Go.Lib.itoa v = l
  · obtain ⟨u, a, b, rfl⟩ := hv
    rw [intT_yes u a b] at h
    injection h with h
    subst h
    exact ⟨a, b, rfl⟩
  · rw [intT_no l (fun v a b e => hv ⟨v, a, b, e⟩)] at h
    injection h with _ h
    cases h
/-- The same, from 0 to 999999999. -/
def numT (l : List UInt8) : Int × Bool := if (intT l).2 = true ∧ 0 ≤ (intT l).1 ∧ (intT l).1 ≤ 999999999 then ((intT l).1, true) else (0, false)

theorem impl_IntText_is (s : ByteArray) (hs : s.size ≤ 281474976710656) : impl_IntText.f s = some (intT s.data.toList) := by
  unfold impl_IntText.f intT
  rw [if_pos hs]
  cases hA : Go.Lib.atoiAll s.data.toList with
  | ok v =>
    have c := atoi_range _ v hA
    simp only [c, and_self, if_true]
    by_cases e : Go.Lib.itoa v = s.data.toList
    · rw [if_pos e, if_pos e]
    · rw [if_neg e, if_neg e]
  | «syntax» => rfl
  | range => rfl

theorem impl_Number_is (s : ByteArray) (hs : s.size ≤ 281474976710656) : impl_Number.f s = some (numT s.data.toList) := by
  unfold impl_Number.f numT impl_within.f
  rw [impl_IntText_is s hs]
  generalize intT s.data.toList = r
  obtain ⟨v, b⟩ := r
  cases b
  · simp
  · simp only [Option.bind_some, if_true, true_and]
    by_cases c : v ≥ 0
    · rw [if_pos c]
      simp only [Option.bind_some]
      by_cases d : v ≤ 999999999
      · rw [if_pos (decide_eq_true d), if_pos ⟨c, d⟩]
      · rw [if_neg (by simpa using d), if_neg (fun h => d h.2)]
    · rw [if_neg c]
      simp only [Option.bind_some]
      rw [if_neg (by decide), if_neg (fun h => c h.1)]

/-- The decimal digits of a number, none for 0. -/
def digs (u : Nat) : List UInt8 := if u = 0 then [] else Go.Lib.decDigits u
theorem digs_step {u : Nat} (h : u ≠ 0) : digs u = digs (u / 10) ++ [UInt8.ofNat (48 + u % 10)] := by
  unfold digs
  rw [if_neg h]
  by_cases c : u < 10
  · rw [Go.Lib.decDigits_one c, if_pos (by omega)]
    have : u % 10 = u := Nat.mod_eq_of_lt c
    rw [this]; rfl
  · rw [Go.Lib.decDigits, dif_neg c, if_neg (by omega)]
theorem byte_of (n : Nat) (h : n < 10) : strOfNums [(wrap64 (48 + (n : Int))) % 256] = ⟨#[UInt8.ofNat (48 + n)]⟩ := by
  have e : (wrap64 (48 + (n : Int))) % 256 = ((48 + n : Nat) : Int) := by unfold wrap64; omega
  rw [e]
  rfl
theorem mk_app (a b : List UInt8) : (⟨a.toArray⟩ : ByteArray) ++ ⟨b.toArray⟩ = ⟨(a ++ b).toArray⟩ := by
  apply ByteArray.ext
  simp

theorem spec_Digits_l (d : Nat) : ∀ (k : Nat) (n : Int) (s : Bool) (acc : List UInt8), n.natAbs < 10 ^ d → d < k → d + acc.length ≤ 40 → -9223372036854775808 ≤ n → n ≤ 9223372036854775807 →
    spec_Digits.l0 k n s ⟨acc.toArray⟩ = some ⟨((if s = true then [45] else []) ++ digs n.natAbs ++ acc).toArray⟩ := by
  induction d with
  | zero =>
    intro k n s acc h0 hk ha _ _
    obtain ⟨k, rfl⟩ : ∃ m, k = m + 1 := ⟨k - 1, by omega⟩
    have hn : n = 0 := by simp at h0; omega
    subst hn
    simp only [spec_Digits.l0]
    rw [if_pos trivial]
    have e0 : digs (Int.natAbs 0) = [] := rfl
    rw [e0]
    have hsz : 1 + (⟨acc.toArray⟩ : ByteArray).size ≤ 9223372036854775807 := by
      have : (⟨acc.toArray⟩ : ByteArray).size = acc.length := by simp [ByteArray.size]
      omega
    cases s
    · rw [if_neg (by decide), if_neg (by decide)]; simp
    · rw [if_pos rfl, if_pos hsz, if_pos rfl]
      have := mk_app [45] acc
      exact congrArg some (this.trans (by simp))
  | succ d ih =>
    intro k n s acc h0 hk ha b0 b1
    obtain ⟨k, rfl⟩ : ∃ m, k = m + 1 := ⟨k - 1, by omega⟩
    have hsz : (⟨acc.toArray⟩ : ByteArray).size = acc.length := by simp [ByteArray.size]
    by_cases hn : n = 0
    · subst hn
      simp only [spec_Digits.l0]
      rw [if_pos trivial]
      have e0 : digs (Int.natAbs 0) = [] := rfl
      rw [e0]
      cases s
      · rw [if_neg (by decide), if_neg (by decide)]; simp
      · rw [if_pos rfl, if_pos (by omega), if_pos rfl]
        have := mk_app [45] acc
        exact congrArg some (this.trans (by simp))
    · simp only [spec_Digits.l0]
      rw [if_neg hn]
      have hu : n.natAbs ≠ 0 := by omega
      have hq : (wrap64 (Int.tdiv n 10)) = Int.tdiv n 10 := by
        have h1 : (Int.tdiv n 10).natAbs = n.natAbs / 10 := Int.natAbs_tdiv n 10
        unfold wrap64; omega
      have hqa : (Int.tdiv n 10).natAbs = n.natAbs / 10 := Int.natAbs_tdiv n 10
      have hqd : (Int.tdiv n 10).natAbs < 10 ^ d := by rw [hqa]; rw [Nat.pow_succ] at h0; omega
      have hqb : -9223372036854775808 ≤ Int.tdiv n 10 ∧ Int.tdiv n 10 ≤ 9223372036854775807 := by omega
      have hr : (Int.tmod n 10).natAbs = n.natAbs % 10 := Int.natAbs_tmod n 10
      have tail : ∀ y : ByteArray, y = ⟨#[UInt8.ofNat (48 + n.natAbs % 10)]⟩ → (if y.size + (⟨acc.toArray⟩ : ByteArray).size ≤ 9223372036854775807 then spec_Digits.l0 k (wrap64 (Int.tdiv n 10)) s (y ++ ⟨acc.toArray⟩) else none) = some ⟨((if s = true then [45] else []) ++ digs n.natAbs ++ acc).toArray⟩ := by
        intro y hy
        subst hy
        have e1 : (⟨#[UInt8.ofNat (48 + n.natAbs % 10)]⟩ : ByteArray).size = 1 := rfl
        have e2 : (⟨#[UInt8.ofNat (48 + n.natAbs % 10)]⟩ : ByteArray) ++ ⟨acc.toArray⟩ = ⟨(UInt8.ofNat (48 + n.natAbs % 10) :: acc).toArray⟩ := mk_app [UInt8.ofNat (48 + n.natAbs % 10)] acc
        rw [if_pos (by omega), e2, hq, ih k _ s _ hqd (by omega) (by simp only [List.length_cons]; omega) hqb.1 hqb.2, hqa, digs_step hu]
        simp
      by_cases c : Int.tmod n 10 < 0
      · rw [if_pos c]
        have e : wrap64 (-(Int.tmod n 10)) = ((n.natAbs % 10 : Nat) : Int) := by unfold wrap64; omega
        rw [e]
        exact tail _ (byte_of _ (by omega))
      · rw [if_neg c]
        have e : Int.tmod n 10 = ((n.natAbs % 10 : Nat) : Int) := by omega
        rw [e]
        exact tail _ (byte_of _ (by omega))
theorem spec_Digits_is (n : Int) (b0 : -9223372036854775808 ≤ n) (b1 : n ≤ 9223372036854775807) : spec_Digits.f 30 n = some ⟨(Go.Lib.itoa n).toArray⟩ := by
  unfold spec_Digits.f
  by_cases hn : n = 0
  · subst hn
    rw [if_pos rfl]
    rw [show Go.Lib.itoa 0 = [48] from by rw [show (0 : Int) = ((0 : Nat) : Int) from rfl, Go.Lib.itoa_nonneg, Go.Lib.decDigits_one (by decide)]; rfl]
  · rw [if_neg hn]
    have h := spec_Digits_l 20 30 n (decide (n < 0)) [] (by omega) (by decide) (by decide) b0 b1
    have e0 : (⟨#[]⟩ : ByteArray) = ⟨([] : List UInt8).toArray⟩ := rfl
    rw [e0, h]
    have ed : digs n.natAbs = Go.Lib.decDigits n.natAbs := by unfold digs; rw [if_neg (by omega)]
    rw [ed]
    unfold Go.Lib.itoa
    by_cases c : n < 0
    · rw [if_pos c, if_pos (decide_eq_true c)]; simp
    · rw [if_neg c, if_neg (by simpa using c)]
      have : n.toNat = n.natAbs := by omega
      rw [this]; simp

theorem spec_Digits_k (k : Nat) (hk : 20 < k) (n : Int) (b0 : -9223372036854775808 ≤ n) (b1 : n ≤ 9223372036854775807) : spec_Digits.f k n = some ⟨(Go.Lib.itoa n).toArray⟩ := by
  unfold spec_Digits.f
  by_cases hn : n = 0
  · subst hn
    rw [if_pos rfl]
    rw [show Go.Lib.itoa 0 = [48] from by rw [show (0 : Int) = ((0 : Nat) : Int) from rfl, Go.Lib.itoa_nonneg, Go.Lib.decDigits_one (by decide)]; rfl]
  · rw [if_neg hn]
    have h := spec_Digits_l 20 k n (decide (n < 0)) [] (by omega) hk (by decide) b0 b1
    have e0 : (⟨#[]⟩ : ByteArray) = ⟨([] : List UInt8).toArray⟩ := rfl
    rw [e0, h]
    have ed : digs n.natAbs = Go.Lib.decDigits n.natAbs := by unfold digs; rw [if_neg (by omega)]
    rw [ed]
    unfold Go.Lib.itoa
    by_cases c : n < 0
    · rw [if_pos c, if_pos (decide_eq_true c)]; simp
    · rw [if_neg c, if_neg (by simpa using c)]
      have : n.toNat = n.natAbs := by omega
      rw [this]; simp

theorem bt_nat (s : ByteArray) (i : Nat) (h : i < s.data.toList.length) : bt s (i : Int) = ((s.data.toList[i]).toNat : Int) := by
  have h' : i < s.size := by rw [Array.length_toList] at h; exact h
  have e := bt_at s (i : Int) (by simpa using h')
  rw [← e]
  simp
  rfl

theorem neg_range (l : List UInt8) : ∀ acc n, -9223372036854775808 ≤ acc → acc ≤ 0 → negAcc acc l = some n → -9223372036854775808 ≤ n ∧ n ≤ 0 := by
  induction l with
  | nil => intro acc n a b h; simp only [negAcc] at h; injection h with h; omega
  | cons c r ih =>
    intro acc n a b h
    simp only [negAcc] at h
    by_cases h1 : (c.toNat : Int) < 48
    · rw [if_pos h1] at h; cases h
    · rw [if_neg h1] at h
      by_cases h2 : (c.toNat : Int) > 57
      · rw [if_pos h2] at h; cases h
      · rw [if_neg h2, tdiv_low _ (by omega)] at h
        by_cases h3 : acc < -((-(-9223372036854775808 + ((c.toNat : Int) - 48))) / 10)
        · rw [if_pos h3] at h; cases h
        · rw [if_neg h3] at h; exact ih _ _ (by omega) (by omega) h
/-- What the reference makes of the number. -/
def finT (l : List UInt8) (x : Int) : Option Int → Int × Bool
  | none => (0, false)
  | some n => if x = 0 then (if n = -9223372036854775808 then (0, false) else if Go.Lib.itoa (-n) = l then (-n, true) else (0, false)) else (if Go.Lib.itoa n = l then (n, true) else (0, false))
theorem eq_list (l : List UInt8) (s : ByteArray) : ((⟨l.toArray⟩ : ByteArray).toList = s.toList) ↔ l = s.data.toList := by
  rw [Go.Lib.toList_data, Go.Lib.toList_data]
theorem spec_IntText_l (s : ByteArray) (x : Int) (hx : 0 ≤ x) (hs : s.size ≤ 20) (d : Nat) : ∀ (k : Nat) (acc : Int) (i : Nat), -9223372036854775808 ≤ acc → acc ≤ 0 → i ≤ s.size → s.size - i = d → 2 * d + 24 < k →
    spec_IntText.l0 k s x acc (i : Int) = some (finT s.data.toList x (negAcc acc (s.data.toList.drop i))) := by
  induction d with
  | zero =>
    intro k acc i a0 a1 hi hd hk
    obtain ⟨k, rfl⟩ : ∃ m, k = m + 1 := ⟨k - 1, by omega⟩
    have dr : s.data.toList.drop i = [] := List.drop_eq_nil_of_le (by rw [Array.length_toList]; have : s.data.size = s.size := rfl; omega)
    rw [dr]
    simp only [spec_IntText.l0, negAcc, finT]
    rw [if_neg (by omega)]
    by_cases z : x = 0
    · rw [if_pos z, if_pos z]
      by_cases q : acc = -9223372036854775808
      · rw [if_pos q, if_pos q]
      · rw [if_neg q, if_neg q, w64_id (by omega) (by omega), spec_Digits_k k (by omega) _ (by omega) (by omega)]
        simp only [Option.bind_some, eq_list]
        by_cases e : Go.Lib.itoa (-acc) = s.data.toList
        · rw [if_pos e, if_pos e]
        · rw [if_neg e, if_neg e]
    · rw [if_neg z, if_neg z, spec_Digits_k k (by omega) _ (by omega) (by omega)]
      simp only [Option.bind_some, eq_list]
      by_cases e : Go.Lib.itoa acc = s.data.toList
      · rw [if_pos e, if_pos e]
      · rw [if_neg e, if_neg e]
  | succ d ih =>
    intro k acc i a0 a1 hi hd hk
    obtain ⟨k, rfl⟩ : ∃ m, k = m + 2 := ⟨k - 2, by omega⟩
    have hlt : i < s.size := by omega
    have hl : i < s.data.toList.length := by rw [Array.length_toList]; exact hlt
    have hdr : s.data.toList.drop i = s.data.toList[i] :: s.data.toList.drop (i + 1) := List.drop_eq_getElem_cons hl
    have hb : bt s (i : Int) = ((s.data.toList[i]).toNat : Int) := bt_nat s i hl
    have hb2 : (s.data.toList[i]).toNat < 256 := (s.data.toList[i]).toNat_lt
    rw [hdr, show k + 2 = (k + 1) + 1 from rfl]
    simp only [spec_IntText.l0, negAcc]
    rw [if_pos (by omega), if_pos (by omega), hb]
    generalize hc : ((s.data.toList[i]).toNat : Int) = c at *
    have hc2 : 0 ≤ c ∧ c < 256 := by omega
    by_cases h1 : c < 48
    · rw [if_pos h1, if_pos h1]
      simp only [spec_IntText.j3, finT]; rfl
    · rw [if_neg h1, if_neg h1]
      simp only [spec_IntText.j3]
      by_cases h2 : c > 57
      · rw [if_pos h2, if_pos (decide_eq_true h2)]; rfl
      · rw [if_neg h2, if_neg (by simpa using h2), if_pos (by omega), if_pos (by omega), hb]
        have m : (c - 48) % 256 = c - 48 := by omega
        rw [m]
        have td := tdiv_low (-9223372036854775808 + (c - 48)) (by omega)
        rw [td, w64_id (n := -((-(-9223372036854775808 + (c - 48))) / 10)) (by omega) (by omega)]
        by_cases h3 : acc < -((-(-9223372036854775808 + (c - 48))) / 10)
        · rw [if_pos h3, if_pos h3]; rfl
        · rw [if_neg h3, if_neg h3, w64_id (n := 10 * acc) (by omega) (by omega), w64_id (n := 10 * acc - (c - 48)) (by omega) (by omega), w64_id (n := (i : Int) + 1) (by omega) (by omega)]
          exact ih k _ (i + 1) (by omega) (by omega) (by omega) (by omega) (by omega)
theorem spec_IntText_is (s : ByteArray) (k : Nat) (hk : 80 < k) : spec_IntText.f k s = some (intT s.data.toList) := by
  have hz : s.data.toList.length = s.size := by rw [Array.length_toList]; rfl
  obtain ⟨k, rfl⟩ : ∃ m, k = m + 2 := ⟨k - 2, by omega⟩
  have none_ : (s.size < 1 ∨ 20 < s.size) → intT s.data.toList = (0, false) := fun h => intT_no _ (fun v a b e => by have := itoa_len v a b; rw [e, hz] at this; omega)
  unfold spec_IntText.f
  rw [show k + 2 = (k + 1) + 1 from rfl]
  by_cases h1 : (s.size : Int) < 1
  · rw [if_pos h1, none_ (by omega)]
    simp only [spec_IntText.j0]; rfl
  · rw [if_neg h1]
    simp only [spec_IntText.j0]
    by_cases h2 : (s.size : Int) > 20
    · rw [if_pos (decide_eq_true h2), none_ (by omega)]
    · rw [if_neg (by simpa using h2), if_pos (by omega)]
      have hl : 0 < s.data.toList.length := by omega
      have hb : bt s 0 = ((s.data.toList[0]).toNat : Int) := bt_nat s 0 hl
      rw [hb]
      simp only [spec_IntText.j1]
      have l0 := spec_IntText_l s 0 (by omega) (by omega) s.size k 0 0 (by omega) (by omega) (by omega) (by omega) (by omega)
      have l1 := spec_IntText_l s 1 (by omega) (by omega) (s.size - 1) k 0 1 (by omega) (by omega) (by omega) rfl (by omega)
      have c0 : ((0 : Nat) : Int) = 0 := rfl
      have c1 : ((1 : Nat) : Int) = 1 := rfl
      rw [c0] at l0
      rw [c1] at l1
      rw [l0, l1]
      clear l0 l1
      generalize s.data.toList = l at *
      by_cases hv : ∃ v, -9223372036854775808 ≤ v ∧ v ≤ 9223372036854775807 ∧ Go.Lib.itoa v = l
      · obtain ⟨v, a, b, rfl⟩ := hv
        rw [intT_yes v a b]
        unfold Go.Lib.itoa
        by_cases n : v < 0
        · have e : (if v < 0 then 45 :: Go.Lib.decDigits v.natAbs else Go.Lib.decDigits v.toNat) = 45 :: Go.Lib.decDigits v.natAbs := if_pos n
          simp only [e]
          rw [if_pos (by rfl)]
          simp only [List.drop_succ_cons, List.drop_zero]
          rw [neg_dec _ (by omega)]
          simp only [finT]
          have e2 : -((v.natAbs : Nat) : Int) = v := by omega
          rw [e2, if_neg (by decide)]
          unfold Go.Lib.itoa
          rw [if_pos n, if_pos rfl]
        · have e : (if v < 0 then 45 :: Go.Lib.decDigits v.natAbs else Go.Lib.decDigits v.toNat) = Go.Lib.decDigits v.toNat := if_neg n
          simp only [e]
          obtain ⟨c, r, hd, c48, _⟩ := dec_head v.toNat
          have hne : ¬ (((Go.Lib.decDigits v.toNat)[0]'(by rw [hd]; simp)).toNat : Int) = 45 := by
            simp only [hd, List.getElem_cons_zero]; omega
          rw [if_neg hne, List.drop_zero, neg_dec _ (by omega)]
          simp only [finT]
          have e2 : -(-((v.toNat : Nat) : Int)) = v := by omega
          rw [e2, if_pos trivial, if_neg (by omega)]
          unfold Go.Lib.itoa
          rw [if_neg n, if_pos rfl]
      · have hno : ∀ v, -9223372036854775808 ≤ v → v ≤ 9223372036854775807 → Go.Lib.itoa v ≠ l := fun v a b e => hv ⟨v, a, b, e⟩
        rw [intT_no l hno]
        have fin : ∀ x i, finT l x (negAcc 0 (l.drop i)) = (0, false) := by
          intro x i
          cases hn : negAcc 0 (l.drop i) with
          | none => rfl
          | some n =>
            have hr := neg_range _ 0 n (by omega) (by omega) hn
            simp only [finT]
            by_cases z : x = 0
            · rw [if_pos z]
              by_cases q : n = -9223372036854775808
              · rw [if_pos q]
              · rw [if_neg q, if_neg (hno _ (by omega) (by omega))]
            · rw [if_neg z, if_neg (hno _ (by omega) (by omega))]
        rw [fin, fin]
        by_cases q : ((l[0]).toNat : Int) = 45
        · rw [if_pos q]
        · rw [if_neg q]

theorem l1New_loop (b : List Int) (hb : b.length ≤ 140737488351232) (d : Nat) : ∀ (k : Nat) (x3 x4 : Int), 0 ≤ x4 → x4 ≤ b.length → (b.length : Int) - x4 = d → d < k → ∃ h, spec_l1New.l0 k b x3 x4 = some (b, 0, h) := by
  induction d with
  | zero =>
    intro k x3 x4 h0 h1 hd hk
    obtain ⟨k, rfl⟩ : ∃ m, k = m + 1 := ⟨k - 1, by omega⟩
    exact ⟨x3, by simp only [spec_l1New.l0]; rw [if_neg (by omega)]⟩
  | succ d ih =>
    intro k x3 x4 h0 h1 hd hk
    obtain ⟨k, rfl⟩ : ∃ m, k = m + 1 := ⟨k - 1, by omega⟩
    simp only [spec_l1New.l0]
    rw [if_pos (by omega)]
    by_cases c : x4 < 4000
    · rw [if_pos c, if_pos h0]
      have e : wrap64 (x4 + 1) = x4 + 1 := w64_id (by omega) (by omega)
      rw [e]
      exact ih k _ (x4 + 1) (by omega) (by omega) (by omega) (by omega)
    · rw [if_neg c]
      exact ⟨x3, rfl⟩
theorem l1New_some (b : List Int) (hb : b.length ≤ 140737488351232) (k : Nat) (hk : b.length < k) : ∃ h, spec_l1New.f k b = some (b, 0, h) := by
  unfold spec_l1New.f
  exact l1New_loop b hb b.length k _ 0 (by omega) (by omega) (by omega) hk

theorem l1Byte_some (b : List Int) (hb : b.length ≤ 140737488351232) (i h : Int) (hi : 0 ≤ i) : ∃ x i' h', spec_l1Byte.f b i h = some (x, i', h') ∧ 0 ≤ x ∧ x ≤ 255 ∧ 0 ≤ i' := by
  unfold spec_l1Byte.f
  by_cases c : i < (b.length : Int)
  · rw [if_pos c, if_pos hi]
    refine ⟨_, _, _, rfl, (and255 _).1, (and255 _).2, ?_⟩
    rw [w64_id (by omega) (by omega)]; omega
  · rw [if_neg c]
    exact ⟨_, _, _, rfl, (and255 _).1, (and255 _).2, hi⟩

theorem l1Below_some (b : List Int) (hb : b.length ≤ 140737488351232) (i h n : Int) (hi : 0 ≤ i) (hn : n ≤ 4294967296) : ∃ x i' h', spec_l1Below.f b i h n = some (x, i', h') ∧ 0 ≤ x ∧ (0 < n → x < n) ∧ 0 ≤ i' := by
  unfold spec_l1Below.f
  by_cases c : n ≤ 0
  · rw [if_pos c]
    exact ⟨_, _, _, rfl, by omega, fun _ => by omega, hi⟩
  · rw [if_neg c]
    by_cases d : n ≤ 256
    · rw [if_pos d]
      obtain ⟨x, i', h', e, x0, x1, hi'⟩ := l1Byte_some b hb i h hi
      rw [e]
      simp only [Option.bind_some]
      rw [if_neg (by omega)]
      have := tmod_range (n := n) x0 (by omega)
      exact ⟨_, _, _, rfl, this.1, fun _ => this.2, hi'⟩
    · rw [if_neg d]
      obtain ⟨x, i1, h1, e1, x0, x1, hi1⟩ := l1Byte_some b hb i h hi
      obtain ⟨y, i2, h2, e2, y0, y1, hi2⟩ := l1Byte_some b hb i1 h1 hi1
      obtain ⟨z, i3, h3, e3, z0, z1, hi3⟩ := l1Byte_some b hb i2 h2 hi2
      obtain ⟨u, i4, h4, e4, u0, u1, hi4⟩ := l1Byte_some b hb i3 h3 hi3
      rw [e1]; simp only [Option.bind_some]
      rw [e2]; simp only [Option.bind_some]
      rw [e3]; simp only [Option.bind_some]
      rw [e4]; simp only [Option.bind_some]
      rw [if_neg (by omega)]
      have e : wrap64 (wrap64 (wrap64 (wrap64 (x * 16777216) + wrap64 (y * 65536)) + wrap64 (z * 256)) + u) = x * 16777216 + y * 65536 + z * 256 + u := by
        unfold wrap64; omega
      rw [e]
      have := tmod_range (x := x * 16777216 + y * 65536 + z * 256 + u) (n := n) (by omega) (by omega)
      exact ⟨_, _, _, rfl, this.1, fun _ => this.2, hi4⟩

theorem l1PickInt_some (b : List Int) (hb : b.length ≤ 140737488351232) (i h : Int) (l : List Int) (hi : 0 ≤ i) (h0 : 0 < l.length) (hl : l.length ≤ 4294967296) : ∃ x i' h', spec_l1PickInt.f b i h l = some (x, i', h') ∧ x ∈ l ∧ 0 ≤ i' := by
  unfold spec_l1PickInt.f
  obtain ⟨x, i', h', e, x0, x1, hi'⟩ := l1Below_some b hb i h (l.length : Int) hi (by omega)
  have x2 := x1 (by omega)
  rw [e]
  simp only [Option.bind_some]
  rw [if_pos x0, if_pos x2]
  refine ⟨_, _, _, rfl, ?_, hi'⟩
  have : x.toNat < l.length := by omega
  unfold rd
  rw [List.getD_eq_getElem?_getD, List.getElem?_eq_getElem this]
  exact List.getElem_mem this

theorem l1Whole_loop (b : List Int) (hb : b.length ≤ 140737488351232) (d : Nat) : ∀ (k : Nat) (x3 x4 i h : Int), 0 ≤ i → x4 ≤ 8 → -8 ≤ x4 → (8 : Int) - x4 = d → d < k → -9223372036854775808 ≤ x3 → x3 ≤ 9223372036854775807 →
    ∃ x i' h', spec_l1Whole.l0 k x3 x4 b i h = some (x, i', h') ∧ -9223372036854775808 ≤ x ∧ x ≤ 9223372036854775807 ∧ 0 ≤ i' := by
  induction d with
  | zero =>
    intro k x3 x4 i h hi h1 h2 hd hk r0 r1
    obtain ⟨k, rfl⟩ : ∃ m, k = m + 1 := ⟨k - 1, by omega⟩
    exact ⟨x3, i, h, by simp only [spec_l1Whole.l0]; rw [if_neg (by omega)], r0, r1, hi⟩
  | succ d ih =>
    intro k x3 x4 i h hi h1 h2 hd hk r0 r1
    obtain ⟨k, rfl⟩ : ∃ m, k = m + 1 := ⟨k - 1, by omega⟩
    simp only [spec_l1Whole.l0]
    rw [if_pos (by omega)]
    obtain ⟨x, i', h', e, x0, x1, hi'⟩ := l1Byte_some b hb i h hi
    rw [e]
    simp only [Option.bind_some]
    rw [w64_id (n := x4 + 1) (by omega) (by omega)]
    have r := w64_range (wrap64 (x3 * 256) + x)
    exact ih k _ (x4 + 1) i' h' hi' (by omega) (by omega) (by omega) (by omega) r.1 r.2
theorem l1Whole_some (b : List Int) (hb : b.length ≤ 140737488351232) (i h : Int) (hi : 0 ≤ i) (k : Nat) (hk : 9 ≤ k) : ∃ x i' h', spec_l1Whole.f k b i h = some (x, i', h') ∧ -9223372036854775808 ≤ x ∧ x ≤ 9223372036854775807 ∧ 0 ≤ i' := by
  unfold spec_l1Whole.f
  obtain ⟨x, i1, h1, e, x0, x1, hi1⟩ := l1Below_some b hb i h 4 hi (by omega)
  rw [e]
  simp only [Option.bind_some]
  by_cases c0 : x = 0
  · rw [if_pos c0]
    obtain ⟨y, i2, h2, e2, hy, hi2⟩ := l1PickInt_some b hb i1 h1 [0, 1, (-1), 9, 10, 999, 1000, 2147483647, (-2147483648), 3037000499, 3037000500, 9223372036854775807, (-9223372036854775807), (-9223372036854775808)] hi1 (by simp) (by simp)
    rw [e2]
    simp only [Option.bind_some]
    refine ⟨_, _, _, rfl, ?_, ?_, hi2⟩ <;> (simp only [List.mem_cons, List.not_mem_nil, or_false] at hy; omega)
  · rw [if_neg c0]
    by_cases c1 : x = 1
    · rw [if_pos c1]
      exact l1Whole_loop b hb 8 k 0 0 i1 h1 hi1 (by omega) (by omega) (by omega) (by omega) (by omega) (by omega)
    · rw [if_neg c1]
      by_cases c2 : x = 2
      · rw [if_pos c2]
        obtain ⟨y, i2, h2, e2, _, _, hi2⟩ := l1Below_some b hb i1 h1 1000000 hi1 (by omega)
        rw [e2]
        exact ⟨_, _, _, rfl, (w64_range _).1, (w64_range _).2, hi2⟩
      · rw [if_neg c2]
        obtain ⟨y, i2, h2, e2, _, _, hi2⟩ := l1Below_some b hb i1 h1 41 hi1 (by omega)
        rw [e2]
        exact ⟨_, _, _, rfl, (w64_range _).1, (w64_range _).2, hi2⟩

theorem l1Once_some (b : List Int) (hb : b.length ≤ 140737488351232) (i h n : Int) (hi : 0 ≤ i) (hn : n ≤ 4294967296) : ∃ x i' h', spec_l1Once.f b i h n = some (x, i', h') ∧ 0 ≤ i' := by
  unfold spec_l1Once.f
  obtain ⟨x, i', h', e, _, _, hi'⟩ := l1Below_some b hb i h n hi hn
  rw [e]
  exact ⟨_, _, _, rfl, hi'⟩

theorem l1Pick_some (b : List Int) (hb : b.length ≤ 140737488351232) (i h : Int) (l : List ByteArray) (hi : 0 ≤ i) (h0 : 0 < l.length) (hl : l.length ≤ 4294967296) : ∃ x i' h', spec_l1Pick.f b i h l = some (x, i', h') ∧ x ∈ l ∧ 0 ≤ i' := by
  unfold spec_l1Pick.f
  obtain ⟨x, i', h', e, x0, x1, hi'⟩ := l1Below_some b hb i h (l.length : Int) hi (by omega)
  have x2 := x1 (by omega)
  rw [e]
  simp only [Option.bind_some]
  rw [if_pos x0, if_pos x2]
  refine ⟨_, _, _, rfl, ?_, hi'⟩
  have : x.toNat < l.length := by omega
  unfold rdOf
  rw [List.getD_eq_getElem?_getD, List.getElem?_eq_getElem this]
  exact List.getElem_mem this

theorem DrawIntText_some (b : List Int) (hb : b.length ≤ 140737488351232) (k : Nat) (hk : b.length < k) (hk9 : 21 ≤ k) : ∃ s : ByteArray, spec_DrawIntText.f k b = some s ∧ s.size ≤ 20 := by
  unfold spec_DrawIntText.f
  obtain ⟨h, e⟩ := l1New_some b hb k hk
  rw [e]; simp only [Option.bind_some]
  obtain ⟨x, i, h1, e1, i0⟩ := l1Once_some b hb 0 h 2 (by omega) (by omega)
  rw [e1]; simp only [Option.bind_some]
  by_cases c : x = true
  · rw [if_pos c]
    obtain ⟨y, i2, h2, e2, y0, y1, _⟩ := l1Whole_some b hb i h1 i0 k (by omega)
    rw [e2]; simp only [Option.bind_some]
    rw [spec_Digits_k k (by omega) y y0 y1]
    have := (itoa_len y y0 y1).2
    exact ⟨_, rfl, by simpa [ByteArray.size] using this⟩
  · rw [if_neg c]
    have key : ∀ L : List ByteArray, 0 < L.length → L.length ≤ 4294967296 → (∀ y ∈ L, y.size ≤ 20) → ∃ s, ((spec_l1Pick.f b i h1 L).bind fun bt => some bt.1) = some s ∧ s.size ≤ 20 := by
      intro L l0 l1 hL
      obtain ⟨y, i2, h2, e2, ym, _⟩ := l1Pick_some b hb i h1 L i0 l0 l1
      rw [e2]
      exact ⟨y, rfl, hL y ym⟩
    exact key _ (by decide) (by decide) (by
      simp only [List.forall_mem_cons, List.not_mem_nil, false_implies, implies_true, and_true]
      decide)

theorem FnDigits : laws_FnDigits.Pure := by
  intro b _ hb _
  refine ⟨b.length + 100, ?_⟩
  have hb' : b.length ≤ 140737488351232 := by omega
  unfold laws_FnDigits.f spec_DrawDigits.f
  rw [laws_big_eq]; simp only [Option.bind_some]
  by_cases hbig : decide ((b.length : Int) > 1048576) = true
  · rw [if_pos hbig]
  · rw [if_neg hbig]
    obtain ⟨h, e⟩ := l1New_some b hb' (b.length + 100) (by omega)
    rw [e]; simp only [Option.bind_some]
    obtain ⟨n, i2, h2, e2, n0, n1, _⟩ := l1Whole_some b hb' 0 h (by omega) (b.length + 100) (by omega)
    rw [e2]; simp only [Option.bind_some]
    rw [impl_Digits_is n n0 n1]; simp only [Option.bind_some]
    have hsz : (⟨(Go.Lib.itoa n).toArray⟩ : ByteArray).size ≤ 281474976710656 := by
      have := (itoa_len n n0 n1).2
      simp [ByteArray.size]; omega
    rw [impl_IntText_is _ hsz]; simp only [Option.bind_some]
    obtain ⟨s, e3, hs⟩ := DrawIntText_some b hb' (b.length + 100) (by omega) (by omega)
    rw [e3]; simp only [Option.bind_some]
    rw [impl_IntText_is s (by omega), spec_IntText_is s (b.length + 100) (by omega), impl_Number_is s (by omega)]
    have e4 : intT (⟨(Go.Lib.itoa n).toArray⟩ : ByteArray).data.toList = (n, true) := intT_yes n n0 n1
    rw [e4]
    simp only [Option.bind_some, if_true, beq_self_eq_true]
    unfold numT
    have key := intT_true s.data.toList
    generalize intT s.data.toList = r at *
    obtain ⟨v, t⟩ := r
    cases t
    · simp
    · obtain ⟨v0, v1, hv⟩ := key v rfl
      simp only [if_true, true_and]
      rw [impl_Digits_is v v0 v1]
      simp only [Option.bind_some]
      have e5 : (⟨(Go.Lib.itoa v).toArray⟩ : ByteArray).toList = s.toList := (eq_list _ s).2 hv
      rw [if_pos e5]
      by_cases c : v ≥ 0
      · by_cases d : v ≤ 999999999
        · simp [c, d]
        · simp [c, d]
      · have c' : ¬ (0 ≤ v ∧ v ≤ 999999999) := fun h => c h.1
        simp [c, c']

end Go.Proofs.YtpcglglfegkdaaaDoor.Pure
