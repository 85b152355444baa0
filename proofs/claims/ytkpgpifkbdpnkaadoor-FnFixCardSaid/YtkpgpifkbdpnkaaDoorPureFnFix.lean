/- A decimal's text is read back to it, and the normal form of a text is a decimal's text. Conditions: each number is one of its kind, as the row says. -/
import Derived.Test.YtkpgpifkbdpnkaaDoorPFnFixx
import Derived.Test.YtkpgpifkbdpnkaaDoorBase
import Derived.Lib.AtoiAll
import Derived.Lib.SplitLaws
import Derived.Lib.IndexMore
import Derived.Lib.IndexBytes
import Derived.Lib.SlTrimSet
set_option linter.unusedSimpArgs false
set_option linter.unusedVariables false
namespace Go.Proofs.YtkpgpifkbdpnkaaDoor.Pure
open Go.RowKit Go.Proofs.YtkpgpifkbdpnkaaDoor.Base Go.Proofs.YtkpgpifkbdpnkaaDoor.PFnFix Go.Proofs.YtkpgpifkbdpnkaaDoorW.PrintWords Go.Proofs.YtkpgpifkbdpnkaaDoorW.PrintLast Go.Proofs.YtkpgpifkbdpnkaaDoorW.PrintMore

theorem dig_toNat (d : Nat) (h : d < 10) : (UInt8.ofNat (48 + d)).toNat = 48 + d := by
  rw [UInt8.toNat_ofNat']
  omega
theorem dec_head (u : Nat) : ∃ c r, Go.Lib.decDigits u = c :: r ∧ 48 ≤ c.toNat ∧ c.toNat ≤ 57 := by
  induction u using Nat.strongRecOn with
  | ind u ih =>
    rw [Go.Lib.decDigits]
    by_cases h : u < 10
    · rw [dif_pos h]
      exact ⟨_, [], rfl, by rw [dig_toNat u h]; omega, by rw [dig_toNat u h]; omega⟩
    · rw [dif_neg h]
      obtain ⟨c, r, e, a, b⟩ := ih (u / 10) (by omega)
      exact ⟨c, r ++ [UInt8.ofNat (48 + u % 10)], by rw [e]; rfl, a, b⟩
theorem parse_app (xs ys : List UInt8) : ∀ acc v, Go.Lib.parseUint10 acc xs = .ok v → Go.Lib.parseUint10 acc (xs ++ ys) = Go.Lib.parseUint10 v ys := by
  induction xs with
  | nil => intro acc v h; simp only [Go.Lib.parseUint10] at h; injection h with h; rw [h]; rfl
  | cons c r ih =>
    intro acc v h
    simp only [Go.Lib.parseUint10, List.cons_append] at h ⊢
    by_cases h1 : 48 ≤ c.toNat ∧ c.toNat ≤ 57
    · rw [if_pos h1] at h ⊢
      by_cases h2 : 1844674407370955162 ≤ acc
      · rw [if_pos h2] at h; cases h
      · rw [if_neg h2] at h ⊢
        by_cases h3 : 18446744073709551616 ≤ acc * 10 + (c.toNat - 48)
        · rw [if_pos h3] at h; cases h
        · rw [if_neg h3] at h ⊢; exact ih _ _ h
    · rw [if_neg h1] at h; cases h
theorem parse_dec (u : Nat) : u < 18446744073709551616 → Go.Lib.parseUint10 0 (Go.Lib.decDigits u) = .ok u := by
  induction u using Nat.strongRecOn with
  | ind u ih =>
    intro hu
    have one : ∀ acc, acc < 1844674407370955162 → ∀ d, d < 10 → acc * 10 + d < 18446744073709551616 → Go.Lib.parseUint10 acc [UInt8.ofNat (48 + d)] = .ok (acc * 10 + d) := by
      intro acc ha d hd hs
      simp only [Go.Lib.parseUint10]
      rw [dig_toNat d hd, if_pos (by omega), if_neg (by omega), if_neg (by omega)]
      congr 1
      omega
    by_cases h : u < 10
    · rw [Go.Lib.decDigits, dif_pos h, one 0 (by omega) u h (by omega)]; congr 1; omega
    · rw [Go.Lib.decDigits, dif_neg h, parse_app _ _ 0 (u / 10) (ih (u / 10) (by omega) (by omega)), one (u / 10) (by omega) (u % 10) (by omega) (by omega)]
      congr 1; omega
theorem atoi_itoa (n : Int) (h0 : -9223372036854775808 ≤ n) (h1 : n ≤ 9223372036854775807) : Go.Lib.atoiAll (Go.Lib.itoa n) = .ok n := by
  unfold Go.Lib.itoa
  by_cases c : n < 0
  · rw [if_pos c]
    have hne : Go.Lib.decDigits n.natAbs ≠ [] := by obtain ⟨c, r, e, _⟩ := dec_head n.natAbs; rw [e]; simp
    simp only [Go.Lib.atoiAll]
    rw [if_pos (by right; rfl)]
    unfold Go.Lib.parseMag
    rw [if_neg hne, parse_dec _ (by omega)]
    have e45 : (45 : UInt8).toNat = 45 := rfl
    simp only [e45, not_true_eq_false, false_and, if_false, true_and, if_true]
    rw [if_neg (by omega)]
    congr 1; omega
  · rw [if_neg c]
    obtain ⟨b, r, e, b0, b1⟩ := dec_head n.toNat
    have hp := parse_dec n.toNat (by omega)
    rw [e] at hp ⊢
    simp only [Go.Lib.atoiAll]
    rw [if_neg (by omega)]
    unfold Go.Lib.parseMag
    rw [if_neg (by simp), hp]
    have nb : ¬ b.toNat = 45 := by omega
    simp only [nb, not_false_eq_true, true_and, false_and, if_false]
    rw [if_neg (by omega)]
    congr 1; omega
theorem itoa_inj {a b : Int} (a0 : -9223372036854775808 ≤ a) (a1 : a ≤ 9223372036854775807) (b0 : -9223372036854775808 ≤ b) (b1 : b ≤ 9223372036854775807) (h : Go.Lib.itoa a = Go.Lib.itoa b) : a = b := by
  have e1 := atoi_itoa a a0 a1
  rw [h, atoi_itoa b b0 b1] at e1
  injection e1 with e1
  exact e1.symm
/-- The reference's way: the number below nought. -/
def negAcc (n : Int) : List UInt8 → Option Int
  | [] => some n
  | c :: r => if (c.toNat : Int) < 48 then none else if (c.toNat : Int) > 57 then none else if n < Int.tdiv (-9223372036854775808 + ((c.toNat : Int) - 48)) 10 then none else negAcc (10 * n - ((c.toNat : Int) - 48)) r
theorem neg_app (xs ys : List UInt8) : ∀ acc v, negAcc acc xs = some v → negAcc acc (xs ++ ys) = negAcc v ys := by
  induction xs with
  | nil => intro acc v h; simp only [negAcc] at h; injection h with h; rw [h]; rfl
  | cons c r ih =>
    intro acc v h
    simp only [negAcc, List.cons_append] at h ⊢
    by_cases h1 : (c.toNat : Int) < 48
    · rw [if_pos h1] at h; cases h
    · rw [if_neg h1] at h ⊢
      by_cases h2 : (c.toNat : Int) > 57
      · rw [if_pos h2] at h; cases h
      · rw [if_neg h2] at h ⊢
        by_cases h3 : acc < Int.tdiv (-9223372036854775808 + ((c.toNat : Int) - 48)) 10
        · rw [if_pos h3] at h; cases h
        · rw [if_neg h3] at h ⊢; exact ih _ _ h
theorem tdiv_low (x : Int) (h : x ≤ 0) : Int.tdiv x 10 = -((-x) / 10) := by
  have e : x = -(-x) := by omega
  rw [e, Int.neg_tdiv, Int.tdiv_eq_ediv_of_nonneg (by omega)]
  simp
theorem neg_dec (u : Nat) : u ≤ 9223372036854775808 → negAcc 0 (Go.Lib.decDigits u) = some (-(u : Int)) := by
  induction u using Nat.strongRecOn with
  | ind u ih =>
    intro hu
    have one : ∀ acc : Nat, ∀ d, d < 10 → acc * 10 + d ≤ 9223372036854775808 → negAcc (-(acc : Int)) [UInt8.ofNat (48 + d)] = some (-((acc * 10 + d : Nat) : Int)) := by
      intro acc d hd hs
      simp only [negAcc]
      rw [dig_toNat d hd, tdiv_low (-9223372036854775808 + (((48 + d : Nat) : Int) - 48)) (by omega), if_neg (by omega), if_neg (by omega), if_neg (by omega)]
      congr 1
      omega
    by_cases h : u < 10
    · rw [Go.Lib.decDigits, dif_pos h]; have := one 0 u h (by omega); simpa using this
    · rw [Go.Lib.decDigits, dif_neg h, neg_app _ _ 0 (-((u / 10 : Nat) : Int)) (ih (u / 10) (by omega) (by omega)), one (u / 10) (u % 10) (by omega) (by omega)]
      congr 2; omega

/-- The last k digits of a number, noughts ahead. -/
def padD : Nat → Nat → List UInt8
  | 0, _ => []
  | k + 1, b => padD k (b / 10) ++ [UInt8.ofNat (48 + b % 10)]
theorem padD_len : ∀ (k b : Nat), (padD k b).length = k
  | 0, _ => rfl
  | k + 1, b => by simp [padD, padD_len k]
theorem dec_pad (k : Nat) : ∀ (a b : Nat), 0 < a → b < 10 ^ k → Go.Lib.decDigits (a * 10 ^ k + b) = Go.Lib.decDigits a ++ padD k b := by
  induction k with
  | zero => intro a b ha hb; have : b = 0 := by simpa using hb
            subst this; simp [padD]
  | succ k ih =>
    intro a b ha hb
    have e : a * 10 ^ (k + 1) = a * 10 ^ k * 10 := by rw [Nat.pow_succ, Nat.mul_assoc]
    rw [Nat.pow_succ] at hb
    have h10 : 1 ≤ 10 ^ k := Nat.pos_of_ne_zero (by simp)
    have hm : a * 10 ^ k ≥ 1 := Nat.mul_pos ha h10
    have h := ih a (b / 10) ha (by omega)
    rw [e]
    generalize a * 10 ^ k = z at *
    rw [Go.Lib.decDigits, dif_neg (by omega)]
    have e1 : (z * 10 + b) / 10 = z + b / 10 := by omega
    have e2 : (z * 10 + b) % 10 = b % 10 := by omega
    rw [e1, e2, h, padD, List.append_assoc]
theorem padD_zero : ∀ k, padD k 0 = List.replicate k 48
  | 0 => rfl
  | k + 1 => by rw [padD, show (0:Nat)/10 = 0 from rfl, padD_zero k, List.replicate_succ']; rfl
theorem padD_eq (k : Nat) : ∀ b, 0 < k → b < 10 ^ k → padD k b = List.replicate (k - (Go.Lib.decDigits b).length) 48 ++ Go.Lib.decDigits b := by
  induction k with
  | zero => intro b h; omega
  | succ k ih =>
    intro b _ hb
    by_cases c : b < 10
    · rw [Go.Lib.decDigits, dif_pos c, padD]
      have e1 : b / 10 = 0 := by omega
      have e2 : b % 10 = b := by omega
      rw [e1, e2, padD_zero]; rfl
    · rw [Nat.pow_succ] at hb
      have hk : 0 < k := by
        rcases Nat.eq_zero_or_pos k with h | h
        · subst h; simp at hb; omega
        · exact h
      rw [Go.Lib.decDigits, dif_neg c, padD, ih (b / 10) hk (by omega)]
      simp [Nat.add_sub_add_right]
theorem dec_len_le (k : Nat) : ∀ b, 0 < k → b < 10 ^ k → (Go.Lib.decDigits b).length ≤ k := by
  intro b hk hb
  have h := padD_len k b
  rw [padD_eq k b hk hb] at h
  simp at h
  omega

/-- What a text is as an int, if it is one's decimal. -/
def intT (l : List UInt8) : Int × Bool := match Go.Lib.atoiAll l with
  | .ok v => if -9223372036854775808 ≤ v ∧ v ≤ 9223372036854775807 then (if Go.Lib.itoa v = l then (v, true) else (0, false)) else (0, false)
  | _ => (0, false)
theorem intT_yes (v : Int) (h0 : -9223372036854775808 ≤ v) (h1 : v ≤ 9223372036854775807) : intT (Go.Lib.itoa v) = (v, true) := by
  unfold intT
  rw [atoi_itoa v h0 h1]
  have hc : -9223372036854775808 ≤ v ∧ v ≤ 9223372036854775807 := ⟨h0, h1⟩
  simp only [hc, and_self, if_true]
theorem intT_no (l : List UInt8) (h : ∀ v, -9223372036854775808 ≤ v → v ≤ 9223372036854775807 → Go.Lib.itoa v ≠ l) : intT l = (0, false) := by
  unfold intT
  cases hA : Go.Lib.atoiAll l with
  | ok v =>
    by_cases c : -9223372036854775808 ≤ v ∧ v ≤ 9223372036854775807
    · simp only [c, and_self, if_true]
      rw [if_neg (h v c.1 c.2)]
    · simp only [c, if_false]
  | «syntax» => rfl
  | range => rfl
theorem atoi_range (l : List UInt8) (v : Int) (h : Go.Lib.atoiAll l = .ok v) : -9223372036854775808 ≤ v ∧ v ≤ 9223372036854775807 := by
  unfold Go.Lib.atoiAll at h
  cases l with
  | nil => simp at h
  | cons c r =>
    simp only at h
    generalize hm : Go.Lib.parseMag _ = m at h
    cases m with
    | «syntax» => simp at h
    | range => simp at h
    | ok u =>
      simp only at h
      by_cases n : c.toNat = 45
      · simp only [n, not_true_eq_false, false_and, if_false, true_and, if_true] at h
        by_cases q : 9223372036854775808 < u
        · rw [if_pos q] at h; cases h
        · rw [if_neg q] at h
          injection h with h
          omega
      · simp only [n, not_false_eq_true, true_and, false_and, if_false] at h
        by_cases q : 9223372036854775808 ≤ u
        · rw [if_pos q] at h; cases h
        · rw [if_neg q] at h
          injection h with h
          omega
theorem itoa_len (v : Int) (h0 : -9223372036854775808 ≤ v) (h1 : v ≤ 9223372036854775807) : 1 ≤ (Go.Lib.itoa v).length ∧ (Go.Lib.itoa v).length ≤ 20 := by
  unfold Go.Lib.itoa
  by_cases c : v < 0
  · rw [if_pos c]
    have := dec_len_le 19 v.natAbs (by decide) (by omega)
    simp only [List.length_cons]; omega
  · rw [if_neg c]
    have := dec_len_le 19 v.toNat (by decide) (by omega)
    obtain ⟨b, r, e, _⟩ := dec_head v.toNat
    refine ⟨?_, by omega⟩
    rw [e]; simp
theorem intT_true (l : List UInt8) (v : Int) (h : intT l = (v, true)) : -9223372036854775808 ≤ v ∧ v ≤ 9223372036854775807 ∧ Go.Lib.itoa v = l := by
  by_cases hv : ∃ v, -9223372036854775808 ≤ v ∧ v ≤ 9223372036854775807 ∧ Go.Lib.itoa v = l
  · obtain ⟨u, a, b, rfl⟩ := hv
    rw [intT_yes u a b] at h
    injection h with h
    subst h
    exact ⟨a, b, rfl⟩
  · rw [intT_no l (fun v a b e => hv ⟨v, a, b, e⟩)] at h
    injection h with _ h
    cases h
/-- The same, from 0 to 999999999. -/
def numT (l : List UInt8) : Int × Bool := if (intT l).2 = true ∧ 0 ≤ (intT l).1 ∧ (intT l).1 ≤ 999999999 then ((intT l).1, true) else (0, false)

theorem bt_nat (s : ByteArray) (i : Nat) (h : i < s.data.toList.length) : bt s (i : Int) = ((s.data.toList[i]).toNat : Int) := by
  have h' : i < s.size := by rw [Array.length_toList] at h; exact h
  have e := bt_at s (i : Int) (by simpa using h')
  rw [← e]
  simp
  rfl

/-- A text cut at each byte c; what stands ahead of it belongs to the first piece. -/
def splitP (c : UInt8) (pre : List UInt8) : List UInt8 → List (List UInt8)
  | [] => [pre]
  | b :: l => if b = c then pre :: splitP c [] l else splitP c (pre ++ [b]) l
def ofL (l : List UInt8) : ByteArray := ⟨l.toArray⟩
theorem ofL_data (s : ByteArray) : ofL s.data.toList = s := by
  apply ByteArray.ext; simp [ofL]
theorem index_cons1 (b c : UInt8) (l : List UInt8) : Go.Lib.index (b :: l) [c] = if b = c then 0 else if Go.Lib.index l [c] = -1 then -1 else Go.Lib.index l [c] + 1 := by
  rw [Go.Lib.index]
  by_cases h : b = c
  · subst h; simp [List.isPrefixOf]
  · rw [if_neg (by simp [List.isPrefixOf]; exact fun e => h e.symm), if_neg h]
    by_cases m : Go.Lib.index l [c] = -1
    · rw [if_pos m, if_pos (beq_iff_eq.2 m)]
    · rw [if_neg m, if_neg (fun e => m (beq_iff_eq.1 e))]
theorem splitP_miss (c : UInt8) : ∀ (l pre : List UInt8), Go.Lib.index l [c] = -1 → splitP c pre l = [pre ++ l]
  | [], pre, _ => by simp [splitP]
  | b :: l, pre, h => by
    rw [index_cons1] at h
    by_cases e : b = c
    · rw [if_pos e] at h; cases h
    · rw [if_neg e] at h
      have m : Go.Lib.index l [c] = -1 := by
        by_cases m : Go.Lib.index l [c] = -1
        · exact m
        · rw [if_neg m] at h
          have := Go.Lib.index_ge l [c]
          omega
      rw [splitP, if_neg e, splitP_miss c l _ m]
      simp
theorem splitP_hit (c : UInt8) : ∀ (l pre : List UInt8) (i : Nat), Go.Lib.index l [c] = i → splitP c pre l = (pre ++ l.take i) :: splitP c [] (l.drop (i + 1))
  | [], pre, i, h => by simp [Go.Lib.index] at h
  | b :: l, pre, i, h => by
    rw [index_cons1] at h
    by_cases e : b = c
    · rw [if_pos e] at h
      have : i = 0 := by omega
      subst this
      rw [splitP, if_pos e]
      simp
    · rw [if_neg e] at h
      by_cases m : Go.Lib.index l [c] = -1
      · rw [if_pos m] at h; omega
      · rw [if_neg m] at h
        obtain ⟨j, rfl⟩ : ∃ j, i = j + 1 := ⟨i - 1, by have := Go.Lib.index_ge l [c]; omega⟩
        rw [splitP, if_neg e, splitP_hit c l _ j (by omega)]
        simp
theorem splitB_is (c : UInt8) : ∀ (k : Nat) (s : ByteArray), Go.Lib.countB s ⟨#[c]⟩ = k → Go.Lib.splitB ⟨#[c]⟩ 0 k s = (splitP c [] s.data.toList).map ofL
  | 0, s, hk => by
    rcases Go.Lib.indexB_cases s ⟨#[c]⟩ with hix | ⟨i, hix, _⟩
    · rw [Go.Lib.splitB_zero, splitP_miss c _ _ hix]; simp [ofL_data]
    · have := Go.Lib.countB_hit s ⟨#[c]⟩ i (Nat.le_refl 1) hix; omega
  | k + 1, s, hk => by
    rcases Go.Lib.indexB_cases s ⟨#[c]⟩ with hix | ⟨i, hix, _⟩
    · rw [Go.Lib.countB_miss s _ hix] at hk; omega
    · have hc := Go.Lib.countB_hit s ⟨#[c]⟩ i (Nat.le_refl 1) hix
      have e1 : (⟨#[c]⟩ : ByteArray).size = 1 := rfl
      rw [e1] at hc
      rw [Go.Lib.splitB_hit _ 0 k s i hix, splitP_hit c _ [] i hix, List.map_cons, e1, splitB_is c k _ (by omega), Go.Lib.extract_to_end]
      congr 1
      apply ByteArray.ext
      apply Array.ext'
      rw [Nat.add_zero, Go.Lib.extract_from_zero]
      simp [ofL]
theorem splitP_len (c : UInt8) : ∀ (l pre : List UInt8), 0 < (splitP c pre l).length ∧ (splitP c pre l).length ≤ l.length + 1
  | [], pre => by simp [splitP]
  | b :: l, pre => by
    have h1 := splitP_len c l []
    have h2 := splitP_len c l (pre ++ [b])
    rw [splitP]
    by_cases e : b = c
    · rw [if_pos e]; simp only [List.length_cons]; omega
    · rw [if_neg e]; simp only [List.length_cons]; omega

def dgB (b : UInt8) : Bool := decide (48 ≤ b.toNat ∧ b.toNat ≤ 57)
def valF (n : Nat) (l : List UInt8) : Nat := l.foldl (fun n b => 10 * n + (b.toNat - 48)) n
theorem valF_cons (n : Nat) (b : UInt8) (l : List UInt8) : valF n (b :: l) = valF (10 * n + (b.toNat - 48)) l := by unfold valF; rw [List.foldl_cons]
theorem valF_app (n : Nat) (a b : List UInt8) : valF n (a ++ b) = valF (valF n a) b := by unfold valF; rw [List.foldl_append]
theorem dg_byte (b : UInt8) (h : dgB b = true) : UInt8.ofNat (48 + (b.toNat - 48)) = b := by
  have := of_decide_eq_true h
  rw [show 48 + (b.toNat - 48) = b.toNat by omega, UInt8.ofNat_toNat]
theorem dec_valF : ∀ (l : List UInt8) (a : Nat), 0 < a → l.all dgB = true → Go.Lib.decDigits (valF a l) = Go.Lib.decDigits a ++ l
  | [], a, _, _ => by simp [valF]
  | b :: l, a, ha, h => by
    simp only [List.all_cons, Bool.and_eq_true] at h
    have hb := of_decide_eq_true h.1
    rw [valF_cons, dec_valF l _ (by omega) h.2]
    conv => lhs; rw [Go.Lib.decDigits]
    rw [dif_neg (by omega), show (10 * a + (b.toNat - 48)) / 10 = a by omega, show (10 * a + (b.toNat - 48)) % 10 = b.toNat - 48 by omega, dg_byte b h.1]
    simp
def okW (w : List UInt8) : Bool := !w.isEmpty && w.all dgB && (decide (w.length ≤ 1) || decide (w.head? ≠ some 48))
theorem ok_dec (w : List UInt8) (h : okW w = true) : Go.Lib.decDigits (valF 0 w) = w := by
  cases w with
  | nil => cases h
  | cons c r =>
    unfold okW at h
    simp only [Bool.and_eq_true, Bool.or_eq_true, decide_eq_true_eq, List.all_cons] at h
    obtain ⟨⟨_, hc, hr⟩, hl⟩ := h
    have hb := of_decide_eq_true hc
    rw [valF_cons]
    have one : Go.Lib.decDigits (10 * 0 + (c.toNat - 48)) = [c] := by
      rw [Go.Lib.decDigits, dif_pos (by omega), show 48 + (10 * 0 + (c.toNat - 48)) = c.toNat by omega, UInt8.ofNat_toNat]
    cases r with
    | nil => rw [valF, List.foldl_nil]; exact one
    | cons d r =>
      rw [dec_valF _ _ (by
        rcases hl with hl | hl
        · simp at hl
        · have : c.toNat ≠ 48 := fun e => hl (by
            have : c = 48 := UInt8.toNat_inj.1 e
            rw [this]; rfl)
          omega) hr, one]
      rfl
theorem dec_facts (u : Nat) : valF 0 (Go.Lib.decDigits u) = u ∧ (Go.Lib.decDigits u).all dgB = true ∧ Go.Lib.decDigits u ≠ [] ∧ (0 < u → (Go.Lib.decDigits u).head? ≠ some 48) := by
  induction u using Nat.strongRecOn with
  | _ u ih =>
    have byt : ∀ d, d < 10 → (UInt8.ofNat (48 + d)).toNat = 48 + d := fun d h => dig_toNat d h
    rw [Go.Lib.decDigits]
    by_cases h : u < 10
    · rw [dif_pos h]
      refine ⟨?_, ?_, by simp, ?_⟩
      · rw [valF_cons, byt u h, valF, List.foldl_nil]; omega
      · simp only [List.all_cons, List.all_nil, Bool.and_true]
        exact decide_eq_true (by rw [byt u h]; omega)
      · intro h0 e
        simp only [List.head?_cons, Option.some.injEq] at e
        have := congrArg UInt8.toNat e
        rw [byt u h] at this
        have : (48 : UInt8).toNat = 48 := rfl
        omega
    · rw [dif_neg h]
      obtain ⟨a1, a2, a3, a4⟩ := ih (u / 10) (by omega)
      refine ⟨?_, ?_, by simp, ?_⟩
      · rw [valF_app, a1]
        rw [valF_cons, byt _ (by omega), valF, List.foldl_nil]; omega
      · rw [List.all_append, a2]
        simp only [List.all_cons, List.all_nil, Bool.and_true, Bool.true_and]
        exact decide_eq_true (by rw [byt _ (by omega)]; omega)
      · intro _
        have := a4 (by omega)
        cases hd : Go.Lib.decDigits (u / 10) with
        | nil => exact absurd hd a3
        | cons x t => rw [hd] at this; simpa using this
theorem dec_ok (u : Nat) : okW (Go.Lib.decDigits u) = true := by
  obtain ⟨_, a2, a3, a4⟩ := dec_facts u
  unfold okW
  rw [a2]
  by_cases h : 0 < u
  · have := a4 h
    simp [a3, this]
  · have : u = 0 := by omega
    subst this
    rw [show Go.Lib.decDigits 0 = [48] from by rw [Go.Lib.decDigits]; rfl]
    rfl
theorem ok_len (w : List UInt8) (h : okW w = true) (k : Nat) (hk : 0 < k) (hv : valF 0 w < 10 ^ k) : w.length ≤ k := by
  have := dec_len_le k (valF 0 w) hk hv
  rwa [ok_dec w h] at this
theorem numT_ok (w : List UInt8) (h : okW w = true) (hv : valF 0 w ≤ 999999999) : numT w = (((valF 0 w : Nat) : Int), true) := by
  have e : Go.Lib.itoa ((valF 0 w : Nat) : Int) = w := by rw [Go.Lib.itoa_nonneg, ok_dec w h]
  have := intT_yes ((valF 0 w : Nat) : Int) (by omega) (by omega)
  rw [e] at this
  unfold numT
  rw [this]
  simp only
  rw [if_pos ⟨trivial, by omega, by omega⟩]
theorem numT_no (w : List UInt8) (h : ¬ (okW w = true ∧ valF 0 w ≤ 999999999)) : numT w = (0, false) := by
  unfold numT
  rw [if_neg]
  rintro ⟨a, b, c⟩
  obtain ⟨v, ok⟩ : Int × Bool := intT w
  obtain ⟨_, _, e⟩ := intT_true w (intT w).1 (by rw [← a])
  obtain ⟨u, hu⟩ := Int.eq_ofNat_of_zero_le b
  rw [hu, Go.Lib.itoa_nonneg] at e
  refine h ⟨by rw [← e]; exact dec_ok u, ?_⟩
  rw [← e, (dec_facts u).1]
  omega
/-- What a decimal's text says, its sign struck: whole, point, one to three digits. -/
def fixW (ng : Bool) (n : Nat) : Int × Bool := if n ≤ 2147483647 then (if ng = true then -(n : Int) else n, true) else (0, false)
def fixR0 (ng : Bool) (r : List UInt8) : Int × Bool := if Go.Lib.index r [46] = -1 then (if okW r = true then fixW ng (1000 * valF 0 r) else (0, false))
  else (if okW (r.take (Go.Lib.index r [46]).toNat) = true ∧ 1 ≤ (r.drop ((Go.Lib.index r [46]).toNat + 1)).length ∧ (r.drop ((Go.Lib.index r [46]).toNat + 1)).length ≤ 3 ∧ (r.drop ((Go.Lib.index r [46]).toNat + 1)).all dgB = true
    then fixW ng (1000 * valF 0 (r.take (Go.Lib.index r [46]).toNat) + valF 0 (r.drop ((Go.Lib.index r [46]).toNat + 1)) * 10 ^ (3 - (r.drop ((Go.Lib.index r [46]).toNat + 1)).length)) else (0, false))
def fixR (l : List UInt8) : Int × Bool := if l.head? = some 45 then fixR0 true (l.drop 1) else fixR0 false l
theorem valF_shift : ∀ (l : List UInt8) (a : Nat), valF a l = a * 10 ^ l.length + valF 0 l
  | [], a => by simp [valF]
  | b :: l, a => by
    rw [valF_cons, valF_cons, valF_shift l (10 * a + (b.toNat - 48)), valF_shift l (10 * 0 + (b.toNat - 48)), List.length_cons, Nat.pow_succ]
    generalize (10 : Nat) ^ l.length = P
    generalize b.toNat - 48 = d
    rw [Nat.add_mul, Nat.add_mul, show 10 * a * P = a * (P * 10) by rw [Nat.mul_comm P 10, ← Nat.mul_assoc, Nat.mul_comm a 10]]
    omega
theorem valF_lt : ∀ (l : List UInt8), l.all dgB = true → valF 0 l < 10 ^ l.length
  | [], _ => by simp [valF]
  | b :: l, h => by
    simp only [List.all_cons, Bool.and_eq_true] at h
    have hb := of_decide_eq_true h.1
    have ih := valF_lt l h.2
    rw [valF_cons, valF_shift, List.length_cons, Nat.pow_succ]
    generalize (10 : Nat) ^ l.length = P at ih
    have : (10 * 0 + (b.toNat - 48)) * P ≤ 9 * P := Nat.mul_le_mul_right _ (by omega)
    omega
theorem ok_all (w : List UInt8) (h : okW w = true) : w.all dgB = true := by
  unfold okW at h
  simp only [Bool.and_eq_true] at h
  exact h.1.2
theorem fixW_big (ng : Bool) (n : Nat) (h : 2147483647 < n) : fixW ng n = (0, false) := by unfold fixW; rw [if_neg (by omega)]
theorem ok_long (w : List UInt8) (h : okW w = true) (hl : 10 < w.length) : 10000000000 ≤ valF 0 w := by
  by_cases c : valF 0 w < 10 ^ 10
  · have := ok_len w h 10 (by decide) c; omega
  · have e : (10 : Nat) ^ 10 = 10000000000 := by rfl
    omega
theorem idx_cases (r : List UInt8) : Go.Lib.index r [46] = -1 ∨ ∃ i : Nat, Go.Lib.index r [46] = (i : Int) ∧ i < r.length := by
  have h := Go.Lib.index_ge r [46]
  by_cases c : Go.Lib.index r [46] = -1
  · exact .inl c
  · have := Go.Lib.index_room r [46] (by omega)
    simp only [List.length_cons, List.length_nil] at this
    exact .inr ⟨(Go.Lib.index r [46]).toNat, by omega, by omega⟩
theorem no_point0 (q : List UInt8) (h : q.all dgB = true) : Go.Lib.index q [46] = -1 := by
  rcases idx_cases q with m | ⟨i, m, hi⟩
  · exact m
  · rw [Go.Lib.index_one] at m
    have e := (Go.Lib.indexByte_some m).1
    have hm := List.all_eq_true.1 h 46 (List.mem_of_getElem? e)
    cases hm
theorem fixR0_miss (ng : Bool) (r : List UInt8) (h : Go.Lib.index r [46] = -1) : fixR0 ng r = (if okW r = true then fixW ng (1000 * valF 0 r) else (0, false)) := by
  unfold fixR0; rw [if_pos h]
theorem fixR0_hit (ng : Bool) (r : List UInt8) (i : Nat) (h : Go.Lib.index r [46] = (i : Int)) : fixR0 ng r = (if okW (r.take i) = true ∧ 1 ≤ (r.drop (i + 1)).length ∧ (r.drop (i + 1)).length ≤ 3 ∧ (r.drop (i + 1)).all dgB = true then fixW ng (1000 * valF 0 (r.take i) + valF 0 (r.drop (i + 1)) * 10 ^ (3 - (r.drop (i + 1)).length)) else (0, false)) := by
  unfold fixR0
  rw [if_neg (by omega), h, Int.toNat_natCast]
theorem fixR0_long (ng : Bool) (r : List UInt8) (h : 15 ≤ r.length) : fixR0 ng r = (0, false) := by
  rcases idx_cases r with m | ⟨i, m, hi⟩
  · rw [fixR0_miss ng r m]
    by_cases c : okW r = true
    · have := ok_long r c (by omega)
      rw [if_pos c, fixW_big _ _ (by omega)]
    · rw [if_neg c]
  · rw [fixR0_hit ng r i m]
    by_cases c : okW (r.take i) = true ∧ 1 ≤ (r.drop (i + 1)).length ∧ (r.drop (i + 1)).length ≤ 3 ∧ (r.drop (i + 1)).all dgB = true
    · rw [if_pos c]
      have hl := c.2.2.1
      rw [List.length_drop] at hl
      have := ok_long (r.take i) c.1 (by rw [List.length_take]; omega)
      rw [fixW_big _ _ (by omega)]
    · rw [if_neg c]
theorem fixR_long (l : List UInt8) (h : 20 < l.length) : fixR l = (0, false) := by
  unfold fixR
  split
  · exact fixR0_long _ _ (by rw [List.length_drop]; omega)
  · exact fixR0_long _ _ (by omega)

/-- The decimal digits of a number, none for 0. -/
def digs (u : Nat) : List UInt8 := if u = 0 then [] else Go.Lib.decDigits u
theorem digs_step {u : Nat} (h : u ≠ 0) : digs u = digs (u / 10) ++ [UInt8.ofNat (48 + u % 10)] := by
  unfold digs
  rw [if_neg h]
  by_cases c : u < 10
  · rw [Go.Lib.decDigits_one c, if_pos (by omega)]
    have : u % 10 = u := Nat.mod_eq_of_lt c
    rw [this]; rfl
  · rw [Go.Lib.decDigits, dif_neg c, if_neg (by omega)]
theorem byte_of (n : Nat) (h : n < 10) : strOfNums [(wrap64 (48 + (n : Int))) % 256] = ⟨#[UInt8.ofNat (48 + n)]⟩ := by
  have e : (wrap64 (48 + (n : Int))) % 256 = ((48 + n : Nat) : Int) := by unfold wrap64; omega
  rw [e]
  rfl
theorem mk_app (a b : List UInt8) : (⟨a.toArray⟩ : ByteArray) ++ ⟨b.toArray⟩ = ⟨(a ++ b).toArray⟩ := by
  apply ByteArray.ext
  simp

theorem spec_Digits_l (d : Nat) : ∀ (k : Nat) (n : Int) (s : Bool) (acc : List UInt8), n.natAbs < 10 ^ d → d < k → d + acc.length ≤ 40 → -9223372036854775808 ≤ n → n ≤ 9223372036854775807 →
    spec_Digits.l0 k n s ⟨acc.toArray⟩ = some ⟨((if s = true then [45] else []) ++ digs n.natAbs ++ acc).toArray⟩ := by
  induction d with
  | zero =>
    intro k n s acc h0 hk ha _ _
    obtain ⟨k, rfl⟩ : ∃ m, k = m + 1 := ⟨k - 1, by omega⟩
    have hn : n = 0 := by simp at h0; omega
    subst hn
    simp only [spec_Digits.l0]
    rw [if_pos trivial]
    have e0 : digs (Int.natAbs 0) = [] := rfl
    rw [e0]
    have hsz : 1 + (⟨acc.toArray⟩ : ByteArray).size ≤ 9223372036854775807 := by
      have : (⟨acc.toArray⟩ : ByteArray).size = acc.length := by simp [ByteArray.size]
      omega
    cases s
    · rw [if_neg (by decide), if_neg (by decide)]; simp
    · rw [if_pos rfl, if_pos hsz, if_pos rfl]
      have := mk_app [45] acc
      exact congrArg some (this.trans (by simp))
  | succ d ih =>
    intro k n s acc h0 hk ha b0 b1
    obtain ⟨k, rfl⟩ : ∃ m, k = m + 1 := ⟨k - 1, by omega⟩
    have hsz : (⟨acc.toArray⟩ : ByteArray).size = acc.length := by simp [ByteArray.size]
    by_cases hn : n = 0
    · subst hn
      simp only [spec_Digits.l0]
      rw [if_pos trivial]
      have e0 : digs (Int.natAbs 0) = [] := rfl
      rw [e0]
      cases s
      · rw [if_neg (by decide), if_neg (by decide)]; simp
      · rw [if_pos rfl, if_pos (by omega), if_pos rfl]
        have := mk_app [45] acc
        exact congrArg some (this.trans (by simp))
    · simp only [spec_Digits.l0]
      rw [if_neg hn]
      have hu : n.natAbs ≠ 0 := by omega
      have hq : (wrap64 (Int.tdiv n 10)) = Int.tdiv n 10 := by
        have h1 : (Int.tdiv n 10).natAbs = n.natAbs / 10 := Int.natAbs_tdiv n 10
        unfold wrap64; omega
      have hqa : (Int.tdiv n 10).natAbs = n.natAbs / 10 := Int.natAbs_tdiv n 10
      have hqd : (Int.tdiv n 10).natAbs < 10 ^ d := by rw [hqa]; rw [Nat.pow_succ] at h0; omega
      have hqb : -9223372036854775808 ≤ Int.tdiv n 10 ∧ Int.tdiv n 10 ≤ 9223372036854775807 := by omega
      have hr : (Int.tmod n 10).natAbs = n.natAbs % 10 := Int.natAbs_tmod n 10
      have tail : ∀ y : ByteArray, y = ⟨#[UInt8.ofNat (48 + n.natAbs % 10)]⟩ → (if y.size + (⟨acc.toArray⟩ : ByteArray).size ≤ 9223372036854775807 then spec_Digits.l0 k (wrap64 (Int.tdiv n 10)) s (y ++ ⟨acc.toArray⟩) else none) = some ⟨((if s = true then [45] else []) ++ digs n.natAbs ++ acc).toArray⟩ := by
        intro y hy
        subst hy
        have e1 : (⟨#[UInt8.ofNat (48 + n.natAbs % 10)]⟩ : ByteArray).size = 1 := rfl
        have e2 : (⟨#[UInt8.ofNat (48 + n.natAbs % 10)]⟩ : ByteArray) ++ ⟨acc.toArray⟩ = ⟨(UInt8.ofNat (48 + n.natAbs % 10) :: acc).toArray⟩ := mk_app [UInt8.ofNat (48 + n.natAbs % 10)] acc
        rw [if_pos (by omega), e2, hq, ih k _ s _ hqd (by omega) (by simp only [List.length_cons]; omega) hqb.1 hqb.2, hqa, digs_step hu]
        simp
      by_cases c : Int.tmod n 10 < 0
      · rw [if_pos c]
        have e : wrap64 (-(Int.tmod n 10)) = ((n.natAbs % 10 : Nat) : Int) := by unfold wrap64; omega
        rw [e]
        exact tail _ (byte_of _ (by omega))
      · rw [if_neg c]
        have e : Int.tmod n 10 = ((n.natAbs % 10 : Nat) : Int) := by omega
        rw [e]
        exact tail _ (byte_of _ (by omega))
theorem spec_Digits_is (n : Int) (b0 : -9223372036854775808 ≤ n) (b1 : n ≤ 9223372036854775807) : spec_Digits.f 30 n = some ⟨(Go.Lib.itoa n).toArray⟩ := by
  unfold spec_Digits.f
  by_cases hn : n = 0
  · subst hn
    rw [if_pos rfl]
    rw [show Go.Lib.itoa 0 = [48] from by rw [show (0 : Int) = ((0 : Nat) : Int) from rfl, Go.Lib.itoa_nonneg, Go.Lib.decDigits_one (by decide)]; rfl]
  · rw [if_neg hn]
    have h := spec_Digits_l 20 30 n (decide (n < 0)) [] (by omega) (by decide) (by decide) b0 b1
    have e0 : (⟨#[]⟩ : ByteArray) = ⟨([] : List UInt8).toArray⟩ := rfl
    rw [e0, h]
    have ed : digs n.natAbs = Go.Lib.decDigits n.natAbs := by unfold digs; rw [if_neg (by omega)]
    rw [ed]
    unfold Go.Lib.itoa
    by_cases c : n < 0
    · rw [if_pos c, if_pos (decide_eq_true c)]; simp
    · rw [if_neg c, if_neg (by simpa using c)]
      have : n.toNat = n.natAbs := by omega
      rw [this]; simp

theorem spec_Digits_k (k : Nat) (hk : 20 < k) (n : Int) (b0 : -9223372036854775808 ≤ n) (b1 : n ≤ 9223372036854775807) : spec_Digits.f k n = some ⟨(Go.Lib.itoa n).toArray⟩ := by
  unfold spec_Digits.f
  by_cases hn : n = 0
  · subst hn
    rw [if_pos rfl]
    rw [show Go.Lib.itoa 0 = [48] from by rw [show (0 : Int) = ((0 : Nat) : Int) from rfl, Go.Lib.itoa_nonneg, Go.Lib.decDigits_one (by decide)]; rfl]
  · rw [if_neg hn]
    have h := spec_Digits_l 20 k n (decide (n < 0)) [] (by omega) hk (by decide) b0 b1
    have e0 : (⟨#[]⟩ : ByteArray) = ⟨([] : List UInt8).toArray⟩ := rfl
    rw [e0, h]
    have ed : digs n.natAbs = Go.Lib.decDigits n.natAbs := by unfold digs; rw [if_neg (by omega)]
    rw [ed]
    unfold Go.Lib.itoa
    by_cases c : n < 0
    · rw [if_pos c, if_pos (decide_eq_true c)]; simp
    · rw [if_neg c, if_neg (by simpa using c)]
      have : n.toNat = n.natAbs := by omega
      rw [this]; simp

theorem four (r : Nat) (h : r < 1000) : Go.Lib.decDigits (1000 + r) = [49, UInt8.ofNat (48 + r / 100), UInt8.ofNat (48 + r / 10 % 10), UInt8.ofNat (48 + r % 10)] := by
  rw [Go.Lib.decDigits, dif_neg (by omega), Go.Lib.decDigits, dif_neg (by omega), Go.Lib.decDigits, dif_neg (by omega), Go.Lib.decDigits, dif_pos (by omega)]
  have e1 : (1000 + r) / 10 / 10 / 10 = 1 := by omega
  have e2 : (1000 + r) / 10 / 10 % 10 = r / 100 := by omega
  have e3 : (1000 + r) / 10 % 10 = r / 10 % 10 := by omega
  have e4 : (1000 + r) % 10 = r % 10 := by omega
  rw [e1, e2, e3, e4]
  rfl
theorem byte48 (n : Nat) (h : n < 10) : (UInt8.ofNat (48 + n) == 48) = decide (n = 0) := by
  have : n = 0 ∨ n = 1 ∨ n = 2 ∨ n = 3 ∨ n = 4 ∨ n = 5 ∨ n = 6 ∨ n = 7 ∨ n = 8 ∨ n = 9 := by omega
  rcases this with rfl | rfl | rfl | rfl | rfl | rfl | rfl | rfl | rfl | rfl <;> decide
/-- Three digits, not all nought, without the noughts at their end. -/
def cut3 (a b c : Nat) : List UInt8 := if c = 0 then (if b = 0 then [UInt8.ofNat (48 + a)] else [UInt8.ofNat (48 + a), UInt8.ofNat (48 + b)]) else [UInt8.ofNat (48 + a), UInt8.ofNat (48 + b), UInt8.ofNat (48 + c)]
theorem trim3 (a b c : Nat) (ha : a < 10) (hb : b < 10) (hc : c < 10) (h : ¬ (a = 0 ∧ b = 0 ∧ c = 0)) : Go.Lib.trimRightB [UInt8.ofNat (48 + a), UInt8.ofNat (48 + b), UInt8.ofNat (48 + c)] 48 = cut3 a b c := by
  unfold Go.Lib.trimRightB cut3
  have pa := byte48 a ha
  have pb := byte48 b hb
  have pc := byte48 c hc
  simp only [List.reverse_cons, List.reverse_nil, List.nil_append, List.cons_append, List.dropWhile_cons, pa, pb, pc]
  by_cases h0 : c = 0
  · by_cases h1 : b = 0
    · have h2 : ¬ a = 0 := fun e => h ⟨e, h1, h0⟩
      simp [h0, h1, h2]
    · simp [h0, h1]
  · simp [h0]
theorem mk_size (l : List UInt8) : (⟨l.toArray⟩ : ByteArray).size = l.length := by simp [ByteArray.size]
/-- A decimal's text without its sign. -/
def fixU (a : Nat) : List UInt8 := Go.Lib.decDigits (a / 1000) ++ (if a % 1000 = 0 then [] else 46 :: cut3 (a % 1000 / 100) (a % 1000 / 10 % 10) (a % 1000 % 10))
/-- A decimal's text. -/
def fixL (n : Int) : List UInt8 := if n < 0 then 45 :: fixU n.natAbs else fixU n.natAbs
def fixT (n : Int) : List UInt8 := if -2147483647 ≤ n ∧ n ≤ 2147483647 then fixL n else []
theorem dec_len20 (u : Nat) (h : u < 18446744073709551616) : (Go.Lib.decDigits u).length ≤ 20 := dec_len_le 20 u (by decide) (by omega)

theorem index_app : ∀ (w c : List UInt8), w.all dgB = true → Go.Lib.index (w ++ 46 :: c) [46] = (w.length : Int)
  | [], c, _ => by rw [List.nil_append, index_cons1, if_pos rfl]; rfl
  | b :: w, c, h => by
    simp only [List.all_cons, Bool.and_eq_true] at h
    have hb : b ≠ 46 := fun e => by rw [e] at h; cases h.1
    have ih := index_app w c h.2
    rw [List.cons_append, index_cons1, if_neg hb, ih, if_neg (by omega), List.length_cons]
    omega
theorem cut3_facts (a b c : Nat) (ha : a < 10) (hb : b < 10) (hc : c < 10) (h : ¬ (a = 0 ∧ b = 0 ∧ c = 0)) :
    1 ≤ (cut3 a b c).length ∧ (cut3 a b c).length ≤ 3 ∧ (cut3 a b c).all dgB = true ∧ valF 0 (cut3 a b c) * 10 ^ (3 - (cut3 a b c).length) = 100 * a + 10 * b + c := by
  have dg : ∀ d, d < 10 → dgB (UInt8.ofNat (48 + d)) = true := fun d hd => decide_eq_true (by rw [dig_toNat d hd]; omega)
  have dv : ∀ d, d < 10 → (UInt8.ofNat (48 + d)).toNat - 48 = d := fun d hd => by rw [dig_toNat d hd]; omega
  unfold cut3
  by_cases c0 : c = 0
  · rw [if_pos c0]
    by_cases b0 : b = 0
    · rw [if_pos b0]
      refine ⟨by simp, by simp, by simp only [List.all_cons, List.all_nil, dg a ha, Bool.and_true], ?_⟩
      rw [valF_cons, dv a ha]; simp [valF]; omega
    · rw [if_neg b0]
      refine ⟨by simp, by simp, by simp only [List.all_cons, List.all_nil, dg a ha, dg b hb, Bool.and_true], ?_⟩
      rw [valF_cons, valF_cons, dv a ha, dv b hb]; simp [valF]; omega
  · rw [if_neg c0]
    refine ⟨by simp, by simp, by simp only [List.all_cons, List.all_nil, dg a ha, dg b hb, dg c hc, Bool.and_true], ?_⟩
    rw [valF_cons, valF_cons, valF_cons, dv a ha, dv b hb, dv c hc]; simp [valF]; omega
theorem fixR0_U (ng : Bool) (a : Nat) : fixR0 ng (fixU a) = fixW ng a := by
  obtain ⟨v, d, _, _⟩ := dec_facts (a / 1000)
  unfold fixU
  by_cases z : a % 1000 = 0
  · rw [if_pos z, List.append_nil, fixR0_miss ng _ (no_point0 _ d), if_pos (dec_ok _), v, show 1000 * (a / 1000) = a by omega]
  · rw [if_neg z]
    have ok0 := dec_ok (a / 1000)
    obtain ⟨c1, c2, c3, c4⟩ := cut3_facts (a % 1000 / 100) (a % 1000 / 10 % 10) (a % 1000 % 10) (by omega) (by omega) (by omega) (by omega)
    generalize cut3 (a % 1000 / 100) (a % 1000 / 10 % 10) (a % 1000 % 10) = c at c1 c2 c3 c4
    generalize Go.Lib.decDigits (a / 1000) = w at v d ok0
    have eT : (w ++ 46 :: c).take w.length = w := List.take_left
    have eD : (w ++ 46 :: c).drop (w.length + 1) = c := by rw [← List.drop_drop, List.drop_left]; rfl
    rw [fixR0_hit ng _ _ (index_app _ c d), eT, eD, if_pos ⟨ok0, c1, c2, c3⟩, v, c4, show 1000 * (a / 1000) + (100 * (a % 1000 / 100) + 10 * (a % 1000 / 10 % 10) + a % 1000 % 10) = a by omega]
theorem fixR_T (n : Int) (h0 : -2147483647 ≤ n) (h1 : n ≤ 2147483647) : fixR (fixT n) = (n, true) := by
  have e0 : fixT n = if n < 0 then 45 :: fixU n.natAbs else fixU n.natAbs := by unfold fixT fixL; rw [if_pos ⟨h0, h1⟩]
  rw [e0]
  clear e0
  unfold fixR
  by_cases c : n < 0
  · rw [if_pos c, if_pos (show (45 :: fixU n.natAbs).head? = some 45 from rfl)]
    show fixR0 true (fixU n.natAbs) = (n, true)
    rw [fixR0_U]
    unfold fixW
    rw [if_pos (by omega), if_pos rfl]
    congr 1; omega
  · rw [if_neg c]
    have hh : (fixU n.natAbs).head? ≠ some 45 := by
      obtain ⟨x, r, e, g, _⟩ := dec_head (n.natAbs / 1000)
      unfold fixU
      rw [e]
      simp only [List.cons_append, List.head?_cons, ne_eq, Option.some.injEq]
      intro h; rw [h] at g; exact absurd g (by decide)
    rw [if_neg hh, fixR0_U]
    unfold fixW
    rw [if_pos (by omega), if_neg (by decide)]
    congr 1; omega
theorem fixT_ne (n : Int) (h0 : -2147483647 ≤ n) (h1 : n ≤ 2147483647) : fixT n ≠ [] := by
  intro e
  have := fixR_T n h0 h1
  rw [e] at this
  have e2 : fixR [] = (0, false) := by unfold fixR; rw [if_neg (by decide), fixR0_miss false [] rfl]; rfl
  rw [e2] at this
  injection this with _ h; cases h
theorem fixR0_range (ng : Bool) (l : List UInt8) (h : (fixR0 ng l).2 = true) : -2147483647 ≤ (fixR0 ng l).1 ∧ (fixR0 ng l).1 ≤ 2147483647 := by
  have w : ∀ n, (fixW ng n).2 = true → -2147483647 ≤ (fixW ng n).1 ∧ (fixW ng n).1 ≤ 2147483647 := by
    intro n hn
    unfold fixW at hn ⊢
    by_cases c : n ≤ 2147483647
    · rw [if_pos c]
      cases ng
      · simp only [Bool.false_eq_true, if_false]; omega
      · simp only [if_true]; omega
    · rw [if_neg c] at hn; cases hn
  rcases idx_cases l with m | ⟨i, m, _⟩
  · rw [fixR0_miss ng l m] at h ⊢
    by_cases c : okW l = true
    · rw [if_pos c] at h ⊢; exact w _ h
    · rw [if_neg c] at h; cases h
  · rw [fixR0_hit ng l i m] at h ⊢
    by_cases c : okW (l.take i) = true ∧ 1 ≤ (l.drop (i + 1)).length ∧ (l.drop (i + 1)).length ≤ 3 ∧ (l.drop (i + 1)).all dgB = true
    · rw [if_pos c] at h ⊢; exact w _ h
    · rw [if_neg c] at h; cases h
theorem fixR_range (l : List UInt8) (h : (fixR l).2 = true) : -2147483647 ≤ (fixR l).1 ∧ (fixR l).1 ≤ 2147483647 := by
  unfold fixR at h ⊢
  by_cases c : l.head? = some 45
  · rw [if_pos c] at h ⊢; exact fixR0_range _ _ h
  · rw [if_neg c] at h ⊢; exact fixR0_range _ _ h

theorem trim_dw (p : UInt8 → Bool) : ∀ m : List UInt8, (∀ x ∈ m.dropWhile p, p x = true) → ∀ x ∈ m, p x = true
  | [], _, x, hx => by cases hx
  | a :: t, h, x, hx => by
    by_cases pa : p a = true
    · rw [List.dropWhile_cons_of_pos pa] at h
      rcases List.mem_cons.1 hx with rfl | hx
      · exact pa
      · exact trim_dw p t h x hx
    · rw [List.dropWhile_cons_of_neg pa] at h
      exact h x hx
theorem dw_nil (p : UInt8 → Bool) : ∀ m : List UInt8, m.dropWhile p = [] ↔ ∀ x ∈ m, p x = true
  | [] => by simp
  | a :: t => by
    by_cases pa : p a = true
    · rw [List.dropWhile_cons_of_pos pa, dw_nil p t]; simp [pa]
    · rw [List.dropWhile_cons_of_neg pa]; simp [pa]
theorem dig_mem : ∀ n : Fin 256, ([48, 49, 50, 51, 52, 53, 54, 55, 56, 57] : List UInt8).contains (UInt8.ofNat n.val) = dgB (UInt8.ofNat n.val) := by decide +kernel
theorem dig_mem' (b : UInt8) : ([48, 49, 50, 51, 52, 53, 54, 55, 56, 57] : List UInt8).contains b = dgB b := by
  have := dig_mem ⟨b.toNat, b.toNat_lt⟩
  simpa only [UInt8.ofNat_toNat] using this
theorem trim_nil (l : List UInt8) : (Go.Lib.trimS l [48, 49, 50, 51, 52, 53, 54, 55, 56, 57] = []) ↔ l.all dgB = true := by
  unfold Go.Lib.trimS Go.Lib.trimLeftS Go.Lib.trimRightS
  rw [dw_nil, List.all_eq_true]
  simp only [dig_mem']
  constructor
  · intro h x hx
    exact trim_dw dgB l.reverse (fun y hy => h y (List.mem_reverse.2 hy)) x (List.mem_reverse.2 hx)
  · intro h x hx
    exact h x (List.mem_reverse.1 ((List.dropWhile_sublist _).subset (List.mem_reverse.1 hx)))
theorem areDigits_is (a : ByteArray) (hs : a.size ≤ 9223372036854775807) : impl_areDigits.f a = some (!a.data.toList.isEmpty && a.data.toList.all dgB) := by
  unfold impl_areDigits.f
  rw [Go.Lib.toList_data]
  by_cases h : a.data.toList = []
  · rw [if_pos h, h]; rfl
  · rw [if_neg h]
    unfold strings_Trim.f
    rw [if_pos ⟨rfl, hs⟩, Option.bind_some, Go.Lib.toList_data]
    simp only
    have e : (Go.Lib.trimS a.data.toList [48, 49, 50, 51, 52, 53, 54, 55, 56, 57] == []) = a.data.toList.all dgB := by
      rw [Bool.eq_iff_iff, beq_iff_eq, trim_nil]
    have e2 : a.data.toList.isEmpty = false := by simpa using h
    rw [e2]
    exact congrArg some (by simpa using e)
theorem impl_ReadFix_l (s : ByteArray) (ng : Bool) (hs : s.size ≤ 13) (hd : s.data.toList.all dgB = true) (d : Nat) : ∀ (k i x : Nat), s.size - i = d → i ≤ s.size → d < k → x < 10 ^ i →
    impl_ReadFix.l0 k s ng (x : Int) (i : Int) = impl_ReadFix.j1 ng ((valF x (s.data.toList.drop i) : Nat) : Int) := by
  have hz : s.data.toList.length = s.size := by rw [Array.length_toList]; rfl
  induction d with
  | zero =>
    intro k i x h1 h2 h3 h4
    obtain ⟨k, rfl⟩ : ∃ m, k = m + 1 := ⟨k - 1, by omega⟩
    rw [impl_ReadFix.l0, if_neg (by omega), List.drop_eq_nil_of_le (by omega)]
    rfl
  | succ d ih =>
    intro k i x h1 h2 h3 h4
    obtain ⟨k, rfl⟩ : ∃ m, k = m + 1 := ⟨k - 1, by omega⟩
    have hi : i < s.data.toList.length := by omega
    rw [impl_ReadFix.l0, if_pos (by omega), List.drop_eq_getElem_cons hi, valF_cons]
    have hg : s.data.toList.getD (i : Int).toNat 0 = s.data.toList[i] := by
      rw [Int.toNat_natCast, List.getD, List.getElem?_eq_getElem hi]; rfl
    rw [hg]
    have hb : dgB s.data.toList[i] = true := List.all_eq_true.1 hd _ (List.getElem_mem hi)
    generalize s.data.toList[i] = b at hb
    have hb' := of_decide_eq_true hb
    have hp : (10 : Nat) ^ i ≤ 10 ^ 13 := Nat.pow_le_pow_right (by decide) (by omega)
    have hx : x < 10000000000000 := Nat.lt_of_lt_of_le h4 (Nat.le_trans hp (Nat.le_of_eq (by rfl)))
    have hx1 : 10 * x + (b.toNat - 48) < 10 ^ (i + 1) := by
      rw [Nat.pow_succ]
      generalize (10 : Nat) ^ i = P at h4
      omega
    clear hp h4
    have e1 : wrap64 (wrap64 (10 * (x : Int)) + ((b.toNat : Int) - 48) % 256) = ((10 * x + (b.toNat - 48) : Nat) : Int) := by
      have hm : ((b.toNat : Int) - 48) % 256 = (b.toNat : Int) - 48 := by omega
      rw [hm]
      generalize b.toNat = m at hb'
      clear hm hx1
      have h10 : wrap64 (10 * (x : Int)) = 10 * (x : Int) := by unfold wrap64; omega
      rw [h10]
      unfold wrap64; omega
    rw [e1, show (i : Int) + 1 = ((i + 1 : Nat) : Int) by omega]
    exact ih k (i + 1) _ (by omega) (by omega) (by omega) hx1
theorem impl_ReadFix_j (ng : Bool) (n : Nat) (h : n < 100000000000000) : impl_ReadFix.j1 ng (n : Int) = some (fixW ng n) := by
  unfold impl_ReadFix.j1 impl_isDecimal.f impl_within.f fixW
  rw [if_pos (by omega), Option.bind_some, Option.bind_some]
  by_cases c : n ≤ 2147483647
  · rw [if_pos c, if_pos (decide_eq_true (by omega))]
    cases ng
    · rfl
    · rw [if_pos rfl, if_pos rfl, show wrap64 (-(n : Int)) = -(n : Int) by unfold wrap64; omega]
  · rw [if_neg c, if_neg (by simp; omega)]
theorem ofL_list (l : List UInt8) : (ofL l).data.toList = l := rfl
theorem ofL_size (l : List UInt8) : (ofL l).size = l.length := by simp [ofL, ByteArray.size]
theorem bad2_is (p q : List UInt8) (c : Bool) (hq : q.length ≤ 2000000) : impl_ReadFix.bad2 (ofL p) (ofL q) c = some (!((!c || (!q.isEmpty && q.all dgB && decide (q.length ≤ 3))) && decide (p.length ≤ 10))) := by
  unfold impl_ReadFix.bad2
  cases c with
  | false =>
    rw [if_neg (by decide), ofL_size]
    by_cases h : p.length ≤ 10
    · simp [h]; omega
    · simp [h]; omega
  | true =>
    rw [if_pos rfl, areDigits_is _ (by rw [ofL_size]; omega), Option.bind_some, ofL_list, ofL_size, ofL_size]
    by_cases d : (!q.isEmpty && q.all dgB) = true
    · rw [if_pos d, d]
      by_cases h3 : q.length ≤ 3
      · rw [if_neg (by omega)]
        by_cases h : p.length ≤ 10
        · simp [h, h3]; omega
        · simp [h, h3]; omega
      · rw [if_pos (by omega)]
        simp [h3]
    · rw [if_neg d, Bool.eq_false_iff.mpr d]
      simp
theorem bad_is (p q : List UInt8) (c : Bool) (hp : p.length ≤ 2000000) (hq : q.length ≤ 2000000) : impl_ReadFix.bad (ofL p) (ofL q) c = some (!(okW p && ((!c || (!q.isEmpty && q.all dgB && decide (q.length ≤ 3))) && decide (p.length ≤ 10)))) := by
  unfold impl_ReadFix.bad
  rw [areDigits_is _ (by rw [ofL_size]; omega), Option.bind_some, ofL_list, bad2_is p q c hq]
  generalize ((!c || (!q.isEmpty && q.all dgB && decide (q.length ≤ 3))) && decide (p.length ≤ 10)) = g
  by_cases d : (!p.isEmpty && p.all dgB) = true
  · rw [if_pos d, ofL_size]
    unfold okW
    rw [d]
    cases p with
    | nil => cases d
    | cons a t =>
      have hb : bt (ofL (a :: t)) 0 = (a.toNat : Int) := by
        have := bt_nat (ofL (a :: t)) 0 (by rw [ofL_list]; simp)
        simpa [ofL] using this
      rw [hb]
      by_cases c1 : (((a :: t).length : Nat) : Int) > 1
      · rw [if_pos c1]
        by_cases c2 : (a.toNat : Int) = 48
        · have : a = 48 := UInt8.toNat_inj.1 (by have : (48 : UInt8).toNat = 48 := rfl; omega)
          subst this
          rw [if_pos c2]
          have hl : decide ((48 :: t).length ≤ 1) = false := decide_eq_false (by omega)
          rw [hl]
          simp
        · rw [if_neg c2]
          have : decide ((a :: t).head? ≠ some 48) = true := decide_eq_true (by
            simp only [List.head?_cons, ne_eq, Option.some.injEq]
            intro e; subst e; exact c2 rfl)
          rw [this]; simp
      · rw [if_neg c1]
        have hl : decide ((a :: t).length ≤ 1) = true := decide_eq_true (by omega)
        rw [hl]; simp
  · rw [if_neg d]
    unfold okW
    rw [Bool.eq_false_iff.mpr d]
    simp
theorem txt_is (p q : List UInt8) : impl_ReadFix.txt (ofL p) (ofL q) = ofL (p ++ q ++ ([48, 48, 48] : List UInt8).drop q.length) := by
  unfold impl_ReadFix.txt
  rw [ofL_size]
  apply ByteArray.ext
  apply Array.ext'
  have e : ((⟨#[48, 48, 48]⟩ : ByteArray).extract q.length 3).data.toList = ([48, 48, 48] : List UInt8).drop q.length := Go.Lib.extract_to_end _ _
  simp only [ByteArray.data_append, Array.toList_append, e, ofL]
theorem zeros_val (m a : Nat) (h : m ≤ 3) : valF a (([48, 48, 48] : List UInt8).drop m) = a * 10 ^ (3 - m) := by
  have hz : (48 : UInt8).toNat - 48 = 0 := rfl
  have : m = 0 ∨ m = 1 ∨ m = 2 ∨ m = 3 := by omega
  rcases this with rfl | rfl | rfl | rfl <;> simp only [List.drop_succ_cons, List.drop_zero, List.drop_nil, valF_cons, hz] <;> simp [valF] <;> omega
theorem zeros_dg (m : Nat) : (([48, 48, 48] : List UInt8).drop m).all dgB = true := by
  rw [List.all_eq_true]
  intro x hx
  have := List.mem_of_mem_drop hx
  simp at this
  subst this; rfl
theorem impl_tail (p q : List UInt8) (ng : Bool) (hp : p.length ≤ 10) (hq : q.length ≤ 3) (dp : p.all dgB = true) (dq : q.all dgB = true) :
    impl_ReadFix.l0 ((impl_ReadFix.txt (ofL p) (ofL q)).size + 1) (impl_ReadFix.txt (ofL p) (ofL q)) ng 0 0 = some (fixW ng (1000 * valF 0 p + valF 0 q * 10 ^ (3 - q.length))) := by
  rw [txt_is, ofL_size]
  generalize hs : p ++ q ++ ([48, 48, 48] : List UInt8).drop q.length = s
  have hl : s.length ≤ 13 := by rw [← hs]; simp only [List.length_append, List.length_drop, List.length_cons, List.length_nil]; omega
  have hd : s.all dgB = true := by rw [← hs, List.all_append, List.all_append, dp, dq, zeros_dg]; rfl
  have h := impl_ReadFix_l (ofL s) ng (by rw [ofL_size]; exact hl) (by rw [ofL_list]; exact hd) (ofL s).size (s.length + 1) 0 0 (by omega) (by omega) (by rw [ofL_size]; omega) (by decide)
  rw [ofL_list, List.drop_zero] at h
  refine h.trans ?_
  have hv : valF 0 s = 1000 * valF 0 p + valF 0 q * 10 ^ (3 - q.length) := by
    rw [← hs, valF_app, valF_app, zeros_val _ _ hq, valF_shift q (valF 0 p), Nat.add_mul, Nat.mul_assoc, ← Nat.pow_add, show q.length + (3 - q.length) = 3 by omega, show (10 : Nat) ^ 3 = 1000 by rfl, Nat.mul_comm 1000]
  have hb : valF 0 s < 10 ^ 13 := Nat.lt_of_lt_of_le (valF_lt s hd) (Nat.pow_le_pow_right (by decide) hl)
  have e13 : (10 : Nat) ^ 13 = 10000000000000 := by rfl
  rw [impl_ReadFix_j ng _ (by omega), hv]
theorem impl_core (r : List UInt8) (ng : Bool) (hs : r.length ≤ 1048576) :
    ((impl_ReadFix.cut (ofL r) ⟨#[46]⟩).bind fun ct => (impl_ReadFix.bad ct.1 ct.2.1 ct.2.2).bind fun b => if b = true then some (0, false) else if ct.2.1.size ≤ 3 ∧ ct.1.size ≤ 10 then impl_ReadFix.l0 ((impl_ReadFix.txt ct.1 ct.2.1).size + 1) (impl_ReadFix.txt ct.1 ct.2.1) ng 0 0 else none) = some (fixR0 ng r) := by
  unfold impl_ReadFix.cut
  rw [if_pos ⟨rfl, by rw [ofL_size]; omega⟩, Option.bind_some]
  show ((impl_ReadFix.bad (ofL (Go.Lib.cut r [46]).1) (ofL (Go.Lib.cut r [46]).2.1) (Go.Lib.cut r [46]).2.2).bind fun b => if b = true then some (0, false) else if (ofL (Go.Lib.cut r [46]).2.1).size ≤ 3 ∧ (ofL (Go.Lib.cut r [46]).1).size ≤ 10 then impl_ReadFix.l0 ((impl_ReadFix.txt (ofL (Go.Lib.cut r [46]).1) (ofL (Go.Lib.cut r [46]).2.1)).size + 1) (impl_ReadFix.txt (ofL (Go.Lib.cut r [46]).1) (ofL (Go.Lib.cut r [46]).2.1)) ng 0 0 else none) = some (fixR0 ng r)
  have fin : ∀ (p q : List UInt8) (c : Bool), p.length ≤ 2000000 → q.length ≤ 2000000 → (c = false → q = []) →
      fixR0 ng r = (if okW p = true ∧ (c = false ∨ (q ≠ [] ∧ q.all dgB = true ∧ q.length ≤ 3)) then fixW ng (1000 * valF 0 p + valF 0 q * 10 ^ (3 - q.length)) else (0, false)) →
      ((impl_ReadFix.bad (ofL p) (ofL q) c).bind fun b => if b = true then some (0, false) else if (ofL q).size ≤ 3 ∧ (ofL p).size ≤ 10 then impl_ReadFix.l0 ((impl_ReadFix.txt (ofL p) (ofL q)).size + 1) (impl_ReadFix.txt (ofL p) (ofL q)) ng 0 0 else none) = some (fixR0 ng r) := by
    intro p q c hp hq hc hf
    rw [bad_is p q c hp hq, Option.bind_some]
    by_cases ok : okW p = true
    · by_cases g : c = false ∨ (q ≠ [] ∧ q.all dgB = true ∧ q.length ≤ 3)
      · have hg : (!c || (!q.isEmpty && q.all dgB && decide (q.length ≤ 3))) = true := by
          rcases g with rfl | ⟨a, b, d⟩
          · rfl
          · simp [a, b, d]
        have hq3 : q.length ≤ 3 := by
          rcases g with e | ⟨a, b, d⟩
          · rw [hc e]; simp
          · exact d
        have hqd : q.all dgB = true := by
          rcases g with e | ⟨a, b, d⟩
          · rw [hc e]; rfl
          · exact b
        rw [ok, hg]
        by_cases hl : p.length ≤ 10
        · rw [show (!(true && (true && decide (p.length ≤ 10)))) = false by simp [hl], if_neg (by decide), if_pos (by rw [ofL_size, ofL_size]; exact ⟨hq3, hl⟩), impl_tail p q ng hl hq3 (ok_all p ok) hqd, hf, if_pos ⟨ok, g⟩]
        · rw [show (!(true && (true && decide (p.length ≤ 10)))) = true by simp; omega, if_pos rfl, hf, if_pos ⟨ok, g⟩, fixW_big ng _ (by have := ok_long p ok (by omega); omega)]
      · have hg : (!c || (!q.isEmpty && q.all dgB && decide (q.length ≤ 3))) = false := by
          cases c with
          | false => exact absurd (Or.inl rfl) g
          | true =>
            have : ¬ (q ≠ [] ∧ q.all dgB = true ∧ q.length ≤ 3) := fun h => g (.inr h)
            rw [← Bool.not_eq_true]
            intro h
            simp only [Bool.not_true, Bool.false_or, Bool.and_eq_true, decide_eq_true_eq] at h
            exact this ⟨by simpa using h.1.1, h.1.2, h.2⟩
        rw [hg, show (!(okW p && (false && decide (p.length ≤ 10)))) = true by simp, if_pos rfl, hf, if_neg (fun h => g h.2)]
    · have hR : fixR0 ng r = (0, false) := by rw [hf, if_neg (fun h => ok h.1)]
      rw [hR, Bool.eq_false_iff.mpr ok]
      simp
  rcases idx_cases r with m | ⟨i, m, hi⟩
  · have e : Go.Lib.cut r [46] = (r, [], false) := by unfold Go.Lib.cut; rw [if_neg (by omega)]
    rw [e]
    refine fin r [] false (by omega) (by simp) (fun _ => rfl) ?_
    rw [fixR0_miss ng r m]
    simp [valF]
  · have e : Go.Lib.cut r [46] = (r.take i, r.drop (i + 1), true) := by unfold Go.Lib.cut; rw [if_pos (by omega), m]; rfl
    rw [e]
    refine fin _ _ true (by rw [List.length_take]; omega) (by rw [List.length_drop]; omega) (fun h => by cases h) ?_
    rw [fixR0_hit ng r i m]
    generalize r.drop (i + 1) = q
    have : (1 ≤ q.length) ↔ q ≠ [] := by cases q <;> simp
    simp only [this, Bool.true_eq_false, false_or]
    split
    · rename_i h; rw [if_pos ⟨h.1, h.2.1, h.2.2.2, h.2.2.1⟩]
    · rename_i h; rw [if_neg (fun g => h ⟨g.1, g.2.1, g.2.2.2, g.2.2.1⟩)]
theorem impl_ReadFix_is (s : ByteArray) (hs : s.size ≤ 1048576) : impl_ReadFix.f s = some (fixR s.data.toList) := by
  have hz : s.data.toList.length = s.size := by rw [Array.length_toList]; rfl
  unfold impl_ReadFix.f impl_ReadFix.pre fixR
  rw [Option.bind_some]
  generalize s.data.toList = l at hz
  by_cases c : l.head? = some 45
  · rw [if_pos c]
    cases l with
    | nil => cases c
    | cons a t =>
      simp only [List.head?_cons, Option.some.injEq] at c
      subst c
      have e : Go.Lib.hasPrefix (45 :: t) [45] = true := by simp [Go.Lib.hasPrefix, List.isPrefixOf]
      have e2 : Go.Lib.trimPrefix (45 :: t) [45] = t := by unfold Go.Lib.trimPrefix; rw [e]; rfl
      rw [e, e2]
      simp only [List.length_cons] at hz
      exact impl_core t true (by omega)
  · rw [if_neg c]
    have e : Go.Lib.hasPrefix l [45] = false := by
      cases l with
      | nil => rfl
      | cons a t =>
        simp only [List.head?_cons, Option.some.injEq] at c
        simp [Go.Lib.hasPrefix, List.isPrefixOf]
        intro h; exact c h.symm
    have e2 : Go.Lib.trimPrefix l [45] = l := by unfold Go.Lib.trimPrefix; rw [e]; rfl
    rw [e, e2]
    exact impl_core l false (by omega)

theorem ext_step (s : ByteArray) (f i : Nat) (hf : f ≤ i) (hi : i < s.size) : (s.data.toList.drop f).take (i + 1 - f) = (s.data.toList.drop f).take (i - f) ++ [s.data.toList[i]'(by simpa using hi)] := by
  have hl : i - f < (s.data.toList.drop f).length := by rw [List.length_drop, Array.length_toList]; have : s.data.size = s.size := rfl; omega
  rw [show i + 1 - f = (i - f) + 1 from by omega, List.take_add_one, List.getElem?_eq_getElem hl]
  simp only [List.getElem_drop, Option.toList_some]
  congr 3
  simp only [show f + (i - f) = i from by omega]
theorem ext_ofL (s : ByteArray) (a b : Nat) (hb : b ≤ s.size) : s.extract a b = ofL ((s.data.toList.drop a).take (b - a)) := by
  apply ByteArray.ext
  apply Array.ext'
  simp [ofL]
theorem spec_Parts_l (s : ByteArray) (c : UInt8) (hs : s.size ≤ 1048576) (d : Nat) : ∀ (k : Nat) (acc : List ByteArray) (f i : Nat), f ≤ i → i ≤ s.size → s.size - i = d → d + 1 < k → acc.length ≤ i →
    spec_Parts.l0 k s (c.toNat : Int) acc (f : Int) (i : Int) = some (acc ++ (splitP c ((s.data.toList.drop f).take (i - f)) (s.data.toList.drop i)).map ofL) := by
  induction d with
  | zero =>
    intro k acc f i hf hi hd hk ha
    obtain ⟨k, rfl⟩ : ∃ m, k = m + 1 := ⟨k - 1, by omega⟩
    have e : i = s.size := by omega
    subst e
    have dr : s.data.toList.drop s.size = [] := List.drop_eq_nil_of_le (by rw [Array.length_toList]; exact Nat.le_refl _)
    rw [dr, splitP]
    simp only [spec_Parts.l0]
    obtain ⟨k, rfl⟩ : ∃ m, k = m + 1 := ⟨k - 1, by omega⟩
    rw [if_pos (by omega), if_pos trivial, if_pos (by omega), if_pos (by omega), if_pos (by omega), w64_id (by omega) (by omega)]
    simp only [spec_Parts.l0]
    rw [if_neg (by omega)]
    have e1 : ((f : Int)).toNat = f := by omega
    have e2 : ((s.size : Int)).toNat = s.size := by omega
    rw [e1, e2, ext_ofL s f s.size (Nat.le_refl _)]
    rfl
  | succ d ih =>
    intro k acc f i hf hi hd hk ha
    obtain ⟨k, rfl⟩ : ∃ m, k = m + 1 := ⟨k - 1, by omega⟩
    have hlt : i < s.size := by omega
    have hl : i < s.data.toList.length := by rw [Array.length_toList]; exact hlt
    simp only [spec_Parts.l0]
    rw [if_pos (by omega), if_neg (by omega), if_pos (by omega), if_pos (by omega)]
    rw [w64_id (n := (i : Int) + 1) (by omega) (by omega), show (i : Int) + 1 = ((i + 1 : Nat) : Int) from rfl]
    have hdr : s.data.toList.drop i = s.data.toList[i] :: s.data.toList.drop (i + 1) := List.drop_eq_getElem_cons hl
    have hb : bt s (i : Int) = ((s.data.toList[i]).toNat : Int) := bt_nat s i hl
    rw [hdr, splitP, hb]
    by_cases e : s.data.toList[i] = c
    · rw [if_pos e, if_pos (by rw [e]), if_pos (by omega), if_pos (by omega), if_pos (by omega)]
      have e1 : ((f : Int)).toNat = f := by omega
      have e2 : ((i : Int)).toNat = i := by omega
      rw [e1, e2, ext_ofL s f i (by omega), ih k _ (i + 1) (i + 1) (Nat.le_refl _) (by omega) (by omega) (by omega) (by simp; omega)]
      simp
    · rw [if_neg e, if_neg (fun h => e (UInt8.toNat_inj.1 (by omega))), ih k acc f (i + 1) (by omega) (by omega) (by omega) (by omega) (by omega), ext_step s f i hf hlt]
theorem spec_Parts_is (s : ByteArray) (c : UInt8) (hs : s.size ≤ 1048576) (k : Nat) (hk : s.size + 1 < k) : spec_Parts.f k s (c.toNat : Int) = some ((splitP c [] s.data.toList).map ofL) := by
  unfold spec_Parts.f
  have h := spec_Parts_l s c hs s.size k [] 0 0 (by omega) (by omega) (by omega) hk (by simp)
  simpa using h

theorem neg_range (l : List UInt8) : ∀ acc n, -9223372036854775808 ≤ acc → acc ≤ 0 → negAcc acc l = some n → -9223372036854775808 ≤ n ∧ n ≤ 0 := by
  induction l with
  | nil => intro acc n a b h; simp only [negAcc] at h; injection h with h; omega
  | cons c r ih =>
    intro acc n a b h
    simp only [negAcc] at h
    by_cases h1 : (c.toNat : Int) < 48
    · rw [if_pos h1] at h; cases h
    · rw [if_neg h1] at h
      by_cases h2 : (c.toNat : Int) > 57
      · rw [if_pos h2] at h; cases h
      · rw [if_neg h2, tdiv_low _ (by omega)] at h
        by_cases h3 : acc < -((-(-9223372036854775808 + ((c.toNat : Int) - 48))) / 10)
        · rw [if_pos h3] at h; cases h
        · rw [if_neg h3] at h; exact ih _ _ (by omega) (by omega) h
/-- What the reference makes of the number. -/
def finT (l : List UInt8) (x : Int) : Option Int → Int × Bool
  | none => (0, false)
  | some n => if x = 0 then (if n = -9223372036854775808 then (0, false) else if Go.Lib.itoa (-n) = l then (-n, true) else (0, false)) else (if Go.Lib.itoa n = l then (n, true) else (0, false))
theorem eq_list (l : List UInt8) (s : ByteArray) : ((⟨l.toArray⟩ : ByteArray).toList = s.toList) ↔ l = s.data.toList := by
  rw [Go.Lib.toList_data, Go.Lib.toList_data]
theorem spec_IntText_l (s : ByteArray) (x : Int) (hx : 0 ≤ x) (hs : s.size ≤ 20) (d : Nat) : ∀ (k : Nat) (acc : Int) (i : Nat), -9223372036854775808 ≤ acc → acc ≤ 0 → i ≤ s.size → s.size - i = d → 2 * d + 24 < k →
    spec_IntText.l0 k s x acc (i : Int) = some (finT s.data.toList x (negAcc acc (s.data.toList.drop i))) := by
  induction d with
  | zero =>
    intro k acc i a0 a1 hi hd hk
    obtain ⟨k, rfl⟩ : ∃ m, k = m + 1 := ⟨k - 1, by omega⟩
    have dr : s.data.toList.drop i = [] := List.drop_eq_nil_of_le (by rw [Array.length_toList]; have : s.data.size = s.size := rfl; omega)
    rw [dr]
    simp only [spec_IntText.l0, negAcc, finT]
    rw [if_neg (by omega)]
    by_cases z : x = 0
    · rw [if_pos z, if_pos z]
      by_cases q : acc = -9223372036854775808
      · rw [if_pos q, if_pos q]
      · rw [if_neg q, if_neg q, w64_id (by omega) (by omega), spec_Digits_k k (by omega) _ (by omega) (by omega)]
        simp only [Option.bind_some, eq_list]
        by_cases e : Go.Lib.itoa (-acc) = s.data.toList
        · rw [if_pos e, if_pos e]
        · rw [if_neg e, if_neg e]
    · rw [if_neg z, if_neg z, spec_Digits_k k (by omega) _ (by omega) (by omega)]
      simp only [Option.bind_some, eq_list]
      by_cases e : Go.Lib.itoa acc = s.data.toList
      · rw [if_pos e, if_pos e]
      · rw [if_neg e, if_neg e]
  | succ d ih =>
    intro k acc i a0 a1 hi hd hk
    obtain ⟨k, rfl⟩ : ∃ m, k = m + 2 := ⟨k - 2, by omega⟩
    have hlt : i < s.size := by omega
    have hl : i < s.data.toList.length := by rw [Array.length_toList]; exact hlt
    have hdr : s.data.toList.drop i = s.data.toList[i] :: s.data.toList.drop (i + 1) := List.drop_eq_getElem_cons hl
    have hb : bt s (i : Int) = ((s.data.toList[i]).toNat : Int) := bt_nat s i hl
    have hb2 : (s.data.toList[i]).toNat < 256 := (s.data.toList[i]).toNat_lt
    rw [hdr, show k + 2 = (k + 1) + 1 from rfl]
    simp only [spec_IntText.l0, negAcc]
    rw [if_pos (by omega), if_pos (by omega), hb]
    generalize hc : ((s.data.toList[i]).toNat : Int) = c at *
    have hc2 : 0 ≤ c ∧ c < 256 := by omega
    by_cases h1 : c < 48
    · rw [if_pos h1, if_pos h1]
      simp only [spec_IntText.j3, finT]; rfl
    · rw [if_neg h1, if_neg h1]
      simp only [spec_IntText.j3]
      by_cases h2 : c > 57
      · rw [if_pos h2, if_pos (decide_eq_true h2)]; rfl
      · rw [if_neg h2, if_neg (by simpa using h2), if_pos (by omega), if_pos (by omega), hb]
        have m : (c - 48) % 256 = c - 48 := by omega
        rw [m]
        have td := tdiv_low (-9223372036854775808 + (c - 48)) (by omega)
        rw [td, w64_id (n := -((-(-9223372036854775808 + (c - 48))) / 10)) (by omega) (by omega)]
        by_cases h3 : acc < -((-(-9223372036854775808 + (c - 48))) / 10)
        · rw [if_pos h3, if_pos h3]; rfl
        · rw [if_neg h3, if_neg h3, w64_id (n := 10 * acc) (by omega) (by omega), w64_id (n := 10 * acc - (c - 48)) (by omega) (by omega), w64_id (n := (i : Int) + 1) (by omega) (by omega)]
          exact ih k _ (i + 1) (by omega) (by omega) (by omega) (by omega) (by omega)
theorem spec_IntText_is (s : ByteArray) (k : Nat) (hk : 80 < k) : spec_IntText.f k s = some (intT s.data.toList) := by
  have hz : s.data.toList.length = s.size := by rw [Array.length_toList]; rfl
  obtain ⟨k, rfl⟩ : ∃ m, k = m + 2 := ⟨k - 2, by omega⟩
  have none_ : (s.size < 1 ∨ 20 < s.size) → intT s.data.toList = (0, false) := fun h => intT_no _ (fun v a b e => by have := itoa_len v a b; rw [e, hz] at this; omega)
  unfold spec_IntText.f
  rw [show k + 2 = (k + 1) + 1 from rfl]
  by_cases h1 : (s.size : Int) < 1
  · rw [if_pos h1, none_ (by omega)]
    simp only [spec_IntText.j0]; rfl
  · rw [if_neg h1]
    simp only [spec_IntText.j0]
    by_cases h2 : (s.size : Int) > 20
    · rw [if_pos (decide_eq_true h2), none_ (by omega)]
    · rw [if_neg (by simpa using h2), if_pos (by omega)]
      have hl : 0 < s.data.toList.length := by omega
      have hb : bt s 0 = ((s.data.toList[0]).toNat : Int) := bt_nat s 0 hl
      rw [hb]
      simp only [spec_IntText.j1]
      have l0 := spec_IntText_l s 0 (by omega) (by omega) s.size k 0 0 (by omega) (by omega) (by omega) (by omega) (by omega)
      have l1 := spec_IntText_l s 1 (by omega) (by omega) (s.size - 1) k 0 1 (by omega) (by omega) (by omega) rfl (by omega)
      have c0 : ((0 : Nat) : Int) = 0 := rfl
      have c1 : ((1 : Nat) : Int) = 1 := rfl
      rw [c0] at l0
      rw [c1] at l1
      rw [l0, l1]
      clear l0 l1
      generalize s.data.toList = l at *
      by_cases hv : ∃ v, -9223372036854775808 ≤ v ∧ v ≤ 9223372036854775807 ∧ Go.Lib.itoa v = l
      · obtain ⟨v, a, b, rfl⟩ := hv
        rw [intT_yes v a b]
        unfold Go.Lib.itoa
        by_cases n : v < 0
        · have e : (if v < 0 then 45 :: Go.Lib.decDigits v.natAbs else Go.Lib.decDigits v.toNat) = 45 :: Go.Lib.decDigits v.natAbs := if_pos n
          simp only [e]
          rw [if_pos (by rfl)]
          simp only [List.drop_succ_cons, List.drop_zero]
          rw [neg_dec _ (by omega)]
          simp only [finT]
          have e2 : -((v.natAbs : Nat) : Int) = v := by omega
          rw [e2, if_neg (by decide)]
          unfold Go.Lib.itoa
          rw [if_pos n, if_pos rfl]
        · have e : (if v < 0 then 45 :: Go.Lib.decDigits v.natAbs else Go.Lib.decDigits v.toNat) = Go.Lib.decDigits v.toNat := if_neg n
          simp only [e]
          obtain ⟨c, r, hd, c48, _⟩ := dec_head v.toNat
          have hne : ¬ (((Go.Lib.decDigits v.toNat)[0]'(by rw [hd]; simp)).toNat : Int) = 45 := by
            simp only [hd, List.getElem_cons_zero]; omega
          rw [if_neg hne, List.drop_zero, neg_dec _ (by omega)]
          simp only [finT]
          have e2 : -(-((v.toNat : Nat) : Int)) = v := by omega
          rw [e2, if_pos trivial, if_neg (by omega)]
          unfold Go.Lib.itoa
          rw [if_neg n, if_pos rfl]
      · have hno : ∀ v, -9223372036854775808 ≤ v → v ≤ 9223372036854775807 → Go.Lib.itoa v ≠ l := fun v a b e => hv ⟨v, a, b, e⟩
        rw [intT_no l hno]
        have fin : ∀ x i, finT l x (negAcc 0 (l.drop i)) = (0, false) := by
          intro x i
          cases hn : negAcc 0 (l.drop i) with
          | none => rfl
          | some n =>
            have hr := neg_range _ 0 n (by omega) (by omega) hn
            simp only [finT]
            by_cases z : x = 0
            · rw [if_pos z]
              by_cases q : n = -9223372036854775808
              · rw [if_pos q]
              · rw [if_neg q, if_neg (hno _ (by omega) (by omega))]
            · rw [if_neg z, if_neg (hno _ (by omega) (by omega))]
        rw [fin, fin]
        by_cases q : ((l[0]).toNat : Int) = 45
        · rw [if_pos q]
        · rw [if_neg q]

theorem spec_Number_is (s : ByteArray) (k : Nat) (hk : 80 < k) : spec_Number.f k s = some (numT s.data.toList) := by
  unfold spec_Number.f numT spec_l1In.f
  rw [spec_IntText_is s k hk]
  generalize intT s.data.toList = r
  obtain ⟨v, b⟩ := r
  cases b
  · simp
  · simp only [Option.bind_some, if_true, true_and]
    by_cases c : v ≥ 0
    · rw [if_pos c]
      simp only [Option.bind_some]
      by_cases d : v ≤ 999999999
      · rw [if_pos (decide_eq_true d), if_pos ⟨c, d⟩]
      · rw [if_neg (by simpa using d), if_neg (fun h => d h.2)]
    · rw [if_neg c]
      simp only [Option.bind_some]
      rw [if_neg (by decide), if_neg (fun h => c h.1)]

theorem spec_fix_j4 (k : Nat) (ng : Bool) (n : Nat) (h : n < 100000000000000) : spec_ReadFix.j4 (k + 1) ng (n : Int) = some (fixW ng n) := by
  rw [spec_ReadFix.j4]
  unfold spec_l6Value.f spec_l1In.f fixW
  cases ng with
  | false =>
    rw [if_neg (by decide), if_pos (by omega), Option.bind_some, Option.bind_some]
    by_cases c : n ≤ 2147483647
    · rw [if_pos c, if_pos (decide_eq_true (by omega))]; rfl
    · rw [if_neg c, if_neg (by simp; omega)]
  | true =>
    rw [if_pos rfl, show wrap64 (-(n : Int)) = -(n : Int) by unfold wrap64; omega]
    by_cases c : n ≤ 2147483647
    · rw [if_pos (by omega), Option.bind_some, Option.bind_some, if_pos c, if_pos (decide_eq_true (by omega))]; rfl
    · rw [if_neg (by omega), Option.bind_some, Option.bind_some, if_neg c, if_neg (by decide)]
theorem spec_fix_step (k : Nat) (ng : Bool) (w q : ByteArray) (n u i : Int) (b : UInt8) (hi0 : 0 ≤ i) (hi : i < (q.size : Int)) (hb : bt q i = (b.toNat : Int)) (hn0 : 0 ≤ n) (hn : n ≤ 10000000000000) (hu0 : 0 ≤ u) (hu : u ≤ 100) (hi3 : i ≤ 3) :
    spec_ReadFix.l0 (k + 1) ng [w, q] n u i = if dgB b = true then spec_ReadFix.l0 k ng [w, q] (n + u * ((b.toNat - 48 : Nat) : Int)) (u / 10) (i + 1) else some (0, false) := by
  have hq : rdOf ByteArray.empty [w, q] 1 = q := rfl
  rw [spec_ReadFix.l0, hq, if_pos (by simp), if_pos hi, if_pos hi0, hb]
  have hb255 : b.toNat < 256 := b.toNat_lt
  have e1 : wrap64 (wrap64 (b.toNat : Int) - 48) = (b.toNat : Int) - 48 := by
    generalize b.toNat = m at hb255
    have : wrap64 (m : Int) = m := by unfold wrap64; omega
    rw [this]; unfold wrap64; omega
  rw [e1]
  unfold spec_l1In.f
  unfold dgB
  by_cases g : 48 ≤ b.toNat
  · rw [if_pos (by omega), Option.bind_some]
    by_cases g2 : b.toNat ≤ 57
    · rw [if_pos (decide_eq_true (by omega)), if_pos (decide_eq_true ⟨g, g2⟩)]
      have e2 : Int.tdiv u 10 = u / 10 := Int.tdiv_eq_ediv_of_nonneg hu0
      have e3 : wrap64 (u / 10) = u / 10 := by unfold wrap64; omega
      have e4 : wrap64 (i + 1) = i + 1 := by unfold wrap64; omega
      have hd : (b.toNat : Int) - 48 = ((b.toNat - 48 : Nat) : Int) := by omega
      rw [e2, e3, e4, hd]
      have hm : b.toNat - 48 ≤ 9 := by omega
      generalize b.toNat - 48 = m at hm
      have hp0 : 0 ≤ u * (m : Int) := Int.mul_nonneg hu0 (by omega)
      have hp1 : u * (m : Int) ≤ 100 * 9 := Int.mul_le_mul hu (by omega) (by omega) (by omega)
      have e5 : wrap64 (u * (m : Int)) = u * (m : Int) := by
        generalize u * (m : Int) = z at hp0 hp1
        unfold wrap64; omega
      rw [e5]
      have e6 : wrap64 (n + u * (m : Int)) = n + u * (m : Int) := by
        generalize u * (m : Int) = z at hp0 hp1
        unfold wrap64; omega
      rw [e6]
    · rw [if_neg (by simp; omega), if_neg (by simp; omega)]
  · rw [if_neg (by omega), Option.bind_some, if_neg (by decide), if_neg (by simp; omega)]
theorem spec_fix_end (k : Nat) (ng : Bool) (w q : ByteArray) (n u i : Int) (hi : (q.size : Int) ≤ i) : spec_ReadFix.l0 (k + 1) ng [w, q] n u i = spec_ReadFix.j4 k ng n := by
  have hq : rdOf ByteArray.empty [w, q] 1 = q := rfl
  rw [spec_ReadFix.l0, hq, if_pos (by simp), if_neg (by omega)]
theorem spec_fix_l (k : Nat) (ng : Bool) (w : ByteArray) (q : List UInt8) (v : Nat) (hv : v ≤ 999999999) (h1 : 1 ≤ q.length) (h3 : q.length ≤ 3) :
    spec_ReadFix.l0 (k + 6) ng [w, ofL q] (1000 * v : Int) 100 0 = some (if q.all dgB = true then fixW ng (1000 * v + valF 0 q * 10 ^ (3 - q.length)) else (0, false)) := by
  have at_ : ∀ (i : Nat) (h : i < q.length), bt (ofL q) (i : Int) = ((q[i]'h).toNat : Int) := fun i h => bt_nat (ofL q) i h
  have hz : (ofL q).size = q.length := by simp [ofL, ByteArray.size]
  match q, h1, h3 with
  | [a], _, _ =>
    have ha : bt (ofL [a]) 0 = (a.toNat : Int) := at_ 0 (by simp)
    rw [spec_fix_step _ ng w (ofL [a]) _ 100 0 a (by omega) (by rw [hz]; simp) ha (by omega) (by omega) (by omega) (by omega) (by omega)]
    simp only [List.all_cons, List.all_nil, Bool.and_true]
    by_cases da : dgB a = true
    · have hb := of_decide_eq_true da
      rw [if_pos da, if_pos da, spec_fix_end _ ng w _ _ _ _ (by rw [hz]; simp)]
      rw [show (1000 * (v : Int) + 100 * ((a.toNat - 48 : Nat) : Int)) = ((1000 * v + valF 0 [a] * 10 ^ (3 - [a].length) : Nat) : Int) by simp [valF]; omega]
      exact spec_fix_j4 _ ng _ (by simp [valF]; omega)
    · rw [if_neg da, if_neg da]
  | [a, b], _, _ =>
    have ha : bt (ofL [a, b]) 0 = (a.toNat : Int) := at_ 0 (by simp)
    have hb : bt (ofL [a, b]) 1 = (b.toNat : Int) := at_ 1 (by simp)
    rw [spec_fix_step _ ng w (ofL [a, b]) _ 100 0 a (by omega) (by rw [hz]; simp) ha (by omega) (by omega) (by omega) (by omega) (by omega)]
    simp only [List.all_cons, List.all_nil, Bool.and_true]
    by_cases da : dgB a = true
    · have ga := of_decide_eq_true da
      rw [if_pos da, da, Bool.true_and, show (0 : Int) + 1 = 1 from rfl, spec_fix_step _ ng w (ofL [a, b]) _ _ 1 b (by omega) (by rw [hz]; simp) hb (by omega) (by omega) (by omega) (by omega) (by omega)]
      by_cases db : dgB b = true
      · have gb := of_decide_eq_true db
        rw [if_pos db, if_pos db, spec_fix_end _ ng w _ _ _ _ (by rw [hz]; simp)]
        rw [show (1000 * (v : Int) + 100 * ((a.toNat - 48 : Nat) : Int) + 100 / 10 * ((b.toNat - 48 : Nat) : Int)) = ((1000 * v + valF 0 [a, b] * 10 ^ (3 - [a, b].length) : Nat) : Int) by simp [valF]; omega]
        exact spec_fix_j4 _ ng _ (by simp [valF]; omega)
      · rw [if_neg db, if_neg db]
    · rw [if_neg da, if_neg (by simp [da])]
  | [a, b, c], _, _ =>
    have ha : bt (ofL [a, b, c]) 0 = (a.toNat : Int) := at_ 0 (by simp)
    have hb : bt (ofL [a, b, c]) 1 = (b.toNat : Int) := at_ 1 (by simp)
    have hc : bt (ofL [a, b, c]) 2 = (c.toNat : Int) := at_ 2 (by simp)
    rw [spec_fix_step _ ng w (ofL [a, b, c]) _ 100 0 a (by omega) (by rw [hz]; simp) ha (by omega) (by omega) (by omega) (by omega) (by omega)]
    simp only [List.all_cons, List.all_nil, Bool.and_true]
    by_cases da : dgB a = true
    · have ga := of_decide_eq_true da
      rw [if_pos da, da, Bool.true_and, show (0 : Int) + 1 = 1 from rfl, spec_fix_step _ ng w (ofL [a, b, c]) _ _ 1 b (by omega) (by rw [hz]; simp) hb (by omega) (by omega) (by omega) (by omega) (by omega)]
      by_cases db : dgB b = true
      · have gb := of_decide_eq_true db
        rw [if_pos db, db, Bool.true_and, show (1 : Int) + 1 = 2 from rfl, spec_fix_step _ ng w (ofL [a, b, c]) _ _ 2 c (by omega) (by rw [hz]; simp) hc (by omega) (by omega) (by omega) (by omega) (by omega)]
        by_cases dc : dgB c = true
        · have gc := of_decide_eq_true dc
          rw [if_pos dc, if_pos dc, spec_fix_end _ ng w _ _ _ _ (by rw [hz]; simp)]
          rw [show (1000 * (v : Int) + 100 * ((a.toNat - 48 : Nat) : Int) + 100 / 10 * ((b.toNat - 48 : Nat) : Int) + 100 / 10 / 10 * ((c.toNat - 48 : Nat) : Int)) = ((1000 * v + valF 0 [a, b, c] * 10 ^ (3 - [a, b, c].length) : Nat) : Int) by simp [valF]; omega]
          exact spec_fix_j4 _ ng _ (by simp [valF]; omega)
        · rw [if_neg dc, if_neg dc]
      · rw [if_neg db, if_neg (by simp [db])]
    · rw [if_neg da, if_neg (by simp [da])]
theorem no_point (q : List UInt8) (h : q.all dgB = true) : Go.Lib.index q [46] = -1 := by
  rcases idx_cases q with m | ⟨i, m, hi⟩
  · exact m
  · rw [Go.Lib.index_one] at m
    have e := (Go.Lib.indexByte_some m).1
    have hm := List.all_eq_true.1 h 46 (List.mem_of_getElem? e)
    cases hm
theorem spec_fix_core (r : List UInt8) (ng : Bool) (hs : r.length ≤ 20) (k : Nat) (hk : 100 < k) : spec_ReadFix.j1 k (ofL r) ng = some (fixR0 ng r) := by
  obtain ⟨k, rfl⟩ : ∃ m, k = m + 10 := ⟨k - 10, by omega⟩
  have hz : (ofL r).size = r.length := by simp [ofL, ByteArray.size]
  have hdat : ∀ l : List UInt8, (ofL l).data.toList = l := fun _ => rfl
  rw [spec_ReadFix.j1, show (46 : Int) = (((46 : UInt8).toNat : Nat) : Int) from rfl, spec_Parts_is (ofL r) 46 (by omega) (k + 9) (by omega), Option.bind_some, hdat]
  rcases idx_cases r with m | ⟨i, m, hi⟩
  · rw [splitP_miss 46 r [] m, fixR0_miss ng r m]
    simp only [List.map_cons, List.map_nil, List.nil_append]
    have hr : rdOf ByteArray.empty [ofL r] 0 = ofL r := rfl
    rw [if_pos (by simp), hr, spec_Number_is (ofL r) (k + 9) (by omega), Option.bind_some, hdat]
    by_cases ok : okW r = true ∧ valF 0 r ≤ 999999999
    · rw [numT_ok r ok.1 ok.2, if_pos rfl, if_pos ok.1]
      simp only
      rw [spec_ReadFix.j2, if_neg (by simp), if_neg (by simp), show wrap64 (1000 * ((valF 0 r : Nat) : Int)) = ((1000 * valF 0 r : Nat) : Int) by have := ok.2; unfold wrap64; omega]
      exact spec_fix_j4 _ ng _ (by omega)
    · rw [numT_no r ok, if_neg (by decide)]
      rw [spec_ReadFix.j2, if_pos rfl]
      by_cases o2 : okW r = true
      · have : ¬ valF 0 r ≤ 999999999 := fun h => ok ⟨o2, h⟩
        rw [if_pos o2, fixW_big ng _ (by omega)]
      · rw [if_neg o2]
  · rw [splitP_hit 46 r [] i m, fixR0_hit ng r i m]
    generalize hw : r.take i = w
    generalize hq : r.drop (i + 1) = q
    simp only [List.map_cons, List.nil_append]
    have hr : ∀ t : List ByteArray, rdOf ByteArray.empty (ofL w :: t) 0 = ofL w := fun _ => rfl
    rw [if_pos (by simp), hr, spec_Number_is (ofL w) (k + 9) (by omega), Option.bind_some, hdat]
    rcases idx_cases q with mq | ⟨j, mq, hj⟩
    · rw [splitP_miss 46 q [] mq]
      simp only [List.map_cons, List.map_nil, List.nil_append]
      by_cases ok : okW w = true ∧ valF 0 w ≤ 999999999
      · rw [numT_ok w ok.1 ok.2, if_pos rfl]
        simp only
        have hq2 : rdOf ByteArray.empty [ofL w, ofL q] 1 = ofL q := rfl
        have hzq : (ofL q).size = q.length := by simp [ofL, ByteArray.size]
        rw [spec_ReadFix.j2, if_neg (by simp), if_pos (by simp), if_pos (by simp), hq2, hzq]
        unfold spec_l1In.f
        by_cases q1 : 1 ≤ q.length
        · rw [if_pos (by omega), Option.bind_some]
          by_cases q3 : q.length ≤ 3
          · rw [if_pos (decide_eq_true (by omega)), show wrap64 (1000 * ((valF 0 w : Nat) : Int)) = 1000 * ((valF 0 w : Nat) : Int) by have := ok.2; unfold wrap64; omega]
            rw [show k + 8 = (k + 2) + 6 by omega, spec_fix_l _ ng (ofL w) q (valF 0 w) ok.2 q1 q3]
            by_cases dq : q.all dgB = true
            · rw [if_pos dq, if_pos ⟨ok.1, q1, q3, dq⟩]
            · rw [if_neg dq, if_neg (fun h => dq h.2.2.2)]
          · rw [if_neg (by simp; omega), if_neg (fun h => q3 h.2.2.1)]
        · rw [if_neg (by omega), Option.bind_some, if_neg (by decide), if_neg (fun h => q1 h.2.1)]
      · rw [numT_no w ok, if_neg (by decide), spec_ReadFix.j2, if_pos rfl]
        split
        · rename_i h
          have : ¬ valF 0 w ≤ 999999999 := fun g => ok ⟨h.1, g⟩
          rw [fixW_big ng _ (by omega)]
        · rfl
    · have hno : ¬ (okW w = true ∧ 1 ≤ q.length ∧ q.length ≤ 3 ∧ q.all dgB = true) := fun h => by
        have := no_point q h.2.2.2; omega
      rw [if_neg hno, splitP_hit 46 q [] j mq]
      have hl := (splitP_len 46 (q.drop (j + 1)) []).1
      have hd : decide (((ofL w :: List.map ofL (([] ++ q.take j) :: splitP 46 [] (q.drop (j + 1)))).length : Int) > 2) = true := decide_eq_true (by
        simp only [List.length_cons, List.length_map]; omega)
      rw [hd]
      split <;> (rw [spec_ReadFix.j2, if_pos rfl])
theorem spec_ReadFix_is (s : ByteArray) (k : Nat) (hk : 110 < k) : spec_ReadFix.f k s = some (fixR s.data.toList) := by
  have hz : s.data.toList.length = s.size := by rw [Array.length_toList]; rfl
  obtain ⟨k, rfl⟩ : ∃ m, k = m + 1 := ⟨k - 1, by omega⟩
  unfold spec_ReadFix.f
  by_cases big : (s.size : Int) > 20
  · rw [if_pos big, fixR_long _ (by omega)]
  · rw [if_neg big]
    have e := ofL_data s
    generalize s.data.toList = l at hz e
    subst e
    cases l with
    | nil =>
      rw [if_neg (by rw [← hz]; decide), spec_ReadFix.j0, if_neg (by decide)]
      exact spec_fix_core [] false (by decide) k (by omega)
    | cons a t =>
      simp only [List.length_cons] at hz
      have hb : bt (ofL (a :: t)) 0 = (a.toNat : Int) := by
        have := bt_nat (ofL (a :: t)) 0 (by show 0 < (a :: t).length; simp)
        simpa [ofL] using this
      rw [if_pos (by omega), if_pos (by omega), hb, spec_ReadFix.j0]
      unfold fixR
      by_cases c : a = 45
      · subst c
        rw [if_pos (by decide), if_pos (by omega), if_pos (show (45 :: t).head? = some 45 from rfl)]
        have ex : (ofL (45 :: t)).extract 1 (ofL (45 :: t)).size = ofL t := by
          apply ByteArray.ext; apply Array.ext'
          rw [Go.Lib.extract_to_end]; rfl
        rw [ex]
        exact spec_fix_core t true (by omega) k (by omega)
      · have hc : ((a.toNat : Int) == 45) = false := by
          rw [beq_eq_false_iff_ne]
          intro h
          exact c (UInt8.toNat_inj.1 (by have : (45 : UInt8).toNat = 45 := rfl; omega))
        rw [hc, if_neg (by decide), if_neg (by simpa using c)]
        exact spec_fix_core (a :: t) false (by simp only [List.length_cons]; omega) k (by omega)

theorem impl_Digits_is (n : Int) (b0 : -9223372036854775808 ≤ n) (b1 : n ≤ 9223372036854775807) : impl_Digits.f n = some ⟨(Go.Lib.itoa n).toArray⟩ := by
  unfold impl_Digits.f strconv_Itoa_102.f
  rw [if_pos ⟨b0, b1⟩]; rfl

theorem impl_FixText_j (k a : Nat) (ha : a ≤ 2147483647) (sg : List UInt8) (hs : sg.length ≤ 1) : impl_FixText.j0 (k + 1) (a : Int) ⟨sg.toArray⟩ = some ⟨(sg ++ fixU a).toArray⟩ := by
  simp only [impl_FixText.j0]
  have q1 : a % 1000 / 100 < 10 := by omega
  have q2 : a % 1000 / 10 % 10 < 10 := by omega
  have q3 : a % 1000 % 10 < 10 := by omega
  have q4 : ¬ a % 1000 = 0 → ¬ (a % 1000 / 100 = 0 ∧ a % 1000 / 10 % 10 = 0 ∧ a % 1000 % 10 = 0) := by omega
  have e1 : Int.tdiv (a : Int) 1000 = ((a / 1000 : Nat) : Int) := (Int.ofNat_tdiv a 1000).symm
  have e2 : Int.tmod (a : Int) 1000 = ((a % 1000 : Nat) : Int) := (Int.ofNat_tmod a 1000).symm
  rw [e1, e2]
  clear e1 e2
  rw [w64_id (n := ((a / 1000 : Nat) : Int)) (by omega) (by omega), impl_Digits_is _ (by omega) (by omega), Go.Lib.itoa_nonneg]
  simp only [Option.bind_some]
  have hl := dec_len20 (a / 1000) (by omega)
  rw [mk_size, mk_size, if_pos (by omega), mk_app]
  unfold fixU
  by_cases z : a % 1000 = 0
  · rw [if_pos (by omega), if_pos z]; simp
  · rw [if_neg (by omega), if_neg z, w64_id (n := 1000 + ((a % 1000 : Nat) : Int)) (by omega) (by omega)]
    rw [show (1000 : Int) + ((a % 1000 : Nat) : Int) = ((1000 + a % 1000 : Nat) : Int) from by omega, impl_Digits_is _ (by omega) (by omega), Go.Lib.itoa_nonneg, four _ (by omega)]
    simp only [Option.bind_some]
    have es : ∀ b c d : UInt8, (⟨[49, b, c, d].toArray⟩ : ByteArray).extract 1 (⟨[49, b, c, d].toArray⟩ : ByteArray).size = ⟨[b, c, d].toArray⟩ := by
      intro b c d
      apply ByteArray.ext
      simp [ByteArray.size]
    rw [es]
    have e4 : ∀ b c d : UInt8, ((⟨[49, b, c, d].toArray⟩ : ByteArray).size : Int) = 4 := fun _ _ _ => rfl
    rw [e4, if_pos (by decide)]
    unfold strings_TrimRight.f
    rw [if_pos ⟨rfl, by rw [mk_size]; simp⟩]
    simp only [Option.bind_some]
    have h3 := trim3 (a % 1000 / 100) (a % 1000 / 10 % 10) (a % 1000 % 10) q1 q2 q3 (q4 z)
    rw [h3]
    have e46 : (⟨#[46]⟩ : ByteArray) = ⟨([46] : List UInt8).toArray⟩ := rfl
    have hc : (cut3 (a % 1000 / 100) (a % 1000 / 10 % 10) (a % 1000 % 10)).length ≤ 3 := by
      unfold cut3
      by_cases p : a % 1000 % 10 = 0
      · rw [if_pos p]
        by_cases q : a % 1000 / 10 % 10 = 0
        · rw [if_pos q]; exact Nat.le_succ_of_le (Nat.le_succ 1)
        · rw [if_neg q]; exact Nat.le_succ 2
      · rw [if_neg p]; exact Nat.le_refl 3
    rw [e46, mk_app, mk_app, mk_size, mk_size, mk_size, List.length_append, List.length_append, List.length_singleton, if_pos (by omega), if_pos (by omega)]
    simp
theorem impl_FixText_is (k : Nat) (n : Int) : impl_FixText.f (k + 1) n = some ⟨(fixT n).toArray⟩ := by
  unfold impl_FixText.f impl_isDecimal.f impl_within.f
  by_cases c : -2147483647 ≤ n
  · rw [if_pos (by omega)]
    simp only [Option.bind_some]
    by_cases d : n ≤ 2147483647
    · have cd : -2147483647 ≤ n ∧ n ≤ 2147483647 := ⟨c, d⟩
      have hT : fixT n = fixL n := by unfold fixT; rw [if_pos cd]
      rw [if_pos (decide_eq_true d), hT]
      unfold fixL
      by_cases z : n < 0
      · rw [if_pos z, if_pos z, w64_id (by omega) (by omega)]
        have e : -n = ((n.natAbs : Nat) : Int) := by omega
        rw [e]
        exact impl_FixText_j k n.natAbs (by omega) [45] (by decide)
      · rw [if_neg z, if_neg z]
        have e : n = ((n.natAbs : Nat) : Int) := by omega
        conv => lhs; rw [e]
        exact impl_FixText_j k n.natAbs (by omega) [] (by decide)
    · have cd : ¬ (-2147483647 ≤ n ∧ n ≤ 2147483647) := fun h => d h.2
      have hT : fixT n = [] := by unfold fixT; rw [if_neg cd]
      rw [if_neg (by simpa using d), hT]
  · rw [if_neg (by omega)]
    simp only [Option.bind_some]
    have cd : ¬ (-2147483647 ≤ n ∧ n ≤ 2147483647) := fun h => c h.1
    have hT : fixT n = [] := by unfold fixT; rw [if_neg cd]
    rw [if_neg (by decide), hT]

theorem loop3 (k : Nat) (s : ByteArray) (a b c : Nat) (ha : a < 10) (hb : b < 10) (hc : c < 10) (h : ¬ (a = 0 ∧ b = 0 ∧ c = 0)) (hs : s.size ≤ 100) :
    spec_FixText.l0 (k + 3) s [48 + (a : Int), 48 + (b : Int), 48 + (c : Int)] = some ((s ++ ⟨#[46]⟩) ++ ⟨(cut3 a b c).toArray⟩) := by
  have sz : (s ++ (⟨#[46]⟩ : ByteArray)).size = s.size + 1 := by rw [ByteArray.size_append]; rfl
  have fin : ∀ (k : Nat) (xs : List Int) (l : List UInt8), xs.length ≤ 3 → 0 < xs.length → rd xs ((xs.length : Int) - 1) ≠ 48 → strOfNums xs = ⟨l.toArray⟩ →
      spec_FixText.l0 (k + 1) s xs = some ((s ++ ⟨#[46]⟩) ++ ⟨l.toArray⟩) := by
    intro k xs l h3 h0 hx hl
    simp only [spec_FixText.l0]
    have e : wrap64 ((xs.length : Int) - 1) = (xs.length : Int) - 1 := by unfold wrap64; omega
    have z : (strOfNums xs).size ≤ 3 := by rw [strOfNums_size]; exact h3
    rw [e, if_pos (by omega), if_pos (by omega), if_neg hx, if_pos (by omega), if_pos (by omega), hl]
  have step : ∀ (k : Nat) (xs : List Int), xs.length ≤ 3 → 0 < xs.length → rd xs ((xs.length : Int) - 1) = 48 → spec_FixText.l0 (k + 1) s xs = spec_FixText.l0 k s (xs.take (xs.length - 1)) := by
    intro k xs h3 h0 hx
    simp only [spec_FixText.l0]
    have e : wrap64 ((xs.length : Int) - 1) = (xs.length : Int) - 1 := by unfold wrap64; omega
    have e2 : ((xs.length : Int) - 1).toNat = xs.length - 1 := by omega
    rw [e, if_pos (by omega), if_pos (by omega), if_pos hx, if_pos (by omega), e2]
  have nb : ∀ n : Nat, n < 10 → UInt8.ofNat (48 + (n : Int)).toNat = UInt8.ofNat (48 + n) := fun n _ => by congr 1
  unfold cut3
  by_cases h0 : c = 0
  · rw [if_pos h0, step (k + 2) _ (by simp) (by simp) (by show (48 + (c : Int)) = 48; omega)]
    by_cases h1 : b = 0
    · rw [if_pos h1]
      show spec_FixText.l0 (k + 2) s [48 + (a : Int), 48 + (b : Int)] = _
      rw [step (k + 1) _ (by simp) (by simp) (by show (48 + (b : Int)) = 48; omega)]
      show spec_FixText.l0 (k + 1) s [48 + (a : Int)] = _
      exact fin k _ _ (by simp) (by simp) (by show (48 + (a : Int)) ≠ 48; omega) (by unfold strOfNums; simp only [List.map_cons, List.map_nil, nb a ha])
    · rw [if_neg h1]
      show spec_FixText.l0 (k + 2) s [48 + (a : Int), 48 + (b : Int)] = _
      exact fin (k + 1) _ _ (by simp) (by simp) (by show (48 + (b : Int)) ≠ 48; omega) (by unfold strOfNums; simp only [List.map_cons, List.map_nil, nb a ha, nb b hb])
  · rw [if_neg h0]
    exact fin (k + 2) _ _ (by simp) (by simp) (by show (48 + (c : Int)) ≠ 48; omega) (by unfold strOfNums; simp only [List.map_cons, List.map_nil, nb a ha, nb b hb, nb c hc])
theorem wdig (n : Nat) (h : n < 10) : wrap64 (48 + (n : Int)) % 256 = 48 + (n : Int) := by
  rw [w64_id (by omega) (by omega)]; omega
theorem spec_FixText_j (k a : Nat) (hk : 39 ≤ k) (ha : a ≤ 2147483647) (sg : List UInt8) (hs : sg.length ≤ 1) : spec_FixText.j0 (k + 1) (a : Int) ⟨sg.toArray⟩ = some ⟨(sg ++ fixU a).toArray⟩ := by
  simp only [spec_FixText.j0]
  have q1 : a % 1000 / 100 < 10 := by omega
  have q2 : a % 1000 / 10 % 10 < 10 := by omega
  have q3 : a % 1000 % 10 < 10 := by omega
  have q4 : ¬ a % 1000 = 0 → ¬ (a % 1000 / 100 = 0 ∧ a % 1000 / 10 % 10 = 0 ∧ a % 1000 % 10 = 0) := by omega
  have v1 := w64_id (n := ((a % 1000 / 10 : Nat) : Int)) (by omega) (by omega)
  have v2 := w64_id (n := ((a % 1000 / 100 : Nat) : Int)) (by omega) (by omega)
  have v3 := w64_id (n := ((a / 1000 : Nat) : Int)) (by omega) (by omega)
  have e1 : Int.tdiv (a : Int) 1000 = ((a / 1000 : Nat) : Int) := (Int.ofNat_tdiv a 1000).symm
  have e2 : Int.tmod (a : Int) 1000 = ((a % 1000 : Nat) : Int) := (Int.ofNat_tmod a 1000).symm
  have e3 : Int.tdiv ((a % 1000 : Nat) : Int) 100 = ((a % 1000 / 100 : Nat) : Int) := (Int.ofNat_tdiv _ 100).symm
  have e4 : Int.tdiv ((a % 1000 : Nat) : Int) 10 = ((a % 1000 / 10 : Nat) : Int) := (Int.ofNat_tdiv _ 10).symm
  have e6 : Int.tmod ((a % 1000 : Nat) : Int) 10 = ((a % 1000 % 10 : Nat) : Int) := (Int.ofNat_tmod _ 10).symm
  have e5 : Int.tmod ((a % 1000 / 10 : Nat) : Int) 10 = ((a % 1000 / 10 % 10 : Nat) : Int) := (Int.ofNat_tmod _ 10).symm
  rw [e1, e2, e3, e4, e6, v1, v2, e5]
  clear e1 e2 e3 e4 e5 e6 v1 v2
  rw [v3, spec_Digits_k k (by omega) _ (by omega) (by omega), Go.Lib.itoa_nonneg]
  simp only [Option.bind_some]
  have hl := dec_len20 (a / 1000) (by omega)
  rw [mk_size, mk_size, if_pos (by omega), mk_app]
  unfold fixU
  by_cases z : a % 1000 = 0
  · rw [if_pos (by omega), if_pos z]; simp
  · rw [if_neg (by omega), if_neg z]
    rw [wdig _ q1, wdig _ q2, wdig _ q3]
    obtain ⟨j, rfl⟩ : ∃ j, k = j + 3 := ⟨k - 3, by omega⟩
    have h3 := loop3 j ⟨(sg ++ Go.Lib.decDigits (a / 1000)).toArray⟩ (a % 1000 / 100) (a % 1000 / 10 % 10) (a % 1000 % 10) q1 q2 q3 (q4 z) (by rw [mk_size, List.length_append]; omega)
    rw [h3]
    have e46 : (⟨#[46]⟩ : ByteArray) = ⟨([46] : List UInt8).toArray⟩ := rfl
    rw [e46, mk_app, mk_app]
    simp
theorem spec_FixText_is (k : Nat) (hk : 40 ≤ k) (n : Int) : spec_FixText.f k n = some ⟨(fixT n).toArray⟩ := by
  obtain ⟨k, rfl⟩ : ∃ j, k = j + 1 := ⟨k - 1, by omega⟩
  unfold spec_FixText.f spec_l6Value.f spec_l1In.f
  by_cases c : -2147483647 ≤ n
  · rw [if_pos (by omega)]
    simp only [Option.bind_some]
    by_cases d : n ≤ 2147483647
    · have cd : -2147483647 ≤ n ∧ n ≤ 2147483647 := ⟨c, d⟩
      have hT : fixT n = fixL n := by unfold fixT; rw [if_pos cd]
      rw [if_pos (decide_eq_true d), hT]
      unfold fixL
      by_cases z : n < 0
      · rw [if_pos z, if_pos z, w64_id (by omega) (by omega)]
        have e : -n = ((n.natAbs : Nat) : Int) := by omega
        rw [e]
        exact spec_FixText_j k n.natAbs (by omega) (by omega) [45] (by decide)
      · rw [if_neg z, if_neg z]
        have e : n = ((n.natAbs : Nat) : Int) := by omega
        conv => lhs; rw [e]
        exact spec_FixText_j k n.natAbs (by omega) (by omega) [] (by decide)
    · have cd : ¬ (-2147483647 ≤ n ∧ n ≤ 2147483647) := fun h => d h.2
      have hT : fixT n = [] := by unfold fixT; rw [if_neg cd]
      rw [if_neg (by simpa using d), hT]
  · rw [if_neg (by omega)]
    simp only [Option.bind_some]
    have cd : ¬ (-2147483647 ≤ n ∧ n ≤ 2147483647) := fun h => c h.1
    have hT : fixT n = [] := by unfold fixT; rw [if_neg cd]
    rw [if_neg (by decide), hT]

theorem laws_big_eq (b : List Int) : laws_big.f b = some (decide ((b.length : Int) > 1048576)) := by
  unfold laws_big.f; rfl

theorem l1New_loop (b : List Int) (hb : b.length ≤ 140737488351232) (d : Nat) : ∀ (k : Nat) (x3 x4 : Int), 0 ≤ x4 → x4 ≤ b.length → (b.length : Int) - x4 = d → d < k → ∃ h, spec_l1New.l0 k b x3 x4 = some (b, 0, h) := by
  induction d with
  | zero =>
    intro k x3 x4 h0 h1 hd hk
    obtain ⟨k, rfl⟩ : ∃ m, k = m + 1 := ⟨k - 1, by omega⟩
    exact ⟨x3, by simp only [spec_l1New.l0]; rw [if_neg (by omega)]⟩
  | succ d ih =>
    intro k x3 x4 h0 h1 hd hk
    obtain ⟨k, rfl⟩ : ∃ m, k = m + 1 := ⟨k - 1, by omega⟩
    simp only [spec_l1New.l0]
    rw [if_pos (by omega)]
    by_cases c : x4 < 4000
    · rw [if_pos c, if_pos h0]
      have e : wrap64 (x4 + 1) = x4 + 1 := w64_id (by omega) (by omega)
      rw [e]
      exact ih k _ (x4 + 1) (by omega) (by omega) (by omega) (by omega)
    · rw [if_neg c]
      exact ⟨x3, rfl⟩
theorem l1New_some (b : List Int) (hb : b.length ≤ 140737488351232) (k : Nat) (hk : b.length < k) : ∃ h, spec_l1New.f k b = some (b, 0, h) := by
  unfold spec_l1New.f
  exact l1New_loop b hb b.length k _ 0 (by omega) (by omega) (by omega) hk

theorem l1Byte_some (b : List Int) (hb : b.length ≤ 140737488351232) (i h : Int) (hi : 0 ≤ i) : ∃ x i' h', spec_l1Byte.f b i h = some (x, i', h') ∧ 0 ≤ x ∧ x ≤ 255 ∧ 0 ≤ i' := by
  unfold spec_l1Byte.f
  by_cases c : i < (b.length : Int)
  · rw [if_pos c, if_pos hi]
    refine ⟨_, _, _, rfl, (and255 _).1, (and255 _).2, ?_⟩
    rw [w64_id (by omega) (by omega)]; omega
  · rw [if_neg c]
    exact ⟨_, _, _, rfl, (and255 _).1, (and255 _).2, hi⟩

theorem l1Below_some (b : List Int) (hb : b.length ≤ 140737488351232) (i h n : Int) (hi : 0 ≤ i) (hn : n ≤ 4294967296) : ∃ x i' h', spec_l1Below.f b i h n = some (x, i', h') ∧ 0 ≤ x ∧ (0 < n → x < n) ∧ 0 ≤ i' := by
  unfold spec_l1Below.f
  by_cases c : n ≤ 0
  · rw [if_pos c]
    exact ⟨_, _, _, rfl, by omega, fun _ => by omega, hi⟩
  · rw [if_neg c]
    by_cases d : n ≤ 256
    · rw [if_pos d]
      obtain ⟨x, i', h', e, x0, x1, hi'⟩ := l1Byte_some b hb i h hi
      rw [e]
      simp only [Option.bind_some]
      rw [if_neg (by omega)]
      have := tmod_range (n := n) x0 (by omega)
      exact ⟨_, _, _, rfl, this.1, fun _ => this.2, hi'⟩
    · rw [if_neg d]
      obtain ⟨x, i1, h1, e1, x0, x1, hi1⟩ := l1Byte_some b hb i h hi
      obtain ⟨y, i2, h2, e2, y0, y1, hi2⟩ := l1Byte_some b hb i1 h1 hi1
      obtain ⟨z, i3, h3, e3, z0, z1, hi3⟩ := l1Byte_some b hb i2 h2 hi2
      obtain ⟨u, i4, h4, e4, u0, u1, hi4⟩ := l1Byte_some b hb i3 h3 hi3
      rw [e1]; simp only [Option.bind_some]
      rw [e2]; simp only [Option.bind_some]
      rw [e3]; simp only [Option.bind_some]
      rw [e4]; simp only [Option.bind_some]
      rw [if_neg (by omega)]
      have e : wrap64 (wrap64 (wrap64 (wrap64 (x * 16777216) + wrap64 (y * 65536)) + wrap64 (z * 256)) + u) = x * 16777216 + y * 65536 + z * 256 + u := by
        unfold wrap64; omega
      rw [e]
      have := tmod_range (x := x * 16777216 + y * 65536 + z * 256 + u) (n := n) (by omega) (by omega)
      exact ⟨_, _, _, rfl, this.1, fun _ => this.2, hi4⟩

theorem l1Once_some (b : List Int) (hb : b.length ≤ 140737488351232) (i h n : Int) (hi : 0 ≤ i) (hn : n ≤ 4294967296) : ∃ x i' h', spec_l1Once.f b i h n = some (x, i', h') ∧ 0 ≤ i' := by
  unfold spec_l1Once.f
  obtain ⟨x, i', h', e, _, _, hi'⟩ := l1Below_some b hb i h n hi hn
  rw [e]
  exact ⟨_, _, _, rfl, hi'⟩

theorem l1PickInt_some (b : List Int) (hb : b.length ≤ 140737488351232) (i h : Int) (l : List Int) (hi : 0 ≤ i) (h0 : 0 < l.length) (hl : l.length ≤ 4294967296) : ∃ x i' h', spec_l1PickInt.f b i h l = some (x, i', h') ∧ x ∈ l ∧ 0 ≤ i' := by
  unfold spec_l1PickInt.f
  obtain ⟨x, i', h', e, x0, x1, hi'⟩ := l1Below_some b hb i h (l.length : Int) hi (by omega)
  have x2 := x1 (by omega)
  rw [e]
  simp only [Option.bind_some]
  rw [if_pos x0, if_pos x2]
  refine ⟨_, _, _, rfl, ?_, hi'⟩
  have : x.toNat < l.length := by omega
  unfold rd
  rw [List.getD_eq_getElem?_getD, List.getElem?_eq_getElem this]
  exact List.getElem_mem this

theorem l1Whole_loop (b : List Int) (hb : b.length ≤ 140737488351232) (d : Nat) : ∀ (k : Nat) (x3 x4 i h : Int), 0 ≤ i → x4 ≤ 8 → -8 ≤ x4 → (8 : Int) - x4 = d → d < k → -9223372036854775808 ≤ x3 → x3 ≤ 9223372036854775807 →
    ∃ x i' h', spec_l1Whole.l0 k x3 x4 b i h = some (x, i', h') ∧ -9223372036854775808 ≤ x ∧ x ≤ 9223372036854775807 ∧ 0 ≤ i' := by
  induction d with
  | zero =>
    intro k x3 x4 i h hi h1 h2 hd hk r0 r1
    obtain ⟨k, rfl⟩ : ∃ m, k = m + 1 := ⟨k - 1, by omega⟩
    exact ⟨x3, i, h, by simp only [spec_l1Whole.l0]; rw [if_neg (by omega)], r0, r1, hi⟩
  | succ d ih =>
    intro k x3 x4 i h hi h1 h2 hd hk r0 r1
    obtain ⟨k, rfl⟩ : ∃ m, k = m + 1 := ⟨k - 1, by omega⟩
    simp only [spec_l1Whole.l0]
    rw [if_pos (by omega)]
    obtain ⟨x, i', h', e, x0, x1, hi'⟩ := l1Byte_some b hb i h hi
    rw [e]
    simp only [Option.bind_some]
    rw [w64_id (n := x4 + 1) (by omega) (by omega)]
    have r := w64_range (wrap64 (x3 * 256) + x)
    exact ih k _ (x4 + 1) i' h' hi' (by omega) (by omega) (by omega) (by omega) r.1 r.2
theorem l1Whole_some (b : List Int) (hb : b.length ≤ 140737488351232) (i h : Int) (hi : 0 ≤ i) (k : Nat) (hk : 9 ≤ k) : ∃ x i' h', spec_l1Whole.f k b i h = some (x, i', h') ∧ -9223372036854775808 ≤ x ∧ x ≤ 9223372036854775807 ∧ 0 ≤ i' := by
  unfold spec_l1Whole.f
  obtain ⟨x, i1, h1, e, x0, x1, hi1⟩ := l1Below_some b hb i h 4 hi (by omega)
  rw [e]
  simp only [Option.bind_some]
  by_cases c0 : x = 0
  · rw [if_pos c0]
    obtain ⟨y, i2, h2, e2, hy, hi2⟩ := l1PickInt_some b hb i1 h1 [0, 1, (-1), 9, 10, 999, 1000, 2147483647, (-2147483648), 3037000499, 3037000500, 9223372036854775807, (-9223372036854775807), (-9223372036854775808)] hi1 (by simp) (by simp)
    rw [e2]
    simp only [Option.bind_some]
    refine ⟨_, _, _, rfl, ?_, ?_, hi2⟩ <;> (simp only [List.mem_cons, List.not_mem_nil, or_false] at hy; omega)
  · rw [if_neg c0]
    by_cases c1 : x = 1
    · rw [if_pos c1]
      exact l1Whole_loop b hb 8 k 0 0 i1 h1 hi1 (by omega) (by omega) (by omega) (by omega) (by omega) (by omega)
    · rw [if_neg c1]
      by_cases c2 : x = 2
      · rw [if_pos c2]
        obtain ⟨y, i2, h2, e2, _, _, hi2⟩ := l1Below_some b hb i1 h1 1000000 hi1 (by omega)
        rw [e2]
        exact ⟨_, _, _, rfl, (w64_range _).1, (w64_range _).2, hi2⟩
      · rw [if_neg c2]
        obtain ⟨y, i2, h2, e2, _, _, hi2⟩ := l1Below_some b hb i1 h1 41 hi1 (by omega)
        rw [e2]
        exact ⟨_, _, _, rfl, (w64_range _).1, (w64_range _).2, hi2⟩

theorem l1Pick_some (b : List Int) (hb : b.length ≤ 140737488351232) (i h : Int) (l : List ByteArray) (hi : 0 ≤ i) (h0 : 0 < l.length) (hl : l.length ≤ 4294967296) : ∃ x i' h', spec_l1Pick.f b i h l = some (x, i', h') ∧ x ∈ l ∧ 0 ≤ i' := by
  unfold spec_l1Pick.f
  obtain ⟨x, i', h', e, x0, x1, hi'⟩ := l1Below_some b hb i h (l.length : Int) hi (by omega)
  have x2 := x1 (by omega)
  rw [e]
  simp only [Option.bind_some]
  rw [if_pos x0, if_pos x2]
  refine ⟨_, _, _, rfl, ?_, hi'⟩
  have : x.toNat < l.length := by omega
  unfold rdOf
  rw [List.getD_eq_getElem?_getD, List.getElem?_eq_getElem this]
  exact List.getElem_mem this

theorem drawFix_some (b : List Int) (hb : b.length ≤ 140737488351232) (k : Nat) (hk : b.length < k) (h9 : 9 ≤ k) : ∃ n, spec_DrawFixText.f k b = some n := by
  obtain ⟨h, e⟩ := l1New_some b hb k hk
  unfold spec_DrawFixText.f
  rw [e, Option.bind_some]
  obtain ⟨x, i1, h1, e1, q1⟩ := l1Once_some b hb 0 h 2 (by omega) (by omega)
  rw [e1, Option.bind_some]
  by_cases c : x = true
  · rw [if_pos c]
    obtain ⟨y, i2, h2, e2, _⟩ := l1Whole_some b hb i1 h1 q1 k h9
    rw [e2]; exact ⟨_, rfl⟩
  · rw [if_neg c]
    obtain ⟨y, i2, h2, e2, _, _, q2⟩ := l1Below_some b hb i1 h1 5000 q1 (by omega)
    rw [e2, Option.bind_some]
    obtain ⟨z, i3, h3, e3, _⟩ := l1PickInt_some b hb i2 h2 [0, 1, 10, 100, 1000, (-1), (-1001), 1050, 2147483647, (-2147483647), 2147483648, (-2147483648), wrap64 (y - 2500)] q2 (by simp) (by simp)
    rw [e3]; exact ⟨_, rfl⟩
theorem small6_some (b : List Int) (hb : b.length ≤ 140737488351232) (i h : Int) (hi : 0 ≤ i) : ∃ n i' h', spec_l6Small.f b i h = some (n, i', h') := by
  unfold spec_l6Small.f
  obtain ⟨x, i1, h1, e1, q1⟩ := l1Once_some b hb i h 20 hi (by omega)
  rw [e1, Option.bind_some]
  by_cases c : x = true
  · rw [if_pos c]
    obtain ⟨z, i3, h3, e3, _⟩ := l1PickInt_some b hb i1 h1 [2147483647, (-2147483647), 1, (-1), 1000000000] q1 (by simp) (by simp)
    rw [e3]; exact ⟨_, _, _, rfl⟩
  · rw [if_neg c]
    obtain ⟨x2, i2, h2, e2, q2⟩ := l1Once_some b hb i1 h1 2 q1 (by omega)
    rw [e2, Option.bind_some]
    by_cases c2 : x2 = true
    · rw [if_pos c2]
      obtain ⟨y, i4, h4, e4, _⟩ := l1Below_some b hb i2 h2 9 q2 (by omega)
      rw [e4]; exact ⟨_, _, _, rfl⟩
    · rw [if_neg c2]
      obtain ⟨y, i4, h4, e4, _⟩ := l1Below_some b hb i2 h2 41 q2 (by omega)
      rw [e4]; exact ⟨_, _, _, rfl⟩
theorem fixT_len (n : Int) : (fixT n).length ≤ 100 := by
  unfold fixT
  by_cases c : -2147483647 ≤ n ∧ n ≤ 2147483647
  · rw [if_pos c]
    have hU : (fixU n.natAbs).length ≤ 50 := by
      unfold fixU
      have := dec_len20 (n.natAbs / 1000) (by omega)
      rw [List.length_append]
      by_cases z : n.natAbs % 1000 = 0
      · rw [if_pos z, List.length_nil]; omega
      · have := (cut3_facts (n.natAbs % 1000 / 100) (n.natAbs % 1000 / 10 % 10) (n.natAbs % 1000 % 10) (by omega) (by omega) (by omega) (by omega)).2.1
        rw [if_neg z, List.length_cons]; omega
    unfold fixL
    by_cases g : n < 0
    · rw [if_pos g, List.length_cons]; omega
    · rw [if_neg g]; omega
  · rw [if_neg c]; simp
theorem drawNormal_some (b : List Int) (hb : b.length ≤ 140737488351232) (k : Nat) (hk : b.length < k) (h9 : 40 ≤ k) : ∃ s : ByteArray, spec_DrawFixNormal.f k b = some s ∧ s.size ≤ 1000 := by
  obtain ⟨h, e⟩ := l1New_some b hb k hk
  unfold spec_DrawFixNormal.f spec_l6Text.f
  rw [e, Option.bind_some]
  obtain ⟨x, i1, h1, e1, q1⟩ := l1Once_some b hb 0 h 2 (by omega) (by omega)
  simp only
  rw [e1, Option.bind_some]
  by_cases c : x = true
  · rw [if_pos c]
    obtain ⟨n, i2, h2, e2⟩ := small6_some b hb i1 h1 q1
    rw [e2, Option.bind_some, spec_FixText_is k h9 n]
    refine ⟨_, rfl, ?_⟩
    have := fixT_len n
    simp only [ByteArray.size, List.size_toArray]; omega
  · rw [if_neg c]
    obtain ⟨y, i2, h2, e2, m, _⟩ := l1Pick_some b hb i1 h1 [(⟨#[]⟩ : ByteArray), (⟨#[45]⟩ : ByteArray), (⟨#[45, 48]⟩ : ByteArray), (⟨#[48, 46, 48]⟩ : ByteArray), (⟨#[45, 48, 46, 48, 48, 48]⟩ : ByteArray), (⟨#[49, 46]⟩ : ByteArray), (⟨#[46, 53]⟩ : ByteArray), (⟨#[48, 49]⟩ : ByteArray), (⟨#[49, 46, 50, 51, 52, 53]⟩ : ByteArray), (⟨#[50, 49, 52, 55, 52, 56, 51, 46, 54, 52, 55]⟩ : ByteArray), (⟨#[50, 49, 52, 55, 52, 56, 51, 46, 54, 52, 56]⟩ : ByteArray), (⟨#[45, 50, 49, 52, 55, 52, 56, 51, 46, 54, 52, 55]⟩ : ByteArray), (⟨#[49, 46, 53, 32]⟩ : ByteArray), (⟨#[49, 46, 97]⟩ : ByteArray), (⟨#[49, 46, 46, 50]⟩ : ByteArray), (⟨#[57, 57, 57, 57, 57, 57, 57, 57, 57]⟩ : ByteArray), (⟨#[49, 46, 50, 48]⟩ : ByteArray), (⟨#[45, 45, 49]⟩ : ByteArray), (⟨#[43, 49]⟩ : ByteArray), (⟨#[49, 46, 50, 46, 51]⟩ : ByteArray)] q1 (by simp) (by simp)
    rw [e2]
    refine ⟨_, rfl, ?_⟩
    show y.size ≤ 1000
    simp only [List.mem_cons, List.not_mem_nil, or_false] at m
    rcases m with rfl | rfl | rfl | rfl | rfl | rfl | rfl | rfl | rfl | rfl | rfl | rfl | rfl | rfl | rfl | rfl | rfl | rfl | rfl | rfl <;> decide
theorem fixT_empty (n : Int) (h : ¬ (-2147483647 ≤ n ∧ n ≤ 2147483647)) : fixT n = [] := by unfold fixT; rw [if_neg h]
theorem fixR_nil : fixR [] = (0, false) := by unfold fixR; rw [if_neg (by decide), fixR0_miss false [] rfl]; rfl
theorem fix_j1 (k : Nat) (n : Int) (ok : Bool) (r : Int × Bool) (hr : r = (n, ok)) (hrange : ok = true → -2147483647 ≤ n ∧ n ≤ 2147483647) :
    laws_FnFix.j1 (k + 200) (if ok = true then ⟨(fixT n).toArray⟩ else ⟨#[]⟩) ok n false = some true := by
  rw [laws_FnFix.j1, if_neg (by decide)]
  unfold impl_FixNormal.f
  cases ok with
  | false =>
    simp only [Bool.false_eq_true, if_false]
    rw [impl_ReadFix_is ⟨#[]⟩ (by decide)]
    have e : (⟨#[]⟩ : ByteArray).data.toList = [] := rfl
    rw [e, fixR_nil]
    simp only [Option.bind_some, Bool.false_eq_true, if_false]
    rw [if_pos (by rw [Go.Lib.toList_data])]
  | true =>
    obtain ⟨h0, h1⟩ := hrange rfl
    simp only [if_true]
    have hl := fixT_len n
    rw [impl_ReadFix_is ⟨(fixT n).toArray⟩ (by simp only [ByteArray.size, List.size_toArray]; omega)]
    have e : (⟨(fixT n).toArray⟩ : ByteArray).data.toList = fixT n := rfl
    rw [e, fixR_T n h0 h1]
    simp only [Option.bind_some, if_true]
    rw [show k + 199 = (k + 198) + 1 by omega, impl_FixText_is (k + 198) n, Option.bind_some]
    (try simp only [if_true])
    rw [spec_FixText_is (k + 198 + 1) (by omega) n, Option.bind_some]
    simp
theorem fix_j0 (b : List Int) (hb : b.length ≤ 140737488351232) (k : Nat) (hk : b.length < k) (h9 : 240 ≤ k) : laws_FnFix.j0 (k + 1) b false = some true := by
  rw [laws_FnFix.j0, if_neg (by decide)]
  obtain ⟨s, e, hs⟩ := drawNormal_some b hb k hk (by omega)
  rw [e, Option.bind_some]
  unfold impl_FixNormal.f
  rw [impl_ReadFix_is s (by omega), spec_ReadFix_is s k (by omega)]
  have hr := fixR_range s.data.toList
  generalize fixR s.data.toList = r at hr
  obtain ⟨n, ok⟩ := r
  obtain ⟨k, rfl⟩ : ∃ m, k = m + 200 := ⟨k - 200, by omega⟩
  simp only [Option.bind_some]
  cases ok with
  | false =>
    simp only [Bool.false_eq_true, if_false, Option.bind_some, bne_self_eq_false]
    exact fix_j1 k n false (n, false) rfl (fun h => by cases h)
  | true =>
    simp only [if_true]
    rw [show k + 200 = (k + 199) + 1 by omega, impl_FixText_is (k + 199) n]
    simp only [Option.bind_some, bne_self_eq_false, Bool.false_eq_true, if_false]
    exact fix_j1 k n true (n, true) rfl (fun _ => hr rfl)
theorem FnFix : laws_FnFix.Pure := by
  intro b _ hb _
  refine ⟨b.length + 300, ?_⟩
  unfold laws_FnFix.f laws_big.f
  rw [Option.bind_some]
  by_cases big : decide ((b.length : Int) > 1048576) = true
  · rw [if_pos big]
  · rw [if_neg big]
    obtain ⟨n, e⟩ := drawFix_some b (by omega) (b.length + 300) (by omega) (by omega)
    have hl := fixT_len n
    rw [e, Option.bind_some, show b.length + 300 = (b.length + 299) + 1 by omega, impl_FixText_is (b.length + 299) n, Option.bind_some, impl_ReadFix_is ⟨(fixT n).toArray⟩ (by simp only [ByteArray.size, List.size_toArray]; omega), spec_FixText_is (b.length + 299 + 1) (by omega) n, Option.bind_some, Option.bind_some, if_pos rfl]
    have e2 : (⟨(fixT n).toArray⟩ : ByteArray).data.toList = fixT n := rfl
    rw [Go.Lib.toList_data, e2]
    have hj := fix_j0 b (by omega) (b.length + 299) (by omega) (by omega)
    by_cases g : -2147483647 ≤ n ∧ n ≤ 2147483647
    · rw [fixR_T n g.1 g.2]
      have hne := fixT_ne n g.1 g.2
      simp only
      rw [if_neg (by simp [hne]), if_pos trivial, show (n != n) = false by simp]
      exact hj
    · rw [fixT_empty n g, fixR_nil]
      simp only
      rw [if_neg (by decide), if_neg (by decide)]
      exact hj

end Go.Proofs.YtkpgpifkbdpnkaaDoor.Pure
