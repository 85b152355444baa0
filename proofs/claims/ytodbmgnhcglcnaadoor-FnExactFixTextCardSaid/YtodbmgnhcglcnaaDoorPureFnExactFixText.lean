/- The text of a decimal: program and reference give the same bytes. Conditions: each number is one of its kind, as the row says. -/
import Derived.Test.YtodbmgnhcglcnaaDoorPFnExactFixTextx2
import Derived.Test.YtodbmgnhcglcnaaDoorBase
set_option linter.unusedSimpArgs false
set_option linter.unusedVariables false
namespace Go.Proofs.YtodbmgnhcglcnaaDoor.Pure
open Go.RowKit Go.Proofs.YtodbmgnhcglcnaaDoor.Base Go.Proofs.YtodbmgnhcglcnaaDoor.PFnExactFixText Go.Proofs.YtodbmgnhcglcnaaDoorW.PrintWords Go.Proofs.YtodbmgnhcglcnaaDoorW.PrintLast Go.Proofs.YtodbmgnhcglcnaaDoorW.PrintMore

/-- The decimal digits of a number, none for 0. -/
def digs (u : Nat) : List UInt8 := if u = 0 then [] else Go.Lib.decDigits u
theorem digs_step {u : Nat} (h : u ≠ 0) : digs u = digs (u / 10) ++ [UInt8.ofNat (48 + u % 10)] := by
  unfold digs
  rw [if_neg h]
  by_cases c : u < 10
  · rw [Go.Lib.decDigits_one c, if_pos (by omega)]
    have : u % 10 = u := Nat.mod_eq_of_lt c
    rw [this]; rfl
  · rw [Go.Lib.decDigits, dif_neg c, if_neg (by omega)]
theorem byte_of (n : Nat) (h : n < 10) : strOfNums [(wrap64 (48 + (n : Int))) % 256] = ⟨#[UInt8.ofNat (48 + n)]⟩ := by
  have e : (wrap64 (48 + (n : Int))) % 256 = ((48 + n : Nat) : Int) := by unfold wrap64; omega
  rw [e]
  rfl
theorem mk_app (a b : List UInt8) : (⟨a.toArray⟩ : ByteArray) ++ ⟨b.toArray⟩ = ⟨(a ++ b).toArray⟩ := by
  apply ByteArray.ext
  simp
theorem spec_Digits_l (d : Nat) : ∀ (k : Nat) (n : Int) (s : Bool) (acc : List UInt8), n.natAbs < 10 ^ d → d < k → d + acc.length ≤ 40 → -9223372036854775808 ≤ n → n ≤ 9223372036854775807 →
    spec_Digits.l0 k n s ⟨acc.toArray⟩ = some ⟨((if s = true then [45] else []) ++ digs n.natAbs ++ acc).toArray⟩ := by
  induction d with
  | zero =>
    intro k n s acc h0 hk ha _ _
    obtain ⟨k, rfl⟩ : ∃ m, k = m + 1 := ⟨k - 1, by omega⟩
    have hn : n = 0 := by simp at h0; omega
    subst hn
    simp only [spec_Digits.l0]
    rw [if_pos trivial]
    have e0 : digs (Int.natAbs 0) = [] := rfl
    rw [e0]
    have hsz : 1 + (⟨acc.toArray⟩ : ByteArray).size ≤ 9223372036854775807 := by
      have : (⟨acc.toArray⟩ : ByteArray).size = acc.length := by simp [ByteArray.size]
      omega
    cases s
    · rw [if_neg (by decide), if_neg (by decide)]; simp
    · rw [if_pos rfl, if_pos hsz, if_pos rfl]
      have := mk_app [45] acc
      exact congrArg some (this.trans (by simp))
  | succ d ih =>
    intro k n s acc h0 hk ha b0 b1
    obtain ⟨k, rfl⟩ : ∃ m, k = m + 1 := ⟨k - 1, by omega⟩
    have hsz : (⟨acc.toArray⟩ : ByteArray).size = acc.length := by simp [ByteArray.size]
    by_cases hn : n = 0
    · subst hn
      simp only [spec_Digits.l0]
      rw [if_pos trivial]
      have e0 : digs (Int.natAbs 0) = [] := rfl
      rw [e0]
      cases s
      · rw [if_neg (by decide), if_neg (by decide)]; simp
      · rw [if_pos rfl, if_pos (by omega), if_pos rfl]
        have := mk_app [45] acc
        exact congrArg some (this.trans (by simp))
    · simp only [spec_Digits.l0]
      rw [if_neg hn]
      have hu : n.natAbs ≠ 0 := by omega
      have hq : (wrap64 (Int.tdiv n 10)) = Int.tdiv n 10 := by
        have h1 : (Int.tdiv n 10).natAbs = n.natAbs / 10 := Int.natAbs_tdiv n 10
        unfold wrap64; omega
      have hqa : (Int.tdiv n 10).natAbs = n.natAbs / 10 := Int.natAbs_tdiv n 10
      have hqd : (Int.tdiv n 10).natAbs < 10 ^ d := by rw [hqa]; rw [Nat.pow_succ] at h0; omega
      have hqb : -9223372036854775808 ≤ Int.tdiv n 10 ∧ Int.tdiv n 10 ≤ 9223372036854775807 := by omega
      have hr : (Int.tmod n 10).natAbs = n.natAbs % 10 := Int.natAbs_tmod n 10
      have tail : ∀ y : ByteArray, y = ⟨#[UInt8.ofNat (48 + n.natAbs % 10)]⟩ → (if y.size + (⟨acc.toArray⟩ : ByteArray).size ≤ 9223372036854775807 then spec_Digits.l0 k (wrap64 (Int.tdiv n 10)) s (y ++ ⟨acc.toArray⟩) else none) = some ⟨((if s = true then [45] else []) ++ digs n.natAbs ++ acc).toArray⟩ := by
        intro y hy
        subst hy
        have e1 : (⟨#[UInt8.ofNat (48 + n.natAbs % 10)]⟩ : ByteArray).size = 1 := rfl
        have e2 : (⟨#[UInt8.ofNat (48 + n.natAbs % 10)]⟩ : ByteArray) ++ ⟨acc.toArray⟩ = ⟨(UInt8.ofNat (48 + n.natAbs % 10) :: acc).toArray⟩ := mk_app [UInt8.ofNat (48 + n.natAbs % 10)] acc
        rw [if_pos (by omega), e2, hq, ih k _ s _ hqd (by omega) (by simp only [List.length_cons]; omega) hqb.1 hqb.2, hqa, digs_step hu]
        simp
      by_cases c : Int.tmod n 10 < 0
      · rw [if_pos c]
        have e : wrap64 (-(Int.tmod n 10)) = ((n.natAbs % 10 : Nat) : Int) := by unfold wrap64; omega
        rw [e]
        exact tail _ (byte_of _ (by omega))
      · rw [if_neg c]
        have e : Int.tmod n 10 = ((n.natAbs % 10 : Nat) : Int) := by omega
        rw [e]
        exact tail _ (byte_of _ (by omega))
theorem spec_Digits_is (n : Int) (b0 : -9223372036854775808 ≤ n) (b1 : n ≤ 9223372036854775807) : spec_Digits.f 30 n = some ⟨(Go.Lib.itoa n).toArray⟩ := by
  unfold spec_Digits.f
  by_cases hn : n = 0
  · subst hn
    rw [if_pos rfl]
    rw [show Go.Lib.itoa 0 = [48] from by rw [show (0 : Int) = ((0 : Nat) : Int) from rfl, Go.Lib.itoa_nonneg, Go.Lib.decDigits_one (by decide)]; rfl]
  · rw [if_neg hn]
    have h := spec_Digits_l 20 30 n (decide (n < 0)) [] (by omega) (by decide) (by decide) b0 b1
    have e0 : (⟨#[]⟩ : ByteArray) = ⟨([] : List UInt8).toArray⟩ := rfl
    rw [e0, h]
    have ed : digs n.natAbs = Go.Lib.decDigits n.natAbs := by unfold digs; rw [if_neg (by omega)]
    rw [ed]
    unfold Go.Lib.itoa
    by_cases c : n < 0
    · rw [if_pos c, if_pos (decide_eq_true c)]; simp
    · rw [if_neg c, if_neg (by simpa using c)]
      have : n.toNat = n.natAbs := by omega
      rw [this]; simp

/-- The last k digits of a number, noughts ahead. -/
def padD : Nat → Nat → List UInt8
  | 0, _ => []
  | k + 1, b => padD k (b / 10) ++ [UInt8.ofNat (48 + b % 10)]
theorem padD_len : ∀ (k b : Nat), (padD k b).length = k
  | 0, _ => rfl
  | k + 1, b => by simp [padD, padD_len k]
theorem dec_pad (k : Nat) : ∀ (a b : Nat), 0 < a → b < 10 ^ k → Go.Lib.decDigits (a * 10 ^ k + b) = Go.Lib.decDigits a ++ padD k b := by
  induction k with
  | zero => intro a b ha hb; have : b = 0 := by simpa using hb
            subst this; simp [padD]
  | succ k ih =>
    intro a b ha hb
    have e : a * 10 ^ (k + 1) = a * 10 ^ k * 10 := by rw [Nat.pow_succ, Nat.mul_assoc]
    rw [Nat.pow_succ] at hb
    have h10 : 1 ≤ 10 ^ k := Nat.pos_of_ne_zero (by simp)
    have hm : a * 10 ^ k ≥ 1 := Nat.mul_pos ha h10
    have h := ih a (b / 10) ha (by omega)
    rw [e]
    generalize a * 10 ^ k = z at *
    rw [Go.Lib.decDigits, dif_neg (by omega)]
    have e1 : (z * 10 + b) / 10 = z + b / 10 := by omega
    have e2 : (z * 10 + b) % 10 = b % 10 := by omega
    rw [e1, e2, h, padD, List.append_assoc]
theorem padD_zero : ∀ k, padD k 0 = List.replicate k 48
  | 0 => rfl
  | k + 1 => by rw [padD, show (0:Nat)/10 = 0 from rfl, padD_zero k, List.replicate_succ']; rfl
theorem padD_eq (k : Nat) : ∀ b, 0 < k → b < 10 ^ k → padD k b = List.replicate (k - (Go.Lib.decDigits b).length) 48 ++ Go.Lib.decDigits b := by
  induction k with
  | zero => intro b h; omega
  | succ k ih =>
    intro b _ hb
    by_cases c : b < 10
    · rw [Go.Lib.decDigits, dif_pos c, padD]
      have e1 : b / 10 = 0 := by omega
      have e2 : b % 10 = b := by omega
      rw [e1, e2, padD_zero]; rfl
    · rw [Nat.pow_succ] at hb
      have hk : 0 < k := by
        rcases Nat.eq_zero_or_pos k with h | h
        · subst h; simp at hb; omega
        · exact h
      rw [Go.Lib.decDigits, dif_neg c, padD, ih (b / 10) hk (by omega)]
      simp [Nat.add_sub_add_right]
theorem dec_len_le (k : Nat) : ∀ b, 0 < k → b < 10 ^ k → (Go.Lib.decDigits b).length ≤ k := by
  intro b hk hb
  have h := padD_len k b
  rw [padD_eq k b hk hb] at h
  simp at h
  omega

theorem four (r : Nat) (h : r < 1000) : Go.Lib.decDigits (1000 + r) = [49, UInt8.ofNat (48 + r / 100), UInt8.ofNat (48 + r / 10 % 10), UInt8.ofNat (48 + r % 10)] := by
  rw [Go.Lib.decDigits, dif_neg (by omega), Go.Lib.decDigits, dif_neg (by omega), Go.Lib.decDigits, dif_neg (by omega), Go.Lib.decDigits, dif_pos (by omega)]
  have e1 : (1000 + r) / 10 / 10 / 10 = 1 := by omega
  have e2 : (1000 + r) / 10 / 10 % 10 = r / 100 := by omega
  have e3 : (1000 + r) / 10 % 10 = r / 10 % 10 := by omega
  have e4 : (1000 + r) % 10 = r % 10 := by omega
  rw [e1, e2, e3, e4]
  rfl
theorem byte48 (n : Nat) (h : n < 10) : (UInt8.ofNat (48 + n) == 48) = decide (n = 0) := by
  have : n = 0 ∨ n = 1 ∨ n = 2 ∨ n = 3 ∨ n = 4 ∨ n = 5 ∨ n = 6 ∨ n = 7 ∨ n = 8 ∨ n = 9 := by omega
  rcases this with rfl | rfl | rfl | rfl | rfl | rfl | rfl | rfl | rfl | rfl <;> decide
/-- Three digits, not all nought, without the noughts at their end. -/
def cut3 (a b c : Nat) : List UInt8 := if c = 0 then (if b = 0 then [UInt8.ofNat (48 + a)] else [UInt8.ofNat (48 + a), UInt8.ofNat (48 + b)]) else [UInt8.ofNat (48 + a), UInt8.ofNat (48 + b), UInt8.ofNat (48 + c)]
theorem trim3 (a b c : Nat) (ha : a < 10) (hb : b < 10) (hc : c < 10) (h : ¬ (a = 0 ∧ b = 0 ∧ c = 0)) : Go.Lib.trimRightB [UInt8.ofNat (48 + a), UInt8.ofNat (48 + b), UInt8.ofNat (48 + c)] 48 = cut3 a b c := by
  unfold Go.Lib.trimRightB cut3
  have pa := byte48 a ha
  have pb := byte48 b hb
  have pc := byte48 c hc
  simp only [List.reverse_cons, List.reverse_nil, List.nil_append, List.cons_append, List.dropWhile_cons, pa, pb, pc]
  by_cases h0 : c = 0
  · by_cases h1 : b = 0
    · have h2 : ¬ a = 0 := fun e => h ⟨e, h1, h0⟩
      simp [h0, h1, h2]
    · simp [h0, h1]
  · simp [h0]
theorem mk_size (l : List UInt8) : (⟨l.toArray⟩ : ByteArray).size = l.length := by simp [ByteArray.size]
/-- A decimal's text without its sign. -/
def fixU (a : Nat) : List UInt8 := Go.Lib.decDigits (a / 1000) ++ (if a % 1000 = 0 then [] else 46 :: cut3 (a % 1000 / 100) (a % 1000 / 10 % 10) (a % 1000 % 10))
/-- A decimal's text. -/
def fixL (n : Int) : List UInt8 := if n < 0 then 45 :: fixU n.natAbs else fixU n.natAbs
def fixT (n : Int) : List UInt8 := if -2147483647 ≤ n ∧ n ≤ 2147483647 then fixL n else []
theorem spec_Digits_k (k : Nat) (hk : 20 < k) (n : Int) (b0 : -9223372036854775808 ≤ n) (b1 : n ≤ 9223372036854775807) : spec_Digits.f k n = some ⟨(Go.Lib.itoa n).toArray⟩ := by
  unfold spec_Digits.f
  by_cases hn : n = 0
  · subst hn
    rw [if_pos rfl]
    rw [show Go.Lib.itoa 0 = [48] from by rw [show (0 : Int) = ((0 : Nat) : Int) from rfl, Go.Lib.itoa_nonneg, Go.Lib.decDigits_one (by decide)]; rfl]
  · rw [if_neg hn]
    have h := spec_Digits_l 20 k n (decide (n < 0)) [] (by omega) hk (by decide) b0 b1
    have e0 : (⟨#[]⟩ : ByteArray) = ⟨([] : List UInt8).toArray⟩ := rfl
    rw [e0, h]
    have ed : digs n.natAbs = Go.Lib.decDigits n.natAbs := by unfold digs; rw [if_neg (by omega)]
    rw [ed]
    unfold Go.Lib.itoa
    by_cases c : n < 0
    · rw [if_pos c, if_pos (decide_eq_true c)]; simp
    · rw [if_neg c, if_neg (by simpa using c)]
      have : n.toNat = n.natAbs := by omega
      rw [this]; simp
theorem dec_len20 (u : Nat) (h : u < 18446744073709551616) : (Go.Lib.decDigits u).length ≤ 20 := dec_len_le 20 u (by decide) (by omega)

theorem loop3 (k : Nat) (s : ByteArray) (a b c : Nat) (ha : a < 10) (hb : b < 10) (hc : c < 10) (h : ¬ (a = 0 ∧ b = 0 ∧ c = 0)) (hs : s.size ≤ 100) :
    spec_FixText.l0 (k + 3) s [48 + (a : Int), 48 + (b : Int), 48 + (c : Int)] = some ((s ++ ⟨#[46]⟩) ++ ⟨(cut3 a b c).toArray⟩) := by
  have sz : (s ++ (⟨#[46]⟩ : ByteArray)).size = s.size + 1 := by rw [ByteArray.size_append]; rfl
  have fin : ∀ (k : Nat) (xs : List Int) (l : List UInt8), xs.length ≤ 3 → 0 < xs.length → rd xs ((xs.length : Int) - 1) ≠ 48 → strOfNums xs = ⟨l.toArray⟩ →
      spec_FixText.l0 (k + 1) s xs = some ((s ++ ⟨#[46]⟩) ++ ⟨l.toArray⟩) := by
    intro k xs l h3 h0 hx hl
    simp only [spec_FixText.l0]
    have e : wrap64 ((xs.length : Int) - 1) = (xs.length : Int) - 1 := by unfold wrap64; omega
    have z : (strOfNums xs).size ≤ 3 := by rw [strOfNums_size]; exact h3
    rw [e, if_pos (by omega), if_pos (by omega), if_neg hx, if_pos (by omega), if_pos (by omega), hl]
  have step : ∀ (k : Nat) (xs : List Int), xs.length ≤ 3 → 0 < xs.length → rd xs ((xs.length : Int) - 1) = 48 → spec_FixText.l0 (k + 1) s xs = spec_FixText.l0 k s (xs.take (xs.length - 1)) := by
    intro k xs h3 h0 hx
    simp only [spec_FixText.l0]
    have e : wrap64 ((xs.length : Int) - 1) = (xs.length : Int) - 1 := by unfold wrap64; omega
    have e2 : ((xs.length : Int) - 1).toNat = xs.length - 1 := by omega
    rw [e, if_pos (by omega), if_pos (by omega), if_pos hx, if_pos (by omega), e2]
  have nb : ∀ n : Nat, n < 10 → UInt8.ofNat (48 + (n : Int)).toNat = UInt8.ofNat (48 + n) := fun n _ => by congr 1
  unfold cut3
  by_cases h0 : c = 0
  · rw [if_pos h0, step (k + 2) _ (by simp) (by simp) (by show (48 + (c : Int)) = 48; omega)]
    by_cases h1 : b = 0
    · rw [if_pos h1]
      show spec_FixText.l0 (k + 2) s [48 + (a : Int), 48 + (b : Int)] = _
      rw [step (k + 1) _ (by simp) (by simp) (by show (48 + (b : Int)) = 48; omega)]
      show spec_FixText.l0 (k + 1) s [48 + (a : Int)] = _
      exact fin k _ _ (by simp) (by simp) (by show (48 + (a : Int)) ≠ 48; omega) (by unfold strOfNums; simp only [List.map_cons, List.map_nil, nb a ha])
    · rw [if_neg h1]
      show spec_FixText.l0 (k + 2) s [48 + (a : Int), 48 + (b : Int)] = _
      exact fin (k + 1) _ _ (by simp) (by simp) (by show (48 + (b : Int)) ≠ 48; omega) (by unfold strOfNums; simp only [List.map_cons, List.map_nil, nb a ha, nb b hb])
  · rw [if_neg h0]
    exact fin (k + 2) _ _ (by simp) (by simp) (by show (48 + (c : Int)) ≠ 48; omega) (by unfold strOfNums; simp only [List.map_cons, List.map_nil, nb a ha, nb b hb, nb c hc])
theorem wdig (n : Nat) (h : n < 10) : wrap64 (48 + (n : Int)) % 256 = 48 + (n : Int) := by
  rw [w64_id (by omega) (by omega)]; omega
theorem spec_FixText_j (k a : Nat) (hk : 39 ≤ k) (ha : a ≤ 2147483647) (sg : List UInt8) (hs : sg.length ≤ 1) : spec_FixText.j0 (k + 1) (a : Int) ⟨sg.toArray⟩ = some ⟨(sg ++ fixU a).toArray⟩ := by
  simp only [spec_FixText.j0]
  have q1 : a % 1000 / 100 < 10 := by omega
  have q2 : a % 1000 / 10 % 10 < 10 := by omega
  have q3 : a % 1000 % 10 < 10 := by omega
  have q4 : ¬ a % 1000 = 0 → ¬ (a % 1000 / 100 = 0 ∧ a % 1000 / 10 % 10 = 0 ∧ a % 1000 % 10 = 0) := by omega
  have v1 := w64_id (n := ((a % 1000 / 10 : Nat) : Int)) (by omega) (by omega)
  have v2 := w64_id (n := ((a % 1000 / 100 : Nat) : Int)) (by omega) (by omega)
  have v3 := w64_id (n := ((a / 1000 : Nat) : Int)) (by omega) (by omega)
  have e1 : Int.tdiv (a : Int) 1000 = ((a / 1000 : Nat) : Int) := (Int.ofNat_tdiv a 1000).symm
  have e2 : Int.tmod (a : Int) 1000 = ((a % 1000 : Nat) : Int) := (Int.ofNat_tmod a 1000).symm
  have e3 : Int.tdiv ((a % 1000 : Nat) : Int) 100 = ((a % 1000 / 100 : Nat) : Int) := (Int.ofNat_tdiv _ 100).symm
  have e4 : Int.tdiv ((a % 1000 : Nat) : Int) 10 = ((a % 1000 / 10 : Nat) : Int) := (Int.ofNat_tdiv _ 10).symm
  have e6 : Int.tmod ((a % 1000 : Nat) : Int) 10 = ((a % 1000 % 10 : Nat) : Int) := (Int.ofNat_tmod _ 10).symm
  have e5 : Int.tmod ((a % 1000 / 10 : Nat) : Int) 10 = ((a % 1000 / 10 % 10 : Nat) : Int) := (Int.ofNat_tmod _ 10).symm
  rw [e1, e2, e3, e4, e6, v1, v2, e5]
  clear e1 e2 e3 e4 e5 e6 v1 v2
  rw [v3, spec_Digits_k k (by omega) _ (by omega) (by omega), Go.Lib.itoa_nonneg]
  simp only [Option.bind_some]
  have hl := dec_len20 (a / 1000) (by omega)
  rw [mk_size, mk_size, if_pos (by omega), mk_app]
  unfold fixU
  by_cases z : a % 1000 = 0
  · rw [if_pos (by omega), if_pos z]; simp
  · rw [if_neg (by omega), if_neg z]
    rw [wdig _ q1, wdig _ q2, wdig _ q3]
    obtain ⟨j, rfl⟩ : ∃ j, k = j + 3 := ⟨k - 3, by omega⟩
    have h3 := loop3 j ⟨(sg ++ Go.Lib.decDigits (a / 1000)).toArray⟩ (a % 1000 / 100) (a % 1000 / 10 % 10) (a % 1000 % 10) q1 q2 q3 (q4 z) (by rw [mk_size, List.length_append]; omega)
    rw [h3]
    have e46 : (⟨#[46]⟩ : ByteArray) = ⟨([46] : List UInt8).toArray⟩ := rfl
    rw [e46, mk_app, mk_app]
    simp
theorem spec_FixText_is (k : Nat) (hk : 40 ≤ k) (n : Int) : spec_FixText.f k n = some ⟨(fixT n).toArray⟩ := by
  obtain ⟨k, rfl⟩ : ∃ j, k = j + 1 := ⟨k - 1, by omega⟩
  unfold spec_FixText.f spec_l6Value.f spec_l1In.f
  by_cases c : -2147483647 ≤ n
  · rw [if_pos (by omega)]
    simp only [Option.bind_some]
    by_cases d : n ≤ 2147483647
    · have cd : -2147483647 ≤ n ∧ n ≤ 2147483647 := ⟨c, d⟩
      have hT : fixT n = fixL n := by unfold fixT; rw [if_pos cd]
      rw [if_pos (decide_eq_true d), hT]
      unfold fixL
      by_cases z : n < 0
      · rw [if_pos z, if_pos z, w64_id (by omega) (by omega)]
        have e : -n = ((n.natAbs : Nat) : Int) := by omega
        rw [e]
        exact spec_FixText_j k n.natAbs (by omega) (by omega) [45] (by decide)
      · rw [if_neg z, if_neg z]
        have e : n = ((n.natAbs : Nat) : Int) := by omega
        conv => lhs; rw [e]
        exact spec_FixText_j k n.natAbs (by omega) (by omega) [] (by decide)
    · have cd : ¬ (-2147483647 ≤ n ∧ n ≤ 2147483647) := fun h => d h.2
      have hT : fixT n = [] := by unfold fixT; rw [if_neg cd]
      rw [if_neg (by simpa using d), hT]
  · rw [if_neg (by omega)]
    simp only [Option.bind_some]
    have cd : ¬ (-2147483647 ≤ n ∧ n ≤ 2147483647) := fun h => c h.1
    have hT : fixT n = [] := by unfold fixT; rw [if_neg cd]
    rw [if_neg (by decide), hT]

theorem impl_Digits_is (n : Int) (b0 : -9223372036854775808 ≤ n) (b1 : n ≤ 9223372036854775807) : impl_Digits.f n = some ⟨(Go.Lib.itoa n).toArray⟩ := by
  unfold impl_Digits.f strconv_Itoa_84.f
  rw [if_pos ⟨b0, b1⟩]; rfl
theorem impl_FixText_j (k a : Nat) (ha : a ≤ 2147483647) (sg : List UInt8) (hs : sg.length ≤ 1) : impl_FixText.j0 (k + 1) (a : Int) ⟨sg.toArray⟩ = some ⟨(sg ++ fixU a).toArray⟩ := by
  simp only [impl_FixText.j0]
  have q1 : a % 1000 / 100 < 10 := by omega
  have q2 : a % 1000 / 10 % 10 < 10 := by omega
  have q3 : a % 1000 % 10 < 10 := by omega
  have q4 : ¬ a % 1000 = 0 → ¬ (a % 1000 / 100 = 0 ∧ a % 1000 / 10 % 10 = 0 ∧ a % 1000 % 10 = 0) := by omega
  have e1 : Int.tdiv (a : Int) 1000 = ((a / 1000 : Nat) : Int) := (Int.ofNat_tdiv a 1000).symm
  have e2 : Int.tmod (a : Int) 1000 = ((a % 1000 : Nat) : Int) := (Int.ofNat_tmod a 1000).symm
  rw [e1, e2]
  clear e1 e2
  rw [w64_id (n := ((a / 1000 : Nat) : Int)) (by omega) (by omega), impl_Digits_is _ (by omega) (by omega), Go.Lib.itoa_nonneg]
  simp only [Option.bind_some]
  have hl := dec_len20 (a / 1000) (by omega)
  rw [mk_size, mk_size, if_pos (by omega), mk_app]
  unfold fixU
  by_cases z : a % 1000 = 0
  · rw [if_pos (by omega), if_pos z]; simp
  · rw [if_neg (by omega), if_neg z, w64_id (n := 1000 + ((a % 1000 : Nat) : Int)) (by omega) (by omega)]
    rw [show (1000 : Int) + ((a % 1000 : Nat) : Int) = ((1000 + a % 1000 : Nat) : Int) from by omega, impl_Digits_is _ (by omega) (by omega), Go.Lib.itoa_nonneg, four _ (by omega)]
    simp only [Option.bind_some]
    have es : ∀ b c d : UInt8, (⟨[49, b, c, d].toArray⟩ : ByteArray).extract 1 (⟨[49, b, c, d].toArray⟩ : ByteArray).size = ⟨[b, c, d].toArray⟩ := by
      intro b c d
      apply ByteArray.ext
      simp [ByteArray.size]
    rw [es]
    have e4 : ∀ b c d : UInt8, ((⟨[49, b, c, d].toArray⟩ : ByteArray).size : Int) = 4 := fun _ _ _ => rfl
    rw [e4, if_pos (by decide)]
    unfold strings_TrimRight.f
    rw [if_pos ⟨rfl, by rw [mk_size]; simp⟩]
    simp only [Option.bind_some]
    have h3 := trim3 (a % 1000 / 100) (a % 1000 / 10 % 10) (a % 1000 % 10) q1 q2 q3 (q4 z)
    rw [h3]
    have e46 : (⟨#[46]⟩ : ByteArray) = ⟨([46] : List UInt8).toArray⟩ := rfl
    have hc : (cut3 (a % 1000 / 100) (a % 1000 / 10 % 10) (a % 1000 % 10)).length ≤ 3 := by
      unfold cut3
      by_cases p : a % 1000 % 10 = 0
      · rw [if_pos p]
        by_cases q : a % 1000 / 10 % 10 = 0
        · rw [if_pos q]; exact Nat.le_succ_of_le (Nat.le_succ 1)
        · rw [if_neg q]; exact Nat.le_succ 2
      · rw [if_neg p]; exact Nat.le_refl 3
    rw [e46, mk_app, mk_app, mk_size, mk_size, mk_size, List.length_append, List.length_append, List.length_singleton, if_pos (by omega), if_pos (by omega)]
    simp
theorem impl_FixText_is (k : Nat) (n : Int) : impl_FixText.f (k + 1) n = some ⟨(fixT n).toArray⟩ := by
  unfold impl_FixText.f impl_isDecimal.f impl_within.f
  by_cases c : -2147483647 ≤ n
  · rw [if_pos (by omega)]
    simp only [Option.bind_some]
    by_cases d : n ≤ 2147483647
    · have cd : -2147483647 ≤ n ∧ n ≤ 2147483647 := ⟨c, d⟩
      have hT : fixT n = fixL n := by unfold fixT; rw [if_pos cd]
      rw [if_pos (decide_eq_true d), hT]
      unfold fixL
      by_cases z : n < 0
      · rw [if_pos z, if_pos z, w64_id (by omega) (by omega)]
        have e : -n = ((n.natAbs : Nat) : Int) := by omega
        rw [e]
        exact impl_FixText_j k n.natAbs (by omega) [45] (by decide)
      · rw [if_neg z, if_neg z]
        have e : n = ((n.natAbs : Nat) : Int) := by omega
        conv => lhs; rw [e]
        exact impl_FixText_j k n.natAbs (by omega) [] (by decide)
    · have cd : ¬ (-2147483647 ≤ n ∧ n ≤ 2147483647) := fun h => d h.2
      have hT : fixT n = [] := by unfold fixT; rw [if_neg cd]
      rw [if_neg (by simpa using d), hT]
  · rw [if_neg (by omega)]
    simp only [Option.bind_some]
    have cd : ¬ (-2147483647 ≤ n ∧ n ≤ 2147483647) := fun h => c h.1
    have hT : fixT n = [] := by unfold fixT; rw [if_neg cd]
    rw [if_neg (by decide), hT]

theorem FnExactFixText : laws_FnExactFixText.Pure := by
  intro n _
  refine ⟨40, ?_⟩
  unfold laws_FnExactFixText.f
  rw [spec_FixText_is 40 (by omega) n, impl_FixText_is 39 n]
  simp

end Go.Proofs.YtodbmgnhcglcnaaDoor.Pure
