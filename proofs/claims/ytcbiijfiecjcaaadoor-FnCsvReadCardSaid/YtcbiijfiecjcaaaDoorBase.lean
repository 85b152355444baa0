/- Lemmas on machine numbers, of no program: wrapped sums, bits, halves. Conditions stand in each lemma. -/
import Derived.RowKit
import Derived.Laws.BitsLemmas
namespace Go.Proofs.YtcbiijfiecjcaaaDoor.Base
open Go.RowKit
theorem wf64 {a : Int} (h : (Lit.int .i64 a).wf = true) : -9223372036854775808 ≤ a ∧ a ≤ 9223372036854775807 := by
  simp [Lit.wf, IntKind.min, IntKind.max, IntKind.signed, IntKind.bits] at h
  omega
theorem wfu64 {a : Int} (h : (Lit.int .u64 a).wf = true) : 0 ≤ a ∧ a < 18446744073709551616 := by
  simp [Lit.wf, IntKind.min, IntKind.max, IntKind.signed, IntKind.bits] at h
  omega
theorem wu64 (n : Int) : IntKind.u64.wrap n = n % 18446744073709551616 := by simp [IntKind.wrap, IntKind.bits, IntKind.signed]
theorem w64_id {n : Int} (h0 : -9223372036854775808 ≤ n) (h1 : n ≤ 9223372036854775807) : wrap64 n = n := by unfold wrap64; omega
theorem w64_range (n : Int) : -9223372036854775808 ≤ wrap64 n ∧ wrap64 n ≤ 9223372036854775807 := by unfold wrap64; omega
theorem wu64_id {n : Int} (h0 : 0 ≤ n) (h1 : n < 18446744073709551616) : IntKind.u64.wrap n = n := by rw [wu64]; omega
theorem nat_and_xor (x y : Nat) : x + y = 2 * (x &&& y) + (x ^^^ y) := by
  induction x using Nat.strongRecOn generalizing y with
  | ind x ih =>
    by_cases hx : x = 0
    · subst hx; simp
    · have h := ih (x / 2) (by omega) (y / 2)
      have e1 : (x &&& y) / 2 = x / 2 &&& y / 2 := Nat.and_div_two
      have e2 : (x ^^^ y) / 2 = x / 2 ^^^ y / 2 := Nat.xor_div_two
      have m1 : (x &&& y) % 2 = (x % 2) &&& (y % 2) := Nat.and_mod_two_pow (n := 1)
      have m2 : (x ^^^ y) % 2 = (x % 2) ^^^ (y % 2) := Nat.xor_mod_two_pow (n := 1)
      rw [← e1, ← e2] at h
      have k00 : (0 &&& 0 : Nat) = 0 := rfl
      have k01 : (0 &&& 1 : Nat) = 0 := rfl
      have k10 : (1 &&& 0 : Nat) = 0 := rfl
      have k11 : (1 &&& 1 : Nat) = 1 := rfl
      have j00 : (0 ^^^ 0 : Nat) = 0 := rfl
      have j01 : (0 ^^^ 1 : Nat) = 1 := rfl
      have j10 : (1 ^^^ 0 : Nat) = 1 := rfl
      have j11 : (1 ^^^ 1 : Nat) = 0 := rfl
      generalize x &&& y = p at *
      generalize x ^^^ y = q at *
      rcases Nat.mod_two_eq_zero_or_one x with a | a <;> rcases Nat.mod_two_eq_zero_or_one y with b | b <;>
        · rw [a, b] at m1 m2
          first | rw [k00, j00] at * | rw [k01, j01] at * | rw [k10, j10] at * | rw [k11, j11] at *
          omega
theorem nat_and_mod2 (x y : Nat) : (x &&& y) % 2 = if x % 2 = 1 ∧ y % 2 = 1 then 1 else 0 := by
  have m1 : (x &&& y) % 2 = (x % 2) &&& (y % 2) := Nat.and_mod_two_pow (n := 1)
  rw [m1]
  rcases Nat.mod_two_eq_zero_or_one x with a | a <;> rcases Nat.mod_two_eq_zero_or_one y with b | b <;> simp [a, b]
theorem nat_and_hi (x y : Nat) (hx : x < 18446744073709551616) (hy : y < 18446744073709551616) :
    ((x &&& y) ≥ 9223372036854775808) ↔ (x ≥ 9223372036854775808 ∧ y ≥ 9223372036854775808) := by
  have h : ∀ z, z < 18446744073709551616 → (z ≥ 9223372036854775808 ↔ z.testBit 63 = true) := by
    intro z hz
    rw [Nat.testBit_eq_decide_div_mod_eq]
    simp
    omega
  have hxy : x &&& y < 18446744073709551616 := Nat.lt_of_le_of_lt Nat.and_le_left hx
  rw [h _ hxy, h _ hx, h _ hy, Nat.testBit_and]
  simp
theorem nat_xor_hi (x y : Nat) (hx : x < 18446744073709551616) (hy : y < 18446744073709551616) :
    ((x ^^^ y) ≥ 9223372036854775808) ↔ ¬ ((x ≥ 9223372036854775808) ↔ (y ≥ 9223372036854775808)) := by
  have h : ∀ z, z < 18446744073709551616 → (z ≥ 9223372036854775808 ↔ z.testBit 63 = true) := by
    intro z hz
    rw [Nat.testBit_eq_decide_div_mod_eq]
    simp
    omega
  have hxy : x ^^^ y < 18446744073709551616 := Nat.xor_lt_two_pow (n := 64) hx hy
  rw [h _ hxy, h _ hx, h _ hy, Nat.testBit_xor]
  cases x.testBit 63 <;> cases y.testBit 63 <;> simp
theorem ofInt_nat (a : Int) : (BitVec.ofInt 64 a).toNat = (a % 18446744073709551616).toNat := by
  simp [BitVec.toNat_ofInt]
theorem and_i64 (a b : Int) : Go.bits .and .i64 a b = IntKind.i64.wrap (((a % 18446744073709551616).toNat &&& (b % 18446744073709551616).toNat : Nat) : Int) := by
  show IntKind.i64.wrap ((BitVec.ofInt 64 a &&& BitVec.ofInt 64 b).toNat : Int) = _
  rw [BitVec.toNat_and, ofInt_nat, ofInt_nat]
theorem xor_i64 (a b : Int) : Go.bits .xor .i64 a b = IntKind.i64.wrap (((a % 18446744073709551616).toNat ^^^ (b % 18446744073709551616).toNat : Nat) : Int) := by
  show IntKind.i64.wrap ((BitVec.ofInt 64 a ^^^ BitVec.ofInt 64 b).toNat : Int) = _
  rw [BitVec.toNat_xor, ofInt_nat, ofInt_nat]
theorem and_u64 (a b : Int) : Go.bits .and .u64 a b = IntKind.u64.wrap (((a % 18446744073709551616).toNat &&& (b % 18446744073709551616).toNat : Nat) : Int) := by
  show IntKind.u64.wrap ((BitVec.ofInt 64 a &&& BitVec.ofInt 64 b).toNat : Int) = _
  rw [BitVec.toNat_and, ofInt_nat, ofInt_nat]
theorem or_u64 (a b : Int) : Go.bits .or .u64 a b = IntKind.u64.wrap (((a % 18446744073709551616).toNat ||| (b % 18446744073709551616).toNat : Nat) : Int) := by
  show IntKind.u64.wrap ((BitVec.ofInt 64 a ||| BitVec.ofInt 64 b).toNat : Int) = _
  rw [BitVec.toNat_or, ofInt_nat, ofInt_nat]
theorem xor_u64 (a b : Int) : Go.bits .xor .u64 a b = IntKind.u64.wrap (((a % 18446744073709551616).toNat ^^^ (b % 18446744073709551616).toNat : Nat) : Int) := by
  show IntKind.u64.wrap ((BitVec.ofInt 64 a ^^^ BitVec.ofInt 64 b).toNat : Int) = _
  rw [BitVec.toNat_xor, ofInt_nat, ofInt_nat]
theorem i64_and_xor (a b : Int) (ha0 : -9223372036854775808 ≤ a) (ha1 : a ≤ 9223372036854775807) (hb0 : -9223372036854775808 ≤ b) (hb1 : b ≤ 9223372036854775807) :
    a + b = 2 * Go.bits .and .i64 a b + Go.bits .xor .i64 a b := by
  rw [and_i64, xor_i64, IntKind.wrap_i64, IntKind.wrap_i64]
  generalize hx : (a % 18446744073709551616).toNat = x
  generalize hy : (b % 18446744073709551616).toNat = y
  have h1 := nat_and_xor x y
  have hx' : x < 18446744073709551616 := by omega
  have hy' : y < 18446744073709551616 := by omega
  have h2 := nat_and_hi x y hx' hy'
  have h3 := nat_xor_hi x y hx' hy'
  have h4 : x &&& y < 18446744073709551616 := Nat.lt_of_le_of_lt Nat.and_le_left hx'
  have h5 : x ^^^ y < 18446744073709551616 := Nat.xor_lt_two_pow (n := 64) hx' hy'
  omega
theorem and_i64_one (a : Int) : Go.bits .and .i64 a 1 = a % 2 := by
  rw [and_i64, IntKind.wrap_i64]
  generalize hx : (a % 18446744073709551616).toNat = x
  have e : ((1 : Int) % 18446744073709551616).toNat = 1 := by omega
  rw [e, Nat.and_one_is_mod]
  omega
theorem i64_and_mod2 (a b : Int) : Go.bits .and .i64 (Go.bits .and .i64 a b) 1 = if a % 2 = 1 ∧ b % 2 = 1 then 1 else 0 := by
  rw [and_i64_one, and_i64, IntKind.wrap_i64]
  generalize hx : (a % 18446744073709551616).toNat = x
  generalize hy : (b % 18446744073709551616).toNat = y
  have h4 : x &&& y < 18446744073709551616 := Nat.lt_of_le_of_lt Nat.and_le_left (by omega)
  have h6 := nat_and_mod2 x y
  generalize x &&& y = z at h4 h6 ⊢
  by_cases c : x % 2 = 1 ∧ y % 2 = 1
  · rw [if_pos c] at h6
    rw [if_pos (by omega)]
    omega
  · rw [if_neg c] at h6
    rw [if_neg (by omega)]
    omega
theorem i64_wrap_range (z : Int) : -9223372036854775808 ≤ IntKind.i64.wrap z ∧ IntKind.i64.wrap z ≤ 9223372036854775807 := by rw [IntKind.wrap_i64]; omega
theorem u64_wrap_range (z : Int) : 0 ≤ IntKind.u64.wrap z ∧ IntKind.u64.wrap z < 18446744073709551616 := by simp [IntKind.wrap, IntKind.bits, IntKind.signed]; omega
theorem and_mask32 (a : Int) (h0 : 0 ≤ a) (h1 : a < 18446744073709551616) : Go.bits .and .u64 a 4294967295 = a % 4294967296 := by
  have h := bits_mask .u64 64 (by decide) (fun n h0 h1 => by simp [IntKind.wrap, IntKind.bits, IntKind.signed]; omega) 32 (by decide) a h0 (by omega)
  simpa using h
def wok (n : Bool) (h l : Int) : Bool := decide (h < 9223372036854775808) && (!n || decide (h > 0) || decide (l > 0))
def wnz (n : Bool) (h l : Int) : Bool := n && (decide (h > 0) || decide (l > 0))
def iin (a b c : Int) : Bool := decide (b ≤ a) && decide (a ≤ c)
theorem mul_bound {x y : Int} (h0 : 0 ≤ x) (h1 : x ≤ 4294967295) (h2 : 0 ≤ y) (h3 : y ≤ 4294967295) : 0 ≤ x * y ∧ x * y ≤ 18446744065119617025 :=
  ⟨Int.mul_nonneg h0 h2, by have := Int.mul_le_mul h1 h3 h2 (by decide : (0:Int) ≤ 4294967295); omega⟩
theorem prod_split (a b : Int) : a * b = 18446744073709551616 * ((a / 4294967296) * (b / 4294967296)) + 4294967296 * ((a / 4294967296) * (b % 4294967296)) + 4294967296 * ((a % 4294967296) * (b / 4294967296)) + (a % 4294967296) * (b % 4294967296) := by
  have ha := Int.mul_ediv_add_emod a 4294967296
  have hb := Int.mul_ediv_add_emod b 4294967296
  generalize a / 4294967296 = x at *
  generalize a % 4294967296 = y at *
  generalize b / 4294967296 = z at *
  generalize b % 4294967296 = u at *
  subst ha hb
  grind
theorem mulhi (a b : Int) (ha0 : 0 ≤ a) (ha : a < 18446744073709551616) (hb0 : 0 ≤ b) (hb : b < 18446744073709551616) :
    IntKind.u64.wrap ((IntKind.u64.wrap ((IntKind.u64.wrap ((a / 4294967296) * (b / 4294967296))) + ((IntKind.u64.wrap ((IntKind.u64.wrap ((a / 4294967296) * (Go.bits .and .u64 b 4294967295))) + ((IntKind.u64.wrap ((Go.bits .and .u64 a 4294967295) * (Go.bits .and .u64 b 4294967295))) / 4294967296))) / 4294967296))) + ((IntKind.u64.wrap ((Go.bits .and .u64 (IntKind.u64.wrap ((IntKind.u64.wrap ((a / 4294967296) * (Go.bits .and .u64 b 4294967295))) + ((IntKind.u64.wrap ((Go.bits .and .u64 a 4294967295) * (Go.bits .and .u64 b 4294967295))) / 4294967296))) 4294967295) + (IntKind.u64.wrap ((Go.bits .and .u64 a 4294967295) * (b / 4294967296))))) / 4294967296)) = a * b / 18446744073709551616 := by
  rw [and_mask32 a ha0 ha, and_mask32 b hb0 hb]
  rw [and_mask32 _ (by rw [wu64]; omega) (by rw [wu64]; omega)]
  have h := prod_split a b
  have ⟨l1, u1⟩ := mul_bound (x := a / 4294967296) (y := b / 4294967296) (by omega) (by omega) (by omega) (by omega)
  have ⟨l2, u2⟩ := mul_bound (x := a / 4294967296) (y := b % 4294967296) (by omega) (by omega) (by omega) (by omega)
  have ⟨l3, u3⟩ := mul_bound (x := a % 4294967296) (y := b / 4294967296) (by omega) (by omega) (by omega) (by omega)
  have ⟨l4, u4⟩ := mul_bound (x := a % 4294967296) (y := b % 4294967296) (by omega) (by omega) (by omega) (by omega)
  have lt : a * b ≤ 18446744073709551615 * 18446744073709551615 := Int.mul_le_mul (by omega) (by omega) hb0 (by decide)
  simp only [wu64]
  generalize (a / 4294967296) * (b / 4294967296) = p at *
  generalize (a / 4294967296) * (b % 4294967296) = q at *
  generalize (a % 4294967296) * (b / 4294967296) = r at *
  generalize (a % 4294967296) * (b % 4294967296) = s at *
  generalize a * b = t at *
  omega
theorem mul_u64 (a b : Int) (ha0 : 0 ≤ a) (ha : a < 18446744073709551616) (hb0 : 0 ≤ b) (hb : b < 18446744073709551616) : 0 ≤ a * b ∧ a * b ≤ 340282366920938463426481119284349108225 :=
  ⟨Int.mul_nonneg ha0 hb0, by have := Int.mul_le_mul (show a ≤ 18446744073709551615 by omega) (show b ≤ 18446744073709551615 by omega) hb0 (by decide); omega⟩
def iabs (a : Int) : Int := if a < 0 then -a else a
theorem iabs_nonneg (a : Int) : 0 ≤ iabs a := by unfold iabs; split <;> omega
theorem iabs_i64 {a : Int} (h0 : -9223372036854775808 ≤ a) (h1 : a ≤ 9223372036854775807) : iabs a ≤ 9223372036854775808 := by unfold iabs; split <;> omega
theorem iabs_u64 {a : Int} (h0 : -9223372036854775808 ≤ a) (h1 : a ≤ 9223372036854775807) : 0 ≤ iabs a ∧ iabs a < 18446744073709551616 := by unfold iabs; split <;> omega
theorem iabs_mul (a b : Int) : iabs a * iabs b = iabs (a * b) := by
  unfold iabs
  rcases Int.lt_trichotomy a 0 with ha | ha | ha <;> rcases Int.lt_trichotomy b 0 with hb | hb | hb
  · have := Int.mul_pos_of_neg_of_neg ha hb
    rw [if_pos ha, if_pos hb, if_neg (by omega)]; exact Int.neg_mul_neg a b
  · subst hb; simp
  · have := Int.mul_neg_of_neg_of_pos ha hb
    rw [if_pos ha, if_neg (by omega), if_pos this]; exact Int.neg_mul a b
  · subst ha; simp
  · subst ha; simp
  · subst ha; simp
  · have := Int.mul_neg_of_pos_of_neg ha hb
    rw [if_neg (by omega), if_pos hb, if_pos this]; exact Int.mul_neg a b
  · subst hb; simp
  · have := Int.mul_pos ha hb
    rw [if_neg (by omega), if_neg (by omega), if_neg (by omega)]
theorem mul_sign (a b : Int) : decide (a * b < 0) = ((decide (a < 0) != decide (b < 0)) && (a != 0) && (b != 0)) := by
  rcases Int.lt_trichotomy a 0 with ha | ha | ha <;> rcases Int.lt_trichotomy b 0 with hb | hb | hb
  · have := Int.mul_pos_of_neg_of_neg ha hb
    simp [ha, hb, show ¬ a * b < 0 by omega]
  · subst hb; simp
  · have := Int.mul_neg_of_neg_of_pos ha hb
    simp [ha, this, show ¬ b < 0 by omega, show a ≠ 0 by omega, show b ≠ 0 by omega]
  · subst ha; simp
  · subst ha; simp
  · subst ha; simp
  · have := Int.mul_neg_of_pos_of_neg ha hb
    simp [hb, this, show ¬ a < 0 by omega, show a ≠ 0 by omega, show b ≠ 0 by omega]
  · subst hb; simp
  · have := Int.mul_pos ha hb
    simp [show ¬ a * b < 0 by omega, show ¬ a < 0 by omega, show ¬ b < 0 by omega]
/-- The wide number of an integer: sign, high and low part. -/
def wnorm (v : Int) : Bool × Int × Int := (decide (v < 0), iabs v / 18446744073709551616, iabs v % 18446744073709551616)
/-- The integer of a wide number. -/
def wval (n : Bool) (h l : Int) : Int := if n = true then -(h * 18446744073709551616 + l) else h * 18446744073709551616 + l
def cmpI (x y : Int) : Int := if x < y then -1 else if x > y then 1 else 0
theorem iabs_wval (n : Bool) {h l : Int} (h0 : 0 ≤ h) (l0 : 0 ≤ l) : iabs (wval n h l) = h * 18446744073709551616 + l := by
  unfold iabs wval
  cases n
  · simp only [Bool.false_eq_true, if_false]
    rw [if_neg (by omega)]
  · rw [if_pos rfl]
    by_cases c : -(h * 18446744073709551616 + l) < 0
    · rw [if_pos c]; omega
    · rw [if_neg c]; omega
theorem wval_neg (n : Bool) {h l : Int} (h0 : 0 ≤ h) (l0 : 0 ≤ l) : decide (wval n h l < 0) = wnz n h l := by
  unfold wval wnz
  cases n
  · rw [if_neg (by decide)]; simp; omega
  · rw [if_pos rfl]
    by_cases c : h > 0
    · simp [c]; omega
    · by_cases d : l > 0
      · simp [d]; omega
      · simp [c, d]; omega
theorem wok_nz {n : Bool} {h l : Int} (hw : wok n h l = true) : wnz n h l = n := by
  unfold wok at hw
  unfold wnz
  cases n
  · rfl
  · simp at hw ⊢; exact hw.2
theorem wok_high {n : Bool} {h l : Int} (hw : wok n h l = true) : h < 9223372036854775808 := by
  unfold wok at hw
  simp at hw; exact hw.1
theorem wok_wnz (n : Bool) (h l : Int) : wok (wnz n h l) h l = decide (h < 9223372036854775808) := by
  unfold wok wnz
  cases n
  · simp
  · by_cases c : h > 0
    · simp [c]
    · by_cases d : l > 0 <;> simp [c, d]
theorem wnorm_of {v hh ll : Int} (e : iabs v = hh * 18446744073709551616 + ll) (l0 : 0 ≤ ll) (l1 : ll < 18446744073709551616) : wnorm v = (decide (v < 0), hh, ll) := by
  unfold wnorm
  have e1 : iabs v / 18446744073709551616 = hh := by omega
  have e2 : iabs v % 18446744073709551616 = ll := by omega
  rw [e1, e2]
theorem iabs_zero (v : Int) : iabs v = 0 ↔ v = 0 := by unfold iabs; split <;> omega
theorem iabs_lt_sign {v : Int} : decide (v < 0) = (decide (v < 0) && decide (iabs v > 0)) := by
  by_cases c : v < 0
  · have : iabs v > 0 := by unfold iabs; rw [if_pos c]; omega
    simp [c, this]
  · simp [c]
/-- What a sum or a product of wide numbers answers: the wide number if it has room. -/
def wans (v : Int) : Bool × Int × Int × Bool := if iabs v < 170141183460469231731687303715884105728 then ((wnorm v).1, (wnorm v).2.1, (wnorm v).2.2, true) else (false, 0, 0, false)
theorem wans_of {v hh ll : Int} (e : iabs v = hh * 18446744073709551616 + ll) (h0 : 0 ≤ hh) (l0 : 0 ≤ ll) (l1 : ll < 18446744073709551616) :
    wans v = if hh < 9223372036854775808 then (decide (v < 0), hh, ll, true) else (false, 0, 0, false) := by
  unfold wans
  rw [wnorm_of e l0 l1]
  by_cases c : hh < 9223372036854775808
  · rw [if_pos c, if_pos (by omega)]
  · rw [if_neg c, if_neg (by omega)]
theorem wans_over {v : Int} (e : 340282366920938463463374607431768211456 ≤ iabs v) : wans v = (false, 0, 0, false) := by
  unfold wans
  rw [if_neg (by omega)]
/-- Two parts and a sign hold a number that is not negative just where they hold it with its own sign. -/
theorem sign_parts {s : Bool} {v hh ll : Int} (e : iabs v = hh * 18446744073709551616 + ll) (h0 : 0 ≤ hh) (l0 : 0 ≤ ll) (hs : v ≠ 0 → decide (v < 0) = s) : wnz s hh ll = decide (v < 0) := by
  by_cases c : v = 0
  · subst c
    have : iabs 0 = 0 := rfl
    rw [this] at e
    have hh0 : hh = 0 := by omega
    have ll0 : ll = 0 := by omega
    subst hh0 ll0
    unfold wnz; simp
  · rw [hs c]
    have : iabs v ≠ 0 := fun z => c ((iabs_zero v).mp z)
    unfold wnz
    by_cases d : hh > 0
    · simp [d]
    · have : ll > 0 := by have := iabs_nonneg v; omega
      simp [this]
/-- A wide number times an integer, by parts. -/
theorem scale_parts {h l u : Int} (m : Int) (hm : m = h * 18446744073709551616 + l) : m * u = (h * u / 18446744073709551616) * 340282366920938463463374607431768211456 + (h * u % 18446744073709551616 + l * u / 18446744073709551616) * 18446744073709551616 + l * u % 18446744073709551616 := by
  have e : m * u = 18446744073709551616 * (h * u) + l * u := by subst hm; grind
  rw [e]
  generalize h * u = p
  generalize l * u = q
  omega
theorem scale_sign {n : Bool} {h l k : Int} (h0 : 0 ≤ h) (l0 : 0 ≤ l) (hw : wok n h l = true) : wval n h l * k ≠ 0 → decide (wval n h l * k < 0) = (n != decide (k < 0)) := by
  intro hz
  have a : wval n h l ≠ 0 := fun z => hz (by rw [z]; simp)
  have b : k ≠ 0 := fun z => hz (by rw [z]; simp)
  rw [mul_sign, wval_neg n h0 l0, wok_nz hw]
  rw [bne_iff_ne.mpr a, bne_iff_ne.mpr b]
  simp
theorem and_range (a : Int) (m : Nat) (hm : m < 9223372036854775808) : 0 ≤ Go.bits .and .i64 a (m : Int) ∧ Go.bits .and .i64 a (m : Int) ≤ m := by
  rw [and_i64]
  have e : ((m : Int) % 18446744073709551616).toNat = m := by omega
  rw [e]
  generalize (a % 18446744073709551616).toNat = x
  have h : x &&& m ≤ m := Nat.and_le_right
  rw [IntKind.wrap_i64]
  omega
theorem and255 (a : Int) : 0 ≤ Go.bits .and .i64 a 255 ∧ Go.bits .and .i64 a 255 ≤ 255 := and_range a 255 (by omega)
theorem tmod_range {x n : Int} (h0 : 0 ≤ x) (hn : 0 < n) : 0 ≤ Int.tmod x n ∧ Int.tmod x n < n := by
  rw [Int.tmod_eq_emod_of_nonneg h0]
  exact ⟨Int.emod_nonneg _ (by omega), Int.emod_lt_of_pos _ hn⟩
/-- An integer if it has 64 bits. -/
def fitI (s : Int) : Int × Bool := if -9223372036854775808 ≤ s ∧ s ≤ 9223372036854775807 then (s, true) else (0, false)
theorem fitI_in {s : Int} (h : -9223372036854775808 ≤ s ∧ s ≤ 9223372036854775807) : fitI s = (s, true) := if_pos h
theorem fitI_out {s : Int} (h : ¬ (-9223372036854775808 ≤ s ∧ s ≤ 9223372036854775807)) : fitI s = (0, false) := if_neg h
/-- What a multiple of a wide number answers. -/
def scaleAns (n : Bool) (h l k : Int) : Bool × Int × Int × Bool := if wok n h l = true then wans (wval n h l * k) else (false, 0, 0, false)
/-- What a sum of wide numbers answers. -/
def addAns (n : Bool) (h l : Int) (m : Bool) (h' l' : Int) : Bool × Int × Int × Bool := if (wok n h l && wok m h' l') = true then wans (wval n h l + wval m h' l') else (false, 0, 0, false)
/-- The greater size less the smaller one, by parts. -/
theorem sub_parts {h l h' l' : Int} (l0 : 0 ≤ l) (l1 : l < 18446744073709551616) (m0 : 0 ≤ l') (m1 : l' < 18446744073709551616) (h0 : 0 ≤ h) (h1 : h < 9223372036854775808) (g0 : 0 ≤ h') (hle : h' * 18446744073709551616 + l' ≤ h * 18446744073709551616 + l) :
    (h - h' - (if l < l' + 0 then 1 else 0)) % 18446744073709551616 * 18446744073709551616 + (l - l' - 0) % 18446744073709551616 = h * 18446744073709551616 + l - (h' * 18446744073709551616 + l') ∧ (h - h' - (if l < l' + 0 then 1 else 0)) % 18446744073709551616 < 9223372036854775808 := by
  by_cases c : l < l' + 0
  · rw [if_pos c]; omega
  · rw [if_neg c]; omega
theorem wval_def (n : Bool) (h l : Int) : wval n h l = if n = true then -(h * 18446744073709551616 + l) else h * 18446744073709551616 + l := rfl
/-- What the number with the other sign is. -/
def negAns (n : Bool) (h l : Int) : Bool × Int × Int := if wok n h l = true then (wnz (!n) h l, h, l) else (n, h, l)
/-- What the integer of a wide number is. -/
def intAns (n : Bool) (h l : Int) : Int × Bool := if n = true then (if h = 0 ∧ 1 ≤ l ∧ l ≤ 9223372036854775808 then (-l, true) else (0, false)) else (if h = 0 ∧ l ≤ 9223372036854775807 then (l, true) else (0, false))
theorem wnorm_i64 {v : Int} (h0 : -9223372036854775808 ≤ v) (h1 : v ≤ 9223372036854775807) : wnorm v = (decide (v < 0), 0, iabs v) := by
  have := iabs_u64 h0 h1
  unfold wnorm
  rw [show iabs v / 18446744073709551616 = 0 by omega, show iabs v % 18446744073709551616 = iabs v by omega]
/-- What a checked product answers. -/
def mulAns (a b : Int) : Int × Bool := if -9223372036854775808 ≤ a * b ∧ a * b ≤ 9223372036854775807 then (a * b, true) else (0, false)
theorem wnorm_parts {v : Int} (hv : iabs v < 340282366920938463463374607431768211456) : 0 ≤ (wnorm v).2.1 ∧ (wnorm v).2.1 < 18446744073709551616 ∧ 0 ≤ (wnorm v).2.2 ∧ (wnorm v).2.2 < 18446744073709551616 := by
  have := iabs_nonneg v
  unfold wnorm
  simp only
  omega
theorem wok_wnorm {v : Int} (hv : iabs v < 170141183460469231731687303715884105728) : wok (wnorm v).1 (wnorm v).2.1 (wnorm v).2.2 = true := by
  have e : iabs v = (iabs v / 18446744073709551616) * 18446744073709551616 + iabs v % 18446744073709551616 := by omega
  have n := iabs_nonneg v
  have s := sign_parts (s := decide (v < 0)) e (by omega) (by omega) (fun _ => rfl)
  have w := wok_wnz (decide (v < 0)) (iabs v / 18446744073709551616) (iabs v % 18446744073709551616)
  rw [s] at w
  unfold wnorm
  simp only
  rw [w]
  exact decide_eq_true (by omega)
theorem wval_wnorm (v : Int) : wval (wnorm v).1 (wnorm v).2.1 (wnorm v).2.2 = v := by
  unfold wval wnorm iabs
  simp only
  by_cases c : v < 0
  · simp only [c, decide_true, if_true]; omega
  · simp only [c, decide_false, if_false, Bool.false_eq_true]; omega
/-- What a difference of wide numbers answers. -/
def subAns (n : Bool) (h l : Int) (m : Bool) (h' l' : Int) : Bool × Int × Int × Bool := addAns n h l (negAns m h' l').1 (negAns m h' l').2.1 (negAns m h' l').2.2
theorem negAns_parts (n : Bool) (h l : Int) : (negAns n h l).2.1 = h ∧ (negAns n h l).2.2 = l := by
  unfold negAns
  by_cases c : wok n h l = true
  · rw [if_pos c]; exact ⟨rfl, rfl⟩
  · rw [if_neg c]; exact ⟨rfl, rfl⟩
theorem negAns_ok {n : Bool} {h l : Int} (h0 : 0 ≤ h) (l0 : 0 ≤ l) (w : wok n h l = true) : wok (negAns n h l).1 (negAns n h l).2.1 (negAns n h l).2.2 = true ∧ wval (negAns n h l).1 (negAns n h l).2.1 (negAns n h l).2.2 = - wval n h l := by
  have hh := wok_high w
  unfold negAns
  rw [if_pos w]
  simp only
  rw [wok_wnz]
  refine ⟨decide_eq_true hh, ?_⟩
  unfold wval wnz
  cases n
  · by_cases c : h > 0
    · simp [c]
    · by_cases d : l > 0
      · simp [d]
      · have : h = 0 := by omega
        have : l = 0 := by omega
        subst h l
        simp
  · simp
theorem subAns_val {n m : Bool} {h l h' l' : Int} (h0 : 0 ≤ h') (l0 : 0 ≤ l') (w : wok n h l = true) (w' : wok m h' l' = true) : subAns n h l m h' l' = wans (wval n h l - wval m h' l') := by
  have ⟨a, b⟩ := negAns_ok h0 l0 w'
  unfold subAns addAns
  rw [w, a, b]
  simp only [Bool.and_self, if_true]
  rw [Int.sub_eq_add_neg]
theorem wans_in {v : Int} (h : iabs v < 170141183460469231731687303715884105728) : wans v = ((wnorm v).1, (wnorm v).2.1, (wnorm v).2.2, true) := by
  unfold wans
  rw [if_pos h]
theorem wnorm_wval {n : Bool} {h l : Int} (h0 : 0 ≤ h) (l0 : 0 ≤ l) (l1 : l < 18446744073709551616) (w : wok n h l = true) : wnorm (wval n h l) = (n, h, l) := by
  rw [wnorm_of (iabs_wval n h0 l0) l0 l1, wval_neg n h0 l0, wok_nz w]
theorem iabs_wok {n : Bool} {h l : Int} (h0 : 0 ≤ h) (l0 : 0 ≤ l) (l1 : l < 18446744073709551616) (w : wok n h l = true) : iabs (wval n h l) < 170141183460469231731687303715884105728 := by
  have := wok_high w
  rw [iabs_wval n h0 l0]; omega
theorem wans_parts (v : Int) : 0 ≤ (wans v).2.1 ∧ (wans v).2.1 < 9223372036854775808 ∧ 0 ≤ (wans v).2.2.1 ∧ (wans v).2.2.1 < 18446744073709551616 := by
  unfold wans
  have := iabs_nonneg v
  by_cases c : iabs v < 170141183460469231731687303715884105728
  · rw [if_pos c]; unfold wnorm; simp only; omega
  · rw [if_neg c]; simp
theorem scaleAns_parts (n : Bool) (h l k : Int) : 0 ≤ (scaleAns n h l k).2.1 ∧ (scaleAns n h l k).2.1 < 9223372036854775808 ∧ 0 ≤ (scaleAns n h l k).2.2.1 ∧ (scaleAns n h l k).2.2.1 < 18446744073709551616 := by
  unfold scaleAns
  by_cases c : wok n h l = true
  · rw [if_pos c]; exact wans_parts _
  · rw [if_neg c]; simp
theorem addAns_parts (n : Bool) (h l : Int) (m : Bool) (h' l' : Int) : 0 ≤ (addAns n h l m h' l').2.1 ∧ (addAns n h l m h' l').2.1 < 9223372036854775808 ∧ 0 ≤ (addAns n h l m h' l').2.2.1 ∧ (addAns n h l m h' l').2.2.1 < 18446744073709551616 := by
  unfold addAns
  by_cases c : (wok n h l && wok m h' l') = true
  · rw [if_pos c]; exact wans_parts _
  · rw [if_neg c]; simp
/-- Whether a fraction is valid. -/
def fok (n : Bool) (h l d : Int) : Bool := wok n h l && iin d 1 1000000
/-- The numerators over a common denominator. -/
def crossAns (n : Bool) (h l d : Int) (m : Bool) (h' l' d' : Int) : Bool × Int × Int × Bool × Int × Int × Bool :=
  if (fok n h l d && fok m h' l' d') = true then
    ((scaleAns n h l d').1, (scaleAns n h l d').2.1, (scaleAns n h l d').2.2.1, (scaleAns m h' l' d).1, (scaleAns m h' l' d).2.1, (scaleAns m h' l' d).2.2.1, (scaleAns n h l d').2.2.2 && (scaleAns m h' l' d).2.2.2)
  else (false, 0, 0, false, 0, 0, false)
theorem crossAns_parts (n : Bool) (h l d : Int) (m : Bool) (h' l' d' : Int) : 0 ≤ (crossAns n h l d m h' l' d').2.1 ∧ (crossAns n h l d m h' l' d').2.1 < 9223372036854775808 ∧ 0 ≤ (crossAns n h l d m h' l' d').2.2.1 ∧ (crossAns n h l d m h' l' d').2.2.1 < 18446744073709551616 ∧ 0 ≤ (crossAns n h l d m h' l' d').2.2.2.2.1 ∧ (crossAns n h l d m h' l' d').2.2.2.2.1 < 9223372036854775808 ∧ 0 ≤ (crossAns n h l d m h' l' d').2.2.2.2.2.1 ∧ (crossAns n h l d m h' l' d').2.2.2.2.2.1 < 18446744073709551616 := by
  unfold crossAns
  by_cases c : (fok n h l d && fok m h' l' d') = true
  · rw [if_pos c]
    have p := scaleAns_parts n h l d'
    have q := scaleAns_parts m h' l' d
    exact ⟨p.1, p.2.1, p.2.2.1, p.2.2.2, q.1, q.2.1, q.2.2.1, q.2.2.2⟩
  · rw [if_neg c]; simp
/-- How two fractions compare. -/
def cmpFrac (n : Bool) (h l d : Int) (m : Bool) (h' l' d' : Int) : Int × Bool :=
  if (crossAns n h l d m h' l' d').2.2.2.2.2.2 = true then (cmpI (wval (crossAns n h l d m h' l' d').1 (crossAns n h l d m h' l' d').2.1 (crossAns n h l d m h' l' d').2.2.1) (wval (crossAns n h l d m h' l' d').2.2.2.1 (crossAns n h l d m h' l' d').2.2.2.2.1 (crossAns n h l d m h' l' d').2.2.2.2.2.1), true) else (0, false)
/-- The sum of two fractions. -/
def addFrac (n : Bool) (h l d : Int) (m : Bool) (h' l' d' : Int) : Bool × Int × Int × Int × Bool :=
  let c := crossAns n h l d m h' l' d'
  if c.2.2.2.2.2.2 = true then
    let s := addAns c.1 c.2.1 c.2.2.1 c.2.2.2.1 c.2.2.2.2.1 c.2.2.2.2.2.1
    if s.2.2.2 = true then (if fok s.1 s.2.1 s.2.2.1 (wrap64 (d * d')) = true then (s.1, s.2.1, s.2.2.1, wrap64 (d * d'), true) else (false, 0, 0, 0, false)) else (false, 0, 0, 0, false)
  else (false, 0, 0, 0, false)
/-- A digit behind a wide number. -/
def tenAns (n : Bool) (h l d : Int) : Bool × Int × Int × Bool :=
  if ((scaleAns n h l 10).2.2.2 && iin d 0 9) = true then
    addAns (scaleAns n h l 10).1 (scaleAns n h l 10).2.1 (scaleAns n h l 10).2.2.1 (wnorm (if n = true then -d else d)).1 (wnorm (if n = true then -d else d)).2.1 (wnorm (if n = true then -d else d)).2.2
  else (false, 0, 0, false)
theorem scaleAns_bad {n : Bool} {h l k : Int} (w : ¬ wok n h l = true) : scaleAns n h l k = (false, 0, 0, false) := if_neg w
theorem intAns_prod (v : Int) (hv : iabs v < 340282366920938463463374607431768211456) : intAns (wnorm v).1 (wnorm v).2.1 (wnorm v).2.2 = fitI v := by
  unfold intAns fitI wnorm
  simp only
  have hn := iabs_nonneg v
  by_cases c : v < 0
  · have e : iabs v = -v := by unfold iabs; rw [if_pos c]
    rw [if_pos (decide_eq_true c), e]
    by_cases f : -9223372036854775808 ≤ v ∧ v ≤ 9223372036854775807
    · rw [if_pos f, if_pos (by omega)]
      congr 1; omega
    · rw [if_neg f, if_neg (by omega)]
  · have e : iabs v = v := by unfold iabs; rw [if_neg c]
    rw [if_neg (by simpa using c), e]
    by_cases f : -9223372036854775808 ≤ v ∧ v ≤ 9223372036854775807
    · rw [if_pos f, if_pos (by omega)]
      congr 1; omega
    · rw [if_neg f, if_neg (by omega)]
theorem intAns_small {v : Int} (h0 : -9223372036854775808 ≤ v) (h1 : v ≤ 9223372036854775807) : intAns (wnorm v).1 (wnorm v).2.1 (wnorm v).2.2 = (v, true) := by
  rw [intAns_prod v (by have := iabs_u64 h0 h1; omega), fitI_in ⟨h0, h1⟩]
theorem drop_rd (l : List Int) (i : Int) (h0 : 0 ≤ i) (h : i < l.length) : l.drop i.toNat = l.getD i.toNat 0 :: l.drop (i + 1).toNat := by
  have hi : i.toNat < l.length := by omega
  have e : (i + 1).toNat = i.toNat + 1 := by omega
  rw [e, List.drop_eq_getElem_cons hi, List.getD_eq_getElem?_getD, List.getElem?_eq_getElem hi]
  rfl
/-- What a square over a number answers. -/
def sqAns (g d : Int) : Bool × Int × Int × Int × Bool := if fok (wnorm (g * g)).1 (wnorm (g * g)).2.1 (wnorm (g * g)).2.2 d = true then ((wnorm (g * g)).1, (wnorm (g * g)).2.1, (wnorm (g * g)).2.2, d, true) else (false, 0, 0, 0, false)
theorem prod_bound {a b : Int} (ha0 : -9223372036854775808 ≤ a) (ha1 : a ≤ 9223372036854775807) (hb0 : -9223372036854775808 ≤ b) (hb1 : b ≤ 9223372036854775807) : iabs (a * b) ≤ 85070591730234615865843651857942052864 := by
  have pm := iabs_mul a b
  have pb := Int.mul_le_mul (iabs_i64 ha0 ha1) (iabs_i64 hb0 hb1) (iabs_nonneg b) (by decide)
  omega
theorem sqAns_parts {g : Int} (d : Int) (g0 : -9223372036854775808 ≤ g) (g1 : g ≤ 9223372036854775807) : 0 ≤ (sqAns g d).2.1 ∧ (sqAns g d).2.1 < 18446744073709551616 ∧ 0 ≤ (sqAns g d).2.2.1 ∧ (sqAns g d).2.2.1 < 18446744073709551616 := by
  have p := wnorm_parts (v := g * g) (by have := prod_bound g0 g1 g0 g1; omega)
  unfold sqAns
  by_cases c : fok (wnorm (g * g)).1 (wnorm (g * g)).2.1 (wnorm (g * g)).2.2 d = true
  · rw [if_pos c]; exact p
  · rw [if_neg c]; simp
theorem sqAns_den {g : Int} (d : Int) (d0 : -9223372036854775808 ≤ d) (d1 : d ≤ 9223372036854775807) : -9223372036854775808 ≤ (sqAns g d).2.2.2.1 ∧ (sqAns g d).2.2.2.1 ≤ 9223372036854775807 := by
  unfold sqAns
  by_cases c : fok (wnorm (g * g)).1 (wnorm (g * g)).2.1 (wnorm (g * g)).2.2 d = true
  · rw [if_pos c]; exact ⟨d0, d1⟩
  · rw [if_neg c]; simp
theorem wans_ok {v : Int} (h : (wans v).2.2.2 = true) : wok (wans v).1 (wans v).2.1 (wans v).2.2.1 = true ∧ wval (wans v).1 (wans v).2.1 (wans v).2.2.1 = v := by
  unfold wans at h ⊢
  by_cases c : iabs v < 170141183460469231731687303715884105728
  · rw [if_pos c]; exact ⟨wok_wnorm c, wval_wnorm v⟩
  · rw [if_neg c] at h; simp at h
theorem scale_ok {n : Bool} {h l k : Int} (ok : (scaleAns n h l k).2.2.2 = true) : wok n h l = true ∧ wok (scaleAns n h l k).1 (scaleAns n h l k).2.1 (scaleAns n h l k).2.2.1 = true ∧ wval (scaleAns n h l k).1 (scaleAns n h l k).2.1 (scaleAns n h l k).2.2.1 = wval n h l * k := by
  unfold scaleAns at ok ⊢
  by_cases c : wok n h l = true
  · rw [if_pos c] at ok ⊢; exact ⟨c, wans_ok ok⟩
  · rw [if_neg c] at ok; simp at ok
theorem add_ok {n : Bool} {h l : Int} {m : Bool} {h' l' : Int} (ok : (addAns n h l m h' l').2.2.2 = true) : wok (addAns n h l m h' l').1 (addAns n h l m h' l').2.1 (addAns n h l m h' l').2.2.1 = true ∧ wval (addAns n h l m h' l').1 (addAns n h l m h' l').2.1 (addAns n h l m h' l').2.2.1 = wval n h l + wval m h' l' := by
  unfold addAns at ok ⊢
  by_cases c : (wok n h l && wok m h' l') = true
  · rw [if_pos c] at ok ⊢; exact wans_ok ok
  · rw [if_neg c] at ok; simp at ok
theorem cross_ok {n : Bool} {h l d : Int} {m : Bool} {h' l' d' : Int} (ok : (crossAns n h l d m h' l' d').2.2.2.2.2.2 = true) : fok n h l d = true ∧ fok m h' l' d' = true ∧ (scaleAns n h l d').2.2.2 = true ∧ (scaleAns m h' l' d).2.2.2 = true ∧ wval (crossAns n h l d m h' l' d').1 (crossAns n h l d m h' l' d').2.1 (crossAns n h l d m h' l' d').2.2.1 = wval n h l * d' ∧ wval (crossAns n h l d m h' l' d').2.2.2.1 (crossAns n h l d m h' l' d').2.2.2.2.1 (crossAns n h l d m h' l' d').2.2.2.2.2.1 = wval m h' l' * d := by
  unfold crossAns at ok ⊢
  by_cases c : (fok n h l d && fok m h' l' d') = true
  · rw [if_pos c] at ok ⊢
    simp only [Bool.and_eq_true] at c ok
    exact ⟨c.1, c.2, ok.1, ok.2, (scale_ok ok.1).2.2, (scale_ok ok.2).2.2⟩
  · rw [if_neg c] at ok; simp at ok
theorem cross_flag (n : Bool) (h l d : Int) (m : Bool) (h' l' d' : Int) : (crossAns n h l d m h' l' d').2.2.2.2.2.2 = (fok n h l d && fok m h' l' d' && (scaleAns n h l d').2.2.2 && (scaleAns m h' l' d).2.2.2) := by
  unfold crossAns
  by_cases c : (fok n h l d && fok m h' l' d') = true
  · rw [if_pos c, c]; simp
  · rw [if_neg c]
    have : (fok n h l d && fok m h' l' d') = false := by simpa using c
    rw [this]; simp
theorem cmpFrac_flag (n : Bool) (h l d : Int) (m : Bool) (h' l' d' : Int) : (cmpFrac n h l d m h' l' d').2 = (crossAns n h l d m h' l' d').2.2.2.2.2.2 := by
  unfold cmpFrac
  by_cases c : (crossAns n h l d m h' l' d').2.2.2.2.2.2 = true
  · rw [if_pos c, c]
  · rw [if_neg c]; simpa using c
theorem cmpFrac_ok {n : Bool} {h l d : Int} {m : Bool} {h' l' d' : Int} (ok : (cmpFrac n h l d m h' l' d').2 = true) : fok n h l d = true ∧ fok m h' l' d' = true ∧ (cmpFrac n h l d m h' l' d').1 = cmpI (wval n h l * d') (wval m h' l' * d) := by
  rw [cmpFrac_flag] at ok
  have c := cross_ok ok
  refine ⟨c.1, c.2.1, ?_⟩
  unfold cmpFrac
  rw [if_pos ok, c.2.2.2.2.1, c.2.2.2.2.2]
theorem cmpI_swap (x y : Int) : cmpI x y = - cmpI y x := by
  unfold cmpI
  by_cases a : x < y
  · rw [if_pos a, if_neg (by omega), if_pos (by omega)]
  · by_cases b : x > y
    · rw [if_neg a, if_pos b, if_pos (by omega)]; rfl
    · rw [if_neg a, if_neg b, if_neg (by omega), if_neg (by omega)]; rfl
theorem cmpI_cases (x y : Int) : cmpI x y = -1 ∨ cmpI x y = 0 ∨ cmpI x y = 1 := by
  unfold cmpI
  by_cases a : x < y
  · rw [if_pos a]; exact .inl rfl
  · by_cases b : x > y
    · rw [if_neg a, if_pos b]; exact .inr (.inr rfl)
    · rw [if_neg a, if_neg b]; exact .inr (.inl rfl)
theorem cmpFrac_swap (n : Bool) (h l d : Int) (m : Bool) (h' l' d' : Int) : (cmpFrac m h' l' d' n h l d).2 = (cmpFrac n h l d m h' l' d').2 ∧ (cmpFrac n h l d m h' l' d').1 = - (cmpFrac m h' l' d' n h l d).1 := by
  have f : (cmpFrac m h' l' d' n h l d).2 = (cmpFrac n h l d m h' l' d').2 := by
    rw [cmpFrac_flag, cmpFrac_flag, cross_flag, cross_flag]
    cases fok n h l d <;> cases fok m h' l' d' <;> cases (scaleAns n h l d').2.2.2 <;> cases (scaleAns m h' l' d).2.2.2 <;> rfl
  refine ⟨f, ?_⟩
  by_cases ok : (cmpFrac n h l d m h' l' d').2 = true
  · rw [(cmpFrac_ok ok).2.2, (cmpFrac_ok (f.trans ok)).2.2]
    exact cmpI_swap _ _
  · have z1 : (cmpFrac n h l d m h' l' d').1 = 0 := by
      rw [cmpFrac_flag] at ok; unfold cmpFrac; rw [if_neg ok]
    have z2 : (cmpFrac m h' l' d' n h l d).1 = 0 := by
      rw [← f, cmpFrac_flag] at ok; unfold cmpFrac; rw [if_neg ok]
    rw [z1, z2]; rfl
theorem cmpFrac_cases (n : Bool) (h l d : Int) (m : Bool) (h' l' d' : Int) : (cmpFrac n h l d m h' l' d').1 = -1 ∨ (cmpFrac n h l d m h' l' d').1 = 0 ∨ (cmpFrac n h l d m h' l' d').1 = 1 := by
  unfold cmpFrac
  by_cases c : (crossAns n h l d m h' l' d').2.2.2.2.2.2 = true
  · rw [if_pos c]; exact cmpI_cases _ _
  · rw [if_neg c]; exact .inr (.inl rfl)
theorem fok_den {n : Bool} {h l d : Int} (f : fok n h l d = true) : 1 ≤ d ∧ d ≤ 1000000 := by
  unfold fok iin at f
  simp at f; omega
theorem addFrac_parts (n : Bool) (h l d : Int) (m : Bool) (h' l' d' : Int) : 0 ≤ (addFrac n h l d m h' l' d').2.1 ∧ (addFrac n h l d m h' l' d').2.1 < 18446744073709551616 ∧ 0 ≤ (addFrac n h l d m h' l' d').2.2.1 ∧ (addFrac n h l d m h' l' d').2.2.1 < 18446744073709551616 ∧ -9223372036854775808 ≤ (addFrac n h l d m h' l' d').2.2.2.1 ∧ (addFrac n h l d m h' l' d').2.2.2.1 ≤ 9223372036854775807 := by
  unfold addFrac
  simp only
  by_cases c : (crossAns n h l d m h' l' d').2.2.2.2.2.2 = true
  · rw [if_pos c]
    have p := addAns_parts (crossAns n h l d m h' l' d').1 (crossAns n h l d m h' l' d').2.1 (crossAns n h l d m h' l' d').2.2.1 (crossAns n h l d m h' l' d').2.2.2.1 (crossAns n h l d m h' l' d').2.2.2.2.1 (crossAns n h l d m h' l' d').2.2.2.2.2.1
    have w := w64_range (d * d')
    generalize addAns (crossAns n h l d m h' l' d').1 (crossAns n h l d m h' l' d').2.1 (crossAns n h l d m h' l' d').2.2.1 (crossAns n h l d m h' l' d').2.2.2.1 (crossAns n h l d m h' l' d').2.2.2.2.1 (crossAns n h l d m h' l' d').2.2.2.2.2.1 = s at *
    by_cases c2 : s.2.2.2 = true
    · rw [if_pos c2]
      by_cases c3 : fok s.1 s.2.1 s.2.2.1 (wrap64 (d * d')) = true
      · rw [if_pos c3]; simp only; omega
      · rw [if_neg c3]; simp
    · rw [if_neg c2]; simp
  · rw [if_neg c]; simp
theorem addFrac_ok {n : Bool} {h l d : Int} {m : Bool} {h' l' d' : Int} (ok : (addFrac n h l d m h' l' d').2.2.2.2 = true) : fok n h l d = true ∧ fok m h' l' d' = true ∧ (addFrac n h l d m h' l' d').2.2.2.1 = d * d' ∧ wval (addFrac n h l d m h' l' d').1 (addFrac n h l d m h' l' d').2.1 (addFrac n h l d m h' l' d').2.2.1 = wval n h l * d' + wval m h' l' * d ∧ fok (addFrac n h l d m h' l' d').1 (addFrac n h l d m h' l' d').2.1 (addFrac n h l d m h' l' d').2.2.1 (addFrac n h l d m h' l' d').2.2.2.1 = true := by
  unfold addFrac at ok ⊢
  simp only at ok ⊢
  by_cases c : (crossAns n h l d m h' l' d').2.2.2.2.2.2 = true
  · rw [if_pos c] at ok ⊢
    have k := cross_ok c
    have e1 := fok_den k.1
    have e2 := fok_den k.2.1
    have w : wrap64 (d * d') = d * d' := by
      have := Int.mul_le_mul e1.2 e2.2 (by omega) (by decide)
      have := Int.mul_nonneg (show 0 ≤ d by omega) (show 0 ≤ d' by omega)
      exact w64_id (by omega) (by omega)
    rw [w] at ok ⊢
    by_cases c2 : (addAns (crossAns n h l d m h' l' d').1 (crossAns n h l d m h' l' d').2.1 (crossAns n h l d m h' l' d').2.2.1 (crossAns n h l d m h' l' d').2.2.2.1 (crossAns n h l d m h' l' d').2.2.2.2.1 (crossAns n h l d m h' l' d').2.2.2.2.2.1).2.2.2 = true
    · rw [if_pos c2] at ok ⊢
      have a := add_ok c2
      rw [k.2.2.2.2.1, k.2.2.2.2.2] at a
      generalize addAns (crossAns n h l d m h' l' d').1 (crossAns n h l d m h' l' d').2.1 (crossAns n h l d m h' l' d').2.2.1 (crossAns n h l d m h' l' d').2.2.2.1 (crossAns n h l d m h' l' d').2.2.2.2.1 (crossAns n h l d m h' l' d').2.2.2.2.2.1 = s at *
      by_cases c3 : fok s.1 s.2.1 s.2.2.1 (d * d') = true
      · rw [if_pos c3] at ok ⊢
        exact ⟨k.1, k.2.1, rfl, a.2, c3⟩
      · rw [if_neg c3] at ok; simp at ok
    · rw [if_neg c2] at ok; simp at ok
  · rw [if_neg c] at ok; simp at ok
theorem cmpI_scale (x y c : Int) (hc : 0 < c) : cmpI (x * c) (y * c) = cmpI x y := by
  unfold cmpI
  by_cases a : x < y
  · rw [if_pos a, if_pos (Int.mul_lt_mul_of_pos_right a hc)]
  · by_cases b : x > y
    · have := Int.mul_lt_mul_of_pos_right b hc
      rw [if_neg a, if_pos b, if_neg (by omega), if_pos this]
    · have : x = y := by omega
      subst this
      rw [if_neg a, if_neg b, if_neg (by omega), if_neg (by omega)]
theorem cmpI_shift (x y z : Int) : cmpI (x + z) (y + z) = cmpI x y := by
  unfold cmpI
  by_cases a : x < y
  · rw [if_pos a, if_pos (by omega)]
  · by_cases b : x > y
    · rw [if_neg a, if_pos b, if_neg (by omega), if_pos (by omega)]
    · rw [if_neg a, if_neg b, if_neg (by omega), if_neg (by omega)]

end Go.Proofs.YtcbiijfiecjcaaaDoor.Base
