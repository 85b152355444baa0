/- The text of a fraction: program and reference give the same bytes. Conditions: each number is one of its kind, as the row says. -/
import Derived.Test.YtpcglglfegkdaaaDoorPFnExactFracTextx
import Derived.Test.YtpcglglfegkdaaaDoorBase
set_option linter.unusedSimpArgs false
set_option linter.unusedVariables false
namespace Go.Proofs.YtpcglglfegkdaaaDoor.Pure
open Go.RowKit Go.Proofs.YtpcglglfegkdaaaDoor.Base Go.Proofs.YtpcglglfegkdaaaDoor.PFnExactFracText Go.Proofs.YtpcglglfegkdaaaDoorW.PrintWords Go.Proofs.YtpcglglfegkdaaaDoorW.PrintLast Go.Proofs.YtpcglglfegkdaaaDoorW.PrintMore

theorem wu (n : Int) : IntKind.u64.wrap n = n % 18446744073709551616 := wu64 n
theorem leadingZeros_chunk : bits_LeadingZeros64.f 10000000000000000000 = some 0 := by
  unfold bits_LeadingZeros64.f bits_Len64.f
  have e : Go.Lib.bitLen (10000000000000000000 : Int).toNat = 64 := by decide +kernel
  rw [if_pos (by omega), e]
  show some (wrap64 (64 - ((64 : Nat) : Int))) = some 0
  rw [w64_id (by omega) (by omega)]; rfl
theorem div_stage1 (h u1 u0 : Int) (h0 : 0 ≤ h) (h1 : h < 10000000000000000000) (a0 : 0 ≤ u1) (a1 : u1 < 4294967296) (d : Nat) : ∀ (k : Nat) (q r : Int), (h * 4294967296 + u1) / 10000000000000000000 ≤ q → q ≤ 4294967297 → 0 ≤ r → r < 4294967296 → r = h - q * 2328306436 → 4294967296 ≤ r + d * 2328306436 → 2 * d < k →
    ∃ k', k ≤ k' + 2 * d + 2 ∧ bits_Div64.l0 k 10000000000000000000 0 2328306436 2313682944 h u1 u0 q r = bits_Div64.j2 k' 10000000000000000000 0 2328306436 2313682944 h u1 u0 ((h * 4294967296 + u1) / 10000000000000000000) := by
  induction d with
  | zero => intro k q r _ _ _ hr _ hd; omega
  | succ d ih =>
    intro k q r hq hq2 r0 r1 hr hd hk
    obtain ⟨k, rfl⟩ : ∃ m, k = m + 2 := ⟨k - 2, by omega⟩
    have eq1 : IntKind.u64.wrap (q * 2313682944) = q * 2313682944 := by rw [wu]; omega
    have eq2 : IntKind.u64.wrap (IntKind.u64.wrap (4294967296 * r) + u1) = 4294967296 * r + u1 := by rw [wu, wu]; omega
    have eq3 : IntKind.u64.wrap (r + 2328306436) = r + 2328306436 := by rw [wu]; omega
    have down : ((h * 4294967296 + u1) / 10000000000000000000 < q) → ∃ k', k + 2 ≤ k' + 2 * (d + 1) + 2 ∧ bits_Div64.j1 (k + 1) 10000000000000000000 0 2328306436 2313682944 h u1 u0 q r true = bits_Div64.j2 k' 10000000000000000000 0 2328306436 2313682944 h u1 u0 ((h * 4294967296 + u1) / 10000000000000000000) := by
      intro hlt
      have eq4 : IntKind.u64.wrap (q - 1) = q - 1 := by rw [wu]; omega
      simp only [bits_Div64.j1]
      rw [if_pos trivial, eq3, eq4]
      by_cases c : r + 2328306436 ≥ 4294967296
      · rw [if_pos c]
        have e : q - 1 = (h * 4294967296 + u1) / 10000000000000000000 := by omega
        rw [e]
        exact ⟨k, by omega, rfl⟩
      · rw [if_neg c]
        obtain ⟨k', hk', e⟩ := ih k (q - 1) (r + 2328306436) (by omega) (by omega) (by omega) (by omega) (by omega) (by omega) (by omega)
        exact ⟨k', by omega, e⟩
    rw [show k + 2 = (k + 1) + 1 from rfl]
    simp only [bits_Div64.l0]
    by_cases c1 : q ≥ 4294967296
    · rw [if_pos c1]
      exact down (by omega)
    · rw [if_neg c1, eq1, eq2]
      by_cases c2 : q * 2313682944 > 4294967296 * r + u1
      · rw [decide_eq_true c2]
        exact down (by omega)
      · rw [decide_eq_false c2]
        simp only [bits_Div64.j1]
        rw [if_neg (by decide)]
        have e : q = (h * 4294967296 + u1) / 10000000000000000000 := by omega
        rw [← e]
        exact ⟨k, by omega, rfl⟩
theorem div_stage2 (h u0 t : Int) (h0 : 0 ≤ h) (h1 : h < 10000000000000000000) (a0 : 0 ≤ u0) (a1 : u0 < 4294967296) (d : Nat) : ∀ (k : Nat) (q r : Int), (h * 4294967296 + u0) / 10000000000000000000 ≤ q → q ≤ 4294967297 → 0 ≤ r → r < 4294967296 → r = h - q * 2328306436 → 4294967296 ≤ r + d * 2328306436 → 2 * d < k →
    bits_Div64.l1 k 10000000000000000000 0 2328306436 2313682944 u0 t r h q = some (IntKind.u64.wrap (IntKind.u64.wrap (t * 4294967296) + (h * 4294967296 + u0) / 10000000000000000000), (h * 4294967296 + u0) % 10000000000000000000) := by
  induction d with
  | zero => intro k q r _ _ _ hr _ hd; omega
  | succ d ih =>
    intro k q r hq hq2 r0 r1 hr hd hk
    obtain ⟨k, rfl⟩ : ∃ m, k = m + 2 := ⟨k - 2, by omega⟩
    have eq1 : IntKind.u64.wrap (q * 2313682944) = q * 2313682944 := by rw [wu]; omega
    have eq2 : IntKind.u64.wrap (IntKind.u64.wrap (4294967296 * r) + u0) = 4294967296 * r + u0 := by rw [wu, wu]; omega
    have eq3 : IntKind.u64.wrap (r + 2328306436) = r + 2328306436 := by rw [wu]; omega
    have fin : ∀ z : Int, z = (h * 4294967296 + u0) / 10000000000000000000 → shr .u64 (IntKind.u64.wrap (IntKind.u64.wrap (IntKind.u64.wrap (h * 4294967296) + u0) - IntKind.u64.wrap (z * 10000000000000000000))) 0 = (h * 4294967296 + u0) % 10000000000000000000 := by
      intro z hz
      have e0 : shr .u64 (IntKind.u64.wrap (IntKind.u64.wrap (IntKind.u64.wrap (h * 4294967296) + u0) - IntKind.u64.wrap (z * 10000000000000000000))) 0 = IntKind.u64.wrap (IntKind.u64.wrap (IntKind.u64.wrap (h * 4294967296) + u0) - IntKind.u64.wrap (z * 10000000000000000000)) := by
        unfold shr; simp
      rw [e0, wu, wu, wu, wu]
      omega
    have down : ((h * 4294967296 + u0) / 10000000000000000000 < q) → bits_Div64.j4 (k + 1) 10000000000000000000 0 2328306436 2313682944 u0 t r h q true = some (IntKind.u64.wrap (IntKind.u64.wrap (t * 4294967296) + (h * 4294967296 + u0) / 10000000000000000000), (h * 4294967296 + u0) % 10000000000000000000) := by
      intro hlt
      have eq4 : IntKind.u64.wrap (q - 1) = q - 1 := by rw [wu]; omega
      simp only [bits_Div64.j4]
      rw [if_pos trivial, eq3, eq4]
      by_cases c : r + 2328306436 ≥ 4294967296
      · rw [if_pos c, if_pos (by decide)]
        have e : q - 1 = (h * 4294967296 + u0) / 10000000000000000000 := by omega
        rw [fin _ e, e]
      · rw [if_neg c]
        exact ih k (q - 1) (r + 2328306436) (by omega) (by omega) (by omega) (by omega) (by omega) (by omega) (by omega)
    rw [show k + 2 = (k + 1) + 1 from rfl]
    simp only [bits_Div64.l1]
    by_cases c1 : q ≥ 4294967296
    · rw [if_pos c1]
      exact down (by omega)
    · rw [if_neg c1, eq1, eq2]
      by_cases c2 : q * 2313682944 > 4294967296 * r + u0
      · rw [decide_eq_true c2]
        exact down (by omega)
      · rw [decide_eq_false c2]
        simp only [bits_Div64.j4]
        rw [if_neg (by decide), if_pos (by decide)]
        have e : q = (h * 4294967296 + u0) / 10000000000000000000 := by omega
        rw [fin _ e, ← e]
theorem Div64_is (h l : Int) (h0 : 0 ≤ h) (h1 : h < 10000000000000000000) (l0 : 0 ≤ l) (l1 : l < 18446744073709551616) (k : Nat) (hk : 30 ≤ k) :
    bits_Div64.f k h l 10000000000000000000 = some ((h * 18446744073709551616 + l) / 10000000000000000000, (h * 18446744073709551616 + l) % 10000000000000000000) := by
  unfold bits_Div64.f
  rw [if_neg (by decide), if_neg (by omega)]
  by_cases z : h = 0
  · rw [if_pos z, wu, Int.tdiv_eq_ediv_of_nonneg l0, Int.tmod_eq_emod_of_nonneg l0]
    subst z
    congr 2
    · omega
    · omega
  · rw [if_neg z, leadingZeros_chunk]
    simp only [Option.bind_some]
    have w0 : IntKind.u64.wrap 0 = 0 := by decide
    have w64 : IntKind.u64.wrap (64 - 0) = 64 := by decide
    rw [w0, w64]
    have sC : shl .u64 10000000000000000000 0 = 10000000000000000000 := by decide +kernel
    have sh : shl .u64 h 0 = h := by unfold shl; simp; rw [wu]; omega
    have sl : shl .u64 l 0 = l := by unfold shl; simp; rw [wu]; omega
    have sr : shr .u64 l 64 = 0 := by
      unfold shr
      have e : (2 : Int) ^ min (64 : Int).toNat IntKind.u64.bits = 18446744073709551616 := by decide +kernel
      rw [e]; omega
    have orz : Go.bits .or .u64 h 0 = h := by
      rw [or_u64]
      have e : ((0 : Int) % 18446744073709551616).toNat = 0 := rfl
      rw [e, Nat.or_zero, wu]; omega
    have d1 : (10000000000000000000 : Int) / 4294967296 = 2328306436 := by decide +kernel
    have m1 : Go.bits .and .u64 10000000000000000000 4294967295 = 2313682944 := by rw [and_mask32 _ (by decide) (by decide)]; decide +kernel
    rw [sC, sh, sl, sr, orz, d1, m1, and_mask32 l l0 l1, if_pos (by decide), if_pos (by decide), if_neg (by decide)]
    have tq : IntKind.u64.wrap (Int.tdiv h 2328306436) = h / 2328306436 := by rw [Int.tdiv_eq_ediv_of_nonneg h0, wu]; omega
    rw [tq]
    have tr : IntKind.u64.wrap (h - IntKind.u64.wrap (h / 2328306436 * 2328306436)) = h - h / 2328306436 * 2328306436 := by rw [wu, wu]; omega
    rw [tr]
    generalize hu1 : l / 4294967296 = u1
    generalize hu0 : l % 4294967296 = u0
    have b1 : 0 ≤ u1 ∧ u1 < 4294967296 := by omega
    have b0 : 0 ≤ u0 ∧ u0 < 4294967296 := by omega
    have el : l = u1 * 4294967296 + u0 := by omega
    clear hu1 hu0
    obtain ⟨k', hk', e⟩ := div_stage1 h u1 u0 h0 h1 b1.1 b1.2 2 k (h / 2328306436) (h - h / 2328306436 * 2328306436) (by omega) (by omega) (by omega) (by omega) rfl (by omega) (by omega)
    rw [e]
    clear e tq tr w0 w64 sC sh sl sr orz d1 m1
    obtain ⟨k', rfl⟩ : ∃ m, k' = m + 1 := ⟨k' - 1, by omega⟩
    simp only [bits_Div64.j2]
    rw [if_neg (by decide)]
    generalize hT : (h * 4294967296 + u1) / 10000000000000000000 = T
    have hR : IntKind.u64.wrap (IntKind.u64.wrap (IntKind.u64.wrap (h * 4294967296) + u1) - IntKind.u64.wrap (T * 10000000000000000000)) = h * 4294967296 + u1 - T * 10000000000000000000 := by
      rw [wu, wu, wu, wu]; omega
    rw [hR]
    generalize hRR : h * 4294967296 + u1 - T * 10000000000000000000 = R
    have bR : 0 ≤ R ∧ R < 10000000000000000000 := by omega
    have bT : 0 ≤ T ∧ T < 4294967296 := by omega
    clear hR
    have tq : IntKind.u64.wrap (Int.tdiv R 2328306436) = R / 2328306436 := by rw [Int.tdiv_eq_ediv_of_nonneg bR.1, wu]; omega
    rw [tq]
    have tr : IntKind.u64.wrap (R - IntKind.u64.wrap (R / 2328306436 * 2328306436)) = R - R / 2328306436 * 2328306436 := by rw [wu, wu]; omega
    rw [tr]
    clear tq tr
    rw [div_stage2 R u0 T bR.1 bR.2 b0.1 b0.2 2 k' (R / 2328306436) (R - R / 2328306436 * 2328306436) (by omega) (by omega) (by omega) (by omega) rfl (by omega) (by omega)]
    have hN : h * 18446744073709551616 + l = (T * 10000000000000000000 + R) * 4294967296 + u0 := by omega
    rw [hN, wu, wu]
    clear hN hT hRR el
    congr 2
    · omega
    · omega

/-- The decimal digits of a number, none for 0. -/
def digs (u : Nat) : List UInt8 := if u = 0 then [] else Go.Lib.decDigits u
theorem digs_step {u : Nat} (h : u ≠ 0) : digs u = digs (u / 10) ++ [UInt8.ofNat (48 + u % 10)] := by
  unfold digs
  rw [if_neg h]
  by_cases c : u < 10
  · rw [Go.Lib.decDigits_one c, if_pos (by omega)]
    have : u % 10 = u := Nat.mod_eq_of_lt c
    rw [this]; rfl
  · rw [Go.Lib.decDigits, dif_neg c, if_neg (by omega)]
theorem byte_of (n : Nat) (h : n < 10) : strOfNums [(wrap64 (48 + (n : Int))) % 256] = ⟨#[UInt8.ofNat (48 + n)]⟩ := by
  have e : (wrap64 (48 + (n : Int))) % 256 = ((48 + n : Nat) : Int) := by unfold wrap64; omega
  rw [e]
  rfl
theorem mk_app (a b : List UInt8) : (⟨a.toArray⟩ : ByteArray) ++ ⟨b.toArray⟩ = ⟨(a ++ b).toArray⟩ := by
  apply ByteArray.ext
  simp

/-- The last k digits of a number, noughts ahead. -/
def padD : Nat → Nat → List UInt8
  | 0, _ => []
  | k + 1, b => padD k (b / 10) ++ [UInt8.ofNat (48 + b % 10)]
theorem padD_len : ∀ (k b : Nat), (padD k b).length = k
  | 0, _ => rfl
  | k + 1, b => by simp [padD, padD_len k]
theorem dec_pad (k : Nat) : ∀ (a b : Nat), 0 < a → b < 10 ^ k → Go.Lib.decDigits (a * 10 ^ k + b) = Go.Lib.decDigits a ++ padD k b := by
  induction k with
  | zero => intro a b ha hb; have : b = 0 := by simpa using hb
            subst this; simp [padD]
  | succ k ih =>
    intro a b ha hb
    have e : a * 10 ^ (k + 1) = a * 10 ^ k * 10 := by rw [Nat.pow_succ, Nat.mul_assoc]
    rw [Nat.pow_succ] at hb
    have h10 : 1 ≤ 10 ^ k := Nat.pos_of_ne_zero (by simp)
    have hm : a * 10 ^ k ≥ 1 := Nat.mul_pos ha h10
    have h := ih a (b / 10) ha (by omega)
    rw [e]
    generalize a * 10 ^ k = z at *
    rw [Go.Lib.decDigits, dif_neg (by omega)]
    have e1 : (z * 10 + b) / 10 = z + b / 10 := by omega
    have e2 : (z * 10 + b) % 10 = b % 10 := by omega
    rw [e1, e2, h, padD, List.append_assoc]
theorem padD_zero : ∀ k, padD k 0 = List.replicate k 48
  | 0 => rfl
  | k + 1 => by rw [padD, show (0:Nat)/10 = 0 from rfl, padD_zero k, List.replicate_succ']; rfl
theorem padD_eq (k : Nat) : ∀ b, 0 < k → b < 10 ^ k → padD k b = List.replicate (k - (Go.Lib.decDigits b).length) 48 ++ Go.Lib.decDigits b := by
  induction k with
  | zero => intro b h; omega
  | succ k ih =>
    intro b _ hb
    by_cases c : b < 10
    · rw [Go.Lib.decDigits, dif_pos c, padD]
      have e1 : b / 10 = 0 := by omega
      have e2 : b % 10 = b := by omega
      rw [e1, e2, padD_zero]; rfl
    · rw [Nat.pow_succ] at hb
      have hk : 0 < k := by
        rcases Nat.eq_zero_or_pos k with h | h
        · subst h; simp at hb; omega
        · exact h
      rw [Go.Lib.decDigits, dif_neg c, padD, ih (b / 10) hk (by omega)]
      simp [Nat.add_sub_add_right]
theorem dec_len_le (k : Nat) : ∀ b, 0 < k → b < 10 ^ k → (Go.Lib.decDigits b).length ≤ k := by
  intro b hk hb
  have h := padD_len k b
  rw [padD_eq k b hk hb] at h
  simp at h
  omega

/-- A number's text behind its sign. -/
def wideL (neg : Bool) (n : Nat) : List UInt8 := (if neg = true then [45] else []) ++ Go.Lib.decDigits n
theorem mkz (l : List UInt8) : (⟨l.toArray⟩ : ByteArray).size = l.length := by simp [ByteArray.size]
theorem dec_step (n : Nat) : Go.Lib.decDigits n = digs (n / 10) ++ [UInt8.ofNat (48 + n % 10)] := by
  by_cases c : n < 10
  · have e : n / 10 = 0 := by omega
    have e2 : n % 10 = n := by omega
    rw [e, e2, Go.Lib.decDigits_one c]; rfl
  · rw [Go.Lib.decDigits, dif_neg c]
    have e : digs (n / 10) = Go.Lib.decDigits (n / 10) := by unfold digs; rw [if_neg (by omega)]
    rw [e]

theorem impl_WideOk_eq (n : Bool) (h l : Int) : impl_WideOk.f n h l = some (wok n h l) := by
  unfold impl_WideOk.f wok
  by_cases c1 : h < 9223372036854775808
  · rw [if_pos c1]
    cases n
    · simp [c1]
    · by_cases c2 : h > 0
      · simp [c1, c2]
      · simp [c1, c2]
  · rw [if_neg c1]; simp [c1]

theorem repeat_zero : ∀ c : Nat, Go.Lib.repeatL [48] c = List.replicate c (48 : UInt8)
  | 0 => rfl
  | c + 1 => by rw [Go.Lib.repeatL, repeat_zero c]; rfl
theorem FormatUint_is (n : Nat) (h : n < 18446744073709551616) : strconv_FormatUint_77.f (n : Int) 10 = some ⟨(Go.Lib.decDigits n).toArray⟩ := by
  unfold strconv_FormatUint_77.f
  rw [if_pos ⟨by omega, by omega, rfl⟩]
  rfl
theorem Repeat_is (c : Nat) (h : c ≤ 19) : strings_Repeat.f ⟨#[48]⟩ (c : Int) = some ⟨(List.replicate c (48 : UInt8)).toArray⟩ := by
  unfold strings_Repeat.f
  have e : (⟨#[48]⟩ : ByteArray).size = 1 := rfl
  rw [e, if_pos ⟨by omega, by omega, by omega⟩]
  have e2 : (c : Int).toNat = c := by omega
  rw [e2, show (⟨#[48]⟩ : ByteArray).data.toList = [48] from rfl, repeat_zero]
theorem dec19 (n : Nat) (h : n < 10000000000000000000) : (Go.Lib.decDigits n).length ≤ 19 := dec_len_le 19 n (by decide) (by omega)
theorem pad19 (n : Nat) (h : n < 10000000000000000000) : padD 19 n = List.replicate (19 - (Go.Lib.decDigits n).length) 48 ++ Go.Lib.decDigits n := padD_eq 19 n (by decide) (by omega)
theorem dec_pad19 (a b : Nat) (ha : 0 < a) (hb : b < 10000000000000000000) : Go.Lib.decDigits (a * 10000000000000000000 + b) = Go.Lib.decDigits a ++ (List.replicate (19 - (Go.Lib.decDigits b).length) 48 ++ Go.Lib.decDigits b) := by
  rw [← pad19 b hb, ← dec_pad 19 a b ha (by omega)]
theorem Div64_zero (l : Int) (l0 : 0 ≤ l) (l1 : l < 18446744073709551616) (k : Nat) : bits_Div64.f k 0 l 10000000000000000000 = some (l / 10000000000000000000, l % 10000000000000000000) := by
  unfold bits_Div64.f
  rw [if_neg (by decide), if_neg (by decide), if_pos rfl, wu, Int.tdiv_eq_ediv_of_nonneg l0, Int.tmod_eq_emod_of_nonneg l0]
  have e : l / 10000000000000000000 % 18446744073709551616 = l / 10000000000000000000 := by omega
  rw [e]
theorem impl_WideText_j1 (sg : List UInt8) (hs : sg.length ≤ 1) (lo la k : Nat) (hk : 30 ≤ k) (blo : lo < 18446744073709551616) (bla : la < 10000000000000000000) :
    impl_WideText.j1 (k + 1) ⟨sg.toArray⟩ 0 (lo : Int) (la : Int) ((lo : Int) == 0) = some ⟨(sg ++ Go.Lib.decDigits (lo * 10000000000000000000 + la)).toArray⟩ := by
  simp only [impl_WideText.j1]
  have fla := FormatUint_is la (by omega)
  have lla := dec19 la bla
  by_cases z : lo = 0
  · subst z
    rw [if_pos (by decide), fla]
    simp only [Option.bind_some]
    rw [mkz, mkz, if_pos (by omega), mk_app]
    have : 0 * 10000000000000000000 + la = la := by omega
    rw [this]
  · have z' : ¬ ((((lo : Nat) : Int) == 0) = true) := by simpa using z
    obtain ⟨fi, hfi⟩ : ∃ fi : Nat, fi = lo / 10000000000000000000 := ⟨_, rfl⟩
    obtain ⟨se, hse⟩ : ∃ se : Nat, se = lo % 10000000000000000000 := ⟨_, rfl⟩
    have e1 : ((lo : Nat) : Int) / 10000000000000000000 = (fi : Int) := by omega
    have e2 : ((lo : Nat) : Int) % 10000000000000000000 = (se : Int) := by omega
    have hs2 : lo = fi * 10000000000000000000 + se := by omega
    have bf : fi < 10 := by omega
    have bs : se < 10000000000000000000 := by omega
    obtain ⟨p, hp⟩ : ∃ p : Int × Int, p = ((fi : Int), (se : Int)) := ⟨_, rfl⟩
    have p1 : p.1 = (fi : Int) := by rw [hp]
    have p2 : p.2 = (se : Int) := by rw [hp]
    rw [if_neg z', Div64_zero lo (by omega) (by omega) k, e1, e2, ← hp]
    clear hfi hse e1 e2 hp
    rw [Option.bind_some, p1, p2, fla]
    simp only [Option.bind_some]
    rw [mkz]
    have w19 : wrap64 (19 - (((Go.Lib.decDigits la).length : Nat) : Int)) = ((19 - (Go.Lib.decDigits la).length : Nat) : Int) := by rw [w64_id (by omega) (by omega)]; omega
    rw [w19, Repeat_is _ (by omega)]
    simp only [Option.bind_some]
    have dla := dec_pad19 lo la (by omega) bla
    rw [dla]
    clear dla w19 z'
    have fse := FormatUint_is se (by omega)
    have lse := dec19 se bs
    rw [mkz, List.length_replicate, if_pos (by omega), fse]
    simp only [Option.bind_some]
    by_cases zf : fi = 0
    · subst zf
      rw [if_pos (by decide), mkz, mkz, if_pos (by omega), mk_app, mk_app, mkz, mkz, if_pos (by simp only [List.length_append, List.length_replicate]; omega), mk_app]
      have : lo = se := by omega
      rw [this]
      simp
    · rw [if_neg (by omega), FormatUint_is fi (by omega)]
      simp only [Option.bind_some]
      have lfi := dec19 fi (by omega)
      have w19 : wrap64 (19 - (((Go.Lib.decDigits se).length : Nat) : Int)) = ((19 - (Go.Lib.decDigits se).length : Nat) : Int) := by rw [w64_id (by omega) (by omega)]; omega
      rw [mkz, mkz, if_pos (by omega), mkz, w19, Repeat_is _ (by omega)]
      simp only [Option.bind_some]
      have dlo := dec_pad19 fi se (by omega) bs
      rw [← hs2] at dlo
      rw [dlo]
      simp only [mk_app, mkz, List.length_append, List.length_replicate]
      rw [if_pos (by omega), if_pos (by omega), if_pos (by omega)]
      simp
theorem impl_WideText_w (sg : List UInt8) (hs : sg.length ≤ 1) (n k : Nat) (hk : 40 ≤ k) (hn : n < 170141183460469231731687303715884105728) (y : Bool) (h l : Int) (h0 : 0 ≤ h) (l0 : 0 ≤ l) (l1 : l < 18446744073709551616) (e : (n : Int) = h * 18446744073709551616 + l) :
    impl_WideText.j0 k ⟨sg.toArray⟩ y h l = some ⟨(sg ++ Go.Lib.decDigits n).toArray⟩ := by
  obtain ⟨k, rfl⟩ : ∃ m, k = m + 2 := ⟨k - 2, by omega⟩
  have hh : h < 9223372036854775808 := by omega
  rw [show k + 2 = (k + 1) + 1 from rfl]
  simp only [impl_WideText.j0]
  have t1 : Int.tmod h 10000000000000000000 = h := by rw [Int.tmod_eq_emod_of_nonneg h0]; omega
  have t2 : IntKind.u64.wrap (Int.tdiv h 10000000000000000000) = 0 := by rw [Int.tdiv_eq_ediv_of_nonneg h0, wu]; omega
  rw [t1, t2, Div64_is h l h0 (by omega) l0 l1 (k + 1) (by omega), ← e]
  clear t1 t2
  simp only [Option.bind_some]
  rw [if_pos trivial]
  obtain ⟨lo, hlo⟩ : ∃ lo : Nat, lo = n / 10000000000000000000 := ⟨_, rfl⟩
  obtain ⟨la, hla⟩ : ∃ la : Nat, la = n % 10000000000000000000 := ⟨_, rfl⟩
  have ed : (n : Int) / 10000000000000000000 = (lo : Int) := by omega
  have em : (n : Int) % 10000000000000000000 = (la : Int) := by omega
  have hsplit : n = lo * 10000000000000000000 + la := by omega
  rw [ed, em, impl_WideText_j1 sg hs lo la k (by omega) (by omega) (by omega), ← hsplit]
theorem impl_WideText_is (b : Bool) (h l : Int) (h0 : 0 ≤ h) (l0 : 0 ≤ l) (l1 : l < 18446744073709551616) (k : Nat) (hk : 60 ≤ k) : impl_WideText.f k b h l = some ⟨(if wok b h l = true then wideL b (h * 18446744073709551616 + l).toNat else []).toArray⟩ := by
  unfold impl_WideText.f
  rw [impl_WideOk_eq]
  simp only [Option.bind_some]
  by_cases w : wok b h l = true
  · rw [if_pos w, if_pos w]
    have hn : (h * 18446744073709551616 + l).toNat < 170141183460469231731687303715884105728 := by
      unfold wok at w
      simp at w
      omega
    have eN : (((h * 18446744073709551616 + l).toNat : Nat) : Int) = h * 18446744073709551616 + l := by omega
    cases b
    · rw [if_neg (by decide)]
      exact (impl_WideText_w [] (by decide) _ k (by omega) hn false h l h0 l0 l1 eN).trans rfl
    · rw [if_pos rfl]
      exact (impl_WideText_w [45] (by decide) _ k (by omega) hn true h l h0 l0 l1 eN).trans rfl
  · rw [if_neg w, if_neg w]

theorem impl_within_eq (a b c : Int) : impl_within.f a b c = some (iin a b c) := by
  unfold impl_within.f iin
  by_cases h : a ≥ b
  · rw [if_pos h]; simp [show b ≤ a from h]
  · rw [if_neg h]; simp [show ¬ b ≤ a from h]

theorem impl_FracOk_eq (n : Bool) (h l d : Int) : impl_FracOk.f n h l d = some (wok n h l && iin d 1 1000000) := by
  unfold impl_FracOk.f
  simp only [impl_WideOk_eq, impl_within_eq, Option.bind_some]
  cases wok n h l <;> simp

theorem impl_Digits_is (n : Int) (b0 : -9223372036854775808 ≤ n) (b1 : n ≤ 9223372036854775807) : impl_Digits.f n = some ⟨(Go.Lib.itoa n).toArray⟩ := by
  unfold impl_Digits.f strconv_Itoa_52.f
  rw [if_pos ⟨b0, b1⟩]; rfl

theorem itoa20 (v : Int) (h0 : -9223372036854775808 ≤ v) (h1 : v ≤ 9223372036854775807) : (Go.Lib.itoa v).length ≤ 20 := by
  unfold Go.Lib.itoa
  by_cases c : v < 0
  · rw [if_pos c]
    have := dec_len_le 19 v.natAbs (by decide) (by omega)
    simp only [List.length_cons]; omega
  · rw [if_neg c]
    have := dec_len_le 19 v.toNat (by decide) (by omega)
    omega

def fracL (n : Bool) (h l d : Int) : List UInt8 := if (wok n h l && iin d 1 1000000) = true then wideL n (h * 18446744073709551616 + l).toNat ++ (47 :: Go.Lib.itoa d) else []
theorem wideL_len (n : Bool) (v : Nat) (h : v < 170141183460469231731687303715884105728) : (wideL n v).length ≤ 40 := by
  have e : (170141183460469231731687303715884105728 : Nat) ≤ 10 ^ 39 := by decide +kernel
  have := dec_len_le 39 v (by decide) (Nat.lt_of_lt_of_le h e)
  unfold wideL
  cases n <;> simp <;> omega
theorem fok_bound {n : Bool} {h l d : Int} (h0 : 0 ≤ h) (l0 : 0 ≤ l) (l1 : l < 18446744073709551616) (w : (wok n h l && iin d 1 1000000) = true) : wok n h l = true ∧ (h * 18446744073709551616 + l).toNat < 170141183460469231731687303715884105728 ∧ 1 ≤ d ∧ d ≤ 1000000 := by
  have a : wok n h l = true := by
    cases q : wok n h l
    · rw [q] at w; simp at w
    · rfl
  rw [a] at w
  have b : h < 9223372036854775808 := by unfold wok at a; simp at a; omega
  unfold iin at w
  simp at w
  exact ⟨a, by omega, by omega, by omega⟩
theorem impl_FracText_is (n : Bool) (h l d : Int) (h0 : 0 ≤ h) (l0 : 0 ≤ l) (l1 : l < 18446744073709551616) (k : Nat) (hk : 60 ≤ k) : impl_FracText.f k n h l d = some ⟨(fracL n h l d).toArray⟩ := by
  unfold impl_FracText.f fracL
  rw [impl_FracOk_eq]
  simp only [Option.bind_some]
  by_cases w : (wok n h l && iin d 1 1000000) = true
  · rw [if_pos w, if_pos w]
    obtain ⟨a, b, d0, d1⟩ := fok_bound h0 l0 l1 w
    rw [impl_WideText_is n h l h0 l0 l1 k hk, if_pos a]
    simp only [Option.bind_some]
    have lw := wideL_len n _ b
    generalize wideL n (h * 18446744073709551616 + l).toNat = u at *
    have ld := itoa20 d (by omega) (by omega)
    have e47 : (⟨#[47]⟩ : ByteArray) = ⟨([47] : List UInt8).toArray⟩ := rfl
    rw [mkz, if_pos (by omega), impl_Digits_is d (by omega) (by omega)]
    simp only [Option.bind_some]
    rw [e47, mk_app, mkz, mkz, List.length_append, List.length_singleton, if_pos (by omega), mk_app]
    simp
  · rw [if_neg w, if_neg w]

theorem spec_WideOk_eq (n : Bool) (h l : Int) : spec_WideOk.f n h l = some (wok n h l) := by
  unfold spec_WideOk.f wok
  by_cases c1 : h < 9223372036854775808
  · rw [if_pos c1]
    cases n
    · simp [c1]
    · by_cases c2 : h > 0
      · simp [c1, c2]
      · simp [c1, c2]
  · rw [if_neg c1]; simp [c1]

theorem spec_l3Zero_eq (n : Bool) (h l : Int) : spec_l3Zero.f n h l = some ((h == 0) && (l == 0)) := by
  unfold spec_l3Zero.f
  by_cases c : h = 0 <;> simp [c]

theorem wu_ (n : Int) : IntKind.u64.wrap n = n % 18446744073709551616 := wu64 n
theorem l4_step0 (k : Nat) (a b c d r : Int) : spec_l4Ten.l0 (k + 1) [a, b, c, d] r 0 = spec_l4Ten.l0 k [IntKind.u64.wrap (Int.tdiv (IntKind.u64.wrap ((IntKind.u64.wrap (r * 4294967296)) + a)) 10), b, c, d] (Int.tmod (IntKind.u64.wrap ((IntKind.u64.wrap (r * 4294967296)) + a)) 10) 1 := by
  simp only [spec_l4Ten.l0]
  have w : wrap64 (0 + 1) = 1 := w64_id (by omega) (by omega)
  rw [if_pos (by decide), if_pos (by decide), if_pos (by simp), w]
  rfl
theorem l4_step1 (k : Nat) (a b c d r : Int) : spec_l4Ten.l0 (k + 1) [a, b, c, d] r 1 = spec_l4Ten.l0 k [a, IntKind.u64.wrap (Int.tdiv (IntKind.u64.wrap ((IntKind.u64.wrap (r * 4294967296)) + b)) 10), c, d] (Int.tmod (IntKind.u64.wrap ((IntKind.u64.wrap (r * 4294967296)) + b)) 10) 2 := by
  simp only [spec_l4Ten.l0]
  have w : wrap64 (1 + 1) = 2 := w64_id (by omega) (by omega)
  rw [if_pos (by decide), if_pos (by decide), if_pos (by simp), w]
  rfl
theorem l4_step2 (k : Nat) (a b c d r : Int) : spec_l4Ten.l0 (k + 1) [a, b, c, d] r 2 = spec_l4Ten.l0 k [a, b, IntKind.u64.wrap (Int.tdiv (IntKind.u64.wrap ((IntKind.u64.wrap (r * 4294967296)) + c)) 10), d] (Int.tmod (IntKind.u64.wrap ((IntKind.u64.wrap (r * 4294967296)) + c)) 10) 3 := by
  simp only [spec_l4Ten.l0]
  have w : wrap64 (2 + 1) = 3 := w64_id (by omega) (by omega)
  rw [if_pos (by decide), if_pos (by decide), if_pos (by simp), w]
  rfl
theorem l4_step3 (k : Nat) (a b c d r : Int) : spec_l4Ten.l0 (k + 1) [a, b, c, d] r 3 = spec_l4Ten.l0 k [a, b, c, IntKind.u64.wrap (Int.tdiv (IntKind.u64.wrap ((IntKind.u64.wrap (r * 4294967296)) + d)) 10)] (Int.tmod (IntKind.u64.wrap ((IntKind.u64.wrap (r * 4294967296)) + d)) 10) 4 := by
  simp only [spec_l4Ten.l0]
  have w : wrap64 (3 + 1) = 4 := w64_id (by omega) (by omega)
  rw [if_pos (by decide), if_pos (by decide), if_pos (by simp), w]
  rfl
theorem l4_end (k : Nat) (a b c d r : Int) (h0 : 0 ≤ r) (h1 : r < 10) : spec_l4Ten.l0 (k + 1) [a, b, c, d] r 4 = some (false, IntKind.u64.wrap ((IntKind.u64.wrap (a * 4294967296)) + b), IntKind.u64.wrap ((IntKind.u64.wrap (c * 4294967296)) + d), r) := by
  simp only [spec_l4Ten.l0]
  rw [if_neg (by decide), if_pos (by simp), if_pos (by simp), if_pos (by simp), if_pos (by simp), w64_id (by omega) (by omega)]
  rfl
theorem l4_div (r p : Int) (r0 : 0 ≤ r) (r1 : r < 10) (p0 : 0 ≤ p) (p1 : p < 4294967296) : IntKind.u64.wrap (Int.tdiv (IntKind.u64.wrap ((IntKind.u64.wrap (r * 4294967296)) + p)) 10) = (r * 4294967296 + p) / 10 ∧ Int.tmod (IntKind.u64.wrap ((IntKind.u64.wrap (r * 4294967296)) + p)) 10 = (r * 4294967296 + p) % 10 := by
  have e : IntKind.u64.wrap ((IntKind.u64.wrap (r * 4294967296)) + p) = r * 4294967296 + p := by rw [wu_, wu_]; omega
  rw [e, Int.tdiv_eq_ediv_of_nonneg (by omega), Int.tmod_eq_emod_of_nonneg (by omega), wu_]
  exact ⟨by omega, rfl⟩
theorem spec_l4Ten_is (b : Bool) (n k : Nat) (hn : n < 340282366920938463463374607431768211456) (hk : 5 ≤ k) :
    spec_l4Ten.f k b ((n / 18446744073709551616 : Nat) : Int) ((n % 18446744073709551616 : Nat) : Int) = some (false, ((n / 10 / 18446744073709551616 : Nat) : Int), ((n / 10 % 18446744073709551616 : Nat) : Int), ((n % 10 : Nat) : Int)) := by
  obtain ⟨k, rfl⟩ : ∃ m, k = m + 5 := ⟨k - 5, by omega⟩
  unfold spec_l4Ten.f
  generalize hh : ((n / 18446744073709551616 : Nat) : Int) = h
  generalize hl : ((n % 18446744073709551616 : Nat) : Int) = l
  have h0 : 0 ≤ h ∧ h < 18446744073709551616 := by omega
  have l0 : 0 ≤ l ∧ l < 18446744073709551616 := by omega
  have hN : (n : Int) = h * 18446744073709551616 + l := by omega
  rw [and_mask32 h h0.1 h0.2, and_mask32 l l0.1 l0.2]
  clear hh hl
  generalize ha : h / 4294967296 = a
  generalize hb : h % 4294967296 = b'
  generalize hc : l / 4294967296 = c
  generalize hd : l % 4294967296 = d
  have A : 0 ≤ a ∧ a < 4294967296 := by omega
  have B : 0 ≤ b' ∧ b' < 4294967296 := by omega
  have C : 0 ≤ c ∧ c < 4294967296 := by omega
  have D : 0 ≤ d ∧ d < 4294967296 := by omega
  have eh : h = a * 4294967296 + b' := by omega
  have el : l = c * 4294967296 + d := by omega
  clear ha hb hc hd
  subst eh el
  rw [show k + 5 = (k + 4) + 1 from rfl, l4_step0]
  have s0 := l4_div 0 a (by omega) (by omega) A.1 A.2
  rw [s0.1, s0.2]
  clear s0
  generalize hq0 : (0 * 4294967296 + a) / 10 = q0
  generalize hr0 : (0 * 4294967296 + a) % 10 = r0
  have R0 : 0 ≤ r0 ∧ r0 < 10 := by omega
  have e0 : a = q0 * 10 + r0 := by omega
  have Q0 : 0 ≤ q0 ∧ q0 < 4294967296 := by omega
  clear hq0 hr0
  rw [show k + 4 = (k + 3) + 1 from rfl, l4_step1]
  have s0 := l4_div r0 b' R0.1 R0.2 B.1 B.2
  rw [s0.1, s0.2]
  clear s0
  generalize hq1 : (r0 * 4294967296 + b') / 10 = q1
  generalize hr1 : (r0 * 4294967296 + b') % 10 = r1
  have R1 : 0 ≤ r1 ∧ r1 < 10 := by omega
  have e1 : r0 * 4294967296 + b' = q1 * 10 + r1 := by omega
  have Q1 : 0 ≤ q1 ∧ q1 < 4294967296 := by omega
  clear hq1 hr1
  rw [show k + 3 = (k + 2) + 1 from rfl, l4_step2]
  have s0 := l4_div r1 c R1.1 R1.2 C.1 C.2
  rw [s0.1, s0.2]
  clear s0
  generalize hq2 : (r1 * 4294967296 + c) / 10 = q2
  generalize hr2 : (r1 * 4294967296 + c) % 10 = r2
  have R2 : 0 ≤ r2 ∧ r2 < 10 := by omega
  have e2 : r1 * 4294967296 + c = q2 * 10 + r2 := by omega
  have Q2 : 0 ≤ q2 ∧ q2 < 4294967296 := by omega
  clear hq2 hr2
  rw [show k + 2 = (k + 1) + 1 from rfl, l4_step3]
  have s0 := l4_div r2 d R2.1 R2.2 D.1 D.2
  rw [s0.1, s0.2]
  clear s0
  generalize hq3 : (r2 * 4294967296 + d) / 10 = q3
  generalize hr3 : (r2 * 4294967296 + d) % 10 = r3
  have R3 : 0 ≤ r3 ∧ r3 < 10 := by omega
  have e3 : r2 * 4294967296 + d = q3 * 10 + r3 := by omega
  have Q3 : 0 ≤ q3 ∧ q3 < 4294967296 := by omega
  clear hq3 hr3
  rw [l4_end k _ _ _ _ _ R3.1 R3.2]
  have f1 : IntKind.u64.wrap (IntKind.u64.wrap (q0 * 4294967296) + q1) = q0 * 4294967296 + q1 := by rw [wu_, wu_]; omega
  have f2 : IntKind.u64.wrap (IntKind.u64.wrap (q2 * 4294967296) + q3) = q2 * 4294967296 + q3 := by rw [wu_, wu_]; omega
  rw [f1, f2]
  clear f1 f2
  have key : (n : Int) = 10 * ((q0 * 4294967296 + q1) * 18446744073709551616 + (q2 * 4294967296 + q3)) + r3 := by omega
  generalize hX : q0 * 4294967296 + q1 = X at *
  generalize hY : q2 * 4294967296 + q3 = Y at *
  have bX : 0 ≤ X := by omega
  have bY : 0 ≤ Y ∧ Y < 18446744073709551616 := by omega
  clear hN e0 e1 e2 e3 hX hY
  have g1 : X = ((n / 10 / 18446744073709551616 : Nat) : Int) := by omega
  have g2 : Y = ((n / 10 % 18446744073709551616 : Nat) : Int) := by omega
  have g3 : r3 = ((n % 10 : Nat) : Int) := by omega
  rw [g1, g2, g3]
theorem l3Zero_nat (b : Bool) (n : Nat) : spec_l3Zero.f b ((n / 18446744073709551616 : Nat) : Int) ((n % 18446744073709551616 : Nat) : Int) = some (decide (n = 0)) := by
  unfold spec_l3Zero.f
  by_cases c : n = 0
  · subst c; decide
  · rw [decide_eq_false c]
    by_cases d : ((n / 18446744073709551616 : Nat) : Int) = 0
    · rw [if_pos d]
      have : ¬ ((n % 18446744073709551616 : Nat) : Int) = 0 := by omega
      exact congrArg some (decide_eq_false this)
    · rw [if_neg d]
theorem byte_of2 (n : Nat) (h : n < 10) : strOfNums [(wrap64 (48 + ((n : Nat) : Int))) % 256] = ⟨[UInt8.ofNat (48 + n)].toArray⟩ := byte_of n h
theorem spec_WideText_l (sg : Bool) (d : Nat) : ∀ (k n : Nat) (b : Bool) (acc : List UInt8), n < 10 ^ d → d + 10 < k → d + acc.length ≤ 60 → n < 340282366920938463463374607431768211456 → acc ≠ [] →
    spec_WideText.l0 k sg ⟨acc.toArray⟩ b ((n / 18446744073709551616 : Nat) : Int) ((n % 18446744073709551616 : Nat) : Int) = some ⟨((if sg = true then [45] else []) ++ (digs n ++ acc)).toArray⟩ := by
  induction d with
  | zero =>
    intro k n b acc hn hk ha _ hne
    obtain ⟨k, rfl⟩ : ∃ m, k = m + 1 := ⟨k - 1, by omega⟩
    have e : n = 0 := by simpa using hn
    subst e
    have ne : ¬ ((⟨acc.toArray⟩ : ByteArray).toList = ([] : List UInt8)) := by rw [Go.Lib.toList_data]; simpa using hne
    simp only [spec_WideText.l0]
    rw [if_neg ne, l3Zero_nat]
    simp only [Option.bind_some]
    rw [if_pos (by decide), mkz]
    have e45 : (⟨#[45]⟩ : ByteArray) = ⟨([45] : List UInt8).toArray⟩ := rfl
    cases sg
    · rw [if_neg (by decide)]; simp [digs]
    · rw [if_pos rfl, if_pos (by omega), e45, mk_app]; simp [digs]
  | succ d ih =>
    intro k n b acc hn hk ha h2 hne
    obtain ⟨k, rfl⟩ : ∃ m, k = m + 1 := ⟨k - 1, by omega⟩
    have ne : ¬ ((⟨acc.toArray⟩ : ByteArray).toList = ([] : List UInt8)) := by rw [Go.Lib.toList_data]; simpa using hne
    simp only [spec_WideText.l0]
    rw [if_neg ne, l3Zero_nat]
    simp only [Option.bind_some]
    by_cases z : n = 0
    · subst z
      rw [if_pos (by decide), mkz]
      have e45 : (⟨#[45]⟩ : ByteArray) = ⟨([45] : List UInt8).toArray⟩ := rfl
      cases sg
      · rw [if_neg (by decide)]; simp [digs]
      · rw [if_pos rfl, if_pos (by omega), e45, mk_app]; simp [digs]
    · rw [if_neg (by simpa using z), spec_l4Ten_is b n k h2 (by omega)]
      simp only [Option.bind_some]
      have hm : n % 10 < 10 := by omega
      have hq : n / 10 < 10 ^ d := by rw [Nat.pow_succ] at hn; omega
      have hq2 : n / 10 < 340282366920938463463374607431768211456 := by omega
      rw [byte_of2 _ hm, mkz, mkz, if_pos (by simp; omega), mk_app, ih k (n / 10) false _ hq (by omega) (by simp; omega) hq2 (by simp), digs_step z]
      simp
theorem lt_pow40 (n : Nat) (h : n < 170141183460469231731687303715884105728) : n / 10 < 10 ^ 40 := by
  have e : (170141183460469231731687303715884105728 : Nat) ≤ 10 ^ 40 := by decide +kernel
  exact Nat.lt_of_le_of_lt (Nat.div_le_self n 10) (Nat.lt_of_lt_of_le h e)
theorem wok_nat' (b : Bool) (h l : Int) (h0 : 0 ≤ h) (l0 : 0 ≤ l) (l1 : l < 18446744073709551616) (w : wok b h l = true) : (h * 18446744073709551616 + l).toNat < 170141183460469231731687303715884105728 := by
  unfold wok at w
  simp at w
  omega
theorem spec_WideText_w (b : Bool) (n k : Nat) (hk : 60 ≤ k) (hn : n < 170141183460469231731687303715884105728) : spec_WideText.l0 k b (⟨#[]⟩ : ByteArray) b ((n / 18446744073709551616 : Nat) : Int) ((n % 18446744073709551616 : Nat) : Int) = some ⟨(wideL b n).toArray⟩ := by
  obtain ⟨k, rfl⟩ : ∃ m, k = m + 1 := ⟨k - 1, by omega⟩
  simp only [spec_WideText.l0]
  have e0 : ((⟨#[]⟩ : ByteArray).toList = ([] : List UInt8)) := by rw [Go.Lib.toList_data]
  rw [if_pos e0, spec_l4Ten_is b n k (by omega) (by omega)]
  simp only [Option.bind_some]
  have hm : n % 10 < 10 := by omega
  have hq : n / 10 < 10 ^ 40 := lt_pow40 n hn
  have hq2 : n / 10 < 340282366920938463463374607431768211456 := by omega
  have e1 : (⟨#[]⟩ : ByteArray) = ⟨([] : List UInt8).toArray⟩ := rfl
  rw [byte_of2 _ hm, e1, mkz, mkz, if_pos (by simp), mk_app, spec_WideText_l b 40 k (n / 10) false _ hq (by omega) (by simp) hq2 (by simp)]
  unfold wideL
  rw [dec_step n]
  simp
theorem spec_WideText_is (b : Bool) (h l : Int) (h0 : 0 ≤ h) (l0 : 0 ≤ l) (l1 : l < 18446744073709551616) (k : Nat) (hk : 60 ≤ k) : spec_WideText.f k b h l = some ⟨(if wok b h l = true then wideL b (h * 18446744073709551616 + l).toNat else []).toArray⟩ := by
  unfold spec_WideText.f
  rw [spec_WideOk_eq]
  simp only [Option.bind_some]
  by_cases w : wok b h l = true
  · rw [if_pos w, if_pos w]
    have hn := wok_nat' b h l h0 l0 l1 w
    have e := spec_WideText_w b _ k hk hn
    generalize hN : (h * 18446744073709551616 + l).toNat = n at *
    have eh : ((n / 18446744073709551616 : Nat) : Int) = h := by omega
    have el : ((n % 18446744073709551616 : Nat) : Int) = l := by omega
    rw [eh, el] at e
    exact e
  · rw [if_neg w, if_neg w]

theorem spec_l1In_eq (a b c : Int) : spec_l1In.f a b c = some (iin a b c) := by
  unfold spec_l1In.f iin
  by_cases h : a ≥ b
  · rw [if_pos h]; simp [show b ≤ a from h]
  · rw [if_neg h]; simp [show ¬ b ≤ a from h]

theorem spec_FracOk_eq (n : Bool) (h l d : Int) : spec_FracOk.f n h l d = some (wok n h l && iin d 1 1000000) := by
  unfold spec_FracOk.f
  simp only [spec_WideOk_eq, spec_l1In_eq, Option.bind_some]
  cases wok n h l <;> simp

theorem spec_Digits_l (d : Nat) : ∀ (k : Nat) (n : Int) (s : Bool) (acc : List UInt8), n.natAbs < 10 ^ d → d < k → d + acc.length ≤ 40 → -9223372036854775808 ≤ n → n ≤ 9223372036854775807 →
    spec_Digits.l0 k n s ⟨acc.toArray⟩ = some ⟨((if s = true then [45] else []) ++ digs n.natAbs ++ acc).toArray⟩ := by
  induction d with
  | zero =>
    intro k n s acc h0 hk ha _ _
    obtain ⟨k, rfl⟩ : ∃ m, k = m + 1 := ⟨k - 1, by omega⟩
    have hn : n = 0 := by simp at h0; omega
    subst hn
    simp only [spec_Digits.l0]
    rw [if_pos trivial]
    have e0 : digs (Int.natAbs 0) = [] := rfl
    rw [e0]
    have hsz : 1 + (⟨acc.toArray⟩ : ByteArray).size ≤ 9223372036854775807 := by
      have : (⟨acc.toArray⟩ : ByteArray).size = acc.length := by simp [ByteArray.size]
      omega
    cases s
    · rw [if_neg (by decide), if_neg (by decide)]; simp
    · rw [if_pos rfl, if_pos hsz, if_pos rfl]
      have := mk_app [45] acc
      exact congrArg some (this.trans (by simp))
  | succ d ih =>
    intro k n s acc h0 hk ha b0 b1
    obtain ⟨k, rfl⟩ : ∃ m, k = m + 1 := ⟨k - 1, by omega⟩
    have hsz : (⟨acc.toArray⟩ : ByteArray).size = acc.length := by simp [ByteArray.size]
    by_cases hn : n = 0
    · subst hn
      simp only [spec_Digits.l0]
      rw [if_pos trivial]
      have e0 : digs (Int.natAbs 0) = [] := rfl
      rw [e0]
      cases s
      · rw [if_neg (by decide), if_neg (by decide)]; simp
      · rw [if_pos rfl, if_pos (by omega), if_pos rfl]
        have := mk_app [45] acc
        exact congrArg some (this.trans (by simp))
    · simp only [spec_Digits.l0]
      rw [if_neg hn]
      have hu : n.natAbs ≠ 0 := by omega
      have hq : (wrap64 (Int.tdiv n 10)) = Int.tdiv n 10 := by
        have h1 : (Int.tdiv n 10).natAbs = n.natAbs / 10 := Int.natAbs_tdiv n 10
        unfold wrap64; omega
      have hqa : (Int.tdiv n 10).natAbs = n.natAbs / 10 := Int.natAbs_tdiv n 10
      have hqd : (Int.tdiv n 10).natAbs < 10 ^ d := by rw [hqa]; rw [Nat.pow_succ] at h0; omega
      have hqb : -9223372036854775808 ≤ Int.tdiv n 10 ∧ Int.tdiv n 10 ≤ 9223372036854775807 := by omega
      have hr : (Int.tmod n 10).natAbs = n.natAbs % 10 := Int.natAbs_tmod n 10
      have tail : ∀ y : ByteArray, y = ⟨#[UInt8.ofNat (48 + n.natAbs % 10)]⟩ → (if y.size + (⟨acc.toArray⟩ : ByteArray).size ≤ 9223372036854775807 then spec_Digits.l0 k (wrap64 (Int.tdiv n 10)) s (y ++ ⟨acc.toArray⟩) else none) = some ⟨((if s = true then [45] else []) ++ digs n.natAbs ++ acc).toArray⟩ := by
        intro y hy
        subst hy
        have e1 : (⟨#[UInt8.ofNat (48 + n.natAbs % 10)]⟩ : ByteArray).size = 1 := rfl
        have e2 : (⟨#[UInt8.ofNat (48 + n.natAbs % 10)]⟩ : ByteArray) ++ ⟨acc.toArray⟩ = ⟨(UInt8.ofNat (48 + n.natAbs % 10) :: acc).toArray⟩ := mk_app [UInt8.ofNat (48 + n.natAbs % 10)] acc
        rw [if_pos (by omega), e2, hq, ih k _ s _ hqd (by omega) (by simp only [List.length_cons]; omega) hqb.1 hqb.2, hqa, digs_step hu]
        simp
      by_cases c : Int.tmod n 10 < 0
      · rw [if_pos c]
        have e : wrap64 (-(Int.tmod n 10)) = ((n.natAbs % 10 : Nat) : Int) := by unfold wrap64; omega
        rw [e]
        exact tail _ (byte_of _ (by omega))
      · rw [if_neg c]
        have e : Int.tmod n 10 = ((n.natAbs % 10 : Nat) : Int) := by omega
        rw [e]
        exact tail _ (byte_of _ (by omega))
theorem spec_Digits_is (n : Int) (b0 : -9223372036854775808 ≤ n) (b1 : n ≤ 9223372036854775807) : spec_Digits.f 30 n = some ⟨(Go.Lib.itoa n).toArray⟩ := by
  unfold spec_Digits.f
  by_cases hn : n = 0
  · subst hn
    rw [if_pos rfl]
    rw [show Go.Lib.itoa 0 = [48] from by rw [show (0 : Int) = ((0 : Nat) : Int) from rfl, Go.Lib.itoa_nonneg, Go.Lib.decDigits_one (by decide)]; rfl]
  · rw [if_neg hn]
    have h := spec_Digits_l 20 30 n (decide (n < 0)) [] (by omega) (by decide) (by decide) b0 b1
    have e0 : (⟨#[]⟩ : ByteArray) = ⟨([] : List UInt8).toArray⟩ := rfl
    rw [e0, h]
    have ed : digs n.natAbs = Go.Lib.decDigits n.natAbs := by unfold digs; rw [if_neg (by omega)]
    rw [ed]
    unfold Go.Lib.itoa
    by_cases c : n < 0
    · rw [if_pos c, if_pos (decide_eq_true c)]; simp
    · rw [if_neg c, if_neg (by simpa using c)]
      have : n.toNat = n.natAbs := by omega
      rw [this]; simp

theorem spec_Digits_k (k : Nat) (hk : 20 < k) (n : Int) (b0 : -9223372036854775808 ≤ n) (b1 : n ≤ 9223372036854775807) : spec_Digits.f k n = some ⟨(Go.Lib.itoa n).toArray⟩ := by
  unfold spec_Digits.f
  by_cases hn : n = 0
  · subst hn
    rw [if_pos rfl]
    rw [show Go.Lib.itoa 0 = [48] from by rw [show (0 : Int) = ((0 : Nat) : Int) from rfl, Go.Lib.itoa_nonneg, Go.Lib.decDigits_one (by decide)]; rfl]
  · rw [if_neg hn]
    have h := spec_Digits_l 20 k n (decide (n < 0)) [] (by omega) hk (by decide) b0 b1
    have e0 : (⟨#[]⟩ : ByteArray) = ⟨([] : List UInt8).toArray⟩ := rfl
    rw [e0, h]
    have ed : digs n.natAbs = Go.Lib.decDigits n.natAbs := by unfold digs; rw [if_neg (by omega)]
    rw [ed]
    unfold Go.Lib.itoa
    by_cases c : n < 0
    · rw [if_pos c, if_pos (decide_eq_true c)]; simp
    · rw [if_neg c, if_neg (by simpa using c)]
      have : n.toNat = n.natAbs := by omega
      rw [this]; simp

theorem spec_FracText_is (n : Bool) (h l d : Int) (h0 : 0 ≤ h) (l0 : 0 ≤ l) (l1 : l < 18446744073709551616) (k : Nat) (hk : 60 ≤ k) : spec_FracText.f k n h l d = some ⟨(fracL n h l d).toArray⟩ := by
  unfold spec_FracText.f fracL
  rw [spec_FracOk_eq]
  simp only [Option.bind_some]
  by_cases w : (wok n h l && iin d 1 1000000) = true
  · rw [if_pos w, if_pos w]
    obtain ⟨a, b, d0, d1⟩ := fok_bound h0 l0 l1 w
    rw [spec_WideText_is n h l h0 l0 l1 k hk, if_pos a]
    simp only [Option.bind_some]
    have lw := wideL_len n _ b
    generalize wideL n (h * 18446744073709551616 + l).toNat = u at *
    have ld := itoa20 d (by omega) (by omega)
    have e47 : (⟨#[47]⟩ : ByteArray) = ⟨([47] : List UInt8).toArray⟩ := rfl
    rw [mkz, if_pos (by omega), spec_Digits_k k (by omega) d (by omega) (by omega)]
    simp only [Option.bind_some]
    rw [e47, mk_app, mkz, mkz, List.length_append, List.length_singleton, if_pos (by omega), mk_app]
    simp
  · rw [if_neg w, if_neg w]

theorem FnExactFracText (n : Bool) (h l d : Int) (w1 : (Lit.int .u64 h).wf = true) (w2 : (Lit.int .u64 l).wf = true) (_ : (Lit.int .i64 d).wf = true) : ∃ k, laws_FnExactFracText.f k n h l d = some true := by
  have ⟨h0, h1⟩ := wfu64 w1
  have ⟨l0, l1⟩ := wfu64 w2
  refine ⟨60, ?_⟩
  unfold laws_FnExactFracText.f laws_toFrac.f laws_toWide.f
  simp only [Option.bind_some]
  rw [spec_FracText_is n h l d h0 l0 l1 60 (by omega), impl_FracText_is n h l d h0 l0 l1 60 (by omega)]
  simp

end Go.Proofs.YtpcglglfegkdaaaDoor.Pure
