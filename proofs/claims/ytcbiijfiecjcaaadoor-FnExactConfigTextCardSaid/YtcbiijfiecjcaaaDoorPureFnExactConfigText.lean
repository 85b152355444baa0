/- Settings as text: program and reference give the same bytes. Conditions: each number is one of its kind, as the row says. -/
import Derived.Test.YtcbiijfiecjcaaaDoorPFnExactConfigTextx
import Derived.Test.YtcbiijfiecjcaaaDoorBase
import Derived.Lib.ItoaNum
set_option linter.unusedSimpArgs false
set_option linter.unusedVariables false
namespace Go.Proofs.YtcbiijfiecjcaaaDoor.Pure
open Go.RowKit Go.Proofs.YtcbiijfiecjcaaaDoor.Base Go.Proofs.YtcbiijfiecjcaaaDoor.PFnExactConfigText Go.Proofs.YtcbiijfiecjcaaaDoorW.PrintWords Go.Proofs.YtcbiijfiecjcaaaDoorW.PrintLast Go.Proofs.YtcbiijfiecjcaaaDoorW.PrintMore

theorem toIntS_loop (l : List Int) (hl : l.length ≤ 17592186044416) (d : Nat) : ∀ (k : Nat) (x : List Int) (i : Int), 0 ≤ i → i ≤ l.length → (l.length : Int) - i = d → d < k → x.length = l.length → (∀ j : Nat, (j : Int) < i → x[j]? = l[j]?) → laws_toIntS.l0 k l x i = some l := by
  induction d with
  | zero =>
    intro k x i h0 h1 hd hk hx hj
    obtain ⟨k, rfl⟩ : ∃ m, k = m + 1 := ⟨k - 1, by omega⟩
    simp only [laws_toIntS.l0]
    rw [if_neg (by omega)]
    congr 1
    apply List.ext_getElem?
    intro j
    by_cases c : (j : Int) < i
    · exact hj j c
    · rw [List.getElem?_eq_none (by omega), List.getElem?_eq_none (by omega)]
  | succ d ih =>
    intro k x i h0 h1 hd hk hx hj
    obtain ⟨k, rfl⟩ : ∃ m, k = m + 1 := ⟨k - 1, by omega⟩
    simp only [laws_toIntS.l0]
    rw [if_pos (by omega), if_pos h0, if_pos (by omega), w64_id (n := i + 1) (by omega) (by omega)]
    refine ih k _ (i + 1) (by omega) (by omega) (by omega) (by omega) (by simp [hx]) ?_
    intro j hji
    by_cases c : j = i.toNat
    · subst c
      rw [List.getElem?_set_self (by omega)]
      unfold rd
      rw [List.getD_eq_getElem?_getD, List.getElem?_eq_getElem (by omega)]
      simp
    · rw [List.getElem?_set_ne (fun h => c h.symm)]
      exact hj j (by omega)
theorem laws_toIntS_eq (l : List Int) (hl : l.length ≤ 17592186044416) (k : Nat) (hk : l.length < k) : laws_toIntS.f k l = some l := by
  unfold laws_toIntS.f
  rw [if_pos (by omega), if_pos (by omega)]
  exact toIntS_loop l hl l.length k _ 0 (by omega) (by omega) (by omega) hk (by simp) (fun j hj => absurd hj (by omega))

theorem eqIntS_loop (l : List Int) (hl : l.length ≤ 140737488351232) (d : Nat) : ∀ (k : Nat) (i : Int), 0 ≤ i → i ≤ l.length → (l.length : Int) - i = d → d < k → laws_eqIntS.l0 k l l i = some true := by
  induction d with
  | zero =>
    intro k i h0 h1 hd hk
    obtain ⟨k, rfl⟩ : ∃ m, k = m + 1 := ⟨k - 1, by omega⟩
    simp only [laws_eqIntS.l0]
    rw [if_neg (by omega)]
  | succ d ih =>
    intro k i h0 h1 hd hk
    obtain ⟨k, rfl⟩ : ∃ m, k = m + 1 := ⟨k - 1, by omega⟩
    simp only [laws_eqIntS.l0]
    rw [if_pos (by omega), if_pos h0, if_pos (by omega), if_pos trivial, w64_id (n := i + 1) (by omega) (by omega)]
    exact ih k (i + 1) (by omega) (by omega) (by omega) (by omega)
theorem laws_eqIntS_self (l : List Int) (hl : l.length ≤ 140737488351232) (k : Nat) (hk : l.length < k) : laws_eqIntS.f k l l = some true := by
  unfold laws_eqIntS.f
  rw [if_pos rfl]
  exact eqIntS_loop l hl l.length k 0 (by omega) (by omega) (by omega) hk

theorem laws_toConfig_eq (a b c d e g h : Int) (l : List Int) (hl : l.length ≤ 17592186044416) (k : Nat) (hk : l.length < k) : laws_toConfig.f k a b c d e g h l = some (a, b, c, d, e, g, h, l) := by
  unfold laws_toConfig.f
  rw [laws_toIntS_eq l hl k hk]; rfl
theorem laws_eqConfig_self (a b c d e g h : Int) (l : List Int) (hl : l.length ≤ 140737488351232) (k : Nat) (hk : l.length < k) : laws_eqConfig.f k a b c d e g h l a b c d e g h l = some true := by
  unfold laws_eqConfig.f
  rw [laws_eqIntS_self l hl k hk]
  simp
theorem laws_szConfig_eq (a b c d e g h : Int) (l : List Int) (hl : l.length ≤ 9223372036854775807) : laws_szConfig.f a b c d e g h l 1048576 = some (if (1048576 : Int) - l.length < 0 then (-1 : Int) else (1048576 : Int) - l.length) := by
  unfold laws_szConfig.f laws_szIntS.f
  rw [w64_id (n := 1048576 - (l.length : Int)) (by omega) (by omega)]
  by_cases c : (1048576 : Int) - l.length < 0
  · rw [if_pos c, if_pos c]; rfl
  · rw [if_neg c, if_neg c]; simp only [Option.bind_some]; rw [if_neg c]

/-- The last k digits of a number, noughts ahead. -/
def padD : Nat → Nat → List UInt8
  | 0, _ => []
  | k + 1, b => padD k (b / 10) ++ [UInt8.ofNat (48 + b % 10)]
theorem padD_len : ∀ (k b : Nat), (padD k b).length = k
  | 0, _ => rfl
  | k + 1, b => by simp [padD, padD_len k]
theorem dec_pad (k : Nat) : ∀ (a b : Nat), 0 < a → b < 10 ^ k → Go.Lib.decDigits (a * 10 ^ k + b) = Go.Lib.decDigits a ++ padD k b := by
  induction k with
  | zero => intro a b ha hb; have : b = 0 := by simpa using hb
            subst this; simp [padD]
  | succ k ih =>
    intro a b ha hb
    have e : a * 10 ^ (k + 1) = a * 10 ^ k * 10 := by rw [Nat.pow_succ, Nat.mul_assoc]
    rw [Nat.pow_succ] at hb
    have h10 : 1 ≤ 10 ^ k := Nat.pos_of_ne_zero (by simp)
    have hm : a * 10 ^ k ≥ 1 := Nat.mul_pos ha h10
    have h := ih a (b / 10) ha (by omega)
    rw [e]
    generalize a * 10 ^ k = z at *
    rw [Go.Lib.decDigits, dif_neg (by omega)]
    have e1 : (z * 10 + b) / 10 = z + b / 10 := by omega
    have e2 : (z * 10 + b) % 10 = b % 10 := by omega
    rw [e1, e2, h, padD, List.append_assoc]
theorem padD_zero : ∀ k, padD k 0 = List.replicate k 48
  | 0 => rfl
  | k + 1 => by rw [padD, show (0:Nat)/10 = 0 from rfl, padD_zero k, List.replicate_succ']; rfl
theorem padD_eq (k : Nat) : ∀ b, 0 < k → b < 10 ^ k → padD k b = List.replicate (k - (Go.Lib.decDigits b).length) 48 ++ Go.Lib.decDigits b := by
  induction k with
  | zero => intro b h; omega
  | succ k ih =>
    intro b _ hb
    by_cases c : b < 10
    · rw [Go.Lib.decDigits, dif_pos c, padD]
      have e1 : b / 10 = 0 := by omega
      have e2 : b % 10 = b := by omega
      rw [e1, e2, padD_zero]; rfl
    · rw [Nat.pow_succ] at hb
      have hk : 0 < k := by
        rcases Nat.eq_zero_or_pos k with h | h
        · subst h; simp at hb; omega
        · exact h
      rw [Go.Lib.decDigits, dif_neg c, padD, ih (b / 10) hk (by omega)]
      simp [Nat.add_sub_add_right]
theorem dec_len_le (k : Nat) : ∀ b, 0 < k → b < 10 ^ k → (Go.Lib.decDigits b).length ≤ k := by
  intro b hk hb
  have h := padD_len k b
  rw [padD_eq k b hk hb] at h
  simp at h
  omega

theorem itoa20 (v : Int) (h0 : -9223372036854775808 ≤ v) (h1 : v ≤ 9223372036854775807) : (Go.Lib.itoa v).length ≤ 20 := by
  unfold Go.Lib.itoa
  by_cases c : v < 0
  · rw [if_pos c]
    have := dec_len_le 19 v.natAbs (by decide) (by omega)
    simp only [List.length_cons]; omega
  · rw [if_neg c]
    have := dec_len_le 19 v.toNat (by decide) (by omega)
    omega

/-- The decimal digits of a number, none for 0. -/
def digs (u : Nat) : List UInt8 := if u = 0 then [] else Go.Lib.decDigits u
theorem digs_step {u : Nat} (h : u ≠ 0) : digs u = digs (u / 10) ++ [UInt8.ofNat (48 + u % 10)] := by
  unfold digs
  rw [if_neg h]
  by_cases c : u < 10
  · rw [Go.Lib.decDigits_one c, if_pos (by omega)]
    have : u % 10 = u := Nat.mod_eq_of_lt c
    rw [this]; rfl
  · rw [Go.Lib.decDigits, dif_neg c, if_neg (by omega)]
theorem byte_of (n : Nat) (h : n < 10) : strOfNums [(wrap64 (48 + (n : Int))) % 256] = ⟨#[UInt8.ofNat (48 + n)]⟩ := by
  have e : (wrap64 (48 + (n : Int))) % 256 = ((48 + n : Nat) : Int) := by unfold wrap64; omega
  rw [e]
  rfl
theorem mk_app (a b : List UInt8) : (⟨a.toArray⟩ : ByteArray) ++ ⟨b.toArray⟩ = ⟨(a ++ b).toArray⟩ := by
  apply ByteArray.ext
  simp

theorem spec_l1In_eq (a b c : Int) : spec_l1In.f a b c = some (iin a b c) := by
  unfold spec_l1In.f iin
  by_cases h : a ≥ b
  · rw [if_pos h]; simp [show b ≤ a from h]
  · rw [if_neg h]; simp [show ¬ b ≤ a from h]

theorem inR_iin (a lo hi : Int) : impl_ConfigOk.inR a lo hi = iin a lo hi := by
  unfold impl_ConfigOk.inR iin
  by_cases c : lo ≤ a
  · by_cases d : a ≤ hi
    · rw [decide_eq_true ⟨c, d⟩]; simp [c, d]
    · rw [decide_eq_false (fun h => d h.2)]; simp [d]
  · rw [decide_eq_false (fun h => c h.1)]; simp [c]
theorem rd_nat (l : List Int) (i : Nat) (h : i < l.length) : rd l (i : Int) = l[i] := by
  unfold rd
  rw [Int.toNat_natCast, List.getD_eq_getElem?_getD, List.getElem?_eq_getElem h]
  rfl
theorem spec_ConfigOk_l1 (a b c d e g h : Int) (l : List Int) (hl : l.length ≤ 140737488351232) (m : Nat) : ∀ (k i : Nat), i ≤ l.length → l.length - i = m → m < k →
    spec_ConfigOk.l1 k (i : Int) a b c d e g h l = some (!((l.drop i).any (fun n => !impl_ConfigOk.sgn n)) && impl_ConfigOk.inR h 1 1000 && impl_ConfigOk.inR g 1 h && decide (l.length ≤ 4)) := by
  induction m with
  | zero =>
    intro k i hi hm hk
    obtain ⟨k, rfl⟩ : ∃ m, k = m + 1 := ⟨k - 1, by omega⟩
    simp only [spec_ConfigOk.l1]
    rw [if_neg (by omega), spec_l1In_eq, spec_l1In_eq, List.drop_eq_nil_of_le (by omega), inR_iin, inR_iin]
    simp only [Option.bind_some, List.any_nil, Bool.not_false, Bool.true_and]
    have e4 : decide ((l.length : Int) ≤ 4) = decide (l.length ≤ 4) := decide_eq_decide.2 (by omega)
    rw [e4]
    cases iin h 1 1000 <;> cases iin g 1 h <;> simp
  | succ m ih =>
    intro k i hi hm hk
    obtain ⟨k, rfl⟩ : ∃ m, k = m + 1 := ⟨k - 1, by omega⟩
    have hlt : i < l.length := by omega
    simp only [spec_ConfigOk.l1]
    rw [if_pos (by omega), if_pos (by omega), rd_nat l i hlt, spec_l1In_eq, w64_id (n := (i : Int) + 1) (by omega) (by omega), List.drop_eq_getElem_cons hlt]
    simp only [Option.bind_some, List.any_cons]
    have es : impl_ConfigOk.sgn l[i] = iin l[i] (-1) 1 := inR_iin _ _ _
    rw [es]
    cases iin l[i] (-1) 1
    · simp
    · rw [if_pos rfl, show (i : Int) + 1 = ((i + 1 : Nat) : Int) from rfl, ih k (i + 1) (by omega) (by omega) (by omega)]
      simp
theorem spec_ConfigOk_one (a b c d e a' b' c' d' e' g h x lo hi : Int) (i : Nat) (l : List Int) (k : Nat) (h5 : i < 5) (hx : rd [a', b', c', d', e'] (i : Int) = x) (hlo : rd [1, 0, 2, 1, 1] (i : Int) = lo) (hhi : rd [8, 4, 8, 100, 20] (i : Int) = hi) :
    spec_ConfigOk.l0 (k + 1) [a', b', c', d', e'] (i : Int) a b c d e g h l = if iin x lo hi = true then spec_ConfigOk.l0 k [a', b', c', d', e'] ((i + 1 : Nat) : Int) a b c d e g h l else some false := by
  simp only [spec_ConfigOk.l0, spec_l8Least.f, spec_l8Most.f, Option.bind_some]
  rw [if_pos (by omega), if_pos (by omega), if_pos (by simp; omega), if_pos (by simp; omega), if_pos (by simp; omega), hx, hlo, hhi, spec_l1In_eq, w64_id (n := (i : Int) + 1) (by omega) (by omega)]
  rfl
theorem spec_ConfigOk_is (a b c d e g h : Int) (l : List Int) (hl : l.length ≤ 140737488351232) (k : Nat) (hk : l.length + 7 < k) : spec_ConfigOk.f k a b c d e g h l = some (impl_ConfigOk.ok a b c d e g h l) := by
  obtain ⟨k, rfl⟩ : ∃ m, k = m + 6 := ⟨k - 6, by omega⟩
  unfold spec_ConfigOk.f spec_l8Numbers.f
  simp only [Option.bind_some]
  have e0 := spec_ConfigOk_one a b c d e a b c d e g h a 1 8 0 l (k + 5) (by omega) rfl rfl rfl
  have e1 := spec_ConfigOk_one a b c d e a b c d e g h b 0 4 1 l (k + 4) (by omega) rfl rfl rfl
  have e2 := spec_ConfigOk_one a b c d e a b c d e g h c 2 8 2 l (k + 3) (by omega) rfl rfl rfl
  have e3 := spec_ConfigOk_one a b c d e a b c d e g h d 1 100 3 l (k + 2) (by omega) rfl rfl rfl
  have e4 := spec_ConfigOk_one a b c d e a b c d e g h e 1 20 4 l (k + 1) (by omega) rfl rfl rfl
  have e5 := spec_ConfigOk_l1 a b c d e g h l hl l.length k 0 (by omega) (by omega) (by omega)
  have e6 : spec_ConfigOk.l0 (k + 1) [a, b, c, d, e] ((5 : Nat) : Int) a b c d e g h l = spec_ConfigOk.l1 k 0 a b c d e g h l := by
    simp only [spec_ConfigOk.l0]
    rw [if_neg (by omega)]
  rw [show ((0 : Nat) : Int) = (0 : Int) from rfl] at e0 e5
  rw [e0, e1, e2, e3, e4, e6, e5, List.drop_zero]
  unfold impl_ConfigOk.ok
  rw [inR_iin, inR_iin, inR_iin, inR_iin, inR_iin, inR_iin, inR_iin]
  cases iin a 1 8 <;> cases iin b 0 4 <;> cases iin c 2 8 <;> cases iin d 1 100 <;> cases iin e 1 20 <;> cases iin h 1 1000 <;> cases iin g 1 h <;> cases decide (l.length ≤ 4) <;> simp

theorem join_snoc (sep x : List UInt8) : ∀ xs : List (List UInt8), xs ≠ [] → Go.Lib.join (xs ++ [x]) sep = Go.Lib.join xs sep ++ (sep ++ x)
  | [], h => absurd rfl h
  | a :: r, _ => by
    rw [List.cons_append, Go.Lib.join_cons, Go.Lib.join_cons]
    simp [Go.Lib.joinTail]
theorem bytes_nums (s : ByteArray) : bytesOf s = s.data.toList.map (fun b => ((b.toNat : Nat) : Int)) := by
  unfold bytesOf
  rfl
theorem nums_str (l : List UInt8) : strOfNums (l.map (fun b => ((b.toNat : Nat) : Int))) = ⟨l.toArray⟩ := by
  unfold strOfNums
  rw [List.map_map]
  have e : l.map ((fun n => UInt8.ofNat (Int.toNat n)) ∘ fun b => ((b.toNat : Nat) : Int)) = l := by
    conv => rhs; rw [← List.map_id l]
    apply List.map_congr_left
    intro b _
    simp
  rw [e]
def numsOf (l : List UInt8) : List Int := l.map (fun b => ((b.toNat : Nat) : Int))
theorem spec_Joined_l (l : List ByteArray) (by_ : ByteArray) (hl : l.length ≤ 1048576) (hb : by_.size ≤ 1048576) (hs : ∀ s ∈ l, s.size ≤ 1048576) (d : Nat) : ∀ (k i : Nat), i ≤ l.length → l.length - i = d → d < k → (Go.Lib.join ((l.take i).map (fun x => x.data.toList)) by_.data.toList).length ≤ i * 2097152 →
    spec_Joined.l0 k l by_ (numsOf (Go.Lib.join ((l.take i).map (fun x => x.data.toList)) by_.data.toList)) (i : Int) = some ⟨(Go.Lib.join (l.map (fun x => x.data.toList)) by_.data.toList).toArray⟩ := by
  induction d with
  | zero =>
    intro k i hi hd hk _
    obtain ⟨k, rfl⟩ : ∃ m, k = m + 1 := ⟨k - 1, by omega⟩
    simp only [spec_Joined.l0]
    rw [if_neg (by omega), List.take_of_length_le (by omega)]
    unfold numsOf
    rw [nums_str]
  | succ d ih =>
    intro k i hi hd hk hj
    obtain ⟨k, rfl⟩ : ∃ m, k = m + 1 := ⟨k - 1, by omega⟩
    have hlt : i < l.length := by omega
    have hg : rdOf ByteArray.empty l (i : Int) = l[i] := by
      unfold rdOf; simp [List.getD, hlt]
    have hz := hs l[i] (List.getElem_mem hlt)
    have ht : (l.take (i + 1)).map (fun x => x.data.toList) = (l.take i).map (fun x => x.data.toList) ++ [(l[i]).data.toList] := by
      rw [List.take_add_one, List.getElem?_eq_getElem hlt, List.map_append]; rfl
    have hzb : by_.data.toList.length = by_.size := by rw [Array.length_toList]; rfl
    have hzi : (l[i]).data.toList.length = (l[i]).size := by rw [Array.length_toList]; rfl
    have im : i * 2097152 ≤ 1048576 * 2097152 := Nat.mul_le_mul_right _ (by omega)
    simp only [spec_Joined.l0]
    rw [if_pos (by omega), hg, w64_id (n := (i : Int) + 1) (by omega) (by omega), show (i : Int) + 1 = ((i + 1 : Nat) : Int) from rfl]
    by_cases z : i = 0
    · subst z
      rw [if_neg (by omega), if_pos (by omega)]
      have e0 : numsOf (Go.Lib.join ((l.take 0).map (fun x => x.data.toList)) by_.data.toList) = [] := by simp [numsOf, Go.Lib.join_nil]
      rw [e0]
      rw [if_pos (by simp; omega)]
      have e1 : ([] : List Int) ++ bytesOf l[0] = numsOf (Go.Lib.join ((l.take (0 + 1)).map (fun x => x.data.toList)) by_.data.toList) := by
        rw [ht]
        simp [Go.Lib.join_one, numsOf, bytes_nums]
      rw [e1]
      refine ih k (0 + 1) (by omega) (by omega) (by omega) ?_
      rw [ht]
      simp only [List.take_zero, List.map_nil, List.nil_append, Go.Lib.join_one]
      exact Nat.le_trans (by rw [hzi]; exact hz) (by decide)
    · have hne : (l.take i).map (fun x => x.data.toList) ≠ [] := by
        intro h
        have := congrArg List.length h
        rw [List.length_map, List.length_take, List.length_nil] at this
        omega
      have hn : (numsOf (Go.Lib.join ((l.take i).map (fun x => x.data.toList)) by_.data.toList)).length = (Go.Lib.join ((l.take i).map (fun x => x.data.toList)) by_.data.toList).length := by simp [numsOf]
      rw [if_pos (by omega), if_pos (by rw [hn]; omega)]
      simp only [Option.bind_some]
      have hbl : (bytesOf by_).length = by_.size := by rw [bytesOf_length]
      rw [if_pos (by omega), if_pos (by rw [List.length_append, hn, hbl]; omega)]
      have e1 : numsOf (Go.Lib.join ((l.take i).map (fun x => x.data.toList)) by_.data.toList) ++ bytesOf by_ ++ bytesOf l[i] = numsOf (Go.Lib.join ((l.take (i + 1)).map (fun x => x.data.toList)) by_.data.toList) := by
        rw [ht, join_snoc _ _ _ hne]
        simp [numsOf, bytes_nums]
      rw [e1]
      refine ih k (i + 1) (by omega) (by omega) (by omega) ?_
      rw [ht, join_snoc _ _ _ hne]
      simp only [List.length_append]
      omega
theorem spec_Joined_is (l : List ByteArray) (by_ : ByteArray) (hl : l.length ≤ 1048576) (hb : by_.size ≤ 1048576) (hs : ∀ s ∈ l, s.size ≤ 1048576) (k : Nat) (hk : l.length < k) : spec_Joined.f k l by_ = some ⟨(Go.Lib.join (l.map (fun x => x.data.toList)) by_.data.toList).toArray⟩ := by
  unfold spec_Joined.f
  have h := spec_Joined_l l by_ hl hb hs l.length k 0 (by omega) (by omega) hk (by simp [Go.Lib.join_nil])
  simpa [numsOf, Go.Lib.join_nil] using h

def bC (l : List UInt8) : ByteArray := ⟨l.toArray⟩
theorem bC_size (l : List UInt8) : (bC l).size = l.length := by
  show l.toArray.size = _
  simp
theorem bC_list (l : List UInt8) : (bC l).data.toList = l := by simp [bC]
theorem bC_app (a b : List UInt8) : bC a ++ bC b = bC (a ++ b) := mk_app a b
theorem bC_lit (l : List UInt8) : (⟨l.toArray⟩ : ByteArray) = bC l := rfl
/-- A sign's letter. -/
def sw (n : Int) : List UInt8 := if n = -1 then [45] else if n = 0 then [48] else [43]
theorem sw_len (n : Int) : (sw n).length = 1 := by
  unfold sw
  split
  · rfl
  · split <;> rfl
def sgT (l : List Int) : List UInt8 := if l.length = 0 then [] else [115, 105, 103, 110, 115, 61] ++ (Go.Lib.join (l.map sw) [44] ++ [10])
def cfgT (a b c d e g h : Int) (l : List Int) : List UInt8 :=
  [114, 111, 117, 110, 100, 115, 61] ++ (Go.Lib.itoa a ++ ([10, 100, 101, 112, 116, 104, 61] ++ (Go.Lib.itoa b ++ ([10, 98, 105, 110, 115, 61] ++ (Go.Lib.itoa c ++ ([10, 108, 97, 109, 98, 100, 97, 61] ++ (Go.Lib.itoa d ++ ([10, 114, 111, 119, 115, 61] ++ (Go.Lib.itoa e ++ ([10, 114, 97, 116, 101, 61] ++ (Go.Lib.itoa g ++ ([47] ++ (Go.Lib.itoa h ++ ([10] ++ sgT l))))))))))))))
theorem ok_signs {a b c d e g h : Int} {l : List Int} (o : impl_ConfigOk.ok a b c d e g h l = true) : l.length ≤ 4 ∧ ∀ n ∈ l, -1 ≤ n ∧ n ≤ 1 := by
  unfold impl_ConfigOk.ok at o
  simp only [Bool.and_eq_true, decide_eq_true_eq, Bool.not_eq_true', List.any_eq_false, Bool.not_eq_true, Bool.not_eq_false'] at o
  refine ⟨o.1.2, fun n q => ?_⟩
  have := o.2 n q
  unfold impl_ConfigOk.sgn impl_ConfigOk.inR at this
  simpa using this
theorem sjoin_len : ∀ l : List Int, (Go.Lib.join (l.map sw) [44]).length ≤ 2 * l.length
  | [] => by simp [Go.Lib.join_nil]
  | [x] => by rw [List.map_cons, List.map_nil, Go.Lib.join_one, sw_len]; simp
  | x :: y :: r => by
    have ih := sjoin_len (y :: r)
    rw [List.map_cons, List.map_cons, Go.Lib.join_cons]
    rw [List.map_cons, Go.Lib.join_cons] at ih
    have hx := sw_len x
    simp only [Go.Lib.joinTail, List.map_cons, List.flatten_cons, List.length_append, List.length_cons, List.length_nil] at ih ⊢
    omega
theorem wm0 : wrap64 (-1 + 1) = 0 := w64_id (n := -1 + 1) (by omega) (by omega)
theorem wm1 : wrap64 (-1 + 2) = 1 := w64_id (n := -1 + 2) (by omega) (by omega)
theorem wz1 : wrap64 (0 + 1) = 1 := w64_id (n := 0 + 1) (by omega) (by omega)
theorem wz2 : wrap64 (0 + 2) = 2 := w64_id (n := 0 + 2) (by omega) (by omega)
theorem wp2 : wrap64 (1 + 1) = 2 := w64_id (n := 1 + 1) (by omega) (by omega)
theorem wp3 : wrap64 (1 + 2) = 3 := w64_id (n := 1 + 2) (by omega) (by omega)
theorem sw_list (l : List Int) : (l.map (fun n => bC (sw n))).map (fun x => x.data.toList) = l.map sw := by
  rw [List.map_map]
  apply List.map_congr_left
  intro n _
  show (bC (sw n)).data.toList = sw n
  rw [bC_list]
theorem sw_sum (l : List Int) : ((l.map (fun n => bC (sw n))).map ByteArray.size).sum = l.length := by
  induction l with
  | nil => rfl
  | cons a t ih => simp only [List.map_cons, List.sum_cons, ih, bC_size, sw_len, List.length_cons]; omega
theorem bsz2_ (a : Array UInt8) : (ByteArray.mk a).size = a.size := rfl

theorem spec_Digits_l (d : Nat) : ∀ (k : Nat) (n : Int) (s : Bool) (acc : List UInt8), n.natAbs < 10 ^ d → d < k → d + acc.length ≤ 40 → -9223372036854775808 ≤ n → n ≤ 9223372036854775807 →
    spec_Digits.l0 k n s ⟨acc.toArray⟩ = some ⟨((if s = true then [45] else []) ++ digs n.natAbs ++ acc).toArray⟩ := by
  induction d with
  | zero =>
    intro k n s acc h0 hk ha _ _
    obtain ⟨k, rfl⟩ : ∃ m, k = m + 1 := ⟨k - 1, by omega⟩
    have hn : n = 0 := by simp at h0; omega
    subst hn
    simp only [spec_Digits.l0]
    rw [if_pos trivial]
    have e0 : digs (Int.natAbs 0) = [] := rfl
    rw [e0]
    have hsz : 1 + (⟨acc.toArray⟩ : ByteArray).size ≤ 9223372036854775807 := by
      have : (⟨acc.toArray⟩ : ByteArray).size = acc.length := by simp [ByteArray.size]
      omega
    cases s
    · rw [if_neg (by decide), if_neg (by decide)]; simp
    · rw [if_pos rfl, if_pos hsz, if_pos rfl]
      have := mk_app [45] acc
      exact congrArg some (this.trans (by simp))
  | succ d ih =>
    intro k n s acc h0 hk ha b0 b1
    obtain ⟨k, rfl⟩ : ∃ m, k = m + 1 := ⟨k - 1, by omega⟩
    have hsz : (⟨acc.toArray⟩ : ByteArray).size = acc.length := by simp [ByteArray.size]
    by_cases hn : n = 0
    · subst hn
      simp only [spec_Digits.l0]
      rw [if_pos trivial]
      have e0 : digs (Int.natAbs 0) = [] := rfl
      rw [e0]
      cases s
      · rw [if_neg (by decide), if_neg (by decide)]; simp
      · rw [if_pos rfl, if_pos (by omega), if_pos rfl]
        have := mk_app [45] acc
        exact congrArg some (this.trans (by simp))
    · simp only [spec_Digits.l0]
      rw [if_neg hn]
      have hu : n.natAbs ≠ 0 := by omega
      have hq : (wrap64 (Int.tdiv n 10)) = Int.tdiv n 10 := by
        have h1 : (Int.tdiv n 10).natAbs = n.natAbs / 10 := Int.natAbs_tdiv n 10
        unfold wrap64; omega
      have hqa : (Int.tdiv n 10).natAbs = n.natAbs / 10 := Int.natAbs_tdiv n 10
      have hqd : (Int.tdiv n 10).natAbs < 10 ^ d := by rw [hqa]; rw [Nat.pow_succ] at h0; omega
      have hqb : -9223372036854775808 ≤ Int.tdiv n 10 ∧ Int.tdiv n 10 ≤ 9223372036854775807 := by omega
      have hr : (Int.tmod n 10).natAbs = n.natAbs % 10 := Int.natAbs_tmod n 10
      have tail : ∀ y : ByteArray, y = ⟨#[UInt8.ofNat (48 + n.natAbs % 10)]⟩ → (if y.size + (⟨acc.toArray⟩ : ByteArray).size ≤ 9223372036854775807 then spec_Digits.l0 k (wrap64 (Int.tdiv n 10)) s (y ++ ⟨acc.toArray⟩) else none) = some ⟨((if s = true then [45] else []) ++ digs n.natAbs ++ acc).toArray⟩ := by
        intro y hy
        subst hy
        have e1 : (⟨#[UInt8.ofNat (48 + n.natAbs % 10)]⟩ : ByteArray).size = 1 := rfl
        have e2 : (⟨#[UInt8.ofNat (48 + n.natAbs % 10)]⟩ : ByteArray) ++ ⟨acc.toArray⟩ = ⟨(UInt8.ofNat (48 + n.natAbs % 10) :: acc).toArray⟩ := mk_app [UInt8.ofNat (48 + n.natAbs % 10)] acc
        rw [if_pos (by omega), e2, hq, ih k _ s _ hqd (by omega) (by simp only [List.length_cons]; omega) hqb.1 hqb.2, hqa, digs_step hu]
        simp
      by_cases c : Int.tmod n 10 < 0
      · rw [if_pos c]
        have e : wrap64 (-(Int.tmod n 10)) = ((n.natAbs % 10 : Nat) : Int) := by unfold wrap64; omega
        rw [e]
        exact tail _ (byte_of _ (by omega))
      · rw [if_neg c]
        have e : Int.tmod n 10 = ((n.natAbs % 10 : Nat) : Int) := by omega
        rw [e]
        exact tail _ (byte_of _ (by omega))
theorem spec_Digits_is (n : Int) (b0 : -9223372036854775808 ≤ n) (b1 : n ≤ 9223372036854775807) : spec_Digits.f 30 n = some ⟨(Go.Lib.itoa n).toArray⟩ := by
  unfold spec_Digits.f
  by_cases hn : n = 0
  · subst hn
    rw [if_pos rfl]
    rw [show Go.Lib.itoa 0 = [48] from by rw [show (0 : Int) = ((0 : Nat) : Int) from rfl, Go.Lib.itoa_nonneg, Go.Lib.decDigits_one (by decide)]; rfl]
  · rw [if_neg hn]
    have h := spec_Digits_l 20 30 n (decide (n < 0)) [] (by omega) (by decide) (by decide) b0 b1
    have e0 : (⟨#[]⟩ : ByteArray) = ⟨([] : List UInt8).toArray⟩ := rfl
    rw [e0, h]
    have ed : digs n.natAbs = Go.Lib.decDigits n.natAbs := by unfold digs; rw [if_neg (by omega)]
    rw [ed]
    unfold Go.Lib.itoa
    by_cases c : n < 0
    · rw [if_pos c, if_pos (decide_eq_true c)]; simp
    · rw [if_neg c, if_neg (by simpa using c)]
      have : n.toNat = n.natAbs := by omega
      rw [this]; simp

theorem spec_Digits_k (k : Nat) (hk : 20 < k) (n : Int) (b0 : -9223372036854775808 ≤ n) (b1 : n ≤ 9223372036854775807) : spec_Digits.f k n = some ⟨(Go.Lib.itoa n).toArray⟩ := by
  unfold spec_Digits.f
  by_cases hn : n = 0
  · subst hn
    rw [if_pos rfl]
    rw [show Go.Lib.itoa 0 = [48] from by rw [show (0 : Int) = ((0 : Nat) : Int) from rfl, Go.Lib.itoa_nonneg, Go.Lib.decDigits_one (by decide)]; rfl]
  · rw [if_neg hn]
    have h := spec_Digits_l 20 k n (decide (n < 0)) [] (by omega) hk (by decide) b0 b1
    have e0 : (⟨#[]⟩ : ByteArray) = ⟨([] : List UInt8).toArray⟩ := rfl
    rw [e0, h]
    have ed : digs n.natAbs = Go.Lib.decDigits n.natAbs := by unfold digs; rw [if_neg (by omega)]
    rw [ed]
    unfold Go.Lib.itoa
    by_cases c : n < 0
    · rw [if_pos c, if_pos (decide_eq_true c)]; simp
    · rw [if_neg c, if_neg (by simpa using c)]
      have : n.toNat = n.natAbs := by omega
      rw [this]; simp

theorem spec_ConfigText_one (o w : List UInt8) (xs : List Int) (i : Nat) (hi : i < 5) (hx : xs.length = 5) (ho : o.length ≤ 1000) (hw : ∀ ws, spec_l8Words.f = some ws → rdOf ByteArray.empty ws (i : Int) = bC w) (hwl : w.length ≤ 6) (n : Int) (hn : rd xs (i : Int) = n) (h0 : -9223372036854775808 ≤ n) (h1 : n ≤ 9223372036854775807) (a b c d e g h : Int) (l : List Int) (k : Nat) (hk : 20 < k) :
    spec_ConfigText.l0 (k + 1) (bC o) xs (i : Int) a b c d e g h l = spec_ConfigText.l0 k (bC (o ++ (w ++ ([61] ++ (Go.Lib.itoa n ++ [10]))))) xs ((i + 1 : Nat) : Int) a b c d e g h l := by
  have z := itoa20 n h0 h1
  have hD := spec_Digits_k k hk n h0 h1
  have i0 : (0 : Int) ≤ (i : Int) := Int.natCast_nonneg i
  have i1 : (i : Int) < 5 := by omega
  have i2 : (i : Int) < (xs.length : Int) := by omega
  have w1 : wrap64 ((i : Int) + 1) = ((i + 1 : Nat) : Int) := w64_id (n := (i : Int) + 1) (by omega) (by omega)
  obtain ⟨ws, hws⟩ : ∃ ws, spec_l8Words.f = some ws := ⟨_, rfl⟩
  have i3 : (i : Int) < (ws.length : Int) := by
    have : ws.length = 7 := by unfold spec_l8Words.f at hws; rw [← Option.some.inj hws]; rfl
    omega
  have hr := hw ws hws
  clear w1 hi hx
  rw [spec_ConfigText.l0, if_pos i1, hws]
  simp only [Option.bind_some]
  rw [if_pos i0, if_pos i3, hr, hn, hD]
  have w1 : wrap64 ((i : Int) + 1) = ((i + 1 : Nat) : Int) := w64_id (n := (i : Int) + 1) (by omega) (by omega)
  rw [w1, if_pos i2]
  clear w1 i0 i1 i2 i3 hD hr hws
  generalize Go.Lib.itoa n = N at *
  simp (disch := omega) only [if_pos, Option.bind_some, bC_lit, bC_app, bC_size, List.length_append, List.length_cons, List.length_nil, List.append_assoc, List.cons_append, List.nil_append, List.append_nil]
theorem spec_signs_l (s : ByteArray) (a b c d e g h : Int) (l : List Int) (hl : l.length ≤ 4) (hs : ∀ n ∈ l, -1 ≤ n ∧ n ≤ 1) (m : Nat) : ∀ (k i : Nat), i ≤ l.length → l.length - i = m → m + 6 < k →
    ∃ k', 5 < k' ∧ spec_ConfigText.l1 k s ((l.take i).map (fun n => bC (sw n))) (i : Int) a b c d e g h l = spec_ConfigText.l1 (k' + 1) s (l.map (fun n => bC (sw n))) (l.length : Int) a b c d e g h l := by
  induction m with
  | zero =>
    intro k i hi hd hk
    obtain ⟨k, rfl⟩ : ∃ m, k = m + 1 := ⟨k - 1, by omega⟩
    have hil : i = l.length := by omega
    subst hil
    rw [List.take_of_length_le (by omega)]
    exact ⟨k, by omega, rfl⟩
  | succ m ih =>
    intro k i hi hd hk
    obtain ⟨k, rfl⟩ : ∃ m, k = m + 1 := ⟨k - 1, by omega⟩
    have hlt : i < l.length := by omega
    have hg := rd_nat l i hlt
    have hb := hs _ (List.getElem_mem hlt)
    have w1 : wrap64 ((i : Int) + 1) = ((i + 1 : Nat) : Int) := w64_id (n := (i : Int) + 1) (by omega) (by omega)
    have hx : rdOf ByteArray.empty ([(⟨#[45]⟩ : ByteArray), (⟨#[48]⟩ : ByteArray), (⟨#[43]⟩ : ByteArray)] : List ByteArray) (wrap64 (l[i] + 1)) = bC (sw l[i]) ∧ 0 ≤ wrap64 (l[i] + 1) ∧ wrap64 (l[i] + 1) < (([(⟨#[45]⟩ : ByteArray), (⟨#[48]⟩ : ByteArray), (⟨#[43]⟩ : ByteArray)] : List ByteArray).length : Int) := by
      generalize l[i] = n at hb
      have hn : n = -1 ∨ n = 0 ∨ n = 1 := by omega
      rcases hn with rfl | rfl | rfl
      · rw [wm0]; exact ⟨rfl, by decide, by decide⟩
      · rw [wz1]; exact ⟨rfl, by decide, by decide⟩
      · rw [wp2]; exact ⟨rfl, by decide, by decide⟩
    obtain ⟨x1, x2, x3⟩ := hx
    have ht : (l.take i).map (fun n => bC (sw n)) ++ [bC (sw l[i])] = (l.take (i + 1)).map (fun n => bC (sw n)) := by
      rw [List.take_succ_eq_append_getElem hlt, List.map_append]; rfl
    have hz : ((l.take i).map (fun n => bC (sw n))).length < 8796093022208 := by
      rw [List.length_map, List.length_take]; omega
    have i0 : (0 : Int) ≤ (i : Int) := Int.natCast_nonneg i
    have i1 : (i : Int) < (l.length : Int) := Int.ofNat_lt.2 hlt
    obtain ⟨k', h1, e⟩ := ih k (i + 1) (by omega) (by omega) (by omega)
    refine ⟨k', h1, ?_⟩
    rw [spec_ConfigText.l1, if_pos i1]
    simp only [Option.bind_some]
    rw [if_pos i0, hg, if_pos x2, if_pos x3, if_pos hz, x1, ht, w1]
    exact e
theorem spec_signs_end (o : List UInt8) (ho : o.length ≤ 1000) (a b c d e g h : Int) (l : List Int) (hl : l.length ≤ 4) (k : Nat) (hk : 5 < k) :
    spec_ConfigText.l1 (k + 1) (bC o) (l.map (fun n => bC (sw n))) (l.length : Int) a b c d e g h l = some (bC (o ++ ([115, 105, 103, 110, 115, 61] ++ (Go.Lib.join (l.map sw) [44] ++ [10])))) := by
  have hj := spec_Joined_is (l.map (fun n => bC (sw n))) (⟨#[44]⟩ : ByteArray) (by rw [List.length_map]; omega) (by rw [show (⟨#[44]⟩ : ByteArray).size = 1 from rfl]; omega) (fun s q => by
    obtain ⟨n, _, rfl⟩ := List.mem_map.1 q
    rw [bC_size, sw_len]; omega) k (by rw [List.length_map]; omega)
  rw [sw_list] at hj
  have hj2 : spec_Joined.f k (l.map (fun n => bC (sw n))) (⟨#[44]⟩ : ByteArray) = some (bC (Go.Lib.join (l.map sw) [44])) := hj
  have zj := sjoin_len l
  rw [spec_ConfigText.l1, if_neg (by omega), hj2]
  clear hj hj2
  generalize Go.Lib.join (l.map sw) [44] = J at *
  simp (disch := omega) only [if_pos, Option.bind_some, bC_lit, bC_app, bC_size, List.length_append, List.length_cons, List.length_nil, List.append_assoc, List.cons_append, List.nil_append, List.append_nil]
theorem spec_ConfigText_is (a b c d e g h : Int) (l : List Int) (hll : l.length ≤ 1048576) (ha : -9223372036854775808 ≤ a ∧ a ≤ 9223372036854775807) (hb : -9223372036854775808 ≤ b ∧ b ≤ 9223372036854775807) (hc : -9223372036854775808 ≤ c ∧ c ≤ 9223372036854775807) (hd : -9223372036854775808 ≤ d ∧ d ≤ 9223372036854775807) (he : -9223372036854775808 ≤ e ∧ e ≤ 9223372036854775807) (hg : -9223372036854775808 ≤ g ∧ g ≤ 9223372036854775807) (hh : -9223372036854775808 ≤ h ∧ h ≤ 9223372036854775807)
    (k : Nat) (hk : l.length + 100 ≤ k) : spec_ConfigText.f k a b c d e g h l = some (bC (if impl_ConfigOk.ok a b c d e g h l = true then cfgT a b c d e g h l else [])) := by
  unfold spec_ConfigText.f
  rw [spec_ConfigOk_is a b c d e g h l (by omega) k (by omega)]
  simp only [Option.bind_some]
  by_cases ok : impl_ConfigOk.ok a b c d e g h l = true
  · rw [if_pos ok, if_pos ok]
    obtain ⟨hl, hs⟩ := ok_signs ok
    clear ok
    obtain ⟨k, rfl⟩ : ∃ m, k = m + 6 := ⟨k - 6, by omega⟩
    have za := itoa20 a ha.1 ha.2
    have zb := itoa20 b hb.1 hb.2
    have zc := itoa20 c hc.1 hc.2
    have zd := itoa20 d hd.1 hd.2
    have ze := itoa20 e he.1 he.2
    have zg := itoa20 g hg.1 hg.2
    have zh := itoa20 h hh.1 hh.2
    unfold spec_l8Numbers.f
    simp only [Option.bind_some]
    have e0 := spec_ConfigText_one [] [114, 111, 117, 110, 100, 115] [a, b, c, d, e] 0 (by decide) rfl (by simp) (fun ws q => by rw [← Option.some.inj q]; rfl) (by decide) a rfl ha.1 ha.2 a b c d e g h l (k + 5) (by omega)
    rw [List.nil_append] at e0
    generalize h1 : ([114, 111, 117, 110, 100, 115] : List UInt8) ++ ([61] ++ (Go.Lib.itoa a ++ [10])) = o1 at e0
    have l1 : o1.length ≤ 100 := by rw [← h1]; simp only [List.length_append, List.length_cons, List.length_nil]; omega
    have e1 := spec_ConfigText_one o1 [100, 101, 112, 116, 104] [a, b, c, d, e] 1 (by decide) rfl (by omega) (fun ws q => by rw [← Option.some.inj q]; rfl) (by decide) b rfl hb.1 hb.2 a b c d e g h l (k + 4) (by omega)
    generalize h2 : o1 ++ ([100, 101, 112, 116, 104] ++ ([61] ++ (Go.Lib.itoa b ++ [10]))) = o2 at e1
    have l2 : o2.length ≤ 200 := by rw [← h2]; simp only [List.length_append, List.length_cons, List.length_nil]; omega
    have e2 := spec_ConfigText_one o2 [98, 105, 110, 115] [a, b, c, d, e] 2 (by decide) rfl (by omega) (fun ws q => by rw [← Option.some.inj q]; rfl) (by decide) c rfl hc.1 hc.2 a b c d e g h l (k + 3) (by omega)
    generalize h3 : o2 ++ ([98, 105, 110, 115] ++ ([61] ++ (Go.Lib.itoa c ++ [10]))) = o3 at e2
    have l3 : o3.length ≤ 300 := by rw [← h3]; simp only [List.length_append, List.length_cons, List.length_nil]; omega
    have e3 := spec_ConfigText_one o3 [108, 97, 109, 98, 100, 97] [a, b, c, d, e] 3 (by decide) rfl (by omega) (fun ws q => by rw [← Option.some.inj q]; rfl) (by decide) d rfl hd.1 hd.2 a b c d e g h l (k + 2) (by omega)
    generalize h4 : o3 ++ ([108, 97, 109, 98, 100, 97] ++ ([61] ++ (Go.Lib.itoa d ++ [10]))) = o4 at e3
    have l4 : o4.length ≤ 400 := by rw [← h4]; simp only [List.length_append, List.length_cons, List.length_nil]; omega
    have e4 := spec_ConfigText_one o4 [114, 111, 119, 115] [a, b, c, d, e] 4 (by decide) rfl (by omega) (fun ws q => by rw [← Option.some.inj q]; rfl) (by decide) e rfl he.1 he.2 a b c d e g h l (k + 1) (by omega)
    generalize h5 : o4 ++ ([114, 111, 119, 115] ++ ([61] ++ (Go.Lib.itoa e ++ [10]))) = o5 at e4
    have l5 : o5.length ≤ 500 := by rw [← h5]; simp only [List.length_append, List.length_cons, List.length_nil]; omega
    have hall : cfgT a b c d e g h l = o5 ++ ([114, 97, 116, 101, 61] ++ (Go.Lib.itoa g ++ ([47] ++ (Go.Lib.itoa h ++ ([10] ++ sgT l))))) := by
      rw [← h5, ← h4, ← h3, ← h2, ← h1]
      unfold cfgT
      simp only [List.append_assoc, List.cons_append, List.nil_append]
    have s0 : spec_ConfigText.l0 (k + 6) (⟨#[]⟩ : ByteArray) [a, b, c, d, e] 0 a b c d e g h l = spec_ConfigText.l0 (k + 1) (bC o5) [a, b, c, d, e] 5 a b c d e g h l :=
      e0.trans (e1.trans (e2.trans (e3.trans e4)))
    rw [s0, hall]
    clear e0 e1 e2 e3 e4 s0 hall h1 h2 h3 h4 h5
    rw [spec_ConfigText.l0, if_neg (by decide), spec_Digits_k k (by omega) g hg.1 hg.2, spec_Digits_k k (by omega) h hh.1 hh.2]
    clear ha hb hc hd he hg hh
    by_cases c0 : l.length = 0
    · have c1 : (l.length : Int) = 0 := by omega
      have es : sgT l = [] := if_pos c0
      rw [es]
      simp only [if_pos c1]
      generalize Go.Lib.itoa g = G at *
      generalize Go.Lib.itoa h = H at *
      simp (disch := omega) only [if_pos, Option.bind_some, bC_lit, bC_app, bC_size, List.length_append, List.length_cons, List.length_nil, List.append_assoc, List.cons_append, List.nil_append, List.append_nil]
    · have c1 : ¬ (l.length : Int) = 0 := by omega
      have es : sgT l = [115, 105, 103, 110, 115, 61] ++ (Go.Lib.join (l.map sw) [44] ++ [10]) := if_neg c0
      rw [es]
      simp only [if_neg c1]
      generalize Go.Lib.itoa g = G at *
      generalize Go.Lib.itoa h = H at *
      have hend : ∀ o : List UInt8, o.length ≤ 1000 → spec_ConfigText.l1 k (bC o) [] 0 a b c d e g h l = some (bC (o ++ ([115, 105, 103, 110, 115, 61] ++ (Go.Lib.join (l.map sw) [44] ++ [10])))) := by
        intro o ho
        obtain ⟨k', h1, q⟩ := spec_signs_l (bC o) a b c d e g h l hl hs l.length k 0 (by omega) (by omega) (by omega)
        have q2 : spec_ConfigText.l1 k (bC o) [] 0 a b c d e g h l = _ := q
        rw [q2]
        exact spec_signs_end o ho a b c d e g h l hl k' h1
      simp (disch := omega) only [if_pos, Option.bind_some, bC_lit, bC_app, bC_size, List.length_append, List.length_cons, List.length_nil]
      rw [hend _ (by simp only [List.length_append, List.length_cons, List.length_nil]; omega)]
      simp only [List.append_assoc, List.cons_append, List.nil_append]
  · rw [if_neg ok, if_neg ok]
    rfl

theorem impl_Digits_is (n : Int) (b0 : -9223372036854775808 ≤ n) (b1 : n ≤ 9223372036854775807) : impl_Digits.f n = some ⟨(Go.Lib.itoa n).toArray⟩ := by
  unfold impl_Digits.f strconv_Itoa_64.f
  rw [if_pos ⟨b0, b1⟩]; rfl

theorem join_len (sep : List UInt8) (h : sep.length ≤ 1048576) : ∀ xs : List (List UInt8), (Go.Lib.join xs sep).length ≤ (xs.map List.length).sum + xs.length * 1048576
  | [] => by simp [Go.Lib.join_nil]
  | [x] => by rw [Go.Lib.join_one]; simp
  | x :: y :: r => by
    have ih := join_len sep h (y :: r)
    rw [Go.Lib.join_cons]
    rw [Go.Lib.join_cons] at ih
    simp only [Go.Lib.joinTail, List.map_cons, List.flatten_cons, List.length_append, List.sum_cons, List.length_cons] at ih ⊢
    omega
theorem impl_Joined_is (l : List ByteArray) (by_ : ByteArray) (hl : l.length ≤ 1048576) (hs : (l.map ByteArray.size).sum ≤ 1048576) (hb : by_.size ≤ 1048576) : impl_Joined.f l by_ = some ⟨(Go.Lib.join (l.map (fun x => x.data.toList)) by_.data.toList).toArray⟩ := by
  unfold impl_Joined.f strings_Join.f
  have hz : by_.data.toList.length = by_.size := by rw [Array.length_toList]; rfl
  have j := join_len by_.data.toList (by omega) (l.map (fun x => x.data.toList))
  have e : (l.map (fun x => x.data.toList)).map List.length = l.map ByteArray.size := by
    rw [List.map_map]
    apply List.map_congr_left
    intro x _
    simp only [Function.comp]
    rw [Array.length_toList]; rfl
  rw [e, List.length_map] at j
  have c : l.length * 1048576 ≤ 1048576 * 1048576 := Nat.mul_le_mul_right _ hl
  rw [if_pos ⟨by omega, by omega⟩]
  rfl

theorem impl_signs_l (l : List Int) (hl : l.length ≤ 4) (hs : ∀ n ∈ l, -1 ≤ n ∧ n ≤ 1) (d : Nat) : ∀ (k i : Nat), i ≤ l.length → l.length - i = d → d < k →
    impl_signsText.l0 k ((l.take i).map (fun n => bC (sw n))) l (l.length : Int) (i : Int) = some (bC (Go.Lib.join (l.map sw) [44])) := by
  induction d with
  | zero =>
    intro k i hi hd hk
    obtain ⟨k, rfl⟩ : ∃ m, k = m + 1 := ⟨k - 1, by omega⟩
    rw [impl_signsText.l0, if_neg (by omega), List.take_of_length_le (by omega)]
    have hj := impl_Joined_is (l.map (fun n => bC (sw n))) (⟨#[44]⟩ : ByteArray) (by rw [List.length_map]; omega) (by rw [sw_sum]; omega) (by rw [show (⟨#[44]⟩ : ByteArray).size = 1 from rfl]; omega)
    rw [hj, sw_list]
    rfl
  | succ d ih =>
    intro k i hi hd hk
    obtain ⟨k, rfl⟩ : ∃ m, k = m + 1 := ⟨k - 1, by omega⟩
    have hlt : i < l.length := by omega
    have hg := rd_nat l i hlt
    have hb := hs _ (List.getElem_mem hlt)
    have w1 : wrap64 ((i : Int) + 1) = ((i + 1 : Nat) : Int) := w64_id (n := (i : Int) + 1) (by omega) (by omega)
    have hx : (⟨#[45, 48, 43]⟩ : ByteArray).extract ((wrap64 (l[i] + 1)) : Int).toNat ((wrap64 (l[i] + 2)) : Int).toNat = bC (sw l[i]) ∧ 0 ≤ wrap64 (l[i] + 1) ∧ wrap64 (l[i] + 1) ≤ wrap64 (l[i] + 2) ∧ wrap64 (l[i] + 2) ≤ 3 := by
      generalize l[i] = n at hb
      have hn : n = -1 ∨ n = 0 ∨ n = 1 := by omega
      rcases hn with rfl | rfl | rfl
      · rw [wm0, wm1]; exact ⟨by decide, by decide, by decide, by decide⟩
      · rw [wz1, wz2]; exact ⟨by decide, by decide, by decide, by decide⟩
      · rw [wp2, wp3]; exact ⟨by decide, by decide, by decide, by decide⟩
    obtain ⟨x1, x2, x3, x4⟩ := hx
    have ht : (l.take i).map (fun n => bC (sw n)) ++ [bC (sw l[i])] = (l.take (i + 1)).map (fun n => bC (sw n)) := by
      rw [List.take_succ_eq_append_getElem hlt, List.map_append]; rfl
    have hz : ((l.take i).map (fun n => bC (sw n))).length < 8796093022208 := by
      rw [List.length_map, List.length_take]; omega
    have i0 : (0 : Int) ≤ (i : Int) := Int.natCast_nonneg i
    have i1 : (i : Int) < (l.length : Int) := Int.ofNat_lt.2 hlt
    have e := ih k (i + 1) (by omega) (by omega) (by omega)
    rw [impl_signsText.l0, if_pos i1, if_pos i0, if_pos i1, hg, if_pos x2, if_pos x3, if_pos x4, if_pos hz, x1, ht, w1]
    exact e
theorem impl_signsText_is (l : List Int) (hl : l.length ≤ 4) (hs : ∀ n ∈ l, -1 ≤ n ∧ n ≤ 1) (k : Nat) (hk : 8 ≤ k) : impl_signsText.f k l = some (bC (Go.Lib.join (l.map sw) [44])) :=
  impl_signs_l l hl hs l.length k 0 (by omega) (by omega) (by omega)
theorem dig_ex (n : Int) (h : -9223372036854775808 ≤ n ∧ n ≤ 9223372036854775807) : ∃ T, impl_Digits.f n = some T ∧ T = bC (Go.Lib.itoa n) ∧ T.size ≤ 20 :=
  ⟨_, impl_Digits_is n h.1 h.2, rfl, by show (bC (Go.Lib.itoa n)).size ≤ 20; rw [bC_size]; exact itoa20 n h.1 h.2⟩
theorem impl_ConfigText_is (a b c d e g h : Int) (l : List Int) (ha : -9223372036854775808 ≤ a ∧ a ≤ 9223372036854775807) (hb : -9223372036854775808 ≤ b ∧ b ≤ 9223372036854775807) (hc : -9223372036854775808 ≤ c ∧ c ≤ 9223372036854775807) (hd : -9223372036854775808 ≤ d ∧ d ≤ 9223372036854775807) (he : -9223372036854775808 ≤ e ∧ e ≤ 9223372036854775807) (hg : -9223372036854775808 ≤ g ∧ g ≤ 9223372036854775807) (hh : -9223372036854775808 ≤ h ∧ h ≤ 9223372036854775807)
    (k : Nat) (hk : 8 ≤ k) : impl_ConfigText.f k a b c d e g h l = some (bC (if impl_ConfigOk.ok a b c d e g h l = true then cfgT a b c d e g h l else [])) := by
  unfold impl_ConfigText.f impl_ConfigOk.f
  rw [Option.bind_some]
  by_cases ok : impl_ConfigOk.ok a b c d e g h l = true
  · rw [if_pos ok, if_pos ok]
    obtain ⟨hl, hs⟩ := ok_signs ok
    clear ok
    have hsg := impl_signsText_is l hl hs k hk
    have zj : (bC (Go.Lib.join (l.map sw) [44])).size ≤ 8 := by have := sjoin_len l; rw [bC_size]; omega
    obtain ⟨A, fA, eA, zA⟩ := dig_ex a ha
    obtain ⟨B, fB, eB, zB⟩ := dig_ex b hb
    obtain ⟨C, fC, eC, zC⟩ := dig_ex c hc
    obtain ⟨D, fD, eD, zD⟩ := dig_ex d hd
    obtain ⟨E, fE, eE, zE⟩ := dig_ex e he
    obtain ⟨G, fG, eG, zG⟩ := dig_ex g hg
    obtain ⟨H, fH, eH, zH⟩ := dig_ex h hh
    generalize eJ : bC (Go.Lib.join (l.map sw) [44]) = J at hsg zj
    clear ha hb hc hd he hg hh hs
    rw [fA, Option.bind_some]
    iterate 2 refine (if_pos (by (try simp only [ByteArray.size_append, bsz2_, List.size_toArray, List.length_cons, List.length_nil]); omega)).trans ?_
    rw [fB, Option.bind_some]
    iterate 2 refine (if_pos (by (try simp only [ByteArray.size_append, bsz2_, List.size_toArray, List.length_cons, List.length_nil]); omega)).trans ?_
    rw [fC, Option.bind_some]
    iterate 2 refine (if_pos (by (try simp only [ByteArray.size_append, bsz2_, List.size_toArray, List.length_cons, List.length_nil]); omega)).trans ?_
    rw [fD, Option.bind_some]
    iterate 2 refine (if_pos (by (try simp only [ByteArray.size_append, bsz2_, List.size_toArray, List.length_cons, List.length_nil]); omega)).trans ?_
    rw [fE, Option.bind_some]
    iterate 2 refine (if_pos (by (try simp only [ByteArray.size_append, bsz2_, List.size_toArray, List.length_cons, List.length_nil]); omega)).trans ?_
    rw [fG, Option.bind_some]
    iterate 2 refine (if_pos (by (try simp only [ByteArray.size_append, bsz2_, List.size_toArray, List.length_cons, List.length_nil]); omega)).trans ?_
    rw [fH, Option.bind_some]
    iterate 2 refine (if_pos (by (try simp only [ByteArray.size_append, bsz2_, List.size_toArray, List.length_cons, List.length_nil]); omega)).trans ?_
    by_cases c0 : l.length = 0
    · have c1 : ¬ (l.length : Int) > 0 := by omega
      have es : sgT l = [] := if_pos c0
      refine (if_neg c1).trans ?_
      unfold cfgT
      rw [es, eA, eB, eC, eD, eE, eG, eH]
      simp only [bC_lit, bC_app, List.append_assoc, List.cons_append, List.nil_append, List.append_nil]
    · have c1 : (l.length : Int) > 0 := by omega
      have es : sgT l = [115, 105, 103, 110, 115, 61] ++ (Go.Lib.join (l.map sw) [44] ++ [10]) := if_neg c0
      refine (if_pos c1).trans ?_
      rw [hsg, Option.bind_some]
      iterate 3 refine (if_pos (by (try simp only [ByteArray.size_append, bsz2_, List.size_toArray, List.length_cons, List.length_nil]); omega)).trans ?_
      unfold cfgT
      rw [es, eA, eB, eC, eD, eE, eG, eH, ← eJ]
      simp only [bC_lit, bC_app, List.append_assoc, List.cons_append, List.nil_append, List.append_nil]
  · rw [if_neg ok, if_neg ok]
    rfl

theorem FnExactConfigText (a b c d e g h : Int) (l : List Int) (wa : (Lit.int .i64 a).wf = true) (wb : (Lit.int .i64 b).wf = true) (wc : (Lit.int .i64 c).wf = true) (wd : (Lit.int .i64 d).wf = true) (we : (Lit.int .i64 e).wf = true) (wg : (Lit.int .i64 g).wf = true) (wh : (Lit.int .i64 h).wf = true) (hm : l.length ≤ maxLen) (_ : ∀ x ∈ l, (Lit.int .i64 x).wf = true) : ∃ k, laws_FnExactConfigText.f k a b c d e g h l = some true := by
  refine ⟨l.length + 100, ?_⟩
  unfold maxLen at hm
  unfold laws_FnExactConfigText.f
  rw [laws_szConfig_eq a b c d e g h l (by omega)]
  simp only [Option.bind_some]
  by_cases big : (1048576 : Int) - l.length < 0
  · rw [if_pos big]; simp
  · rw [if_neg big, if_neg big]
    have t1 := laws_toConfig_eq a b c d e g h l (by omega) (l.length + 100) (by omega)
    have t2 := spec_ConfigText_is a b c d e g h l (by omega) (wf64 wa) (wf64 wb) (wf64 wc) (wf64 wd) (wf64 we) (wf64 wg) (wf64 wh) (l.length + 100) (by omega)
    have t4 := impl_ConfigText_is a b c d e g h l (wf64 wa) (wf64 wb) (wf64 wc) (wf64 wd) (wf64 we) (wf64 wg) (wf64 wh) (l.length + 100) (by omega)
    have t3 := laws_eqConfig_self a b c d e g h l (by omega) (l.length + 100) (by omega)
    generalize l.length + 100 = K at *
    rw [t1]
    simp only [Option.bind_some]
    rw [t2]
    simp only [Option.bind_some]
    rw [t4]
    simp only [Option.bind_some]
    rw [if_pos trivial, t3]
    simp

end Go.Proofs.YtcbiijfiecjcaaaDoor.Pure
