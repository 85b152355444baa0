/- Whether settings are right: program and reference answer the same. Conditions: each number is one of its kind, as the row says. -/
import Derived.Test.YtcbiijfiecjcaaaPFnExactConfigOkx
import Derived.Test.YtcbiijfiecjcaaaBase
set_option linter.unusedSimpArgs false
set_option linter.unusedVariables false
namespace Go.Proofs.Ytcbiijfiecjcaaa.Pure
open Go.RowKit Go.Proofs.Ytcbiijfiecjcaaa.Base Go.Proofs.Ytcbiijfiecjcaaa.PFnExactConfigOk Go.Proofs.YtcbiijfiecjcaaaW.PrintWords Go.Proofs.YtcbiijfiecjcaaaW.PrintLast Go.Proofs.YtcbiijfiecjcaaaW.PrintMore

theorem toIntS_loop (l : List Int) (hl : l.length ≤ 17592186044416) (d : Nat) : ∀ (k : Nat) (x : List Int) (i : Int), 0 ≤ i → i ≤ l.length → (l.length : Int) - i = d → d < k → x.length = l.length → (∀ j : Nat, (j : Int) < i → x[j]? = l[j]?) → laws_toIntS.l0 k l x i = some l := by
  induction d with
  | zero =>
    intro k x i h0 h1 hd hk hx hj
    obtain ⟨k, rfl⟩ : ∃ m, k = m + 1 := ⟨k - 1, by omega⟩
    simp only [laws_toIntS.l0]
    rw [if_neg (by omega)]
    congr 1
    apply List.ext_getElem?
    intro j
    by_cases c : (j : Int) < i
    · exact hj j c
    · rw [List.getElem?_eq_none (by omega), List.getElem?_eq_none (by omega)]
  | succ d ih =>
    intro k x i h0 h1 hd hk hx hj
    obtain ⟨k, rfl⟩ : ∃ m, k = m + 1 := ⟨k - 1, by omega⟩
    simp only [laws_toIntS.l0]
    rw [if_pos (by omega), if_pos h0, if_pos (by omega), w64_id (n := i + 1) (by omega) (by omega)]
    refine ih k _ (i + 1) (by omega) (by omega) (by omega) (by omega) (by simp [hx]) ?_
    intro j hji
    by_cases c : j = i.toNat
    · subst c
      rw [List.getElem?_set_self (by omega)]
      unfold rd
      rw [List.getD_eq_getElem?_getD, List.getElem?_eq_getElem (by omega)]
      simp
    · rw [List.getElem?_set_ne (fun h => c h.symm)]
      exact hj j (by omega)
theorem laws_toIntS_eq (l : List Int) (hl : l.length ≤ 17592186044416) (k : Nat) (hk : l.length < k) : laws_toIntS.f k l = some l := by
  unfold laws_toIntS.f
  rw [if_pos (by omega), if_pos (by omega)]
  exact toIntS_loop l hl l.length k _ 0 (by omega) (by omega) (by omega) hk (by simp) (fun j hj => absurd hj (by omega))

theorem eqIntS_loop (l : List Int) (hl : l.length ≤ 140737488351232) (d : Nat) : ∀ (k : Nat) (i : Int), 0 ≤ i → i ≤ l.length → (l.length : Int) - i = d → d < k → laws_eqIntS.l0 k l l i = some true := by
  induction d with
  | zero =>
    intro k i h0 h1 hd hk
    obtain ⟨k, rfl⟩ : ∃ m, k = m + 1 := ⟨k - 1, by omega⟩
    simp only [laws_eqIntS.l0]
    rw [if_neg (by omega)]
  | succ d ih =>
    intro k i h0 h1 hd hk
    obtain ⟨k, rfl⟩ : ∃ m, k = m + 1 := ⟨k - 1, by omega⟩
    simp only [laws_eqIntS.l0]
    rw [if_pos (by omega), if_pos h0, if_pos (by omega), if_pos trivial, w64_id (n := i + 1) (by omega) (by omega)]
    exact ih k (i + 1) (by omega) (by omega) (by omega) (by omega)
theorem laws_eqIntS_self (l : List Int) (hl : l.length ≤ 140737488351232) (k : Nat) (hk : l.length < k) : laws_eqIntS.f k l l = some true := by
  unfold laws_eqIntS.f
  rw [if_pos rfl]
  exact eqIntS_loop l hl l.length k 0 (by omega) (by omega) (by omega) hk

theorem laws_toConfig_eq (a b c d e g h : Int) (l : List Int) (hl : l.length ≤ 17592186044416) (k : Nat) (hk : l.length < k) : laws_toConfig.f k a b c d e g h l = some (a, b, c, d, e, g, h, l) := by
  unfold laws_toConfig.f
  rw [laws_toIntS_eq l hl k hk]; rfl
theorem laws_eqConfig_self (a b c d e g h : Int) (l : List Int) (hl : l.length ≤ 140737488351232) (k : Nat) (hk : l.length < k) : laws_eqConfig.f k a b c d e g h l a b c d e g h l = some true := by
  unfold laws_eqConfig.f
  rw [laws_eqIntS_self l hl k hk]
  simp
theorem laws_szConfig_eq (a b c d e g h : Int) (l : List Int) (hl : l.length ≤ 9223372036854775807) : laws_szConfig.f a b c d e g h l 1048576 = some (if (1048576 : Int) - l.length < 0 then (-1 : Int) else (1048576 : Int) - l.length) := by
  unfold laws_szConfig.f laws_szIntS.f
  rw [w64_id (n := 1048576 - (l.length : Int)) (by omega) (by omega)]
  by_cases c : (1048576 : Int) - l.length < 0
  · rw [if_pos c, if_pos c]; rfl
  · rw [if_neg c, if_neg c]; simp only [Option.bind_some]; rw [if_neg c]

theorem spec_l1In_eq (a b c : Int) : spec_l1In.f a b c = some (iin a b c) := by
  unfold spec_l1In.f iin
  by_cases h : a ≥ b
  · rw [if_pos h]; simp [show b ≤ a from h]
  · rw [if_neg h]; simp [show ¬ b ≤ a from h]

theorem inR_iin (a lo hi : Int) : impl_ConfigOk.inR a lo hi = iin a lo hi := by
  unfold impl_ConfigOk.inR iin
  by_cases c : lo ≤ a
  · by_cases d : a ≤ hi
    · rw [decide_eq_true ⟨c, d⟩]; simp [c, d]
    · rw [decide_eq_false (fun h => d h.2)]; simp [d]
  · rw [decide_eq_false (fun h => c h.1)]; simp [c]
theorem rd_nat (l : List Int) (i : Nat) (h : i < l.length) : rd l (i : Int) = l[i] := by
  unfold rd
  rw [Int.toNat_natCast, List.getD_eq_getElem?_getD, List.getElem?_eq_getElem h]
  rfl
theorem spec_ConfigOk_l1 (a b c d e g h : Int) (l : List Int) (hl : l.length ≤ 140737488351232) (m : Nat) : ∀ (k i : Nat), i ≤ l.length → l.length - i = m → m < k →
    spec_ConfigOk.l1 k (i : Int) a b c d e g h l = some (!((l.drop i).any (fun n => !impl_ConfigOk.sgn n)) && impl_ConfigOk.inR h 1 1000 && impl_ConfigOk.inR g 1 h && decide (l.length ≤ 4)) := by
  induction m with
  | zero =>
    intro k i hi hm hk
    obtain ⟨k, rfl⟩ : ∃ m, k = m + 1 := ⟨k - 1, by omega⟩
    simp only [spec_ConfigOk.l1]
    rw [if_neg (by omega), spec_l1In_eq, spec_l1In_eq, List.drop_eq_nil_of_le (by omega), inR_iin, inR_iin]
    simp only [Option.bind_some, List.any_nil, Bool.not_false, Bool.true_and]
    have e4 : decide ((l.length : Int) ≤ 4) = decide (l.length ≤ 4) := decide_eq_decide.2 (by omega)
    rw [e4]
    cases iin h 1 1000 <;> cases iin g 1 h <;> simp
  | succ m ih =>
    intro k i hi hm hk
    obtain ⟨k, rfl⟩ : ∃ m, k = m + 1 := ⟨k - 1, by omega⟩
    have hlt : i < l.length := by omega
    simp only [spec_ConfigOk.l1]
    rw [if_pos (by omega), if_pos (by omega), rd_nat l i hlt, spec_l1In_eq, w64_id (n := (i : Int) + 1) (by omega) (by omega), List.drop_eq_getElem_cons hlt]
    simp only [Option.bind_some, List.any_cons]
    have es : impl_ConfigOk.sgn l[i] = iin l[i] (-1) 1 := inR_iin _ _ _
    rw [es]
    cases iin l[i] (-1) 1
    · simp
    · rw [if_pos rfl, show (i : Int) + 1 = ((i + 1 : Nat) : Int) from rfl, ih k (i + 1) (by omega) (by omega) (by omega)]
      simp
theorem spec_ConfigOk_one (a b c d e a' b' c' d' e' g h x lo hi : Int) (i : Nat) (l : List Int) (k : Nat) (h5 : i < 5) (hx : rd [a', b', c', d', e'] (i : Int) = x) (hlo : rd [1, 0, 2, 1, 1] (i : Int) = lo) (hhi : rd [8, 4, 8, 100, 20] (i : Int) = hi) :
    spec_ConfigOk.l0 (k + 1) [a', b', c', d', e'] (i : Int) a b c d e g h l = if iin x lo hi = true then spec_ConfigOk.l0 k [a', b', c', d', e'] ((i + 1 : Nat) : Int) a b c d e g h l else some false := by
  simp only [spec_ConfigOk.l0, spec_l8Least.f, spec_l8Most.f, Option.bind_some]
  rw [if_pos (by omega), if_pos (by omega), if_pos (by simp; omega), if_pos (by simp; omega), if_pos (by simp; omega), hx, hlo, hhi, spec_l1In_eq, w64_id (n := (i : Int) + 1) (by omega) (by omega)]
  rfl
theorem spec_ConfigOk_is (a b c d e g h : Int) (l : List Int) (hl : l.length ≤ 140737488351232) (k : Nat) (hk : l.length + 7 < k) : spec_ConfigOk.f k a b c d e g h l = some (impl_ConfigOk.ok a b c d e g h l) := by
  obtain ⟨k, rfl⟩ : ∃ m, k = m + 6 := ⟨k - 6, by omega⟩
  unfold spec_ConfigOk.f spec_l8Numbers.f
  simp only [Option.bind_some]
  have e0 := spec_ConfigOk_one a b c d e a b c d e g h a 1 8 0 l (k + 5) (by omega) rfl rfl rfl
  have e1 := spec_ConfigOk_one a b c d e a b c d e g h b 0 4 1 l (k + 4) (by omega) rfl rfl rfl
  have e2 := spec_ConfigOk_one a b c d e a b c d e g h c 2 8 2 l (k + 3) (by omega) rfl rfl rfl
  have e3 := spec_ConfigOk_one a b c d e a b c d e g h d 1 100 3 l (k + 2) (by omega) rfl rfl rfl
  have e4 := spec_ConfigOk_one a b c d e a b c d e g h e 1 20 4 l (k + 1) (by omega) rfl rfl rfl
  have e5 := spec_ConfigOk_l1 a b c d e g h l hl l.length k 0 (by omega) (by omega) (by omega)
  have e6 : spec_ConfigOk.l0 (k + 1) [a, b, c, d, e] ((5 : Nat) : Int) a b c d e g h l = spec_ConfigOk.l1 k 0 a b c d e g h l := by
    simp only [spec_ConfigOk.l0]
    rw [if_neg (by omega)]
  rw [show ((0 : Nat) : Int) = (0 : Int) from rfl] at e0 e5
  rw [e0, e1, e2, e3, e4, e6, e5, List.drop_zero]
  unfold impl_ConfigOk.ok
  rw [inR_iin, inR_iin, inR_iin, inR_iin, inR_iin, inR_iin, inR_iin]
  cases iin a 1 8 <;> cases iin b 0 4 <;> cases iin c 2 8 <;> cases iin d 1 100 <;> cases iin e 1 20 <;> cases iin h 1 1000 <;> cases iin g 1 h <;> cases decide (l.length ≤ 4) <;> simp

theorem FnExactConfigOk (a b c d e g h : Int) (l : List Int) (_ : (Lit.int .i64 a).wf = true) (_ : (Lit.int .i64 b).wf = true) (_ : (Lit.int .i64 c).wf = true) (_ : (Lit.int .i64 d).wf = true) (_ : (Lit.int .i64 e).wf = true) (_ : (Lit.int .i64 g).wf = true) (_ : (Lit.int .i64 h).wf = true) (hm : l.length ≤ maxLen) (_ : ∀ x ∈ l, (Lit.int .i64 x).wf = true) : ∃ k, laws_FnExactConfigOk.f k a b c d e g h l = some true := by
  refine ⟨l.length + 8, ?_⟩
  unfold maxLen at hm
  unfold laws_FnExactConfigOk.f
  rw [laws_szConfig_eq a b c d e g h l (by omega)]
  simp only [Option.bind_some]
  by_cases big : (1048576 : Int) - l.length < 0
  · rw [if_pos big]; simp
  · rw [if_neg big, if_neg big]
    have t1 := laws_toConfig_eq a b c d e g h l (by omega) (l.length + 8) (by omega)
    have t2 := spec_ConfigOk_is a b c d e g h l (by omega) (l.length + 8) (by omega)
    have t3 := laws_eqConfig_self a b c d e g h l (by omega) (l.length + 8) (by omega)
    generalize l.length + 8 = K at *
    rw [t1]
    simp only [Option.bind_some]
    rw [t2]
    simp only [Option.bind_some, impl_ConfigOk.f]
    rw [if_neg (by simp), t3]
    simp

end Go.Proofs.Ytcbiijfiecjcaaa.Pure
