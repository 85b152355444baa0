/- Rows of fields compared: program and reference answer the same. Conditions: each number is one of its kind, as the row says. -/
import Derived.Test.YtcbiijfiecjcaaaPFnExactSameRowsx
import Derived.Test.YtcbiijfiecjcaaaBase
set_option linter.unusedSimpArgs false
set_option linter.unusedVariables false
namespace Go.Proofs.Ytcbiijfiecjcaaa.Pure
open Go.RowKit Go.Proofs.Ytcbiijfiecjcaaa.Base Go.Proofs.Ytcbiijfiecjcaaa.PFnExactSameRows Go.Proofs.YtcbiijfiecjcaaaW.PrintWords Go.Proofs.YtcbiijfiecjcaaaW.PrintLast Go.Proofs.YtcbiijfiecjcaaaW.PrintMore

/-- What a row of strings takes of a purse. -/
theorem laws_szStringS_l (l : List ByteArray) (hl : l.length ≤ 1048576) (hs : ∀ s ∈ l, s.size ≤ 9223372036854775807) (d : Nat) : ∀ (k i : Nat) (x : Int), 0 ≤ x → x ≤ 1048576 → i ≤ l.length → l.length - i = d → d < k →
    ∃ r, laws_szStringS.l0 k l x (i : Int) = some r ∧ (0 ≤ r → ((((l.drop i).map ByteArray.size).sum : Nat) : Int) + r = x ∧ r ≤ x) := by
  induction d with
  | zero =>
    intro k i x x0 x1 hi hd hk
    obtain ⟨k, rfl⟩ : ∃ m, k = m + 1 := ⟨k - 1, by omega⟩
    simp only [laws_szStringS.l0]
    rw [if_neg (by omega)]
    have e : l.drop i = [] := List.drop_eq_nil_of_le (by omega)
    exact ⟨x, rfl, fun _ => by rw [e]; simp⟩
  | succ d ih =>
    intro k i x x0 x1 hi hd hk
    obtain ⟨k, rfl⟩ : ∃ m, k = m + 1 := ⟨k - 1, by omega⟩
    have hlt : i < l.length := by omega
    have hg : rdOf ByteArray.empty l (i : Int) = l[i] := by
      unfold rdOf; simp [List.getD, hlt]
    have hz := hs l[i] (List.getElem_mem hlt)
    have hdr : l.drop i = l[i] :: l.drop (i + 1) := List.drop_eq_getElem_cons hlt
    simp only [laws_szStringS.l0]
    rw [if_pos (by omega), if_pos (by omega), hg, hdr, w64_id (n := x - ((l[i]).size : Int)) (by omega) (by omega)]
    by_cases c : x - ((l[i]).size : Int) < 0
    · rw [if_pos c]
      exact ⟨-1, rfl, fun h => by omega⟩
    · rw [if_neg c, w64_id (n := (i : Int) + 1) (by omega) (by omega)]
      obtain ⟨r, e, hr⟩ := ih k (i + 1) (x - ((l[i]).size : Int)) (by omega) (by omega) (by omega) (by omega) (by omega)
      refine ⟨r, e, fun h => ?_⟩
      have := hr h
      simp only [List.map_cons, List.sum_cons]
      omega
theorem laws_szStringS_is (l : List ByteArray) (hl : l.length ≤ 9223372036854775807) (hs : ∀ s ∈ l, s.size ≤ 9223372036854775807) (x : Int) (x0 : 0 ≤ x) (x1 : x ≤ 1048576) (k : Nat) (hk : 1048577 ≤ k) :
    ∃ r, laws_szStringS.f k l x = some r ∧ (0 ≤ r → (l.length : Int) + (((l.map ByteArray.size).sum : Nat) : Int) + r = x) := by
  unfold laws_szStringS.f
  rw [w64_id (n := x - (l.length : Int)) (by omega) (by omega)]
  by_cases c : x - (l.length : Int) < 0
  · rw [if_pos c]
    exact ⟨-1, rfl, fun h => by omega⟩
  · rw [if_neg c]
    obtain ⟨r, e, hr⟩ := laws_szStringS_l l (by omega) hs l.length k 0 (x - (l.length : Int)) (by omega) (by omega) (by omega) (by omega) (by omega)
    refine ⟨r, e, fun h => ?_⟩
    have := hr h
    simp only [List.drop_zero] at this
    omega

theorem laws_toStringS_l (l : List ByteArray) (hl : l.length ≤ 1048576) (d : Nat) : ∀ (k i : Nat) (m : List ByteArray), i ≤ l.length → l.length - i = d → d < k → m.length = l.length → m.take i = l.take i → laws_toStringS.l0 k l m (i : Int) = some l := by
  induction d with
  | zero =>
    intro k i m hi hd hk hm ht
    obtain ⟨k, rfl⟩ : ∃ m, k = m + 1 := ⟨k - 1, by omega⟩
    simp only [laws_toStringS.l0]
    rw [if_neg (by omega)]
    have e1 : m.take i = m := List.take_of_length_le (by omega)
    have e2 : l.take i = l := List.take_of_length_le (by omega)
    rw [← e1, ht, e2]
  | succ d ih =>
    intro k i m hi hd hk hm ht
    obtain ⟨k, rfl⟩ : ∃ m, k = m + 1 := ⟨k - 1, by omega⟩
    have hlt : i < l.length := by omega
    have hg : rdOf ByteArray.empty l (i : Int) = l[i] := by
      unfold rdOf; simp [List.getD, hlt]
    have e : ((i : Int)).toNat = i := by omega
    simp only [laws_toStringS.l0]
    rw [if_pos (by omega), if_pos (by omega), if_pos (by omega), hg, e, w64_id (n := (i : Int) + 1) (by omega) (by omega)]
    refine ih k (i + 1) _ (by omega) (by omega) (by omega) (by rw [List.length_set]; exact hm) ?_
    rw [List.take_add_one, List.take_add_one, List.take_set_of_le (by omega), ht, List.getElem?_set_self (by omega), List.getElem?_eq_getElem hlt]
theorem laws_toStringS_is (l : List ByteArray) (hl : l.length ≤ 1048576) (k : Nat) (hk : l.length < k) : laws_toStringS.f k l = some l := by
  unfold laws_toStringS.f
  have e : ((l.length : Int)).toNat = l.length := by omega
  rw [if_pos (by omega), e, if_pos (by omega)]
  exact laws_toStringS_l l hl l.length k 0 _ (by omega) (by omega) hk (by simp) (by simp)

theorem laws_eqStringS_l (l : List ByteArray) (hs : l.length ≤ 1048577) (d : Nat) : ∀ (k i : Nat), i ≤ l.length → l.length - i = d → d < k → laws_eqStringS.l0 k l l (i : Int) = some true := by
  induction d with
  | zero =>
    intro k i hi hd hk
    obtain ⟨k, rfl⟩ : ∃ m, k = m + 1 := ⟨k - 1, by omega⟩
    simp only [laws_eqStringS.l0]
    rw [if_neg (by omega)]
  | succ d ih =>
    intro k i hi hd hk
    obtain ⟨k, rfl⟩ : ∃ m, k = m + 1 := ⟨k - 1, by omega⟩
    simp only [laws_eqStringS.l0]
    rw [if_pos (by omega), if_pos (by omega), if_pos (by omega), if_pos trivial, w64_id (by omega) (by omega)]
    exact ih k (i + 1) (by omega) (by omega) (by omega)
theorem laws_eqStringS_self (l : List ByteArray) (hs : l.length ≤ 1048577) (k : Nat) (hk : l.length < k) : laws_eqStringS.f k l l = some true := by
  unfold laws_eqStringS.f
  rw [if_pos rfl]
  exact laws_eqStringS_l l hs l.length k 0 (by omega) (by omega) hk

theorem rd_L1_at (l : List (List ByteArray)) (i : Nat) (h : i < l.length) : rd_L1 l (i : Int) = l[i] := by
  unfold rd_L1; simp [List.getD, h]
/-- What a row takes of the purse. -/
def cost (r : List ByteArray) : Nat := r.length + (r.map ByteArray.size).sum
theorem cost_mem {l : List (List ByteArray)} {r : List ByteArray} (h : r ∈ l) : cost r ≤ (l.map cost).sum := by
  induction l with
  | nil => simp at h
  | cons a t ih =>
    simp only [List.map_cons, List.sum_cons]
    rcases List.mem_cons.1 h with rfl | q
    · omega
    · have := ih q; omega
theorem size_mem {l : List ByteArray} {s : ByteArray} (h : s ∈ l) : s.size ≤ (l.map ByteArray.size).sum := by
  induction l with
  | nil => simp at h
  | cons a t ih =>
    simp only [List.map_cons, List.sum_cons]
    rcases List.mem_cons.1 h with rfl | q
    · omega
    · have := ih q; omega
theorem laws_szStringSS_l (l : List (List ByteArray)) (hl : l.length ≤ 1048576) (hs : ∀ q ∈ l, q.length ≤ 9223372036854775807 ∧ ∀ s ∈ q, s.size ≤ 9223372036854775807) (d : Nat) : ∀ (k i : Nat) (x : Int), 0 ≤ x → x ≤ 1048576 → i ≤ l.length → l.length - i = d → d + 1048577 < k →
    ∃ r, laws_szStringSS.l0 k l x (i : Int) = some r ∧ (0 ≤ r → ((((l.drop i).map cost).sum : Nat) : Int) + r = x ∧ r ≤ x) := by
  induction d with
  | zero =>
    intro k i x x0 x1 hi hd hk
    obtain ⟨k, rfl⟩ : ∃ m, k = m + 1 := ⟨k - 1, by omega⟩
    simp only [laws_szStringSS.l0]
    rw [if_neg (by omega)]
    have e : l.drop i = [] := List.drop_eq_nil_of_le (by omega)
    exact ⟨x, rfl, fun _ => by rw [e]; simp⟩
  | succ d ih =>
    intro k i x x0 x1 hi hd hk
    obtain ⟨k, rfl⟩ : ∃ m, k = m + 1 := ⟨k - 1, by omega⟩
    have hlt : i < l.length := by omega
    have hz := hs l[i] (List.getElem_mem hlt)
    have hdr : l.drop i = l[i] :: l.drop (i + 1) := List.drop_eq_getElem_cons hlt
    simp only [laws_szStringSS.l0]
    rw [if_pos (by omega), if_pos (by omega), rd_L1_at l i hlt, hdr]
    obtain ⟨r, e, hr⟩ := laws_szStringS_is l[i] hz.1 hz.2 x x0 x1 k (by omega)
    rw [e]
    simp only [Option.bind_some]
    by_cases c : r < 0
    · rw [if_pos c]
      exact ⟨-1, rfl, fun h => by omega⟩
    · rw [if_neg c, w64_id (n := (i : Int) + 1) (by omega) (by omega)]
      have q := hr (by omega)
      obtain ⟨r2, e2, hr2⟩ := ih k (i + 1) r (by omega) (by omega) (by omega) (by omega) (by omega)
      refine ⟨r2, e2, fun h => ?_⟩
      have := hr2 h
      simp only [List.map_cons, List.sum_cons]
      unfold cost at *
      omega
theorem laws_szStringSS_is (l : List (List ByteArray)) (hl : l.length ≤ 9223372036854775807) (hs : ∀ q ∈ l, q.length ≤ 9223372036854775807 ∧ ∀ s ∈ q, s.size ≤ 9223372036854775807) (x : Int) (x0 : 0 ≤ x) (x1 : x ≤ 1048576) (k : Nat) (hk : 2097155 ≤ k) :
    ∃ r, laws_szStringSS.f k l x = some r ∧ (0 ≤ r → (l.length : Int) + (((l.map cost).sum : Nat) : Int) + r = x) := by
  unfold laws_szStringSS.f
  rw [w64_id (n := x - (l.length : Int)) (by omega) (by omega)]
  by_cases c : x - (l.length : Int) < 0
  · rw [if_pos c]
    exact ⟨-1, rfl, fun h => by omega⟩
  · rw [if_neg c]
    obtain ⟨r, e, hr⟩ := laws_szStringSS_l l (by omega) hs l.length k 0 (x - (l.length : Int)) (by omega) (by omega) (by omega) (by omega) (by omega)
    refine ⟨r, e, fun h => ?_⟩
    have := hr h
    simp only [List.drop_zero] at this
    omega
theorem laws_toStringSS_l (l : List (List ByteArray)) (hl : l.length ≤ 1048576) (hs : ∀ q ∈ l, q.length ≤ 1048576) (d : Nat) : ∀ (k i : Nat) (m : List (List ByteArray)), i ≤ l.length → l.length - i = d → d + 1048577 < k → m.length = l.length → m.take i = l.take i → laws_toStringSS.l0 k l m (i : Int) = some l := by
  induction d with
  | zero =>
    intro k i m hi hd hk hm ht
    obtain ⟨k, rfl⟩ : ∃ m, k = m + 1 := ⟨k - 1, by omega⟩
    simp only [laws_toStringSS.l0]
    rw [if_neg (by omega)]
    have e1 : m.take i = m := List.take_of_length_le (by omega)
    have e2 : l.take i = l := List.take_of_length_le (by omega)
    rw [← e1, ht, e2]
  | succ d ih =>
    intro k i m hi hd hk hm ht
    obtain ⟨k, rfl⟩ : ∃ m, k = m + 1 := ⟨k - 1, by omega⟩
    have hlt : i < l.length := by omega
    have hz := hs l[i] (List.getElem_mem hlt)
    have e : ((i : Int)).toNat = i := by omega
    simp only [laws_toStringSS.l0]
    rw [if_pos (by omega), if_pos (by omega), rd_L1_at l i hlt, laws_toStringS_is l[i] hz k (by omega)]
    simp only [Option.bind_some]
    rw [if_pos (by omega), e, w64_id (n := (i : Int) + 1) (by omega) (by omega)]
    refine ih k (i + 1) _ (by omega) (by omega) (by omega) (by rw [List.length_set]; exact hm) ?_
    rw [List.take_add_one, List.take_add_one, List.take_set_of_le (by omega), ht, List.getElem?_set_self (by omega), List.getElem?_eq_getElem hlt]
theorem laws_toStringSS_is (l : List (List ByteArray)) (hl : l.length ≤ 1048576) (hs : ∀ q ∈ l, q.length ≤ 1048576) (k : Nat) (hk : 2097155 ≤ k) : laws_toStringSS.f k l = some l := by
  unfold laws_toStringSS.f
  have e : ((l.length : Int)).toNat = l.length := by omega
  rw [if_pos (by omega), e, if_pos (by omega)]
  exact laws_toStringSS_l l hl hs l.length k 0 _ (by omega) (by omega) (by omega) (by simp) (by simp)

theorem laws_eqStringSS_l (l : List (List ByteArray)) (hl : l.length ≤ 1048576) (hs : ∀ q ∈ l, q.length ≤ 1048576) (d : Nat) : ∀ (k i : Nat), i ≤ l.length → l.length - i = d → d + 1048577 < k → laws_eqStringSS.l0 k l l (i : Int) = some true := by
  induction d with
  | zero =>
    intro k i hi hd hk
    obtain ⟨k, rfl⟩ : ∃ m, k = m + 1 := ⟨k - 1, by omega⟩
    simp only [laws_eqStringSS.l0]
    rw [if_neg (by omega)]
  | succ d ih =>
    intro k i hi hd hk
    obtain ⟨k, rfl⟩ : ∃ m, k = m + 1 := ⟨k - 1, by omega⟩
    have hlt : i < l.length := by omega
    have hz := hs l[i] (List.getElem_mem hlt)
    simp only [laws_eqStringSS.l0]
    rw [if_pos (by omega), if_pos (by omega), if_pos (by omega), rd_L1_at l i hlt, laws_eqStringS_self l[i] (by omega) k (by omega)]
    simp only [Option.bind_some, if_true]
    rw [w64_id (n := (i : Int) + 1) (by omega) (by omega)]
    exact ih k (i + 1) (by omega) (by omega) (by omega)
theorem laws_eqStringSS_self (l : List (List ByteArray)) (hl : l.length ≤ 1048576) (hs : ∀ q ∈ l, q.length ≤ 1048576) (k : Nat) (hk : 2097155 ≤ k) : laws_eqStringSS.f k l l = some true := by
  unfold laws_eqStringSS.f
  rw [if_pos rfl]
  exact laws_eqStringSS_l l hl hs l.length k 0 (by omega) (by omega) (by omega)

theorem drop_eq_iff {α : Type} (a b : List α) (i : Nat) (ha : i < a.length) (hb : i < b.length) : (a.drop i = b.drop i) ↔ (a[i] = b[i] ∧ a.drop (i + 1) = b.drop (i + 1)) := by
  rw [List.drop_eq_getElem_cons ha, List.drop_eq_getElem_cons hb]
  exact ⟨fun h => ⟨(List.cons.inj h).1, (List.cons.inj h).2⟩, fun h => by rw [h.1, h.2]⟩
theorem impl_SameRows_l (a b : List (List ByteArray)) (hl : a.length ≤ 1048576) (hab : a.length = b.length) (d : Nat) : ∀ (k i : Nat), i ≤ a.length → a.length - i = d → d < k → impl_SameRows.l0 k a b (i : Int) = some (decide (a.drop i = b.drop i)) := by
  induction d with
  | zero =>
    intro k i hi hd hk
    obtain ⟨k, rfl⟩ : ∃ m, k = m + 1 := ⟨k - 1, by omega⟩
    simp only [impl_SameRows.l0]
    rw [if_neg (by omega), List.drop_eq_nil_of_le (by omega), List.drop_eq_nil_of_le (by omega)]
    simp
  | succ d ih =>
    intro k i hi hd hk
    obtain ⟨k, rfl⟩ : ∃ m, k = m + 1 := ⟨k - 1, by omega⟩
    have hlt : i < a.length := by omega
    have hlt2 : i < b.length := by omega
    simp only [impl_SameRows.l0]
    rw [if_pos (by omega), if_pos (by omega), if_pos (by omega), rd_L1_at a i hlt, rd_L1_at b i hlt2, w64_id (n := (i : Int) + 1) (by omega) (by omega)]
    by_cases c : a[i] = b[i]
    · rw [if_pos (decide_eq_true c), show (i : Int) + 1 = ((i + 1 : Nat) : Int) from rfl, ih k (i + 1) (by omega) (by omega) (by omega)]
      congr 1
      exact decide_eq_decide.2 ⟨fun h => (drop_eq_iff a b i hlt hlt2).2 ⟨c, h⟩, fun h => ((drop_eq_iff a b i hlt hlt2).1 h).2⟩
    · rw [if_neg (by simpa using c), decide_eq_false (fun h => c ((drop_eq_iff a b i hlt hlt2).1 h).1)]
theorem impl_SameRows_is (a b : List (List ByteArray)) (hl : a.length ≤ 1048576) (k : Nat) (hk : 1048577 ≤ k) : impl_SameRows.f k a b = some (decide (a = b)) := by
  unfold impl_SameRows.f
  by_cases c : a.length = b.length
  · rw [if_pos (by omega)]
    have := impl_SameRows_l a b hl c a.length k 0 (by omega) (by omega) (by omega)
    simpa using this
  · rw [if_neg (by omega), decide_eq_false (fun h => c (by rw [h]))]

theorem ba_eq_iff (a b : ByteArray) : a.toList = b.toList ↔ a = b := by
  rw [Lib.toList_data, Lib.toList_data]
  constructor
  · intro h
    have := Array.ext' h
    cases a; cases b
    simp_all
  · intro h; rw [h]
theorem spec_SameRows_l1 (a b : List (List ByteArray)) (i : Nat) (ha : i < a.length) (hb : i < b.length) (hla : a.length ≤ 1048576) (hal : a[i].length ≤ 1048576) (hab : a[i].length = b[i].length) (d : Nat) : ∀ (k j : Nat), j ≤ a[i].length → a[i].length - j = d → d < k →
    ∃ k', k - d - 1 ≤ k' ∧ k' ≤ k ∧ spec_SameRows.l1 k a b (i : Int) (j : Int) = if a[i].drop j = b[i].drop j then spec_SameRows.l0 k' a b ((i + 1 : Nat) : Int) else some false := by
  induction d with
  | zero =>
    intro k j hj hd hk
    obtain ⟨k, rfl⟩ : ∃ m, k = m + 1 := ⟨k - 1, by omega⟩
    refine ⟨k, by omega, by omega, ?_⟩
    simp only [spec_SameRows.l1]
    rw [rd_L1_at a i ha, if_pos (by omega), if_pos (by omega), if_neg (by omega), List.drop_eq_nil_of_le (by omega), List.drop_eq_nil_of_le (by omega), if_pos rfl, w64_id (n := (i : Int) + 1) (by omega) (by omega)]
    rfl
  | succ d ih =>
    intro k j hj hd hk
    obtain ⟨k, rfl⟩ : ∃ m, k = m + 1 := ⟨k - 1, by omega⟩
    have hlt : j < a[i].length := by omega
    have hlt2 : j < b[i].length := by omega
    have hg : rdOf ByteArray.empty a[i] (j : Int) = a[i][j] := by
      unfold rdOf; simp [List.getD, hlt]
    have hg2 : rdOf ByteArray.empty b[i] (j : Int) = b[i][j] := by
      unfold rdOf; simp [List.getD, hlt2]
    simp only [spec_SameRows.l1]
    rw [rd_L1_at a i ha, rd_L1_at b i hb, if_pos (by omega), if_pos (by omega), if_pos (by omega), if_pos (by omega), if_pos (by omega), if_pos (by omega), hg, hg2, w64_id (n := (j : Int) + 1) (by omega) (by omega)]
    by_cases c : a[i][j] = b[i][j]
    · rw [if_pos ((ba_eq_iff _ _).2 c)]
      obtain ⟨k', h1, h2, e⟩ := ih k (j + 1) (by omega) (by omega) (by omega)
      refine ⟨k', by omega, by omega, ?_⟩
      rw [show (j : Int) + 1 = ((j + 1 : Nat) : Int) from rfl, e]
      by_cases q : a[i].drop (j + 1) = b[i].drop (j + 1)
      · rw [if_pos q, if_pos ((drop_eq_iff _ _ j hlt hlt2).2 ⟨c, q⟩)]
      · rw [if_neg q, if_neg (fun h => q ((drop_eq_iff _ _ j hlt hlt2).1 h).2)]
    · refine ⟨k, by omega, by omega, ?_⟩
      rw [if_neg (fun h => c ((ba_eq_iff _ _).1 h)), if_neg (fun h => c ((drop_eq_iff _ _ j hlt hlt2).1 h).1)]
theorem spec_SameRows_l0 (a b : List (List ByteArray)) (hl : a.length ≤ 1048576) (hs : ∀ q ∈ a, q.length ≤ 1048576) (hab : a.length = b.length) (d : Nat) : ∀ (k i : Nat), i ≤ a.length → a.length - i = d → d + ((a.drop i).map List.length).sum + d < k → spec_SameRows.l0 k a b (i : Int) = some (decide (a.drop i = b.drop i)) := by
  induction d with
  | zero =>
    intro k i hi hd hk
    obtain ⟨k, rfl⟩ : ∃ m, k = m + 1 := ⟨k - 1, by omega⟩
    simp only [spec_SameRows.l0]
    rw [if_neg (by omega), List.drop_eq_nil_of_le (by omega), List.drop_eq_nil_of_le (by omega)]
    simp
  | succ d ih =>
    intro k i hi hd hk
    obtain ⟨k, rfl⟩ : ∃ m, k = m + 1 := ⟨k - 1, by omega⟩
    have hlt : i < a.length := by omega
    have hlt2 : i < b.length := by omega
    have hdr : a.drop i = a[i] :: a.drop (i + 1) := List.drop_eq_getElem_cons hlt
    rw [hdr] at hk
    simp only [List.map_cons, List.sum_cons] at hk
    simp only [spec_SameRows.l0]
    rw [if_pos (by omega), if_pos (by omega), if_pos (by omega), rd_L1_at a i hlt, rd_L1_at b i hlt2]
    by_cases c : a[i].length = b[i].length
    · rw [if_pos (by omega)]
      obtain ⟨k', h1, h2, e⟩ := spec_SameRows_l1 a b i hlt hlt2 hl (hs _ (List.getElem_mem hlt)) c a[i].length k 0 (by omega) (by omega) (by omega)
      rw [show ((0 : Nat) : Int) = (0 : Int) from rfl] at e
      rw [e, List.drop_zero, List.drop_zero]
      by_cases q : a[i] = b[i]
      · rw [if_pos q, ih k' (i + 1) (by omega) (by omega) (by omega)]
        congr 1
        exact decide_eq_decide.2 ⟨fun h => (drop_eq_iff a b i hlt hlt2).2 ⟨q, h⟩, fun h => ((drop_eq_iff a b i hlt hlt2).1 h).2⟩
      · rw [if_neg q, decide_eq_false (fun h => q ((drop_eq_iff a b i hlt hlt2).1 h).1)]
    · rw [if_neg (by omega), decide_eq_false (fun h => c (by rw [((drop_eq_iff a b i hlt hlt2).1 h).1]))]
theorem len_le_cost (l : List (List ByteArray)) : (l.map List.length).sum ≤ (l.map cost).sum := by
  induction l with
  | nil => simp
  | cons a t ih =>
    simp only [List.map_cons, List.sum_cons]
    unfold cost at *
    omega
theorem spec_SameRows_is (a b : List (List ByteArray)) (hl : a.length ≤ 1048576) (hs : ∀ q ∈ a, q.length ≤ 1048576) (k : Nat) (hk : a.length + (a.map List.length).sum + a.length < k) : spec_SameRows.f k a b = some (decide (a = b)) := by
  unfold spec_SameRows.f
  by_cases c : a.length = b.length
  · rw [if_pos (by omega)]
    have := spec_SameRows_l0 a b hl hs c a.length k 0 (by omega) (by omega) (by simpa using hk)
    simpa using this
  · rw [if_neg (by omega), decide_eq_false (fun h => c (by rw [h]))]

theorem FnExactSameRows (a b : List (List ByteArray)) (hla : a.length ≤ maxLen) (hsa : ∀ q ∈ a, q.length ≤ maxLen ∧ ∀ s ∈ q, s.size ≤ maxLen) (hlb : b.length ≤ maxLen) (hsb : ∀ q ∈ b, q.length ≤ maxLen ∧ ∀ s ∈ q, s.size ≤ maxLen) : ∃ k, laws_FnExactSameRows.f k a b = some true := by
  refine ⟨4194304, ?_⟩
  unfold maxLen at *
  unfold laws_FnExactSameRows.f
  obtain ⟨r, e, hr⟩ := laws_szStringSS_is a (by omega) (fun q h => ⟨by have := (hsa q h).1; omega, fun s z => by have := (hsa q h).2 s z; omega⟩) 1048576 (by omega) (by omega) 4194304 (by omega)
  rw [e]
  simp only [Option.bind_some]
  by_cases n : r < 0
  · rw [if_pos n]
  rw [if_neg n]
  have q := hr (by omega)
  obtain ⟨r2, e2, hr2⟩ := laws_szStringSS_is b (by omega) (fun q h => ⟨by have := (hsb q h).1; omega, fun s z => by have := (hsb q h).2 s z; omega⟩) r (by omega) (by omega) 4194304 (by omega)
  rw [e2]
  simp only [Option.bind_some]
  by_cases n2 : r2 < 0
  · rw [if_pos n2]
  rw [if_neg n2]
  have q2 := hr2 (by omega)
  have la : a.length ≤ 1048576 := by omega
  have lb : b.length ≤ 1048576 := by omega
  have ra : ∀ x ∈ a, x.length ≤ 1048576 := fun x h => by have := cost_mem h; unfold cost at this; unfold cost at q; omega
  have rb : ∀ x ∈ b, x.length ≤ 1048576 := fun x h => by have := cost_mem h; unfold cost at this; unfold cost at q2; omega
  have hc := len_le_cost a
  have t1 := laws_toStringSS_is a la ra 4194304 (by omega)
  have t2 := laws_toStringSS_is b lb rb 4194304 (by omega)
  have t3 := spec_SameRows_is a b la ra 4194304 (by omega)
  have t4 := impl_SameRows_is a b la 4194304 (by omega)
  have t5 := laws_eqStringSS_self a la ra 4194304 (by omega)
  have t6 := laws_eqStringSS_self b lb rb 4194304 (by omega)
  generalize (4194304 : Nat) = K at *
  rw [t1]; simp only [Option.bind_some]
  rw [t2]; simp only [Option.bind_some]
  rw [t3]; simp only [Option.bind_some]
  rw [t4]; simp only [Option.bind_some]
  rw [if_neg (by simp), t5]
  simp only [Option.bind_some, if_true]
  rw [t6]
  simp

end Go.Proofs.Ytcbiijfiecjcaaa.Pure
