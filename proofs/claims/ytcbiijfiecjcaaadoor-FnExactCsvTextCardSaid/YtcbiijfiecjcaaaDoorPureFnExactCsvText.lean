/- Rows as text: program and reference give the same bytes. Conditions: each number is one of its kind, as the row says. -/
import Derived.Test.YtcbiijfiecjcaaaDoorPFnExactCsvTextx
import Derived.Test.YtcbiijfiecjcaaaDoorBase
set_option linter.unusedSimpArgs false
set_option linter.unusedVariables false
namespace Go.Proofs.YtcbiijfiecjcaaaDoor.Pure
open Go.RowKit Go.Proofs.YtcbiijfiecjcaaaDoor.Base Go.Proofs.YtcbiijfiecjcaaaDoor.PFnExactCsvText Go.Proofs.YtcbiijfiecjcaaaDoorW.PrintWords Go.Proofs.YtcbiijfiecjcaaaDoorW.PrintLast Go.Proofs.YtcbiijfiecjcaaaDoorW.PrintMore

/-- What a row takes of the purse. -/
def cost (r : List ByteArray) : Nat := r.length + (r.map ByteArray.size).sum
theorem cost_mem {l : List (List ByteArray)} {r : List ByteArray} (h : r ∈ l) : cost r ≤ (l.map cost).sum := by
  induction l with
  | nil => simp at h
  | cons a t ih =>
    simp only [List.map_cons, List.sum_cons]
    rcases List.mem_cons.1 h with rfl | q
    · omega
    · have := ih q; omega
theorem size_mem {l : List ByteArray} {s : ByteArray} (h : s ∈ l) : s.size ≤ (l.map ByteArray.size).sum := by
  induction l with
  | nil => simp at h
  | cons a t ih =>
    simp only [List.map_cons, List.sum_cons]
    rcases List.mem_cons.1 h with rfl | q
    · omega
    · have := ih q; omega

theorem rd_L1_at (l : List (List ByteArray)) (i : Nat) (h : i < l.length) : rd_L1 l (i : Int) = l[i] := by
  unfold rd_L1; simp [List.getD, h]

/-- What a row of strings takes of a purse. -/
theorem laws_szStringS_l (l : List ByteArray) (hl : l.length ≤ 1048576) (hs : ∀ s ∈ l, s.size ≤ 9223372036854775807) (d : Nat) : ∀ (k i : Nat) (x : Int), 0 ≤ x → x ≤ 1048576 → i ≤ l.length → l.length - i = d → d < k →
    ∃ r, laws_szStringS.l0 k l x (i : Int) = some r ∧ (0 ≤ r → ((((l.drop i).map ByteArray.size).sum : Nat) : Int) + r = x ∧ r ≤ x) := by
  induction d with
  | zero =>
    intro k i x x0 x1 hi hd hk
    obtain ⟨k, rfl⟩ : ∃ m, k = m + 1 := ⟨k - 1, by omega⟩
    simp only [laws_szStringS.l0]
    rw [if_neg (by omega)]
    have e : l.drop i = [] := List.drop_eq_nil_of_le (by omega)
    exact ⟨x, rfl, fun _ => by rw [e]; simp⟩
  | succ d ih =>
    intro k i x x0 x1 hi hd hk
    obtain ⟨k, rfl⟩ : ∃ m, k = m + 1 := ⟨k - 1, by omega⟩
    have hlt : i < l.length := by omega
    have hg : rdOf ByteArray.empty l (i : Int) = l[i] := by
      unfold rdOf; simp [List.getD, hlt]
    have hz := hs l[i] (List.getElem_mem hlt)
    have hdr : l.drop i = l[i] :: l.drop (i + 1) := List.drop_eq_getElem_cons hlt
    simp only [laws_szStringS.l0]
    rw [if_pos (by omega), if_pos (by omega), hg, hdr, w64_id (n := x - ((l[i]).size : Int)) (by omega) (by omega)]
    by_cases c : x - ((l[i]).size : Int) < 0
    · rw [if_pos c]
      exact ⟨-1, rfl, fun h => by omega⟩
    · rw [if_neg c, w64_id (n := (i : Int) + 1) (by omega) (by omega)]
      obtain ⟨r, e, hr⟩ := ih k (i + 1) (x - ((l[i]).size : Int)) (by omega) (by omega) (by omega) (by omega) (by omega)
      refine ⟨r, e, fun h => ?_⟩
      have := hr h
      simp only [List.map_cons, List.sum_cons]
      omega
theorem laws_szStringS_is (l : List ByteArray) (hl : l.length ≤ 9223372036854775807) (hs : ∀ s ∈ l, s.size ≤ 9223372036854775807) (x : Int) (x0 : 0 ≤ x) (x1 : x ≤ 1048576) (k : Nat) (hk : 1048577 ≤ k) :
    ∃ r, laws_szStringS.f k l x = some r ∧ (0 ≤ r → (l.length : Int) + (((l.map ByteArray.size).sum : Nat) : Int) + r = x) := by
  unfold laws_szStringS.f
  rw [w64_id (n := x - (l.length : Int)) (by omega) (by omega)]
  by_cases c : x - (l.length : Int) < 0
  · rw [if_pos c]
    exact ⟨-1, rfl, fun h => by omega⟩
  · rw [if_neg c]
    obtain ⟨r, e, hr⟩ := laws_szStringS_l l (by omega) hs l.length k 0 (x - (l.length : Int)) (by omega) (by omega) (by omega) (by omega) (by omega)
    refine ⟨r, e, fun h => ?_⟩
    have := hr h
    simp only [List.drop_zero] at this
    omega

theorem laws_toStringS_l (l : List ByteArray) (hl : l.length ≤ 1048576) (d : Nat) : ∀ (k i : Nat) (m : List ByteArray), i ≤ l.length → l.length - i = d → d < k → m.length = l.length → m.take i = l.take i → laws_toStringS.l0 k l m (i : Int) = some l := by
  induction d with
  | zero =>
    intro k i m hi hd hk hm ht
    obtain ⟨k, rfl⟩ : ∃ m, k = m + 1 := ⟨k - 1, by omega⟩
    simp only [laws_toStringS.l0]
    rw [if_neg (by omega)]
    have e1 : m.take i = m := List.take_of_length_le (by omega)
    have e2 : l.take i = l := List.take_of_length_le (by omega)
    rw [← e1, ht, e2]
  | succ d ih =>
    intro k i m hi hd hk hm ht
    obtain ⟨k, rfl⟩ : ∃ m, k = m + 1 := ⟨k - 1, by omega⟩
    have hlt : i < l.length := by omega
    have hg : rdOf ByteArray.empty l (i : Int) = l[i] := by
      unfold rdOf; simp [List.getD, hlt]
    have e : ((i : Int)).toNat = i := by omega
    simp only [laws_toStringS.l0]
    rw [if_pos (by omega), if_pos (by omega), if_pos (by omega), hg, e, w64_id (n := (i : Int) + 1) (by omega) (by omega)]
    refine ih k (i + 1) _ (by omega) (by omega) (by omega) (by rw [List.length_set]; exact hm) ?_
    rw [List.take_add_one, List.take_add_one, List.take_set_of_le (by omega), ht, List.getElem?_set_self (by omega), List.getElem?_eq_getElem hlt]
theorem laws_toStringS_is (l : List ByteArray) (hl : l.length ≤ 1048576) (k : Nat) (hk : l.length < k) : laws_toStringS.f k l = some l := by
  unfold laws_toStringS.f
  have e : ((l.length : Int)).toNat = l.length := by omega
  rw [if_pos (by omega), e, if_pos (by omega)]
  exact laws_toStringS_l l hl l.length k 0 _ (by omega) (by omega) hk (by simp) (by simp)

theorem laws_szStringSS_l (l : List (List ByteArray)) (hl : l.length ≤ 1048576) (hs : ∀ q ∈ l, q.length ≤ 9223372036854775807 ∧ ∀ s ∈ q, s.size ≤ 9223372036854775807) (d : Nat) : ∀ (k i : Nat) (x : Int), 0 ≤ x → x ≤ 1048576 → i ≤ l.length → l.length - i = d → d + 1048577 < k →
    ∃ r, laws_szStringSS.l0 k l x (i : Int) = some r ∧ (0 ≤ r → ((((l.drop i).map cost).sum : Nat) : Int) + r = x ∧ r ≤ x) := by
  induction d with
  | zero =>
    intro k i x x0 x1 hi hd hk
    obtain ⟨k, rfl⟩ : ∃ m, k = m + 1 := ⟨k - 1, by omega⟩
    simp only [laws_szStringSS.l0]
    rw [if_neg (by omega)]
    have e : l.drop i = [] := List.drop_eq_nil_of_le (by omega)
    exact ⟨x, rfl, fun _ => by rw [e]; simp⟩
  | succ d ih =>
    intro k i x x0 x1 hi hd hk
    obtain ⟨k, rfl⟩ : ∃ m, k = m + 1 := ⟨k - 1, by omega⟩
    have hlt : i < l.length := by omega
    have hz := hs l[i] (List.getElem_mem hlt)
    have hdr : l.drop i = l[i] :: l.drop (i + 1) := List.drop_eq_getElem_cons hlt
    simp only [laws_szStringSS.l0]
    rw [if_pos (by omega), if_pos (by omega), rd_L1_at l i hlt, hdr]
    obtain ⟨r, e, hr⟩ := laws_szStringS_is l[i] hz.1 hz.2 x x0 x1 k (by omega)
    rw [e]
    simp only [Option.bind_some]
    by_cases c : r < 0
    · rw [if_pos c]
      exact ⟨-1, rfl, fun h => by omega⟩
    · rw [if_neg c, w64_id (n := (i : Int) + 1) (by omega) (by omega)]
      have q := hr (by omega)
      obtain ⟨r2, e2, hr2⟩ := ih k (i + 1) r (by omega) (by omega) (by omega) (by omega) (by omega)
      refine ⟨r2, e2, fun h => ?_⟩
      have := hr2 h
      simp only [List.map_cons, List.sum_cons]
      unfold cost at *
      omega
theorem laws_szStringSS_is (l : List (List ByteArray)) (hl : l.length ≤ 9223372036854775807) (hs : ∀ q ∈ l, q.length ≤ 9223372036854775807 ∧ ∀ s ∈ q, s.size ≤ 9223372036854775807) (x : Int) (x0 : 0 ≤ x) (x1 : x ≤ 1048576) (k : Nat) (hk : 2097155 ≤ k) :
    ∃ r, laws_szStringSS.f k l x = some r ∧ (0 ≤ r → (l.length : Int) + (((l.map cost).sum : Nat) : Int) + r = x) := by
  unfold laws_szStringSS.f
  rw [w64_id (n := x - (l.length : Int)) (by omega) (by omega)]
  by_cases c : x - (l.length : Int) < 0
  · rw [if_pos c]
    exact ⟨-1, rfl, fun h => by omega⟩
  · rw [if_neg c]
    obtain ⟨r, e, hr⟩ := laws_szStringSS_l l (by omega) hs l.length k 0 (x - (l.length : Int)) (by omega) (by omega) (by omega) (by omega) (by omega)
    refine ⟨r, e, fun h => ?_⟩
    have := hr h
    simp only [List.drop_zero] at this
    omega
theorem laws_toStringSS_l (l : List (List ByteArray)) (hl : l.length ≤ 1048576) (hs : ∀ q ∈ l, q.length ≤ 1048576) (d : Nat) : ∀ (k i : Nat) (m : List (List ByteArray)), i ≤ l.length → l.length - i = d → d + 1048577 < k → m.length = l.length → m.take i = l.take i → laws_toStringSS.l0 k l m (i : Int) = some l := by
  induction d with
  | zero =>
    intro k i m hi hd hk hm ht
    obtain ⟨k, rfl⟩ : ∃ m, k = m + 1 := ⟨k - 1, by omega⟩
    simp only [laws_toStringSS.l0]
    rw [if_neg (by omega)]
    have e1 : m.take i = m := List.take_of_length_le (by omega)
    have e2 : l.take i = l := List.take_of_length_le (by omega)
    rw [← e1, ht, e2]
  | succ d ih =>
    intro k i m hi hd hk hm ht
    obtain ⟨k, rfl⟩ : ∃ m, k = m + 1 := ⟨k - 1, by omega⟩
    have hlt : i < l.length := by omega
    have hz := hs l[i] (List.getElem_mem hlt)
    have e : ((i : Int)).toNat = i := by omega
    simp only [laws_toStringSS.l0]
    rw [if_pos (by omega), if_pos (by omega), rd_L1_at l i hlt, laws_toStringS_is l[i] hz k (by omega)]
    simp only [Option.bind_some]
    rw [if_pos (by omega), e, w64_id (n := (i : Int) + 1) (by omega) (by omega)]
    refine ih k (i + 1) _ (by omega) (by omega) (by omega) (by rw [List.length_set]; exact hm) ?_
    rw [List.take_add_one, List.take_add_one, List.take_set_of_le (by omega), ht, List.getElem?_set_self (by omega), List.getElem?_eq_getElem hlt]
theorem laws_toStringSS_is (l : List (List ByteArray)) (hl : l.length ≤ 1048576) (hs : ∀ q ∈ l, q.length ≤ 1048576) (k : Nat) (hk : 2097155 ≤ k) : laws_toStringSS.f k l = some l := by
  unfold laws_toStringSS.f
  have e : ((l.length : Int)).toNat = l.length := by omega
  rw [if_pos (by omega), e, if_pos (by omega)]
  exact laws_toStringSS_l l hl hs l.length k 0 _ (by omega) (by omega) (by omega) (by simp) (by simp)

theorem laws_eqStringS_l (l : List ByteArray) (hs : l.length ≤ 1048577) (d : Nat) : ∀ (k i : Nat), i ≤ l.length → l.length - i = d → d < k → laws_eqStringS.l0 k l l (i : Int) = some true := by
  induction d with
  | zero =>
    intro k i hi hd hk
    obtain ⟨k, rfl⟩ : ∃ m, k = m + 1 := ⟨k - 1, by omega⟩
    simp only [laws_eqStringS.l0]
    rw [if_neg (by omega)]
  | succ d ih =>
    intro k i hi hd hk
    obtain ⟨k, rfl⟩ : ∃ m, k = m + 1 := ⟨k - 1, by omega⟩
    simp only [laws_eqStringS.l0]
    rw [if_pos (by omega), if_pos (by omega), if_pos (by omega), if_pos trivial, w64_id (by omega) (by omega)]
    exact ih k (i + 1) (by omega) (by omega) (by omega)
theorem laws_eqStringS_self (l : List ByteArray) (hs : l.length ≤ 1048577) (k : Nat) (hk : l.length < k) : laws_eqStringS.f k l l = some true := by
  unfold laws_eqStringS.f
  rw [if_pos rfl]
  exact laws_eqStringS_l l hs l.length k 0 (by omega) (by omega) hk

theorem laws_eqStringSS_l (l : List (List ByteArray)) (hl : l.length ≤ 1048576) (hs : ∀ q ∈ l, q.length ≤ 1048576) (d : Nat) : ∀ (k i : Nat), i ≤ l.length → l.length - i = d → d + 1048577 < k → laws_eqStringSS.l0 k l l (i : Int) = some true := by
  induction d with
  | zero =>
    intro k i hi hd hk
    obtain ⟨k, rfl⟩ : ∃ m, k = m + 1 := ⟨k - 1, by omega⟩
    simp only [laws_eqStringSS.l0]
    rw [if_neg (by omega)]
  | succ d ih =>
    intro k i hi hd hk
    obtain ⟨k, rfl⟩ : ∃ m, k = m + 1 := ⟨k - 1, by omega⟩
    have hlt : i < l.length := by omega
    have hz := hs l[i] (List.getElem_mem hlt)
    simp only [laws_eqStringSS.l0]
    rw [if_pos (by omega), if_pos (by omega), if_pos (by omega), rd_L1_at l i hlt, laws_eqStringS_self l[i] (by omega) k (by omega)]
    simp only [Option.bind_some, if_true]
    rw [w64_id (n := (i : Int) + 1) (by omega) (by omega)]
    exact ih k (i + 1) (by omega) (by omega) (by omega)
theorem laws_eqStringSS_self (l : List (List ByteArray)) (hl : l.length ≤ 1048576) (hs : ∀ q ∈ l, q.length ≤ 1048576) (k : Nat) (hk : 2097155 ≤ k) : laws_eqStringSS.f k l l = some true := by
  unfold laws_eqStringSS.f
  rw [if_pos rfl]
  exact laws_eqStringSS_l l hl hs l.length k 0 (by omega) (by omega) (by omega)

theorem bt_nat (s : ByteArray) (i : Nat) (h : i < s.data.toList.length) : bt s (i : Int) = ((s.data.toList[i]).toNat : Int) := by
  have h' : i < s.size := by rw [Array.length_toList] at h; exact h
  have e := bt_at s (i : Int) (by simpa using h')
  rw [← e]
  simp
  rfl

/-- A text as the numbers of its bytes. -/
def nums' (l : List UInt8) : List Int := l.map (fun b => ((b.toNat : Nat) : Int))
theorem nums'_str (l : List UInt8) : strOfNums (nums' l) = ⟨l.toArray⟩ := by
  unfold strOfNums nums'
  rw [List.map_map]
  congr 1
  have : (l.map ((fun x : Int => x.toNat.toUInt8) ∘ fun b : UInt8 => ((b.toNat : Nat) : Int))) = l.map id := by
    apply List.map_congr_left
    intro b _
    simp
  first
  | rw [this, List.map_id]
  | (simp)
theorem nums'_app (a b : List UInt8) : nums' (a ++ b) = nums' a ++ nums' b := by unfold nums'; rw [List.map_append]
theorem nums'_len (a : List UInt8) : (nums' a).length = a.length := by unfold nums'; rw [List.length_map]
/-- Quotes doubled. -/
def esc : List UInt8 → List UInt8
  | [] => []
  | b :: l => if b = 34 then 34 :: 34 :: esc l else b :: esc l
theorem esc_cons (b : UInt8) (l : List UInt8) : esc (b :: l) = if b = 34 then 34 :: 34 :: esc l else b :: esc l := rfl
def spc (b : UInt8) : Bool := b == 44 || b == 34 || b == 10 || b == 13
/-- A field as text. -/
def csvF (l : List UInt8) : List UInt8 := if l.any spc = true then 34 :: (esc l ++ [34]) else l
theorem esc_len : ∀ l : List UInt8, (esc l).length ≤ 2 * l.length
  | [] => by simp [esc]
  | b :: l => by
    have := esc_len l
    rw [esc_cons]
    split <;> simp only [List.length_cons] <;> omega
theorem esc_app : ∀ a b : List UInt8, esc (a ++ b) = esc a ++ esc b
  | [], _ => rfl
  | x :: a, b => by
    have ih := esc_app a b
    rw [List.cons_append, esc_cons, esc_cons]
    by_cases c : x = 34
    · rw [if_pos c, if_pos c, ih]; rfl
    · rw [if_neg c, if_neg c, ih]; rfl
theorem csvF_len (l : List UInt8) : (csvF l).length ≤ 2 * l.length + 2 := by
  unfold csvF
  have := esc_len l
  split
  · simp only [List.length_cons, List.length_append, List.length_nil]; omega
  · omega
theorem byte_eq (b : UInt8) (n : Nat) (hn : n < 256) : (((b.toNat : Nat) : Int) = (n : Int)) ↔ b = UInt8.ofNat n := by
  constructor
  · intro h
    have h' : b.toNat = n := by omega
    rw [← h', UInt8.ofNat_toNat]
  · intro h
    rw [h, UInt8.toNat_ofNat_of_lt' (by simpa using hn)]
def bA (l : List UInt8) : ByteArray := ⟨l.toArray⟩
theorem bA_list (l : List UInt8) : (bA l).data.toList = l := by simp [bA]
theorem bA_size (l : List UInt8) : (bA l).size = l.length := by
  show l.toArray.size = _
  simp
theorem bA_self (a : ByteArray) : bA a.data.toList = a := rfl
theorem bA_bytes (l : List UInt8) : bytesOf (bA l) = nums' l := by
  unfold bytesOf nums'
  rw [bA_list]

/-- What stands of a row from a field on that is not its first. -/
def tailF : List ByteArray → List UInt8
  | [] => []
  | f :: t => 44 :: (csvF f.data.toList ++ tailF t)
def flds : List ByteArray → List UInt8
  | [] => []
  | f :: t => csvF f.data.toList ++ tailF t
def csvT : List (List ByteArray) → List UInt8
  | [] => []
  | r :: t => flds r ++ [10] ++ csvT t
/-- What is left of a row from field j on. -/
def from_ (j : Nat) (r : List ByteArray) : List UInt8 := if j = 0 then flds r else tailF (r.drop j)
theorem from_end (r : List ByteArray) : from_ r.length r = [] := by
  unfold from_
  by_cases c : r.length = 0
  · rw [if_pos c, List.length_eq_zero_iff.1 c]; rfl
  · rw [if_neg c, List.drop_length]; rfl
theorem from_step (r : List ByteArray) (j : Nat) (h : j < r.length) : from_ j r = (if j > 0 then [44] else []) ++ csvF r[j].data.toList ++ from_ (j + 1) r := by
  unfold from_
  rw [if_neg (show ¬ j + 1 = 0 by omega)]
  by_cases c : j = 0
  · subst c
    rw [if_pos rfl, if_neg (by omega), List.nil_append]
    cases r with
    | nil => simp at h
    | cons f t => rfl
  · rw [if_neg c, if_pos (by omega), List.drop_eq_getElem_cons h]
    rfl
theorem field_len (f : ByteArray) : (csvF f.data.toList).length ≤ 2 * f.size + 2 := by
  have h := csvF_len f.data.toList
  have hz : f.data.toList.length = f.size := by rw [Array.length_toList]; rfl
  omega
theorem tailF_len : ∀ r : List ByteArray, (tailF r).length ≤ 4 * cost r
  | [] => by simp [tailF]
  | f :: t => by
    have ih := tailF_len t
    have hf := field_len f
    have hc : cost (f :: t) = 1 + f.size + cost t := by unfold cost; simp only [List.length_cons, List.map_cons, List.sum_cons]; omega
    simp only [tailF, List.length_cons, List.length_append]
    omega
theorem flds_len : ∀ r : List ByteArray, (flds r).length ≤ 4 * cost r
  | [] => by simp [flds]
  | f :: t => by
    have ih := tailF_len t
    have hf := field_len f
    have hc : cost (f :: t) = 1 + f.size + cost t := by unfold cost; simp only [List.length_cons, List.map_cons, List.sum_cons]; omega
    simp only [flds, List.length_append]
    omega
theorem csvT_len : ∀ l : List (List ByteArray), (csvT l).length ≤ l.length + 4 * (l.map cost).sum
  | [] => by simp [csvT]
  | r :: t => by
    have ih := csvT_len t
    have hr := flds_len r
    simp only [csvT, List.length_append, List.length_cons, List.length_nil, List.map_cons, List.sum_cons]
    omega
theorem nums_small (o : List UInt8) (n : Nat) (h : o.length + n ≤ 1000000000) : (nums' o).length < 140737488355328 := by rw [nums'_len]; omega
theorem w64_mid (m n : Nat) (h : m < n) (hn : n ≤ 1048577) : wrap64 ((m : Int) + 1) = ((m + 1 : Nat) : Int) := w64_id (n := (m : Int) + 1) (by omega) (by omega)
theorem sum_small (a b : List UInt8) (n : Nat) (h : a.length + (b.length + n) ≤ 1000000001) : (nums' a).length + (bA b).size < 140737488355328 := by rw [nums'_len, bA_size]; omega
theorem room1 (o f r : List UInt8) (h : o.length + (([44] : List UInt8).length + f.length + r.length) ≤ 1000000000) : (o ++ [44]).length + (f.length + r.length) ≤ 1000000001 ∧ (o ++ [44] ++ f).length + r.length ≤ 1000000000 := by
  simp only [List.length_append, List.length_cons, List.length_nil] at h ⊢
  omega
theorem room0 (o f r : List UInt8) (h : o.length + (([] : List UInt8).length + f.length + r.length) ≤ 1000000000) : o.length + (f.length + r.length) ≤ 1000000001 ∧ (o ++ f).length + r.length ≤ 1000000000 := by
  simp only [List.length_append, List.length_nil] at h ⊢
  omega

theorem idx_34 (b : UInt8) (l : List UInt8) : Lib.index (b :: l) [34] = if b = 34 then 0 else if Lib.index l [34] = -1 then -1 else Lib.index l [34] + 1 := by
  rw [Lib.index_one, Lib.index_one, Lib.indexByte]
  by_cases c : b = 34
  · subst c; simp
  · have h : (b == 34) = false := by simpa using c
    rw [h, if_neg c]
    simp
theorem replaceK_esc : ∀ l : List UInt8, Lib.replaceK [34] [34, 34] (Lib.count l [34]) l = esc l
  | [] => by
    have : Lib.index ([] : List UInt8) [34] = -1 := rfl
    rw [Lib.count_miss this]; rfl
  | b :: l => by
    have ih := replaceK_esc l
    have hi := idx_34 b l
    by_cases c : b = 34
    · subst c
      rw [if_pos rfl] at hi
      rw [Lib.count_cons_eq, Nat.add_comm 1, Lib.replaceK_hit _ _ _ _ 0 hi]
      show [] ++ [34, 34] ++ Lib.replaceK [34] [34, 34] (Lib.count l [34]) l = _
      rw [ih, esc_cons, if_pos rfl]
      rfl
    · rw [if_neg c] at hi
      rw [Lib.count_cons_ne b 34 l c]
      rw [esc_cons, if_neg c, ← ih]
      by_cases m : Lib.index l [34] = -1
      · rw [Lib.count_miss m]; rfl
      · rw [if_neg m] at hi
        have hge := Lib.index_ge l [34]
        obtain ⟨i, hi2⟩ : ∃ i : Nat, Lib.index l [34] = i := ⟨(Lib.index l [34]).toNat, by omega⟩
        rw [hi2] at hi
        have hc := Lib.count_hit (s := l) (sub := [34]) (i := i) (by simp) hi2
        rw [hc, Nat.add_comm 1, Lib.replaceK_hit _ _ _ _ (i + 1) (by rw [hi]; rfl), Lib.replaceK_hit _ _ _ _ i hi2]
        rw [List.take_succ_cons, show i + 1 + ([34] : List UInt8).length = (i + ([34] : List UInt8).length) + 1 from by simp, List.drop_succ_cons]
        rfl
theorem replaceAll_esc (l : List UInt8) : Lib.replaceAll l [34] [34, 34] = esc l := by
  unfold Lib.replaceAll Lib.replace Lib.replaceNum
  rw [if_neg (by decide), if_pos (Or.inl (by decide))]
  exact replaceK_esc l
theorem spc_contains (b : UInt8) : ([44, 34, 10, 13] : List UInt8).contains b = spc b := by
  unfold spc
  simp only [List.contains_cons, List.contains_nil, Bool.or_false, Bool.or_assoc]
theorem containsAny_spc : ∀ l : List UInt8, Lib.containsAny l [44, 34, 10, 13] = l.any spc
  | [] => rfl
  | b :: l => by
    have ih := containsAny_spc l
    unfold Lib.containsAny at ih ⊢
    have hge := Lib.indexAny_ge [44, 34, 10, 13] l
    rw [Lib.indexAny, spc_contains, List.any_cons, ← ih]
    cases spc b
    · simp only [Bool.false_eq_true, if_false, Bool.false_or]
      by_cases m : Lib.indexAny l [44, 34, 10, 13] = -1
      · rw [m]; rfl
      · rw [if_neg (by simpa using m)]
        exact decide_eq_decide.2 (by omega)
    · rfl
theorem impl_CsvField_is (a : ByteArray) (h : a.size ≤ 1048576) : impl_CsvField.f a = some ⟨(csvF a.data.toList).toArray⟩ := by
  have hz : a.data.toList.length = a.size := by rw [Array.length_toList]; rfl
  have hl := esc_len a.data.toList
  have hb := Lib.countB_le ⟨#[34]⟩ (by decide) a.size a (Nat.le_refl _)
  unfold impl_CsvField.f strings_ContainsAny.f strings_ReplaceAll.f
  have c2 : a.size < 4294967281 ∧ 1 ≤ (⟨#[34]⟩ : ByteArray).size ∧ a.size + Lib.countB a ⟨#[34]⟩ * (⟨#[34, 34]⟩ : ByteArray).size ≤ 140737488355328 := ⟨by omega, by decide, by
    have e : (⟨#[34, 34]⟩ : ByteArray).size = 2 := rfl
    rw [e]; omega⟩
  rw [if_pos ⟨rfl, by omega⟩, if_pos c2, containsAny_spc]
  simp only [Option.bind_some]
  have er : Lib.replaceAll a.data.toList (⟨#[34]⟩ : ByteArray).data.toList (⟨#[34, 34]⟩ : ByteArray).data.toList = esc a.data.toList := replaceAll_esc _
  rw [er]
  unfold csvF
  cases a.data.toList.any spc
  · rfl
  · have e1 : (⟨(esc a.data.toList).toArray⟩ : ByteArray).size = (esc a.data.toList).length := by
      show (esc a.data.toList).toArray.size = _
      simp
    rw [if_pos rfl, if_pos rfl, if_pos (by rw [e1]; omega), if_pos (by rw [ByteArray.size_append, e1]; have : (⟨#[34]⟩ : ByteArray).size = 1 := rfl; omega)]
    congr 1

theorem impl_CsvText_l1 (l : List (List ByteArray)) (i : Nat) (hi : i < l.length) (hl : l.length ≤ 1048576) (hr : cost l[i] ≤ 1048576) (n : Int) (d : Nat) : ∀ (k j : Nat) (o : List UInt8), j ≤ l[i].length → l[i].length - j = d → d < k → o.length + (from_ j l[i]).length ≤ 1000000000 →
    ∃ k', k - d - 1 ≤ k' ∧ k' ≤ k ∧ impl_CsvText.l1 k (nums' o) l n (i : Int) l[i] (l[i].length : Int) (j : Int) = impl_CsvText.l0 k' (nums' (o ++ from_ j l[i] ++ [10])) l n ((i + 1 : Nat) : Int) := by
  induction d with
  | zero =>
    intro k j o hj hd hk ho
    obtain ⟨k, rfl⟩ : ∃ m, k = m + 1 := ⟨k - 1, by omega⟩
    have ej : j = l[i].length := by omega
    refine ⟨k, by omega, by omega, ?_⟩
    have hl1 : l.length ≤ 1048577 := by omega
    have j1 : ¬ (j : Int) < (l[i].length : Int) := by omega
    have w := w64_mid i _ hi hl1
    have hlo := nums_small o _ ho
    have e : nums' o ++ [10] = nums' (o ++ [10]) := by rw [nums'_app]; rfl
    rw [impl_CsvText.l1, if_neg j1, if_pos hlo, w, e, ej, from_end, List.append_nil]
  | succ d ih =>
    intro k j o hj hd hk ho
    obtain ⟨k, rfl⟩ : ∃ m, k = m + 1 := ⟨k - 1, by omega⟩
    have hlt : j < l[i].length := by omega
    have hs := from_step l[i] j hlt
    have hg : rdOf ByteArray.empty l[i] (j : Int) = l[i][j] := by
      unfold rdOf; simp [List.getD, hlt]
    have hz := size_mem (List.getElem_mem hlt)
    have hz2 : l[i][j].size ≤ 1048576 := by unfold cost at hr; omega
    have hlen : l[i].length ≤ 1048576 := by unfold cost at hr; omega
    have hlen1 : l[i].length ≤ 1048577 := by omega
    have hF2 : impl_CsvField.f l[i][j] = some (bA (csvF l[i][j].data.toList)) := impl_CsvField_is l[i][j] hz2
    have j0 : (0 : Int) ≤ (j : Int) := Int.natCast_nonneg j
    have i0 : (0 : Int) ≤ (i : Int) := Int.natCast_nonneg i
    have j1 : (j : Int) < (l[i].length : Int) := Int.ofNat_lt.2 hlt
    have i1 : (i : Int) < (l.length : Int) := Int.ofNat_lt.2 hi
    have cp : j > 0 → (j : Int) > 0 := fun c => Int.ofNat_lt.2 c
    have cn : ¬ j > 0 → ¬ (j : Int) > 0 := fun c e => c (Int.ofNat_lt.1 e)
    have a1 : j + 1 ≤ l[i].length := hlt
    have a2 : l[i].length - (j + 1) = d := by omega
    have a3 : d < k := by omega
    have a4 : ∀ k', k - d - 1 ≤ k' → k + 1 - (d + 1) - 1 ≤ k' := fun k' h => by omega
    rw [hs] at ho ⊢
    clear hs
    have w := w64_mid j _ hlt hlen1
    rw [List.length_append, List.length_append] at ho
    have hlo := nums_small o _ ho
    rw [impl_CsvText.l1, if_pos j1, if_pos j0, if_pos j1, hg, hF2, w]
    simp only [Option.bind_some]
    by_cases c : j > 0
    · rw [if_pos c] at ho ⊢
      have e1 : nums' o ++ [44] = nums' (o ++ [44]) := by rw [nums'_app]; rfl
      have hr1 := room1 _ _ _ ho
      have hb := sum_small (o ++ [44]) (csvF l[i][j].data.toList) _ hr1.1
      rw [if_pos (cp c), if_pos hlo, e1, if_pos hb, bA_bytes, ← nums'_app]
      obtain ⟨k', h1, h2, e⟩ := ih k (j + 1) (o ++ [44] ++ csvF l[i][j].data.toList) a1 a2 a3 hr1.2
      refine ⟨k', a4 _ h1, Nat.le_succ_of_le h2, ?_⟩
      rw [e]
      simp only [List.append_assoc]
    · rw [if_neg c] at ho ⊢
      have hr1 := room0 _ _ _ ho
      have hb := sum_small o (csvF l[i][j].data.toList) _ hr1.1
      rw [if_neg (cn c), if_pos hb, bA_bytes, ← nums'_app]
      obtain ⟨k', h1, h2, e⟩ := ih k (j + 1) (o ++ csvF l[i][j].data.toList) a1 a2 a3 hr1.2
      refine ⟨k', a4 _ h1, Nat.le_succ_of_le h2, ?_⟩
      rw [e]
      simp only [List.append_assoc, List.nil_append]
theorem impl_CsvText_l0 (l : List (List ByteArray)) (hl : l.length ≤ 1048576) (hr : ∀ q ∈ l, cost q ≤ 1048576) (d : Nat) : ∀ (k i : Nat) (o : List UInt8), i ≤ l.length → l.length - i = d → 2 * d + ((l.drop i).map List.length).sum < k → o.length + (csvT (l.drop i)).length ≤ 1000000000 →
    impl_CsvText.l0 k (nums' o) l (l.length : Int) (i : Int) = some (bA (o ++ csvT (l.drop i))) := by
  induction d with
  | zero =>
    intro k i o hi hd hk ho
    obtain ⟨k, rfl⟩ : ∃ m, k = m + 1 := ⟨k - 1, by omega⟩
    rw [impl_CsvText.l0, if_neg (by omega), List.drop_eq_nil_of_le (by omega), nums'_str]
    simp [csvT, bA]
  | succ d ih =>
    intro k i o hi hd hk ho
    obtain ⟨k, rfl⟩ : ∃ m, k = m + 1 := ⟨k - 1, by omega⟩
    have hlt : i < l.length := by omega
    have hdr : l.drop i = l[i] :: l.drop (i + 1) := List.drop_eq_getElem_cons hlt
    rw [hdr] at hk ho ⊢
    simp only [List.map_cons, List.sum_cons] at hk
    have ht : csvT (l[i] :: l.drop (i + 1)) = flds l[i] ++ [10] ++ csvT (l.drop (i + 1)) := rfl
    rw [ht] at ho ⊢
    rw [List.length_append, List.length_append] at ho
    have hf : from_ 0 l[i] = flds l[i] := rfl
    obtain ⟨k', h1, h2, e⟩ := impl_CsvText_l1 l i hlt hl (hr _ (List.getElem_mem hlt)) (l.length : Int) l[i].length k 0 o (by omega) (by omega) (by omega) (by rw [hf]; omega)
    rw [show ((0 : Nat) : Int) = (0 : Int) from rfl, hf] at e
    rw [impl_CsvText.l0, if_pos (by omega), if_pos (by omega), if_pos (by omega), rd_L1_at l i hlt, e, ih k' (i + 1) _ (by omega) (by omega) (by omega) (by rw [List.length_append, List.length_append]; omega)]
    simp only [List.append_assoc]
theorem len_cost_sum' (l : List (List ByteArray)) : (l.map List.length).sum ≤ (l.map cost).sum := by
  induction l with
  | nil => simp
  | cons a t ih =>
    simp only [List.map_cons, List.sum_cons]
    unfold cost at *
    omega
theorem impl_CsvText_is (l : List (List ByteArray)) (hl : l.length ≤ 1048576) (hc : (l.map cost).sum ≤ 1048576) (k : Nat) (hk : 8388608 ≤ k) : impl_CsvText.f k l = some (bA (csvT l)) := by
  unfold impl_CsvText.f
  have h1 := len_cost_sum' l
  have h2 := csvT_len l
  have := impl_CsvText_l0 l hl (fun q h => by have := cost_mem h; omega) l.length k 0 [] (by omega) (by omega) (by rw [List.drop_zero]; omega) (by rw [List.drop_zero, List.length_nil]; omega)
  rw [List.drop_zero, show nums' [] = [] from rfl] at this
  exact this

theorem spec_CsvField_one (a : ByteArray) (h : a.size ≤ 1048576) (q : Bool) (o : List UInt8) (i k : Nat) (hi : i < a.data.toList.length) (ho : o.length ≤ 2 * i + 1) :
    spec_CsvField.l0 (k + 1) a q (nums' o) (i : Int) = spec_CsvField.l0 k a (q || spc a.data.toList[i]) (nums' (o ++ esc [a.data.toList[i]])) ((i + 1 : Nat) : Int) := by
  have hz : a.data.toList.length = a.size := by rw [Array.length_toList]; rfl
  have hb := bt_nat a i hi
  generalize a.data.toList[i] = b at hb
  have l1 : (nums' o).length < 140737488355328 := by rw [nums'_len]; omega
  have l2 : (nums' o ++ [((b.toNat : Nat) : Int)]).length < 140737488355328 := by rw [List.length_append, nums'_len, List.length_singleton]; omega
  have e1 : nums' o ++ [((b.toNat : Nat) : Int)] = nums' (o ++ [b]) := by rw [nums'_app]; rfl
  have w := w64_id (n := (i : Int) + 1) (by omega) (by omega)
  simp only [spec_CsvField.l0]
  rw [if_pos (by omega), hb, w, e1]
  rw [e1] at l2
  simp only [Option.bind_some]
  rw [if_pos (show (0 : Int) ≤ (i : Int) by omega), if_pos l1, if_pos l1, if_pos l2]
  have e2 : nums' (o ++ [b]) ++ [34] = nums' (o ++ [b] ++ [34]) := by rw [nums'_app (o ++ [b])]; rfl
  rw [e2]
  have k34 := byte_eq b 34 (by omega)
  have k44 := byte_eq b 44 (by omega)
  have k10 := byte_eq b 10 (by omega)
  have k13 := byte_eq b 13 (by omega)
  rw [show ((34 : Nat) : Int) = 34 from rfl, show (UInt8.ofNat 34) = 34 from rfl] at k34
  rw [show ((44 : Nat) : Int) = 44 from rfl, show (UInt8.ofNat 44) = 44 from rfl] at k44
  rw [show ((10 : Nat) : Int) = 10 from rfl, show (UInt8.ofNat 10) = 10 from rfl] at k10
  rw [show ((13 : Nat) : Int) = 13 from rfl, show (UInt8.ofNat 13) = 13 from rfl] at k13
  have en : ((i : Int) + 1) = ((i + 1 : Nat) : Int) := rfl
  rw [en]
  by_cases c34 : b = 34
  · have s : spc b = true := by rw [c34]; rfl
    have es : esc [b] = [b, 34] := by rw [c34]; rfl
    have e3 : o ++ [b] ++ [34] = o ++ [b, 34] := by rw [List.append_assoc]; rfl
    have n44 : ¬ ((b.toNat : Nat) : Int) = 44 := fun e => by rw [k44.1 e] at c34; exact absurd c34 (by decide)
    have t34 := eq_true (k34.2 c34)
    have f44 := eq_false n44
    have t0 : ((0 : Int) ≤ (i : Int)) = True := eq_true (by omega)
    simp only [t34, f44, t0, if_true, if_false]
    rw [s, Bool.or_true, es, e3]
    cases q
    · rw [if_neg (by decide)]
    · rw [if_pos rfl]
  · have es : esc [b] = [b] := by rw [esc_cons, if_neg c34]; rfl
    have n34 : ¬ ((b.toNat : Nat) : Int) = 34 := fun e => c34 (k34.1 e)
    have f34 := eq_false n34
    have t0 : ((0 : Int) ≤ (i : Int)) = True := eq_true (by omega)
    simp only [f34, t0, if_true, if_false]
    rw [es]
    cases q
    · rw [if_neg (by decide), Bool.false_or]
      by_cases c44 : b = 44
      · rw [if_pos (k44.2 c44), show spc b = true by rw [c44]; rfl]
      · rw [if_neg (fun e => c44 (k44.1 e))]
        by_cases c10 : b = 10
        · rw [if_pos (k10.2 c10), if_pos l1, show spc b = true by rw [c10]; rfl]
        · rw [if_neg (fun e => c10 (k10.1 e)), if_pos l1]
          congr 1
          unfold spc
          have a1 : (b == 44) = false := by simpa using c44
          have a2 : (b == 34) = false := by simpa using c34
          have a3 : (b == 10) = false := by simpa using c10
          rw [a1, a2, a3]
          simp only [Bool.false_or]
          by_cases c13 : b = 13
          · rw [c13]; rfl
          · have a4 : (b == 13) = false := by simpa using c13
            rw [a4]
            exact beq_eq_false_iff_ne.2 (fun e => c13 (k13.1 e))
    · rw [if_pos rfl, Bool.true_or]
theorem spec_CsvField_l (a : ByteArray) (h : a.size ≤ 1048576) (d : Nat) : ∀ (k i : Nat) (q : Bool) (o : List UInt8), i ≤ a.data.toList.length → a.data.toList.length - i = d → d < k → o.length ≤ 2 * i + 1 →
    spec_CsvField.l0 k a q (nums' o) (i : Int) = some (if (q || (a.data.toList.drop i).any spc) = true then ⟨(o ++ esc (a.data.toList.drop i) ++ [34]).toArray⟩ else a) := by
  have hz : a.data.toList.length = a.size := by rw [Array.length_toList]; rfl
  induction d with
  | zero =>
    intro k i q o hi hd hk ho
    obtain ⟨k, rfl⟩ : ∃ m, k = m + 1 := ⟨k - 1, by omega⟩
    simp only [spec_CsvField.l0]
    rw [if_neg (by omega), List.drop_eq_nil_of_le (by omega)]
    have e : nums' o ++ [34] = nums' (o ++ [34]) := by rw [nums'_app]; rfl
    cases q
    · rw [if_neg (by decide), if_neg (by decide)]
    · rw [if_pos rfl, if_pos (by rw [nums'_len]; omega), e, nums'_str]
      show _ = some (⟨(o ++ [] ++ [34]).toArray⟩ : ByteArray)
      rw [List.append_nil]
  | succ d ih =>
    intro k i q o hi hd hk ho
    obtain ⟨k, rfl⟩ : ∃ m, k = m + 1 := ⟨k - 1, by omega⟩
    have hlt : i < a.data.toList.length := by omega
    have hel := esc_len [a.data.toList[i]]
    rw [spec_CsvField_one a h q o i k hlt ho, ih k (i + 1) _ _ (by omega) (by omega) (by omega) (by rw [List.length_append]; simp only [List.length_cons, List.length_nil] at hel; omega)]
    have hdr : a.data.toList.drop i = [a.data.toList[i]] ++ a.data.toList.drop (i + 1) := List.drop_eq_getElem_cons hlt
    rw [hdr, esc_app, List.any_append, ← List.append_assoc]
    have e : [a.data.toList[i]].any spc = spc a.data.toList[i] := by simp
    rw [e, Bool.or_assoc]
theorem spec_CsvField_is (a : ByteArray) (h : a.size ≤ 1048576) (k : Nat) (hk : a.size < k) : spec_CsvField.f k a = some ⟨(csvF a.data.toList).toArray⟩ := by
  have hz : a.data.toList.length = a.size := by rw [Array.length_toList]; rfl
  unfold spec_CsvField.f
  have := spec_CsvField_l a h a.data.toList.length k 0 false [34] (by omega) (by omega) (by omega) (by simp)
  rw [show nums' [34] = [34] from rfl, show ((0 : Nat) : Int) = 0 from rfl, List.drop_zero, Bool.false_or] at this
  rw [this]
  unfold csvF
  cases a.data.toList.any spc
  · rfl
  · rfl

theorem spec_CsvText_l1 (l : List (List ByteArray)) (i : Nat) (hi : i < l.length) (hl : l.length ≤ 1048576) (hr : cost l[i] ≤ 1048576) (d : Nat) : ∀ (k j : Nat) (o : List UInt8), j ≤ l[i].length → l[i].length - j = d → d + 1048580 < k → o.length + (from_ j l[i]).length ≤ 1000000000 →
    ∃ k', k - d - 1 ≤ k' ∧ k' ≤ k ∧ spec_CsvText.l1 k l (nums' o) (i : Int) (j : Int) = spec_CsvText.l0 k' l (nums' (o ++ from_ j l[i] ++ [10])) ((i + 1 : Nat) : Int) := by
  induction d with
  | zero =>
    intro k j o hj hd hk ho
    obtain ⟨k, rfl⟩ : ∃ m, k = m + 1 := ⟨k - 1, by omega⟩
    have ej : j = l[i].length := by omega
    refine ⟨k, by omega, by omega, ?_⟩
    have hl1 : l.length ≤ 1048577 := by omega
    have i0 : (0 : Int) ≤ (i : Int) := by omega
    have i1 : (i : Int) < (l.length : Int) := by omega
    have j1 : ¬ (j : Int) < (l[i].length : Int) := by omega
    have w := w64_mid i _ hi hl1
    have hlo := nums_small o _ ho
    have e : nums' o ++ [10] = nums' (o ++ [10]) := by rw [nums'_app]; rfl
    rw [spec_CsvText.l1, rd_L1_at l i hi, if_pos i0, if_pos i1, if_neg j1, if_pos hlo, w, e, ej, from_end, List.append_nil]
  | succ d ih =>
    intro k j o hj hd hk ho
    obtain ⟨k, rfl⟩ : ∃ m, k = m + 1 := ⟨k - 1, by omega⟩
    have hlt : j < l[i].length := by omega
    have hs := from_step l[i] j hlt
    have hg : rdOf ByteArray.empty l[i] (j : Int) = l[i][j] := by
      unfold rdOf; simp [List.getD, hlt]
    have hz := size_mem (List.getElem_mem hlt)
    have hz2 : l[i][j].size ≤ 1048576 := by unfold cost at hr; omega
    have hlen : l[i].length ≤ 1048576 := by unfold cost at hr; omega
    have hlen1 : l[i].length ≤ 1048577 := by omega
    have hF := spec_CsvField_is l[i][j] hz2 k (by omega)
    have hF2 : spec_CsvField.f k l[i][j] = some (bA (csvF l[i][j].data.toList)) := hF
    have j0 : (0 : Int) ≤ (j : Int) := Int.natCast_nonneg j
    have i0 : (0 : Int) ≤ (i : Int) := Int.natCast_nonneg i
    have j1 : (j : Int) < (l[i].length : Int) := Int.ofNat_lt.2 hlt
    have i1 : (i : Int) < (l.length : Int) := Int.ofNat_lt.2 hi
    have cp : j > 0 → (j : Int) > 0 := fun c => Int.ofNat_lt.2 c
    have cn : ¬ j > 0 → ¬ (j : Int) > 0 := fun c e => c (Int.ofNat_lt.1 e)
    have a1 : j + 1 ≤ l[i].length := hlt
    have a2 : l[i].length - (j + 1) = d := by omega
    have a3 : d + 1048580 < k := by omega
    have a4 : ∀ k', k - d - 1 ≤ k' → k + 1 - (d + 1) - 1 ≤ k' := fun k' h => by omega
    rw [hs] at ho ⊢
    clear hs
    have w := w64_mid j _ hlt hlen1
    rw [List.length_append, List.length_append] at ho
    have hlo := nums_small o _ ho
    rw [spec_CsvText.l1, rd_L1_at l i hi, if_pos i0, if_pos i1, if_pos j1, hg, hF2, w]
    simp only [Option.bind_some]
    by_cases c : j > 0
    · rw [if_pos c] at ho ⊢
      have e1 : nums' o ++ [44] = nums' (o ++ [44]) := by rw [nums'_app]; rfl
      have hr1 := room1 _ _ _ ho
      have hb := sum_small (o ++ [44]) (csvF l[i][j].data.toList) _ hr1.1
      rw [if_pos (cp c), if_pos hlo, e1, if_pos j0, if_pos hb, bA_bytes, ← nums'_app]
      obtain ⟨k', h1, h2, e⟩ := ih k (j + 1) (o ++ [44] ++ csvF l[i][j].data.toList) a1 a2 a3 hr1.2
      refine ⟨k', a4 _ h1, Nat.le_succ_of_le h2, ?_⟩
      rw [e]
      simp only [List.append_assoc]
    · rw [if_neg c] at ho ⊢
      have hr1 := room0 _ _ _ ho
      have hb := sum_small o (csvF l[i][j].data.toList) _ hr1.1
      rw [if_neg (cn c), if_pos j0, if_pos hb, bA_bytes, ← nums'_app]
      obtain ⟨k', h1, h2, e⟩ := ih k (j + 1) (o ++ csvF l[i][j].data.toList) a1 a2 a3 hr1.2
      refine ⟨k', a4 _ h1, Nat.le_succ_of_le h2, ?_⟩
      rw [e]
      simp only [List.append_assoc, List.nil_append]
theorem spec_CsvText_l0 (l : List (List ByteArray)) (hl : l.length ≤ 1048576) (hr : ∀ q ∈ l, cost q ≤ 1048576) (d : Nat) : ∀ (k i : Nat) (o : List UInt8), i ≤ l.length → l.length - i = d → 2 * d + ((l.drop i).map List.length).sum + 1048590 < k → o.length + (csvT (l.drop i)).length ≤ 1000000000 →
    spec_CsvText.l0 k l (nums' o) (i : Int) = some (bA (o ++ csvT (l.drop i))) := by
  induction d with
  | zero =>
    intro k i o hi hd hk ho
    obtain ⟨k, rfl⟩ : ∃ m, k = m + 1 := ⟨k - 1, by omega⟩
    rw [spec_CsvText.l0, if_neg (by omega), List.drop_eq_nil_of_le (by omega), nums'_str]
    simp [csvT, bA]
  | succ d ih =>
    intro k i o hi hd hk ho
    obtain ⟨k, rfl⟩ : ∃ m, k = m + 1 := ⟨k - 1, by omega⟩
    have hlt : i < l.length := by omega
    have hdr : l.drop i = l[i] :: l.drop (i + 1) := List.drop_eq_getElem_cons hlt
    rw [hdr] at hk ho ⊢
    simp only [List.map_cons, List.sum_cons] at hk
    have ht : csvT (l[i] :: l.drop (i + 1)) = flds l[i] ++ [10] ++ csvT (l.drop (i + 1)) := rfl
    rw [ht] at ho ⊢
    rw [List.length_append, List.length_append] at ho
    have hf : from_ 0 l[i] = flds l[i] := rfl
    obtain ⟨k', h1, h2, e⟩ := spec_CsvText_l1 l i hlt hl (hr _ (List.getElem_mem hlt)) l[i].length k 0 o (by omega) (by omega) (by omega) (by rw [hf]; omega)
    rw [show ((0 : Nat) : Int) = (0 : Int) from rfl, hf] at e
    rw [spec_CsvText.l0, if_pos (by omega), e, ih k' (i + 1) _ (by omega) (by omega) (by omega) (by rw [List.length_append, List.length_append]; omega)]
    simp only [List.append_assoc]
theorem len_cost_sum (l : List (List ByteArray)) : (l.map List.length).sum ≤ (l.map cost).sum := by
  induction l with
  | nil => simp
  | cons a t ih =>
    simp only [List.map_cons, List.sum_cons]
    unfold cost at *
    omega
theorem spec_CsvText_is (l : List (List ByteArray)) (hl : l.length ≤ 1048576) (hc : (l.map cost).sum ≤ 1048576) (k : Nat) (hk : 8388608 ≤ k) : spec_CsvText.f k l = some (bA (csvT l)) := by
  unfold spec_CsvText.f
  have h1 := len_cost_sum l
  have h2 := csvT_len l
  have := spec_CsvText_l0 l hl (fun q h => by have := cost_mem h; omega) l.length k 0 [] (by omega) (by omega) (by rw [List.drop_zero]; omega) (by rw [List.drop_zero, List.length_nil]; omega)
  rw [List.drop_zero, show nums' [] = [] from rfl] at this
  exact this

theorem FnExactCsvText (a : List (List ByteArray)) (hla : a.length ≤ maxLen) (hsa : ∀ q ∈ a, q.length ≤ maxLen ∧ ∀ s ∈ q, s.size ≤ maxLen) : ∃ k, laws_FnExactCsvText.f k a = some true := by
  refine ⟨8388608, ?_⟩
  unfold maxLen at *
  unfold laws_FnExactCsvText.f
  obtain ⟨r, e, hr⟩ := laws_szStringSS_is a (by omega) (fun q h => ⟨by have := (hsa q h).1; omega, fun s z => by have := (hsa q h).2 s z; omega⟩) 1048576 (by omega) (by omega) 8388608 (by omega)
  rw [e]
  simp only [Option.bind_some]
  by_cases n : r < 0
  · rw [if_pos n]
  rw [if_neg n]
  have q := hr (by omega)
  have la : a.length ≤ 1048576 := by omega
  have ra : ∀ x ∈ a, x.length ≤ 1048576 := fun x h => by have := cost_mem h; unfold cost at this; unfold cost at q; omega
  have t1 := laws_toStringSS_is a la ra 8388608 (by omega)
  have t3 := spec_CsvText_is a la (by omega) 8388608 (by omega)
  have t4 := impl_CsvText_is a la (by omega) 8388608 (by omega)
  have t5 := laws_eqStringSS_self a la ra 8388608 (by omega)
  generalize (8388608 : Nat) = K at *
  rw [t1]; simp only [Option.bind_some]
  rw [t3]; simp only [Option.bind_some]
  rw [t4]; simp only [Option.bind_some]
  rw [if_pos trivial, t5]
  simp

end Go.Proofs.YtcbiijfiecjcaaaDoor.Pure
