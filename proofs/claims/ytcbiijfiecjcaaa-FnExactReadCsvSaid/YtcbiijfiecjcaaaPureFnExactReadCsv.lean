/- A text read as rows: program and reference give the same rows and the same fault, in memory of the call's own. Conditions: each number is one of its kind, as the row says. -/
import Derived.Test.YtcbiijfiecjcaaaPFnExactReadCsvx
import Derived.Test.YtcbiijfiecjcaaaBase
import Derived.Lib.ItoaNum
set_option linter.unusedSimpArgs false
set_option linter.unusedVariables false
namespace Go.Proofs.Ytcbiijfiecjcaaa.Pure
open Go.RowKit Go.Proofs.Ytcbiijfiecjcaaa.Base Go.Proofs.Ytcbiijfiecjcaaa.PFnExactReadCsv Go.Proofs.YtcbiijfiecjcaaaW.PrintWords Go.Proofs.YtcbiijfiecjcaaaW.PrintLast Go.Proofs.YtcbiijfiecjcaaaW.PrintMore

theorem bt_nat (s : ByteArray) (i : Nat) (h : i < s.data.toList.length) : bt s (i : Int) = ((s.data.toList[i]).toNat : Int) := by
  have h' : i < s.size := by rw [Array.length_toList] at h; exact h
  have e := bt_at s (i : Int) (by simpa using h')
  rw [← e]
  simp
  rfl

/-- A text as the numbers of its bytes. -/
def nums' (l : List UInt8) : List Int := l.map (fun b => ((b.toNat : Nat) : Int))
theorem nums'_str (l : List UInt8) : strOfNums (nums' l) = ⟨l.toArray⟩ := by
  unfold strOfNums nums'
  rw [List.map_map]
  congr 1
  have : (l.map ((fun x : Int => x.toNat.toUInt8) ∘ fun b : UInt8 => ((b.toNat : Nat) : Int))) = l.map id := by
    apply List.map_congr_left
    intro b _
    simp
  first
  | rw [this, List.map_id]
  | (simp)
theorem nums'_app (a b : List UInt8) : nums' (a ++ b) = nums' a ++ nums' b := by unfold nums'; rw [List.map_append]
theorem nums'_len (a : List UInt8) : (nums' a).length = a.length := by unfold nums'; rw [List.length_map]
/-- Quotes doubled. -/
def esc : List UInt8 → List UInt8
  | [] => []
  | b :: l => if b = 34 then 34 :: 34 :: esc l else b :: esc l
theorem esc_cons (b : UInt8) (l : List UInt8) : esc (b :: l) = if b = 34 then 34 :: 34 :: esc l else b :: esc l := rfl
def spc (b : UInt8) : Bool := b == 44 || b == 34 || b == 10 || b == 13
/-- A field as text. -/
def csvF (l : List UInt8) : List UInt8 := if l.any spc = true then 34 :: (esc l ++ [34]) else l
theorem esc_len : ∀ l : List UInt8, (esc l).length ≤ 2 * l.length
  | [] => by simp [esc]
  | b :: l => by
    have := esc_len l
    rw [esc_cons]
    split <;> simp only [List.length_cons] <;> omega
theorem esc_app : ∀ a b : List UInt8, esc (a ++ b) = esc a ++ esc b
  | [], _ => rfl
  | x :: a, b => by
    have ih := esc_app a b
    rw [List.cons_append, esc_cons, esc_cons]
    by_cases c : x = 34
    · rw [if_pos c, if_pos c, ih]; rfl
    · rw [if_neg c, if_neg c, ih]; rfl
theorem csvF_len (l : List UInt8) : (csvF l).length ≤ 2 * l.length + 2 := by
  unfold csvF
  have := esc_len l
  split
  · simp only [List.length_cons, List.length_append, List.length_nil]; omega
  · omega
theorem byte_eq (b : UInt8) (n : Nat) (hn : n < 256) : (((b.toNat : Nat) : Int) = (n : Int)) ↔ b = UInt8.ofNat n := by
  constructor
  · intro h
    have h' : b.toNat = n := by omega
    rw [← h', UInt8.ofNat_toNat]
  · intro h
    rw [h, UInt8.toNat_ofNat_of_lt' (by simpa using hn)]

def bA (l : List UInt8) : ByteArray := ⟨l.toArray⟩
theorem bA_list (l : List UInt8) : (bA l).data.toList = l := by simp [bA]
def nsp (b : UInt8) : Bool := !spc b
/-- A field in quotes, from behind its first quote; true: a quote has just been met. -/
def qs : Bool → List UInt8 → Option (List UInt8 × List UInt8)
  | false, [] => none
  | true, [] => some ([], [])
  | false, b :: l => if b = 34 then qs true l else (qs false l).map fun r => (b :: r.1, r.2)
  | true, b :: l => if b = 34 then (qs false l).map fun r => (34 :: r.1, r.2) else some ([], b :: l)
theorem qs_f0 : qs false [] = none := rfl
theorem qs_t0 : qs true [] = some ([], []) := rfl
theorem qs_f (b : UInt8) (l : List UInt8) : qs false (b :: l) = if b = 34 then qs true l else (qs false l).map fun r => (b :: r.1, r.2) := rfl
theorem qs_t (b : UInt8) (l : List UInt8) : qs true (b :: l) = if b = 34 then (qs false l).map fun r => (34 :: r.1, r.2) else some ([], b :: l) := rfl
theorem qs_suffix : ∀ (l : List UInt8) (p : Bool) (c r : List UInt8), qs p l = some (c, r) → r <:+ l
  | [], false, c, r, h => by rw [qs_f0] at h; cases h
  | [], true, c, r, h => by
    rw [qs_t0] at h
    simp only [Option.some.injEq, Prod.mk.injEq] at h
    rw [← h.2]
    exact List.suffix_refl _
  | b :: l, false, c, r, h => by
    rw [qs_f] at h
    by_cases e : b = 34
    · rw [if_pos e] at h
      exact (qs_suffix l true c r h).trans (List.suffix_cons _ _)
    · rw [if_neg e] at h
      obtain ⟨⟨c', r'⟩, h1, h2⟩ := Option.map_eq_some_iff.1 h
      simp only [Prod.mk.injEq] at h2
      rw [← h2.2]
      exact (qs_suffix l false c' r' h1).trans (List.suffix_cons _ _)
  | b :: l, true, c, r, h => by
    rw [qs_t] at h
    by_cases e : b = 34
    · rw [if_pos e] at h
      obtain ⟨⟨c', r'⟩, h1, h2⟩ := Option.map_eq_some_iff.1 h
      simp only [Prod.mk.injEq] at h2
      rw [← h2.2]
      exact (qs_suffix l false c' r' h1).trans (List.suffix_cons _ _)
    · rw [if_neg e] at h
      simp only [Option.some.injEq, Prod.mk.injEq] at h
      rw [← h.2]
      exact List.suffix_refl _
def fieldP : List UInt8 → Option (List UInt8 × List UInt8)
  | [] => some ([], [])
  | b :: t => if b = 34 then qs false t else some ((b :: t).takeWhile nsp, (b :: t).dropWhile nsp)
theorem fieldP_nil : fieldP [] = some ([], []) := rfl
theorem fieldP_cons (b : UInt8) (t : List UInt8) : fieldP (b :: t) = if b = 34 then qs false t else some ((b :: t).takeWhile nsp, (b :: t).dropWhile nsp) := rfl
theorem fieldP_suffix (l c r : List UInt8) (h : fieldP l = some (c, r)) : r <:+ l := by
  cases l with
  | nil =>
    rw [fieldP_nil] at h
    simp only [Option.some.injEq, Prod.mk.injEq] at h
    rw [← h.2]
    exact List.suffix_refl _
  | cons b t =>
    rw [fieldP_cons] at h
    by_cases e : b = 34
    · rw [if_pos e] at h
      exact (qs_suffix t false c r h).trans (List.suffix_cons _ _)
    · rw [if_neg e] at h
      simp only [Option.some.injEq, Prod.mk.injEq] at h
      rw [← h.2]
      exact List.dropWhile_suffix _
def lfP : List UInt8 → Option (Bool × List UInt8)
  | [] => none
  | c :: l => if c = 10 then some (true, l) else none
theorem lfP_nil : lfP [] = none := rfl
theorem lfP_cons (c : UInt8) (l : List UInt8) : lfP (c :: l) = if c = 10 then some (true, l) else none := rfl
/-- What stands behind a field: none: wrong; true: the row ends. -/
def afterP : List UInt8 → Option (Bool × List UInt8)
  | [] => some (true, [])
  | b :: l => if b = 44 then some (false, l) else if b = 10 then some (true, l) else if b = 13 then lfP l else none
theorem afterP_nil : afterP [] = some (true, []) := rfl
theorem afterP_cons (b : UInt8) (l : List UInt8) : afterP (b :: l) = if b = 44 then some (false, l) else if b = 10 then some (true, l) else if b = 13 then lfP l else none := rfl
theorem afterP_suffix (l t : List UInt8) (e : Bool) (h : afterP l = some (e, t)) : t <:+ l ∧ (t.length < l.length ∨ l = [] ∧ e = true) := by
  cases l with
  | nil =>
    rw [afterP_nil] at h
    simp only [Option.some.injEq, Prod.mk.injEq] at h
    rw [← h.2]
    exact ⟨List.suffix_refl _, .inr ⟨rfl, h.1.symm⟩⟩
  | cons b l =>
    rw [afterP_cons] at h
    by_cases c1 : b = 44
    · rw [if_pos c1] at h
      simp only [Option.some.injEq, Prod.mk.injEq] at h
      rw [← h.2]
      exact ⟨List.suffix_cons _ _, .inl (by simp)⟩
    rw [if_neg c1] at h
    by_cases c2 : b = 10
    · rw [if_pos c2] at h
      simp only [Option.some.injEq, Prod.mk.injEq] at h
      rw [← h.2]
      exact ⟨List.suffix_cons _ _, .inl (by simp)⟩
    rw [if_neg c2] at h
    by_cases c3 : b = 13
    · rw [if_pos c3] at h
      cases l with
      | nil => rw [lfP_nil] at h; cases h
      | cons c l' =>
        rw [lfP_cons] at h
        by_cases c4 : c = 10
        · rw [if_pos c4] at h
          simp only [Option.some.injEq, Prod.mk.injEq] at h
          rw [← h.2]
          exact ⟨(List.suffix_cons _ _).trans (List.suffix_cons _ _), .inl (by simp only [List.length_cons]; omega)⟩
        · rw [if_neg c4] at h; cases h
    · rw [if_neg c3] at h; cases h
def stepP (l : List UInt8) : Option (List UInt8 × Bool × List UInt8) := (fieldP l).bind fun p => (afterP p.2).map fun q => (p.1, q.1, q.2)
theorem stepP_suffix (l c t : List UInt8) (e : Bool) (h : stepP l = some (c, e, t)) : t <:+ l ∧ (t.length < l.length ∨ l = [] ∧ e = true) := by
  unfold stepP at h
  obtain ⟨⟨c', r⟩, h1, h2⟩ := Option.bind_eq_some_iff.1 h
  obtain ⟨⟨e', t'⟩, h3, h4⟩ := Option.map_eq_some_iff.1 h2
  simp only [Prod.mk.injEq] at h4 h3
  obtain ⟨_, rfl, rfl⟩ := h4
  obtain ⟨s1, s2⟩ := afterP_suffix r t' e' h3
  have s3 := fieldP_suffix l c' r h1
  refine ⟨s1.trans s3, ?_⟩
  have := s3.length_le
  rcases s2 with s2 | ⟨s2, s4⟩
  · exact .inl (by omega)
  · cases l with
    | nil => exact .inr ⟨rfl, s4⟩
    | cons b tl =>
      subst s2
      left
      have := s1.length_le
      simp only [List.length_nil] at this
      simp only [List.length_cons]
      omega
/-- The rows of a text. -/
def parse : Nat → List (List ByteArray) → List ByteArray → List UInt8 → Option (List (List ByteArray) × Int × Int × Int)
  | 0, _, _, _ => none
  | k + 1, rows, row, l => if (l.isEmpty && row.isEmpty) = true then some (rows, 0, 0, 0) else match stepP l with
    | none => some ([], 2, (rows.length : Int), (row.length : Int))
    | some (c, true, t) => parse k (rows ++ [row ++ [bA c]]) [] t
    | some (c, false, t) => parse k rows (row ++ [bA c]) t
theorem suffix_drop {t l : List UInt8} (h : t <:+ l) : t = l.drop (l.length - t.length) := by
  obtain ⟨p, rfl⟩ := h
  rw [List.length_append, Nat.add_sub_cancel]
  simp
theorem bt_is (s : ByteArray) (i : Nat) (h : i < s.data.toList.length) (n : Nat) (hn : n < 256) : bt s (i : Int) = (n : Int) ↔ s.data.toList[i] = UInt8.ofNat n := by
  rw [bt_nat s i h]; exact byte_eq _ n hn
theorem w64_small (m : Nat) (h : m ≤ 4000) : wrap64 ((m : Int) + 1) = (m : Int) + 1 ∧ wrap64 ((m : Int) + 2) = (m : Int) + 2 := ⟨w64_id (by omega) (by omega), w64_id (by omega) (by omega)⟩

theorem impl_quoted_l (s : ByteArray) (hs : s.size ≤ 4000) (d : Nat) : ∀ (k i : Nat) (o : List UInt8), i ≤ s.data.toList.length → s.data.toList.length - i ≤ d → d < k → o.length ≤ i →
    (∀ c r, qs false (s.data.toList.drop i) = some (c, r) → impl_csvReader_quoted.l0 k (nums' o) s (i : Int) = some (bA (o ++ c), true, s, ((s.data.toList.length - r.length : Nat) : Int))) ∧
    (qs false (s.data.toList.drop i) = none → ∃ p, impl_csvReader_quoted.l0 k (nums' o) s (i : Int) = some (⟨#[]⟩, false, s, p)) := by
  have hz : s.data.toList.length = s.size := by rw [Array.length_toList]; rfl
  have base : ∀ (k i : Nat) (o : List UInt8), i = s.data.toList.length →
    (∀ c r, qs false (s.data.toList.drop i) = some (c, r) → impl_csvReader_quoted.l0 (k + 1) (nums' o) s (i : Int) = some (bA (o ++ c), true, s, ((s.data.toList.length - r.length : Nat) : Int))) ∧
    (qs false (s.data.toList.drop i) = none → ∃ p, impl_csvReader_quoted.l0 (k + 1) (nums' o) s (i : Int) = some (⟨#[]⟩, false, s, p)) := by
    intro k i o hi
    rw [List.drop_eq_nil_of_le (by omega), qs_f0]
    refine ⟨(fun c r h => by cases h), fun _ => ⟨(i : Int), ?_⟩⟩
    simp only [impl_csvReader_quoted.l0]
    rw [if_neg (by omega)]
  induction d with
  | zero =>
    intro k i o hi hd hk ho
    obtain ⟨k, rfl⟩ : ∃ m, k = m + 1 := ⟨k - 1, by omega⟩
    exact base k i o (by omega)
  | succ d ih =>
    intro k i o hi hd hk ho
    obtain ⟨k, rfl⟩ : ∃ m, k = m + 1 := ⟨k - 1, by omega⟩
    by_cases hge : s.data.toList.length ≤ i
    · exact base k i o (by omega)
    have hlt : i < s.data.toList.length := by omega
    have hl : (nums' o).length < 140737488355328 := by rw [nums'_len]; omega
    have w1 : wrap64 ((i : Int) + 1) = (i : Int) + 1 := w64_id (by omega) (by omega)
    have hk2 : d < k := by omega
    have i0 : (0 : Int) ≤ (i : Int) := by omega
    have i1 : (i : Int) < (s.size : Int) := by omega
    have hi1 : i + 1 ≤ s.data.toList.length := by omega
    have hd1 : s.data.toList.length - (i + 1) ≤ d := by omega
    have hb : bt s (i : Int) = 34 ↔ s.data.toList[i] = 34 := bt_is s i hlt 34 (by omega)
    have hbn := bt_nat s i hlt
    have hdr : s.data.toList.drop i = s.data.toList[i] :: s.data.toList.drop (i + 1) := List.drop_eq_getElem_cons hlt
    simp only [impl_csvReader_quoted.l0]
    rw [if_pos i1, if_pos i0, w1, hdr, qs_f]
    by_cases c1 : s.data.toList[i] = 34
    · rw [if_pos (hb.2 c1), if_pos c1]
      by_cases c2 : i + 1 = s.data.toList.length
      · rw [if_pos (by omega), List.drop_eq_nil_of_le (by omega), qs_t0]
        refine ⟨fun c r h => ?_, (fun h => by cases h)⟩
        simp only [Option.some.injEq, Prod.mk.injEq] at h
        obtain ⟨rfl, rfl⟩ := h
        rw [nums'_str, List.append_nil, List.length_nil, Nat.sub_zero, ← c2]
        rfl
      · have hlt2 : i + 1 < s.data.toList.length := by omega
        have hb2 : bt s ((i + 1 : Nat) : Int) = 34 ↔ s.data.toList[i + 1] = 34 := bt_is s (i + 1) hlt2 34 (by omega)
        rw [if_neg (by omega), if_pos (by omega), if_pos (by omega)]
        have hdr2 : s.data.toList.drop (i + 1) = s.data.toList[i + 1] :: s.data.toList.drop (i + 1 + 1) := List.drop_eq_getElem_cons hlt2
        rw [hdr2, qs_t]
        have en : ((i : Int) + 1) = ((i + 1 : Nat) : Int) := by omega
        rw [en]
        by_cases c3 : s.data.toList[i + 1] = 34
        · have hi2 : i + 1 + 1 ≤ s.data.toList.length := by omega
          have hd2 : s.data.toList.length - (i + 1 + 1) ≤ d := by omega
          have ho2 : (o ++ [34]).length ≤ i + 1 + 1 := by rw [List.length_append, List.length_singleton]; omega
          rw [if_pos (hb2.2 c3), if_pos c3, if_pos hl]
          have w2 := w64_id (n := ((i + 1 : Nat) : Int) + 1) (by omega) (by omega)
          have e2 : nums' o ++ [34] = nums' (o ++ [34]) := by rw [nums'_app]; rfl
          have en2 : (((i + 1 : Nat) : Int) + 1) = ((i + 1 + 1 : Nat) : Int) := by omega
          rw [w2, e2, en2]
          obtain ⟨h1, h2⟩ := ih k (i + 1 + 1) (o ++ [34]) hi2 hd2 hk2 ho2
          refine ⟨fun c r h => ?_, fun h => h2 (Option.map_eq_none_iff.1 h)⟩
          obtain ⟨⟨c', r'⟩, g1, g2⟩ := Option.map_eq_some_iff.1 h
          simp only [Prod.mk.injEq] at g2
          obtain ⟨rfl, rfl⟩ := g2
          rw [h1 c' r' g1, List.append_assoc]
          rfl
        · rw [if_neg (fun h => c3 (hb2.1 h)), if_neg c3]
          refine ⟨fun c r h => ?_, (fun h => by cases h)⟩
          simp only [Option.some.injEq, Prod.mk.injEq] at h
          obtain ⟨rfl, rfl⟩ := h
          rw [nums'_str, List.append_nil, ← hdr2, List.length_drop]
          have e3 : s.data.toList.length - (s.data.toList.length - (i + 1)) = i + 1 := by omega
          rw [e3]
          rfl
    · have ho1 : (o ++ [s.data.toList[i]]).length ≤ i + 1 := by rw [List.length_append, List.length_singleton]; omega
      rw [if_neg (fun h => c1 (hb.1 h)), if_neg c1, if_pos hl, hbn]
      have e2 : nums' o ++ [((s.data.toList[i].toNat : Nat) : Int)] = nums' (o ++ [s.data.toList[i]]) := by rw [nums'_app]; rfl
      have en : ((i : Int) + 1) = ((i + 1 : Nat) : Int) := by omega
      rw [e2, en]
      obtain ⟨h1, h2⟩ := ih k (i + 1) (o ++ [s.data.toList[i]]) hi1 hd1 hk2 ho1
      refine ⟨fun c r h => ?_, fun h => h2 (Option.map_eq_none_iff.1 h)⟩
      obtain ⟨⟨c', r'⟩, g1, g2⟩ := Option.map_eq_some_iff.1 h
      simp only [Prod.mk.injEq] at g2
      obtain ⟨rfl, rfl⟩ := g2
      rw [h1 c' r' g1, List.append_assoc]
      rfl
theorem indexAny_tw : ∀ l : List UInt8, (Lib.indexAny l [44, 34, 10, 13] < 0 ∧ l.takeWhile nsp = l) ∨ Lib.indexAny l [44, 34, 10, 13] = ((l.takeWhile nsp).length : Int)
  | [] => .inl ⟨by decide, rfl⟩
  | b :: l => by
    have ih := indexAny_tw l
    have hge := Lib.indexAny_ge [44, 34, 10, 13] l
    have hc : ([44, 34, 10, 13] : List UInt8).contains b = spc b := by
      unfold spc
      simp only [List.contains_cons, List.contains_nil, Bool.or_false, Bool.or_assoc]
    rw [Lib.indexAny, hc]
    unfold nsp at ih ⊢
    rw [List.takeWhile_cons]
    cases spc b
    · simp only [Bool.false_eq_true, if_false, Bool.not_false, if_true]
      rcases ih with ⟨h1, h2⟩ | h1
      · have e : Lib.indexAny l [44, 34, 10, 13] = -1 := by omega
        left
        rw [e, h2]
        exact ⟨by decide, rfl⟩
      · right
        rw [h1, if_neg (by simp), List.length_cons]
        omega
    · right
      rfl
theorem extract_list (s : ByteArray) (a b : Nat) : (s.extract a b).data.toList = (s.data.toList.drop a).take (b - a) := by
  rw [ByteArray.data_extract, Array.toList_extract, List.extract_eq_take_drop]
theorem extract_bA (s : ByteArray) (a b : Nat) : s.extract a b = bA ((s.data.toList.drop a).take (b - a)) := by
  unfold bA
  apply ByteArray.ext
  rw [← extract_list]
theorem impl_plain_is (s : ByteArray) (hs : s.size ≤ 4000) (i : Nat) (hi : i ≤ s.data.toList.length) :
    impl_csvReader_plain.f s (i : Int) = some (bA ((s.data.toList.drop i).takeWhile nsp), s, ((i + ((s.data.toList.drop i).takeWhile nsp).length : Nat) : Int)) := by
  have hz : s.data.toList.length = s.size := by rw [Array.length_toList]; rfl
  unfold impl_csvReader_plain.f strings_IndexAny.f
  have e0 : ((i : Nat) : Int).toNat = i := by omega
  have esz : (s.extract i s.size).size < 4294967281 := by rw [ByteArray.size_extract]; omega
  have el : (s.extract i s.size).data.toList = s.data.toList.drop i := by
    rw [extract_list, List.take_of_length_le (by rw [List.length_drop]; omega)]
  rw [if_pos (by omega), if_pos (by omega), e0, if_pos ⟨rfl, esz⟩, el]
  simp only [Option.bind_some]
  have htl : ((s.data.toList.drop i).takeWhile nsp).length ≤ s.data.toList.length - i := by
    have h1 : ((s.data.toList.drop i).takeWhile nsp).length ≤ (s.data.toList.drop i).length := (List.takeWhile_prefix nsp).length_le
    rw [List.length_drop] at h1
    exact h1
  have htk : (s.data.toList.drop i).take ((s.data.toList.drop i).takeWhile nsp).length = (s.data.toList.drop i).takeWhile nsp := by
    obtain ⟨q, hq⟩ := List.takeWhile_prefix (p := nsp) (l := s.data.toList.drop i)
    have : (s.data.toList.drop i).take ((s.data.toList.drop i).takeWhile nsp).length = ((s.data.toList.drop i).takeWhile nsp ++ q).take ((s.data.toList.drop i).takeWhile nsp).length := by rw [hq]
    rw [this, List.take_left]
  rcases indexAny_tw (s.data.toList.drop i) with ⟨h1, h2⟩ | h1
  · have wa := w64_id (n := (s.size : Int) - (i : Int)) (by omega) (by omega)
    have wb := w64_id (n := (i : Int) + ((s.size : Int) - (i : Int))) (by omega) (by omega)
    rw [if_pos h1, wa, wb, if_pos (by omega), if_pos (by omega)]
    have e1 : ((i : Int) + ((s.size : Int) - (i : Int))).toNat = s.size := by omega
    rw [e1, extract_bA, List.take_of_length_le (by rw [List.length_drop]; omega), h2, List.length_drop]
    have e2 : (i : Int) + ((s.size : Int) - (i : Int)) = ((i + (s.data.toList.length - i) : Nat) : Int) := by omega
    rw [e2]
  · rw [h1]
    have wb := w64_id (n := (i : Int) + (((s.data.toList.drop i).takeWhile nsp).length : Int)) (by omega) (by omega)
    rw [if_neg (by omega), wb, if_pos (by omega), if_pos (by omega)]
    have e1 : ((i : Int) + (((s.data.toList.drop i).takeWhile nsp).length : Int)).toNat = i + ((s.data.toList.drop i).takeWhile nsp).length := by omega
    have e2 : i + ((s.data.toList.drop i).takeWhile nsp).length - i = ((s.data.toList.drop i).takeWhile nsp).length := by omega
    rw [e1, extract_bA, e2, htk]
    rfl
theorem impl_after_is (s : ByteArray) (hs : s.size ≤ 4000) (i : Nat) (hi : i ≤ s.data.toList.length) :
    impl_csvReader_after.f s (i : Int) = some (match afterP (s.data.toList.drop i) with
      | none => (3, s, (i : Int))
      | some (false, t) => (1, s, ((s.data.toList.length - t.length : Nat) : Int))
      | some (true, t) => (2, s, ((s.data.toList.length - t.length : Nat) : Int))) := by
  have hz : s.data.toList.length = s.size := by rw [Array.length_toList]; rfl
  have e0 : ((i : Nat) : Int).toNat = i := by omega
  have i0 : (0 : Int) ≤ (i : Int) := by omega
  have i1 : (i : Int) ≤ (s.size : Int) := by omega
  have el : (s.extract i s.size).data.toList = s.data.toList.drop i := by
    rw [extract_list, List.take_of_length_le (by rw [List.length_drop]; omega)]
  have ez : (s.extract i s.size).size = (s.data.toList.drop i).length := by rw [← el, Array.length_toList]; rfl
  have w1 : wrap64 ((i : Int) + 1) = (i : Int) + 1 := w64_id (by omega) (by omega)
  have w2 : wrap64 ((i : Int) + 2) = (i : Int) + 2 := w64_id (by omega) (by omega)
  unfold impl_csvReader_after.f
  rw [if_pos i0, if_pos i1, e0, w1, w2]
  by_cases hge : s.data.toList.length ≤ i
  · have hd : s.data.toList.drop i = [] := List.drop_eq_nil_of_le hge
    rw [if_pos (by rw [Lib.toList_data, el, hd]), hd, afterP_nil]
    have e : ((s.data.toList.length - ([] : List UInt8).length : Nat) : Int) = (i : Int) := by rw [List.length_nil]; omega
    simp only [e]
  have hlt : i < s.data.toList.length := by omega
  have hdr : s.data.toList.drop i = s.data.toList[i] :: s.data.toList.drop (i + 1) := List.drop_eq_getElem_cons hlt
  have hne : ¬ (s.extract i s.size).toList = ([] : List UInt8) := by rw [Lib.toList_data, el, hdr]; simp
  have hpos : (0 : Int) < ((s.extract i s.size).size : Int) := by rw [ez, List.length_drop]; omega
  have hx0 : (s.extract i s.size).data.toList[0]'(by rw [el, List.length_drop]; omega) = s.data.toList[i] := by
    simp only [el, List.getElem_drop, Nat.add_zero]
  have h44 : bt (s.extract i s.size) 0 = 44 ↔ s.data.toList[i] = 44 := by
    have := bt_is (s.extract i s.size) 0 (by rw [el, List.length_drop]; omega) 44 (by omega)
    rw [hx0] at this
    exact this
  have h10 : bt (s.extract i s.size) 0 = 10 ↔ s.data.toList[i] = 10 := by
    have := bt_is (s.extract i s.size) 0 (by rw [el, List.length_drop]; omega) 10 (by omega)
    rw [hx0] at this
    exact this
  have hl1 : ((s.data.toList.length - (s.data.toList.drop (i + 1)).length : Nat) : Int) = (i : Int) + 1 := by rw [List.length_drop]; omega
  rw [if_neg hne, if_pos hpos, hdr, afterP_cons]
  by_cases c44 : s.data.toList[i] = 44
  · rw [if_pos (h44.2 c44), if_pos c44]
    simp only [hl1]
  rw [if_neg (fun h => c44 (h44.1 h)), if_neg c44]
  by_cases c10 : s.data.toList[i] = 10
  · rw [if_pos (h10.2 c10), if_pos c10]
    simp only [hl1]
  rw [if_neg (fun h => c10 (h10.1 h)), if_neg c10]
  clear h44 h10
  unfold strings_HasPrefix.f stringslite_HasPrefix.f
  have e2 : (⟨#[13, 10]⟩ : ByteArray).size = 2 := rfl
  have e3 : (⟨#[13, 10]⟩ : ByteArray).toList = [13, 10] := by rw [Lib.toList_data]
  rw [e2, e3]
  by_cases hz2 : ((s.extract i s.size).size : Int) ≥ ((2 : Nat) : Int)
  · have hx : ((s.extract i s.size).extract 0 2).toList = (s.data.toList[i] :: s.data.toList.drop (i + 1)).take 2 := by
      rw [Lib.toList_data, extract_list, el, hdr]
      rfl
    have et : ((((2 : Nat) : Int)) : Int).toNat = 2 := rfl
    rw [if_pos hz2, if_pos (by omega), if_pos hz2, et, hx]
    simp only [Option.bind_some]
    have hlt2 : i + 1 < s.data.toList.length := by rw [ez, List.length_drop] at hz2; omega
    have hdr2 : s.data.toList.drop (i + 1) = s.data.toList[i + 1] :: s.data.toList.drop (i + 1 + 1) := List.drop_eq_getElem_cons hlt2
    have hl2 : ((s.data.toList.length - (s.data.toList.drop (i + 1 + 1)).length : Nat) : Int) = (i : Int) + 2 := by rw [List.length_drop]; omega
    rw [hdr2]
    have tk : (s.data.toList[i] :: s.data.toList[i + 1] :: s.data.toList.drop (i + 1 + 1)).take 2 = [s.data.toList[i], s.data.toList[i + 1]] := rfl
    rw [tk]
    by_cases c13 : s.data.toList[i] = 13
    · rw [if_pos c13, lfP_cons]
      by_cases d10 : s.data.toList[i + 1] = 10
      · rw [if_pos d10, if_pos (by rw [c13, d10]; rfl)]
        simp only [hl2]
      · rw [if_neg d10, if_neg (fun h => d10 (List.cons.inj (List.cons.inj (beq_iff_eq.1 h)).2).1)]
    · rw [if_neg c13, if_neg (fun h => c13 (List.cons.inj (beq_iff_eq.1 h)).1)]
  · rw [if_neg hz2]
    simp only [Option.bind_some]
    have hnil : s.data.toList.drop (i + 1) = [] := List.drop_eq_nil_of_le (by rw [ez, List.length_drop] at hz2; omega)
    rw [if_neg (by decide), hnil]
    by_cases c13 : s.data.toList[i] = 13
    · rw [if_pos c13, lfP_nil]
    · rw [if_neg c13]
/-- A field, as the program reads it. -/
theorem impl_j2_is (s : ByteArray) (hs : s.size ≤ 4000) (rows : List (List ByteArray)) (row : List ByteArray) (i k : Nat) (hi : i ≤ s.data.toList.length) (hk : s.data.toList.length + 2 ≤ k) (q : Bool) (hq : q = true ↔ ∃ h : i < s.data.toList.length, s.data.toList[i] = 34) :
    (fieldP (s.data.toList.drop i) = none → ∃ p, impl_ReadCsv.j2 (k + 1) s rows row true q s (i : Int) = impl_ReadCsv.j3 k s rows row ⟨#[]⟩ false s p) ∧
    (∀ c r, fieldP (s.data.toList.drop i) = some (c, r) → impl_ReadCsv.j2 (k + 1) s rows row true q s (i : Int) = impl_ReadCsv.j3 k s rows row (bA c) true s ((s.data.toList.length - r.length : Nat) : Int)) := by
  have hz : s.data.toList.length = s.size := by rw [Array.length_toList]; rfl
  simp only [impl_ReadCsv.j2]
  cases q with
  | true =>
    obtain ⟨hlt, h34⟩ := hq.1 rfl
    have hdr : s.data.toList.drop i = s.data.toList[i] :: s.data.toList.drop (i + 1) := List.drop_eq_getElem_cons hlt
    rw [hdr, fieldP_cons, if_pos h34, if_pos rfl]
    unfold impl_csvReader_quoted.f
    have w1 : wrap64 ((i : Int) + 1) = ((i + 1 : Nat) : Int) := w64_id (n := (i : Int) + 1) (by omega) (by omega)
    rw [w1]
    obtain ⟨g1, g2⟩ := impl_quoted_l s hs s.data.toList.length k (i + 1) [] (by omega) (by omega) (by omega) (by simp)
    have en : nums' [] = [] := rfl
    rw [en] at g1 g2
    refine ⟨fun h => ?_, fun c r h => ?_⟩
    · obtain ⟨p, e⟩ := g2 h
      exact ⟨p, by rw [e]; rfl⟩
    · rw [g1 c r h]
      rfl
  | false =>
    rw [if_neg (by decide), impl_plain_is s hs i hi]
    have hf : fieldP (s.data.toList.drop i) = some ((s.data.toList.drop i).takeWhile nsp, (s.data.toList.drop i).dropWhile nsp) := by
      by_cases hge : s.data.toList.length ≤ i
      · rw [List.drop_eq_nil_of_le hge]; rfl
      · have hlt : i < s.data.toList.length := by omega
        have hdr : s.data.toList.drop i = s.data.toList[i] :: s.data.toList.drop (i + 1) := List.drop_eq_getElem_cons hlt
        have hn : ¬ s.data.toList[i] = 34 := fun h => by have := hq.2 ⟨hlt, h⟩; cases this
        rw [hdr, fieldP_cons, if_neg hn]
    rw [hf]
    refine ⟨(fun h => by cases h), fun c r h => ?_⟩
    simp only [Option.some.injEq, Prod.mk.injEq] at h
    obtain ⟨rfl, rfl⟩ := h
    have hlen : ((s.data.toList.drop i).takeWhile nsp).length + ((s.data.toList.drop i).dropWhile nsp).length = s.data.toList.length - i := by
      rw [← List.length_append, List.takeWhile_append_dropWhile, List.length_drop]
    have e : s.data.toList.length - ((s.data.toList.drop i).dropWhile nsp).length = i + ((s.data.toList.drop i).takeWhile nsp).length := by omega
    rw [e]
    rfl

theorem spec_quoted_l (s : ByteArray) (hs : s.size ≤ 4000) (d : Nat) : ∀ (k i : Nat) (o : List UInt8), i ≤ s.data.toList.length → s.data.toList.length - i ≤ d → d < k → o.length ≤ i →
    (∀ c r, qs false (s.data.toList.drop i) = some (c, r) → spec_l7Field.l0 k s (i : Int) (nums' o) = some (bA (o ++ c), ((s.data.toList.length - r.length : Nat) : Int), true)) ∧
    (qs false (s.data.toList.drop i) = none → ∃ p, spec_l7Field.l0 k s (i : Int) (nums' o) = some (⟨#[]⟩, p, false)) := by
  have hz : s.data.toList.length = s.size := by rw [Array.length_toList]; rfl
  have base : ∀ (k i : Nat) (o : List UInt8), i = s.data.toList.length →
    (∀ c r, qs false (s.data.toList.drop i) = some (c, r) → spec_l7Field.l0 (k + 1) s (i : Int) (nums' o) = some (bA (o ++ c), ((s.data.toList.length - r.length : Nat) : Int), true)) ∧
    (qs false (s.data.toList.drop i) = none → ∃ p, spec_l7Field.l0 (k + 1) s (i : Int) (nums' o) = some (⟨#[]⟩, p, false)) := by
    intro k i o hi
    rw [List.drop_eq_nil_of_le (by omega), qs_f0]
    refine ⟨(fun c r h => by cases h), fun _ => ⟨(i : Int), ?_⟩⟩
    simp only [spec_l7Field.l0]
    rw [if_pos (by omega)]
  induction d with
  | zero =>
    intro k i o hi hd hk ho
    obtain ⟨k, rfl⟩ : ∃ m, k = m + 1 := ⟨k - 1, by omega⟩
    exact base k i o (by omega)
  | succ d ih =>
    intro k i o hi hd hk ho
    obtain ⟨k, rfl⟩ : ∃ m, k = m + 1 := ⟨k - 1, by omega⟩
    by_cases hge : s.data.toList.length ≤ i
    · exact base k i o (by omega)
    have hlt : i < s.data.toList.length := by omega
    have hl : (nums' o).length < 140737488355328 := by rw [nums'_len]; omega
    have w1 : wrap64 ((i : Int) + 1) = (i : Int) + 1 := w64_id (by omega) (by omega)
    have w2 : wrap64 ((i : Int) + 2) = (i : Int) + 2 := w64_id (by omega) (by omega)
    have hk2 : d < k := by omega
    have i0 : (0 : Int) ≤ (i : Int) := by omega
    have i1 : (i : Int) < (s.size : Int) := by omega
    have i2 : ¬ (i : Int) ≥ (s.size : Int) := by omega
    have hi1 : i + 1 ≤ s.data.toList.length := by omega
    have hd1 : s.data.toList.length - (i + 1) ≤ d := by omega
    have hb : bt s (i : Int) = 34 ↔ s.data.toList[i] = 34 := bt_is s i hlt 34 (by omega)
    have hbn := bt_nat s i hlt
    have hdr : s.data.toList.drop i = s.data.toList[i] :: s.data.toList.drop (i + 1) := List.drop_eq_getElem_cons hlt
    simp only [spec_l7Field.l0]
    rw [if_neg i2, if_pos i0, if_pos i1, w1, w2, hdr, qs_f]
    by_cases c1 : s.data.toList[i] = 34
    · rw [if_pos (hb.2 c1), if_pos c1]
      by_cases c2 : i + 1 = s.data.toList.length
      · rw [if_neg (by omega), List.drop_eq_nil_of_le (by omega), qs_t0]
        refine ⟨fun c r h => ?_, (fun h => by cases h)⟩
        simp only [Option.some.injEq, Prod.mk.injEq] at h
        obtain ⟨rfl, rfl⟩ := h
        rw [nums'_str, List.append_nil, List.length_nil, Nat.sub_zero, ← c2]
        rfl
      · have hlt2 : i + 1 < s.data.toList.length := by omega
        have hb2 : bt s ((i + 1 : Nat) : Int) = 34 ↔ s.data.toList[i + 1] = 34 := bt_is s (i + 1) hlt2 34 (by omega)
        rw [if_pos (by omega), if_pos (by omega)]
        have hdr2 : s.data.toList.drop (i + 1) = s.data.toList[i + 1] :: s.data.toList.drop (i + 1 + 1) := List.drop_eq_getElem_cons hlt2
        rw [hdr2, qs_t]
        have en : ((i : Int) + 1) = ((i + 1 : Nat) : Int) := by omega
        rw [en]
        by_cases c3 : s.data.toList[i + 1] = 34
        · have hi2 : i + 1 + 1 ≤ s.data.toList.length := by omega
          have hd2 : s.data.toList.length - (i + 1 + 1) ≤ d := by omega
          have ho2 : (o ++ [34]).length ≤ i + 1 + 1 := by rw [List.length_append, List.length_singleton]; omega
          rw [if_pos (hb2.2 c3), if_pos c3, if_pos hl]
          have e2 : nums' o ++ [34] = nums' (o ++ [34]) := by rw [nums'_app]; rfl
          have en2 : ((i : Int) + 2) = ((i + 1 + 1 : Nat) : Int) := by omega
          rw [e2, en2]
          obtain ⟨h1, h2⟩ := ih k (i + 1 + 1) (o ++ [34]) hi2 hd2 hk2 ho2
          refine ⟨fun c r h => ?_, fun h => h2 (Option.map_eq_none_iff.1 h)⟩
          obtain ⟨⟨c', r'⟩, g1, g2⟩ := Option.map_eq_some_iff.1 h
          simp only [Prod.mk.injEq] at g2
          obtain ⟨rfl, rfl⟩ := g2
          rw [h1 c' r' g1, List.append_assoc]
          rfl
        · rw [if_neg (fun h => c3 (hb2.1 h)), if_neg c3]
          refine ⟨fun c r h => ?_, (fun h => by cases h)⟩
          simp only [Option.some.injEq, Prod.mk.injEq] at h
          obtain ⟨rfl, rfl⟩ := h
          rw [nums'_str, List.append_nil, ← hdr2, List.length_drop]
          have e3 : s.data.toList.length - (s.data.toList.length - (i + 1)) = i + 1 := by omega
          rw [e3]
          rfl
    · have ho1 : (o ++ [s.data.toList[i]]).length ≤ i + 1 := by rw [List.length_append, List.length_singleton]; omega
      rw [if_neg (fun h => c1 (hb.1 h)), if_neg c1, if_pos hl, hbn]
      have e2 : nums' o ++ [((s.data.toList[i].toNat : Nat) : Int)] = nums' (o ++ [s.data.toList[i]]) := by rw [nums'_app]; rfl
      have en : ((i : Int) + 1) = ((i + 1 : Nat) : Int) := by omega
      rw [e2, en]
      obtain ⟨h1, h2⟩ := ih k (i + 1) (o ++ [s.data.toList[i]]) hi1 hd1 hk2 ho1
      refine ⟨fun c r h => ?_, fun h => h2 (Option.map_eq_none_iff.1 h)⟩
      obtain ⟨⟨c', r'⟩, g1, g2⟩ := Option.map_eq_some_iff.1 h
      simp only [Prod.mk.injEq] at g2
      obtain ⟨rfl, rfl⟩ := g2
      rw [h1 c' r' g1, List.append_assoc]
      rfl
/-- A field without quotes: what is met behind it, at the reference. -/
theorem spec_plain_l (s : ByteArray) (hs : s.size ≤ 4000) (d : Nat) : ∀ (k i : Nat) (o : List UInt8), i ≤ s.data.toList.length → s.data.toList.length - i ≤ d → 2 * d + 2 < k → o.length ≤ i →
    (((s.data.toList.drop i).dropWhile nsp).head? = some 34 → ∃ p, spec_l7Field.l1 k s (i : Int) (nums' o) = some (⟨#[]⟩, p, false)) ∧
    (((s.data.toList.drop i).dropWhile nsp).head? ≠ some 34 → spec_l7Field.l1 k s (i : Int) (nums' o) = some (bA (o ++ (s.data.toList.drop i).takeWhile nsp), ((s.data.toList.length - ((s.data.toList.drop i).dropWhile nsp).length : Nat) : Int), true)) := by
  have hz : s.data.toList.length = s.size := by rw [Array.length_toList]; rfl
  have base : ∀ (k i : Nat) (o : List UInt8), i = s.data.toList.length →
    (((s.data.toList.drop i).dropWhile nsp).head? = some 34 → ∃ p, spec_l7Field.l1 (k + 2) s (i : Int) (nums' o) = some (⟨#[]⟩, p, false)) ∧
    (((s.data.toList.drop i).dropWhile nsp).head? ≠ some 34 → spec_l7Field.l1 (k + 2) s (i : Int) (nums' o) = some (bA (o ++ (s.data.toList.drop i).takeWhile nsp), ((s.data.toList.length - ((s.data.toList.drop i).dropWhile nsp).length : Nat) : Int), true)) := by
    intro k i o hi
    rw [List.drop_eq_nil_of_le (by omega)]
    refine ⟨(fun h => by cases h), fun _ => ?_⟩
    simp only [spec_l7Field.l1, spec_l7Field.j3]
    rw [if_neg (by omega), if_neg (by decide), nums'_str]
    have e : ((s.data.toList.length - (([] : List UInt8).dropWhile nsp).length : Nat) : Int) = (i : Int) := by
      rw [List.dropWhile_nil, List.length_nil]; omega
    rw [e, List.takeWhile_nil, List.append_nil]
    rfl
  induction d with
  | zero =>
    intro k i o hi hd hk ho
    obtain ⟨k, rfl⟩ : ∃ m, k = m + 2 := ⟨k - 2, by omega⟩
    exact base k i o (by omega)
  | succ d ih =>
    intro k i o hi hd hk ho
    obtain ⟨k, rfl⟩ : ∃ m, k = m + 2 := ⟨k - 2, by omega⟩
    by_cases hge : s.data.toList.length ≤ i
    · exact base k i o (by omega)
    have hlt : i < s.data.toList.length := by omega
    have hl : (nums' o).length < 140737488355328 := by rw [nums'_len]; omega
    have w1 : wrap64 ((i : Int) + 1) = (i : Int) + 1 := w64_id (by omega) (by omega)
    have hk2 : 2 * d + 2 < k := by omega
    have i0 : (0 : Int) ≤ (i : Int) := by omega
    have i1 : (i : Int) < (s.size : Int) := by omega
    have hi1 : i + 1 ≤ s.data.toList.length := by omega
    have hd1 : s.data.toList.length - (i + 1) ≤ d := by omega
    have ho1 : (o ++ [s.data.toList[i]]).length ≤ i + 1 := by rw [List.length_append, List.length_singleton]; omega
    have hself : ((s.data.toList.length - (s.data.toList.length - i) : Nat) : Int) = (i : Int) := by omega
    have b44 : bt s (i : Int) = 44 ↔ s.data.toList[i] = 44 := bt_is s i hlt 44 (by omega)
    have b10 : bt s (i : Int) = 10 ↔ s.data.toList[i] = 10 := bt_is s i hlt 10 (by omega)
    have b13 : bt s (i : Int) = 13 ↔ s.data.toList[i] = 13 := bt_is s i hlt 13 (by omega)
    have b34 : bt s (i : Int) = 34 ↔ s.data.toList[i] = 34 := bt_is s i hlt 34 (by omega)
    have hbn := bt_nat s i hlt
    have hdr : s.data.toList.drop i = s.data.toList[i] :: s.data.toList.drop (i + 1) := List.drop_eq_getElem_cons hlt
    obtain ⟨ih1, ih2⟩ := ih k (i + 1) (o ++ [s.data.toList[i]]) hi1 hd1 hk2 ho1
    have stop : ∀ b : UInt8, s.data.toList[i] = b → spc b = true → b ≠ 34 →
        ((((s.data.toList.drop i).dropWhile nsp).head? = some 34 → ∃ p, spec_l7Field.j3 (k + 1) s (i : Int) (nums' o) false = some (⟨#[]⟩, p, false)) ∧
        (((s.data.toList.drop i).dropWhile nsp).head? ≠ some 34 → spec_l7Field.j3 (k + 1) s (i : Int) (nums' o) false = some (bA (o ++ (s.data.toList.drop i).takeWhile nsp), ((s.data.toList.length - ((s.data.toList.drop i).dropWhile nsp).length : Nat) : Int), true))) := by
      intro b hb hsp hne
      have hn : nsp s.data.toList[i] = false := by unfold nsp; rw [hb, hsp]; rfl
      rw [hdr, List.dropWhile_cons_of_neg (by rw [hn]; decide), List.takeWhile_cons_of_neg (by rw [hn]; decide)]
      refine ⟨(fun h => absurd (hb.symm.trans (Option.some.inj h)) hne), fun _ => ?_⟩
      rw [← hdr, List.length_drop, hself, List.append_nil]
      simp only [spec_l7Field.j3]
      rw [if_neg (by decide), nums'_str]
      rfl
    have el1 : spec_l7Field.l1 (k + 2) s (i : Int) (nums' o) = if bt s (i : Int) = 44 then spec_l7Field.j3 (k + 1) s (i : Int) (nums' o) false else if bt s (i : Int) = 10 then spec_l7Field.j3 (k + 1) s (i : Int) (nums' o) false else spec_l7Field.j3 (k + 1) s (i : Int) (nums' o) (bt s (i : Int) != 13) := by
      rw [show k + 2 = (k + 1) + 1 from rfl]
      simp only [spec_l7Field.l1]
      rw [if_pos i1, if_pos i0]
    rw [el1]
    by_cases c44 : s.data.toList[i] = 44
    · rw [if_pos (b44.2 c44)]
      exact stop 44 c44 rfl (by decide)
    rw [if_neg (fun h => c44 (b44.1 h))]
    by_cases c10 : s.data.toList[i] = 10
    · rw [if_pos (b10.2 c10)]
      exact stop 10 c10 rfl (by decide)
    rw [if_neg (fun h => c10 (b10.1 h))]
    by_cases c13 : s.data.toList[i] = 13
    · have e : (bt s (i : Int) != 13) = false := by rw [b13.2 c13]; rfl
      rw [e]
      exact stop 13 c13 rfl (by decide)
    have e : (bt s (i : Int) != 13) = true := bne_iff_ne.2 (fun h => c13 (b13.1 h))
    rw [e]
    clear stop el1
    simp only [spec_l7Field.j3]
    rw [if_pos trivial, if_pos i0, if_pos i1]
    by_cases c34 : s.data.toList[i] = 34
    · rw [if_pos (b34.2 c34)]
      have hn : nsp s.data.toList[i] = false := by rw [c34]; rfl
      rw [hdr, List.dropWhile_cons_of_neg (by rw [hn]; decide)]
      exact ⟨fun _ => ⟨_, rfl⟩, fun h => absurd (by rw [c34]; rfl) h⟩
    · rw [if_neg (fun h => c34 (b34.1 h)), if_pos hl, w1, hbn]
      have e2 : nums' o ++ [((s.data.toList[i].toNat : Nat) : Int)] = nums' (o ++ [s.data.toList[i]]) := by rw [nums'_app]; rfl
      have en : ((i : Int) + 1) = ((i + 1 : Nat) : Int) := by omega
      have hn : nsp s.data.toList[i] = true := by
        unfold nsp spc
        have a1 : (s.data.toList[i] == 44) = false := by simpa using c44
        have a2 : (s.data.toList[i] == 34) = false := by simpa using c34
        have a3 : (s.data.toList[i] == 10) = false := by simpa using c10
        have a4 : (s.data.toList[i] == 13) = false := by simpa using c13
        rw [a1, a2, a3, a4]
        rfl
      rw [e2, en, hdr, List.dropWhile_cons_of_pos hn, List.takeWhile_cons_of_pos hn]
      refine ⟨ih1, fun h => ?_⟩
      rw [ih2 h, List.append_assoc]
      rfl
/-- A field, as the reference reads it. -/
theorem spec_field_is (s : ByteArray) (hs : s.size ≤ 4000) (i k : Nat) (hi : i ≤ s.data.toList.length) (hk : 2 * s.data.toList.length + 8 ≤ k) :
    (∃ p q, spec_l7Field.f k s (i : Int) = some (p, q, false) ∧ stepP (s.data.toList.drop i) = none) ∨
    (∃ c r, fieldP (s.data.toList.drop i) = some (c, r) ∧ spec_l7Field.f k s (i : Int) = some (bA c, ((s.data.toList.length - r.length : Nat) : Int), true)) := by
  have hz : s.data.toList.length = s.size := by rw [Array.length_toList]; rfl
  obtain ⟨k, rfl⟩ : ∃ m, k = m + 1 := ⟨k - 1, by omega⟩
  have hd1 : s.data.toList.length - i ≤ s.data.toList.length := by omega
  have i0 : (0 : Int) ≤ (i : Int) := by omega
  have en : nums' [] = [] := rfl
  unfold spec_l7Field.f
  simp only [Option.bind_some]
  have plain : (∃ h : i < s.data.toList.length, s.data.toList[i] = 34) ∨ (fieldP (s.data.toList.drop i) = some ((s.data.toList.drop i).takeWhile nsp, (s.data.toList.drop i).dropWhile nsp)) := by
    by_cases hge : s.data.toList.length ≤ i
    · right; rw [List.drop_eq_nil_of_le hge]; rfl
    · have hlt : i < s.data.toList.length := by omega
      by_cases c : s.data.toList[i] = 34
      · exact .inl ⟨hlt, c⟩
      · have hdr : s.data.toList.drop i = s.data.toList[i] :: s.data.toList.drop (i + 1) := List.drop_eq_getElem_cons hlt
        right; rw [hdr, fieldP_cons, if_neg c]
  have fin : fieldP (s.data.toList.drop i) = some ((s.data.toList.drop i).takeWhile nsp, (s.data.toList.drop i).dropWhile nsp) →
      ((∃ p q, spec_l7Field.j0 (k + 1) s (i : Int) [] false = some (p, q, false) ∧ stepP (s.data.toList.drop i) = none) ∨
      (∃ c r, fieldP (s.data.toList.drop i) = some (c, r) ∧ spec_l7Field.j0 (k + 1) s (i : Int) [] false = some (bA c, ((s.data.toList.length - r.length : Nat) : Int), true))) := by
    intro hf
    obtain ⟨g1, g2⟩ := spec_plain_l s hs s.data.toList.length k i [] hi hd1 (by omega) (by simp)
    rw [en] at g1 g2
    simp only [spec_l7Field.j0]
    rw [if_neg (by decide)]
    by_cases h34 : ((s.data.toList.drop i).dropWhile nsp).head? = some 34
    · obtain ⟨p, e⟩ := g1 h34
      left
      refine ⟨_, p, e, ?_⟩
      unfold stepP
      rw [hf]
      simp only [Option.bind_some]
      cases hh : (s.data.toList.drop i).dropWhile nsp with
      | nil => rw [hh] at h34; cases h34
      | cons b l =>
        rw [hh] at h34
        have hb : b = 34 := by simpa using h34
        rw [hb, afterP_cons, if_neg (by decide), if_neg (by decide), if_neg (by decide)]
        rfl
    · right
      exact ⟨_, _, hf, g2 h34⟩
  by_cases hge : s.data.toList.length ≤ i
  · rw [if_neg (by omega)]
    rcases plain with ⟨h, _⟩ | hf
    · omega
    · exact fin hf
  · have hlt : i < s.data.toList.length := by omega
    have b34 : bt s (i : Int) = 34 ↔ s.data.toList[i] = 34 := bt_is s i hlt 34 (by omega)
    have i1 : (i : Int) < (s.size : Int) := by omega
    rw [if_pos i1, if_pos i0]
    by_cases c : s.data.toList[i] = 34
    · have hdr : s.data.toList.drop i = s.data.toList[i] :: s.data.toList.drop (i + 1) := List.drop_eq_getElem_cons hlt
      have e : (bt s (i : Int) == 34) = true := by rw [b34.2 c]; rfl
      have w1 : wrap64 ((i : Int) + 1) = ((i + 1 : Nat) : Int) := w64_id (n := (i : Int) + 1) (by omega) (by omega)
      rw [e]
      simp only [spec_l7Field.j0]
      rw [if_pos trivial, w1]
      obtain ⟨g1, g2⟩ := spec_quoted_l s hs s.data.toList.length k (i + 1) [] (by omega) (by omega) (by omega) (by simp)
      rw [en] at g1 g2
      have hf : fieldP (s.data.toList.drop i) = qs false (s.data.toList.drop (i + 1)) := by rw [hdr, fieldP_cons, if_pos c]
      cases hq : qs false (s.data.toList.drop (i + 1)) with
      | none =>
        obtain ⟨p, ep⟩ := g2 hq
        left
        refine ⟨_, p, ep, ?_⟩
        unfold stepP
        rw [hf, hq]
        rfl
      | some cr =>
        obtain ⟨c', r⟩ := cr
        right
        exact ⟨c', r, by rw [hf, hq], g1 c' r hq⟩
    · have e : (bt s (i : Int) == 34) = false := beq_eq_false_iff_ne.2 (fun h => c (b34.1 h))
      rw [e]
      rcases plain with ⟨_, h⟩ | hf
      · exact absurd h c
      · exact fin hf

/-- One field at the program: from the loop's head to its next. -/
theorem impl_round (s : ByteArray) (hs : s.size ≤ 4000) (rows : List (List ByteArray)) (row : List ByteArray) (i k : Nat) (hi : i ≤ s.data.toList.length) (hk : s.data.toList.length + 2 ≤ k) (hr : rows.length ≤ 1000000) (hw : row.length ≤ 1000000) :
    impl_ReadCsv.l0 (k + 4) s rows row s (i : Int) = if ((s.data.toList.drop i).isEmpty && row.isEmpty) = true then some (rows, 0, 0, 0) else match stepP (s.data.toList.drop i) with
      | none => some ([], 2, (rows.length : Int), (row.length : Int))
      | some (c, true, t) => impl_ReadCsv.l0 k s (rows ++ [row ++ [bA c]]) [] s ((s.data.toList.length - t.length : Nat) : Int)
      | some (c, false, t) => impl_ReadCsv.l0 k s rows (row ++ [bA c]) s ((s.data.toList.length - t.length : Nat) : Int) := by
  have hz : s.data.toList.length = s.size := by rw [Array.length_toList]; rfl
  have i0 : (0 : Int) ≤ (i : Int) := by omega
  have hr' : rows.length < 5864062014805 := by omega
  have hw' : row.length < 8796093022208 := by omega
  have em : (s.data.toList.drop i).isEmpty = decide (s.data.toList.length ≤ i) := by
    by_cases hge : s.data.toList.length ≤ i
    · rw [List.drop_eq_nil_of_le hge, decide_eq_true hge]; rfl
    · have hlt : i < s.data.toList.length := by omega
      rw [List.drop_eq_getElem_cons hlt, decide_eq_false hge]; rfl
  -- the field and what stands behind it
  have main : ∀ q : Bool, (q = true ↔ ∃ h : i < s.data.toList.length, s.data.toList[i] = 34) → impl_ReadCsv.j2 (k + 2) s rows row true q s (i : Int) = match stepP (s.data.toList.drop i) with
      | none => some ([], 2, (rows.length : Int), (row.length : Int))
      | some (c, true, t) => impl_ReadCsv.l0 k s (rows ++ [row ++ [bA c]]) [] s ((s.data.toList.length - t.length : Nat) : Int)
      | some (c, false, t) => impl_ReadCsv.l0 k s rows (row ++ [bA c]) s ((s.data.toList.length - t.length : Nat) : Int) := by
    intro q hq
    obtain ⟨g1, g2⟩ := impl_j2_is s hs rows row i (k + 1) hi (by omega) q hq
    unfold stepP
    cases hf : fieldP (s.data.toList.drop i) with
    | none =>
      obtain ⟨p, e⟩ := g1 hf
      rw [e]
      simp only [impl_ReadCsv.j3]
      rw [if_neg (by decide)]
      rfl
    | some cr =>
      obtain ⟨c, r⟩ := cr
      have hsf := fieldP_suffix _ c r hf
      have hlr : r.length ≤ s.data.toList.length := by
        have := hsf.length_le
        rw [List.length_drop] at this
        omega
      have hdr : s.data.toList.drop (s.data.toList.length - r.length) = r := (suffix_drop (hsf.trans (List.drop_suffix _ _))).symm
      have ha := impl_after_is s hs (s.data.toList.length - r.length) (by omega)
      rw [hdr] at ha
      rw [g2 c r hf]
      simp only [impl_ReadCsv.j3, Option.bind_some]
      rw [if_pos trivial, if_pos hw', ha]
      simp only [Option.bind_some]
      cases hA : afterP r with
      | none =>
        simp only
        rw [if_pos trivial]
        rfl
      | some et =>
        obtain ⟨e, t⟩ := et
        cases e
        · simp only
          rw [if_neg (by decide), if_neg (by decide)]
          rfl
        · simp only
          rw [if_neg (by decide), if_pos trivial, if_pos hr']
          rfl
  have h2 : ∀ b : Bool, b = (decide (i < s.data.toList.length) || decide (0 < row.length)) → impl_ReadCsv.j1 (k + 3) s rows row b s (i : Int) = if ((s.data.toList.drop i).isEmpty && row.isEmpty) = true then some (rows, 0, 0, 0) else match stepP (s.data.toList.drop i) with
      | none => some ([], 2, (rows.length : Int), (row.length : Int))
      | some (c, true, t) => impl_ReadCsv.l0 k s (rows ++ [row ++ [bA c]]) [] s ((s.data.toList.length - t.length : Nat) : Int)
      | some (c, false, t) => impl_ReadCsv.l0 k s rows (row ++ [bA c]) s ((s.data.toList.length - t.length : Nat) : Int) := by
    intro b hb
    have er : row.isEmpty = decide (row.length = 0) := by cases row <;> simp
    simp only [impl_ReadCsv.j1]
    cases b with
    | false =>
      have h3 := hb.symm
      rw [Bool.or_eq_false_iff] at h3
      have h4 := of_decide_eq_false h3.1
      have h5 := of_decide_eq_false h3.2
      rw [if_neg (by decide), em, er, decide_eq_true (by omega), decide_eq_true (by omega)]
      rfl
    | true =>
      have hcond : ((s.data.toList.drop i).isEmpty && row.isEmpty) = false := by
        rw [em, er]
        rcases (Bool.or_eq_true _ _).mp hb.symm with h3 | h3
        · have := of_decide_eq_true h3
          rw [decide_eq_false (p := s.data.toList.length ≤ i) (by omega)]; rfl
        · have := of_decide_eq_true h3
          rw [decide_eq_false (p := row.length = 0) (by omega), Bool.and_false]
      rw [if_pos rfl, hcond, if_neg (show ¬ (false = true) by decide)]
      by_cases hlt : i < s.data.toList.length
      · have i1 : (i : Int) < (s.size : Int) := by omega
        have b34 : bt s (i : Int) = 34 ↔ s.data.toList[i] = 34 := bt_is s i hlt 34 (by decide)
        rw [if_pos i1, if_pos i0]
        refine main _ ?_
        rw [beq_iff_eq, b34]
        exact ⟨fun h => ⟨hlt, h⟩, fun ⟨_, h⟩ => h⟩
      · rw [if_neg (by omega)]
        exact main false ⟨(fun h => by cases h), fun ⟨h, _⟩ => absurd h hlt⟩
  rw [show k + 4 = (k + 3) + 1 from rfl]
  simp only [impl_ReadCsv.l0]
  by_cases hlt : i < s.data.toList.length
  · have i1 : (i : Int) < (s.size : Int) := by omega
    rw [if_pos i1]
    exact h2 true (by rw [decide_eq_true hlt]; rfl)
  · rw [if_neg (by omega)]
    exact h2 _ (by rw [decide_eq_false hlt, Bool.false_or]; exact decide_eq_decide.2 (by omega))
/-- One field at the reference. -/
theorem spec_round (s : ByteArray) (hs : s.size ≤ 4000) (rows : List (List ByteArray)) (row : List ByteArray) (i k : Nat) (hi : i ≤ s.data.toList.length) (hk : 2 * s.data.toList.length + 8 ≤ k) (hr : rows.length ≤ 1000000) (hw : row.length ≤ 1000000) :
    spec_ReadCsv.l1 (k + 2) s rows (i : Int) row false = match stepP (s.data.toList.drop i) with
      | none => some ([], 2, (rows.length : Int), (row.length : Int))
      | some (c, true, t) => spec_ReadCsv.l0 k s (rows ++ [row ++ [bA c]]) ((s.data.toList.length - t.length : Nat) : Int)
      | some (c, false, t) => spec_ReadCsv.l1 (k + 1) s rows ((s.data.toList.length - t.length : Nat) : Int) (row ++ [bA c]) false := by
  have hz : s.data.toList.length = s.size := by rw [Array.length_toList]; rfl
  have hr' : rows.length < 5864062014805 := by omega
  have hw' : row.length < 8796093022208 := by omega
  have ends : ∀ (y : List ByteArray) (p : Int), spec_ReadCsv.l1 (k + 1) s rows p y true = spec_ReadCsv.l0 k s (rows ++ [y]) p := by
    intro y p
    simp only [spec_ReadCsv.l1]
    rw [if_pos trivial, if_pos hr']
  rw [show k + 2 = (k + 1) + 1 from rfl, spec_ReadCsv.l1, if_neg (by decide)]
  rcases spec_field_is s hs i (k + 1) hi (by omega) with ⟨p, q, e, hS⟩ | ⟨c, r, hf, e⟩
  · rw [e, hS]
    simp only [Option.bind_some]
    rw [if_neg (by decide)]
  · have hsf := fieldP_suffix _ c r hf
    have hlr : r.length ≤ s.data.toList.length := by
      have := hsf.length_le
      rw [List.length_drop] at this
      omega
    have hS : stepP (s.data.toList.drop i) = (afterP r).map fun q => (c, q.1, q.2) := by unfold stepP; rw [hf]; rfl
    rw [e, hS]
    simp only [Option.bind_some]
    rw [if_pos trivial, if_pos hw']
    have hdr : s.data.toList.drop (s.data.toList.length - r.length) = r := (suffix_drop (hsf.trans (List.drop_suffix _ _))).symm
    cases r with
    | nil =>
      rw [if_pos (by simp only [List.length_nil, Nat.sub_zero]; omega), afterP_nil]
      rw [ends]
      rfl
    | cons b l =>
      have hlt : s.data.toList.length - (b :: l).length < s.data.toList.length := by simp only [List.length_cons] at hlr ⊢; omega
      generalize hm : s.data.toList.length - (b :: l).length = m at hdr hlt ⊢
      have hml : m + 1 + l.length = s.data.toList.length := by rw [← hm]; simp only [List.length_cons] at hlr ⊢; omega
      have m0 : (0 : Int) ≤ (m : Int) := by omega
      have m1 : (m : Int) < (s.size : Int) := by omega
      have m2 : ¬ (m : Int) ≥ (s.size : Int) := by omega
      have hl1 : ((s.data.toList.length - l.length : Nat) : Int) = (m : Int) + 1 := by omega
      have m4 : m ≤ 4000 := by omega
      obtain ⟨w1, w2⟩ := w64_small m m4
      have hdm : s.data.toList.drop m = s.data.toList[m] :: s.data.toList.drop (m + 1) := List.drop_eq_getElem_cons hlt
      have hbl : s.data.toList[m] = b ∧ s.data.toList.drop (m + 1) = l := by
        rw [hdm] at hdr
        exact ⟨(List.cons.inj hdr).1, (List.cons.inj hdr).2⟩
      have b44 := Aside0.mk (show bt s (m : Int) = 44 ↔ b = 44 from by rw [← hbl.1]; exact bt_is s m hlt 44 (by decide))
      have b10 := Aside0.mk (show bt s (m : Int) = 10 ↔ b = 10 from by rw [← hbl.1]; exact bt_is s m hlt 10 (by decide))
      have b13 := Aside0.mk (show bt s (m : Int) = 13 ↔ b = 13 from by rw [← hbl.1]; exact bt_is s m hlt 13 (by decide))
      rw [if_neg m2, if_pos m0, if_pos m1, w1, w2, afterP_cons]
      by_cases c44 : b = 44
      · rw [if_pos (b44.out.2 c44), if_pos c44]
        simp only [Option.map_some, hl1]
      rw [if_neg (fun h => c44 (b44.out.1 h)), if_neg c44]
      by_cases c10 : b = 10
      · rw [if_pos (b10.out.2 c10), if_pos c10, ends]
        simp only [Option.map_some, hl1]
      rw [if_neg (fun h => c10 (b10.out.1 h)), if_neg c10]
      by_cases c13 : b = 13
      · rw [if_pos (b13.out.2 c13), if_pos c13]
        cases l with
        | nil =>
          simp only [List.length_nil] at hml
          rw [if_neg (by omega), lfP_nil]
          rfl
        | cons d l' =>
          have hlt2 : m + 1 < s.data.toList.length := by simp only [List.length_cons] at hml; omega
          have hd2 : s.data.toList.drop (m + 1) = s.data.toList[m + 1] :: s.data.toList.drop (m + 1 + 1) := List.drop_eq_getElem_cons hlt2
          have hd : s.data.toList[m + 1] = d := by
            rw [hd2] at hbl
            exact (List.cons.inj hbl.2).1
          have d10 := Aside0.mk (show bt s ((m + 1 : Nat) : Int) = 10 ↔ d = 10 from by rw [← hd]; exact bt_is s (m + 1) hlt2 10 (by decide))
          have en : (m : Int) + 1 = ((m + 1 : Nat) : Int) := by omega
          have hl2 : ((s.data.toList.length - l'.length : Nat) : Int) = (m : Int) + 2 := by simp only [List.length_cons] at hml; omega
          rw [if_pos (by omega), if_pos (by omega), en, lfP_cons]
          by_cases e10 : d = 10
          · rw [if_pos (d10.out.2 e10), if_pos e10, ends]
            simp only [Option.map_some, hl2]
          · rw [if_neg (fun h => e10 (d10.out.1 h)), if_neg e10]
            rfl
      · rw [if_neg (fun h => c13 (b13.out.1 h)), if_neg c13]
        rfl
/-- What is left to do. -/
def todo (l : List UInt8) (row : List ByteArray) : Nat := 2 * l.length + (if row = [] then 0 else 1)
theorem both_l (s : ByteArray) (hs : s.size ≤ 4000) (m : Nat) : ∀ (rows : List (List ByteArray)) (row : List ByteArray) (i k1 k2 : Nat), i ≤ s.data.toList.length → todo (s.data.toList.drop i) row ≤ m →
    4 * m + s.data.toList.length + 8 ≤ k1 → 3 * m + 2 * s.data.toList.length + 16 ≤ k2 → rows.length + m ≤ 100000 → row.length + m ≤ 100000 →
    ∃ res, parse (m + 1) rows row (s.data.toList.drop i) = some res ∧ impl_ReadCsv.l0 k1 s rows row s (i : Int) = some res ∧
      (row = [] → spec_ReadCsv.l0 k2 s rows (i : Int) = some res) ∧ (((s.data.toList.drop i).isEmpty && row.isEmpty) = false → spec_ReadCsv.l1 k2 s rows (i : Int) row false = some res) := by
  have hz : s.data.toList.length = s.size := by rw [Array.length_toList]; rfl
  induction m with
  | zero =>
    intro rows row i k1 k2 hi hm h1 h2 hr hw
    unfold todo at hm
    have hrow : row = [] := by
      by_cases c : row = []
      · exact c
      · rw [if_neg c] at hm; omega
    subst hrow
    have hl0 : (s.data.toList.drop i).length = 0 := by omega
    have hnil : s.data.toList.drop i = [] := List.length_eq_zero_iff.1 hl0
    have hil : s.data.toList.length ≤ i := by rw [List.length_drop] at hl0; omega
    obtain ⟨k1, rfl⟩ : ∃ m, k1 = m + 4 := ⟨k1 - 4, by omega⟩
    obtain ⟨k2, rfl⟩ : ∃ m, k2 = m + 1 := ⟨k2 - 1, by omega⟩
    refine ⟨(rows, 0, 0, 0), ?_, ?_, fun _ => ?_, fun h => ?_⟩
    · rw [hnil]; rfl
    · rw [impl_round s hs rows [] i k1 hi (by omega) (by omega) (by simp), hnil]; rfl
    · simp only [spec_ReadCsv.l0]
      rw [if_neg (by omega)]
    · rw [hnil] at h; cases h
  | succ m ih =>
    intro rows row i k1 k2 hi hm h1 h2 hr hw
    obtain ⟨k1, rfl⟩ : ∃ m, k1 = m + 4 := ⟨k1 - 4, by omega⟩
    obtain ⟨k2, rfl⟩ : ∃ m, k2 = m + 3 := ⟨k2 - 3, by omega⟩
    have hI := impl_round s hs rows row i k1 hi (by omega) (by omega) (by omega)
    have hS := spec_round s hs rows row i (k2 + 1) hi (by omega) (by omega) (by omega)
    have hS' := spec_round s hs rows [] i k2 hi (by omega) (by omega) (by simp)
    by_cases hE : ((s.data.toList.drop i).isEmpty && row.isEmpty) = true
    · rw [hE, if_pos rfl] at hI
      have hE2 := hE
      rw [Bool.and_eq_true] at hE2
      have hnil : s.data.toList.drop i = [] := List.isEmpty_iff.1 hE2.1
      have hil : s.data.toList.length ≤ i := by
        have : (s.data.toList.drop i).length = 0 := by rw [hnil]; rfl
        rw [List.length_drop] at this; omega
      refine ⟨(rows, 0, 0, 0), ?_, hI, fun _ => ?_, fun h => by rw [hE] at h; cases h⟩
      · simp only [parse]
        rw [hE, if_pos rfl]
      · simp only [spec_ReadCsv.l0]
        rw [if_neg (by omega)]
    · have hE' : ((s.data.toList.drop i).isEmpty && row.isEmpty) = false := by
        cases hh : ((s.data.toList.drop i).isEmpty && row.isEmpty) with
        | true => exact absurd hh hE
        | false => rfl
      rw [hE', if_neg (by decide)] at hI
      have hP : parse (m + 1 + 1) rows row (s.data.toList.drop i) = match stepP (s.data.toList.drop i) with
          | none => some ([], 2, (rows.length : Int), (row.length : Int))
          | some (c, true, t) => parse (m + 1) (rows ++ [row ++ [bA c]]) [] t
          | some (c, false, t) => parse (m + 1) rows (row ++ [bA c]) t := by
        rw [show m + 1 + 1 = (m + 1) + 1 from rfl]
        conv => lhs; unfold parse
        rw [hE', if_neg (by decide)]
      have hL : row = [] → spec_ReadCsv.l0 (k2 + 3) s rows (i : Int) = spec_ReadCsv.l1 (k2 + 2) s rows (i : Int) [] false := by
        intro hrow
        subst hrow
        have hlt : i < s.data.toList.length := by
          by_cases c : s.data.toList.length ≤ i
          · rw [List.drop_eq_nil_of_le c] at hE'; cases hE'
          · omega
        simp only [spec_ReadCsv.l0]
        rw [if_pos (by omega)]
      rw [hP, hI]
      rw [show k2 + 1 + 2 = k2 + 3 from rfl] at hS
      cases hst : stepP (s.data.toList.drop i) with
      | none =>
        rw [hst] at hS hS'
        refine ⟨_, rfl, rfl, fun hrow => ?_, fun _ => hS⟩
        rw [hL hrow, hS', hrow]
      | some cet =>
        obtain ⟨c, e, t⟩ := cet
        rw [hst] at hS hS'
        obtain ⟨s1, s2⟩ := stepP_suffix _ c t e hst
        have ht : t = s.data.toList.drop (s.data.toList.length - t.length) := suffix_drop (s1.trans (List.drop_suffix _ _))
        have htl : t.length ≤ s.data.toList.length := (s1.trans (List.drop_suffix _ _)).length_le
        have hne : row ++ [bA c] ≠ [] := by simp
        unfold todo at hm
        cases e
        · -- a comma
          have hlt : t.length < (s.data.toList.drop i).length := by
            rcases s2 with h | ⟨_, h⟩
            · exact h
            · cases h
          have hm2 : todo (s.data.toList.drop (s.data.toList.length - t.length)) (row ++ [bA c]) ≤ m := by
            unfold todo
            rw [← ht, if_neg hne]
            split at hm <;> omega
          obtain ⟨res, p1, p2, p3, p4⟩ := ih rows (row ++ [bA c]) (s.data.toList.length - t.length) k1 (k2 + 2) (by omega) hm2 (by omega) (by omega) (by omega) (by rw [List.length_append, List.length_singleton]; omega)
          have p1' := p1
          rw [← ht] at p1'
          have hb4 : ((s.data.toList.drop (s.data.toList.length - t.length)).isEmpty && (row ++ [bA c]).isEmpty) = false := by
            have : (row ++ [bA c]).isEmpty = false := by cases row <;> rfl
            rw [this, Bool.and_false]
          have q4 := p4 hb4
          refine ⟨res, p1', p2, fun hrow => ?_, fun _ => ?_⟩
          · rw [hL hrow, hS']
            simp only
            subst hrow
            obtain ⟨res', _, r2, _, r4⟩ := ih rows ([] ++ [bA c]) (s.data.toList.length - t.length) k1 (k2 + 1) (by omega) hm2 (by omega) (by omega) (by omega) (by simp; omega)
            rw [p2] at r2
            rw [Option.some.inj r2]
            exact r4 hb4
          · rw [hS]
            exact q4
        · -- the row's end
          have hm2 : todo (s.data.toList.drop (s.data.toList.length - t.length)) [] ≤ m := by
            unfold todo
            rw [← ht, if_pos rfl]
            rcases s2 with h | ⟨h, _⟩
            · split at hm <;> omega
            · have hrow : row ≠ [] := by
                intro hr2
                rw [h, hr2] at hE'
                cases hE'
              have : t.length = 0 := by
                have := s1.length_le
                rw [h] at this
                simpa using this
              rw [if_neg hrow] at hm
              omega
          obtain ⟨res, p1, p2, p3, _⟩ := ih (rows ++ [row ++ [bA c]]) [] (s.data.toList.length - t.length) k1 (k2 + 1) (by omega) hm2 (by omega) (by omega) (by rw [List.length_append, List.length_singleton]; omega) (by simp; omega)
          have p1' := p1
          rw [← ht] at p1'
          refine ⟨res, p1', p2, fun hrow => ?_, fun _ => ?_⟩
          · rw [hL hrow, hS']
            simp only
            subst hrow
            obtain ⟨res', _, r2, r3, _⟩ := ih (rows ++ [[] ++ [bA c]]) [] (s.data.toList.length - t.length) k1 k2 (by omega) hm2 (by omega) (by omega) (by rw [List.length_append, List.length_singleton]; omega) (by simp; omega)
            rw [p2] at r2
            rw [Option.some.inj r2]
            exact r3 rfl
          · rw [hS]
            exact p3 rfl
/-- The rows of a text: program and reference, and what they are. -/
theorem ReadCsv_both (s : ByteArray) (k : Nat) (hk : 60000 ≤ k) :
    ∃ res, impl_ReadCsv.f k s = some res ∧ spec_ReadCsv.f k s = some res ∧ ((s.size > 4000 ∧ res = ([], 1, 0, 0)) ∨ (s.size ≤ 4000 ∧ parse (2 * s.data.toList.length + 1) [] [] s.data.toList = some res)) := by
  have hz : s.data.toList.length = s.size := by rw [Array.length_toList]; rfl
  unfold impl_ReadCsv.f spec_ReadCsv.f
  simp only [Option.bind_some]
  by_cases c : (s.size : Int) > 4000
  · rw [if_pos c, if_pos c]
    exact ⟨_, rfl, rfl, .inl ⟨by omega, rfl⟩⟩
  · rw [if_neg c, if_neg c]
    obtain ⟨res, p1, p2, p3, _⟩ := both_l s (by omega) (2 * s.data.toList.length) [] [] 0 k k (by omega) (by unfold todo; rw [List.drop_zero, if_pos rfl]; omega) (by omega) (by omega) (by simp; omega) (by simp; omega)
    rw [List.drop_zero] at p1
    exact ⟨res, p2, p3 rfl, .inr ⟨by omega, p1⟩⟩

theorem laws_eqStringS_l (l : List ByteArray) (hs : l.length ≤ 1048577) (d : Nat) : ∀ (k i : Nat), i ≤ l.length → l.length - i = d → d < k → laws_eqStringS.l0 k l l (i : Int) = some true := by
  induction d with
  | zero =>
    intro k i hi hd hk
    obtain ⟨k, rfl⟩ : ∃ m, k = m + 1 := ⟨k - 1, by omega⟩
    simp only [laws_eqStringS.l0]
    rw [if_neg (by omega)]
  | succ d ih =>
    intro k i hi hd hk
    obtain ⟨k, rfl⟩ : ∃ m, k = m + 1 := ⟨k - 1, by omega⟩
    simp only [laws_eqStringS.l0]
    rw [if_pos (by omega), if_pos (by omega), if_pos (by omega), if_pos trivial, w64_id (by omega) (by omega)]
    exact ih k (i + 1) (by omega) (by omega) (by omega)
theorem laws_eqStringS_self (l : List ByteArray) (hs : l.length ≤ 1048577) (k : Nat) (hk : l.length < k) : laws_eqStringS.f k l l = some true := by
  unfold laws_eqStringS.f
  rw [if_pos rfl]
  exact laws_eqStringS_l l hs l.length k 0 (by omega) (by omega) hk

theorem rd_L1_at (l : List (List ByteArray)) (i : Nat) (h : i < l.length) : rd_L1 l (i : Int) = l[i] := by
  unfold rd_L1; simp [List.getD, h]

theorem laws_eqStringSS_l (l : List (List ByteArray)) (hl : l.length ≤ 1048576) (hs : ∀ q ∈ l, q.length ≤ 1048576) (d : Nat) : ∀ (k i : Nat), i ≤ l.length → l.length - i = d → d + 1048577 < k → laws_eqStringSS.l0 k l l (i : Int) = some true := by
  induction d with
  | zero =>
    intro k i hi hd hk
    obtain ⟨k, rfl⟩ : ∃ m, k = m + 1 := ⟨k - 1, by omega⟩
    simp only [laws_eqStringSS.l0]
    rw [if_neg (by omega)]
  | succ d ih =>
    intro k i hi hd hk
    obtain ⟨k, rfl⟩ : ∃ m, k = m + 1 := ⟨k - 1, by omega⟩
    have hlt : i < l.length := by omega
    have hz := hs l[i] (List.getElem_mem hlt)
    simp only [laws_eqStringSS.l0]
    rw [if_pos (by omega), if_pos (by omega), if_pos (by omega), rd_L1_at l i hlt, laws_eqStringS_self l[i] (by omega) k (by omega)]
    simp only [Option.bind_some, if_true]
    rw [w64_id (n := (i : Int) + 1) (by omega) (by omega)]
    exact ih k (i + 1) (by omega) (by omega) (by omega)
theorem laws_eqStringSS_self (l : List (List ByteArray)) (hl : l.length ≤ 1048576) (hs : ∀ q ∈ l, q.length ≤ 1048576) (k : Nat) (hk : 2097155 ≤ k) : laws_eqStringSS.f k l l = some true := by
  unfold laws_eqStringSS.f
  rw [if_pos rfl]
  exact laws_eqStringSS_l l hl hs l.length k 0 (by omega) (by omega) (by omega)

/-- The decimal digits of a number, none for 0. -/
def digs (u : Nat) : List UInt8 := if u = 0 then [] else Go.Lib.decDigits u
theorem digs_step {u : Nat} (h : u ≠ 0) : digs u = digs (u / 10) ++ [UInt8.ofNat (48 + u % 10)] := by
  unfold digs
  rw [if_neg h]
  by_cases c : u < 10
  · rw [Go.Lib.decDigits_one c, if_pos (by omega)]
    have : u % 10 = u := Nat.mod_eq_of_lt c
    rw [this]; rfl
  · rw [Go.Lib.decDigits, dif_neg c, if_neg (by omega)]
theorem byte_of (n : Nat) (h : n < 10) : strOfNums [(wrap64 (48 + (n : Int))) % 256] = ⟨#[UInt8.ofNat (48 + n)]⟩ := by
  have e : (wrap64 (48 + (n : Int))) % 256 = ((48 + n : Nat) : Int) := by unfold wrap64; omega
  rw [e]
  rfl
theorem mk_app (a b : List UInt8) : (⟨a.toArray⟩ : ByteArray) ++ ⟨b.toArray⟩ = ⟨(a ++ b).toArray⟩ := by
  apply ByteArray.ext
  simp

/-- A mark's text. -/
def mkT (x : Int) : ByteArray := ⟨(109 :: digs x.natAbs).toArray⟩
theorem mk_sz (l : List UInt8) : (⟨l.toArray⟩ : ByteArray).size = l.length := by simp [ByteArray.size]
theorem laws_markText_l (d : Nat) : ∀ (k : Nat) (n : Nat) (acc : List UInt8), n < 10 ^ d → d < k → d + acc.length ≤ 40 → n ≤ 9223372036854775807 →
    laws_markText.l0 k (n : Int) ⟨acc.toArray⟩ = some ⟨(109 :: (digs n ++ acc)).toArray⟩ := by
  induction d with
  | zero =>
    intro k n acc h0 hk ha _
    obtain ⟨k, rfl⟩ : ∃ m, k = m + 1 := ⟨k - 1, by omega⟩
    have hn : n = 0 := by simpa using h0
    subst hn
    simp only [laws_markText.l0]
    rw [if_neg (by omega), mk_sz, if_pos (by omega)]
    have := mk_app [109] acc
    exact congrArg some (this.trans (by simp [digs]))
  | succ d ih =>
    intro k n acc h0 hk ha b1
    obtain ⟨k, rfl⟩ : ∃ m, k = m + 1 := ⟨k - 1, by omega⟩
    by_cases hn : n = 0
    · subst hn
      simp only [laws_markText.l0]
      rw [if_neg (by omega), mk_sz, if_pos (by omega)]
      have := mk_app [109] acc
      exact congrArg some (this.trans (by simp [digs]))
    · simp only [laws_markText.l0]
      rw [if_pos (by omega)]
      have q : n / 10 < 10 ^ d := by rw [Nat.pow_succ] at h0; omega
      have v3 := w64_id (n := ((n / 10 : Nat) : Int)) (by omega) (by omega)
      have hm : n % 10 < 10 := by omega
      have q2 : n / 10 ≤ 9223372036854775807 := by omega
      have e1 : Int.tdiv (n : Int) 10 = ((n / 10 : Nat) : Int) := (Int.ofNat_tdiv n 10).symm
      have e2 : Int.tmod (n : Int) 10 = ((n % 10 : Nat) : Int) := (Int.ofNat_tmod n 10).symm
      rw [e1, e2, v3]
      clear e1 e2 v3
      simp only [Option.bind_some]
      rw [byte_of _ hm]
      have e3 : (⟨#[UInt8.ofNat (48 + n % 10)]⟩ : ByteArray).size = 1 := rfl
      have e4 : (⟨#[UInt8.ofNat (48 + n % 10)]⟩ : ByteArray) ++ ⟨acc.toArray⟩ = ⟨(UInt8.ofNat (48 + n % 10) :: acc).toArray⟩ := mk_app [UInt8.ofNat (48 + n % 10)] acc
      rw [e3, mk_sz, if_pos (by omega), e4, ih k (n / 10) _ q (by omega) (by simp only [List.length_cons]; omega) q2, digs_step hn]
      simp
theorem laws_markText_is (n : Nat) (h0 : 0 < n) (h1 : n ≤ 9223372036854775807) (k : Nat) (hk : 20 < k) : laws_markText.f k (n : Int) = some (mkT n) := by
  unfold laws_markText.f
  rw [if_neg (by omega)]
  have h := laws_markText_l 20 k n [] (by omega) hk (by decide) h1
  have e0 : (⟨#[]⟩ : ByteArray) = ⟨([] : List UInt8).toArray⟩ := rfl
  rw [e0, h]
  simp [mkT]
/-- A row whose first i places bear marks. -/
def marked (x : Nat) (l : List ByteArray) (i : Nat) : List ByteArray := (List.range i).map (fun (j : Nat) => mkT ((x + j : Nat) : Int)) ++ l.drop i
theorem marked_len (x : Nat) (l : List ByteArray) (i : Nat) (h : i ≤ l.length) : (marked x l i).length = l.length := by simp [marked]; omega
theorem marked_set (x : Nat) (l : List ByteArray) (i : Nat) (h : i < l.length) : (marked x l i).set i (mkT ((x + i : Nat) : Int)) = marked x l (i + 1) := by
  unfold marked
  rw [List.set_append_right _ _ (by simp), List.range_succ, List.map_append]
  have e : i - ((List.range i).map (fun (j : Nat) => mkT ((x + j : Nat) : Int))).length = 0 := by simp
  rw [e, List.drop_eq_getElem_cons h, List.set_cons_zero]
  simp
theorem laws_markStringS_l (l : List ByteArray) (x : Nat) (h0 : 0 < x) (hx : x + l.length ≤ 9223372036854775807) (d : Nat) : ∀ (k i : Nat), i ≤ l.length → l.length - i = d → d + 21 < k →
    laws_markStringS.l0 k (marked x l i) ((x + i : Nat) : Int) (i : Int) = some (((x + l.length : Nat) : Int), marked x l l.length) := by
  induction d with
  | zero =>
    intro k i hi hd hk
    obtain ⟨k, rfl⟩ : ∃ m, k = m + 1 := ⟨k - 1, by omega⟩
    have : i = l.length := by omega
    subst this
    simp only [laws_markStringS.l0]
    rw [marked_len _ _ _ hi, if_neg (by omega)]
  | succ d ih =>
    intro k i hi hd hk
    obtain ⟨k, rfl⟩ : ∃ m, k = m + 1 := ⟨k - 1, by omega⟩
    simp only [laws_markStringS.l0]
    rw [marked_len _ _ _ hi, if_pos (by omega), laws_markText_is (x + i) (by omega) (by omega) k (by omega)]
    simp only [Option.bind_some]
    rw [if_pos (by omega), w64_id (n := ((x + i : Nat) : Int) + 1) (by omega) (by omega), w64_id (n := (i : Int) + 1) (by omega) (by omega)]
    have e : ((i : Int)).toNat = i := by omega
    rw [e, marked_set _ _ _ (by omega)]
    exact ih k (i + 1) (by omega) (by omega) (by omega)
theorem laws_markStringS_is (l : List ByteArray) (x : Nat) (h0 : 0 < x) (hx : x + l.length ≤ 9223372036854775807) (k : Nat) (hk : l.length + 21 < k) : laws_markStringS.f k l (x : Int) = some (((x + l.length : Nat) : Int), marked x l l.length) := by
  unfold laws_markStringS.f
  have h := laws_markStringS_l l x h0 hx l.length k 0 (by omega) (by omega) hk
  simpa [marked] using h
theorem marked_get (x : Nat) (l : List ByteArray) (i : Nat) (h : i < l.length) : rdOf ByteArray.empty (marked x l l.length) (i : Int) = mkT ((x + i : Nat) : Int) := by
  unfold rdOf marked
  simp [List.getD, h]
theorem laws_heldStringS_l (l : List ByteArray) (x : Nat) (h0 : 0 < x) (hx : x + l.length ≤ 9223372036854775807) (d : Nat) : ∀ (k i : Nat), i ≤ l.length → l.length - i = d → d + 21 < k →
    laws_heldStringS.l0 k (marked x l l.length) ((x + i : Nat) : Int) (i : Int) = some ((x + l.length : Nat) : Int) := by
  induction d with
  | zero =>
    intro k i hi hd hk
    obtain ⟨k, rfl⟩ : ∃ m, k = m + 1 := ⟨k - 1, by omega⟩
    have : i = l.length := by omega
    subst this
    simp only [laws_heldStringS.l0]
    rw [marked_len _ _ _ hi, if_neg (by omega)]
  | succ d ih =>
    intro k i hi hd hk
    obtain ⟨k, rfl⟩ : ∃ m, k = m + 1 := ⟨k - 1, by omega⟩
    simp only [laws_heldStringS.l0]
    rw [marked_len _ _ _ (Nat.le_refl _), if_pos (by omega), if_pos (by omega), laws_markText_is (x + i) (by omega) (by omega) k (by omega)]
    simp only [Option.bind_some]
    rw [marked_get _ _ _ (by omega), if_pos rfl, w64_id (n := ((x + i : Nat) : Int) + 1) (by omega) (by omega), w64_id (n := (i : Int) + 1) (by omega) (by omega)]
    exact ih k (i + 1) (by omega) (by omega) (by omega)
theorem laws_heldStringS_is (l : List ByteArray) (x : Nat) (h0 : 0 < x) (hx : x + l.length ≤ 9223372036854775807) (k : Nat) (hk : l.length + 21 < k) : laws_heldStringS.f k (marked x l l.length) (x : Int) = some ((x + l.length : Nat) : Int) := by
  unfold laws_heldStringS.f
  exact laws_heldStringS_l l x h0 hx l.length k 0 (by omega) (by omega) hk

/-- How many places rows have. -/
def lens (l : List (List ByteArray)) : Nat := (l.map List.length).sum
def markR (x : Nat) : List (List ByteArray) → List (List ByteArray)
  | [] => []
  | r :: t => marked x r r.length :: markR (x + r.length) t
theorem rd_mid (a : List (List ByteArray)) (r : List ByteArray) (t : List (List ByteArray)) : rd_L1 (a ++ r :: t) (a.length : Int) = r := by
  unfold rd_L1
  rw [Int.toNat_natCast, List.getD_eq_getElem?_getD, List.getElem?_append_right (Nat.le_refl _), Nat.sub_self]
  rfl
theorem laws_markStringSS_l (t : List (List ByteArray)) : ∀ (a : List (List ByteArray)) (x k : Nat), 0 < x → x + lens t ≤ 1000000 → a.length + t.length ≤ 1000000 → t.length + lens t + 30 ≤ k →
    laws_markStringSS.l0 k (a ++ t) (x : Int) (a.length : Int) = some (((x + lens t : Nat) : Int), a ++ markR x t) := by
  induction t with
  | nil =>
    intro a x k h0 hx ha hk
    obtain ⟨k, rfl⟩ : ∃ m, k = m + 1 := ⟨k - 1, by omega⟩
    simp only [laws_markStringSS.l0]
    rw [List.append_nil, if_neg (by omega)]
    simp [markR, lens]
  | cons r t ih =>
    intro a x k h0 hx ha hk
    obtain ⟨k, rfl⟩ : ∃ m, k = m + 1 := ⟨k - 1, by omega⟩
    have el : lens (r :: t) = r.length + lens t := by simp [lens]
    rw [el] at hx hk ⊢
    simp only [List.length_cons] at ha hk
    have hlt : (a.length : Int) < ((a ++ r :: t).length : Int) := by rw [List.length_append, List.length_cons]; omega
    simp only [laws_markStringSS.l0]
    rw [if_pos hlt, if_pos (by omega), rd_mid, laws_markStringS_is r x h0 (by omega) k (by omega)]
    simp only [Option.bind_some]
    have w := w64_id (n := (a.length : Int) + 1) (by omega) (by omega)
    have e1 : (a ++ r :: t).set (a.length : Int).toNat (marked x r r.length) = (a ++ [marked x r r.length]) ++ t := by
      rw [Int.toNat_natCast, List.set_append_right _ _ (Nat.le_refl _), Nat.sub_self, List.set_cons_zero, List.append_assoc]
      rfl
    have e2 : (a.length : Int) + 1 = ((a ++ [marked x r r.length]).length : Int) := by rw [List.length_append, List.length_singleton]; rfl
    rw [w, e1, e2, ih (a ++ [marked x r r.length]) (x + r.length) k (by omega) (by omega) (by rw [List.length_append, List.length_singleton]; omega) (by omega), Nat.add_assoc, List.append_assoc]
    rfl
theorem laws_markStringSS_is (t : List (List ByteArray)) (x k : Nat) (h0 : 0 < x) (hx : x + lens t ≤ 1000000) (ha : t.length ≤ 1000000) (hk : t.length + lens t + 30 ≤ k) :
    laws_markStringSS.f k t (x : Int) = some (((x + lens t : Nat) : Int), markR x t) := by
  unfold laws_markStringSS.f
  have := laws_markStringSS_l t [] x k h0 hx (by simpa using ha) hk
  simpa using this
theorem markR_len (t : List (List ByteArray)) : ∀ x, (markR x t).length = t.length := by
  induction t with
  | nil => intro x; rfl
  | cons r t ih => intro x; simp only [markR, List.length_cons, ih]
theorem laws_heldStringSS_l (t : List (List ByteArray)) : ∀ (a : List (List ByteArray)) (x k : Nat), 0 < x → x + lens t ≤ 1000000 → a.length + t.length ≤ 1000000 → t.length + lens t + 30 ≤ k →
    laws_heldStringSS.l0 k (a ++ markR x t) (x : Int) (a.length : Int) = some ((x + lens t : Nat) : Int) := by
  induction t with
  | nil =>
    intro a x k h0 hx ha hk
    obtain ⟨k, rfl⟩ : ∃ m, k = m + 1 := ⟨k - 1, by omega⟩
    rw [show markR x [] = [] from rfl, List.append_nil]
    simp only [laws_heldStringSS.l0]
    rw [if_neg (by omega)]
    simp [lens]
  | cons r t ih =>
    intro a x k h0 hx ha hk
    obtain ⟨k, rfl⟩ : ∃ m, k = m + 1 := ⟨k - 1, by omega⟩
    have el : lens (r :: t) = r.length + lens t := by simp [lens]
    rw [el] at hx hk ⊢
    simp only [List.length_cons] at ha hk
    have hlt : (a.length : Int) < ((a ++ marked x r r.length :: markR (x + r.length) t).length : Int) := by rw [List.length_append, List.length_cons]; omega
    rw [show markR x (r :: t) = marked x r r.length :: markR (x + r.length) t from rfl]
    simp only [laws_heldStringSS.l0]
    rw [if_pos hlt, if_pos (by omega), rd_mid, laws_heldStringS_is r x h0 (by omega) k (by omega)]
    simp only [Option.bind_some]
    have w := w64_id (n := (a.length : Int) + 1) (by omega) (by omega)
    have e1 : a ++ marked x r r.length :: markR (x + r.length) t = (a ++ [marked x r r.length]) ++ markR (x + r.length) t := by rw [List.append_assoc]; rfl
    have e2 : (a.length : Int) + 1 = ((a ++ [marked x r r.length]).length : Int) := by rw [List.length_append, List.length_singleton]; rfl
    rw [if_neg (by omega), w, e1, e2, ih (a ++ [marked x r r.length]) (x + r.length) k (by omega) (by omega) (by rw [List.length_append, List.length_singleton]; omega) (by omega), Nat.add_assoc]
theorem laws_heldStringSS_is (t : List (List ByteArray)) (x k : Nat) (h0 : 0 < x) (hx : x + lens t ≤ 1000000) (ha : t.length ≤ 1000000) (hk : t.length + lens t + 30 ≤ k) :
    laws_heldStringSS.f k (markR x t) (x : Int) = some ((x + lens t : Nat) : Int) := by
  unfold laws_heldStringSS.f
  have := laws_heldStringSS_l t [] x k h0 hx (by simpa using ha) hk
  simpa using this

theorem parse_size (m : Nat) : ∀ (rows : List (List ByteArray)) (row : List ByteArray) (l : List UInt8) (R : List (List ByteArray)) (a b c : Int), parse m rows row l = some (R, a, b, c) →
    R.length ≤ rows.length + m ∧ (R.map List.length).sum ≤ (rows.map List.length).sum + row.length + m := by
  induction m with
  | zero => intro rows row l R a b c h; simp only [parse] at h; cases h
  | succ m ih =>
    intro rows row l R a b c h
    unfold parse at h
    by_cases hE : (l.isEmpty && row.isEmpty) = true
    · rw [if_pos hE] at h
      simp only [Option.some.injEq, Prod.mk.injEq] at h
      obtain ⟨rfl, _⟩ := h
      exact ⟨by omega, by omega⟩
    · rw [if_neg hE] at h
      cases hs : stepP l with
      | none =>
        rw [hs] at h
        simp only [Option.some.injEq, Prod.mk.injEq] at h
        obtain ⟨rfl, _⟩ := h
        exact ⟨by simp, by simp⟩
      | some q =>
        obtain ⟨f, e, t⟩ := q
        rw [hs] at h
        cases e
        · have := ih _ _ _ _ _ _ _ h
          rw [List.length_append, List.length_singleton] at this
          exact ⟨by omega, by omega⟩
        · have := ih _ _ _ _ _ _ _ h
          rw [List.length_append, List.length_singleton, List.map_append, List.sum_append] at this
          simp only [List.map_cons, List.map_nil, List.sum_cons, List.sum_nil, List.length_append, List.length_singleton, List.length_nil] at this
          exact ⟨by omega, by omega⟩
theorem len_mem_sum {l : List (List ByteArray)} {q : List ByteArray} (h : q ∈ l) : q.length ≤ (l.map List.length).sum := by
  induction l with
  | nil => simp at h
  | cons a t ih =>
    simp only [List.map_cons, List.sum_cons]
    rcases List.mem_cons.1 h with rfl | h'
    · omega
    · have := ih h'; omega

theorem FnExactReadCsv (a : ByteArray) (_ : a.size ≤ 140737488351232) : ∃ k, laws_FnExactReadCsv.f k a = some true := by
  refine ⟨4194304, ?_⟩
  obtain ⟨⟨L, f1, f2, f3⟩, h1, h2, h3⟩ := ReadCsv_both a 4194304 (by omega)
  have hz : a.data.toList.length = a.size := by rw [Array.length_toList]; rfl
  have hb : L.length ≤ 10000 ∧ lens L ≤ 10000 := by
    rcases h3 with ⟨_, e⟩ | ⟨hs, e⟩
    · simp only [Prod.mk.injEq] at e
      rw [e.1]
      exact ⟨by simp, by simp [lens]⟩
    · have := parse_size _ _ _ _ _ _ _ _ e
      simp only [List.length_nil, List.map_nil, List.sum_nil] at this
      unfold lens
      exact ⟨by omega, by omega⟩
  have hq : ∀ q ∈ L, q.length ≤ 1048576 := fun q h => by have := len_mem_sum h; have h5 := hb.2; unfold lens at h5; omega
  have t1 := laws_eqStringSS_self L (by omega) hq 4194304 (by omega)
  have t2 := laws_markStringSS_is L 1 4194304 (by omega) (by omega) (by omega) (by omega)
  have t3 := laws_heldStringSS_is L 1 4194304 (by omega) (by omega) (by omega) (by omega)
  unfold laws_FnExactReadCsv.f
  generalize (4194304 : Nat) = K at *
  by_cases c : (a.size : Int) > 1048576
  · rw [if_pos c]
  · rw [if_neg c, h2]
    have e1 : ((1 : Nat) : Int) = 1 := rfl
    rw [e1] at t2 t3
    simp only [Option.bind_some]
    rw [t2]
    simp only [Option.bind_some]
    rw [if_pos ⟨h1, t1, by unfold laws_eqFault.f; simp, t3, by omega⟩]

end Go.Proofs.Ytcbiijfiecjcaaa.Pure
