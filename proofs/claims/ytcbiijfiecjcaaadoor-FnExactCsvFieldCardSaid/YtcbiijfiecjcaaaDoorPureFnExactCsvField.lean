/- A field as text: program and reference give the same bytes. Conditions: each number is one of its kind, as the row says. -/
import Derived.Test.YtcbiijfiecjcaaaDoorPFnExactCsvFieldx
import Derived.Test.YtcbiijfiecjcaaaDoorBase
set_option linter.unusedSimpArgs false
set_option linter.unusedVariables false
namespace Go.Proofs.YtcbiijfiecjcaaaDoor.Pure
open Go.RowKit Go.Proofs.YtcbiijfiecjcaaaDoor.Base Go.Proofs.YtcbiijfiecjcaaaDoor.PFnExactCsvField Go.Proofs.YtcbiijfiecjcaaaDoorW.PrintWords Go.Proofs.YtcbiijfiecjcaaaDoorW.PrintLast Go.Proofs.YtcbiijfiecjcaaaDoorW.PrintMore

theorem bt_nat (s : ByteArray) (i : Nat) (h : i < s.data.toList.length) : bt s (i : Int) = ((s.data.toList[i]).toNat : Int) := by
  have h' : i < s.size := by rw [Array.length_toList] at h; exact h
  have e := bt_at s (i : Int) (by simpa using h')
  rw [← e]
  simp
  rfl

/-- A text as the numbers of its bytes. -/
def nums' (l : List UInt8) : List Int := l.map (fun b => ((b.toNat : Nat) : Int))
theorem nums'_str (l : List UInt8) : strOfNums (nums' l) = ⟨l.toArray⟩ := by
  unfold strOfNums nums'
  rw [List.map_map]
  congr 1
  have : (l.map ((fun x : Int => x.toNat.toUInt8) ∘ fun b : UInt8 => ((b.toNat : Nat) : Int))) = l.map id := by
    apply List.map_congr_left
    intro b _
    simp
  first
  | rw [this, List.map_id]
  | (simp)
theorem nums'_app (a b : List UInt8) : nums' (a ++ b) = nums' a ++ nums' b := by unfold nums'; rw [List.map_append]
theorem nums'_len (a : List UInt8) : (nums' a).length = a.length := by unfold nums'; rw [List.length_map]
/-- Quotes doubled. -/
def esc : List UInt8 → List UInt8
  | [] => []
  | b :: l => if b = 34 then 34 :: 34 :: esc l else b :: esc l
theorem esc_cons (b : UInt8) (l : List UInt8) : esc (b :: l) = if b = 34 then 34 :: 34 :: esc l else b :: esc l := rfl
def spc (b : UInt8) : Bool := b == 44 || b == 34 || b == 10 || b == 13
/-- A field as text. -/
def csvF (l : List UInt8) : List UInt8 := if l.any spc = true then 34 :: (esc l ++ [34]) else l
theorem esc_len : ∀ l : List UInt8, (esc l).length ≤ 2 * l.length
  | [] => by simp [esc]
  | b :: l => by
    have := esc_len l
    rw [esc_cons]
    split <;> simp only [List.length_cons] <;> omega
theorem esc_app : ∀ a b : List UInt8, esc (a ++ b) = esc a ++ esc b
  | [], _ => rfl
  | x :: a, b => by
    have ih := esc_app a b
    rw [List.cons_append, esc_cons, esc_cons]
    by_cases c : x = 34
    · rw [if_pos c, if_pos c, ih]; rfl
    · rw [if_neg c, if_neg c, ih]; rfl
theorem csvF_len (l : List UInt8) : (csvF l).length ≤ 2 * l.length + 2 := by
  unfold csvF
  have := esc_len l
  split
  · simp only [List.length_cons, List.length_append, List.length_nil]; omega
  · omega
theorem byte_eq (b : UInt8) (n : Nat) (hn : n < 256) : (((b.toNat : Nat) : Int) = (n : Int)) ↔ b = UInt8.ofNat n := by
  constructor
  · intro h
    have h' : b.toNat = n := by omega
    rw [← h', UInt8.ofNat_toNat]
  · intro h
    rw [h, UInt8.toNat_ofNat_of_lt' (by simpa using hn)]

theorem idx_34 (b : UInt8) (l : List UInt8) : Lib.index (b :: l) [34] = if b = 34 then 0 else if Lib.index l [34] = -1 then -1 else Lib.index l [34] + 1 := by
  rw [Lib.index_one, Lib.index_one, Lib.indexByte]
  by_cases c : b = 34
  · subst c; simp
  · have h : (b == 34) = false := by simpa using c
    rw [h, if_neg c]
    simp
theorem replaceK_esc : ∀ l : List UInt8, Lib.replaceK [34] [34, 34] (Lib.count l [34]) l = esc l
  | [] => by
    have : Lib.index ([] : List UInt8) [34] = -1 := rfl
    rw [Lib.count_miss this]; rfl
  | b :: l => by
    have ih := replaceK_esc l
    have hi := idx_34 b l
    by_cases c : b = 34
    · subst c
      rw [if_pos rfl] at hi
      rw [Lib.count_cons_eq, Nat.add_comm 1, Lib.replaceK_hit _ _ _ _ 0 hi]
      show [] ++ [34, 34] ++ Lib.replaceK [34] [34, 34] (Lib.count l [34]) l = _
      rw [ih, esc_cons, if_pos rfl]
      rfl
    · rw [if_neg c] at hi
      rw [Lib.count_cons_ne b 34 l c]
      rw [esc_cons, if_neg c, ← ih]
      by_cases m : Lib.index l [34] = -1
      · rw [Lib.count_miss m]; rfl
      · rw [if_neg m] at hi
        have hge := Lib.index_ge l [34]
        obtain ⟨i, hi2⟩ : ∃ i : Nat, Lib.index l [34] = i := ⟨(Lib.index l [34]).toNat, by omega⟩
        rw [hi2] at hi
        have hc := Lib.count_hit (s := l) (sub := [34]) (i := i) (by simp) hi2
        rw [hc, Nat.add_comm 1, Lib.replaceK_hit _ _ _ _ (i + 1) (by rw [hi]; rfl), Lib.replaceK_hit _ _ _ _ i hi2]
        rw [List.take_succ_cons, show i + 1 + ([34] : List UInt8).length = (i + ([34] : List UInt8).length) + 1 from by simp, List.drop_succ_cons]
        rfl
theorem replaceAll_esc (l : List UInt8) : Lib.replaceAll l [34] [34, 34] = esc l := by
  unfold Lib.replaceAll Lib.replace Lib.replaceNum
  rw [if_neg (by decide), if_pos (Or.inl (by decide))]
  exact replaceK_esc l
theorem spc_contains (b : UInt8) : ([44, 34, 10, 13] : List UInt8).contains b = spc b := by
  unfold spc
  simp only [List.contains_cons, List.contains_nil, Bool.or_false, Bool.or_assoc]
theorem containsAny_spc : ∀ l : List UInt8, Lib.containsAny l [44, 34, 10, 13] = l.any spc
  | [] => rfl
  | b :: l => by
    have ih := containsAny_spc l
    unfold Lib.containsAny at ih ⊢
    have hge := Lib.indexAny_ge [44, 34, 10, 13] l
    rw [Lib.indexAny, spc_contains, List.any_cons, ← ih]
    cases spc b
    · simp only [Bool.false_eq_true, if_false, Bool.false_or]
      by_cases m : Lib.indexAny l [44, 34, 10, 13] = -1
      · rw [m]; rfl
      · rw [if_neg (by simpa using m)]
        exact decide_eq_decide.2 (by omega)
    · rfl
theorem impl_CsvField_is (a : ByteArray) (h : a.size ≤ 1048576) : impl_CsvField.f a = some ⟨(csvF a.data.toList).toArray⟩ := by
  have hz : a.data.toList.length = a.size := by rw [Array.length_toList]; rfl
  have hl := esc_len a.data.toList
  have hb := Lib.countB_le ⟨#[34]⟩ (by decide) a.size a (Nat.le_refl _)
  unfold impl_CsvField.f strings_ContainsAny.f strings_ReplaceAll.f
  have c2 : a.size < 4294967281 ∧ 1 ≤ (⟨#[34]⟩ : ByteArray).size ∧ a.size + Lib.countB a ⟨#[34]⟩ * (⟨#[34, 34]⟩ : ByteArray).size ≤ 140737488355328 := ⟨by omega, by decide, by
    have e : (⟨#[34, 34]⟩ : ByteArray).size = 2 := rfl
    rw [e]; omega⟩
  rw [if_pos ⟨rfl, by omega⟩, if_pos c2, containsAny_spc]
  simp only [Option.bind_some]
  have er : Lib.replaceAll a.data.toList (⟨#[34]⟩ : ByteArray).data.toList (⟨#[34, 34]⟩ : ByteArray).data.toList = esc a.data.toList := replaceAll_esc _
  rw [er]
  unfold csvF
  cases a.data.toList.any spc
  · rfl
  · have e1 : (⟨(esc a.data.toList).toArray⟩ : ByteArray).size = (esc a.data.toList).length := by
      show (esc a.data.toList).toArray.size = _
      simp
    rw [if_pos rfl, if_pos rfl, if_pos (by rw [e1]; omega), if_pos (by rw [ByteArray.size_append, e1]; have : (⟨#[34]⟩ : ByteArray).size = 1 := rfl; omega)]
    congr 1

theorem spec_CsvField_one (a : ByteArray) (h : a.size ≤ 1048576) (q : Bool) (o : List UInt8) (i k : Nat) (hi : i < a.data.toList.length) (ho : o.length ≤ 2 * i + 1) :
    spec_CsvField.l0 (k + 1) a q (nums' o) (i : Int) = spec_CsvField.l0 k a (q || spc a.data.toList[i]) (nums' (o ++ esc [a.data.toList[i]])) ((i + 1 : Nat) : Int) := by
  have hz : a.data.toList.length = a.size := by rw [Array.length_toList]; rfl
  have hb := bt_nat a i hi
  generalize a.data.toList[i] = b at hb
  have l1 : (nums' o).length < 140737488355328 := by rw [nums'_len]; omega
  have l2 : (nums' o ++ [((b.toNat : Nat) : Int)]).length < 140737488355328 := by rw [List.length_append, nums'_len, List.length_singleton]; omega
  have e1 : nums' o ++ [((b.toNat : Nat) : Int)] = nums' (o ++ [b]) := by rw [nums'_app]; rfl
  have w := w64_id (n := (i : Int) + 1) (by omega) (by omega)
  simp only [spec_CsvField.l0]
  rw [if_pos (by omega), hb, w, e1]
  rw [e1] at l2
  simp only [Option.bind_some]
  rw [if_pos (show (0 : Int) ≤ (i : Int) by omega), if_pos l1, if_pos l1, if_pos l2]
  have e2 : nums' (o ++ [b]) ++ [34] = nums' (o ++ [b] ++ [34]) := by rw [nums'_app (o ++ [b])]; rfl
  rw [e2]
  have k34 := byte_eq b 34 (by omega)
  have k44 := byte_eq b 44 (by omega)
  have k10 := byte_eq b 10 (by omega)
  have k13 := byte_eq b 13 (by omega)
  rw [show ((34 : Nat) : Int) = 34 from rfl, show (UInt8.ofNat 34) = 34 from rfl] at k34
  rw [show ((44 : Nat) : Int) = 44 from rfl, show (UInt8.ofNat 44) = 44 from rfl] at k44
  rw [show ((10 : Nat) : Int) = 10 from rfl, show (UInt8.ofNat 10) = 10 from rfl] at k10
  rw [show ((13 : Nat) : Int) = 13 from rfl, show (UInt8.ofNat 13) = 13 from rfl] at k13
  have en : ((i : Int) + 1) = ((i + 1 : Nat) : Int) := rfl
  rw [en]
  by_cases c34 : b = 34
  · have s : spc b = true := by rw [c34]; rfl
    have es : esc [b] = [b, 34] := by rw [c34]; rfl
    have e3 : o ++ [b] ++ [34] = o ++ [b, 34] := by rw [List.append_assoc]; rfl
    have n44 : ¬ ((b.toNat : Nat) : Int) = 44 := fun e => by rw [k44.1 e] at c34; exact absurd c34 (by decide)
    have t34 := eq_true (k34.2 c34)
    have f44 := eq_false n44
    have t0 : ((0 : Int) ≤ (i : Int)) = True := eq_true (by omega)
    simp only [t34, f44, t0, if_true, if_false]
    rw [s, Bool.or_true, es, e3]
    cases q
    · rw [if_neg (by decide)]
    · rw [if_pos rfl]
  · have es : esc [b] = [b] := by rw [esc_cons, if_neg c34]; rfl
    have n34 : ¬ ((b.toNat : Nat) : Int) = 34 := fun e => c34 (k34.1 e)
    have f34 := eq_false n34
    have t0 : ((0 : Int) ≤ (i : Int)) = True := eq_true (by omega)
    simp only [f34, t0, if_true, if_false]
    rw [es]
    cases q
    · rw [if_neg (by decide), Bool.false_or]
      by_cases c44 : b = 44
      · rw [if_pos (k44.2 c44), show spc b = true by rw [c44]; rfl]
      · rw [if_neg (fun e => c44 (k44.1 e))]
        by_cases c10 : b = 10
        · rw [if_pos (k10.2 c10), if_pos l1, show spc b = true by rw [c10]; rfl]
        · rw [if_neg (fun e => c10 (k10.1 e)), if_pos l1]
          congr 1
          unfold spc
          have a1 : (b == 44) = false := by simpa using c44
          have a2 : (b == 34) = false := by simpa using c34
          have a3 : (b == 10) = false := by simpa using c10
          rw [a1, a2, a3]
          simp only [Bool.false_or]
          by_cases c13 : b = 13
          · rw [c13]; rfl
          · have a4 : (b == 13) = false := by simpa using c13
            rw [a4]
            exact beq_eq_false_iff_ne.2 (fun e => c13 (k13.1 e))
    · rw [if_pos rfl, Bool.true_or]
theorem spec_CsvField_l (a : ByteArray) (h : a.size ≤ 1048576) (d : Nat) : ∀ (k i : Nat) (q : Bool) (o : List UInt8), i ≤ a.data.toList.length → a.data.toList.length - i = d → d < k → o.length ≤ 2 * i + 1 →
    spec_CsvField.l0 k a q (nums' o) (i : Int) = some (if (q || (a.data.toList.drop i).any spc) = true then ⟨(o ++ esc (a.data.toList.drop i) ++ [34]).toArray⟩ else a) := by
  have hz : a.data.toList.length = a.size := by rw [Array.length_toList]; rfl
  induction d with
  | zero =>
    intro k i q o hi hd hk ho
    obtain ⟨k, rfl⟩ : ∃ m, k = m + 1 := ⟨k - 1, by omega⟩
    simp only [spec_CsvField.l0]
    rw [if_neg (by omega), List.drop_eq_nil_of_le (by omega)]
    have e : nums' o ++ [34] = nums' (o ++ [34]) := by rw [nums'_app]; rfl
    cases q
    · rw [if_neg (by decide), if_neg (by decide)]
    · rw [if_pos rfl, if_pos (by rw [nums'_len]; omega), e, nums'_str]
      show _ = some (⟨(o ++ [] ++ [34]).toArray⟩ : ByteArray)
      rw [List.append_nil]
  | succ d ih =>
    intro k i q o hi hd hk ho
    obtain ⟨k, rfl⟩ : ∃ m, k = m + 1 := ⟨k - 1, by omega⟩
    have hlt : i < a.data.toList.length := by omega
    have hel := esc_len [a.data.toList[i]]
    rw [spec_CsvField_one a h q o i k hlt ho, ih k (i + 1) _ _ (by omega) (by omega) (by omega) (by rw [List.length_append]; simp only [List.length_cons, List.length_nil] at hel; omega)]
    have hdr : a.data.toList.drop i = [a.data.toList[i]] ++ a.data.toList.drop (i + 1) := List.drop_eq_getElem_cons hlt
    rw [hdr, esc_app, List.any_append, ← List.append_assoc]
    have e : [a.data.toList[i]].any spc = spc a.data.toList[i] := by simp
    rw [e, Bool.or_assoc]
theorem spec_CsvField_is (a : ByteArray) (h : a.size ≤ 1048576) (k : Nat) (hk : a.size < k) : spec_CsvField.f k a = some ⟨(csvF a.data.toList).toArray⟩ := by
  have hz : a.data.toList.length = a.size := by rw [Array.length_toList]; rfl
  unfold spec_CsvField.f
  have := spec_CsvField_l a h a.data.toList.length k 0 false [34] (by omega) (by omega) (by omega) (by simp)
  rw [show nums' [34] = [34] from rfl, show ((0 : Nat) : Int) = 0 from rfl, List.drop_zero, Bool.false_or] at this
  rw [this]
  unfold csvF
  cases a.data.toList.any spc
  · rfl
  · rfl

theorem FnExactCsvField : laws_FnExactCsvField.Pure := by
  intro a ha
  refine ⟨1048577, ?_⟩
  unfold laws_FnExactCsvField.f
  by_cases c : (a.size : Int) > 1048576
  · rw [if_pos c]
  · rw [if_neg c, spec_CsvField_is a (by omega) 1048577 (by omega), impl_CsvField_is a (by omega)]
    simp

end Go.Proofs.YtcbiijfiecjcaaaDoor.Pure
