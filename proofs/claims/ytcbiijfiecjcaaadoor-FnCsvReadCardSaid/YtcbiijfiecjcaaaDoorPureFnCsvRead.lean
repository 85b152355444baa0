/- What is read and written again is read as what it was, or is too long; a fault stands within the text, and program and reference tell the same. Conditions: each number is one of its kind, as the row says. -/
import Derived.Test.YtcbiijfiecjcaaaDoorPFnCsvReadx
import Derived.Test.YtcbiijfiecjcaaaDoorBase
set_option linter.unusedSimpArgs false
set_option linter.unusedVariables false
namespace Go.Proofs.YtcbiijfiecjcaaaDoor.Pure
open Go.RowKit Go.Proofs.YtcbiijfiecjcaaaDoor.Base Go.Proofs.YtcbiijfiecjcaaaDoor.PFnCsvRead Go.Proofs.YtcbiijfiecjcaaaDoorVFnCsvRead.PrintWords Go.Proofs.YtcbiijfiecjcaaaDoorVFnCsvRead.PrintLast Go.Proofs.YtcbiijfiecjcaaaDoorVFnCsvRead.PrintMore

theorem laws_big_eq (b : List Int) : laws_big.f b = some (decide ((b.length : Int) > 1048576)) := by
  unfold laws_big.f; rfl

theorem l1Byte_some (b : List Int) (hb : b.length ≤ 140737488351232) (i h : Int) (hi : 0 ≤ i) : ∃ x i' h', spec_l1Byte.f b i h = some (x, i', h') ∧ 0 ≤ x ∧ x ≤ 255 ∧ 0 ≤ i' := by
  unfold spec_l1Byte.f
  by_cases c : i < (b.length : Int)
  · rw [if_pos c, if_pos hi]
    refine ⟨_, _, _, rfl, (and255 _).1, (and255 _).2, ?_⟩
    rw [w64_id (by omega) (by omega)]; omega
  · rw [if_neg c]
    exact ⟨_, _, _, rfl, (and255 _).1, (and255 _).2, hi⟩

theorem l1Below_some (b : List Int) (hb : b.length ≤ 140737488351232) (i h n : Int) (hi : 0 ≤ i) (hn : n ≤ 4294967296) : ∃ x i' h', spec_l1Below.f b i h n = some (x, i', h') ∧ 0 ≤ x ∧ (0 < n → x < n) ∧ 0 ≤ i' := by
  unfold spec_l1Below.f
  by_cases c : n ≤ 0
  · rw [if_pos c]
    exact ⟨_, _, _, rfl, by omega, fun _ => by omega, hi⟩
  · rw [if_neg c]
    by_cases d : n ≤ 256
    · rw [if_pos d]
      obtain ⟨x, i', h', e, x0, x1, hi'⟩ := l1Byte_some b hb i h hi
      rw [e]
      simp only [Option.bind_some]
      rw [if_neg (by omega)]
      have := tmod_range (n := n) x0 (by omega)
      exact ⟨_, _, _, rfl, this.1, fun _ => this.2, hi'⟩
    · rw [if_neg d]
      obtain ⟨x, i1, h1, e1, x0, x1, hi1⟩ := l1Byte_some b hb i h hi
      obtain ⟨y, i2, h2, e2, y0, y1, hi2⟩ := l1Byte_some b hb i1 h1 hi1
      obtain ⟨z, i3, h3, e3, z0, z1, hi3⟩ := l1Byte_some b hb i2 h2 hi2
      obtain ⟨u, i4, h4, e4, u0, u1, hi4⟩ := l1Byte_some b hb i3 h3 hi3
      rw [e1]; simp only [Option.bind_some]
      rw [e2]; simp only [Option.bind_some]
      rw [e3]; simp only [Option.bind_some]
      rw [e4]; simp only [Option.bind_some]
      rw [if_neg (by omega)]
      have e : wrap64 (wrap64 (wrap64 (wrap64 (x * 16777216) + wrap64 (y * 65536)) + wrap64 (z * 256)) + u) = x * 16777216 + y * 65536 + z * 256 + u := by
        unfold wrap64; omega
      rw [e]
      have := tmod_range (x := x * 16777216 + y * 65536 + z * 256 + u) (n := n) (by omega) (by omega)
      exact ⟨_, _, _, rfl, this.1, fun _ => this.2, hi4⟩

theorem l1Pick_some (b : List Int) (hb : b.length ≤ 140737488351232) (i h : Int) (l : List ByteArray) (hi : 0 ≤ i) (h0 : 0 < l.length) (hl : l.length ≤ 4294967296) : ∃ x i' h', spec_l1Pick.f b i h l = some (x, i', h') ∧ x ∈ l ∧ 0 ≤ i' := by
  unfold spec_l1Pick.f
  obtain ⟨x, i', h', e, x0, x1, hi'⟩ := l1Below_some b hb i h (l.length : Int) hi (by omega)
  have x2 := x1 (by omega)
  rw [e]
  simp only [Option.bind_some]
  rw [if_pos x0, if_pos x2]
  refine ⟨_, _, _, rfl, ?_, hi'⟩
  have : x.toNat < l.length := by omega
  unfold rdOf
  rw [List.getD_eq_getElem?_getD, List.getElem?_eq_getElem this]
  exact List.getElem_mem this

theorem l1New_loop (b : List Int) (hb : b.length ≤ 140737488351232) (d : Nat) : ∀ (k : Nat) (x3 x4 : Int), 0 ≤ x4 → x4 ≤ b.length → (b.length : Int) - x4 = d → d < k → ∃ h, spec_l1New.l0 k b x3 x4 = some (b, 0, h) := by
  induction d with
  | zero =>
    intro k x3 x4 h0 h1 hd hk
    obtain ⟨k, rfl⟩ : ∃ m, k = m + 1 := ⟨k - 1, by omega⟩
    exact ⟨x3, by simp only [spec_l1New.l0]; rw [if_neg (by omega)]⟩
  | succ d ih =>
    intro k x3 x4 h0 h1 hd hk
    obtain ⟨k, rfl⟩ : ∃ m, k = m + 1 := ⟨k - 1, by omega⟩
    simp only [spec_l1New.l0]
    rw [if_pos (by omega)]
    by_cases c : x4 < 4000
    · rw [if_pos c, if_pos h0]
      have e : wrap64 (x4 + 1) = x4 + 1 := w64_id (by omega) (by omega)
      rw [e]
      exact ih k _ (x4 + 1) (by omega) (by omega) (by omega) (by omega)
    · rw [if_neg c]
      exact ⟨x3, rfl⟩
theorem l1New_some (b : List Int) (hb : b.length ≤ 140737488351232) (k : Nat) (hk : b.length < k) : ∃ h, spec_l1New.f k b = some (b, 0, h) := by
  unfold spec_l1New.f
  exact l1New_loop b hb b.length k _ 0 (by omega) (by omega) (by omega) hk

theorem bt_nat (s : ByteArray) (i : Nat) (h : i < s.data.toList.length) : bt s (i : Int) = ((s.data.toList[i]).toNat : Int) := by
  have h' : i < s.size := by rw [Array.length_toList] at h; exact h
  have e := bt_at s (i : Int) (by simpa using h')
  rw [← e]
  simp
  rfl

/-- A text as the numbers of its bytes. -/
def nums' (l : List UInt8) : List Int := l.map (fun b => ((b.toNat : Nat) : Int))
theorem nums'_str (l : List UInt8) : strOfNums (nums' l) = ⟨l.toArray⟩ := by
  unfold strOfNums nums'
  rw [List.map_map]
  congr 1
  have : (l.map ((fun x : Int => x.toNat.toUInt8) ∘ fun b : UInt8 => ((b.toNat : Nat) : Int))) = l.map id := by
    apply List.map_congr_left
    intro b _
    simp
  first
  | rw [this, List.map_id]
  | (simp)
theorem nums'_app (a b : List UInt8) : nums' (a ++ b) = nums' a ++ nums' b := by unfold nums'; rw [List.map_append]
theorem nums'_len (a : List UInt8) : (nums' a).length = a.length := by unfold nums'; rw [List.length_map]
/-- Quotes doubled. -/
def esc : List UInt8 → List UInt8
  | [] => []
  | b :: l => if b = 34 then 34 :: 34 :: esc l else b :: esc l
theorem esc_cons (b : UInt8) (l : List UInt8) : esc (b :: l) = if b = 34 then 34 :: 34 :: esc l else b :: esc l := rfl
def spc (b : UInt8) : Bool := b == 44 || b == 34 || b == 10 || b == 13
/-- A field as text. -/
def csvF (l : List UInt8) : List UInt8 := if l.any spc = true then 34 :: (esc l ++ [34]) else l
theorem esc_len : ∀ l : List UInt8, (esc l).length ≤ 2 * l.length
  | [] => by simp [esc]
  | b :: l => by
    have := esc_len l
    rw [esc_cons]
    split <;> simp only [List.length_cons] <;> omega
theorem esc_app : ∀ a b : List UInt8, esc (a ++ b) = esc a ++ esc b
  | [], _ => rfl
  | x :: a, b => by
    have ih := esc_app a b
    rw [List.cons_append, esc_cons, esc_cons]
    by_cases c : x = 34
    · rw [if_pos c, if_pos c, ih]; rfl
    · rw [if_neg c, if_neg c, ih]; rfl
theorem csvF_len (l : List UInt8) : (csvF l).length ≤ 2 * l.length + 2 := by
  unfold csvF
  have := esc_len l
  split
  · simp only [List.length_cons, List.length_append, List.length_nil]; omega
  · omega
theorem byte_eq (b : UInt8) (n : Nat) (hn : n < 256) : (((b.toNat : Nat) : Int) = (n : Int)) ↔ b = UInt8.ofNat n := by
  constructor
  · intro h
    have h' : b.toNat = n := by omega
    rw [← h', UInt8.ofNat_toNat]
  · intro h
    rw [h, UInt8.toNat_ofNat_of_lt' (by simpa using hn)]
def bA (l : List UInt8) : ByteArray := ⟨l.toArray⟩
theorem bA_list (l : List UInt8) : (bA l).data.toList = l := by simp [bA]
theorem bA_size (l : List UInt8) : (bA l).size = l.length := by
  show l.toArray.size = _
  simp
theorem bA_self (a : ByteArray) : bA a.data.toList = a := rfl
theorem bA_bytes (l : List UInt8) : bytesOf (bA l) = nums' l := by
  unfold bytesOf nums'
  rw [bA_list]

theorem rd_L1_at (l : List (List ByteArray)) (i : Nat) (h : i < l.length) : rd_L1 l (i : Int) = l[i] := by
  unfold rd_L1; simp [List.getD, h]

/-- What a row takes of the purse. -/
def cost (r : List ByteArray) : Nat := r.length + (r.map ByteArray.size).sum
theorem cost_mem {l : List (List ByteArray)} {r : List ByteArray} (h : r ∈ l) : cost r ≤ (l.map cost).sum := by
  induction l with
  | nil => simp at h
  | cons a t ih =>
    simp only [List.map_cons, List.sum_cons]
    rcases List.mem_cons.1 h with rfl | q
    · omega
    · have := ih q; omega
theorem size_mem {l : List ByteArray} {s : ByteArray} (h : s ∈ l) : s.size ≤ (l.map ByteArray.size).sum := by
  induction l with
  | nil => simp at h
  | cons a t ih =>
    simp only [List.map_cons, List.sum_cons]
    rcases List.mem_cons.1 h with rfl | q
    · omega
    · have := ih q; omega

/-- What stands of a row from a field on that is not its first. -/
def tailF : List ByteArray → List UInt8
  | [] => []
  | f :: t => 44 :: (csvF f.data.toList ++ tailF t)
def flds : List ByteArray → List UInt8
  | [] => []
  | f :: t => csvF f.data.toList ++ tailF t
def csvT : List (List ByteArray) → List UInt8
  | [] => []
  | r :: t => flds r ++ [10] ++ csvT t
/-- What is left of a row from field j on. -/
def from_ (j : Nat) (r : List ByteArray) : List UInt8 := if j = 0 then flds r else tailF (r.drop j)
theorem from_end (r : List ByteArray) : from_ r.length r = [] := by
  unfold from_
  by_cases c : r.length = 0
  · rw [if_pos c, List.length_eq_zero_iff.1 c]; rfl
  · rw [if_neg c, List.drop_length]; rfl
theorem from_step (r : List ByteArray) (j : Nat) (h : j < r.length) : from_ j r = (if j > 0 then [44] else []) ++ csvF r[j].data.toList ++ from_ (j + 1) r := by
  unfold from_
  rw [if_neg (show ¬ j + 1 = 0 by omega)]
  by_cases c : j = 0
  · subst c
    rw [if_pos rfl, if_neg (by omega), List.nil_append]
    cases r with
    | nil => simp at h
    | cons f t => rfl
  · rw [if_neg c, if_pos (by omega), List.drop_eq_getElem_cons h]
    rfl
theorem field_len (f : ByteArray) : (csvF f.data.toList).length ≤ 2 * f.size + 2 := by
  have h := csvF_len f.data.toList
  have hz : f.data.toList.length = f.size := by rw [Array.length_toList]; rfl
  omega
theorem tailF_len : ∀ r : List ByteArray, (tailF r).length ≤ 4 * cost r
  | [] => by simp [tailF]
  | f :: t => by
    have ih := tailF_len t
    have hf := field_len f
    have hc : cost (f :: t) = 1 + f.size + cost t := by unfold cost; simp only [List.length_cons, List.map_cons, List.sum_cons]; omega
    simp only [tailF, List.length_cons, List.length_append]
    omega
theorem flds_len : ∀ r : List ByteArray, (flds r).length ≤ 4 * cost r
  | [] => by simp [flds]
  | f :: t => by
    have ih := tailF_len t
    have hf := field_len f
    have hc : cost (f :: t) = 1 + f.size + cost t := by unfold cost; simp only [List.length_cons, List.map_cons, List.sum_cons]; omega
    simp only [flds, List.length_append]
    omega
theorem csvT_len : ∀ l : List (List ByteArray), (csvT l).length ≤ l.length + 4 * (l.map cost).sum
  | [] => by simp [csvT]
  | r :: t => by
    have ih := csvT_len t
    have hr := flds_len r
    simp only [csvT, List.length_append, List.length_cons, List.length_nil, List.map_cons, List.sum_cons]
    omega
theorem nums_small (o : List UInt8) (n : Nat) (h : o.length + n ≤ 1000000000) : (nums' o).length < 140737488355328 := by rw [nums'_len]; omega
theorem w64_mid (m n : Nat) (h : m < n) (hn : n ≤ 1048577) : wrap64 ((m : Int) + 1) = ((m + 1 : Nat) : Int) := w64_id (n := (m : Int) + 1) (by omega) (by omega)
theorem sum_small (a b : List UInt8) (n : Nat) (h : a.length + (b.length + n) ≤ 1000000001) : (nums' a).length + (bA b).size < 140737488355328 := by rw [nums'_len, bA_size]; omega
theorem room1 (o f r : List UInt8) (h : o.length + (([44] : List UInt8).length + f.length + r.length) ≤ 1000000000) : (o ++ [44]).length + (f.length + r.length) ≤ 1000000001 ∧ (o ++ [44] ++ f).length + r.length ≤ 1000000000 := by
  simp only [List.length_append, List.length_cons, List.length_nil] at h ⊢
  omega
theorem room0 (o f r : List UInt8) (h : o.length + (([] : List UInt8).length + f.length + r.length) ≤ 1000000000) : o.length + (f.length + r.length) ≤ 1000000001 ∧ (o ++ f).length + r.length ≤ 1000000000 := by
  simp only [List.length_append, List.length_nil] at h ⊢
  omega

/-- Small rows: none empty. -/
def smallR (rows : List (List ByteArray)) : Prop := ∀ q ∈ rows, q ≠ [] ∧ q.length ≤ 3 ∧ ∀ f ∈ q, f.size ≤ 4
theorem w64_up (m : Nat) (h : m ≤ 1000000) : wrap64 ((m : Int) + 1) = ((m + 1 : Nat) : Int) := w64_id (n := (m : Int) + 1) (by omega) (by omega)
theorem w64_one (r : Int) (h0 : 0 ≤ r) (h : r < 1000000) : ∃ m : Nat, wrap64 (1 + r) = ((0 + (m + 1) : Nat) : Int) ∧ (m : Int) = r := ⟨r.toNat, by rw [w64_id (n := 1 + r) (by omega) (by omega)]; omega, by omega⟩
theorem l7_l1 (b : List Int) (hb : b.length ≤ 140737488351232) (x3 : List (List ByteArray)) (hx3 : x3.length ≤ 1000) (x4 x5 : Int) (d : Nat) : ∀ (k n : Nat) (x6 : List ByteArray) (i h : Int), 0 ≤ i → n + d ≤ 1000 → x6.length ≤ n → d < k → (∀ f ∈ x6, f.size ≤ 4) →
    ∃ (k' : Nat) (row : List ByteArray) (i' h' : Int), k - d - 1 ≤ k' ∧ 0 ≤ i' ∧ row.length = x6.length + d ∧ (∀ f ∈ row, f.size ≤ 4) ∧ spec_l7Rows.l1 k x3 x4 x5 x6 ((n + d : Nat) : Int) (n : Int) b i h = spec_l7Rows.l0 k' (x3 ++ [row]) x4 (wrap64 (x5 + 1)) b i' h' := by
  induction d with
  | zero =>
    intro k n x6 i h hi hn hx hk hf
    obtain ⟨k, rfl⟩ : ∃ m, k = m + 1 := ⟨k - 1, by omega⟩
    refine ⟨k, x6, i, h, by omega, hi, rfl, hf, ?_⟩
    rw [spec_l7Rows.l1, if_neg (by omega), if_pos (by omega)]
  | succ d ih =>
    intro k n x6 i h hi hn hx hk hf
    obtain ⟨k, rfl⟩ : ∃ m, k = m + 1 := ⟨k - 1, by omega⟩
    have key : ∀ L : List ByteArray, 0 < L.length → L.length ≤ 4294967296 → (∀ y ∈ L, y.size ≤ 4) → ∃ (k' : Nat) (row : List ByteArray) (i' h' : Int), k + 1 - (d + 1) - 1 ≤ k' ∧ 0 ≤ i' ∧ row.length = x6.length + (d + 1) ∧ (∀ f ∈ row, f.size ≤ 4) ∧ ((spec_l1Pick.f b i h L).bind fun bt211 => (if x6.length < 8796093022208 then (spec_l7Rows.l1 k x3 x4 x5 (x6 ++ [bt211.1]) ((n + (d + 1) : Nat) : Int) (wrap64 ((n : Int) + 1)) b bt211.2.1 bt211.2.2) else (none))) = spec_l7Rows.l0 k' (x3 ++ [row]) x4 (wrap64 (x5 + 1)) b i' h' := by
      intro L l0 l1 hL
      obtain ⟨y, i2, h2, e2, ym, i20⟩ := l1Pick_some b hb i h L hi l0 l1
      have hy := hL y ym
      obtain ⟨k', row, i', h', g1, g2, g3, g4, g5⟩ := ih k (n + 1) (x6 ++ [y]) i2 h2 i20 (by omega) (by rw [List.length_append, List.length_singleton]; omega) (by omega) (fun f q => by
        rcases List.mem_append.1 q with q | q
        · exact hf f q
        · rw [List.mem_singleton.1 q]; exact hy)
      rw [List.length_append, List.length_singleton] at g3
      refine ⟨k', row, i', h', by omega, g2, by omega, g4, ?_⟩
      rw [e2]
      simp only [Option.bind_some]
      rw [if_pos (by omega), w64_up n (by omega), show n + (d + 1) = n + 1 + d by omega]
      exact g5
    rw [spec_l7Rows.l1, if_pos (by omega)]
    exact key _ (by simp) (by simp) (by decide)
theorem l7_l0 (b : List Int) (hb : b.length ≤ 140737488351232) (d : Nat) : ∀ (k n : Nat) (x3 : List (List ByteArray)) (i h : Int), 0 ≤ i → n + d ≤ 1000 → x3.length ≤ n → 5 * d < k → smallR x3 →
    ∃ (rows : List (List ByteArray)) (i' h' : Int), 0 ≤ i' ∧ rows.length = x3.length + d ∧ smallR rows ∧ spec_l7Rows.l0 k x3 ((n + d : Nat) : Int) (n : Int) b i h = some (rows, i', h') := by
  induction d with
  | zero =>
    intro k n x3 i h hi hn hx hk hs
    obtain ⟨k, rfl⟩ : ∃ m, k = m + 1 := ⟨k - 1, by omega⟩
    refine ⟨x3, i, h, hi, rfl, hs, ?_⟩
    rw [spec_l7Rows.l0, if_neg (by omega)]
  | succ d ih =>
    intro k n x3 i h hi hn hx hk hs
    obtain ⟨k, rfl⟩ : ∃ m, k = m + 1 := ⟨k - 1, by omega⟩
    obtain ⟨r, i1, h1, e1, r0, r1, i10⟩ := l1Below_some b hb i h 3 hi (by omega)
    have r2 := r1 (by omega)
    obtain ⟨m, em, hm⟩ := w64_one r r0 (by omega)
    obtain ⟨k', row, i', h', g1, g2, g3, g4, g5⟩ := l7_l1 b hb x3 (by omega) ((n + (d + 1) : Nat) : Int) (n : Int) (m + 1) k 0 [] i1 h1 i10 (by omega) (by simp) (by omega) (by simp)
    rw [List.length_nil] at g3
    have hsm : smallR (x3 ++ [row]) := by
      intro q hq
      rcases List.mem_append.1 hq with hq | hq
      · exact hs q hq
      · rw [List.mem_singleton.1 hq]
        refine ⟨?_, by omega, g4⟩
        intro hnil
        rw [hnil, List.length_nil] at g3
        omega
    obtain ⟨rows, i2, h2, f1, f2, f3, f4⟩ := ih k' (n + 1) (x3 ++ [row]) i' h' g2 (by omega) (by rw [List.length_append, List.length_singleton]; omega) (by omega) hsm
    rw [List.length_append, List.length_singleton] at f2
    refine ⟨rows, i2, h2, f1, by omega, f3, ?_⟩
    rw [spec_l7Rows.l0, if_pos (by omega), e1]
    simp only [Option.bind_some]
    rw [em, show (0 : Int) = ((0 : Nat) : Int) from rfl, g5, w64_up n (by omega), show n + (d + 1) = n + 1 + d by omega]
    exact f4
theorem l7Rows_some (b : List Int) (hb : b.length ≤ 140737488351232) (i h : Int) (hi : 0 ≤ i) (k : Nat) (hk : 100 ≤ k) : ∃ (rows : List (List ByteArray)) (i' h' : Int), spec_l7Rows.f k b i h = some (rows, i', h') ∧ 0 ≤ i' ∧ rows.length ≤ 3 ∧ smallR rows := by
  unfold spec_l7Rows.f
  obtain ⟨r, i1, h1, e1, r0, r1, i10⟩ := l1Below_some b hb i h 4 hi (by omega)
  have r2 := r1 (by omega)
  obtain ⟨rows, i2, h2, f1, f2, f3, f4⟩ := l7_l0 b hb r.toNat k 0 [] i1 h1 i10 (by omega) (by simp) (by omega) (fun q hq => by simp at hq)
  rw [List.length_nil] at f2
  refine ⟨rows, i2, h2, ?_, f1, by omega, f3⟩
  rw [e1]
  simp only [Option.bind_some]
  rw [show ((0 + r.toNat : Nat) : Int) = r by omega, show ((0 : Nat) : Int) = 0 from rfl] at f4
  exact f4
theorem small_row : ∀ q : List ByteArray, (∀ f ∈ q, f.size ≤ 4) → cost q ≤ 5 * q.length
  | [], _ => by simp [cost]
  | f :: t, h => by
    have ih := small_row t (fun g hg => h g (List.mem_cons_of_mem _ hg))
    have h1 := h f (List.mem_cons_self ..)
    unfold cost at ih ⊢
    simp only [List.length_cons, List.map_cons, List.sum_cons]
    omega
theorem small_cost : ∀ rows : List (List ByteArray), smallR rows → (rows.map cost).sum ≤ 15 * rows.length
  | [], _ => by simp
  | q :: t, h => by
    have ih := small_cost t (fun g hg => h g (List.mem_cons_of_mem _ hg))
    have h1 := h q (List.mem_cons_self ..)
    have h2 := small_row q h1.2.2
    have h3 := h1.2.1
    simp only [List.length_cons, List.map_cons, List.sum_cons]
    omega

theorem spec_CsvField_one (a : ByteArray) (h : a.size ≤ 1048576) (q : Bool) (o : List UInt8) (i k : Nat) (hi : i < a.data.toList.length) (ho : o.length ≤ 2 * i + 1) :
    spec_CsvField.l0 (k + 1) a q (nums' o) (i : Int) = spec_CsvField.l0 k a (q || spc a.data.toList[i]) (nums' (o ++ esc [a.data.toList[i]])) ((i + 1 : Nat) : Int) := by
  have hz : a.data.toList.length = a.size := by rw [Array.length_toList]; rfl
  have hb := bt_nat a i hi
  generalize a.data.toList[i] = b at hb
  have l1 : (nums' o).length < 140737488355328 := by rw [nums'_len]; omega
  have l2 : (nums' o ++ [((b.toNat : Nat) : Int)]).length < 140737488355328 := by rw [List.length_append, nums'_len, List.length_singleton]; omega
  have e1 : nums' o ++ [((b.toNat : Nat) : Int)] = nums' (o ++ [b]) := by rw [nums'_app]; rfl
  have w := w64_id (n := (i : Int) + 1) (by omega) (by omega)
  simp only [spec_CsvField.l0]
  rw [if_pos (by omega), hb, w, e1]
  rw [e1] at l2
  simp only [Option.bind_some]
  rw [if_pos (show (0 : Int) ≤ (i : Int) by omega), if_pos l1, if_pos l1, if_pos l2]
  have e2 : nums' (o ++ [b]) ++ [34] = nums' (o ++ [b] ++ [34]) := by rw [nums'_app (o ++ [b])]; rfl
  rw [e2]
  have k34 := byte_eq b 34 (by omega)
  have k44 := byte_eq b 44 (by omega)
  have k10 := byte_eq b 10 (by omega)
  have k13 := byte_eq b 13 (by omega)
  rw [show ((34 : Nat) : Int) = 34 from rfl, show (UInt8.ofNat 34) = 34 from rfl] at k34
  rw [show ((44 : Nat) : Int) = 44 from rfl, show (UInt8.ofNat 44) = 44 from rfl] at k44
  rw [show ((10 : Nat) : Int) = 10 from rfl, show (UInt8.ofNat 10) = 10 from rfl] at k10
  rw [show ((13 : Nat) : Int) = 13 from rfl, show (UInt8.ofNat 13) = 13 from rfl] at k13
  have en : ((i : Int) + 1) = ((i + 1 : Nat) : Int) := rfl
  rw [en]
  by_cases c34 : b = 34
  · have s : spc b = true := by rw [c34]; rfl
    have es : esc [b] = [b, 34] := by rw [c34]; rfl
    have e3 : o ++ [b] ++ [34] = o ++ [b, 34] := by rw [List.append_assoc]; rfl
    have n44 : ¬ ((b.toNat : Nat) : Int) = 44 := fun e => by rw [k44.1 e] at c34; exact absurd c34 (by decide)
    have t34 := eq_true (k34.2 c34)
    have f44 := eq_false n44
    have t0 : ((0 : Int) ≤ (i : Int)) = True := eq_true (by omega)
    simp only [t34, f44, t0, if_true, if_false]
    rw [s, Bool.or_true, es, e3]
    cases q
    · rw [if_neg (by decide)]
    · rw [if_pos rfl]
  · have es : esc [b] = [b] := by rw [esc_cons, if_neg c34]; rfl
    have n34 : ¬ ((b.toNat : Nat) : Int) = 34 := fun e => c34 (k34.1 e)
    have f34 := eq_false n34
    have t0 : ((0 : Int) ≤ (i : Int)) = True := eq_true (by omega)
    simp only [f34, t0, if_true, if_false]
    rw [es]
    cases q
    · rw [if_neg (by decide), Bool.false_or]
      by_cases c44 : b = 44
      · rw [if_pos (k44.2 c44), show spc b = true by rw [c44]; rfl]
      · rw [if_neg (fun e => c44 (k44.1 e))]
        by_cases c10 : b = 10
        · rw [if_pos (k10.2 c10), if_pos l1, show spc b = true by rw [c10]; rfl]
        · rw [if_neg (fun e => c10 (k10.1 e)), if_pos l1]
          congr 1
          unfold spc
          have a1 : (b == 44) = false := by simpa using c44
          have a2 : (b == 34) = false := by simpa using c34
          have a3 : (b == 10) = false := by simpa using c10
          rw [a1, a2, a3]
          simp only [Bool.false_or]
          by_cases c13 : b = 13
          · rw [c13]; rfl
          · have a4 : (b == 13) = false := by simpa using c13
            rw [a4]
            exact beq_eq_false_iff_ne.2 (fun e => c13 (k13.1 e))
    · rw [if_pos rfl, Bool.true_or]
theorem spec_CsvField_l (a : ByteArray) (h : a.size ≤ 1048576) (d : Nat) : ∀ (k i : Nat) (q : Bool) (o : List UInt8), i ≤ a.data.toList.length → a.data.toList.length - i = d → d < k → o.length ≤ 2 * i + 1 →
    spec_CsvField.l0 k a q (nums' o) (i : Int) = some (if (q || (a.data.toList.drop i).any spc) = true then ⟨(o ++ esc (a.data.toList.drop i) ++ [34]).toArray⟩ else a) := by
  have hz : a.data.toList.length = a.size := by rw [Array.length_toList]; rfl
  induction d with
  | zero =>
    intro k i q o hi hd hk ho
    obtain ⟨k, rfl⟩ : ∃ m, k = m + 1 := ⟨k - 1, by omega⟩
    simp only [spec_CsvField.l0]
    rw [if_neg (by omega), List.drop_eq_nil_of_le (by omega)]
    have e : nums' o ++ [34] = nums' (o ++ [34]) := by rw [nums'_app]; rfl
    cases q
    · rw [if_neg (by decide), if_neg (by decide)]
    · rw [if_pos rfl, if_pos (by rw [nums'_len]; omega), e, nums'_str]
      show _ = some (⟨(o ++ [] ++ [34]).toArray⟩ : ByteArray)
      rw [List.append_nil]
  | succ d ih =>
    intro k i q o hi hd hk ho
    obtain ⟨k, rfl⟩ : ∃ m, k = m + 1 := ⟨k - 1, by omega⟩
    have hlt : i < a.data.toList.length := by omega
    have hel := esc_len [a.data.toList[i]]
    rw [spec_CsvField_one a h q o i k hlt ho, ih k (i + 1) _ _ (by omega) (by omega) (by omega) (by rw [List.length_append]; simp only [List.length_cons, List.length_nil] at hel; omega)]
    have hdr : a.data.toList.drop i = [a.data.toList[i]] ++ a.data.toList.drop (i + 1) := List.drop_eq_getElem_cons hlt
    rw [hdr, esc_app, List.any_append, ← List.append_assoc]
    have e : [a.data.toList[i]].any spc = spc a.data.toList[i] := by simp
    rw [e, Bool.or_assoc]
theorem spec_CsvField_is (a : ByteArray) (h : a.size ≤ 1048576) (k : Nat) (hk : a.size < k) : spec_CsvField.f k a = some ⟨(csvF a.data.toList).toArray⟩ := by
  have hz : a.data.toList.length = a.size := by rw [Array.length_toList]; rfl
  unfold spec_CsvField.f
  have := spec_CsvField_l a h a.data.toList.length k 0 false [34] (by omega) (by omega) (by omega) (by simp)
  rw [show nums' [34] = [34] from rfl, show ((0 : Nat) : Int) = 0 from rfl, List.drop_zero, Bool.false_or] at this
  rw [this]
  unfold csvF
  cases a.data.toList.any spc
  · rfl
  · rfl

theorem spec_CsvText_l1 (l : List (List ByteArray)) (i : Nat) (hi : i < l.length) (hl : l.length ≤ 1048576) (hr : cost l[i] ≤ 1048576) (d : Nat) : ∀ (k j : Nat) (o : List UInt8), j ≤ l[i].length → l[i].length - j = d → d + 1048580 < k → o.length + (from_ j l[i]).length ≤ 1000000000 →
    ∃ k', k - d - 1 ≤ k' ∧ k' ≤ k ∧ spec_CsvText.l1 k l (nums' o) (i : Int) (j : Int) = spec_CsvText.l0 k' l (nums' (o ++ from_ j l[i] ++ [10])) ((i + 1 : Nat) : Int) := by
  induction d with
  | zero =>
    intro k j o hj hd hk ho
    obtain ⟨k, rfl⟩ : ∃ m, k = m + 1 := ⟨k - 1, by omega⟩
    have ej : j = l[i].length := by omega
    refine ⟨k, by omega, by omega, ?_⟩
    have hl1 : l.length ≤ 1048577 := by omega
    have i0 : (0 : Int) ≤ (i : Int) := by omega
    have i1 : (i : Int) < (l.length : Int) := by omega
    have j1 : ¬ (j : Int) < (l[i].length : Int) := by omega
    have w := w64_mid i _ hi hl1
    have hlo := nums_small o _ ho
    have e : nums' o ++ [10] = nums' (o ++ [10]) := by rw [nums'_app]; rfl
    rw [spec_CsvText.l1, rd_L1_at l i hi, if_pos i0, if_pos i1, if_neg j1, if_pos hlo, w, e, ej, from_end, List.append_nil]
  | succ d ih =>
    intro k j o hj hd hk ho
    obtain ⟨k, rfl⟩ : ∃ m, k = m + 1 := ⟨k - 1, by omega⟩
    have hlt : j < l[i].length := by omega
    have hs := from_step l[i] j hlt
    have hg : rdOf ByteArray.empty l[i] (j : Int) = l[i][j] := by
      unfold rdOf; simp [List.getD, hlt]
    have hz := size_mem (List.getElem_mem hlt)
    have hz2 : l[i][j].size ≤ 1048576 := by unfold cost at hr; omega
    have hlen : l[i].length ≤ 1048576 := by unfold cost at hr; omega
    have hlen1 : l[i].length ≤ 1048577 := by omega
    have hF := spec_CsvField_is l[i][j] hz2 k (by omega)
    have hF2 : spec_CsvField.f k l[i][j] = some (bA (csvF l[i][j].data.toList)) := hF
    have j0 : (0 : Int) ≤ (j : Int) := Int.natCast_nonneg j
    have i0 : (0 : Int) ≤ (i : Int) := Int.natCast_nonneg i
    have j1 : (j : Int) < (l[i].length : Int) := Int.ofNat_lt.2 hlt
    have i1 : (i : Int) < (l.length : Int) := Int.ofNat_lt.2 hi
    have cp : j > 0 → (j : Int) > 0 := fun c => Int.ofNat_lt.2 c
    have cn : ¬ j > 0 → ¬ (j : Int) > 0 := fun c e => c (Int.ofNat_lt.1 e)
    have a1 : j + 1 ≤ l[i].length := hlt
    have a2 : l[i].length - (j + 1) = d := by omega
    have a3 : d + 1048580 < k := by omega
    have a4 : ∀ k', k - d - 1 ≤ k' → k + 1 - (d + 1) - 1 ≤ k' := fun k' h => by omega
    rw [hs] at ho ⊢
    clear hs
    have w := w64_mid j _ hlt hlen1
    rw [List.length_append, List.length_append] at ho
    have hlo := nums_small o _ ho
    rw [spec_CsvText.l1, rd_L1_at l i hi, if_pos i0, if_pos i1, if_pos j1, hg, hF2, w]
    simp only [Option.bind_some]
    by_cases c : j > 0
    · rw [if_pos c] at ho ⊢
      have e1 : nums' o ++ [44] = nums' (o ++ [44]) := by rw [nums'_app]; rfl
      have hr1 := room1 _ _ _ ho
      have hb := sum_small (o ++ [44]) (csvF l[i][j].data.toList) _ hr1.1
      rw [if_pos (cp c), if_pos hlo, e1, if_pos j0, if_pos hb, bA_bytes, ← nums'_app]
      obtain ⟨k', h1, h2, e⟩ := ih k (j + 1) (o ++ [44] ++ csvF l[i][j].data.toList) a1 a2 a3 hr1.2
      refine ⟨k', a4 _ h1, Nat.le_succ_of_le h2, ?_⟩
      rw [e]
      simp only [List.append_assoc]
    · rw [if_neg c] at ho ⊢
      have hr1 := room0 _ _ _ ho
      have hb := sum_small o (csvF l[i][j].data.toList) _ hr1.1
      rw [if_neg (cn c), if_pos j0, if_pos hb, bA_bytes, ← nums'_app]
      obtain ⟨k', h1, h2, e⟩ := ih k (j + 1) (o ++ csvF l[i][j].data.toList) a1 a2 a3 hr1.2
      refine ⟨k', a4 _ h1, Nat.le_succ_of_le h2, ?_⟩
      rw [e]
      simp only [List.append_assoc, List.nil_append]
theorem spec_CsvText_l0 (l : List (List ByteArray)) (hl : l.length ≤ 1048576) (hr : ∀ q ∈ l, cost q ≤ 1048576) (d : Nat) : ∀ (k i : Nat) (o : List UInt8), i ≤ l.length → l.length - i = d → 2 * d + ((l.drop i).map List.length).sum + 1048590 < k → o.length + (csvT (l.drop i)).length ≤ 1000000000 →
    spec_CsvText.l0 k l (nums' o) (i : Int) = some (bA (o ++ csvT (l.drop i))) := by
  induction d with
  | zero =>
    intro k i o hi hd hk ho
    obtain ⟨k, rfl⟩ : ∃ m, k = m + 1 := ⟨k - 1, by omega⟩
    rw [spec_CsvText.l0, if_neg (by omega), List.drop_eq_nil_of_le (by omega), nums'_str]
    simp [csvT, bA]
  | succ d ih =>
    intro k i o hi hd hk ho
    obtain ⟨k, rfl⟩ : ∃ m, k = m + 1 := ⟨k - 1, by omega⟩
    have hlt : i < l.length := by omega
    have hdr : l.drop i = l[i] :: l.drop (i + 1) := List.drop_eq_getElem_cons hlt
    rw [hdr] at hk ho ⊢
    simp only [List.map_cons, List.sum_cons] at hk
    have ht : csvT (l[i] :: l.drop (i + 1)) = flds l[i] ++ [10] ++ csvT (l.drop (i + 1)) := rfl
    rw [ht] at ho ⊢
    rw [List.length_append, List.length_append] at ho
    have hf : from_ 0 l[i] = flds l[i] := rfl
    obtain ⟨k', h1, h2, e⟩ := spec_CsvText_l1 l i hlt hl (hr _ (List.getElem_mem hlt)) l[i].length k 0 o (by omega) (by omega) (by omega) (by rw [hf]; omega)
    rw [show ((0 : Nat) : Int) = (0 : Int) from rfl, hf] at e
    rw [spec_CsvText.l0, if_pos (by omega), e, ih k' (i + 1) _ (by omega) (by omega) (by omega) (by rw [List.length_append, List.length_append]; omega)]
    simp only [List.append_assoc]
theorem len_cost_sum (l : List (List ByteArray)) : (l.map List.length).sum ≤ (l.map cost).sum := by
  induction l with
  | nil => simp
  | cons a t ih =>
    simp only [List.map_cons, List.sum_cons]
    unfold cost at *
    omega
theorem spec_CsvText_is (l : List (List ByteArray)) (hl : l.length ≤ 1048576) (hc : (l.map cost).sum ≤ 1048576) (k : Nat) (hk : 8388608 ≤ k) : spec_CsvText.f k l = some (bA (csvT l)) := by
  unfold spec_CsvText.f
  have h1 := len_cost_sum l
  have h2 := csvT_len l
  have := spec_CsvText_l0 l hl (fun q h => by have := cost_mem h; omega) l.length k 0 [] (by omega) (by omega) (by rw [List.drop_zero]; omega) (by rw [List.drop_zero, List.length_nil]; omega)
  rw [List.drop_zero, show nums' [] = [] from rfl] at this
  exact this

theorem l7Turned_some (b : List Int) (hb : b.length ≤ 140737488351232) (i h : Int) (hi : 0 ≤ i) (s : ByteArray) (hs : s.size ≤ 100000) : ∃ (o : ByteArray) (i' h' : Int), spec_l7Turned.f b i h s = some (o, i', h') ∧ 0 ≤ i' := by
  have key : ∀ (L : List ByteArray), 0 < L.length → L.length ≤ 4294967296 → (∀ y ∈ L, y.size ≤ 4) → ∀ n : Int, n = (s.size : Int) + 1 → ∃ (o : ByteArray) (i' h' : Int), ((spec_l1Below.f b i h n).bind fun bt267 => ((spec_l1Below.f b bt267.2.1 bt267.2.2 6).bind fun bt270 => (if bt270.1 = 0 then (if 0 ≤ bt267.1 then (if bt267.1 ≤ (s.size : Int) then ((spec_l1Pick.f b bt270.2.1 bt270.2.2 L).bind fun bt276 => (if (s.extract 0 (bt267.1 : Int).toNat).size + bt276.1.size ≤ 9223372036854775807 then (if ((s.extract 0 (bt267.1 : Int).toNat) ++ bt276.1).size + (s.extract (bt267.1 : Int).toNat s.size).size ≤ 9223372036854775807 then (some (((s.extract 0 (bt267.1 : Int).toNat) ++ bt276.1) ++ (s.extract (bt267.1 : Int).toNat s.size), bt276.2.1, bt276.2.2)) else (none)) else (none))) else (none)) else (none)) else (if bt270.1 = 1 then (if 0 ≤ bt267.1 then (if bt267.1 ≤ (s.size : Int) then (some (s.extract 0 (bt267.1 : Int).toNat, bt270.2.1, bt270.2.2)) else (none)) else (none)) else (some (s, bt270.2.1, bt270.2.2)))))) = some (o, i', h') ∧ 0 ≤ i' := by
    intro L l0 l1 hL n hn
    obtain ⟨x, i1, h1, e1, x0, x1, i10⟩ := l1Below_some b hb i h n hi (by omega)
    have x2 : x ≤ (s.size : Int) := by have := x1 (by omega); omega
    obtain ⟨r, i2, h2, e2, r0, _, i20⟩ := l1Below_some b hb i1 h1 6 i10 (by omega)
    rw [e1]; simp only [Option.bind_some]
    rw [e2]; simp only [Option.bind_some]
    by_cases c0 : r = 0
    · rw [if_pos c0, if_pos x0, if_pos x2]
      obtain ⟨y, i3, h3, e3, ym, i30⟩ := l1Pick_some b hb i2 h2 L i20 l0 l1
      have hy := hL y ym
      rw [e3]; simp only [Option.bind_some]
      have z1 : (s.extract 0 x.toNat).size ≤ s.size := by rw [ByteArray.size_extract]; omega
      have z2 : (s.extract x.toNat s.size).size ≤ s.size := by rw [ByteArray.size_extract]; omega
      rw [if_pos (by omega), if_pos (by rw [ByteArray.size_append]; omega)]
      exact ⟨_, _, _, rfl, i30⟩
    · rw [if_neg c0]
      by_cases c1 : r = 1
      · rw [if_pos c1, if_pos x0, if_pos x2]
        exact ⟨_, _, _, rfl, i20⟩
      · rw [if_neg c1]
        exact ⟨_, _, _, rfl, i20⟩
  unfold spec_l7Turned.f
  exact key _ (by simp) (by simp) (by decide) _ (w64_id (n := (s.size : Int) + 1) (by omega) (by omega))
theorem draw_fill (d : Nat) : ∀ (k n : Nat) (l : List Int), l.length ≤ 1000000 → n ≤ l.length → l.length - n = d → d < k → ∃ s, spec_DrawReadCsv.l0 k l (n : Int) = some s := by
  induction d with
  | zero =>
    intro k n l hl hn hd hk
    obtain ⟨k, rfl⟩ : ∃ m, k = m + 1 := ⟨k - 1, by omega⟩
    refine ⟨strOfNums l, ?_⟩
    rw [spec_DrawReadCsv.l0, if_neg (by omega)]
  | succ d ih =>
    intro k n l hl hn hd hk
    obtain ⟨k, rfl⟩ : ∃ m, k = m + 1 := ⟨k - 1, by omega⟩
    obtain ⟨s, e⟩ := ih k (n + 1) (l.set ((n : Int)).toNat 97) (by rw [List.length_set]; omega) (by rw [List.length_set]; omega) (by rw [List.length_set]; omega) (by omega)
    refine ⟨s, ?_⟩
    rw [spec_DrawReadCsv.l0, if_pos (by omega), if_pos (by omega), w64_up n (by omega)]
    exact e
theorem bind_ex {α β : Type} {A : Option α} {F : α → Option β} {x : α} (h : A = some x) (g : ∃ s, F x = some s) : ∃ s, A.bind F = some s := by rw [h]; exact g
theorem ite_ex_pos {β : Type} {c : Prop} [Decidable c] {A B : Option β} (h : c) (g : ∃ s, A = some s) : ∃ s, (if c then A else B) = some s := by rw [if_pos h]; exact g
theorem ite_ex_neg {β : Type} {c : Prop} [Decidable c] {A B : Option β} (h : ¬ c) (g : ∃ s, B = some s) : ∃ s, (if c then A else B) = some s := by rw [if_neg h]; exact g
theorem w64_4000 (y : Int) (h0 : 0 ≤ y) (h1 : y < 2) : 0 ≤ wrap64 (4000 + y) ∧ (wrap64 (4000 + y)).toNat ≤ 5000 := by
  rw [w64_id (n := 4000 + y) (by omega) (by omega)]
  exact ⟨by omega, by omega⟩
theorem fill_some (n : Nat) (hn : n ≤ 5000) (K : Nat) (hK : 8388608 ≤ K) : ∃ s, spec_DrawReadCsv.l0 K (List.replicate n 0) 0 = some s :=
  draw_fill n K 0 (List.replicate n 0) (by rw [List.length_replicate]; omega) (Nat.zero_le _) (by rw [List.length_replicate]; rfl) (by omega)
theorem once_is (b : List Int) (i h n x i' h' : Int) (e : spec_l1Below.f b i h n = some (x, i', h')) : spec_l1Once.f b i h n = some ((x == 0), i', h') := by
  unfold spec_l1Once.f
  rw [e]; rfl
theorem DrawReadCsv_some (b : List Int) (hb : b.length ≤ 1048576) (K : Nat) (hK : 8388608 ≤ K) (hKb : b.length < K) : ∃ s, spec_DrawReadCsv.f K b = some s := by
  unfold spec_DrawReadCsv.f
  obtain ⟨h, e⟩ := l1New_some b (by omega) K hKb
  obtain ⟨rows, i1, h1, e1, i10, hl, hs⟩ := l7Rows_some b (by omega) 0 h (by omega) K (by omega)
  have hc := small_cost rows hs
  have ht := csvT_len rows
  have t2 := spec_CsvText_is rows (by omega) (by omega) K (by omega)
  obtain ⟨o, i2, h2, e2, i20⟩ := l7Turned_some b (by omega) i1 h1 i10 (bA (csvT rows)) (by rw [bA_size]; omega)
  obtain ⟨x, i3, h3, e3, x0, x1, i30⟩ := l1Below_some b (by omega) i2 h2 40 i20 (by omega)
  obtain ⟨y, i4, h4, e4, y0, y1, i40⟩ := l1Below_some b (by omega) i3 h3 2 i30 (by omega)
  have w := w64_4000 y y0 (y1 (by omega))
  have eo := once_is b i2 h2 40 x i3 h3 e3
  refine bind_ex e ?_
  refine bind_ex e1 ?_
  refine bind_ex t2 ?_
  refine bind_ex e2 ?_
  refine bind_ex eo ?_
  by_cases c : (x == 0) = true
  · refine ite_ex_pos c ?_
    refine bind_ex e4 ?_
    refine ite_ex_pos w.1 ?_
    refine ite_ex_pos (Nat.le_trans w.2 (by decide)) ?_
    exact fill_some _ w.2 K hK
  · refine ite_ex_neg c ?_
    exact ⟨_, rfl⟩

theorem idx_34 (b : UInt8) (l : List UInt8) : Lib.index (b :: l) [34] = if b = 34 then 0 else if Lib.index l [34] = -1 then -1 else Lib.index l [34] + 1 := by
  rw [Lib.index_one, Lib.index_one, Lib.indexByte]
  by_cases c : b = 34
  · subst c; simp
  · have h : (b == 34) = false := by simpa using c
    rw [h, if_neg c]
    simp
theorem replaceK_esc : ∀ l : List UInt8, Lib.replaceK [34] [34, 34] (Lib.count l [34]) l = esc l
  | [] => by
    have : Lib.index ([] : List UInt8) [34] = -1 := rfl
    rw [Lib.count_miss this]; rfl
  | b :: l => by
    have ih := replaceK_esc l
    have hi := idx_34 b l
    by_cases c : b = 34
    · subst c
      rw [if_pos rfl] at hi
      rw [Lib.count_cons_eq, Nat.add_comm 1, Lib.replaceK_hit _ _ _ _ 0 hi]
      show [] ++ [34, 34] ++ Lib.replaceK [34] [34, 34] (Lib.count l [34]) l = _
      rw [ih, esc_cons, if_pos rfl]
      rfl
    · rw [if_neg c] at hi
      rw [Lib.count_cons_ne b 34 l c]
      rw [esc_cons, if_neg c, ← ih]
      by_cases m : Lib.index l [34] = -1
      · rw [Lib.count_miss m]; rfl
      · rw [if_neg m] at hi
        have hge := Lib.index_ge l [34]
        obtain ⟨i, hi2⟩ : ∃ i : Nat, Lib.index l [34] = i := ⟨(Lib.index l [34]).toNat, by omega⟩
        rw [hi2] at hi
        have hc := Lib.count_hit (s := l) (sub := [34]) (i := i) (by simp) hi2
        rw [hc, Nat.add_comm 1, Lib.replaceK_hit _ _ _ _ (i + 1) (by rw [hi]; rfl), Lib.replaceK_hit _ _ _ _ i hi2]
        rw [List.take_succ_cons, show i + 1 + ([34] : List UInt8).length = (i + ([34] : List UInt8).length) + 1 from by simp, List.drop_succ_cons]
        rfl
theorem replaceAll_esc (l : List UInt8) : Lib.replaceAll l [34] [34, 34] = esc l := by
  unfold Lib.replaceAll Lib.replace Lib.replaceNum
  rw [if_neg (by decide), if_pos (Or.inl (by decide))]
  exact replaceK_esc l
theorem spc_contains (b : UInt8) : ([44, 34, 10, 13] : List UInt8).contains b = spc b := by
  unfold spc
  simp only [List.contains_cons, List.contains_nil, Bool.or_false, Bool.or_assoc]
theorem containsAny_spc : ∀ l : List UInt8, Lib.containsAny l [44, 34, 10, 13] = l.any spc
  | [] => rfl
  | b :: l => by
    have ih := containsAny_spc l
    unfold Lib.containsAny at ih ⊢
    have hge := Lib.indexAny_ge [44, 34, 10, 13] l
    rw [Lib.indexAny, spc_contains, List.any_cons, ← ih]
    cases spc b
    · simp only [Bool.false_eq_true, if_false, Bool.false_or]
      by_cases m : Lib.indexAny l [44, 34, 10, 13] = -1
      · rw [m]; rfl
      · rw [if_neg (by simpa using m)]
        exact decide_eq_decide.2 (by omega)
    · rfl
theorem impl_CsvField_is (a : ByteArray) (h : a.size ≤ 1048576) : impl_CsvField.f a = some ⟨(csvF a.data.toList).toArray⟩ := by
  have hz : a.data.toList.length = a.size := by rw [Array.length_toList]; rfl
  have hl := esc_len a.data.toList
  have hb := Lib.countB_le ⟨#[34]⟩ (by decide) a.size a (Nat.le_refl _)
  unfold impl_CsvField.f strings_ContainsAny.f strings_ReplaceAll.f
  have c2 : a.size < 4294967281 ∧ 1 ≤ (⟨#[34]⟩ : ByteArray).size ∧ a.size + Lib.countB a ⟨#[34]⟩ * (⟨#[34, 34]⟩ : ByteArray).size ≤ 140737488355328 := ⟨by omega, by decide, by
    have e : (⟨#[34, 34]⟩ : ByteArray).size = 2 := rfl
    rw [e]; omega⟩
  rw [if_pos ⟨rfl, by omega⟩, if_pos c2, containsAny_spc]
  simp only [Option.bind_some]
  have er : Lib.replaceAll a.data.toList (⟨#[34]⟩ : ByteArray).data.toList (⟨#[34, 34]⟩ : ByteArray).data.toList = esc a.data.toList := replaceAll_esc _
  rw [er]
  unfold csvF
  cases a.data.toList.any spc
  · rfl
  · have e1 : (⟨(esc a.data.toList).toArray⟩ : ByteArray).size = (esc a.data.toList).length := by
      show (esc a.data.toList).toArray.size = _
      simp
    rw [if_pos rfl, if_pos rfl, if_pos (by rw [e1]; omega), if_pos (by rw [ByteArray.size_append, e1]; have : (⟨#[34]⟩ : ByteArray).size = 1 := rfl; omega)]
    congr 1

theorem impl_CsvText_l1 (l : List (List ByteArray)) (i : Nat) (hi : i < l.length) (hl : l.length ≤ 1048576) (hr : cost l[i] ≤ 1048576) (n : Int) (d : Nat) : ∀ (k j : Nat) (o : List UInt8), j ≤ l[i].length → l[i].length - j = d → d < k → o.length + (from_ j l[i]).length ≤ 1000000000 →
    ∃ k', k - d - 1 ≤ k' ∧ k' ≤ k ∧ impl_CsvText.l1 k (nums' o) l n (i : Int) l[i] (l[i].length : Int) (j : Int) = impl_CsvText.l0 k' (nums' (o ++ from_ j l[i] ++ [10])) l n ((i + 1 : Nat) : Int) := by
  induction d with
  | zero =>
    intro k j o hj hd hk ho
    obtain ⟨k, rfl⟩ : ∃ m, k = m + 1 := ⟨k - 1, by omega⟩
    have ej : j = l[i].length := by omega
    refine ⟨k, by omega, by omega, ?_⟩
    have hl1 : l.length ≤ 1048577 := by omega
    have j1 : ¬ (j : Int) < (l[i].length : Int) := by omega
    have w := w64_mid i _ hi hl1
    have hlo := nums_small o _ ho
    have e : nums' o ++ [10] = nums' (o ++ [10]) := by rw [nums'_app]; rfl
    rw [impl_CsvText.l1, if_neg j1, if_pos hlo, w, e, ej, from_end, List.append_nil]
  | succ d ih =>
    intro k j o hj hd hk ho
    obtain ⟨k, rfl⟩ : ∃ m, k = m + 1 := ⟨k - 1, by omega⟩
    have hlt : j < l[i].length := by omega
    have hs := from_step l[i] j hlt
    have hg : rdOf ByteArray.empty l[i] (j : Int) = l[i][j] := by
      unfold rdOf; simp [List.getD, hlt]
    have hz := size_mem (List.getElem_mem hlt)
    have hz2 : l[i][j].size ≤ 1048576 := by unfold cost at hr; omega
    have hlen : l[i].length ≤ 1048576 := by unfold cost at hr; omega
    have hlen1 : l[i].length ≤ 1048577 := by omega
    have hF2 : impl_CsvField.f l[i][j] = some (bA (csvF l[i][j].data.toList)) := impl_CsvField_is l[i][j] hz2
    have j0 : (0 : Int) ≤ (j : Int) := Int.natCast_nonneg j
    have i0 : (0 : Int) ≤ (i : Int) := Int.natCast_nonneg i
    have j1 : (j : Int) < (l[i].length : Int) := Int.ofNat_lt.2 hlt
    have i1 : (i : Int) < (l.length : Int) := Int.ofNat_lt.2 hi
    have cp : j > 0 → (j : Int) > 0 := fun c => Int.ofNat_lt.2 c
    have cn : ¬ j > 0 → ¬ (j : Int) > 0 := fun c e => c (Int.ofNat_lt.1 e)
    have a1 : j + 1 ≤ l[i].length := hlt
    have a2 : l[i].length - (j + 1) = d := by omega
    have a3 : d < k := by omega
    have a4 : ∀ k', k - d - 1 ≤ k' → k + 1 - (d + 1) - 1 ≤ k' := fun k' h => by omega
    rw [hs] at ho ⊢
    clear hs
    have w := w64_mid j _ hlt hlen1
    rw [List.length_append, List.length_append] at ho
    have hlo := nums_small o _ ho
    rw [impl_CsvText.l1, if_pos j1, if_pos j0, if_pos j1, hg, hF2, w]
    simp only [Option.bind_some]
    by_cases c : j > 0
    · rw [if_pos c] at ho ⊢
      have e1 : nums' o ++ [44] = nums' (o ++ [44]) := by rw [nums'_app]; rfl
      have hr1 := room1 _ _ _ ho
      have hb := sum_small (o ++ [44]) (csvF l[i][j].data.toList) _ hr1.1
      rw [if_pos (cp c), if_pos hlo, e1, if_pos hb, bA_bytes, ← nums'_app]
      obtain ⟨k', h1, h2, e⟩ := ih k (j + 1) (o ++ [44] ++ csvF l[i][j].data.toList) a1 a2 a3 hr1.2
      refine ⟨k', a4 _ h1, Nat.le_succ_of_le h2, ?_⟩
      rw [e]
      simp only [List.append_assoc]
    · rw [if_neg c] at ho ⊢
      have hr1 := room0 _ _ _ ho
      have hb := sum_small o (csvF l[i][j].data.toList) _ hr1.1
      rw [if_neg (cn c), if_pos hb, bA_bytes, ← nums'_app]
      obtain ⟨k', h1, h2, e⟩ := ih k (j + 1) (o ++ csvF l[i][j].data.toList) a1 a2 a3 hr1.2
      refine ⟨k', a4 _ h1, Nat.le_succ_of_le h2, ?_⟩
      rw [e]
      simp only [List.append_assoc, List.nil_append]
theorem impl_CsvText_l0 (l : List (List ByteArray)) (hl : l.length ≤ 1048576) (hr : ∀ q ∈ l, cost q ≤ 1048576) (d : Nat) : ∀ (k i : Nat) (o : List UInt8), i ≤ l.length → l.length - i = d → 2 * d + ((l.drop i).map List.length).sum < k → o.length + (csvT (l.drop i)).length ≤ 1000000000 →
    impl_CsvText.l0 k (nums' o) l (l.length : Int) (i : Int) = some (bA (o ++ csvT (l.drop i))) := by
  induction d with
  | zero =>
    intro k i o hi hd hk ho
    obtain ⟨k, rfl⟩ : ∃ m, k = m + 1 := ⟨k - 1, by omega⟩
    rw [impl_CsvText.l0, if_neg (by omega), List.drop_eq_nil_of_le (by omega), nums'_str]
    simp [csvT, bA]
  | succ d ih =>
    intro k i o hi hd hk ho
    obtain ⟨k, rfl⟩ : ∃ m, k = m + 1 := ⟨k - 1, by omega⟩
    have hlt : i < l.length := by omega
    have hdr : l.drop i = l[i] :: l.drop (i + 1) := List.drop_eq_getElem_cons hlt
    rw [hdr] at hk ho ⊢
    simp only [List.map_cons, List.sum_cons] at hk
    have ht : csvT (l[i] :: l.drop (i + 1)) = flds l[i] ++ [10] ++ csvT (l.drop (i + 1)) := rfl
    rw [ht] at ho ⊢
    rw [List.length_append, List.length_append] at ho
    have hf : from_ 0 l[i] = flds l[i] := rfl
    obtain ⟨k', h1, h2, e⟩ := impl_CsvText_l1 l i hlt hl (hr _ (List.getElem_mem hlt)) (l.length : Int) l[i].length k 0 o (by omega) (by omega) (by omega) (by rw [hf]; omega)
    rw [show ((0 : Nat) : Int) = (0 : Int) from rfl, hf] at e
    rw [impl_CsvText.l0, if_pos (by omega), if_pos (by omega), if_pos (by omega), rd_L1_at l i hlt, e, ih k' (i + 1) _ (by omega) (by omega) (by omega) (by rw [List.length_append, List.length_append]; omega)]
    simp only [List.append_assoc]
theorem len_cost_sum' (l : List (List ByteArray)) : (l.map List.length).sum ≤ (l.map cost).sum := by
  induction l with
  | nil => simp
  | cons a t ih =>
    simp only [List.map_cons, List.sum_cons]
    unfold cost at *
    omega
theorem impl_CsvText_is (l : List (List ByteArray)) (hl : l.length ≤ 1048576) (hc : (l.map cost).sum ≤ 1048576) (k : Nat) (hk : 8388608 ≤ k) : impl_CsvText.f k l = some (bA (csvT l)) := by
  unfold impl_CsvText.f
  have h1 := len_cost_sum' l
  have h2 := csvT_len l
  have := impl_CsvText_l0 l hl (fun q h => by have := cost_mem h; omega) l.length k 0 [] (by omega) (by omega) (by rw [List.drop_zero]; omega) (by rw [List.drop_zero, List.length_nil]; omega)
  rw [List.drop_zero, show nums' [] = [] from rfl] at this
  exact this

def nsp (b : UInt8) : Bool := !spc b
/-- A field in quotes, from behind its first quote; true: a quote has just been met. -/
def qs : Bool → List UInt8 → Option (List UInt8 × List UInt8)
  | false, [] => none
  | true, [] => some ([], [])
  | false, b :: l => if b = 34 then qs true l else (qs false l).map fun r => (b :: r.1, r.2)
  | true, b :: l => if b = 34 then (qs false l).map fun r => (34 :: r.1, r.2) else some ([], b :: l)
theorem qs_f0 : qs false [] = none := rfl
theorem qs_t0 : qs true [] = some ([], []) := rfl
theorem qs_f (b : UInt8) (l : List UInt8) : qs false (b :: l) = if b = 34 then qs true l else (qs false l).map fun r => (b :: r.1, r.2) := rfl
theorem qs_t (b : UInt8) (l : List UInt8) : qs true (b :: l) = if b = 34 then (qs false l).map fun r => (34 :: r.1, r.2) else some ([], b :: l) := rfl
theorem qs_suffix : ∀ (l : List UInt8) (p : Bool) (c r : List UInt8), qs p l = some (c, r) → r <:+ l
  | [], false, c, r, h => by rw [qs_f0] at h; cases h
  | [], true, c, r, h => by
    rw [qs_t0] at h
    simp only [Option.some.injEq, Prod.mk.injEq] at h
    rw [← h.2]
    exact List.suffix_refl _
  | b :: l, false, c, r, h => by
    rw [qs_f] at h
    by_cases e : b = 34
    · rw [if_pos e] at h
      exact (qs_suffix l true c r h).trans (List.suffix_cons _ _)
    · rw [if_neg e] at h
      obtain ⟨⟨c', r'⟩, h1, h2⟩ := Option.map_eq_some_iff.1 h
      simp only [Prod.mk.injEq] at h2
      rw [← h2.2]
      exact (qs_suffix l false c' r' h1).trans (List.suffix_cons _ _)
  | b :: l, true, c, r, h => by
    rw [qs_t] at h
    by_cases e : b = 34
    · rw [if_pos e] at h
      obtain ⟨⟨c', r'⟩, h1, h2⟩ := Option.map_eq_some_iff.1 h
      simp only [Prod.mk.injEq] at h2
      rw [← h2.2]
      exact (qs_suffix l false c' r' h1).trans (List.suffix_cons _ _)
    · rw [if_neg e] at h
      simp only [Option.some.injEq, Prod.mk.injEq] at h
      rw [← h.2]
      exact List.suffix_refl _
def fieldP : List UInt8 → Option (List UInt8 × List UInt8)
  | [] => some ([], [])
  | b :: t => if b = 34 then qs false t else some ((b :: t).takeWhile nsp, (b :: t).dropWhile nsp)
theorem fieldP_nil : fieldP [] = some ([], []) := rfl
theorem fieldP_cons (b : UInt8) (t : List UInt8) : fieldP (b :: t) = if b = 34 then qs false t else some ((b :: t).takeWhile nsp, (b :: t).dropWhile nsp) := rfl
theorem fieldP_suffix (l c r : List UInt8) (h : fieldP l = some (c, r)) : r <:+ l := by
  cases l with
  | nil =>
    rw [fieldP_nil] at h
    simp only [Option.some.injEq, Prod.mk.injEq] at h
    rw [← h.2]
    exact List.suffix_refl _
  | cons b t =>
    rw [fieldP_cons] at h
    by_cases e : b = 34
    · rw [if_pos e] at h
      exact (qs_suffix t false c r h).trans (List.suffix_cons _ _)
    · rw [if_neg e] at h
      simp only [Option.some.injEq, Prod.mk.injEq] at h
      rw [← h.2]
      exact List.dropWhile_suffix _
def lfP : List UInt8 → Option (Bool × List UInt8)
  | [] => none
  | c :: l => if c = 10 then some (true, l) else none
theorem lfP_nil : lfP [] = none := rfl
theorem lfP_cons (c : UInt8) (l : List UInt8) : lfP (c :: l) = if c = 10 then some (true, l) else none := rfl
/-- What stands behind a field: none: wrong; true: the row ends. -/
def afterP : List UInt8 → Option (Bool × List UInt8)
  | [] => some (true, [])
  | b :: l => if b = 44 then some (false, l) else if b = 10 then some (true, l) else if b = 13 then lfP l else none
theorem afterP_nil : afterP [] = some (true, []) := rfl
theorem afterP_cons (b : UInt8) (l : List UInt8) : afterP (b :: l) = if b = 44 then some (false, l) else if b = 10 then some (true, l) else if b = 13 then lfP l else none := rfl
theorem afterP_suffix (l t : List UInt8) (e : Bool) (h : afterP l = some (e, t)) : t <:+ l ∧ (t.length < l.length ∨ l = [] ∧ e = true) := by
  cases l with
  | nil =>
    rw [afterP_nil] at h
    simp only [Option.some.injEq, Prod.mk.injEq] at h
    rw [← h.2]
    exact ⟨List.suffix_refl _, .inr ⟨rfl, h.1.symm⟩⟩
  | cons b l =>
    rw [afterP_cons] at h
    by_cases c1 : b = 44
    · rw [if_pos c1] at h
      simp only [Option.some.injEq, Prod.mk.injEq] at h
      rw [← h.2]
      exact ⟨List.suffix_cons _ _, .inl (by simp)⟩
    rw [if_neg c1] at h
    by_cases c2 : b = 10
    · rw [if_pos c2] at h
      simp only [Option.some.injEq, Prod.mk.injEq] at h
      rw [← h.2]
      exact ⟨List.suffix_cons _ _, .inl (by simp)⟩
    rw [if_neg c2] at h
    by_cases c3 : b = 13
    · rw [if_pos c3] at h
      cases l with
      | nil => rw [lfP_nil] at h; cases h
      | cons c l' =>
        rw [lfP_cons] at h
        by_cases c4 : c = 10
        · rw [if_pos c4] at h
          simp only [Option.some.injEq, Prod.mk.injEq] at h
          rw [← h.2]
          exact ⟨(List.suffix_cons _ _).trans (List.suffix_cons _ _), .inl (by simp only [List.length_cons]; omega)⟩
        · rw [if_neg c4] at h; cases h
    · rw [if_neg c3] at h; cases h
def stepP (l : List UInt8) : Option (List UInt8 × Bool × List UInt8) := (fieldP l).bind fun p => (afterP p.2).map fun q => (p.1, q.1, q.2)
theorem stepP_suffix (l c t : List UInt8) (e : Bool) (h : stepP l = some (c, e, t)) : t <:+ l ∧ (t.length < l.length ∨ l = [] ∧ e = true) := by
  unfold stepP at h
  obtain ⟨⟨c', r⟩, h1, h2⟩ := Option.bind_eq_some_iff.1 h
  obtain ⟨⟨e', t'⟩, h3, h4⟩ := Option.map_eq_some_iff.1 h2
  simp only [Prod.mk.injEq] at h4 h3
  obtain ⟨_, rfl, rfl⟩ := h4
  obtain ⟨s1, s2⟩ := afterP_suffix r t' e' h3
  have s3 := fieldP_suffix l c' r h1
  refine ⟨s1.trans s3, ?_⟩
  have := s3.length_le
  rcases s2 with s2 | ⟨s2, s4⟩
  · exact .inl (by omega)
  · cases l with
    | nil => exact .inr ⟨rfl, s4⟩
    | cons b tl =>
      subst s2
      left
      have := s1.length_le
      simp only [List.length_nil] at this
      simp only [List.length_cons]
      omega
/-- The rows of a text. -/
def parse : Nat → List (List ByteArray) → List ByteArray → List UInt8 → Option (List (List ByteArray) × Int × Int × Int)
  | 0, _, _, _ => none
  | k + 1, rows, row, l => if (l.isEmpty && row.isEmpty) = true then some (rows, 0, 0, 0) else match stepP l with
    | none => some ([], 2, (rows.length : Int), (row.length : Int))
    | some (c, true, t) => parse k (rows ++ [row ++ [bA c]]) [] t
    | some (c, false, t) => parse k rows (row ++ [bA c]) t
theorem suffix_drop {t l : List UInt8} (h : t <:+ l) : t = l.drop (l.length - t.length) := by
  obtain ⟨p, rfl⟩ := h
  rw [List.length_append, Nat.add_sub_cancel]
  simp
theorem bt_is (s : ByteArray) (i : Nat) (h : i < s.data.toList.length) (n : Nat) (hn : n < 256) : bt s (i : Int) = (n : Int) ↔ s.data.toList[i] = UInt8.ofNat n := by
  rw [bt_nat s i h]; exact byte_eq _ n hn
theorem w64_small (m : Nat) (h : m ≤ 4000) : wrap64 ((m : Int) + 1) = (m : Int) + 1 ∧ wrap64 ((m : Int) + 2) = (m : Int) + 2 := ⟨w64_id (by omega) (by omega), w64_id (by omega) (by omega)⟩

theorem parse_size (m : Nat) : ∀ (rows : List (List ByteArray)) (row : List ByteArray) (l : List UInt8) (R : List (List ByteArray)) (a b c : Int), parse m rows row l = some (R, a, b, c) →
    R.length ≤ rows.length + m ∧ (R.map List.length).sum ≤ (rows.map List.length).sum + row.length + m := by
  induction m with
  | zero => intro rows row l R a b c h; simp only [parse] at h; cases h
  | succ m ih =>
    intro rows row l R a b c h
    unfold parse at h
    by_cases hE : (l.isEmpty && row.isEmpty) = true
    · rw [if_pos hE] at h
      simp only [Option.some.injEq, Prod.mk.injEq] at h
      obtain ⟨rfl, _⟩ := h
      exact ⟨by omega, by omega⟩
    · rw [if_neg hE] at h
      cases hs : stepP l with
      | none =>
        rw [hs] at h
        simp only [Option.some.injEq, Prod.mk.injEq] at h
        obtain ⟨rfl, _⟩ := h
        exact ⟨by simp, by simp⟩
      | some q =>
        obtain ⟨f, e, t⟩ := q
        rw [hs] at h
        cases e
        · have := ih _ _ _ _ _ _ _ h
          rw [List.length_append, List.length_singleton] at this
          exact ⟨by omega, by omega⟩
        · have := ih _ _ _ _ _ _ _ h
          rw [List.length_append, List.length_singleton, List.map_append, List.sum_append] at this
          simp only [List.map_cons, List.map_nil, List.sum_cons, List.sum_nil, List.length_append, List.length_singleton, List.length_nil] at this
          exact ⟨by omega, by omega⟩
theorem len_mem_sum {l : List (List ByteArray)} {q : List ByteArray} (h : q ∈ l) : q.length ≤ (l.map List.length).sum := by
  induction l with
  | nil => simp at h
  | cons a t ih =>
    simp only [List.map_cons, List.sum_cons]
    rcases List.mem_cons.1 h with rfl | h'
    · omega
    · have := ih h'; omega

theorem qs_esc (x : UInt8) (t : List UInt8) (hx : x ≠ 34) : ∀ c : List UInt8, qs false (esc c ++ 34 :: x :: t) = some (c, x :: t)
  | [] => by
    show qs false (34 :: x :: t) = _
    rw [qs_f, if_pos rfl, qs_t, if_neg hx]
  | b :: l => by
    have ih := qs_esc x t hx l
    rw [esc_cons]
    by_cases c : b = 34
    · rw [if_pos c]
      show qs false (34 :: 34 :: (esc l ++ 34 :: x :: t)) = _
      rw [qs_f, if_pos rfl, qs_t, if_pos rfl, ih, c]
      rfl
    · rw [if_neg c]
      show qs false (b :: (esc l ++ 34 :: x :: t)) = _
      rw [qs_f, if_neg c, ih]
      rfl
theorem fieldP_csvF (c : List UInt8) (x : UInt8) (t : List UInt8) (hx : x ≠ 34) (hs : spc x = true) : fieldP (csvF c ++ x :: t) = some (c, x :: t) := by
  unfold csvF
  by_cases h : c.any spc = true
  · rw [if_pos h]
    have e : (34 :: (esc c ++ [34])) ++ x :: t = 34 :: (esc c ++ 34 :: x :: t) := by simp
    rw [e, fieldP_cons, if_pos rfl, qs_esc x t hx c]
  · rw [if_neg h]
    have hn : ∀ b ∈ c, nsp b = true := by
      intro b q
      unfold nsp
      cases hb : spc b with
      | false => rfl
      | true => exact absurd (List.any_eq_true.2 ⟨b, q, hb⟩) h
    have hxn : nsp x = false := by unfold nsp; rw [hs]; rfl
    have tw : (c ++ x :: t).takeWhile nsp = c := by
      rw [List.takeWhile_append_of_pos hn, List.takeWhile_cons_of_neg (by rw [hxn]; decide), List.append_nil]
    have dw : (c ++ x :: t).dropWhile nsp = x :: t := by
      rw [List.dropWhile_append_of_pos hn, List.dropWhile_cons_of_neg (by rw [hxn]; decide)]
    cases c with
    | nil =>
      rw [List.nil_append] at tw dw ⊢
      rw [fieldP_cons, if_neg hx, tw, dw]
    | cons b l =>
      have hb : b ≠ 34 := by
        intro q
        have := hn b (List.mem_cons_self ..)
        rw [q] at this
        exact absurd this (by decide)
      rw [List.cons_append] at tw dw ⊢
      rw [fieldP_cons, if_neg hb, tw, dw]
theorem stepP_comma (c t : List UInt8) : stepP (csvF c ++ 44 :: t) = some (c, false, t) := by
  unfold stepP
  rw [fieldP_csvF c 44 t (by decide) (by decide)]
  simp only [Option.bind_some]
  rw [afterP_cons, if_pos rfl]
  rfl
theorem stepP_end (c t : List UInt8) : stepP (csvF c ++ 10 :: t) = some (c, true, t) := by
  unfold stepP
  rw [fieldP_csvF c 10 t (by decide) (by decide)]
  simp only [Option.bind_some]
  rw [afterP_cons, if_neg (by decide), if_pos rfl]
  rfl
theorem not_empty (a : List UInt8) (x : UInt8) (t : List UInt8) : (a ++ x :: t).isEmpty = false := by cases a <;> rfl
theorem parse_end (k : Nat) (rows : List (List ByteArray)) (row : List ByteArray) (l c t : List UInt8) (h : stepP l = some (c, true, t)) (hn : l.isEmpty = false) : parse (k + 1) rows row l = parse k (rows ++ [row ++ [bA c]]) [] t := by
  conv => lhs; unfold parse
  rw [hn, Bool.false_and, if_neg (by decide), h]
theorem parse_comma (k : Nat) (rows : List (List ByteArray)) (row : List ByteArray) (l c t : List UInt8) (h : stepP l = some (c, false, t)) (hn : l.isEmpty = false) : parse (k + 1) rows row l = parse k rows (row ++ [bA c]) t := by
  conv => lhs; unfold parse
  rw [hn, Bool.false_and, if_neg (by decide), h]
theorem parse_row (m : Nat) (rows : List (List ByteArray)) (rest : List UInt8) : ∀ (fs : List ByteArray) (f : ByteArray) (acc : List ByteArray), parse (m + fs.length + 1) rows acc (csvF f.data.toList ++ (tailF fs ++ 10 :: rest)) = parse m (rows ++ [acc ++ f :: fs]) [] rest
  | [], f, acc => by
    show parse (m + 1) rows acc (csvF f.data.toList ++ 10 :: rest) = _
    rw [parse_end m rows acc _ _ _ (stepP_end f.data.toList rest) (not_empty _ _ _), bA_self]
  | g :: gs, f, acc => by
    have e : tailF (g :: gs) ++ 10 :: rest = 44 :: (csvF g.data.toList ++ (tailF gs ++ 10 :: rest)) := by simp [tailF]
    rw [e, show m + (g :: gs).length + 1 = (m + gs.length + 1) + 1 from rfl, parse_comma _ rows acc _ _ _ (stepP_comma f.data.toList _) (not_empty _ _ _), bA_self, parse_row m rows rest gs g (acc ++ [f])]
    simp
theorem parse_rows : ∀ (rows : List (List ByteArray)) (pre : List (List ByteArray)), (∀ q ∈ rows, q ≠ []) → parse ((rows.map List.length).sum + 1) pre [] (csvT rows) = some (pre ++ rows, 0, 0, 0)
  | [], pre, _ => by simp [csvT, parse]
  | r :: rs, pre, h => by
    cases r with
    | nil => exact absurd rfl (h [] (List.mem_cons_self ..))
    | cons f fs =>
      have ih := parse_rows rs (pre ++ [f :: fs]) (fun q hq => h q (List.mem_cons_of_mem _ hq))
      have e : csvT ((f :: fs) :: rs) = csvF f.data.toList ++ (tailF fs ++ 10 :: csvT rs) := by simp [csvT, flds]
      have n : (((f :: fs) :: rs).map List.length).sum + 1 = ((rs.map List.length).sum + 1) + fs.length + 1 := by
        simp only [List.map_cons, List.sum_cons, List.length_cons]; omega
      rw [e, n, parse_row, List.nil_append, ih]
      simp
theorem parse_mono : ∀ (k : Nat) (rows : List (List ByteArray)) (row : List ByteArray) (l : List UInt8) (R : List (List ByteArray) × Int × Int × Int), parse k rows row l = some R → parse (k + 1) rows row l = some R
  | 0, _, _, _, _, h => by simp only [parse] at h; cases h
  | k + 1, rows, row, l, R, h => by
    unfold parse at h ⊢
    by_cases hE : (l.isEmpty && row.isEmpty) = true
    · rw [if_pos hE] at h ⊢; exact h
    · rw [if_neg hE] at h ⊢
      cases hs : stepP l with
      | none => rw [hs] at h; exact h
      | some q =>
        obtain ⟨f, e, t⟩ := q
        rw [hs] at h
        cases e
        · exact parse_mono k _ _ _ _ h
        · exact parse_mono k _ _ _ _ h
theorem parse_more (k : Nat) (rows : List (List ByteArray)) (row : List ByteArray) (l : List UInt8) (R : List (List ByteArray) × Int × Int × Int) (h : parse k rows row l = some R) (d : Nat) : parse (k + d) rows row l = some R := by
  induction d with
  | zero => exact h
  | succ d ih => exact parse_mono _ _ _ _ _ ih
theorem tailF_ge : ∀ r : List ByteArray, r.length ≤ (tailF r).length
  | [] => by simp
  | f :: t => by
    have := tailF_ge t
    simp only [tailF, List.length_cons, List.length_append]; omega
theorem csvT_ge : ∀ l : List (List ByteArray), (l.map List.length).sum ≤ (csvT l).length
  | [] => by simp
  | r :: t => by
    have ih := csvT_ge t
    have hr : r.length ≤ (flds r).length + 1 := by
      cases r with
      | nil => simp
      | cons f fs =>
        have := tailF_ge fs
        simp only [flds, List.length_cons, List.length_append]; omega
    simp only [List.map_cons, List.sum_cons, csvT, List.length_append, List.length_cons, List.length_nil]
    omega
/-- What is written is read again. -/
theorem round_trip (rows : List (List ByteArray)) (h : ∀ q ∈ rows, q ≠ []) : parse (2 * (csvT rows).length + 1) [] [] (csvT rows) = some (rows, 0, 0, 0) := by
  have h1 := parse_rows rows [] h
  have h2 := csvT_ge rows
  obtain ⟨d, hd⟩ : ∃ d, 2 * (csvT rows).length + 1 = ((rows.map List.length).sum + 1) + d := ⟨2 * (csvT rows).length - (rows.map List.length).sum, by omega⟩
  rw [hd]
  exact parse_more _ _ _ _ _ h1 d

theorem qs_size : ∀ (l : List UInt8) (p : Bool) (c r : List UInt8), qs p l = some (c, r) → c.length + r.length ≤ l.length
  | [], false, c, r, h => by rw [qs_f0] at h; cases h
  | [], true, c, r, h => by
    rw [qs_t0] at h
    simp only [Option.some.injEq, Prod.mk.injEq] at h
    rw [← h.1, ← h.2]; simp
  | b :: l, false, c, r, h => by
    rw [qs_f] at h
    by_cases e : b = 34
    · rw [if_pos e] at h
      have := qs_size l true c r h
      rw [List.length_cons]; omega
    · rw [if_neg e] at h
      obtain ⟨⟨c', r'⟩, h1, h2⟩ := Option.map_eq_some_iff.1 h
      simp only [Prod.mk.injEq] at h2
      have := qs_size l false c' r' h1
      rw [← h2.1, ← h2.2, List.length_cons, List.length_cons]; omega
  | b :: l, true, c, r, h => by
    rw [qs_t] at h
    by_cases e : b = 34
    · rw [if_pos e] at h
      obtain ⟨⟨c', r'⟩, h1, h2⟩ := Option.map_eq_some_iff.1 h
      simp only [Prod.mk.injEq] at h2
      have := qs_size l false c' r' h1
      rw [← h2.1, ← h2.2, List.length_cons, List.length_cons]; omega
    · rw [if_neg e] at h
      simp only [Option.some.injEq, Prod.mk.injEq] at h
      rw [← h.1, ← h.2]; simp
theorem fieldP_size (l c r : List UInt8) (h : fieldP l = some (c, r)) : c.length + r.length ≤ l.length := by
  cases l with
  | nil =>
    rw [fieldP_nil] at h
    simp only [Option.some.injEq, Prod.mk.injEq] at h
    rw [← h.1, ← h.2]; simp
  | cons b t =>
    rw [fieldP_cons] at h
    by_cases e : b = 34
    · rw [if_pos e] at h
      have := qs_size t false c r h
      rw [List.length_cons]; omega
    · rw [if_neg e] at h
      simp only [Option.some.injEq, Prod.mk.injEq] at h
      have hh : ((b :: t).takeWhile nsp ++ (b :: t).dropWhile nsp).length = (b :: t).length := by rw [List.takeWhile_append_dropWhile]
      rw [List.length_append] at hh
      rw [← h.1, ← h.2]; omega
theorem stepP_size (l c t : List UInt8) (e : Bool) (h : stepP l = some (c, e, t)) : c.length + t.length ≤ l.length := by
  unfold stepP at h
  obtain ⟨⟨c', r⟩, h1, h2⟩ := Option.bind_eq_some_iff.1 h
  obtain ⟨⟨e', t'⟩, h3, h4⟩ := Option.map_eq_some_iff.1 h2
  simp only [Prod.mk.injEq] at h4 h3
  obtain ⟨rfl, rfl, rfl⟩ := h4
  have a1 := fieldP_size l c' r h1
  have a4 := (afterP_suffix r t' e' h3).1.length_le
  omega
def szR (q : List ByteArray) : Nat := (q.map ByteArray.size).sum
theorem szR_snoc (q : List ByteArray) (f : ByteArray) : szR (q ++ [f]) = szR q + f.size := by
  unfold szR
  rw [List.map_append, List.sum_append]
  simp
theorem szRR_snoc (q : List (List ByteArray)) (f : List ByteArray) : ((q ++ [f]).map szR).sum = (q.map szR).sum + szR f := by
  rw [List.map_append, List.sum_append]
  simp
theorem cost_split (l : List (List ByteArray)) : (l.map cost).sum = (l.map List.length).sum + (l.map szR).sum := by
  induction l with
  | nil => rfl
  | cons a t ih =>
    simp only [List.map_cons, List.sum_cons]
    rw [ih]
    unfold cost szR
    omega
theorem parse_bytes : ∀ (m : Nat) (rows : List (List ByteArray)) (row : List ByteArray) (l : List UInt8) (R : List (List ByteArray)) (a b c : Int), parse m rows row l = some (R, a, b, c) → (R.map szR).sum ≤ (rows.map szR).sum + szR row + l.length
  | 0, _, _, _, _, _, _, _, h => by simp only [parse] at h; cases h
  | m + 1, rows, row, l, R, a, b, c, h => by
    unfold parse at h
    by_cases hE : (l.isEmpty && row.isEmpty) = true
    · rw [if_pos hE] at h
      simp only [Option.some.injEq, Prod.mk.injEq] at h
      rw [← h.1]; omega
    · rw [if_neg hE] at h
      cases hs : stepP l with
      | none =>
        rw [hs] at h
        simp only [Option.some.injEq, Prod.mk.injEq] at h
        rw [← h.1]; simp
      | some q =>
        obtain ⟨f, e, t⟩ := q
        rw [hs] at h
        have z := stepP_size l f t e hs
        cases e
        · have := parse_bytes m _ _ _ _ _ _ _ h
          rw [szR_snoc, bA_size] at this
          omega
        · have := parse_bytes m _ _ _ _ _ _ _ h
          rw [szRR_snoc, szR_snoc, bA_size, show szR [] = 0 from rfl] at this
          omega
theorem parse_full : ∀ (m : Nat) (rows : List (List ByteArray)) (row : List ByteArray) (l : List UInt8) (R : List (List ByteArray)) (a b c : Int), parse m rows row l = some (R, a, b, c) → (∀ q ∈ rows, q ≠ []) → ∀ q ∈ R, q ≠ []
  | 0, _, _, _, _, _, _, _, h, _ => by simp only [parse] at h; cases h
  | m + 1, rows, row, l, R, a, b, c, h, hn => by
    unfold parse at h
    by_cases hE : (l.isEmpty && row.isEmpty) = true
    · rw [if_pos hE] at h
      simp only [Option.some.injEq, Prod.mk.injEq] at h
      rw [← h.1]; exact hn
    · rw [if_neg hE] at h
      cases hs : stepP l with
      | none =>
        rw [hs] at h
        simp only [Option.some.injEq, Prod.mk.injEq] at h
        rw [← h.1]; intro q hq; simp at hq
      | some q =>
        obtain ⟨f, e, t⟩ := q
        rw [hs] at h
        cases e
        · exact parse_full m _ _ _ _ _ _ _ h hn
        · refine parse_full m _ _ _ _ _ _ _ h (fun q hq => ?_)
          rcases List.mem_append.1 hq with hq | hq
          · exact hn q hq
          · rw [List.mem_singleton.1 hq]; simp
/-- A fault stands within the text. -/
theorem parse_fault : ∀ (m : Nat) (rows : List (List ByteArray)) (row : List ByteArray) (l : List UInt8) (R : List (List ByteArray)) (a b c : Int) (N : Nat), parse m rows row l = some (R, a, b, c) → rows.length + row.length + l.length ≤ N → (a = 0 ∧ b = 0 ∧ c = 0) ∨ (a = 2 ∧ R = [] ∧ 0 ≤ b ∧ b ≤ (N : Int) ∧ 0 ≤ c ∧ c ≤ (N : Int))
  | 0, _, _, _, _, _, _, _, _, h, _ => by simp only [parse] at h; cases h
  | m + 1, rows, row, l, R, a, b, c, N, h, hN => by
    unfold parse at h
    by_cases hE : (l.isEmpty && row.isEmpty) = true
    · rw [if_pos hE] at h
      simp only [Option.some.injEq, Prod.mk.injEq] at h
      exact .inl ⟨h.2.1.symm, h.2.2.1.symm, h.2.2.2.symm⟩
    · rw [if_neg hE] at h
      cases hs : stepP l with
      | none =>
        rw [hs] at h
        simp only [Option.some.injEq, Prod.mk.injEq] at h
        refine .inr ⟨h.2.1.symm, h.1.symm, ?_, ?_, ?_, ?_⟩
        · rw [← h.2.2.1]; omega
        · rw [← h.2.2.1]; omega
        · rw [← h.2.2.2]; omega
        · rw [← h.2.2.2]; omega
      | some q =>
        obtain ⟨f, e, t⟩ := q
        rw [hs] at h
        obtain ⟨z1, z2⟩ := stepP_suffix l f t e hs
        cases e
        · rcases z2 with z | ⟨_, z⟩
          · exact parse_fault m _ _ _ _ _ _ _ N h (by rw [List.length_append, List.length_singleton]; omega)
          · cases z
        · rcases z2 with z | ⟨z, _⟩
          · exact parse_fault m _ _ _ _ _ _ _ N h (by rw [List.length_append, List.length_singleton, List.length_nil]; omega)
          · have ht : t = [] := by
              have := z1.length_le
              rw [z, List.length_nil] at this
              exact List.length_eq_zero_iff.1 (by omega)
            rw [ht] at h
            cases m with
            | zero => simp only [parse] at h; cases h
            | succ m =>
              simp only [parse] at h
              rw [if_pos (by decide)] at h
              simp only [Option.some.injEq, Prod.mk.injEq] at h
              exact .inl ⟨h.2.1.symm, h.2.2.1.symm, h.2.2.2.symm⟩

theorem impl_quoted_l (s : ByteArray) (hs : s.size ≤ 4000) (d : Nat) : ∀ (k i : Nat) (o : List UInt8), i ≤ s.data.toList.length → s.data.toList.length - i ≤ d → d < k → o.length ≤ i →
    (∀ c r, qs false (s.data.toList.drop i) = some (c, r) → impl_csvReader_quoted.l0 k (nums' o) s (i : Int) = some (bA (o ++ c), true, s, ((s.data.toList.length - r.length : Nat) : Int))) ∧
    (qs false (s.data.toList.drop i) = none → ∃ p, impl_csvReader_quoted.l0 k (nums' o) s (i : Int) = some (⟨#[]⟩, false, s, p)) := by
  have hz : s.data.toList.length = s.size := by rw [Array.length_toList]; rfl
  have base : ∀ (k i : Nat) (o : List UInt8), i = s.data.toList.length →
    (∀ c r, qs false (s.data.toList.drop i) = some (c, r) → impl_csvReader_quoted.l0 (k + 1) (nums' o) s (i : Int) = some (bA (o ++ c), true, s, ((s.data.toList.length - r.length : Nat) : Int))) ∧
    (qs false (s.data.toList.drop i) = none → ∃ p, impl_csvReader_quoted.l0 (k + 1) (nums' o) s (i : Int) = some (⟨#[]⟩, false, s, p)) := by
    intro k i o hi
    rw [List.drop_eq_nil_of_le (by omega), qs_f0]
    refine ⟨(fun c r h => by cases h), fun _ => ⟨(i : Int), ?_⟩⟩
    simp only [impl_csvReader_quoted.l0]
    rw [if_neg (by omega)]
  induction d with
  | zero =>
    intro k i o hi hd hk ho
    obtain ⟨k, rfl⟩ : ∃ m, k = m + 1 := ⟨k - 1, by omega⟩
    exact base k i o (by omega)
  | succ d ih =>
    intro k i o hi hd hk ho
    obtain ⟨k, rfl⟩ : ∃ m, k = m + 1 := ⟨k - 1, by omega⟩
    by_cases hge : s.data.toList.length ≤ i
    · exact base k i o (by omega)
    have hlt : i < s.data.toList.length := by omega
    have hl : (nums' o).length < 140737488355328 := by rw [nums'_len]; omega
    have w1 : wrap64 ((i : Int) + 1) = (i : Int) + 1 := w64_id (by omega) (by omega)
    have hk2 : d < k := by omega
    have i0 : (0 : Int) ≤ (i : Int) := by omega
    have i1 : (i : Int) < (s.size : Int) := by omega
    have hi1 : i + 1 ≤ s.data.toList.length := by omega
    have hd1 : s.data.toList.length - (i + 1) ≤ d := by omega
    have hb : bt s (i : Int) = 34 ↔ s.data.toList[i] = 34 := bt_is s i hlt 34 (by omega)
    have hbn := bt_nat s i hlt
    have hdr : s.data.toList.drop i = s.data.toList[i] :: s.data.toList.drop (i + 1) := List.drop_eq_getElem_cons hlt
    simp only [impl_csvReader_quoted.l0]
    rw [if_pos i1, if_pos i0, w1, hdr, qs_f]
    by_cases c1 : s.data.toList[i] = 34
    · rw [if_pos (hb.2 c1), if_pos c1]
      by_cases c2 : i + 1 = s.data.toList.length
      · rw [if_pos (by omega), List.drop_eq_nil_of_le (by omega), qs_t0]
        refine ⟨fun c r h => ?_, (fun h => by cases h)⟩
        simp only [Option.some.injEq, Prod.mk.injEq] at h
        obtain ⟨rfl, rfl⟩ := h
        rw [nums'_str, List.append_nil, List.length_nil, Nat.sub_zero, ← c2]
        rfl
      · have hlt2 : i + 1 < s.data.toList.length := by omega
        have hb2 : bt s ((i + 1 : Nat) : Int) = 34 ↔ s.data.toList[i + 1] = 34 := bt_is s (i + 1) hlt2 34 (by omega)
        rw [if_neg (by omega), if_pos (by omega), if_pos (by omega)]
        have hdr2 : s.data.toList.drop (i + 1) = s.data.toList[i + 1] :: s.data.toList.drop (i + 1 + 1) := List.drop_eq_getElem_cons hlt2
        rw [hdr2, qs_t]
        have en : ((i : Int) + 1) = ((i + 1 : Nat) : Int) := by omega
        rw [en]
        by_cases c3 : s.data.toList[i + 1] = 34
        · have hi2 : i + 1 + 1 ≤ s.data.toList.length := by omega
          have hd2 : s.data.toList.length - (i + 1 + 1) ≤ d := by omega
          have ho2 : (o ++ [34]).length ≤ i + 1 + 1 := by rw [List.length_append, List.length_singleton]; omega
          rw [if_pos (hb2.2 c3), if_pos c3, if_pos hl]
          have w2 := w64_id (n := ((i + 1 : Nat) : Int) + 1) (by omega) (by omega)
          have e2 : nums' o ++ [34] = nums' (o ++ [34]) := by rw [nums'_app]; rfl
          have en2 : (((i + 1 : Nat) : Int) + 1) = ((i + 1 + 1 : Nat) : Int) := by omega
          rw [w2, e2, en2]
          obtain ⟨h1, h2⟩ := ih k (i + 1 + 1) (o ++ [34]) hi2 hd2 hk2 ho2
          refine ⟨fun c r h => ?_, fun h => h2 (Option.map_eq_none_iff.1 h)⟩
          obtain ⟨⟨c', r'⟩, g1, g2⟩ := Option.map_eq_some_iff.1 h
          simp only [Prod.mk.injEq] at g2
          obtain ⟨rfl, rfl⟩ := g2
          rw [h1 c' r' g1, List.append_assoc]
          rfl
        · rw [if_neg (fun h => c3 (hb2.1 h)), if_neg c3]
          refine ⟨fun c r h => ?_, (fun h => by cases h)⟩
          simp only [Option.some.injEq, Prod.mk.injEq] at h
          obtain ⟨rfl, rfl⟩ := h
          rw [nums'_str, List.append_nil, ← hdr2, List.length_drop]
          have e3 : s.data.toList.length - (s.data.toList.length - (i + 1)) = i + 1 := by omega
          rw [e3]
          rfl
    · have ho1 : (o ++ [s.data.toList[i]]).length ≤ i + 1 := by rw [List.length_append, List.length_singleton]; omega
      rw [if_neg (fun h => c1 (hb.1 h)), if_neg c1, if_pos hl, hbn]
      have e2 : nums' o ++ [((s.data.toList[i].toNat : Nat) : Int)] = nums' (o ++ [s.data.toList[i]]) := by rw [nums'_app]; rfl
      have en : ((i : Int) + 1) = ((i + 1 : Nat) : Int) := by omega
      rw [e2, en]
      obtain ⟨h1, h2⟩ := ih k (i + 1) (o ++ [s.data.toList[i]]) hi1 hd1 hk2 ho1
      refine ⟨fun c r h => ?_, fun h => h2 (Option.map_eq_none_iff.1 h)⟩
      obtain ⟨⟨c', r'⟩, g1, g2⟩ := Option.map_eq_some_iff.1 h
      simp only [Prod.mk.injEq] at g2
      obtain ⟨rfl, rfl⟩ := g2
      rw [h1 c' r' g1, List.append_assoc]
      rfl
theorem indexAny_tw : ∀ l : List UInt8, (Lib.indexAny l [44, 34, 10, 13] < 0 ∧ l.takeWhile nsp = l) ∨ Lib.indexAny l [44, 34, 10, 13] = ((l.takeWhile nsp).length : Int)
  | [] => .inl ⟨by decide, rfl⟩
  | b :: l => by
    have ih := indexAny_tw l
    have hge := Lib.indexAny_ge [44, 34, 10, 13] l
    have hc : ([44, 34, 10, 13] : List UInt8).contains b = spc b := by
      unfold spc
      simp only [List.contains_cons, List.contains_nil, Bool.or_false, Bool.or_assoc]
    rw [Lib.indexAny, hc]
    unfold nsp at ih ⊢
    rw [List.takeWhile_cons]
    cases spc b
    · simp only [Bool.false_eq_true, if_false, Bool.not_false, if_true]
      rcases ih with ⟨h1, h2⟩ | h1
      · have e : Lib.indexAny l [44, 34, 10, 13] = -1 := by omega
        left
        rw [e, h2]
        exact ⟨by decide, rfl⟩
      · right
        rw [h1, if_neg (by simp), List.length_cons]
        omega
    · right
      rfl
theorem extract_list (s : ByteArray) (a b : Nat) : (s.extract a b).data.toList = (s.data.toList.drop a).take (b - a) := by
  rw [ByteArray.data_extract, Array.toList_extract, List.extract_eq_take_drop]
theorem extract_bA (s : ByteArray) (a b : Nat) : s.extract a b = bA ((s.data.toList.drop a).take (b - a)) := by
  unfold bA
  apply ByteArray.ext
  rw [← extract_list]
theorem impl_plain_is (s : ByteArray) (hs : s.size ≤ 4000) (i : Nat) (hi : i ≤ s.data.toList.length) :
    impl_csvReader_plain.f s (i : Int) = some (bA ((s.data.toList.drop i).takeWhile nsp), s, ((i + ((s.data.toList.drop i).takeWhile nsp).length : Nat) : Int)) := by
  have hz : s.data.toList.length = s.size := by rw [Array.length_toList]; rfl
  unfold impl_csvReader_plain.f strings_IndexAny.f
  have e0 : ((i : Nat) : Int).toNat = i := by omega
  have esz : (s.extract i s.size).size < 4294967281 := by rw [ByteArray.size_extract]; omega
  have el : (s.extract i s.size).data.toList = s.data.toList.drop i := by
    rw [extract_list, List.take_of_length_le (by rw [List.length_drop]; omega)]
  rw [if_pos (by omega), if_pos (by omega), e0, if_pos ⟨rfl, esz⟩, el]
  simp only [Option.bind_some]
  have htl : ((s.data.toList.drop i).takeWhile nsp).length ≤ s.data.toList.length - i := by
    have h1 : ((s.data.toList.drop i).takeWhile nsp).length ≤ (s.data.toList.drop i).length := (List.takeWhile_prefix nsp).length_le
    rw [List.length_drop] at h1
    exact h1
  have htk : (s.data.toList.drop i).take ((s.data.toList.drop i).takeWhile nsp).length = (s.data.toList.drop i).takeWhile nsp := by
    obtain ⟨q, hq⟩ := List.takeWhile_prefix (p := nsp) (l := s.data.toList.drop i)
    have : (s.data.toList.drop i).take ((s.data.toList.drop i).takeWhile nsp).length = ((s.data.toList.drop i).takeWhile nsp ++ q).take ((s.data.toList.drop i).takeWhile nsp).length := by rw [hq]
    rw [this, List.take_left]
  rcases indexAny_tw (s.data.toList.drop i) with ⟨h1, h2⟩ | h1
  · have wa := w64_id (n := (s.size : Int) - (i : Int)) (by omega) (by omega)
    have wb := w64_id (n := (i : Int) + ((s.size : Int) - (i : Int))) (by omega) (by omega)
    rw [if_pos h1, wa, wb, if_pos (by omega), if_pos (by omega)]
    have e1 : ((i : Int) + ((s.size : Int) - (i : Int))).toNat = s.size := by omega
    rw [e1, extract_bA, List.take_of_length_le (by rw [List.length_drop]; omega), h2, List.length_drop]
    have e2 : (i : Int) + ((s.size : Int) - (i : Int)) = ((i + (s.data.toList.length - i) : Nat) : Int) := by omega
    rw [e2]
  · rw [h1]
    have wb := w64_id (n := (i : Int) + (((s.data.toList.drop i).takeWhile nsp).length : Int)) (by omega) (by omega)
    rw [if_neg (by omega), wb, if_pos (by omega), if_pos (by omega)]
    have e1 : ((i : Int) + (((s.data.toList.drop i).takeWhile nsp).length : Int)).toNat = i + ((s.data.toList.drop i).takeWhile nsp).length := by omega
    have e2 : i + ((s.data.toList.drop i).takeWhile nsp).length - i = ((s.data.toList.drop i).takeWhile nsp).length := by omega
    rw [e1, extract_bA, e2, htk]
    rfl
theorem impl_after_is (s : ByteArray) (hs : s.size ≤ 4000) (i : Nat) (hi : i ≤ s.data.toList.length) :
    impl_csvReader_after.f s (i : Int) = some (match afterP (s.data.toList.drop i) with
      | none => (3, s, (i : Int))
      | some (false, t) => (1, s, ((s.data.toList.length - t.length : Nat) : Int))
      | some (true, t) => (2, s, ((s.data.toList.length - t.length : Nat) : Int))) := by
  have hz : s.data.toList.length = s.size := by rw [Array.length_toList]; rfl
  have e0 : ((i : Nat) : Int).toNat = i := by omega
  have i0 : (0 : Int) ≤ (i : Int) := by omega
  have i1 : (i : Int) ≤ (s.size : Int) := by omega
  have el : (s.extract i s.size).data.toList = s.data.toList.drop i := by
    rw [extract_list, List.take_of_length_le (by rw [List.length_drop]; omega)]
  have ez : (s.extract i s.size).size = (s.data.toList.drop i).length := by rw [← el, Array.length_toList]; rfl
  have w1 : wrap64 ((i : Int) + 1) = (i : Int) + 1 := w64_id (by omega) (by omega)
  have w2 : wrap64 ((i : Int) + 2) = (i : Int) + 2 := w64_id (by omega) (by omega)
  unfold impl_csvReader_after.f
  rw [if_pos i0, if_pos i1, e0, w1, w2]
  by_cases hge : s.data.toList.length ≤ i
  · have hd : s.data.toList.drop i = [] := List.drop_eq_nil_of_le hge
    rw [if_pos (by rw [Lib.toList_data, el, hd]), hd, afterP_nil]
    have e : ((s.data.toList.length - ([] : List UInt8).length : Nat) : Int) = (i : Int) := by rw [List.length_nil]; omega
    simp only [e]
  have hlt : i < s.data.toList.length := by omega
  have hdr : s.data.toList.drop i = s.data.toList[i] :: s.data.toList.drop (i + 1) := List.drop_eq_getElem_cons hlt
  have hne : ¬ (s.extract i s.size).toList = ([] : List UInt8) := by rw [Lib.toList_data, el, hdr]; simp
  have hpos : (0 : Int) < ((s.extract i s.size).size : Int) := by rw [ez, List.length_drop]; omega
  have hx0 : (s.extract i s.size).data.toList[0]'(by rw [el, List.length_drop]; omega) = s.data.toList[i] := by
    simp only [el, List.getElem_drop, Nat.add_zero]
  have h44 : bt (s.extract i s.size) 0 = 44 ↔ s.data.toList[i] = 44 := by
    have := bt_is (s.extract i s.size) 0 (by rw [el, List.length_drop]; omega) 44 (by omega)
    rw [hx0] at this
    exact this
  have h10 : bt (s.extract i s.size) 0 = 10 ↔ s.data.toList[i] = 10 := by
    have := bt_is (s.extract i s.size) 0 (by rw [el, List.length_drop]; omega) 10 (by omega)
    rw [hx0] at this
    exact this
  have hl1 : ((s.data.toList.length - (s.data.toList.drop (i + 1)).length : Nat) : Int) = (i : Int) + 1 := by rw [List.length_drop]; omega
  rw [if_neg hne, if_pos hpos, hdr, afterP_cons]
  by_cases c44 : s.data.toList[i] = 44
  · rw [if_pos (h44.2 c44), if_pos c44]
    simp only [hl1]
  rw [if_neg (fun h => c44 (h44.1 h)), if_neg c44]
  by_cases c10 : s.data.toList[i] = 10
  · rw [if_pos (h10.2 c10), if_pos c10]
    simp only [hl1]
  rw [if_neg (fun h => c10 (h10.1 h)), if_neg c10]
  clear h44 h10
  unfold strings_HasPrefix.f stringslite_HasPrefix.f
  have e2 : (⟨#[13, 10]⟩ : ByteArray).size = 2 := rfl
  have e3 : (⟨#[13, 10]⟩ : ByteArray).toList = [13, 10] := by rw [Lib.toList_data]
  rw [e2, e3]
  by_cases hz2 : ((s.extract i s.size).size : Int) ≥ ((2 : Nat) : Int)
  · have hx : ((s.extract i s.size).extract 0 2).toList = (s.data.toList[i] :: s.data.toList.drop (i + 1)).take 2 := by
      rw [Lib.toList_data, extract_list, el, hdr]
      rfl
    have et : ((((2 : Nat) : Int)) : Int).toNat = 2 := rfl
    rw [if_pos hz2, if_pos (by omega), if_pos hz2, et, hx]
    simp only [Option.bind_some]
    have hlt2 : i + 1 < s.data.toList.length := by rw [ez, List.length_drop] at hz2; omega
    have hdr2 : s.data.toList.drop (i + 1) = s.data.toList[i + 1] :: s.data.toList.drop (i + 1 + 1) := List.drop_eq_getElem_cons hlt2
    have hl2 : ((s.data.toList.length - (s.data.toList.drop (i + 1 + 1)).length : Nat) : Int) = (i : Int) + 2 := by rw [List.length_drop]; omega
    rw [hdr2]
    have tk : (s.data.toList[i] :: s.data.toList[i + 1] :: s.data.toList.drop (i + 1 + 1)).take 2 = [s.data.toList[i], s.data.toList[i + 1]] := rfl
    rw [tk]
    by_cases c13 : s.data.toList[i] = 13
    · rw [if_pos c13, lfP_cons]
      by_cases d10 : s.data.toList[i + 1] = 10
      · rw [if_pos d10, if_pos (by rw [c13, d10]; rfl)]
        simp only [hl2]
      · rw [if_neg d10, if_neg (fun h => d10 (List.cons.inj (List.cons.inj (beq_iff_eq.1 h)).2).1)]
    · rw [if_neg c13, if_neg (fun h => c13 (List.cons.inj (beq_iff_eq.1 h)).1)]
  · rw [if_neg hz2]
    simp only [Option.bind_some]
    have hnil : s.data.toList.drop (i + 1) = [] := List.drop_eq_nil_of_le (by rw [ez, List.length_drop] at hz2; omega)
    rw [if_neg (by decide), hnil]
    by_cases c13 : s.data.toList[i] = 13
    · rw [if_pos c13, lfP_nil]
    · rw [if_neg c13]
/-- A field, as the program reads it. -/
theorem impl_j2_is (s : ByteArray) (hs : s.size ≤ 4000) (rows : List (List ByteArray)) (row : List ByteArray) (i k : Nat) (hi : i ≤ s.data.toList.length) (hk : s.data.toList.length + 2 ≤ k) (q : Bool) (hq : q = true ↔ ∃ h : i < s.data.toList.length, s.data.toList[i] = 34) :
    (fieldP (s.data.toList.drop i) = none → ∃ p, impl_ReadCsv.j2 (k + 1) s rows row true q s (i : Int) = impl_ReadCsv.j3 k s rows row ⟨#[]⟩ false s p) ∧
    (∀ c r, fieldP (s.data.toList.drop i) = some (c, r) → impl_ReadCsv.j2 (k + 1) s rows row true q s (i : Int) = impl_ReadCsv.j3 k s rows row (bA c) true s ((s.data.toList.length - r.length : Nat) : Int)) := by
  have hz : s.data.toList.length = s.size := by rw [Array.length_toList]; rfl
  simp only [impl_ReadCsv.j2]
  cases q with
  | true =>
    obtain ⟨hlt, h34⟩ := hq.1 rfl
    have hdr : s.data.toList.drop i = s.data.toList[i] :: s.data.toList.drop (i + 1) := List.drop_eq_getElem_cons hlt
    rw [hdr, fieldP_cons, if_pos h34, if_pos rfl]
    unfold impl_csvReader_quoted.f
    have w1 : wrap64 ((i : Int) + 1) = ((i + 1 : Nat) : Int) := w64_id (n := (i : Int) + 1) (by omega) (by omega)
    rw [w1]
    obtain ⟨g1, g2⟩ := impl_quoted_l s hs s.data.toList.length k (i + 1) [] (by omega) (by omega) (by omega) (by simp)
    have en : nums' [] = [] := rfl
    rw [en] at g1 g2
    refine ⟨fun h => ?_, fun c r h => ?_⟩
    · obtain ⟨p, e⟩ := g2 h
      exact ⟨p, by rw [e]; rfl⟩
    · rw [g1 c r h]
      rfl
  | false =>
    rw [if_neg (by decide), impl_plain_is s hs i hi]
    have hf : fieldP (s.data.toList.drop i) = some ((s.data.toList.drop i).takeWhile nsp, (s.data.toList.drop i).dropWhile nsp) := by
      by_cases hge : s.data.toList.length ≤ i
      · rw [List.drop_eq_nil_of_le hge]; rfl
      · have hlt : i < s.data.toList.length := by omega
        have hdr : s.data.toList.drop i = s.data.toList[i] :: s.data.toList.drop (i + 1) := List.drop_eq_getElem_cons hlt
        have hn : ¬ s.data.toList[i] = 34 := fun h => by have := hq.2 ⟨hlt, h⟩; cases this
        rw [hdr, fieldP_cons, if_neg hn]
    rw [hf]
    refine ⟨(fun h => by cases h), fun c r h => ?_⟩
    simp only [Option.some.injEq, Prod.mk.injEq] at h
    obtain ⟨rfl, rfl⟩ := h
    have hlen : ((s.data.toList.drop i).takeWhile nsp).length + ((s.data.toList.drop i).dropWhile nsp).length = s.data.toList.length - i := by
      rw [← List.length_append, List.takeWhile_append_dropWhile, List.length_drop]
    have e : s.data.toList.length - ((s.data.toList.drop i).dropWhile nsp).length = i + ((s.data.toList.drop i).takeWhile nsp).length := by omega
    rw [e]
    rfl

/-- One field at the program: from the loop's head to its next. -/
theorem impl_round (s : ByteArray) (hs : s.size ≤ 4000) (rows : List (List ByteArray)) (row : List ByteArray) (i k : Nat) (hi : i ≤ s.data.toList.length) (hk : s.data.toList.length + 2 ≤ k) (hr : rows.length ≤ 1000000) (hw : row.length ≤ 1000000) :
    impl_ReadCsv.l0 (k + 4) s rows row s (i : Int) = if ((s.data.toList.drop i).isEmpty && row.isEmpty) = true then some (rows, 0, 0, 0) else match stepP (s.data.toList.drop i) with
      | none => some ([], 2, (rows.length : Int), (row.length : Int))
      | some (c, true, t) => impl_ReadCsv.l0 k s (rows ++ [row ++ [bA c]]) [] s ((s.data.toList.length - t.length : Nat) : Int)
      | some (c, false, t) => impl_ReadCsv.l0 k s rows (row ++ [bA c]) s ((s.data.toList.length - t.length : Nat) : Int) := by
  have hz : s.data.toList.length = s.size := by rw [Array.length_toList]; rfl
  have i0 : (0 : Int) ≤ (i : Int) := by omega
  have hr' : rows.length < 5864062014805 := by omega
  have hw' : row.length < 8796093022208 := by omega
  have em : (s.data.toList.drop i).isEmpty = decide (s.data.toList.length ≤ i) := by
    by_cases hge : s.data.toList.length ≤ i
    · rw [List.drop_eq_nil_of_le hge, decide_eq_true hge]; rfl
    · have hlt : i < s.data.toList.length := by omega
      rw [List.drop_eq_getElem_cons hlt, decide_eq_false hge]; rfl
  -- the field and what stands behind it
  have main : ∀ q : Bool, (q = true ↔ ∃ h : i < s.data.toList.length, s.data.toList[i] = 34) → impl_ReadCsv.j2 (k + 2) s rows row true q s (i : Int) = match stepP (s.data.toList.drop i) with
      | none => some ([], 2, (rows.length : Int), (row.length : Int))
      | some (c, true, t) => impl_ReadCsv.l0 k s (rows ++ [row ++ [bA c]]) [] s ((s.data.toList.length - t.length : Nat) : Int)
      | some (c, false, t) => impl_ReadCsv.l0 k s rows (row ++ [bA c]) s ((s.data.toList.length - t.length : Nat) : Int) := by
    intro q hq
    obtain ⟨g1, g2⟩ := impl_j2_is s hs rows row i (k + 1) hi (by omega) q hq
    unfold stepP
    cases hf : fieldP (s.data.toList.drop i) with
    | none =>
      obtain ⟨p, e⟩ := g1 hf
      rw [e]
      simp only [impl_ReadCsv.j3]
      rw [if_neg (by decide)]
      rfl
    | some cr =>
      obtain ⟨c, r⟩ := cr
      have hsf := fieldP_suffix _ c r hf
      have hlr : r.length ≤ s.data.toList.length := by
        have := hsf.length_le
        rw [List.length_drop] at this
        omega
      have hdr : s.data.toList.drop (s.data.toList.length - r.length) = r := (suffix_drop (hsf.trans (List.drop_suffix _ _))).symm
      have ha := impl_after_is s hs (s.data.toList.length - r.length) (by omega)
      rw [hdr] at ha
      rw [g2 c r hf]
      simp only [impl_ReadCsv.j3, Option.bind_some]
      rw [if_pos trivial, if_pos hw', ha]
      simp only [Option.bind_some]
      cases hA : afterP r with
      | none =>
        simp only
        rw [if_pos trivial]
        rfl
      | some et =>
        obtain ⟨e, t⟩ := et
        cases e
        · simp only
          rw [if_neg (by decide), if_neg (by decide)]
          rfl
        · simp only
          rw [if_neg (by decide), if_pos trivial, if_pos hr']
          rfl
  have h2 : ∀ b : Bool, b = (decide (i < s.data.toList.length) || decide (0 < row.length)) → impl_ReadCsv.j1 (k + 3) s rows row b s (i : Int) = if ((s.data.toList.drop i).isEmpty && row.isEmpty) = true then some (rows, 0, 0, 0) else match stepP (s.data.toList.drop i) with
      | none => some ([], 2, (rows.length : Int), (row.length : Int))
      | some (c, true, t) => impl_ReadCsv.l0 k s (rows ++ [row ++ [bA c]]) [] s ((s.data.toList.length - t.length : Nat) : Int)
      | some (c, false, t) => impl_ReadCsv.l0 k s rows (row ++ [bA c]) s ((s.data.toList.length - t.length : Nat) : Int) := by
    intro b hb
    have er : row.isEmpty = decide (row.length = 0) := by cases row <;> simp
    simp only [impl_ReadCsv.j1]
    cases b with
    | false =>
      have h3 := hb.symm
      rw [Bool.or_eq_false_iff] at h3
      have h4 := of_decide_eq_false h3.1
      have h5 := of_decide_eq_false h3.2
      rw [if_neg (by decide), em, er, decide_eq_true (by omega), decide_eq_true (by omega)]
      rfl
    | true =>
      have hcond : ((s.data.toList.drop i).isEmpty && row.isEmpty) = false := by
        rw [em, er]
        rcases (Bool.or_eq_true _ _).mp hb.symm with h3 | h3
        · have := of_decide_eq_true h3
          rw [decide_eq_false (p := s.data.toList.length ≤ i) (by omega)]; rfl
        · have := of_decide_eq_true h3
          rw [decide_eq_false (p := row.length = 0) (by omega), Bool.and_false]
      rw [if_pos rfl, hcond, if_neg (show ¬ (false = true) by decide)]
      by_cases hlt : i < s.data.toList.length
      · have i1 : (i : Int) < (s.size : Int) := by omega
        have b34 : bt s (i : Int) = 34 ↔ s.data.toList[i] = 34 := bt_is s i hlt 34 (by decide)
        rw [if_pos i1, if_pos i0]
        refine main _ ?_
        rw [beq_iff_eq, b34]
        exact ⟨fun h => ⟨hlt, h⟩, fun ⟨_, h⟩ => h⟩
      · rw [if_neg (by omega)]
        exact main false ⟨(fun h => by cases h), fun ⟨h, _⟩ => absurd h hlt⟩
  rw [show k + 4 = (k + 3) + 1 from rfl]
  simp only [impl_ReadCsv.l0]
  by_cases hlt : i < s.data.toList.length
  · have i1 : (i : Int) < (s.size : Int) := by omega
    rw [if_pos i1]
    exact h2 true (by rw [decide_eq_true hlt]; rfl)
  · rw [if_neg (by omega)]
    exact h2 _ (by rw [decide_eq_false hlt, Bool.false_or]; exact decide_eq_decide.2 (by omega))
/-- What is left to do. -/
def todo (l : List UInt8) (row : List ByteArray) : Nat := 2 * l.length + (if row = [] then 0 else 1)
theorem impl_l (s : ByteArray) (hs : s.size ≤ 4000) (m : Nat) : ∀ (rows : List (List ByteArray)) (row : List ByteArray) (i k1 : Nat), i ≤ s.data.toList.length → todo (s.data.toList.drop i) row ≤ m →
    4 * m + s.data.toList.length + 8 ≤ k1 → rows.length + m ≤ 100000 → row.length + m ≤ 100000 →
    ∃ res, parse (m + 1) rows row (s.data.toList.drop i) = some res ∧ impl_ReadCsv.l0 k1 s rows row s (i : Int) = some res := by
  have hz : s.data.toList.length = s.size := by rw [Array.length_toList]; rfl
  induction m with
  | zero =>
    intro rows row i k1 hi hm h1 hr hw
    unfold todo at hm
    have hrow : row = [] := by
      by_cases c : row = []
      · exact c
      · rw [if_neg c] at hm; omega
    subst hrow
    have hl0 : (s.data.toList.drop i).length = 0 := by omega
    have hnil : s.data.toList.drop i = [] := List.length_eq_zero_iff.1 hl0
    obtain ⟨k1, rfl⟩ : ∃ m, k1 = m + 4 := ⟨k1 - 4, by omega⟩
    refine ⟨(rows, 0, 0, 0), ?_, ?_⟩
    · rw [hnil]; rfl
    · rw [impl_round s hs rows [] i k1 hi (by omega) (by omega) (by simp), hnil]; rfl
  | succ m ih =>
    intro rows row i k1 hi hm h1 hr hw
    obtain ⟨k1, rfl⟩ : ∃ m, k1 = m + 4 := ⟨k1 - 4, by omega⟩
    have hI := impl_round s hs rows row i k1 hi (by omega) (by omega) (by omega)
    by_cases hE : ((s.data.toList.drop i).isEmpty && row.isEmpty) = true
    · rw [hE, if_pos rfl] at hI
      refine ⟨(rows, 0, 0, 0), ?_, hI⟩
      simp only [parse]
      rw [hE, if_pos rfl]
    · have hE' : ((s.data.toList.drop i).isEmpty && row.isEmpty) = false := by
        cases hh : ((s.data.toList.drop i).isEmpty && row.isEmpty) with
        | true => exact absurd hh hE
        | false => rfl
      rw [hE', if_neg (by decide)] at hI
      have hP : parse (m + 1 + 1) rows row (s.data.toList.drop i) = match stepP (s.data.toList.drop i) with
          | none => some ([], 2, (rows.length : Int), (row.length : Int))
          | some (c, true, t) => parse (m + 1) (rows ++ [row ++ [bA c]]) [] t
          | some (c, false, t) => parse (m + 1) rows (row ++ [bA c]) t := by
        rw [show m + 1 + 1 = (m + 1) + 1 from rfl]
        conv => lhs; unfold parse
        rw [hE', if_neg (by decide)]
      rw [hP, hI]
      cases hst : stepP (s.data.toList.drop i) with
      | none => exact ⟨_, rfl, rfl⟩
      | some cet =>
        obtain ⟨c, e, t⟩ := cet
        obtain ⟨s1, s2⟩ := stepP_suffix _ c t e hst
        have ht : t = s.data.toList.drop (s.data.toList.length - t.length) := suffix_drop (s1.trans (List.drop_suffix _ _))
        have htl : t.length ≤ s.data.toList.length := (s1.trans (List.drop_suffix _ _)).length_le
        have hne : row ++ [bA c] ≠ [] := by simp
        unfold todo at hm
        cases e
        · have hlt : t.length < (s.data.toList.drop i).length := by
            rcases s2 with h | ⟨_, h⟩
            · exact h
            · cases h
          have hm2 : todo (s.data.toList.drop (s.data.toList.length - t.length)) (row ++ [bA c]) ≤ m := by
            unfold todo
            rw [← ht, if_neg hne]
            split at hm <;> omega
          obtain ⟨res, p1, p2⟩ := ih rows (row ++ [bA c]) (s.data.toList.length - t.length) k1 (by omega) hm2 (by omega) (by omega) (by rw [List.length_append, List.length_singleton]; omega)
          rw [← ht] at p1
          exact ⟨res, p1, p2⟩
        · have hm2 : todo (s.data.toList.drop (s.data.toList.length - t.length)) [] ≤ m := by
            unfold todo
            rw [← ht, if_pos rfl]
            rcases s2 with h | ⟨h, _⟩
            · split at hm <;> omega
            · have hrow : row ≠ [] := by
                intro hr2
                rw [h, hr2] at hE'
                cases hE'
              have : t.length = 0 := by
                have := s1.length_le
                rw [h] at this
                simpa using this
              rw [if_neg hrow] at hm
              omega
          obtain ⟨res, p1, p2⟩ := ih (rows ++ [row ++ [bA c]]) [] (s.data.toList.length - t.length) k1 (by omega) hm2 (by omega) (by rw [List.length_append, List.length_singleton]; omega) (by simp; omega)
          rw [← ht] at p1
          exact ⟨res, p1, p2⟩
/-- The rows of a text at the program. -/
theorem ReadCsv_impl (s : ByteArray) (k : Nat) (hk : 60000 ≤ k) (c : s.size ≤ 4000) :
    ∃ res, impl_ReadCsv.f k s = some res ∧ parse (2 * s.data.toList.length + 1) [] [] s.data.toList = some res := by
  have hz : s.data.toList.length = s.size := by rw [Array.length_toList]; rfl
  unfold impl_ReadCsv.f
  rw [if_neg (by omega)]
  obtain ⟨res, p1, p2⟩ := impl_l s c (2 * s.data.toList.length) [] [] 0 k (by omega) (by unfold todo; rw [List.drop_zero, if_pos rfl]; omega) (by omega) (by simp; omega) (by simp; omega)
  rw [List.drop_zero] at p1
  exact ⟨res, p2, p1⟩

theorem spec_quoted_l (s : ByteArray) (hs : s.size ≤ 4000) (d : Nat) : ∀ (k i : Nat) (o : List UInt8), i ≤ s.data.toList.length → s.data.toList.length - i ≤ d → d < k → o.length ≤ i →
    (∀ c r, qs false (s.data.toList.drop i) = some (c, r) → spec_l7Field.l0 k s (i : Int) (nums' o) = some (bA (o ++ c), ((s.data.toList.length - r.length : Nat) : Int), true)) ∧
    (qs false (s.data.toList.drop i) = none → ∃ p, spec_l7Field.l0 k s (i : Int) (nums' o) = some (⟨#[]⟩, p, false)) := by
  have hz : s.data.toList.length = s.size := by rw [Array.length_toList]; rfl
  have base : ∀ (k i : Nat) (o : List UInt8), i = s.data.toList.length →
    (∀ c r, qs false (s.data.toList.drop i) = some (c, r) → spec_l7Field.l0 (k + 1) s (i : Int) (nums' o) = some (bA (o ++ c), ((s.data.toList.length - r.length : Nat) : Int), true)) ∧
    (qs false (s.data.toList.drop i) = none → ∃ p, spec_l7Field.l0 (k + 1) s (i : Int) (nums' o) = some (⟨#[]⟩, p, false)) := by
    intro k i o hi
    rw [List.drop_eq_nil_of_le (by omega), qs_f0]
    refine ⟨(fun c r h => by cases h), fun _ => ⟨(i : Int), ?_⟩⟩
    simp only [spec_l7Field.l0]
    rw [if_pos (by omega)]
  induction d with
  | zero =>
    intro k i o hi hd hk ho
    obtain ⟨k, rfl⟩ : ∃ m, k = m + 1 := ⟨k - 1, by omega⟩
    exact base k i o (by omega)
  | succ d ih =>
    intro k i o hi hd hk ho
    obtain ⟨k, rfl⟩ : ∃ m, k = m + 1 := ⟨k - 1, by omega⟩
    by_cases hge : s.data.toList.length ≤ i
    · exact base k i o (by omega)
    have hlt : i < s.data.toList.length := by omega
    have hl : (nums' o).length < 140737488355328 := by rw [nums'_len]; omega
    have w1 : wrap64 ((i : Int) + 1) = (i : Int) + 1 := w64_id (by omega) (by omega)
    have w2 : wrap64 ((i : Int) + 2) = (i : Int) + 2 := w64_id (by omega) (by omega)
    have hk2 : d < k := by omega
    have i0 : (0 : Int) ≤ (i : Int) := by omega
    have i1 : (i : Int) < (s.size : Int) := by omega
    have i2 : ¬ (i : Int) ≥ (s.size : Int) := by omega
    have hi1 : i + 1 ≤ s.data.toList.length := by omega
    have hd1 : s.data.toList.length - (i + 1) ≤ d := by omega
    have hb : bt s (i : Int) = 34 ↔ s.data.toList[i] = 34 := bt_is s i hlt 34 (by omega)
    have hbn := bt_nat s i hlt
    have hdr : s.data.toList.drop i = s.data.toList[i] :: s.data.toList.drop (i + 1) := List.drop_eq_getElem_cons hlt
    simp only [spec_l7Field.l0]
    rw [if_neg i2, if_pos i0, if_pos i1, w1, w2, hdr, qs_f]
    by_cases c1 : s.data.toList[i] = 34
    · rw [if_pos (hb.2 c1), if_pos c1]
      by_cases c2 : i + 1 = s.data.toList.length
      · rw [if_neg (by omega), List.drop_eq_nil_of_le (by omega), qs_t0]
        refine ⟨fun c r h => ?_, (fun h => by cases h)⟩
        simp only [Option.some.injEq, Prod.mk.injEq] at h
        obtain ⟨rfl, rfl⟩ := h
        rw [nums'_str, List.append_nil, List.length_nil, Nat.sub_zero, ← c2]
        rfl
      · have hlt2 : i + 1 < s.data.toList.length := by omega
        have hb2 : bt s ((i + 1 : Nat) : Int) = 34 ↔ s.data.toList[i + 1] = 34 := bt_is s (i + 1) hlt2 34 (by omega)
        rw [if_pos (by omega), if_pos (by omega)]
        have hdr2 : s.data.toList.drop (i + 1) = s.data.toList[i + 1] :: s.data.toList.drop (i + 1 + 1) := List.drop_eq_getElem_cons hlt2
        rw [hdr2, qs_t]
        have en : ((i : Int) + 1) = ((i + 1 : Nat) : Int) := by omega
        rw [en]
        by_cases c3 : s.data.toList[i + 1] = 34
        · have hi2 : i + 1 + 1 ≤ s.data.toList.length := by omega
          have hd2 : s.data.toList.length - (i + 1 + 1) ≤ d := by omega
          have ho2 : (o ++ [34]).length ≤ i + 1 + 1 := by rw [List.length_append, List.length_singleton]; omega
          rw [if_pos (hb2.2 c3), if_pos c3, if_pos hl]
          have e2 : nums' o ++ [34] = nums' (o ++ [34]) := by rw [nums'_app]; rfl
          have en2 : ((i : Int) + 2) = ((i + 1 + 1 : Nat) : Int) := by omega
          rw [e2, en2]
          obtain ⟨h1, h2⟩ := ih k (i + 1 + 1) (o ++ [34]) hi2 hd2 hk2 ho2
          refine ⟨fun c r h => ?_, fun h => h2 (Option.map_eq_none_iff.1 h)⟩
          obtain ⟨⟨c', r'⟩, g1, g2⟩ := Option.map_eq_some_iff.1 h
          simp only [Prod.mk.injEq] at g2
          obtain ⟨rfl, rfl⟩ := g2
          rw [h1 c' r' g1, List.append_assoc]
          rfl
        · rw [if_neg (fun h => c3 (hb2.1 h)), if_neg c3]
          refine ⟨fun c r h => ?_, (fun h => by cases h)⟩
          simp only [Option.some.injEq, Prod.mk.injEq] at h
          obtain ⟨rfl, rfl⟩ := h
          rw [nums'_str, List.append_nil, ← hdr2, List.length_drop]
          have e3 : s.data.toList.length - (s.data.toList.length - (i + 1)) = i + 1 := by omega
          rw [e3]
          rfl
    · have ho1 : (o ++ [s.data.toList[i]]).length ≤ i + 1 := by rw [List.length_append, List.length_singleton]; omega
      rw [if_neg (fun h => c1 (hb.1 h)), if_neg c1, if_pos hl, hbn]
      have e2 : nums' o ++ [((s.data.toList[i].toNat : Nat) : Int)] = nums' (o ++ [s.data.toList[i]]) := by rw [nums'_app]; rfl
      have en : ((i : Int) + 1) = ((i + 1 : Nat) : Int) := by omega
      rw [e2, en]
      obtain ⟨h1, h2⟩ := ih k (i + 1) (o ++ [s.data.toList[i]]) hi1 hd1 hk2 ho1
      refine ⟨fun c r h => ?_, fun h => h2 (Option.map_eq_none_iff.1 h)⟩
      obtain ⟨⟨c', r'⟩, g1, g2⟩ := Option.map_eq_some_iff.1 h
      simp only [Prod.mk.injEq] at g2
      obtain ⟨rfl, rfl⟩ := g2
      rw [h1 c' r' g1, List.append_assoc]
      rfl
/-- A field without quotes: what is met behind it, at the reference. -/
theorem spec_plain_l (s : ByteArray) (hs : s.size ≤ 4000) (d : Nat) : ∀ (k i : Nat) (o : List UInt8), i ≤ s.data.toList.length → s.data.toList.length - i ≤ d → 2 * d + 2 < k → o.length ≤ i →
    (((s.data.toList.drop i).dropWhile nsp).head? = some 34 → ∃ p, spec_l7Field.l1 k s (i : Int) (nums' o) = some (⟨#[]⟩, p, false)) ∧
    (((s.data.toList.drop i).dropWhile nsp).head? ≠ some 34 → spec_l7Field.l1 k s (i : Int) (nums' o) = some (bA (o ++ (s.data.toList.drop i).takeWhile nsp), ((s.data.toList.length - ((s.data.toList.drop i).dropWhile nsp).length : Nat) : Int), true)) := by
  have hz : s.data.toList.length = s.size := by rw [Array.length_toList]; rfl
  have base : ∀ (k i : Nat) (o : List UInt8), i = s.data.toList.length →
    (((s.data.toList.drop i).dropWhile nsp).head? = some 34 → ∃ p, spec_l7Field.l1 (k + 2) s (i : Int) (nums' o) = some (⟨#[]⟩, p, false)) ∧
    (((s.data.toList.drop i).dropWhile nsp).head? ≠ some 34 → spec_l7Field.l1 (k + 2) s (i : Int) (nums' o) = some (bA (o ++ (s.data.toList.drop i).takeWhile nsp), ((s.data.toList.length - ((s.data.toList.drop i).dropWhile nsp).length : Nat) : Int), true)) := by
    intro k i o hi
    rw [List.drop_eq_nil_of_le (by omega)]
    refine ⟨(fun h => by cases h), fun _ => ?_⟩
    simp only [spec_l7Field.l1, spec_l7Field.j3]
    rw [if_neg (by omega), if_neg (by decide), nums'_str]
    have e : ((s.data.toList.length - (([] : List UInt8).dropWhile nsp).length : Nat) : Int) = (i : Int) := by
      rw [List.dropWhile_nil, List.length_nil]; omega
    rw [e, List.takeWhile_nil, List.append_nil]
    rfl
  induction d with
  | zero =>
    intro k i o hi hd hk ho
    obtain ⟨k, rfl⟩ : ∃ m, k = m + 2 := ⟨k - 2, by omega⟩
    exact base k i o (by omega)
  | succ d ih =>
    intro k i o hi hd hk ho
    obtain ⟨k, rfl⟩ : ∃ m, k = m + 2 := ⟨k - 2, by omega⟩
    by_cases hge : s.data.toList.length ≤ i
    · exact base k i o (by omega)
    have hlt : i < s.data.toList.length := by omega
    have hl : (nums' o).length < 140737488355328 := by rw [nums'_len]; omega
    have w1 : wrap64 ((i : Int) + 1) = (i : Int) + 1 := w64_id (by omega) (by omega)
    have hk2 : 2 * d + 2 < k := by omega
    have i0 : (0 : Int) ≤ (i : Int) := by omega
    have i1 : (i : Int) < (s.size : Int) := by omega
    have hi1 : i + 1 ≤ s.data.toList.length := by omega
    have hd1 : s.data.toList.length - (i + 1) ≤ d := by omega
    have ho1 : (o ++ [s.data.toList[i]]).length ≤ i + 1 := by rw [List.length_append, List.length_singleton]; omega
    have hself : ((s.data.toList.length - (s.data.toList.length - i) : Nat) : Int) = (i : Int) := by omega
    have b44 : bt s (i : Int) = 44 ↔ s.data.toList[i] = 44 := bt_is s i hlt 44 (by omega)
    have b10 : bt s (i : Int) = 10 ↔ s.data.toList[i] = 10 := bt_is s i hlt 10 (by omega)
    have b13 : bt s (i : Int) = 13 ↔ s.data.toList[i] = 13 := bt_is s i hlt 13 (by omega)
    have b34 : bt s (i : Int) = 34 ↔ s.data.toList[i] = 34 := bt_is s i hlt 34 (by omega)
    have hbn := bt_nat s i hlt
    have hdr : s.data.toList.drop i = s.data.toList[i] :: s.data.toList.drop (i + 1) := List.drop_eq_getElem_cons hlt
    obtain ⟨ih1, ih2⟩ := ih k (i + 1) (o ++ [s.data.toList[i]]) hi1 hd1 hk2 ho1
    have stop : ∀ b : UInt8, s.data.toList[i] = b → spc b = true → b ≠ 34 →
        ((((s.data.toList.drop i).dropWhile nsp).head? = some 34 → ∃ p, spec_l7Field.j3 (k + 1) s (i : Int) (nums' o) false = some (⟨#[]⟩, p, false)) ∧
        (((s.data.toList.drop i).dropWhile nsp).head? ≠ some 34 → spec_l7Field.j3 (k + 1) s (i : Int) (nums' o) false = some (bA (o ++ (s.data.toList.drop i).takeWhile nsp), ((s.data.toList.length - ((s.data.toList.drop i).dropWhile nsp).length : Nat) : Int), true))) := by
      intro b hb hsp hne
      have hn : nsp s.data.toList[i] = false := by unfold nsp; rw [hb, hsp]; rfl
      rw [hdr, List.dropWhile_cons_of_neg (by rw [hn]; decide), List.takeWhile_cons_of_neg (by rw [hn]; decide)]
      refine ⟨(fun h => absurd (hb.symm.trans (Option.some.inj h)) hne), fun _ => ?_⟩
      rw [← hdr, List.length_drop, hself, List.append_nil]
      simp only [spec_l7Field.j3]
      rw [if_neg (by decide), nums'_str]
      rfl
    have el1 : spec_l7Field.l1 (k + 2) s (i : Int) (nums' o) = if bt s (i : Int) = 44 then spec_l7Field.j3 (k + 1) s (i : Int) (nums' o) false else if bt s (i : Int) = 10 then spec_l7Field.j3 (k + 1) s (i : Int) (nums' o) false else spec_l7Field.j3 (k + 1) s (i : Int) (nums' o) (bt s (i : Int) != 13) := by
      rw [show k + 2 = (k + 1) + 1 from rfl]
      simp only [spec_l7Field.l1]
      rw [if_pos i1, if_pos i0]
    rw [el1]
    by_cases c44 : s.data.toList[i] = 44
    · rw [if_pos (b44.2 c44)]
      exact stop 44 c44 rfl (by decide)
    rw [if_neg (fun h => c44 (b44.1 h))]
    by_cases c10 : s.data.toList[i] = 10
    · rw [if_pos (b10.2 c10)]
      exact stop 10 c10 rfl (by decide)
    rw [if_neg (fun h => c10 (b10.1 h))]
    by_cases c13 : s.data.toList[i] = 13
    · have e : (bt s (i : Int) != 13) = false := by rw [b13.2 c13]; rfl
      rw [e]
      exact stop 13 c13 rfl (by decide)
    have e : (bt s (i : Int) != 13) = true := bne_iff_ne.2 (fun h => c13 (b13.1 h))
    rw [e]
    clear stop el1
    simp only [spec_l7Field.j3]
    rw [if_pos trivial, if_pos i0, if_pos i1]
    by_cases c34 : s.data.toList[i] = 34
    · rw [if_pos (b34.2 c34)]
      have hn : nsp s.data.toList[i] = false := by rw [c34]; rfl
      rw [hdr, List.dropWhile_cons_of_neg (by rw [hn]; decide)]
      exact ⟨fun _ => ⟨_, rfl⟩, fun h => absurd (by rw [c34]; rfl) h⟩
    · rw [if_neg (fun h => c34 (b34.1 h)), if_pos hl, w1, hbn]
      have e2 : nums' o ++ [((s.data.toList[i].toNat : Nat) : Int)] = nums' (o ++ [s.data.toList[i]]) := by rw [nums'_app]; rfl
      have en : ((i : Int) + 1) = ((i + 1 : Nat) : Int) := by omega
      have hn : nsp s.data.toList[i] = true := by
        unfold nsp spc
        have a1 : (s.data.toList[i] == 44) = false := by simpa using c44
        have a2 : (s.data.toList[i] == 34) = false := by simpa using c34
        have a3 : (s.data.toList[i] == 10) = false := by simpa using c10
        have a4 : (s.data.toList[i] == 13) = false := by simpa using c13
        rw [a1, a2, a3, a4]
        rfl
      rw [e2, en, hdr, List.dropWhile_cons_of_pos hn, List.takeWhile_cons_of_pos hn]
      refine ⟨ih1, fun h => ?_⟩
      rw [ih2 h, List.append_assoc]
      rfl
/-- A field, as the reference reads it. -/
theorem spec_field_is (s : ByteArray) (hs : s.size ≤ 4000) (i k : Nat) (hi : i ≤ s.data.toList.length) (hk : 2 * s.data.toList.length + 8 ≤ k) :
    (∃ p q, spec_l7Field.f k s (i : Int) = some (p, q, false) ∧ stepP (s.data.toList.drop i) = none) ∨
    (∃ c r, fieldP (s.data.toList.drop i) = some (c, r) ∧ spec_l7Field.f k s (i : Int) = some (bA c, ((s.data.toList.length - r.length : Nat) : Int), true)) := by
  have hz : s.data.toList.length = s.size := by rw [Array.length_toList]; rfl
  obtain ⟨k, rfl⟩ : ∃ m, k = m + 1 := ⟨k - 1, by omega⟩
  have hd1 : s.data.toList.length - i ≤ s.data.toList.length := by omega
  have i0 : (0 : Int) ≤ (i : Int) := by omega
  have en : nums' [] = [] := rfl
  unfold spec_l7Field.f
  simp only [Option.bind_some]
  have plain : (∃ h : i < s.data.toList.length, s.data.toList[i] = 34) ∨ (fieldP (s.data.toList.drop i) = some ((s.data.toList.drop i).takeWhile nsp, (s.data.toList.drop i).dropWhile nsp)) := by
    by_cases hge : s.data.toList.length ≤ i
    · right; rw [List.drop_eq_nil_of_le hge]; rfl
    · have hlt : i < s.data.toList.length := by omega
      by_cases c : s.data.toList[i] = 34
      · exact .inl ⟨hlt, c⟩
      · have hdr : s.data.toList.drop i = s.data.toList[i] :: s.data.toList.drop (i + 1) := List.drop_eq_getElem_cons hlt
        right; rw [hdr, fieldP_cons, if_neg c]
  have fin : fieldP (s.data.toList.drop i) = some ((s.data.toList.drop i).takeWhile nsp, (s.data.toList.drop i).dropWhile nsp) →
      ((∃ p q, spec_l7Field.j0 (k + 1) s (i : Int) [] false = some (p, q, false) ∧ stepP (s.data.toList.drop i) = none) ∨
      (∃ c r, fieldP (s.data.toList.drop i) = some (c, r) ∧ spec_l7Field.j0 (k + 1) s (i : Int) [] false = some (bA c, ((s.data.toList.length - r.length : Nat) : Int), true))) := by
    intro hf
    obtain ⟨g1, g2⟩ := spec_plain_l s hs s.data.toList.length k i [] hi hd1 (by omega) (by simp)
    rw [en] at g1 g2
    simp only [spec_l7Field.j0]
    rw [if_neg (by decide)]
    by_cases h34 : ((s.data.toList.drop i).dropWhile nsp).head? = some 34
    · obtain ⟨p, e⟩ := g1 h34
      left
      refine ⟨_, p, e, ?_⟩
      unfold stepP
      rw [hf]
      simp only [Option.bind_some]
      cases hh : (s.data.toList.drop i).dropWhile nsp with
      | nil => rw [hh] at h34; cases h34
      | cons b l =>
        rw [hh] at h34
        have hb : b = 34 := by simpa using h34
        rw [hb, afterP_cons, if_neg (by decide), if_neg (by decide), if_neg (by decide)]
        rfl
    · right
      exact ⟨_, _, hf, g2 h34⟩
  by_cases hge : s.data.toList.length ≤ i
  · rw [if_neg (by omega)]
    rcases plain with ⟨h, _⟩ | hf
    · omega
    · exact fin hf
  · have hlt : i < s.data.toList.length := by omega
    have b34 : bt s (i : Int) = 34 ↔ s.data.toList[i] = 34 := bt_is s i hlt 34 (by omega)
    have i1 : (i : Int) < (s.size : Int) := by omega
    rw [if_pos i1, if_pos i0]
    by_cases c : s.data.toList[i] = 34
    · have hdr : s.data.toList.drop i = s.data.toList[i] :: s.data.toList.drop (i + 1) := List.drop_eq_getElem_cons hlt
      have e : (bt s (i : Int) == 34) = true := by rw [b34.2 c]; rfl
      have w1 : wrap64 ((i : Int) + 1) = ((i + 1 : Nat) : Int) := w64_id (n := (i : Int) + 1) (by omega) (by omega)
      rw [e]
      simp only [spec_l7Field.j0]
      rw [if_pos trivial, w1]
      obtain ⟨g1, g2⟩ := spec_quoted_l s hs s.data.toList.length k (i + 1) [] (by omega) (by omega) (by omega) (by simp)
      rw [en] at g1 g2
      have hf : fieldP (s.data.toList.drop i) = qs false (s.data.toList.drop (i + 1)) := by rw [hdr, fieldP_cons, if_pos c]
      cases hq : qs false (s.data.toList.drop (i + 1)) with
      | none =>
        obtain ⟨p, ep⟩ := g2 hq
        left
        refine ⟨_, p, ep, ?_⟩
        unfold stepP
        rw [hf, hq]
        rfl
      | some cr =>
        obtain ⟨c', r⟩ := cr
        right
        exact ⟨c', r, by rw [hf, hq], g1 c' r hq⟩
    · have e : (bt s (i : Int) == 34) = false := beq_eq_false_iff_ne.2 (fun h => c (b34.1 h))
      rw [e]
      rcases plain with ⟨_, h⟩ | hf
      · exact absurd h c
      · exact fin hf

/-- One field at the reference. -/
theorem spec_round (s : ByteArray) (hs : s.size ≤ 4000) (rows : List (List ByteArray)) (row : List ByteArray) (i k : Nat) (hi : i ≤ s.data.toList.length) (hk : 2 * s.data.toList.length + 8 ≤ k) (hr : rows.length ≤ 1000000) (hw : row.length ≤ 1000000) :
    spec_ReadCsv.l1 (k + 2) s rows (i : Int) row false = match stepP (s.data.toList.drop i) with
      | none => some ([], 2, (rows.length : Int), (row.length : Int))
      | some (c, true, t) => spec_ReadCsv.l0 k s (rows ++ [row ++ [bA c]]) ((s.data.toList.length - t.length : Nat) : Int)
      | some (c, false, t) => spec_ReadCsv.l1 (k + 1) s rows ((s.data.toList.length - t.length : Nat) : Int) (row ++ [bA c]) false := by
  have hz : s.data.toList.length = s.size := by rw [Array.length_toList]; rfl
  have hr' : rows.length < 5864062014805 := by omega
  have hw' : row.length < 8796093022208 := by omega
  have ends : ∀ (y : List ByteArray) (p : Int), spec_ReadCsv.l1 (k + 1) s rows p y true = spec_ReadCsv.l0 k s (rows ++ [y]) p := by
    intro y p
    simp only [spec_ReadCsv.l1]
    rw [if_pos trivial, if_pos hr']
  rw [show k + 2 = (k + 1) + 1 from rfl, spec_ReadCsv.l1, if_neg (by decide)]
  rcases spec_field_is s hs i (k + 1) hi (by omega) with ⟨p, q, e, hS⟩ | ⟨c, r, hf, e⟩
  · rw [e, hS]
    simp only [Option.bind_some]
    rw [if_neg (by decide)]
  · have hsf := fieldP_suffix _ c r hf
    have hlr : r.length ≤ s.data.toList.length := by
      have := hsf.length_le
      rw [List.length_drop] at this
      omega
    have hS : stepP (s.data.toList.drop i) = (afterP r).map fun q => (c, q.1, q.2) := by unfold stepP; rw [hf]; rfl
    rw [e, hS]
    simp only [Option.bind_some]
    rw [if_pos trivial, if_pos hw']
    have hdr : s.data.toList.drop (s.data.toList.length - r.length) = r := (suffix_drop (hsf.trans (List.drop_suffix _ _))).symm
    cases r with
    | nil =>
      rw [if_pos (by simp only [List.length_nil, Nat.sub_zero]; omega), afterP_nil]
      rw [ends]
      rfl
    | cons b l =>
      have hlt : s.data.toList.length - (b :: l).length < s.data.toList.length := by simp only [List.length_cons] at hlr ⊢; omega
      generalize hm : s.data.toList.length - (b :: l).length = m at hdr hlt ⊢
      have hml : m + 1 + l.length = s.data.toList.length := by rw [← hm]; simp only [List.length_cons] at hlr ⊢; omega
      have m0 : (0 : Int) ≤ (m : Int) := by omega
      have m1 : (m : Int) < (s.size : Int) := by omega
      have m2 : ¬ (m : Int) ≥ (s.size : Int) := by omega
      have hl1 : ((s.data.toList.length - l.length : Nat) : Int) = (m : Int) + 1 := by omega
      have m4 : m ≤ 4000 := by omega
      obtain ⟨w1, w2⟩ := w64_small m m4
      have hdm : s.data.toList.drop m = s.data.toList[m] :: s.data.toList.drop (m + 1) := List.drop_eq_getElem_cons hlt
      have hbl : s.data.toList[m] = b ∧ s.data.toList.drop (m + 1) = l := by
        rw [hdm] at hdr
        exact ⟨(List.cons.inj hdr).1, (List.cons.inj hdr).2⟩
      have b44 := Aside0.mk (show bt s (m : Int) = 44 ↔ b = 44 from by rw [← hbl.1]; exact bt_is s m hlt 44 (by decide))
      have b10 := Aside0.mk (show bt s (m : Int) = 10 ↔ b = 10 from by rw [← hbl.1]; exact bt_is s m hlt 10 (by decide))
      have b13 := Aside0.mk (show bt s (m : Int) = 13 ↔ b = 13 from by rw [← hbl.1]; exact bt_is s m hlt 13 (by decide))
      rw [if_neg m2, if_pos m0, if_pos m1, w1, w2, afterP_cons]
      by_cases c44 : b = 44
      · rw [if_pos (b44.out.2 c44), if_pos c44]
        simp only [Option.map_some, hl1]
      rw [if_neg (fun h => c44 (b44.out.1 h)), if_neg c44]
      by_cases c10 : b = 10
      · rw [if_pos (b10.out.2 c10), if_pos c10, ends]
        simp only [Option.map_some, hl1]
      rw [if_neg (fun h => c10 (b10.out.1 h)), if_neg c10]
      by_cases c13 : b = 13
      · rw [if_pos (b13.out.2 c13), if_pos c13]
        cases l with
        | nil =>
          simp only [List.length_nil] at hml
          rw [if_neg (by omega), lfP_nil]
          rfl
        | cons d l' =>
          have hlt2 : m + 1 < s.data.toList.length := by simp only [List.length_cons] at hml; omega
          have hd2 : s.data.toList.drop (m + 1) = s.data.toList[m + 1] :: s.data.toList.drop (m + 1 + 1) := List.drop_eq_getElem_cons hlt2
          have hd : s.data.toList[m + 1] = d := by
            rw [hd2] at hbl
            exact (List.cons.inj hbl.2).1
          have d10 := Aside0.mk (show bt s ((m + 1 : Nat) : Int) = 10 ↔ d = 10 from by rw [← hd]; exact bt_is s (m + 1) hlt2 10 (by decide))
          have en : (m : Int) + 1 = ((m + 1 : Nat) : Int) := by omega
          have hl2 : ((s.data.toList.length - l'.length : Nat) : Int) = (m : Int) + 2 := by simp only [List.length_cons] at hml; omega
          rw [if_pos (by omega), if_pos (by omega), en, lfP_cons]
          by_cases e10 : d = 10
          · rw [if_pos (d10.out.2 e10), if_pos e10, ends]
            simp only [Option.map_some, hl2]
          · rw [if_neg (fun h => e10 (d10.out.1 h)), if_neg e10]
            rfl
      · rw [if_neg (fun h => c13 (b13.out.1 h)), if_neg c13]
        rfl
theorem both_l (s : ByteArray) (hs : s.size ≤ 4000) (m : Nat) : ∀ (rows : List (List ByteArray)) (row : List ByteArray) (i k1 k2 : Nat), i ≤ s.data.toList.length → todo (s.data.toList.drop i) row ≤ m →
    4 * m + s.data.toList.length + 8 ≤ k1 → 3 * m + 2 * s.data.toList.length + 16 ≤ k2 → rows.length + m ≤ 100000 → row.length + m ≤ 100000 →
    ∃ res, parse (m + 1) rows row (s.data.toList.drop i) = some res ∧ impl_ReadCsv.l0 k1 s rows row s (i : Int) = some res ∧
      (row = [] → spec_ReadCsv.l0 k2 s rows (i : Int) = some res) ∧ (((s.data.toList.drop i).isEmpty && row.isEmpty) = false → spec_ReadCsv.l1 k2 s rows (i : Int) row false = some res) := by
  have hz : s.data.toList.length = s.size := by rw [Array.length_toList]; rfl
  induction m with
  | zero =>
    intro rows row i k1 k2 hi hm h1 h2 hr hw
    unfold todo at hm
    have hrow : row = [] := by
      by_cases c : row = []
      · exact c
      · rw [if_neg c] at hm; omega
    subst hrow
    have hl0 : (s.data.toList.drop i).length = 0 := by omega
    have hnil : s.data.toList.drop i = [] := List.length_eq_zero_iff.1 hl0
    have hil : s.data.toList.length ≤ i := by rw [List.length_drop] at hl0; omega
    obtain ⟨k1, rfl⟩ : ∃ m, k1 = m + 4 := ⟨k1 - 4, by omega⟩
    obtain ⟨k2, rfl⟩ : ∃ m, k2 = m + 1 := ⟨k2 - 1, by omega⟩
    refine ⟨(rows, 0, 0, 0), ?_, ?_, fun _ => ?_, fun h => ?_⟩
    · rw [hnil]; rfl
    · rw [impl_round s hs rows [] i k1 hi (by omega) (by omega) (by simp), hnil]; rfl
    · simp only [spec_ReadCsv.l0]
      rw [if_neg (by omega)]
    · rw [hnil] at h; cases h
  | succ m ih =>
    intro rows row i k1 k2 hi hm h1 h2 hr hw
    obtain ⟨k1, rfl⟩ : ∃ m, k1 = m + 4 := ⟨k1 - 4, by omega⟩
    obtain ⟨k2, rfl⟩ : ∃ m, k2 = m + 3 := ⟨k2 - 3, by omega⟩
    have hI := impl_round s hs rows row i k1 hi (by omega) (by omega) (by omega)
    have hS := spec_round s hs rows row i (k2 + 1) hi (by omega) (by omega) (by omega)
    have hS' := spec_round s hs rows [] i k2 hi (by omega) (by omega) (by simp)
    by_cases hE : ((s.data.toList.drop i).isEmpty && row.isEmpty) = true
    · rw [hE, if_pos rfl] at hI
      have hE2 := hE
      rw [Bool.and_eq_true] at hE2
      have hnil : s.data.toList.drop i = [] := List.isEmpty_iff.1 hE2.1
      have hil : s.data.toList.length ≤ i := by
        have : (s.data.toList.drop i).length = 0 := by rw [hnil]; rfl
        rw [List.length_drop] at this; omega
      refine ⟨(rows, 0, 0, 0), ?_, hI, fun _ => ?_, fun h => by rw [hE] at h; cases h⟩
      · simp only [parse]
        rw [hE, if_pos rfl]
      · simp only [spec_ReadCsv.l0]
        rw [if_neg (by omega)]
    · have hE' : ((s.data.toList.drop i).isEmpty && row.isEmpty) = false := by
        cases hh : ((s.data.toList.drop i).isEmpty && row.isEmpty) with
        | true => exact absurd hh hE
        | false => rfl
      rw [hE', if_neg (by decide)] at hI
      have hP : parse (m + 1 + 1) rows row (s.data.toList.drop i) = match stepP (s.data.toList.drop i) with
          | none => some ([], 2, (rows.length : Int), (row.length : Int))
          | some (c, true, t) => parse (m + 1) (rows ++ [row ++ [bA c]]) [] t
          | some (c, false, t) => parse (m + 1) rows (row ++ [bA c]) t := by
        rw [show m + 1 + 1 = (m + 1) + 1 from rfl]
        conv => lhs; unfold parse
        rw [hE', if_neg (by decide)]
      have hL : row = [] → spec_ReadCsv.l0 (k2 + 3) s rows (i : Int) = spec_ReadCsv.l1 (k2 + 2) s rows (i : Int) [] false := by
        intro hrow
        subst hrow
        have hlt : i < s.data.toList.length := by
          by_cases c : s.data.toList.length ≤ i
          · rw [List.drop_eq_nil_of_le c] at hE'; cases hE'
          · omega
        simp only [spec_ReadCsv.l0]
        rw [if_pos (by omega)]
      rw [hP, hI]
      rw [show k2 + 1 + 2 = k2 + 3 from rfl] at hS
      cases hst : stepP (s.data.toList.drop i) with
      | none =>
        rw [hst] at hS hS'
        refine ⟨_, rfl, rfl, fun hrow => ?_, fun _ => hS⟩
        rw [hL hrow, hS', hrow]
      | some cet =>
        obtain ⟨c, e, t⟩ := cet
        rw [hst] at hS hS'
        obtain ⟨s1, s2⟩ := stepP_suffix _ c t e hst
        have ht : t = s.data.toList.drop (s.data.toList.length - t.length) := suffix_drop (s1.trans (List.drop_suffix _ _))
        have htl : t.length ≤ s.data.toList.length := (s1.trans (List.drop_suffix _ _)).length_le
        have hne : row ++ [bA c] ≠ [] := by simp
        unfold todo at hm
        cases e
        · -- a comma
          have hlt : t.length < (s.data.toList.drop i).length := by
            rcases s2 with h | ⟨_, h⟩
            · exact h
            · cases h
          have hm2 : todo (s.data.toList.drop (s.data.toList.length - t.length)) (row ++ [bA c]) ≤ m := by
            unfold todo
            rw [← ht, if_neg hne]
            split at hm <;> omega
          obtain ⟨res, p1, p2, p3, p4⟩ := ih rows (row ++ [bA c]) (s.data.toList.length - t.length) k1 (k2 + 2) (by omega) hm2 (by omega) (by omega) (by omega) (by rw [List.length_append, List.length_singleton]; omega)
          have p1' := p1
          rw [← ht] at p1'
          have hb4 : ((s.data.toList.drop (s.data.toList.length - t.length)).isEmpty && (row ++ [bA c]).isEmpty) = false := by
            have : (row ++ [bA c]).isEmpty = false := by cases row <;> rfl
            rw [this, Bool.and_false]
          have q4 := p4 hb4
          refine ⟨res, p1', p2, fun hrow => ?_, fun _ => ?_⟩
          · rw [hL hrow, hS']
            simp only
            subst hrow
            obtain ⟨res', _, r2, _, r4⟩ := ih rows ([] ++ [bA c]) (s.data.toList.length - t.length) k1 (k2 + 1) (by omega) hm2 (by omega) (by omega) (by omega) (by simp; omega)
            rw [p2] at r2
            rw [Option.some.inj r2]
            exact r4 hb4
          · rw [hS]
            exact q4
        · -- the row's end
          have hm2 : todo (s.data.toList.drop (s.data.toList.length - t.length)) [] ≤ m := by
            unfold todo
            rw [← ht, if_pos rfl]
            rcases s2 with h | ⟨h, _⟩
            · split at hm <;> omega
            · have hrow : row ≠ [] := by
                intro hr2
                rw [h, hr2] at hE'
                cases hE'
              have : t.length = 0 := by
                have := s1.length_le
                rw [h] at this
                simpa using this
              rw [if_neg hrow] at hm
              omega
          obtain ⟨res, p1, p2, p3, _⟩ := ih (rows ++ [row ++ [bA c]]) [] (s.data.toList.length - t.length) k1 (k2 + 1) (by omega) hm2 (by omega) (by omega) (by rw [List.length_append, List.length_singleton]; omega) (by simp; omega)
          have p1' := p1
          rw [← ht] at p1'
          refine ⟨res, p1', p2, fun hrow => ?_, fun _ => ?_⟩
          · rw [hL hrow, hS']
            simp only
            subst hrow
            obtain ⟨res', _, r2, r3, _⟩ := ih (rows ++ [[] ++ [bA c]]) [] (s.data.toList.length - t.length) k1 k2 (by omega) hm2 (by omega) (by omega) (by rw [List.length_append, List.length_singleton]; omega) (by simp; omega)
            rw [p2] at r2
            rw [Option.some.inj r2]
            exact r3 rfl
          · rw [hS]
            exact p3 rfl
/-- The rows of a text: program and reference, and what they are. -/
theorem ReadCsv_both (s : ByteArray) (k : Nat) (hk : 60000 ≤ k) :
    ∃ res, impl_ReadCsv.f k s = some res ∧ spec_ReadCsv.f k s = some res ∧ ((s.size > 4000 ∧ res = ([], 1, 0, 0)) ∨ (s.size ≤ 4000 ∧ parse (2 * s.data.toList.length + 1) [] [] s.data.toList = some res)) := by
  have hz : s.data.toList.length = s.size := by rw [Array.length_toList]; rfl
  unfold impl_ReadCsv.f spec_ReadCsv.f
  simp only [Option.bind_some]
  by_cases c : (s.size : Int) > 4000
  · rw [if_pos c, if_pos c]
    exact ⟨_, rfl, rfl, .inl ⟨by omega, rfl⟩⟩
  · rw [if_neg c, if_neg c]
    obtain ⟨res, p1, p2, p3, _⟩ := both_l s (by omega) (2 * s.data.toList.length) [] [] 0 k k (by omega) (by unfold todo; rw [List.drop_zero, if_pos rfl]; omega) (by omega) (by omega) (by simp; omega) (by simp; omega)
    rw [List.drop_zero] at p1
    exact ⟨res, p2, p3 rfl, .inr ⟨by omega, p1⟩⟩

theorem drop_eq_iff {α : Type} (a b : List α) (i : Nat) (ha : i < a.length) (hb : i < b.length) : (a.drop i = b.drop i) ↔ (a[i] = b[i] ∧ a.drop (i + 1) = b.drop (i + 1)) := by
  rw [List.drop_eq_getElem_cons ha, List.drop_eq_getElem_cons hb]
  exact ⟨fun h => ⟨(List.cons.inj h).1, (List.cons.inj h).2⟩, fun h => by rw [h.1, h.2]⟩

theorem ba_eq_iff (a b : ByteArray) : a.toList = b.toList ↔ a = b := by
  rw [Lib.toList_data, Lib.toList_data]
  constructor
  · intro h
    have := Array.ext' h
    cases a; cases b
    simp_all
  · intro h; rw [h]
theorem spec_SameRows_l1 (a b : List (List ByteArray)) (i : Nat) (ha : i < a.length) (hb : i < b.length) (hla : a.length ≤ 1048576) (hal : a[i].length ≤ 1048576) (hab : a[i].length = b[i].length) (d : Nat) : ∀ (k j : Nat), j ≤ a[i].length → a[i].length - j = d → d < k →
    ∃ k', k - d - 1 ≤ k' ∧ k' ≤ k ∧ spec_SameRows.l1 k a b (i : Int) (j : Int) = if a[i].drop j = b[i].drop j then spec_SameRows.l0 k' a b ((i + 1 : Nat) : Int) else some false := by
  induction d with
  | zero =>
    intro k j hj hd hk
    obtain ⟨k, rfl⟩ : ∃ m, k = m + 1 := ⟨k - 1, by omega⟩
    refine ⟨k, by omega, by omega, ?_⟩
    simp only [spec_SameRows.l1]
    rw [rd_L1_at a i ha, if_pos (by omega), if_pos (by omega), if_neg (by omega), List.drop_eq_nil_of_le (by omega), List.drop_eq_nil_of_le (by omega), if_pos rfl, w64_id (n := (i : Int) + 1) (by omega) (by omega)]
    rfl
  | succ d ih =>
    intro k j hj hd hk
    obtain ⟨k, rfl⟩ : ∃ m, k = m + 1 := ⟨k - 1, by omega⟩
    have hlt : j < a[i].length := by omega
    have hlt2 : j < b[i].length := by omega
    have hg : rdOf ByteArray.empty a[i] (j : Int) = a[i][j] := by
      unfold rdOf; simp [List.getD, hlt]
    have hg2 : rdOf ByteArray.empty b[i] (j : Int) = b[i][j] := by
      unfold rdOf; simp [List.getD, hlt2]
    simp only [spec_SameRows.l1]
    rw [rd_L1_at a i ha, rd_L1_at b i hb, if_pos (by omega), if_pos (by omega), if_pos (by omega), if_pos (by omega), if_pos (by omega), if_pos (by omega), hg, hg2, w64_id (n := (j : Int) + 1) (by omega) (by omega)]
    by_cases c : a[i][j] = b[i][j]
    · rw [if_pos ((ba_eq_iff _ _).2 c)]
      obtain ⟨k', h1, h2, e⟩ := ih k (j + 1) (by omega) (by omega) (by omega)
      refine ⟨k', by omega, by omega, ?_⟩
      rw [show (j : Int) + 1 = ((j + 1 : Nat) : Int) from rfl, e]
      by_cases q : a[i].drop (j + 1) = b[i].drop (j + 1)
      · rw [if_pos q, if_pos ((drop_eq_iff _ _ j hlt hlt2).2 ⟨c, q⟩)]
      · rw [if_neg q, if_neg (fun h => q ((drop_eq_iff _ _ j hlt hlt2).1 h).2)]
    · refine ⟨k, by omega, by omega, ?_⟩
      rw [if_neg (fun h => c ((ba_eq_iff _ _).1 h)), if_neg (fun h => c ((drop_eq_iff _ _ j hlt hlt2).1 h).1)]
theorem spec_SameRows_l0 (a b : List (List ByteArray)) (hl : a.length ≤ 1048576) (hs : ∀ q ∈ a, q.length ≤ 1048576) (hab : a.length = b.length) (d : Nat) : ∀ (k i : Nat), i ≤ a.length → a.length - i = d → d + ((a.drop i).map List.length).sum + d < k → spec_SameRows.l0 k a b (i : Int) = some (decide (a.drop i = b.drop i)) := by
  induction d with
  | zero =>
    intro k i hi hd hk
    obtain ⟨k, rfl⟩ : ∃ m, k = m + 1 := ⟨k - 1, by omega⟩
    simp only [spec_SameRows.l0]
    rw [if_neg (by omega), List.drop_eq_nil_of_le (by omega), List.drop_eq_nil_of_le (by omega)]
    simp
  | succ d ih =>
    intro k i hi hd hk
    obtain ⟨k, rfl⟩ : ∃ m, k = m + 1 := ⟨k - 1, by omega⟩
    have hlt : i < a.length := by omega
    have hlt2 : i < b.length := by omega
    have hdr : a.drop i = a[i] :: a.drop (i + 1) := List.drop_eq_getElem_cons hlt
    rw [hdr] at hk
    simp only [List.map_cons, List.sum_cons] at hk
    simp only [spec_SameRows.l0]
    rw [if_pos (by omega), if_pos (by omega), if_pos (by omega), rd_L1_at a i hlt, rd_L1_at b i hlt2]
    by_cases c : a[i].length = b[i].length
    · rw [if_pos (by omega)]
      obtain ⟨k', h1, h2, e⟩ := spec_SameRows_l1 a b i hlt hlt2 hl (hs _ (List.getElem_mem hlt)) c a[i].length k 0 (by omega) (by omega) (by omega)
      rw [show ((0 : Nat) : Int) = (0 : Int) from rfl] at e
      rw [e, List.drop_zero, List.drop_zero]
      by_cases q : a[i] = b[i]
      · rw [if_pos q, ih k' (i + 1) (by omega) (by omega) (by omega)]
        congr 1
        exact decide_eq_decide.2 ⟨fun h => (drop_eq_iff a b i hlt hlt2).2 ⟨q, h⟩, fun h => ((drop_eq_iff a b i hlt hlt2).1 h).2⟩
      · rw [if_neg q, decide_eq_false (fun h => q ((drop_eq_iff a b i hlt hlt2).1 h).1)]
    · rw [if_neg (by omega), decide_eq_false (fun h => c (by rw [((drop_eq_iff a b i hlt hlt2).1 h).1]))]
theorem len_le_cost (l : List (List ByteArray)) : (l.map List.length).sum ≤ (l.map cost).sum := by
  induction l with
  | nil => simp
  | cons a t ih =>
    simp only [List.map_cons, List.sum_cons]
    unfold cost at *
    omega
theorem spec_SameRows_is (a b : List (List ByteArray)) (hl : a.length ≤ 1048576) (hs : ∀ q ∈ a, q.length ≤ 1048576) (k : Nat) (hk : a.length + (a.map List.length).sum + a.length < k) : spec_SameRows.f k a b = some (decide (a = b)) := by
  unfold spec_SameRows.f
  by_cases c : a.length = b.length
  · rw [if_pos (by omega)]
    have := spec_SameRows_l0 a b hl hs c a.length k 0 (by omega) (by omega) (by simpa using hk)
    simpa using this
  · rw [if_neg (by omega), decide_eq_false (fun h => c (by rw [h]))]

theorem FnCsvRead (b : List Int) (hb : b.length ≤ maxLen) (_ : b.length * 1 ≤ 140737488351232) (_ : ∀ x ∈ b, (Lit.int .u8 x).wf = true) : ∃ k, laws_FnCsvRead.f k b = some true := by
  refine ⟨8388608 + b.length, ?_⟩
  unfold maxLen at hb
  have hK : 8388608 ≤ 8388608 + b.length := by omega
  have hKb : b.length < 8388608 + b.length := by omega
  generalize 8388608 + b.length = K at hK hKb
  unfold laws_FnCsvRead.f
  rw [laws_big_eq]
  simp only [Option.bind_some]
  by_cases big : decide ((b.length : Int) > 1048576) = true
  · rw [if_pos big]
  rw [if_neg big]
  have hb2 : b.length ≤ 1048576 := by
    simp only [decide_eq_true_eq] at big
    omega
  obtain ⟨s, hD⟩ := DrawReadCsv_some b hb2 K hK hKb
  have hz : s.data.toList.length = s.size := by rw [Array.length_toList]; rfl
  obtain ⟨⟨L, f1, f2, f3⟩, t1, t2, h3⟩ := ReadCsv_both s K (by omega)
  rw [hD]; simp only [Option.bind_some]
  rw [t1]; simp only [Option.bind_some]
  rw [t2]; simp only [Option.bind_some]
  rw [if_neg (by simp)]
  clear hD t1 t2 big
  have bad : L = [] → f1 ≠ 0 → 0 ≤ f2 → f2 ≤ (s.size : Int) → 0 ≤ f3 → f3 ≤ (s.size : Int) → (if f1 = 0 then ((impl_CsvText.f K L).bind fun t362 => ((impl_ReadCsv.f K t362).bind fun bt363 => (if bt363.2.1 = 1 then (some true) else (if bt363.2.1 = 0 then ((spec_SameRows.f K bt363.1 L).bind fun t370 => (some t370)) else (some false))))) else (if (L.length : Int) = 0 then (if f2 ≥ 0 then (if f2 ≤ (s.size : Int) then (if f3 ≥ 0 then (some (decide (f3 ≤ (s.size : Int)))) else (some false)) else (some false)) else (some false)) else (some false))) = some true := by
    intro q0 q1 q2 q3 q4 q5
    rw [if_neg q1, q0, if_pos (show (([] : List (List ByteArray)).length : Int) = 0 from rfl), if_pos q2, if_pos q3, if_pos q4, decide_eq_true q5]
  rcases h3 with ⟨hs, e⟩ | ⟨hs, e⟩
  · simp only [Prod.mk.injEq] at e
    obtain ⟨rfl, rfl, rfl, rfl⟩ := e
    exact bad rfl (by decide) (by decide) (by omega) (by decide) (by omega)
  · rcases parse_fault _ _ _ _ _ _ _ _ s.size e (by simp only [List.length_nil]; omega) with ⟨a0, _, _⟩ | ⟨a2, q0, q2, q3, q4, q5⟩
    · have hn := parse_full _ _ _ _ _ _ _ _ e (fun q hq => by simp at hq)
      have hsz := parse_size _ _ _ _ _ _ _ _ e
      have hby := parse_bytes _ _ _ _ _ _ _ _ e
      have hco := cost_split L
      simp only [List.length_nil, List.map_nil, List.sum_nil, show szR [] = 0 from rfl] at hsz hby
      have u1 := impl_CsvText_is L (by omega) (by omega) K (by omega)
      obtain ⟨⟨M, g1, g2, g3⟩, u2, _, h4⟩ := ReadCsv_both (bA (csvT L)) K (by omega)
      have u5 := spec_SameRows_is L L (by omega) (fun q hq => by have := len_mem_sum hq; omega) K (by omega)
      rw [decide_eq_true rfl] at u5
      rw [if_pos a0, u1]
      simp only [Option.bind_some]
      rw [u2]
      simp only [Option.bind_some]
      rcases h4 with ⟨_, e4⟩ | ⟨_, e4⟩
      · simp only [Prod.mk.injEq] at e4
        rw [if_pos e4.2.1]
      · rw [bA_list, round_trip L hn] at e4
        have e5 := Option.some.inj e4
        simp only [Prod.mk.injEq] at e5
        obtain ⟨rfl, rfl, _, _⟩ := e5
        rw [if_neg (by decide), if_pos rfl, u5]
        rfl
    · exact bad q0 (by omega) q2 q3 q4 q5

end Go.Proofs.YtcbiijfiecjcaaaDoor.Pure
