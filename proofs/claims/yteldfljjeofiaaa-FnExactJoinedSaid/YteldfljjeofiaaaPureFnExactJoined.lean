/- Texts joined: program and reference give the same bytes. Conditions: each number is one of its kind, as the row says. -/
import Derived.Test.YteldfljjeofiaaaPFnExactJoinedx
import Derived.Test.YteldfljjeofiaaaBase
set_option linter.unusedSimpArgs false
set_option linter.unusedVariables false
namespace Go.Proofs.Yteldfljjeofiaaa.Pure
open Go.RowKit Go.Proofs.Yteldfljjeofiaaa.Base Go.Proofs.Yteldfljjeofiaaa.PFnExactJoined Go.Proofs.YteldfljjeofiaaaW.PrintWords Go.Proofs.YteldfljjeofiaaaW.PrintLast Go.Proofs.YteldfljjeofiaaaW.PrintMore

/-- What a row of strings takes of a purse. -/
theorem laws_szStringS_l (l : List ByteArray) (hl : l.length ≤ 1048576) (hs : ∀ s ∈ l, s.size ≤ 9223372036854775807) (d : Nat) : ∀ (k i : Nat) (x : Int), 0 ≤ x → x ≤ 1048576 → i ≤ l.length → l.length - i = d → d < k →
    ∃ r, laws_szStringS.l0 k l x (i : Int) = some r ∧ (0 ≤ r → ((((l.drop i).map ByteArray.size).sum : Nat) : Int) + r = x ∧ r ≤ x) := by
  induction d with
  | zero =>
    intro k i x x0 x1 hi hd hk
    obtain ⟨k, rfl⟩ : ∃ m, k = m + 1 := ⟨k - 1, by omega⟩
    simp only [laws_szStringS.l0]
    rw [if_neg (by omega)]
    have e : l.drop i = [] := List.drop_eq_nil_of_le (by omega)
    exact ⟨x, rfl, fun _ => by rw [e]; simp⟩
  | succ d ih =>
    intro k i x x0 x1 hi hd hk
    obtain ⟨k, rfl⟩ : ∃ m, k = m + 1 := ⟨k - 1, by omega⟩
    have hlt : i < l.length := by omega
    have hg : rdOf ByteArray.empty l (i : Int) = l[i] := by
      unfold rdOf; simp [List.getD, hlt]
    have hz := hs l[i] (List.getElem_mem hlt)
    have hdr : l.drop i = l[i] :: l.drop (i + 1) := List.drop_eq_getElem_cons hlt
    simp only [laws_szStringS.l0]
    rw [if_pos (by omega), if_pos (by omega), hg, hdr, w64_id (n := x - ((l[i]).size : Int)) (by omega) (by omega)]
    by_cases c : x - ((l[i]).size : Int) < 0
    · rw [if_pos c]
      exact ⟨-1, rfl, fun h => by omega⟩
    · rw [if_neg c, w64_id (n := (i : Int) + 1) (by omega) (by omega)]
      obtain ⟨r, e, hr⟩ := ih k (i + 1) (x - ((l[i]).size : Int)) (by omega) (by omega) (by omega) (by omega) (by omega)
      refine ⟨r, e, fun h => ?_⟩
      have := hr h
      simp only [List.map_cons, List.sum_cons]
      omega
theorem laws_szStringS_is (l : List ByteArray) (hl : l.length ≤ 9223372036854775807) (hs : ∀ s ∈ l, s.size ≤ 9223372036854775807) (x : Int) (x0 : 0 ≤ x) (x1 : x ≤ 1048576) (k : Nat) (hk : 1048577 ≤ k) :
    ∃ r, laws_szStringS.f k l x = some r ∧ (0 ≤ r → (l.length : Int) + (((l.map ByteArray.size).sum : Nat) : Int) + r = x) := by
  unfold laws_szStringS.f
  rw [w64_id (n := x - (l.length : Int)) (by omega) (by omega)]
  by_cases c : x - (l.length : Int) < 0
  · rw [if_pos c]
    exact ⟨-1, rfl, fun h => by omega⟩
  · rw [if_neg c]
    obtain ⟨r, e, hr⟩ := laws_szStringS_l l (by omega) hs l.length k 0 (x - (l.length : Int)) (by omega) (by omega) (by omega) (by omega) (by omega)
    refine ⟨r, e, fun h => ?_⟩
    have := hr h
    simp only [List.drop_zero] at this
    omega

theorem laws_toStringS_l (l : List ByteArray) (hl : l.length ≤ 1048576) (d : Nat) : ∀ (k i : Nat) (m : List ByteArray), i ≤ l.length → l.length - i = d → d < k → m.length = l.length → m.take i = l.take i → laws_toStringS.l0 k l m (i : Int) = some l := by
  induction d with
  | zero =>
    intro k i m hi hd hk hm ht
    obtain ⟨k, rfl⟩ : ∃ m, k = m + 1 := ⟨k - 1, by omega⟩
    simp only [laws_toStringS.l0]
    rw [if_neg (by omega)]
    have e1 : m.take i = m := List.take_of_length_le (by omega)
    have e2 : l.take i = l := List.take_of_length_le (by omega)
    rw [← e1, ht, e2]
  | succ d ih =>
    intro k i m hi hd hk hm ht
    obtain ⟨k, rfl⟩ : ∃ m, k = m + 1 := ⟨k - 1, by omega⟩
    have hlt : i < l.length := by omega
    have hg : rdOf ByteArray.empty l (i : Int) = l[i] := by
      unfold rdOf; simp [List.getD, hlt]
    have e : ((i : Int)).toNat = i := by omega
    simp only [laws_toStringS.l0]
    rw [if_pos (by omega), if_pos (by omega), if_pos (by omega), hg, e, w64_id (n := (i : Int) + 1) (by omega) (by omega)]
    refine ih k (i + 1) _ (by omega) (by omega) (by omega) (by rw [List.length_set]; exact hm) ?_
    rw [List.take_add_one, List.take_add_one, List.take_set_of_le (by omega), ht, List.getElem?_set_self (by omega), List.getElem?_eq_getElem hlt]
theorem laws_toStringS_is (l : List ByteArray) (hl : l.length ≤ 1048576) (k : Nat) (hk : l.length < k) : laws_toStringS.f k l = some l := by
  unfold laws_toStringS.f
  have e : ((l.length : Int)).toNat = l.length := by omega
  rw [if_pos (by omega), e, if_pos (by omega)]
  exact laws_toStringS_l l hl l.length k 0 _ (by omega) (by omega) hk (by simp) (by simp)

theorem join_len (sep : List UInt8) (h : sep.length ≤ 1048576) : ∀ xs : List (List UInt8), (Go.Lib.join xs sep).length ≤ (xs.map List.length).sum + xs.length * 1048576
  | [] => by simp [Go.Lib.join_nil]
  | [x] => by rw [Go.Lib.join_one]; simp
  | x :: y :: r => by
    have ih := join_len sep h (y :: r)
    rw [Go.Lib.join_cons]
    rw [Go.Lib.join_cons] at ih
    simp only [Go.Lib.joinTail, List.map_cons, List.flatten_cons, List.length_append, List.sum_cons, List.length_cons] at ih ⊢
    omega
theorem impl_Joined_is (l : List ByteArray) (by_ : ByteArray) (hl : l.length ≤ 1048576) (hs : (l.map ByteArray.size).sum ≤ 1048576) (hb : by_.size ≤ 1048576) : impl_Joined.f l by_ = some ⟨(Go.Lib.join (l.map (fun x => x.data.toList)) by_.data.toList).toArray⟩ := by
  unfold impl_Joined.f strings_Join.f
  have hz : by_.data.toList.length = by_.size := by rw [Array.length_toList]; rfl
  have j := join_len by_.data.toList (by omega) (l.map (fun x => x.data.toList))
  have e : (l.map (fun x => x.data.toList)).map List.length = l.map ByteArray.size := by
    rw [List.map_map]
    apply List.map_congr_left
    intro x _
    simp only [Function.comp]
    rw [Array.length_toList]; rfl
  rw [e, List.length_map] at j
  have c : l.length * 1048576 ≤ 1048576 * 1048576 := Nat.mul_le_mul_right _ hl
  rw [if_pos ⟨by omega, by omega⟩]
  rfl

theorem join_snoc (sep x : List UInt8) : ∀ xs : List (List UInt8), xs ≠ [] → Go.Lib.join (xs ++ [x]) sep = Go.Lib.join xs sep ++ (sep ++ x)
  | [], h => absurd rfl h
  | a :: r, _ => by
    rw [List.cons_append, Go.Lib.join_cons, Go.Lib.join_cons]
    simp [Go.Lib.joinTail]
theorem bytes_nums (s : ByteArray) : bytesOf s = s.data.toList.map (fun b => ((b.toNat : Nat) : Int)) := by
  unfold bytesOf
  rfl
theorem nums_str (l : List UInt8) : strOfNums (l.map (fun b => ((b.toNat : Nat) : Int))) = ⟨l.toArray⟩ := by
  unfold strOfNums
  rw [List.map_map]
  have e : l.map ((fun n => UInt8.ofNat (Int.toNat n)) ∘ fun b => ((b.toNat : Nat) : Int)) = l := by
    conv => rhs; rw [← List.map_id l]
    apply List.map_congr_left
    intro b _
    simp
  rw [e]
def numsOf (l : List UInt8) : List Int := l.map (fun b => ((b.toNat : Nat) : Int))
theorem spec_Joined_l (l : List ByteArray) (by_ : ByteArray) (hl : l.length ≤ 1048576) (hb : by_.size ≤ 1048576) (hs : ∀ s ∈ l, s.size ≤ 1048576) (d : Nat) : ∀ (k i : Nat), i ≤ l.length → l.length - i = d → d < k → (Go.Lib.join ((l.take i).map (fun x => x.data.toList)) by_.data.toList).length ≤ i * 2097152 →
    spec_Joined.l0 k l by_ (numsOf (Go.Lib.join ((l.take i).map (fun x => x.data.toList)) by_.data.toList)) (i : Int) = some ⟨(Go.Lib.join (l.map (fun x => x.data.toList)) by_.data.toList).toArray⟩ := by
  induction d with
  | zero =>
    intro k i hi hd hk _
    obtain ⟨k, rfl⟩ : ∃ m, k = m + 1 := ⟨k - 1, by omega⟩
    simp only [spec_Joined.l0]
    rw [if_neg (by omega), List.take_of_length_le (by omega)]
    unfold numsOf
    rw [nums_str]
  | succ d ih =>
    intro k i hi hd hk hj
    obtain ⟨k, rfl⟩ : ∃ m, k = m + 1 := ⟨k - 1, by omega⟩
    have hlt : i < l.length := by omega
    have hg : rdOf ByteArray.empty l (i : Int) = l[i] := by
      unfold rdOf; simp [List.getD, hlt]
    have hz := hs l[i] (List.getElem_mem hlt)
    have ht : (l.take (i + 1)).map (fun x => x.data.toList) = (l.take i).map (fun x => x.data.toList) ++ [(l[i]).data.toList] := by
      rw [List.take_add_one, List.getElem?_eq_getElem hlt, List.map_append]; rfl
    have hzb : by_.data.toList.length = by_.size := by rw [Array.length_toList]; rfl
    have hzi : (l[i]).data.toList.length = (l[i]).size := by rw [Array.length_toList]; rfl
    have im : i * 2097152 ≤ 1048576 * 2097152 := Nat.mul_le_mul_right _ (by omega)
    simp only [spec_Joined.l0]
    rw [if_pos (by omega), hg, w64_id (n := (i : Int) + 1) (by omega) (by omega), show (i : Int) + 1 = ((i + 1 : Nat) : Int) from rfl]
    by_cases z : i = 0
    · subst z
      rw [if_neg (by omega), if_pos (by omega)]
      have e0 : numsOf (Go.Lib.join ((l.take 0).map (fun x => x.data.toList)) by_.data.toList) = [] := by simp [numsOf, Go.Lib.join_nil]
      rw [e0]
      rw [if_pos (by simp; omega)]
      have e1 : ([] : List Int) ++ bytesOf l[0] = numsOf (Go.Lib.join ((l.take (0 + 1)).map (fun x => x.data.toList)) by_.data.toList) := by
        rw [ht]
        simp [Go.Lib.join_one, numsOf, bytes_nums]
      rw [e1]
      refine ih k (0 + 1) (by omega) (by omega) (by omega) ?_
      rw [ht]
      simp only [List.take_zero, List.map_nil, List.nil_append, Go.Lib.join_one]
      exact Nat.le_trans (by rw [hzi]; exact hz) (by decide)
    · have hne : (l.take i).map (fun x => x.data.toList) ≠ [] := by
        intro h
        have := congrArg List.length h
        rw [List.length_map, List.length_take, List.length_nil] at this
        omega
      have hn : (numsOf (Go.Lib.join ((l.take i).map (fun x => x.data.toList)) by_.data.toList)).length = (Go.Lib.join ((l.take i).map (fun x => x.data.toList)) by_.data.toList).length := by simp [numsOf]
      rw [if_pos (by omega), if_pos (by rw [hn]; omega)]
      simp only [Option.bind_some]
      have hbl : (bytesOf by_).length = by_.size := by rw [bytesOf_length]
      rw [if_pos (by omega), if_pos (by rw [List.length_append, hn, hbl]; omega)]
      have e1 : numsOf (Go.Lib.join ((l.take i).map (fun x => x.data.toList)) by_.data.toList) ++ bytesOf by_ ++ bytesOf l[i] = numsOf (Go.Lib.join ((l.take (i + 1)).map (fun x => x.data.toList)) by_.data.toList) := by
        rw [ht, join_snoc _ _ _ hne]
        simp [numsOf, bytes_nums]
      rw [e1]
      refine ih k (i + 1) (by omega) (by omega) (by omega) ?_
      rw [ht, join_snoc _ _ _ hne]
      simp only [List.length_append]
      omega
theorem spec_Joined_is (l : List ByteArray) (by_ : ByteArray) (hl : l.length ≤ 1048576) (hb : by_.size ≤ 1048576) (hs : ∀ s ∈ l, s.size ≤ 1048576) (k : Nat) (hk : l.length < k) : spec_Joined.f k l by_ = some ⟨(Go.Lib.join (l.map (fun x => x.data.toList)) by_.data.toList).toArray⟩ := by
  unfold spec_Joined.f
  have h := spec_Joined_l l by_ hl hb hs l.length k 0 (by omega) (by omega) hk (by simp [Go.Lib.join_nil])
  simpa [numsOf, Go.Lib.join_nil] using h

theorem laws_eqStringS_l (l : List ByteArray) (hs : l.length ≤ 1048577) (d : Nat) : ∀ (k i : Nat), i ≤ l.length → l.length - i = d → d < k → laws_eqStringS.l0 k l l (i : Int) = some true := by
  induction d with
  | zero =>
    intro k i hi hd hk
    obtain ⟨k, rfl⟩ : ∃ m, k = m + 1 := ⟨k - 1, by omega⟩
    simp only [laws_eqStringS.l0]
    rw [if_neg (by omega)]
  | succ d ih =>
    intro k i hi hd hk
    obtain ⟨k, rfl⟩ : ∃ m, k = m + 1 := ⟨k - 1, by omega⟩
    simp only [laws_eqStringS.l0]
    rw [if_pos (by omega), if_pos (by omega), if_pos (by omega), if_pos trivial, w64_id (by omega) (by omega)]
    exact ih k (i + 1) (by omega) (by omega) (by omega)
theorem laws_eqStringS_self (l : List ByteArray) (hs : l.length ≤ 1048577) (k : Nat) (hk : l.length < k) : laws_eqStringS.f k l l = some true := by
  unfold laws_eqStringS.f
  rw [if_pos rfl]
  exact laws_eqStringS_l l hs l.length k 0 (by omega) (by omega) hk

theorem sum_mem (l : List ByteArray) : ∀ s ∈ l, s.size ≤ (l.map ByteArray.size).sum := by
  induction l with
  | nil => simp
  | cons a r ih =>
    intro s hs
    simp only [List.map_cons, List.sum_cons]
    rcases List.mem_cons.1 hs with rfl | q
    · omega
    · have := ih s q; omega
theorem FnExactJoined (l : List ByteArray) (by_ : ByteArray) (hl : l.length ≤ maxLen) (hs : ∀ s ∈ l, s.size ≤ maxLen) (hb : by_.size ≤ 140737488351232) : ∃ k, laws_FnExactJoined.f k l by_ = some true := by
  refine ⟨1048600, ?_⟩
  unfold maxLen at hl hs
  unfold laws_FnExactJoined.f
  by_cases c : (by_.size : Int) > 1048576
  · rw [if_pos c]
  · rw [if_neg c]
    obtain ⟨r, e, hr⟩ := laws_szStringS_is l (by omega) (fun s h => by have := hs s h; omega) 1048576 (by omega) (by omega) 1048600 (by omega)
    rw [e]
    simp only [Option.bind_some]
    by_cases n : r < 0
    · rw [if_pos n]
    · rw [if_neg n]
      have q := hr (by omega)
      have hl2 : l.length ≤ 1048576 := by omega
      have hs2 : (l.map ByteArray.size).sum ≤ 1048576 := by omega
      have t1 := laws_toStringS_is l hl2 1048600 (by omega)
      have t2 := spec_Joined_is l by_ hl2 (by omega) (fun s h => by have := sum_mem l s h; omega) 1048600 (by omega)
      have t3 := impl_Joined_is l by_ hl2 hs2 (by omega)
      have t4 := laws_eqStringS_self l (by omega) 1048600 (by omega)
      generalize (1048600 : Nat) = K at *
      rw [t1]; simp only [Option.bind_some]
      rw [t2]; simp only [Option.bind_some]
      rw [t3]; simp only [Option.bind_some, if_true]
      rw [t4]; simp

end Go.Proofs.Yteldfljjeofiaaa.Pure
