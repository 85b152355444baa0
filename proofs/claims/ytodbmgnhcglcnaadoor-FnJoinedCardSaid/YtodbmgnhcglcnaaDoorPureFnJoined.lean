/- The pieces of a text, joined by the byte at which it was cut, are the text. Conditions: each number is one of its kind, as the row says. -/
import Derived.Test.YtodbmgnhcglcnaaDoorPFnJoinedx2
import Derived.Test.YtodbmgnhcglcnaaDoorBase
set_option linter.unusedSimpArgs false
set_option linter.unusedVariables false
namespace Go.Proofs.YtodbmgnhcglcnaaDoor.Pure
open Go.RowKit Go.Proofs.YtodbmgnhcglcnaaDoor.Base Go.Proofs.YtodbmgnhcglcnaaDoor.PFnJoined Go.Proofs.YtodbmgnhcglcnaaDoorW.PrintWords Go.Proofs.YtodbmgnhcglcnaaDoorW.PrintLast Go.Proofs.YtodbmgnhcglcnaaDoorW.PrintMore

theorem laws_big_eq (b : List Int) : laws_big.f b = some (decide ((b.length : Int) > 1048576)) := by
  unfold laws_big.f; rfl

theorem l1New_loop (b : List Int) (hb : b.length ≤ 140737488351232) (d : Nat) : ∀ (k : Nat) (x3 x4 : Int), 0 ≤ x4 → x4 ≤ b.length → (b.length : Int) - x4 = d → d < k → ∃ h, spec_l1New.l0 k b x3 x4 = some (b, 0, h) := by
  induction d with
  | zero =>
    intro k x3 x4 h0 h1 hd hk
    obtain ⟨k, rfl⟩ : ∃ m, k = m + 1 := ⟨k - 1, by omega⟩
    exact ⟨x3, by simp only [spec_l1New.l0]; rw [if_neg (by omega)]⟩
  | succ d ih =>
    intro k x3 x4 h0 h1 hd hk
    obtain ⟨k, rfl⟩ : ∃ m, k = m + 1 := ⟨k - 1, by omega⟩
    simp only [spec_l1New.l0]
    rw [if_pos (by omega)]
    by_cases c : x4 < 4000
    · rw [if_pos c, if_pos h0]
      have e : wrap64 (x4 + 1) = x4 + 1 := w64_id (by omega) (by omega)
      rw [e]
      exact ih k _ (x4 + 1) (by omega) (by omega) (by omega) (by omega)
    · rw [if_neg c]
      exact ⟨x3, rfl⟩
theorem l1New_some (b : List Int) (hb : b.length ≤ 140737488351232) (k : Nat) (hk : b.length < k) : ∃ h, spec_l1New.f k b = some (b, 0, h) := by
  unfold spec_l1New.f
  exact l1New_loop b hb b.length k _ 0 (by omega) (by omega) (by omega) hk

theorem l1Byte_some (b : List Int) (hb : b.length ≤ 140737488351232) (i h : Int) (hi : 0 ≤ i) : ∃ x i' h', spec_l1Byte.f b i h = some (x, i', h') ∧ 0 ≤ x ∧ x ≤ 255 ∧ 0 ≤ i' := by
  unfold spec_l1Byte.f
  by_cases c : i < (b.length : Int)
  · rw [if_pos c, if_pos hi]
    refine ⟨_, _, _, rfl, (and255 _).1, (and255 _).2, ?_⟩
    rw [w64_id (by omega) (by omega)]; omega
  · rw [if_neg c]
    exact ⟨_, _, _, rfl, (and255 _).1, (and255 _).2, hi⟩

theorem l1Below_some (b : List Int) (hb : b.length ≤ 140737488351232) (i h n : Int) (hi : 0 ≤ i) (hn : n ≤ 4294967296) : ∃ x i' h', spec_l1Below.f b i h n = some (x, i', h') ∧ 0 ≤ x ∧ (0 < n → x < n) ∧ 0 ≤ i' := by
  unfold spec_l1Below.f
  by_cases c : n ≤ 0
  · rw [if_pos c]
    exact ⟨_, _, _, rfl, by omega, fun _ => by omega, hi⟩
  · rw [if_neg c]
    by_cases d : n ≤ 256
    · rw [if_pos d]
      obtain ⟨x, i', h', e, x0, x1, hi'⟩ := l1Byte_some b hb i h hi
      rw [e]
      simp only [Option.bind_some]
      rw [if_neg (by omega)]
      have := tmod_range (n := n) x0 (by omega)
      exact ⟨_, _, _, rfl, this.1, fun _ => this.2, hi'⟩
    · rw [if_neg d]
      obtain ⟨x, i1, h1, e1, x0, x1, hi1⟩ := l1Byte_some b hb i h hi
      obtain ⟨y, i2, h2, e2, y0, y1, hi2⟩ := l1Byte_some b hb i1 h1 hi1
      obtain ⟨z, i3, h3, e3, z0, z1, hi3⟩ := l1Byte_some b hb i2 h2 hi2
      obtain ⟨u, i4, h4, e4, u0, u1, hi4⟩ := l1Byte_some b hb i3 h3 hi3
      rw [e1]; simp only [Option.bind_some]
      rw [e2]; simp only [Option.bind_some]
      rw [e3]; simp only [Option.bind_some]
      rw [e4]; simp only [Option.bind_some]
      rw [if_neg (by omega)]
      have e : wrap64 (wrap64 (wrap64 (wrap64 (x * 16777216) + wrap64 (y * 65536)) + wrap64 (z * 256)) + u) = x * 16777216 + y * 65536 + z * 256 + u := by
        unfold wrap64; omega
      rw [e]
      have := tmod_range (x := x * 16777216 + y * 65536 + z * 256 + u) (n := n) (by omega) (by omega)
      exact ⟨_, _, _, rfl, this.1, fun _ => this.2, hi4⟩

theorem l1Pick_some (b : List Int) (hb : b.length ≤ 140737488351232) (i h : Int) (l : List ByteArray) (hi : 0 ≤ i) (h0 : 0 < l.length) (hl : l.length ≤ 4294967296) : ∃ x i' h', spec_l1Pick.f b i h l = some (x, i', h') ∧ x ∈ l ∧ 0 ≤ i' := by
  unfold spec_l1Pick.f
  obtain ⟨x, i', h', e, x0, x1, hi'⟩ := l1Below_some b hb i h (l.length : Int) hi (by omega)
  have x2 := x1 (by omega)
  rw [e]
  simp only [Option.bind_some]
  rw [if_pos x0, if_pos x2]
  refine ⟨_, _, _, rfl, ?_, hi'⟩
  have : x.toNat < l.length := by omega
  unfold rdOf
  rw [List.getD_eq_getElem?_getD, List.getElem?_eq_getElem this]
  exact List.getElem_mem this

theorem l1PickInt_some (b : List Int) (hb : b.length ≤ 140737488351232) (i h : Int) (l : List Int) (hi : 0 ≤ i) (h0 : 0 < l.length) (hl : l.length ≤ 4294967296) : ∃ x i' h', spec_l1PickInt.f b i h l = some (x, i', h') ∧ x ∈ l ∧ 0 ≤ i' := by
  unfold spec_l1PickInt.f
  obtain ⟨x, i', h', e, x0, x1, hi'⟩ := l1Below_some b hb i h (l.length : Int) hi (by omega)
  have x2 := x1 (by omega)
  rw [e]
  simp only [Option.bind_some]
  rw [if_pos x0, if_pos x2]
  refine ⟨_, _, _, rfl, ?_, hi'⟩
  have : x.toNat < l.length := by omega
  unfold rd
  rw [List.getD_eq_getElem?_getD, List.getElem?_eq_getElem this]
  exact List.getElem_mem this

theorem bt_nat (s : ByteArray) (i : Nat) (h : i < s.data.toList.length) : bt s (i : Int) = ((s.data.toList[i]).toNat : Int) := by
  have h' : i < s.size := by rw [Array.length_toList] at h; exact h
  have e := bt_at s (i : Int) (by simpa using h')
  rw [← e]
  simp
  rfl

/-- A text cut at each byte c; what stands ahead of it belongs to the first piece. -/
def splitP (c : UInt8) (pre : List UInt8) : List UInt8 → List (List UInt8)
  | [] => [pre]
  | b :: l => if b = c then pre :: splitP c [] l else splitP c (pre ++ [b]) l
def ofL (l : List UInt8) : ByteArray := ⟨l.toArray⟩
theorem ofL_data (s : ByteArray) : ofL s.data.toList = s := by
  apply ByteArray.ext; simp [ofL]
theorem index_cons1 (b c : UInt8) (l : List UInt8) : Go.Lib.index (b :: l) [c] = if b = c then 0 else if Go.Lib.index l [c] = -1 then -1 else Go.Lib.index l [c] + 1 := by
  rw [Go.Lib.index]
  by_cases h : b = c
  · subst h; simp [List.isPrefixOf]
  · rw [if_neg (by simp [List.isPrefixOf]; exact fun e => h e.symm), if_neg h]
    by_cases m : Go.Lib.index l [c] = -1
    · rw [if_pos m, if_pos (beq_iff_eq.2 m)]
    · rw [if_neg m, if_neg (fun e => m (beq_iff_eq.1 e))]
theorem splitP_miss (c : UInt8) : ∀ (l pre : List UInt8), Go.Lib.index l [c] = -1 → splitP c pre l = [pre ++ l]
  | [], pre, _ => by simp [splitP]
  | b :: l, pre, h => by
    rw [index_cons1] at h
    by_cases e : b = c
    · rw [if_pos e] at h; cases h
    · rw [if_neg e] at h
      have m : Go.Lib.index l [c] = -1 := by
        by_cases m : Go.Lib.index l [c] = -1
        · exact m
        · rw [if_neg m] at h
          have := Go.Lib.index_ge l [c]
          omega
      rw [splitP, if_neg e, splitP_miss c l _ m]
      simp
theorem splitP_hit (c : UInt8) : ∀ (l pre : List UInt8) (i : Nat), Go.Lib.index l [c] = i → splitP c pre l = (pre ++ l.take i) :: splitP c [] (l.drop (i + 1))
  | [], pre, i, h => by simp [Go.Lib.index] at h
  | b :: l, pre, i, h => by
    rw [index_cons1] at h
    by_cases e : b = c
    · rw [if_pos e] at h
      have : i = 0 := by omega
      subst this
      rw [splitP, if_pos e]
      simp
    · rw [if_neg e] at h
      by_cases m : Go.Lib.index l [c] = -1
      · rw [if_pos m] at h; omega
      · rw [if_neg m] at h
        obtain ⟨j, rfl⟩ : ∃ j, i = j + 1 := ⟨i - 1, by have := Go.Lib.index_ge l [c]; omega⟩
        rw [splitP, if_neg e, splitP_hit c l _ j (by omega)]
        simp
theorem splitB_is (c : UInt8) : ∀ (k : Nat) (s : ByteArray), Go.Lib.countB s ⟨#[c]⟩ = k → Go.Lib.splitB ⟨#[c]⟩ 0 k s = (splitP c [] s.data.toList).map ofL
  | 0, s, hk => by
    rcases Go.Lib.indexB_cases s ⟨#[c]⟩ with hix | ⟨i, hix, _⟩
    · rw [Go.Lib.splitB_zero, splitP_miss c _ _ hix]; simp [ofL_data]
    · have := Go.Lib.countB_hit s ⟨#[c]⟩ i (Nat.le_refl 1) hix; omega
  | k + 1, s, hk => by
    rcases Go.Lib.indexB_cases s ⟨#[c]⟩ with hix | ⟨i, hix, _⟩
    · rw [Go.Lib.countB_miss s _ hix] at hk; omega
    · have hc := Go.Lib.countB_hit s ⟨#[c]⟩ i (Nat.le_refl 1) hix
      have e1 : (⟨#[c]⟩ : ByteArray).size = 1 := rfl
      rw [e1] at hc
      rw [Go.Lib.splitB_hit _ 0 k s i hix, splitP_hit c _ [] i hix, List.map_cons, e1, splitB_is c k _ (by omega), Go.Lib.extract_to_end]
      congr 1
      apply ByteArray.ext
      apply Array.ext'
      rw [Nat.add_zero, Go.Lib.extract_from_zero]
      simp [ofL]
theorem splitP_len (c : UInt8) : ∀ (l pre : List UInt8), 0 < (splitP c pre l).length ∧ (splitP c pre l).length ≤ l.length + 1
  | [], pre => by simp [splitP]
  | b :: l, pre => by
    have h1 := splitP_len c l []
    have h2 := splitP_len c l (pre ++ [b])
    rw [splitP]
    by_cases e : b = c
    · rw [if_pos e]; simp only [List.length_cons]; omega
    · rw [if_neg e]; simp only [List.length_cons]; omega

theorem ext_step (s : ByteArray) (f i : Nat) (hf : f ≤ i) (hi : i < s.size) : (s.data.toList.drop f).take (i + 1 - f) = (s.data.toList.drop f).take (i - f) ++ [s.data.toList[i]'(by simpa using hi)] := by
  have hl : i - f < (s.data.toList.drop f).length := by rw [List.length_drop, Array.length_toList]; have : s.data.size = s.size := rfl; omega
  rw [show i + 1 - f = (i - f) + 1 from by omega, List.take_add_one, List.getElem?_eq_getElem hl]
  simp only [List.getElem_drop, Option.toList_some]
  congr 3
  simp only [show f + (i - f) = i from by omega]
theorem ext_ofL (s : ByteArray) (a b : Nat) (hb : b ≤ s.size) : s.extract a b = ofL ((s.data.toList.drop a).take (b - a)) := by
  apply ByteArray.ext
  apply Array.ext'
  simp [ofL]
theorem spec_Parts_l (s : ByteArray) (c : UInt8) (hs : s.size ≤ 1048576) (d : Nat) : ∀ (k : Nat) (acc : List ByteArray) (f i : Nat), f ≤ i → i ≤ s.size → s.size - i = d → d + 1 < k → acc.length ≤ i →
    spec_Parts.l0 k s (c.toNat : Int) acc (f : Int) (i : Int) = some (acc ++ (splitP c ((s.data.toList.drop f).take (i - f)) (s.data.toList.drop i)).map ofL) := by
  induction d with
  | zero =>
    intro k acc f i hf hi hd hk ha
    obtain ⟨k, rfl⟩ : ∃ m, k = m + 1 := ⟨k - 1, by omega⟩
    have e : i = s.size := by omega
    subst e
    have dr : s.data.toList.drop s.size = [] := List.drop_eq_nil_of_le (by rw [Array.length_toList]; exact Nat.le_refl _)
    rw [dr, splitP]
    simp only [spec_Parts.l0]
    obtain ⟨k, rfl⟩ : ∃ m, k = m + 1 := ⟨k - 1, by omega⟩
    rw [if_pos (by omega), if_pos trivial, if_pos (by omega), if_pos (by omega), if_pos (by omega), w64_id (by omega) (by omega)]
    simp only [spec_Parts.l0]
    rw [if_neg (by omega)]
    have e1 : ((f : Int)).toNat = f := by omega
    have e2 : ((s.size : Int)).toNat = s.size := by omega
    rw [e1, e2, ext_ofL s f s.size (Nat.le_refl _)]
    rfl
  | succ d ih =>
    intro k acc f i hf hi hd hk ha
    obtain ⟨k, rfl⟩ : ∃ m, k = m + 1 := ⟨k - 1, by omega⟩
    have hlt : i < s.size := by omega
    have hl : i < s.data.toList.length := by rw [Array.length_toList]; exact hlt
    simp only [spec_Parts.l0]
    rw [if_pos (by omega), if_neg (by omega), if_pos (by omega), if_pos (by omega)]
    rw [w64_id (n := (i : Int) + 1) (by omega) (by omega), show (i : Int) + 1 = ((i + 1 : Nat) : Int) from rfl]
    have hdr : s.data.toList.drop i = s.data.toList[i] :: s.data.toList.drop (i + 1) := List.drop_eq_getElem_cons hl
    have hb : bt s (i : Int) = ((s.data.toList[i]).toNat : Int) := bt_nat s i hl
    rw [hdr, splitP, hb]
    by_cases e : s.data.toList[i] = c
    · rw [if_pos e, if_pos (by rw [e]), if_pos (by omega), if_pos (by omega), if_pos (by omega)]
      have e1 : ((f : Int)).toNat = f := by omega
      have e2 : ((i : Int)).toNat = i := by omega
      rw [e1, e2, ext_ofL s f i (by omega), ih k _ (i + 1) (i + 1) (Nat.le_refl _) (by omega) (by omega) (by omega) (by simp; omega)]
      simp
    · rw [if_neg e, if_neg (fun h => e (UInt8.toNat_inj.1 (by omega))), ih k acc f (i + 1) (by omega) (by omega) (by omega) (by omega) (by omega), ext_step s f i hf hlt]
theorem spec_Parts_is (s : ByteArray) (c : UInt8) (hs : s.size ≤ 1048576) (k : Nat) (hk : s.size + 1 < k) : spec_Parts.f k s (c.toNat : Int) = some ((splitP c [] s.data.toList).map ofL) := by
  unfold spec_Parts.f
  have h := spec_Parts_l s c hs s.size k [] 0 0 (by omega) (by omega) (by omega) hk (by simp)
  simpa using h

theorem impl_Parts_is (s : ByteArray) (c : UInt8) (hs : s.size < 4294967281) : impl_Parts.f s (c.toNat : Int) = some ((splitP c [] s.data.toList).map ofL) := by
  unfold impl_Parts.f strings_Split.f
  have e : strOfNums [(c.toNat : Int)] = ⟨#[c]⟩ := by simp [strOfNums]
  rw [e, if_pos ⟨hs, Nat.le_refl 1⟩, splitB_is c _ s rfl]
  rfl

theorem join_cons_cons (x y : List UInt8) (r : List (List UInt8)) (sep : List UInt8) : Go.Lib.join (x :: y :: r) sep = x ++ (sep ++ Go.Lib.join (y :: r) sep) := by
  rw [Go.Lib.join_cons, Go.Lib.join_cons]
  simp [Go.Lib.joinTail]
theorem join_splitP (c : UInt8) : ∀ (l pre : List UInt8), Go.Lib.join (splitP c pre l) [c] = pre ++ l
  | [], pre => by rw [splitP, Go.Lib.join_one]; simp
  | b :: l, pre => by
    rw [splitP]
    by_cases e : b = c
    · rw [if_pos e]
      have h := join_splitP c l []
      have hl := (splitP_len c l []).1
      cases hs : splitP c [] l with
      | nil => rw [hs] at hl; simp at hl
      | cons y r =>
        rw [hs] at h
        rw [join_cons_cons, h, e]
        simp
    · rw [if_neg e, join_splitP c l]
      simp
theorem DrawParts_some (b : List Int) (hb : b.length ≤ 140737488351232) (k : Nat) (hk : b.length < k) : ∃ (s : ByteArray) (c : UInt8), spec_DrawParts.f k b = some (s, (c.toNat : Int)) ∧ s.size ≤ 20 := by
  unfold spec_DrawParts.f
  obtain ⟨h, e⟩ := l1New_some b hb k hk
  rw [e]; simp only [Option.bind_some]
  have key : ∀ (L : List ByteArray) (M : List Int), 0 < L.length → L.length ≤ 4294967296 → (∀ y ∈ L, y.size ≤ 20) → 0 < M.length → M.length ≤ 4294967296 →
      ∃ (s : ByteArray) (c : UInt8), ((spec_l1Pick.f b 0 h L).bind fun bt152 => ((spec_l1PickInt.f b bt152.2.1 bt152.2.2 M).bind fun bt158 => (some (bt152.1, (bt158.1) % 256)))) = some (s, (c.toNat : Int)) ∧ s.size ≤ 20 := by
    intro L M l0 l1 hL m0 m1
    obtain ⟨y, i2, h2, e2, ym, i0⟩ := l1Pick_some b hb 0 h L (by omega) l0 l1
    rw [e2]; simp only [Option.bind_some]
    obtain ⟨x, i3, h3, e3, xm, _⟩ := l1PickInt_some b hb i2 h2 M i0 m0 m1
    rw [e3]; simp only [Option.bind_some]
    refine ⟨y, UInt8.ofNat (x % 256).toNat, ?_, hL y ym⟩
    rw [UInt8.toNat_ofNat']
    congr 2
    omega
  exact key _ _ (by decide) (by decide) (by
      simp only [List.forall_mem_cons, List.not_mem_nil, false_implies, implies_true, and_true]
      decide) (by decide) (by decide)
theorem FnJoined : laws_FnJoined.Pure := by
  intro b _ hb _
  refine ⟨b.length + 100, ?_⟩
  have hb' : b.length ≤ 140737488351232 := by omega
  unfold laws_FnJoined.f
  rw [laws_big_eq]; simp only [Option.bind_some]
  by_cases hbig : decide ((b.length : Int) > 1048576) = true
  · rw [if_pos hbig]
  · rw [if_neg hbig]
    obtain ⟨s, c, e, hs⟩ := DrawParts_some b hb' (b.length + 100) (by omega)
    rw [e]; simp only [Option.bind_some]
    rw [impl_Parts_is s c (by omega), spec_Parts_is s c (by omega) _ (by omega)]
    simp only [Option.bind_some]
    have hl := splitP_len c s.data.toList []
    have hz : s.data.toList.length = s.size := by rw [Array.length_toList]; rfl
    have hj := join_splitP c s.data.toList []
    rw [if_pos trivial, List.length_map, if_pos (by omega)]
    unfold impl_Joined.f strings_Join.f
    have em : ((splitP c [] s.data.toList).map ofL).map (fun x => x.data.toList) = splitP c [] s.data.toList := by
      rw [List.map_map]
      conv => rhs; rw [← List.map_id (splitP c [] s.data.toList)]
      apply List.map_congr_left
      intro x _
      simp [ofL]
    have ec : (strOfNums [(c.toNat : Int)]).data.toList = [c] := by simp [strOfNums]
    rw [em, ec, hj, List.length_map]
    rw [if_pos (by simp; omega)]
    simp only [Option.bind_some, List.nil_append]
    have e2 : (⟨s.data.toList.toArray⟩ : ByteArray) = s := by apply ByteArray.ext; simp
    rw [e2]
    simp

end Go.Proofs.YtodbmgnhcglcnaaDoor.Pure
