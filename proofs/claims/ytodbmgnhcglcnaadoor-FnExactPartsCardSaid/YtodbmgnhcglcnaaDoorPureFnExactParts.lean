/- A text cut at a byte: program and reference give the same pieces, in memory of the call's own. Conditions: each number is one of its kind, as the row says. -/
import Derived.Test.YtodbmgnhcglcnaaDoorPFnExactPartsx
import Derived.Test.YtodbmgnhcglcnaaDoorBase
set_option linter.unusedSimpArgs false
set_option linter.unusedVariables false
namespace Go.Proofs.YtodbmgnhcglcnaaDoor.Pure
open Go.RowKit Go.Proofs.YtodbmgnhcglcnaaDoor.Base Go.Proofs.YtodbmgnhcglcnaaDoor.PFnExactParts Go.Proofs.YtodbmgnhcglcnaaDoorW.PrintWords Go.Proofs.YtodbmgnhcglcnaaDoorW.PrintLast Go.Proofs.YtodbmgnhcglcnaaDoorW.PrintMore

/-- A text cut at each byte c; what stands ahead of it belongs to the first piece. -/
def splitP (c : UInt8) (pre : List UInt8) : List UInt8 → List (List UInt8)
  | [] => [pre]
  | b :: l => if b = c then pre :: splitP c [] l else splitP c (pre ++ [b]) l
def ofL (l : List UInt8) : ByteArray := ⟨l.toArray⟩
theorem ofL_data (s : ByteArray) : ofL s.data.toList = s := by
  apply ByteArray.ext; simp [ofL]
theorem index_cons1 (b c : UInt8) (l : List UInt8) : Go.Lib.index (b :: l) [c] = if b = c then 0 else if Go.Lib.index l [c] = -1 then -1 else Go.Lib.index l [c] + 1 := by
  rw [Go.Lib.index]
  by_cases h : b = c
  · subst h; simp [List.isPrefixOf]
  · rw [if_neg (by simp [List.isPrefixOf]; exact fun e => h e.symm), if_neg h]
    by_cases m : Go.Lib.index l [c] = -1
    · rw [if_pos m, if_pos (beq_iff_eq.2 m)]
    · rw [if_neg m, if_neg (fun e => m (beq_iff_eq.1 e))]
theorem splitP_miss (c : UInt8) : ∀ (l pre : List UInt8), Go.Lib.index l [c] = -1 → splitP c pre l = [pre ++ l]
  | [], pre, _ => by simp [splitP]
  | b :: l, pre, h => by
    rw [index_cons1] at h
    by_cases e : b = c
    · rw [if_pos e] at h; cases h
    · rw [if_neg e] at h
      have m : Go.Lib.index l [c] = -1 := by
        by_cases m : Go.Lib.index l [c] = -1
        · exact m
        · rw [if_neg m] at h
          have := Go.Lib.index_ge l [c]
          omega
      rw [splitP, if_neg e, splitP_miss c l _ m]
      simp
theorem splitP_hit (c : UInt8) : ∀ (l pre : List UInt8) (i : Nat), Go.Lib.index l [c] = i → splitP c pre l = (pre ++ l.take i) :: splitP c [] (l.drop (i + 1))
  | [], pre, i, h => by simp [Go.Lib.index] at h
  | b :: l, pre, i, h => by
    rw [index_cons1] at h
    by_cases e : b = c
    · rw [if_pos e] at h
      have : i = 0 := by omega
      subst this
      rw [splitP, if_pos e]
      simp
    · rw [if_neg e] at h
      by_cases m : Go.Lib.index l [c] = -1
      · rw [if_pos m] at h; omega
      · rw [if_neg m] at h
        obtain ⟨j, rfl⟩ : ∃ j, i = j + 1 := ⟨i - 1, by have := Go.Lib.index_ge l [c]; omega⟩
        rw [splitP, if_neg e, splitP_hit c l _ j (by omega)]
        simp
theorem splitB_is (c : UInt8) : ∀ (k : Nat) (s : ByteArray), Go.Lib.countB s ⟨#[c]⟩ = k → Go.Lib.splitB ⟨#[c]⟩ 0 k s = (splitP c [] s.data.toList).map ofL
  | 0, s, hk => by
    rcases Go.Lib.indexB_cases s ⟨#[c]⟩ with hix | ⟨i, hix, _⟩
    · rw [Go.Lib.splitB_zero, splitP_miss c _ _ hix]; simp [ofL_data]
    · have := Go.Lib.countB_hit s ⟨#[c]⟩ i (Nat.le_refl 1) hix; omega
  | k + 1, s, hk => by
    rcases Go.Lib.indexB_cases s ⟨#[c]⟩ with hix | ⟨i, hix, _⟩
    · rw [Go.Lib.countB_miss s _ hix] at hk; omega
    · have hc := Go.Lib.countB_hit s ⟨#[c]⟩ i (Nat.le_refl 1) hix
      have e1 : (⟨#[c]⟩ : ByteArray).size = 1 := rfl
      rw [e1] at hc
      rw [Go.Lib.splitB_hit _ 0 k s i hix, splitP_hit c _ [] i hix, List.map_cons, e1, splitB_is c k _ (by omega), Go.Lib.extract_to_end]
      congr 1
      apply ByteArray.ext
      apply Array.ext'
      rw [Nat.add_zero, Go.Lib.extract_from_zero]
      simp [ofL]
theorem splitP_len (c : UInt8) : ∀ (l pre : List UInt8), 0 < (splitP c pre l).length ∧ (splitP c pre l).length ≤ l.length + 1
  | [], pre => by simp [splitP]
  | b :: l, pre => by
    have h1 := splitP_len c l []
    have h2 := splitP_len c l (pre ++ [b])
    rw [splitP]
    by_cases e : b = c
    · rw [if_pos e]; simp only [List.length_cons]; omega
    · rw [if_neg e]; simp only [List.length_cons]; omega
theorem bt_nat (s : ByteArray) (i : Nat) (h : i < s.data.toList.length) : bt s (i : Int) = ((s.data.toList[i]).toNat : Int) := by
  have h' : i < s.size := by rw [Array.length_toList] at h; exact h
  have e := bt_at s (i : Int) (by simpa using h')
  rw [← e]
  simp
  rfl

theorem ext_step (s : ByteArray) (f i : Nat) (hf : f ≤ i) (hi : i < s.size) : (s.data.toList.drop f).take (i + 1 - f) = (s.data.toList.drop f).take (i - f) ++ [s.data.toList[i]'(by simpa using hi)] := by
  have hl : i - f < (s.data.toList.drop f).length := by rw [List.length_drop, Array.length_toList]; have : s.data.size = s.size := rfl; omega
  rw [show i + 1 - f = (i - f) + 1 from by omega, List.take_add_one, List.getElem?_eq_getElem hl]
  simp only [List.getElem_drop, Option.toList_some]
  congr 3
  simp only [show f + (i - f) = i from by omega]
theorem ext_ofL (s : ByteArray) (a b : Nat) (hb : b ≤ s.size) : s.extract a b = ofL ((s.data.toList.drop a).take (b - a)) := by
  apply ByteArray.ext
  apply Array.ext'
  simp [ofL]
theorem spec_Parts_l (s : ByteArray) (c : UInt8) (hs : s.size ≤ 1048576) (d : Nat) : ∀ (k : Nat) (acc : List ByteArray) (f i : Nat), f ≤ i → i ≤ s.size → s.size - i = d → d + 1 < k → acc.length ≤ i →
    spec_Parts.l0 k s (c.toNat : Int) acc (f : Int) (i : Int) = some (acc ++ (splitP c ((s.data.toList.drop f).take (i - f)) (s.data.toList.drop i)).map ofL) := by
  induction d with
  | zero =>
    intro k acc f i hf hi hd hk ha
    obtain ⟨k, rfl⟩ : ∃ m, k = m + 1 := ⟨k - 1, by omega⟩
    have e : i = s.size := by omega
    subst e
    have dr : s.data.toList.drop s.size = [] := List.drop_eq_nil_of_le (by rw [Array.length_toList]; exact Nat.le_refl _)
    rw [dr, splitP]
    simp only [spec_Parts.l0]
    obtain ⟨k, rfl⟩ : ∃ m, k = m + 1 := ⟨k - 1, by omega⟩
    rw [if_pos (by omega), if_pos trivial, if_pos (by omega), if_pos (by omega), if_pos (by omega), w64_id (by omega) (by omega)]
    simp only [spec_Parts.l0]
    rw [if_neg (by omega)]
    have e1 : ((f : Int)).toNat = f := by omega
    have e2 : ((s.size : Int)).toNat = s.size := by omega
    rw [e1, e2, ext_ofL s f s.size (Nat.le_refl _)]
    rfl
  | succ d ih =>
    intro k acc f i hf hi hd hk ha
    obtain ⟨k, rfl⟩ : ∃ m, k = m + 1 := ⟨k - 1, by omega⟩
    have hlt : i < s.size := by omega
    have hl : i < s.data.toList.length := by rw [Array.length_toList]; exact hlt
    simp only [spec_Parts.l0]
    rw [if_pos (by omega), if_neg (by omega), if_pos (by omega), if_pos (by omega)]
    rw [w64_id (n := (i : Int) + 1) (by omega) (by omega), show (i : Int) + 1 = ((i + 1 : Nat) : Int) from rfl]
    have hdr : s.data.toList.drop i = s.data.toList[i] :: s.data.toList.drop (i + 1) := List.drop_eq_getElem_cons hl
    have hb : bt s (i : Int) = ((s.data.toList[i]).toNat : Int) := bt_nat s i hl
    rw [hdr, splitP, hb]
    by_cases e : s.data.toList[i] = c
    · rw [if_pos e, if_pos (by rw [e]), if_pos (by omega), if_pos (by omega), if_pos (by omega)]
      have e1 : ((f : Int)).toNat = f := by omega
      have e2 : ((i : Int)).toNat = i := by omega
      rw [e1, e2, ext_ofL s f i (by omega), ih k _ (i + 1) (i + 1) (Nat.le_refl _) (by omega) (by omega) (by omega) (by simp; omega)]
      simp
    · rw [if_neg e, if_neg (fun h => e (UInt8.toNat_inj.1 (by omega))), ih k acc f (i + 1) (by omega) (by omega) (by omega) (by omega) (by omega), ext_step s f i hf hlt]
theorem spec_Parts_is (s : ByteArray) (c : UInt8) (hs : s.size ≤ 1048576) (k : Nat) (hk : s.size + 1 < k) : spec_Parts.f k s (c.toNat : Int) = some ((splitP c [] s.data.toList).map ofL) := by
  unfold spec_Parts.f
  have h := spec_Parts_l s c hs s.size k [] 0 0 (by omega) (by omega) (by omega) hk (by simp)
  simpa using h

theorem impl_Parts_is (s : ByteArray) (c : UInt8) (hs : s.size < 4294967281) : impl_Parts.f s (c.toNat : Int) = some ((splitP c [] s.data.toList).map ofL) := by
  unfold impl_Parts.f strings_Split.f
  have e : strOfNums [(c.toNat : Int)] = ⟨#[c]⟩ := by simp [strOfNums]
  rw [e, if_pos ⟨hs, Nat.le_refl 1⟩, splitB_is c _ s rfl]
  rfl

theorem laws_eqStringS_l (l : List ByteArray) (hs : l.length ≤ 1048577) (d : Nat) : ∀ (k i : Nat), i ≤ l.length → l.length - i = d → d < k → laws_eqStringS.l0 k l l (i : Int) = some true := by
  induction d with
  | zero =>
    intro k i hi hd hk
    obtain ⟨k, rfl⟩ : ∃ m, k = m + 1 := ⟨k - 1, by omega⟩
    simp only [laws_eqStringS.l0]
    rw [if_neg (by omega)]
  | succ d ih =>
    intro k i hi hd hk
    obtain ⟨k, rfl⟩ : ∃ m, k = m + 1 := ⟨k - 1, by omega⟩
    simp only [laws_eqStringS.l0]
    rw [if_pos (by omega), if_pos (by omega), if_pos (by omega), if_pos trivial, w64_id (by omega) (by omega)]
    exact ih k (i + 1) (by omega) (by omega) (by omega)
theorem laws_eqStringS_self (l : List ByteArray) (hs : l.length ≤ 1048577) (k : Nat) (hk : l.length < k) : laws_eqStringS.f k l l = some true := by
  unfold laws_eqStringS.f
  rw [if_pos rfl]
  exact laws_eqStringS_l l hs l.length k 0 (by omega) (by omega) hk

/-- The decimal digits of a number, none for 0. -/
def digs (u : Nat) : List UInt8 := if u = 0 then [] else Go.Lib.decDigits u
theorem digs_step {u : Nat} (h : u ≠ 0) : digs u = digs (u / 10) ++ [UInt8.ofNat (48 + u % 10)] := by
  unfold digs
  rw [if_neg h]
  by_cases c : u < 10
  · rw [Go.Lib.decDigits_one c, if_pos (by omega)]
    have : u % 10 = u := Nat.mod_eq_of_lt c
    rw [this]; rfl
  · rw [Go.Lib.decDigits, dif_neg c, if_neg (by omega)]
theorem byte_of (n : Nat) (h : n < 10) : strOfNums [(wrap64 (48 + (n : Int))) % 256] = ⟨#[UInt8.ofNat (48 + n)]⟩ := by
  have e : (wrap64 (48 + (n : Int))) % 256 = ((48 + n : Nat) : Int) := by unfold wrap64; omega
  rw [e]
  rfl
theorem mk_app (a b : List UInt8) : (⟨a.toArray⟩ : ByteArray) ++ ⟨b.toArray⟩ = ⟨(a ++ b).toArray⟩ := by
  apply ByteArray.ext
  simp

/-- A mark's text. -/
def mkT (x : Int) : ByteArray := ⟨(109 :: digs x.natAbs).toArray⟩
theorem mk_sz (l : List UInt8) : (⟨l.toArray⟩ : ByteArray).size = l.length := by simp [ByteArray.size]
theorem laws_markText_l (d : Nat) : ∀ (k : Nat) (n : Nat) (acc : List UInt8), n < 10 ^ d → d < k → d + acc.length ≤ 40 → n ≤ 9223372036854775807 →
    laws_markText.l0 k (n : Int) ⟨acc.toArray⟩ = some ⟨(109 :: (digs n ++ acc)).toArray⟩ := by
  induction d with
  | zero =>
    intro k n acc h0 hk ha _
    obtain ⟨k, rfl⟩ : ∃ m, k = m + 1 := ⟨k - 1, by omega⟩
    have hn : n = 0 := by simpa using h0
    subst hn
    simp only [laws_markText.l0]
    rw [if_neg (by omega), mk_sz, if_pos (by omega)]
    have := mk_app [109] acc
    exact congrArg some (this.trans (by simp [digs]))
  | succ d ih =>
    intro k n acc h0 hk ha b1
    obtain ⟨k, rfl⟩ : ∃ m, k = m + 1 := ⟨k - 1, by omega⟩
    by_cases hn : n = 0
    · subst hn
      simp only [laws_markText.l0]
      rw [if_neg (by omega), mk_sz, if_pos (by omega)]
      have := mk_app [109] acc
      exact congrArg some (this.trans (by simp [digs]))
    · simp only [laws_markText.l0]
      rw [if_pos (by omega)]
      have q : n / 10 < 10 ^ d := by rw [Nat.pow_succ] at h0; omega
      have v3 := w64_id (n := ((n / 10 : Nat) : Int)) (by omega) (by omega)
      have hm : n % 10 < 10 := by omega
      have q2 : n / 10 ≤ 9223372036854775807 := by omega
      have e1 : Int.tdiv (n : Int) 10 = ((n / 10 : Nat) : Int) := (Int.ofNat_tdiv n 10).symm
      have e2 : Int.tmod (n : Int) 10 = ((n % 10 : Nat) : Int) := (Int.ofNat_tmod n 10).symm
      rw [e1, e2, v3]
      clear e1 e2 v3
      simp only [Option.bind_some]
      rw [byte_of _ hm]
      have e3 : (⟨#[UInt8.ofNat (48 + n % 10)]⟩ : ByteArray).size = 1 := rfl
      have e4 : (⟨#[UInt8.ofNat (48 + n % 10)]⟩ : ByteArray) ++ ⟨acc.toArray⟩ = ⟨(UInt8.ofNat (48 + n % 10) :: acc).toArray⟩ := mk_app [UInt8.ofNat (48 + n % 10)] acc
      rw [e3, mk_sz, if_pos (by omega), e4, ih k (n / 10) _ q (by omega) (by simp only [List.length_cons]; omega) q2, digs_step hn]
      simp
theorem laws_markText_is (n : Nat) (h0 : 0 < n) (h1 : n ≤ 9223372036854775807) (k : Nat) (hk : 20 < k) : laws_markText.f k (n : Int) = some (mkT n) := by
  unfold laws_markText.f
  rw [if_neg (by omega)]
  have h := laws_markText_l 20 k n [] (by omega) hk (by decide) h1
  have e0 : (⟨#[]⟩ : ByteArray) = ⟨([] : List UInt8).toArray⟩ := rfl
  rw [e0, h]
  simp [mkT]
/-- A row whose first i places bear marks. -/
def marked (x : Nat) (l : List ByteArray) (i : Nat) : List ByteArray := (List.range i).map (fun (j : Nat) => mkT ((x + j : Nat) : Int)) ++ l.drop i
theorem marked_len (x : Nat) (l : List ByteArray) (i : Nat) (h : i ≤ l.length) : (marked x l i).length = l.length := by simp [marked]; omega
theorem marked_set (x : Nat) (l : List ByteArray) (i : Nat) (h : i < l.length) : (marked x l i).set i (mkT ((x + i : Nat) : Int)) = marked x l (i + 1) := by
  unfold marked
  rw [List.set_append_right _ _ (by simp), List.range_succ, List.map_append]
  have e : i - ((List.range i).map (fun (j : Nat) => mkT ((x + j : Nat) : Int))).length = 0 := by simp
  rw [e, List.drop_eq_getElem_cons h, List.set_cons_zero]
  simp
theorem laws_markStringS_l (l : List ByteArray) (x : Nat) (h0 : 0 < x) (hx : x + l.length ≤ 9223372036854775807) (d : Nat) : ∀ (k i : Nat), i ≤ l.length → l.length - i = d → d + 21 < k →
    laws_markStringS.l0 k (marked x l i) ((x + i : Nat) : Int) (i : Int) = some (((x + l.length : Nat) : Int), marked x l l.length) := by
  induction d with
  | zero =>
    intro k i hi hd hk
    obtain ⟨k, rfl⟩ : ∃ m, k = m + 1 := ⟨k - 1, by omega⟩
    have : i = l.length := by omega
    subst this
    simp only [laws_markStringS.l0]
    rw [marked_len _ _ _ hi, if_neg (by omega)]
  | succ d ih =>
    intro k i hi hd hk
    obtain ⟨k, rfl⟩ : ∃ m, k = m + 1 := ⟨k - 1, by omega⟩
    simp only [laws_markStringS.l0]
    rw [marked_len _ _ _ hi, if_pos (by omega), laws_markText_is (x + i) (by omega) (by omega) k (by omega)]
    simp only [Option.bind_some]
    rw [if_pos (by omega), w64_id (n := ((x + i : Nat) : Int) + 1) (by omega) (by omega), w64_id (n := (i : Int) + 1) (by omega) (by omega)]
    have e : ((i : Int)).toNat = i := by omega
    rw [e, marked_set _ _ _ (by omega)]
    exact ih k (i + 1) (by omega) (by omega) (by omega)
theorem laws_markStringS_is (l : List ByteArray) (x : Nat) (h0 : 0 < x) (hx : x + l.length ≤ 9223372036854775807) (k : Nat) (hk : l.length + 21 < k) : laws_markStringS.f k l (x : Int) = some (((x + l.length : Nat) : Int), marked x l l.length) := by
  unfold laws_markStringS.f
  have h := laws_markStringS_l l x h0 hx l.length k 0 (by omega) (by omega) hk
  simpa [marked] using h
theorem marked_get (x : Nat) (l : List ByteArray) (i : Nat) (h : i < l.length) : rdOf ByteArray.empty (marked x l l.length) (i : Int) = mkT ((x + i : Nat) : Int) := by
  unfold rdOf marked
  simp [List.getD, h]
theorem laws_heldStringS_l (l : List ByteArray) (x : Nat) (h0 : 0 < x) (hx : x + l.length ≤ 9223372036854775807) (d : Nat) : ∀ (k i : Nat), i ≤ l.length → l.length - i = d → d + 21 < k →
    laws_heldStringS.l0 k (marked x l l.length) ((x + i : Nat) : Int) (i : Int) = some ((x + l.length : Nat) : Int) := by
  induction d with
  | zero =>
    intro k i hi hd hk
    obtain ⟨k, rfl⟩ : ∃ m, k = m + 1 := ⟨k - 1, by omega⟩
    have : i = l.length := by omega
    subst this
    simp only [laws_heldStringS.l0]
    rw [marked_len _ _ _ hi, if_neg (by omega)]
  | succ d ih =>
    intro k i hi hd hk
    obtain ⟨k, rfl⟩ : ∃ m, k = m + 1 := ⟨k - 1, by omega⟩
    simp only [laws_heldStringS.l0]
    rw [marked_len _ _ _ (Nat.le_refl _), if_pos (by omega), if_pos (by omega), laws_markText_is (x + i) (by omega) (by omega) k (by omega)]
    simp only [Option.bind_some]
    rw [marked_get _ _ _ (by omega), if_pos rfl, w64_id (n := ((x + i : Nat) : Int) + 1) (by omega) (by omega), w64_id (n := (i : Int) + 1) (by omega) (by omega)]
    exact ih k (i + 1) (by omega) (by omega) (by omega)
theorem laws_heldStringS_is (l : List ByteArray) (x : Nat) (h0 : 0 < x) (hx : x + l.length ≤ 9223372036854775807) (k : Nat) (hk : l.length + 21 < k) : laws_heldStringS.f k (marked x l l.length) (x : Int) = some ((x + l.length : Nat) : Int) := by
  unfold laws_heldStringS.f
  exact laws_heldStringS_l l x h0 hx l.length k 0 (by omega) (by omega) hk

theorem FnExactParts : laws_FnExactParts.Pure := by
  intro s b hs hb
  obtain ⟨c, rfl⟩ : ∃ c : UInt8, b = (c.toNat : Int) := by
    simp [Lit.wf, IntKind.min, IntKind.max, IntKind.signed, IntKind.bits] at hb
    refine ⟨UInt8.ofNat b.toNat, ?_⟩
    rw [UInt8.toNat_ofNat']
    omega
  by_cases big : (s.size : Int) > 1048576
  · exact ⟨0, by unfold laws_FnExactParts.f; rw [if_pos big]⟩
  · have hs2 : s.size ≤ 1048576 := by omega
    refine ⟨1048700, ?_⟩
    unfold laws_FnExactParts.f
    rw [if_neg big, spec_Parts_is s c hs2 _ (by omega), impl_Parts_is s c (by omega)]
    have hl := (splitP_len c s.data.toList []).2
    have hz : s.data.toList.length = s.size := by rw [Array.length_toList]; rfl
    have hm : ((splitP c [] s.data.toList).map ofL).length ≤ 1048577 := by rw [List.length_map]; omega
    generalize (splitP c [] s.data.toList).map ofL = l at hm
    clear hl
    have eE := laws_eqStringS_self l hm 1048700 (by omega)
    have eM := laws_markStringS_is l 1 (by decide) (by omega) 1048700 (by omega)
    have eH := laws_heldStringS_is l 1 (by decide) (by omega) 1048700 (by omega)
    have c1 : ((1 : Nat) : Int) = 1 := rfl
    rw [c1] at eM eH
    have ng : ¬ (((1 + l.length : Nat) : Int) < 0) := by omega
    generalize (1048700 : Nat) = K at *
    simp only [Option.bind_some, eE, if_true, eM, eH]
    rw [if_neg ng, if_neg ng]

end Go.Proofs.YtodbmgnhcglcnaaDoor.Pure
