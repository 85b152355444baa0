/- strings.IndexAny and strings.ContainsAny at four or more ASCII bytes to look for, in whatever string (bytes beyond ASCII and broken UTF-8 too), over any program that bears the library functions. Conditions stand in each theorem. -/
import Derived.Shelf.Strings.IndexAnyAll
import Derived.Shelf.Small.Utf8
import Derived.Laws.RangeAny
import Derived.Laws.Runes
import Derived.Deep.QuietTactic
import Derived.BigQuiet
import Derived.WalkKit
import Derived.Scope
import Derived.Lib.OthersKept
import Derived.Shelf.RegionOpenPlain
import Derived.Scope
namespace Go.Proofs.YtcbiijfiecjcaaaDoor.AnyByte
open Go.Shelf Go.RowKit Go.Lib Go.Proofs
variable {P : Program} {ρ : Ren}

theorem aside_ {p : Prop} (h : p) : Aside p := h
theorem indexByte_high : ∀ (l : List UInt8) (c : UInt8), (∀ b ∈ l, b.toNat < 128) → 128 ≤ c.toNat → Lib.indexByte l c = -1
  | [], _, _, _ => rfl
  | b :: l, c, h, hc => by
    have ih := indexByte_high l c (fun x hx => h x (by simp [hx])) hc
    have hb := h b (by simp)
    have hne : (b == c) = false := by
      rw [beq_eq_false_iff_ne]
      intro e
      rw [e] at hb
      omega
    rw [Lib.indexByte, hne, ih]
    rfl

theorem mem_of_at {s : ByteArray} (h : ∀ (j : Nat) b, s.data.toList[j]? = some b → b.toNat < 128) : ∀ b ∈ s.data.toList, b.toNat < 128 := fun b hb => by
  obtain ⟨j, hj, e⟩ := List.getElem_of_mem hb
  exact h j b (by rw [List.getElem?_eq_getElem hj, e])

set_option maxHeartbeats 8000000 in
set_option maxRecDepth 1000000 in
/-- strings.IndexRune at U+FFFD, in a string of ASCII bytes: -1. -/
theorem IndexRune_err (L : Lays.n152 P ρ) (s : ByteArray) (w : World) (has : ∀ (j : Nat) b, s.data.toList[j]? = some b → b.toNat < 128) :
    Calls P (ρ.f 152) #[.string s, .int .i32 65533] w fun e w' => e = .returned (.int .i64 (-1)) ∧ ∃ pos, w' = w.iter s pos := by
  have HA : Aside (∀ (j : Nat) b, s.data.toList[j]? = some b → b.toNat < 128) := has
  clear has
  have mixed := L.mixed
  have t3 := L.t3; have a3 := L.a3; have z3 := L.z3; have v3 := L.v3
  have t4 := L.t4; have a4 := L.a4; have z4 := L.z4; have v4 := L.v4
  have t5 := L.t5; have a5 := L.a5; have z5 := L.z5; have v5 := L.v5
  have t9 := L.t9; have a9 := L.a9; have z9 := L.z9; have v9 := L.v9
  have t21 := L.t21; have a21 := L.a21; have z21 := L.z21; have v21 := L.v21
  go_enter L.f152, Body.n152_ntmps ρ
  go_wp2
  go_loopg [5, 6] s.size (fun g _ _ wx => ∃ i : Nat, i + g = s.size ∧ wx = w.iter s i)
  case atStart => exact ⟨0, by omega, rfl⟩
  case round =>
    obtain ⟨i, hig, rfl⟩ := hrel
    cases gk with
    | zero =>
      obtain rfl : i = s.size := by omega
      have hnx := run_next_end (P := P) w s s.size
      go_wp2
      go_ret
      exact ⟨rfl, _, rfl⟩
    | succ g =>
      have hi : i < s.size := by omega
      obtain ⟨x, hx⟩ : ∃ x : UInt8, s[i]'hi = x := ⟨_, rfl⟩
      have hxl : s.data.toList[i]? = some x := by rw [← hx]; exact Lib.data_getElem? s i hi
      have hx128 : x.toNat < 128 := HA.out i x hxl
      have hnx := fun ty => run_next_ascii (P := P) w s i ty hi (by rw [hx]; exact hx128)
      rw [hx] at hnx
      have hno : ((x.toNat : Int) == 65533) = false := beq_eq_false_iff_ne.2 (by omega)
      clear hxl hx
      go_wp2
      go_roundg g
      case measure => omega
      case rel => exact ⟨i + 1, by omega, rfl⟩

set_option maxHeartbeats 8000000 in
set_option maxRecDepth 1000000 in
/-- strings.IndexRune at a rune beyond ASCII, in a string of ASCII bytes: -1. -/
theorem IndexRune_high (L : Lays.n152 P ρ) (s : ByteArray) (r : Int) (w : World) (h4 : 4 ≤ s.size) (hs : s.size < 4294967281) (has : ∀ (j : Nat) b, s.data.toList[j]? = some b → b.toNat < 128) (h0 : 128 ≤ r) (h1 : r ≤ 2147483647) (hne : r ≠ 65533) :
    Calls P (ρ.f 152) #[.string s, .int .i32 r] w fun e w' => e = .returned (.int .i64 (-1)) ∧ ∃ n, w' = w.drewN n := by
  have HM : Aside (∀ b ∈ s.data.toList, b.toNat < 128) := mem_of_at has
  clear has
  have hz1 : decide (r < 128) = false := decide_eq_false (by omega)
  have hz0 : decide (0 ≤ r) = true := decide_eq_true (by omega)
  have hz2 : (r == 65533) = false := beq_eq_false_iff_ne.2 hne
  have mixed := L.mixed
  have t3 := L.t3; have a3 := L.a3; have z3 := L.z3; have v3 := L.v3
  have t4 := L.t4; have a4 := L.a4; have z4 := L.z4; have v4 := L.v4
  have t5 := L.t5; have a5 := L.a5; have z5 := L.z5; have v5 := L.v5
  have t9 := L.t9; have a9 := L.a9; have z9 := L.z9; have v9 := L.v9
  have t21 := L.t21; have a21 := L.a21; have z21 := L.z21; have v21 := L.v21
  have t46 := L.t46; have a46 := L.a46; have z46 := L.z46; have v46 := L.v46
  have e137 : ∀ args w, (callFunc (ρ.f 137) args).run P w = .ok (.enter (ρ.f 137) args) w := enters_of L.f137 (by kernel_rfl) rfl
  have e119 : ∀ args w, (callFunc (ρ.f 119) args).run P w = .ok (.enter (ρ.f 119) args) w := enters_of L.f119 (by kernel_rfl) rfl
  cases hv : Lib.validRune r with
  | false =>
    go_enter L.f152, Body.n152_ntmps ρ
    go_wp2_with (go_at_fn (ρ.f 119); refine (Any.utf8_ValidRune { L with } _ _).mono ?_; rintro e w' ⟨rfl, hw⟩; rw [hw, hv])
    go_ret
    exact ⟨rfl, 0, rfl⟩
  | true =>
    obtain ⟨f2, f4, fl⟩ := encode_facts r (by rw [validRune_eq]; exact hv) h0
    obtain ⟨rs, hrs⟩ : ∃ rs, Utf8.encode r = rs := ⟨_, rfl⟩
    rw [hrs] at f2 f4 fl
    obtain ⟨k, hk⟩ : ∃ k, rs.size = k + 1 := ⟨rs.size - 1, by omega⟩
    have hk3 : k ≤ 3 := by omega
    have hk1 : 1 ≤ k := by omega
    have hkr : k < rs.size := by omega
    have hks : k < s.size := by omega
    obtain ⟨y, hy⟩ : ∃ y : UInt8, rs[k]'hkr = y := ⟨_, rfl⟩
    have hy128 : 128 ≤ y.toNat := by
      have := fl (by omega)
      rw [← hy]
      have e : rs.size - 1 = k := by omega
      simpa [e] using this
    obtain ⟨x, hx⟩ : ∃ x : UInt8, s[k]'hks = x := ⟨_, rfl⟩
    have hx128 : x.toNat < 128 := HM.out x (by rw [← hx]; exact List.mem_of_getElem? (Lib.data_getElem? s k hks))
    have hxy : ((x.toNat : Int) != (y.toNat : Int)) = true := by rw [bne_iff_ne]; omega
    have hxy2 : ((x.toNat : Int) == (y.toNat : Int)) = false := by rw [beq_eq_false_iff_ne]; omega
    have hib := indexByte_high (s.extract (k + 1) s.size).data.toList y (fun b hb => HM.out b (mem_extract hb)) hy128
    have hback : ((y.toNat : Int)).toNat.toUInt8 = y := by simp
    have hI := fun W => Any.strings_IndexByte (P := P) (ρ := ρ) { L with } (s.extract (k + 1) s.size) y.toNat W
    rw [hback, hib] at hI
    clear hib hback fl f2 f4
    go_enter L.f152, Body.n152_ntmps ρ
    go_wp2_with (go_at_fn (ρ.f 119); refine (Any.utf8_ValidRune { L with } _ _).mono ?_; rintro e w' ⟨rfl, hw⟩; rw [hw, hv])
    apply wp_scope_straight
    clear hv hz0 hz1 hz2
    go_wp2
    go_loopg [9] 1 (fun _ v9 wx => v9 = .int .i64 (k : Nat) ∧ wx = w)
    case atStart => exact ⟨rfl, rfl⟩
    case round =>
      obtain ⟨rfl, rfl⟩ := hrel
      go_wp2
      apply wp_scope_straight
      have HI := aside_ hI
      clear hI
      go_wp2
      go_region_o
      go_wp2
      have q1 : (k : Int) + 1 ≤ (s.size : Int) := by omega
      have q0 : (0 : Int) ≤ (k : Int) + 1 := by omega
      have q2 : IntKind.i64.wrap ((k : Int) + 1) = (k : Int) + 1 := wrap_small _ (by omega) (by omega)
      have q3 : ((k : Int) + 1).toNat = k + 1 := by omega
      have q5 : (k : Int) < (rs.size : Int) := by omega
      have q6 : (0 : Int) ≤ (k : Int) := by omega
      have q7 : ((k : Int)).toNat = k := by omega
      clear hk
      obtain ⟨W0, hW0⟩ : ∃ W0, wr.drew = W0 := ⟨_, rfl⟩
      rw [hW0]
      have HW := aside_ hW0
      clear hW0
      go_quiet_o (exact Calls.quiet_of_same (HI.out _))
      go_wp2
      simp only [Exit.noGoto, Exit.inBlock, Exit.then]
      go_ret
      refine ⟨rfl, 1 + nq, ?_⟩
      rw [← HW.out, ← World.drewN_drewN]
      rfl


/-- Both: a rune that no ASCII byte is. -/
theorem IndexRune_not (L : Lays.n152 P ρ) (s : ByteArray) (r : Int) (w : World) (h4 : 4 ≤ s.size) (hs : s.size < 4294967281) (has : ∀ (j : Nat) b, s.data.toList[j]? = some b → b.toNat < 128) (h0 : 128 ≤ r) (h1 : r ≤ 2147483647) :
    Calls P (ρ.f 152) #[.string s, .int .i32 r] w fun e w' => e = .returned (.int .i64 (-1)) ∧ Below w.heap.size w w' := by
  by_cases hr : r = 65533
  · subst hr
    refine (IndexRune_err L s w has).mono ?_
    rintro e w' ⟨rfl, pos, rfl⟩
    exact ⟨rfl, (Below.refl _ _).alloc (Nat.le_refl _) _⟩
  · refine (IndexRune_high L s r w h4 hs has h0 h1 hr).mono ?_
    rintro e w' ⟨rfl, n, rfl⟩
    exact ⟨rfl, (Below.refl _ _).trans ⟨rfl, rfl, rfl, Nat.le_refl _, fun _ _ => rfl⟩⟩


theorem decode_span (s : ByteArray) (pos : Nat) (h : pos < s.size) (ha : 128 ≤ (s[pos]'h).toNat) :
    1 ≤ (Utf8.decode s pos).2 ∧ pos + (Utf8.decode s pos).2 ≤ s.size ∧ ∀ (j : Nat) b, pos ≤ j → j < pos + (Utf8.decode s pos).2 → s.data.toList[j]? = some b → 128 ≤ b.toNat := by
  have hn : ¬ (s[pos]'h).toNat < 128 := by omega
  have g0 : ∀ b, s.data.toList[pos]? = some b → 128 ≤ b.toNat := fun b hb => by
    have e := Lib.data_getElem? s pos h
    rw [hb] at e
    rw [Option.some.inj e]
    exact ha
  have gk : ∀ k, pos + k < s.size → (s.get! (pos + k)).toNat / 64 = 2 → ∀ b, s.data.toList[pos + k]? = some b → 128 ≤ b.toNat := fun k hk hc b hb => by
    have e := Lib.data_getElem? s (pos + k) hk
    rw [hb] at e
    have e2 := get_at s (pos + k) hk
    rw [Nat.add_zero] at e2
    rw [Option.some.inj e, ← e2]
    omega
  have one : 1 ≤ 1 ∧ pos + 1 ≤ s.size ∧ ∀ (j : Nat) b, pos ≤ j → j < pos + 1 → s.data.toList[j]? = some b → 128 ≤ b.toNat := ⟨Nat.le_refl _, h, fun j b h1 h2 hb => by
    obtain rfl : j = pos := by omega
    exact g0 b hb⟩
  simp only [Utf8.decode, get_at s pos h, hn, if_false]
  split
  · rename_i c
    simp only [Bool.and_eq_true, decide_eq_true_eq, beq_iff_eq] at c
    split
    · refine ⟨by omega, by show pos + 2 ≤ s.size; omega, fun j b h1 h2 hb => ?_⟩
      replace h2 : j < pos + 2 := h2
      by_cases e : j = pos
      · subst e; exact g0 b hb
      · obtain rfl : j = pos + 1 := by omega
        exact gk 1 c.2.1 c.2.2 b hb
    · exact one
  · split
    · rename_i c
      simp only [Bool.and_eq_true, decide_eq_true_eq, beq_iff_eq] at c
      split
      · refine ⟨by omega, by show pos + 3 ≤ s.size; omega, fun j b h1 h2 hb => ?_⟩
        replace h2 : j < pos + 3 := h2
        by_cases e : j = pos
        · subst e; exact g0 b hb
        by_cases e1 : j = pos + 1
        · subst e1; exact gk 1 c.1.2.1 c.1.2.2 b hb
        obtain rfl : j = pos + 2 := by omega
        exact gk 2 c.2.1 c.2.2 b hb
      · exact one
    · split
      · rename_i c
        simp only [Bool.and_eq_true, decide_eq_true_eq, beq_iff_eq] at c
        split
        · refine ⟨by omega, by show pos + 4 ≤ s.size; omega, fun j b h1 h2 hb => ?_⟩
          replace h2 : j < pos + 4 := h2
          by_cases e : j = pos
          · subst e; exact g0 b hb
          by_cases e1 : j = pos + 1
          · subst e1; exact gk 1 c.1.1.2.1 c.1.1.2.2 b hb
          by_cases e2 : j = pos + 2
          · subst e2; exact gk 2 c.1.2.1 c.1.2.2 b hb
          obtain rfl : j = pos + 3 := by omega
          exact gk 3 c.2.1 c.2.2 b hb
        · exact one
      · exact one

theorem NoAny_span {s chars : List UInt8} {i n : Nat} (h : NoAny s chars i) (hc : ∀ b ∈ chars, b.toNat < 128) (hn : ∀ (j : Nat) b, i ≤ j → j < i + n → s[j]? = some b → 128 ≤ b.toNat) : NoAny s chars (i + n) := fun j b hj hb => by
  by_cases e : j < i
  · exact h j b e hb
  · have := hn j b (by omega) hj hb
    cases hx : chars.contains b with
    | false => rfl
    | true =>
      have hm : b ∈ chars := by simpa using hx
      have := hc b hm
      omega

set_option maxHeartbeats 8000000 in
set_option maxRecDepth 1000000 in
/-- strings.IndexAny of at most 8 bytes, whatever they are; chars of four or more ASCII bytes. -/
theorem IndexAny_short (L : Lays.n153 P ρ) (s chars : ByteArray) (w : World) (h4 : 4 ≤ chars.size) (hcs : chars.size < 4294967281) (h8 : s.size ≤ 8) (hac : ∀ (j : Nat) b, chars.data.toList[j]? = some b → b.toNat < 128) :
    Calls P (ρ.f 153) #[.string s, .string chars] w fun e w' => e = .returned (.int .i64 (Lib.indexAny s.data.toList chars.data.toList)) ∧ Below w.heap.size w w' := by
  have HA : Aside (∀ (j : Nat) b, chars.data.toList[j]? = some b → b.toNat < 128) := hac
  clear hac
  have hemp : chars.toList.isEmpty = false := by
    rw [Lib.toList_data]
    cases h : chars.data.toList with
    | nil => have := Lib.size_eq chars; rw [h, List.length_nil] at this; omega
    | cons _ _ => rfl
  have hn1 : ((chars.size : Int) == 1) = false := beq_eq_false_iff_ne.2 (by omega)
  have h8z : decide ((8 : Int) < (s.size : Int)) = false := decide_eq_false (by omega)
  have t3 := L.t3; have a3 := L.a3; have z3 := L.z3; have v3 := L.v3
  have t4 := L.t4; have a4 := L.a4; have z4 := L.z4; have v4 := L.v4
  have t5 := L.t5; have a5 := L.a5; have z5 := L.z5; have v5 := L.v5
  have t9 := L.t9; have a9 := L.a9; have z9 := L.z9; have v9 := L.v9
  have t21 := L.t21; have a21 := L.a21; have z21 := L.z21; have v21 := L.v21
  have e152 : ∀ args w, (callFunc (ρ.f 152) args).run P w = .ok (.enter (ρ.f 152) args) w := enters_of L.f152 (by kernel_rfl) rfl
  have e226 : ∀ args w, (callFunc (ρ.f 226) args).run P w = .ok (.enter (ρ.f 226) args) w := enters_of L.f226 (by kernel_rfl) rfl
  go_enter L.f153, Body.n153_ntmps ρ
  go_wp2_with (go_at_fn (ρ.f 226); refine (Any.strings_shouldUseASCIISet { L with } _ _).mono ?_; rintro e w' ⟨rfl, hw⟩; rw [hw, h8z])
  go_loopg [9, 10] s.size (fun g _ _ wx => ∃ i : Nat, i + g = s.size ∧ Aside (wx.heap[w.heap.size]? = some (.stringIter s i)) ∧ Aside (Below w.heap.size w wx) ∧ Aside (Lib.NoAny s.data.toList chars.data.toList i))
  case atStart => exact ⟨0, by omega, World.iter_heap _ _ _, (Below.refl _ _).alloc (Nat.le_refl _) _, Lib.NoAny.zero _ _⟩
  case round =>
    obtain ⟨i, hig, HK, HB, HN⟩ := hrel
    cases gk with
    | zero =>
      obtain rfl : i = s.size := by omega
      have hnx := fun ty => run_next_end_at (P := P) wr w.heap.size s s.size ty HK.out (Nat.lt_irrefl _)
      go_wp2
      go_ret
      exact ⟨by rw [Lib.indexAny_none (by rw [← Lib.size_eq]; exact HN.out)]; rfl, HB.out⟩
    | succ g =>
      have hi : i < s.size := by omega
      obtain ⟨x, hx⟩ : ∃ x : UInt8, s[i]'hi = x := ⟨_, rfl⟩
      have hxl : s.data.toList[i]? = some x := by rw [← hx]; exact Lib.data_getElem? s i hi
      have Hx : Aside (s.data.toList[i]? = some x) := hxl
      clear hxl
      by_cases hx128 : x.toNat < 128
      · have hnx := fun ty => run_next_ascii_at (P := P) wr w.heap.size s i ty HK.out hi (by rw [hx]; exact hx128)
        rw [hx] at hnx
        have HK2 : Aside ((wr.iterAt w.heap.size s (i + 1)).heap[w.heap.size]? = some (.stringIter s (i + 1))) := iterAt_heap _ _ _ _ _ HK.out
        have HB2 : Aside (Below w.heap.size w (wr.iterAt w.heap.size s (i + 1))) := below_iterAt HB.out (Nat.le_refl _) _ _
        generalize wr.iterAt w.heap.size s (i + 1) = W1 at hnx HK2 HB2
        clear hx HK HB
        have hcon := Lib.contains_iff_indexByte chars.data.toList x
        have hback : ((x.toNat : Int)).toNat.toUInt8 = x := by simp
        cases hin : chars.data.toList.contains x
        · rw [hin] at hcon
          have hlt : ¬ ((0 : Int) ≤ Lib.indexByte chars.data.toList x) := of_decide_eq_false hcon.symm
          clear hcon
          go_wp2_with (go_at_fn (ρ.f 152); refine (Any.strings_IndexRune_ascii { L with } _ _ _ (by omega) (by omega)).mono ?_; rintro e w' ⟨rfl, hw⟩; rw [hw, hback])
          go_roundg g
          case measure => omega
          case rel => exact ⟨i + 1, by omega, HK2, HB2, HN.out.succ Hx.out hin⟩
        · rw [hin] at hcon
          have hge : (0 : Int) ≤ Lib.indexByte chars.data.toList x := of_decide_eq_true hcon.symm
          clear hcon
          go_wp2_with (go_at_fn (ρ.f 152); refine (Any.strings_IndexRune_ascii { L with } _ _ _ (by omega) (by omega)).mono ?_; rintro e w' ⟨rfl, hw⟩; rw [hw, hback])
          go_ret
          exact ⟨by rw [Lib.indexAny_hit HN.out Hx.out hin]; rfl, HB2.out⟩
      · have hnx := fun ty => run_next_any_at (P := P) wr w.heap.size s i ty HK.out hi
        obtain ⟨d1, d2, d3⟩ := decode_span s i hi (by rw [hx]; omega)
        have hr0 := (decode_high s i hi (by rw [hx]; omega)).1
        have hr1 := decode_le s i
        have HK2 : Aside ((wr.iterAt w.heap.size s (i + (Utf8.decode s i).2)).heap[w.heap.size]? = some (.stringIter s (i + (Utf8.decode s i).2))) := iterAt_heap _ _ _ _ _ HK.out
        have HB2 : Aside (Below w.heap.size w (wr.iterAt w.heap.size s (i + (Utf8.decode s i).2))) := below_iterAt HB.out (Nat.le_refl _) _ _
        have HN2 : Aside (Lib.NoAny s.data.toList chars.data.toList (i + (Utf8.decode s i).2)) := NoAny_span HN.out (mem_of_at HA.out) d3
        clear d3
        generalize (Utf8.decode s i).2 = n at *
        generalize (Utf8.decode s i).1 = r at *
        generalize wr.iterAt w.heap.size s (i + n) = W1 at hnx HK2 HB2
        have hlt : w.heap.size < W1.heap.size := (Array.getElem?_eq_some_iff.1 HK2.out).1
        clear hx HK HB
        go_wp2_with (go_at_fn (ρ.f 152); refine (IndexRune_not { L with } _ _ _ h4 hcs HA.out (by omega) (by omega)).mono ?_; rintro e w' ⟨rfl, hb⟩; have HB3 := aside_ hb; clear hb)
        go_roundg (s.size - (i + n))
        case measure => omega
        case rel => exact ⟨i + n, by omega, (HB3.out.block _ hlt).trans HK2.out, HB2.out.trans (HB3.out.mono (Nat.le_of_lt hlt)), HN2⟩

/-- strings.IndexAny at chars of four or more ASCII bytes: every string. -/
theorem IndexAny_any (L : Lays.n153 P ρ) (h116 : (P.info? (ρ.t 116)).map (fun i => (i.zero, i.size)) = some (some (.agg (Array.replicate 256 (.bool false))), 256)) (s chars : ByteArray) (w : World) (h4 : 4 ≤ chars.size) (hs : s.size < 4294967281) (hcs : chars.size < 4294967281) (hac : ∀ (j : Nat) b, chars.data.toList[j]? = some b → b.toNat < 128) :
    Calls P (ρ.f 153) #[.string s, .string chars] w fun e w' => e = .returned (.int .i64 (Lib.indexAny s.data.toList chars.data.toList)) ∧ Below w.heap.size w w' := by
  by_cases h8 : s.size ≤ 8
  · exact IndexAny_short L s chars w h4 hcs h8 hac
  · refine (Any.strings_IndexAny_long L (zero_of_info h116).1 (zero_of_info h116).2 s chars w (by omega) (by omega) hs hcs hac).mono fun e w' ⟨h1, h2⟩ => ⟨h1, ?_⟩
    rw [h2]
    exact ((Below.refl _ _).alloc (Nat.le_refl _) _).alloc (by simp) _

set_option maxHeartbeats 1000000 in
/-- strings.ContainsAny at chars of four or more ASCII bytes: every string. -/
theorem ContainsAny_any (L : Lays.n150 P ρ) (h116 : (P.info? (ρ.t 116)).map (fun i => (i.zero, i.size)) = some (some (.agg (Array.replicate 256 (.bool false))), 256)) (s chars : ByteArray) (w : World) (h4 : 4 ≤ chars.size) (hs : s.size < 4294967281) (hcs : chars.size < 4294967281) (hac : ∀ (j : Nat) b, chars.data.toList[j]? = some b → b.toNat < 128) :
    Calls P (ρ.f 150) #[.string s, .string chars] w fun e w' => e = .returned (.bool (Lib.containsAny s.data.toList chars.data.toList)) ∧ Below w.heap.size w w' := by
  have c := IndexAny_any { L with } h116 s chars w h4 hs hcs hac
  have t3 := L.t3; have a3 := L.a3; have z3 := L.z3; have v3 := L.v3
  have t4 := L.t4; have a4 := L.a4; have z4 := L.z4; have v4 := L.v4
  have t9 := L.t9; have a9 := L.a9; have z9 := L.z9; have v9 := L.v9
  have e153 : ∀ args w, (callFunc (ρ.f 153) args).run P w = .ok (.enter (ρ.f 153) args) w := enters_of L.f153 (by kernel_rfl) rfl
  go_enter L.f150, Body.n150_ntmps ρ
  go_wp2_with (go_at_fn (ρ.f 153); refine c.mono ?_; rintro e w' ⟨rfl, hw⟩)
  go_ret
  exact ⟨rfl, hw⟩
theorem csv_ascii : ∀ (j : Nat) b, (⟨#[44, 34, 10, 13]⟩ : ByteArray).data.toList[j]? = some b → b.toNat < 128 := fun j b h => by
  have hm : b ∈ ([44, 34, 10, 13] : List UInt8) := List.mem_of_getElem? h
  simp only [List.mem_cons, List.not_mem_nil, or_false] at hm
  rcases hm with rfl | rfl | rfl | rfl <;> decide
#print axioms ContainsAny_any
end Go.Proofs.YtcbiijfiecjcaaaDoor.AnyByte
