/- Contracts of Go functions, each with the Lean function that says what it computes: begun by the print, turned by this session. No condition beyond what each theorem states. -/
import Derived.Test.YtodbmgnhcglcnaaDoorPFnExactWideTextx0
import Derived.Test.YtodbmgnhcglcnaaDoorPFnExactWideTextx1
import Derived.Test.YtodbmgnhcglcnaaDoorPFnExactWideTextx2
namespace Go.Proofs.YtodbmgnhcglcnaaDoor.PFnExactWideText
open Go.RowKit Go.Proofs.YtodbmgnhcglcnaaDoorW.PrintWords Go.Proofs.YtodbmgnhcglcnaaDoorW.PrintLast Go.Proofs.YtodbmgnhcglcnaaDoorW.PrintMore
attribute [local go_sem] max2_int min2_int max_two min_two max_three min_three max_four min_four   -- for this text's walks alone
set_option linter.unusedVariables false
set_option linter.unusedSimpArgs false

/-! ### strings_Repeat: function 46, by the shelf -/
def strings_Repeat.f (a0 : ByteArray) (a1 : Int) : Option (ByteArray) := if 0 ≤ a1 ∧ a1 ≤ 9223372036854775807 ∧ a0.size * a1.toNat ≤ 140737488355328 then some ⟨(Lib.repeatL a0.data.toList a1.toNat).toArray⟩ else none
theorem strings_Repeat.calls (a0 : ByteArray) (a1 : Int) (r : ByteArray) (w : World) (h : strings_Repeat.f a0 a1 = some r) :
    Calls Tryd.prog 46 #[.string a0, .int .i64 a1] w fun e w' => e = .returned (.string r) ∧ Below w.heap.size w w' := by
  unfold strings_Repeat.f at h
  by_cases c : 0 ≤ a1 ∧ a1 ≤ 9223372036854775807 ∧ a0.size * a1.toNat ≤ 140737488355328
  · rw [if_pos c] at h
    obtain rfl := Option.some.inj h
    obtain ⟨c0, c1, c2⟩ := c
    obtain ⟨k, rfl⟩ := Int.eq_ofNat_of_zero_le c0
    refine (Tryd.strings_Repeat a0 k w (by omega) c2).mono ?_
    rintro e w' ⟨rfl, hb⟩
    exact ⟨rfl, hb⟩
  · rw [if_neg c] at h
    cases h
theorem rep_ {s : ByteArray} {x : Int} {r : ByteArray} (h : strings_Repeat.f s (wrap64 x) = some r) (e : wrap64 x = x) : strings_Repeat.f s x = some r := by
  rw [e] at h
  exact h

/-! ### impl_WideText: function 22 -/
mutual
def impl_WideText.j0 : Nat → ByteArray → Bool → Int → Int → Option (ByteArray)
  | 0, _, _, _, _ => none
  | k + 1, x3, x162000, x162001, x162002 => (bits_Div64.f k (Int.tmod x162001 10000000000000000000) x162002 10000000000000000000).bind fun bt163 => (if (IntKind.u64.wrap (Int.tdiv x162001 10000000000000000000)) = 0 then (impl_WideText.j1 k x3 (IntKind.u64.wrap (Int.tdiv x162001 10000000000000000000)) bt163.1 bt163.2 (bt163.1 == 0)) else (impl_WideText.j1 k x3 (IntKind.u64.wrap (Int.tdiv x162001 10000000000000000000)) bt163.1 bt163.2 false))
def impl_WideText.j1 : Nat → ByteArray → Int → Int → Int → Bool → Option (ByteArray)
  | 0, _, _, _, _, _ => none
  | k + 1, x3, x4, x6, x7, x35 => if x35 = true then ((strconv_FormatUint_45.f x7 10).bind fun t165 => (if x3.size + t165.size ≤ 9223372036854775807 then (some (x3 ++ t165)) else (none))) else ((bits_Div64.f k x4 x6 10000000000000000000).bind fun bt166 => ((strconv_FormatUint_45.f x7 10).bind fun t168 => ((strings_Repeat.f (⟨#[48]⟩ : ByteArray) (wrap64 (19 - (t168.size : Int)))).bind fun t169 => (if t169.size + t168.size ≤ 9223372036854775807 then ((strconv_FormatUint_45.f bt166.2 10).bind fun t170 => (if bt166.1 = 0 then (if x3.size + t170.size ≤ 9223372036854775807 then (if (x3 ++ t170).size + (t169 ++ t168).size ≤ 9223372036854775807 then (some ((x3 ++ t170) ++ (t169 ++ t168))) else (none)) else (none)) else ((strconv_FormatUint_45.f bt166.1 10).bind fun t171 => (if x3.size + t171.size ≤ 9223372036854775807 then ((strings_Repeat.f (⟨#[48]⟩ : ByteArray) (wrap64 (19 - (t170.size : Int)))).bind fun t172 => (if (x3 ++ t171).size + t172.size ≤ 9223372036854775807 then (if ((x3 ++ t171) ++ t172).size + t170.size ≤ 9223372036854775807 then (if (((x3 ++ t171) ++ t172) ++ t170).size + (t169 ++ t168).size ≤ 9223372036854775807 then (some ((((x3 ++ t171) ++ t172) ++ t170) ++ (t169 ++ t168))) else (none)) else (none)) else (none))) else (none))))) else (none)))))
end
def impl_WideText.f (k : Nat) (a0_0 : Bool) (a0_1 : Int) (a0_2 : Int) : Option (ByteArray) := (impl_WideOk.f a0_0 a0_1 a0_2).bind fun t162 => (if t162 = true then (if a0_0 = true then (impl_WideText.j0 k (⟨#[45]⟩ : ByteArray) a0_0 a0_1 a0_2) else (impl_WideText.j0 k (⟨#[]⟩ : ByteArray) a0_0 a0_1 a0_2)) else (some (⟨#[]⟩ : ByteArray)))
theorem impl_WideText.mono_l : ∀ k, (∀ y0 y1 y2 y3, LeO (impl_WideText.j0 k y0 y1 y2 y3) (impl_WideText.j0 (k + 1) y0 y1 y2 y3)) ∧ (∀ y0 y1 y2 y3 y4, LeO (impl_WideText.j1 k y0 y1 y2 y3 y4) (impl_WideText.j1 (k + 1) y0 y1 y2 y3 y4))
  | 0 => ⟨fun _ _ _ _ r h => by simp [impl_WideText.j0] at h, fun _ _ _ _ _ r h => by simp [impl_WideText.j1] at h⟩
  | k + 1 => by
    obtain ⟨ih0, ih1⟩ := impl_WideText.mono_l k
    refine ⟨?_, ?_⟩
    · intro y0 y1 y2 y3
      unfold impl_WideText.j0
      repeat' first
      | (with_reducible exact ih0 _ _ _ _)
      | (with_reducible exact ih1 _ _ _ _ _)
      | (with_reducible exact bits_Div64.mono _ _ _ _)
      | (with_reducible exact LeO.refl _)
      | (with_reducible exact LeO.none _)
      | (with_reducible refine LeO.ite ?_ ?_)
      | (with_reducible refine LeO.bind ?_ (fun _ => ?_))
      | exact ih0 _ _ _ _
      | exact ih1 _ _ _ _ _
      | exact bits_Div64.mono _ _ _ _
      | exact LeO.none _
      | refine LeO.ite ?_ ?_
      | refine LeO.bind ?_ (fun _ => ?_)
    · intro y0 y1 y2 y3 y4
      unfold impl_WideText.j1
      repeat' first
      | (with_reducible exact ih0 _ _ _ _)
      | (with_reducible exact ih1 _ _ _ _ _)
      | (with_reducible exact bits_Div64.mono _ _ _ _)
      | (with_reducible exact LeO.refl _)
      | (with_reducible exact LeO.none _)
      | (with_reducible refine LeO.ite ?_ ?_)
      | (with_reducible refine LeO.bind ?_ (fun _ => ?_))
      | exact ih0 _ _ _ _
      | exact ih1 _ _ _ _ _
      | exact bits_Div64.mono _ _ _ _
      | exact LeO.none _
      | refine LeO.ite ?_ ?_
      | refine LeO.bind ?_ (fun _ => ?_)
theorem impl_WideText.mono : ∀ a0 a1 a2 k, LeO (impl_WideText.f k a0 a1 a2) (impl_WideText.f (k + 1) a0 a1 a2) := by
  intro a0 a1 a2 k
  obtain ⟨ih0, ih1⟩ := impl_WideText.mono_l k
  unfold impl_WideText.f
  repeat' first
      | (with_reducible exact ih0 _ _ _ _)
      | (with_reducible exact ih1 _ _ _ _ _)
      | (with_reducible exact bits_Div64.mono _ _ _ _)
      | (with_reducible exact LeO.refl _)
      | (with_reducible exact LeO.none _)
      | (with_reducible refine LeO.ite ?_ ?_)
      | (with_reducible refine LeO.bind ?_ (fun _ => ?_))
      | exact ih0 _ _ _ _
      | exact ih1 _ _ _ _ _
      | exact bits_Div64.mono _ _ _ _
      | exact LeO.none _
      | refine LeO.ite ?_ ?_
      | refine LeO.bind ?_ (fun _ => ?_)
set_option maxHeartbeats 8000000 in
set_option maxRecDepth 100000 in
theorem impl_WideText.calls (k : Nat) (a0_0 : Bool) (a0_1 : Int) (a0_2 : Int) (r : ByteArray) (w : World) (h : impl_WideText.f k a0_0 a0_1 a0_2 = some r) (hl : Laid w) :
    Calls Tryd.prog 22 #[.agg #[.bool a0_0, .int .u64 a0_1, .int .u64 a0_2]] w fun e w' => e = .returned (.string r) ∧ Below w.heap.size w w' := by
  have hu38 := Tryd.underlying38
  have HB := Aside0.mk (Below.refl w.heap.size w)
  have H : ((impl_WideOk.f a0_0 a0_1 a0_2).bind fun t162 => (if t162 = true then (if a0_0 = true then (impl_WideText.j0 k (⟨#[45]⟩ : ByteArray) a0_0 a0_1 a0_2) else (impl_WideText.j0 k (⟨#[]⟩ : ByteArray) a0_0 a0_1 a0_2)) else (some (⟨#[]⟩ : ByteArray)))) = some r := h
  clear h
  replace H := Option.bind_eq_some_iff.mp H
  obtain ⟨t162, A20, H⟩ := H
  replace H : (if t162 = true then (if a0_0 = true then (impl_WideText.j0 k (⟨#[45]⟩ : ByteArray) a0_0 a0_1 a0_2) else (impl_WideText.j0 k (⟨#[]⟩ : ByteArray) a0_0 a0_1 a0_2)) else (some (⟨#[]⟩ : ByteArray))) = some r := H
  have A2 := Aside0.mk A20
  clear A20
  by_cases c3 : t162 = true
  · subst c3
    have H1 : (if a0_0 = true then (impl_WideText.j0 k (⟨#[45]⟩ : ByteArray) a0_0 a0_1 a0_2) else (impl_WideText.j0 k (⟨#[]⟩ : ByteArray) a0_0 a0_1 a0_2)) = some r := by rw [if_pos rfl] at H; exact H
    clear H
    have H := H1
    clear H1
    have HC4 := Aside0.mk H
    clear H
    go_enter Tryd.func22, Tryd.ntmps22
    go_upto_if 16 with (first | ((with_reducible refine gate_dst (N := 1) rfl ?_); refine box_event ?hg (N := 1) ?hd (cs := #[.bool a0_0, .int .u64 a0_1, .int .u64 a0_2]) (t := 38) ?hr ?_; (case hd => rfl); (case hg => rfl); (case hr => first | (go_simp; done) | (go_simp; rfl)); intro gb161 hg w5 hbox hb; have n0_ := Aside0.mk (below_step bel_ hb); have n1_ := Aside0.mk (hbox); have n2_ := bs_ (w := w) hg; have n3_ := bs_ (w := w) hg; clear HB; have HB := n0_; have BK161 := n1_; have GW161 := n2_; have GE161 := n3_; clear n0_ n1_ n2_ n3_; clear hb hbox hg; obtain ⟨hcz6_0, hcz6_1, hcz6_2, hfz6_0, hfz6_1, hfz6_2⟩ := cf3_ (w := w5) BK161.out) | (go_at_call 43; (with_reducible refine (impl_WideOk.calls a0_0 a0_1 a0_2 true _ A2.out).mono ?_); rintro e w7 ⟨rfl, hb⟩; have n0_ := bb_ (g := gb161) hb; have n1_ := Aside0.mk (below_step bel_ hb); clear BK161; clear HB; have BK161 := n0_; have HB := n1_; clear n0_ n1_; (try clear hb); (try clear hb2); (try clear hk); (try clear hi); obtain ⟨hcz8_0, hcz8_1, hcz8_2, hfz8_0, hfz8_1, hfz8_2⟩ := cf3_ (w := w7) BK161.out))
    repeat (go_quiet (first | ((with_reducible refine gate_dst (N := 1) rfl ?_); refine box_event ?hg (N := 1) ?hd (cs := #[.bool a0_0, .int .u64 a0_1, .int .u64 a0_2]) (t := 38) ?hr ?_; (case hd => rfl); (case hg => rfl); (case hr => first | (go_simp; done) | (go_simp; rfl)); intro gb161 hg w5 hbox hb; have n0_ := Aside0.mk (below_step bel_ hb); have n1_ := Aside0.mk (hbox); have n2_ := bs_ (w := w) hg; have n3_ := bs_ (w := w) hg; clear HB; have HB := n0_; have BK161 := n1_; have GW161 := n2_; have GE161 := n3_; clear n0_ n1_ n2_ n3_; clear hb hbox hg; obtain ⟨hcz6_0, hcz6_1, hcz6_2, hfz6_0, hfz6_1, hfz6_2⟩ := cf3_ (w := w5) BK161.out) | (go_at_call 43; (with_reducible refine (impl_WideOk.calls a0_0 a0_1 a0_2 true _ A2.out).mono ?_); rintro e w7 ⟨rfl, hb⟩; have n0_ := bb_ (g := gb161) hb; have n1_ := Aside0.mk (below_step bel_ hb); clear BK161; clear HB; have BK161 := n0_; have HB := n1_; clear n0_ n1_; (try clear hb); (try clear hb2); (try clear hk); (try clear hi); obtain ⟨hcz8_0, hcz8_1, hcz8_2, hfz8_0, hfz8_1, hfz8_2⟩ := cf3_ (w := w7) BK161.out)); go_upto_if 16 with (first | ((with_reducible refine gate_dst (N := 1) rfl ?_); refine box_event ?hg (N := 1) ?hd (cs := #[.bool a0_0, .int .u64 a0_1, .int .u64 a0_2]) (t := 38) ?hr ?_; (case hd => rfl); (case hg => rfl); (case hr => first | (go_simp; done) | (go_simp; rfl)); intro gb161 hg w5 hbox hb; have n0_ := Aside0.mk (below_step bel_ hb); have n1_ := Aside0.mk (hbox); have n2_ := bs_ (w := w) hg; have n3_ := bs_ (w := w) hg; clear HB; have HB := n0_; have BK161 := n1_; have GW161 := n2_; have GE161 := n3_; clear n0_ n1_ n2_ n3_; clear hb hbox hg; obtain ⟨hcz6_0, hcz6_1, hcz6_2, hfz6_0, hfz6_1, hfz6_2⟩ := cf3_ (w := w5) BK161.out) | (go_at_call 43; (with_reducible refine (impl_WideOk.calls a0_0 a0_1 a0_2 true _ A2.out).mono ?_); rintro e w7 ⟨rfl, hb⟩; have n0_ := bb_ (g := gb161) hb; have n1_ := Aside0.mk (below_step bel_ hb); clear BK161; clear HB; have BK161 := n0_; have HB := n1_; clear n0_ n1_; (try clear hb); (try clear hb2); (try clear hk); (try clear hi); obtain ⟨hcz8_0, hcz8_1, hcz8_2, hfz8_0, hfz8_1, hfz8_2⟩ := cf3_ (w := w7) BK161.out)))
    (try simp only [Act.put, la_, lb_, lc_])
    go_cut [3] (fun v3 wc => ∃ (kq : Nat) (x3_3 : ByteArray), v3 = .string x3_3 ∧ Aside0 (impl_WideText.j0 kq x3_3 a0_0 a0_1 a0_2 = some r) ∧ Aside0 (kq ≤ k) ∧ Aside0 (wc.heap[gb161]? = some (.cells #[.bool a0_0, .int .u64 a0_1, .int .u64 a0_2] 38 (0, 0))) ∧ Aside0 (Below w.heap.size w wc))
    case first =>
      have H := HC4.out
      clear HC4
      by_cases c9 : a0_0 = true
      · subst c9
        have H1 : (impl_WideText.j0 k (⟨#[45]⟩ : ByteArray) true a0_1 a0_2) = some r := by rw [if_pos rfl] at H; exact H
        clear H
        have H := H1
        clear H1
        have H' := Aside0.mk H
        clear H
        go_wp2
        repeat (go_quiet (fail); try go_wp2)
        go_meet
        case rel => exact ⟨_, ((⟨#[45]⟩ : ByteArray)), (by first | rfl | (simp; done) | (simp [*]; done)), H', ⟨by first | omega | exact Nat.le_refl _⟩, ⟨by (with_reducible repeat (first | refine bN_ _ ?_ | refine bd_ ?_ | refine ba_ _ ?_)); exact BK161.out⟩, ⟨bel_⟩⟩
      · replace c9 := Bool.eq_false_iff.mpr c9
        subst c9
        have H1 : (impl_WideText.j0 k (⟨#[]⟩ : ByteArray) false a0_1 a0_2) = some r := by rw [if_neg (show ¬ (false = true) by decide)] at H; exact H
        clear H
        have H := H1
        clear H1
        have H' := Aside0.mk H
        clear H
        go_wp2
        repeat (go_quiet (fail); try go_wp2)
        go_meet
        case rel => exact ⟨_, ((⟨#[]⟩ : ByteArray)), (by first | rfl | (simp; done) | (simp [*]; done)), H', ⟨by first | omega | exact Nat.le_refl _⟩, ⟨by (with_reducible repeat (first | refine bN_ _ ?_ | refine bd_ ?_ | refine ba_ _ ?_)); exact BK161.out⟩, ⟨bel_⟩⟩
    case rest =>
      clear HC4
      try clear c2
      try clear p2
      try clear c3
      try clear c9
      try clear hcz6_0
      try clear hcz6_1
      try clear hcz6_2
      try clear hcz8_0
      try clear hcz8_1
      try clear hcz8_2
      try clear hfz6_0
      try clear hfz6_1
      try clear hfz6_2
      try clear hfz8_0
      try clear hfz8_1
      try clear hfz8_2
      obtain ⟨kq, x3_3, rfl, HA, HJ3, BK161, HB⟩ := hcut
      cases kq with
      | zero => exact absurd HA.out (by simp [impl_WideText.j0])
      | succ kj3 =>
        have H := HA.out
        clear HA
        simp only [impl_WideText.j0] at H
        replace H := Option.bind_eq_some_iff.mp H
        obtain ⟨⟨t163, t164⟩, A100, H⟩ := H
        replace H : (if (IntKind.u64.wrap (Int.tdiv a0_1 10000000000000000000)) = 0 then (impl_WideText.j1 kj3 x3_3 (IntKind.u64.wrap (Int.tdiv a0_1 10000000000000000000)) t163 t164 (t163 == 0)) else (impl_WideText.j1 kj3 x3_3 (IntKind.u64.wrap (Int.tdiv a0_1 10000000000000000000)) t163 t164 false)) = some r := H
        have A10 := Aside0.mk A100
        clear A100
        have HC11 := Aside0.mk H
        clear H
        obtain ⟨hcz12_0, hcz12_1, hcz12_2, hfz12_0, hfz12_1, hfz12_2⟩ := cf3_ (w := wc) BK161.out
        go_upto_region 8 with (first | (go_at_call 44; (with_reducible refine (bits_Div64.calls kj3 (Int.tmod a0_1 10000000000000000000) a0_2 10000000000000000000 t163 t164 _ A10.out).mono ?_); rintro e w13 ⟨rfl, hb⟩; have n0_ := bb_ (g := gb161) hb; have n1_ := Aside0.mk (below_step bel_ hb); clear BK161; clear HB; have BK161 := n0_; have HB := n1_; clear n0_ n1_; (try clear hb); (try clear hb2); (try clear hk); (try clear hi)))
        repeat (go_quiet (first | (go_at_call 44; (with_reducible refine (bits_Div64.calls kj3 (Int.tmod a0_1 10000000000000000000) a0_2 10000000000000000000 t163 t164 _ A10.out).mono ?_); rintro e w13 ⟨rfl, hb⟩; have n0_ := bb_ (g := gb161) hb; have n1_ := Aside0.mk (below_step bel_ hb); clear BK161; clear HB; have BK161 := n0_; have HB := n1_; clear n0_ n1_; (try clear hb); (try clear hb2); (try clear hk); (try clear hi))); go_upto_region 8 with (first | (go_at_call 44; (with_reducible refine (bits_Div64.calls kj3 (Int.tmod a0_1 10000000000000000000) a0_2 10000000000000000000 t163 t164 _ A10.out).mono ?_); rintro e w13 ⟨rfl, hb⟩; have n0_ := bb_ (g := gb161) hb; have n1_ := Aside0.mk (below_step bel_ hb); clear BK161; clear HB; have BK161 := n0_; have HB := n1_; clear n0_ n1_; (try clear hb); (try clear hb2); (try clear hk); (try clear hi))))
        (try simp only [Act.put, la_, lb_, lc_])
        go_cut [35] (fun v35 wc => ∃ (kq : Nat) (x35_10 : Bool), v35 = .bool x35_10 ∧ Aside0 (impl_WideText.j1 kq x3_3 (IntKind.u64.wrap (Int.tdiv a0_1 10000000000000000000)) t163 t164 x35_10 = some r) ∧ Aside0 (kq ≤ kj3) ∧ Aside0 (wc.heap[gb161]? = some (.cells #[.bool a0_0, .int .u64 a0_1, .int .u64 a0_2] 38 (0, 0))) ∧ Aside0 (Below w.heap.size w wc))
        case first =>
          have H := HC11.out
          clear HC11
          by_cases c14 : (IntKind.u64.wrap (Int.tdiv a0_1 10000000000000000000)) = 0
          · rw [if_pos c14] at H
            have c14b0 : ((IntKind.u64.wrap (Int.tdiv a0_1 10000000000000000000)) == 0) = true := beq_iff_eq.mpr c14
            have c14b1 : ((IntKind.u64.wrap (Int.tdiv a0_1 10000000000000000000)) != 0) = false := bne_eq_false_iff_eq.mpr c14
            clear c14
            (first | rw [c14b0] | (simp only [i64_w, i32_w]; rw [c14b0]) | skip)
            have H' := Aside0.mk H
            clear H
            go_wp2
            repeat (go_quiet (fail); try go_wp2)
            go_meet
            case rel => exact ⟨_, ((t163 == 0)), (by first | rfl | (simp; done) | (simp [*]; done)), H', ⟨by have := HJ3.out; first | omega | exact Nat.le_refl _⟩, ⟨by (with_reducible repeat (first | refine bN_ _ ?_ | refine bd_ ?_ | refine ba_ _ ?_)); exact BK161.out⟩, ⟨bel_⟩⟩
          · rw [if_neg c14] at H
            have c14b0 : ((IntKind.u64.wrap (Int.tdiv a0_1 10000000000000000000)) == 0) = false := beq_eq_false_iff_ne.mpr c14
            have c14b1 : ((IntKind.u64.wrap (Int.tdiv a0_1 10000000000000000000)) != 0) = true := bne_iff_ne.mpr c14
            (first | rw [c14b0] | (simp only [i64_w, i32_w]; rw [c14b0]) | skip)
            have H' := Aside0.mk H
            clear H
            go_wp2
            repeat (go_quiet (fail); try go_wp2)
            go_meet
            case rel => exact ⟨_, (false), (by first | rfl | (simp; done) | (simp [*]; done)), H', ⟨by have := HJ3.out; first | omega | exact Nat.le_refl _⟩, ⟨by (with_reducible repeat (first | refine bN_ _ ?_ | refine bd_ ?_ | refine ba_ _ ?_)); exact BK161.out⟩, ⟨bel_⟩⟩
        case rest =>
          clear HC11
          try clear c1
          try clear c2
          try clear p2
          try clear c3
          try clear c9
          try clear c14
          try clear c14b0
          try clear c14b1
          try clear hcz12_0
          try clear hcz12_1
          try clear hcz12_2
          try clear hcz6_0
          try clear hcz6_1
          try clear hcz6_2
          try clear hcz8_0
          try clear hcz8_1
          try clear hcz8_2
          try clear hfz12_0
          try clear hfz12_1
          try clear hfz12_2
          try clear hfz6_0
          try clear hfz6_1
          try clear hfz6_2
          try clear hfz8_0
          try clear hfz8_1
          try clear hfz8_2
          try clear p2
          obtain ⟨kq, x35_10, rfl, HA, HJ10, BK161, HB⟩ := hcut
          cases kq with
          | zero => exact absurd HA.out (by simp [impl_WideText.j1])
          | succ kj10 =>
            have H := HA.out
            clear HA
            simp only [impl_WideText.j1] at H
            by_cases c15 : x35_10 = true
            · subst c15
              have H1 : ((strconv_FormatUint_45.f t164 10).bind fun t165 => (if x3_3.size + t165.size ≤ 9223372036854775807 then (some (x3_3 ++ t165)) else (none))) = some r := by rw [if_pos rfl] at H; exact H
              clear H
              have H := H1
              clear H1
              replace H := Option.bind_eq_some_iff.mp H
              obtain ⟨t165, A160, H⟩ := H
              replace H : (if x3_3.size + t165.size ≤ 9223372036854775807 then (some (x3_3 ++ t165)) else (none)) = some r := H
              have A16 := Aside0.mk A160
              clear A160
              by_cases c17 : x3_3.size + t165.size ≤ 9223372036854775807
              · rw [if_pos c17] at H
                have c17b0 := eq_true c17
                have c17b1 : decide (x3_3.size + t165.size ≤ 9223372036854775807) = true := decide_eq_true c17
                try have c17b2 : (9223372036854775807 < x3_3.size + t165.size) = False := eq_false (Nat.not_lt.2 c17)
                obtain rfl := Option.some.inj H
                go_wp2_with (first | (go_at_call 45; (with_reducible refine (strconv_FormatUint_45.calls t164 10 t165 _ A16.out (laid_ hl)).mono ?_); rintro e w18 ⟨rfl, hb⟩; have n0_ := bb_ (g := gb161) hb; have n1_ := Aside0.mk (below_step bel_ hb); clear BK161; clear HB; have BK161 := n0_; have HB := n1_; clear n0_ n1_; (try clear hb); (try clear hb2); (try clear hk); (try clear hi)))
                repeat (go_quiet (first | (go_at_call 45; (with_reducible refine (strconv_FormatUint_45.calls t164 10 t165 _ A16.out (laid_ hl)).mono ?_); rintro e w18 ⟨rfl, hb⟩; have n0_ := bb_ (g := gb161) hb; have n1_ := Aside0.mk (below_step bel_ hb); clear BK161; clear HB; have BK161 := n0_; have HB := n1_; clear n0_ n1_; (try clear hb); (try clear hb2); (try clear hk); (try clear hi))); try go_wp2_with (first | (go_at_call 45; (with_reducible refine (strconv_FormatUint_45.calls t164 10 t165 _ A16.out (laid_ hl)).mono ?_); rintro e w18 ⟨rfl, hb⟩; have n0_ := bb_ (g := gb161) hb; have n1_ := Aside0.mk (below_step bel_ hb); clear BK161; clear HB; have BK161 := n0_; have HB := n1_; clear n0_ n1_; (try clear hb); (try clear hb2); (try clear hk); (try clear hi))))
                go_ret
                exact ⟨rf_, bel_⟩
              · rw [if_neg c17] at H
                exact absurd H (by simp)
            · replace c15 := Bool.eq_false_iff.mpr c15
              subst c15
              have H1 : ((bits_Div64.f kj10 (IntKind.u64.wrap (Int.tdiv a0_1 10000000000000000000)) t163 10000000000000000000).bind fun bt166 => ((strconv_FormatUint_45.f t164 10).bind fun t168 => ((strings_Repeat.f (⟨#[48]⟩ : ByteArray) (wrap64 (19 - (t168.size : Int)))).bind fun t169 => (if t169.size + t168.size ≤ 9223372036854775807 then ((strconv_FormatUint_45.f bt166.2 10).bind fun t170 => (if bt166.1 = 0 then (if x3_3.size + t170.size ≤ 9223372036854775807 then (if (x3_3 ++ t170).size + (t169 ++ t168).size ≤ 9223372036854775807 then (some ((x3_3 ++ t170) ++ (t169 ++ t168))) else (none)) else (none)) else ((strconv_FormatUint_45.f bt166.1 10).bind fun t171 => (if x3_3.size + t171.size ≤ 9223372036854775807 then ((strings_Repeat.f (⟨#[48]⟩ : ByteArray) (wrap64 (19 - (t170.size : Int)))).bind fun t172 => (if (x3_3 ++ t171).size + t172.size ≤ 9223372036854775807 then (if ((x3_3 ++ t171) ++ t172).size + t170.size ≤ 9223372036854775807 then (if (((x3_3 ++ t171) ++ t172) ++ t170).size + (t169 ++ t168).size ≤ 9223372036854775807 then (some ((((x3_3 ++ t171) ++ t172) ++ t170) ++ (t169 ++ t168))) else (none)) else (none)) else (none))) else (none))))) else (none))))) = some r := by rw [if_neg (show ¬ (false = true) by decide)] at H; exact H
              clear H
              have H := H1
              clear H1
              replace H := Option.bind_eq_some_iff.mp H
              obtain ⟨⟨t166, t167⟩, A190, H⟩ := H
              replace H : ((strconv_FormatUint_45.f t164 10).bind fun t168 => ((strings_Repeat.f (⟨#[48]⟩ : ByteArray) (wrap64 (19 - (t168.size : Int)))).bind fun t169 => (if t169.size + t168.size ≤ 9223372036854775807 then ((strconv_FormatUint_45.f t167 10).bind fun t170 => (if t166 = 0 then (if x3_3.size + t170.size ≤ 9223372036854775807 then (if (x3_3 ++ t170).size + (t169 ++ t168).size ≤ 9223372036854775807 then (some ((x3_3 ++ t170) ++ (t169 ++ t168))) else (none)) else (none)) else ((strconv_FormatUint_45.f t166 10).bind fun t171 => (if x3_3.size + t171.size ≤ 9223372036854775807 then ((strings_Repeat.f (⟨#[48]⟩ : ByteArray) (wrap64 (19 - (t170.size : Int)))).bind fun t172 => (if (x3_3 ++ t171).size + t172.size ≤ 9223372036854775807 then (if ((x3_3 ++ t171) ++ t172).size + t170.size ≤ 9223372036854775807 then (if (((x3_3 ++ t171) ++ t172) ++ t170).size + (t169 ++ t168).size ≤ 9223372036854775807 then (some ((((x3_3 ++ t171) ++ t172) ++ t170) ++ (t169 ++ t168))) else (none)) else (none)) else (none))) else (none))))) else (none)))) = some r := H
              have A19 := Aside0.mk A190
              clear A190
              replace H := Option.bind_eq_some_iff.mp H
              obtain ⟨t168, A200, H⟩ := H
              replace H : ((strings_Repeat.f (⟨#[48]⟩ : ByteArray) (wrap64 (19 - (t168.size : Int)))).bind fun t169 => (if t169.size + t168.size ≤ 9223372036854775807 then ((strconv_FormatUint_45.f t167 10).bind fun t170 => (if t166 = 0 then (if x3_3.size + t170.size ≤ 9223372036854775807 then (if (x3_3 ++ t170).size + (t169 ++ t168).size ≤ 9223372036854775807 then (some ((x3_3 ++ t170) ++ (t169 ++ t168))) else (none)) else (none)) else ((strconv_FormatUint_45.f t166 10).bind fun t171 => (if x3_3.size + t171.size ≤ 9223372036854775807 then ((strings_Repeat.f (⟨#[48]⟩ : ByteArray) (wrap64 (19 - (t170.size : Int)))).bind fun t172 => (if (x3_3 ++ t171).size + t172.size ≤ 9223372036854775807 then (if ((x3_3 ++ t171) ++ t172).size + t170.size ≤ 9223372036854775807 then (if (((x3_3 ++ t171) ++ t172) ++ t170).size + (t169 ++ t168).size ≤ 9223372036854775807 then (some ((((x3_3 ++ t171) ++ t172) ++ t170) ++ (t169 ++ t168))) else (none)) else (none)) else (none))) else (none))))) else (none))) = some r := H
              have A20 := Aside0.mk A200
              clear A200
              replace H := Option.bind_eq_some_iff.mp H
              obtain ⟨t169, A210, H⟩ := H
              replace H : (if t169.size + t168.size ≤ 9223372036854775807 then ((strconv_FormatUint_45.f t167 10).bind fun t170 => (if t166 = 0 then (if x3_3.size + t170.size ≤ 9223372036854775807 then (if (x3_3 ++ t170).size + (t169 ++ t168).size ≤ 9223372036854775807 then (some ((x3_3 ++ t170) ++ (t169 ++ t168))) else (none)) else (none)) else ((strconv_FormatUint_45.f t166 10).bind fun t171 => (if x3_3.size + t171.size ≤ 9223372036854775807 then ((strings_Repeat.f (⟨#[48]⟩ : ByteArray) (wrap64 (19 - (t170.size : Int)))).bind fun t172 => (if (x3_3 ++ t171).size + t172.size ≤ 9223372036854775807 then (if ((x3_3 ++ t171) ++ t172).size + t170.size ≤ 9223372036854775807 then (if (((x3_3 ++ t171) ++ t172) ++ t170).size + (t169 ++ t168).size ≤ 9223372036854775807 then (some ((((x3_3 ++ t171) ++ t172) ++ t170) ++ (t169 ++ t168))) else (none)) else (none)) else (none))) else (none))))) else (none)) = some r := H
              have A21 := Aside0.mk A210
              clear A210
              by_cases c22 : t169.size + t168.size ≤ 9223372036854775807
              · rw [if_pos c22] at H
                have c22b0 := eq_true c22
                have c22b1 : decide (t169.size + t168.size ≤ 9223372036854775807) = true := decide_eq_true c22
                try have c22b2 : (9223372036854775807 < t169.size + t168.size) = False := eq_false (Nat.not_lt.2 c22)
                replace H := Option.bind_eq_some_iff.mp H
                obtain ⟨t170, A230, H⟩ := H
                replace H : (if t166 = 0 then (if x3_3.size + t170.size ≤ 9223372036854775807 then (if (x3_3 ++ t170).size + (t169 ++ t168).size ≤ 9223372036854775807 then (some ((x3_3 ++ t170) ++ (t169 ++ t168))) else (none)) else (none)) else ((strconv_FormatUint_45.f t166 10).bind fun t171 => (if x3_3.size + t171.size ≤ 9223372036854775807 then ((strings_Repeat.f (⟨#[48]⟩ : ByteArray) (wrap64 (19 - (t170.size : Int)))).bind fun t172 => (if (x3_3 ++ t171).size + t172.size ≤ 9223372036854775807 then (if ((x3_3 ++ t171) ++ t172).size + t170.size ≤ 9223372036854775807 then (if (((x3_3 ++ t171) ++ t172) ++ t170).size + (t169 ++ t168).size ≤ 9223372036854775807 then (some ((((x3_3 ++ t171) ++ t172) ++ t170) ++ (t169 ++ t168))) else (none)) else (none)) else (none))) else (none)))) = some r := H
                have A23 := Aside0.mk A230
                clear A230
                by_cases c24 : t166 = 0
                · rw [if_pos c24] at H
                  have c24b0 : (t166 == 0) = true := beq_iff_eq.mpr c24
                  have c24b1 : (t166 != 0) = false := bne_eq_false_iff_eq.mpr c24
                  clear c24
                  by_cases c25 : x3_3.size + t170.size ≤ 9223372036854775807
                  · rw [if_pos c25] at H
                    have c25b0 := eq_true c25
                    have c25b1 : decide (x3_3.size + t170.size ≤ 9223372036854775807) = true := decide_eq_true c25
                    try have c25b2 : (9223372036854775807 < x3_3.size + t170.size) = False := eq_false (Nat.not_lt.2 c25)
                    by_cases c26 : (x3_3 ++ t170).size + (t169 ++ t168).size ≤ 9223372036854775807
                    · rw [if_pos c26] at H
                      have c26b0 := eq_true c26
                      have c26b1 : decide ((x3_3 ++ t170).size + (t169 ++ t168).size ≤ 9223372036854775807) = true := decide_eq_true c26
                      try have c26b2 : (9223372036854775807 < (x3_3 ++ t170).size + (t169 ++ t168).size) = False := eq_false (Nat.not_lt.2 c26)
                      (try (have c26b7 := c26b2; simp only [ByteArray.size_append] at c26b7))
                      obtain rfl := Option.some.inj H
                      go_wp2_with (first | (go_at_call 44; (with_reducible refine (bits_Div64.calls kj10 (IntKind.u64.wrap (Int.tdiv a0_1 10000000000000000000)) t163 10000000000000000000 t166 t167 _ A19.out).mono ?_); rintro e w27 ⟨rfl, hb⟩; have n0_ := bb_ (g := gb161) hb; have n1_ := Aside0.mk (below_step bel_ hb); clear BK161; clear HB; have BK161 := n0_; have HB := n1_; clear n0_ n1_; (try clear hb); (try clear hb2); (try clear hk); (try clear hi)) | (go_at_call 45; (with_reducible refine (strconv_FormatUint_45.calls t164 10 t168 _ A20.out (laid_ hl)).mono ?_); rintro e w28 ⟨rfl, hb⟩; have n0_ := bb_ (g := gb161) hb; have n1_ := Aside0.mk (below_step bel_ hb); clear BK161; clear HB; have BK161 := n0_; have HB := n1_; clear n0_ n1_; (try clear hb); (try clear hb2); (try clear hk); (try clear hi)) | (go_at_call 46; (with_reducible refine (strings_Repeat.calls (⟨#[48]⟩ : ByteArray) (19 - (t168.size : Int)) t169 _ (rep_ A21.out (by unfold wrap64; omega))).mono ?_); rintro e w29 ⟨rfl, hb⟩; have n0_ := bb_ (g := gb161) hb; have n1_ := Aside0.mk (below_step bel_ hb); clear BK161; clear HB; have BK161 := n0_; have HB := n1_; clear n0_ n1_; (try clear hb); (try clear hb2); (try clear hk); (try clear hi)) | (go_at_call 45; (with_reducible refine (strconv_FormatUint_45.calls t167 10 t170 _ A23.out (laid_ hl)).mono ?_); rintro e w30 ⟨rfl, hb⟩; have n0_ := bb_ (g := gb161) hb; have n1_ := Aside0.mk (below_step bel_ hb); clear BK161; clear HB; have BK161 := n0_; have HB := n1_; clear n0_ n1_; (try clear hb); (try clear hb2); (try clear hk); (try clear hi)))
                      repeat (go_quiet (first | (go_at_call 44; (with_reducible refine (bits_Div64.calls kj10 (IntKind.u64.wrap (Int.tdiv a0_1 10000000000000000000)) t163 10000000000000000000 t166 t167 _ A19.out).mono ?_); rintro e w27 ⟨rfl, hb⟩; have n0_ := bb_ (g := gb161) hb; have n1_ := Aside0.mk (below_step bel_ hb); clear BK161; clear HB; have BK161 := n0_; have HB := n1_; clear n0_ n1_; (try clear hb); (try clear hb2); (try clear hk); (try clear hi)) | (go_at_call 45; (with_reducible refine (strconv_FormatUint_45.calls t164 10 t168 _ A20.out (laid_ hl)).mono ?_); rintro e w28 ⟨rfl, hb⟩; have n0_ := bb_ (g := gb161) hb; have n1_ := Aside0.mk (below_step bel_ hb); clear BK161; clear HB; have BK161 := n0_; have HB := n1_; clear n0_ n1_; (try clear hb); (try clear hb2); (try clear hk); (try clear hi)) | (go_at_call 46; (with_reducible refine (strings_Repeat.calls (⟨#[48]⟩ : ByteArray) (19 - (t168.size : Int)) t169 _ (rep_ A21.out (by unfold wrap64; omega))).mono ?_); rintro e w29 ⟨rfl, hb⟩; have n0_ := bb_ (g := gb161) hb; have n1_ := Aside0.mk (below_step bel_ hb); clear BK161; clear HB; have BK161 := n0_; have HB := n1_; clear n0_ n1_; (try clear hb); (try clear hb2); (try clear hk); (try clear hi)) | (go_at_call 45; (with_reducible refine (strconv_FormatUint_45.calls t167 10 t170 _ A23.out (laid_ hl)).mono ?_); rintro e w30 ⟨rfl, hb⟩; have n0_ := bb_ (g := gb161) hb; have n1_ := Aside0.mk (below_step bel_ hb); clear BK161; clear HB; have BK161 := n0_; have HB := n1_; clear n0_ n1_; (try clear hb); (try clear hb2); (try clear hk); (try clear hi))); try go_wp2_with (first | (go_at_call 44; (with_reducible refine (bits_Div64.calls kj10 (IntKind.u64.wrap (Int.tdiv a0_1 10000000000000000000)) t163 10000000000000000000 t166 t167 _ A19.out).mono ?_); rintro e w27 ⟨rfl, hb⟩; have n0_ := bb_ (g := gb161) hb; have n1_ := Aside0.mk (below_step bel_ hb); clear BK161; clear HB; have BK161 := n0_; have HB := n1_; clear n0_ n1_; (try clear hb); (try clear hb2); (try clear hk); (try clear hi)) | (go_at_call 45; (with_reducible refine (strconv_FormatUint_45.calls t164 10 t168 _ A20.out (laid_ hl)).mono ?_); rintro e w28 ⟨rfl, hb⟩; have n0_ := bb_ (g := gb161) hb; have n1_ := Aside0.mk (below_step bel_ hb); clear BK161; clear HB; have BK161 := n0_; have HB := n1_; clear n0_ n1_; (try clear hb); (try clear hb2); (try clear hk); (try clear hi)) | (go_at_call 46; (with_reducible refine (strings_Repeat.calls (⟨#[48]⟩ : ByteArray) (19 - (t168.size : Int)) t169 _ (rep_ A21.out (by unfold wrap64; omega))).mono ?_); rintro e w29 ⟨rfl, hb⟩; have n0_ := bb_ (g := gb161) hb; have n1_ := Aside0.mk (below_step bel_ hb); clear BK161; clear HB; have BK161 := n0_; have HB := n1_; clear n0_ n1_; (try clear hb); (try clear hb2); (try clear hk); (try clear hi)) | (go_at_call 45; (with_reducible refine (strconv_FormatUint_45.calls t167 10 t170 _ A23.out (laid_ hl)).mono ?_); rintro e w30 ⟨rfl, hb⟩; have n0_ := bb_ (g := gb161) hb; have n1_ := Aside0.mk (below_step bel_ hb); clear BK161; clear HB; have BK161 := n0_; have HB := n1_; clear n0_ n1_; (try clear hb); (try clear hb2); (try clear hk); (try clear hi))))
                      go_ret
                      exact ⟨rf_, bel_⟩
                    · rw [if_neg c26] at H
                      exact absurd H (by simp)
                  · rw [if_neg c25] at H
                    exact absurd H (by simp)
                · rw [if_neg c24] at H
                  have c24b0 : (t166 == 0) = false := beq_eq_false_iff_ne.mpr c24
                  have c24b1 : (t166 != 0) = true := bne_iff_ne.mpr c24
                  replace H := Option.bind_eq_some_iff.mp H
                  obtain ⟨t171, A310, H⟩ := H
                  replace H : (if x3_3.size + t171.size ≤ 9223372036854775807 then ((strings_Repeat.f (⟨#[48]⟩ : ByteArray) (wrap64 (19 - (t170.size : Int)))).bind fun t172 => (if (x3_3 ++ t171).size + t172.size ≤ 9223372036854775807 then (if ((x3_3 ++ t171) ++ t172).size + t170.size ≤ 9223372036854775807 then (if (((x3_3 ++ t171) ++ t172) ++ t170).size + (t169 ++ t168).size ≤ 9223372036854775807 then (some ((((x3_3 ++ t171) ++ t172) ++ t170) ++ (t169 ++ t168))) else (none)) else (none)) else (none))) else (none)) = some r := H
                  have A31 := Aside0.mk A310
                  clear A310
                  by_cases c32 : x3_3.size + t171.size ≤ 9223372036854775807
                  · rw [if_pos c32] at H
                    have c32b0 := eq_true c32
                    have c32b1 : decide (x3_3.size + t171.size ≤ 9223372036854775807) = true := decide_eq_true c32
                    try have c32b2 : (9223372036854775807 < x3_3.size + t171.size) = False := eq_false (Nat.not_lt.2 c32)
                    replace H := Option.bind_eq_some_iff.mp H
                    obtain ⟨t172, A330, H⟩ := H
                    replace H : (if (x3_3 ++ t171).size + t172.size ≤ 9223372036854775807 then (if ((x3_3 ++ t171) ++ t172).size + t170.size ≤ 9223372036854775807 then (if (((x3_3 ++ t171) ++ t172) ++ t170).size + (t169 ++ t168).size ≤ 9223372036854775807 then (some ((((x3_3 ++ t171) ++ t172) ++ t170) ++ (t169 ++ t168))) else (none)) else (none)) else (none)) = some r := H
                    have A33 := Aside0.mk A330
                    clear A330
                    by_cases c34 : (x3_3 ++ t171).size + t172.size ≤ 9223372036854775807
                    · rw [if_pos c34] at H
                      have c34b0 := eq_true c34
                      have c34b1 : decide ((x3_3 ++ t171).size + t172.size ≤ 9223372036854775807) = true := decide_eq_true c34
                      try have c34b2 : (9223372036854775807 < (x3_3 ++ t171).size + t172.size) = False := eq_false (Nat.not_lt.2 c34)
                      (try (have c34b7 := c34b2; simp only [ByteArray.size_append] at c34b7))
                      by_cases c35 : ((x3_3 ++ t171) ++ t172).size + t170.size ≤ 9223372036854775807
                      · rw [if_pos c35] at H
                        have c35b0 := eq_true c35
                        have c35b1 : decide (((x3_3 ++ t171) ++ t172).size + t170.size ≤ 9223372036854775807) = true := decide_eq_true c35
                        try have c35b2 : (9223372036854775807 < ((x3_3 ++ t171) ++ t172).size + t170.size) = False := eq_false (Nat.not_lt.2 c35)
                        (try (have c35b7 := c35b2; simp only [ByteArray.size_append] at c35b7))
                        by_cases c36 : (((x3_3 ++ t171) ++ t172) ++ t170).size + (t169 ++ t168).size ≤ 9223372036854775807
                        · rw [if_pos c36] at H
                          have c36b0 := eq_true c36
                          have c36b1 : decide ((((x3_3 ++ t171) ++ t172) ++ t170).size + (t169 ++ t168).size ≤ 9223372036854775807) = true := decide_eq_true c36
                          try have c36b2 : (9223372036854775807 < (((x3_3 ++ t171) ++ t172) ++ t170).size + (t169 ++ t168).size) = False := eq_false (Nat.not_lt.2 c36)
                          (try (have c36b7 := c36b2; simp only [ByteArray.size_append] at c36b7))
                          obtain rfl := Option.some.inj H
                          go_wp2_with (first | (go_at_call 44; (with_reducible refine (bits_Div64.calls kj10 (IntKind.u64.wrap (Int.tdiv a0_1 10000000000000000000)) t163 10000000000000000000 t166 t167 _ A19.out).mono ?_); rintro e w37 ⟨rfl, hb⟩; have n0_ := bb_ (g := gb161) hb; have n1_ := Aside0.mk (below_step bel_ hb); clear BK161; clear HB; have BK161 := n0_; have HB := n1_; clear n0_ n1_; (try clear hb); (try clear hb2); (try clear hk); (try clear hi)) | (go_at_call 45; (with_reducible refine (strconv_FormatUint_45.calls t164 10 t168 _ A20.out (laid_ hl)).mono ?_); rintro e w38 ⟨rfl, hb⟩; have n0_ := bb_ (g := gb161) hb; have n1_ := Aside0.mk (below_step bel_ hb); clear BK161; clear HB; have BK161 := n0_; have HB := n1_; clear n0_ n1_; (try clear hb); (try clear hb2); (try clear hk); (try clear hi)) | (go_at_call 46; (with_reducible refine (strings_Repeat.calls (⟨#[48]⟩ : ByteArray) (19 - (t168.size : Int)) t169 _ (rep_ A21.out (by unfold wrap64; omega))).mono ?_); rintro e w39 ⟨rfl, hb⟩; have n0_ := bb_ (g := gb161) hb; have n1_ := Aside0.mk (below_step bel_ hb); clear BK161; clear HB; have BK161 := n0_; have HB := n1_; clear n0_ n1_; (try clear hb); (try clear hb2); (try clear hk); (try clear hi)) | (go_at_call 45; (with_reducible refine (strconv_FormatUint_45.calls t167 10 t170 _ A23.out (laid_ hl)).mono ?_); rintro e w40 ⟨rfl, hb⟩; have n0_ := bb_ (g := gb161) hb; have n1_ := Aside0.mk (below_step bel_ hb); clear BK161; clear HB; have BK161 := n0_; have HB := n1_; clear n0_ n1_; (try clear hb); (try clear hb2); (try clear hk); (try clear hi)) | (go_at_call 45; (with_reducible refine (strconv_FormatUint_45.calls t166 10 t171 _ A31.out (laid_ hl)).mono ?_); rintro e w41 ⟨rfl, hb⟩; have n0_ := bb_ (g := gb161) hb; have n1_ := Aside0.mk (below_step bel_ hb); clear BK161; clear HB; have BK161 := n0_; have HB := n1_; clear n0_ n1_; (try clear hb); (try clear hb2); (try clear hk); (try clear hi)) | (go_at_call 46; (with_reducible refine (strings_Repeat.calls (⟨#[48]⟩ : ByteArray) (19 - (t170.size : Int)) t172 _ (rep_ A33.out (by unfold wrap64; omega))).mono ?_); rintro e w42 ⟨rfl, hb⟩; have n0_ := bb_ (g := gb161) hb; have n1_ := Aside0.mk (below_step bel_ hb); clear BK161; clear HB; have BK161 := n0_; have HB := n1_; clear n0_ n1_; (try clear hb); (try clear hb2); (try clear hk); (try clear hi)))
                          repeat (go_quiet (first | (go_at_call 44; (with_reducible refine (bits_Div64.calls kj10 (IntKind.u64.wrap (Int.tdiv a0_1 10000000000000000000)) t163 10000000000000000000 t166 t167 _ A19.out).mono ?_); rintro e w37 ⟨rfl, hb⟩; have n0_ := bb_ (g := gb161) hb; have n1_ := Aside0.mk (below_step bel_ hb); clear BK161; clear HB; have BK161 := n0_; have HB := n1_; clear n0_ n1_; (try clear hb); (try clear hb2); (try clear hk); (try clear hi)) | (go_at_call 45; (with_reducible refine (strconv_FormatUint_45.calls t164 10 t168 _ A20.out (laid_ hl)).mono ?_); rintro e w38 ⟨rfl, hb⟩; have n0_ := bb_ (g := gb161) hb; have n1_ := Aside0.mk (below_step bel_ hb); clear BK161; clear HB; have BK161 := n0_; have HB := n1_; clear n0_ n1_; (try clear hb); (try clear hb2); (try clear hk); (try clear hi)) | (go_at_call 46; (with_reducible refine (strings_Repeat.calls (⟨#[48]⟩ : ByteArray) (19 - (t168.size : Int)) t169 _ (rep_ A21.out (by unfold wrap64; omega))).mono ?_); rintro e w39 ⟨rfl, hb⟩; have n0_ := bb_ (g := gb161) hb; have n1_ := Aside0.mk (below_step bel_ hb); clear BK161; clear HB; have BK161 := n0_; have HB := n1_; clear n0_ n1_; (try clear hb); (try clear hb2); (try clear hk); (try clear hi)) | (go_at_call 45; (with_reducible refine (strconv_FormatUint_45.calls t167 10 t170 _ A23.out (laid_ hl)).mono ?_); rintro e w40 ⟨rfl, hb⟩; have n0_ := bb_ (g := gb161) hb; have n1_ := Aside0.mk (below_step bel_ hb); clear BK161; clear HB; have BK161 := n0_; have HB := n1_; clear n0_ n1_; (try clear hb); (try clear hb2); (try clear hk); (try clear hi)) | (go_at_call 45; (with_reducible refine (strconv_FormatUint_45.calls t166 10 t171 _ A31.out (laid_ hl)).mono ?_); rintro e w41 ⟨rfl, hb⟩; have n0_ := bb_ (g := gb161) hb; have n1_ := Aside0.mk (below_step bel_ hb); clear BK161; clear HB; have BK161 := n0_; have HB := n1_; clear n0_ n1_; (try clear hb); (try clear hb2); (try clear hk); (try clear hi)) | (go_at_call 46; (with_reducible refine (strings_Repeat.calls (⟨#[48]⟩ : ByteArray) (19 - (t170.size : Int)) t172 _ (rep_ A33.out (by unfold wrap64; omega))).mono ?_); rintro e w42 ⟨rfl, hb⟩; have n0_ := bb_ (g := gb161) hb; have n1_ := Aside0.mk (below_step bel_ hb); clear BK161; clear HB; have BK161 := n0_; have HB := n1_; clear n0_ n1_; (try clear hb); (try clear hb2); (try clear hk); (try clear hi))); try go_wp2_with (first | (go_at_call 44; (with_reducible refine (bits_Div64.calls kj10 (IntKind.u64.wrap (Int.tdiv a0_1 10000000000000000000)) t163 10000000000000000000 t166 t167 _ A19.out).mono ?_); rintro e w37 ⟨rfl, hb⟩; have n0_ := bb_ (g := gb161) hb; have n1_ := Aside0.mk (below_step bel_ hb); clear BK161; clear HB; have BK161 := n0_; have HB := n1_; clear n0_ n1_; (try clear hb); (try clear hb2); (try clear hk); (try clear hi)) | (go_at_call 45; (with_reducible refine (strconv_FormatUint_45.calls t164 10 t168 _ A20.out (laid_ hl)).mono ?_); rintro e w38 ⟨rfl, hb⟩; have n0_ := bb_ (g := gb161) hb; have n1_ := Aside0.mk (below_step bel_ hb); clear BK161; clear HB; have BK161 := n0_; have HB := n1_; clear n0_ n1_; (try clear hb); (try clear hb2); (try clear hk); (try clear hi)) | (go_at_call 46; (with_reducible refine (strings_Repeat.calls (⟨#[48]⟩ : ByteArray) (19 - (t168.size : Int)) t169 _ (rep_ A21.out (by unfold wrap64; omega))).mono ?_); rintro e w39 ⟨rfl, hb⟩; have n0_ := bb_ (g := gb161) hb; have n1_ := Aside0.mk (below_step bel_ hb); clear BK161; clear HB; have BK161 := n0_; have HB := n1_; clear n0_ n1_; (try clear hb); (try clear hb2); (try clear hk); (try clear hi)) | (go_at_call 45; (with_reducible refine (strconv_FormatUint_45.calls t167 10 t170 _ A23.out (laid_ hl)).mono ?_); rintro e w40 ⟨rfl, hb⟩; have n0_ := bb_ (g := gb161) hb; have n1_ := Aside0.mk (below_step bel_ hb); clear BK161; clear HB; have BK161 := n0_; have HB := n1_; clear n0_ n1_; (try clear hb); (try clear hb2); (try clear hk); (try clear hi)) | (go_at_call 45; (with_reducible refine (strconv_FormatUint_45.calls t166 10 t171 _ A31.out (laid_ hl)).mono ?_); rintro e w41 ⟨rfl, hb⟩; have n0_ := bb_ (g := gb161) hb; have n1_ := Aside0.mk (below_step bel_ hb); clear BK161; clear HB; have BK161 := n0_; have HB := n1_; clear n0_ n1_; (try clear hb); (try clear hb2); (try clear hk); (try clear hi)) | (go_at_call 46; (with_reducible refine (strings_Repeat.calls (⟨#[48]⟩ : ByteArray) (19 - (t170.size : Int)) t172 _ (rep_ A33.out (by unfold wrap64; omega))).mono ?_); rintro e w42 ⟨rfl, hb⟩; have n0_ := bb_ (g := gb161) hb; have n1_ := Aside0.mk (below_step bel_ hb); clear BK161; clear HB; have BK161 := n0_; have HB := n1_; clear n0_ n1_; (try clear hb); (try clear hb2); (try clear hk); (try clear hi))))
                          go_ret
                          exact ⟨rf_, bel_⟩
                        · rw [if_neg c36] at H
                          exact absurd H (by simp)
                      · rw [if_neg c35] at H
                        exact absurd H (by simp)
                    · rw [if_neg c34] at H
                      exact absurd H (by simp)
                  · rw [if_neg c32] at H
                    exact absurd H (by simp)
              · rw [if_neg c22] at H
                exact absurd H (by simp)
  · replace c3 := Bool.eq_false_iff.mpr c3
    subst c3
    have H1 : (some (⟨#[]⟩ : ByteArray)) = some r := by rw [if_neg (show ¬ (false = true) by decide)] at H; exact H
    clear H
    have H := H1
    clear H1
    obtain rfl := Option.some.inj H
    go_enter Tryd.func22, Tryd.ntmps22
    go_wp2_with (first | ((with_reducible refine gate_dst (N := 1) rfl ?_); refine box_event ?hg (N := 1) ?hd (cs := #[.bool a0_0, .int .u64 a0_1, .int .u64 a0_2]) (t := 38) ?hr ?_; (case hd => rfl); (case hg => rfl); (case hr => first | (go_simp; done) | (go_simp; rfl)); intro gb161 hg w43 hbox hb; have n0_ := Aside0.mk (below_step bel_ hb); have n1_ := Aside0.mk (hbox); have n2_ := bs_ (w := w) hg; have n3_ := bs_ (w := w) hg; clear HB; have HB := n0_; have BK161 := n1_; have GW161 := n2_; have GE161 := n3_; clear n0_ n1_ n2_ n3_; clear hb hbox hg; obtain ⟨hcz44_0, hcz44_1, hcz44_2, hfz44_0, hfz44_1, hfz44_2⟩ := cf3_ (w := w43) BK161.out) | (go_at_call 43; (with_reducible refine (impl_WideOk.calls a0_0 a0_1 a0_2 false _ A2.out).mono ?_); rintro e w45 ⟨rfl, hb⟩; have n0_ := bb_ (g := gb161) hb; have n1_ := Aside0.mk (below_step bel_ hb); clear BK161; clear HB; have BK161 := n0_; have HB := n1_; clear n0_ n1_; (try clear hb); (try clear hb2); (try clear hk); (try clear hi)))
    repeat (go_quiet (first | ((with_reducible refine gate_dst (N := 1) rfl ?_); refine box_event ?hg (N := 1) ?hd (cs := #[.bool a0_0, .int .u64 a0_1, .int .u64 a0_2]) (t := 38) ?hr ?_; (case hd => rfl); (case hg => rfl); (case hr => first | (go_simp; done) | (go_simp; rfl)); intro gb161 hg w43 hbox hb; have n0_ := Aside0.mk (below_step bel_ hb); have n1_ := Aside0.mk (hbox); have n2_ := bs_ (w := w) hg; have n3_ := bs_ (w := w) hg; clear HB; have HB := n0_; have BK161 := n1_; have GW161 := n2_; have GE161 := n3_; clear n0_ n1_ n2_ n3_; clear hb hbox hg; obtain ⟨hcz44_0, hcz44_1, hcz44_2, hfz44_0, hfz44_1, hfz44_2⟩ := cf3_ (w := w43) BK161.out) | (go_at_call 43; (with_reducible refine (impl_WideOk.calls a0_0 a0_1 a0_2 false _ A2.out).mono ?_); rintro e w45 ⟨rfl, hb⟩; have n0_ := bb_ (g := gb161) hb; have n1_ := Aside0.mk (below_step bel_ hb); clear BK161; clear HB; have BK161 := n0_; have HB := n1_; clear n0_ n1_; (try clear hb); (try clear hb2); (try clear hk); (try clear hi))); try go_wp2_with (first | ((with_reducible refine gate_dst (N := 1) rfl ?_); refine box_event ?hg (N := 1) ?hd (cs := #[.bool a0_0, .int .u64 a0_1, .int .u64 a0_2]) (t := 38) ?hr ?_; (case hd => rfl); (case hg => rfl); (case hr => first | (go_simp; done) | (go_simp; rfl)); intro gb161 hg w43 hbox hb; have n0_ := Aside0.mk (below_step bel_ hb); have n1_ := Aside0.mk (hbox); have n2_ := bs_ (w := w) hg; have n3_ := bs_ (w := w) hg; clear HB; have HB := n0_; have BK161 := n1_; have GW161 := n2_; have GE161 := n3_; clear n0_ n1_ n2_ n3_; clear hb hbox hg; obtain ⟨hcz44_0, hcz44_1, hcz44_2, hfz44_0, hfz44_1, hfz44_2⟩ := cf3_ (w := w43) BK161.out) | (go_at_call 43; (with_reducible refine (impl_WideOk.calls a0_0 a0_1 a0_2 false _ A2.out).mono ?_); rintro e w45 ⟨rfl, hb⟩; have n0_ := bb_ (g := gb161) hb; have n1_ := Aside0.mk (below_step bel_ hb); clear BK161; clear HB; have BK161 := n0_; have HB := n1_; clear n0_ n1_; (try clear hb); (try clear hb2); (try clear hk); (try clear hi))))
    go_ret
    exact ⟨rf_, bel_⟩

/-! ### laws_FnExactWideText: function 6 -/
def laws_FnExactWideText.f (k : Nat) (a0_0 : Bool) (a0_1 : Int) (a0_2 : Int) : Option (Bool) := (laws_toWide.f a0_0 a0_1 a0_2).bind fun bt174 => ((spec_WideText.f k bt174.1 bt174.2.1 bt174.2.2).bind fun t177 => ((laws_toWide.f a0_0 a0_1 a0_2).bind fun bt178 => ((impl_WideText.f k bt178.1 bt178.2.1 bt178.2.2).bind fun t181 => (if t181.toList = t177.toList then (some true) else (some false)))))
theorem laws_FnExactWideText.mono : ∀ a0 a1 a2 k, LeO (laws_FnExactWideText.f k a0 a1 a2) (laws_FnExactWideText.f (k + 1) a0 a1 a2) := by
  intro a0 a1 a2 k
  unfold laws_FnExactWideText.f
  repeat' first
      | (with_reducible exact impl_WideText.mono _ _ _ _)
      | (with_reducible exact spec_WideText.mono _ _ _ _)
      | (with_reducible exact LeO.refl _)
      | (with_reducible exact LeO.none _)
      | (with_reducible refine LeO.ite ?_ ?_)
      | (with_reducible refine LeO.bind ?_ (fun _ => ?_))
      | exact impl_WideText.mono _ _ _ _
      | exact spec_WideText.mono _ _ _ _
      | exact LeO.none _
      | refine LeO.ite ?_ ?_
      | refine LeO.bind ?_ (fun _ => ?_)
set_option maxHeartbeats 8000000 in
set_option maxRecDepth 100000 in
theorem laws_FnExactWideText.calls (k : Nat) (a0_0 : Bool) (a0_1 : Int) (a0_2 : Int) (r : Bool) (w : World) (h : laws_FnExactWideText.f k a0_0 a0_1 a0_2 = some r) (hrt : Aside0 (r = true)) (hl : Laid w) :
    Calls Tryd.prog 6 #[.agg #[.bool a0_0, .int .u64 a0_1, .int .u64 a0_2]] w fun e w' => e = .returned (.bool r) ∧ Below w.heap.size w w' := by
  have hu36 := Tryd.underlying36
  have HB := Aside0.mk (Below.refl w.heap.size w)
  have H : ((laws_toWide.f a0_0 a0_1 a0_2).bind fun bt174 => ((spec_WideText.f k bt174.1 bt174.2.1 bt174.2.2).bind fun t177 => ((laws_toWide.f a0_0 a0_1 a0_2).bind fun bt178 => ((impl_WideText.f k bt178.1 bt178.2.1 bt178.2.2).bind fun t181 => (if t181.toList = t177.toList then (some true) else (some false)))))) = some r := h
  clear h
  replace H := Option.bind_eq_some_iff.mp H
  obtain ⟨⟨t174, t175, t176⟩, A20, H⟩ := H
  replace H : ((spec_WideText.f k t174 t175 t176).bind fun t177 => ((laws_toWide.f a0_0 a0_1 a0_2).bind fun bt178 => ((impl_WideText.f k bt178.1 bt178.2.1 bt178.2.2).bind fun t181 => (if t181.toList = t177.toList then (some true) else (some false))))) = some r := H
  have A2 := Aside0.mk A20
  clear A20
  replace H := Option.bind_eq_some_iff.mp H
  obtain ⟨t177, A30, H⟩ := H
  replace H : ((laws_toWide.f a0_0 a0_1 a0_2).bind fun bt178 => ((impl_WideText.f k bt178.1 bt178.2.1 bt178.2.2).bind fun t181 => (if t181.toList = t177.toList then (some true) else (some false)))) = some r := H
  have A3 := Aside0.mk A30
  clear A30
  replace H := Option.bind_eq_some_iff.mp H
  obtain ⟨⟨t178, t179, t180⟩, A40, H⟩ := H
  replace H : ((impl_WideText.f k t178 t179 t180).bind fun t181 => (if t181.toList = t177.toList then (some true) else (some false))) = some r := H
  have A4 := Aside0.mk A40
  clear A40
  replace H := Option.bind_eq_some_iff.mp H
  obtain ⟨t181, A50, H⟩ := H
  replace H : (if t181.toList = t177.toList then (some true) else (some false)) = some r := H
  have A5 := Aside0.mk A50
  clear A50
  by_cases c6 : t181.toList = t177.toList
  · rw [if_pos c6] at H
    have c6b0 : (t181.toList == t177.toList) = true := beq_iff_eq.mpr c6
    have c6b1 : (t181.toList != t177.toList) = false := bne_eq_false_iff_eq.mpr c6
    clear c6
    obtain rfl := Option.some.inj H
    go_enter Tryd.func6, Tryd.ntmps6
    go_wp2_with (first | ((with_reducible refine gate_dst (N := 1) rfl ?_); refine box_event ?hg (N := 1) ?hd (cs := #[.bool a0_0, .int .u64 a0_1, .int .u64 a0_2]) (t := 36) ?hr ?_; (case hd => rfl); (case hg => rfl); (case hr => first | (go_simp; done) | (go_simp; rfl)); intro gb173 hg w7 hbox hb; have n0_ := Aside0.mk (below_step bel_ hb); have n1_ := Aside0.mk (hbox); have n2_ := bs_ (w := w) hg; have n3_ := bs_ (w := w) hg; clear HB; have HB := n0_; have BK173 := n1_; have GW173 := n2_; have GE173 := n3_; clear n0_ n1_ n2_ n3_; clear hb hbox hg; obtain ⟨hcz8_0, hcz8_1, hcz8_2, hfz8_0, hfz8_1, hfz8_2⟩ := cf3_ (w := w7) BK173.out) | ((with_reducible refine gate_callee (f := 21) rfl ?_); refine goesL_ (some 6) rfl rfl Tryd.func21 (by kernel_rfl) rfl #[.agg #[.bool a0_0, .int .u64 a0_1, .int .u64 a0_2]] rfl mp_ ?_; (with_reducible refine (laws_toWide.calls a0_0 a0_1 a0_2 t174 t175 t176 _ A2.out).mono ?_); rintro e w9 ⟨rfl, hb⟩; refine ⟨_, rfl, ?_⟩; have n0_ := bb_ (g := gb173) hb; have n1_ := Aside0.mk (below_step bel_ hb); clear BK173; clear HB; have BK173 := n0_; have HB := n1_; clear n0_ n1_; (try clear hb); (try clear hb2); (try clear hk); (try clear hi)) | ((with_reducible refine gate_callee (f := 20) rfl ?_); refine goesL_ (some 7) rfl rfl Tryd.func20 (by kernel_rfl) rfl #[.agg #[.bool t174, .int .u64 t175, .int .u64 t176]] rfl mp_ ?_; (with_reducible refine (spec_WideText.calls k t174 t175 t176 t177 _ A3.out).mono ?_); rintro e w10 ⟨rfl, hb⟩; refine ⟨_, rfl, ?_⟩; have n0_ := bb_ (g := gb173) hb; have n1_ := Aside0.mk (below_step bel_ hb); clear BK173; clear HB; have BK173 := n0_; have HB := n1_; clear n0_ n1_; (try clear hb); (try clear hb2); (try clear hk); (try clear hi); obtain ⟨hcz11_0, hcz11_1, hcz11_2, hfz11_0, hfz11_1, hfz11_2⟩ := cf3_ (w := w10) BK173.out) | ((with_reducible refine gate_callee (f := 21) rfl ?_); refine goesL_ (some 9) rfl rfl Tryd.func21 (by kernel_rfl) rfl #[.agg #[.bool a0_0, .int .u64 a0_1, .int .u64 a0_2]] rfl mp_ ?_; (with_reducible refine (laws_toWide.calls a0_0 a0_1 a0_2 t178 t179 t180 _ A4.out).mono ?_); rintro e w12 ⟨rfl, hb⟩; refine ⟨_, rfl, ?_⟩; have n0_ := bb_ (g := gb173) hb; have n1_ := Aside0.mk (below_step bel_ hb); clear BK173; clear HB; have BK173 := n0_; have HB := n1_; clear n0_ n1_; (try clear hb); (try clear hb2); (try clear hk); (try clear hi)) | ((with_reducible refine gate_callee (f := 22) rfl ?_); refine goesL_ (some 10) rfl rfl Tryd.func22 (by kernel_rfl) rfl #[.agg #[.bool t178, .int .u64 t179, .int .u64 t180]] rfl mp_ ?_; (with_reducible refine (impl_WideText.calls k t178 t179 t180 t181 _ A5.out (laid_ hl)).mono ?_); rintro e w13 ⟨rfl, hb⟩; refine ⟨_, rfl, ?_⟩; have n0_ := bb_ (g := gb173) hb; have n1_ := Aside0.mk (below_step bel_ hb); clear BK173; clear HB; have BK173 := n0_; have HB := n1_; clear n0_ n1_; (try clear hb); (try clear hb2); (try clear hk); (try clear hi)))
    all_goals go_ret
    all_goals exact ⟨rf_, bel_⟩
  · rw [if_neg c6] at H
    have c6b0 : (t181.toList == t177.toList) = false := beq_eq_false_iff_ne.mpr c6
    have c6b1 : (t181.toList != t177.toList) = true := bne_iff_ne.mpr c6
    exact absurd ((Option.some.inj H).trans hrt.out) (by decide)

end Go.Proofs.YtodbmgnhcglcnaaDoor.PFnExactWideText
