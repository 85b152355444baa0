/- Contracts of Go functions, each with the Lean function that says what it computes: begun by the print, turned by this session. No condition beyond what each theorem states. -/
import Derived.Test.YtkpgpifkbdpnkaaDoorPFnFracSumx0
import Derived.Test.YtkpgpifkbdpnkaaDoorPFnFracSumx8
import Derived.Test.YtkpgpifkbdpnkaaDoorPFnFracSumx9
import Derived.Test.YtkpgpifkbdpnkaaDoorPFnFracSumx14
namespace Go.Proofs.YtkpgpifkbdpnkaaDoor.PFnFracSum
open Go.RowKit Go.Proofs.YtkpgpifkbdpnkaaDoorVFnFracSum.PrintWords Go.Proofs.YtkpgpifkbdpnkaaDoorVFnFracSum.PrintLast Go.Proofs.YtkpgpifkbdpnkaaDoorVFnFracSum.PrintMore
attribute [local go_sem] max2_int min2_int max_two min_two max_three min_three max_four min_four   -- for this text's walks alone
set_option linter.unusedVariables false
set_option linter.unusedSimpArgs false
-- NOT PRINTED: function 91 (strings_Builder_WriteString)
-- NOT PRINTED: function 92 (strings_Builder_Len)
-- NOT PRINTED: function 93 (strings_Builder_String)
/-! ### strings_Repeat: function 48, by the shelf -/
def strings_Repeat.f (a0 : ByteArray) (a1 : Int) : Option (ByteArray) := if 0 ≤ a1 ∧ a1 ≤ 9223372036854775807 ∧ a0.size * a1.toNat ≤ 140737488355328 then some ⟨(Lib.repeatL a0.data.toList a1.toNat).toArray⟩ else none
theorem strings_Repeat.calls (a0 : ByteArray) (a1 : Int) (r : ByteArray) (w : World) (h : strings_Repeat.f a0 a1 = some r) :
  Calls Tryd.prog 48 #[.string a0, .int .i64 a1] w fun e w' => e = .returned (.string r) ∧ Below w.heap.size w w' := by
 unfold strings_Repeat.f at h
 by_cases c : 0 ≤ a1 ∧ a1 ≤ 9223372036854775807 ∧ a0.size * a1.toNat ≤ 140737488355328
 ·rw [if_pos c] at h
  obtain rfl := Option.some.inj h
  obtain ⟨c0, c1, c2⟩ := c
  obtain ⟨k, rfl⟩ := Int.eq_ofNat_of_zero_le c0
  refine (Tryd.strings_Repeat a0 k w (by omega) c2).mono ?_
  rintro e w' ⟨rfl, hb⟩
  exact ⟨rfl, hb⟩
 ·rw [if_neg c] at h
  cases h
theorem rep_ {s : ByteArray} {x : Int} {r : ByteArray} (h : strings_Repeat.f s (wrap64 x) = some r) (e : wrap64 x = x) : strings_Repeat.f s x = some r := by
 rw [e] at h
 exact h
/-! ### impl_WideText: function 11 -/
mutual
def impl_WideText.j0 : Nat → ByteArray → Bool → Int → Int → Option (ByteArray)
 | 0, _, _, _, _ => none
 | k + 1, x3, x515000, x515001, x515002 => (bits_Div64.f k (Int.tmod x515001 10000000000000000000) x515002 10000000000000000000).bind fun bt516 => (if (IntKind.u64.wrap (Int.tdiv x515001 10000000000000000000)) = 0 then (impl_WideText.j1 k x3 (IntKind.u64.wrap (Int.tdiv x515001 10000000000000000000)) bt516.1 bt516.2 (bt516.1 == 0)) else (impl_WideText.j1 k x3 (IntKind.u64.wrap (Int.tdiv x515001 10000000000000000000)) bt516.1 bt516.2 false))
def impl_WideText.j1 : Nat → ByteArray → Int → Int → Int → Bool → Option (ByteArray)
 | 0, _, _, _, _, _ => none
 | k + 1, x3, x4, x6, x7, x35 => if x35 = true then ((strconv_FormatUint_47.f x7 10).bind fun t518 => (if x3.size + t518.size ≤ 9223372036854775807 then (some (x3 ++ t518)) else (none))) else ((bits_Div64.f k x4 x6 10000000000000000000).bind fun bt519 => ((strconv_FormatUint_47.f x7 10).bind fun t521 => ((strings_Repeat.f (⟨#[48]⟩ : ByteArray) (wrap64 (19 - (t521.size : Int)))).bind fun t522 => (if t522.size + t521.size ≤ 9223372036854775807 then ((strconv_FormatUint_47.f bt519.2 10).bind fun t523 => (if bt519.1 = 0 then (if x3.size + t523.size ≤ 9223372036854775807 then (if (x3 ++ t523).size + (t522 ++ t521).size ≤ 9223372036854775807 then (some ((x3 ++ t523) ++ (t522 ++ t521))) else (none)) else (none)) else ((strconv_FormatUint_47.f bt519.1 10).bind fun t524 => (if x3.size + t524.size ≤ 9223372036854775807 then ((strings_Repeat.f (⟨#[48]⟩ : ByteArray) (wrap64 (19 - (t523.size : Int)))).bind fun t525 => (if (x3 ++ t524).size + t525.size ≤ 9223372036854775807 then (if ((x3 ++ t524) ++ t525).size + t523.size ≤ 9223372036854775807 then (if (((x3 ++ t524) ++ t525) ++ t523).size + (t522 ++ t521).size ≤ 9223372036854775807 then (some ((((x3 ++ t524) ++ t525) ++ t523) ++ (t522 ++ t521))) else (none)) else (none)) else (none))) else (none))))) else (none)))))
end
def impl_WideText.f (k : Nat) (a0_0 : Bool) (a0_1 : Int) (a0_2 : Int) : Option (ByteArray) := (impl_WideOk.f a0_0 a0_1 a0_2).bind fun t515 => (if t515 = true then (if a0_0 = true then (impl_WideText.j0 k (⟨#[45]⟩ : ByteArray) a0_0 a0_1 a0_2) else (impl_WideText.j0 k (⟨#[]⟩ : ByteArray) a0_0 a0_1 a0_2)) else (some (⟨#[]⟩ : ByteArray)))
theorem impl_WideText.mono_l : ∀ k, (∀ y0 y1 y2 y3, LeO (impl_WideText.j0 k y0 y1 y2 y3) (impl_WideText.j0 (k + 1) y0 y1 y2 y3)) ∧ (∀ y0 y1 y2 y3 y4, LeO (impl_WideText.j1 k y0 y1 y2 y3 y4) (impl_WideText.j1 (k + 1) y0 y1 y2 y3 y4))
 | 0 => ⟨fun _ _ _ _ r h => by simp [impl_WideText.j0] at h, fun _ _ _ _ _ r h => by simp [impl_WideText.j1] at h⟩
 | k + 1 => by
  obtain ⟨ih0, ih1⟩ := impl_WideText.mono_l k
  refine ⟨?_, ?_⟩
  ·intro y0 y1 y2 y3
   unfold impl_WideText.j0
   repeat' first
   | (with_reducible exact ih0 _ _ _ _)
   | (with_reducible exact ih1 _ _ _ _ _)
   | (with_reducible exact bits_Div64.mono _ _ _ _)
   | (with_reducible exact LeO.refl _)
   | (with_reducible exact LeO.none _)
   | (with_reducible refine LeO.ite ?_ ?_)
   | (with_reducible refine LeO.bind ?_ (fun _ => ?_))
   | exact ih0 _ _ _ _
   | exact ih1 _ _ _ _ _
   | exact bits_Div64.mono _ _ _ _
   | exact LeO.none _
   | refine LeO.ite ?_ ?_
   | refine LeO.bind ?_ (fun _ => ?_)
  ·intro y0 y1 y2 y3 y4
   unfold impl_WideText.j1
   repeat' first
   | (with_reducible exact ih0 _ _ _ _)
   | (with_reducible exact ih1 _ _ _ _ _)
   | (with_reducible exact bits_Div64.mono _ _ _ _)
   | (with_reducible exact LeO.refl _)
   | (with_reducible exact LeO.none _)
   | (with_reducible refine LeO.ite ?_ ?_)
   | (with_reducible refine LeO.bind ?_ (fun _ => ?_))
   | exact ih0 _ _ _ _
   | exact ih1 _ _ _ _ _
   | exact bits_Div64.mono _ _ _ _
   | exact LeO.none _
   | refine LeO.ite ?_ ?_
   | refine LeO.bind ?_ (fun _ => ?_)
theorem impl_WideText.mono : ∀ a0 a1 a2 k, LeO (impl_WideText.f k a0 a1 a2) (impl_WideText.f (k + 1) a0 a1 a2) := by
 intro a0 a1 a2 k
 obtain ⟨ih0, ih1⟩ := impl_WideText.mono_l k
 unfold impl_WideText.f
 repeat' first
   | (with_reducible exact ih0 _ _ _ _)
   | (with_reducible exact ih1 _ _ _ _ _)
   | (with_reducible exact bits_Div64.mono _ _ _ _)
   | (with_reducible exact LeO.refl _)
   | (with_reducible exact LeO.none _)
   | (with_reducible refine LeO.ite ?_ ?_)
   | (with_reducible refine LeO.bind ?_ (fun _ => ?_))
   | exact ih0 _ _ _ _
   | exact ih1 _ _ _ _ _
   | exact bits_Div64.mono _ _ _ _
   | exact LeO.none _
   | refine LeO.ite ?_ ?_
   | refine LeO.bind ?_ (fun _ => ?_)
set_option maxHeartbeats 8000000 in
set_option maxRecDepth 100000 in
theorem impl_WideText.calls (k : Nat) (a0_0 : Bool) (a0_1 : Int) (a0_2 : Int) (r : ByteArray) (w : World) (h : impl_WideText.f k a0_0 a0_1 a0_2 = some r) (hl : Laid w) :
  Calls Tryd.prog 11 #[.agg #[.bool a0_0, .int .u64 a0_1, .int .u64 a0_2]] w fun e w' => e = .returned (.string r) ∧ Below w.heap.size w w' := by
 have hu28 := Tryd.underlying28
 have HB := Aside0.mk (Below.refl w.heap.size w)
 have H : ((impl_WideOk.f a0_0 a0_1 a0_2).bind fun t515 => (if t515 = true then (if a0_0 = true then (impl_WideText.j0 k (⟨#[45]⟩ : ByteArray) a0_0 a0_1 a0_2) else (impl_WideText.j0 k (⟨#[]⟩ : ByteArray) a0_0 a0_1 a0_2)) else (some (⟨#[]⟩ : ByteArray)))) = some r := h
 clear h
 replace H := Option.bind_eq_some_iff.mp H
 obtain ⟨t515, A20, H⟩ := H
 replace H : (if t515 = true then (if a0_0 = true then (impl_WideText.j0 k (⟨#[45]⟩ : ByteArray) a0_0 a0_1 a0_2) else (impl_WideText.j0 k (⟨#[]⟩ : ByteArray) a0_0 a0_1 a0_2)) else (some (⟨#[]⟩ : ByteArray))) = some r := H
 have A2 := Aside0.mk A20
 clear A20
 by_cases c3 : t515 = true
 ·subst c3
  have H1 : (if a0_0 = true then (impl_WideText.j0 k (⟨#[45]⟩ : ByteArray) a0_0 a0_1 a0_2) else (impl_WideText.j0 k (⟨#[]⟩ : ByteArray) a0_0 a0_1 a0_2)) = some r := by rw [if_pos rfl] at H; exact H
  clear H
  have H := H1
  clear H1
  have HC4 := Aside0.mk H
  clear H
  go_enter Tryd.func11, Tryd.ntmps11
  go_upto_if 16 with (first | ((with_reducible refine gate_dst (N := 1) rfl ?_); refine box_event ?hg (N := 1) ?hd (cs := #[.bool a0_0, .int .u64 a0_1, .int .u64 a0_2]) (t := 28) ?hr ?_; (case hd => rfl); (case hg => rfl); (case hr => first | (go_simp; done) | (go_simp; rfl)); intro gb514 hg w5 hbox hb; have BK514 := Aside0.mk (hbox); have GW514 := bs_ (w := w) hg; have GE514 := bs_ (w := w) hg; replace HB := Aside0.mk (below_step bel_ hb); clear hb hbox hg; obtain ⟨hcz6_0, hcz6_1, hcz6_2, hfz6_0, hfz6_1, hfz6_2⟩ := cf3_ (w := w5) BK514.out) | (go_at_call 45; (with_reducible refine (impl_WideOk.calls a0_0 a0_1 a0_2 true _ A2.out).mono ?_); rintro e w7 ⟨rfl, hb⟩; replace HB := Aside0.mk (below_step bel_ hb); replace BK514 := bb_ (g := gb514) hb; (try clear hb); (try clear hb2); (try clear hk); (try clear hi); obtain ⟨hcz8_0, hcz8_1, hcz8_2, hfz8_0, hfz8_1, hfz8_2⟩ := cf3_ (w := w7) BK514.out))
  repeat (go_quiet (first | ((with_reducible refine gate_dst (N := 1) rfl ?_); refine box_event ?hg (N := 1) ?hd (cs := #[.bool a0_0, .int .u64 a0_1, .int .u64 a0_2]) (t := 28) ?hr ?_; (case hd => rfl); (case hg => rfl); (case hr => first | (go_simp; done) | (go_simp; rfl)); intro gb514 hg w5 hbox hb; have BK514 := Aside0.mk (hbox); have GW514 := bs_ (w := w) hg; have GE514 := bs_ (w := w) hg; replace HB := Aside0.mk (below_step bel_ hb); clear hb hbox hg; obtain ⟨hcz6_0, hcz6_1, hcz6_2, hfz6_0, hfz6_1, hfz6_2⟩ := cf3_ (w := w5) BK514.out) | (go_at_call 45; (with_reducible refine (impl_WideOk.calls a0_0 a0_1 a0_2 true _ A2.out).mono ?_); rintro e w7 ⟨rfl, hb⟩; replace HB := Aside0.mk (below_step bel_ hb); replace BK514 := bb_ (g := gb514) hb; (try clear hb); (try clear hb2); (try clear hk); (try clear hi); obtain ⟨hcz8_0, hcz8_1, hcz8_2, hfz8_0, hfz8_1, hfz8_2⟩ := cf3_ (w := w7) BK514.out)); go_upto_if 16 with (first | ((with_reducible refine gate_dst (N := 1) rfl ?_); refine box_event ?hg (N := 1) ?hd (cs := #[.bool a0_0, .int .u64 a0_1, .int .u64 a0_2]) (t := 28) ?hr ?_; (case hd => rfl); (case hg => rfl); (case hr => first | (go_simp; done) | (go_simp; rfl)); intro gb514 hg w5 hbox hb; have BK514 := Aside0.mk (hbox); have GW514 := bs_ (w := w) hg; have GE514 := bs_ (w := w) hg; replace HB := Aside0.mk (below_step bel_ hb); clear hb hbox hg; obtain ⟨hcz6_0, hcz6_1, hcz6_2, hfz6_0, hfz6_1, hfz6_2⟩ := cf3_ (w := w5) BK514.out) | (go_at_call 45; (with_reducible refine (impl_WideOk.calls a0_0 a0_1 a0_2 true _ A2.out).mono ?_); rintro e w7 ⟨rfl, hb⟩; replace HB := Aside0.mk (below_step bel_ hb); replace BK514 := bb_ (g := gb514) hb; (try clear hb); (try clear hb2); (try clear hk); (try clear hi); obtain ⟨hcz8_0, hcz8_1, hcz8_2, hfz8_0, hfz8_1, hfz8_2⟩ := cf3_ (w := w7) BK514.out)))
  (try simp only [Act.put, la_, lb_, lc_])
  go_cut [3] (fun v3 wc => ∃ (kq : Nat) (x3_3 : ByteArray), v3 = .string x3_3 ∧ Aside0 (impl_WideText.j0 kq x3_3 a0_0 a0_1 a0_2 = some r) ∧ Aside0 (kq ≤ k) ∧ Aside0 (wc.heap[gb514]? = some (.cells #[.bool a0_0, .int .u64 a0_1, .int .u64 a0_2] 28 (0, 0))) ∧ Aside0 (Below w.heap.size w wc))
  case first =>
   have H := HC4.out
   clear HC4
   by_cases c9 : a0_0 = true
   ·subst c9
    have H1 : (impl_WideText.j0 k (⟨#[45]⟩ : ByteArray) true a0_1 a0_2) = some r := by rw [if_pos rfl] at H; exact H
    clear H
    have H := H1
    clear H1
    have H' := Aside0.mk H
    clear H
    go_wp2
    repeat (go_quiet (fail); try go_wp2)
    go_meet
    case rel => exact ⟨_, ((⟨#[45]⟩ : ByteArray)), (by first | rfl | (simp; done) | (simp [*]; done)), H', ⟨by first | omega | exact Nat.le_refl _⟩, ⟨by (with_reducible repeat (first | refine bN_ _ ?_ | refine bd_ ?_ | refine ba_ _ ?_)); exact BK514.out⟩, ⟨bel_⟩⟩
   ·replace c9 := Bool.eq_false_iff.mpr c9
    subst c9
    have H1 : (impl_WideText.j0 k (⟨#[]⟩ : ByteArray) false a0_1 a0_2) = some r := by rw [if_neg (show ¬ (false = true) by decide)] at H; exact H
    clear H
    have H := H1
    clear H1
    have H' := Aside0.mk H
    clear H
    go_wp2
    repeat (go_quiet (fail); try go_wp2)
    go_meet
    case rel => exact ⟨_, ((⟨#[]⟩ : ByteArray)), (by first | rfl | (simp; done) | (simp [*]; done)), H', ⟨by first | omega | exact Nat.le_refl _⟩, ⟨by (with_reducible repeat (first | refine bN_ _ ?_ | refine bd_ ?_ | refine ba_ _ ?_)); exact BK514.out⟩, ⟨bel_⟩⟩
  case rest =>
   clear HC4
   try clear c1
   try clear p2
   try clear c3
   try clear c9
   try clear hcz6_0
   try clear hcz6_1
   try clear hcz6_2
   try clear hcz8_0
   try clear hcz8_1
   try clear hcz8_2
   try clear hfz6_0
   try clear hfz6_1
   try clear hfz6_2
   try clear hfz8_0
   try clear hfz8_1
   try clear hfz8_2
   obtain ⟨kq, x3_3, rfl, HA, HJ3, BK514, HB⟩ := hcut
   cases kq with
   | zero => exact absurd HA.out (by simp [impl_WideText.j0])
   | succ kj3 =>
    have H := HA.out
    clear HA
    simp only [impl_WideText.j0] at H
    replace H := Option.bind_eq_some_iff.mp H
    obtain ⟨⟨t516, t517⟩, A100, H⟩ := H
    replace H : (if (IntKind.u64.wrap (Int.tdiv a0_1 10000000000000000000)) = 0 then (impl_WideText.j1 kj3 x3_3 (IntKind.u64.wrap (Int.tdiv a0_1 10000000000000000000)) t516 t517 (t516 == 0)) else (impl_WideText.j1 kj3 x3_3 (IntKind.u64.wrap (Int.tdiv a0_1 10000000000000000000)) t516 t517 false)) = some r := H
    have A10 := Aside0.mk A100
    clear A100
    have HC11 := Aside0.mk H
    clear H
    obtain ⟨hcz12_0, hcz12_1, hcz12_2, hfz12_0, hfz12_1, hfz12_2⟩ := cf3_ (w := wc) BK514.out
    go_upto_region 8 with (first | (go_at_call 46; (with_reducible refine (bits_Div64.calls kj3 (Int.tmod a0_1 10000000000000000000) a0_2 10000000000000000000 t516 t517 _ A10.out).mono ?_); rintro e w13 ⟨rfl, hb⟩; replace HB := Aside0.mk (below_step bel_ hb); replace BK514 := bb_ (g := gb514) hb; (try clear hb); (try clear hb2); (try clear hk); (try clear hi)))
    repeat (go_quiet (first | (go_at_call 46; (with_reducible refine (bits_Div64.calls kj3 (Int.tmod a0_1 10000000000000000000) a0_2 10000000000000000000 t516 t517 _ A10.out).mono ?_); rintro e w13 ⟨rfl, hb⟩; replace HB := Aside0.mk (below_step bel_ hb); replace BK514 := bb_ (g := gb514) hb; (try clear hb); (try clear hb2); (try clear hk); (try clear hi))); go_upto_region 8 with (first | (go_at_call 46; (with_reducible refine (bits_Div64.calls kj3 (Int.tmod a0_1 10000000000000000000) a0_2 10000000000000000000 t516 t517 _ A10.out).mono ?_); rintro e w13 ⟨rfl, hb⟩; replace HB := Aside0.mk (below_step bel_ hb); replace BK514 := bb_ (g := gb514) hb; (try clear hb); (try clear hb2); (try clear hk); (try clear hi))))
    (try simp only [Act.put, la_, lb_, lc_])
    go_cut [35] (fun v35 wc => ∃ (kq : Nat) (x35_10 : Bool), v35 = .bool x35_10 ∧ Aside0 (impl_WideText.j1 kq x3_3 (IntKind.u64.wrap (Int.tdiv a0_1 10000000000000000000)) t516 t517 x35_10 = some r) ∧ Aside0 (kq ≤ kj3) ∧ Aside0 (wc.heap[gb514]? = some (.cells #[.bool a0_0, .int .u64 a0_1, .int .u64 a0_2] 28 (0, 0))) ∧ Aside0 (Below w.heap.size w wc))
    case first =>
     have H := HC11.out
     clear HC11
     by_cases c14 : (IntKind.u64.wrap (Int.tdiv a0_1 10000000000000000000)) = 0
     ·rw [if_pos c14] at H
      have c14b0 : ((IntKind.u64.wrap (Int.tdiv a0_1 10000000000000000000)) == 0) = true := beq_iff_eq.mpr c14
      have c14b1 : ((IntKind.u64.wrap (Int.tdiv a0_1 10000000000000000000)) != 0) = false := bne_eq_false_iff_eq.mpr c14
      clear c14
      (first | rw [c14b0] | (simp only [i64_w, i32_w]; rw [c14b0]) | skip)
      have H' := Aside0.mk H
      clear H
      go_wp2
      repeat (go_quiet (fail); try go_wp2)
      go_meet
      case rel => exact ⟨_, ((t516 == 0)), (by first | rfl | (simp; done) | (simp [*]; done)), H', ⟨by have := HJ3.out; first | omega | exact Nat.le_refl _⟩, ⟨by (with_reducible repeat (first | refine bN_ _ ?_ | refine bd_ ?_ | refine ba_ _ ?_)); exact BK514.out⟩, ⟨bel_⟩⟩
     ·rw [if_neg c14] at H
      have c14b0 : ((IntKind.u64.wrap (Int.tdiv a0_1 10000000000000000000)) == 0) = false := beq_eq_false_iff_ne.mpr c14
      have c14b1 : ((IntKind.u64.wrap (Int.tdiv a0_1 10000000000000000000)) != 0) = true := bne_iff_ne.mpr c14
      (first | rw [c14b0] | (simp only [i64_w, i32_w]; rw [c14b0]) | skip)
      have H' := Aside0.mk H
      clear H
      go_wp2
      repeat (go_quiet (fail); try go_wp2)
      go_meet
      case rel => exact ⟨_, (false), (by first | rfl | (simp; done) | (simp [*]; done)), H', ⟨by have := HJ3.out; first | omega | exact Nat.le_refl _⟩, ⟨by (with_reducible repeat (first | refine bN_ _ ?_ | refine bd_ ?_ | refine ba_ _ ?_)); exact BK514.out⟩, ⟨bel_⟩⟩
    case rest =>
     clear HC11
     try clear c1
     try clear p2
     try clear c3
     try clear c9
     try clear c11
     try clear c14
     try clear c14b0
     try clear c14b1
     try clear hcz12_0
     try clear hcz12_1
     try clear hcz12_2
     try clear hcz6_0
     try clear hcz6_1
     try clear hcz6_2
     try clear hcz8_0
     try clear hcz8_1
     try clear hcz8_2
     try clear hfz12_0
     try clear hfz12_1
     try clear hfz12_2
     try clear hfz6_0
     try clear hfz6_1
     try clear hfz6_2
     try clear hfz8_0
     try clear hfz8_1
     try clear hfz8_2
     try clear p2
     obtain ⟨kq, x35_10, rfl, HA, HJ10, BK514, HB⟩ := hcut
     cases kq with
     | zero => exact absurd HA.out (by simp [impl_WideText.j1])
     | succ kj10 =>
      have H := HA.out
      clear HA
      simp only [impl_WideText.j1] at H
      by_cases c15 : x35_10 = true
      ·subst c15
       have H1 : ((strconv_FormatUint_47.f t517 10).bind fun t518 => (if x3_3.size + t518.size ≤ 9223372036854775807 then (some (x3_3 ++ t518)) else (none))) = some r := by rw [if_pos rfl] at H; exact H
       clear H
       have H := H1
       clear H1
       replace H := Option.bind_eq_some_iff.mp H
       obtain ⟨t518, A160, H⟩ := H
       replace H : (if x3_3.size + t518.size ≤ 9223372036854775807 then (some (x3_3 ++ t518)) else (none)) = some r := H
       have A16 := Aside0.mk A160
       clear A160
       by_cases c17 : x3_3.size + t518.size ≤ 9223372036854775807
       ·rw [if_pos c17] at H
        have c17b0 := eq_true c17
        have c17b1 : decide (x3_3.size + t518.size ≤ 9223372036854775807) = true := decide_eq_true c17
        try have c17b2 : (9223372036854775807 < x3_3.size + t518.size) = False := eq_false (Nat.not_lt.2 c17)
        obtain rfl := Option.some.inj H
        go_wp2_with (first | (go_at_call 47; (with_reducible refine (strconv_FormatUint_47.calls t517 10 t518 _ A16.out (laid_ hl)).mono ?_); rintro e w18 ⟨rfl, hb⟩; replace HB := Aside0.mk (below_step bel_ hb); replace BK514 := bb_ (g := gb514) hb; (try clear hb); (try clear hb2); (try clear hk); (try clear hi)))
        repeat (go_quiet (first | (go_at_call 47; (with_reducible refine (strconv_FormatUint_47.calls t517 10 t518 _ A16.out (laid_ hl)).mono ?_); rintro e w18 ⟨rfl, hb⟩; replace HB := Aside0.mk (below_step bel_ hb); replace BK514 := bb_ (g := gb514) hb; (try clear hb); (try clear hb2); (try clear hk); (try clear hi))); try go_wp2_with (first | (go_at_call 47; (with_reducible refine (strconv_FormatUint_47.calls t517 10 t518 _ A16.out (laid_ hl)).mono ?_); rintro e w18 ⟨rfl, hb⟩; replace HB := Aside0.mk (below_step bel_ hb); replace BK514 := bb_ (g := gb514) hb; (try clear hb); (try clear hb2); (try clear hk); (try clear hi))))
        go_ret
        exact ⟨rf_, bel_⟩
       ·rw [if_neg c17] at H
        exact absurd H (by simp)
      ·replace c15 := Bool.eq_false_iff.mpr c15
       subst c15
       have H1 : ((bits_Div64.f kj10 (IntKind.u64.wrap (Int.tdiv a0_1 10000000000000000000)) t516 10000000000000000000).bind fun bt519 => ((strconv_FormatUint_47.f t517 10).bind fun t521 => ((strings_Repeat.f (⟨#[48]⟩ : ByteArray) (wrap64 (19 - (t521.size : Int)))).bind fun t522 => (if t522.size + t521.size ≤ 9223372036854775807 then ((strconv_FormatUint_47.f bt519.2 10).bind fun t523 => (if bt519.1 = 0 then (if x3_3.size + t523.size ≤ 9223372036854775807 then (if (x3_3 ++ t523).size + (t522 ++ t521).size ≤ 9223372036854775807 then (some ((x3_3 ++ t523) ++ (t522 ++ t521))) else (none)) else (none)) else ((strconv_FormatUint_47.f bt519.1 10).bind fun t524 => (if x3_3.size + t524.size ≤ 9223372036854775807 then ((strings_Repeat.f (⟨#[48]⟩ : ByteArray) (wrap64 (19 - (t523.size : Int)))).bind fun t525 => (if (x3_3 ++ t524).size + t525.size ≤ 9223372036854775807 then (if ((x3_3 ++ t524) ++ t525).size + t523.size ≤ 9223372036854775807 then (if (((x3_3 ++ t524) ++ t525) ++ t523).size + (t522 ++ t521).size ≤ 9223372036854775807 then (some ((((x3_3 ++ t524) ++ t525) ++ t523) ++ (t522 ++ t521))) else (none)) else (none)) else (none))) else (none))))) else (none))))) = some r := by rw [if_neg (show ¬ (false = true) by decide)] at H; exact H
       clear H
       have H := H1
       clear H1
       replace H := Option.bind_eq_some_iff.mp H
       obtain ⟨⟨t519, t520⟩, A190, H⟩ := H
       replace H : ((strconv_FormatUint_47.f t517 10).bind fun t521 => ((strings_Repeat.f (⟨#[48]⟩ : ByteArray) (wrap64 (19 - (t521.size : Int)))).bind fun t522 => (if t522.size + t521.size ≤ 9223372036854775807 then ((strconv_FormatUint_47.f t520 10).bind fun t523 => (if t519 = 0 then (if x3_3.size + t523.size ≤ 9223372036854775807 then (if (x3_3 ++ t523).size + (t522 ++ t521).size ≤ 9223372036854775807 then (some ((x3_3 ++ t523) ++ (t522 ++ t521))) else (none)) else (none)) else ((strconv_FormatUint_47.f t519 10).bind fun t524 => (if x3_3.size + t524.size ≤ 9223372036854775807 then ((strings_Repeat.f (⟨#[48]⟩ : ByteArray) (wrap64 (19 - (t523.size : Int)))).bind fun t525 => (if (x3_3 ++ t524).size + t525.size ≤ 9223372036854775807 then (if ((x3_3 ++ t524) ++ t525).size + t523.size ≤ 9223372036854775807 then (if (((x3_3 ++ t524) ++ t525) ++ t523).size + (t522 ++ t521).size ≤ 9223372036854775807 then (some ((((x3_3 ++ t524) ++ t525) ++ t523) ++ (t522 ++ t521))) else (none)) else (none)) else (none))) else (none))))) else (none)))) = some r := H
       have A19 := Aside0.mk A190
       clear A190
       replace H := Option.bind_eq_some_iff.mp H
       obtain ⟨t521, A200, H⟩ := H
       replace H : ((strings_Repeat.f (⟨#[48]⟩ : ByteArray) (wrap64 (19 - (t521.size : Int)))).bind fun t522 => (if t522.size + t521.size ≤ 9223372036854775807 then ((strconv_FormatUint_47.f t520 10).bind fun t523 => (if t519 = 0 then (if x3_3.size + t523.size ≤ 9223372036854775807 then (if (x3_3 ++ t523).size + (t522 ++ t521).size ≤ 9223372036854775807 then (some ((x3_3 ++ t523) ++ (t522 ++ t521))) else (none)) else (none)) else ((strconv_FormatUint_47.f t519 10).bind fun t524 => (if x3_3.size + t524.size ≤ 9223372036854775807 then ((strings_Repeat.f (⟨#[48]⟩ : ByteArray) (wrap64 (19 - (t523.size : Int)))).bind fun t525 => (if (x3_3 ++ t524).size + t525.size ≤ 9223372036854775807 then (if ((x3_3 ++ t524) ++ t525).size + t523.size ≤ 9223372036854775807 then (if (((x3_3 ++ t524) ++ t525) ++ t523).size + (t522 ++ t521).size ≤ 9223372036854775807 then (some ((((x3_3 ++ t524) ++ t525) ++ t523) ++ (t522 ++ t521))) else (none)) else (none)) else (none))) else (none))))) else (none))) = some r := H
       have A20 := Aside0.mk A200
       clear A200
       replace H := Option.bind_eq_some_iff.mp H
       obtain ⟨t522, A210, H⟩ := H
       replace H : (if t522.size + t521.size ≤ 9223372036854775807 then ((strconv_FormatUint_47.f t520 10).bind fun t523 => (if t519 = 0 then (if x3_3.size + t523.size ≤ 9223372036854775807 then (if (x3_3 ++ t523).size + (t522 ++ t521).size ≤ 9223372036854775807 then (some ((x3_3 ++ t523) ++ (t522 ++ t521))) else (none)) else (none)) else ((strconv_FormatUint_47.f t519 10).bind fun t524 => (if x3_3.size + t524.size ≤ 9223372036854775807 then ((strings_Repeat.f (⟨#[48]⟩ : ByteArray) (wrap64 (19 - (t523.size : Int)))).bind fun t525 => (if (x3_3 ++ t524).size + t525.size ≤ 9223372036854775807 then (if ((x3_3 ++ t524) ++ t525).size + t523.size ≤ 9223372036854775807 then (if (((x3_3 ++ t524) ++ t525) ++ t523).size + (t522 ++ t521).size ≤ 9223372036854775807 then (some ((((x3_3 ++ t524) ++ t525) ++ t523) ++ (t522 ++ t521))) else (none)) else (none)) else (none))) else (none))))) else (none)) = some r := H
       have A21 := Aside0.mk A210
       clear A210
       by_cases c22 : t522.size + t521.size ≤ 9223372036854775807
       ·rw [if_pos c22] at H
        have c22b0 := eq_true c22
        have c22b1 : decide (t522.size + t521.size ≤ 9223372036854775807) = true := decide_eq_true c22
        try have c22b2 : (9223372036854775807 < t522.size + t521.size) = False := eq_false (Nat.not_lt.2 c22)
        replace H := Option.bind_eq_some_iff.mp H
        obtain ⟨t523, A230, H⟩ := H
        replace H : (if t519 = 0 then (if x3_3.size + t523.size ≤ 9223372036854775807 then (if (x3_3 ++ t523).size + (t522 ++ t521).size ≤ 9223372036854775807 then (some ((x3_3 ++ t523) ++ (t522 ++ t521))) else (none)) else (none)) else ((strconv_FormatUint_47.f t519 10).bind fun t524 => (if x3_3.size + t524.size ≤ 9223372036854775807 then ((strings_Repeat.f (⟨#[48]⟩ : ByteArray) (wrap64 (19 - (t523.size : Int)))).bind fun t525 => (if (x3_3 ++ t524).size + t525.size ≤ 9223372036854775807 then (if ((x3_3 ++ t524) ++ t525).size + t523.size ≤ 9223372036854775807 then (if (((x3_3 ++ t524) ++ t525) ++ t523).size + (t522 ++ t521).size ≤ 9223372036854775807 then (some ((((x3_3 ++ t524) ++ t525) ++ t523) ++ (t522 ++ t521))) else (none)) else (none)) else (none))) else (none)))) = some r := H
        have A23 := Aside0.mk A230
        clear A230
        by_cases c24 : t519 = 0
        ·rw [if_pos c24] at H
         have c24b0 : (t519 == 0) = true := beq_iff_eq.mpr c24
         have c24b1 : (t519 != 0) = false := bne_eq_false_iff_eq.mpr c24
         clear c24
         by_cases c25 : x3_3.size + t523.size ≤ 9223372036854775807
         ·rw [if_pos c25] at H
          have c25b0 := eq_true c25
          have c25b1 : decide (x3_3.size + t523.size ≤ 9223372036854775807) = true := decide_eq_true c25
          try have c25b2 : (9223372036854775807 < x3_3.size + t523.size) = False := eq_false (Nat.not_lt.2 c25)
          by_cases c26 : (x3_3 ++ t523).size + (t522 ++ t521).size ≤ 9223372036854775807
          ·rw [if_pos c26] at H
           have c26b0 := eq_true c26
           have c26b1 : decide ((x3_3 ++ t523).size + (t522 ++ t521).size ≤ 9223372036854775807) = true := decide_eq_true c26
           try have c26b2 : (9223372036854775807 < (x3_3 ++ t523).size + (t522 ++ t521).size) = False := eq_false (Nat.not_lt.2 c26)
           (try (have c26b7 := c26b2; simp only [ByteArray.size_append, bsz_, List.size_toArray, List.length_cons, List.length_nil, Nat.zero_add, Nat.reduceAdd] at c26b7))
           obtain rfl := Option.some.inj H
           go_wp2_with (first | (go_at_call 46; (with_reducible refine (bits_Div64.calls kj10 (IntKind.u64.wrap (Int.tdiv a0_1 10000000000000000000)) t516 10000000000000000000 t519 t520 _ A19.out).mono ?_); rintro e w27 ⟨rfl, hb⟩; replace HB := Aside0.mk (below_step bel_ hb); replace BK514 := bb_ (g := gb514) hb; (try clear hb); (try clear hb2); (try clear hk); (try clear hi)) | (go_at_call 47; (with_reducible refine (strconv_FormatUint_47.calls t517 10 t521 _ A20.out (laid_ hl)).mono ?_); rintro e w28 ⟨rfl, hb⟩; replace HB := Aside0.mk (below_step bel_ hb); replace BK514 := bb_ (g := gb514) hb; (try clear hb); (try clear hb2); (try clear hk); (try clear hi)) | (go_at_call 48; (with_reducible refine (strings_Repeat.calls (⟨#[48]⟩ : ByteArray) (19 - (t521.size : Int)) t522 _ (rep_ A21.out (by unfold wrap64; omega))).mono ?_); rintro e w29 ⟨rfl, hb⟩; replace HB := Aside0.mk (below_step bel_ hb); replace BK514 := bb_ (g := gb514) hb; (try clear hb); (try clear hb2); (try clear hk); (try clear hi)) | (go_at_call 47; (with_reducible refine (strconv_FormatUint_47.calls t520 10 t523 _ A23.out (laid_ hl)).mono ?_); rintro e w30 ⟨rfl, hb⟩; replace HB := Aside0.mk (below_step bel_ hb); replace BK514 := bb_ (g := gb514) hb; (try clear hb); (try clear hb2); (try clear hk); (try clear hi)))
           repeat (go_quiet (first | (go_at_call 46; (with_reducible refine (bits_Div64.calls kj10 (IntKind.u64.wrap (Int.tdiv a0_1 10000000000000000000)) t516 10000000000000000000 t519 t520 _ A19.out).mono ?_); rintro e w27 ⟨rfl, hb⟩; replace HB := Aside0.mk (below_step bel_ hb); replace BK514 := bb_ (g := gb514) hb; (try clear hb); (try clear hb2); (try clear hk); (try clear hi)) | (go_at_call 47; (with_reducible refine (strconv_FormatUint_47.calls t517 10 t521 _ A20.out (laid_ hl)).mono ?_); rintro e w28 ⟨rfl, hb⟩; replace HB := Aside0.mk (below_step bel_ hb); replace BK514 := bb_ (g := gb514) hb; (try clear hb); (try clear hb2); (try clear hk); (try clear hi)) | (go_at_call 48; (with_reducible refine (strings_Repeat.calls (⟨#[48]⟩ : ByteArray) (19 - (t521.size : Int)) t522 _ (rep_ A21.out (by unfold wrap64; omega))).mono ?_); rintro e w29 ⟨rfl, hb⟩; replace HB := Aside0.mk (below_step bel_ hb); replace BK514 := bb_ (g := gb514) hb; (try clear hb); (try clear hb2); (try clear hk); (try clear hi)) | (go_at_call 47; (with_reducible refine (strconv_FormatUint_47.calls t520 10 t523 _ A23.out (laid_ hl)).mono ?_); rintro e w30 ⟨rfl, hb⟩; replace HB := Aside0.mk (below_step bel_ hb); replace BK514 := bb_ (g := gb514) hb; (try clear hb); (try clear hb2); (try clear hk); (try clear hi))); try go_wp2_with (first | (go_at_call 46; (with_reducible refine (bits_Div64.calls kj10 (IntKind.u64.wrap (Int.tdiv a0_1 10000000000000000000)) t516 10000000000000000000 t519 t520 _ A19.out).mono ?_); rintro e w27 ⟨rfl, hb⟩; replace HB := Aside0.mk (below_step bel_ hb); replace BK514 := bb_ (g := gb514) hb; (try clear hb); (try clear hb2); (try clear hk); (try clear hi)) | (go_at_call 47; (with_reducible refine (strconv_FormatUint_47.calls t517 10 t521 _ A20.out (laid_ hl)).mono ?_); rintro e w28 ⟨rfl, hb⟩; replace HB := Aside0.mk (below_step bel_ hb); replace BK514 := bb_ (g := gb514) hb; (try clear hb); (try clear hb2); (try clear hk); (try clear hi)) | (go_at_call 48; (with_reducible refine (strings_Repeat.calls (⟨#[48]⟩ : ByteArray) (19 - (t521.size : Int)) t522 _ (rep_ A21.out (by unfold wrap64; omega))).mono ?_); rintro e w29 ⟨rfl, hb⟩; replace HB := Aside0.mk (below_step bel_ hb); replace BK514 := bb_ (g := gb514) hb; (try clear hb); (try clear hb2); (try clear hk); (try clear hi)) | (go_at_call 47; (with_reducible refine (strconv_FormatUint_47.calls t520 10 t523 _ A23.out (laid_ hl)).mono ?_); rintro e w30 ⟨rfl, hb⟩; replace HB := Aside0.mk (below_step bel_ hb); replace BK514 := bb_ (g := gb514) hb; (try clear hb); (try clear hb2); (try clear hk); (try clear hi))))
           go_ret
           exact ⟨rf_, bel_⟩
          ·rw [if_neg c26] at H
           exact absurd H (by simp)
         ·rw [if_neg c25] at H
          exact absurd H (by simp)
        ·rw [if_neg c24] at H
         have c24b0 : (t519 == 0) = false := beq_eq_false_iff_ne.mpr c24
         have c24b1 : (t519 != 0) = true := bne_iff_ne.mpr c24
         replace H := Option.bind_eq_some_iff.mp H
         obtain ⟨t524, A310, H⟩ := H
         replace H : (if x3_3.size + t524.size ≤ 9223372036854775807 then ((strings_Repeat.f (⟨#[48]⟩ : ByteArray) (wrap64 (19 - (t523.size : Int)))).bind fun t525 => (if (x3_3 ++ t524).size + t525.size ≤ 9223372036854775807 then (if ((x3_3 ++ t524) ++ t525).size + t523.size ≤ 9223372036854775807 then (if (((x3_3 ++ t524) ++ t525) ++ t523).size + (t522 ++ t521).size ≤ 9223372036854775807 then (some ((((x3_3 ++ t524) ++ t525) ++ t523) ++ (t522 ++ t521))) else (none)) else (none)) else (none))) else (none)) = some r := H
         have A31 := Aside0.mk A310
         clear A310
         by_cases c32 : x3_3.size + t524.size ≤ 9223372036854775807
         ·rw [if_pos c32] at H
          have c32b0 := eq_true c32
          have c32b1 : decide (x3_3.size + t524.size ≤ 9223372036854775807) = true := decide_eq_true c32
          try have c32b2 : (9223372036854775807 < x3_3.size + t524.size) = False := eq_false (Nat.not_lt.2 c32)
          replace H := Option.bind_eq_some_iff.mp H
          obtain ⟨t525, A330, H⟩ := H
          replace H : (if (x3_3 ++ t524).size + t525.size ≤ 9223372036854775807 then (if ((x3_3 ++ t524) ++ t525).size + t523.size ≤ 9223372036854775807 then (if (((x3_3 ++ t524) ++ t525) ++ t523).size + (t522 ++ t521).size ≤ 9223372036854775807 then (some ((((x3_3 ++ t524) ++ t525) ++ t523) ++ (t522 ++ t521))) else (none)) else (none)) else (none)) = some r := H
          have A33 := Aside0.mk A330
          clear A330
          by_cases c34 : (x3_3 ++ t524).size + t525.size ≤ 9223372036854775807
          ·rw [if_pos c34] at H
           have c34b0 := eq_true c34
           have c34b1 : decide ((x3_3 ++ t524).size + t525.size ≤ 9223372036854775807) = true := decide_eq_true c34
           try have c34b2 : (9223372036854775807 < (x3_3 ++ t524).size + t525.size) = False := eq_false (Nat.not_lt.2 c34)
           (try (have c34b7 := c34b2; simp only [ByteArray.size_append, bsz_, List.size_toArray, List.length_cons, List.length_nil, Nat.zero_add, Nat.reduceAdd] at c34b7))
           by_cases c35 : ((x3_3 ++ t524) ++ t525).size + t523.size ≤ 9223372036854775807
           ·rw [if_pos c35] at H
            have c35b0 := eq_true c35
            have c35b1 : decide (((x3_3 ++ t524) ++ t525).size + t523.size ≤ 9223372036854775807) = true := decide_eq_true c35
            try have c35b2 : (9223372036854775807 < ((x3_3 ++ t524) ++ t525).size + t523.size) = False := eq_false (Nat.not_lt.2 c35)
            (try (have c35b7 := c35b2; simp only [ByteArray.size_append, bsz_, List.size_toArray, List.length_cons, List.length_nil, Nat.zero_add, Nat.reduceAdd] at c35b7))
            by_cases c36 : (((x3_3 ++ t524) ++ t525) ++ t523).size + (t522 ++ t521).size ≤ 9223372036854775807
            ·rw [if_pos c36] at H
             have c36b0 := eq_true c36
             have c36b1 : decide ((((x3_3 ++ t524) ++ t525) ++ t523).size + (t522 ++ t521).size ≤ 9223372036854775807) = true := decide_eq_true c36
             try have c36b2 : (9223372036854775807 < (((x3_3 ++ t524) ++ t525) ++ t523).size + (t522 ++ t521).size) = False := eq_false (Nat.not_lt.2 c36)
             (try (have c36b7 := c36b2; simp only [ByteArray.size_append, bsz_, List.size_toArray, List.length_cons, List.length_nil, Nat.zero_add, Nat.reduceAdd] at c36b7))
             obtain rfl := Option.some.inj H
             go_wp2_with (first | (go_at_call 46; (with_reducible refine (bits_Div64.calls kj10 (IntKind.u64.wrap (Int.tdiv a0_1 10000000000000000000)) t516 10000000000000000000 t519 t520 _ A19.out).mono ?_); rintro e w37 ⟨rfl, hb⟩; replace HB := Aside0.mk (below_step bel_ hb); replace BK514 := bb_ (g := gb514) hb; (try clear hb); (try clear hb2); (try clear hk); (try clear hi)) | (go_at_call 47; (with_reducible refine (strconv_FormatUint_47.calls t517 10 t521 _ A20.out (laid_ hl)).mono ?_); rintro e w38 ⟨rfl, hb⟩; replace HB := Aside0.mk (below_step bel_ hb); replace BK514 := bb_ (g := gb514) hb; (try clear hb); (try clear hb2); (try clear hk); (try clear hi)) | (go_at_call 48; (with_reducible refine (strings_Repeat.calls (⟨#[48]⟩ : ByteArray) (19 - (t521.size : Int)) t522 _ (rep_ A21.out (by unfold wrap64; omega))).mono ?_); rintro e w39 ⟨rfl, hb⟩; replace HB := Aside0.mk (below_step bel_ hb); replace BK514 := bb_ (g := gb514) hb; (try clear hb); (try clear hb2); (try clear hk); (try clear hi)) | (go_at_call 47; (with_reducible refine (strconv_FormatUint_47.calls t520 10 t523 _ A23.out (laid_ hl)).mono ?_); rintro e w40 ⟨rfl, hb⟩; replace HB := Aside0.mk (below_step bel_ hb); replace BK514 := bb_ (g := gb514) hb; (try clear hb); (try clear hb2); (try clear hk); (try clear hi)) | (go_at_call 47; (with_reducible refine (strconv_FormatUint_47.calls t519 10 t524 _ A31.out (laid_ hl)).mono ?_); rintro e w41 ⟨rfl, hb⟩; replace HB := Aside0.mk (below_step bel_ hb); replace BK514 := bb_ (g := gb514) hb; (try clear hb); (try clear hb2); (try clear hk); (try clear hi)) | (go_at_call 48; (with_reducible refine (strings_Repeat.calls (⟨#[48]⟩ : ByteArray) (19 - (t523.size : Int)) t525 _ (rep_ A33.out (by unfold wrap64; omega))).mono ?_); rintro e w42 ⟨rfl, hb⟩; replace HB := Aside0.mk (below_step bel_ hb); replace BK514 := bb_ (g := gb514) hb; (try clear hb); (try clear hb2); (try clear hk); (try clear hi)))
             repeat (go_quiet (first | (go_at_call 46; (with_reducible refine (bits_Div64.calls kj10 (IntKind.u64.wrap (Int.tdiv a0_1 10000000000000000000)) t516 10000000000000000000 t519 t520 _ A19.out).mono ?_); rintro e w37 ⟨rfl, hb⟩; replace HB := Aside0.mk (below_step bel_ hb); replace BK514 := bb_ (g := gb514) hb; (try clear hb); (try clear hb2); (try clear hk); (try clear hi)) | (go_at_call 47; (with_reducible refine (strconv_FormatUint_47.calls t517 10 t521 _ A20.out (laid_ hl)).mono ?_); rintro e w38 ⟨rfl, hb⟩; replace HB := Aside0.mk (below_step bel_ hb); replace BK514 := bb_ (g := gb514) hb; (try clear hb); (try clear hb2); (try clear hk); (try clear hi)) | (go_at_call 48; (with_reducible refine (strings_Repeat.calls (⟨#[48]⟩ : ByteArray) (19 - (t521.size : Int)) t522 _ (rep_ A21.out (by unfold wrap64; omega))).mono ?_); rintro e w39 ⟨rfl, hb⟩; replace HB := Aside0.mk (below_step bel_ hb); replace BK514 := bb_ (g := gb514) hb; (try clear hb); (try clear hb2); (try clear hk); (try clear hi)) | (go_at_call 47; (with_reducible refine (strconv_FormatUint_47.calls t520 10 t523 _ A23.out (laid_ hl)).mono ?_); rintro e w40 ⟨rfl, hb⟩; replace HB := Aside0.mk (below_step bel_ hb); replace BK514 := bb_ (g := gb514) hb; (try clear hb); (try clear hb2); (try clear hk); (try clear hi)) | (go_at_call 47; (with_reducible refine (strconv_FormatUint_47.calls t519 10 t524 _ A31.out (laid_ hl)).mono ?_); rintro e w41 ⟨rfl, hb⟩; replace HB := Aside0.mk (below_step bel_ hb); replace BK514 := bb_ (g := gb514) hb; (try clear hb); (try clear hb2); (try clear hk); (try clear hi)) | (go_at_call 48; (with_reducible refine (strings_Repeat.calls (⟨#[48]⟩ : ByteArray) (19 - (t523.size : Int)) t525 _ (rep_ A33.out (by unfold wrap64; omega))).mono ?_); rintro e w42 ⟨rfl, hb⟩; replace HB := Aside0.mk (below_step bel_ hb); replace BK514 := bb_ (g := gb514) hb; (try clear hb); (try clear hb2); (try clear hk); (try clear hi))); try go_wp2_with (first | (go_at_call 46; (with_reducible refine (bits_Div64.calls kj10 (IntKind.u64.wrap (Int.tdiv a0_1 10000000000000000000)) t516 10000000000000000000 t519 t520 _ A19.out).mono ?_); rintro e w37 ⟨rfl, hb⟩; replace HB := Aside0.mk (below_step bel_ hb); replace BK514 := bb_ (g := gb514) hb; (try clear hb); (try clear hb2); (try clear hk); (try clear hi)) | (go_at_call 47; (with_reducible refine (strconv_FormatUint_47.calls t517 10 t521 _ A20.out (laid_ hl)).mono ?_); rintro e w38 ⟨rfl, hb⟩; replace HB := Aside0.mk (below_step bel_ hb); replace BK514 := bb_ (g := gb514) hb; (try clear hb); (try clear hb2); (try clear hk); (try clear hi)) | (go_at_call 48; (with_reducible refine (strings_Repeat.calls (⟨#[48]⟩ : ByteArray) (19 - (t521.size : Int)) t522 _ (rep_ A21.out (by unfold wrap64; omega))).mono ?_); rintro e w39 ⟨rfl, hb⟩; replace HB := Aside0.mk (below_step bel_ hb); replace BK514 := bb_ (g := gb514) hb; (try clear hb); (try clear hb2); (try clear hk); (try clear hi)) | (go_at_call 47; (with_reducible refine (strconv_FormatUint_47.calls t520 10 t523 _ A23.out (laid_ hl)).mono ?_); rintro e w40 ⟨rfl, hb⟩; replace HB := Aside0.mk (below_step bel_ hb); replace BK514 := bb_ (g := gb514) hb; (try clear hb); (try clear hb2); (try clear hk); (try clear hi)) | (go_at_call 47; (with_reducible refine (strconv_FormatUint_47.calls t519 10 t524 _ A31.out (laid_ hl)).mono ?_); rintro e w41 ⟨rfl, hb⟩; replace HB := Aside0.mk (below_step bel_ hb); replace BK514 := bb_ (g := gb514) hb; (try clear hb); (try clear hb2); (try clear hk); (try clear hi)) | (go_at_call 48; (with_reducible refine (strings_Repeat.calls (⟨#[48]⟩ : ByteArray) (19 - (t523.size : Int)) t525 _ (rep_ A33.out (by unfold wrap64; omega))).mono ?_); rintro e w42 ⟨rfl, hb⟩; replace HB := Aside0.mk (below_step bel_ hb); replace BK514 := bb_ (g := gb514) hb; (try clear hb); (try clear hb2); (try clear hk); (try clear hi))))
             go_ret
             exact ⟨rf_, bel_⟩
            ·rw [if_neg c36] at H
             exact absurd H (by simp)
           ·rw [if_neg c35] at H
            exact absurd H (by simp)
          ·rw [if_neg c34] at H
           exact absurd H (by simp)
         ·rw [if_neg c32] at H
          exact absurd H (by simp)
       ·rw [if_neg c22] at H
        exact absurd H (by simp)
 ·replace c3 := Bool.eq_false_iff.mpr c3
  subst c3
  have H1 : (some (⟨#[]⟩ : ByteArray)) = some r := by rw [if_neg (show ¬ (false = true) by decide)] at H; exact H
  clear H
  have H := H1
  clear H1
  obtain rfl := Option.some.inj H
  go_enter Tryd.func11, Tryd.ntmps11
  go_wp2_with (first | ((with_reducible refine gate_dst (N := 1) rfl ?_); refine box_event ?hg (N := 1) ?hd (cs := #[.bool a0_0, .int .u64 a0_1, .int .u64 a0_2]) (t := 28) ?hr ?_; (case hd => rfl); (case hg => rfl); (case hr => first | (go_simp; done) | (go_simp; rfl)); intro gb514 hg w43 hbox hb; have BK514 := Aside0.mk (hbox); have GW514 := bs_ (w := w) hg; have GE514 := bs_ (w := w) hg; replace HB := Aside0.mk (below_step bel_ hb); clear hb hbox hg; obtain ⟨hcz44_0, hcz44_1, hcz44_2, hfz44_0, hfz44_1, hfz44_2⟩ := cf3_ (w := w43) BK514.out) | (go_at_call 45; (with_reducible refine (impl_WideOk.calls a0_0 a0_1 a0_2 false _ A2.out).mono ?_); rintro e w45 ⟨rfl, hb⟩; replace HB := Aside0.mk (below_step bel_ hb); replace BK514 := bb_ (g := gb514) hb; (try clear hb); (try clear hb2); (try clear hk); (try clear hi)))
  repeat (go_quiet (first | ((with_reducible refine gate_dst (N := 1) rfl ?_); refine box_event ?hg (N := 1) ?hd (cs := #[.bool a0_0, .int .u64 a0_1, .int .u64 a0_2]) (t := 28) ?hr ?_; (case hd => rfl); (case hg => rfl); (case hr => first | (go_simp; done) | (go_simp; rfl)); intro gb514 hg w43 hbox hb; have BK514 := Aside0.mk (hbox); have GW514 := bs_ (w := w) hg; have GE514 := bs_ (w := w) hg; replace HB := Aside0.mk (below_step bel_ hb); clear hb hbox hg; obtain ⟨hcz44_0, hcz44_1, hcz44_2, hfz44_0, hfz44_1, hfz44_2⟩ := cf3_ (w := w43) BK514.out) | (go_at_call 45; (with_reducible refine (impl_WideOk.calls a0_0 a0_1 a0_2 false _ A2.out).mono ?_); rintro e w45 ⟨rfl, hb⟩; replace HB := Aside0.mk (below_step bel_ hb); replace BK514 := bb_ (g := gb514) hb; (try clear hb); (try clear hb2); (try clear hk); (try clear hi))); try go_wp2_with (first | ((with_reducible refine gate_dst (N := 1) rfl ?_); refine box_event ?hg (N := 1) ?hd (cs := #[.bool a0_0, .int .u64 a0_1, .int .u64 a0_2]) (t := 28) ?hr ?_; (case hd => rfl); (case hg => rfl); (case hr => first | (go_simp; done) | (go_simp; rfl)); intro gb514 hg w43 hbox hb; have BK514 := Aside0.mk (hbox); have GW514 := bs_ (w := w) hg; have GE514 := bs_ (w := w) hg; replace HB := Aside0.mk (below_step bel_ hb); clear hb hbox hg; obtain ⟨hcz44_0, hcz44_1, hcz44_2, hfz44_0, hfz44_1, hfz44_2⟩ := cf3_ (w := w43) BK514.out) | (go_at_call 45; (with_reducible refine (impl_WideOk.calls a0_0 a0_1 a0_2 false _ A2.out).mono ?_); rintro e w45 ⟨rfl, hb⟩; replace HB := Aside0.mk (below_step bel_ hb); replace BK514 := bb_ (g := gb514) hb; (try clear hb); (try clear hb2); (try clear hk); (try clear hi))))
  go_ret
  exact ⟨rf_, bel_⟩
-- NOT PRINTED: function 141 (strconv_FormatInt)
-- NOT PRINTED: function 124 (strconv_Itoa_124)
/-! ### strconv_Itoa_102: function 102, by the shelf -/
def strconv_Itoa_102.f (a0 : Int) : Option (ByteArray) := if -9223372036854775808 ≤ a0 ∧ a0 ≤ 9223372036854775807 then some ⟨(Lib.itoa a0).toArray⟩ else none
theorem strconv_Itoa_102.calls (a0 : Int) (r : ByteArray) (w : World) (h : strconv_Itoa_102.f a0 = some r) (hl : Laid w) :
  Calls Tryd.prog 102 #[.int .i64 a0] w fun e w' => e = .returned (.string r) ∧ Below w.heap.size w w' := by
 unfold strconv_Itoa_102.f at h
 by_cases c : -9223372036854775808 ≤ a0 ∧ a0 ≤ 9223372036854775807
 ·rw [if_pos c] at h
  obtain rfl := Option.some.inj h
  refine (Tryd.strconv_Itoa a0 c.1 c.2 w hl.pow10).mono ?_
  rintro e w' ⟨rfl, k, os, rfl⟩
  exact ⟨rfl, Lib.below_grow _ w (Nat.le_refl _) k os⟩
 ·rw [if_neg c] at h
  cases h
/-! ### impl_Digits: function 75 -/
def impl_Digits.f (a0 : Int) : Option (ByteArray) := (strconv_Itoa_102.f a0).bind fun t527 => (some t527)
set_option maxHeartbeats 8000000 in
set_option maxRecDepth 100000 in
theorem impl_Digits.calls (a0 : Int) (r : ByteArray) (w : World) (h : impl_Digits.f a0 = some r) (hl : Laid w) :
  Calls Tryd.prog 75 #[.int .i64 a0] w fun e w' => e = .returned (.string r) ∧ Below w.heap.size w w' := by
 have HB := Aside0.mk (Below.refl w.heap.size w)
 have H : ((strconv_Itoa_102.f a0).bind fun t527 => (some t527)) = some r := h
 clear h
 replace H := Option.bind_eq_some_iff.mp H
 obtain ⟨t527, A20, H⟩ := H
 replace H : (some t527) = some r := H
 have A2 := Aside0.mk A20
 clear A20
 obtain rfl := Option.some.inj H
 go_enter Tryd.func75, Tryd.ntmps75
 go_wp2_with (first | ((with_reducible refine gate_callee (f := 102) rfl ?_); refine goesL_ (some 4) rfl rfl Tryd.func102 (by kernel_rfl) rfl #[.int .i64 a0] rfl mp_ ?_; (with_reducible refine (strconv_Itoa_102.calls a0 t527 _ A2.out (laid_ hl)).mono ?_); rintro e w3 ⟨rfl, hb⟩; refine ⟨_, rfl, ?_⟩; replace HB := Aside0.mk (below_step bel_ hb); (try clear hb); (try clear hb2); (try clear hk); (try clear hi)))
 go_ret
 exact ⟨rf_, bel_⟩
/-! ### impl_FracText: function 32 -/
def impl_FracText.f (k : Nat) (a0_0 : Bool) (a0_1 : Int) (a0_2 : Int) (a0_3 : Int) : Option (ByteArray) := (impl_FracOk.f a0_0 a0_1 a0_2 a0_3).bind fun t529 => (if t529 = true then ((impl_WideText.f k a0_0 a0_1 a0_2).bind fun t530 => (if t530.size + 1 ≤ 9223372036854775807 then ((impl_Digits.f a0_3).bind fun t531 => (if (t530 ++ (⟨#[47]⟩ : ByteArray)).size + t531.size ≤ 9223372036854775807 then (some ((t530 ++ (⟨#[47]⟩ : ByteArray)) ++ t531)) else (none))) else (none))) else (some (⟨#[]⟩ : ByteArray)))
theorem impl_FracText.mono : ∀ a0 a1 a2 a3 k, LeO (impl_FracText.f k a0 a1 a2 a3) (impl_FracText.f (k + 1) a0 a1 a2 a3) := by
 intro a0 a1 a2 a3 k
 unfold impl_FracText.f
 repeat' first
   | (with_reducible exact impl_WideText.mono _ _ _ _)
   | (with_reducible exact LeO.refl _)
   | (with_reducible exact LeO.none _)
   | (with_reducible refine LeO.ite ?_ ?_)
   | (with_reducible refine LeO.bind ?_ (fun _ => ?_))
   | exact impl_WideText.mono _ _ _ _
   | exact LeO.none _
   | refine LeO.ite ?_ ?_
   | refine LeO.bind ?_ (fun _ => ?_)
def impl_FracText.T3 : Bool × List (List Nat × List Nat) := (true, [([], []), ([0], [0]), ([1], [1]), ([2], [2]), ([], []), ([4], [4]), ([5, 2], [5]), ([3, 6], [3, 6]), ([7, 6, 0, 1, 2, 3, 4, 5, 6, 7], [7])])
def impl_FracText.B3 : List Nat := [0, 1, 3, 7, 0, 16, 55, 127, 255]
theorem impl_FracText.tab3 : rtab .any (opsOf Tryd.f32 3) = impl_FracText.T3 := by kernel_rfl
theorem impl_FracText.bits3 : waitsOk impl_FracText.T3.2 impl_FracText.B3 = true := by kernel_rfl
set_option maxHeartbeats 8000000 in
set_option maxRecDepth 100000 in
theorem impl_FracText.calls (k : Nat) (a0_0 : Bool) (a0_1 : Int) (a0_2 : Int) (a0_3 : Int) (r : ByteArray) (w : World) (h : impl_FracText.f k a0_0 a0_1 a0_2 a0_3 = some r) (hl : Laid w) :
  Calls Tryd.prog 32 #[.agg #[.bool a0_0, .int .u64 a0_1, .int .u64 a0_2, .int .i64 a0_3]] w fun e w' => e = .returned (.string r) ∧ Below w.heap.size w w' := by
 have hu43 := Tryd.underlying43
 have hu28 := Tryd.underlying28
 have HB := Aside0.mk (Below.refl w.heap.size w)
 have H : ((impl_FracOk.f a0_0 a0_1 a0_2 a0_3).bind fun t529 => (if t529 = true then ((impl_WideText.f k a0_0 a0_1 a0_2).bind fun t530 => (if t530.size + 1 ≤ 9223372036854775807 then ((impl_Digits.f a0_3).bind fun t531 => (if (t530 ++ (⟨#[47]⟩ : ByteArray)).size + t531.size ≤ 9223372036854775807 then (some ((t530 ++ (⟨#[47]⟩ : ByteArray)) ++ t531)) else (none))) else (none))) else (some (⟨#[]⟩ : ByteArray)))) = some r := h
 clear h
 replace H := Option.bind_eq_some_iff.mp H
 obtain ⟨t529, A20, H⟩ := H
 replace H : (if t529 = true then ((impl_WideText.f k a0_0 a0_1 a0_2).bind fun t530 => (if t530.size + 1 ≤ 9223372036854775807 then ((impl_Digits.f a0_3).bind fun t531 => (if (t530 ++ (⟨#[47]⟩ : ByteArray)).size + t531.size ≤ 9223372036854775807 then (some ((t530 ++ (⟨#[47]⟩ : ByteArray)) ++ t531)) else (none))) else (none))) else (some (⟨#[]⟩ : ByteArray))) = some r := H
 have A2 := Aside0.mk A20
 clear A20
 by_cases c3 : t529 = true
 ·subst c3
  have H1 : ((impl_WideText.f k a0_0 a0_1 a0_2).bind fun t530 => (if t530.size + 1 ≤ 9223372036854775807 then ((impl_Digits.f a0_3).bind fun t531 => (if (t530 ++ (⟨#[47]⟩ : ByteArray)).size + t531.size ≤ 9223372036854775807 then (some ((t530 ++ (⟨#[47]⟩ : ByteArray)) ++ t531)) else (none))) else (none))) = some r := by rw [if_pos rfl] at H; exact H
  clear H
  have H := H1
  clear H1
  replace H := Option.bind_eq_some_iff.mp H
  obtain ⟨t530, A40, H⟩ := H
  replace H : (if t530.size + 1 ≤ 9223372036854775807 then ((impl_Digits.f a0_3).bind fun t531 => (if (t530 ++ (⟨#[47]⟩ : ByteArray)).size + t531.size ≤ 9223372036854775807 then (some ((t530 ++ (⟨#[47]⟩ : ByteArray)) ++ t531)) else (none))) else (none)) = some r := H
  have A4 := Aside0.mk A40
  clear A40
  by_cases c5 : t530.size + 1 ≤ 9223372036854775807
  ·rw [if_pos c5] at H
   have c5b0 := eq_true c5
   have c5b1 : decide (t530.size + 1 ≤ 9223372036854775807) = true := decide_eq_true c5
   try have c5b2 : (9223372036854775807 < t530.size + 1) = False := eq_false (Nat.not_lt.2 c5)
   replace H := Option.bind_eq_some_iff.mp H
   obtain ⟨t531, A60, H⟩ := H
   replace H : (if (t530 ++ (⟨#[47]⟩ : ByteArray)).size + t531.size ≤ 9223372036854775807 then (some ((t530 ++ (⟨#[47]⟩ : ByteArray)) ++ t531)) else (none)) = some r := H
   have A6 := Aside0.mk A60
   clear A60
   by_cases c7 : (t530 ++ (⟨#[47]⟩ : ByteArray)).size + t531.size ≤ 9223372036854775807
   ·rw [if_pos c7] at H
    have c7b0 := eq_true c7
    have c7b1 : decide ((t530 ++ (⟨#[47]⟩ : ByteArray)).size + t531.size ≤ 9223372036854775807) = true := decide_eq_true c7
    try have c7b2 : (9223372036854775807 < (t530 ++ (⟨#[47]⟩ : ByteArray)).size + t531.size) = False := eq_false (Nat.not_lt.2 c7)
    (try (have c7b7 := c7b2; simp only [ByteArray.size_append, bsz_, List.size_toArray, List.length_cons, List.length_nil, Nat.zero_add, Nat.reduceAdd] at c7b7))
    obtain rfl := Option.some.inj H
    go_enter Tryd.func32, Tryd.ntmps32
    try go_wp2_with (first | ((with_reducible refine gate_dst (N := 1) rfl ?_); refine box_event ?hg (N := 1) ?hd (cs := #[.bool a0_0, .int .u64 a0_1, .int .u64 a0_2, .int .i64 a0_3]) (t := 43) ?hr ?_; (case hd => rfl); (case hg => rfl); (case hr => first | (go_simp; done) | (go_simp; rfl)); intro gb528 hg w8 hbox hb; have BK528 := Aside0.mk (hbox); have GW528 := bs_ (w := w) hg; have GE528 := bs_ (w := w) hg; replace HB := Aside0.mk (below_step bel_ hb); clear hb hbox hg; obtain ⟨hcz9_0, hcz9_1, hcz9_2, hcz9_3, hfz9_0, hfz9_1, hfz9_2, hfz9_3⟩ := cf4_ (w := w8) BK528.out) | ((with_reducible refine gate_callee (f := 30) rfl ?_); refine goesL_ (some 4) rfl rfl Tryd.func30 (by kernel_rfl) rfl #[.agg #[.bool a0_0, .int .u64 a0_1, .int .u64 a0_2, .int .i64 a0_3]] rfl mp_ ?_; (with_reducible refine (impl_FracOk.calls a0_0 a0_1 a0_2 a0_3 true _ A2.out).mono ?_); rintro e w10 ⟨rfl, hb⟩; refine ⟨_, rfl, ?_⟩; replace HB := Aside0.mk (below_step bel_ hb); replace BK528 := bb_ (g := gb528) hb; (try clear hb); (try clear hb2); (try clear hk); (try clear hi)))
    replace HB := Aside0.mk (below_drew1 HB.out)
    replace BK528 := Aside0.mk (blk_drew BK528.out)
    refine start_ (n := 9) (S := fun w' => w'.cell? ⟨gb528, 0, none⟩ = some (.bool a0_0) ∧ w'.cell? ⟨gb528, 1, none⟩ = some (.int .u64 a0_1) ∧ w'.cell? ⟨gb528, 2, none⟩ = some (.int .u64 a0_2) ∧ w'.cell? ⟨gb528, 3, none⟩ = some (.int .i64 a0_3)) (ds := []) #[false, false, false, false, false, false, false, false, false] (by kernel_rfl) rfl rfl ⟨bc_, bc_, bc_, bc_⟩ (fun hHeld => ?_); refine with_tabW impl_FracText.tab3 impl_FracText.bits3 (fun HT_ HW_ => ?_)
    generalize w10.drew = w11 at BK528 HB hHeld ⊢
    refine pure_ (i := 0) (N := some 6) (v := ?_) (a' := ?_) #[true, false, false, false, false, false, false, false, false] rfl rfl (any_of HT_.out (by kernel_rfl)) (fun _ _ _ h => h) (Or.inl ⟨by rfl, ?_⟩) ?_ ?_
    rotate_left
    ·intro w'
     go_simp
     with_reducible rfl
    rotate_left
    ·simp only [Act.put, la_, lb_, lc_, i64_w, i32_w]
     rfl
    refine pure_ (i := 4) (N := some 10) (v := ?_) (a' := ?_) #[true, false, false, false, true, false, false, false, false] rfl rfl (any_of HT_.out (by kernel_rfl)) (fun _ _ _ h => h) (Or.inl ⟨by rfl, ?_⟩) ?_ ?_
    rotate_left
    ·intro w'
     go_simp
     with_reducible rfl
    rotate_left
    ·simp only [Act.put, la_, lb_, lc_, i64_w, i32_w]
     rfl
    refine take_ (i := 1) (N := some 7) (v := ?_) (a' := ?_) #[true, true, false, false, true, false, false, false, false] rfl rfl (take_ofW HT_.out HW_.out (by kernel_rfl)) (fun _ _ _ h => h) (Or.inl ⟨by rfl, ?_⟩) hHeld ?_ ?_
    rotate_left
    ·rintro w' ⟨s0, s1, s2, s3⟩
     go_simp
     with_reducible rfl
    rotate_left
    ·simp only [Act.put, la_, lb_, lc_, i64_w, i32_w]
     rfl
    refine take_ (i := 5) (N := some 11) (v := ?_) (a' := ?_) #[true, true, false, false, true, true, false, false, false] rfl rfl (take_ofW HT_.out HW_.out (by kernel_rfl)) (fun _ _ _ h => h) (Or.inl ⟨by rfl, ?_⟩) hHeld ?_ ?_
    rotate_left
    ·rintro w' ⟨s0, s1, s2, s3⟩
     go_simp
     with_reducible rfl
    rotate_left
    ·simp only [Act.put, la_, lb_, lc_, i64_w, i32_w]
     rfl
    refine one_ (i := 2) (N := some 8) #[true, true, true, false, true, true, false, false, false] rfl rfl (one_of HT_.out (by kernel_rfl)) (by decide) (fun K hK => ?_)
    refine goes_ Tryd.func11 (by kernel_rfl) rfl #[.agg #[.bool a0_0, .int .u64 a0_1, .int .u64 a0_2]] (by rfl) rfl rfl mp_ ?_
    with_reducible refine (impl_WideText.calls k a0_0 a0_1 a0_2 t530 _ A4.out (laid_ hl)).mono ?_
    rintro e w12 ⟨rfl, hb⟩
    refine ⟨_, rfl, ?_⟩
    replace HB := Aside0.mk (below_step bel_ hb)
    replace BK528 := bb_ (g := gb528) hb
    (try clear hb)
    (try clear hb2)
    (try clear hk)
    (try clear hi)
    refine hK.out _ _ ⟨bc_, bc_, bc_, bc_⟩ (fun hHeld => ?_)
    clear hK K
    refine norm_ (a' := ?_) ?_ ?_
    rotate_left
    ·show Act.put _ (some 8) _ = _
     simp only [Act.put, la_, lb_, lc_, i64_w, i32_w]
     rfl
    refine pure_ (i := 3) (N := some 9) (v := ?_) (a' := ?_) #[true, true, true, true, true, true, false, false, false] rfl rfl (any_of HT_.out (by kernel_rfl)) (fun _ _ _ h => h) (Or.inl ⟨by rfl, ?_⟩) ?_ ?_
    rotate_left
    ·intro w'
     go_simp
     with_reducible rfl
    rotate_left
    ·simp only [Act.put, la_, lb_, lc_, i64_w, i32_w]
     rfl
    refine one_ (i := 6) (N := some 12) #[true, true, true, true, true, true, true, false, false] rfl rfl (one_of HT_.out (by kernel_rfl)) (by decide) (fun K hK => ?_)
    refine goes_ Tryd.func75 (by kernel_rfl) rfl #[.int .i64 a0_3] (by rfl) rfl rfl mp_ ?_
    with_reducible refine (impl_Digits.calls a0_3 t531 _ A6.out (laid_ hl)).mono ?_
    rintro e w13 ⟨rfl, hb⟩
    refine ⟨_, rfl, ?_⟩
    replace HB := Aside0.mk (below_step bel_ hb)
    replace BK528 := bb_ (g := gb528) hb
    (try clear hb)
    (try clear hb2)
    (try clear hk)
    (try clear hi)
    refine hK.out _ _ ⟨bc_, bc_, bc_, bc_⟩ (fun hHeld => ?_)
    clear hK K
    refine norm_ (a' := ?_) ?_ ?_
    rotate_left
    ·show Act.put _ (some 12) _ = _
     simp only [Act.put, la_, lb_, lc_, i64_w, i32_w]
     rfl
    refine pure_ (i := 7) (N := some 13) (v := ?_) (a' := ?_) #[true, true, true, true, true, true, true, true, false] rfl rfl (any_of HT_.out (by kernel_rfl)) (fun _ _ _ h => h) (Or.inl ⟨by rfl, ?_⟩) ?_ ?_
    rotate_left
    ·intro w'
     go_simp
     with_reducible rfl
    rotate_left
    ·simp only [Act.put, la_, lb_, lc_, i64_w, i32_w]
     rfl
    refine pure_ (i := 8) (N := some 2) (v := ?_) (a' := ?_) #[true, true, true, true, true, true, true, true, true] rfl rfl (any_of HT_.out (by kernel_rfl)) (fun _ _ _ h => h) (Or.inl ⟨by rfl, ?_⟩) ?_ ?_
    rotate_left
    ·intro w'
     go_simp
     with_reducible rfl
    rotate_left
    ·simp only [Act.put, la_, lb_, lc_, i64_w, i32_w]
     rfl
    refine done_ (done_of HT_.out (by kernel_rfl)) ?_
    try go_wp2
    go_ret
    exact ⟨rf_, bel_⟩
   ·rw [if_neg c7] at H
    exact absurd H (by simp)
  ·rw [if_neg c5] at H
   exact absurd H (by simp)
 ·replace c3 := Bool.eq_false_iff.mpr c3
  subst c3
  have H1 : (some (⟨#[]⟩ : ByteArray)) = some r := by rw [if_neg (show ¬ (false = true) by decide)] at H; exact H
  clear H
  have H := H1
  clear H1
  obtain rfl := Option.some.inj H
  go_enter Tryd.func32, Tryd.ntmps32
  go_wp2_with (first | ((with_reducible refine gate_dst (N := 1) rfl ?_); refine box_event ?hg (N := 1) ?hd (cs := #[.bool a0_0, .int .u64 a0_1, .int .u64 a0_2, .int .i64 a0_3]) (t := 43) ?hr ?_; (case hd => rfl); (case hg => rfl); (case hr => first | (go_simp; done) | (go_simp; rfl)); intro gb528 hg w14 hbox hb; have BK528 := Aside0.mk (hbox); have GW528 := bs_ (w := w) hg; have GE528 := bs_ (w := w) hg; replace HB := Aside0.mk (below_step bel_ hb); clear hb hbox hg; obtain ⟨hcz15_0, hcz15_1, hcz15_2, hcz15_3, hfz15_0, hfz15_1, hfz15_2, hfz15_3⟩ := cf4_ (w := w14) BK528.out) | ((with_reducible refine gate_callee (f := 30) rfl ?_); refine goesL_ (some 4) rfl rfl Tryd.func30 (by kernel_rfl) rfl #[.agg #[.bool a0_0, .int .u64 a0_1, .int .u64 a0_2, .int .i64 a0_3]] rfl mp_ ?_; (with_reducible refine (impl_FracOk.calls a0_0 a0_1 a0_2 a0_3 false _ A2.out).mono ?_); rintro e w16 ⟨rfl, hb⟩; refine ⟨_, rfl, ?_⟩; replace HB := Aside0.mk (below_step bel_ hb); replace BK528 := bb_ (g := gb528) hb; (try clear hb); (try clear hb2); (try clear hk); (try clear hi)))
  go_ret
  exact ⟨rf_, bel_⟩
end Go.Proofs.YtkpgpifkbdpnkaaDoor.PFnFracSum
