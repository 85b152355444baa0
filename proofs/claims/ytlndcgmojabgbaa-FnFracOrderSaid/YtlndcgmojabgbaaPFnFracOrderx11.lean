/- Contracts of Go functions, each with the Lean function that says what it computes: begun by the print, turned by this session. No condition beyond what each theorem states. -/
import Derived.Test.YtlndcgmojabgbaaPFnFracOrderx0
import Derived.Test.YtlndcgmojabgbaaPFnFracOrderx3
import Derived.Test.YtlndcgmojabgbaaPFnFracOrderx5
import Derived.Test.YtlndcgmojabgbaaPFnFracOrderx10
namespace Go.Proofs.Ytlndcgmojabgbaa.PFnFracOrder
open Go.RowKit Go.Proofs.YtlndcgmojabgbaaVFnFracOrder.PrintWords Go.Proofs.YtlndcgmojabgbaaVFnFracOrder.PrintLast Go.Proofs.YtlndcgmojabgbaaVFnFracOrder.PrintMore
attribute [local go_sem] max2_int min2_int max_two min_two max_three min_three max_four min_four   -- for this text's walks alone
set_option linter.unusedVariables false
set_option linter.unusedSimpArgs false

/-! ### spec_l5Cross: function 85 -/
def spec_l5Cross.j0 : Nat → Bool → Bool → Int → Int → Int → Bool → Int → Int → Int → Option (Bool × Int × Int × Bool × Int × Int × Bool)
  | 0, _, _, _, _, _, _, _, _, _ => none
  | k + 1, x18, x393000, x393001, x393002, x393003, x394000, x394001, x394002, x394003 => if x18 = true then (some (false, 0, 0, false, 0, 0, false)) else ((spec_ScaleWide.f x393000 x393001 x393002 x394003).bind fun bt398 => ((spec_ScaleWide.f x394000 x394001 x394002 x393003).bind fun bt403 => (if bt398.2.2.2 = true then (some (bt398.1, bt398.2.1, bt398.2.2.1, bt403.1, bt403.2.1, bt403.2.2.1, bt403.2.2.2)) else (some (bt398.1, bt398.2.1, bt398.2.2.1, bt403.1, bt403.2.1, bt403.2.2.1, false)))))
def spec_l5Cross.f (k : Nat) (a0_0 : Bool) (a0_1 : Int) (a0_2 : Int) (a0_3 : Int) (a1_0 : Bool) (a1_1 : Int) (a1_2 : Int) (a1_3 : Int) : Option (Bool × Int × Int × Bool × Int × Int × Bool) := (spec_FracOk.f a0_0 a0_1 a0_2 a0_3).bind fun t396 => (if t396 = true then ((spec_FracOk.f a1_0 a1_1 a1_2 a1_3).bind fun t397 => (spec_l5Cross.j0 k (!t397) a0_0 a0_1 a0_2 a0_3 a1_0 a1_1 a1_2 a1_3)) else (spec_l5Cross.j0 k true a0_0 a0_1 a0_2 a0_3 a1_0 a1_1 a1_2 a1_3))
theorem spec_l5Cross.mono_l : ∀ k, (∀ y0 y1 y2 y3 y4 y5 y6 y7 y8, LeO (spec_l5Cross.j0 k y0 y1 y2 y3 y4 y5 y6 y7 y8) (spec_l5Cross.j0 (k + 1) y0 y1 y2 y3 y4 y5 y6 y7 y8))
  | 0 => fun _ _ _ _ _ _ _ _ _ r h => by simp [spec_l5Cross.j0] at h
  | k + 1 => by
    have ih0 := spec_l5Cross.mono_l k
    · intro y0 y1 y2 y3 y4 y5 y6 y7 y8
      unfold spec_l5Cross.j0
      repeat' first
      | (with_reducible exact ih0 _ _ _ _ _ _ _ _ _)
      | (with_reducible exact LeO.refl _)
      | (with_reducible exact LeO.none _)
      | (with_reducible refine LeO.ite ?_ ?_)
      | (with_reducible refine LeO.bind ?_ (fun _ => ?_))
      | exact ih0 _ _ _ _ _ _ _ _ _
      | exact LeO.none _
      | refine LeO.ite ?_ ?_
      | refine LeO.bind ?_ (fun _ => ?_)
theorem spec_l5Cross.mono : ∀ a0 a1 a2 a3 a4 a5 a6 a7 k, LeO (spec_l5Cross.f k a0 a1 a2 a3 a4 a5 a6 a7) (spec_l5Cross.f (k + 1) a0 a1 a2 a3 a4 a5 a6 a7) := by
  intro a0 a1 a2 a3 a4 a5 a6 a7 k
  have ih0 := spec_l5Cross.mono_l k
  unfold spec_l5Cross.f
  repeat' first
      | (with_reducible exact ih0 _ _ _ _ _ _ _ _ _)
      | (with_reducible exact LeO.refl _)
      | (with_reducible exact LeO.none _)
      | (with_reducible refine LeO.ite ?_ ?_)
      | (with_reducible refine LeO.bind ?_ (fun _ => ?_))
      | exact ih0 _ _ _ _ _ _ _ _ _
      | exact LeO.none _
      | refine LeO.ite ?_ ?_
      | refine LeO.bind ?_ (fun _ => ?_)
def spec_l5Cross.T5 : Bool × List (List Nat × List Nat) := (true, [([], []), ([], []), ([], []), ([2], [2]), ([3], [3]), ([3, 4], [3, 4]), ([0, 3, 0], [0]), ([1, 6, 0, 1, 6], [1]), ([5, 7, 0, 1, 2, 3, 4, 5, 6, 7], [5])])
def spec_l5Cross.B5 : List Nat := [0, 0, 0, 4, 12, 28, 13, 79, 255]
theorem spec_l5Cross.tab5 : rtab .any (opsOf Try.f85 5) = spec_l5Cross.T5 := by kernel_rfl
theorem spec_l5Cross.bits5 : waitsOk spec_l5Cross.T5.2 spec_l5Cross.B5 = true := by kernel_rfl
set_option maxHeartbeats 8000000 in
set_option maxRecDepth 100000 in
theorem spec_l5Cross.calls (k : Nat) (a0_0 : Bool) (a0_1 : Int) (a0_2 : Int) (a0_3 : Int) (a1_0 : Bool) (a1_1 : Int) (a1_2 : Int) (a1_3 : Int) (r1 : Bool) (r2 : Int) (r3 : Int) (r4 : Bool) (r5 : Int) (r6 : Int) (r7 : Bool) (w : World) (h : spec_l5Cross.f k a0_0 a0_1 a0_2 a0_3 a1_0 a1_1 a1_2 a1_3 = some (r1, r2, r3, r4, r5, r6, r7)) :
    Calls Try.prog 85 #[.agg #[.bool a0_0, .int .u64 a0_1, .int .u64 a0_2, .int .i64 a0_3], .agg #[.bool a1_0, .int .u64 a1_1, .int .u64 a1_2, .int .i64 a1_3]] w fun e w' => e = .returned (.tuple #[.agg #[.bool r1, .int .u64 r2, .int .u64 r3], .agg #[.bool r4, .int .u64 r5, .int .u64 r6], .bool r7]) ∧ Below w.heap.size w w' := by
  have hu63 := Try.underlying63
  have hu25 := Try.underlying25
  have HB := Aside0.mk (Below.refl w.heap.size w)
  have H : ((spec_FracOk.f a0_0 a0_1 a0_2 a0_3).bind fun t396 => (if t396 = true then ((spec_FracOk.f a1_0 a1_1 a1_2 a1_3).bind fun t397 => (spec_l5Cross.j0 k (!t397) a0_0 a0_1 a0_2 a0_3 a1_0 a1_1 a1_2 a1_3)) else (spec_l5Cross.j0 k true a0_0 a0_1 a0_2 a0_3 a1_0 a1_1 a1_2 a1_3))) = some (r1, r2, r3, r4, r5, r6, r7) := h
  clear h
  have HC3 := Aside0.mk H
  clear H
  go_enter Try.func85, Try.ntmps85
  go_upto_region 1 with (first | ((with_reducible refine gate_dst (N := 2) rfl ?_); refine box_event ?hg (N := 2) ?hd (cs := #[.bool a0_0, .int .u64 a0_1, .int .u64 a0_2, .int .i64 a0_3]) (t := 63) ?hr ?_; (case hd => rfl); (case hg => rfl); (case hr => first | (go_simp; done) | (go_simp; rfl)); intro gb392 hg w4 hbox hb; have n0_ := Aside0.mk (below_step bel_ hb); have n1_ := Aside0.mk (hbox); have n2_ := bs_ (w := w) hg; have n3_ := bs_ (w := w) hg; clear HB; have HB := n0_; have BK392 := n1_; have GW392 := n2_; have GE392 := n3_; clear n0_ n1_ n2_ n3_; clear hb hbox hg) | ((with_reducible refine gate_dst (N := 3) rfl ?_); refine box_event ?hg (N := 3) ?hd (cs := #[.bool a1_0, .int .u64 a1_1, .int .u64 a1_2, .int .i64 a1_3]) (t := 63) ?hr ?_; (case hd => rfl); (case hg => rfl); (case hr => first | (go_simp; done) | (go_simp; rfl)); intro gb393 hg w5 hbox hb; have n0_ := bb_ (g := gb392) hb; have n1_ := Aside0.mk (below_step bel_ hb); have n2_ := Aside0.mk (hbox); have n3_ := bs_ (w := w) hg; have n4_ := bs_ (w := w) hg; have n5_ := nlt_ (g := gb392) hg; have n6_ := ngt_ (g := gb392) hg; clear BK392; clear HB; have BK392 := n0_; have HB := n1_; have BK393 := n2_; have GW393 := n3_; have GE393 := n4_; have NB392_393 := n5_; have NB393_392 := n6_; clear n0_ n1_ n2_ n3_ n4_ n5_ n6_; clear hb hbox hg) | ((with_reducible refine gate_dst (N := 4) rfl ?_); refine box_event ?hg (N := 4) ?hd (cs := #[.bool false, .int .u64 0, .int .u64 0]) (t := 25) ?hr ?_; (case hd => rfl); (case hg => rfl); (case hr => first | (go_simp; done) | (go_simp; rfl)); intro gb394 hg w6 hbox hb; have n0_ := bb_ (g := gb392) hb; have n1_ := bb_ (g := gb393) hb; have n2_ := Aside0.mk (below_step bel_ hb); have n3_ := Aside0.mk (hbox); have n4_ := bs_ (w := w) hg; have n5_ := bs_ (w := w) hg; have n6_ := nlt_ (g := gb392) hg; have n7_ := ngt_ (g := gb392) hg; have n8_ := nlt_ (g := gb393) hg; have n9_ := ngt_ (g := gb393) hg; clear BK392; clear BK393; clear HB; have BK392 := n0_; have BK393 := n1_; have HB := n2_; have BK394 := n3_; have GW394 := n4_; have GE394 := n5_; have NB392_394 := n6_; have NB394_392 := n7_; have NB393_394 := n8_; have NB394_393 := n9_; clear n0_ n1_ n2_ n3_ n4_ n5_ n6_ n7_ n8_ n9_; clear hb hbox hg) | ((with_reducible refine gate_dst (N := 5) rfl ?_); refine box_event ?hg (N := 5) ?hd (cs := #[.bool false, .int .u64 0, .int .u64 0]) (t := 25) ?hr ?_; (case hd => rfl); (case hg => rfl); (case hr => first | (go_simp; done) | (go_simp; rfl)); intro gb395 hg w7 hbox hb; have n0_ := bb_ (g := gb392) hb; have n1_ := bb_ (g := gb393) hb; have n2_ := bb_ (g := gb394) hb; have n3_ := Aside0.mk (below_step bel_ hb); have n4_ := Aside0.mk (hbox); have n5_ := bs_ (w := w) hg; have n6_ := bs_ (w := w) hg; have n7_ := nlt_ (g := gb392) hg; have n8_ := ngt_ (g := gb392) hg; have n9_ := nlt_ (g := gb393) hg; have n10_ := ngt_ (g := gb393) hg; have n11_ := nlt_ (g := gb394) hg; have n12_ := ngt_ (g := gb394) hg; clear BK392; clear BK393; clear BK394; clear HB; have BK392 := n0_; have BK393 := n1_; have BK394 := n2_; have HB := n3_; have BK395 := n4_; have GW395 := n5_; have GE395 := n6_; have NB392_395 := n7_; have NB395_392 := n8_; have NB393_395 := n9_; have NB395_393 := n10_; have NB394_395 := n11_; have NB395_394 := n12_; clear n0_ n1_ n2_ n3_ n4_ n5_ n6_ n7_ n8_ n9_ n10_ n11_ n12_; clear hb hbox hg))
  (try simp only [Act.put, la_, lb_, lc_])
  go_cut [18] (fun v18 wc => ∃ (kq : Nat) (x18_2 : Bool), v18 = .bool x18_2 ∧ Aside0 (spec_l5Cross.j0 kq x18_2 a0_0 a0_1 a0_2 a0_3 a1_0 a1_1 a1_2 a1_3 = some (r1, r2, r3, r4, r5, r6, r7)) ∧ Aside0 (kq ≤ k) ∧ Aside0 (wc.heap[gb392]? = some (.cells #[.bool a0_0, .int .u64 a0_1, .int .u64 a0_2, .int .i64 a0_3] 63 (0, 0))) ∧ Aside0 (wc.heap[gb393]? = some (.cells #[.bool a1_0, .int .u64 a1_1, .int .u64 a1_2, .int .i64 a1_3] 63 (0, 0))) ∧ Aside0 (wc.heap[gb394]? = some (.cells #[.bool false, .int .u64 0, .int .u64 0] 25 (0, 0))) ∧ Aside0 (wc.heap[gb395]? = some (.cells #[.bool false, .int .u64 0, .int .u64 0] 25 (0, 0))) ∧ Aside0 (Below w.heap.size w wc))
  case first =>
    have H := HC3.out
    clear HC3
    replace H := Option.bind_eq_some_iff.mp H
    obtain ⟨t396, A80, H⟩ := H
    replace H : (if t396 = true then ((spec_FracOk.f a1_0 a1_1 a1_2 a1_3).bind fun t397 => (spec_l5Cross.j0 k (!t397) a0_0 a0_1 a0_2 a0_3 a1_0 a1_1 a1_2 a1_3)) else (spec_l5Cross.j0 k true a0_0 a0_1 a0_2 a0_3 a1_0 a1_1 a1_2 a1_3)) = some (r1, r2, r3, r4, r5, r6, r7) := H
    have A8 := Aside0.mk A80
    clear A80
    by_cases c9 : t396 = true
    · subst c9
      have H1 : ((spec_FracOk.f a1_0 a1_1 a1_2 a1_3).bind fun t397 => (spec_l5Cross.j0 k (!t397) a0_0 a0_1 a0_2 a0_3 a1_0 a1_1 a1_2 a1_3)) = some (r1, r2, r3, r4, r5, r6, r7) := by rw [if_pos rfl] at H; exact H
      clear H
      have H := H1
      clear H1
      replace H := Option.bind_eq_some_iff.mp H
      obtain ⟨t397, A100, H⟩ := H
      replace H : (spec_l5Cross.j0 k (!t397) a0_0 a0_1 a0_2 a0_3 a1_0 a1_1 a1_2 a1_3) = some (r1, r2, r3, r4, r5, r6, r7) := H
      have A10 := Aside0.mk A100
      clear A100
      have H' := Aside0.mk H
      clear H
      have hnb11 := NB392_393.out
      have hnc11 := NB393_392.out
      have hnb12 := NB392_394.out
      have hnc12 := NB394_392.out
      have hnb13 := NB392_395.out
      have hnc13 := NB395_392.out
      obtain ⟨hcz14_0, hcz14_1, hcz14_2, hcz14_3, hfz14_0, hfz14_1, hfz14_2, hfz14_3⟩ := cf4_ (w := w7) BK392.out
      go_wp2_with (first | ((with_reducible refine gate_callee (f := 86) rfl ?_); refine goesL_ (some 12) rfl rfl Try.func86 (by kernel_rfl) rfl #[.agg #[.bool a0_0, .int .u64 a0_1, .int .u64 a0_2, .int .i64 a0_3]] rfl mp_ ?_; (with_reducible refine (spec_FracOk.calls a0_0 a0_1 a0_2 a0_3 true _ A8.out).mono ?_); rintro e w15 ⟨rfl, hb⟩; refine ⟨_, rfl, ?_⟩; have n0_ := bb_ (g := gb392) hb; have n1_ := bb_ (g := gb393) hb; have n2_ := bb_ (g := gb394) hb; have n3_ := bb_ (g := gb395) hb; have n4_ := Aside0.mk (below_step bel_ hb); clear BK392; clear BK393; clear BK394; clear BK395; clear HB; have BK392 := n0_; have BK393 := n1_; have BK394 := n2_; have BK395 := n3_; have HB := n4_; clear n0_ n1_ n2_ n3_ n4_; (try clear hb); (try clear hb2); (try clear hk); (try clear hi); have hnb16 := NB393_394.out; have hnc16 := NB394_393.out; have hnb17 := NB393_395.out; have hnc17 := NB395_393.out; obtain ⟨hcz18_0, hcz18_1, hcz18_2, hcz18_3, hfz18_0, hfz18_1, hfz18_2, hfz18_3⟩ := cf4_ (w := w15) BK393.out) | (go_at_call 86; (with_reducible refine (spec_FracOk.calls a1_0 a1_1 a1_2 a1_3 t397 _ A10.out).mono ?_); rintro e w19 ⟨rfl, hb⟩; have n0_ := bb_ (g := gb392) hb; have n1_ := bb_ (g := gb393) hb; have n2_ := bb_ (g := gb394) hb; have n3_ := bb_ (g := gb395) hb; have n4_ := Aside0.mk (below_step bel_ hb); clear BK392; clear BK393; clear BK394; clear BK395; clear HB; have BK392 := n0_; have BK393 := n1_; have BK394 := n2_; have BK395 := n3_; have HB := n4_; clear n0_ n1_ n2_ n3_ n4_; (try clear hb); (try clear hb2); (try clear hk); (try clear hi)))
      go_meet
      case rel => exact ⟨_, (!t397), (by first | rfl | (simp; done) | (simp [*]; done)), H', ⟨by first | omega | exact Nat.le_refl _⟩, ⟨by (with_reducible repeat (first | refine bN_ _ ?_ | refine bd_ ?_ | refine ba_ _ ?_)); exact BK392.out⟩, ⟨by (with_reducible repeat (first | refine bN_ _ ?_ | refine bd_ ?_ | refine ba_ _ ?_)); exact BK393.out⟩, ⟨by (with_reducible repeat (first | refine bN_ _ ?_ | refine bd_ ?_ | refine ba_ _ ?_)); exact BK394.out⟩, ⟨by (with_reducible repeat (first | refine bN_ _ ?_ | refine bd_ ?_ | refine ba_ _ ?_)); exact BK395.out⟩, ⟨bel_⟩⟩
    · replace c9 := Bool.eq_false_iff.mpr c9
      subst c9
      have H1 : (spec_l5Cross.j0 k true a0_0 a0_1 a0_2 a0_3 a1_0 a1_1 a1_2 a1_3) = some (r1, r2, r3, r4, r5, r6, r7) := by rw [if_neg (show ¬ (false = true) by decide)] at H; exact H
      clear H
      have H := H1
      clear H1
      have H' := Aside0.mk H
      clear H
      have hnb20 := NB392_393.out
      have hnc20 := NB393_392.out
      have hnb21 := NB392_394.out
      have hnc21 := NB394_392.out
      have hnb22 := NB392_395.out
      have hnc22 := NB395_392.out
      obtain ⟨hcz23_0, hcz23_1, hcz23_2, hcz23_3, hfz23_0, hfz23_1, hfz23_2, hfz23_3⟩ := cf4_ (w := w7) BK392.out
      go_wp2_with (first | ((with_reducible refine gate_callee (f := 86) rfl ?_); refine goesL_ (some 12) rfl rfl Try.func86 (by kernel_rfl) rfl #[.agg #[.bool a0_0, .int .u64 a0_1, .int .u64 a0_2, .int .i64 a0_3]] rfl mp_ ?_; (with_reducible refine (spec_FracOk.calls a0_0 a0_1 a0_2 a0_3 false _ A8.out).mono ?_); rintro e w24 ⟨rfl, hb⟩; refine ⟨_, rfl, ?_⟩; have n0_ := bb_ (g := gb392) hb; have n1_ := bb_ (g := gb393) hb; have n2_ := bb_ (g := gb394) hb; have n3_ := bb_ (g := gb395) hb; have n4_ := Aside0.mk (below_step bel_ hb); clear BK392; clear BK393; clear BK394; clear BK395; clear HB; have BK392 := n0_; have BK393 := n1_; have BK394 := n2_; have BK395 := n3_; have HB := n4_; clear n0_ n1_ n2_ n3_ n4_; (try clear hb); (try clear hb2); (try clear hk); (try clear hi)))
      go_meet
      case rel => exact ⟨_, (true), (by first | rfl | (simp; done) | (simp [*]; done)), H', ⟨by first | omega | exact Nat.le_refl _⟩, ⟨by (with_reducible repeat (first | refine bN_ _ ?_ | refine bd_ ?_ | refine ba_ _ ?_)); exact BK392.out⟩, ⟨by (with_reducible repeat (first | refine bN_ _ ?_ | refine bd_ ?_ | refine ba_ _ ?_)); exact BK393.out⟩, ⟨by (with_reducible repeat (first | refine bN_ _ ?_ | refine bd_ ?_ | refine ba_ _ ?_)); exact BK394.out⟩, ⟨by (with_reducible repeat (first | refine bN_ _ ?_ | refine bd_ ?_ | refine ba_ _ ?_)); exact BK395.out⟩, ⟨bel_⟩⟩
  case rest =>
    clear HC3
    try clear c1
    try clear c2
    try clear p2
    try clear c8
    try clear c9
    try clear c11
    try clear c12
    try clear c13
    try clear c16
    try clear c17
    try clear c20
    try clear c21
    try clear c22
    try clear hcz14_0
    try clear hcz14_1
    try clear hcz14_2
    try clear hcz14_3
    try clear hcz18_0
    try clear hcz18_1
    try clear hcz18_2
    try clear hcz18_3
    try clear hcz23_0
    try clear hcz23_1
    try clear hcz23_2
    try clear hcz23_3
    try clear hfz14_0
    try clear hfz14_1
    try clear hfz14_2
    try clear hfz14_3
    try clear hfz18_0
    try clear hfz18_1
    try clear hfz18_2
    try clear hfz18_3
    try clear hfz23_0
    try clear hfz23_1
    try clear hfz23_2
    try clear hfz23_3
    obtain ⟨kq, x18_2, rfl, HA, HJ2, BK392, BK393, BK394, BK395, HB⟩ := hcut
    cases kq with
    | zero => exact absurd HA.out (by simp [spec_l5Cross.j0])
    | succ kj2 =>
      have H := HA.out
      clear HA
      simp only [spec_l5Cross.j0] at H
      by_cases c25 : x18_2 = true
      · subst c25
        have H1 : (some (false, 0, 0, false, 0, 0, false)) = some (r1, r2, r3, r4, r5, r6, r7) := by rw [if_pos rfl] at H; exact H
        clear H
        have H := H1
        clear H1
        simp only [Option.some.injEq, Prod.mk.injEq] at H
        obtain ⟨rfl, rfl, rfl, rfl, rfl, rfl, rfl⟩ := H
        have hnb26 := NB394_392.out
        have hnc26 := NB392_394.out
        have hnb27 := NB394_393.out
        have hnc27 := NB393_394.out
        have hnb28 := NB394_395.out
        have hnc28 := NB395_394.out
        obtain ⟨hcz29_0, hcz29_1, hcz29_2, hfz29_0, hfz29_1, hfz29_2⟩ := cf3_ (w := wc) BK394.out
        have hnb30 := NB395_392.out
        have hnc30 := NB392_395.out
        have hnb31 := NB395_393.out
        have hnc31 := NB393_395.out
        obtain ⟨hcz32_0, hcz32_1, hcz32_2, hfz32_0, hfz32_1, hfz32_2⟩ := cf3_ (w := wc) BK395.out
        go_wp2
        refine bodyPost_ret (results_list (rs := [.cell 4 25, .cell 5 25, .tmp 6]) rfl (by simp) (.cell gb394 25 #[.bool false, .int .u64 0, .int .u64 0] (0, 0) _ rfl (pu_ #[.bool false, .int .u64 0, .int .u64 0] 2 (h := (pu_ #[.bool false, .int .u64 0, .int .u64 0] 1 (h := (pu_ #[.bool false, .int .u64 0, .int .u64 0] 0 (h := bk_)))))) Try.underlying25 rfl (by kernel_rfl) (.cell gb395 25 #[.bool false, .int .u64 0, .int .u64 0] (0, 0) _ rfl (pu_ #[.bool false, .int .u64 0, .int .u64 0] 2 (h := (pu_ #[.bool false, .int .u64 0, .int .u64 0] 1 (h := (pu_ #[.bool false, .int .u64 0, .int .u64 0] 0 (h := bk_)))))) Try.underlying25 rfl (by kernel_rfl) (.tmp .nil)))) rfl ?_
        exact ⟨rf_, bel_⟩
      · replace c25 := Bool.eq_false_iff.mpr c25
        subst c25
        have H1 : ((spec_ScaleWide.f a0_0 a0_1 a0_2 a1_3).bind fun bt398 => ((spec_ScaleWide.f a1_0 a1_1 a1_2 a0_3).bind fun bt403 => (if bt398.2.2.2 = true then (some (bt398.1, bt398.2.1, bt398.2.2.1, bt403.1, bt403.2.1, bt403.2.2.1, bt403.2.2.2)) else (some (bt398.1, bt398.2.1, bt398.2.2.1, bt403.1, bt403.2.1, bt403.2.2.1, false))))) = some (r1, r2, r3, r4, r5, r6, r7) := by rw [if_neg (show ¬ (false = true) by decide)] at H; exact H
        clear H
        have H := H1
        clear H1
        replace H := Option.bind_eq_some_iff.mp H
        obtain ⟨⟨t398, t399, t400, t401⟩, A330, H⟩ := H
        replace H : ((spec_ScaleWide.f a1_0 a1_1 a1_2 a0_3).bind fun bt403 => (if t401 = true then (some (t398, t399, t400, bt403.1, bt403.2.1, bt403.2.2.1, bt403.2.2.2)) else (some (t398, t399, t400, bt403.1, bt403.2.1, bt403.2.2.1, false)))) = some (r1, r2, r3, r4, r5, r6, r7) := H
        have A33 := Aside0.mk A330
        clear A330
        replace H := Option.bind_eq_some_iff.mp H
        obtain ⟨⟨t403, t404, t405, t406⟩, A340, H⟩ := H
        replace H : (if t401 = true then (some (t398, t399, t400, t403, t404, t405, t406)) else (some (t398, t399, t400, t403, t404, t405, false))) = some (r1, r2, r3, r4, r5, r6, r7) := H
        have A34 := Aside0.mk A340
        clear A340
        by_cases c35 : t401 = true
        · subst c35
          have H1 : (some (t398, t399, t400, t403, t404, t405, t406)) = some (r1, r2, r3, r4, r5, r6, r7) := by rw [if_pos rfl] at H; exact H
          clear H
          have H := H1
          clear H1
          simp only [Option.some.injEq, Prod.mk.injEq] at H
          obtain ⟨rfl, rfl, rfl, rfl, rfl, rfl, rfl⟩ := H
          have hnb36 := NB392_393.out
          have hnc36 := NB393_392.out
          have hnb37 := NB392_394.out
          have hnc37 := NB394_392.out
          have hnb38 := NB392_395.out
          have hnc38 := NB395_392.out
          obtain ⟨hcz39_0, hcz39_1, hcz39_2, hcz39_3, hfz39_0, hfz39_1, hfz39_2, hfz39_3⟩ := cf4_ (w := wc) BK392.out
          have hnb40 := NB393_394.out
          have hnc40 := NB394_393.out
          have hnb41 := NB393_395.out
          have hnc41 := NB395_393.out
          obtain ⟨hcz42_0, hcz42_1, hcz42_2, hcz42_3, hfz42_0, hfz42_1, hfz42_2, hfz42_3⟩ := cf4_ (w := wc) BK393.out
          try go_wp2_with (first | ((with_reducible refine gate_callee (f := 95) rfl ?_); refine goesL_ (some 26) rfl rfl Try.func95 (by kernel_rfl) rfl #[.agg #[.bool a0_0, .int .u64 a0_1, .int .u64 a0_2], .int .i64 a1_3] rfl mp_ ?_; (with_reducible refine (spec_ScaleWide.calls a0_0 a0_1 a0_2 a1_3 t398 t399 t400 true _ A33.out).mono ?_); rintro e w43 ⟨rfl, hb⟩; refine ⟨_, rfl, ?_⟩; have n0_ := bb_ (g := gb392) hb; have n1_ := bb_ (g := gb393) hb; have n2_ := bb_ (g := gb394) hb; have n3_ := bb_ (g := gb395) hb; have n4_ := Aside0.mk (below_step bel_ hb); clear BK392; clear BK393; clear BK394; clear BK395; clear HB; have BK392 := n0_; have BK393 := n1_; have BK394 := n2_; have BK395 := n3_; have HB := n4_; clear n0_ n1_ n2_ n3_ n4_; (try clear hb); (try clear hb2); (try clear hk); (try clear hi)) | ((with_reducible refine gate_dst (N := 7) rfl ?_); refine box_event ?hg (N := 7) ?hd (cs := #[.bool false, .int .u64 0, .int .u64 0]) (t := 25) ?hr ?_; (case hd => rfl); (case hg => rfl); (case hr => first | (go_simp; done) | (go_simp; rfl)); intro gb402 hg w44 hbox hb; have n0_ := bb_ (g := gb392) hb; have n1_ := bb_ (g := gb393) hb; have n2_ := bb_ (g := gb394) hb; have n3_ := bb_ (g := gb395) hb; have n4_ := Aside0.mk (below_step bel_ hb); have n5_ := Aside0.mk (hbox); have n6_ := bs_ (w := w) hg; have n7_ := bs_ (w := w) hg; have n8_ := nlt_ (g := gb392) hg; have n9_ := ngt_ (g := gb392) hg; have n10_ := nlt_ (g := gb393) hg; have n11_ := ngt_ (g := gb393) hg; have n12_ := nlt_ (g := gb394) hg; have n13_ := ngt_ (g := gb394) hg; have n14_ := nlt_ (g := gb395) hg; have n15_ := ngt_ (g := gb395) hg; clear BK392; clear BK393; clear BK394; clear BK395; clear HB; have BK392 := n0_; have BK393 := n1_; have BK394 := n2_; have BK395 := n3_; have HB := n4_; have BK402 := n5_; have GW402 := n6_; have GE402 := n7_; have NB392_402 := n8_; have NB402_392 := n9_; have NB393_402 := n10_; have NB402_393 := n11_; have NB394_402 := n12_; have NB402_394 := n13_; have NB395_402 := n14_; have NB402_395 := n15_; clear n0_ n1_ n2_ n3_ n4_ n5_ n6_ n7_ n8_ n9_ n10_ n11_ n12_ n13_ n14_ n15_; clear hb hbox hg; have hnb45 := NB402_392.out; have hnc45 := NB392_402.out; have hnb46 := NB402_393.out; have hnc46 := NB393_402.out; have hnb47 := NB402_394.out; have hnc47 := NB394_402.out; have hnb48 := NB402_395.out; have hnc48 := NB395_402.out; obtain ⟨hcz49_0, hcz49_1, hcz49_2, hfz49_0, hfz49_1, hfz49_2⟩ := cf3_ (w := w44) BK402.out; obtain ⟨hcz50_0, hcz50_1, hcz50_2, hcz50_3, hfz50_0, hfz50_1, hfz50_2, hfz50_3⟩ := cf4_ (w := w44) BK393.out; obtain ⟨hcz51_0, hcz51_1, hcz51_2, hcz51_3, hfz51_0, hfz51_1, hfz51_2, hfz51_3⟩ := cf4_ (w := w44) BK392.out) | ((with_reducible refine gate_callee (f := 95) rfl ?_); refine goesL_ (some 34) rfl rfl Try.func95 (by kernel_rfl) rfl #[.agg #[.bool a1_0, .int .u64 a1_1, .int .u64 a1_2], .int .i64 a0_3] rfl mp_ ?_; (with_reducible refine (spec_ScaleWide.calls a1_0 a1_1 a1_2 a0_3 t403 t404 t405 t406 _ A34.out).mono ?_); rintro e w52 ⟨rfl, hb⟩; refine ⟨_, rfl, ?_⟩; have n0_ := Aside0.mk (blk_below (g := gb392) (o := .cells #[.bool a0_0, .int .u64 a0_1, .int .u64 a0_2, .int .i64 a0_3] 63 (0, 0)) bk_ hb); have n1_ := Aside0.mk (blk_below (g := gb393) (o := .cells #[.bool a1_0, .int .u64 a1_1, .int .u64 a1_2, .int .i64 a1_3] 63 (0, 0)) bk_ hb); have n2_ := Aside0.mk (blk_below (g := gb394) (o := .cells #[.bool false, .int .u64 0, .int .u64 0] 25 (0, 0)) bk_ hb); have n3_ := Aside0.mk (blk_below (g := gb395) (o := .cells #[.bool false, .int .u64 0, .int .u64 0] 25 (0, 0)) bk_ hb); have n4_ := Aside0.mk (blk_below (g := gb402) (o := .cells #[.bool t398, .int .u64 t399, .int .u64 t400] 25 (0, 0)) (pu_ #[.bool t398, .int .u64 t399, .int .u64 0] 2 (h := (pu_ #[.bool t398, .int .u64 0, .int .u64 0] 1 (h := (pu_ #[.bool false, .int .u64 0, .int .u64 0] 0 (h := bk_)))))) hb); have n5_ := Aside0.mk (below_step bel_ hb); clear BK392; clear BK393; clear BK394; clear BK395; clear BK402; clear HB; have BK392 := n0_; have BK393 := n1_; have BK394 := n2_; have BK395 := n3_; have BK402 := n4_; have HB := n5_; clear n0_ n1_ n2_ n3_ n4_ n5_; (try clear hb); (try clear hb2); (try clear hk); (try clear hi)) | ((with_reducible refine gate_dst (N := 9) rfl ?_); refine box_event ?hg (N := 9) ?hd (cs := #[.bool false, .int .u64 0, .int .u64 0]) (t := 25) ?hr ?_; (case hd => rfl); (case hg => rfl); (case hr => first | (go_simp; done) | (go_simp; rfl)); intro gb407 hg w53 hbox hb; have n0_ := bb_ (g := gb392) hb; have n1_ := bb_ (g := gb393) hb; have n2_ := bb_ (g := gb394) hb; have n3_ := bb_ (g := gb395) hb; have n4_ := bb_ (g := gb402) hb; have n5_ := Aside0.mk (below_step bel_ hb); have n6_ := Aside0.mk (hbox); have n7_ := bs_ (w := w) hg; have n8_ := bs_ (w := w) hg; have n9_ := nlt_ (g := gb392) hg; have n10_ := ngt_ (g := gb392) hg; have n11_ := nlt_ (g := gb393) hg; have n12_ := ngt_ (g := gb393) hg; have n13_ := nlt_ (g := gb394) hg; have n14_ := ngt_ (g := gb394) hg; have n15_ := nlt_ (g := gb395) hg; have n16_ := ngt_ (g := gb395) hg; have n17_ := nlt_ (g := gb402) hg; have n18_ := ngt_ (g := gb402) hg; clear BK392; clear BK393; clear BK394; clear BK395; clear BK402; clear HB; have BK392 := n0_; have BK393 := n1_; have BK394 := n2_; have BK395 := n3_; have BK402 := n4_; have HB := n5_; have BK407 := n6_; have GW407 := n7_; have GE407 := n8_; have NB392_407 := n9_; have NB407_392 := n10_; have NB393_407 := n11_; have NB407_393 := n12_; have NB394_407 := n13_; have NB407_394 := n14_; have NB395_407 := n15_; have NB407_395 := n16_; have NB402_407 := n17_; have NB407_402 := n18_; clear n0_ n1_ n2_ n3_ n4_ n5_ n6_ n7_ n8_ n9_ n10_ n11_ n12_ n13_ n14_ n15_ n16_ n17_ n18_; clear hb hbox hg; have hnb54 := NB407_392.out; have hnc54 := NB392_407.out; have hnb55 := NB407_393.out; have hnc55 := NB393_407.out; have hnb56 := NB407_394.out; have hnc56 := NB394_407.out; have hnb57 := NB407_395.out; have hnc57 := NB395_407.out; have hnb58 := NB407_402.out; have hnc58 := NB402_407.out; obtain ⟨hcz59_0, hcz59_1, hcz59_2, hfz59_0, hfz59_1, hfz59_2⟩ := cf3_ (w := w53) BK407.out))
          have n0_ : Aside0 ((((w53.setCell ⟨gb407, 0, none⟩ (.bool t403)).setCell ⟨gb407, 1, none⟩ (.int .u64 t404)).setCell ⟨gb407, 2, none⟩ (.int .u64 t405)).heap[gb392]? = some (.cells #[.bool a0_0, .int .u64 a0_1, .int .u64 a0_2, .int .i64 a0_3] 63 (0, 0))) := ⟨by (with_reducible repeat (first | refine bN_ _ ?_ | refine bd_ ?_ | refine ba_ _ ?_)); refine blk_far ?_ NB392_407.out _; (with_reducible repeat (first | refine bN_ _ ?_ | refine bd_ ?_ | refine ba_ _ ?_)); refine blk_far ?_ NB392_407.out _; (with_reducible repeat (first | refine bN_ _ ?_ | refine bd_ ?_ | refine ba_ _ ?_)); refine blk_far ?_ NB392_407.out _; (with_reducible repeat (first | refine bN_ _ ?_ | refine bd_ ?_ | refine ba_ _ ?_)); exact BK392.out⟩
          have n1_ : Aside0 ((((w53.setCell ⟨gb407, 0, none⟩ (.bool t403)).setCell ⟨gb407, 1, none⟩ (.int .u64 t404)).setCell ⟨gb407, 2, none⟩ (.int .u64 t405)).heap[gb393]? = some (.cells #[.bool a1_0, .int .u64 a1_1, .int .u64 a1_2, .int .i64 a1_3] 63 (0, 0))) := ⟨by (with_reducible repeat (first | refine bN_ _ ?_ | refine bd_ ?_ | refine ba_ _ ?_)); refine blk_far ?_ NB393_407.out _; (with_reducible repeat (first | refine bN_ _ ?_ | refine bd_ ?_ | refine ba_ _ ?_)); refine blk_far ?_ NB393_407.out _; (with_reducible repeat (first | refine bN_ _ ?_ | refine bd_ ?_ | refine ba_ _ ?_)); refine blk_far ?_ NB393_407.out _; (with_reducible repeat (first | refine bN_ _ ?_ | refine bd_ ?_ | refine ba_ _ ?_)); exact BK393.out⟩
          have n2_ : Aside0 ((((w53.setCell ⟨gb407, 0, none⟩ (.bool t403)).setCell ⟨gb407, 1, none⟩ (.int .u64 t404)).setCell ⟨gb407, 2, none⟩ (.int .u64 t405)).heap[gb394]? = some (.cells #[.bool false, .int .u64 0, .int .u64 0] 25 (0, 0))) := ⟨by (with_reducible repeat (first | refine bN_ _ ?_ | refine bd_ ?_ | refine ba_ _ ?_)); refine blk_far ?_ NB394_407.out _; (with_reducible repeat (first | refine bN_ _ ?_ | refine bd_ ?_ | refine ba_ _ ?_)); refine blk_far ?_ NB394_407.out _; (with_reducible repeat (first | refine bN_ _ ?_ | refine bd_ ?_ | refine ba_ _ ?_)); refine blk_far ?_ NB394_407.out _; (with_reducible repeat (first | refine bN_ _ ?_ | refine bd_ ?_ | refine ba_ _ ?_)); exact BK394.out⟩
          have n3_ : Aside0 ((((w53.setCell ⟨gb407, 0, none⟩ (.bool t403)).setCell ⟨gb407, 1, none⟩ (.int .u64 t404)).setCell ⟨gb407, 2, none⟩ (.int .u64 t405)).heap[gb395]? = some (.cells #[.bool false, .int .u64 0, .int .u64 0] 25 (0, 0))) := ⟨by (with_reducible repeat (first | refine bN_ _ ?_ | refine bd_ ?_ | refine ba_ _ ?_)); refine blk_far ?_ NB395_407.out _; (with_reducible repeat (first | refine bN_ _ ?_ | refine bd_ ?_ | refine ba_ _ ?_)); refine blk_far ?_ NB395_407.out _; (with_reducible repeat (first | refine bN_ _ ?_ | refine bd_ ?_ | refine ba_ _ ?_)); refine blk_far ?_ NB395_407.out _; (with_reducible repeat (first | refine bN_ _ ?_ | refine bd_ ?_ | refine ba_ _ ?_)); exact BK395.out⟩
          have n4_ : Aside0 ((((w53.setCell ⟨gb407, 0, none⟩ (.bool t403)).setCell ⟨gb407, 1, none⟩ (.int .u64 t404)).setCell ⟨gb407, 2, none⟩ (.int .u64 t405)).heap[gb402]? = some (.cells #[.bool t398, .int .u64 t399, .int .u64 t400] 25 (0, 0))) := ⟨by (with_reducible repeat (first | refine bN_ _ ?_ | refine bd_ ?_ | refine ba_ _ ?_)); refine blk_far ?_ NB402_407.out _; (with_reducible repeat (first | refine bN_ _ ?_ | refine bd_ ?_ | refine ba_ _ ?_)); refine blk_far ?_ NB402_407.out _; (with_reducible repeat (first | refine bN_ _ ?_ | refine bd_ ?_ | refine ba_ _ ?_)); refine blk_far ?_ NB402_407.out _; (with_reducible repeat (first | refine bN_ _ ?_ | refine bd_ ?_ | refine ba_ _ ?_)); exact BK402.out⟩
          have n5_ : Aside0 ((((w53.setCell ⟨gb407, 0, none⟩ (.bool t403)).setCell ⟨gb407, 1, none⟩ (.int .u64 t404)).setCell ⟨gb407, 2, none⟩ (.int .u64 t405)).heap[gb407]? = some (.cells #[.bool t403, .int .u64 t404, .int .u64 t405] 25 (0, 0))) := ⟨by (with_reducible repeat (first | refine bN_ _ ?_ | refine bd_ ?_ | refine ba_ _ ?_)); refine blk_put (cs := #[.bool t403, .int .u64 t404, .int .u64 0]) ?_ 2 _ rfl; (with_reducible repeat (first | refine bN_ _ ?_ | refine bd_ ?_ | refine ba_ _ ?_)); refine blk_put (cs := #[.bool t403, .int .u64 0, .int .u64 0]) ?_ 1 _ rfl; (with_reducible repeat (first | refine bN_ _ ?_ | refine bd_ ?_ | refine ba_ _ ?_)); refine blk_put (cs := #[.bool false, .int .u64 0, .int .u64 0]) ?_ 0 _ rfl; (with_reducible repeat (first | refine bN_ _ ?_ | refine bd_ ?_ | refine ba_ _ ?_)); exact BK407.out⟩
          have n6_ : Aside0 (Below w.heap.size w (((w53.setCell ⟨gb407, 0, none⟩ (.bool t403)).setCell ⟨gb407, 1, none⟩ (.int .u64 t404)).setCell ⟨gb407, 2, none⟩ (.int .u64 t405))) := ⟨bel_⟩
          (try clear BK392)
          (try clear BK393)
          (try clear BK394)
          (try clear BK395)
          (try clear BK402)
          (try clear BK407)
          (try clear HB)
          generalize (((w53.setCell ⟨gb407, 0, none⟩ (.bool t403)).setCell ⟨gb407, 1, none⟩ (.int .u64 t404)).setCell ⟨gb407, 2, none⟩ (.int .u64 t405)) = w60 at n0_ n1_ n2_ n3_ n4_ n5_ n6_ ⊢
          have BK392 := n0_
          have BK393 := n1_
          have BK394 := n2_
          have BK395 := n3_
          have BK402 := n4_
          have BK407 := n5_
          have HB := n6_
          clear n0_ n1_ n2_ n3_ n4_ n5_ n6_
          have n0_ := Aside0.mk (blk_drew BK392.out)
          have n1_ := Aside0.mk (blk_drew BK393.out)
          have n2_ := Aside0.mk (blk_drew BK394.out)
          have n3_ := Aside0.mk (blk_drew BK395.out)
          have n4_ := Aside0.mk (blk_drew BK402.out)
          have n5_ := Aside0.mk (blk_drew BK407.out)
          have n6_ := Aside0.mk (below_drew1 HB.out)
          clear BK392
          clear BK393
          clear BK394
          clear BK395
          clear BK402
          clear BK407
          clear HB
          have BK392 := n0_
          have BK393 := n1_
          have BK394 := n2_
          have BK395 := n3_
          have BK402 := n4_
          have BK407 := n5_
          have HB := n6_
          clear n0_ n1_ n2_ n3_ n4_ n5_ n6_
          refine start_ (n := 9) (S := fun w' => w'.cell? ⟨gb402, 0, none⟩ = some (.bool t398) ∧ w'.cell? ⟨gb402, 1, none⟩ = some (.int .u64 t399) ∧ w'.cell? ⟨gb402, 2, none⟩ = some (.int .u64 t400) ∧ w'.cell? ⟨gb407, 0, none⟩ = some (.bool t403) ∧ w'.cell? ⟨gb407, 1, none⟩ = some (.int .u64 t404) ∧ w'.cell? ⟨gb407, 2, none⟩ = some (.int .u64 t405)) (ds := []) #[false, false, false, false, false, false, false, false, false] (by kernel_rfl) rfl rfl ⟨bc_, bc_, bc_, bc_, bc_, bc_⟩ (fun hHeld => ?_); refine with_tabW spec_l5Cross.tab5 spec_l5Cross.bits5 (fun HT_ HW_ => ?_)
          generalize w60.drew = w61 at BK392 BK393 BK394 BK395 BK402 BK407 HB hHeld ⊢
          refine pure_ (i := 2) (N := some 39) (v := ?_) (a' := ?_) #[false, false, true, false, false, false, false, false, false] rfl rfl (any_of HT_.out (by kernel_rfl)) (fun _ _ _ h => h) (Or.inl ⟨by rfl, ?_⟩) ?_ ?_
          rotate_left
          · intro w'
            go_simp
            with_reducible rfl
          rotate_left
          · simp only [Act.put, la_, lb_, lc_, i64_w, i32_w]
            rfl
          refine pure_ (i := 3) (N := some 40) (v := ?_) (a' := ?_) #[false, false, true, true, false, false, false, false, false] rfl rfl (any_of HT_.out (by kernel_rfl)) (fun _ _ _ h => h) (Or.inl ⟨by rfl, ?_⟩) ?_ ?_
          rotate_left
          · intro w'
            go_simp
            with_reducible rfl
          rotate_left
          · simp only [Act.put, la_, lb_, lc_, i64_w, i32_w]
            rfl
          refine pure_ (i := 4) (N := some 41) (v := ?_) (a' := ?_) #[false, false, true, true, true, false, false, false, false] rfl rfl (any_of HT_.out (by kernel_rfl)) (fun _ _ _ h => h) (Or.inl ⟨by rfl, ?_⟩) ?_ ?_
          rotate_left
          · intro w'
            go_simp
            with_reducible rfl
          rotate_left
          · simp only [Act.put, la_, lb_, lc_, i64_w, i32_w]
            rfl
          refine pure_ (i := 5) (N := some 42) (v := ?_) (a' := ?_) #[false, false, true, true, true, true, false, false, false] rfl rfl (any_of HT_.out (by kernel_rfl)) (fun _ _ _ h => h) (Or.inl ⟨by rfl, ?_⟩) ?_ ?_
          rotate_left
          · intro w'
            go_simp
            with_reducible rfl
          rotate_left
          · simp only [Act.put, la_, lb_, lc_, i64_w, i32_w]
            rfl
          refine take_ (i := 0) (N := some 37) (v := ?_) (a' := ?_) #[true, false, true, true, true, true, false, false, false] rfl rfl (take_ofW HT_.out HW_.out (by kernel_rfl)) (fun _ _ _ h => h) (Or.inl ⟨by rfl, ?_⟩) hHeld ?_ ?_
          rotate_left
          · rintro w' ⟨s0, s1, s2, s3, s4, s5⟩
            go_simp
            with_reducible rfl
          rotate_left
          · simp only [Act.put, la_, lb_, lc_, i64_w, i32_w]
            rfl
          refine take_ (i := 1) (N := some 38) (v := ?_) (a' := ?_) #[true, true, true, true, true, true, false, false, false] rfl rfl (take_ofW HT_.out HW_.out (by kernel_rfl)) (fun _ _ _ h => h) (Or.inl ⟨by rfl, ?_⟩) hHeld ?_ ?_
          rotate_left
          · rintro w' ⟨s0, s1, s2, s3, s4, s5⟩
            go_simp
            with_reducible rfl
          rotate_left
          · simp only [Act.put, la_, lb_, lc_, i64_w, i32_w]
            rfl
          refine one_ (i := 6) (N := none) #[true, true, true, true, true, true, true, false, false] rfl rfl (one_of HT_.out (by kernel_rfl)) (by decide) (fun K hK => ?_)
          have hs62 : w61.cell? ⟨gb394, 0, none⟩ = some (.bool false) := (blk_cell BK394.out 0).trans rfl
          have hfs62 := blk_frozen BK394.out 0
          have hns62_0 := NB392_394.out
          have hns62_1 := NB393_394.out
          have hns62_3 := NB395_394.out
          have hns62_4 := NB402_394.out
          have hns62_5 := NB407_394.out
          have hms62_0 := NB394_392.out
          have hms62_1 := NB394_393.out
          have hms62_3 := NB394_395.out
          have hms62_4 := NB394_402.out
          have hms62_5 := NB394_407.out
          have hs63 : w61.cell? ⟨gb394, 1, none⟩ = some (.int .u64 0) := (blk_cell BK394.out 1).trans rfl
          have hfs63 := blk_frozen BK394.out 1
          have hns63_0 := NB392_394.out
          have hns63_1 := NB393_394.out
          have hns63_3 := NB395_394.out
          have hns63_4 := NB402_394.out
          have hns63_5 := NB407_394.out
          have hms63_0 := NB394_392.out
          have hms63_1 := NB394_393.out
          have hms63_3 := NB394_395.out
          have hms63_4 := NB394_402.out
          have hms63_5 := NB394_407.out
          have hs64 : w61.cell? ⟨gb394, 2, none⟩ = some (.int .u64 0) := (blk_cell BK394.out 2).trans rfl
          have hfs64 := blk_frozen BK394.out 2
          have hns64_0 := NB392_394.out
          have hns64_1 := NB393_394.out
          have hns64_3 := NB395_394.out
          have hns64_4 := NB402_394.out
          have hns64_5 := NB407_394.out
          have hms64_0 := NB394_392.out
          have hms64_1 := NB394_393.out
          have hms64_3 := NB394_395.out
          have hms64_4 := NB394_402.out
          have hms64_5 := NB394_407.out
          refine skip_ (w1 := ?_) (by rfl) rfl ?_ ?_
          rotate_left
          · go_simp
            rfl
          refine hK.out _ _ ⟨(cfar_ hHeld.1), (cfar_ hHeld.2.1), (cfar_ hHeld.2.2.1), (cfar_ hHeld.2.2.2.1), (cfar_ hHeld.2.2.2.2.1), (cfar_ hHeld.2.2.2.2.2)⟩ (fun hHeld => ?_)
          clear hK K
          refine one_ (i := 7) (N := none) #[true, true, true, true, true, true, true, true, false] rfl rfl (one_of HT_.out (by kernel_rfl)) (by decide) (fun K hK => ?_)
          have hs65 : w61.cell? ⟨gb395, 0, none⟩ = some (.bool false) := (blk_cell BK395.out 0).trans rfl
          have hfs65 := blk_frozen BK395.out 0
          have hns65_0 := NB392_395.out
          have hns65_1 := NB393_395.out
          have hns65_2 := NB394_395.out
          have hns65_4 := NB402_395.out
          have hns65_5 := NB407_395.out
          have hms65_0 := NB395_392.out
          have hms65_1 := NB395_393.out
          have hms65_2 := NB395_394.out
          have hms65_4 := NB395_402.out
          have hms65_5 := NB395_407.out
          have hs66 : w61.cell? ⟨gb395, 1, none⟩ = some (.int .u64 0) := (blk_cell BK395.out 1).trans rfl
          have hfs66 := blk_frozen BK395.out 1
          have hns66_0 := NB392_395.out
          have hns66_1 := NB393_395.out
          have hns66_2 := NB394_395.out
          have hns66_4 := NB402_395.out
          have hns66_5 := NB407_395.out
          have hms66_0 := NB395_392.out
          have hms66_1 := NB395_393.out
          have hms66_2 := NB395_394.out
          have hms66_4 := NB395_402.out
          have hms66_5 := NB395_407.out
          have hs67 : w61.cell? ⟨gb395, 2, none⟩ = some (.int .u64 0) := (blk_cell BK395.out 2).trans rfl
          have hfs67 := blk_frozen BK395.out 2
          have hns67_0 := NB392_395.out
          have hns67_1 := NB393_395.out
          have hns67_2 := NB394_395.out
          have hns67_4 := NB402_395.out
          have hns67_5 := NB407_395.out
          have hms67_0 := NB395_392.out
          have hms67_1 := NB395_393.out
          have hms67_2 := NB395_394.out
          have hms67_4 := NB395_402.out
          have hms67_5 := NB395_407.out
          refine skip_ (w1 := ?_) (by rfl) rfl ?_ ?_
          rotate_left
          · go_simp
            rfl
          refine hK.out _ _ ⟨(cfar_ hHeld.1), (cfar_ hHeld.2.1), (cfar_ hHeld.2.2.1), (cfar_ hHeld.2.2.2.1), (cfar_ hHeld.2.2.2.2.1), (cfar_ hHeld.2.2.2.2.2)⟩ (fun hHeld => ?_)
          clear hK K
          refine pure_ (i := 8) (N := some 6) (v := ?_) (a' := ?_) #[true, true, true, true, true, true, true, true, true] rfl rfl (any_of HT_.out (by kernel_rfl)) (fun _ _ _ h => h) (Or.inl ⟨by rfl, ?_⟩) ?_ ?_
          rotate_left
          · intro w'
            go_simp
            with_reducible rfl
          rotate_left
          · simp only [Act.put, la_, lb_, lc_, i64_w, i32_w]
            rfl
          refine done_ (done_of HT_.out (by kernel_rfl)) ?_
          try go_wp2
          refine bodyPost_ret (results_list (rs := [.cell 4 25, .cell 5 25, .tmp 6]) rfl (by simp) (.cell gb394 25 #[.bool t398, .int .u64 t399, .int .u64 t400] (0, 0) _ rfl (pu_ #[.bool t398, .int .u64 t399, .int .u64 0] 2 (h := (pu_ #[.bool t398, .int .u64 0, .int .u64 0] 1 (h := (pu_ #[.bool false, .int .u64 0, .int .u64 0] 0 (h := bk_)))))) Try.underlying25 rfl (by kernel_rfl) (.cell gb395 25 #[.bool t403, .int .u64 t404, .int .u64 t405] (0, 0) _ rfl (pu_ #[.bool t403, .int .u64 t404, .int .u64 0] 2 (h := (pu_ #[.bool t403, .int .u64 0, .int .u64 0] 1 (h := (pu_ #[.bool false, .int .u64 0, .int .u64 0] 0 (h := bk_)))))) Try.underlying25 rfl (by kernel_rfl) (.tmp .nil)))) rfl ?_
          exact ⟨rf_, bel_⟩
        · replace c35 := Bool.eq_false_iff.mpr c35
          subst c35
          have H1 : (some (t398, t399, t400, t403, t404, t405, false)) = some (r1, r2, r3, r4, r5, r6, r7) := by rw [if_neg (show ¬ (false = true) by decide)] at H; exact H
          clear H
          have H := H1
          clear H1
          simp only [Option.some.injEq, Prod.mk.injEq] at H
          obtain ⟨rfl, rfl, rfl, rfl, rfl, rfl, rfl⟩ := H
          have hnb68 := NB392_393.out
          have hnc68 := NB393_392.out
          have hnb69 := NB392_394.out
          have hnc69 := NB394_392.out
          have hnb70 := NB392_395.out
          have hnc70 := NB395_392.out
          obtain ⟨hcz71_0, hcz71_1, hcz71_2, hcz71_3, hfz71_0, hfz71_1, hfz71_2, hfz71_3⟩ := cf4_ (w := wc) BK392.out
          have hnb72 := NB393_394.out
          have hnc72 := NB394_393.out
          have hnb73 := NB393_395.out
          have hnc73 := NB395_393.out
          obtain ⟨hcz74_0, hcz74_1, hcz74_2, hcz74_3, hfz74_0, hfz74_1, hfz74_2, hfz74_3⟩ := cf4_ (w := wc) BK393.out
          try go_wp2_with (first | ((with_reducible refine gate_callee (f := 95) rfl ?_); refine goesL_ (some 26) rfl rfl Try.func95 (by kernel_rfl) rfl #[.agg #[.bool a0_0, .int .u64 a0_1, .int .u64 a0_2], .int .i64 a1_3] rfl mp_ ?_; (with_reducible refine (spec_ScaleWide.calls a0_0 a0_1 a0_2 a1_3 t398 t399 t400 false _ A33.out).mono ?_); rintro e w75 ⟨rfl, hb⟩; refine ⟨_, rfl, ?_⟩; have n0_ := bb_ (g := gb392) hb; have n1_ := bb_ (g := gb393) hb; have n2_ := bb_ (g := gb394) hb; have n3_ := bb_ (g := gb395) hb; have n4_ := Aside0.mk (below_step bel_ hb); clear BK392; clear BK393; clear BK394; clear BK395; clear HB; have BK392 := n0_; have BK393 := n1_; have BK394 := n2_; have BK395 := n3_; have HB := n4_; clear n0_ n1_ n2_ n3_ n4_; (try clear hb); (try clear hb2); (try clear hk); (try clear hi)) | ((with_reducible refine gate_dst (N := 7) rfl ?_); refine box_event ?hg (N := 7) ?hd (cs := #[.bool false, .int .u64 0, .int .u64 0]) (t := 25) ?hr ?_; (case hd => rfl); (case hg => rfl); (case hr => first | (go_simp; done) | (go_simp; rfl)); intro gb402 hg w76 hbox hb; have n0_ := bb_ (g := gb392) hb; have n1_ := bb_ (g := gb393) hb; have n2_ := bb_ (g := gb394) hb; have n3_ := bb_ (g := gb395) hb; have n4_ := Aside0.mk (below_step bel_ hb); have n5_ := Aside0.mk (hbox); have n6_ := bs_ (w := w) hg; have n7_ := bs_ (w := w) hg; have n8_ := nlt_ (g := gb392) hg; have n9_ := ngt_ (g := gb392) hg; have n10_ := nlt_ (g := gb393) hg; have n11_ := ngt_ (g := gb393) hg; have n12_ := nlt_ (g := gb394) hg; have n13_ := ngt_ (g := gb394) hg; have n14_ := nlt_ (g := gb395) hg; have n15_ := ngt_ (g := gb395) hg; clear BK392; clear BK393; clear BK394; clear BK395; clear HB; have BK392 := n0_; have BK393 := n1_; have BK394 := n2_; have BK395 := n3_; have HB := n4_; have BK402 := n5_; have GW402 := n6_; have GE402 := n7_; have NB392_402 := n8_; have NB402_392 := n9_; have NB393_402 := n10_; have NB402_393 := n11_; have NB394_402 := n12_; have NB402_394 := n13_; have NB395_402 := n14_; have NB402_395 := n15_; clear n0_ n1_ n2_ n3_ n4_ n5_ n6_ n7_ n8_ n9_ n10_ n11_ n12_ n13_ n14_ n15_; clear hb hbox hg; have hnb77 := NB402_392.out; have hnc77 := NB392_402.out; have hnb78 := NB402_393.out; have hnc78 := NB393_402.out; have hnb79 := NB402_394.out; have hnc79 := NB394_402.out; have hnb80 := NB402_395.out; have hnc80 := NB395_402.out; obtain ⟨hcz81_0, hcz81_1, hcz81_2, hfz81_0, hfz81_1, hfz81_2⟩ := cf3_ (w := w76) BK402.out; obtain ⟨hcz82_0, hcz82_1, hcz82_2, hcz82_3, hfz82_0, hfz82_1, hfz82_2, hfz82_3⟩ := cf4_ (w := w76) BK393.out; obtain ⟨hcz83_0, hcz83_1, hcz83_2, hcz83_3, hfz83_0, hfz83_1, hfz83_2, hfz83_3⟩ := cf4_ (w := w76) BK392.out) | ((with_reducible refine gate_callee (f := 95) rfl ?_); refine goesL_ (some 34) rfl rfl Try.func95 (by kernel_rfl) rfl #[.agg #[.bool a1_0, .int .u64 a1_1, .int .u64 a1_2], .int .i64 a0_3] rfl mp_ ?_; (with_reducible refine (spec_ScaleWide.calls a1_0 a1_1 a1_2 a0_3 t403 t404 t405 t406 _ A34.out).mono ?_); rintro e w84 ⟨rfl, hb⟩; refine ⟨_, rfl, ?_⟩; have n0_ := Aside0.mk (blk_below (g := gb392) (o := .cells #[.bool a0_0, .int .u64 a0_1, .int .u64 a0_2, .int .i64 a0_3] 63 (0, 0)) bk_ hb); have n1_ := Aside0.mk (blk_below (g := gb393) (o := .cells #[.bool a1_0, .int .u64 a1_1, .int .u64 a1_2, .int .i64 a1_3] 63 (0, 0)) bk_ hb); have n2_ := Aside0.mk (blk_below (g := gb394) (o := .cells #[.bool false, .int .u64 0, .int .u64 0] 25 (0, 0)) bk_ hb); have n3_ := Aside0.mk (blk_below (g := gb395) (o := .cells #[.bool false, .int .u64 0, .int .u64 0] 25 (0, 0)) bk_ hb); have n4_ := Aside0.mk (blk_below (g := gb402) (o := .cells #[.bool t398, .int .u64 t399, .int .u64 t400] 25 (0, 0)) (pu_ #[.bool t398, .int .u64 t399, .int .u64 0] 2 (h := (pu_ #[.bool t398, .int .u64 0, .int .u64 0] 1 (h := (pu_ #[.bool false, .int .u64 0, .int .u64 0] 0 (h := bk_)))))) hb); have n5_ := Aside0.mk (below_step bel_ hb); clear BK392; clear BK393; clear BK394; clear BK395; clear BK402; clear HB; have BK392 := n0_; have BK393 := n1_; have BK394 := n2_; have BK395 := n3_; have BK402 := n4_; have HB := n5_; clear n0_ n1_ n2_ n3_ n4_ n5_; (try clear hb); (try clear hb2); (try clear hk); (try clear hi)) | ((with_reducible refine gate_dst (N := 9) rfl ?_); refine box_event ?hg (N := 9) ?hd (cs := #[.bool false, .int .u64 0, .int .u64 0]) (t := 25) ?hr ?_; (case hd => rfl); (case hg => rfl); (case hr => first | (go_simp; done) | (go_simp; rfl)); intro gb407 hg w85 hbox hb; have n0_ := bb_ (g := gb392) hb; have n1_ := bb_ (g := gb393) hb; have n2_ := bb_ (g := gb394) hb; have n3_ := bb_ (g := gb395) hb; have n4_ := bb_ (g := gb402) hb; have n5_ := Aside0.mk (below_step bel_ hb); have n6_ := Aside0.mk (hbox); have n7_ := bs_ (w := w) hg; have n8_ := bs_ (w := w) hg; have n9_ := nlt_ (g := gb392) hg; have n10_ := ngt_ (g := gb392) hg; have n11_ := nlt_ (g := gb393) hg; have n12_ := ngt_ (g := gb393) hg; have n13_ := nlt_ (g := gb394) hg; have n14_ := ngt_ (g := gb394) hg; have n15_ := nlt_ (g := gb395) hg; have n16_ := ngt_ (g := gb395) hg; have n17_ := nlt_ (g := gb402) hg; have n18_ := ngt_ (g := gb402) hg; clear BK392; clear BK393; clear BK394; clear BK395; clear BK402; clear HB; have BK392 := n0_; have BK393 := n1_; have BK394 := n2_; have BK395 := n3_; have BK402 := n4_; have HB := n5_; have BK407 := n6_; have GW407 := n7_; have GE407 := n8_; have NB392_407 := n9_; have NB407_392 := n10_; have NB393_407 := n11_; have NB407_393 := n12_; have NB394_407 := n13_; have NB407_394 := n14_; have NB395_407 := n15_; have NB407_395 := n16_; have NB402_407 := n17_; have NB407_402 := n18_; clear n0_ n1_ n2_ n3_ n4_ n5_ n6_ n7_ n8_ n9_ n10_ n11_ n12_ n13_ n14_ n15_ n16_ n17_ n18_; clear hb hbox hg; have hnb86 := NB407_392.out; have hnc86 := NB392_407.out; have hnb87 := NB407_393.out; have hnc87 := NB393_407.out; have hnb88 := NB407_394.out; have hnc88 := NB394_407.out; have hnb89 := NB407_395.out; have hnc89 := NB395_407.out; have hnb90 := NB407_402.out; have hnc90 := NB402_407.out; obtain ⟨hcz91_0, hcz91_1, hcz91_2, hfz91_0, hfz91_1, hfz91_2⟩ := cf3_ (w := w85) BK407.out))
          have n0_ : Aside0 ((((w85.setCell ⟨gb407, 0, none⟩ (.bool t403)).setCell ⟨gb407, 1, none⟩ (.int .u64 t404)).setCell ⟨gb407, 2, none⟩ (.int .u64 t405)).heap[gb392]? = some (.cells #[.bool a0_0, .int .u64 a0_1, .int .u64 a0_2, .int .i64 a0_3] 63 (0, 0))) := ⟨by (with_reducible repeat (first | refine bN_ _ ?_ | refine bd_ ?_ | refine ba_ _ ?_)); refine blk_far ?_ NB392_407.out _; (with_reducible repeat (first | refine bN_ _ ?_ | refine bd_ ?_ | refine ba_ _ ?_)); refine blk_far ?_ NB392_407.out _; (with_reducible repeat (first | refine bN_ _ ?_ | refine bd_ ?_ | refine ba_ _ ?_)); refine blk_far ?_ NB392_407.out _; (with_reducible repeat (first | refine bN_ _ ?_ | refine bd_ ?_ | refine ba_ _ ?_)); exact BK392.out⟩
          have n1_ : Aside0 ((((w85.setCell ⟨gb407, 0, none⟩ (.bool t403)).setCell ⟨gb407, 1, none⟩ (.int .u64 t404)).setCell ⟨gb407, 2, none⟩ (.int .u64 t405)).heap[gb393]? = some (.cells #[.bool a1_0, .int .u64 a1_1, .int .u64 a1_2, .int .i64 a1_3] 63 (0, 0))) := ⟨by (with_reducible repeat (first | refine bN_ _ ?_ | refine bd_ ?_ | refine ba_ _ ?_)); refine blk_far ?_ NB393_407.out _; (with_reducible repeat (first | refine bN_ _ ?_ | refine bd_ ?_ | refine ba_ _ ?_)); refine blk_far ?_ NB393_407.out _; (with_reducible repeat (first | refine bN_ _ ?_ | refine bd_ ?_ | refine ba_ _ ?_)); refine blk_far ?_ NB393_407.out _; (with_reducible repeat (first | refine bN_ _ ?_ | refine bd_ ?_ | refine ba_ _ ?_)); exact BK393.out⟩
          have n2_ : Aside0 ((((w85.setCell ⟨gb407, 0, none⟩ (.bool t403)).setCell ⟨gb407, 1, none⟩ (.int .u64 t404)).setCell ⟨gb407, 2, none⟩ (.int .u64 t405)).heap[gb394]? = some (.cells #[.bool false, .int .u64 0, .int .u64 0] 25 (0, 0))) := ⟨by (with_reducible repeat (first | refine bN_ _ ?_ | refine bd_ ?_ | refine ba_ _ ?_)); refine blk_far ?_ NB394_407.out _; (with_reducible repeat (first | refine bN_ _ ?_ | refine bd_ ?_ | refine ba_ _ ?_)); refine blk_far ?_ NB394_407.out _; (with_reducible repeat (first | refine bN_ _ ?_ | refine bd_ ?_ | refine ba_ _ ?_)); refine blk_far ?_ NB394_407.out _; (with_reducible repeat (first | refine bN_ _ ?_ | refine bd_ ?_ | refine ba_ _ ?_)); exact BK394.out⟩
          have n3_ : Aside0 ((((w85.setCell ⟨gb407, 0, none⟩ (.bool t403)).setCell ⟨gb407, 1, none⟩ (.int .u64 t404)).setCell ⟨gb407, 2, none⟩ (.int .u64 t405)).heap[gb395]? = some (.cells #[.bool false, .int .u64 0, .int .u64 0] 25 (0, 0))) := ⟨by (with_reducible repeat (first | refine bN_ _ ?_ | refine bd_ ?_ | refine ba_ _ ?_)); refine blk_far ?_ NB395_407.out _; (with_reducible repeat (first | refine bN_ _ ?_ | refine bd_ ?_ | refine ba_ _ ?_)); refine blk_far ?_ NB395_407.out _; (with_reducible repeat (first | refine bN_ _ ?_ | refine bd_ ?_ | refine ba_ _ ?_)); refine blk_far ?_ NB395_407.out _; (with_reducible repeat (first | refine bN_ _ ?_ | refine bd_ ?_ | refine ba_ _ ?_)); exact BK395.out⟩
          have n4_ : Aside0 ((((w85.setCell ⟨gb407, 0, none⟩ (.bool t403)).setCell ⟨gb407, 1, none⟩ (.int .u64 t404)).setCell ⟨gb407, 2, none⟩ (.int .u64 t405)).heap[gb402]? = some (.cells #[.bool t398, .int .u64 t399, .int .u64 t400] 25 (0, 0))) := ⟨by (with_reducible repeat (first | refine bN_ _ ?_ | refine bd_ ?_ | refine ba_ _ ?_)); refine blk_far ?_ NB402_407.out _; (with_reducible repeat (first | refine bN_ _ ?_ | refine bd_ ?_ | refine ba_ _ ?_)); refine blk_far ?_ NB402_407.out _; (with_reducible repeat (first | refine bN_ _ ?_ | refine bd_ ?_ | refine ba_ _ ?_)); refine blk_far ?_ NB402_407.out _; (with_reducible repeat (first | refine bN_ _ ?_ | refine bd_ ?_ | refine ba_ _ ?_)); exact BK402.out⟩
          have n5_ : Aside0 ((((w85.setCell ⟨gb407, 0, none⟩ (.bool t403)).setCell ⟨gb407, 1, none⟩ (.int .u64 t404)).setCell ⟨gb407, 2, none⟩ (.int .u64 t405)).heap[gb407]? = some (.cells #[.bool t403, .int .u64 t404, .int .u64 t405] 25 (0, 0))) := ⟨by (with_reducible repeat (first | refine bN_ _ ?_ | refine bd_ ?_ | refine ba_ _ ?_)); refine blk_put (cs := #[.bool t403, .int .u64 t404, .int .u64 0]) ?_ 2 _ rfl; (with_reducible repeat (first | refine bN_ _ ?_ | refine bd_ ?_ | refine ba_ _ ?_)); refine blk_put (cs := #[.bool t403, .int .u64 0, .int .u64 0]) ?_ 1 _ rfl; (with_reducible repeat (first | refine bN_ _ ?_ | refine bd_ ?_ | refine ba_ _ ?_)); refine blk_put (cs := #[.bool false, .int .u64 0, .int .u64 0]) ?_ 0 _ rfl; (with_reducible repeat (first | refine bN_ _ ?_ | refine bd_ ?_ | refine ba_ _ ?_)); exact BK407.out⟩
          have n6_ : Aside0 (Below w.heap.size w (((w85.setCell ⟨gb407, 0, none⟩ (.bool t403)).setCell ⟨gb407, 1, none⟩ (.int .u64 t404)).setCell ⟨gb407, 2, none⟩ (.int .u64 t405))) := ⟨bel_⟩
          (try clear BK392)
          (try clear BK393)
          (try clear BK394)
          (try clear BK395)
          (try clear BK402)
          (try clear BK407)
          (try clear HB)
          generalize (((w85.setCell ⟨gb407, 0, none⟩ (.bool t403)).setCell ⟨gb407, 1, none⟩ (.int .u64 t404)).setCell ⟨gb407, 2, none⟩ (.int .u64 t405)) = w92 at n0_ n1_ n2_ n3_ n4_ n5_ n6_ ⊢
          have BK392 := n0_
          have BK393 := n1_
          have BK394 := n2_
          have BK395 := n3_
          have BK402 := n4_
          have BK407 := n5_
          have HB := n6_
          clear n0_ n1_ n2_ n3_ n4_ n5_ n6_
          have n0_ := Aside0.mk (blk_drew BK392.out)
          have n1_ := Aside0.mk (blk_drew BK393.out)
          have n2_ := Aside0.mk (blk_drew BK394.out)
          have n3_ := Aside0.mk (blk_drew BK395.out)
          have n4_ := Aside0.mk (blk_drew BK402.out)
          have n5_ := Aside0.mk (blk_drew BK407.out)
          have n6_ := Aside0.mk (below_drew1 HB.out)
          clear BK392
          clear BK393
          clear BK394
          clear BK395
          clear BK402
          clear BK407
          clear HB
          have BK392 := n0_
          have BK393 := n1_
          have BK394 := n2_
          have BK395 := n3_
          have BK402 := n4_
          have BK407 := n5_
          have HB := n6_
          clear n0_ n1_ n2_ n3_ n4_ n5_ n6_
          refine start_ (n := 9) (S := fun w' => w'.cell? ⟨gb402, 0, none⟩ = some (.bool t398) ∧ w'.cell? ⟨gb402, 1, none⟩ = some (.int .u64 t399) ∧ w'.cell? ⟨gb402, 2, none⟩ = some (.int .u64 t400) ∧ w'.cell? ⟨gb407, 0, none⟩ = some (.bool t403) ∧ w'.cell? ⟨gb407, 1, none⟩ = some (.int .u64 t404) ∧ w'.cell? ⟨gb407, 2, none⟩ = some (.int .u64 t405)) (ds := []) #[false, false, false, false, false, false, false, false, false] (by kernel_rfl) rfl rfl ⟨bc_, bc_, bc_, bc_, bc_, bc_⟩ (fun hHeld => ?_); refine with_tabW spec_l5Cross.tab5 spec_l5Cross.bits5 (fun HT_ HW_ => ?_)
          generalize w92.drew = w93 at BK392 BK393 BK394 BK395 BK402 BK407 HB hHeld ⊢
          refine pure_ (i := 2) (N := some 39) (v := ?_) (a' := ?_) #[false, false, true, false, false, false, false, false, false] rfl rfl (any_of HT_.out (by kernel_rfl)) (fun _ _ _ h => h) (Or.inl ⟨by rfl, ?_⟩) ?_ ?_
          rotate_left
          · intro w'
            go_simp
            with_reducible rfl
          rotate_left
          · simp only [Act.put, la_, lb_, lc_, i64_w, i32_w]
            rfl
          refine pure_ (i := 3) (N := some 40) (v := ?_) (a' := ?_) #[false, false, true, true, false, false, false, false, false] rfl rfl (any_of HT_.out (by kernel_rfl)) (fun _ _ _ h => h) (Or.inl ⟨by rfl, ?_⟩) ?_ ?_
          rotate_left
          · intro w'
            go_simp
            with_reducible rfl
          rotate_left
          · simp only [Act.put, la_, lb_, lc_, i64_w, i32_w]
            rfl
          refine pure_ (i := 4) (N := some 41) (v := undef) (a' := ?_) #[false, false, true, true, true, false, false, false, false] rfl rfl (any_of HT_.out (by kernel_rfl)) (fun _ _ _ h => h) (Or.inr ⟨by rfl, rfl⟩) ?_ ?_
          rotate_left
          · simp only [Act.put, la_, lb_, lc_, i64_w, i32_w]
            rfl
          refine pure_ (i := 5) (N := some 42) (v := ?_) (a' := ?_) #[false, false, true, true, true, true, false, false, false] rfl rfl (any_of HT_.out (by kernel_rfl)) (fun _ _ _ h => h) (Or.inl ⟨by rfl, ?_⟩) ?_ ?_
          rotate_left
          · intro w'
            go_simp
            with_reducible rfl
          rotate_left
          · simp only [Act.put, la_, lb_, lc_, i64_w, i32_w]
            rfl
          refine take_ (i := 0) (N := some 37) (v := ?_) (a' := ?_) #[true, false, true, true, true, true, false, false, false] rfl rfl (take_ofW HT_.out HW_.out (by kernel_rfl)) (fun _ _ _ h => h) (Or.inl ⟨by rfl, ?_⟩) hHeld ?_ ?_
          rotate_left
          · rintro w' ⟨s0, s1, s2, s3, s4, s5⟩
            go_simp
            with_reducible rfl
          rotate_left
          · simp only [Act.put, la_, lb_, lc_, i64_w, i32_w]
            rfl
          refine take_ (i := 1) (N := some 38) (v := ?_) (a' := ?_) #[true, true, true, true, true, true, false, false, false] rfl rfl (take_ofW HT_.out HW_.out (by kernel_rfl)) (fun _ _ _ h => h) (Or.inl ⟨by rfl, ?_⟩) hHeld ?_ ?_
          rotate_left
          · rintro w' ⟨s0, s1, s2, s3, s4, s5⟩
            go_simp
            with_reducible rfl
          rotate_left
          · simp only [Act.put, la_, lb_, lc_, i64_w, i32_w]
            rfl
          refine one_ (i := 6) (N := none) #[true, true, true, true, true, true, true, false, false] rfl rfl (one_of HT_.out (by kernel_rfl)) (by decide) (fun K hK => ?_)
          have hs94 : w93.cell? ⟨gb394, 0, none⟩ = some (.bool false) := (blk_cell BK394.out 0).trans rfl
          have hfs94 := blk_frozen BK394.out 0
          have hns94_0 := NB392_394.out
          have hns94_1 := NB393_394.out
          have hns94_3 := NB395_394.out
          have hns94_4 := NB402_394.out
          have hns94_5 := NB407_394.out
          have hms94_0 := NB394_392.out
          have hms94_1 := NB394_393.out
          have hms94_3 := NB394_395.out
          have hms94_4 := NB394_402.out
          have hms94_5 := NB394_407.out
          have hs95 : w93.cell? ⟨gb394, 1, none⟩ = some (.int .u64 0) := (blk_cell BK394.out 1).trans rfl
          have hfs95 := blk_frozen BK394.out 1
          have hns95_0 := NB392_394.out
          have hns95_1 := NB393_394.out
          have hns95_3 := NB395_394.out
          have hns95_4 := NB402_394.out
          have hns95_5 := NB407_394.out
          have hms95_0 := NB394_392.out
          have hms95_1 := NB394_393.out
          have hms95_3 := NB394_395.out
          have hms95_4 := NB394_402.out
          have hms95_5 := NB394_407.out
          have hs96 : w93.cell? ⟨gb394, 2, none⟩ = some (.int .u64 0) := (blk_cell BK394.out 2).trans rfl
          have hfs96 := blk_frozen BK394.out 2
          have hns96_0 := NB392_394.out
          have hns96_1 := NB393_394.out
          have hns96_3 := NB395_394.out
          have hns96_4 := NB402_394.out
          have hns96_5 := NB407_394.out
          have hms96_0 := NB394_392.out
          have hms96_1 := NB394_393.out
          have hms96_3 := NB394_395.out
          have hms96_4 := NB394_402.out
          have hms96_5 := NB394_407.out
          refine skip_ (w1 := ?_) (by rfl) rfl ?_ ?_
          rotate_left
          · go_simp
            rfl
          refine hK.out _ _ ⟨(cfar_ hHeld.1), (cfar_ hHeld.2.1), (cfar_ hHeld.2.2.1), (cfar_ hHeld.2.2.2.1), (cfar_ hHeld.2.2.2.2.1), (cfar_ hHeld.2.2.2.2.2)⟩ (fun hHeld => ?_)
          clear hK K
          refine one_ (i := 7) (N := none) #[true, true, true, true, true, true, true, true, false] rfl rfl (one_of HT_.out (by kernel_rfl)) (by decide) (fun K hK => ?_)
          have hs97 : w93.cell? ⟨gb395, 0, none⟩ = some (.bool false) := (blk_cell BK395.out 0).trans rfl
          have hfs97 := blk_frozen BK395.out 0
          have hns97_0 := NB392_395.out
          have hns97_1 := NB393_395.out
          have hns97_2 := NB394_395.out
          have hns97_4 := NB402_395.out
          have hns97_5 := NB407_395.out
          have hms97_0 := NB395_392.out
          have hms97_1 := NB395_393.out
          have hms97_2 := NB395_394.out
          have hms97_4 := NB395_402.out
          have hms97_5 := NB395_407.out
          have hs98 : w93.cell? ⟨gb395, 1, none⟩ = some (.int .u64 0) := (blk_cell BK395.out 1).trans rfl
          have hfs98 := blk_frozen BK395.out 1
          have hns98_0 := NB392_395.out
          have hns98_1 := NB393_395.out
          have hns98_2 := NB394_395.out
          have hns98_4 := NB402_395.out
          have hns98_5 := NB407_395.out
          have hms98_0 := NB395_392.out
          have hms98_1 := NB395_393.out
          have hms98_2 := NB395_394.out
          have hms98_4 := NB395_402.out
          have hms98_5 := NB395_407.out
          have hs99 : w93.cell? ⟨gb395, 2, none⟩ = some (.int .u64 0) := (blk_cell BK395.out 2).trans rfl
          have hfs99 := blk_frozen BK395.out 2
          have hns99_0 := NB392_395.out
          have hns99_1 := NB393_395.out
          have hns99_2 := NB394_395.out
          have hns99_4 := NB402_395.out
          have hns99_5 := NB407_395.out
          have hms99_0 := NB395_392.out
          have hms99_1 := NB395_393.out
          have hms99_2 := NB395_394.out
          have hms99_4 := NB395_402.out
          have hms99_5 := NB395_407.out
          refine skip_ (w1 := ?_) (by rfl) rfl ?_ ?_
          rotate_left
          · go_simp
            rfl
          refine hK.out _ _ ⟨(cfar_ hHeld.1), (cfar_ hHeld.2.1), (cfar_ hHeld.2.2.1), (cfar_ hHeld.2.2.2.1), (cfar_ hHeld.2.2.2.2.1), (cfar_ hHeld.2.2.2.2.2)⟩ (fun hHeld => ?_)
          clear hK K
          refine pure_ (i := 8) (N := some 6) (v := ?_) (a' := ?_) #[true, true, true, true, true, true, true, true, true] rfl rfl (any_of HT_.out (by kernel_rfl)) (fun _ _ _ h => h) (Or.inl ⟨by rfl, ?_⟩) ?_ ?_
          rotate_left
          · intro w'
            go_simp
            with_reducible rfl
          rotate_left
          · simp only [Act.put, la_, lb_, lc_, i64_w, i32_w]
            rfl
          refine done_ (done_of HT_.out (by kernel_rfl)) ?_
          try go_wp2
          refine bodyPost_ret (results_list (rs := [.cell 4 25, .cell 5 25, .tmp 6]) rfl (by simp) (.cell gb394 25 #[.bool t398, .int .u64 t399, .int .u64 t400] (0, 0) _ rfl (pu_ #[.bool t398, .int .u64 t399, .int .u64 0] 2 (h := (pu_ #[.bool t398, .int .u64 0, .int .u64 0] 1 (h := (pu_ #[.bool false, .int .u64 0, .int .u64 0] 0 (h := bk_)))))) Try.underlying25 rfl (by kernel_rfl) (.cell gb395 25 #[.bool t403, .int .u64 t404, .int .u64 t405] (0, 0) _ rfl (pu_ #[.bool t403, .int .u64 t404, .int .u64 0] 2 (h := (pu_ #[.bool t403, .int .u64 0, .int .u64 0] 1 (h := (pu_ #[.bool false, .int .u64 0, .int .u64 0] 0 (h := bk_)))))) Try.underlying25 rfl (by kernel_rfl) (.tmp .nil)))) rfl ?_
          exact ⟨rf_, bel_⟩

/-! ### spec_CompareFrac: function 54 -/
def spec_CompareFrac.f (k : Nat) (a0_0 : Bool) (a0_1 : Int) (a0_2 : Int) (a0_3 : Int) (a1_0 : Bool) (a1_1 : Int) (a1_2 : Int) (a1_3 : Int) : Option (Int × Bool) := (spec_l5Cross.f k a0_0 a0_1 a0_2 a0_3 a1_0 a1_1 a1_2 a1_3).bind fun bt410 => (if bt410.2.2.2.2.2.2 = true then ((spec_CompareWide.f k bt410.1 bt410.2.1 bt410.2.2.1 bt410.2.2.2.1 bt410.2.2.2.2.1 bt410.2.2.2.2.2.1).bind fun t419 => (some (t419, true))) else (some (0, false)))
theorem spec_CompareFrac.mono : ∀ a0 a1 a2 a3 a4 a5 a6 a7 k, LeO (spec_CompareFrac.f k a0 a1 a2 a3 a4 a5 a6 a7) (spec_CompareFrac.f (k + 1) a0 a1 a2 a3 a4 a5 a6 a7) := by
  intro a0 a1 a2 a3 a4 a5 a6 a7 k
  unfold spec_CompareFrac.f
  repeat' first
      | (with_reducible exact spec_CompareWide.mono _ _ _ _ _ _ _)
      | (with_reducible exact spec_l5Cross.mono _ _ _ _ _ _ _ _ _)
      | (with_reducible exact LeO.refl _)
      | (with_reducible exact LeO.none _)
      | (with_reducible refine LeO.ite ?_ ?_)
      | (with_reducible refine LeO.bind ?_ (fun _ => ?_))
      | exact spec_CompareWide.mono _ _ _ _ _ _ _
      | exact spec_l5Cross.mono _ _ _ _ _ _ _ _ _
      | exact LeO.none _
      | refine LeO.ite ?_ ?_
      | refine LeO.bind ?_ (fun _ => ?_)
set_option maxHeartbeats 8000000 in
set_option maxRecDepth 100000 in
theorem spec_CompareFrac.calls (k : Nat) (a0_0 : Bool) (a0_1 : Int) (a0_2 : Int) (a0_3 : Int) (a1_0 : Bool) (a1_1 : Int) (a1_2 : Int) (a1_3 : Int) (r1 : Int) (r2 : Bool) (w : World) (h : spec_CompareFrac.f k a0_0 a0_1 a0_2 a0_3 a1_0 a1_1 a1_2 a1_3 = some (r1, r2)) :
    Calls Try.prog 54 #[.agg #[.bool a0_0, .int .u64 a0_1, .int .u64 a0_2, .int .i64 a0_3], .agg #[.bool a1_0, .int .u64 a1_1, .int .u64 a1_2, .int .i64 a1_3]] w fun e w' => e = .returned (.tuple #[.int .i64 r1, .bool r2]) ∧ Below w.heap.size w w' := by
  have hu63 := Try.underlying63
  have hu25 := Try.underlying25
  have HB := Aside0.mk (Below.refl w.heap.size w)
  have H : ((spec_l5Cross.f k a0_0 a0_1 a0_2 a0_3 a1_0 a1_1 a1_2 a1_3).bind fun bt410 => (if bt410.2.2.2.2.2.2 = true then ((spec_CompareWide.f k bt410.1 bt410.2.1 bt410.2.2.1 bt410.2.2.2.1 bt410.2.2.2.2.1 bt410.2.2.2.2.2.1).bind fun t419 => (some (t419, true))) else (some (0, false)))) = some (r1, r2) := h
  clear h
  replace H := Option.bind_eq_some_iff.mp H
  obtain ⟨⟨t410, t411, t412, t413, t414, t415, t416⟩, A30, H⟩ := H
  replace H : (if t416 = true then ((spec_CompareWide.f k t410 t411 t412 t413 t414 t415).bind fun t419 => (some (t419, true))) else (some (0, false))) = some (r1, r2) := H
  have A3 := Aside0.mk A30
  clear A30
  by_cases c4 : t416 = true
  · subst c4
    have H1 : ((spec_CompareWide.f k t410 t411 t412 t413 t414 t415).bind fun t419 => (some (t419, true))) = some (r1, r2) := by rw [if_pos rfl] at H; exact H
    clear H
    have H := H1
    clear H1
    replace H := Option.bind_eq_some_iff.mp H
    obtain ⟨t419, A50, H⟩ := H
    replace H : (some (t419, true)) = some (r1, r2) := H
    have A5 := Aside0.mk A50
    clear A50
    simp only [Option.some.injEq, Prod.mk.injEq] at H
    obtain ⟨rfl, rfl⟩ := H
    go_enter Try.func54, Try.ntmps54
    go_wp2_with (first | ((with_reducible refine gate_dst (N := 2) rfl ?_); refine box_event ?hg (N := 2) ?hd (cs := #[.bool a0_0, .int .u64 a0_1, .int .u64 a0_2, .int .i64 a0_3]) (t := 63) ?hr ?_; (case hd => rfl); (case hg => rfl); (case hr => first | (go_simp; done) | (go_simp; rfl)); intro gb408 hg w6 hbox hb; have n0_ := Aside0.mk (below_step bel_ hb); have n1_ := Aside0.mk (hbox); have n2_ := bs_ (w := w) hg; have n3_ := bs_ (w := w) hg; clear HB; have HB := n0_; have BK408 := n1_; have GW408 := n2_; have GE408 := n3_; clear n0_ n1_ n2_ n3_; clear hb hbox hg) | ((with_reducible refine gate_dst (N := 3) rfl ?_); refine box_event ?hg (N := 3) ?hd (cs := #[.bool a1_0, .int .u64 a1_1, .int .u64 a1_2, .int .i64 a1_3]) (t := 63) ?hr ?_; (case hd => rfl); (case hg => rfl); (case hr => first | (go_simp; done) | (go_simp; rfl)); intro gb409 hg w7 hbox hb; have n0_ := bb_ (g := gb408) hb; have n1_ := Aside0.mk (below_step bel_ hb); have n2_ := Aside0.mk (hbox); have n3_ := bs_ (w := w) hg; have n4_ := bs_ (w := w) hg; have n5_ := nlt_ (g := gb408) hg; have n6_ := ngt_ (g := gb408) hg; clear BK408; clear HB; have BK408 := n0_; have HB := n1_; have BK409 := n2_; have GW409 := n3_; have GE409 := n4_; have NB408_409 := n5_; have NB409_408 := n6_; clear n0_ n1_ n2_ n3_ n4_ n5_ n6_; clear hb hbox hg; have hnb8 := NB408_409.out; have hnc8 := NB409_408.out; obtain ⟨hcz9_0, hcz9_1, hcz9_2, hcz9_3, hfz9_0, hfz9_1, hfz9_2, hfz9_3⟩ := cf4_ (w := w7) BK408.out; obtain ⟨hcz10_0, hcz10_1, hcz10_2, hcz10_3, hfz10_0, hfz10_1, hfz10_2, hfz10_3⟩ := cf4_ (w := w7) BK409.out) | ((with_reducible refine gate_callee (f := 85) rfl ?_); refine goesL_ (some 12) rfl rfl Try.func85 (by kernel_rfl) rfl #[.agg #[.bool a0_0, .int .u64 a0_1, .int .u64 a0_2, .int .i64 a0_3], .agg #[.bool a1_0, .int .u64 a1_1, .int .u64 a1_2, .int .i64 a1_3]] rfl mp_ ?_; (with_reducible refine (spec_l5Cross.calls k a0_0 a0_1 a0_2 a0_3 a1_0 a1_1 a1_2 a1_3 t410 t411 t412 t413 t414 t415 true _ A3.out).mono ?_); rintro e w11 ⟨rfl, hb⟩; refine ⟨_, rfl, ?_⟩; have n0_ := bb_ (g := gb408) hb; have n1_ := bb_ (g := gb409) hb; have n2_ := Aside0.mk (below_step bel_ hb); clear BK408; clear BK409; clear HB; have BK408 := n0_; have BK409 := n1_; have HB := n2_; clear n0_ n1_ n2_; (try clear hb); (try clear hb2); (try clear hk); (try clear hi)) | ((with_reducible refine gate_dst (N := 6) rfl ?_); refine box_event ?hg (N := 6) ?hd (cs := #[.bool false, .int .u64 0, .int .u64 0]) (t := 25) ?hr ?_; (case hd => rfl); (case hg => rfl); (case hr => first | (go_simp; done) | (go_simp; rfl)); intro gb417 hg w12 hbox hb; have n0_ := bb_ (g := gb408) hb; have n1_ := bb_ (g := gb409) hb; have n2_ := Aside0.mk (below_step bel_ hb); have n3_ := Aside0.mk (hbox); have n4_ := bs_ (w := w) hg; have n5_ := bs_ (w := w) hg; have n6_ := nlt_ (g := gb408) hg; have n7_ := ngt_ (g := gb408) hg; have n8_ := nlt_ (g := gb409) hg; have n9_ := ngt_ (g := gb409) hg; clear BK408; clear BK409; clear HB; have BK408 := n0_; have BK409 := n1_; have HB := n2_; have BK417 := n3_; have GW417 := n4_; have GE417 := n5_; have NB408_417 := n6_; have NB417_408 := n7_; have NB409_417 := n8_; have NB417_409 := n9_; clear n0_ n1_ n2_ n3_ n4_ n5_ n6_ n7_ n8_ n9_; clear hb hbox hg) | ((with_reducible refine gate_dst (N := 7) rfl ?_); refine box_event ?hg (N := 7) ?hd (cs := #[.bool false, .int .u64 0, .int .u64 0]) (t := 25) ?hr ?_; (case hd => rfl); (case hg => rfl); (case hr => first | (go_simp; done) | (go_simp; rfl)); intro gb418 hg w13 hbox hb; have n0_ := bb_ (g := gb408) hb; have n1_ := bb_ (g := gb409) hb; have n2_ := bb_ (g := gb417) hb; have n3_ := Aside0.mk (below_step bel_ hb); have n4_ := Aside0.mk (hbox); have n5_ := bs_ (w := w) hg; have n6_ := bs_ (w := w) hg; have n7_ := nlt_ (g := gb408) hg; have n8_ := ngt_ (g := gb408) hg; have n9_ := nlt_ (g := gb409) hg; have n10_ := ngt_ (g := gb409) hg; have n11_ := nlt_ (g := gb417) hg; have n12_ := ngt_ (g := gb417) hg; clear BK408; clear BK409; clear BK417; clear HB; have BK408 := n0_; have BK409 := n1_; have BK417 := n2_; have HB := n3_; have BK418 := n4_; have GW418 := n5_; have GE418 := n6_; have NB408_418 := n7_; have NB418_408 := n8_; have NB409_418 := n9_; have NB418_409 := n10_; have NB417_418 := n11_; have NB418_417 := n12_; clear n0_ n1_ n2_ n3_ n4_ n5_ n6_ n7_ n8_ n9_ n10_ n11_ n12_; clear hb hbox hg; have hnb14 := NB417_408.out; have hnc14 := NB408_417.out; have hnb15 := NB417_409.out; have hnc15 := NB409_417.out; have hnb16 := NB417_418.out; have hnc16 := NB418_417.out; obtain ⟨hcz17_0, hcz17_1, hcz17_2, hfz17_0, hfz17_1, hfz17_2⟩ := cf3_ (w := w13) BK417.out; have hnb18 := NB418_408.out; have hnc18 := NB408_418.out; have hnb19 := NB418_409.out; have hnc19 := NB409_418.out; obtain ⟨hcz20_0, hcz20_1, hcz20_2, hfz20_0, hfz20_1, hfz20_2⟩ := cf3_ (w := w13) BK418.out) | ((with_reducible refine gate_callee (f := 35) rfl ?_); refine goesL_ (some 20) rfl rfl Try.func35 (by kernel_rfl) rfl #[.agg #[.bool t410, .int .u64 t411, .int .u64 t412], .agg #[.bool t413, .int .u64 t414, .int .u64 t415]] rfl mp_ ?_; (with_reducible refine (spec_CompareWide.calls k t410 t411 t412 t413 t414 t415 t419 _ A5.out).mono ?_); rintro e w21 ⟨rfl, hb⟩; refine ⟨_, rfl, ?_⟩; have n0_ := Aside0.mk (blk_below (g := gb408) (o := .cells #[.bool a0_0, .int .u64 a0_1, .int .u64 a0_2, .int .i64 a0_3] 63 (0, 0)) bk_ hb); have n1_ := Aside0.mk (blk_below (g := gb409) (o := .cells #[.bool a1_0, .int .u64 a1_1, .int .u64 a1_2, .int .i64 a1_3] 63 (0, 0)) bk_ hb); have n2_ := Aside0.mk (blk_below (g := gb417) (o := .cells #[.bool t410, .int .u64 t411, .int .u64 t412] 25 (0, 0)) (pu_ #[.bool t410, .int .u64 t411, .int .u64 0] 2 (h := (pu_ #[.bool t410, .int .u64 0, .int .u64 0] 1 (h := (pu_ #[.bool false, .int .u64 0, .int .u64 0] 0 (h := bk_)))))) hb); have n3_ := Aside0.mk (blk_below (g := gb418) (o := .cells #[.bool t413, .int .u64 t414, .int .u64 t415] 25 (0, 0)) (pu_ #[.bool t413, .int .u64 t414, .int .u64 0] 2 (h := (pu_ #[.bool t413, .int .u64 0, .int .u64 0] 1 (h := (pu_ #[.bool false, .int .u64 0, .int .u64 0] 0 (h := bk_)))))) hb); have n4_ := Aside0.mk (below_step bel_ hb); clear BK408; clear BK409; clear BK417; clear BK418; clear HB; have BK408 := n0_; have BK409 := n1_; have BK417 := n2_; have BK418 := n3_; have HB := n4_; clear n0_ n1_ n2_ n3_ n4_; (try clear hb); (try clear hb2); (try clear hk); (try clear hi)))
    go_ret2
    exact ⟨rf_, bel_⟩
  · replace c4 := Bool.eq_false_iff.mpr c4
    subst c4
    have H1 : (some (0, false)) = some (r1, r2) := by rw [if_neg (show ¬ (false = true) by decide)] at H; exact H
    clear H
    have H := H1
    clear H1
    simp only [Option.some.injEq, Prod.mk.injEq] at H
    obtain ⟨rfl, rfl⟩ := H
    go_enter Try.func54, Try.ntmps54
    go_wp2_with (first | ((with_reducible refine gate_dst (N := 2) rfl ?_); refine box_event ?hg (N := 2) ?hd (cs := #[.bool a0_0, .int .u64 a0_1, .int .u64 a0_2, .int .i64 a0_3]) (t := 63) ?hr ?_; (case hd => rfl); (case hg => rfl); (case hr => first | (go_simp; done) | (go_simp; rfl)); intro gb408 hg w22 hbox hb; have n0_ := Aside0.mk (below_step bel_ hb); have n1_ := Aside0.mk (hbox); have n2_ := bs_ (w := w) hg; have n3_ := bs_ (w := w) hg; clear HB; have HB := n0_; have BK408 := n1_; have GW408 := n2_; have GE408 := n3_; clear n0_ n1_ n2_ n3_; clear hb hbox hg) | ((with_reducible refine gate_dst (N := 3) rfl ?_); refine box_event ?hg (N := 3) ?hd (cs := #[.bool a1_0, .int .u64 a1_1, .int .u64 a1_2, .int .i64 a1_3]) (t := 63) ?hr ?_; (case hd => rfl); (case hg => rfl); (case hr => first | (go_simp; done) | (go_simp; rfl)); intro gb409 hg w23 hbox hb; have n0_ := bb_ (g := gb408) hb; have n1_ := Aside0.mk (below_step bel_ hb); have n2_ := Aside0.mk (hbox); have n3_ := bs_ (w := w) hg; have n4_ := bs_ (w := w) hg; have n5_ := nlt_ (g := gb408) hg; have n6_ := ngt_ (g := gb408) hg; clear BK408; clear HB; have BK408 := n0_; have HB := n1_; have BK409 := n2_; have GW409 := n3_; have GE409 := n4_; have NB408_409 := n5_; have NB409_408 := n6_; clear n0_ n1_ n2_ n3_ n4_ n5_ n6_; clear hb hbox hg; have hnb24 := NB408_409.out; have hnc24 := NB409_408.out; obtain ⟨hcz25_0, hcz25_1, hcz25_2, hcz25_3, hfz25_0, hfz25_1, hfz25_2, hfz25_3⟩ := cf4_ (w := w23) BK408.out; obtain ⟨hcz26_0, hcz26_1, hcz26_2, hcz26_3, hfz26_0, hfz26_1, hfz26_2, hfz26_3⟩ := cf4_ (w := w23) BK409.out) | ((with_reducible refine gate_callee (f := 85) rfl ?_); refine goesL_ (some 12) rfl rfl Try.func85 (by kernel_rfl) rfl #[.agg #[.bool a0_0, .int .u64 a0_1, .int .u64 a0_2, .int .i64 a0_3], .agg #[.bool a1_0, .int .u64 a1_1, .int .u64 a1_2, .int .i64 a1_3]] rfl mp_ ?_; (with_reducible refine (spec_l5Cross.calls k a0_0 a0_1 a0_2 a0_3 a1_0 a1_1 a1_2 a1_3 t410 t411 t412 t413 t414 t415 false _ A3.out).mono ?_); rintro e w27 ⟨rfl, hb⟩; refine ⟨_, rfl, ?_⟩; have n0_ := bb_ (g := gb408) hb; have n1_ := bb_ (g := gb409) hb; have n2_ := Aside0.mk (below_step bel_ hb); clear BK408; clear BK409; clear HB; have BK408 := n0_; have BK409 := n1_; have HB := n2_; clear n0_ n1_ n2_; (try clear hb); (try clear hb2); (try clear hk); (try clear hi)) | ((with_reducible refine gate_dst (N := 6) rfl ?_); refine box_event ?hg (N := 6) ?hd (cs := #[.bool false, .int .u64 0, .int .u64 0]) (t := 25) ?hr ?_; (case hd => rfl); (case hg => rfl); (case hr => first | (go_simp; done) | (go_simp; rfl)); intro gb417 hg w28 hbox hb; have n0_ := bb_ (g := gb408) hb; have n1_ := bb_ (g := gb409) hb; have n2_ := Aside0.mk (below_step bel_ hb); have n3_ := Aside0.mk (hbox); have n4_ := bs_ (w := w) hg; have n5_ := bs_ (w := w) hg; have n6_ := nlt_ (g := gb408) hg; have n7_ := ngt_ (g := gb408) hg; have n8_ := nlt_ (g := gb409) hg; have n9_ := ngt_ (g := gb409) hg; clear BK408; clear BK409; clear HB; have BK408 := n0_; have BK409 := n1_; have HB := n2_; have BK417 := n3_; have GW417 := n4_; have GE417 := n5_; have NB408_417 := n6_; have NB417_408 := n7_; have NB409_417 := n8_; have NB417_409 := n9_; clear n0_ n1_ n2_ n3_ n4_ n5_ n6_ n7_ n8_ n9_; clear hb hbox hg) | ((with_reducible refine gate_dst (N := 7) rfl ?_); refine box_event ?hg (N := 7) ?hd (cs := #[.bool false, .int .u64 0, .int .u64 0]) (t := 25) ?hr ?_; (case hd => rfl); (case hg => rfl); (case hr => first | (go_simp; done) | (go_simp; rfl)); intro gb418 hg w29 hbox hb; have n0_ := bb_ (g := gb408) hb; have n1_ := bb_ (g := gb409) hb; have n2_ := bb_ (g := gb417) hb; have n3_ := Aside0.mk (below_step bel_ hb); have n4_ := Aside0.mk (hbox); have n5_ := bs_ (w := w) hg; have n6_ := bs_ (w := w) hg; have n7_ := nlt_ (g := gb408) hg; have n8_ := ngt_ (g := gb408) hg; have n9_ := nlt_ (g := gb409) hg; have n10_ := ngt_ (g := gb409) hg; have n11_ := nlt_ (g := gb417) hg; have n12_ := ngt_ (g := gb417) hg; clear BK408; clear BK409; clear BK417; clear HB; have BK408 := n0_; have BK409 := n1_; have BK417 := n2_; have HB := n3_; have BK418 := n4_; have GW418 := n5_; have GE418 := n6_; have NB408_418 := n7_; have NB418_408 := n8_; have NB409_418 := n9_; have NB418_409 := n10_; have NB417_418 := n11_; have NB418_417 := n12_; clear n0_ n1_ n2_ n3_ n4_ n5_ n6_ n7_ n8_ n9_ n10_ n11_ n12_; clear hb hbox hg; have hnb30 := NB417_408.out; have hnc30 := NB408_417.out; have hnb31 := NB417_409.out; have hnc31 := NB409_417.out; have hnb32 := NB417_418.out; have hnc32 := NB418_417.out; obtain ⟨hcz33_0, hcz33_1, hcz33_2, hfz33_0, hfz33_1, hfz33_2⟩ := cf3_ (w := w29) BK417.out; have hnb34 := NB418_408.out; have hnc34 := NB408_418.out; have hnb35 := NB418_409.out; have hnc35 := NB409_418.out; obtain ⟨hcz36_0, hcz36_1, hcz36_2, hfz36_0, hfz36_1, hfz36_2⟩ := cf3_ (w := w29) BK418.out))
    go_ret2
    exact ⟨rf_, bel_⟩

/-! ### laws_at0: function 56 -/
def laws_at0.f (l0 : List Int) (a1 : Int) : Option (Int) := if a1 < (l0.length : Int) then (if 0 ≤ a1 then (some (wrap64 (rd l0 a1))) else (none)) else (some (Int.tmod (wrap64 ((wrap64 (a1 * 7)) + (l0.length : Int))) 256))
set_option maxHeartbeats 8000000 in
set_option maxRecDepth 100000 in
theorem laws_at0.calls (A0 : Option Addr) (c0 : Nat) (l0 : List Int) (a1 : Int) (r : Int) (w : World) (hr0 : Kd.C (Kd.int .u8) w A0 l0.length l0) (hc0 : l0.length ≤ c0) (h : laws_at0.f l0 a1 = some r) :
    Calls Try.prog 56 #[.slice A0 l0.length c0, .int .i64 a1] w fun e w' => e = .returned (.int .i64 r) ∧ Drawn0 w w' := by
  have HR0 := Aside0.mk hr0
  have HC0 := Aside0.mk hc0
  clear hr0 hc0
  have H : (if a1 < (l0.length : Int) then (if 0 ≤ a1 then (some (wrap64 (rd l0 a1))) else (none)) else (some (Int.tmod (wrap64 ((wrap64 (a1 * 7)) + (l0.length : Int))) 256))) = some r := h
  clear h
  by_cases c3 : a1 < (l0.length : Int)
  · rw [if_pos c3] at H
    have c3b0 : decide (a1 < (l0.length : Int)) = true := decide_eq_true c3
    clear c3
    by_cases c4 : 0 ≤ a1
    · rw [if_pos c4] at H
      have c4b0 : decide (0 ≤ a1) = true := decide_eq_true c4
      clear c4
      obtain rfl := Option.some.inj H
      have p420 : 0 ≤ (a1 : Int) := of_decide_eq_true (by first | (with_reducible assumption) | assumption)
      have q420 : a1 < (l0.length : Int) := of_decide_eq_true (by first | (with_reducible assumption) | assumption)
      obtain ⟨ad420, e420, hx420_0⟩ := Kd.at_int HR0.out a1 p420 q420
      cases e420
      replace p420 := eq_true p420
      replace q420 := eq_true q420
      go_enter Try.func56, Try.ntmps56
      go_wp2
      go_ret
      exact ⟨by first | rfl | (simp; done) | (simp [*]; done), by repeat (first | exact Drawn0.refl _ | apply Drawn0.step)⟩
    · rw [if_neg c4] at H
      exact absurd H (by simp)
  · rw [if_neg c3] at H
    have c3b0 : decide (a1 < (l0.length : Int)) = false := decide_eq_false c3
    clear c3
    obtain rfl := Option.some.inj H
    go_enter Try.func56, Try.ntmps56
    go_wp2
    go_ret
    exact ⟨by first | rfl | (simp; done) | (simp [*]; done), by repeat (first | exact Drawn0.refl _ | apply Drawn0.step)⟩

/-! ### bits_Sub64: function 67, the model's own entry -/
def bits_Sub64.entry : Array Value → Sem Value := fun args => do
  let (x, y, b) ← Extern.MathBitsCarry.three "Sub64" args
  pure (Extern.MathBitsCarry.pair ((x + Extern.MathBitsCarry.m64 - y - b) % Extern.MathBitsCarry.m64) (if x < y + b then 1 else 0))
theorem bits_Sub64.entry_run (x y b : Nat) (hb : b ≤ 1) (w : World) :
    (bits_Sub64.entry #[.int .u64 x, .int .u64 y, .int .u64 b]).run Try.prog w =
      .ok (.tuple #[.int .u64 (((x + 18446744073709551616 - y - b) % 18446744073709551616 : Nat) : Int), .int .u64 ((if x < y + b then 1 else 0 : Nat) : Int)]) w := by
  have : b = 0 ∨ b = 1 := by omega
  rcases this with rfl | rfl <;> rfl
def bits_Sub64.f (a0 : Int) (a1 : Int) (a2 : Int) : Option (Int × Int) := if 0 ≤ a0 ∧ 0 ≤ a1 ∧ a1 < 18446744073709551616 ∧ 0 ≤ a2 ∧ a2 ≤ 1 then some ((a0 - a1 - a2) % 18446744073709551616, if a0 < a1 + a2 then 1 else 0) else none
theorem bits_Sub64.run (a0 a1 a2 r1 r2 : Int) (w : World) (h : bits_Sub64.f a0 a1 a2 = some (r1, r2)) :
    (callFunc 67 #[.int .u64 a0, .int .u64 a1, .int .u64 a2]).run Try.prog w = .ok (.value (.tuple #[.int .u64 r1, .int .u64 r2])) w := by
  unfold bits_Sub64.f at h
  by_cases c : 0 ≤ a0 ∧ 0 ≤ a1 ∧ a1 < 18446744073709551616 ∧ 0 ≤ a2 ∧ a2 ≤ 1
  · rw [if_pos c] at h
    simp only [Option.some.injEq, Prod.mk.injEq] at h
    obtain ⟨h1, h2⟩ := h
    obtain ⟨x, rfl⟩ := Int.eq_ofNat_of_zero_le c.1
    obtain ⟨y, rfl⟩ := Int.eq_ofNat_of_zero_le c.2.1
    obtain ⟨b, rfl⟩ := Int.eq_ofNat_of_zero_le c.2.2.2.1
    rw [run_callFunc_extern Try.func67 (by kernel_rfl) (by kernel_rfl) (by kernel_rfl) (e := bits_Sub64.entry) (by kernel_rfl), bits_Sub64.entry_run x y b (by omega)]
    have e1 : (((x + 18446744073709551616 - y - b) % 18446744073709551616 : Nat) : Int) = r1 := by rw [← h1]; omega
    have e2 : ((if x < y + b then 1 else 0 : Nat) : Int) = r2 := by
      rw [← h2]
      by_cases d : x < y + b
      · rw [if_pos d, if_pos (by omega)]; rfl
      · rw [if_neg d, if_neg (by omega)]; rfl
    rw [e1, e2]
    rfl
  · rw [if_neg c] at h
    cases h

end Go.Proofs.Ytlndcgmojabgbaa.PFnFracOrder
