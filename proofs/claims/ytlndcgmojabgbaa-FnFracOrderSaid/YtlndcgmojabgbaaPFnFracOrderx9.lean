/- Contracts of Go functions, each with the Lean function that says what it computes: begun by the print, turned by this session. No condition beyond what each theorem states. -/
import Derived.Test.YtlndcgmojabgbaaPFnFracOrderx0
import Derived.Test.YtlndcgmojabgbaaPFnFracOrderx8
namespace Go.Proofs.Ytlndcgmojabgbaa.PFnFracOrder
open Go.RowKit Go.Proofs.YtlndcgmojabgbaaVFnFracOrder.PrintWords Go.Proofs.YtlndcgmojabgbaaVFnFracOrder.PrintLast Go.Proofs.YtlndcgmojabgbaaVFnFracOrder.PrintMore
attribute [local go_sem] max2_int min2_int max_two min_two max_three min_three max_four min_four   -- for this text's walks alone
set_option linter.unusedVariables false
set_option linter.unusedSimpArgs false

/-! ### impl_crossed: function 84 -/
def impl_crossed.j0 : Nat → Bool → Bool → Int → Int → Int → Bool → Int → Int → Int → Option (Bool × Int × Int × Bool × Int × Int × Bool)
  | 0, _, _, _, _, _, _, _, _, _ => none
  | k + 1, x18, x359000, x359001, x359002, x359003, x360000, x360001, x360002, x360003 => if x18 = true then (some (false, 0, 0, false, 0, 0, false)) else ((impl_ScaleWide.f x359000 x359001 x359002 x360003).bind fun bt364 => ((impl_ScaleWide.f x360000 x360001 x360002 x359003).bind fun bt369 => (if bt364.2.2.2 = true then (some (bt364.1, bt364.2.1, bt364.2.2.1, bt369.1, bt369.2.1, bt369.2.2.1, bt369.2.2.2)) else (some (bt364.1, bt364.2.1, bt364.2.2.1, bt369.1, bt369.2.1, bt369.2.2.1, false)))))
def impl_crossed.f (k : Nat) (a0_0 : Bool) (a0_1 : Int) (a0_2 : Int) (a0_3 : Int) (a1_0 : Bool) (a1_1 : Int) (a1_2 : Int) (a1_3 : Int) : Option (Bool × Int × Int × Bool × Int × Int × Bool) := (impl_FracOk.f a0_0 a0_1 a0_2 a0_3).bind fun t362 => (if t362 = true then ((impl_FracOk.f a1_0 a1_1 a1_2 a1_3).bind fun t363 => (impl_crossed.j0 k (!t363) a0_0 a0_1 a0_2 a0_3 a1_0 a1_1 a1_2 a1_3)) else (impl_crossed.j0 k true a0_0 a0_1 a0_2 a0_3 a1_0 a1_1 a1_2 a1_3))
theorem impl_crossed.mono_l : ∀ k, (∀ y0 y1 y2 y3 y4 y5 y6 y7 y8, LeO (impl_crossed.j0 k y0 y1 y2 y3 y4 y5 y6 y7 y8) (impl_crossed.j0 (k + 1) y0 y1 y2 y3 y4 y5 y6 y7 y8))
  | 0 => fun _ _ _ _ _ _ _ _ _ r h => by simp [impl_crossed.j0] at h
  | k + 1 => by
    have ih0 := impl_crossed.mono_l k
    · intro y0 y1 y2 y3 y4 y5 y6 y7 y8
      unfold impl_crossed.j0
      repeat' first
      | (with_reducible exact ih0 _ _ _ _ _ _ _ _ _)
      | (with_reducible exact LeO.refl _)
      | (with_reducible exact LeO.none _)
      | (with_reducible refine LeO.ite ?_ ?_)
      | (with_reducible refine LeO.bind ?_ (fun _ => ?_))
      | exact ih0 _ _ _ _ _ _ _ _ _
      | exact LeO.none _
      | refine LeO.ite ?_ ?_
      | refine LeO.bind ?_ (fun _ => ?_)
theorem impl_crossed.mono : ∀ a0 a1 a2 a3 a4 a5 a6 a7 k, LeO (impl_crossed.f k a0 a1 a2 a3 a4 a5 a6 a7) (impl_crossed.f (k + 1) a0 a1 a2 a3 a4 a5 a6 a7) := by
  intro a0 a1 a2 a3 a4 a5 a6 a7 k
  have ih0 := impl_crossed.mono_l k
  unfold impl_crossed.f
  repeat' first
      | (with_reducible exact ih0 _ _ _ _ _ _ _ _ _)
      | (with_reducible exact LeO.refl _)
      | (with_reducible exact LeO.none _)
      | (with_reducible refine LeO.ite ?_ ?_)
      | (with_reducible refine LeO.bind ?_ (fun _ => ?_))
      | exact ih0 _ _ _ _ _ _ _ _ _
      | exact LeO.none _
      | refine LeO.ite ?_ ?_
      | refine LeO.bind ?_ (fun _ => ?_)
def impl_crossed.T5 : Bool × List (List Nat × List Nat) := (true, [([], []), ([], []), ([], []), ([2], [2]), ([3], [3]), ([3, 4], [3, 4]), ([0, 3, 0], [0]), ([1, 6, 0, 1, 6], [1]), ([5, 7, 0, 1, 2, 3, 4, 5, 6, 7], [5])])
def impl_crossed.B5 : List Nat := [0, 0, 0, 4, 12, 28, 13, 79, 255]
theorem impl_crossed.tab5 : rtab .any (opsOf Try.f84 5) = impl_crossed.T5 := by kernel_rfl
theorem impl_crossed.bits5 : waitsOk impl_crossed.T5.2 impl_crossed.B5 = true := by kernel_rfl
set_option maxHeartbeats 8000000 in
set_option maxRecDepth 100000 in
theorem impl_crossed.calls (k : Nat) (a0_0 : Bool) (a0_1 : Int) (a0_2 : Int) (a0_3 : Int) (a1_0 : Bool) (a1_1 : Int) (a1_2 : Int) (a1_3 : Int) (r1 : Bool) (r2 : Int) (r3 : Int) (r4 : Bool) (r5 : Int) (r6 : Int) (r7 : Bool) (w : World) (h : impl_crossed.f k a0_0 a0_1 a0_2 a0_3 a1_0 a1_1 a1_2 a1_3 = some (r1, r2, r3, r4, r5, r6, r7)) :
    Calls Try.prog 84 #[.agg #[.bool a0_0, .int .u64 a0_1, .int .u64 a0_2, .int .i64 a0_3], .agg #[.bool a1_0, .int .u64 a1_1, .int .u64 a1_2, .int .i64 a1_3]] w fun e w' => e = .returned (.tuple #[.agg #[.bool r1, .int .u64 r2, .int .u64 r3], .agg #[.bool r4, .int .u64 r5, .int .u64 r6], .bool r7]) ∧ Below w.heap.size w w' := by
  have hu63 := Try.underlying63
  have hu25 := Try.underlying25
  have HB := Aside0.mk (Below.refl w.heap.size w)
  have H : ((impl_FracOk.f a0_0 a0_1 a0_2 a0_3).bind fun t362 => (if t362 = true then ((impl_FracOk.f a1_0 a1_1 a1_2 a1_3).bind fun t363 => (impl_crossed.j0 k (!t363) a0_0 a0_1 a0_2 a0_3 a1_0 a1_1 a1_2 a1_3)) else (impl_crossed.j0 k true a0_0 a0_1 a0_2 a0_3 a1_0 a1_1 a1_2 a1_3))) = some (r1, r2, r3, r4, r5, r6, r7) := h
  clear h
  have HC3 := Aside0.mk H
  clear H
  go_enter Try.func84, Try.ntmps84
  go_upto_region 1 with (first | ((with_reducible refine gate_dst (N := 2) rfl ?_); refine box_event ?hg (N := 2) ?hd (cs := #[.bool a0_0, .int .u64 a0_1, .int .u64 a0_2, .int .i64 a0_3]) (t := 63) ?hr ?_; (case hd => rfl); (case hg => rfl); (case hr => first | (go_simp; done) | (go_simp; rfl)); intro gb358 hg w4 hbox hb; have n0_ := Aside0.mk (below_step bel_ hb); have n1_ := Aside0.mk (hbox); have n2_ := bs_ (w := w) hg; have n3_ := bs_ (w := w) hg; clear HB; have HB := n0_; have BK358 := n1_; have GW358 := n2_; have GE358 := n3_; clear n0_ n1_ n2_ n3_; clear hb hbox hg) | ((with_reducible refine gate_dst (N := 3) rfl ?_); refine box_event ?hg (N := 3) ?hd (cs := #[.bool a1_0, .int .u64 a1_1, .int .u64 a1_2, .int .i64 a1_3]) (t := 63) ?hr ?_; (case hd => rfl); (case hg => rfl); (case hr => first | (go_simp; done) | (go_simp; rfl)); intro gb359 hg w5 hbox hb; have n0_ := bb_ (g := gb358) hb; have n1_ := Aside0.mk (below_step bel_ hb); have n2_ := Aside0.mk (hbox); have n3_ := bs_ (w := w) hg; have n4_ := bs_ (w := w) hg; have n5_ := nlt_ (g := gb358) hg; have n6_ := ngt_ (g := gb358) hg; clear BK358; clear HB; have BK358 := n0_; have HB := n1_; have BK359 := n2_; have GW359 := n3_; have GE359 := n4_; have NB358_359 := n5_; have NB359_358 := n6_; clear n0_ n1_ n2_ n3_ n4_ n5_ n6_; clear hb hbox hg) | ((with_reducible refine gate_dst (N := 4) rfl ?_); refine box_event ?hg (N := 4) ?hd (cs := #[.bool false, .int .u64 0, .int .u64 0]) (t := 25) ?hr ?_; (case hd => rfl); (case hg => rfl); (case hr => first | (go_simp; done) | (go_simp; rfl)); intro gb360 hg w6 hbox hb; have n0_ := bb_ (g := gb358) hb; have n1_ := bb_ (g := gb359) hb; have n2_ := Aside0.mk (below_step bel_ hb); have n3_ := Aside0.mk (hbox); have n4_ := bs_ (w := w) hg; have n5_ := bs_ (w := w) hg; have n6_ := nlt_ (g := gb358) hg; have n7_ := ngt_ (g := gb358) hg; have n8_ := nlt_ (g := gb359) hg; have n9_ := ngt_ (g := gb359) hg; clear BK358; clear BK359; clear HB; have BK358 := n0_; have BK359 := n1_; have HB := n2_; have BK360 := n3_; have GW360 := n4_; have GE360 := n5_; have NB358_360 := n6_; have NB360_358 := n7_; have NB359_360 := n8_; have NB360_359 := n9_; clear n0_ n1_ n2_ n3_ n4_ n5_ n6_ n7_ n8_ n9_; clear hb hbox hg) | ((with_reducible refine gate_dst (N := 5) rfl ?_); refine box_event ?hg (N := 5) ?hd (cs := #[.bool false, .int .u64 0, .int .u64 0]) (t := 25) ?hr ?_; (case hd => rfl); (case hg => rfl); (case hr => first | (go_simp; done) | (go_simp; rfl)); intro gb361 hg w7 hbox hb; have n0_ := bb_ (g := gb358) hb; have n1_ := bb_ (g := gb359) hb; have n2_ := bb_ (g := gb360) hb; have n3_ := Aside0.mk (below_step bel_ hb); have n4_ := Aside0.mk (hbox); have n5_ := bs_ (w := w) hg; have n6_ := bs_ (w := w) hg; have n7_ := nlt_ (g := gb358) hg; have n8_ := ngt_ (g := gb358) hg; have n9_ := nlt_ (g := gb359) hg; have n10_ := ngt_ (g := gb359) hg; have n11_ := nlt_ (g := gb360) hg; have n12_ := ngt_ (g := gb360) hg; clear BK358; clear BK359; clear BK360; clear HB; have BK358 := n0_; have BK359 := n1_; have BK360 := n2_; have HB := n3_; have BK361 := n4_; have GW361 := n5_; have GE361 := n6_; have NB358_361 := n7_; have NB361_358 := n8_; have NB359_361 := n9_; have NB361_359 := n10_; have NB360_361 := n11_; have NB361_360 := n12_; clear n0_ n1_ n2_ n3_ n4_ n5_ n6_ n7_ n8_ n9_ n10_ n11_ n12_; clear hb hbox hg))
  (try simp only [Act.put, la_, lb_, lc_])
  go_cut [18] (fun v18 wc => ∃ (kq : Nat) (x18_2 : Bool), v18 = .bool x18_2 ∧ Aside0 (impl_crossed.j0 kq x18_2 a0_0 a0_1 a0_2 a0_3 a1_0 a1_1 a1_2 a1_3 = some (r1, r2, r3, r4, r5, r6, r7)) ∧ Aside0 (kq ≤ k) ∧ Aside0 (wc.heap[gb358]? = some (.cells #[.bool a0_0, .int .u64 a0_1, .int .u64 a0_2, .int .i64 a0_3] 63 (0, 0))) ∧ Aside0 (wc.heap[gb359]? = some (.cells #[.bool a1_0, .int .u64 a1_1, .int .u64 a1_2, .int .i64 a1_3] 63 (0, 0))) ∧ Aside0 (wc.heap[gb360]? = some (.cells #[.bool false, .int .u64 0, .int .u64 0] 25 (0, 0))) ∧ Aside0 (wc.heap[gb361]? = some (.cells #[.bool false, .int .u64 0, .int .u64 0] 25 (0, 0))) ∧ Aside0 (Below w.heap.size w wc))
  case first =>
    have H := HC3.out
    clear HC3
    replace H := Option.bind_eq_some_iff.mp H
    obtain ⟨t362, A80, H⟩ := H
    replace H : (if t362 = true then ((impl_FracOk.f a1_0 a1_1 a1_2 a1_3).bind fun t363 => (impl_crossed.j0 k (!t363) a0_0 a0_1 a0_2 a0_3 a1_0 a1_1 a1_2 a1_3)) else (impl_crossed.j0 k true a0_0 a0_1 a0_2 a0_3 a1_0 a1_1 a1_2 a1_3)) = some (r1, r2, r3, r4, r5, r6, r7) := H
    have A8 := Aside0.mk A80
    clear A80
    by_cases c9 : t362 = true
    · subst c9
      have H1 : ((impl_FracOk.f a1_0 a1_1 a1_2 a1_3).bind fun t363 => (impl_crossed.j0 k (!t363) a0_0 a0_1 a0_2 a0_3 a1_0 a1_1 a1_2 a1_3)) = some (r1, r2, r3, r4, r5, r6, r7) := by rw [if_pos rfl] at H; exact H
      clear H
      have H := H1
      clear H1
      replace H := Option.bind_eq_some_iff.mp H
      obtain ⟨t363, A100, H⟩ := H
      replace H : (impl_crossed.j0 k (!t363) a0_0 a0_1 a0_2 a0_3 a1_0 a1_1 a1_2 a1_3) = some (r1, r2, r3, r4, r5, r6, r7) := H
      have A10 := Aside0.mk A100
      clear A100
      have H' := Aside0.mk H
      clear H
      have hnb11 := NB358_359.out
      have hnc11 := NB359_358.out
      have hnb12 := NB358_360.out
      have hnc12 := NB360_358.out
      have hnb13 := NB358_361.out
      have hnc13 := NB361_358.out
      obtain ⟨hcz14_0, hcz14_1, hcz14_2, hcz14_3, hfz14_0, hfz14_1, hfz14_2, hfz14_3⟩ := cf4_ (w := w7) BK358.out
      go_wp2_with (first | ((with_reducible refine gate_callee (f := 97) rfl ?_); refine goesL_ (some 12) rfl rfl Try.func97 (by kernel_rfl) rfl #[.agg #[.bool a0_0, .int .u64 a0_1, .int .u64 a0_2, .int .i64 a0_3]] rfl mp_ ?_; (with_reducible refine (impl_FracOk.calls a0_0 a0_1 a0_2 a0_3 true _ A8.out).mono ?_); rintro e w15 ⟨rfl, hb⟩; refine ⟨_, rfl, ?_⟩; have n0_ := bb_ (g := gb358) hb; have n1_ := bb_ (g := gb359) hb; have n2_ := bb_ (g := gb360) hb; have n3_ := bb_ (g := gb361) hb; have n4_ := Aside0.mk (below_step bel_ hb); clear BK358; clear BK359; clear BK360; clear BK361; clear HB; have BK358 := n0_; have BK359 := n1_; have BK360 := n2_; have BK361 := n3_; have HB := n4_; clear n0_ n1_ n2_ n3_ n4_; (try clear hb); (try clear hb2); (try clear hk); (try clear hi); have hnb16 := NB359_360.out; have hnc16 := NB360_359.out; have hnb17 := NB359_361.out; have hnc17 := NB361_359.out; obtain ⟨hcz18_0, hcz18_1, hcz18_2, hcz18_3, hfz18_0, hfz18_1, hfz18_2, hfz18_3⟩ := cf4_ (w := w15) BK359.out) | (go_at_call 97; (with_reducible refine (impl_FracOk.calls a1_0 a1_1 a1_2 a1_3 t363 _ A10.out).mono ?_); rintro e w19 ⟨rfl, hb⟩; have n0_ := bb_ (g := gb358) hb; have n1_ := bb_ (g := gb359) hb; have n2_ := bb_ (g := gb360) hb; have n3_ := bb_ (g := gb361) hb; have n4_ := Aside0.mk (below_step bel_ hb); clear BK358; clear BK359; clear BK360; clear BK361; clear HB; have BK358 := n0_; have BK359 := n1_; have BK360 := n2_; have BK361 := n3_; have HB := n4_; clear n0_ n1_ n2_ n3_ n4_; (try clear hb); (try clear hb2); (try clear hk); (try clear hi)))
      go_meet
      case rel => exact ⟨_, (!t363), (by first | rfl | (simp; done) | (simp [*]; done)), H', ⟨by first | omega | exact Nat.le_refl _⟩, ⟨by (with_reducible repeat (first | refine bN_ _ ?_ | refine bd_ ?_ | refine ba_ _ ?_)); exact BK358.out⟩, ⟨by (with_reducible repeat (first | refine bN_ _ ?_ | refine bd_ ?_ | refine ba_ _ ?_)); exact BK359.out⟩, ⟨by (with_reducible repeat (first | refine bN_ _ ?_ | refine bd_ ?_ | refine ba_ _ ?_)); exact BK360.out⟩, ⟨by (with_reducible repeat (first | refine bN_ _ ?_ | refine bd_ ?_ | refine ba_ _ ?_)); exact BK361.out⟩, ⟨bel_⟩⟩
    · replace c9 := Bool.eq_false_iff.mpr c9
      subst c9
      have H1 : (impl_crossed.j0 k true a0_0 a0_1 a0_2 a0_3 a1_0 a1_1 a1_2 a1_3) = some (r1, r2, r3, r4, r5, r6, r7) := by rw [if_neg (show ¬ (false = true) by decide)] at H; exact H
      clear H
      have H := H1
      clear H1
      have H' := Aside0.mk H
      clear H
      have hnb20 := NB358_359.out
      have hnc20 := NB359_358.out
      have hnb21 := NB358_360.out
      have hnc21 := NB360_358.out
      have hnb22 := NB358_361.out
      have hnc22 := NB361_358.out
      obtain ⟨hcz23_0, hcz23_1, hcz23_2, hcz23_3, hfz23_0, hfz23_1, hfz23_2, hfz23_3⟩ := cf4_ (w := w7) BK358.out
      go_wp2_with (first | ((with_reducible refine gate_callee (f := 97) rfl ?_); refine goesL_ (some 12) rfl rfl Try.func97 (by kernel_rfl) rfl #[.agg #[.bool a0_0, .int .u64 a0_1, .int .u64 a0_2, .int .i64 a0_3]] rfl mp_ ?_; (with_reducible refine (impl_FracOk.calls a0_0 a0_1 a0_2 a0_3 false _ A8.out).mono ?_); rintro e w24 ⟨rfl, hb⟩; refine ⟨_, rfl, ?_⟩; have n0_ := bb_ (g := gb358) hb; have n1_ := bb_ (g := gb359) hb; have n2_ := bb_ (g := gb360) hb; have n3_ := bb_ (g := gb361) hb; have n4_ := Aside0.mk (below_step bel_ hb); clear BK358; clear BK359; clear BK360; clear BK361; clear HB; have BK358 := n0_; have BK359 := n1_; have BK360 := n2_; have BK361 := n3_; have HB := n4_; clear n0_ n1_ n2_ n3_ n4_; (try clear hb); (try clear hb2); (try clear hk); (try clear hi)))
      go_meet
      case rel => exact ⟨_, (true), (by first | rfl | (simp; done) | (simp [*]; done)), H', ⟨by first | omega | exact Nat.le_refl _⟩, ⟨by (with_reducible repeat (first | refine bN_ _ ?_ | refine bd_ ?_ | refine ba_ _ ?_)); exact BK358.out⟩, ⟨by (with_reducible repeat (first | refine bN_ _ ?_ | refine bd_ ?_ | refine ba_ _ ?_)); exact BK359.out⟩, ⟨by (with_reducible repeat (first | refine bN_ _ ?_ | refine bd_ ?_ | refine ba_ _ ?_)); exact BK360.out⟩, ⟨by (with_reducible repeat (first | refine bN_ _ ?_ | refine bd_ ?_ | refine ba_ _ ?_)); exact BK361.out⟩, ⟨bel_⟩⟩
  case rest =>
    clear HC3
    try clear c1
    try clear c2
    try clear p2
    try clear c8
    try clear c9
    try clear c11
    try clear c12
    try clear c13
    try clear c16
    try clear c17
    try clear c20
    try clear c21
    try clear c22
    try clear hcz14_0
    try clear hcz14_1
    try clear hcz14_2
    try clear hcz14_3
    try clear hcz18_0
    try clear hcz18_1
    try clear hcz18_2
    try clear hcz18_3
    try clear hcz23_0
    try clear hcz23_1
    try clear hcz23_2
    try clear hcz23_3
    try clear hfz14_0
    try clear hfz14_1
    try clear hfz14_2
    try clear hfz14_3
    try clear hfz18_0
    try clear hfz18_1
    try clear hfz18_2
    try clear hfz18_3
    try clear hfz23_0
    try clear hfz23_1
    try clear hfz23_2
    try clear hfz23_3
    obtain ⟨kq, x18_2, rfl, HA, HJ2, BK358, BK359, BK360, BK361, HB⟩ := hcut
    cases kq with
    | zero => exact absurd HA.out (by simp [impl_crossed.j0])
    | succ kj2 =>
      have H := HA.out
      clear HA
      simp only [impl_crossed.j0] at H
      by_cases c25 : x18_2 = true
      · subst c25
        have H1 : (some (false, 0, 0, false, 0, 0, false)) = some (r1, r2, r3, r4, r5, r6, r7) := by rw [if_pos rfl] at H; exact H
        clear H
        have H := H1
        clear H1
        simp only [Option.some.injEq, Prod.mk.injEq] at H
        obtain ⟨rfl, rfl, rfl, rfl, rfl, rfl, rfl⟩ := H
        have hnb26 := NB360_358.out
        have hnc26 := NB358_360.out
        have hnb27 := NB360_359.out
        have hnc27 := NB359_360.out
        have hnb28 := NB360_361.out
        have hnc28 := NB361_360.out
        obtain ⟨hcz29_0, hcz29_1, hcz29_2, hfz29_0, hfz29_1, hfz29_2⟩ := cf3_ (w := wc) BK360.out
        have hnb30 := NB361_358.out
        have hnc30 := NB358_361.out
        have hnb31 := NB361_359.out
        have hnc31 := NB359_361.out
        obtain ⟨hcz32_0, hcz32_1, hcz32_2, hfz32_0, hfz32_1, hfz32_2⟩ := cf3_ (w := wc) BK361.out
        go_wp2
        refine bodyPost_ret (results_list (rs := [.cell 4 25, .cell 5 25, .tmp 6]) rfl (by simp) (.cell gb360 25 #[.bool false, .int .u64 0, .int .u64 0] (0, 0) _ rfl (pu_ #[.bool false, .int .u64 0, .int .u64 0] 2 (h := (pu_ #[.bool false, .int .u64 0, .int .u64 0] 1 (h := (pu_ #[.bool false, .int .u64 0, .int .u64 0] 0 (h := bk_)))))) Try.underlying25 rfl (by kernel_rfl) (.cell gb361 25 #[.bool false, .int .u64 0, .int .u64 0] (0, 0) _ rfl (pu_ #[.bool false, .int .u64 0, .int .u64 0] 2 (h := (pu_ #[.bool false, .int .u64 0, .int .u64 0] 1 (h := (pu_ #[.bool false, .int .u64 0, .int .u64 0] 0 (h := bk_)))))) Try.underlying25 rfl (by kernel_rfl) (.tmp .nil)))) rfl ?_
        exact ⟨rf_, bel_⟩
      · replace c25 := Bool.eq_false_iff.mpr c25
        subst c25
        have H1 : ((impl_ScaleWide.f a0_0 a0_1 a0_2 a1_3).bind fun bt364 => ((impl_ScaleWide.f a1_0 a1_1 a1_2 a0_3).bind fun bt369 => (if bt364.2.2.2 = true then (some (bt364.1, bt364.2.1, bt364.2.2.1, bt369.1, bt369.2.1, bt369.2.2.1, bt369.2.2.2)) else (some (bt364.1, bt364.2.1, bt364.2.2.1, bt369.1, bt369.2.1, bt369.2.2.1, false))))) = some (r1, r2, r3, r4, r5, r6, r7) := by rw [if_neg (show ¬ (false = true) by decide)] at H; exact H
        clear H
        have H := H1
        clear H1
        replace H := Option.bind_eq_some_iff.mp H
        obtain ⟨⟨t364, t365, t366, t367⟩, A330, H⟩ := H
        replace H : ((impl_ScaleWide.f a1_0 a1_1 a1_2 a0_3).bind fun bt369 => (if t367 = true then (some (t364, t365, t366, bt369.1, bt369.2.1, bt369.2.2.1, bt369.2.2.2)) else (some (t364, t365, t366, bt369.1, bt369.2.1, bt369.2.2.1, false)))) = some (r1, r2, r3, r4, r5, r6, r7) := H
        have A33 := Aside0.mk A330
        clear A330
        replace H := Option.bind_eq_some_iff.mp H
        obtain ⟨⟨t369, t370, t371, t372⟩, A340, H⟩ := H
        replace H : (if t367 = true then (some (t364, t365, t366, t369, t370, t371, t372)) else (some (t364, t365, t366, t369, t370, t371, false))) = some (r1, r2, r3, r4, r5, r6, r7) := H
        have A34 := Aside0.mk A340
        clear A340
        by_cases c35 : t367 = true
        · subst c35
          have H1 : (some (t364, t365, t366, t369, t370, t371, t372)) = some (r1, r2, r3, r4, r5, r6, r7) := by rw [if_pos rfl] at H; exact H
          clear H
          have H := H1
          clear H1
          simp only [Option.some.injEq, Prod.mk.injEq] at H
          obtain ⟨rfl, rfl, rfl, rfl, rfl, rfl, rfl⟩ := H
          have hnb36 := NB358_359.out
          have hnc36 := NB359_358.out
          have hnb37 := NB358_360.out
          have hnc37 := NB360_358.out
          have hnb38 := NB358_361.out
          have hnc38 := NB361_358.out
          obtain ⟨hcz39_0, hcz39_1, hcz39_2, hcz39_3, hfz39_0, hfz39_1, hfz39_2, hfz39_3⟩ := cf4_ (w := wc) BK358.out
          have hnb40 := NB359_360.out
          have hnc40 := NB360_359.out
          have hnb41 := NB359_361.out
          have hnc41 := NB361_359.out
          obtain ⟨hcz42_0, hcz42_1, hcz42_2, hcz42_3, hfz42_0, hfz42_1, hfz42_2, hfz42_3⟩ := cf4_ (w := wc) BK359.out
          try go_wp2_with (first | ((with_reducible refine gate_callee (f := 98) rfl ?_); refine goesL_ (some 26) rfl rfl Try.func98 (by kernel_rfl) rfl #[.agg #[.bool a0_0, .int .u64 a0_1, .int .u64 a0_2], .int .i64 a1_3] rfl mp_ ?_; (with_reducible refine (impl_ScaleWide.calls a0_0 a0_1 a0_2 a1_3 t364 t365 t366 true _ A33.out).mono ?_); rintro e w43 ⟨rfl, hb⟩; refine ⟨_, rfl, ?_⟩; have n0_ := bb_ (g := gb358) hb; have n1_ := bb_ (g := gb359) hb; have n2_ := bb_ (g := gb360) hb; have n3_ := bb_ (g := gb361) hb; have n4_ := Aside0.mk (below_step bel_ hb); clear BK358; clear BK359; clear BK360; clear BK361; clear HB; have BK358 := n0_; have BK359 := n1_; have BK360 := n2_; have BK361 := n3_; have HB := n4_; clear n0_ n1_ n2_ n3_ n4_; (try clear hb); (try clear hb2); (try clear hk); (try clear hi)) | ((with_reducible refine gate_dst (N := 7) rfl ?_); refine box_event ?hg (N := 7) ?hd (cs := #[.bool false, .int .u64 0, .int .u64 0]) (t := 25) ?hr ?_; (case hd => rfl); (case hg => rfl); (case hr => first | (go_simp; done) | (go_simp; rfl)); intro gb368 hg w44 hbox hb; have n0_ := bb_ (g := gb358) hb; have n1_ := bb_ (g := gb359) hb; have n2_ := bb_ (g := gb360) hb; have n3_ := bb_ (g := gb361) hb; have n4_ := Aside0.mk (below_step bel_ hb); have n5_ := Aside0.mk (hbox); have n6_ := bs_ (w := w) hg; have n7_ := bs_ (w := w) hg; have n8_ := nlt_ (g := gb358) hg; have n9_ := ngt_ (g := gb358) hg; have n10_ := nlt_ (g := gb359) hg; have n11_ := ngt_ (g := gb359) hg; have n12_ := nlt_ (g := gb360) hg; have n13_ := ngt_ (g := gb360) hg; have n14_ := nlt_ (g := gb361) hg; have n15_ := ngt_ (g := gb361) hg; clear BK358; clear BK359; clear BK360; clear BK361; clear HB; have BK358 := n0_; have BK359 := n1_; have BK360 := n2_; have BK361 := n3_; have HB := n4_; have BK368 := n5_; have GW368 := n6_; have GE368 := n7_; have NB358_368 := n8_; have NB368_358 := n9_; have NB359_368 := n10_; have NB368_359 := n11_; have NB360_368 := n12_; have NB368_360 := n13_; have NB361_368 := n14_; have NB368_361 := n15_; clear n0_ n1_ n2_ n3_ n4_ n5_ n6_ n7_ n8_ n9_ n10_ n11_ n12_ n13_ n14_ n15_; clear hb hbox hg; have hnb45 := NB368_358.out; have hnc45 := NB358_368.out; have hnb46 := NB368_359.out; have hnc46 := NB359_368.out; have hnb47 := NB368_360.out; have hnc47 := NB360_368.out; have hnb48 := NB368_361.out; have hnc48 := NB361_368.out; obtain ⟨hcz49_0, hcz49_1, hcz49_2, hfz49_0, hfz49_1, hfz49_2⟩ := cf3_ (w := w44) BK368.out; obtain ⟨hcz50_0, hcz50_1, hcz50_2, hcz50_3, hfz50_0, hfz50_1, hfz50_2, hfz50_3⟩ := cf4_ (w := w44) BK359.out; obtain ⟨hcz51_0, hcz51_1, hcz51_2, hcz51_3, hfz51_0, hfz51_1, hfz51_2, hfz51_3⟩ := cf4_ (w := w44) BK358.out) | ((with_reducible refine gate_callee (f := 98) rfl ?_); refine goesL_ (some 34) rfl rfl Try.func98 (by kernel_rfl) rfl #[.agg #[.bool a1_0, .int .u64 a1_1, .int .u64 a1_2], .int .i64 a0_3] rfl mp_ ?_; (with_reducible refine (impl_ScaleWide.calls a1_0 a1_1 a1_2 a0_3 t369 t370 t371 t372 _ A34.out).mono ?_); rintro e w52 ⟨rfl, hb⟩; refine ⟨_, rfl, ?_⟩; have n0_ := Aside0.mk (blk_below (g := gb358) (o := .cells #[.bool a0_0, .int .u64 a0_1, .int .u64 a0_2, .int .i64 a0_3] 63 (0, 0)) bk_ hb); have n1_ := Aside0.mk (blk_below (g := gb359) (o := .cells #[.bool a1_0, .int .u64 a1_1, .int .u64 a1_2, .int .i64 a1_3] 63 (0, 0)) bk_ hb); have n2_ := Aside0.mk (blk_below (g := gb360) (o := .cells #[.bool false, .int .u64 0, .int .u64 0] 25 (0, 0)) bk_ hb); have n3_ := Aside0.mk (blk_below (g := gb361) (o := .cells #[.bool false, .int .u64 0, .int .u64 0] 25 (0, 0)) bk_ hb); have n4_ := Aside0.mk (blk_below (g := gb368) (o := .cells #[.bool t364, .int .u64 t365, .int .u64 t366] 25 (0, 0)) (pu_ #[.bool t364, .int .u64 t365, .int .u64 0] 2 (h := (pu_ #[.bool t364, .int .u64 0, .int .u64 0] 1 (h := (pu_ #[.bool false, .int .u64 0, .int .u64 0] 0 (h := bk_)))))) hb); have n5_ := Aside0.mk (below_step bel_ hb); clear BK358; clear BK359; clear BK360; clear BK361; clear BK368; clear HB; have BK358 := n0_; have BK359 := n1_; have BK360 := n2_; have BK361 := n3_; have BK368 := n4_; have HB := n5_; clear n0_ n1_ n2_ n3_ n4_ n5_; (try clear hb); (try clear hb2); (try clear hk); (try clear hi)) | ((with_reducible refine gate_dst (N := 9) rfl ?_); refine box_event ?hg (N := 9) ?hd (cs := #[.bool false, .int .u64 0, .int .u64 0]) (t := 25) ?hr ?_; (case hd => rfl); (case hg => rfl); (case hr => first | (go_simp; done) | (go_simp; rfl)); intro gb373 hg w53 hbox hb; have n0_ := bb_ (g := gb358) hb; have n1_ := bb_ (g := gb359) hb; have n2_ := bb_ (g := gb360) hb; have n3_ := bb_ (g := gb361) hb; have n4_ := bb_ (g := gb368) hb; have n5_ := Aside0.mk (below_step bel_ hb); have n6_ := Aside0.mk (hbox); have n7_ := bs_ (w := w) hg; have n8_ := bs_ (w := w) hg; have n9_ := nlt_ (g := gb358) hg; have n10_ := ngt_ (g := gb358) hg; have n11_ := nlt_ (g := gb359) hg; have n12_ := ngt_ (g := gb359) hg; have n13_ := nlt_ (g := gb360) hg; have n14_ := ngt_ (g := gb360) hg; have n15_ := nlt_ (g := gb361) hg; have n16_ := ngt_ (g := gb361) hg; have n17_ := nlt_ (g := gb368) hg; have n18_ := ngt_ (g := gb368) hg; clear BK358; clear BK359; clear BK360; clear BK361; clear BK368; clear HB; have BK358 := n0_; have BK359 := n1_; have BK360 := n2_; have BK361 := n3_; have BK368 := n4_; have HB := n5_; have BK373 := n6_; have GW373 := n7_; have GE373 := n8_; have NB358_373 := n9_; have NB373_358 := n10_; have NB359_373 := n11_; have NB373_359 := n12_; have NB360_373 := n13_; have NB373_360 := n14_; have NB361_373 := n15_; have NB373_361 := n16_; have NB368_373 := n17_; have NB373_368 := n18_; clear n0_ n1_ n2_ n3_ n4_ n5_ n6_ n7_ n8_ n9_ n10_ n11_ n12_ n13_ n14_ n15_ n16_ n17_ n18_; clear hb hbox hg; have hnb54 := NB373_358.out; have hnc54 := NB358_373.out; have hnb55 := NB373_359.out; have hnc55 := NB359_373.out; have hnb56 := NB373_360.out; have hnc56 := NB360_373.out; have hnb57 := NB373_361.out; have hnc57 := NB361_373.out; have hnb58 := NB373_368.out; have hnc58 := NB368_373.out; obtain ⟨hcz59_0, hcz59_1, hcz59_2, hfz59_0, hfz59_1, hfz59_2⟩ := cf3_ (w := w53) BK373.out))
          have n0_ : Aside0 ((((w53.setCell ⟨gb373, 0, none⟩ (.bool t369)).setCell ⟨gb373, 1, none⟩ (.int .u64 t370)).setCell ⟨gb373, 2, none⟩ (.int .u64 t371)).heap[gb358]? = some (.cells #[.bool a0_0, .int .u64 a0_1, .int .u64 a0_2, .int .i64 a0_3] 63 (0, 0))) := ⟨by (with_reducible repeat (first | refine bN_ _ ?_ | refine bd_ ?_ | refine ba_ _ ?_)); refine blk_far ?_ NB358_373.out _; (with_reducible repeat (first | refine bN_ _ ?_ | refine bd_ ?_ | refine ba_ _ ?_)); refine blk_far ?_ NB358_373.out _; (with_reducible repeat (first | refine bN_ _ ?_ | refine bd_ ?_ | refine ba_ _ ?_)); refine blk_far ?_ NB358_373.out _; (with_reducible repeat (first | refine bN_ _ ?_ | refine bd_ ?_ | refine ba_ _ ?_)); exact BK358.out⟩
          have n1_ : Aside0 ((((w53.setCell ⟨gb373, 0, none⟩ (.bool t369)).setCell ⟨gb373, 1, none⟩ (.int .u64 t370)).setCell ⟨gb373, 2, none⟩ (.int .u64 t371)).heap[gb359]? = some (.cells #[.bool a1_0, .int .u64 a1_1, .int .u64 a1_2, .int .i64 a1_3] 63 (0, 0))) := ⟨by (with_reducible repeat (first | refine bN_ _ ?_ | refine bd_ ?_ | refine ba_ _ ?_)); refine blk_far ?_ NB359_373.out _; (with_reducible repeat (first | refine bN_ _ ?_ | refine bd_ ?_ | refine ba_ _ ?_)); refine blk_far ?_ NB359_373.out _; (with_reducible repeat (first | refine bN_ _ ?_ | refine bd_ ?_ | refine ba_ _ ?_)); refine blk_far ?_ NB359_373.out _; (with_reducible repeat (first | refine bN_ _ ?_ | refine bd_ ?_ | refine ba_ _ ?_)); exact BK359.out⟩
          have n2_ : Aside0 ((((w53.setCell ⟨gb373, 0, none⟩ (.bool t369)).setCell ⟨gb373, 1, none⟩ (.int .u64 t370)).setCell ⟨gb373, 2, none⟩ (.int .u64 t371)).heap[gb360]? = some (.cells #[.bool false, .int .u64 0, .int .u64 0] 25 (0, 0))) := ⟨by (with_reducible repeat (first | refine bN_ _ ?_ | refine bd_ ?_ | refine ba_ _ ?_)); refine blk_far ?_ NB360_373.out _; (with_reducible repeat (first | refine bN_ _ ?_ | refine bd_ ?_ | refine ba_ _ ?_)); refine blk_far ?_ NB360_373.out _; (with_reducible repeat (first | refine bN_ _ ?_ | refine bd_ ?_ | refine ba_ _ ?_)); refine blk_far ?_ NB360_373.out _; (with_reducible repeat (first | refine bN_ _ ?_ | refine bd_ ?_ | refine ba_ _ ?_)); exact BK360.out⟩
          have n3_ : Aside0 ((((w53.setCell ⟨gb373, 0, none⟩ (.bool t369)).setCell ⟨gb373, 1, none⟩ (.int .u64 t370)).setCell ⟨gb373, 2, none⟩ (.int .u64 t371)).heap[gb361]? = some (.cells #[.bool false, .int .u64 0, .int .u64 0] 25 (0, 0))) := ⟨by (with_reducible repeat (first | refine bN_ _ ?_ | refine bd_ ?_ | refine ba_ _ ?_)); refine blk_far ?_ NB361_373.out _; (with_reducible repeat (first | refine bN_ _ ?_ | refine bd_ ?_ | refine ba_ _ ?_)); refine blk_far ?_ NB361_373.out _; (with_reducible repeat (first | refine bN_ _ ?_ | refine bd_ ?_ | refine ba_ _ ?_)); refine blk_far ?_ NB361_373.out _; (with_reducible repeat (first | refine bN_ _ ?_ | refine bd_ ?_ | refine ba_ _ ?_)); exact BK361.out⟩
          have n4_ : Aside0 ((((w53.setCell ⟨gb373, 0, none⟩ (.bool t369)).setCell ⟨gb373, 1, none⟩ (.int .u64 t370)).setCell ⟨gb373, 2, none⟩ (.int .u64 t371)).heap[gb368]? = some (.cells #[.bool t364, .int .u64 t365, .int .u64 t366] 25 (0, 0))) := ⟨by (with_reducible repeat (first | refine bN_ _ ?_ | refine bd_ ?_ | refine ba_ _ ?_)); refine blk_far ?_ NB368_373.out _; (with_reducible repeat (first | refine bN_ _ ?_ | refine bd_ ?_ | refine ba_ _ ?_)); refine blk_far ?_ NB368_373.out _; (with_reducible repeat (first | refine bN_ _ ?_ | refine bd_ ?_ | refine ba_ _ ?_)); refine blk_far ?_ NB368_373.out _; (with_reducible repeat (first | refine bN_ _ ?_ | refine bd_ ?_ | refine ba_ _ ?_)); exact BK368.out⟩
          have n5_ : Aside0 ((((w53.setCell ⟨gb373, 0, none⟩ (.bool t369)).setCell ⟨gb373, 1, none⟩ (.int .u64 t370)).setCell ⟨gb373, 2, none⟩ (.int .u64 t371)).heap[gb373]? = some (.cells #[.bool t369, .int .u64 t370, .int .u64 t371] 25 (0, 0))) := ⟨by (with_reducible repeat (first | refine bN_ _ ?_ | refine bd_ ?_ | refine ba_ _ ?_)); refine blk_put (cs := #[.bool t369, .int .u64 t370, .int .u64 0]) ?_ 2 _ rfl; (with_reducible repeat (first | refine bN_ _ ?_ | refine bd_ ?_ | refine ba_ _ ?_)); refine blk_put (cs := #[.bool t369, .int .u64 0, .int .u64 0]) ?_ 1 _ rfl; (with_reducible repeat (first | refine bN_ _ ?_ | refine bd_ ?_ | refine ba_ _ ?_)); refine blk_put (cs := #[.bool false, .int .u64 0, .int .u64 0]) ?_ 0 _ rfl; (with_reducible repeat (first | refine bN_ _ ?_ | refine bd_ ?_ | refine ba_ _ ?_)); exact BK373.out⟩
          have n6_ : Aside0 (Below w.heap.size w (((w53.setCell ⟨gb373, 0, none⟩ (.bool t369)).setCell ⟨gb373, 1, none⟩ (.int .u64 t370)).setCell ⟨gb373, 2, none⟩ (.int .u64 t371))) := ⟨bel_⟩
          (try clear BK358)
          (try clear BK359)
          (try clear BK360)
          (try clear BK361)
          (try clear BK368)
          (try clear BK373)
          (try clear HB)
          generalize (((w53.setCell ⟨gb373, 0, none⟩ (.bool t369)).setCell ⟨gb373, 1, none⟩ (.int .u64 t370)).setCell ⟨gb373, 2, none⟩ (.int .u64 t371)) = w60 at n0_ n1_ n2_ n3_ n4_ n5_ n6_ ⊢
          have BK358 := n0_
          have BK359 := n1_
          have BK360 := n2_
          have BK361 := n3_
          have BK368 := n4_
          have BK373 := n5_
          have HB := n6_
          clear n0_ n1_ n2_ n3_ n4_ n5_ n6_
          have n0_ := Aside0.mk (blk_drew BK358.out)
          have n1_ := Aside0.mk (blk_drew BK359.out)
          have n2_ := Aside0.mk (blk_drew BK360.out)
          have n3_ := Aside0.mk (blk_drew BK361.out)
          have n4_ := Aside0.mk (blk_drew BK368.out)
          have n5_ := Aside0.mk (blk_drew BK373.out)
          have n6_ := Aside0.mk (below_drew1 HB.out)
          clear BK358
          clear BK359
          clear BK360
          clear BK361
          clear BK368
          clear BK373
          clear HB
          have BK358 := n0_
          have BK359 := n1_
          have BK360 := n2_
          have BK361 := n3_
          have BK368 := n4_
          have BK373 := n5_
          have HB := n6_
          clear n0_ n1_ n2_ n3_ n4_ n5_ n6_
          refine start_ (n := 9) (S := fun w' => w'.cell? ⟨gb368, 0, none⟩ = some (.bool t364) ∧ w'.cell? ⟨gb368, 1, none⟩ = some (.int .u64 t365) ∧ w'.cell? ⟨gb368, 2, none⟩ = some (.int .u64 t366) ∧ w'.cell? ⟨gb373, 0, none⟩ = some (.bool t369) ∧ w'.cell? ⟨gb373, 1, none⟩ = some (.int .u64 t370) ∧ w'.cell? ⟨gb373, 2, none⟩ = some (.int .u64 t371)) (ds := []) #[false, false, false, false, false, false, false, false, false] (by kernel_rfl) rfl rfl ⟨bc_, bc_, bc_, bc_, bc_, bc_⟩ (fun hHeld => ?_); refine with_tabW impl_crossed.tab5 impl_crossed.bits5 (fun HT_ HW_ => ?_)
          generalize w60.drew = w61 at BK358 BK359 BK360 BK361 BK368 BK373 HB hHeld ⊢
          refine pure_ (i := 2) (N := some 39) (v := ?_) (a' := ?_) #[false, false, true, false, false, false, false, false, false] rfl rfl (any_of HT_.out (by kernel_rfl)) (fun _ _ _ h => h) (Or.inl ⟨by rfl, ?_⟩) ?_ ?_
          rotate_left
          · intro w'
            go_simp
            with_reducible rfl
          rotate_left
          · simp only [Act.put, la_, lb_, lc_, i64_w, i32_w]
            rfl
          refine pure_ (i := 3) (N := some 40) (v := ?_) (a' := ?_) #[false, false, true, true, false, false, false, false, false] rfl rfl (any_of HT_.out (by kernel_rfl)) (fun _ _ _ h => h) (Or.inl ⟨by rfl, ?_⟩) ?_ ?_
          rotate_left
          · intro w'
            go_simp
            with_reducible rfl
          rotate_left
          · simp only [Act.put, la_, lb_, lc_, i64_w, i32_w]
            rfl
          refine pure_ (i := 4) (N := some 41) (v := ?_) (a' := ?_) #[false, false, true, true, true, false, false, false, false] rfl rfl (any_of HT_.out (by kernel_rfl)) (fun _ _ _ h => h) (Or.inl ⟨by rfl, ?_⟩) ?_ ?_
          rotate_left
          · intro w'
            go_simp
            with_reducible rfl
          rotate_left
          · simp only [Act.put, la_, lb_, lc_, i64_w, i32_w]
            rfl
          refine pure_ (i := 5) (N := some 42) (v := ?_) (a' := ?_) #[false, false, true, true, true, true, false, false, false] rfl rfl (any_of HT_.out (by kernel_rfl)) (fun _ _ _ h => h) (Or.inl ⟨by rfl, ?_⟩) ?_ ?_
          rotate_left
          · intro w'
            go_simp
            with_reducible rfl
          rotate_left
          · simp only [Act.put, la_, lb_, lc_, i64_w, i32_w]
            rfl
          refine take_ (i := 0) (N := some 37) (v := ?_) (a' := ?_) #[true, false, true, true, true, true, false, false, false] rfl rfl (take_ofW HT_.out HW_.out (by kernel_rfl)) (fun _ _ _ h => h) (Or.inl ⟨by rfl, ?_⟩) hHeld ?_ ?_
          rotate_left
          · rintro w' ⟨s0, s1, s2, s3, s4, s5⟩
            go_simp
            with_reducible rfl
          rotate_left
          · simp only [Act.put, la_, lb_, lc_, i64_w, i32_w]
            rfl
          refine take_ (i := 1) (N := some 38) (v := ?_) (a' := ?_) #[true, true, true, true, true, true, false, false, false] rfl rfl (take_ofW HT_.out HW_.out (by kernel_rfl)) (fun _ _ _ h => h) (Or.inl ⟨by rfl, ?_⟩) hHeld ?_ ?_
          rotate_left
          · rintro w' ⟨s0, s1, s2, s3, s4, s5⟩
            go_simp
            with_reducible rfl
          rotate_left
          · simp only [Act.put, la_, lb_, lc_, i64_w, i32_w]
            rfl
          refine one_ (i := 6) (N := none) #[true, true, true, true, true, true, true, false, false] rfl rfl (one_of HT_.out (by kernel_rfl)) (by decide) (fun K hK => ?_)
          have hs62 : w61.cell? ⟨gb360, 0, none⟩ = some (.bool false) := (blk_cell BK360.out 0).trans rfl
          have hfs62 := blk_frozen BK360.out 0
          have hns62_0 := NB358_360.out
          have hns62_1 := NB359_360.out
          have hns62_3 := NB361_360.out
          have hns62_4 := NB368_360.out
          have hns62_5 := NB373_360.out
          have hms62_0 := NB360_358.out
          have hms62_1 := NB360_359.out
          have hms62_3 := NB360_361.out
          have hms62_4 := NB360_368.out
          have hms62_5 := NB360_373.out
          have hs63 : w61.cell? ⟨gb360, 1, none⟩ = some (.int .u64 0) := (blk_cell BK360.out 1).trans rfl
          have hfs63 := blk_frozen BK360.out 1
          have hns63_0 := NB358_360.out
          have hns63_1 := NB359_360.out
          have hns63_3 := NB361_360.out
          have hns63_4 := NB368_360.out
          have hns63_5 := NB373_360.out
          have hms63_0 := NB360_358.out
          have hms63_1 := NB360_359.out
          have hms63_3 := NB360_361.out
          have hms63_4 := NB360_368.out
          have hms63_5 := NB360_373.out
          have hs64 : w61.cell? ⟨gb360, 2, none⟩ = some (.int .u64 0) := (blk_cell BK360.out 2).trans rfl
          have hfs64 := blk_frozen BK360.out 2
          have hns64_0 := NB358_360.out
          have hns64_1 := NB359_360.out
          have hns64_3 := NB361_360.out
          have hns64_4 := NB368_360.out
          have hns64_5 := NB373_360.out
          have hms64_0 := NB360_358.out
          have hms64_1 := NB360_359.out
          have hms64_3 := NB360_361.out
          have hms64_4 := NB360_368.out
          have hms64_5 := NB360_373.out
          refine skip_ (w1 := ?_) (by rfl) rfl ?_ ?_
          rotate_left
          · go_simp
            rfl
          refine hK.out _ _ ⟨(cfar_ hHeld.1), (cfar_ hHeld.2.1), (cfar_ hHeld.2.2.1), (cfar_ hHeld.2.2.2.1), (cfar_ hHeld.2.2.2.2.1), (cfar_ hHeld.2.2.2.2.2)⟩ (fun hHeld => ?_)
          clear hK K
          refine one_ (i := 7) (N := none) #[true, true, true, true, true, true, true, true, false] rfl rfl (one_of HT_.out (by kernel_rfl)) (by decide) (fun K hK => ?_)
          have hs65 : w61.cell? ⟨gb361, 0, none⟩ = some (.bool false) := (blk_cell BK361.out 0).trans rfl
          have hfs65 := blk_frozen BK361.out 0
          have hns65_0 := NB358_361.out
          have hns65_1 := NB359_361.out
          have hns65_2 := NB360_361.out
          have hns65_4 := NB368_361.out
          have hns65_5 := NB373_361.out
          have hms65_0 := NB361_358.out
          have hms65_1 := NB361_359.out
          have hms65_2 := NB361_360.out
          have hms65_4 := NB361_368.out
          have hms65_5 := NB361_373.out
          have hs66 : w61.cell? ⟨gb361, 1, none⟩ = some (.int .u64 0) := (blk_cell BK361.out 1).trans rfl
          have hfs66 := blk_frozen BK361.out 1
          have hns66_0 := NB358_361.out
          have hns66_1 := NB359_361.out
          have hns66_2 := NB360_361.out
          have hns66_4 := NB368_361.out
          have hns66_5 := NB373_361.out
          have hms66_0 := NB361_358.out
          have hms66_1 := NB361_359.out
          have hms66_2 := NB361_360.out
          have hms66_4 := NB361_368.out
          have hms66_5 := NB361_373.out
          have hs67 : w61.cell? ⟨gb361, 2, none⟩ = some (.int .u64 0) := (blk_cell BK361.out 2).trans rfl
          have hfs67 := blk_frozen BK361.out 2
          have hns67_0 := NB358_361.out
          have hns67_1 := NB359_361.out
          have hns67_2 := NB360_361.out
          have hns67_4 := NB368_361.out
          have hns67_5 := NB373_361.out
          have hms67_0 := NB361_358.out
          have hms67_1 := NB361_359.out
          have hms67_2 := NB361_360.out
          have hms67_4 := NB361_368.out
          have hms67_5 := NB361_373.out
          refine skip_ (w1 := ?_) (by rfl) rfl ?_ ?_
          rotate_left
          · go_simp
            rfl
          refine hK.out _ _ ⟨(cfar_ hHeld.1), (cfar_ hHeld.2.1), (cfar_ hHeld.2.2.1), (cfar_ hHeld.2.2.2.1), (cfar_ hHeld.2.2.2.2.1), (cfar_ hHeld.2.2.2.2.2)⟩ (fun hHeld => ?_)
          clear hK K
          refine pure_ (i := 8) (N := some 6) (v := ?_) (a' := ?_) #[true, true, true, true, true, true, true, true, true] rfl rfl (any_of HT_.out (by kernel_rfl)) (fun _ _ _ h => h) (Or.inl ⟨by rfl, ?_⟩) ?_ ?_
          rotate_left
          · intro w'
            go_simp
            with_reducible rfl
          rotate_left
          · simp only [Act.put, la_, lb_, lc_, i64_w, i32_w]
            rfl
          refine done_ (done_of HT_.out (by kernel_rfl)) ?_
          try go_wp2
          refine bodyPost_ret (results_list (rs := [.cell 4 25, .cell 5 25, .tmp 6]) rfl (by simp) (.cell gb360 25 #[.bool t364, .int .u64 t365, .int .u64 t366] (0, 0) _ rfl (pu_ #[.bool t364, .int .u64 t365, .int .u64 0] 2 (h := (pu_ #[.bool t364, .int .u64 0, .int .u64 0] 1 (h := (pu_ #[.bool false, .int .u64 0, .int .u64 0] 0 (h := bk_)))))) Try.underlying25 rfl (by kernel_rfl) (.cell gb361 25 #[.bool t369, .int .u64 t370, .int .u64 t371] (0, 0) _ rfl (pu_ #[.bool t369, .int .u64 t370, .int .u64 0] 2 (h := (pu_ #[.bool t369, .int .u64 0, .int .u64 0] 1 (h := (pu_ #[.bool false, .int .u64 0, .int .u64 0] 0 (h := bk_)))))) Try.underlying25 rfl (by kernel_rfl) (.tmp .nil)))) rfl ?_
          exact ⟨rf_, bel_⟩
        · replace c35 := Bool.eq_false_iff.mpr c35
          subst c35
          have H1 : (some (t364, t365, t366, t369, t370, t371, false)) = some (r1, r2, r3, r4, r5, r6, r7) := by rw [if_neg (show ¬ (false = true) by decide)] at H; exact H
          clear H
          have H := H1
          clear H1
          simp only [Option.some.injEq, Prod.mk.injEq] at H
          obtain ⟨rfl, rfl, rfl, rfl, rfl, rfl, rfl⟩ := H
          have hnb68 := NB358_359.out
          have hnc68 := NB359_358.out
          have hnb69 := NB358_360.out
          have hnc69 := NB360_358.out
          have hnb70 := NB358_361.out
          have hnc70 := NB361_358.out
          obtain ⟨hcz71_0, hcz71_1, hcz71_2, hcz71_3, hfz71_0, hfz71_1, hfz71_2, hfz71_3⟩ := cf4_ (w := wc) BK358.out
          have hnb72 := NB359_360.out
          have hnc72 := NB360_359.out
          have hnb73 := NB359_361.out
          have hnc73 := NB361_359.out
          obtain ⟨hcz74_0, hcz74_1, hcz74_2, hcz74_3, hfz74_0, hfz74_1, hfz74_2, hfz74_3⟩ := cf4_ (w := wc) BK359.out
          try go_wp2_with (first | ((with_reducible refine gate_callee (f := 98) rfl ?_); refine goesL_ (some 26) rfl rfl Try.func98 (by kernel_rfl) rfl #[.agg #[.bool a0_0, .int .u64 a0_1, .int .u64 a0_2], .int .i64 a1_3] rfl mp_ ?_; (with_reducible refine (impl_ScaleWide.calls a0_0 a0_1 a0_2 a1_3 t364 t365 t366 false _ A33.out).mono ?_); rintro e w75 ⟨rfl, hb⟩; refine ⟨_, rfl, ?_⟩; have n0_ := bb_ (g := gb358) hb; have n1_ := bb_ (g := gb359) hb; have n2_ := bb_ (g := gb360) hb; have n3_ := bb_ (g := gb361) hb; have n4_ := Aside0.mk (below_step bel_ hb); clear BK358; clear BK359; clear BK360; clear BK361; clear HB; have BK358 := n0_; have BK359 := n1_; have BK360 := n2_; have BK361 := n3_; have HB := n4_; clear n0_ n1_ n2_ n3_ n4_; (try clear hb); (try clear hb2); (try clear hk); (try clear hi)) | ((with_reducible refine gate_dst (N := 7) rfl ?_); refine box_event ?hg (N := 7) ?hd (cs := #[.bool false, .int .u64 0, .int .u64 0]) (t := 25) ?hr ?_; (case hd => rfl); (case hg => rfl); (case hr => first | (go_simp; done) | (go_simp; rfl)); intro gb368 hg w76 hbox hb; have n0_ := bb_ (g := gb358) hb; have n1_ := bb_ (g := gb359) hb; have n2_ := bb_ (g := gb360) hb; have n3_ := bb_ (g := gb361) hb; have n4_ := Aside0.mk (below_step bel_ hb); have n5_ := Aside0.mk (hbox); have n6_ := bs_ (w := w) hg; have n7_ := bs_ (w := w) hg; have n8_ := nlt_ (g := gb358) hg; have n9_ := ngt_ (g := gb358) hg; have n10_ := nlt_ (g := gb359) hg; have n11_ := ngt_ (g := gb359) hg; have n12_ := nlt_ (g := gb360) hg; have n13_ := ngt_ (g := gb360) hg; have n14_ := nlt_ (g := gb361) hg; have n15_ := ngt_ (g := gb361) hg; clear BK358; clear BK359; clear BK360; clear BK361; clear HB; have BK358 := n0_; have BK359 := n1_; have BK360 := n2_; have BK361 := n3_; have HB := n4_; have BK368 := n5_; have GW368 := n6_; have GE368 := n7_; have NB358_368 := n8_; have NB368_358 := n9_; have NB359_368 := n10_; have NB368_359 := n11_; have NB360_368 := n12_; have NB368_360 := n13_; have NB361_368 := n14_; have NB368_361 := n15_; clear n0_ n1_ n2_ n3_ n4_ n5_ n6_ n7_ n8_ n9_ n10_ n11_ n12_ n13_ n14_ n15_; clear hb hbox hg; have hnb77 := NB368_358.out; have hnc77 := NB358_368.out; have hnb78 := NB368_359.out; have hnc78 := NB359_368.out; have hnb79 := NB368_360.out; have hnc79 := NB360_368.out; have hnb80 := NB368_361.out; have hnc80 := NB361_368.out; obtain ⟨hcz81_0, hcz81_1, hcz81_2, hfz81_0, hfz81_1, hfz81_2⟩ := cf3_ (w := w76) BK368.out; obtain ⟨hcz82_0, hcz82_1, hcz82_2, hcz82_3, hfz82_0, hfz82_1, hfz82_2, hfz82_3⟩ := cf4_ (w := w76) BK359.out; obtain ⟨hcz83_0, hcz83_1, hcz83_2, hcz83_3, hfz83_0, hfz83_1, hfz83_2, hfz83_3⟩ := cf4_ (w := w76) BK358.out) | ((with_reducible refine gate_callee (f := 98) rfl ?_); refine goesL_ (some 34) rfl rfl Try.func98 (by kernel_rfl) rfl #[.agg #[.bool a1_0, .int .u64 a1_1, .int .u64 a1_2], .int .i64 a0_3] rfl mp_ ?_; (with_reducible refine (impl_ScaleWide.calls a1_0 a1_1 a1_2 a0_3 t369 t370 t371 t372 _ A34.out).mono ?_); rintro e w84 ⟨rfl, hb⟩; refine ⟨_, rfl, ?_⟩; have n0_ := Aside0.mk (blk_below (g := gb358) (o := .cells #[.bool a0_0, .int .u64 a0_1, .int .u64 a0_2, .int .i64 a0_3] 63 (0, 0)) bk_ hb); have n1_ := Aside0.mk (blk_below (g := gb359) (o := .cells #[.bool a1_0, .int .u64 a1_1, .int .u64 a1_2, .int .i64 a1_3] 63 (0, 0)) bk_ hb); have n2_ := Aside0.mk (blk_below (g := gb360) (o := .cells #[.bool false, .int .u64 0, .int .u64 0] 25 (0, 0)) bk_ hb); have n3_ := Aside0.mk (blk_below (g := gb361) (o := .cells #[.bool false, .int .u64 0, .int .u64 0] 25 (0, 0)) bk_ hb); have n4_ := Aside0.mk (blk_below (g := gb368) (o := .cells #[.bool t364, .int .u64 t365, .int .u64 t366] 25 (0, 0)) (pu_ #[.bool t364, .int .u64 t365, .int .u64 0] 2 (h := (pu_ #[.bool t364, .int .u64 0, .int .u64 0] 1 (h := (pu_ #[.bool false, .int .u64 0, .int .u64 0] 0 (h := bk_)))))) hb); have n5_ := Aside0.mk (below_step bel_ hb); clear BK358; clear BK359; clear BK360; clear BK361; clear BK368; clear HB; have BK358 := n0_; have BK359 := n1_; have BK360 := n2_; have BK361 := n3_; have BK368 := n4_; have HB := n5_; clear n0_ n1_ n2_ n3_ n4_ n5_; (try clear hb); (try clear hb2); (try clear hk); (try clear hi)) | ((with_reducible refine gate_dst (N := 9) rfl ?_); refine box_event ?hg (N := 9) ?hd (cs := #[.bool false, .int .u64 0, .int .u64 0]) (t := 25) ?hr ?_; (case hd => rfl); (case hg => rfl); (case hr => first | (go_simp; done) | (go_simp; rfl)); intro gb373 hg w85 hbox hb; have n0_ := bb_ (g := gb358) hb; have n1_ := bb_ (g := gb359) hb; have n2_ := bb_ (g := gb360) hb; have n3_ := bb_ (g := gb361) hb; have n4_ := bb_ (g := gb368) hb; have n5_ := Aside0.mk (below_step bel_ hb); have n6_ := Aside0.mk (hbox); have n7_ := bs_ (w := w) hg; have n8_ := bs_ (w := w) hg; have n9_ := nlt_ (g := gb358) hg; have n10_ := ngt_ (g := gb358) hg; have n11_ := nlt_ (g := gb359) hg; have n12_ := ngt_ (g := gb359) hg; have n13_ := nlt_ (g := gb360) hg; have n14_ := ngt_ (g := gb360) hg; have n15_ := nlt_ (g := gb361) hg; have n16_ := ngt_ (g := gb361) hg; have n17_ := nlt_ (g := gb368) hg; have n18_ := ngt_ (g := gb368) hg; clear BK358; clear BK359; clear BK360; clear BK361; clear BK368; clear HB; have BK358 := n0_; have BK359 := n1_; have BK360 := n2_; have BK361 := n3_; have BK368 := n4_; have HB := n5_; have BK373 := n6_; have GW373 := n7_; have GE373 := n8_; have NB358_373 := n9_; have NB373_358 := n10_; have NB359_373 := n11_; have NB373_359 := n12_; have NB360_373 := n13_; have NB373_360 := n14_; have NB361_373 := n15_; have NB373_361 := n16_; have NB368_373 := n17_; have NB373_368 := n18_; clear n0_ n1_ n2_ n3_ n4_ n5_ n6_ n7_ n8_ n9_ n10_ n11_ n12_ n13_ n14_ n15_ n16_ n17_ n18_; clear hb hbox hg; have hnb86 := NB373_358.out; have hnc86 := NB358_373.out; have hnb87 := NB373_359.out; have hnc87 := NB359_373.out; have hnb88 := NB373_360.out; have hnc88 := NB360_373.out; have hnb89 := NB373_361.out; have hnc89 := NB361_373.out; have hnb90 := NB373_368.out; have hnc90 := NB368_373.out; obtain ⟨hcz91_0, hcz91_1, hcz91_2, hfz91_0, hfz91_1, hfz91_2⟩ := cf3_ (w := w85) BK373.out))
          have n0_ : Aside0 ((((w85.setCell ⟨gb373, 0, none⟩ (.bool t369)).setCell ⟨gb373, 1, none⟩ (.int .u64 t370)).setCell ⟨gb373, 2, none⟩ (.int .u64 t371)).heap[gb358]? = some (.cells #[.bool a0_0, .int .u64 a0_1, .int .u64 a0_2, .int .i64 a0_3] 63 (0, 0))) := ⟨by (with_reducible repeat (first | refine bN_ _ ?_ | refine bd_ ?_ | refine ba_ _ ?_)); refine blk_far ?_ NB358_373.out _; (with_reducible repeat (first | refine bN_ _ ?_ | refine bd_ ?_ | refine ba_ _ ?_)); refine blk_far ?_ NB358_373.out _; (with_reducible repeat (first | refine bN_ _ ?_ | refine bd_ ?_ | refine ba_ _ ?_)); refine blk_far ?_ NB358_373.out _; (with_reducible repeat (first | refine bN_ _ ?_ | refine bd_ ?_ | refine ba_ _ ?_)); exact BK358.out⟩
          have n1_ : Aside0 ((((w85.setCell ⟨gb373, 0, none⟩ (.bool t369)).setCell ⟨gb373, 1, none⟩ (.int .u64 t370)).setCell ⟨gb373, 2, none⟩ (.int .u64 t371)).heap[gb359]? = some (.cells #[.bool a1_0, .int .u64 a1_1, .int .u64 a1_2, .int .i64 a1_3] 63 (0, 0))) := ⟨by (with_reducible repeat (first | refine bN_ _ ?_ | refine bd_ ?_ | refine ba_ _ ?_)); refine blk_far ?_ NB359_373.out _; (with_reducible repeat (first | refine bN_ _ ?_ | refine bd_ ?_ | refine ba_ _ ?_)); refine blk_far ?_ NB359_373.out _; (with_reducible repeat (first | refine bN_ _ ?_ | refine bd_ ?_ | refine ba_ _ ?_)); refine blk_far ?_ NB359_373.out _; (with_reducible repeat (first | refine bN_ _ ?_ | refine bd_ ?_ | refine ba_ _ ?_)); exact BK359.out⟩
          have n2_ : Aside0 ((((w85.setCell ⟨gb373, 0, none⟩ (.bool t369)).setCell ⟨gb373, 1, none⟩ (.int .u64 t370)).setCell ⟨gb373, 2, none⟩ (.int .u64 t371)).heap[gb360]? = some (.cells #[.bool false, .int .u64 0, .int .u64 0] 25 (0, 0))) := ⟨by (with_reducible repeat (first | refine bN_ _ ?_ | refine bd_ ?_ | refine ba_ _ ?_)); refine blk_far ?_ NB360_373.out _; (with_reducible repeat (first | refine bN_ _ ?_ | refine bd_ ?_ | refine ba_ _ ?_)); refine blk_far ?_ NB360_373.out _; (with_reducible repeat (first | refine bN_ _ ?_ | refine bd_ ?_ | refine ba_ _ ?_)); refine blk_far ?_ NB360_373.out _; (with_reducible repeat (first | refine bN_ _ ?_ | refine bd_ ?_ | refine ba_ _ ?_)); exact BK360.out⟩
          have n3_ : Aside0 ((((w85.setCell ⟨gb373, 0, none⟩ (.bool t369)).setCell ⟨gb373, 1, none⟩ (.int .u64 t370)).setCell ⟨gb373, 2, none⟩ (.int .u64 t371)).heap[gb361]? = some (.cells #[.bool false, .int .u64 0, .int .u64 0] 25 (0, 0))) := ⟨by (with_reducible repeat (first | refine bN_ _ ?_ | refine bd_ ?_ | refine ba_ _ ?_)); refine blk_far ?_ NB361_373.out _; (with_reducible repeat (first | refine bN_ _ ?_ | refine bd_ ?_ | refine ba_ _ ?_)); refine blk_far ?_ NB361_373.out _; (with_reducible repeat (first | refine bN_ _ ?_ | refine bd_ ?_ | refine ba_ _ ?_)); refine blk_far ?_ NB361_373.out _; (with_reducible repeat (first | refine bN_ _ ?_ | refine bd_ ?_ | refine ba_ _ ?_)); exact BK361.out⟩
          have n4_ : Aside0 ((((w85.setCell ⟨gb373, 0, none⟩ (.bool t369)).setCell ⟨gb373, 1, none⟩ (.int .u64 t370)).setCell ⟨gb373, 2, none⟩ (.int .u64 t371)).heap[gb368]? = some (.cells #[.bool t364, .int .u64 t365, .int .u64 t366] 25 (0, 0))) := ⟨by (with_reducible repeat (first | refine bN_ _ ?_ | refine bd_ ?_ | refine ba_ _ ?_)); refine blk_far ?_ NB368_373.out _; (with_reducible repeat (first | refine bN_ _ ?_ | refine bd_ ?_ | refine ba_ _ ?_)); refine blk_far ?_ NB368_373.out _; (with_reducible repeat (first | refine bN_ _ ?_ | refine bd_ ?_ | refine ba_ _ ?_)); refine blk_far ?_ NB368_373.out _; (with_reducible repeat (first | refine bN_ _ ?_ | refine bd_ ?_ | refine ba_ _ ?_)); exact BK368.out⟩
          have n5_ : Aside0 ((((w85.setCell ⟨gb373, 0, none⟩ (.bool t369)).setCell ⟨gb373, 1, none⟩ (.int .u64 t370)).setCell ⟨gb373, 2, none⟩ (.int .u64 t371)).heap[gb373]? = some (.cells #[.bool t369, .int .u64 t370, .int .u64 t371] 25 (0, 0))) := ⟨by (with_reducible repeat (first | refine bN_ _ ?_ | refine bd_ ?_ | refine ba_ _ ?_)); refine blk_put (cs := #[.bool t369, .int .u64 t370, .int .u64 0]) ?_ 2 _ rfl; (with_reducible repeat (first | refine bN_ _ ?_ | refine bd_ ?_ | refine ba_ _ ?_)); refine blk_put (cs := #[.bool t369, .int .u64 0, .int .u64 0]) ?_ 1 _ rfl; (with_reducible repeat (first | refine bN_ _ ?_ | refine bd_ ?_ | refine ba_ _ ?_)); refine blk_put (cs := #[.bool false, .int .u64 0, .int .u64 0]) ?_ 0 _ rfl; (with_reducible repeat (first | refine bN_ _ ?_ | refine bd_ ?_ | refine ba_ _ ?_)); exact BK373.out⟩
          have n6_ : Aside0 (Below w.heap.size w (((w85.setCell ⟨gb373, 0, none⟩ (.bool t369)).setCell ⟨gb373, 1, none⟩ (.int .u64 t370)).setCell ⟨gb373, 2, none⟩ (.int .u64 t371))) := ⟨bel_⟩
          (try clear BK358)
          (try clear BK359)
          (try clear BK360)
          (try clear BK361)
          (try clear BK368)
          (try clear BK373)
          (try clear HB)
          generalize (((w85.setCell ⟨gb373, 0, none⟩ (.bool t369)).setCell ⟨gb373, 1, none⟩ (.int .u64 t370)).setCell ⟨gb373, 2, none⟩ (.int .u64 t371)) = w92 at n0_ n1_ n2_ n3_ n4_ n5_ n6_ ⊢
          have BK358 := n0_
          have BK359 := n1_
          have BK360 := n2_
          have BK361 := n3_
          have BK368 := n4_
          have BK373 := n5_
          have HB := n6_
          clear n0_ n1_ n2_ n3_ n4_ n5_ n6_
          have n0_ := Aside0.mk (blk_drew BK358.out)
          have n1_ := Aside0.mk (blk_drew BK359.out)
          have n2_ := Aside0.mk (blk_drew BK360.out)
          have n3_ := Aside0.mk (blk_drew BK361.out)
          have n4_ := Aside0.mk (blk_drew BK368.out)
          have n5_ := Aside0.mk (blk_drew BK373.out)
          have n6_ := Aside0.mk (below_drew1 HB.out)
          clear BK358
          clear BK359
          clear BK360
          clear BK361
          clear BK368
          clear BK373
          clear HB
          have BK358 := n0_
          have BK359 := n1_
          have BK360 := n2_
          have BK361 := n3_
          have BK368 := n4_
          have BK373 := n5_
          have HB := n6_
          clear n0_ n1_ n2_ n3_ n4_ n5_ n6_
          refine start_ (n := 9) (S := fun w' => w'.cell? ⟨gb368, 0, none⟩ = some (.bool t364) ∧ w'.cell? ⟨gb368, 1, none⟩ = some (.int .u64 t365) ∧ w'.cell? ⟨gb368, 2, none⟩ = some (.int .u64 t366) ∧ w'.cell? ⟨gb373, 0, none⟩ = some (.bool t369) ∧ w'.cell? ⟨gb373, 1, none⟩ = some (.int .u64 t370) ∧ w'.cell? ⟨gb373, 2, none⟩ = some (.int .u64 t371)) (ds := []) #[false, false, false, false, false, false, false, false, false] (by kernel_rfl) rfl rfl ⟨bc_, bc_, bc_, bc_, bc_, bc_⟩ (fun hHeld => ?_); refine with_tabW impl_crossed.tab5 impl_crossed.bits5 (fun HT_ HW_ => ?_)
          generalize w92.drew = w93 at BK358 BK359 BK360 BK361 BK368 BK373 HB hHeld ⊢
          refine pure_ (i := 2) (N := some 39) (v := ?_) (a' := ?_) #[false, false, true, false, false, false, false, false, false] rfl rfl (any_of HT_.out (by kernel_rfl)) (fun _ _ _ h => h) (Or.inl ⟨by rfl, ?_⟩) ?_ ?_
          rotate_left
          · intro w'
            go_simp
            with_reducible rfl
          rotate_left
          · simp only [Act.put, la_, lb_, lc_, i64_w, i32_w]
            rfl
          refine pure_ (i := 3) (N := some 40) (v := ?_) (a' := ?_) #[false, false, true, true, false, false, false, false, false] rfl rfl (any_of HT_.out (by kernel_rfl)) (fun _ _ _ h => h) (Or.inl ⟨by rfl, ?_⟩) ?_ ?_
          rotate_left
          · intro w'
            go_simp
            with_reducible rfl
          rotate_left
          · simp only [Act.put, la_, lb_, lc_, i64_w, i32_w]
            rfl
          refine pure_ (i := 4) (N := some 41) (v := undef) (a' := ?_) #[false, false, true, true, true, false, false, false, false] rfl rfl (any_of HT_.out (by kernel_rfl)) (fun _ _ _ h => h) (Or.inr ⟨by rfl, rfl⟩) ?_ ?_
          rotate_left
          · simp only [Act.put, la_, lb_, lc_, i64_w, i32_w]
            rfl
          refine pure_ (i := 5) (N := some 42) (v := ?_) (a' := ?_) #[false, false, true, true, true, true, false, false, false] rfl rfl (any_of HT_.out (by kernel_rfl)) (fun _ _ _ h => h) (Or.inl ⟨by rfl, ?_⟩) ?_ ?_
          rotate_left
          · intro w'
            go_simp
            with_reducible rfl
          rotate_left
          · simp only [Act.put, la_, lb_, lc_, i64_w, i32_w]
            rfl
          refine take_ (i := 0) (N := some 37) (v := ?_) (a' := ?_) #[true, false, true, true, true, true, false, false, false] rfl rfl (take_ofW HT_.out HW_.out (by kernel_rfl)) (fun _ _ _ h => h) (Or.inl ⟨by rfl, ?_⟩) hHeld ?_ ?_
          rotate_left
          · rintro w' ⟨s0, s1, s2, s3, s4, s5⟩
            go_simp
            with_reducible rfl
          rotate_left
          · simp only [Act.put, la_, lb_, lc_, i64_w, i32_w]
            rfl
          refine take_ (i := 1) (N := some 38) (v := ?_) (a' := ?_) #[true, true, true, true, true, true, false, false, false] rfl rfl (take_ofW HT_.out HW_.out (by kernel_rfl)) (fun _ _ _ h => h) (Or.inl ⟨by rfl, ?_⟩) hHeld ?_ ?_
          rotate_left
          · rintro w' ⟨s0, s1, s2, s3, s4, s5⟩
            go_simp
            with_reducible rfl
          rotate_left
          · simp only [Act.put, la_, lb_, lc_, i64_w, i32_w]
            rfl
          refine one_ (i := 6) (N := none) #[true, true, true, true, true, true, true, false, false] rfl rfl (one_of HT_.out (by kernel_rfl)) (by decide) (fun K hK => ?_)
          have hs94 : w93.cell? ⟨gb360, 0, none⟩ = some (.bool false) := (blk_cell BK360.out 0).trans rfl
          have hfs94 := blk_frozen BK360.out 0
          have hns94_0 := NB358_360.out
          have hns94_1 := NB359_360.out
          have hns94_3 := NB361_360.out
          have hns94_4 := NB368_360.out
          have hns94_5 := NB373_360.out
          have hms94_0 := NB360_358.out
          have hms94_1 := NB360_359.out
          have hms94_3 := NB360_361.out
          have hms94_4 := NB360_368.out
          have hms94_5 := NB360_373.out
          have hs95 : w93.cell? ⟨gb360, 1, none⟩ = some (.int .u64 0) := (blk_cell BK360.out 1).trans rfl
          have hfs95 := blk_frozen BK360.out 1
          have hns95_0 := NB358_360.out
          have hns95_1 := NB359_360.out
          have hns95_3 := NB361_360.out
          have hns95_4 := NB368_360.out
          have hns95_5 := NB373_360.out
          have hms95_0 := NB360_358.out
          have hms95_1 := NB360_359.out
          have hms95_3 := NB360_361.out
          have hms95_4 := NB360_368.out
          have hms95_5 := NB360_373.out
          have hs96 : w93.cell? ⟨gb360, 2, none⟩ = some (.int .u64 0) := (blk_cell BK360.out 2).trans rfl
          have hfs96 := blk_frozen BK360.out 2
          have hns96_0 := NB358_360.out
          have hns96_1 := NB359_360.out
          have hns96_3 := NB361_360.out
          have hns96_4 := NB368_360.out
          have hns96_5 := NB373_360.out
          have hms96_0 := NB360_358.out
          have hms96_1 := NB360_359.out
          have hms96_3 := NB360_361.out
          have hms96_4 := NB360_368.out
          have hms96_5 := NB360_373.out
          refine skip_ (w1 := ?_) (by rfl) rfl ?_ ?_
          rotate_left
          · go_simp
            rfl
          refine hK.out _ _ ⟨(cfar_ hHeld.1), (cfar_ hHeld.2.1), (cfar_ hHeld.2.2.1), (cfar_ hHeld.2.2.2.1), (cfar_ hHeld.2.2.2.2.1), (cfar_ hHeld.2.2.2.2.2)⟩ (fun hHeld => ?_)
          clear hK K
          refine one_ (i := 7) (N := none) #[true, true, true, true, true, true, true, true, false] rfl rfl (one_of HT_.out (by kernel_rfl)) (by decide) (fun K hK => ?_)
          have hs97 : w93.cell? ⟨gb361, 0, none⟩ = some (.bool false) := (blk_cell BK361.out 0).trans rfl
          have hfs97 := blk_frozen BK361.out 0
          have hns97_0 := NB358_361.out
          have hns97_1 := NB359_361.out
          have hns97_2 := NB360_361.out
          have hns97_4 := NB368_361.out
          have hns97_5 := NB373_361.out
          have hms97_0 := NB361_358.out
          have hms97_1 := NB361_359.out
          have hms97_2 := NB361_360.out
          have hms97_4 := NB361_368.out
          have hms97_5 := NB361_373.out
          have hs98 : w93.cell? ⟨gb361, 1, none⟩ = some (.int .u64 0) := (blk_cell BK361.out 1).trans rfl
          have hfs98 := blk_frozen BK361.out 1
          have hns98_0 := NB358_361.out
          have hns98_1 := NB359_361.out
          have hns98_2 := NB360_361.out
          have hns98_4 := NB368_361.out
          have hns98_5 := NB373_361.out
          have hms98_0 := NB361_358.out
          have hms98_1 := NB361_359.out
          have hms98_2 := NB361_360.out
          have hms98_4 := NB361_368.out
          have hms98_5 := NB361_373.out
          have hs99 : w93.cell? ⟨gb361, 2, none⟩ = some (.int .u64 0) := (blk_cell BK361.out 2).trans rfl
          have hfs99 := blk_frozen BK361.out 2
          have hns99_0 := NB358_361.out
          have hns99_1 := NB359_361.out
          have hns99_2 := NB360_361.out
          have hns99_4 := NB368_361.out
          have hns99_5 := NB373_361.out
          have hms99_0 := NB361_358.out
          have hms99_1 := NB361_359.out
          have hms99_2 := NB361_360.out
          have hms99_4 := NB361_368.out
          have hms99_5 := NB361_373.out
          refine skip_ (w1 := ?_) (by rfl) rfl ?_ ?_
          rotate_left
          · go_simp
            rfl
          refine hK.out _ _ ⟨(cfar_ hHeld.1), (cfar_ hHeld.2.1), (cfar_ hHeld.2.2.1), (cfar_ hHeld.2.2.2.1), (cfar_ hHeld.2.2.2.2.1), (cfar_ hHeld.2.2.2.2.2)⟩ (fun hHeld => ?_)
          clear hK K
          refine pure_ (i := 8) (N := some 6) (v := ?_) (a' := ?_) #[true, true, true, true, true, true, true, true, true] rfl rfl (any_of HT_.out (by kernel_rfl)) (fun _ _ _ h => h) (Or.inl ⟨by rfl, ?_⟩) ?_ ?_
          rotate_left
          · intro w'
            go_simp
            with_reducible rfl
          rotate_left
          · simp only [Act.put, la_, lb_, lc_, i64_w, i32_w]
            rfl
          refine done_ (done_of HT_.out (by kernel_rfl)) ?_
          try go_wp2
          refine bodyPost_ret (results_list (rs := [.cell 4 25, .cell 5 25, .tmp 6]) rfl (by simp) (.cell gb360 25 #[.bool t364, .int .u64 t365, .int .u64 t366] (0, 0) _ rfl (pu_ #[.bool t364, .int .u64 t365, .int .u64 0] 2 (h := (pu_ #[.bool t364, .int .u64 0, .int .u64 0] 1 (h := (pu_ #[.bool false, .int .u64 0, .int .u64 0] 0 (h := bk_)))))) Try.underlying25 rfl (by kernel_rfl) (.cell gb361 25 #[.bool t369, .int .u64 t370, .int .u64 t371] (0, 0) _ rfl (pu_ #[.bool t369, .int .u64 t370, .int .u64 0] 2 (h := (pu_ #[.bool t369, .int .u64 0, .int .u64 0] 1 (h := (pu_ #[.bool false, .int .u64 0, .int .u64 0] 0 (h := bk_)))))) Try.underlying25 rfl (by kernel_rfl) (.tmp .nil)))) rfl ?_
          exact ⟨rf_, bel_⟩

/-! ### impl_CompareFrac: function 53 -/
def impl_CompareFrac.f (k : Nat) (a0_0 : Bool) (a0_1 : Int) (a0_2 : Int) (a0_3 : Int) (a1_0 : Bool) (a1_1 : Int) (a1_2 : Int) (a1_3 : Int) : Option (Int × Bool) := (impl_crossed.f k a0_0 a0_1 a0_2 a0_3 a1_0 a1_1 a1_2 a1_3).bind fun bt376 => (if bt376.2.2.2.2.2.2 = true then ((impl_CompareWide.f k bt376.1 bt376.2.1 bt376.2.2.1 bt376.2.2.2.1 bt376.2.2.2.2.1 bt376.2.2.2.2.2.1).bind fun t385 => (some (t385, true))) else (some (0, false)))
theorem impl_CompareFrac.mono : ∀ a0 a1 a2 a3 a4 a5 a6 a7 k, LeO (impl_CompareFrac.f k a0 a1 a2 a3 a4 a5 a6 a7) (impl_CompareFrac.f (k + 1) a0 a1 a2 a3 a4 a5 a6 a7) := by
  intro a0 a1 a2 a3 a4 a5 a6 a7 k
  unfold impl_CompareFrac.f
  repeat' first
      | (with_reducible exact impl_CompareWide.mono _ _ _ _ _ _ _)
      | (with_reducible exact impl_crossed.mono _ _ _ _ _ _ _ _ _)
      | (with_reducible exact LeO.refl _)
      | (with_reducible exact LeO.none _)
      | (with_reducible refine LeO.ite ?_ ?_)
      | (with_reducible refine LeO.bind ?_ (fun _ => ?_))
      | exact impl_CompareWide.mono _ _ _ _ _ _ _
      | exact impl_crossed.mono _ _ _ _ _ _ _ _ _
      | exact LeO.none _
      | refine LeO.ite ?_ ?_
      | refine LeO.bind ?_ (fun _ => ?_)
set_option maxHeartbeats 8000000 in
set_option maxRecDepth 100000 in
theorem impl_CompareFrac.calls (k : Nat) (a0_0 : Bool) (a0_1 : Int) (a0_2 : Int) (a0_3 : Int) (a1_0 : Bool) (a1_1 : Int) (a1_2 : Int) (a1_3 : Int) (r1 : Int) (r2 : Bool) (w : World) (h : impl_CompareFrac.f k a0_0 a0_1 a0_2 a0_3 a1_0 a1_1 a1_2 a1_3 = some (r1, r2)) :
    Calls Try.prog 53 #[.agg #[.bool a0_0, .int .u64 a0_1, .int .u64 a0_2, .int .i64 a0_3], .agg #[.bool a1_0, .int .u64 a1_1, .int .u64 a1_2, .int .i64 a1_3]] w fun e w' => e = .returned (.tuple #[.int .i64 r1, .bool r2]) ∧ Below w.heap.size w w' := by
  have hu63 := Try.underlying63
  have hu25 := Try.underlying25
  have HB := Aside0.mk (Below.refl w.heap.size w)
  have H : ((impl_crossed.f k a0_0 a0_1 a0_2 a0_3 a1_0 a1_1 a1_2 a1_3).bind fun bt376 => (if bt376.2.2.2.2.2.2 = true then ((impl_CompareWide.f k bt376.1 bt376.2.1 bt376.2.2.1 bt376.2.2.2.1 bt376.2.2.2.2.1 bt376.2.2.2.2.2.1).bind fun t385 => (some (t385, true))) else (some (0, false)))) = some (r1, r2) := h
  clear h
  replace H := Option.bind_eq_some_iff.mp H
  obtain ⟨⟨t376, t377, t378, t379, t380, t381, t382⟩, A30, H⟩ := H
  replace H : (if t382 = true then ((impl_CompareWide.f k t376 t377 t378 t379 t380 t381).bind fun t385 => (some (t385, true))) else (some (0, false))) = some (r1, r2) := H
  have A3 := Aside0.mk A30
  clear A30
  by_cases c4 : t382 = true
  · subst c4
    have H1 : ((impl_CompareWide.f k t376 t377 t378 t379 t380 t381).bind fun t385 => (some (t385, true))) = some (r1, r2) := by rw [if_pos rfl] at H; exact H
    clear H
    have H := H1
    clear H1
    replace H := Option.bind_eq_some_iff.mp H
    obtain ⟨t385, A50, H⟩ := H
    replace H : (some (t385, true)) = some (r1, r2) := H
    have A5 := Aside0.mk A50
    clear A50
    simp only [Option.some.injEq, Prod.mk.injEq] at H
    obtain ⟨rfl, rfl⟩ := H
    go_enter Try.func53, Try.ntmps53
    go_wp2_with (first | ((with_reducible refine gate_dst (N := 2) rfl ?_); refine box_event ?hg (N := 2) ?hd (cs := #[.bool a0_0, .int .u64 a0_1, .int .u64 a0_2, .int .i64 a0_3]) (t := 63) ?hr ?_; (case hd => rfl); (case hg => rfl); (case hr => first | (go_simp; done) | (go_simp; rfl)); intro gb374 hg w6 hbox hb; have n0_ := Aside0.mk (below_step bel_ hb); have n1_ := Aside0.mk (hbox); have n2_ := bs_ (w := w) hg; have n3_ := bs_ (w := w) hg; clear HB; have HB := n0_; have BK374 := n1_; have GW374 := n2_; have GE374 := n3_; clear n0_ n1_ n2_ n3_; clear hb hbox hg) | ((with_reducible refine gate_dst (N := 3) rfl ?_); refine box_event ?hg (N := 3) ?hd (cs := #[.bool a1_0, .int .u64 a1_1, .int .u64 a1_2, .int .i64 a1_3]) (t := 63) ?hr ?_; (case hd => rfl); (case hg => rfl); (case hr => first | (go_simp; done) | (go_simp; rfl)); intro gb375 hg w7 hbox hb; have n0_ := bb_ (g := gb374) hb; have n1_ := Aside0.mk (below_step bel_ hb); have n2_ := Aside0.mk (hbox); have n3_ := bs_ (w := w) hg; have n4_ := bs_ (w := w) hg; have n5_ := nlt_ (g := gb374) hg; have n6_ := ngt_ (g := gb374) hg; clear BK374; clear HB; have BK374 := n0_; have HB := n1_; have BK375 := n2_; have GW375 := n3_; have GE375 := n4_; have NB374_375 := n5_; have NB375_374 := n6_; clear n0_ n1_ n2_ n3_ n4_ n5_ n6_; clear hb hbox hg; have hnb8 := NB374_375.out; have hnc8 := NB375_374.out; obtain ⟨hcz9_0, hcz9_1, hcz9_2, hcz9_3, hfz9_0, hfz9_1, hfz9_2, hfz9_3⟩ := cf4_ (w := w7) BK374.out; obtain ⟨hcz10_0, hcz10_1, hcz10_2, hcz10_3, hfz10_0, hfz10_1, hfz10_2, hfz10_3⟩ := cf4_ (w := w7) BK375.out) | ((with_reducible refine gate_callee (f := 84) rfl ?_); refine goesL_ (some 12) rfl rfl Try.func84 (by kernel_rfl) rfl #[.agg #[.bool a0_0, .int .u64 a0_1, .int .u64 a0_2, .int .i64 a0_3], .agg #[.bool a1_0, .int .u64 a1_1, .int .u64 a1_2, .int .i64 a1_3]] rfl mp_ ?_; (with_reducible refine (impl_crossed.calls k a0_0 a0_1 a0_2 a0_3 a1_0 a1_1 a1_2 a1_3 t376 t377 t378 t379 t380 t381 true _ A3.out).mono ?_); rintro e w11 ⟨rfl, hb⟩; refine ⟨_, rfl, ?_⟩; have n0_ := bb_ (g := gb374) hb; have n1_ := bb_ (g := gb375) hb; have n2_ := Aside0.mk (below_step bel_ hb); clear BK374; clear BK375; clear HB; have BK374 := n0_; have BK375 := n1_; have HB := n2_; clear n0_ n1_ n2_; (try clear hb); (try clear hb2); (try clear hk); (try clear hi)) | ((with_reducible refine gate_dst (N := 6) rfl ?_); refine box_event ?hg (N := 6) ?hd (cs := #[.bool false, .int .u64 0, .int .u64 0]) (t := 25) ?hr ?_; (case hd => rfl); (case hg => rfl); (case hr => first | (go_simp; done) | (go_simp; rfl)); intro gb383 hg w12 hbox hb; have n0_ := bb_ (g := gb374) hb; have n1_ := bb_ (g := gb375) hb; have n2_ := Aside0.mk (below_step bel_ hb); have n3_ := Aside0.mk (hbox); have n4_ := bs_ (w := w) hg; have n5_ := bs_ (w := w) hg; have n6_ := nlt_ (g := gb374) hg; have n7_ := ngt_ (g := gb374) hg; have n8_ := nlt_ (g := gb375) hg; have n9_ := ngt_ (g := gb375) hg; clear BK374; clear BK375; clear HB; have BK374 := n0_; have BK375 := n1_; have HB := n2_; have BK383 := n3_; have GW383 := n4_; have GE383 := n5_; have NB374_383 := n6_; have NB383_374 := n7_; have NB375_383 := n8_; have NB383_375 := n9_; clear n0_ n1_ n2_ n3_ n4_ n5_ n6_ n7_ n8_ n9_; clear hb hbox hg) | ((with_reducible refine gate_dst (N := 7) rfl ?_); refine box_event ?hg (N := 7) ?hd (cs := #[.bool false, .int .u64 0, .int .u64 0]) (t := 25) ?hr ?_; (case hd => rfl); (case hg => rfl); (case hr => first | (go_simp; done) | (go_simp; rfl)); intro gb384 hg w13 hbox hb; have n0_ := bb_ (g := gb374) hb; have n1_ := bb_ (g := gb375) hb; have n2_ := bb_ (g := gb383) hb; have n3_ := Aside0.mk (below_step bel_ hb); have n4_ := Aside0.mk (hbox); have n5_ := bs_ (w := w) hg; have n6_ := bs_ (w := w) hg; have n7_ := nlt_ (g := gb374) hg; have n8_ := ngt_ (g := gb374) hg; have n9_ := nlt_ (g := gb375) hg; have n10_ := ngt_ (g := gb375) hg; have n11_ := nlt_ (g := gb383) hg; have n12_ := ngt_ (g := gb383) hg; clear BK374; clear BK375; clear BK383; clear HB; have BK374 := n0_; have BK375 := n1_; have BK383 := n2_; have HB := n3_; have BK384 := n4_; have GW384 := n5_; have GE384 := n6_; have NB374_384 := n7_; have NB384_374 := n8_; have NB375_384 := n9_; have NB384_375 := n10_; have NB383_384 := n11_; have NB384_383 := n12_; clear n0_ n1_ n2_ n3_ n4_ n5_ n6_ n7_ n8_ n9_ n10_ n11_ n12_; clear hb hbox hg; have hnb14 := NB383_374.out; have hnc14 := NB374_383.out; have hnb15 := NB383_375.out; have hnc15 := NB375_383.out; have hnb16 := NB383_384.out; have hnc16 := NB384_383.out; obtain ⟨hcz17_0, hcz17_1, hcz17_2, hfz17_0, hfz17_1, hfz17_2⟩ := cf3_ (w := w13) BK383.out; have hnb18 := NB384_374.out; have hnc18 := NB374_384.out; have hnb19 := NB384_375.out; have hnc19 := NB375_384.out; obtain ⟨hcz20_0, hcz20_1, hcz20_2, hfz20_0, hfz20_1, hfz20_2⟩ := cf3_ (w := w13) BK384.out) | ((with_reducible refine gate_callee (f := 36) rfl ?_); refine goesL_ (some 20) rfl rfl Try.func36 (by kernel_rfl) rfl #[.agg #[.bool t376, .int .u64 t377, .int .u64 t378], .agg #[.bool t379, .int .u64 t380, .int .u64 t381]] rfl mp_ ?_; (with_reducible refine (impl_CompareWide.calls k t376 t377 t378 t379 t380 t381 t385 _ A5.out).mono ?_); rintro e w21 ⟨rfl, hb⟩; refine ⟨_, rfl, ?_⟩; have n0_ := Aside0.mk (blk_below (g := gb374) (o := .cells #[.bool a0_0, .int .u64 a0_1, .int .u64 a0_2, .int .i64 a0_3] 63 (0, 0)) bk_ hb); have n1_ := Aside0.mk (blk_below (g := gb375) (o := .cells #[.bool a1_0, .int .u64 a1_1, .int .u64 a1_2, .int .i64 a1_3] 63 (0, 0)) bk_ hb); have n2_ := Aside0.mk (blk_below (g := gb383) (o := .cells #[.bool t376, .int .u64 t377, .int .u64 t378] 25 (0, 0)) (pu_ #[.bool t376, .int .u64 t377, .int .u64 0] 2 (h := (pu_ #[.bool t376, .int .u64 0, .int .u64 0] 1 (h := (pu_ #[.bool false, .int .u64 0, .int .u64 0] 0 (h := bk_)))))) hb); have n3_ := Aside0.mk (blk_below (g := gb384) (o := .cells #[.bool t379, .int .u64 t380, .int .u64 t381] 25 (0, 0)) (pu_ #[.bool t379, .int .u64 t380, .int .u64 0] 2 (h := (pu_ #[.bool t379, .int .u64 0, .int .u64 0] 1 (h := (pu_ #[.bool false, .int .u64 0, .int .u64 0] 0 (h := bk_)))))) hb); have n4_ := Aside0.mk (below_step bel_ hb); clear BK374; clear BK375; clear BK383; clear BK384; clear HB; have BK374 := n0_; have BK375 := n1_; have BK383 := n2_; have BK384 := n3_; have HB := n4_; clear n0_ n1_ n2_ n3_ n4_; (try clear hb); (try clear hb2); (try clear hk); (try clear hi)))
    go_ret2
    exact ⟨rf_, bel_⟩
  · replace c4 := Bool.eq_false_iff.mpr c4
    subst c4
    have H1 : (some (0, false)) = some (r1, r2) := by rw [if_neg (show ¬ (false = true) by decide)] at H; exact H
    clear H
    have H := H1
    clear H1
    simp only [Option.some.injEq, Prod.mk.injEq] at H
    obtain ⟨rfl, rfl⟩ := H
    go_enter Try.func53, Try.ntmps53
    go_wp2_with (first | ((with_reducible refine gate_dst (N := 2) rfl ?_); refine box_event ?hg (N := 2) ?hd (cs := #[.bool a0_0, .int .u64 a0_1, .int .u64 a0_2, .int .i64 a0_3]) (t := 63) ?hr ?_; (case hd => rfl); (case hg => rfl); (case hr => first | (go_simp; done) | (go_simp; rfl)); intro gb374 hg w22 hbox hb; have n0_ := Aside0.mk (below_step bel_ hb); have n1_ := Aside0.mk (hbox); have n2_ := bs_ (w := w) hg; have n3_ := bs_ (w := w) hg; clear HB; have HB := n0_; have BK374 := n1_; have GW374 := n2_; have GE374 := n3_; clear n0_ n1_ n2_ n3_; clear hb hbox hg) | ((with_reducible refine gate_dst (N := 3) rfl ?_); refine box_event ?hg (N := 3) ?hd (cs := #[.bool a1_0, .int .u64 a1_1, .int .u64 a1_2, .int .i64 a1_3]) (t := 63) ?hr ?_; (case hd => rfl); (case hg => rfl); (case hr => first | (go_simp; done) | (go_simp; rfl)); intro gb375 hg w23 hbox hb; have n0_ := bb_ (g := gb374) hb; have n1_ := Aside0.mk (below_step bel_ hb); have n2_ := Aside0.mk (hbox); have n3_ := bs_ (w := w) hg; have n4_ := bs_ (w := w) hg; have n5_ := nlt_ (g := gb374) hg; have n6_ := ngt_ (g := gb374) hg; clear BK374; clear HB; have BK374 := n0_; have HB := n1_; have BK375 := n2_; have GW375 := n3_; have GE375 := n4_; have NB374_375 := n5_; have NB375_374 := n6_; clear n0_ n1_ n2_ n3_ n4_ n5_ n6_; clear hb hbox hg; have hnb24 := NB374_375.out; have hnc24 := NB375_374.out; obtain ⟨hcz25_0, hcz25_1, hcz25_2, hcz25_3, hfz25_0, hfz25_1, hfz25_2, hfz25_3⟩ := cf4_ (w := w23) BK374.out; obtain ⟨hcz26_0, hcz26_1, hcz26_2, hcz26_3, hfz26_0, hfz26_1, hfz26_2, hfz26_3⟩ := cf4_ (w := w23) BK375.out) | ((with_reducible refine gate_callee (f := 84) rfl ?_); refine goesL_ (some 12) rfl rfl Try.func84 (by kernel_rfl) rfl #[.agg #[.bool a0_0, .int .u64 a0_1, .int .u64 a0_2, .int .i64 a0_3], .agg #[.bool a1_0, .int .u64 a1_1, .int .u64 a1_2, .int .i64 a1_3]] rfl mp_ ?_; (with_reducible refine (impl_crossed.calls k a0_0 a0_1 a0_2 a0_3 a1_0 a1_1 a1_2 a1_3 t376 t377 t378 t379 t380 t381 false _ A3.out).mono ?_); rintro e w27 ⟨rfl, hb⟩; refine ⟨_, rfl, ?_⟩; have n0_ := bb_ (g := gb374) hb; have n1_ := bb_ (g := gb375) hb; have n2_ := Aside0.mk (below_step bel_ hb); clear BK374; clear BK375; clear HB; have BK374 := n0_; have BK375 := n1_; have HB := n2_; clear n0_ n1_ n2_; (try clear hb); (try clear hb2); (try clear hk); (try clear hi)) | ((with_reducible refine gate_dst (N := 6) rfl ?_); refine box_event ?hg (N := 6) ?hd (cs := #[.bool false, .int .u64 0, .int .u64 0]) (t := 25) ?hr ?_; (case hd => rfl); (case hg => rfl); (case hr => first | (go_simp; done) | (go_simp; rfl)); intro gb383 hg w28 hbox hb; have n0_ := bb_ (g := gb374) hb; have n1_ := bb_ (g := gb375) hb; have n2_ := Aside0.mk (below_step bel_ hb); have n3_ := Aside0.mk (hbox); have n4_ := bs_ (w := w) hg; have n5_ := bs_ (w := w) hg; have n6_ := nlt_ (g := gb374) hg; have n7_ := ngt_ (g := gb374) hg; have n8_ := nlt_ (g := gb375) hg; have n9_ := ngt_ (g := gb375) hg; clear BK374; clear BK375; clear HB; have BK374 := n0_; have BK375 := n1_; have HB := n2_; have BK383 := n3_; have GW383 := n4_; have GE383 := n5_; have NB374_383 := n6_; have NB383_374 := n7_; have NB375_383 := n8_; have NB383_375 := n9_; clear n0_ n1_ n2_ n3_ n4_ n5_ n6_ n7_ n8_ n9_; clear hb hbox hg) | ((with_reducible refine gate_dst (N := 7) rfl ?_); refine box_event ?hg (N := 7) ?hd (cs := #[.bool false, .int .u64 0, .int .u64 0]) (t := 25) ?hr ?_; (case hd => rfl); (case hg => rfl); (case hr => first | (go_simp; done) | (go_simp; rfl)); intro gb384 hg w29 hbox hb; have n0_ := bb_ (g := gb374) hb; have n1_ := bb_ (g := gb375) hb; have n2_ := bb_ (g := gb383) hb; have n3_ := Aside0.mk (below_step bel_ hb); have n4_ := Aside0.mk (hbox); have n5_ := bs_ (w := w) hg; have n6_ := bs_ (w := w) hg; have n7_ := nlt_ (g := gb374) hg; have n8_ := ngt_ (g := gb374) hg; have n9_ := nlt_ (g := gb375) hg; have n10_ := ngt_ (g := gb375) hg; have n11_ := nlt_ (g := gb383) hg; have n12_ := ngt_ (g := gb383) hg; clear BK374; clear BK375; clear BK383; clear HB; have BK374 := n0_; have BK375 := n1_; have BK383 := n2_; have HB := n3_; have BK384 := n4_; have GW384 := n5_; have GE384 := n6_; have NB374_384 := n7_; have NB384_374 := n8_; have NB375_384 := n9_; have NB384_375 := n10_; have NB383_384 := n11_; have NB384_383 := n12_; clear n0_ n1_ n2_ n3_ n4_ n5_ n6_ n7_ n8_ n9_ n10_ n11_ n12_; clear hb hbox hg; have hnb30 := NB383_374.out; have hnc30 := NB374_383.out; have hnb31 := NB383_375.out; have hnc31 := NB375_383.out; have hnb32 := NB383_384.out; have hnc32 := NB384_383.out; obtain ⟨hcz33_0, hcz33_1, hcz33_2, hfz33_0, hfz33_1, hfz33_2⟩ := cf3_ (w := w29) BK383.out; have hnb34 := NB384_374.out; have hnc34 := NB374_384.out; have hnb35 := NB384_375.out; have hnc35 := NB375_384.out; obtain ⟨hcz36_0, hcz36_1, hcz36_2, hfz36_0, hfz36_1, hfz36_2⟩ := cf3_ (w := w29) BK384.out))
    go_ret2
    exact ⟨rf_, bel_⟩

end Go.Proofs.Ytlndcgmojabgbaa.PFnFracOrder
