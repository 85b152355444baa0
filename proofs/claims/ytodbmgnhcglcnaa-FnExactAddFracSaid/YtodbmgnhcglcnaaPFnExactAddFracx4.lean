/- Contracts of Go functions, each with the Lean function that says what it computes: begun by the print, turned by this session. No condition beyond what each theorem states. -/
import Derived.Test.YtodbmgnhcglcnaaPFnExactAddFracx0
import Derived.Test.YtodbmgnhcglcnaaPFnExactAddFracx3
namespace Go.Proofs.Ytodbmgnhcglcnaa.PFnExactAddFrac
open Go.RowKit Go.Proofs.YtodbmgnhcglcnaaW.PrintWords Go.Proofs.YtodbmgnhcglcnaaW.PrintLast Go.Proofs.YtodbmgnhcglcnaaW.PrintMore
attribute [local go_sem] max2_int min2_int max_two min_two max_three min_three max_four min_four   -- for this text's walks alone
set_option linter.unusedVariables false
set_option linter.unusedSimpArgs false

/-! ### spec_l5Cross: function 49 -/
def spec_l5Cross.j0 : Nat → Bool → Bool → Int → Int → Int → Bool → Int → Int → Int → Option (Bool × Int × Int × Bool × Int × Int × Bool)
  | 0, _, _, _, _, _, _, _, _, _ => none
  | k + 1, x18, x135000, x135001, x135002, x135003, x136000, x136001, x136002, x136003 => if x18 = true then (some (false, 0, 0, false, 0, 0, false)) else ((spec_ScaleWide.f x135000 x135001 x135002 x136003).bind fun bt140 => ((spec_ScaleWide.f x136000 x136001 x136002 x135003).bind fun bt145 => (if bt140.2.2.2 = true then (some (bt140.1, bt140.2.1, bt140.2.2.1, bt145.1, bt145.2.1, bt145.2.2.1, bt145.2.2.2)) else (some (bt140.1, bt140.2.1, bt140.2.2.1, bt145.1, bt145.2.1, bt145.2.2.1, false)))))
def spec_l5Cross.f (k : Nat) (a0_0 : Bool) (a0_1 : Int) (a0_2 : Int) (a0_3 : Int) (a1_0 : Bool) (a1_1 : Int) (a1_2 : Int) (a1_3 : Int) : Option (Bool × Int × Int × Bool × Int × Int × Bool) := (spec_FracOk.f a0_0 a0_1 a0_2 a0_3).bind fun t138 => (if t138 = true then ((spec_FracOk.f a1_0 a1_1 a1_2 a1_3).bind fun t139 => (spec_l5Cross.j0 k (!t139) a0_0 a0_1 a0_2 a0_3 a1_0 a1_1 a1_2 a1_3)) else (spec_l5Cross.j0 k true a0_0 a0_1 a0_2 a0_3 a1_0 a1_1 a1_2 a1_3))
theorem spec_l5Cross.mono_l : ∀ k, (∀ y0 y1 y2 y3 y4 y5 y6 y7 y8, LeO (spec_l5Cross.j0 k y0 y1 y2 y3 y4 y5 y6 y7 y8) (spec_l5Cross.j0 (k + 1) y0 y1 y2 y3 y4 y5 y6 y7 y8))
  | 0 => fun _ _ _ _ _ _ _ _ _ r h => by simp [spec_l5Cross.j0] at h
  | k + 1 => by
    have ih0 := spec_l5Cross.mono_l k
    · intro y0 y1 y2 y3 y4 y5 y6 y7 y8
      unfold spec_l5Cross.j0
      repeat' first
      | (with_reducible exact ih0 _ _ _ _ _ _ _ _ _)
      | (with_reducible exact LeO.refl _)
      | (with_reducible exact LeO.none _)
      | (with_reducible refine LeO.ite ?_ ?_)
      | (with_reducible refine LeO.bind ?_ (fun _ => ?_))
      | exact ih0 _ _ _ _ _ _ _ _ _
      | exact LeO.none _
      | refine LeO.ite ?_ ?_
      | refine LeO.bind ?_ (fun _ => ?_)
theorem spec_l5Cross.mono : ∀ a0 a1 a2 a3 a4 a5 a6 a7 k, LeO (spec_l5Cross.f k a0 a1 a2 a3 a4 a5 a6 a7) (spec_l5Cross.f (k + 1) a0 a1 a2 a3 a4 a5 a6 a7) := by
  intro a0 a1 a2 a3 a4 a5 a6 a7 k
  have ih0 := spec_l5Cross.mono_l k
  unfold spec_l5Cross.f
  repeat' first
      | (with_reducible exact ih0 _ _ _ _ _ _ _ _ _)
      | (with_reducible exact LeO.refl _)
      | (with_reducible exact LeO.none _)
      | (with_reducible refine LeO.ite ?_ ?_)
      | (with_reducible refine LeO.bind ?_ (fun _ => ?_))
      | exact ih0 _ _ _ _ _ _ _ _ _
      | exact LeO.none _
      | refine LeO.ite ?_ ?_
      | refine LeO.bind ?_ (fun _ => ?_)
def spec_l5Cross.T5 : Bool × List (List Nat × List Nat) := (true, [([], []), ([], []), ([], []), ([2], [2]), ([3], [3]), ([3, 4], [3, 4]), ([0, 3, 0], [0]), ([1, 6, 0, 1, 6], [1]), ([5, 7, 0, 1, 2, 3, 4, 5, 6, 7], [5])])
def spec_l5Cross.B5 : List Nat := [0, 0, 0, 4, 12, 28, 13, 79, 255]
theorem spec_l5Cross.tab5 : rtab .any (opsOf Try.f49 5) = spec_l5Cross.T5 := by kernel_rfl
theorem spec_l5Cross.bits5 : waitsOk spec_l5Cross.T5.2 spec_l5Cross.B5 = true := by kernel_rfl
set_option maxHeartbeats 8000000 in
set_option maxRecDepth 100000 in
theorem spec_l5Cross.calls (k : Nat) (a0_0 : Bool) (a0_1 : Int) (a0_2 : Int) (a0_3 : Int) (a1_0 : Bool) (a1_1 : Int) (a1_2 : Int) (a1_3 : Int) (r1 : Bool) (r2 : Int) (r3 : Int) (r4 : Bool) (r5 : Int) (r6 : Int) (r7 : Bool) (w : World) (h : spec_l5Cross.f k a0_0 a0_1 a0_2 a0_3 a1_0 a1_1 a1_2 a1_3 = some (r1, r2, r3, r4, r5, r6, r7)) :
    Calls Try.prog 49 #[.agg #[.bool a0_0, .int .u64 a0_1, .int .u64 a0_2, .int .i64 a0_3], .agg #[.bool a1_0, .int .u64 a1_1, .int .u64 a1_2, .int .i64 a1_3]] w fun e w' => e = .returned (.tuple #[.agg #[.bool r1, .int .u64 r2, .int .u64 r3], .agg #[.bool r4, .int .u64 r5, .int .u64 r6], .bool r7]) ∧ Below w.heap.size w w' := by
  have hu47 := Try.underlying47
  have hu30 := Try.underlying30
  have HB := Aside0.mk (Below.refl w.heap.size w)
  have H : ((spec_FracOk.f a0_0 a0_1 a0_2 a0_3).bind fun t138 => (if t138 = true then ((spec_FracOk.f a1_0 a1_1 a1_2 a1_3).bind fun t139 => (spec_l5Cross.j0 k (!t139) a0_0 a0_1 a0_2 a0_3 a1_0 a1_1 a1_2 a1_3)) else (spec_l5Cross.j0 k true a0_0 a0_1 a0_2 a0_3 a1_0 a1_1 a1_2 a1_3))) = some (r1, r2, r3, r4, r5, r6, r7) := h
  clear h
  have HC3 := Aside0.mk H
  clear H
  go_enter Try.func49, Try.ntmps49
  go_upto_region 1 with (first | ((with_reducible refine gate_dst (N := 2) rfl ?_); refine box_event ?hg (N := 2) ?hd (cs := #[.bool a0_0, .int .u64 a0_1, .int .u64 a0_2, .int .i64 a0_3]) (t := 47) ?hr ?_; (case hd => rfl); (case hg => rfl); (case hr => first | (go_simp; done) | (go_simp; rfl)); intro gb134 hg w4 hbox hb; have n0_ := Aside0.mk (below_step bel_ hb); have n1_ := Aside0.mk (hbox); have n2_ := bs_ (w := w) hg; have n3_ := bs_ (w := w) hg; clear HB; have HB := n0_; have BK134 := n1_; have GW134 := n2_; have GE134 := n3_; clear n0_ n1_ n2_ n3_; clear hb hbox hg) | ((with_reducible refine gate_dst (N := 3) rfl ?_); refine box_event ?hg (N := 3) ?hd (cs := #[.bool a1_0, .int .u64 a1_1, .int .u64 a1_2, .int .i64 a1_3]) (t := 47) ?hr ?_; (case hd => rfl); (case hg => rfl); (case hr => first | (go_simp; done) | (go_simp; rfl)); intro gb135 hg w5 hbox hb; have n0_ := bb_ (g := gb134) (o := .cells #[.bool a0_0, .int .u64 a0_1, .int .u64 a0_2, .int .i64 a0_3] 47 (0, 0)) hb; have n1_ := Aside0.mk (below_step bel_ hb); have n2_ := Aside0.mk (hbox); have n3_ := bs_ (w := w) hg; have n4_ := bs_ (w := w) hg; have n5_ := nlt_ (g := gb134) (o := .cells #[.bool a0_0, .int .u64 a0_1, .int .u64 a0_2, .int .i64 a0_3] 47 (0, 0)) hg; have n6_ := ngt_ (g := gb134) (o := .cells #[.bool a0_0, .int .u64 a0_1, .int .u64 a0_2, .int .i64 a0_3] 47 (0, 0)) hg; clear BK134; clear HB; have BK134 := n0_; have HB := n1_; have BK135 := n2_; have GW135 := n3_; have GE135 := n4_; have NB134_135 := n5_; have NB135_134 := n6_; clear n0_ n1_ n2_ n3_ n4_ n5_ n6_; clear hb hbox hg) | ((with_reducible refine gate_dst (N := 4) rfl ?_); refine box_event ?hg (N := 4) ?hd (cs := #[.bool false, .int .u64 0, .int .u64 0]) (t := 30) ?hr ?_; (case hd => rfl); (case hg => rfl); (case hr => first | (go_simp; done) | (go_simp; rfl)); intro gb136 hg w6 hbox hb; have n0_ := bb_ (g := gb134) (o := .cells #[.bool a0_0, .int .u64 a0_1, .int .u64 a0_2, .int .i64 a0_3] 47 (0, 0)) hb; have n1_ := bb_ (g := gb135) (o := .cells #[.bool a1_0, .int .u64 a1_1, .int .u64 a1_2, .int .i64 a1_3] 47 (0, 0)) hb; have n2_ := Aside0.mk (below_step bel_ hb); have n3_ := Aside0.mk (hbox); have n4_ := bs_ (w := w) hg; have n5_ := bs_ (w := w) hg; have n6_ := nlt_ (g := gb134) (o := .cells #[.bool a0_0, .int .u64 a0_1, .int .u64 a0_2, .int .i64 a0_3] 47 (0, 0)) hg; have n7_ := ngt_ (g := gb134) (o := .cells #[.bool a0_0, .int .u64 a0_1, .int .u64 a0_2, .int .i64 a0_3] 47 (0, 0)) hg; have n8_ := nlt_ (g := gb135) (o := .cells #[.bool a1_0, .int .u64 a1_1, .int .u64 a1_2, .int .i64 a1_3] 47 (0, 0)) hg; have n9_ := ngt_ (g := gb135) (o := .cells #[.bool a1_0, .int .u64 a1_1, .int .u64 a1_2, .int .i64 a1_3] 47 (0, 0)) hg; clear BK134; clear BK135; clear HB; have BK134 := n0_; have BK135 := n1_; have HB := n2_; have BK136 := n3_; have GW136 := n4_; have GE136 := n5_; have NB134_136 := n6_; have NB136_134 := n7_; have NB135_136 := n8_; have NB136_135 := n9_; clear n0_ n1_ n2_ n3_ n4_ n5_ n6_ n7_ n8_ n9_; clear hb hbox hg) | ((with_reducible refine gate_dst (N := 5) rfl ?_); refine box_event ?hg (N := 5) ?hd (cs := #[.bool false, .int .u64 0, .int .u64 0]) (t := 30) ?hr ?_; (case hd => rfl); (case hg => rfl); (case hr => first | (go_simp; done) | (go_simp; rfl)); intro gb137 hg w7 hbox hb; have n0_ := bb_ (g := gb134) (o := .cells #[.bool a0_0, .int .u64 a0_1, .int .u64 a0_2, .int .i64 a0_3] 47 (0, 0)) hb; have n1_ := bb_ (g := gb135) (o := .cells #[.bool a1_0, .int .u64 a1_1, .int .u64 a1_2, .int .i64 a1_3] 47 (0, 0)) hb; have n2_ := bb_ (g := gb136) (o := .cells #[.bool false, .int .u64 0, .int .u64 0] 30 (0, 0)) hb; have n3_ := Aside0.mk (below_step bel_ hb); have n4_ := Aside0.mk (hbox); have n5_ := bs_ (w := w) hg; have n6_ := bs_ (w := w) hg; have n7_ := nlt_ (g := gb134) (o := .cells #[.bool a0_0, .int .u64 a0_1, .int .u64 a0_2, .int .i64 a0_3] 47 (0, 0)) hg; have n8_ := ngt_ (g := gb134) (o := .cells #[.bool a0_0, .int .u64 a0_1, .int .u64 a0_2, .int .i64 a0_3] 47 (0, 0)) hg; have n9_ := nlt_ (g := gb135) (o := .cells #[.bool a1_0, .int .u64 a1_1, .int .u64 a1_2, .int .i64 a1_3] 47 (0, 0)) hg; have n10_ := ngt_ (g := gb135) (o := .cells #[.bool a1_0, .int .u64 a1_1, .int .u64 a1_2, .int .i64 a1_3] 47 (0, 0)) hg; have n11_ := nlt_ (g := gb136) (o := .cells #[.bool false, .int .u64 0, .int .u64 0] 30 (0, 0)) hg; have n12_ := ngt_ (g := gb136) (o := .cells #[.bool false, .int .u64 0, .int .u64 0] 30 (0, 0)) hg; clear BK134; clear BK135; clear BK136; clear HB; have BK134 := n0_; have BK135 := n1_; have BK136 := n2_; have HB := n3_; have BK137 := n4_; have GW137 := n5_; have GE137 := n6_; have NB134_137 := n7_; have NB137_134 := n8_; have NB135_137 := n9_; have NB137_135 := n10_; have NB136_137 := n11_; have NB137_136 := n12_; clear n0_ n1_ n2_ n3_ n4_ n5_ n6_ n7_ n8_ n9_ n10_ n11_ n12_; clear hb hbox hg))
  (try simp only [Act.put, la_, lb_, lc_])
  go_cut [18] (fun v18 wc => ∃ (kq : Nat) (x18_2 : Bool), v18 = .bool x18_2 ∧ Aside0 (spec_l5Cross.j0 kq x18_2 a0_0 a0_1 a0_2 a0_3 a1_0 a1_1 a1_2 a1_3 = some (r1, r2, r3, r4, r5, r6, r7)) ∧ Aside0 (kq ≤ k) ∧ Aside0 (wc.heap[gb134]? = some (.cells #[.bool a0_0, .int .u64 a0_1, .int .u64 a0_2, .int .i64 a0_3] 47 (0, 0))) ∧ Aside0 (wc.heap[gb135]? = some (.cells #[.bool a1_0, .int .u64 a1_1, .int .u64 a1_2, .int .i64 a1_3] 47 (0, 0))) ∧ Aside0 (wc.heap[gb136]? = some (.cells #[.bool false, .int .u64 0, .int .u64 0] 30 (0, 0))) ∧ Aside0 (wc.heap[gb137]? = some (.cells #[.bool false, .int .u64 0, .int .u64 0] 30 (0, 0))) ∧ Aside0 (Below w.heap.size w wc))
  case first =>
    have H := HC3.out
    clear HC3
    replace H := Option.bind_eq_some_iff.mp H
    obtain ⟨t138, A80, H⟩ := H
    replace H : (if t138 = true then ((spec_FracOk.f a1_0 a1_1 a1_2 a1_3).bind fun t139 => (spec_l5Cross.j0 k (!t139) a0_0 a0_1 a0_2 a0_3 a1_0 a1_1 a1_2 a1_3)) else (spec_l5Cross.j0 k true a0_0 a0_1 a0_2 a0_3 a1_0 a1_1 a1_2 a1_3)) = some (r1, r2, r3, r4, r5, r6, r7) := H
    have A8 := Aside0.mk A80
    clear A80
    by_cases c9 : t138 = true
    · subst c9
      have H1 : ((spec_FracOk.f a1_0 a1_1 a1_2 a1_3).bind fun t139 => (spec_l5Cross.j0 k (!t139) a0_0 a0_1 a0_2 a0_3 a1_0 a1_1 a1_2 a1_3)) = some (r1, r2, r3, r4, r5, r6, r7) := by rw [if_pos rfl] at H; exact H
      clear H
      have H := H1
      clear H1
      replace H := Option.bind_eq_some_iff.mp H
      obtain ⟨t139, A100, H⟩ := H
      replace H : (spec_l5Cross.j0 k (!t139) a0_0 a0_1 a0_2 a0_3 a1_0 a1_1 a1_2 a1_3) = some (r1, r2, r3, r4, r5, r6, r7) := H
      have A10 := Aside0.mk A100
      clear A100
      have H' := Aside0.mk H
      clear H
      have hnb11 := NB134_135.out
      have hnc11 := NB135_134.out
      have hnb12 := NB134_136.out
      have hnc12 := NB136_134.out
      have hnb13 := NB134_137.out
      have hnc13 := NB137_134.out
      obtain ⟨hcz14_0, hcz14_1, hcz14_2, hcz14_3, hfz14_0, hfz14_1, hfz14_2, hfz14_3⟩ := cf4_ (w := w7) BK134.out
      go_wp2_with (first | ((with_reducible refine gate_callee (f := 50) rfl ?_); refine goesL_ (some 12) rfl rfl Try.func50 (by kernel_rfl) rfl #[.agg #[.bool a0_0, .int .u64 a0_1, .int .u64 a0_2, .int .i64 a0_3]] rfl mp_ ?_; (with_reducible refine (spec_FracOk.calls a0_0 a0_1 a0_2 a0_3 true _ A8.out).mono ?_); rintro e w15 ⟨rfl, hb⟩; refine ⟨_, rfl, ?_⟩; have n0_ := bb_ (g := gb134) (o := .cells #[.bool a0_0, .int .u64 a0_1, .int .u64 a0_2, .int .i64 a0_3] 47 (0, 0)) hb; have n1_ := bb_ (g := gb135) (o := .cells #[.bool a1_0, .int .u64 a1_1, .int .u64 a1_2, .int .i64 a1_3] 47 (0, 0)) hb; have n2_ := bb_ (g := gb136) (o := .cells #[.bool false, .int .u64 0, .int .u64 0] 30 (0, 0)) hb; have n3_ := bb_ (g := gb137) (o := .cells #[.bool false, .int .u64 0, .int .u64 0] 30 (0, 0)) hb; have n4_ := Aside0.mk (below_step bel_ hb); clear BK134; clear BK135; clear BK136; clear BK137; clear HB; have BK134 := n0_; have BK135 := n1_; have BK136 := n2_; have BK137 := n3_; have HB := n4_; clear n0_ n1_ n2_ n3_ n4_; (try clear hb); (try clear hb2); (try clear hk); (try clear hi); have hnb16 := NB135_136.out; have hnc16 := NB136_135.out; have hnb17 := NB135_137.out; have hnc17 := NB137_135.out; obtain ⟨hcz18_0, hcz18_1, hcz18_2, hcz18_3, hfz18_0, hfz18_1, hfz18_2, hfz18_3⟩ := cf4_ (w := w15) BK135.out) | (go_at_call 50; (with_reducible refine (spec_FracOk.calls a1_0 a1_1 a1_2 a1_3 t139 _ A10.out).mono ?_); rintro e w19 ⟨rfl, hb⟩; have n0_ := bb_ (g := gb134) (o := .cells #[.bool a0_0, .int .u64 a0_1, .int .u64 a0_2, .int .i64 a0_3] 47 (0, 0)) hb; have n1_ := bb_ (g := gb135) (o := .cells #[.bool a1_0, .int .u64 a1_1, .int .u64 a1_2, .int .i64 a1_3] 47 (0, 0)) hb; have n2_ := bb_ (g := gb136) (o := .cells #[.bool false, .int .u64 0, .int .u64 0] 30 (0, 0)) hb; have n3_ := bb_ (g := gb137) (o := .cells #[.bool false, .int .u64 0, .int .u64 0] 30 (0, 0)) hb; have n4_ := Aside0.mk (below_step bel_ hb); clear BK134; clear BK135; clear BK136; clear BK137; clear HB; have BK134 := n0_; have BK135 := n1_; have BK136 := n2_; have BK137 := n3_; have HB := n4_; clear n0_ n1_ n2_ n3_ n4_; (try clear hb); (try clear hb2); (try clear hk); (try clear hi)))
      go_meet
      case rel => exact ⟨_, (!t139), (by first | rfl | (simp; done) | (simp [*]; done)), H', ⟨by first | omega | exact Nat.le_refl _⟩, ⟨by (with_reducible repeat (first | refine bN_ _ ?_ | refine bd_ ?_ | refine ba_ _ ?_)); exact BK134.out⟩, ⟨by (with_reducible repeat (first | refine bN_ _ ?_ | refine bd_ ?_ | refine ba_ _ ?_)); exact BK135.out⟩, ⟨by (with_reducible repeat (first | refine bN_ _ ?_ | refine bd_ ?_ | refine ba_ _ ?_)); exact BK136.out⟩, ⟨by (with_reducible repeat (first | refine bN_ _ ?_ | refine bd_ ?_ | refine ba_ _ ?_)); exact BK137.out⟩, ⟨by repeat (first | (with_reducible first | exact HB.out | apply below_alloc | apply pw_below_drewN | apply below_drew1 | refine below_set ?_ GE134.out | refine below_set ?_ GE135.out | refine below_set ?_ GE136.out | refine below_set ?_ GE137.out) | exact HB.out)⟩⟩
    · replace c9 := Bool.eq_false_iff.mpr c9
      subst c9
      have H1 : (spec_l5Cross.j0 k true a0_0 a0_1 a0_2 a0_3 a1_0 a1_1 a1_2 a1_3) = some (r1, r2, r3, r4, r5, r6, r7) := by rw [if_neg (show ¬ (false = true) by decide)] at H; exact H
      clear H
      have H := H1
      clear H1
      have H' := Aside0.mk H
      clear H
      have hnb20 := NB134_135.out
      have hnc20 := NB135_134.out
      have hnb21 := NB134_136.out
      have hnc21 := NB136_134.out
      have hnb22 := NB134_137.out
      have hnc22 := NB137_134.out
      obtain ⟨hcz23_0, hcz23_1, hcz23_2, hcz23_3, hfz23_0, hfz23_1, hfz23_2, hfz23_3⟩ := cf4_ (w := w7) BK134.out
      go_wp2_with (first | ((with_reducible refine gate_callee (f := 50) rfl ?_); refine goesL_ (some 12) rfl rfl Try.func50 (by kernel_rfl) rfl #[.agg #[.bool a0_0, .int .u64 a0_1, .int .u64 a0_2, .int .i64 a0_3]] rfl mp_ ?_; (with_reducible refine (spec_FracOk.calls a0_0 a0_1 a0_2 a0_3 false _ A8.out).mono ?_); rintro e w24 ⟨rfl, hb⟩; refine ⟨_, rfl, ?_⟩; have n0_ := bb_ (g := gb134) (o := .cells #[.bool a0_0, .int .u64 a0_1, .int .u64 a0_2, .int .i64 a0_3] 47 (0, 0)) hb; have n1_ := bb_ (g := gb135) (o := .cells #[.bool a1_0, .int .u64 a1_1, .int .u64 a1_2, .int .i64 a1_3] 47 (0, 0)) hb; have n2_ := bb_ (g := gb136) (o := .cells #[.bool false, .int .u64 0, .int .u64 0] 30 (0, 0)) hb; have n3_ := bb_ (g := gb137) (o := .cells #[.bool false, .int .u64 0, .int .u64 0] 30 (0, 0)) hb; have n4_ := Aside0.mk (below_step bel_ hb); clear BK134; clear BK135; clear BK136; clear BK137; clear HB; have BK134 := n0_; have BK135 := n1_; have BK136 := n2_; have BK137 := n3_; have HB := n4_; clear n0_ n1_ n2_ n3_ n4_; (try clear hb); (try clear hb2); (try clear hk); (try clear hi)))
      go_meet
      case rel => exact ⟨_, (true), (by first | rfl | (simp; done) | (simp [*]; done)), H', ⟨by first | omega | exact Nat.le_refl _⟩, ⟨by (with_reducible repeat (first | refine bN_ _ ?_ | refine bd_ ?_ | refine ba_ _ ?_)); exact BK134.out⟩, ⟨by (with_reducible repeat (first | refine bN_ _ ?_ | refine bd_ ?_ | refine ba_ _ ?_)); exact BK135.out⟩, ⟨by (with_reducible repeat (first | refine bN_ _ ?_ | refine bd_ ?_ | refine ba_ _ ?_)); exact BK136.out⟩, ⟨by (with_reducible repeat (first | refine bN_ _ ?_ | refine bd_ ?_ | refine ba_ _ ?_)); exact BK137.out⟩, ⟨by repeat (first | (with_reducible first | exact HB.out | apply below_alloc | apply pw_below_drewN | apply below_drew1 | refine below_set ?_ GE134.out | refine below_set ?_ GE135.out | refine below_set ?_ GE136.out | refine below_set ?_ GE137.out) | exact HB.out)⟩⟩
  case rest =>
    clear HC3
    try clear c1
    try clear c2
    try clear p2
    try clear c4
    try clear c5
    try clear c9
    try clear c11
    try clear c12
    try clear c13
    try clear c16
    try clear c17
    try clear c20
    try clear c21
    try clear c22
    try clear hcz14_0
    try clear hcz14_1
    try clear hcz14_2
    try clear hcz14_3
    try clear hcz18_0
    try clear hcz18_1
    try clear hcz18_2
    try clear hcz18_3
    try clear hcz23_0
    try clear hcz23_1
    try clear hcz23_2
    try clear hcz23_3
    try clear hfz14_0
    try clear hfz14_1
    try clear hfz14_2
    try clear hfz14_3
    try clear hfz18_0
    try clear hfz18_1
    try clear hfz18_2
    try clear hfz18_3
    try clear hfz23_0
    try clear hfz23_1
    try clear hfz23_2
    try clear hfz23_3
    obtain ⟨kq, x18_2, rfl, HA, HJ2, BK134, BK135, BK136, BK137, HB⟩ := hcut
    cases kq with
    | zero => exact absurd HA.out (by simp [spec_l5Cross.j0])
    | succ kj2 =>
      have H := HA.out
      clear HA
      simp only [spec_l5Cross.j0] at H
      by_cases c25 : x18_2 = true
      · subst c25
        have H1 : (some (false, 0, 0, false, 0, 0, false)) = some (r1, r2, r3, r4, r5, r6, r7) := by rw [if_pos rfl] at H; exact H
        clear H
        have H := H1
        clear H1
        simp only [Option.some.injEq, Prod.mk.injEq] at H
        obtain ⟨rfl, rfl, rfl, rfl, rfl, rfl, rfl⟩ := H
        have hnb26 := NB136_134.out
        have hnc26 := NB134_136.out
        have hnb27 := NB136_135.out
        have hnc27 := NB135_136.out
        have hnb28 := NB136_137.out
        have hnc28 := NB137_136.out
        obtain ⟨hcz29_0, hcz29_1, hcz29_2, hfz29_0, hfz29_1, hfz29_2⟩ := cf3_ (w := wc) BK136.out
        have hnb30 := NB137_134.out
        have hnc30 := NB134_137.out
        have hnb31 := NB137_135.out
        have hnc31 := NB135_137.out
        obtain ⟨hcz32_0, hcz32_1, hcz32_2, hfz32_0, hfz32_1, hfz32_2⟩ := cf3_ (w := wc) BK137.out
        go_wp2
        refine bodyPost_ret (results_list (rs := [.cell 4 30, .cell 5 30, .tmp 6]) rfl (by simp) (.cell gb136 30 #[.bool false, .int .u64 0, .int .u64 0] (0, 0) _ rfl (pu_ #[.bool false, .int .u64 0, .int .u64 0] 2 (h := (pu_ #[.bool false, .int .u64 0, .int .u64 0] 1 (h := (pu_ #[.bool false, .int .u64 0, .int .u64 0] 0 (h := bk_)))))) Try.underlying30 rfl (by kernel_rfl) (.cell gb137 30 #[.bool false, .int .u64 0, .int .u64 0] (0, 0) _ rfl (pu_ #[.bool false, .int .u64 0, .int .u64 0] 2 (h := (pu_ #[.bool false, .int .u64 0, .int .u64 0] 1 (h := (pu_ #[.bool false, .int .u64 0, .int .u64 0] 0 (h := bk_)))))) Try.underlying30 rfl (by kernel_rfl) (.tmp .nil)))) rfl ?_
        exact ⟨by first | rfl | (simp [errW_none, errW_some] <;> rfl) | (simp [*, errW_none, errW_some] <;> rfl), by repeat (first | (with_reducible first | exact HB.out | apply below_alloc | apply pw_below_drewN | apply below_drew1 | refine below_set ?_ GE134.out | refine below_set ?_ GE135.out | refine below_set ?_ GE136.out | refine below_set ?_ GE137.out) | exact HB.out)⟩
      · replace c25 := Bool.eq_false_iff.mpr c25
        subst c25
        have H1 : ((spec_ScaleWide.f a0_0 a0_1 a0_2 a1_3).bind fun bt140 => ((spec_ScaleWide.f a1_0 a1_1 a1_2 a0_3).bind fun bt145 => (if bt140.2.2.2 = true then (some (bt140.1, bt140.2.1, bt140.2.2.1, bt145.1, bt145.2.1, bt145.2.2.1, bt145.2.2.2)) else (some (bt140.1, bt140.2.1, bt140.2.2.1, bt145.1, bt145.2.1, bt145.2.2.1, false))))) = some (r1, r2, r3, r4, r5, r6, r7) := by rw [if_neg (show ¬ (false = true) by decide)] at H; exact H
        clear H
        have H := H1
        clear H1
        replace H := Option.bind_eq_some_iff.mp H
        obtain ⟨⟨t140, t141, t142, t143⟩, A330, H⟩ := H
        replace H : ((spec_ScaleWide.f a1_0 a1_1 a1_2 a0_3).bind fun bt145 => (if t143 = true then (some (t140, t141, t142, bt145.1, bt145.2.1, bt145.2.2.1, bt145.2.2.2)) else (some (t140, t141, t142, bt145.1, bt145.2.1, bt145.2.2.1, false)))) = some (r1, r2, r3, r4, r5, r6, r7) := H
        have A33 := Aside0.mk A330
        clear A330
        replace H := Option.bind_eq_some_iff.mp H
        obtain ⟨⟨t145, t146, t147, t148⟩, A340, H⟩ := H
        replace H : (if t143 = true then (some (t140, t141, t142, t145, t146, t147, t148)) else (some (t140, t141, t142, t145, t146, t147, false))) = some (r1, r2, r3, r4, r5, r6, r7) := H
        have A34 := Aside0.mk A340
        clear A340
        by_cases c35 : t143 = true
        · subst c35
          have H1 : (some (t140, t141, t142, t145, t146, t147, t148)) = some (r1, r2, r3, r4, r5, r6, r7) := by rw [if_pos rfl] at H; exact H
          clear H
          have H := H1
          clear H1
          simp only [Option.some.injEq, Prod.mk.injEq] at H
          obtain ⟨rfl, rfl, rfl, rfl, rfl, rfl, rfl⟩ := H
          have hnb36 := NB134_135.out
          have hnc36 := NB135_134.out
          have hnb37 := NB134_136.out
          have hnc37 := NB136_134.out
          have hnb38 := NB134_137.out
          have hnc38 := NB137_134.out
          obtain ⟨hcz39_0, hcz39_1, hcz39_2, hcz39_3, hfz39_0, hfz39_1, hfz39_2, hfz39_3⟩ := cf4_ (w := wc) BK134.out
          have hnb40 := NB135_136.out
          have hnc40 := NB136_135.out
          have hnb41 := NB135_137.out
          have hnc41 := NB137_135.out
          obtain ⟨hcz42_0, hcz42_1, hcz42_2, hcz42_3, hfz42_0, hfz42_1, hfz42_2, hfz42_3⟩ := cf4_ (w := wc) BK135.out
          try go_wp2_with (first | ((with_reducible refine gate_callee (f := 12) rfl ?_); refine goesL_ (some 26) rfl rfl Try.func12 (by kernel_rfl) rfl #[.agg #[.bool a0_0, .int .u64 a0_1, .int .u64 a0_2], .int .i64 a1_3] rfl mp_ ?_; (with_reducible refine (spec_ScaleWide.calls a0_0 a0_1 a0_2 a1_3 t140 t141 t142 true _ A33.out).mono ?_); rintro e w43 ⟨rfl, hb⟩; refine ⟨_, rfl, ?_⟩; have n0_ := bb_ (g := gb134) (o := .cells #[.bool a0_0, .int .u64 a0_1, .int .u64 a0_2, .int .i64 a0_3] 47 (0, 0)) hb; have n1_ := bb_ (g := gb135) (o := .cells #[.bool a1_0, .int .u64 a1_1, .int .u64 a1_2, .int .i64 a1_3] 47 (0, 0)) hb; have n2_ := bb_ (g := gb136) (o := .cells #[.bool false, .int .u64 0, .int .u64 0] 30 (0, 0)) hb; have n3_ := bb_ (g := gb137) (o := .cells #[.bool false, .int .u64 0, .int .u64 0] 30 (0, 0)) hb; have n4_ := Aside0.mk (below_step bel_ hb); clear BK134; clear BK135; clear BK136; clear BK137; clear HB; have BK134 := n0_; have BK135 := n1_; have BK136 := n2_; have BK137 := n3_; have HB := n4_; clear n0_ n1_ n2_ n3_ n4_; (try clear hb); (try clear hb2); (try clear hk); (try clear hi)) | ((with_reducible refine gate_dst (N := 7) rfl ?_); refine box_event ?hg (N := 7) ?hd (cs := #[.bool false, .int .u64 0, .int .u64 0]) (t := 30) ?hr ?_; (case hd => rfl); (case hg => rfl); (case hr => first | (go_simp; done) | (go_simp; rfl)); intro gb144 hg w44 hbox hb; have n0_ := bb_ (g := gb134) (o := .cells #[.bool a0_0, .int .u64 a0_1, .int .u64 a0_2, .int .i64 a0_3] 47 (0, 0)) hb; have n1_ := bb_ (g := gb135) (o := .cells #[.bool a1_0, .int .u64 a1_1, .int .u64 a1_2, .int .i64 a1_3] 47 (0, 0)) hb; have n2_ := bb_ (g := gb136) (o := .cells #[.bool false, .int .u64 0, .int .u64 0] 30 (0, 0)) hb; have n3_ := bb_ (g := gb137) (o := .cells #[.bool false, .int .u64 0, .int .u64 0] 30 (0, 0)) hb; have n4_ := Aside0.mk (below_step bel_ hb); have n5_ := Aside0.mk (hbox); have n6_ := bs_ (w := w) hg; have n7_ := bs_ (w := w) hg; have n8_ := nlt_ (g := gb134) (o := .cells #[.bool a0_0, .int .u64 a0_1, .int .u64 a0_2, .int .i64 a0_3] 47 (0, 0)) hg; have n9_ := ngt_ (g := gb134) (o := .cells #[.bool a0_0, .int .u64 a0_1, .int .u64 a0_2, .int .i64 a0_3] 47 (0, 0)) hg; have n10_ := nlt_ (g := gb135) (o := .cells #[.bool a1_0, .int .u64 a1_1, .int .u64 a1_2, .int .i64 a1_3] 47 (0, 0)) hg; have n11_ := ngt_ (g := gb135) (o := .cells #[.bool a1_0, .int .u64 a1_1, .int .u64 a1_2, .int .i64 a1_3] 47 (0, 0)) hg; have n12_ := nlt_ (g := gb136) (o := .cells #[.bool false, .int .u64 0, .int .u64 0] 30 (0, 0)) hg; have n13_ := ngt_ (g := gb136) (o := .cells #[.bool false, .int .u64 0, .int .u64 0] 30 (0, 0)) hg; have n14_ := nlt_ (g := gb137) (o := .cells #[.bool false, .int .u64 0, .int .u64 0] 30 (0, 0)) hg; have n15_ := ngt_ (g := gb137) (o := .cells #[.bool false, .int .u64 0, .int .u64 0] 30 (0, 0)) hg; clear BK134; clear BK135; clear BK136; clear BK137; clear HB; have BK134 := n0_; have BK135 := n1_; have BK136 := n2_; have BK137 := n3_; have HB := n4_; have BK144 := n5_; have GW144 := n6_; have GE144 := n7_; have NB134_144 := n8_; have NB144_134 := n9_; have NB135_144 := n10_; have NB144_135 := n11_; have NB136_144 := n12_; have NB144_136 := n13_; have NB137_144 := n14_; have NB144_137 := n15_; clear n0_ n1_ n2_ n3_ n4_ n5_ n6_ n7_ n8_ n9_ n10_ n11_ n12_ n13_ n14_ n15_; clear hb hbox hg; have hnb45 := NB144_134.out; have hnc45 := NB134_144.out; have hnb46 := NB144_135.out; have hnc46 := NB135_144.out; have hnb47 := NB144_136.out; have hnc47 := NB136_144.out; have hnb48 := NB144_137.out; have hnc48 := NB137_144.out; obtain ⟨hcz49_0, hcz49_1, hcz49_2, hfz49_0, hfz49_1, hfz49_2⟩ := cf3_ (w := w44) BK144.out; obtain ⟨hcz50_0, hcz50_1, hcz50_2, hcz50_3, hfz50_0, hfz50_1, hfz50_2, hfz50_3⟩ := cf4_ (w := w44) BK135.out; obtain ⟨hcz51_0, hcz51_1, hcz51_2, hcz51_3, hfz51_0, hfz51_1, hfz51_2, hfz51_3⟩ := cf4_ (w := w44) BK134.out) | ((with_reducible refine gate_callee (f := 12) rfl ?_); refine goesL_ (some 34) rfl rfl Try.func12 (by kernel_rfl) rfl #[.agg #[.bool a1_0, .int .u64 a1_1, .int .u64 a1_2], .int .i64 a0_3] rfl mp_ ?_; (with_reducible refine (spec_ScaleWide.calls a1_0 a1_1 a1_2 a0_3 t145 t146 t147 t148 _ A34.out).mono ?_); rintro e w52 ⟨rfl, hb⟩; refine ⟨_, rfl, ?_⟩; have n0_ := Aside0.mk (blk_below (g := gb134) (o := .cells #[.bool a0_0, .int .u64 a0_1, .int .u64 a0_2, .int .i64 a0_3] 47 (0, 0)) bk_ hb); have n1_ := Aside0.mk (blk_below (g := gb135) (o := .cells #[.bool a1_0, .int .u64 a1_1, .int .u64 a1_2, .int .i64 a1_3] 47 (0, 0)) bk_ hb); have n2_ := Aside0.mk (blk_below (g := gb136) (o := .cells #[.bool false, .int .u64 0, .int .u64 0] 30 (0, 0)) bk_ hb); have n3_ := Aside0.mk (blk_below (g := gb137) (o := .cells #[.bool false, .int .u64 0, .int .u64 0] 30 (0, 0)) bk_ hb); have n4_ := Aside0.mk (blk_below (g := gb144) (o := .cells #[.bool t140, .int .u64 t141, .int .u64 t142] 30 (0, 0)) (pu_ #[.bool t140, .int .u64 t141, .int .u64 0] 2 (h := (pu_ #[.bool t140, .int .u64 0, .int .u64 0] 1 (h := (pu_ #[.bool false, .int .u64 0, .int .u64 0] 0 (h := bk_)))))) hb); have n5_ := Aside0.mk (below_step bel_ hb); clear BK134; clear BK135; clear BK136; clear BK137; clear BK144; clear HB; have BK134 := n0_; have BK135 := n1_; have BK136 := n2_; have BK137 := n3_; have BK144 := n4_; have HB := n5_; clear n0_ n1_ n2_ n3_ n4_ n5_; (try clear hb); (try clear hb2); (try clear hk); (try clear hi)) | ((with_reducible refine gate_dst (N := 9) rfl ?_); refine box_event ?hg (N := 9) ?hd (cs := #[.bool false, .int .u64 0, .int .u64 0]) (t := 30) ?hr ?_; (case hd => rfl); (case hg => rfl); (case hr => first | (go_simp; done) | (go_simp; rfl)); intro gb149 hg w53 hbox hb; have n0_ := bb_ (g := gb134) (o := .cells #[.bool a0_0, .int .u64 a0_1, .int .u64 a0_2, .int .i64 a0_3] 47 (0, 0)) hb; have n1_ := bb_ (g := gb135) (o := .cells #[.bool a1_0, .int .u64 a1_1, .int .u64 a1_2, .int .i64 a1_3] 47 (0, 0)) hb; have n2_ := bb_ (g := gb136) (o := .cells #[.bool false, .int .u64 0, .int .u64 0] 30 (0, 0)) hb; have n3_ := bb_ (g := gb137) (o := .cells #[.bool false, .int .u64 0, .int .u64 0] 30 (0, 0)) hb; have n4_ := bb_ (g := gb144) (o := .cells #[.bool t140, .int .u64 t141, .int .u64 t142] 30 (0, 0)) hb; have n5_ := Aside0.mk (below_step bel_ hb); have n6_ := Aside0.mk (hbox); have n7_ := bs_ (w := w) hg; have n8_ := bs_ (w := w) hg; have n9_ := nlt_ (g := gb134) (o := .cells #[.bool a0_0, .int .u64 a0_1, .int .u64 a0_2, .int .i64 a0_3] 47 (0, 0)) hg; have n10_ := ngt_ (g := gb134) (o := .cells #[.bool a0_0, .int .u64 a0_1, .int .u64 a0_2, .int .i64 a0_3] 47 (0, 0)) hg; have n11_ := nlt_ (g := gb135) (o := .cells #[.bool a1_0, .int .u64 a1_1, .int .u64 a1_2, .int .i64 a1_3] 47 (0, 0)) hg; have n12_ := ngt_ (g := gb135) (o := .cells #[.bool a1_0, .int .u64 a1_1, .int .u64 a1_2, .int .i64 a1_3] 47 (0, 0)) hg; have n13_ := nlt_ (g := gb136) (o := .cells #[.bool false, .int .u64 0, .int .u64 0] 30 (0, 0)) hg; have n14_ := ngt_ (g := gb136) (o := .cells #[.bool false, .int .u64 0, .int .u64 0] 30 (0, 0)) hg; have n15_ := nlt_ (g := gb137) (o := .cells #[.bool false, .int .u64 0, .int .u64 0] 30 (0, 0)) hg; have n16_ := ngt_ (g := gb137) (o := .cells #[.bool false, .int .u64 0, .int .u64 0] 30 (0, 0)) hg; have n17_ := nlt_ (g := gb144) (o := .cells #[.bool t140, .int .u64 t141, .int .u64 t142] 30 (0, 0)) hg; have n18_ := ngt_ (g := gb144) (o := .cells #[.bool t140, .int .u64 t141, .int .u64 t142] 30 (0, 0)) hg; clear BK134; clear BK135; clear BK136; clear BK137; clear BK144; clear HB; have BK134 := n0_; have BK135 := n1_; have BK136 := n2_; have BK137 := n3_; have BK144 := n4_; have HB := n5_; have BK149 := n6_; have GW149 := n7_; have GE149 := n8_; have NB134_149 := n9_; have NB149_134 := n10_; have NB135_149 := n11_; have NB149_135 := n12_; have NB136_149 := n13_; have NB149_136 := n14_; have NB137_149 := n15_; have NB149_137 := n16_; have NB144_149 := n17_; have NB149_144 := n18_; clear n0_ n1_ n2_ n3_ n4_ n5_ n6_ n7_ n8_ n9_ n10_ n11_ n12_ n13_ n14_ n15_ n16_ n17_ n18_; clear hb hbox hg; have hnb54 := NB149_134.out; have hnc54 := NB134_149.out; have hnb55 := NB149_135.out; have hnc55 := NB135_149.out; have hnb56 := NB149_136.out; have hnc56 := NB136_149.out; have hnb57 := NB149_137.out; have hnc57 := NB137_149.out; have hnb58 := NB149_144.out; have hnc58 := NB144_149.out; obtain ⟨hcz59_0, hcz59_1, hcz59_2, hfz59_0, hfz59_1, hfz59_2⟩ := cf3_ (w := w53) BK149.out))
          have n0_ : Aside0 ((((w53.setCell ⟨gb149, 0, none⟩ (.bool t145)).setCell ⟨gb149, 1, none⟩ (.int .u64 t146)).setCell ⟨gb149, 2, none⟩ (.int .u64 t147)).heap[gb134]? = some (.cells #[.bool a0_0, .int .u64 a0_1, .int .u64 a0_2, .int .i64 a0_3] 47 (0, 0))) := ⟨by (with_reducible repeat (first | refine bN_ _ ?_ | refine bd_ ?_ | refine ba_ _ ?_)); refine blk_far ?_ NB134_149.out _; (with_reducible repeat (first | refine bN_ _ ?_ | refine bd_ ?_ | refine ba_ _ ?_)); refine blk_far ?_ NB134_149.out _; (with_reducible repeat (first | refine bN_ _ ?_ | refine bd_ ?_ | refine ba_ _ ?_)); refine blk_far ?_ NB134_149.out _; (with_reducible repeat (first | refine bN_ _ ?_ | refine bd_ ?_ | refine ba_ _ ?_)); exact BK134.out⟩
          have n1_ : Aside0 ((((w53.setCell ⟨gb149, 0, none⟩ (.bool t145)).setCell ⟨gb149, 1, none⟩ (.int .u64 t146)).setCell ⟨gb149, 2, none⟩ (.int .u64 t147)).heap[gb135]? = some (.cells #[.bool a1_0, .int .u64 a1_1, .int .u64 a1_2, .int .i64 a1_3] 47 (0, 0))) := ⟨by (with_reducible repeat (first | refine bN_ _ ?_ | refine bd_ ?_ | refine ba_ _ ?_)); refine blk_far ?_ NB135_149.out _; (with_reducible repeat (first | refine bN_ _ ?_ | refine bd_ ?_ | refine ba_ _ ?_)); refine blk_far ?_ NB135_149.out _; (with_reducible repeat (first | refine bN_ _ ?_ | refine bd_ ?_ | refine ba_ _ ?_)); refine blk_far ?_ NB135_149.out _; (with_reducible repeat (first | refine bN_ _ ?_ | refine bd_ ?_ | refine ba_ _ ?_)); exact BK135.out⟩
          have n2_ : Aside0 ((((w53.setCell ⟨gb149, 0, none⟩ (.bool t145)).setCell ⟨gb149, 1, none⟩ (.int .u64 t146)).setCell ⟨gb149, 2, none⟩ (.int .u64 t147)).heap[gb136]? = some (.cells #[.bool false, .int .u64 0, .int .u64 0] 30 (0, 0))) := ⟨by (with_reducible repeat (first | refine bN_ _ ?_ | refine bd_ ?_ | refine ba_ _ ?_)); refine blk_far ?_ NB136_149.out _; (with_reducible repeat (first | refine bN_ _ ?_ | refine bd_ ?_ | refine ba_ _ ?_)); refine blk_far ?_ NB136_149.out _; (with_reducible repeat (first | refine bN_ _ ?_ | refine bd_ ?_ | refine ba_ _ ?_)); refine blk_far ?_ NB136_149.out _; (with_reducible repeat (first | refine bN_ _ ?_ | refine bd_ ?_ | refine ba_ _ ?_)); exact BK136.out⟩
          have n3_ : Aside0 ((((w53.setCell ⟨gb149, 0, none⟩ (.bool t145)).setCell ⟨gb149, 1, none⟩ (.int .u64 t146)).setCell ⟨gb149, 2, none⟩ (.int .u64 t147)).heap[gb137]? = some (.cells #[.bool false, .int .u64 0, .int .u64 0] 30 (0, 0))) := ⟨by (with_reducible repeat (first | refine bN_ _ ?_ | refine bd_ ?_ | refine ba_ _ ?_)); refine blk_far ?_ NB137_149.out _; (with_reducible repeat (first | refine bN_ _ ?_ | refine bd_ ?_ | refine ba_ _ ?_)); refine blk_far ?_ NB137_149.out _; (with_reducible repeat (first | refine bN_ _ ?_ | refine bd_ ?_ | refine ba_ _ ?_)); refine blk_far ?_ NB137_149.out _; (with_reducible repeat (first | refine bN_ _ ?_ | refine bd_ ?_ | refine ba_ _ ?_)); exact BK137.out⟩
          have n4_ : Aside0 ((((w53.setCell ⟨gb149, 0, none⟩ (.bool t145)).setCell ⟨gb149, 1, none⟩ (.int .u64 t146)).setCell ⟨gb149, 2, none⟩ (.int .u64 t147)).heap[gb144]? = some (.cells #[.bool t140, .int .u64 t141, .int .u64 t142] 30 (0, 0))) := ⟨by (with_reducible repeat (first | refine bN_ _ ?_ | refine bd_ ?_ | refine ba_ _ ?_)); refine blk_far ?_ NB144_149.out _; (with_reducible repeat (first | refine bN_ _ ?_ | refine bd_ ?_ | refine ba_ _ ?_)); refine blk_far ?_ NB144_149.out _; (with_reducible repeat (first | refine bN_ _ ?_ | refine bd_ ?_ | refine ba_ _ ?_)); refine blk_far ?_ NB144_149.out _; (with_reducible repeat (first | refine bN_ _ ?_ | refine bd_ ?_ | refine ba_ _ ?_)); exact BK144.out⟩
          have n5_ : Aside0 ((((w53.setCell ⟨gb149, 0, none⟩ (.bool t145)).setCell ⟨gb149, 1, none⟩ (.int .u64 t146)).setCell ⟨gb149, 2, none⟩ (.int .u64 t147)).heap[gb149]? = some (.cells #[.bool t145, .int .u64 t146, .int .u64 t147] 30 (0, 0))) := ⟨by (with_reducible repeat (first | refine bN_ _ ?_ | refine bd_ ?_ | refine ba_ _ ?_)); refine blk_put (cs := #[.bool t145, .int .u64 t146, .int .u64 0]) ?_ 2 _ rfl; (with_reducible repeat (first | refine bN_ _ ?_ | refine bd_ ?_ | refine ba_ _ ?_)); refine blk_put (cs := #[.bool t145, .int .u64 0, .int .u64 0]) ?_ 1 _ rfl; (with_reducible repeat (first | refine bN_ _ ?_ | refine bd_ ?_ | refine ba_ _ ?_)); refine blk_put (cs := #[.bool false, .int .u64 0, .int .u64 0]) ?_ 0 _ rfl; (with_reducible repeat (first | refine bN_ _ ?_ | refine bd_ ?_ | refine ba_ _ ?_)); exact BK149.out⟩
          have n6_ : Aside0 (Below w.heap.size w (((w53.setCell ⟨gb149, 0, none⟩ (.bool t145)).setCell ⟨gb149, 1, none⟩ (.int .u64 t146)).setCell ⟨gb149, 2, none⟩ (.int .u64 t147))) := ⟨by repeat (first | (with_reducible first | exact HB.out | apply below_alloc | apply pw_below_drewN | apply below_drew1 | refine below_set ?_ GE134.out | refine below_set ?_ GE135.out | refine below_set ?_ GE136.out | refine below_set ?_ GE137.out | refine below_set ?_ GE144.out | refine below_set ?_ GE149.out) | exact HB.out)⟩
          (try clear BK134)
          (try clear BK135)
          (try clear BK136)
          (try clear BK137)
          (try clear BK144)
          (try clear BK149)
          (try clear HB)
          generalize (((w53.setCell ⟨gb149, 0, none⟩ (.bool t145)).setCell ⟨gb149, 1, none⟩ (.int .u64 t146)).setCell ⟨gb149, 2, none⟩ (.int .u64 t147)) = w60 at n0_ n1_ n2_ n3_ n4_ n5_ n6_ ⊢
          have BK134 := n0_
          have BK135 := n1_
          have BK136 := n2_
          have BK137 := n3_
          have BK144 := n4_
          have BK149 := n5_
          have HB := n6_
          clear n0_ n1_ n2_ n3_ n4_ n5_ n6_
          have n0_ := Aside0.mk (blk_drew BK134.out)
          have n1_ := Aside0.mk (blk_drew BK135.out)
          have n2_ := Aside0.mk (blk_drew BK136.out)
          have n3_ := Aside0.mk (blk_drew BK137.out)
          have n4_ := Aside0.mk (blk_drew BK144.out)
          have n5_ := Aside0.mk (blk_drew BK149.out)
          have n6_ := Aside0.mk (below_drew1 HB.out)
          clear BK134
          clear BK135
          clear BK136
          clear BK137
          clear BK144
          clear BK149
          clear HB
          have BK134 := n0_
          have BK135 := n1_
          have BK136 := n2_
          have BK137 := n3_
          have BK144 := n4_
          have BK149 := n5_
          have HB := n6_
          clear n0_ n1_ n2_ n3_ n4_ n5_ n6_
          refine start_ (n := 9) (S := fun w' => w'.cell? ⟨gb144, 0, none⟩ = some (.bool t140) ∧ w'.cell? ⟨gb144, 1, none⟩ = some (.int .u64 t141) ∧ w'.cell? ⟨gb144, 2, none⟩ = some (.int .u64 t142) ∧ w'.cell? ⟨gb149, 0, none⟩ = some (.bool t145) ∧ w'.cell? ⟨gb149, 1, none⟩ = some (.int .u64 t146) ∧ w'.cell? ⟨gb149, 2, none⟩ = some (.int .u64 t147)) (ds := []) #[false, false, false, false, false, false, false, false, false] (by kernel_rfl) rfl rfl ⟨bc_, bc_, bc_, bc_, bc_, bc_⟩ (fun hHeld => ?_); refine with_tabW spec_l5Cross.tab5 spec_l5Cross.bits5 (fun HT_ HW_ => ?_)
          generalize w60.drew = w61 at BK134 BK135 BK136 BK137 BK144 BK149 HB hHeld ⊢
          refine pure_ (i := 2) (N := some 39) (v := ?_) (a' := ?_) #[false, false, true, false, false, false, false, false, false] rfl rfl (any_of HT_.out (by kernel_rfl)) (fun _ _ _ h => h) (Or.inl ⟨by rfl, ?_⟩) ?_ ?_
          rotate_left
          · intro w'
            go_simp
            with_reducible rfl
          rotate_left
          · simp only [Act.put, la_, lb_, lc_, i64_w, i32_w]
            rfl
          refine pure_ (i := 3) (N := some 40) (v := ?_) (a' := ?_) #[false, false, true, true, false, false, false, false, false] rfl rfl (any_of HT_.out (by kernel_rfl)) (fun _ _ _ h => h) (Or.inl ⟨by rfl, ?_⟩) ?_ ?_
          rotate_left
          · intro w'
            go_simp
            with_reducible rfl
          rotate_left
          · simp only [Act.put, la_, lb_, lc_, i64_w, i32_w]
            rfl
          refine pure_ (i := 4) (N := some 41) (v := ?_) (a' := ?_) #[false, false, true, true, true, false, false, false, false] rfl rfl (any_of HT_.out (by kernel_rfl)) (fun _ _ _ h => h) (Or.inl ⟨by rfl, ?_⟩) ?_ ?_
          rotate_left
          · intro w'
            go_simp
            with_reducible rfl
          rotate_left
          · simp only [Act.put, la_, lb_, lc_, i64_w, i32_w]
            rfl
          refine pure_ (i := 5) (N := some 42) (v := ?_) (a' := ?_) #[false, false, true, true, true, true, false, false, false] rfl rfl (any_of HT_.out (by kernel_rfl)) (fun _ _ _ h => h) (Or.inl ⟨by rfl, ?_⟩) ?_ ?_
          rotate_left
          · intro w'
            go_simp
            with_reducible rfl
          rotate_left
          · simp only [Act.put, la_, lb_, lc_, i64_w, i32_w]
            rfl
          refine take_ (i := 0) (N := some 37) (v := ?_) (a' := ?_) #[true, false, true, true, true, true, false, false, false] rfl rfl (take_ofW HT_.out HW_.out (by kernel_rfl)) (fun _ _ _ h => h) (Or.inl ⟨by rfl, ?_⟩) hHeld ?_ ?_
          rotate_left
          · rintro w' ⟨s0, s1, s2, s3, s4, s5⟩
            go_simp
            with_reducible rfl
          rotate_left
          · simp only [Act.put, la_, lb_, lc_, i64_w, i32_w]
            rfl
          refine take_ (i := 1) (N := some 38) (v := ?_) (a' := ?_) #[true, true, true, true, true, true, false, false, false] rfl rfl (take_ofW HT_.out HW_.out (by kernel_rfl)) (fun _ _ _ h => h) (Or.inl ⟨by rfl, ?_⟩) hHeld ?_ ?_
          rotate_left
          · rintro w' ⟨s0, s1, s2, s3, s4, s5⟩
            go_simp
            with_reducible rfl
          rotate_left
          · simp only [Act.put, la_, lb_, lc_, i64_w, i32_w]
            rfl
          refine one_ (i := 6) (N := none) #[true, true, true, true, true, true, true, false, false] rfl rfl (one_of HT_.out (by kernel_rfl)) (by decide) (fun K hK => ?_)
          have hs62 : w61.cell? ⟨gb136, 0, none⟩ = some (.bool false) := (blk_cell BK136.out 0).trans rfl
          have hfs62 := blk_frozen BK136.out 0
          have hns62_0 := NB134_136.out
          have hns62_1 := NB135_136.out
          have hns62_3 := NB137_136.out
          have hns62_4 := NB144_136.out
          have hns62_5 := NB149_136.out
          have hms62_0 := NB136_134.out
          have hms62_1 := NB136_135.out
          have hms62_3 := NB136_137.out
          have hms62_4 := NB136_144.out
          have hms62_5 := NB136_149.out
          have hs63 : w61.cell? ⟨gb136, 1, none⟩ = some (.int .u64 0) := (blk_cell BK136.out 1).trans rfl
          have hfs63 := blk_frozen BK136.out 1
          have hns63_0 := NB134_136.out
          have hns63_1 := NB135_136.out
          have hns63_3 := NB137_136.out
          have hns63_4 := NB144_136.out
          have hns63_5 := NB149_136.out
          have hms63_0 := NB136_134.out
          have hms63_1 := NB136_135.out
          have hms63_3 := NB136_137.out
          have hms63_4 := NB136_144.out
          have hms63_5 := NB136_149.out
          have hs64 : w61.cell? ⟨gb136, 2, none⟩ = some (.int .u64 0) := (blk_cell BK136.out 2).trans rfl
          have hfs64 := blk_frozen BK136.out 2
          have hns64_0 := NB134_136.out
          have hns64_1 := NB135_136.out
          have hns64_3 := NB137_136.out
          have hns64_4 := NB144_136.out
          have hns64_5 := NB149_136.out
          have hms64_0 := NB136_134.out
          have hms64_1 := NB136_135.out
          have hms64_3 := NB136_137.out
          have hms64_4 := NB136_144.out
          have hms64_5 := NB136_149.out
          refine skip_ (w1 := ?_) (by rfl) rfl ?_ ?_
          rotate_left
          · go_simp
            rfl
          refine hK.out _ _ ⟨((cell_far (p := ⟨gb136, _, none⟩) NB144_136.out _).trans (((cell_far (p := ⟨gb136, _, none⟩) NB144_136.out _).trans (((cell_far (p := ⟨gb136, _, none⟩) NB144_136.out _).trans (hHeld.1)))))), ((cell_far (p := ⟨gb136, _, none⟩) NB144_136.out _).trans (((cell_far (p := ⟨gb136, _, none⟩) NB144_136.out _).trans (((cell_far (p := ⟨gb136, _, none⟩) NB144_136.out _).trans (hHeld.2.1)))))), ((cell_far (p := ⟨gb136, _, none⟩) NB144_136.out _).trans (((cell_far (p := ⟨gb136, _, none⟩) NB144_136.out _).trans (((cell_far (p := ⟨gb136, _, none⟩) NB144_136.out _).trans (hHeld.2.2.1)))))), ((cell_far (p := ⟨gb136, _, none⟩) NB149_136.out _).trans (((cell_far (p := ⟨gb136, _, none⟩) NB149_136.out _).trans (((cell_far (p := ⟨gb136, _, none⟩) NB149_136.out _).trans (hHeld.2.2.2.1)))))), ((cell_far (p := ⟨gb136, _, none⟩) NB149_136.out _).trans (((cell_far (p := ⟨gb136, _, none⟩) NB149_136.out _).trans (((cell_far (p := ⟨gb136, _, none⟩) NB149_136.out _).trans (hHeld.2.2.2.2.1)))))), ((cell_far (p := ⟨gb136, _, none⟩) NB149_136.out _).trans (((cell_far (p := ⟨gb136, _, none⟩) NB149_136.out _).trans (((cell_far (p := ⟨gb136, _, none⟩) NB149_136.out _).trans (hHeld.2.2.2.2.2))))))⟩ (fun hHeld => ?_)
          clear hK K
          refine one_ (i := 7) (N := none) #[true, true, true, true, true, true, true, true, false] rfl rfl (one_of HT_.out (by kernel_rfl)) (by decide) (fun K hK => ?_)
          have hs65 : w61.cell? ⟨gb137, 0, none⟩ = some (.bool false) := (blk_cell BK137.out 0).trans rfl
          have hfs65 := blk_frozen BK137.out 0
          have hns65_0 := NB134_137.out
          have hns65_1 := NB135_137.out
          have hns65_2 := NB136_137.out
          have hns65_4 := NB144_137.out
          have hns65_5 := NB149_137.out
          have hms65_0 := NB137_134.out
          have hms65_1 := NB137_135.out
          have hms65_2 := NB137_136.out
          have hms65_4 := NB137_144.out
          have hms65_5 := NB137_149.out
          have hs66 : w61.cell? ⟨gb137, 1, none⟩ = some (.int .u64 0) := (blk_cell BK137.out 1).trans rfl
          have hfs66 := blk_frozen BK137.out 1
          have hns66_0 := NB134_137.out
          have hns66_1 := NB135_137.out
          have hns66_2 := NB136_137.out
          have hns66_4 := NB144_137.out
          have hns66_5 := NB149_137.out
          have hms66_0 := NB137_134.out
          have hms66_1 := NB137_135.out
          have hms66_2 := NB137_136.out
          have hms66_4 := NB137_144.out
          have hms66_5 := NB137_149.out
          have hs67 : w61.cell? ⟨gb137, 2, none⟩ = some (.int .u64 0) := (blk_cell BK137.out 2).trans rfl
          have hfs67 := blk_frozen BK137.out 2
          have hns67_0 := NB134_137.out
          have hns67_1 := NB135_137.out
          have hns67_2 := NB136_137.out
          have hns67_4 := NB144_137.out
          have hns67_5 := NB149_137.out
          have hms67_0 := NB137_134.out
          have hms67_1 := NB137_135.out
          have hms67_2 := NB137_136.out
          have hms67_4 := NB137_144.out
          have hms67_5 := NB137_149.out
          refine skip_ (w1 := ?_) (by rfl) rfl ?_ ?_
          rotate_left
          · go_simp
            rfl
          refine hK.out _ _ ⟨((cell_far (p := ⟨gb137, _, none⟩) NB144_137.out _).trans (((cell_far (p := ⟨gb137, _, none⟩) NB144_137.out _).trans (((cell_far (p := ⟨gb137, _, none⟩) NB144_137.out _).trans (hHeld.1)))))), ((cell_far (p := ⟨gb137, _, none⟩) NB144_137.out _).trans (((cell_far (p := ⟨gb137, _, none⟩) NB144_137.out _).trans (((cell_far (p := ⟨gb137, _, none⟩) NB144_137.out _).trans (hHeld.2.1)))))), ((cell_far (p := ⟨gb137, _, none⟩) NB144_137.out _).trans (((cell_far (p := ⟨gb137, _, none⟩) NB144_137.out _).trans (((cell_far (p := ⟨gb137, _, none⟩) NB144_137.out _).trans (hHeld.2.2.1)))))), ((cell_far (p := ⟨gb137, _, none⟩) NB149_137.out _).trans (((cell_far (p := ⟨gb137, _, none⟩) NB149_137.out _).trans (((cell_far (p := ⟨gb137, _, none⟩) NB149_137.out _).trans (hHeld.2.2.2.1)))))), ((cell_far (p := ⟨gb137, _, none⟩) NB149_137.out _).trans (((cell_far (p := ⟨gb137, _, none⟩) NB149_137.out _).trans (((cell_far (p := ⟨gb137, _, none⟩) NB149_137.out _).trans (hHeld.2.2.2.2.1)))))), ((cell_far (p := ⟨gb137, _, none⟩) NB149_137.out _).trans (((cell_far (p := ⟨gb137, _, none⟩) NB149_137.out _).trans (((cell_far (p := ⟨gb137, _, none⟩) NB149_137.out _).trans (hHeld.2.2.2.2.2))))))⟩ (fun hHeld => ?_)
          clear hK K
          refine pure_ (i := 8) (N := some 6) (v := ?_) (a' := ?_) #[true, true, true, true, true, true, true, true, true] rfl rfl (any_of HT_.out (by kernel_rfl)) (fun _ _ _ h => h) (Or.inl ⟨by rfl, ?_⟩) ?_ ?_
          rotate_left
          · intro w'
            go_simp
            with_reducible rfl
          rotate_left
          · simp only [Act.put, la_, lb_, lc_, i64_w, i32_w]
            rfl
          refine done_ (done_of HT_.out (by kernel_rfl)) ?_
          try go_wp2
          refine bodyPost_ret (results_list (rs := [.cell 4 30, .cell 5 30, .tmp 6]) rfl (by simp) (.cell gb136 30 #[.bool t140, .int .u64 t141, .int .u64 t142] (0, 0) _ rfl (pu_ #[.bool t140, .int .u64 t141, .int .u64 0] 2 (h := (pu_ #[.bool t140, .int .u64 0, .int .u64 0] 1 (h := (pu_ #[.bool false, .int .u64 0, .int .u64 0] 0 (h := bk_)))))) Try.underlying30 rfl (by kernel_rfl) (.cell gb137 30 #[.bool t145, .int .u64 t146, .int .u64 t147] (0, 0) _ rfl (pu_ #[.bool t145, .int .u64 t146, .int .u64 0] 2 (h := (pu_ #[.bool t145, .int .u64 0, .int .u64 0] 1 (h := (pu_ #[.bool false, .int .u64 0, .int .u64 0] 0 (h := bk_)))))) Try.underlying30 rfl (by kernel_rfl) (.tmp .nil)))) rfl ?_
          exact ⟨by first | rfl | (simp [errW_none, errW_some] <;> rfl) | (simp [*, errW_none, errW_some] <;> rfl), by repeat (first | (with_reducible first | exact HB.out | apply below_alloc | apply pw_below_drewN | apply below_drew1 | refine below_set ?_ GE134.out | refine below_set ?_ GE135.out | refine below_set ?_ GE136.out | refine below_set ?_ GE137.out | refine below_set ?_ GE144.out | refine below_set ?_ GE149.out) | exact HB.out)⟩
        · replace c35 := Bool.eq_false_iff.mpr c35
          subst c35
          have H1 : (some (t140, t141, t142, t145, t146, t147, false)) = some (r1, r2, r3, r4, r5, r6, r7) := by rw [if_neg (show ¬ (false = true) by decide)] at H; exact H
          clear H
          have H := H1
          clear H1
          simp only [Option.some.injEq, Prod.mk.injEq] at H
          obtain ⟨rfl, rfl, rfl, rfl, rfl, rfl, rfl⟩ := H
          have hnb68 := NB134_135.out
          have hnc68 := NB135_134.out
          have hnb69 := NB134_136.out
          have hnc69 := NB136_134.out
          have hnb70 := NB134_137.out
          have hnc70 := NB137_134.out
          obtain ⟨hcz71_0, hcz71_1, hcz71_2, hcz71_3, hfz71_0, hfz71_1, hfz71_2, hfz71_3⟩ := cf4_ (w := wc) BK134.out
          have hnb72 := NB135_136.out
          have hnc72 := NB136_135.out
          have hnb73 := NB135_137.out
          have hnc73 := NB137_135.out
          obtain ⟨hcz74_0, hcz74_1, hcz74_2, hcz74_3, hfz74_0, hfz74_1, hfz74_2, hfz74_3⟩ := cf4_ (w := wc) BK135.out
          try go_wp2_with (first | ((with_reducible refine gate_callee (f := 12) rfl ?_); refine goesL_ (some 26) rfl rfl Try.func12 (by kernel_rfl) rfl #[.agg #[.bool a0_0, .int .u64 a0_1, .int .u64 a0_2], .int .i64 a1_3] rfl mp_ ?_; (with_reducible refine (spec_ScaleWide.calls a0_0 a0_1 a0_2 a1_3 t140 t141 t142 false _ A33.out).mono ?_); rintro e w75 ⟨rfl, hb⟩; refine ⟨_, rfl, ?_⟩; have n0_ := bb_ (g := gb134) (o := .cells #[.bool a0_0, .int .u64 a0_1, .int .u64 a0_2, .int .i64 a0_3] 47 (0, 0)) hb; have n1_ := bb_ (g := gb135) (o := .cells #[.bool a1_0, .int .u64 a1_1, .int .u64 a1_2, .int .i64 a1_3] 47 (0, 0)) hb; have n2_ := bb_ (g := gb136) (o := .cells #[.bool false, .int .u64 0, .int .u64 0] 30 (0, 0)) hb; have n3_ := bb_ (g := gb137) (o := .cells #[.bool false, .int .u64 0, .int .u64 0] 30 (0, 0)) hb; have n4_ := Aside0.mk (below_step bel_ hb); clear BK134; clear BK135; clear BK136; clear BK137; clear HB; have BK134 := n0_; have BK135 := n1_; have BK136 := n2_; have BK137 := n3_; have HB := n4_; clear n0_ n1_ n2_ n3_ n4_; (try clear hb); (try clear hb2); (try clear hk); (try clear hi)) | ((with_reducible refine gate_dst (N := 7) rfl ?_); refine box_event ?hg (N := 7) ?hd (cs := #[.bool false, .int .u64 0, .int .u64 0]) (t := 30) ?hr ?_; (case hd => rfl); (case hg => rfl); (case hr => first | (go_simp; done) | (go_simp; rfl)); intro gb144 hg w76 hbox hb; have n0_ := bb_ (g := gb134) (o := .cells #[.bool a0_0, .int .u64 a0_1, .int .u64 a0_2, .int .i64 a0_3] 47 (0, 0)) hb; have n1_ := bb_ (g := gb135) (o := .cells #[.bool a1_0, .int .u64 a1_1, .int .u64 a1_2, .int .i64 a1_3] 47 (0, 0)) hb; have n2_ := bb_ (g := gb136) (o := .cells #[.bool false, .int .u64 0, .int .u64 0] 30 (0, 0)) hb; have n3_ := bb_ (g := gb137) (o := .cells #[.bool false, .int .u64 0, .int .u64 0] 30 (0, 0)) hb; have n4_ := Aside0.mk (below_step bel_ hb); have n5_ := Aside0.mk (hbox); have n6_ := bs_ (w := w) hg; have n7_ := bs_ (w := w) hg; have n8_ := nlt_ (g := gb134) (o := .cells #[.bool a0_0, .int .u64 a0_1, .int .u64 a0_2, .int .i64 a0_3] 47 (0, 0)) hg; have n9_ := ngt_ (g := gb134) (o := .cells #[.bool a0_0, .int .u64 a0_1, .int .u64 a0_2, .int .i64 a0_3] 47 (0, 0)) hg; have n10_ := nlt_ (g := gb135) (o := .cells #[.bool a1_0, .int .u64 a1_1, .int .u64 a1_2, .int .i64 a1_3] 47 (0, 0)) hg; have n11_ := ngt_ (g := gb135) (o := .cells #[.bool a1_0, .int .u64 a1_1, .int .u64 a1_2, .int .i64 a1_3] 47 (0, 0)) hg; have n12_ := nlt_ (g := gb136) (o := .cells #[.bool false, .int .u64 0, .int .u64 0] 30 (0, 0)) hg; have n13_ := ngt_ (g := gb136) (o := .cells #[.bool false, .int .u64 0, .int .u64 0] 30 (0, 0)) hg; have n14_ := nlt_ (g := gb137) (o := .cells #[.bool false, .int .u64 0, .int .u64 0] 30 (0, 0)) hg; have n15_ := ngt_ (g := gb137) (o := .cells #[.bool false, .int .u64 0, .int .u64 0] 30 (0, 0)) hg; clear BK134; clear BK135; clear BK136; clear BK137; clear HB; have BK134 := n0_; have BK135 := n1_; have BK136 := n2_; have BK137 := n3_; have HB := n4_; have BK144 := n5_; have GW144 := n6_; have GE144 := n7_; have NB134_144 := n8_; have NB144_134 := n9_; have NB135_144 := n10_; have NB144_135 := n11_; have NB136_144 := n12_; have NB144_136 := n13_; have NB137_144 := n14_; have NB144_137 := n15_; clear n0_ n1_ n2_ n3_ n4_ n5_ n6_ n7_ n8_ n9_ n10_ n11_ n12_ n13_ n14_ n15_; clear hb hbox hg; have hnb77 := NB144_134.out; have hnc77 := NB134_144.out; have hnb78 := NB144_135.out; have hnc78 := NB135_144.out; have hnb79 := NB144_136.out; have hnc79 := NB136_144.out; have hnb80 := NB144_137.out; have hnc80 := NB137_144.out; obtain ⟨hcz81_0, hcz81_1, hcz81_2, hfz81_0, hfz81_1, hfz81_2⟩ := cf3_ (w := w76) BK144.out; obtain ⟨hcz82_0, hcz82_1, hcz82_2, hcz82_3, hfz82_0, hfz82_1, hfz82_2, hfz82_3⟩ := cf4_ (w := w76) BK135.out; obtain ⟨hcz83_0, hcz83_1, hcz83_2, hcz83_3, hfz83_0, hfz83_1, hfz83_2, hfz83_3⟩ := cf4_ (w := w76) BK134.out) | ((with_reducible refine gate_callee (f := 12) rfl ?_); refine goesL_ (some 34) rfl rfl Try.func12 (by kernel_rfl) rfl #[.agg #[.bool a1_0, .int .u64 a1_1, .int .u64 a1_2], .int .i64 a0_3] rfl mp_ ?_; (with_reducible refine (spec_ScaleWide.calls a1_0 a1_1 a1_2 a0_3 t145 t146 t147 t148 _ A34.out).mono ?_); rintro e w84 ⟨rfl, hb⟩; refine ⟨_, rfl, ?_⟩; have n0_ := Aside0.mk (blk_below (g := gb134) (o := .cells #[.bool a0_0, .int .u64 a0_1, .int .u64 a0_2, .int .i64 a0_3] 47 (0, 0)) bk_ hb); have n1_ := Aside0.mk (blk_below (g := gb135) (o := .cells #[.bool a1_0, .int .u64 a1_1, .int .u64 a1_2, .int .i64 a1_3] 47 (0, 0)) bk_ hb); have n2_ := Aside0.mk (blk_below (g := gb136) (o := .cells #[.bool false, .int .u64 0, .int .u64 0] 30 (0, 0)) bk_ hb); have n3_ := Aside0.mk (blk_below (g := gb137) (o := .cells #[.bool false, .int .u64 0, .int .u64 0] 30 (0, 0)) bk_ hb); have n4_ := Aside0.mk (blk_below (g := gb144) (o := .cells #[.bool t140, .int .u64 t141, .int .u64 t142] 30 (0, 0)) (pu_ #[.bool t140, .int .u64 t141, .int .u64 0] 2 (h := (pu_ #[.bool t140, .int .u64 0, .int .u64 0] 1 (h := (pu_ #[.bool false, .int .u64 0, .int .u64 0] 0 (h := bk_)))))) hb); have n5_ := Aside0.mk (below_step bel_ hb); clear BK134; clear BK135; clear BK136; clear BK137; clear BK144; clear HB; have BK134 := n0_; have BK135 := n1_; have BK136 := n2_; have BK137 := n3_; have BK144 := n4_; have HB := n5_; clear n0_ n1_ n2_ n3_ n4_ n5_; (try clear hb); (try clear hb2); (try clear hk); (try clear hi)) | ((with_reducible refine gate_dst (N := 9) rfl ?_); refine box_event ?hg (N := 9) ?hd (cs := #[.bool false, .int .u64 0, .int .u64 0]) (t := 30) ?hr ?_; (case hd => rfl); (case hg => rfl); (case hr => first | (go_simp; done) | (go_simp; rfl)); intro gb149 hg w85 hbox hb; have n0_ := bb_ (g := gb134) (o := .cells #[.bool a0_0, .int .u64 a0_1, .int .u64 a0_2, .int .i64 a0_3] 47 (0, 0)) hb; have n1_ := bb_ (g := gb135) (o := .cells #[.bool a1_0, .int .u64 a1_1, .int .u64 a1_2, .int .i64 a1_3] 47 (0, 0)) hb; have n2_ := bb_ (g := gb136) (o := .cells #[.bool false, .int .u64 0, .int .u64 0] 30 (0, 0)) hb; have n3_ := bb_ (g := gb137) (o := .cells #[.bool false, .int .u64 0, .int .u64 0] 30 (0, 0)) hb; have n4_ := bb_ (g := gb144) (o := .cells #[.bool t140, .int .u64 t141, .int .u64 t142] 30 (0, 0)) hb; have n5_ := Aside0.mk (below_step bel_ hb); have n6_ := Aside0.mk (hbox); have n7_ := bs_ (w := w) hg; have n8_ := bs_ (w := w) hg; have n9_ := nlt_ (g := gb134) (o := .cells #[.bool a0_0, .int .u64 a0_1, .int .u64 a0_2, .int .i64 a0_3] 47 (0, 0)) hg; have n10_ := ngt_ (g := gb134) (o := .cells #[.bool a0_0, .int .u64 a0_1, .int .u64 a0_2, .int .i64 a0_3] 47 (0, 0)) hg; have n11_ := nlt_ (g := gb135) (o := .cells #[.bool a1_0, .int .u64 a1_1, .int .u64 a1_2, .int .i64 a1_3] 47 (0, 0)) hg; have n12_ := ngt_ (g := gb135) (o := .cells #[.bool a1_0, .int .u64 a1_1, .int .u64 a1_2, .int .i64 a1_3] 47 (0, 0)) hg; have n13_ := nlt_ (g := gb136) (o := .cells #[.bool false, .int .u64 0, .int .u64 0] 30 (0, 0)) hg; have n14_ := ngt_ (g := gb136) (o := .cells #[.bool false, .int .u64 0, .int .u64 0] 30 (0, 0)) hg; have n15_ := nlt_ (g := gb137) (o := .cells #[.bool false, .int .u64 0, .int .u64 0] 30 (0, 0)) hg; have n16_ := ngt_ (g := gb137) (o := .cells #[.bool false, .int .u64 0, .int .u64 0] 30 (0, 0)) hg; have n17_ := nlt_ (g := gb144) (o := .cells #[.bool t140, .int .u64 t141, .int .u64 t142] 30 (0, 0)) hg; have n18_ := ngt_ (g := gb144) (o := .cells #[.bool t140, .int .u64 t141, .int .u64 t142] 30 (0, 0)) hg; clear BK134; clear BK135; clear BK136; clear BK137; clear BK144; clear HB; have BK134 := n0_; have BK135 := n1_; have BK136 := n2_; have BK137 := n3_; have BK144 := n4_; have HB := n5_; have BK149 := n6_; have GW149 := n7_; have GE149 := n8_; have NB134_149 := n9_; have NB149_134 := n10_; have NB135_149 := n11_; have NB149_135 := n12_; have NB136_149 := n13_; have NB149_136 := n14_; have NB137_149 := n15_; have NB149_137 := n16_; have NB144_149 := n17_; have NB149_144 := n18_; clear n0_ n1_ n2_ n3_ n4_ n5_ n6_ n7_ n8_ n9_ n10_ n11_ n12_ n13_ n14_ n15_ n16_ n17_ n18_; clear hb hbox hg; have hnb86 := NB149_134.out; have hnc86 := NB134_149.out; have hnb87 := NB149_135.out; have hnc87 := NB135_149.out; have hnb88 := NB149_136.out; have hnc88 := NB136_149.out; have hnb89 := NB149_137.out; have hnc89 := NB137_149.out; have hnb90 := NB149_144.out; have hnc90 := NB144_149.out; obtain ⟨hcz91_0, hcz91_1, hcz91_2, hfz91_0, hfz91_1, hfz91_2⟩ := cf3_ (w := w85) BK149.out))
          have n0_ : Aside0 ((((w85.setCell ⟨gb149, 0, none⟩ (.bool t145)).setCell ⟨gb149, 1, none⟩ (.int .u64 t146)).setCell ⟨gb149, 2, none⟩ (.int .u64 t147)).heap[gb134]? = some (.cells #[.bool a0_0, .int .u64 a0_1, .int .u64 a0_2, .int .i64 a0_3] 47 (0, 0))) := ⟨by (with_reducible repeat (first | refine bN_ _ ?_ | refine bd_ ?_ | refine ba_ _ ?_)); refine blk_far ?_ NB134_149.out _; (with_reducible repeat (first | refine bN_ _ ?_ | refine bd_ ?_ | refine ba_ _ ?_)); refine blk_far ?_ NB134_149.out _; (with_reducible repeat (first | refine bN_ _ ?_ | refine bd_ ?_ | refine ba_ _ ?_)); refine blk_far ?_ NB134_149.out _; (with_reducible repeat (first | refine bN_ _ ?_ | refine bd_ ?_ | refine ba_ _ ?_)); exact BK134.out⟩
          have n1_ : Aside0 ((((w85.setCell ⟨gb149, 0, none⟩ (.bool t145)).setCell ⟨gb149, 1, none⟩ (.int .u64 t146)).setCell ⟨gb149, 2, none⟩ (.int .u64 t147)).heap[gb135]? = some (.cells #[.bool a1_0, .int .u64 a1_1, .int .u64 a1_2, .int .i64 a1_3] 47 (0, 0))) := ⟨by (with_reducible repeat (first | refine bN_ _ ?_ | refine bd_ ?_ | refine ba_ _ ?_)); refine blk_far ?_ NB135_149.out _; (with_reducible repeat (first | refine bN_ _ ?_ | refine bd_ ?_ | refine ba_ _ ?_)); refine blk_far ?_ NB135_149.out _; (with_reducible repeat (first | refine bN_ _ ?_ | refine bd_ ?_ | refine ba_ _ ?_)); refine blk_far ?_ NB135_149.out _; (with_reducible repeat (first | refine bN_ _ ?_ | refine bd_ ?_ | refine ba_ _ ?_)); exact BK135.out⟩
          have n2_ : Aside0 ((((w85.setCell ⟨gb149, 0, none⟩ (.bool t145)).setCell ⟨gb149, 1, none⟩ (.int .u64 t146)).setCell ⟨gb149, 2, none⟩ (.int .u64 t147)).heap[gb136]? = some (.cells #[.bool false, .int .u64 0, .int .u64 0] 30 (0, 0))) := ⟨by (with_reducible repeat (first | refine bN_ _ ?_ | refine bd_ ?_ | refine ba_ _ ?_)); refine blk_far ?_ NB136_149.out _; (with_reducible repeat (first | refine bN_ _ ?_ | refine bd_ ?_ | refine ba_ _ ?_)); refine blk_far ?_ NB136_149.out _; (with_reducible repeat (first | refine bN_ _ ?_ | refine bd_ ?_ | refine ba_ _ ?_)); refine blk_far ?_ NB136_149.out _; (with_reducible repeat (first | refine bN_ _ ?_ | refine bd_ ?_ | refine ba_ _ ?_)); exact BK136.out⟩
          have n3_ : Aside0 ((((w85.setCell ⟨gb149, 0, none⟩ (.bool t145)).setCell ⟨gb149, 1, none⟩ (.int .u64 t146)).setCell ⟨gb149, 2, none⟩ (.int .u64 t147)).heap[gb137]? = some (.cells #[.bool false, .int .u64 0, .int .u64 0] 30 (0, 0))) := ⟨by (with_reducible repeat (first | refine bN_ _ ?_ | refine bd_ ?_ | refine ba_ _ ?_)); refine blk_far ?_ NB137_149.out _; (with_reducible repeat (first | refine bN_ _ ?_ | refine bd_ ?_ | refine ba_ _ ?_)); refine blk_far ?_ NB137_149.out _; (with_reducible repeat (first | refine bN_ _ ?_ | refine bd_ ?_ | refine ba_ _ ?_)); refine blk_far ?_ NB137_149.out _; (with_reducible repeat (first | refine bN_ _ ?_ | refine bd_ ?_ | refine ba_ _ ?_)); exact BK137.out⟩
          have n4_ : Aside0 ((((w85.setCell ⟨gb149, 0, none⟩ (.bool t145)).setCell ⟨gb149, 1, none⟩ (.int .u64 t146)).setCell ⟨gb149, 2, none⟩ (.int .u64 t147)).heap[gb144]? = some (.cells #[.bool t140, .int .u64 t141, .int .u64 t142] 30 (0, 0))) := ⟨by (with_reducible repeat (first | refine bN_ _ ?_ | refine bd_ ?_ | refine ba_ _ ?_)); refine blk_far ?_ NB144_149.out _; (with_reducible repeat (first | refine bN_ _ ?_ | refine bd_ ?_ | refine ba_ _ ?_)); refine blk_far ?_ NB144_149.out _; (with_reducible repeat (first | refine bN_ _ ?_ | refine bd_ ?_ | refine ba_ _ ?_)); refine blk_far ?_ NB144_149.out _; (with_reducible repeat (first | refine bN_ _ ?_ | refine bd_ ?_ | refine ba_ _ ?_)); exact BK144.out⟩
          have n5_ : Aside0 ((((w85.setCell ⟨gb149, 0, none⟩ (.bool t145)).setCell ⟨gb149, 1, none⟩ (.int .u64 t146)).setCell ⟨gb149, 2, none⟩ (.int .u64 t147)).heap[gb149]? = some (.cells #[.bool t145, .int .u64 t146, .int .u64 t147] 30 (0, 0))) := ⟨by (with_reducible repeat (first | refine bN_ _ ?_ | refine bd_ ?_ | refine ba_ _ ?_)); refine blk_put (cs := #[.bool t145, .int .u64 t146, .int .u64 0]) ?_ 2 _ rfl; (with_reducible repeat (first | refine bN_ _ ?_ | refine bd_ ?_ | refine ba_ _ ?_)); refine blk_put (cs := #[.bool t145, .int .u64 0, .int .u64 0]) ?_ 1 _ rfl; (with_reducible repeat (first | refine bN_ _ ?_ | refine bd_ ?_ | refine ba_ _ ?_)); refine blk_put (cs := #[.bool false, .int .u64 0, .int .u64 0]) ?_ 0 _ rfl; (with_reducible repeat (first | refine bN_ _ ?_ | refine bd_ ?_ | refine ba_ _ ?_)); exact BK149.out⟩
          have n6_ : Aside0 (Below w.heap.size w (((w85.setCell ⟨gb149, 0, none⟩ (.bool t145)).setCell ⟨gb149, 1, none⟩ (.int .u64 t146)).setCell ⟨gb149, 2, none⟩ (.int .u64 t147))) := ⟨by repeat (first | (with_reducible first | exact HB.out | apply below_alloc | apply pw_below_drewN | apply below_drew1 | refine below_set ?_ GE134.out | refine below_set ?_ GE135.out | refine below_set ?_ GE136.out | refine below_set ?_ GE137.out | refine below_set ?_ GE144.out | refine below_set ?_ GE149.out) | exact HB.out)⟩
          (try clear BK134)
          (try clear BK135)
          (try clear BK136)
          (try clear BK137)
          (try clear BK144)
          (try clear BK149)
          (try clear HB)
          generalize (((w85.setCell ⟨gb149, 0, none⟩ (.bool t145)).setCell ⟨gb149, 1, none⟩ (.int .u64 t146)).setCell ⟨gb149, 2, none⟩ (.int .u64 t147)) = w92 at n0_ n1_ n2_ n3_ n4_ n5_ n6_ ⊢
          have BK134 := n0_
          have BK135 := n1_
          have BK136 := n2_
          have BK137 := n3_
          have BK144 := n4_
          have BK149 := n5_
          have HB := n6_
          clear n0_ n1_ n2_ n3_ n4_ n5_ n6_
          have n0_ := Aside0.mk (blk_drew BK134.out)
          have n1_ := Aside0.mk (blk_drew BK135.out)
          have n2_ := Aside0.mk (blk_drew BK136.out)
          have n3_ := Aside0.mk (blk_drew BK137.out)
          have n4_ := Aside0.mk (blk_drew BK144.out)
          have n5_ := Aside0.mk (blk_drew BK149.out)
          have n6_ := Aside0.mk (below_drew1 HB.out)
          clear BK134
          clear BK135
          clear BK136
          clear BK137
          clear BK144
          clear BK149
          clear HB
          have BK134 := n0_
          have BK135 := n1_
          have BK136 := n2_
          have BK137 := n3_
          have BK144 := n4_
          have BK149 := n5_
          have HB := n6_
          clear n0_ n1_ n2_ n3_ n4_ n5_ n6_
          refine start_ (n := 9) (S := fun w' => w'.cell? ⟨gb144, 0, none⟩ = some (.bool t140) ∧ w'.cell? ⟨gb144, 1, none⟩ = some (.int .u64 t141) ∧ w'.cell? ⟨gb144, 2, none⟩ = some (.int .u64 t142) ∧ w'.cell? ⟨gb149, 0, none⟩ = some (.bool t145) ∧ w'.cell? ⟨gb149, 1, none⟩ = some (.int .u64 t146) ∧ w'.cell? ⟨gb149, 2, none⟩ = some (.int .u64 t147)) (ds := []) #[false, false, false, false, false, false, false, false, false] (by kernel_rfl) rfl rfl ⟨bc_, bc_, bc_, bc_, bc_, bc_⟩ (fun hHeld => ?_); refine with_tabW spec_l5Cross.tab5 spec_l5Cross.bits5 (fun HT_ HW_ => ?_)
          generalize w92.drew = w93 at BK134 BK135 BK136 BK137 BK144 BK149 HB hHeld ⊢
          refine pure_ (i := 2) (N := some 39) (v := ?_) (a' := ?_) #[false, false, true, false, false, false, false, false, false] rfl rfl (any_of HT_.out (by kernel_rfl)) (fun _ _ _ h => h) (Or.inl ⟨by rfl, ?_⟩) ?_ ?_
          rotate_left
          · intro w'
            go_simp
            with_reducible rfl
          rotate_left
          · simp only [Act.put, la_, lb_, lc_, i64_w, i32_w]
            rfl
          refine pure_ (i := 3) (N := some 40) (v := ?_) (a' := ?_) #[false, false, true, true, false, false, false, false, false] rfl rfl (any_of HT_.out (by kernel_rfl)) (fun _ _ _ h => h) (Or.inl ⟨by rfl, ?_⟩) ?_ ?_
          rotate_left
          · intro w'
            go_simp
            with_reducible rfl
          rotate_left
          · simp only [Act.put, la_, lb_, lc_, i64_w, i32_w]
            rfl
          refine pure_ (i := 4) (N := some 41) (v := undef) (a' := ?_) #[false, false, true, true, true, false, false, false, false] rfl rfl (any_of HT_.out (by kernel_rfl)) (fun _ _ _ h => h) (Or.inr ⟨by rfl, rfl⟩) ?_ ?_
          rotate_left
          · simp only [Act.put, la_, lb_, lc_, i64_w, i32_w]
            rfl
          refine pure_ (i := 5) (N := some 42) (v := ?_) (a' := ?_) #[false, false, true, true, true, true, false, false, false] rfl rfl (any_of HT_.out (by kernel_rfl)) (fun _ _ _ h => h) (Or.inl ⟨by rfl, ?_⟩) ?_ ?_
          rotate_left
          · intro w'
            go_simp
            with_reducible rfl
          rotate_left
          · simp only [Act.put, la_, lb_, lc_, i64_w, i32_w]
            rfl
          refine take_ (i := 0) (N := some 37) (v := ?_) (a' := ?_) #[true, false, true, true, true, true, false, false, false] rfl rfl (take_ofW HT_.out HW_.out (by kernel_rfl)) (fun _ _ _ h => h) (Or.inl ⟨by rfl, ?_⟩) hHeld ?_ ?_
          rotate_left
          · rintro w' ⟨s0, s1, s2, s3, s4, s5⟩
            go_simp
            with_reducible rfl
          rotate_left
          · simp only [Act.put, la_, lb_, lc_, i64_w, i32_w]
            rfl
          refine take_ (i := 1) (N := some 38) (v := ?_) (a' := ?_) #[true, true, true, true, true, true, false, false, false] rfl rfl (take_ofW HT_.out HW_.out (by kernel_rfl)) (fun _ _ _ h => h) (Or.inl ⟨by rfl, ?_⟩) hHeld ?_ ?_
          rotate_left
          · rintro w' ⟨s0, s1, s2, s3, s4, s5⟩
            go_simp
            with_reducible rfl
          rotate_left
          · simp only [Act.put, la_, lb_, lc_, i64_w, i32_w]
            rfl
          refine one_ (i := 6) (N := none) #[true, true, true, true, true, true, true, false, false] rfl rfl (one_of HT_.out (by kernel_rfl)) (by decide) (fun K hK => ?_)
          have hs94 : w93.cell? ⟨gb136, 0, none⟩ = some (.bool false) := (blk_cell BK136.out 0).trans rfl
          have hfs94 := blk_frozen BK136.out 0
          have hns94_0 := NB134_136.out
          have hns94_1 := NB135_136.out
          have hns94_3 := NB137_136.out
          have hns94_4 := NB144_136.out
          have hns94_5 := NB149_136.out
          have hms94_0 := NB136_134.out
          have hms94_1 := NB136_135.out
          have hms94_3 := NB136_137.out
          have hms94_4 := NB136_144.out
          have hms94_5 := NB136_149.out
          have hs95 : w93.cell? ⟨gb136, 1, none⟩ = some (.int .u64 0) := (blk_cell BK136.out 1).trans rfl
          have hfs95 := blk_frozen BK136.out 1
          have hns95_0 := NB134_136.out
          have hns95_1 := NB135_136.out
          have hns95_3 := NB137_136.out
          have hns95_4 := NB144_136.out
          have hns95_5 := NB149_136.out
          have hms95_0 := NB136_134.out
          have hms95_1 := NB136_135.out
          have hms95_3 := NB136_137.out
          have hms95_4 := NB136_144.out
          have hms95_5 := NB136_149.out
          have hs96 : w93.cell? ⟨gb136, 2, none⟩ = some (.int .u64 0) := (blk_cell BK136.out 2).trans rfl
          have hfs96 := blk_frozen BK136.out 2
          have hns96_0 := NB134_136.out
          have hns96_1 := NB135_136.out
          have hns96_3 := NB137_136.out
          have hns96_4 := NB144_136.out
          have hns96_5 := NB149_136.out
          have hms96_0 := NB136_134.out
          have hms96_1 := NB136_135.out
          have hms96_3 := NB136_137.out
          have hms96_4 := NB136_144.out
          have hms96_5 := NB136_149.out
          refine skip_ (w1 := ?_) (by rfl) rfl ?_ ?_
          rotate_left
          · go_simp
            rfl
          refine hK.out _ _ ⟨((cell_far (p := ⟨gb136, _, none⟩) NB144_136.out _).trans (((cell_far (p := ⟨gb136, _, none⟩) NB144_136.out _).trans (((cell_far (p := ⟨gb136, _, none⟩) NB144_136.out _).trans (hHeld.1)))))), ((cell_far (p := ⟨gb136, _, none⟩) NB144_136.out _).trans (((cell_far (p := ⟨gb136, _, none⟩) NB144_136.out _).trans (((cell_far (p := ⟨gb136, _, none⟩) NB144_136.out _).trans (hHeld.2.1)))))), ((cell_far (p := ⟨gb136, _, none⟩) NB144_136.out _).trans (((cell_far (p := ⟨gb136, _, none⟩) NB144_136.out _).trans (((cell_far (p := ⟨gb136, _, none⟩) NB144_136.out _).trans (hHeld.2.2.1)))))), ((cell_far (p := ⟨gb136, _, none⟩) NB149_136.out _).trans (((cell_far (p := ⟨gb136, _, none⟩) NB149_136.out _).trans (((cell_far (p := ⟨gb136, _, none⟩) NB149_136.out _).trans (hHeld.2.2.2.1)))))), ((cell_far (p := ⟨gb136, _, none⟩) NB149_136.out _).trans (((cell_far (p := ⟨gb136, _, none⟩) NB149_136.out _).trans (((cell_far (p := ⟨gb136, _, none⟩) NB149_136.out _).trans (hHeld.2.2.2.2.1)))))), ((cell_far (p := ⟨gb136, _, none⟩) NB149_136.out _).trans (((cell_far (p := ⟨gb136, _, none⟩) NB149_136.out _).trans (((cell_far (p := ⟨gb136, _, none⟩) NB149_136.out _).trans (hHeld.2.2.2.2.2))))))⟩ (fun hHeld => ?_)
          clear hK K
          refine one_ (i := 7) (N := none) #[true, true, true, true, true, true, true, true, false] rfl rfl (one_of HT_.out (by kernel_rfl)) (by decide) (fun K hK => ?_)
          have hs97 : w93.cell? ⟨gb137, 0, none⟩ = some (.bool false) := (blk_cell BK137.out 0).trans rfl
          have hfs97 := blk_frozen BK137.out 0
          have hns97_0 := NB134_137.out
          have hns97_1 := NB135_137.out
          have hns97_2 := NB136_137.out
          have hns97_4 := NB144_137.out
          have hns97_5 := NB149_137.out
          have hms97_0 := NB137_134.out
          have hms97_1 := NB137_135.out
          have hms97_2 := NB137_136.out
          have hms97_4 := NB137_144.out
          have hms97_5 := NB137_149.out
          have hs98 : w93.cell? ⟨gb137, 1, none⟩ = some (.int .u64 0) := (blk_cell BK137.out 1).trans rfl
          have hfs98 := blk_frozen BK137.out 1
          have hns98_0 := NB134_137.out
          have hns98_1 := NB135_137.out
          have hns98_2 := NB136_137.out
          have hns98_4 := NB144_137.out
          have hns98_5 := NB149_137.out
          have hms98_0 := NB137_134.out
          have hms98_1 := NB137_135.out
          have hms98_2 := NB137_136.out
          have hms98_4 := NB137_144.out
          have hms98_5 := NB137_149.out
          have hs99 : w93.cell? ⟨gb137, 2, none⟩ = some (.int .u64 0) := (blk_cell BK137.out 2).trans rfl
          have hfs99 := blk_frozen BK137.out 2
          have hns99_0 := NB134_137.out
          have hns99_1 := NB135_137.out
          have hns99_2 := NB136_137.out
          have hns99_4 := NB144_137.out
          have hns99_5 := NB149_137.out
          have hms99_0 := NB137_134.out
          have hms99_1 := NB137_135.out
          have hms99_2 := NB137_136.out
          have hms99_4 := NB137_144.out
          have hms99_5 := NB137_149.out
          refine skip_ (w1 := ?_) (by rfl) rfl ?_ ?_
          rotate_left
          · go_simp
            rfl
          refine hK.out _ _ ⟨((cell_far (p := ⟨gb137, _, none⟩) NB144_137.out _).trans (((cell_far (p := ⟨gb137, _, none⟩) NB144_137.out _).trans (((cell_far (p := ⟨gb137, _, none⟩) NB144_137.out _).trans (hHeld.1)))))), ((cell_far (p := ⟨gb137, _, none⟩) NB144_137.out _).trans (((cell_far (p := ⟨gb137, _, none⟩) NB144_137.out _).trans (((cell_far (p := ⟨gb137, _, none⟩) NB144_137.out _).trans (hHeld.2.1)))))), ((cell_far (p := ⟨gb137, _, none⟩) NB144_137.out _).trans (((cell_far (p := ⟨gb137, _, none⟩) NB144_137.out _).trans (((cell_far (p := ⟨gb137, _, none⟩) NB144_137.out _).trans (hHeld.2.2.1)))))), ((cell_far (p := ⟨gb137, _, none⟩) NB149_137.out _).trans (((cell_far (p := ⟨gb137, _, none⟩) NB149_137.out _).trans (((cell_far (p := ⟨gb137, _, none⟩) NB149_137.out _).trans (hHeld.2.2.2.1)))))), ((cell_far (p := ⟨gb137, _, none⟩) NB149_137.out _).trans (((cell_far (p := ⟨gb137, _, none⟩) NB149_137.out _).trans (((cell_far (p := ⟨gb137, _, none⟩) NB149_137.out _).trans (hHeld.2.2.2.2.1)))))), ((cell_far (p := ⟨gb137, _, none⟩) NB149_137.out _).trans (((cell_far (p := ⟨gb137, _, none⟩) NB149_137.out _).trans (((cell_far (p := ⟨gb137, _, none⟩) NB149_137.out _).trans (hHeld.2.2.2.2.2))))))⟩ (fun hHeld => ?_)
          clear hK K
          refine pure_ (i := 8) (N := some 6) (v := ?_) (a' := ?_) #[true, true, true, true, true, true, true, true, true] rfl rfl (any_of HT_.out (by kernel_rfl)) (fun _ _ _ h => h) (Or.inl ⟨by rfl, ?_⟩) ?_ ?_
          rotate_left
          · intro w'
            go_simp
            with_reducible rfl
          rotate_left
          · simp only [Act.put, la_, lb_, lc_, i64_w, i32_w]
            rfl
          refine done_ (done_of HT_.out (by kernel_rfl)) ?_
          try go_wp2
          refine bodyPost_ret (results_list (rs := [.cell 4 30, .cell 5 30, .tmp 6]) rfl (by simp) (.cell gb136 30 #[.bool t140, .int .u64 t141, .int .u64 t142] (0, 0) _ rfl (pu_ #[.bool t140, .int .u64 t141, .int .u64 0] 2 (h := (pu_ #[.bool t140, .int .u64 0, .int .u64 0] 1 (h := (pu_ #[.bool false, .int .u64 0, .int .u64 0] 0 (h := bk_)))))) Try.underlying30 rfl (by kernel_rfl) (.cell gb137 30 #[.bool t145, .int .u64 t146, .int .u64 t147] (0, 0) _ rfl (pu_ #[.bool t145, .int .u64 t146, .int .u64 0] 2 (h := (pu_ #[.bool t145, .int .u64 0, .int .u64 0] 1 (h := (pu_ #[.bool false, .int .u64 0, .int .u64 0] 0 (h := bk_)))))) Try.underlying30 rfl (by kernel_rfl) (.tmp .nil)))) rfl ?_
          exact ⟨by first | rfl | (simp [errW_none, errW_some] <;> rfl) | (simp [*, errW_none, errW_some] <;> rfl), by repeat (first | (with_reducible first | exact HB.out | apply below_alloc | apply pw_below_drewN | apply below_drew1 | refine below_set ?_ GE134.out | refine below_set ?_ GE135.out | refine below_set ?_ GE136.out | refine below_set ?_ GE137.out | refine below_set ?_ GE144.out | refine below_set ?_ GE149.out) | exact HB.out)⟩

end Go.Proofs.Ytodbmgnhcglcnaa.PFnExactAddFrac
