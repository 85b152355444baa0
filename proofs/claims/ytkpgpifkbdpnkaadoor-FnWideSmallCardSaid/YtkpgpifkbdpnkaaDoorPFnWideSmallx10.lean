/- Contracts of Go functions, each with the Lean function that says what it computes: begun by the print, turned by this session. No condition beyond what each theorem states. -/
import Derived.Test.YtkpgpifkbdpnkaaDoorPFnWideSmallx0
import Derived.Test.YtkpgpifkbdpnkaaDoorPFnWideSmallx4
import Derived.Test.YtkpgpifkbdpnkaaDoorPFnWideSmallx7
import Derived.Test.YtkpgpifkbdpnkaaDoorPFnWideSmallx9
namespace Go.Proofs.YtkpgpifkbdpnkaaDoor.PFnWideSmall
open Go.RowKit Go.Proofs.YtkpgpifkbdpnkaaDoorVFnWideSmall.PrintWords Go.Proofs.YtkpgpifkbdpnkaaDoorVFnWideSmall.PrintLast Go.Proofs.YtkpgpifkbdpnkaaDoorVFnWideSmall.PrintMore
attribute [local go_sem] max2_int min2_int max_two min_two max_three min_three max_four min_four   -- for this text's walks alone
set_option linter.unusedVariables false
set_option linter.unusedSimpArgs false

/-! ### spec_TenTimes: function 16 -/
def spec_TenTimes.j0 : Nat → Int → Bool → Bool → Int → Int → Option (Bool × Int × Int × Bool)
  | 0, _, _, _, _, _ => none
  | k + 1, x1, x15, x371000, x371001, x371002 => if x15 = true then (some (false, 0, 0, false)) else ((spec_ScaleWide.f x371000 x371001 x371002 10).bind fun bt374 => (if bt374.2.2.2 = true then (if x371000 = true then ((spec_WideOf.f (wrap64 (-x1))).bind fun bt379 => ((spec_AddWide.f k bt374.1 bt374.2.1 bt374.2.2.1 bt379.1 bt379.2.1 bt379.2.2).bind fun bt382 => (some (bt382.1, bt382.2.1, bt382.2.2.1, bt382.2.2.2)))) else ((spec_WideOf.f x1).bind fun bt386 => ((spec_AddWide.f k bt374.1 bt374.2.1 bt374.2.2.1 bt386.1 bt386.2.1 bt386.2.2).bind fun bt389 => (some (bt389.1, bt389.2.1, bt389.2.2.1, bt389.2.2.2))))) else (some (false, 0, 0, false))))
def spec_TenTimes.f (k : Nat) (a0_0 : Bool) (a0_1 : Int) (a0_2 : Int) (a1 : Int) : Option (Bool × Int × Int × Bool) := (spec_WideOk.f a0_0 a0_1 a0_2).bind fun t372 => (if t372 = true then ((spec_l1In.f a1 0 9).bind fun t373 => (spec_TenTimes.j0 k a1 (!t373) a0_0 a0_1 a0_2)) else (spec_TenTimes.j0 k a1 true a0_0 a0_1 a0_2))
theorem spec_TenTimes.mono_l : ∀ k, (∀ y0 y1 y2 y3 y4, LeO (spec_TenTimes.j0 k y0 y1 y2 y3 y4) (spec_TenTimes.j0 (k + 1) y0 y1 y2 y3 y4))
  | 0 => fun _ _ _ _ _ r h => by simp [spec_TenTimes.j0] at h
  | k + 1 => by
    have ih0 := spec_TenTimes.mono_l k
    · intro y0 y1 y2 y3 y4
      unfold spec_TenTimes.j0
      repeat' first
      | (with_reducible exact ih0 _ _ _ _ _)
      | (with_reducible exact spec_AddWide.mono _ _ _ _ _ _ _)
      | (with_reducible exact LeO.refl _)
      | (with_reducible exact LeO.none _)
      | (with_reducible refine LeO.ite ?_ ?_)
      | (with_reducible refine LeO.bind ?_ (fun _ => ?_))
      | exact ih0 _ _ _ _ _
      | exact spec_AddWide.mono _ _ _ _ _ _ _
      | exact LeO.none _
      | refine LeO.ite ?_ ?_
      | refine LeO.bind ?_ (fun _ => ?_)
theorem spec_TenTimes.mono : ∀ a0 a1 a2 a3 k, LeO (spec_TenTimes.f k a0 a1 a2 a3) (spec_TenTimes.f (k + 1) a0 a1 a2 a3) := by
  intro a0 a1 a2 a3 k
  have ih0 := spec_TenTimes.mono_l k
  unfold spec_TenTimes.f
  repeat' first
      | (with_reducible exact ih0 _ _ _ _ _)
      | (with_reducible exact spec_AddWide.mono _ _ _ _ _ _ _)
      | (with_reducible exact LeO.refl _)
      | (with_reducible exact LeO.none _)
      | (with_reducible refine LeO.ite ?_ ?_)
      | (with_reducible refine LeO.bind ?_ (fun _ => ?_))
      | exact ih0 _ _ _ _ _
      | exact spec_AddWide.mono _ _ _ _ _ _ _
      | exact LeO.none _
      | refine LeO.ite ?_ ?_
      | refine LeO.bind ?_ (fun _ => ?_)
def spec_TenTimes.T8 : Bool × List (List Nat × List Nat) := (true, [([], []), ([], []), ([1], [1]), ([0, 2, 2], [0, 2]), ([3], [3]), ([3], [3]), ([4, 3, 0, 1, 2, 3, 4, 5], [4]), ([5, 6, 0, 1, 2, 3, 4, 5, 6], [5])])
def spec_TenTimes.B8 : List Nat := [0, 0, 2, 7, 15, 15, 63, 127]
theorem spec_TenTimes.tab8 : rtab .any (opsOf Tryd.f16 8) = spec_TenTimes.T8 := by kernel_rfl
theorem spec_TenTimes.bits8 : waitsOk spec_TenTimes.T8.2 spec_TenTimes.B8 = true := by kernel_rfl
set_option maxHeartbeats 8000000 in
set_option maxRecDepth 100000 in
theorem spec_TenTimes.calls (k : Nat) (a0_0 : Bool) (a0_1 : Int) (a0_2 : Int) (a1 : Int) (r1 : Bool) (r2 : Int) (r3 : Int) (r4 : Bool) (w : World) (h : spec_TenTimes.f k a0_0 a0_1 a0_2 a1 = some (r1, r2, r3, r4)) :
    Calls Tryd.prog 16 #[.agg #[.bool a0_0, .int .u64 a0_1, .int .u64 a0_2], .int .i64 a1] w fun e w' => e = .returned (.tuple #[.agg #[.bool r1, .int .u64 r2, .int .u64 r3], .bool r4]) ∧ Below w.heap.size w w' := by
  have hu28 := Tryd.underlying28
  have HB := Aside0.mk (Below.refl w.heap.size w)
  have H : ((spec_WideOk.f a0_0 a0_1 a0_2).bind fun t372 => (if t372 = true then ((spec_l1In.f a1 0 9).bind fun t373 => (spec_TenTimes.j0 k a1 (!t373) a0_0 a0_1 a0_2)) else (spec_TenTimes.j0 k a1 true a0_0 a0_1 a0_2))) = some (r1, r2, r3, r4) := h
  clear h
  have HC3 := Aside0.mk H
  clear H
  go_enter Tryd.func16, Tryd.ntmps16
  go_upto_region 1 with (first | ((with_reducible refine gate_dst (N := 2) rfl ?_); refine box_event ?hg (N := 2) ?hd (cs := #[.bool a0_0, .int .u64 a0_1, .int .u64 a0_2]) (t := 28) ?hr ?_; (case hd => rfl); (case hg => rfl); (case hr => first | (go_simp; done) | (go_simp; rfl)); intro gb370 hg w4 hbox hb; have n0_ := Aside0.mk (below_step bel_ hb); have n1_ := Aside0.mk (hbox); have n2_ := bs_ (w := w) hg; have n3_ := bs_ (w := w) hg; clear HB; have HB := n0_; have BK370 := n1_; have GW370 := n2_; have GE370 := n3_; clear n0_ n1_ n2_ n3_; clear hb hbox hg) | ((with_reducible refine gate_dst (N := 4) rfl ?_); refine box_event ?hg (N := 4) ?hd (cs := #[.bool false, .int .u64 0, .int .u64 0]) (t := 28) ?hr ?_; (case hd => rfl); (case hg => rfl); (case hr => first | (go_simp; done) | (go_simp; rfl)); intro gb371 hg w5 hbox hb; have n0_ := bb_ (g := gb370) hb; have n1_ := Aside0.mk (below_step bel_ hb); have n2_ := Aside0.mk (hbox); have n3_ := bs_ (w := w) hg; have n4_ := bs_ (w := w) hg; have n5_ := nlt_ (g := gb370) hg; have n6_ := ngt_ (g := gb370) hg; clear BK370; clear HB; have BK370 := n0_; have HB := n1_; have BK371 := n2_; have GW371 := n3_; have GE371 := n4_; have NB370_371 := n5_; have NB371_370 := n6_; clear n0_ n1_ n2_ n3_ n4_ n5_ n6_; clear hb hbox hg))
  (try simp only [Act.put, la_, lb_, lc_])
  go_cut [15] (fun v15 wc => ∃ (kq : Nat) (x15_2 : Bool), v15 = .bool x15_2 ∧ Aside0 (spec_TenTimes.j0 kq a1 x15_2 a0_0 a0_1 a0_2 = some (r1, r2, r3, r4)) ∧ Aside0 (kq ≤ k) ∧ Aside0 (wc.heap[gb370]? = some (.cells #[.bool a0_0, .int .u64 a0_1, .int .u64 a0_2] 28 (0, 0))) ∧ Aside0 (wc.heap[gb371]? = some (.cells #[.bool false, .int .u64 0, .int .u64 0] 28 (0, 0))) ∧ Aside0 (Below w.heap.size w wc))
  case first =>
    have H := HC3.out
    clear HC3
    replace H := Option.bind_eq_some_iff.mp H
    obtain ⟨t372, A60, H⟩ := H
    replace H : (if t372 = true then ((spec_l1In.f a1 0 9).bind fun t373 => (spec_TenTimes.j0 k a1 (!t373) a0_0 a0_1 a0_2)) else (spec_TenTimes.j0 k a1 true a0_0 a0_1 a0_2)) = some (r1, r2, r3, r4) := H
    have A6 := Aside0.mk A60
    clear A60
    by_cases c7 : t372 = true
    · subst c7
      have H1 : ((spec_l1In.f a1 0 9).bind fun t373 => (spec_TenTimes.j0 k a1 (!t373) a0_0 a0_1 a0_2)) = some (r1, r2, r3, r4) := by rw [if_pos rfl] at H; exact H
      clear H
      have H := H1
      clear H1
      replace H := Option.bind_eq_some_iff.mp H
      obtain ⟨t373, A80, H⟩ := H
      replace H : (spec_TenTimes.j0 k a1 (!t373) a0_0 a0_1 a0_2) = some (r1, r2, r3, r4) := H
      have A8 := Aside0.mk A80
      clear A80
      have H' := Aside0.mk H
      clear H
      have hnb9 := NB370_371.out
      have hnc9 := NB371_370.out
      obtain ⟨hcz10_0, hcz10_1, hcz10_2, hfz10_0, hfz10_1, hfz10_2⟩ := cf3_ (w := w5) BK370.out
      go_wp2_with (first | ((with_reducible refine gate_callee (f := 24) rfl ?_); refine goesL_ (some 9) rfl rfl Tryd.func24 (by kernel_rfl) rfl #[.agg #[.bool a0_0, .int .u64 a0_1, .int .u64 a0_2]] rfl mp_ ?_; (with_reducible refine (spec_WideOk.calls a0_0 a0_1 a0_2 true _ A6.out).mono ?_); rintro e w11 ⟨rfl, hb⟩; refine ⟨_, rfl, ?_⟩; have n0_ := bb_ (g := gb370) hb; have n1_ := bb_ (g := gb371) hb; have n2_ := Aside0.mk (below_step bel_ hb); clear BK370; clear BK371; clear HB; have BK370 := n0_; have BK371 := n1_; have HB := n2_; clear n0_ n1_ n2_; (try clear hb); (try clear hb2); (try clear hk); (try clear hi)) | (go_at_call 57; (with_reducible refine (spec_l1In.calls a1 0 9 t373 _ A8.out).mono ?_); rintro e w' ⟨rfl, ⟨nd, rfl⟩⟩))
      go_meet
      case rel => exact ⟨_, (!t373), (by first | rfl | (simp; done) | (simp [*]; done)), H', ⟨by first | omega | exact Nat.le_refl _⟩, ⟨by (with_reducible repeat (first | refine bN_ _ ?_ | refine bd_ ?_ | refine ba_ _ ?_)); exact BK370.out⟩, ⟨by (with_reducible repeat (first | refine bN_ _ ?_ | refine bd_ ?_ | refine ba_ _ ?_)); exact BK371.out⟩, ⟨bel_⟩⟩
    · replace c7 := Bool.eq_false_iff.mpr c7
      subst c7
      have H1 : (spec_TenTimes.j0 k a1 true a0_0 a0_1 a0_2) = some (r1, r2, r3, r4) := by rw [if_neg (show ¬ (false = true) by decide)] at H; exact H
      clear H
      have H := H1
      clear H1
      have H' := Aside0.mk H
      clear H
      have hnb12 := NB370_371.out
      have hnc12 := NB371_370.out
      obtain ⟨hcz13_0, hcz13_1, hcz13_2, hfz13_0, hfz13_1, hfz13_2⟩ := cf3_ (w := w5) BK370.out
      go_wp2_with (first | ((with_reducible refine gate_callee (f := 24) rfl ?_); refine goesL_ (some 9) rfl rfl Tryd.func24 (by kernel_rfl) rfl #[.agg #[.bool a0_0, .int .u64 a0_1, .int .u64 a0_2]] rfl mp_ ?_; (with_reducible refine (spec_WideOk.calls a0_0 a0_1 a0_2 false _ A6.out).mono ?_); rintro e w14 ⟨rfl, hb⟩; refine ⟨_, rfl, ?_⟩; have n0_ := bb_ (g := gb370) hb; have n1_ := bb_ (g := gb371) hb; have n2_ := Aside0.mk (below_step bel_ hb); clear BK370; clear BK371; clear HB; have BK370 := n0_; have BK371 := n1_; have HB := n2_; clear n0_ n1_ n2_; (try clear hb); (try clear hb2); (try clear hk); (try clear hi)))
      go_meet
      case rel => exact ⟨_, (true), (by first | rfl | (simp; done) | (simp [*]; done)), H', ⟨by first | omega | exact Nat.le_refl _⟩, ⟨by (with_reducible repeat (first | refine bN_ _ ?_ | refine bd_ ?_ | refine ba_ _ ?_)); exact BK370.out⟩, ⟨by (with_reducible repeat (first | refine bN_ _ ?_ | refine bd_ ?_ | refine ba_ _ ?_)); exact BK371.out⟩, ⟨bel_⟩⟩
  case rest =>
    clear HC3
    try clear c1
    try clear c2
    try clear p2
    try clear c7
    try clear c9
    try clear c12
    try clear hcz10_0
    try clear hcz10_1
    try clear hcz10_2
    try clear hcz13_0
    try clear hcz13_1
    try clear hcz13_2
    try clear hfz10_0
    try clear hfz10_1
    try clear hfz10_2
    try clear hfz13_0
    try clear hfz13_1
    try clear hfz13_2
    obtain ⟨kq, x15_2, rfl, HA, HJ2, BK370, BK371, HB⟩ := hcut
    cases kq with
    | zero => exact absurd HA.out (by simp [spec_TenTimes.j0])
    | succ kj2 =>
      have H := HA.out
      clear HA
      simp only [spec_TenTimes.j0] at H
      by_cases c15 : x15_2 = true
      · subst c15
        have H1 : (some (false, 0, 0, false)) = some (r1, r2, r3, r4) := by rw [if_pos rfl] at H; exact H
        clear H
        have H := H1
        clear H1
        simp only [Option.some.injEq, Prod.mk.injEq] at H
        obtain ⟨rfl, rfl, rfl, rfl⟩ := H
        have hnb16 := NB371_370.out
        have hnc16 := NB370_371.out
        obtain ⟨hcz17_0, hcz17_1, hcz17_2, hfz17_0, hfz17_1, hfz17_2⟩ := cf3_ (w := wc) BK371.out
        go_wp2
        refine bodyPost_ret (results_ct rfl _ _ gb371 28 #[.bool false, .int .u64 0, .int .u64 0] (0, 0) _ rfl (pu_ #[.bool false, .int .u64 0, .int .u64 0] 2 (h := (pu_ #[.bool false, .int .u64 0, .int .u64 0] 1 (h := (pu_ #[.bool false, .int .u64 0, .int .u64 0] 0 (h := bk_)))))) Tryd.underlying28 rfl (by kernel_rfl)) rfl ?_
        exact ⟨rf_, bel_⟩
      · replace c15 := Bool.eq_false_iff.mpr c15
        subst c15
        have H1 : ((spec_ScaleWide.f a0_0 a0_1 a0_2 10).bind fun bt374 => (if bt374.2.2.2 = true then (if a0_0 = true then ((spec_WideOf.f (wrap64 (-a1))).bind fun bt379 => ((spec_AddWide.f kj2 bt374.1 bt374.2.1 bt374.2.2.1 bt379.1 bt379.2.1 bt379.2.2).bind fun bt382 => (some (bt382.1, bt382.2.1, bt382.2.2.1, bt382.2.2.2)))) else ((spec_WideOf.f a1).bind fun bt386 => ((spec_AddWide.f kj2 bt374.1 bt374.2.1 bt374.2.2.1 bt386.1 bt386.2.1 bt386.2.2).bind fun bt389 => (some (bt389.1, bt389.2.1, bt389.2.2.1, bt389.2.2.2))))) else (some (false, 0, 0, false)))) = some (r1, r2, r3, r4) := by rw [if_neg (show ¬ (false = true) by decide)] at H; exact H
        clear H
        have H := H1
        clear H1
        replace H := Option.bind_eq_some_iff.mp H
        obtain ⟨⟨t374, t375, t376, t377⟩, A180, H⟩ := H
        replace H : (if t377 = true then (if a0_0 = true then ((spec_WideOf.f (wrap64 (-a1))).bind fun bt379 => ((spec_AddWide.f kj2 t374 t375 t376 bt379.1 bt379.2.1 bt379.2.2).bind fun bt382 => (some (bt382.1, bt382.2.1, bt382.2.2.1, bt382.2.2.2)))) else ((spec_WideOf.f a1).bind fun bt386 => ((spec_AddWide.f kj2 t374 t375 t376 bt386.1 bt386.2.1 bt386.2.2).bind fun bt389 => (some (bt389.1, bt389.2.1, bt389.2.2.1, bt389.2.2.2))))) else (some (false, 0, 0, false))) = some (r1, r2, r3, r4) := H
        have A18 := Aside0.mk A180
        clear A180
        by_cases c19 : t377 = true
        · subst c19
          have H1 : (if a0_0 = true then ((spec_WideOf.f (wrap64 (-a1))).bind fun bt379 => ((spec_AddWide.f kj2 t374 t375 t376 bt379.1 bt379.2.1 bt379.2.2).bind fun bt382 => (some (bt382.1, bt382.2.1, bt382.2.2.1, bt382.2.2.2)))) else ((spec_WideOf.f a1).bind fun bt386 => ((spec_AddWide.f kj2 t374 t375 t376 bt386.1 bt386.2.1 bt386.2.2).bind fun bt389 => (some (bt389.1, bt389.2.1, bt389.2.2.1, bt389.2.2.2))))) = some (r1, r2, r3, r4) := by rw [if_pos rfl] at H; exact H
          clear H
          have H := H1
          clear H1
          by_cases c20 : a0_0 = true
          · subst c20
            have H1 : ((spec_WideOf.f (wrap64 (-a1))).bind fun bt379 => ((spec_AddWide.f kj2 t374 t375 t376 bt379.1 bt379.2.1 bt379.2.2).bind fun bt382 => (some (bt382.1, bt382.2.1, bt382.2.2.1, bt382.2.2.2)))) = some (r1, r2, r3, r4) := by rw [if_pos rfl] at H; exact H
            clear H
            have H := H1
            clear H1
            replace H := Option.bind_eq_some_iff.mp H
            obtain ⟨⟨t379, t380, t381⟩, A210, H⟩ := H
            replace H : ((spec_AddWide.f kj2 t374 t375 t376 t379 t380 t381).bind fun bt382 => (some (bt382.1, bt382.2.1, bt382.2.2.1, bt382.2.2.2))) = some (r1, r2, r3, r4) := H
            have A21 := Aside0.mk A210
            clear A210
            replace H := Option.bind_eq_some_iff.mp H
            obtain ⟨⟨t382, t383, t384, t385⟩, A220, H⟩ := H
            replace H : (some (t382, t383, t384, t385)) = some (r1, r2, r3, r4) := H
            have A22 := Aside0.mk A220
            clear A220
            simp only [Option.some.injEq, Prod.mk.injEq] at H
            obtain ⟨rfl, rfl, rfl, rfl⟩ := H
            have hnb23 := NB370_371.out
            have hnc23 := NB371_370.out
            obtain ⟨hcz24_0, hcz24_1, hcz24_2, hfz24_0, hfz24_1, hfz24_2⟩ := cf3_ (w := wc) BK370.out
            try go_wp2_with (first | ((with_reducible refine gate_callee (f := 58) rfl ?_); refine goesL_ (some 19) rfl rfl Tryd.func58 (by kernel_rfl) rfl #[.agg #[.bool true, .int .u64 a0_1, .int .u64 a0_2], .int .i64 10] rfl mp_ ?_; (with_reducible refine (spec_ScaleWide.calls true a0_1 a0_2 10 t374 t375 t376 true _ A18.out).mono ?_); rintro e w25 ⟨rfl, hb⟩; refine ⟨_, rfl, ?_⟩; have n0_ := bb_ (g := gb370) hb; have n1_ := bb_ (g := gb371) hb; have n2_ := Aside0.mk (below_step bel_ hb); clear BK370; clear BK371; clear HB; have BK370 := n0_; have BK371 := n1_; have HB := n2_; clear n0_ n1_ n2_; (try clear hb); (try clear hb2); (try clear hk); (try clear hi)) | ((with_reducible refine gate_dst (N := 6) rfl ?_); refine box_event ?hg (N := 6) ?hd (cs := #[.bool false, .int .u64 0, .int .u64 0]) (t := 28) ?hr ?_; (case hd => rfl); (case hg => rfl); (case hr => first | (go_simp; done) | (go_simp; rfl)); intro gb378 hg w26 hbox hb; have n0_ := bb_ (g := gb370) hb; have n1_ := bb_ (g := gb371) hb; have n2_ := Aside0.mk (below_step bel_ hb); have n3_ := Aside0.mk (hbox); have n4_ := bs_ (w := w) hg; have n5_ := bs_ (w := w) hg; have n6_ := nlt_ (g := gb370) hg; have n7_ := ngt_ (g := gb370) hg; have n8_ := nlt_ (g := gb371) hg; have n9_ := ngt_ (g := gb371) hg; clear BK370; clear BK371; clear HB; have BK370 := n0_; have BK371 := n1_; have HB := n2_; have BK378 := n3_; have GW378 := n4_; have GE378 := n5_; have NB370_378 := n6_; have NB378_370 := n7_; have NB371_378 := n8_; have NB378_371 := n9_; clear n0_ n1_ n2_ n3_ n4_ n5_ n6_ n7_ n8_ n9_; clear hb hbox hg; have hnb27 := NB378_370.out; have hnc27 := NB370_378.out; have hnb28 := NB378_371.out; have hnc28 := NB371_378.out; obtain ⟨hcz29_0, hcz29_1, hcz29_2, hfz29_0, hfz29_1, hfz29_2⟩ := cf3_ (w := w26) BK378.out; obtain ⟨hcz30_0, hcz30_1, hcz30_2, hfz30_0, hfz30_1, hfz30_2⟩ := cf3_ (w := w26) BK370.out))
            have n0_ : Aside0 ((((w26.setCell ⟨gb378, 0, none⟩ (.bool t374)).setCell ⟨gb378, 1, none⟩ (.int .u64 t375)).setCell ⟨gb378, 2, none⟩ (.int .u64 t376)).heap[gb370]? = some (.cells #[.bool true, .int .u64 a0_1, .int .u64 a0_2] 28 (0, 0))) := ⟨by (with_reducible repeat (first | refine bN_ _ ?_ | refine bd_ ?_ | refine ba_ _ ?_)); refine blk_far ?_ NB370_378.out _; (with_reducible repeat (first | refine bN_ _ ?_ | refine bd_ ?_ | refine ba_ _ ?_)); refine blk_far ?_ NB370_378.out _; (with_reducible repeat (first | refine bN_ _ ?_ | refine bd_ ?_ | refine ba_ _ ?_)); refine blk_far ?_ NB370_378.out _; (with_reducible repeat (first | refine bN_ _ ?_ | refine bd_ ?_ | refine ba_ _ ?_)); exact BK370.out⟩
            have n1_ : Aside0 ((((w26.setCell ⟨gb378, 0, none⟩ (.bool t374)).setCell ⟨gb378, 1, none⟩ (.int .u64 t375)).setCell ⟨gb378, 2, none⟩ (.int .u64 t376)).heap[gb371]? = some (.cells #[.bool false, .int .u64 0, .int .u64 0] 28 (0, 0))) := ⟨by (with_reducible repeat (first | refine bN_ _ ?_ | refine bd_ ?_ | refine ba_ _ ?_)); refine blk_far ?_ NB371_378.out _; (with_reducible repeat (first | refine bN_ _ ?_ | refine bd_ ?_ | refine ba_ _ ?_)); refine blk_far ?_ NB371_378.out _; (with_reducible repeat (first | refine bN_ _ ?_ | refine bd_ ?_ | refine ba_ _ ?_)); refine blk_far ?_ NB371_378.out _; (with_reducible repeat (first | refine bN_ _ ?_ | refine bd_ ?_ | refine ba_ _ ?_)); exact BK371.out⟩
            have n2_ : Aside0 ((((w26.setCell ⟨gb378, 0, none⟩ (.bool t374)).setCell ⟨gb378, 1, none⟩ (.int .u64 t375)).setCell ⟨gb378, 2, none⟩ (.int .u64 t376)).heap[gb378]? = some (.cells #[.bool t374, .int .u64 t375, .int .u64 t376] 28 (0, 0))) := ⟨by (with_reducible repeat (first | refine bN_ _ ?_ | refine bd_ ?_ | refine ba_ _ ?_)); refine blk_put (cs := #[.bool t374, .int .u64 t375, .int .u64 0]) ?_ 2 _ rfl; (with_reducible repeat (first | refine bN_ _ ?_ | refine bd_ ?_ | refine ba_ _ ?_)); refine blk_put (cs := #[.bool t374, .int .u64 0, .int .u64 0]) ?_ 1 _ rfl; (with_reducible repeat (first | refine bN_ _ ?_ | refine bd_ ?_ | refine ba_ _ ?_)); refine blk_put (cs := #[.bool false, .int .u64 0, .int .u64 0]) ?_ 0 _ rfl; (with_reducible repeat (first | refine bN_ _ ?_ | refine bd_ ?_ | refine ba_ _ ?_)); exact BK378.out⟩
            have n3_ : Aside0 (Below w.heap.size w (((w26.setCell ⟨gb378, 0, none⟩ (.bool t374)).setCell ⟨gb378, 1, none⟩ (.int .u64 t375)).setCell ⟨gb378, 2, none⟩ (.int .u64 t376))) := ⟨bel_⟩
            (try clear BK370)
            (try clear BK371)
            (try clear BK378)
            (try clear HB)
            generalize (((w26.setCell ⟨gb378, 0, none⟩ (.bool t374)).setCell ⟨gb378, 1, none⟩ (.int .u64 t375)).setCell ⟨gb378, 2, none⟩ (.int .u64 t376)) = w31 at n0_ n1_ n2_ n3_ ⊢
            have BK370 := n0_
            have BK371 := n1_
            have BK378 := n2_
            have HB := n3_
            clear n0_ n1_ n2_ n3_
            have n0_ := Aside0.mk (blk_drew BK370.out)
            have n1_ := Aside0.mk (blk_drew BK371.out)
            have n2_ := Aside0.mk (blk_drew BK378.out)
            have n3_ := Aside0.mk (below_drew1 HB.out)
            clear BK370
            clear BK371
            clear BK378
            clear HB
            have BK370 := n0_
            have BK371 := n1_
            have BK378 := n2_
            have HB := n3_
            clear n0_ n1_ n2_ n3_
            refine start_ (n := 8) (S := fun w' => w'.cell? ⟨gb378, 0, none⟩ = some (.bool t374) ∧ w'.cell? ⟨gb378, 1, none⟩ = some (.int .u64 t375) ∧ w'.cell? ⟨gb378, 2, none⟩ = some (.int .u64 t376)) (ds := []) #[false, false, false, false, false, false, false, false] (by kernel_rfl) rfl rfl ⟨bc_, bc_, bc_⟩ (fun hHeld => ?_); refine with_tabW spec_TenTimes.tab8 spec_TenTimes.bits8 (fun HT_ HW_ => ?_)
            generalize w31.drew = w32 at BK370 BK371 BK378 HB hHeld ⊢
            refine pure_ (i := 1) (N := some 30) (v := ?_) (a' := ?_) #[false, true, false, false, false, false, false, false] rfl rfl (any_of HT_.out (by kernel_rfl)) (fun _ _ _ h => h) (Or.inl ⟨by rfl, ?_⟩) ?_ ?_
            rotate_left
            · intro w'
              go_simp
              with_reducible rfl
            rotate_left
            · simp only [Act.put, la_, lb_, lc_, i64_w, i32_w]
              rfl
            refine take_ (i := 0) (N := some 29) (v := ?_) (a' := ?_) #[true, true, false, false, false, false, false, false] rfl rfl (take_ofW HT_.out HW_.out (by kernel_rfl)) (fun _ _ _ h => h) (Or.inl ⟨by rfl, ?_⟩) hHeld ?_ ?_
            rotate_left
            · rintro w' ⟨s0, s1, s2⟩
              go_simp
              with_reducible rfl
            rotate_left
            · simp only [Act.put, la_, lb_, lc_, i64_w, i32_w]
              rfl
            refine one_ (i := 2) (N := some 31) #[true, true, true, false, false, false, false, false] rfl rfl (one_of HT_.out (by kernel_rfl)) (by decide) (fun K hK => ?_)
            refine goes_ Tryd.func60 (by kernel_rfl) rfl #[.int .i64 (wrap64 (-a1))] (by rfl) rfl rfl mp_ ?_
            with_reducible refine (spec_WideOf.calls (wrap64 (-a1)) t379 t380 t381 _ A21.out).mono ?_
            rintro e w33 ⟨rfl, hb⟩
            refine ⟨_, rfl, ?_⟩
            have n0_ := bb_ (g := gb370) hb
            have n1_ := bb_ (g := gb371) hb
            have n2_ := bb_ (g := gb378) hb
            have n3_ := Aside0.mk (below_step bel_ hb)
            clear BK370
            clear BK371
            clear BK378
            clear HB
            have BK370 := n0_
            have BK371 := n1_
            have BK378 := n2_
            have HB := n3_
            clear n0_ n1_ n2_ n3_
            (try clear hb)
            (try clear hb2)
            (try clear hk)
            (try clear hi)
            refine hK.out _ _ ⟨bc_, bc_, bc_⟩ (fun hHeld => ?_)
            clear hK K
            refine norm_ (a' := ?_) ?_ ?_
            rotate_left
            · show Act.put _ (some 31) _ = _
              simp only [Act.put, la_, lb_, lc_, i64_w, i32_w]
              rfl
            refine one_ (i := 3) (N := some 32) #[true, true, true, true, false, false, false, false] rfl rfl (one_of HT_.out (by kernel_rfl)) (by decide) (fun K hK => ?_)
            refine goes_ Tryd.func59 (by kernel_rfl) rfl #[.agg #[.bool t374, .int .u64 t375, .int .u64 t376], .agg #[.bool t379, .int .u64 t380, .int .u64 t381]] (by rfl) rfl rfl mp_ ?_
            with_reducible refine (spec_AddWide.calls kj2 t374 t375 t376 t379 t380 t381 t382 t383 t384 t385 _ A22.out).mono ?_
            rintro e w34 ⟨rfl, hb⟩
            refine ⟨_, rfl, ?_⟩
            have n0_ := bb_ (g := gb370) hb
            have n1_ := bb_ (g := gb371) hb
            have n2_ := bb_ (g := gb378) hb
            have n3_ := Aside0.mk (below_step bel_ hb)
            clear BK370
            clear BK371
            clear BK378
            clear HB
            have BK370 := n0_
            have BK371 := n1_
            have BK378 := n2_
            have HB := n3_
            clear n0_ n1_ n2_ n3_
            (try clear hb)
            (try clear hb2)
            (try clear hk)
            (try clear hi)
            refine hK.out _ _ ⟨bc_, bc_, bc_⟩ (fun hHeld => ?_)
            clear hK K
            refine norm_ (a' := ?_) ?_ ?_
            rotate_left
            · show Act.put _ (some 32) _ = _
              simp only [Act.put, la_, lb_, lc_, i64_w, i32_w]
              rfl
            refine pure_ (i := 4) (N := some 33) (v := ?_) (a' := ?_) #[true, true, true, true, true, false, false, false] rfl rfl (any_of HT_.out (by kernel_rfl)) (fun _ _ _ h => h) (Or.inl ⟨by rfl, ?_⟩) ?_ ?_
            rotate_left
            · intro w'
              go_simp
              with_reducible rfl
            rotate_left
            · simp only [Act.put, la_, lb_, lc_, i64_w, i32_w]
              rfl
            refine pure_ (i := 5) (N := some 34) (v := ?_) (a' := ?_) #[true, true, true, true, true, true, false, false] rfl rfl (any_of HT_.out (by kernel_rfl)) (fun _ _ _ h => h) (Or.inl ⟨by rfl, ?_⟩) ?_ ?_
            rotate_left
            · intro w'
              go_simp
              with_reducible rfl
            rotate_left
            · simp only [Act.put, la_, lb_, lc_, i64_w, i32_w]
              rfl
            refine one_ (i := 6) (N := none) #[true, true, true, true, true, true, true, false] rfl rfl (one_of HT_.out (by kernel_rfl)) (by decide) (fun K hK => ?_)
            have hs35 : w34.cell? ⟨gb371, 0, none⟩ = some (.bool false) := (blk_cell BK371.out 0).trans rfl
            have hfs35 := blk_frozen BK371.out 0
            have hns35_0 := NB370_371.out
            have hns35_2 := NB378_371.out
            have hms35_0 := NB371_370.out
            have hms35_2 := NB371_378.out
            have hs36 : w34.cell? ⟨gb371, 1, none⟩ = some (.int .u64 0) := (blk_cell BK371.out 1).trans rfl
            have hfs36 := blk_frozen BK371.out 1
            have hns36_0 := NB370_371.out
            have hns36_2 := NB378_371.out
            have hms36_0 := NB371_370.out
            have hms36_2 := NB371_378.out
            have hs37 : w34.cell? ⟨gb371, 2, none⟩ = some (.int .u64 0) := (blk_cell BK371.out 2).trans rfl
            have hfs37 := blk_frozen BK371.out 2
            have hns37_0 := NB370_371.out
            have hns37_2 := NB378_371.out
            have hms37_0 := NB371_370.out
            have hms37_2 := NB371_378.out
            refine skip_ (w1 := ?_) ?_ ?_ ?_ ?_
            rotate_left
            · rfl
            · rfl
            · go_simp
              rfl
            refine hK.out _ _ ⟨(cfar_ hHeld.1), (cfar_ hHeld.2.1), (cfar_ hHeld.2.2)⟩ (fun hHeld => ?_)
            clear hK K
            refine pure_ (i := 7) (N := some 5) (v := ?_) (a' := ?_) #[true, true, true, true, true, true, true, true] rfl rfl (any_of HT_.out (by kernel_rfl)) (fun _ _ _ h => h) (Or.inl ⟨by rfl, ?_⟩) ?_ ?_
            rotate_left
            · intro w'
              go_simp
              with_reducible rfl
            rotate_left
            · simp only [Act.put, la_, lb_, lc_, i64_w, i32_w]
              rfl
            refine done_ (done_of HT_.out (by kernel_rfl)) ?_
            try go_wp2
            refine bodyPost_ret (results_ct rfl _ _ gb371 28 #[.bool t382, .int .u64 t383, .int .u64 t384] (0, 0) _ rfl (pu_ #[.bool t382, .int .u64 t383, .int .u64 0] 2 (h := (pu_ #[.bool t382, .int .u64 0, .int .u64 0] 1 (h := (pu_ #[.bool false, .int .u64 0, .int .u64 0] 0 (h := bk_)))))) Tryd.underlying28 rfl (by kernel_rfl)) rfl ?_
            exact ⟨rf_, bel_⟩
          · replace c20 := Bool.eq_false_iff.mpr c20
            subst c20
            have H1 : ((spec_WideOf.f a1).bind fun bt386 => ((spec_AddWide.f kj2 t374 t375 t376 bt386.1 bt386.2.1 bt386.2.2).bind fun bt389 => (some (bt389.1, bt389.2.1, bt389.2.2.1, bt389.2.2.2)))) = some (r1, r2, r3, r4) := by rw [if_neg (show ¬ (false = true) by decide)] at H; exact H
            clear H
            have H := H1
            clear H1
            replace H := Option.bind_eq_some_iff.mp H
            obtain ⟨⟨t386, t387, t388⟩, A380, H⟩ := H
            replace H : ((spec_AddWide.f kj2 t374 t375 t376 t386 t387 t388).bind fun bt389 => (some (bt389.1, bt389.2.1, bt389.2.2.1, bt389.2.2.2))) = some (r1, r2, r3, r4) := H
            have A38 := Aside0.mk A380
            clear A380
            replace H := Option.bind_eq_some_iff.mp H
            obtain ⟨⟨t389, t390, t391, t392⟩, A390, H⟩ := H
            replace H : (some (t389, t390, t391, t392)) = some (r1, r2, r3, r4) := H
            have A39 := Aside0.mk A390
            clear A390
            simp only [Option.some.injEq, Prod.mk.injEq] at H
            obtain ⟨rfl, rfl, rfl, rfl⟩ := H
            have hnb40 := NB370_371.out
            have hnc40 := NB371_370.out
            obtain ⟨hcz41_0, hcz41_1, hcz41_2, hfz41_0, hfz41_1, hfz41_2⟩ := cf3_ (w := wc) BK370.out
            try go_wp2_with (first | ((with_reducible refine gate_callee (f := 58) rfl ?_); refine goesL_ (some 19) rfl rfl Tryd.func58 (by kernel_rfl) rfl #[.agg #[.bool false, .int .u64 a0_1, .int .u64 a0_2], .int .i64 10] rfl mp_ ?_; (with_reducible refine (spec_ScaleWide.calls false a0_1 a0_2 10 t374 t375 t376 true _ A18.out).mono ?_); rintro e w42 ⟨rfl, hb⟩; refine ⟨_, rfl, ?_⟩; have n0_ := bb_ (g := gb370) hb; have n1_ := bb_ (g := gb371) hb; have n2_ := Aside0.mk (below_step bel_ hb); clear BK370; clear BK371; clear HB; have BK370 := n0_; have BK371 := n1_; have HB := n2_; clear n0_ n1_ n2_; (try clear hb); (try clear hb2); (try clear hk); (try clear hi)) | ((with_reducible refine gate_dst (N := 6) rfl ?_); refine box_event ?hg (N := 6) ?hd (cs := #[.bool false, .int .u64 0, .int .u64 0]) (t := 28) ?hr ?_; (case hd => rfl); (case hg => rfl); (case hr => first | (go_simp; done) | (go_simp; rfl)); intro gb378 hg w43 hbox hb; have n0_ := bb_ (g := gb370) hb; have n1_ := bb_ (g := gb371) hb; have n2_ := Aside0.mk (below_step bel_ hb); have n3_ := Aside0.mk (hbox); have n4_ := bs_ (w := w) hg; have n5_ := bs_ (w := w) hg; have n6_ := nlt_ (g := gb370) hg; have n7_ := ngt_ (g := gb370) hg; have n8_ := nlt_ (g := gb371) hg; have n9_ := ngt_ (g := gb371) hg; clear BK370; clear BK371; clear HB; have BK370 := n0_; have BK371 := n1_; have HB := n2_; have BK378 := n3_; have GW378 := n4_; have GE378 := n5_; have NB370_378 := n6_; have NB378_370 := n7_; have NB371_378 := n8_; have NB378_371 := n9_; clear n0_ n1_ n2_ n3_ n4_ n5_ n6_ n7_ n8_ n9_; clear hb hbox hg; have hnb44 := NB378_370.out; have hnc44 := NB370_378.out; have hnb45 := NB378_371.out; have hnc45 := NB371_378.out; obtain ⟨hcz46_0, hcz46_1, hcz46_2, hfz46_0, hfz46_1, hfz46_2⟩ := cf3_ (w := w43) BK378.out; obtain ⟨hcz47_0, hcz47_1, hcz47_2, hfz47_0, hfz47_1, hfz47_2⟩ := cf3_ (w := w43) BK370.out))
            have n0_ : Aside0 ((((w43.setCell ⟨gb378, 0, none⟩ (.bool t374)).setCell ⟨gb378, 1, none⟩ (.int .u64 t375)).setCell ⟨gb378, 2, none⟩ (.int .u64 t376)).heap[gb370]? = some (.cells #[.bool false, .int .u64 a0_1, .int .u64 a0_2] 28 (0, 0))) := ⟨by (with_reducible repeat (first | refine bN_ _ ?_ | refine bd_ ?_ | refine ba_ _ ?_)); refine blk_far ?_ NB370_378.out _; (with_reducible repeat (first | refine bN_ _ ?_ | refine bd_ ?_ | refine ba_ _ ?_)); refine blk_far ?_ NB370_378.out _; (with_reducible repeat (first | refine bN_ _ ?_ | refine bd_ ?_ | refine ba_ _ ?_)); refine blk_far ?_ NB370_378.out _; (with_reducible repeat (first | refine bN_ _ ?_ | refine bd_ ?_ | refine ba_ _ ?_)); exact BK370.out⟩
            have n1_ : Aside0 ((((w43.setCell ⟨gb378, 0, none⟩ (.bool t374)).setCell ⟨gb378, 1, none⟩ (.int .u64 t375)).setCell ⟨gb378, 2, none⟩ (.int .u64 t376)).heap[gb371]? = some (.cells #[.bool false, .int .u64 0, .int .u64 0] 28 (0, 0))) := ⟨by (with_reducible repeat (first | refine bN_ _ ?_ | refine bd_ ?_ | refine ba_ _ ?_)); refine blk_far ?_ NB371_378.out _; (with_reducible repeat (first | refine bN_ _ ?_ | refine bd_ ?_ | refine ba_ _ ?_)); refine blk_far ?_ NB371_378.out _; (with_reducible repeat (first | refine bN_ _ ?_ | refine bd_ ?_ | refine ba_ _ ?_)); refine blk_far ?_ NB371_378.out _; (with_reducible repeat (first | refine bN_ _ ?_ | refine bd_ ?_ | refine ba_ _ ?_)); exact BK371.out⟩
            have n2_ : Aside0 ((((w43.setCell ⟨gb378, 0, none⟩ (.bool t374)).setCell ⟨gb378, 1, none⟩ (.int .u64 t375)).setCell ⟨gb378, 2, none⟩ (.int .u64 t376)).heap[gb378]? = some (.cells #[.bool t374, .int .u64 t375, .int .u64 t376] 28 (0, 0))) := ⟨by (with_reducible repeat (first | refine bN_ _ ?_ | refine bd_ ?_ | refine ba_ _ ?_)); refine blk_put (cs := #[.bool t374, .int .u64 t375, .int .u64 0]) ?_ 2 _ rfl; (with_reducible repeat (first | refine bN_ _ ?_ | refine bd_ ?_ | refine ba_ _ ?_)); refine blk_put (cs := #[.bool t374, .int .u64 0, .int .u64 0]) ?_ 1 _ rfl; (with_reducible repeat (first | refine bN_ _ ?_ | refine bd_ ?_ | refine ba_ _ ?_)); refine blk_put (cs := #[.bool false, .int .u64 0, .int .u64 0]) ?_ 0 _ rfl; (with_reducible repeat (first | refine bN_ _ ?_ | refine bd_ ?_ | refine ba_ _ ?_)); exact BK378.out⟩
            have n3_ : Aside0 (Below w.heap.size w (((w43.setCell ⟨gb378, 0, none⟩ (.bool t374)).setCell ⟨gb378, 1, none⟩ (.int .u64 t375)).setCell ⟨gb378, 2, none⟩ (.int .u64 t376))) := ⟨bel_⟩
            (try clear BK370)
            (try clear BK371)
            (try clear BK378)
            (try clear HB)
            generalize (((w43.setCell ⟨gb378, 0, none⟩ (.bool t374)).setCell ⟨gb378, 1, none⟩ (.int .u64 t375)).setCell ⟨gb378, 2, none⟩ (.int .u64 t376)) = w48 at n0_ n1_ n2_ n3_ ⊢
            have BK370 := n0_
            have BK371 := n1_
            have BK378 := n2_
            have HB := n3_
            clear n0_ n1_ n2_ n3_
            have n0_ := Aside0.mk (blk_drew BK370.out)
            have n1_ := Aside0.mk (blk_drew BK371.out)
            have n2_ := Aside0.mk (blk_drew BK378.out)
            have n3_ := Aside0.mk (below_drew1 HB.out)
            clear BK370
            clear BK371
            clear BK378
            clear HB
            have BK370 := n0_
            have BK371 := n1_
            have BK378 := n2_
            have HB := n3_
            clear n0_ n1_ n2_ n3_
            refine start_ (n := 8) (S := fun w' => w'.cell? ⟨gb378, 0, none⟩ = some (.bool t374) ∧ w'.cell? ⟨gb378, 1, none⟩ = some (.int .u64 t375) ∧ w'.cell? ⟨gb378, 2, none⟩ = some (.int .u64 t376)) (ds := []) #[false, false, false, false, false, false, false, false] (by kernel_rfl) rfl rfl ⟨bc_, bc_, bc_⟩ (fun hHeld => ?_); refine with_tabW spec_TenTimes.tab8 spec_TenTimes.bits8 (fun HT_ HW_ => ?_)
            generalize w48.drew = w49 at BK370 BK371 BK378 HB hHeld ⊢
            refine pure_ (i := 1) (N := some 30) (v := ?_) (a' := ?_) #[false, true, false, false, false, false, false, false] rfl rfl (any_of HT_.out (by kernel_rfl)) (fun _ _ _ h => h) (Or.inl ⟨by rfl, ?_⟩) ?_ ?_
            rotate_left
            · intro w'
              go_simp
              with_reducible rfl
            rotate_left
            · simp only [Act.put, la_, lb_, lc_, i64_w, i32_w]
              rfl
            refine take_ (i := 0) (N := some 29) (v := ?_) (a' := ?_) #[true, true, false, false, false, false, false, false] rfl rfl (take_ofW HT_.out HW_.out (by kernel_rfl)) (fun _ _ _ h => h) (Or.inl ⟨by rfl, ?_⟩) hHeld ?_ ?_
            rotate_left
            · rintro w' ⟨s0, s1, s2⟩
              go_simp
              with_reducible rfl
            rotate_left
            · simp only [Act.put, la_, lb_, lc_, i64_w, i32_w]
              rfl
            refine one_ (i := 2) (N := some 31) #[true, true, true, false, false, false, false, false] rfl rfl (one_of HT_.out (by kernel_rfl)) (by decide) (fun K hK => ?_)
            refine goes_ Tryd.func60 (by kernel_rfl) rfl #[.int .i64 a1] (by rfl) rfl rfl mp_ ?_
            with_reducible refine (spec_WideOf.calls a1 t386 t387 t388 _ A38.out).mono ?_
            rintro e w50 ⟨rfl, hb⟩
            refine ⟨_, rfl, ?_⟩
            have n0_ := bb_ (g := gb370) hb
            have n1_ := bb_ (g := gb371) hb
            have n2_ := bb_ (g := gb378) hb
            have n3_ := Aside0.mk (below_step bel_ hb)
            clear BK370
            clear BK371
            clear BK378
            clear HB
            have BK370 := n0_
            have BK371 := n1_
            have BK378 := n2_
            have HB := n3_
            clear n0_ n1_ n2_ n3_
            (try clear hb)
            (try clear hb2)
            (try clear hk)
            (try clear hi)
            refine hK.out _ _ ⟨bc_, bc_, bc_⟩ (fun hHeld => ?_)
            clear hK K
            refine norm_ (a' := ?_) ?_ ?_
            rotate_left
            · show Act.put _ (some 31) _ = _
              simp only [Act.put, la_, lb_, lc_, i64_w, i32_w]
              rfl
            refine one_ (i := 3) (N := some 32) #[true, true, true, true, false, false, false, false] rfl rfl (one_of HT_.out (by kernel_rfl)) (by decide) (fun K hK => ?_)
            refine goes_ Tryd.func59 (by kernel_rfl) rfl #[.agg #[.bool t374, .int .u64 t375, .int .u64 t376], .agg #[.bool t386, .int .u64 t387, .int .u64 t388]] (by rfl) rfl rfl mp_ ?_
            with_reducible refine (spec_AddWide.calls kj2 t374 t375 t376 t386 t387 t388 t389 t390 t391 t392 _ A39.out).mono ?_
            rintro e w51 ⟨rfl, hb⟩
            refine ⟨_, rfl, ?_⟩
            have n0_ := bb_ (g := gb370) hb
            have n1_ := bb_ (g := gb371) hb
            have n2_ := bb_ (g := gb378) hb
            have n3_ := Aside0.mk (below_step bel_ hb)
            clear BK370
            clear BK371
            clear BK378
            clear HB
            have BK370 := n0_
            have BK371 := n1_
            have BK378 := n2_
            have HB := n3_
            clear n0_ n1_ n2_ n3_
            (try clear hb)
            (try clear hb2)
            (try clear hk)
            (try clear hi)
            refine hK.out _ _ ⟨bc_, bc_, bc_⟩ (fun hHeld => ?_)
            clear hK K
            refine norm_ (a' := ?_) ?_ ?_
            rotate_left
            · show Act.put _ (some 32) _ = _
              simp only [Act.put, la_, lb_, lc_, i64_w, i32_w]
              rfl
            refine pure_ (i := 4) (N := some 33) (v := ?_) (a' := ?_) #[true, true, true, true, true, false, false, false] rfl rfl (any_of HT_.out (by kernel_rfl)) (fun _ _ _ h => h) (Or.inl ⟨by rfl, ?_⟩) ?_ ?_
            rotate_left
            · intro w'
              go_simp
              with_reducible rfl
            rotate_left
            · simp only [Act.put, la_, lb_, lc_, i64_w, i32_w]
              rfl
            refine pure_ (i := 5) (N := some 34) (v := ?_) (a' := ?_) #[true, true, true, true, true, true, false, false] rfl rfl (any_of HT_.out (by kernel_rfl)) (fun _ _ _ h => h) (Or.inl ⟨by rfl, ?_⟩) ?_ ?_
            rotate_left
            · intro w'
              go_simp
              with_reducible rfl
            rotate_left
            · simp only [Act.put, la_, lb_, lc_, i64_w, i32_w]
              rfl
            refine one_ (i := 6) (N := none) #[true, true, true, true, true, true, true, false] rfl rfl (one_of HT_.out (by kernel_rfl)) (by decide) (fun K hK => ?_)
            have hs52 : w51.cell? ⟨gb371, 0, none⟩ = some (.bool false) := (blk_cell BK371.out 0).trans rfl
            have hfs52 := blk_frozen BK371.out 0
            have hns52_0 := NB370_371.out
            have hns52_2 := NB378_371.out
            have hms52_0 := NB371_370.out
            have hms52_2 := NB371_378.out
            have hs53 : w51.cell? ⟨gb371, 1, none⟩ = some (.int .u64 0) := (blk_cell BK371.out 1).trans rfl
            have hfs53 := blk_frozen BK371.out 1
            have hns53_0 := NB370_371.out
            have hns53_2 := NB378_371.out
            have hms53_0 := NB371_370.out
            have hms53_2 := NB371_378.out
            have hs54 : w51.cell? ⟨gb371, 2, none⟩ = some (.int .u64 0) := (blk_cell BK371.out 2).trans rfl
            have hfs54 := blk_frozen BK371.out 2
            have hns54_0 := NB370_371.out
            have hns54_2 := NB378_371.out
            have hms54_0 := NB371_370.out
            have hms54_2 := NB371_378.out
            refine skip_ (w1 := ?_) ?_ ?_ ?_ ?_
            rotate_left
            · rfl
            · rfl
            · go_simp
              rfl
            refine hK.out _ _ ⟨(cfar_ hHeld.1), (cfar_ hHeld.2.1), (cfar_ hHeld.2.2)⟩ (fun hHeld => ?_)
            clear hK K
            refine pure_ (i := 7) (N := some 5) (v := ?_) (a' := ?_) #[true, true, true, true, true, true, true, true] rfl rfl (any_of HT_.out (by kernel_rfl)) (fun _ _ _ h => h) (Or.inl ⟨by rfl, ?_⟩) ?_ ?_
            rotate_left
            · intro w'
              go_simp
              with_reducible rfl
            rotate_left
            · simp only [Act.put, la_, lb_, lc_, i64_w, i32_w]
              rfl
            refine done_ (done_of HT_.out (by kernel_rfl)) ?_
            try go_wp2
            refine bodyPost_ret (results_ct rfl _ _ gb371 28 #[.bool t389, .int .u64 t390, .int .u64 t391] (0, 0) _ rfl (pu_ #[.bool t389, .int .u64 t390, .int .u64 0] 2 (h := (pu_ #[.bool t389, .int .u64 0, .int .u64 0] 1 (h := (pu_ #[.bool false, .int .u64 0, .int .u64 0] 0 (h := bk_)))))) Tryd.underlying28 rfl (by kernel_rfl)) rfl ?_
            exact ⟨rf_, bel_⟩
        · replace c19 := Bool.eq_false_iff.mpr c19
          subst c19
          have H1 : (some (false, 0, 0, false)) = some (r1, r2, r3, r4) := by rw [if_neg (show ¬ (false = true) by decide)] at H; exact H
          clear H
          have H := H1
          clear H1
          simp only [Option.some.injEq, Prod.mk.injEq] at H
          obtain ⟨rfl, rfl, rfl, rfl⟩ := H
          have hnb55 := NB370_371.out
          have hnc55 := NB371_370.out
          obtain ⟨hcz56_0, hcz56_1, hcz56_2, hfz56_0, hfz56_1, hfz56_2⟩ := cf3_ (w := wc) BK370.out
          go_wp2_with (first | ((with_reducible refine gate_callee (f := 58) rfl ?_); refine goesL_ (some 19) rfl rfl Tryd.func58 (by kernel_rfl) rfl #[.agg #[.bool a0_0, .int .u64 a0_1, .int .u64 a0_2], .int .i64 10] rfl mp_ ?_; (with_reducible refine (spec_ScaleWide.calls a0_0 a0_1 a0_2 10 t374 t375 t376 false _ A18.out).mono ?_); rintro e w57 ⟨rfl, hb⟩; refine ⟨_, rfl, ?_⟩; have n0_ := bb_ (g := gb370) hb; have n1_ := bb_ (g := gb371) hb; have n2_ := Aside0.mk (below_step bel_ hb); clear BK370; clear BK371; clear HB; have BK370 := n0_; have BK371 := n1_; have HB := n2_; clear n0_ n1_ n2_; (try clear hb); (try clear hb2); (try clear hk); (try clear hi)) | ((with_reducible refine gate_dst (N := 6) rfl ?_); refine box_event ?hg (N := 6) ?hd (cs := #[.bool false, .int .u64 0, .int .u64 0]) (t := 28) ?hr ?_; (case hd => rfl); (case hg => rfl); (case hr => first | (go_simp; done) | (go_simp; rfl)); intro gb378 hg w58 hbox hb; have n0_ := bb_ (g := gb370) hb; have n1_ := bb_ (g := gb371) hb; have n2_ := Aside0.mk (below_step bel_ hb); have n3_ := Aside0.mk (hbox); have n4_ := bs_ (w := w) hg; have n5_ := bs_ (w := w) hg; have n6_ := nlt_ (g := gb370) hg; have n7_ := ngt_ (g := gb370) hg; have n8_ := nlt_ (g := gb371) hg; have n9_ := ngt_ (g := gb371) hg; clear BK370; clear BK371; clear HB; have BK370 := n0_; have BK371 := n1_; have HB := n2_; have BK378 := n3_; have GW378 := n4_; have GE378 := n5_; have NB370_378 := n6_; have NB378_370 := n7_; have NB371_378 := n8_; have NB378_371 := n9_; clear n0_ n1_ n2_ n3_ n4_ n5_ n6_ n7_ n8_ n9_; clear hb hbox hg; have hnb59 := NB378_370.out; have hnc59 := NB370_378.out; have hnb60 := NB378_371.out; have hnc60 := NB371_378.out; obtain ⟨hcz61_0, hcz61_1, hcz61_2, hfz61_0, hfz61_1, hfz61_2⟩ := cf3_ (w := w58) BK378.out; obtain ⟨hcz62_0, hcz62_1, hcz62_2, hfz62_0, hfz62_1, hfz62_2⟩ := cf3_ (w := w58) BK371.out))
          refine bodyPost_ret (results_ct rfl _ _ gb371 28 #[.bool false, .int .u64 0, .int .u64 0] (0, 0) _ rfl (pu_ #[.bool false, .int .u64 0, .int .u64 0] 2 (h := (pu_ #[.bool false, .int .u64 0, .int .u64 0] 1 (h := (pu_ #[.bool false, .int .u64 0, .int .u64 0] 0 (h := bk_)))))) Tryd.underlying28 rfl (by kernel_rfl)) rfl ?_
          exact ⟨rf_, bel_⟩

end Go.Proofs.YtkpgpifkbdpnkaaDoor.PFnWideSmall
