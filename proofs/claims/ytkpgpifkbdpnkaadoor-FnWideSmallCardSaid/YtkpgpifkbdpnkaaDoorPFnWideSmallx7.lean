/- Contracts of Go functions, each with the Lean function that says what it computes: begun by the print, turned by this session. No condition beyond what each theorem states. -/
import Derived.Test.YtkpgpifkbdpnkaaDoorPFnWideSmallx0
import Derived.Test.YtkpgpifkbdpnkaaDoorPFnWideSmallx4
import Derived.Test.YtkpgpifkbdpnkaaDoorPFnWideSmallx5
import Derived.Test.YtkpgpifkbdpnkaaDoorPFnWideSmallx6
namespace Go.Proofs.YtkpgpifkbdpnkaaDoor.PFnWideSmall
open Go.RowKit Go.Proofs.YtkpgpifkbdpnkaaDoorVFnWideSmall.PrintWords Go.Proofs.YtkpgpifkbdpnkaaDoorVFnWideSmall.PrintLast Go.Proofs.YtkpgpifkbdpnkaaDoorVFnWideSmall.PrintMore
attribute [local go_sem] max2_int min2_int max_two min_two max_three min_three max_four min_four   -- for this text's walks alone
set_option linter.unusedVariables false
set_option linter.unusedSimpArgs false

/-! ### impl_TenTimes: function 15 -/
def impl_TenTimes.j0 : Nat → Int → Bool → Bool → Int → Int → Bool → Int → Int → Option (Bool × Int × Int × Bool)
  | 0, _, _, _, _, _, _, _, _ => none
  | k + 1, x1, x19, x319000, x319001, x319002, x325000, x325001, x325002 => if x19 = true then (some (false, 0, 0, false)) else (if x319000 = true then ((impl_WideOf.f (wrap64 (-x1))).bind fun bt326 => ((impl_AddWide.f k x325000 x325001 x325002 bt326.1 bt326.2.1 bt326.2.2).bind fun bt329 => (some (bt329.1, bt329.2.1, bt329.2.2.1, bt329.2.2.2)))) else ((impl_WideOf.f x1).bind fun bt333 => ((impl_AddWide.f k x325000 x325001 x325002 bt333.1 bt333.2.1 bt333.2.2).bind fun bt336 => (some (bt336.1, bt336.2.1, bt336.2.2.1, bt336.2.2.2)))))
def impl_TenTimes.f (k : Nat) (a0_0 : Bool) (a0_1 : Int) (a0_2 : Int) (a1 : Int) : Option (Bool × Int × Int × Bool) := (impl_ScaleWide.f a0_0 a0_1 a0_2 10).bind fun bt320 => (if bt320.2.2.2 = true then ((impl_within.f a1 0 9).bind fun t325 => (impl_TenTimes.j0 k a1 (!t325) a0_0 a0_1 a0_2 bt320.1 bt320.2.1 bt320.2.2.1)) else (impl_TenTimes.j0 k a1 true a0_0 a0_1 a0_2 bt320.1 bt320.2.1 bt320.2.2.1))
theorem impl_TenTimes.mono_l : ∀ k, (∀ y0 y1 y2 y3 y4 y5 y6 y7, LeO (impl_TenTimes.j0 k y0 y1 y2 y3 y4 y5 y6 y7) (impl_TenTimes.j0 (k + 1) y0 y1 y2 y3 y4 y5 y6 y7))
  | 0 => fun _ _ _ _ _ _ _ _ r h => by simp [impl_TenTimes.j0] at h
  | k + 1 => by
    have ih0 := impl_TenTimes.mono_l k
    · intro y0 y1 y2 y3 y4 y5 y6 y7
      unfold impl_TenTimes.j0
      repeat' first
      | (with_reducible exact ih0 _ _ _ _ _ _ _ _)
      | (with_reducible exact impl_AddWide.mono _ _ _ _ _ _ _)
      | (with_reducible exact LeO.refl _)
      | (with_reducible exact LeO.none _)
      | (with_reducible refine LeO.ite ?_ ?_)
      | (with_reducible refine LeO.bind ?_ (fun _ => ?_))
      | exact ih0 _ _ _ _ _ _ _ _
      | exact impl_AddWide.mono _ _ _ _ _ _ _
      | exact LeO.none _
      | refine LeO.ite ?_ ?_
      | refine LeO.bind ?_ (fun _ => ?_)
theorem impl_TenTimes.mono : ∀ a0 a1 a2 a3 k, LeO (impl_TenTimes.f k a0 a1 a2 a3) (impl_TenTimes.f (k + 1) a0 a1 a2 a3) := by
  intro a0 a1 a2 a3 k
  have ih0 := impl_TenTimes.mono_l k
  unfold impl_TenTimes.f
  repeat' first
      | (with_reducible exact ih0 _ _ _ _ _ _ _ _)
      | (with_reducible exact impl_AddWide.mono _ _ _ _ _ _ _)
      | (with_reducible exact LeO.refl _)
      | (with_reducible exact LeO.none _)
      | (with_reducible refine LeO.ite ?_ ?_)
      | (with_reducible refine LeO.bind ?_ (fun _ => ?_))
      | exact ih0 _ _ _ _ _ _ _ _
      | exact impl_AddWide.mono _ _ _ _ _ _ _
      | exact LeO.none _
      | refine LeO.ite ?_ ?_
      | refine LeO.bind ?_ (fun _ => ?_)
def impl_TenTimes.T6 : Bool × List (List Nat × List Nat) := (true, [([], []), ([], []), ([1], [1]), ([0, 2, 2], [0, 2]), ([3], [3]), ([3], [3]), ([4, 3, 0, 1, 2, 3, 4, 5], [4]), ([5, 6, 0, 1, 2, 3, 4, 5, 6], [5])])
def impl_TenTimes.B6 : List Nat := [0, 0, 2, 7, 15, 15, 63, 127]
theorem impl_TenTimes.tab6 : rtab .any (opsOf Tryd.f15 6) = impl_TenTimes.T6 := by kernel_rfl
theorem impl_TenTimes.bits6 : waitsOk impl_TenTimes.T6.2 impl_TenTimes.B6 = true := by kernel_rfl
set_option maxHeartbeats 8000000 in
set_option maxRecDepth 100000 in
theorem impl_TenTimes.calls (k : Nat) (a0_0 : Bool) (a0_1 : Int) (a0_2 : Int) (a1 : Int) (r1 : Bool) (r2 : Int) (r3 : Int) (r4 : Bool) (w : World) (h : impl_TenTimes.f k a0_0 a0_1 a0_2 a1 = some (r1, r2, r3, r4)) :
    Calls Tryd.prog 15 #[.agg #[.bool a0_0, .int .u64 a0_1, .int .u64 a0_2], .int .i64 a1] w fun e w' => e = .returned (.tuple #[.agg #[.bool r1, .int .u64 r2, .int .u64 r3], .bool r4]) ∧ Below w.heap.size w w' := by
  have hu28 := Tryd.underlying28
  have HB := Aside0.mk (Below.refl w.heap.size w)
  have H : ((impl_ScaleWide.f a0_0 a0_1 a0_2 10).bind fun bt320 => (if bt320.2.2.2 = true then ((impl_within.f a1 0 9).bind fun t325 => (impl_TenTimes.j0 k a1 (!t325) a0_0 a0_1 a0_2 bt320.1 bt320.2.1 bt320.2.2.1)) else (impl_TenTimes.j0 k a1 true a0_0 a0_1 a0_2 bt320.1 bt320.2.1 bt320.2.2.1))) = some (r1, r2, r3, r4) := h
  clear h
  replace H := Option.bind_eq_some_iff.mp H
  obtain ⟨⟨t320, t321, t322, t323⟩, A30, H⟩ := H
  replace H : (if t323 = true then ((impl_within.f a1 0 9).bind fun t325 => (impl_TenTimes.j0 k a1 (!t325) a0_0 a0_1 a0_2 t320 t321 t322)) else (impl_TenTimes.j0 k a1 true a0_0 a0_1 a0_2 t320 t321 t322)) = some (r1, r2, r3, r4) := H
  have A3 := Aside0.mk A30
  clear A30
  have HC4 := Aside0.mk H
  clear H
  go_enter Tryd.func15, Tryd.ntmps15
  go_upto_region 2 with (first | ((with_reducible refine gate_dst (N := 2) rfl ?_); refine box_event ?hg (N := 2) ?hd (cs := #[.bool a0_0, .int .u64 a0_1, .int .u64 a0_2]) (t := 28) ?hr ?_; (case hd => rfl); (case hg => rfl); (case hr => first | (go_simp; done) | (go_simp; rfl)); intro gb318 hg w5 hbox hb; have n0_ := Aside0.mk (below_step bel_ hb); have n1_ := Aside0.mk (hbox); have n2_ := bs_ (w := w) hg; have n3_ := bs_ (w := w) hg; clear HB; have HB := n0_; have BK318 := n1_; have GW318 := n2_; have GE318 := n3_; clear n0_ n1_ n2_ n3_; clear hb hbox hg) | ((with_reducible refine gate_dst (N := 4) rfl ?_); refine box_event ?hg (N := 4) ?hd (cs := #[.bool false, .int .u64 0, .int .u64 0]) (t := 28) ?hr ?_; (case hd => rfl); (case hg => rfl); (case hr => first | (go_simp; done) | (go_simp; rfl)); intro gb319 hg w6 hbox hb; have n0_ := bb_ (g := gb318) hb; have n1_ := Aside0.mk (below_step bel_ hb); have n2_ := Aside0.mk (hbox); have n3_ := bs_ (w := w) hg; have n4_ := bs_ (w := w) hg; have n5_ := nlt_ (g := gb318) hg; have n6_ := ngt_ (g := gb318) hg; clear BK318; clear HB; have BK318 := n0_; have HB := n1_; have BK319 := n2_; have GW319 := n3_; have GE319 := n4_; have NB318_319 := n5_; have NB319_318 := n6_; clear n0_ n1_ n2_ n3_ n4_ n5_ n6_; clear hb hbox hg; have hnb7 := NB318_319.out; have hnc7 := NB319_318.out; obtain ⟨hcz8_0, hcz8_1, hcz8_2, hfz8_0, hfz8_1, hfz8_2⟩ := cf3_ (w := w6) BK318.out) | ((with_reducible refine gate_callee (f := 54) rfl ?_); refine goesL_ (some 10) rfl rfl Tryd.func54 (by kernel_rfl) rfl #[.agg #[.bool a0_0, .int .u64 a0_1, .int .u64 a0_2], .int .i64 10] rfl mp_ ?_; (with_reducible refine (impl_ScaleWide.calls a0_0 a0_1 a0_2 10 t320 t321 t322 t323 _ A3.out).mono ?_); rintro e w9 ⟨rfl, hb⟩; refine ⟨_, rfl, ?_⟩; have n0_ := bb_ (g := gb318) hb; have n1_ := bb_ (g := gb319) hb; have n2_ := Aside0.mk (below_step bel_ hb); clear BK318; clear BK319; clear HB; have BK318 := n0_; have BK319 := n1_; have HB := n2_; clear n0_ n1_ n2_; (try clear hb); (try clear hb2); (try clear hk); (try clear hi)) | ((with_reducible refine gate_dst (N := 6) rfl ?_); refine box_event ?hg (N := 6) ?hd (cs := #[.bool false, .int .u64 0, .int .u64 0]) (t := 28) ?hr ?_; (case hd => rfl); (case hg => rfl); (case hr => first | (go_simp; done) | (go_simp; rfl)); intro gb324 hg w10 hbox hb; have n0_ := bb_ (g := gb318) hb; have n1_ := bb_ (g := gb319) hb; have n2_ := Aside0.mk (below_step bel_ hb); have n3_ := Aside0.mk (hbox); have n4_ := bs_ (w := w) hg; have n5_ := bs_ (w := w) hg; have n6_ := nlt_ (g := gb318) hg; have n7_ := ngt_ (g := gb318) hg; have n8_ := nlt_ (g := gb319) hg; have n9_ := ngt_ (g := gb319) hg; clear BK318; clear BK319; clear HB; have BK318 := n0_; have BK319 := n1_; have HB := n2_; have BK324 := n3_; have GW324 := n4_; have GE324 := n5_; have NB318_324 := n6_; have NB324_318 := n7_; have NB319_324 := n8_; have NB324_319 := n9_; clear n0_ n1_ n2_ n3_ n4_ n5_ n6_ n7_ n8_ n9_; clear hb hbox hg; have hnb11 := NB324_318.out; have hnc11 := NB318_324.out; have hnb12 := NB324_319.out; have hnc12 := NB319_324.out; obtain ⟨hcz13_0, hcz13_1, hcz13_2, hfz13_0, hfz13_1, hfz13_2⟩ := cf3_ (w := w10) BK324.out))
  (try simp only [Act.put, la_, lb_, lc_])
  go_cut [19] (fun v19 wc => ∃ (kq : Nat) (x19_3 : Bool), v19 = .bool x19_3 ∧ Aside0 (impl_TenTimes.j0 kq a1 x19_3 a0_0 a0_1 a0_2 t320 t321 t322 = some (r1, r2, r3, r4)) ∧ Aside0 (kq ≤ k) ∧ Aside0 (wc.heap[gb318]? = some (.cells #[.bool a0_0, .int .u64 a0_1, .int .u64 a0_2] 28 (0, 0))) ∧ Aside0 (wc.heap[gb319]? = some (.cells #[.bool false, .int .u64 0, .int .u64 0] 28 (0, 0))) ∧ Aside0 (wc.heap[gb324]? = some (.cells #[.bool t320, .int .u64 t321, .int .u64 t322] 28 (0, 0))) ∧ Aside0 (Below w.heap.size w wc))
  case first =>
    have H := HC4.out
    clear HC4
    by_cases c14 : t323 = true
    · subst c14
      have H1 : ((impl_within.f a1 0 9).bind fun t325 => (impl_TenTimes.j0 k a1 (!t325) a0_0 a0_1 a0_2 t320 t321 t322)) = some (r1, r2, r3, r4) := by rw [if_pos rfl] at H; exact H
      clear H
      have H := H1
      clear H1
      replace H := Option.bind_eq_some_iff.mp H
      obtain ⟨t325, A150, H⟩ := H
      replace H : (impl_TenTimes.j0 k a1 (!t325) a0_0 a0_1 a0_2 t320 t321 t322) = some (r1, r2, r3, r4) := H
      have A15 := Aside0.mk A150
      clear A150
      have H' := Aside0.mk H
      clear H
      go_wp2_with (first | (go_at_call 55; (with_reducible refine (impl_within.calls a1 0 9 t325 _ A15.out).mono ?_); rintro e w' ⟨rfl, ⟨nd, rfl⟩⟩))
      go_meet
      case rel => exact ⟨_, (!t325), (by first | rfl | (simp; done) | (simp [*]; done)), H', ⟨by first | omega | exact Nat.le_refl _⟩, ⟨by (with_reducible repeat (first | refine bN_ _ ?_ | refine bd_ ?_ | refine ba_ _ ?_)); refine blk_far ?_ NB318_324.out _; (with_reducible repeat (first | refine bN_ _ ?_ | refine bd_ ?_ | refine ba_ _ ?_)); refine blk_far ?_ NB318_324.out _; (with_reducible repeat (first | refine bN_ _ ?_ | refine bd_ ?_ | refine ba_ _ ?_)); refine blk_far ?_ NB318_324.out _; (with_reducible repeat (first | refine bN_ _ ?_ | refine bd_ ?_ | refine ba_ _ ?_)); exact BK318.out⟩, ⟨by (with_reducible repeat (first | refine bN_ _ ?_ | refine bd_ ?_ | refine ba_ _ ?_)); refine blk_far ?_ NB319_324.out _; (with_reducible repeat (first | refine bN_ _ ?_ | refine bd_ ?_ | refine ba_ _ ?_)); refine blk_far ?_ NB319_324.out _; (with_reducible repeat (first | refine bN_ _ ?_ | refine bd_ ?_ | refine ba_ _ ?_)); refine blk_far ?_ NB319_324.out _; (with_reducible repeat (first | refine bN_ _ ?_ | refine bd_ ?_ | refine ba_ _ ?_)); exact BK319.out⟩, ⟨by (with_reducible repeat (first | refine bN_ _ ?_ | refine bd_ ?_ | refine ba_ _ ?_)); refine blk_put (cs := #[.bool t320, .int .u64 t321, .int .u64 0]) ?_ 2 _ rfl; (with_reducible repeat (first | refine bN_ _ ?_ | refine bd_ ?_ | refine ba_ _ ?_)); refine blk_put (cs := #[.bool t320, .int .u64 0, .int .u64 0]) ?_ 1 _ rfl; (with_reducible repeat (first | refine bN_ _ ?_ | refine bd_ ?_ | refine ba_ _ ?_)); refine blk_put (cs := #[.bool false, .int .u64 0, .int .u64 0]) ?_ 0 _ rfl; (with_reducible repeat (first | refine bN_ _ ?_ | refine bd_ ?_ | refine ba_ _ ?_)); exact BK324.out⟩, ⟨bel_⟩⟩
    · replace c14 := Bool.eq_false_iff.mpr c14
      subst c14
      have H1 : (impl_TenTimes.j0 k a1 true a0_0 a0_1 a0_2 t320 t321 t322) = some (r1, r2, r3, r4) := by rw [if_neg (show ¬ (false = true) by decide)] at H; exact H
      clear H
      have H := H1
      clear H1
      have H' := Aside0.mk H
      clear H
      go_wp2
      go_meet
      case rel => exact ⟨_, (true), (by first | rfl | (simp; done) | (simp [*]; done)), H', ⟨by first | omega | exact Nat.le_refl _⟩, ⟨by (with_reducible repeat (first | refine bN_ _ ?_ | refine bd_ ?_ | refine ba_ _ ?_)); refine blk_far ?_ NB318_324.out _; (with_reducible repeat (first | refine bN_ _ ?_ | refine bd_ ?_ | refine ba_ _ ?_)); refine blk_far ?_ NB318_324.out _; (with_reducible repeat (first | refine bN_ _ ?_ | refine bd_ ?_ | refine ba_ _ ?_)); refine blk_far ?_ NB318_324.out _; (with_reducible repeat (first | refine bN_ _ ?_ | refine bd_ ?_ | refine ba_ _ ?_)); exact BK318.out⟩, ⟨by (with_reducible repeat (first | refine bN_ _ ?_ | refine bd_ ?_ | refine ba_ _ ?_)); refine blk_far ?_ NB319_324.out _; (with_reducible repeat (first | refine bN_ _ ?_ | refine bd_ ?_ | refine ba_ _ ?_)); refine blk_far ?_ NB319_324.out _; (with_reducible repeat (first | refine bN_ _ ?_ | refine bd_ ?_ | refine ba_ _ ?_)); refine blk_far ?_ NB319_324.out _; (with_reducible repeat (first | refine bN_ _ ?_ | refine bd_ ?_ | refine ba_ _ ?_)); exact BK319.out⟩, ⟨by (with_reducible repeat (first | refine bN_ _ ?_ | refine bd_ ?_ | refine ba_ _ ?_)); refine blk_put (cs := #[.bool t320, .int .u64 t321, .int .u64 0]) ?_ 2 _ rfl; (with_reducible repeat (first | refine bN_ _ ?_ | refine bd_ ?_ | refine ba_ _ ?_)); refine blk_put (cs := #[.bool t320, .int .u64 0, .int .u64 0]) ?_ 1 _ rfl; (with_reducible repeat (first | refine bN_ _ ?_ | refine bd_ ?_ | refine ba_ _ ?_)); refine blk_put (cs := #[.bool false, .int .u64 0, .int .u64 0]) ?_ 0 _ rfl; (with_reducible repeat (first | refine bN_ _ ?_ | refine bd_ ?_ | refine ba_ _ ?_)); exact BK324.out⟩, ⟨bel_⟩⟩
  case rest =>
    clear HC4
    try clear c1
    try clear p2
    try clear c5
    try clear c7
    try clear c11
    try clear c12
    try clear c14
    try clear c15
    try clear hcz13_0
    try clear hcz13_1
    try clear hcz13_2
    try clear hcz8_0
    try clear hcz8_1
    try clear hcz8_2
    try clear hfz13_0
    try clear hfz13_1
    try clear hfz13_2
    try clear hfz8_0
    try clear hfz8_1
    try clear hfz8_2
    obtain ⟨kq, x19_3, rfl, HA, HJ3, BK318, BK319, BK324, HB⟩ := hcut
    cases kq with
    | zero => exact absurd HA.out (by simp [impl_TenTimes.j0])
    | succ kj3 =>
      have H := HA.out
      clear HA
      simp only [impl_TenTimes.j0] at H
      by_cases c16 : x19_3 = true
      · subst c16
        have H1 : (some (false, 0, 0, false)) = some (r1, r2, r3, r4) := by rw [if_pos rfl] at H; exact H
        clear H
        have H := H1
        clear H1
        simp only [Option.some.injEq, Prod.mk.injEq] at H
        obtain ⟨rfl, rfl, rfl, rfl⟩ := H
        have hnb17 := NB319_318.out
        have hnc17 := NB318_319.out
        have hnb18 := NB319_324.out
        have hnc18 := NB324_319.out
        obtain ⟨hcz19_0, hcz19_1, hcz19_2, hfz19_0, hfz19_1, hfz19_2⟩ := cf3_ (w := wc) BK319.out
        go_wp2
        refine bodyPost_ret (results_ct rfl _ _ gb319 28 #[.bool false, .int .u64 0, .int .u64 0] (0, 0) _ rfl (pu_ #[.bool false, .int .u64 0, .int .u64 0] 2 (h := (pu_ #[.bool false, .int .u64 0, .int .u64 0] 1 (h := (pu_ #[.bool false, .int .u64 0, .int .u64 0] 0 (h := bk_)))))) Tryd.underlying28 rfl (by kernel_rfl)) rfl ?_
        exact ⟨rf_, bel_⟩
      · replace c16 := Bool.eq_false_iff.mpr c16
        subst c16
        have H1 : (if a0_0 = true then ((impl_WideOf.f (wrap64 (-a1))).bind fun bt326 => ((impl_AddWide.f kj3 t320 t321 t322 bt326.1 bt326.2.1 bt326.2.2).bind fun bt329 => (some (bt329.1, bt329.2.1, bt329.2.2.1, bt329.2.2.2)))) else ((impl_WideOf.f a1).bind fun bt333 => ((impl_AddWide.f kj3 t320 t321 t322 bt333.1 bt333.2.1 bt333.2.2).bind fun bt336 => (some (bt336.1, bt336.2.1, bt336.2.2.1, bt336.2.2.2))))) = some (r1, r2, r3, r4) := by rw [if_neg (show ¬ (false = true) by decide)] at H; exact H
        clear H
        have H := H1
        clear H1
        by_cases c20 : a0_0 = true
        · subst c20
          have H1 : ((impl_WideOf.f (wrap64 (-a1))).bind fun bt326 => ((impl_AddWide.f kj3 t320 t321 t322 bt326.1 bt326.2.1 bt326.2.2).bind fun bt329 => (some (bt329.1, bt329.2.1, bt329.2.2.1, bt329.2.2.2)))) = some (r1, r2, r3, r4) := by rw [if_pos rfl] at H; exact H
          clear H
          have H := H1
          clear H1
          replace H := Option.bind_eq_some_iff.mp H
          obtain ⟨⟨t326, t327, t328⟩, A210, H⟩ := H
          replace H : ((impl_AddWide.f kj3 t320 t321 t322 t326 t327 t328).bind fun bt329 => (some (bt329.1, bt329.2.1, bt329.2.2.1, bt329.2.2.2))) = some (r1, r2, r3, r4) := H
          have A21 := Aside0.mk A210
          clear A210
          replace H := Option.bind_eq_some_iff.mp H
          obtain ⟨⟨t329, t330, t331, t332⟩, A220, H⟩ := H
          replace H : (some (t329, t330, t331, t332)) = some (r1, r2, r3, r4) := H
          have A22 := Aside0.mk A220
          clear A220
          simp only [Option.some.injEq, Prod.mk.injEq] at H
          obtain ⟨rfl, rfl, rfl, rfl⟩ := H
          have hnb23 := NB318_319.out
          have hnc23 := NB319_318.out
          have hnb24 := NB318_324.out
          have hnc24 := NB324_318.out
          obtain ⟨hcz25_0, hcz25_1, hcz25_2, hfz25_0, hfz25_1, hfz25_2⟩ := cf3_ (w := wc) BK318.out
          try go_wp2
          have n0_ := Aside0.mk (blk_drew BK318.out)
          have n1_ := Aside0.mk (blk_drew BK319.out)
          have n2_ := Aside0.mk (blk_drew BK324.out)
          have n3_ := Aside0.mk (below_drew1 HB.out)
          clear BK318
          clear BK319
          clear BK324
          clear HB
          have BK318 := n0_
          have BK319 := n1_
          have BK324 := n2_
          have HB := n3_
          clear n0_ n1_ n2_ n3_
          refine start_ (n := 8) (S := fun w' => w'.cell? ⟨gb324, 0, none⟩ = some (.bool t320) ∧ w'.cell? ⟨gb324, 1, none⟩ = some (.int .u64 t321) ∧ w'.cell? ⟨gb324, 2, none⟩ = some (.int .u64 t322)) (ds := []) #[false, false, false, false, false, false, false, false] (by kernel_rfl) rfl rfl ⟨bc_, bc_, bc_⟩ (fun hHeld => ?_); refine with_tabW impl_TenTimes.tab6 impl_TenTimes.bits6 (fun HT_ HW_ => ?_)
          generalize wc.drew = w26 at BK318 BK319 BK324 HB hHeld ⊢
          refine pure_ (i := 1) (N := some 26) (v := ?_) (a' := ?_) #[false, true, false, false, false, false, false, false] rfl rfl (any_of HT_.out (by kernel_rfl)) (fun _ _ _ h => h) (Or.inl ⟨by rfl, ?_⟩) ?_ ?_
          rotate_left
          · intro w'
            go_simp
            with_reducible rfl
          rotate_left
          · simp only [Act.put, la_, lb_, lc_, i64_w, i32_w]
            rfl
          refine take_ (i := 0) (N := some 25) (v := ?_) (a' := ?_) #[true, true, false, false, false, false, false, false] rfl rfl (take_ofW HT_.out HW_.out (by kernel_rfl)) (fun _ _ _ h => h) (Or.inl ⟨by rfl, ?_⟩) hHeld ?_ ?_
          rotate_left
          · rintro w' ⟨s0, s1, s2⟩
            go_simp
            with_reducible rfl
          rotate_left
          · simp only [Act.put, la_, lb_, lc_, i64_w, i32_w]
            rfl
          refine one_ (i := 2) (N := some 27) #[true, true, true, false, false, false, false, false] rfl rfl (one_of HT_.out (by kernel_rfl)) (by decide) (fun K hK => ?_)
          refine goes_ Tryd.func12 (by kernel_rfl) rfl #[.int .i64 (wrap64 (-a1))] (by rfl) rfl rfl mp_ ?_
          with_reducible refine (impl_WideOf.calls (wrap64 (-a1)) t326 t327 t328 _ A21.out).mono ?_
          rintro e w27 ⟨rfl, hb⟩
          refine ⟨_, rfl, ?_⟩
          have n0_ := bb_ (g := gb318) hb
          have n1_ := bb_ (g := gb319) hb
          have n2_ := bb_ (g := gb324) hb
          have n3_ := Aside0.mk (below_step bel_ hb)
          clear BK318
          clear BK319
          clear BK324
          clear HB
          have BK318 := n0_
          have BK319 := n1_
          have BK324 := n2_
          have HB := n3_
          clear n0_ n1_ n2_ n3_
          (try clear hb)
          (try clear hb2)
          (try clear hk)
          (try clear hi)
          refine hK.out _ _ ⟨bc_, bc_, bc_⟩ (fun hHeld => ?_)
          clear hK K
          refine norm_ (a' := ?_) ?_ ?_
          rotate_left
          · show Act.put _ (some 27) _ = _
            simp only [Act.put, la_, lb_, lc_, i64_w, i32_w]
            rfl
          refine one_ (i := 3) (N := some 28) #[true, true, true, true, false, false, false, false] rfl rfl (one_of HT_.out (by kernel_rfl)) (by decide) (fun K hK => ?_)
          refine goes_ Tryd.func56 (by kernel_rfl) rfl #[.agg #[.bool t320, .int .u64 t321, .int .u64 t322], .agg #[.bool t326, .int .u64 t327, .int .u64 t328]] (by rfl) rfl rfl mp_ ?_
          with_reducible refine (impl_AddWide.calls kj3 t320 t321 t322 t326 t327 t328 t329 t330 t331 t332 _ A22.out).mono ?_
          rintro e w28 ⟨rfl, hb⟩
          refine ⟨_, rfl, ?_⟩
          have n0_ := bb_ (g := gb318) hb
          have n1_ := bb_ (g := gb319) hb
          have n2_ := bb_ (g := gb324) hb
          have n3_ := Aside0.mk (below_step bel_ hb)
          clear BK318
          clear BK319
          clear BK324
          clear HB
          have BK318 := n0_
          have BK319 := n1_
          have BK324 := n2_
          have HB := n3_
          clear n0_ n1_ n2_ n3_
          (try clear hb)
          (try clear hb2)
          (try clear hk)
          (try clear hi)
          refine hK.out _ _ ⟨bc_, bc_, bc_⟩ (fun hHeld => ?_)
          clear hK K
          refine norm_ (a' := ?_) ?_ ?_
          rotate_left
          · show Act.put _ (some 28) _ = _
            simp only [Act.put, la_, lb_, lc_, i64_w, i32_w]
            rfl
          refine pure_ (i := 4) (N := some 29) (v := ?_) (a' := ?_) #[true, true, true, true, true, false, false, false] rfl rfl (any_of HT_.out (by kernel_rfl)) (fun _ _ _ h => h) (Or.inl ⟨by rfl, ?_⟩) ?_ ?_
          rotate_left
          · intro w'
            go_simp
            with_reducible rfl
          rotate_left
          · simp only [Act.put, la_, lb_, lc_, i64_w, i32_w]
            rfl
          refine pure_ (i := 5) (N := some 30) (v := ?_) (a' := ?_) #[true, true, true, true, true, true, false, false] rfl rfl (any_of HT_.out (by kernel_rfl)) (fun _ _ _ h => h) (Or.inl ⟨by rfl, ?_⟩) ?_ ?_
          rotate_left
          · intro w'
            go_simp
            with_reducible rfl
          rotate_left
          · simp only [Act.put, la_, lb_, lc_, i64_w, i32_w]
            rfl
          refine one_ (i := 6) (N := none) #[true, true, true, true, true, true, true, false] rfl rfl (one_of HT_.out (by kernel_rfl)) (by decide) (fun K hK => ?_)
          have hs29 : w28.cell? ⟨gb319, 0, none⟩ = some (.bool false) := (blk_cell BK319.out 0).trans rfl
          have hfs29 := blk_frozen BK319.out 0
          have hns29_0 := NB318_319.out
          have hns29_2 := NB324_319.out
          have hms29_0 := NB319_318.out
          have hms29_2 := NB319_324.out
          have hs30 : w28.cell? ⟨gb319, 1, none⟩ = some (.int .u64 0) := (blk_cell BK319.out 1).trans rfl
          have hfs30 := blk_frozen BK319.out 1
          have hns30_0 := NB318_319.out
          have hns30_2 := NB324_319.out
          have hms30_0 := NB319_318.out
          have hms30_2 := NB319_324.out
          have hs31 : w28.cell? ⟨gb319, 2, none⟩ = some (.int .u64 0) := (blk_cell BK319.out 2).trans rfl
          have hfs31 := blk_frozen BK319.out 2
          have hns31_0 := NB318_319.out
          have hns31_2 := NB324_319.out
          have hms31_0 := NB319_318.out
          have hms31_2 := NB319_324.out
          refine skip_ (w1 := ?_) ?_ ?_ ?_ ?_
          rotate_left
          · rfl
          · rfl
          · go_simp
            rfl
          refine hK.out _ _ ⟨(cfar_ hHeld.1), (cfar_ hHeld.2.1), (cfar_ hHeld.2.2)⟩ (fun hHeld => ?_)
          clear hK K
          refine pure_ (i := 7) (N := some 5) (v := ?_) (a' := ?_) #[true, true, true, true, true, true, true, true] rfl rfl (any_of HT_.out (by kernel_rfl)) (fun _ _ _ h => h) (Or.inl ⟨by rfl, ?_⟩) ?_ ?_
          rotate_left
          · intro w'
            go_simp
            with_reducible rfl
          rotate_left
          · simp only [Act.put, la_, lb_, lc_, i64_w, i32_w]
            rfl
          refine done_ (done_of HT_.out (by kernel_rfl)) ?_
          try go_wp2
          refine bodyPost_ret (results_ct rfl _ _ gb319 28 #[.bool t329, .int .u64 t330, .int .u64 t331] (0, 0) _ rfl (pu_ #[.bool t329, .int .u64 t330, .int .u64 0] 2 (h := (pu_ #[.bool t329, .int .u64 0, .int .u64 0] 1 (h := (pu_ #[.bool false, .int .u64 0, .int .u64 0] 0 (h := bk_)))))) Tryd.underlying28 rfl (by kernel_rfl)) rfl ?_
          exact ⟨rf_, bel_⟩
        · replace c20 := Bool.eq_false_iff.mpr c20
          subst c20
          have H1 : ((impl_WideOf.f a1).bind fun bt333 => ((impl_AddWide.f kj3 t320 t321 t322 bt333.1 bt333.2.1 bt333.2.2).bind fun bt336 => (some (bt336.1, bt336.2.1, bt336.2.2.1, bt336.2.2.2)))) = some (r1, r2, r3, r4) := by rw [if_neg (show ¬ (false = true) by decide)] at H; exact H
          clear H
          have H := H1
          clear H1
          replace H := Option.bind_eq_some_iff.mp H
          obtain ⟨⟨t333, t334, t335⟩, A320, H⟩ := H
          replace H : ((impl_AddWide.f kj3 t320 t321 t322 t333 t334 t335).bind fun bt336 => (some (bt336.1, bt336.2.1, bt336.2.2.1, bt336.2.2.2))) = some (r1, r2, r3, r4) := H
          have A32 := Aside0.mk A320
          clear A320
          replace H := Option.bind_eq_some_iff.mp H
          obtain ⟨⟨t336, t337, t338, t339⟩, A330, H⟩ := H
          replace H : (some (t336, t337, t338, t339)) = some (r1, r2, r3, r4) := H
          have A33 := Aside0.mk A330
          clear A330
          simp only [Option.some.injEq, Prod.mk.injEq] at H
          obtain ⟨rfl, rfl, rfl, rfl⟩ := H
          have hnb34 := NB318_319.out
          have hnc34 := NB319_318.out
          have hnb35 := NB318_324.out
          have hnc35 := NB324_318.out
          obtain ⟨hcz36_0, hcz36_1, hcz36_2, hfz36_0, hfz36_1, hfz36_2⟩ := cf3_ (w := wc) BK318.out
          try go_wp2
          have n0_ := Aside0.mk (blk_drew BK318.out)
          have n1_ := Aside0.mk (blk_drew BK319.out)
          have n2_ := Aside0.mk (blk_drew BK324.out)
          have n3_ := Aside0.mk (below_drew1 HB.out)
          clear BK318
          clear BK319
          clear BK324
          clear HB
          have BK318 := n0_
          have BK319 := n1_
          have BK324 := n2_
          have HB := n3_
          clear n0_ n1_ n2_ n3_
          refine start_ (n := 8) (S := fun w' => w'.cell? ⟨gb324, 0, none⟩ = some (.bool t320) ∧ w'.cell? ⟨gb324, 1, none⟩ = some (.int .u64 t321) ∧ w'.cell? ⟨gb324, 2, none⟩ = some (.int .u64 t322)) (ds := []) #[false, false, false, false, false, false, false, false] (by kernel_rfl) rfl rfl ⟨bc_, bc_, bc_⟩ (fun hHeld => ?_); refine with_tabW impl_TenTimes.tab6 impl_TenTimes.bits6 (fun HT_ HW_ => ?_)
          generalize wc.drew = w37 at BK318 BK319 BK324 HB hHeld ⊢
          refine pure_ (i := 1) (N := some 26) (v := ?_) (a' := ?_) #[false, true, false, false, false, false, false, false] rfl rfl (any_of HT_.out (by kernel_rfl)) (fun _ _ _ h => h) (Or.inl ⟨by rfl, ?_⟩) ?_ ?_
          rotate_left
          · intro w'
            go_simp
            with_reducible rfl
          rotate_left
          · simp only [Act.put, la_, lb_, lc_, i64_w, i32_w]
            rfl
          refine take_ (i := 0) (N := some 25) (v := ?_) (a' := ?_) #[true, true, false, false, false, false, false, false] rfl rfl (take_ofW HT_.out HW_.out (by kernel_rfl)) (fun _ _ _ h => h) (Or.inl ⟨by rfl, ?_⟩) hHeld ?_ ?_
          rotate_left
          · rintro w' ⟨s0, s1, s2⟩
            go_simp
            with_reducible rfl
          rotate_left
          · simp only [Act.put, la_, lb_, lc_, i64_w, i32_w]
            rfl
          refine one_ (i := 2) (N := some 27) #[true, true, true, false, false, false, false, false] rfl rfl (one_of HT_.out (by kernel_rfl)) (by decide) (fun K hK => ?_)
          refine goes_ Tryd.func12 (by kernel_rfl) rfl #[.int .i64 a1] (by rfl) rfl rfl mp_ ?_
          with_reducible refine (impl_WideOf.calls a1 t333 t334 t335 _ A32.out).mono ?_
          rintro e w38 ⟨rfl, hb⟩
          refine ⟨_, rfl, ?_⟩
          have n0_ := bb_ (g := gb318) hb
          have n1_ := bb_ (g := gb319) hb
          have n2_ := bb_ (g := gb324) hb
          have n3_ := Aside0.mk (below_step bel_ hb)
          clear BK318
          clear BK319
          clear BK324
          clear HB
          have BK318 := n0_
          have BK319 := n1_
          have BK324 := n2_
          have HB := n3_
          clear n0_ n1_ n2_ n3_
          (try clear hb)
          (try clear hb2)
          (try clear hk)
          (try clear hi)
          refine hK.out _ _ ⟨bc_, bc_, bc_⟩ (fun hHeld => ?_)
          clear hK K
          refine norm_ (a' := ?_) ?_ ?_
          rotate_left
          · show Act.put _ (some 27) _ = _
            simp only [Act.put, la_, lb_, lc_, i64_w, i32_w]
            rfl
          refine one_ (i := 3) (N := some 28) #[true, true, true, true, false, false, false, false] rfl rfl (one_of HT_.out (by kernel_rfl)) (by decide) (fun K hK => ?_)
          refine goes_ Tryd.func56 (by kernel_rfl) rfl #[.agg #[.bool t320, .int .u64 t321, .int .u64 t322], .agg #[.bool t333, .int .u64 t334, .int .u64 t335]] (by rfl) rfl rfl mp_ ?_
          with_reducible refine (impl_AddWide.calls kj3 t320 t321 t322 t333 t334 t335 t336 t337 t338 t339 _ A33.out).mono ?_
          rintro e w39 ⟨rfl, hb⟩
          refine ⟨_, rfl, ?_⟩
          have n0_ := bb_ (g := gb318) hb
          have n1_ := bb_ (g := gb319) hb
          have n2_ := bb_ (g := gb324) hb
          have n3_ := Aside0.mk (below_step bel_ hb)
          clear BK318
          clear BK319
          clear BK324
          clear HB
          have BK318 := n0_
          have BK319 := n1_
          have BK324 := n2_
          have HB := n3_
          clear n0_ n1_ n2_ n3_
          (try clear hb)
          (try clear hb2)
          (try clear hk)
          (try clear hi)
          refine hK.out _ _ ⟨bc_, bc_, bc_⟩ (fun hHeld => ?_)
          clear hK K
          refine norm_ (a' := ?_) ?_ ?_
          rotate_left
          · show Act.put _ (some 28) _ = _
            simp only [Act.put, la_, lb_, lc_, i64_w, i32_w]
            rfl
          refine pure_ (i := 4) (N := some 29) (v := ?_) (a' := ?_) #[true, true, true, true, true, false, false, false] rfl rfl (any_of HT_.out (by kernel_rfl)) (fun _ _ _ h => h) (Or.inl ⟨by rfl, ?_⟩) ?_ ?_
          rotate_left
          · intro w'
            go_simp
            with_reducible rfl
          rotate_left
          · simp only [Act.put, la_, lb_, lc_, i64_w, i32_w]
            rfl
          refine pure_ (i := 5) (N := some 30) (v := ?_) (a' := ?_) #[true, true, true, true, true, true, false, false] rfl rfl (any_of HT_.out (by kernel_rfl)) (fun _ _ _ h => h) (Or.inl ⟨by rfl, ?_⟩) ?_ ?_
          rotate_left
          · intro w'
            go_simp
            with_reducible rfl
          rotate_left
          · simp only [Act.put, la_, lb_, lc_, i64_w, i32_w]
            rfl
          refine one_ (i := 6) (N := none) #[true, true, true, true, true, true, true, false] rfl rfl (one_of HT_.out (by kernel_rfl)) (by decide) (fun K hK => ?_)
          have hs40 : w39.cell? ⟨gb319, 0, none⟩ = some (.bool false) := (blk_cell BK319.out 0).trans rfl
          have hfs40 := blk_frozen BK319.out 0
          have hns40_0 := NB318_319.out
          have hns40_2 := NB324_319.out
          have hms40_0 := NB319_318.out
          have hms40_2 := NB319_324.out
          have hs41 : w39.cell? ⟨gb319, 1, none⟩ = some (.int .u64 0) := (blk_cell BK319.out 1).trans rfl
          have hfs41 := blk_frozen BK319.out 1
          have hns41_0 := NB318_319.out
          have hns41_2 := NB324_319.out
          have hms41_0 := NB319_318.out
          have hms41_2 := NB319_324.out
          have hs42 : w39.cell? ⟨gb319, 2, none⟩ = some (.int .u64 0) := (blk_cell BK319.out 2).trans rfl
          have hfs42 := blk_frozen BK319.out 2
          have hns42_0 := NB318_319.out
          have hns42_2 := NB324_319.out
          have hms42_0 := NB319_318.out
          have hms42_2 := NB319_324.out
          refine skip_ (w1 := ?_) ?_ ?_ ?_ ?_
          rotate_left
          · rfl
          · rfl
          · go_simp
            rfl
          refine hK.out _ _ ⟨(cfar_ hHeld.1), (cfar_ hHeld.2.1), (cfar_ hHeld.2.2)⟩ (fun hHeld => ?_)
          clear hK K
          refine pure_ (i := 7) (N := some 5) (v := ?_) (a' := ?_) #[true, true, true, true, true, true, true, true] rfl rfl (any_of HT_.out (by kernel_rfl)) (fun _ _ _ h => h) (Or.inl ⟨by rfl, ?_⟩) ?_ ?_
          rotate_left
          · intro w'
            go_simp
            with_reducible rfl
          rotate_left
          · simp only [Act.put, la_, lb_, lc_, i64_w, i32_w]
            rfl
          refine done_ (done_of HT_.out (by kernel_rfl)) ?_
          try go_wp2
          refine bodyPost_ret (results_ct rfl _ _ gb319 28 #[.bool t336, .int .u64 t337, .int .u64 t338] (0, 0) _ rfl (pu_ #[.bool t336, .int .u64 t337, .int .u64 0] 2 (h := (pu_ #[.bool t336, .int .u64 0, .int .u64 0] 1 (h := (pu_ #[.bool false, .int .u64 0, .int .u64 0] 0 (h := bk_)))))) Tryd.underlying28 rfl (by kernel_rfl)) rfl ?_
          exact ⟨rf_, bel_⟩

/-! ### spec_WideOk: function 24 -/
def spec_WideOk.f (a0_0 : Bool) (a0_1 : Int) (a0_2 : Int) : Option (Bool) := if a0_1 < 9223372036854775808 then (if a0_0 = true then (if a0_1 > 0 then (some true) else (some (decide (a0_2 > 0)))) else (some true)) else (some false)
set_option maxHeartbeats 8000000 in
set_option maxRecDepth 100000 in
theorem spec_WideOk.calls (a0_0 : Bool) (a0_1 : Int) (a0_2 : Int) (r : Bool) (w : World) (h : spec_WideOk.f a0_0 a0_1 a0_2 = some r) :
    Calls Tryd.prog 24 #[.agg #[.bool a0_0, .int .u64 a0_1, .int .u64 a0_2]] w fun e w' => e = .returned (.bool r) ∧ Below w.heap.size w w' := by
  have hu28 := Tryd.underlying28
  have HB := Aside0.mk (Below.refl w.heap.size w)
  have H : (if a0_1 < 9223372036854775808 then (if a0_0 = true then (if a0_1 > 0 then (some true) else (some (decide (a0_2 > 0)))) else (some true)) else (some false)) = some r := h
  clear h
  by_cases c2 : a0_1 < 9223372036854775808
  · rw [if_pos c2] at H
    have c2b0 : decide (a0_1 < 9223372036854775808) = true := decide_eq_true c2
    clear c2
    by_cases c3 : a0_0 = true
    · subst c3
      have H1 : (if a0_1 > 0 then (some true) else (some (decide (a0_2 > 0)))) = some r := by rw [if_pos rfl] at H; exact H
      clear H
      have H := H1
      clear H1
      by_cases c4 : a0_1 > 0
      · rw [if_pos c4] at H
        have c4b0 : decide (0 < a0_1) = true := decide_eq_true c4
        clear c4
        obtain rfl := Option.some.inj H
        go_enter Tryd.func24, Tryd.ntmps24
        go_wp2_with (first | ((with_reducible refine gate_dst (N := 1) rfl ?_); refine box_event ?hg (N := 1) ?hd (cs := #[.bool true, .int .u64 a0_1, .int .u64 a0_2]) (t := 28) ?hr ?_; (case hd => rfl); (case hg => rfl); (case hr => first | (go_simp; done) | (go_simp; rfl)); intro gb340 hg w5 hbox hb; have n0_ := Aside0.mk (below_step bel_ hb); have n1_ := Aside0.mk (hbox); have n2_ := bs_ (w := w) hg; have n3_ := bs_ (w := w) hg; clear HB; have HB := n0_; have BK340 := n1_; have GW340 := n2_; have GE340 := n3_; clear n0_ n1_ n2_ n3_; clear hb hbox hg; obtain ⟨hcz6_0, hcz6_1, hcz6_2, hfz6_0, hfz6_1, hfz6_2⟩ := cf3_ (w := w5) BK340.out))
        go_ret
        exact ⟨rf_, bel_⟩
      · rw [if_neg c4] at H
        have c4b0 : decide (0 < a0_1) = false := decide_eq_false c4
        clear c4
        obtain rfl := Option.some.inj H
        go_enter Tryd.func24, Tryd.ntmps24
        go_wp2_with (first | ((with_reducible refine gate_dst (N := 1) rfl ?_); refine box_event ?hg (N := 1) ?hd (cs := #[.bool true, .int .u64 a0_1, .int .u64 a0_2]) (t := 28) ?hr ?_; (case hd => rfl); (case hg => rfl); (case hr => first | (go_simp; done) | (go_simp; rfl)); intro gb340 hg w7 hbox hb; have n0_ := Aside0.mk (below_step bel_ hb); have n1_ := Aside0.mk (hbox); have n2_ := bs_ (w := w) hg; have n3_ := bs_ (w := w) hg; clear HB; have HB := n0_; have BK340 := n1_; have GW340 := n2_; have GE340 := n3_; clear n0_ n1_ n2_ n3_; clear hb hbox hg; obtain ⟨hcz8_0, hcz8_1, hcz8_2, hfz8_0, hfz8_1, hfz8_2⟩ := cf3_ (w := w7) BK340.out))
        go_ret
        exact ⟨rf_, bel_⟩
    · replace c3 := Bool.eq_false_iff.mpr c3
      subst c3
      have H1 : (some true) = some r := by rw [if_neg (show ¬ (false = true) by decide)] at H; exact H
      clear H
      have H := H1
      clear H1
      obtain rfl := Option.some.inj H
      go_enter Tryd.func24, Tryd.ntmps24
      go_wp2_with (first | ((with_reducible refine gate_dst (N := 1) rfl ?_); refine box_event ?hg (N := 1) ?hd (cs := #[.bool false, .int .u64 a0_1, .int .u64 a0_2]) (t := 28) ?hr ?_; (case hd => rfl); (case hg => rfl); (case hr => first | (go_simp; done) | (go_simp; rfl)); intro gb340 hg w9 hbox hb; have n0_ := Aside0.mk (below_step bel_ hb); have n1_ := Aside0.mk (hbox); have n2_ := bs_ (w := w) hg; have n3_ := bs_ (w := w) hg; clear HB; have HB := n0_; have BK340 := n1_; have GW340 := n2_; have GE340 := n3_; clear n0_ n1_ n2_ n3_; clear hb hbox hg; obtain ⟨hcz10_0, hcz10_1, hcz10_2, hfz10_0, hfz10_1, hfz10_2⟩ := cf3_ (w := w9) BK340.out))
      go_ret
      exact ⟨rf_, bel_⟩
  · rw [if_neg c2] at H
    have c2b0 : decide (a0_1 < 9223372036854775808) = false := decide_eq_false c2
    clear c2
    obtain rfl := Option.some.inj H
    go_enter Tryd.func24, Tryd.ntmps24
    go_wp2_with (first | ((with_reducible refine gate_dst (N := 1) rfl ?_); refine box_event ?hg (N := 1) ?hd (cs := #[.bool a0_0, .int .u64 a0_1, .int .u64 a0_2]) (t := 28) ?hr ?_; (case hd => rfl); (case hg => rfl); (case hr => first | (go_simp; done) | (go_simp; rfl)); intro gb340 hg w11 hbox hb; have n0_ := Aside0.mk (below_step bel_ hb); have n1_ := Aside0.mk (hbox); have n2_ := bs_ (w := w) hg; have n3_ := bs_ (w := w) hg; clear HB; have HB := n0_; have BK340 := n1_; have GW340 := n2_; have GE340 := n3_; clear n0_ n1_ n2_ n3_; clear hb hbox hg; obtain ⟨hcz12_0, hcz12_1, hcz12_2, hfz12_0, hfz12_1, hfz12_2⟩ := cf3_ (w := w11) BK340.out))
    go_ret
    exact ⟨rf_, bel_⟩

/-! ### spec_l1In: function 57 -/
def spec_l1In.f (a0 : Int) (a1 : Int) (a2 : Int) : Option (Bool) := if a0 ≥ a1 then (some (decide (a0 ≤ a2))) else (some false)
set_option maxHeartbeats 8000000 in
set_option maxRecDepth 100000 in
theorem spec_l1In.calls (a0 : Int) (a1 : Int) (a2 : Int) (r : Bool) (w : World) (h : spec_l1In.f a0 a1 a2 = some r) :
    Calls Tryd.prog 57 #[.int .i64 a0, .int .i64 a1, .int .i64 a2] w fun e w' => e = .returned (.bool r) ∧ Drawn0 w w' := by
  have H : (if a0 ≥ a1 then (some (decide (a0 ≤ a2))) else (some false)) = some r := h
  clear h
  by_cases c4 : a0 ≥ a1
  · rw [if_pos c4] at H
    have c4b0 : decide (a1 ≤ a0) = true := decide_eq_true c4
    clear c4
    obtain rfl := Option.some.inj H
    go_enter Tryd.func57, Tryd.ntmps57
    go_wp2
    go_ret
    exact ⟨by first | rfl | (simp; done) | (simp [*]; done), by repeat (first | exact Drawn0.refl _ | apply Drawn0.step)⟩
  · rw [if_neg c4] at H
    have c4b0 : decide (a1 ≤ a0) = false := decide_eq_false c4
    clear c4
    obtain rfl := Option.some.inj H
    go_enter Tryd.func57, Tryd.ntmps57
    go_wp2
    go_ret
    exact ⟨by first | rfl | (simp; done) | (simp [*]; done), by repeat (first | exact Drawn0.refl _ | apply Drawn0.step)⟩

/-! ### spec_l3Zero: function 61 -/
def spec_l3Zero.f (a0_0 : Bool) (a0_1 : Int) (a0_2 : Int) : Option (Bool) := if a0_1 = 0 then (some (a0_2 == 0)) else (some false)
set_option maxHeartbeats 8000000 in
set_option maxRecDepth 100000 in
theorem spec_l3Zero.calls (a0_0 : Bool) (a0_1 : Int) (a0_2 : Int) (r : Bool) (w : World) (h : spec_l3Zero.f a0_0 a0_1 a0_2 = some r) :
    Calls Tryd.prog 61 #[.agg #[.bool a0_0, .int .u64 a0_1, .int .u64 a0_2]] w fun e w' => e = .returned (.bool r) ∧ Below w.heap.size w w' := by
  have hu28 := Tryd.underlying28
  have HB := Aside0.mk (Below.refl w.heap.size w)
  have H : (if a0_1 = 0 then (some (a0_2 == 0)) else (some false)) = some r := h
  clear h
  by_cases c2 : a0_1 = 0
  · rw [if_pos c2] at H
    have c2b0 : (a0_1 == 0) = true := beq_iff_eq.mpr c2
    have c2b1 : (a0_1 != 0) = false := bne_eq_false_iff_eq.mpr c2
    clear c2
    obtain rfl := Option.some.inj H
    go_enter Tryd.func61, Tryd.ntmps61
    go_wp2_with (first | ((with_reducible refine gate_dst (N := 1) rfl ?_); refine box_event ?hg (N := 1) ?hd (cs := #[.bool a0_0, .int .u64 a0_1, .int .u64 a0_2]) (t := 28) ?hr ?_; (case hd => rfl); (case hg => rfl); (case hr => first | (go_simp; done) | (go_simp; rfl)); intro gb341 hg w3 hbox hb; have n0_ := Aside0.mk (below_step bel_ hb); have n1_ := Aside0.mk (hbox); have n2_ := bs_ (w := w) hg; have n3_ := bs_ (w := w) hg; clear HB; have HB := n0_; have BK341 := n1_; have GW341 := n2_; have GE341 := n3_; clear n0_ n1_ n2_ n3_; clear hb hbox hg; obtain ⟨hcz4_0, hcz4_1, hcz4_2, hfz4_0, hfz4_1, hfz4_2⟩ := cf3_ (w := w3) BK341.out))
    go_ret
    exact ⟨rf_, bel_⟩
  · rw [if_neg c2] at H
    have c2b0 : (a0_1 == 0) = false := beq_eq_false_iff_ne.mpr c2
    have c2b1 : (a0_1 != 0) = true := bne_iff_ne.mpr c2
    obtain rfl := Option.some.inj H
    go_enter Tryd.func61, Tryd.ntmps61
    go_wp2_with (first | ((with_reducible refine gate_dst (N := 1) rfl ?_); refine box_event ?hg (N := 1) ?hd (cs := #[.bool a0_0, .int .u64 a0_1, .int .u64 a0_2]) (t := 28) ?hr ?_; (case hd => rfl); (case hg => rfl); (case hr => first | (go_simp; done) | (go_simp; rfl)); intro gb341 hg w5 hbox hb; have n0_ := Aside0.mk (below_step bel_ hb); have n1_ := Aside0.mk (hbox); have n2_ := bs_ (w := w) hg; have n3_ := bs_ (w := w) hg; clear HB; have HB := n0_; have BK341 := n1_; have GW341 := n2_; have GE341 := n3_; clear n0_ n1_ n2_ n3_; clear hb hbox hg; obtain ⟨hcz6_0, hcz6_1, hcz6_2, hfz6_0, hfz6_1, hfz6_2⟩ := cf3_ (w := w5) BK341.out))
    go_ret
    exact ⟨rf_, bel_⟩

/-! ### spec_ScaleWide: function 58 -/
def spec_ScaleWide.f (a0_0 : Bool) (a0_1 : Int) (a0_2 : Int) (a1 : Int) : Option (Bool × Int × Int × Bool) := (spec_WideOk.f a0_0 a0_1 a0_2).bind fun t344 => (if t344 = true then ((spec_l3Abs.f a1).bind fun t345 => ((spec_l3Product.f a0_1 t345).bind fun bt346 => ((spec_l3Product.f a0_2 t345).bind fun bt348 => ((spec_l3Zero.f (a0_0 != (decide (a1 < 0))) (IntKind.u64.wrap (bt346.2 + bt348.1)) bt348.2).bind fun t351 => (if t351 = true then (if bt346.1 > 0 then (some (false, 0, 0, false)) else (if (IntKind.u64.wrap (bt346.2 + bt348.1)) < bt346.2 then (some (false, 0, 0, false)) else ((spec_WideOk.f false (IntKind.u64.wrap (bt346.2 + bt348.1)) bt348.2).bind fun t352 => (if t352 = true then (some (false, IntKind.u64.wrap (bt346.2 + bt348.1), bt348.2, true)) else (some (false, 0, 0, false)))))) else (if bt346.1 > 0 then (some (false, 0, 0, false)) else (if (IntKind.u64.wrap (bt346.2 + bt348.1)) < bt346.2 then (some (false, 0, 0, false)) else ((spec_WideOk.f (a0_0 != (decide (a1 < 0))) (IntKind.u64.wrap (bt346.2 + bt348.1)) bt348.2).bind fun t353 => (if t353 = true then (some ((a0_0 != (decide (a1 < 0))), IntKind.u64.wrap (bt346.2 + bt348.1), bt348.2, true)) else (some (false, 0, 0, false))))))))))) else (some (false, 0, 0, false)))
set_option maxHeartbeats 8000000 in
set_option maxRecDepth 100000 in
theorem spec_ScaleWide.calls (a0_0 : Bool) (a0_1 : Int) (a0_2 : Int) (a1 : Int) (r1 : Bool) (r2 : Int) (r3 : Int) (r4 : Bool) (w : World) (h : spec_ScaleWide.f a0_0 a0_1 a0_2 a1 = some (r1, r2, r3, r4)) :
    Calls Tryd.prog 58 #[.agg #[.bool a0_0, .int .u64 a0_1, .int .u64 a0_2], .int .i64 a1] w fun e w' => e = .returned (.tuple #[.agg #[.bool r1, .int .u64 r2, .int .u64 r3], .bool r4]) ∧ Below w.heap.size w w' := by
  have hu28 := Tryd.underlying28
  have HB := Aside0.mk (Below.refl w.heap.size w)
  have H : ((spec_WideOk.f a0_0 a0_1 a0_2).bind fun t344 => (if t344 = true then ((spec_l3Abs.f a1).bind fun t345 => ((spec_l3Product.f a0_1 t345).bind fun bt346 => ((spec_l3Product.f a0_2 t345).bind fun bt348 => ((spec_l3Zero.f (a0_0 != (decide (a1 < 0))) (IntKind.u64.wrap (bt346.2 + bt348.1)) bt348.2).bind fun t351 => (if t351 = true then (if bt346.1 > 0 then (some (false, 0, 0, false)) else (if (IntKind.u64.wrap (bt346.2 + bt348.1)) < bt346.2 then (some (false, 0, 0, false)) else ((spec_WideOk.f false (IntKind.u64.wrap (bt346.2 + bt348.1)) bt348.2).bind fun t352 => (if t352 = true then (some (false, IntKind.u64.wrap (bt346.2 + bt348.1), bt348.2, true)) else (some (false, 0, 0, false)))))) else (if bt346.1 > 0 then (some (false, 0, 0, false)) else (if (IntKind.u64.wrap (bt346.2 + bt348.1)) < bt346.2 then (some (false, 0, 0, false)) else ((spec_WideOk.f (a0_0 != (decide (a1 < 0))) (IntKind.u64.wrap (bt346.2 + bt348.1)) bt348.2).bind fun t353 => (if t353 = true then (some ((a0_0 != (decide (a1 < 0))), IntKind.u64.wrap (bt346.2 + bt348.1), bt348.2, true)) else (some (false, 0, 0, false))))))))))) else (some (false, 0, 0, false)))) = some (r1, r2, r3, r4) := h
  clear h
  replace H := Option.bind_eq_some_iff.mp H
  obtain ⟨t344, A30, H⟩ := H
  replace H : (if t344 = true then ((spec_l3Abs.f a1).bind fun t345 => ((spec_l3Product.f a0_1 t345).bind fun bt346 => ((spec_l3Product.f a0_2 t345).bind fun bt348 => ((spec_l3Zero.f (a0_0 != (decide (a1 < 0))) (IntKind.u64.wrap (bt346.2 + bt348.1)) bt348.2).bind fun t351 => (if t351 = true then (if bt346.1 > 0 then (some (false, 0, 0, false)) else (if (IntKind.u64.wrap (bt346.2 + bt348.1)) < bt346.2 then (some (false, 0, 0, false)) else ((spec_WideOk.f false (IntKind.u64.wrap (bt346.2 + bt348.1)) bt348.2).bind fun t352 => (if t352 = true then (some (false, IntKind.u64.wrap (bt346.2 + bt348.1), bt348.2, true)) else (some (false, 0, 0, false)))))) else (if bt346.1 > 0 then (some (false, 0, 0, false)) else (if (IntKind.u64.wrap (bt346.2 + bt348.1)) < bt346.2 then (some (false, 0, 0, false)) else ((spec_WideOk.f (a0_0 != (decide (a1 < 0))) (IntKind.u64.wrap (bt346.2 + bt348.1)) bt348.2).bind fun t353 => (if t353 = true then (some ((a0_0 != (decide (a1 < 0))), IntKind.u64.wrap (bt346.2 + bt348.1), bt348.2, true)) else (some (false, 0, 0, false))))))))))) else (some (false, 0, 0, false))) = some (r1, r2, r3, r4) := H
  have A3 := Aside0.mk A30
  clear A30
  by_cases c4 : t344 = true
  · subst c4
    have H1 : ((spec_l3Abs.f a1).bind fun t345 => ((spec_l3Product.f a0_1 t345).bind fun bt346 => ((spec_l3Product.f a0_2 t345).bind fun bt348 => ((spec_l3Zero.f (a0_0 != (decide (a1 < 0))) (IntKind.u64.wrap (bt346.2 + bt348.1)) bt348.2).bind fun t351 => (if t351 = true then (if bt346.1 > 0 then (some (false, 0, 0, false)) else (if (IntKind.u64.wrap (bt346.2 + bt348.1)) < bt346.2 then (some (false, 0, 0, false)) else ((spec_WideOk.f false (IntKind.u64.wrap (bt346.2 + bt348.1)) bt348.2).bind fun t352 => (if t352 = true then (some (false, IntKind.u64.wrap (bt346.2 + bt348.1), bt348.2, true)) else (some (false, 0, 0, false)))))) else (if bt346.1 > 0 then (some (false, 0, 0, false)) else (if (IntKind.u64.wrap (bt346.2 + bt348.1)) < bt346.2 then (some (false, 0, 0, false)) else ((spec_WideOk.f (a0_0 != (decide (a1 < 0))) (IntKind.u64.wrap (bt346.2 + bt348.1)) bt348.2).bind fun t353 => (if t353 = true then (some ((a0_0 != (decide (a1 < 0))), IntKind.u64.wrap (bt346.2 + bt348.1), bt348.2, true)) else (some (false, 0, 0, false))))))))))) = some (r1, r2, r3, r4) := by rw [if_pos rfl] at H; exact H
    clear H
    have H := H1
    clear H1
    replace H := Option.bind_eq_some_iff.mp H
    obtain ⟨t345, A50, H⟩ := H
    replace H : ((spec_l3Product.f a0_1 t345).bind fun bt346 => ((spec_l3Product.f a0_2 t345).bind fun bt348 => ((spec_l3Zero.f (a0_0 != (decide (a1 < 0))) (IntKind.u64.wrap (bt346.2 + bt348.1)) bt348.2).bind fun t351 => (if t351 = true then (if bt346.1 > 0 then (some (false, 0, 0, false)) else (if (IntKind.u64.wrap (bt346.2 + bt348.1)) < bt346.2 then (some (false, 0, 0, false)) else ((spec_WideOk.f false (IntKind.u64.wrap (bt346.2 + bt348.1)) bt348.2).bind fun t352 => (if t352 = true then (some (false, IntKind.u64.wrap (bt346.2 + bt348.1), bt348.2, true)) else (some (false, 0, 0, false)))))) else (if bt346.1 > 0 then (some (false, 0, 0, false)) else (if (IntKind.u64.wrap (bt346.2 + bt348.1)) < bt346.2 then (some (false, 0, 0, false)) else ((spec_WideOk.f (a0_0 != (decide (a1 < 0))) (IntKind.u64.wrap (bt346.2 + bt348.1)) bt348.2).bind fun t353 => (if t353 = true then (some ((a0_0 != (decide (a1 < 0))), IntKind.u64.wrap (bt346.2 + bt348.1), bt348.2, true)) else (some (false, 0, 0, false)))))))))) = some (r1, r2, r3, r4) := H
    have A5 := Aside0.mk A50
    clear A50
    replace H := Option.bind_eq_some_iff.mp H
    obtain ⟨⟨t346, t347⟩, A60, H⟩ := H
    replace H : ((spec_l3Product.f a0_2 t345).bind fun bt348 => ((spec_l3Zero.f (a0_0 != (decide (a1 < 0))) (IntKind.u64.wrap (t347 + bt348.1)) bt348.2).bind fun t351 => (if t351 = true then (if t346 > 0 then (some (false, 0, 0, false)) else (if (IntKind.u64.wrap (t347 + bt348.1)) < t347 then (some (false, 0, 0, false)) else ((spec_WideOk.f false (IntKind.u64.wrap (t347 + bt348.1)) bt348.2).bind fun t352 => (if t352 = true then (some (false, IntKind.u64.wrap (t347 + bt348.1), bt348.2, true)) else (some (false, 0, 0, false)))))) else (if t346 > 0 then (some (false, 0, 0, false)) else (if (IntKind.u64.wrap (t347 + bt348.1)) < t347 then (some (false, 0, 0, false)) else ((spec_WideOk.f (a0_0 != (decide (a1 < 0))) (IntKind.u64.wrap (t347 + bt348.1)) bt348.2).bind fun t353 => (if t353 = true then (some ((a0_0 != (decide (a1 < 0))), IntKind.u64.wrap (t347 + bt348.1), bt348.2, true)) else (some (false, 0, 0, false))))))))) = some (r1, r2, r3, r4) := H
    have A6 := Aside0.mk A60
    clear A60
    replace H := Option.bind_eq_some_iff.mp H
    obtain ⟨⟨t348, t349⟩, A70, H⟩ := H
    replace H : ((spec_l3Zero.f (a0_0 != (decide (a1 < 0))) (IntKind.u64.wrap (t347 + t348)) t349).bind fun t351 => (if t351 = true then (if t346 > 0 then (some (false, 0, 0, false)) else (if (IntKind.u64.wrap (t347 + t348)) < t347 then (some (false, 0, 0, false)) else ((spec_WideOk.f false (IntKind.u64.wrap (t347 + t348)) t349).bind fun t352 => (if t352 = true then (some (false, IntKind.u64.wrap (t347 + t348), t349, true)) else (some (false, 0, 0, false)))))) else (if t346 > 0 then (some (false, 0, 0, false)) else (if (IntKind.u64.wrap (t347 + t348)) < t347 then (some (false, 0, 0, false)) else ((spec_WideOk.f (a0_0 != (decide (a1 < 0))) (IntKind.u64.wrap (t347 + t348)) t349).bind fun t353 => (if t353 = true then (some ((a0_0 != (decide (a1 < 0))), IntKind.u64.wrap (t347 + t348), t349, true)) else (some (false, 0, 0, false)))))))) = some (r1, r2, r3, r4) := H
    have A7 := Aside0.mk A70
    clear A70
    replace H := Option.bind_eq_some_iff.mp H
    obtain ⟨t351, A80, H⟩ := H
    replace H : (if t351 = true then (if t346 > 0 then (some (false, 0, 0, false)) else (if (IntKind.u64.wrap (t347 + t348)) < t347 then (some (false, 0, 0, false)) else ((spec_WideOk.f false (IntKind.u64.wrap (t347 + t348)) t349).bind fun t352 => (if t352 = true then (some (false, IntKind.u64.wrap (t347 + t348), t349, true)) else (some (false, 0, 0, false)))))) else (if t346 > 0 then (some (false, 0, 0, false)) else (if (IntKind.u64.wrap (t347 + t348)) < t347 then (some (false, 0, 0, false)) else ((spec_WideOk.f (a0_0 != (decide (a1 < 0))) (IntKind.u64.wrap (t347 + t348)) t349).bind fun t353 => (if t353 = true then (some ((a0_0 != (decide (a1 < 0))), IntKind.u64.wrap (t347 + t348), t349, true)) else (some (false, 0, 0, false))))))) = some (r1, r2, r3, r4) := H
    have A8 := Aside0.mk A80
    clear A80
    by_cases c9 : t351 = true
    · subst c9
      have H1 : (if t346 > 0 then (some (false, 0, 0, false)) else (if (IntKind.u64.wrap (t347 + t348)) < t347 then (some (false, 0, 0, false)) else ((spec_WideOk.f false (IntKind.u64.wrap (t347 + t348)) t349).bind fun t352 => (if t352 = true then (some (false, IntKind.u64.wrap (t347 + t348), t349, true)) else (some (false, 0, 0, false)))))) = some (r1, r2, r3, r4) := by rw [if_pos rfl] at H; exact H
      clear H
      have H := H1
      clear H1
      by_cases c10 : t346 > 0
      · rw [if_pos c10] at H
        have c10b0 : decide (0 < t346) = true := decide_eq_true c10
        clear c10
        simp only [Option.some.injEq, Prod.mk.injEq] at H
        obtain ⟨rfl, rfl, rfl, rfl⟩ := H
        go_enter Tryd.func58, Tryd.ntmps58
        go_wp2_with (first | ((with_reducible refine gate_dst (N := 2) rfl ?_); refine box_event ?hg (N := 2) ?hd (cs := #[.bool a0_0, .int .u64 a0_1, .int .u64 a0_2]) (t := 28) ?hr ?_; (case hd => rfl); (case hg => rfl); (case hr => first | (go_simp; done) | (go_simp; rfl)); intro gb342 hg w11 hbox hb; have n0_ := Aside0.mk (below_step bel_ hb); have n1_ := Aside0.mk (hbox); have n2_ := bs_ (w := w) hg; have n3_ := bs_ (w := w) hg; clear HB; have HB := n0_; have BK342 := n1_; have GW342 := n2_; have GE342 := n3_; clear n0_ n1_ n2_ n3_; clear hb hbox hg) | ((with_reducible refine gate_dst (N := 4) rfl ?_); refine box_event ?hg (N := 4) ?hd (cs := #[.bool false, .int .u64 0, .int .u64 0]) (t := 28) ?hr ?_; (case hd => rfl); (case hg => rfl); (case hr => first | (go_simp; done) | (go_simp; rfl)); intro gb343 hg w12 hbox hb; have n0_ := bb_ (g := gb342) hb; have n1_ := Aside0.mk (below_step bel_ hb); have n2_ := Aside0.mk (hbox); have n3_ := bs_ (w := w) hg; have n4_ := bs_ (w := w) hg; have n5_ := nlt_ (g := gb342) hg; have n6_ := ngt_ (g := gb342) hg; clear BK342; clear HB; have BK342 := n0_; have HB := n1_; have BK343 := n2_; have GW343 := n3_; have GE343 := n4_; have NB342_343 := n5_; have NB343_342 := n6_; clear n0_ n1_ n2_ n3_ n4_ n5_ n6_; clear hb hbox hg; have hnb13 := NB342_343.out; have hnc13 := NB343_342.out; obtain ⟨hcz14_0, hcz14_1, hcz14_2, hfz14_0, hfz14_1, hfz14_2⟩ := cf3_ (w := w12) BK342.out) | ((with_reducible refine gate_callee (f := 24) rfl ?_); refine goesL_ (some 14) rfl rfl Tryd.func24 (by kernel_rfl) rfl #[.agg #[.bool a0_0, .int .u64 a0_1, .int .u64 a0_2]] rfl mp_ ?_; (with_reducible refine (spec_WideOk.calls a0_0 a0_1 a0_2 true _ A3.out).mono ?_); rintro e w15 ⟨rfl, hb⟩; refine ⟨_, rfl, ?_⟩; have n0_ := bb_ (g := gb342) hb; have n1_ := bb_ (g := gb343) hb; have n2_ := Aside0.mk (below_step bel_ hb); clear BK342; clear BK343; clear HB; have BK342 := n0_; have BK343 := n1_; have HB := n2_; clear n0_ n1_ n2_; (try clear hb); (try clear hb2); (try clear hk); (try clear hi)) | ((with_reducible refine gate_callee (f := 99) rfl ?_); refine goesL_ (some 18) rfl rfl Tryd.func99 (by kernel_rfl) rfl #[.int .i64 a1] rfl mp_ ?_; (with_reducible refine (spec_l3Abs.calls a1 t345 _ A5.out).mono ?_); rintro e w' ⟨rfl, ⟨nd, rfl⟩⟩; refine ⟨_, rfl, ?_⟩; (try (rw [drewN_self w15]; generalize hq_ : World.drewN w15 _ = w15; have n0_ : Aside0 (w15.heap[gb342]? = some (.cells #[.bool a0_0, .int .u64 a0_1, .int .u64 a0_2] 28 (0, 0))) := ⟨by rw [← hq_]; exact bk_⟩; have n1_ : Aside0 (w15.heap[gb343]? = some (.cells #[.bool false, .int .u64 0, .int .u64 0] 28 (0, 0))) := ⟨by rw [← hq_]; exact bk_⟩; have n2_ : Aside0 (Below w.heap.size w w15) := ⟨by rw [← hq_]; exact bel_⟩; clear BK342 BK343 HB hq_; have BK342 := n0_; have BK343 := n1_; have HB := n2_; clear n0_ n1_ n2_)); obtain ⟨hcz16_0, hcz16_1, hcz16_2, hfz16_0, hfz16_1, hfz16_2⟩ := cf3_ (w := w15) BK342.out) | ((with_reducible refine gate_callee (f := 100) rfl ?_); refine goesL_ (some 23) rfl rfl Tryd.func100 (by kernel_rfl) rfl #[.int .u64 a0_1, .int .u64 t345] rfl mp_ ?_; (with_reducible refine (spec_l3Product.calls a0_1 t345 t346 t347 _ A6.out).mono ?_); rintro e w' ⟨rfl, ⟨nd, rfl⟩⟩; refine ⟨_, rfl, ?_⟩; (try (rw [drewN_self w15]; generalize hq_ : World.drewN w15 _ = w15; have n0_ : Aside0 (w15.heap[gb342]? = some (.cells #[.bool a0_0, .int .u64 a0_1, .int .u64 a0_2] 28 (0, 0))) := ⟨by rw [← hq_]; exact bk_⟩; have n1_ : Aside0 (w15.heap[gb343]? = some (.cells #[.bool false, .int .u64 0, .int .u64 0] 28 (0, 0))) := ⟨by rw [← hq_]; exact bk_⟩; have n2_ : Aside0 (Below w.heap.size w w15) := ⟨by rw [← hq_]; exact bel_⟩; clear BK342 BK343 HB hq_; have BK342 := n0_; have BK343 := n1_; have HB := n2_; clear n0_ n1_ n2_)); (try (obtain ⟨hcz16_0, hcz16_1, hcz16_2, hfz16_0, hfz16_1, hfz16_2⟩ := cf3_ (w := w15) BK342.out))) | ((with_reducible refine gate_callee (f := 100) rfl ?_); refine goesL_ (some 30) rfl rfl Tryd.func100 (by kernel_rfl) rfl #[.int .u64 a0_2, .int .u64 t345] rfl mp_ ?_; (with_reducible refine (spec_l3Product.calls a0_2 t345 t348 t349 _ A7.out).mono ?_); rintro e w' ⟨rfl, ⟨nd, rfl⟩⟩; refine ⟨_, rfl, ?_⟩; (try (rw [drewN_self w15]; generalize hq_ : World.drewN w15 _ = w15; have n0_ : Aside0 (w15.heap[gb342]? = some (.cells #[.bool a0_0, .int .u64 a0_1, .int .u64 a0_2] 28 (0, 0))) := ⟨by rw [← hq_]; exact bk_⟩; have n1_ : Aside0 (w15.heap[gb343]? = some (.cells #[.bool false, .int .u64 0, .int .u64 0] 28 (0, 0))) := ⟨by rw [← hq_]; exact bk_⟩; have n2_ : Aside0 (Below w.heap.size w w15) := ⟨by rw [← hq_]; exact bel_⟩; clear BK342 BK343 HB hq_; have BK342 := n0_; have BK343 := n1_; have HB := n2_; clear n0_ n1_ n2_)); (try (obtain ⟨hcz16_0, hcz16_1, hcz16_2, hfz16_0, hfz16_1, hfz16_2⟩ := cf3_ (w := w15) BK342.out))) | ((with_reducible refine gate_dst (N := 12) rfl ?_); refine box_event ?hg (N := 12) ?hd (cs := #[.bool false, .int .u64 0, .int .u64 0]) (t := 28) ?hr ?_; (case hd => rfl); (case hg => rfl); (case hr => first | (go_simp; done) | (go_simp; rfl)); intro gb350 hg w17 hbox hb; have n0_ := bb_ (g := gb342) hb; have n1_ := bb_ (g := gb343) hb; have n2_ := Aside0.mk (below_step bel_ hb); have n3_ := Aside0.mk (hbox); have n4_ := bs_ (w := w) hg; have n5_ := bs_ (w := w) hg; have n6_ := nlt_ (g := gb342) hg; have n7_ := ngt_ (g := gb342) hg; have n8_ := nlt_ (g := gb343) hg; have n9_ := ngt_ (g := gb343) hg; clear BK342; clear BK343; clear HB; have BK342 := n0_; have BK343 := n1_; have HB := n2_; have BK350 := n3_; have GW350 := n4_; have GE350 := n5_; have NB342_350 := n6_; have NB350_342 := n7_; have NB343_350 := n8_; have NB350_343 := n9_; clear n0_ n1_ n2_ n3_ n4_ n5_ n6_ n7_ n8_ n9_; clear hb hbox hg; have hnb18 := NB350_342.out; have hnc18 := NB342_350.out; have hnb19 := NB350_343.out; have hnc19 := NB343_350.out; obtain ⟨hcz20_0, hcz20_1, hcz20_2, hfz20_0, hfz20_1, hfz20_2⟩ := cf3_ (w := w17) BK350.out) | ((with_reducible refine gate_callee (f := 61) rfl ?_); refine goesL_ (some 45) rfl rfl Tryd.func61 (by kernel_rfl) rfl #[.agg #[.bool (a0_0 != (decide (a1 < 0))), .int .u64 (IntKind.u64.wrap (t347 + t348)), .int .u64 t349]] rfl mp_ ?_; (with_reducible refine (spec_l3Zero.calls (a0_0 != (decide (a1 < 0))) (IntKind.u64.wrap (t347 + t348)) t349 true _ A8.out).mono ?_); rintro e w21 ⟨rfl, hb⟩; refine ⟨_, rfl, ?_⟩; have n0_ := Aside0.mk (blk_below (g := gb342) (o := .cells #[.bool a0_0, .int .u64 a0_1, .int .u64 a0_2] 28 (0, 0)) bk_ hb); have n1_ := Aside0.mk (blk_below (g := gb343) (o := .cells #[.bool false, .int .u64 0, .int .u64 0] 28 (0, 0)) bk_ hb); have n2_ := Aside0.mk (blk_below (g := gb350) (o := .cells #[.bool (a0_0 != (decide (a1 < 0))), .int .u64 (IntKind.u64.wrap (t347 + t348)), .int .u64 t349] 28 (0, 0)) (pu_ #[.bool (a0_0 != (decide (a1 < 0))), .int .u64 (IntKind.u64.wrap (t347 + t348)), .int .u64 0] 2 (h := (pu_ #[.bool (a0_0 != (decide (a1 < 0))), .int .u64 0, .int .u64 0] 1 (h := (pu_ #[.bool false, .int .u64 0, .int .u64 0] 0 (h := bk_)))))) hb); have n3_ := Aside0.mk (below_step bel_ hb); clear BK342; clear BK343; clear BK350; clear HB; have BK342 := n0_; have BK343 := n1_; have BK350 := n2_; have HB := n3_; clear n0_ n1_ n2_ n3_; (try clear hb); (try clear hb2); (try clear hk); (try clear hi); obtain ⟨hcz22_0, hcz22_1, hcz22_2, hfz22_0, hfz22_1, hfz22_2⟩ := cf3_ (w := w21) BK350.out; obtain ⟨hcz23_0, hcz23_1, hcz23_2, hfz23_0, hfz23_1, hfz23_2⟩ := cf3_ (w := w21) BK343.out))
        refine bodyPost_ret (results_ct rfl _ _ gb343 28 #[.bool false, .int .u64 0, .int .u64 0] (0, 0) _ rfl (pu_ #[.bool false, .int .u64 0, .int .u64 0] 2 (h := (pu_ #[.bool false, .int .u64 0, .int .u64 0] 1 (h := (pu_ #[.bool false, .int .u64 0, .int .u64 0] 0 (h := bk_)))))) Tryd.underlying28 rfl (by kernel_rfl)) rfl ?_
        exact ⟨rf_, bel_⟩
      · rw [if_neg c10] at H
        have c10b0 : decide (0 < t346) = false := decide_eq_false c10
        clear c10
        by_cases c24 : (IntKind.u64.wrap (t347 + t348)) < t347
        · rw [if_pos c24] at H
          have c24b0 : decide ((IntKind.u64.wrap (t347 + t348)) < t347) = true := decide_eq_true c24
          clear c24
          simp only [Option.some.injEq, Prod.mk.injEq] at H
          obtain ⟨rfl, rfl, rfl, rfl⟩ := H
          go_enter Tryd.func58, Tryd.ntmps58
          go_wp2_with (first | ((with_reducible refine gate_dst (N := 2) rfl ?_); refine box_event ?hg (N := 2) ?hd (cs := #[.bool a0_0, .int .u64 a0_1, .int .u64 a0_2]) (t := 28) ?hr ?_; (case hd => rfl); (case hg => rfl); (case hr => first | (go_simp; done) | (go_simp; rfl)); intro gb342 hg w25 hbox hb; have n0_ := Aside0.mk (below_step bel_ hb); have n1_ := Aside0.mk (hbox); have n2_ := bs_ (w := w) hg; have n3_ := bs_ (w := w) hg; clear HB; have HB := n0_; have BK342 := n1_; have GW342 := n2_; have GE342 := n3_; clear n0_ n1_ n2_ n3_; clear hb hbox hg) | ((with_reducible refine gate_dst (N := 4) rfl ?_); refine box_event ?hg (N := 4) ?hd (cs := #[.bool false, .int .u64 0, .int .u64 0]) (t := 28) ?hr ?_; (case hd => rfl); (case hg => rfl); (case hr => first | (go_simp; done) | (go_simp; rfl)); intro gb343 hg w26 hbox hb; have n0_ := bb_ (g := gb342) hb; have n1_ := Aside0.mk (below_step bel_ hb); have n2_ := Aside0.mk (hbox); have n3_ := bs_ (w := w) hg; have n4_ := bs_ (w := w) hg; have n5_ := nlt_ (g := gb342) hg; have n6_ := ngt_ (g := gb342) hg; clear BK342; clear HB; have BK342 := n0_; have HB := n1_; have BK343 := n2_; have GW343 := n3_; have GE343 := n4_; have NB342_343 := n5_; have NB343_342 := n6_; clear n0_ n1_ n2_ n3_ n4_ n5_ n6_; clear hb hbox hg; have hnb27 := NB342_343.out; have hnc27 := NB343_342.out; obtain ⟨hcz28_0, hcz28_1, hcz28_2, hfz28_0, hfz28_1, hfz28_2⟩ := cf3_ (w := w26) BK342.out) | ((with_reducible refine gate_callee (f := 24) rfl ?_); refine goesL_ (some 14) rfl rfl Tryd.func24 (by kernel_rfl) rfl #[.agg #[.bool a0_0, .int .u64 a0_1, .int .u64 a0_2]] rfl mp_ ?_; (with_reducible refine (spec_WideOk.calls a0_0 a0_1 a0_2 true _ A3.out).mono ?_); rintro e w29 ⟨rfl, hb⟩; refine ⟨_, rfl, ?_⟩; have n0_ := bb_ (g := gb342) hb; have n1_ := bb_ (g := gb343) hb; have n2_ := Aside0.mk (below_step bel_ hb); clear BK342; clear BK343; clear HB; have BK342 := n0_; have BK343 := n1_; have HB := n2_; clear n0_ n1_ n2_; (try clear hb); (try clear hb2); (try clear hk); (try clear hi)) | ((with_reducible refine gate_callee (f := 99) rfl ?_); refine goesL_ (some 18) rfl rfl Tryd.func99 (by kernel_rfl) rfl #[.int .i64 a1] rfl mp_ ?_; (with_reducible refine (spec_l3Abs.calls a1 t345 _ A5.out).mono ?_); rintro e w' ⟨rfl, ⟨nd, rfl⟩⟩; refine ⟨_, rfl, ?_⟩; (try (rw [drewN_self w29]; generalize hq_ : World.drewN w29 _ = w29; have n0_ : Aside0 (w29.heap[gb342]? = some (.cells #[.bool a0_0, .int .u64 a0_1, .int .u64 a0_2] 28 (0, 0))) := ⟨by rw [← hq_]; exact bk_⟩; have n1_ : Aside0 (w29.heap[gb343]? = some (.cells #[.bool false, .int .u64 0, .int .u64 0] 28 (0, 0))) := ⟨by rw [← hq_]; exact bk_⟩; have n2_ : Aside0 (Below w.heap.size w w29) := ⟨by rw [← hq_]; exact bel_⟩; clear BK342 BK343 HB hq_; have BK342 := n0_; have BK343 := n1_; have HB := n2_; clear n0_ n1_ n2_)); obtain ⟨hcz30_0, hcz30_1, hcz30_2, hfz30_0, hfz30_1, hfz30_2⟩ := cf3_ (w := w29) BK342.out) | ((with_reducible refine gate_callee (f := 100) rfl ?_); refine goesL_ (some 23) rfl rfl Tryd.func100 (by kernel_rfl) rfl #[.int .u64 a0_1, .int .u64 t345] rfl mp_ ?_; (with_reducible refine (spec_l3Product.calls a0_1 t345 t346 t347 _ A6.out).mono ?_); rintro e w' ⟨rfl, ⟨nd, rfl⟩⟩; refine ⟨_, rfl, ?_⟩; (try (rw [drewN_self w29]; generalize hq_ : World.drewN w29 _ = w29; have n0_ : Aside0 (w29.heap[gb342]? = some (.cells #[.bool a0_0, .int .u64 a0_1, .int .u64 a0_2] 28 (0, 0))) := ⟨by rw [← hq_]; exact bk_⟩; have n1_ : Aside0 (w29.heap[gb343]? = some (.cells #[.bool false, .int .u64 0, .int .u64 0] 28 (0, 0))) := ⟨by rw [← hq_]; exact bk_⟩; have n2_ : Aside0 (Below w.heap.size w w29) := ⟨by rw [← hq_]; exact bel_⟩; clear BK342 BK343 HB hq_; have BK342 := n0_; have BK343 := n1_; have HB := n2_; clear n0_ n1_ n2_)); (try (obtain ⟨hcz30_0, hcz30_1, hcz30_2, hfz30_0, hfz30_1, hfz30_2⟩ := cf3_ (w := w29) BK342.out))) | ((with_reducible refine gate_callee (f := 100) rfl ?_); refine goesL_ (some 30) rfl rfl Tryd.func100 (by kernel_rfl) rfl #[.int .u64 a0_2, .int .u64 t345] rfl mp_ ?_; (with_reducible refine (spec_l3Product.calls a0_2 t345 t348 t349 _ A7.out).mono ?_); rintro e w' ⟨rfl, ⟨nd, rfl⟩⟩; refine ⟨_, rfl, ?_⟩; (try (rw [drewN_self w29]; generalize hq_ : World.drewN w29 _ = w29; have n0_ : Aside0 (w29.heap[gb342]? = some (.cells #[.bool a0_0, .int .u64 a0_1, .int .u64 a0_2] 28 (0, 0))) := ⟨by rw [← hq_]; exact bk_⟩; have n1_ : Aside0 (w29.heap[gb343]? = some (.cells #[.bool false, .int .u64 0, .int .u64 0] 28 (0, 0))) := ⟨by rw [← hq_]; exact bk_⟩; have n2_ : Aside0 (Below w.heap.size w w29) := ⟨by rw [← hq_]; exact bel_⟩; clear BK342 BK343 HB hq_; have BK342 := n0_; have BK343 := n1_; have HB := n2_; clear n0_ n1_ n2_)); (try (obtain ⟨hcz30_0, hcz30_1, hcz30_2, hfz30_0, hfz30_1, hfz30_2⟩ := cf3_ (w := w29) BK342.out))) | ((with_reducible refine gate_dst (N := 12) rfl ?_); refine box_event ?hg (N := 12) ?hd (cs := #[.bool false, .int .u64 0, .int .u64 0]) (t := 28) ?hr ?_; (case hd => rfl); (case hg => rfl); (case hr => first | (go_simp; done) | (go_simp; rfl)); intro gb350 hg w31 hbox hb; have n0_ := bb_ (g := gb342) hb; have n1_ := bb_ (g := gb343) hb; have n2_ := Aside0.mk (below_step bel_ hb); have n3_ := Aside0.mk (hbox); have n4_ := bs_ (w := w) hg; have n5_ := bs_ (w := w) hg; have n6_ := nlt_ (g := gb342) hg; have n7_ := ngt_ (g := gb342) hg; have n8_ := nlt_ (g := gb343) hg; have n9_ := ngt_ (g := gb343) hg; clear BK342; clear BK343; clear HB; have BK342 := n0_; have BK343 := n1_; have HB := n2_; have BK350 := n3_; have GW350 := n4_; have GE350 := n5_; have NB342_350 := n6_; have NB350_342 := n7_; have NB343_350 := n8_; have NB350_343 := n9_; clear n0_ n1_ n2_ n3_ n4_ n5_ n6_ n7_ n8_ n9_; clear hb hbox hg; have hnb32 := NB350_342.out; have hnc32 := NB342_350.out; have hnb33 := NB350_343.out; have hnc33 := NB343_350.out; obtain ⟨hcz34_0, hcz34_1, hcz34_2, hfz34_0, hfz34_1, hfz34_2⟩ := cf3_ (w := w31) BK350.out) | ((with_reducible refine gate_callee (f := 61) rfl ?_); refine goesL_ (some 45) rfl rfl Tryd.func61 (by kernel_rfl) rfl #[.agg #[.bool (a0_0 != (decide (a1 < 0))), .int .u64 (IntKind.u64.wrap (t347 + t348)), .int .u64 t349]] rfl mp_ ?_; (with_reducible refine (spec_l3Zero.calls (a0_0 != (decide (a1 < 0))) (IntKind.u64.wrap (t347 + t348)) t349 true _ A8.out).mono ?_); rintro e w35 ⟨rfl, hb⟩; refine ⟨_, rfl, ?_⟩; have n0_ := Aside0.mk (blk_below (g := gb342) (o := .cells #[.bool a0_0, .int .u64 a0_1, .int .u64 a0_2] 28 (0, 0)) bk_ hb); have n1_ := Aside0.mk (blk_below (g := gb343) (o := .cells #[.bool false, .int .u64 0, .int .u64 0] 28 (0, 0)) bk_ hb); have n2_ := Aside0.mk (blk_below (g := gb350) (o := .cells #[.bool (a0_0 != (decide (a1 < 0))), .int .u64 (IntKind.u64.wrap (t347 + t348)), .int .u64 t349] 28 (0, 0)) (pu_ #[.bool (a0_0 != (decide (a1 < 0))), .int .u64 (IntKind.u64.wrap (t347 + t348)), .int .u64 0] 2 (h := (pu_ #[.bool (a0_0 != (decide (a1 < 0))), .int .u64 0, .int .u64 0] 1 (h := (pu_ #[.bool false, .int .u64 0, .int .u64 0] 0 (h := bk_)))))) hb); have n3_ := Aside0.mk (below_step bel_ hb); clear BK342; clear BK343; clear BK350; clear HB; have BK342 := n0_; have BK343 := n1_; have BK350 := n2_; have HB := n3_; clear n0_ n1_ n2_ n3_; (try clear hb); (try clear hb2); (try clear hk); (try clear hi); obtain ⟨hcz36_0, hcz36_1, hcz36_2, hfz36_0, hfz36_1, hfz36_2⟩ := cf3_ (w := w35) BK350.out; obtain ⟨hcz37_0, hcz37_1, hcz37_2, hfz37_0, hfz37_1, hfz37_2⟩ := cf3_ (w := w35) BK343.out))
          refine bodyPost_ret (results_ct rfl _ _ gb343 28 #[.bool false, .int .u64 0, .int .u64 0] (0, 0) _ rfl (pu_ #[.bool false, .int .u64 0, .int .u64 0] 2 (h := (pu_ #[.bool false, .int .u64 0, .int .u64 0] 1 (h := (pu_ #[.bool false, .int .u64 0, .int .u64 0] 0 (h := bk_)))))) Tryd.underlying28 rfl (by kernel_rfl)) rfl ?_
          exact ⟨rf_, bel_⟩
        · rw [if_neg c24] at H
          have c24b0 : decide ((IntKind.u64.wrap (t347 + t348)) < t347) = false := decide_eq_false c24
          clear c24
          replace H := Option.bind_eq_some_iff.mp H
          obtain ⟨t352, A380, H⟩ := H
          replace H : (if t352 = true then (some (false, IntKind.u64.wrap (t347 + t348), t349, true)) else (some (false, 0, 0, false))) = some (r1, r2, r3, r4) := H
          have A38 := Aside0.mk A380
          clear A380
          by_cases c39 : t352 = true
          · subst c39
            have H1 : (some (false, IntKind.u64.wrap (t347 + t348), t349, true)) = some (r1, r2, r3, r4) := by rw [if_pos rfl] at H; exact H
            clear H
            have H := H1
            clear H1
            simp only [Option.some.injEq, Prod.mk.injEq] at H
            obtain ⟨rfl, rfl, rfl, rfl⟩ := H
            go_enter Tryd.func58, Tryd.ntmps58
            go_wp2_with (first | ((with_reducible refine gate_dst (N := 2) rfl ?_); refine box_event ?hg (N := 2) ?hd (cs := #[.bool a0_0, .int .u64 a0_1, .int .u64 a0_2]) (t := 28) ?hr ?_; (case hd => rfl); (case hg => rfl); (case hr => first | (go_simp; done) | (go_simp; rfl)); intro gb342 hg w40 hbox hb; have n0_ := Aside0.mk (below_step bel_ hb); have n1_ := Aside0.mk (hbox); have n2_ := bs_ (w := w) hg; have n3_ := bs_ (w := w) hg; clear HB; have HB := n0_; have BK342 := n1_; have GW342 := n2_; have GE342 := n3_; clear n0_ n1_ n2_ n3_; clear hb hbox hg) | ((with_reducible refine gate_dst (N := 4) rfl ?_); refine box_event ?hg (N := 4) ?hd (cs := #[.bool false, .int .u64 0, .int .u64 0]) (t := 28) ?hr ?_; (case hd => rfl); (case hg => rfl); (case hr => first | (go_simp; done) | (go_simp; rfl)); intro gb343 hg w41 hbox hb; have n0_ := bb_ (g := gb342) hb; have n1_ := Aside0.mk (below_step bel_ hb); have n2_ := Aside0.mk (hbox); have n3_ := bs_ (w := w) hg; have n4_ := bs_ (w := w) hg; have n5_ := nlt_ (g := gb342) hg; have n6_ := ngt_ (g := gb342) hg; clear BK342; clear HB; have BK342 := n0_; have HB := n1_; have BK343 := n2_; have GW343 := n3_; have GE343 := n4_; have NB342_343 := n5_; have NB343_342 := n6_; clear n0_ n1_ n2_ n3_ n4_ n5_ n6_; clear hb hbox hg; have hnb42 := NB342_343.out; have hnc42 := NB343_342.out; obtain ⟨hcz43_0, hcz43_1, hcz43_2, hfz43_0, hfz43_1, hfz43_2⟩ := cf3_ (w := w41) BK342.out) | ((with_reducible refine gate_callee (f := 24) rfl ?_); refine goesL_ (some 14) rfl rfl Tryd.func24 (by kernel_rfl) rfl #[.agg #[.bool a0_0, .int .u64 a0_1, .int .u64 a0_2]] rfl mp_ ?_; (with_reducible refine (spec_WideOk.calls a0_0 a0_1 a0_2 true _ A3.out).mono ?_); rintro e w44 ⟨rfl, hb⟩; refine ⟨_, rfl, ?_⟩; have n0_ := bb_ (g := gb342) hb; have n1_ := bb_ (g := gb343) hb; have n2_ := Aside0.mk (below_step bel_ hb); clear BK342; clear BK343; clear HB; have BK342 := n0_; have BK343 := n1_; have HB := n2_; clear n0_ n1_ n2_; (try clear hb); (try clear hb2); (try clear hk); (try clear hi)) | ((with_reducible refine gate_callee (f := 99) rfl ?_); refine goesL_ (some 18) rfl rfl Tryd.func99 (by kernel_rfl) rfl #[.int .i64 a1] rfl mp_ ?_; (with_reducible refine (spec_l3Abs.calls a1 t345 _ A5.out).mono ?_); rintro e w' ⟨rfl, ⟨nd, rfl⟩⟩; refine ⟨_, rfl, ?_⟩; (try (rw [drewN_self w44]; generalize hq_ : World.drewN w44 _ = w44; have n0_ : Aside0 (w44.heap[gb342]? = some (.cells #[.bool a0_0, .int .u64 a0_1, .int .u64 a0_2] 28 (0, 0))) := ⟨by rw [← hq_]; exact bk_⟩; have n1_ : Aside0 (w44.heap[gb343]? = some (.cells #[.bool false, .int .u64 0, .int .u64 0] 28 (0, 0))) := ⟨by rw [← hq_]; exact bk_⟩; have n2_ : Aside0 (Below w.heap.size w w44) := ⟨by rw [← hq_]; exact bel_⟩; clear BK342 BK343 HB hq_; have BK342 := n0_; have BK343 := n1_; have HB := n2_; clear n0_ n1_ n2_)); obtain ⟨hcz45_0, hcz45_1, hcz45_2, hfz45_0, hfz45_1, hfz45_2⟩ := cf3_ (w := w44) BK342.out) | ((with_reducible refine gate_callee (f := 100) rfl ?_); refine goesL_ (some 23) rfl rfl Tryd.func100 (by kernel_rfl) rfl #[.int .u64 a0_1, .int .u64 t345] rfl mp_ ?_; (with_reducible refine (spec_l3Product.calls a0_1 t345 t346 t347 _ A6.out).mono ?_); rintro e w' ⟨rfl, ⟨nd, rfl⟩⟩; refine ⟨_, rfl, ?_⟩; (try (rw [drewN_self w44]; generalize hq_ : World.drewN w44 _ = w44; have n0_ : Aside0 (w44.heap[gb342]? = some (.cells #[.bool a0_0, .int .u64 a0_1, .int .u64 a0_2] 28 (0, 0))) := ⟨by rw [← hq_]; exact bk_⟩; have n1_ : Aside0 (w44.heap[gb343]? = some (.cells #[.bool false, .int .u64 0, .int .u64 0] 28 (0, 0))) := ⟨by rw [← hq_]; exact bk_⟩; have n2_ : Aside0 (Below w.heap.size w w44) := ⟨by rw [← hq_]; exact bel_⟩; clear BK342 BK343 HB hq_; have BK342 := n0_; have BK343 := n1_; have HB := n2_; clear n0_ n1_ n2_)); (try (obtain ⟨hcz45_0, hcz45_1, hcz45_2, hfz45_0, hfz45_1, hfz45_2⟩ := cf3_ (w := w44) BK342.out))) | ((with_reducible refine gate_callee (f := 100) rfl ?_); refine goesL_ (some 30) rfl rfl Tryd.func100 (by kernel_rfl) rfl #[.int .u64 a0_2, .int .u64 t345] rfl mp_ ?_; (with_reducible refine (spec_l3Product.calls a0_2 t345 t348 t349 _ A7.out).mono ?_); rintro e w' ⟨rfl, ⟨nd, rfl⟩⟩; refine ⟨_, rfl, ?_⟩; (try (rw [drewN_self w44]; generalize hq_ : World.drewN w44 _ = w44; have n0_ : Aside0 (w44.heap[gb342]? = some (.cells #[.bool a0_0, .int .u64 a0_1, .int .u64 a0_2] 28 (0, 0))) := ⟨by rw [← hq_]; exact bk_⟩; have n1_ : Aside0 (w44.heap[gb343]? = some (.cells #[.bool false, .int .u64 0, .int .u64 0] 28 (0, 0))) := ⟨by rw [← hq_]; exact bk_⟩; have n2_ : Aside0 (Below w.heap.size w w44) := ⟨by rw [← hq_]; exact bel_⟩; clear BK342 BK343 HB hq_; have BK342 := n0_; have BK343 := n1_; have HB := n2_; clear n0_ n1_ n2_)); (try (obtain ⟨hcz45_0, hcz45_1, hcz45_2, hfz45_0, hfz45_1, hfz45_2⟩ := cf3_ (w := w44) BK342.out))) | ((with_reducible refine gate_dst (N := 12) rfl ?_); refine box_event ?hg (N := 12) ?hd (cs := #[.bool false, .int .u64 0, .int .u64 0]) (t := 28) ?hr ?_; (case hd => rfl); (case hg => rfl); (case hr => first | (go_simp; done) | (go_simp; rfl)); intro gb350 hg w46 hbox hb; have n0_ := bb_ (g := gb342) hb; have n1_ := bb_ (g := gb343) hb; have n2_ := Aside0.mk (below_step bel_ hb); have n3_ := Aside0.mk (hbox); have n4_ := bs_ (w := w) hg; have n5_ := bs_ (w := w) hg; have n6_ := nlt_ (g := gb342) hg; have n7_ := ngt_ (g := gb342) hg; have n8_ := nlt_ (g := gb343) hg; have n9_ := ngt_ (g := gb343) hg; clear BK342; clear BK343; clear HB; have BK342 := n0_; have BK343 := n1_; have HB := n2_; have BK350 := n3_; have GW350 := n4_; have GE350 := n5_; have NB342_350 := n6_; have NB350_342 := n7_; have NB343_350 := n8_; have NB350_343 := n9_; clear n0_ n1_ n2_ n3_ n4_ n5_ n6_ n7_ n8_ n9_; clear hb hbox hg; have hnb47 := NB350_342.out; have hnc47 := NB342_350.out; have hnb48 := NB350_343.out; have hnc48 := NB343_350.out; obtain ⟨hcz49_0, hcz49_1, hcz49_2, hfz49_0, hfz49_1, hfz49_2⟩ := cf3_ (w := w46) BK350.out) | ((with_reducible refine gate_callee (f := 61) rfl ?_); refine goesL_ (some 45) rfl rfl Tryd.func61 (by kernel_rfl) rfl #[.agg #[.bool (a0_0 != (decide (a1 < 0))), .int .u64 (IntKind.u64.wrap (t347 + t348)), .int .u64 t349]] rfl mp_ ?_; (with_reducible refine (spec_l3Zero.calls (a0_0 != (decide (a1 < 0))) (IntKind.u64.wrap (t347 + t348)) t349 true _ A8.out).mono ?_); rintro e w50 ⟨rfl, hb⟩; refine ⟨_, rfl, ?_⟩; have n0_ := Aside0.mk (blk_below (g := gb342) (o := .cells #[.bool a0_0, .int .u64 a0_1, .int .u64 a0_2] 28 (0, 0)) bk_ hb); have n1_ := Aside0.mk (blk_below (g := gb343) (o := .cells #[.bool false, .int .u64 0, .int .u64 0] 28 (0, 0)) bk_ hb); have n2_ := Aside0.mk (blk_below (g := gb350) (o := .cells #[.bool (a0_0 != (decide (a1 < 0))), .int .u64 (IntKind.u64.wrap (t347 + t348)), .int .u64 t349] 28 (0, 0)) (pu_ #[.bool (a0_0 != (decide (a1 < 0))), .int .u64 (IntKind.u64.wrap (t347 + t348)), .int .u64 0] 2 (h := (pu_ #[.bool (a0_0 != (decide (a1 < 0))), .int .u64 0, .int .u64 0] 1 (h := (pu_ #[.bool false, .int .u64 0, .int .u64 0] 0 (h := bk_)))))) hb); have n3_ := Aside0.mk (below_step bel_ hb); clear BK342; clear BK343; clear BK350; clear HB; have BK342 := n0_; have BK343 := n1_; have BK350 := n2_; have HB := n3_; clear n0_ n1_ n2_ n3_; (try clear hb); (try clear hb2); (try clear hk); (try clear hi); obtain ⟨hcz51_0, hcz51_1, hcz51_2, hfz51_0, hfz51_1, hfz51_2⟩ := cf3_ (w := w50) BK350.out) | (go_at_call 24; (with_reducible refine (spec_WideOk.calls false (IntKind.u64.wrap (t347 + t348)) t349 true _ A38.out).mono ?_); rintro e w52 ⟨rfl, hb⟩; have n0_ := Aside0.mk (blk_below (g := gb342) (o := .cells #[.bool a0_0, .int .u64 a0_1, .int .u64 a0_2] 28 (0, 0)) bk_ hb); have n1_ := Aside0.mk (blk_below (g := gb343) (o := .cells #[.bool false, .int .u64 0, .int .u64 0] 28 (0, 0)) bk_ hb); have n2_ := Aside0.mk (blk_below (g := gb350) (o := .cells #[.bool false, .int .u64 (IntKind.u64.wrap (t347 + t348)), .int .u64 t349] 28 (0, 0)) (pu_ #[.bool (a0_0 != (decide (a1 < 0))), .int .u64 (IntKind.u64.wrap (t347 + t348)), .int .u64 t349] 0 (h := bk_)) hb); have n3_ := Aside0.mk (below_step bel_ hb); clear BK342; clear BK343; clear BK350; clear HB; have BK342 := n0_; have BK343 := n1_; have BK350 := n2_; have HB := n3_; clear n0_ n1_ n2_ n3_; (try clear hb); (try clear hb2); (try clear hk); (try clear hi); obtain ⟨hcz53_0, hcz53_1, hcz53_2, hfz53_0, hfz53_1, hfz53_2⟩ := cf3_ (w := w52) BK350.out; obtain ⟨hcz54_0, hcz54_1, hcz54_2, hfz54_0, hfz54_1, hfz54_2⟩ := cf3_ (w := w52) BK343.out))
            refine bodyPost_ret (results_ct rfl _ _ gb343 28 #[.bool false, .int .u64 (IntKind.u64.wrap (t347 + t348)), .int .u64 t349] (0, 0) _ rfl (pu_ #[.bool false, .int .u64 (IntKind.u64.wrap (t347 + t348)), .int .u64 0] 2 (h := (pu_ #[.bool false, .int .u64 0, .int .u64 0] 1 (h := (pu_ #[.bool false, .int .u64 0, .int .u64 0] 0 (h := bk_)))))) Tryd.underlying28 rfl (by kernel_rfl)) rfl ?_
            exact ⟨rf_, bel_⟩
          · replace c39 := Bool.eq_false_iff.mpr c39
            subst c39
            have H1 : (some (false, 0, 0, false)) = some (r1, r2, r3, r4) := by rw [if_neg (show ¬ (false = true) by decide)] at H; exact H
            clear H
            have H := H1
            clear H1
            simp only [Option.some.injEq, Prod.mk.injEq] at H
            obtain ⟨rfl, rfl, rfl, rfl⟩ := H
            go_enter Tryd.func58, Tryd.ntmps58
            go_wp2_with (first | ((with_reducible refine gate_dst (N := 2) rfl ?_); refine box_event ?hg (N := 2) ?hd (cs := #[.bool a0_0, .int .u64 a0_1, .int .u64 a0_2]) (t := 28) ?hr ?_; (case hd => rfl); (case hg => rfl); (case hr => first | (go_simp; done) | (go_simp; rfl)); intro gb342 hg w55 hbox hb; have n0_ := Aside0.mk (below_step bel_ hb); have n1_ := Aside0.mk (hbox); have n2_ := bs_ (w := w) hg; have n3_ := bs_ (w := w) hg; clear HB; have HB := n0_; have BK342 := n1_; have GW342 := n2_; have GE342 := n3_; clear n0_ n1_ n2_ n3_; clear hb hbox hg) | ((with_reducible refine gate_dst (N := 4) rfl ?_); refine box_event ?hg (N := 4) ?hd (cs := #[.bool false, .int .u64 0, .int .u64 0]) (t := 28) ?hr ?_; (case hd => rfl); (case hg => rfl); (case hr => first | (go_simp; done) | (go_simp; rfl)); intro gb343 hg w56 hbox hb; have n0_ := bb_ (g := gb342) hb; have n1_ := Aside0.mk (below_step bel_ hb); have n2_ := Aside0.mk (hbox); have n3_ := bs_ (w := w) hg; have n4_ := bs_ (w := w) hg; have n5_ := nlt_ (g := gb342) hg; have n6_ := ngt_ (g := gb342) hg; clear BK342; clear HB; have BK342 := n0_; have HB := n1_; have BK343 := n2_; have GW343 := n3_; have GE343 := n4_; have NB342_343 := n5_; have NB343_342 := n6_; clear n0_ n1_ n2_ n3_ n4_ n5_ n6_; clear hb hbox hg; have hnb57 := NB342_343.out; have hnc57 := NB343_342.out; obtain ⟨hcz58_0, hcz58_1, hcz58_2, hfz58_0, hfz58_1, hfz58_2⟩ := cf3_ (w := w56) BK342.out) | ((with_reducible refine gate_callee (f := 24) rfl ?_); refine goesL_ (some 14) rfl rfl Tryd.func24 (by kernel_rfl) rfl #[.agg #[.bool a0_0, .int .u64 a0_1, .int .u64 a0_2]] rfl mp_ ?_; (with_reducible refine (spec_WideOk.calls a0_0 a0_1 a0_2 true _ A3.out).mono ?_); rintro e w59 ⟨rfl, hb⟩; refine ⟨_, rfl, ?_⟩; have n0_ := bb_ (g := gb342) hb; have n1_ := bb_ (g := gb343) hb; have n2_ := Aside0.mk (below_step bel_ hb); clear BK342; clear BK343; clear HB; have BK342 := n0_; have BK343 := n1_; have HB := n2_; clear n0_ n1_ n2_; (try clear hb); (try clear hb2); (try clear hk); (try clear hi)) | ((with_reducible refine gate_callee (f := 99) rfl ?_); refine goesL_ (some 18) rfl rfl Tryd.func99 (by kernel_rfl) rfl #[.int .i64 a1] rfl mp_ ?_; (with_reducible refine (spec_l3Abs.calls a1 t345 _ A5.out).mono ?_); rintro e w' ⟨rfl, ⟨nd, rfl⟩⟩; refine ⟨_, rfl, ?_⟩; (try (rw [drewN_self w59]; generalize hq_ : World.drewN w59 _ = w59; have n0_ : Aside0 (w59.heap[gb342]? = some (.cells #[.bool a0_0, .int .u64 a0_1, .int .u64 a0_2] 28 (0, 0))) := ⟨by rw [← hq_]; exact bk_⟩; have n1_ : Aside0 (w59.heap[gb343]? = some (.cells #[.bool false, .int .u64 0, .int .u64 0] 28 (0, 0))) := ⟨by rw [← hq_]; exact bk_⟩; have n2_ : Aside0 (Below w.heap.size w w59) := ⟨by rw [← hq_]; exact bel_⟩; clear BK342 BK343 HB hq_; have BK342 := n0_; have BK343 := n1_; have HB := n2_; clear n0_ n1_ n2_)); obtain ⟨hcz60_0, hcz60_1, hcz60_2, hfz60_0, hfz60_1, hfz60_2⟩ := cf3_ (w := w59) BK342.out) | ((with_reducible refine gate_callee (f := 100) rfl ?_); refine goesL_ (some 23) rfl rfl Tryd.func100 (by kernel_rfl) rfl #[.int .u64 a0_1, .int .u64 t345] rfl mp_ ?_; (with_reducible refine (spec_l3Product.calls a0_1 t345 t346 t347 _ A6.out).mono ?_); rintro e w' ⟨rfl, ⟨nd, rfl⟩⟩; refine ⟨_, rfl, ?_⟩; (try (rw [drewN_self w59]; generalize hq_ : World.drewN w59 _ = w59; have n0_ : Aside0 (w59.heap[gb342]? = some (.cells #[.bool a0_0, .int .u64 a0_1, .int .u64 a0_2] 28 (0, 0))) := ⟨by rw [← hq_]; exact bk_⟩; have n1_ : Aside0 (w59.heap[gb343]? = some (.cells #[.bool false, .int .u64 0, .int .u64 0] 28 (0, 0))) := ⟨by rw [← hq_]; exact bk_⟩; have n2_ : Aside0 (Below w.heap.size w w59) := ⟨by rw [← hq_]; exact bel_⟩; clear BK342 BK343 HB hq_; have BK342 := n0_; have BK343 := n1_; have HB := n2_; clear n0_ n1_ n2_)); (try (obtain ⟨hcz60_0, hcz60_1, hcz60_2, hfz60_0, hfz60_1, hfz60_2⟩ := cf3_ (w := w59) BK342.out))) | ((with_reducible refine gate_callee (f := 100) rfl ?_); refine goesL_ (some 30) rfl rfl Tryd.func100 (by kernel_rfl) rfl #[.int .u64 a0_2, .int .u64 t345] rfl mp_ ?_; (with_reducible refine (spec_l3Product.calls a0_2 t345 t348 t349 _ A7.out).mono ?_); rintro e w' ⟨rfl, ⟨nd, rfl⟩⟩; refine ⟨_, rfl, ?_⟩; (try (rw [drewN_self w59]; generalize hq_ : World.drewN w59 _ = w59; have n0_ : Aside0 (w59.heap[gb342]? = some (.cells #[.bool a0_0, .int .u64 a0_1, .int .u64 a0_2] 28 (0, 0))) := ⟨by rw [← hq_]; exact bk_⟩; have n1_ : Aside0 (w59.heap[gb343]? = some (.cells #[.bool false, .int .u64 0, .int .u64 0] 28 (0, 0))) := ⟨by rw [← hq_]; exact bk_⟩; have n2_ : Aside0 (Below w.heap.size w w59) := ⟨by rw [← hq_]; exact bel_⟩; clear BK342 BK343 HB hq_; have BK342 := n0_; have BK343 := n1_; have HB := n2_; clear n0_ n1_ n2_)); (try (obtain ⟨hcz60_0, hcz60_1, hcz60_2, hfz60_0, hfz60_1, hfz60_2⟩ := cf3_ (w := w59) BK342.out))) | ((with_reducible refine gate_dst (N := 12) rfl ?_); refine box_event ?hg (N := 12) ?hd (cs := #[.bool false, .int .u64 0, .int .u64 0]) (t := 28) ?hr ?_; (case hd => rfl); (case hg => rfl); (case hr => first | (go_simp; done) | (go_simp; rfl)); intro gb350 hg w61 hbox hb; have n0_ := bb_ (g := gb342) hb; have n1_ := bb_ (g := gb343) hb; have n2_ := Aside0.mk (below_step bel_ hb); have n3_ := Aside0.mk (hbox); have n4_ := bs_ (w := w) hg; have n5_ := bs_ (w := w) hg; have n6_ := nlt_ (g := gb342) hg; have n7_ := ngt_ (g := gb342) hg; have n8_ := nlt_ (g := gb343) hg; have n9_ := ngt_ (g := gb343) hg; clear BK342; clear BK343; clear HB; have BK342 := n0_; have BK343 := n1_; have HB := n2_; have BK350 := n3_; have GW350 := n4_; have GE350 := n5_; have NB342_350 := n6_; have NB350_342 := n7_; have NB343_350 := n8_; have NB350_343 := n9_; clear n0_ n1_ n2_ n3_ n4_ n5_ n6_ n7_ n8_ n9_; clear hb hbox hg; have hnb62 := NB350_342.out; have hnc62 := NB342_350.out; have hnb63 := NB350_343.out; have hnc63 := NB343_350.out; obtain ⟨hcz64_0, hcz64_1, hcz64_2, hfz64_0, hfz64_1, hfz64_2⟩ := cf3_ (w := w61) BK350.out) | ((with_reducible refine gate_callee (f := 61) rfl ?_); refine goesL_ (some 45) rfl rfl Tryd.func61 (by kernel_rfl) rfl #[.agg #[.bool (a0_0 != (decide (a1 < 0))), .int .u64 (IntKind.u64.wrap (t347 + t348)), .int .u64 t349]] rfl mp_ ?_; (with_reducible refine (spec_l3Zero.calls (a0_0 != (decide (a1 < 0))) (IntKind.u64.wrap (t347 + t348)) t349 true _ A8.out).mono ?_); rintro e w65 ⟨rfl, hb⟩; refine ⟨_, rfl, ?_⟩; have n0_ := Aside0.mk (blk_below (g := gb342) (o := .cells #[.bool a0_0, .int .u64 a0_1, .int .u64 a0_2] 28 (0, 0)) bk_ hb); have n1_ := Aside0.mk (blk_below (g := gb343) (o := .cells #[.bool false, .int .u64 0, .int .u64 0] 28 (0, 0)) bk_ hb); have n2_ := Aside0.mk (blk_below (g := gb350) (o := .cells #[.bool (a0_0 != (decide (a1 < 0))), .int .u64 (IntKind.u64.wrap (t347 + t348)), .int .u64 t349] 28 (0, 0)) (pu_ #[.bool (a0_0 != (decide (a1 < 0))), .int .u64 (IntKind.u64.wrap (t347 + t348)), .int .u64 0] 2 (h := (pu_ #[.bool (a0_0 != (decide (a1 < 0))), .int .u64 0, .int .u64 0] 1 (h := (pu_ #[.bool false, .int .u64 0, .int .u64 0] 0 (h := bk_)))))) hb); have n3_ := Aside0.mk (below_step bel_ hb); clear BK342; clear BK343; clear BK350; clear HB; have BK342 := n0_; have BK343 := n1_; have BK350 := n2_; have HB := n3_; clear n0_ n1_ n2_ n3_; (try clear hb); (try clear hb2); (try clear hk); (try clear hi); obtain ⟨hcz66_0, hcz66_1, hcz66_2, hfz66_0, hfz66_1, hfz66_2⟩ := cf3_ (w := w65) BK350.out) | (go_at_call 24; (with_reducible refine (spec_WideOk.calls false (IntKind.u64.wrap (t347 + t348)) t349 false _ A38.out).mono ?_); rintro e w67 ⟨rfl, hb⟩; have n0_ := Aside0.mk (blk_below (g := gb342) (o := .cells #[.bool a0_0, .int .u64 a0_1, .int .u64 a0_2] 28 (0, 0)) bk_ hb); have n1_ := Aside0.mk (blk_below (g := gb343) (o := .cells #[.bool false, .int .u64 0, .int .u64 0] 28 (0, 0)) bk_ hb); have n2_ := Aside0.mk (blk_below (g := gb350) (o := .cells #[.bool false, .int .u64 (IntKind.u64.wrap (t347 + t348)), .int .u64 t349] 28 (0, 0)) (pu_ #[.bool (a0_0 != (decide (a1 < 0))), .int .u64 (IntKind.u64.wrap (t347 + t348)), .int .u64 t349] 0 (h := bk_)) hb); have n3_ := Aside0.mk (below_step bel_ hb); clear BK342; clear BK343; clear BK350; clear HB; have BK342 := n0_; have BK343 := n1_; have BK350 := n2_; have HB := n3_; clear n0_ n1_ n2_ n3_; (try clear hb); (try clear hb2); (try clear hk); (try clear hi); obtain ⟨hcz68_0, hcz68_1, hcz68_2, hfz68_0, hfz68_1, hfz68_2⟩ := cf3_ (w := w67) BK343.out))
            refine bodyPost_ret (results_ct rfl _ _ gb343 28 #[.bool false, .int .u64 0, .int .u64 0] (0, 0) _ rfl (pu_ #[.bool false, .int .u64 0, .int .u64 0] 2 (h := (pu_ #[.bool false, .int .u64 0, .int .u64 0] 1 (h := (pu_ #[.bool false, .int .u64 0, .int .u64 0] 0 (h := bk_)))))) Tryd.underlying28 rfl (by kernel_rfl)) rfl ?_
            exact ⟨rf_, bel_⟩
    · replace c9 := Bool.eq_false_iff.mpr c9
      subst c9
      have H1 : (if t346 > 0 then (some (false, 0, 0, false)) else (if (IntKind.u64.wrap (t347 + t348)) < t347 then (some (false, 0, 0, false)) else ((spec_WideOk.f (a0_0 != (decide (a1 < 0))) (IntKind.u64.wrap (t347 + t348)) t349).bind fun t353 => (if t353 = true then (some ((a0_0 != (decide (a1 < 0))), IntKind.u64.wrap (t347 + t348), t349, true)) else (some (false, 0, 0, false)))))) = some (r1, r2, r3, r4) := by rw [if_neg (show ¬ (false = true) by decide)] at H; exact H
      clear H
      have H := H1
      clear H1
      by_cases c69 : t346 > 0
      · rw [if_pos c69] at H
        have c69b0 : decide (0 < t346) = true := decide_eq_true c69
        clear c69
        simp only [Option.some.injEq, Prod.mk.injEq] at H
        obtain ⟨rfl, rfl, rfl, rfl⟩ := H
        go_enter Tryd.func58, Tryd.ntmps58
        go_wp2_with (first | ((with_reducible refine gate_dst (N := 2) rfl ?_); refine box_event ?hg (N := 2) ?hd (cs := #[.bool a0_0, .int .u64 a0_1, .int .u64 a0_2]) (t := 28) ?hr ?_; (case hd => rfl); (case hg => rfl); (case hr => first | (go_simp; done) | (go_simp; rfl)); intro gb342 hg w70 hbox hb; have n0_ := Aside0.mk (below_step bel_ hb); have n1_ := Aside0.mk (hbox); have n2_ := bs_ (w := w) hg; have n3_ := bs_ (w := w) hg; clear HB; have HB := n0_; have BK342 := n1_; have GW342 := n2_; have GE342 := n3_; clear n0_ n1_ n2_ n3_; clear hb hbox hg) | ((with_reducible refine gate_dst (N := 4) rfl ?_); refine box_event ?hg (N := 4) ?hd (cs := #[.bool false, .int .u64 0, .int .u64 0]) (t := 28) ?hr ?_; (case hd => rfl); (case hg => rfl); (case hr => first | (go_simp; done) | (go_simp; rfl)); intro gb343 hg w71 hbox hb; have n0_ := bb_ (g := gb342) hb; have n1_ := Aside0.mk (below_step bel_ hb); have n2_ := Aside0.mk (hbox); have n3_ := bs_ (w := w) hg; have n4_ := bs_ (w := w) hg; have n5_ := nlt_ (g := gb342) hg; have n6_ := ngt_ (g := gb342) hg; clear BK342; clear HB; have BK342 := n0_; have HB := n1_; have BK343 := n2_; have GW343 := n3_; have GE343 := n4_; have NB342_343 := n5_; have NB343_342 := n6_; clear n0_ n1_ n2_ n3_ n4_ n5_ n6_; clear hb hbox hg; have hnb72 := NB342_343.out; have hnc72 := NB343_342.out; obtain ⟨hcz73_0, hcz73_1, hcz73_2, hfz73_0, hfz73_1, hfz73_2⟩ := cf3_ (w := w71) BK342.out) | ((with_reducible refine gate_callee (f := 24) rfl ?_); refine goesL_ (some 14) rfl rfl Tryd.func24 (by kernel_rfl) rfl #[.agg #[.bool a0_0, .int .u64 a0_1, .int .u64 a0_2]] rfl mp_ ?_; (with_reducible refine (spec_WideOk.calls a0_0 a0_1 a0_2 true _ A3.out).mono ?_); rintro e w74 ⟨rfl, hb⟩; refine ⟨_, rfl, ?_⟩; have n0_ := bb_ (g := gb342) hb; have n1_ := bb_ (g := gb343) hb; have n2_ := Aside0.mk (below_step bel_ hb); clear BK342; clear BK343; clear HB; have BK342 := n0_; have BK343 := n1_; have HB := n2_; clear n0_ n1_ n2_; (try clear hb); (try clear hb2); (try clear hk); (try clear hi)) | ((with_reducible refine gate_callee (f := 99) rfl ?_); refine goesL_ (some 18) rfl rfl Tryd.func99 (by kernel_rfl) rfl #[.int .i64 a1] rfl mp_ ?_; (with_reducible refine (spec_l3Abs.calls a1 t345 _ A5.out).mono ?_); rintro e w' ⟨rfl, ⟨nd, rfl⟩⟩; refine ⟨_, rfl, ?_⟩; (try (rw [drewN_self w74]; generalize hq_ : World.drewN w74 _ = w74; have n0_ : Aside0 (w74.heap[gb342]? = some (.cells #[.bool a0_0, .int .u64 a0_1, .int .u64 a0_2] 28 (0, 0))) := ⟨by rw [← hq_]; exact bk_⟩; have n1_ : Aside0 (w74.heap[gb343]? = some (.cells #[.bool false, .int .u64 0, .int .u64 0] 28 (0, 0))) := ⟨by rw [← hq_]; exact bk_⟩; have n2_ : Aside0 (Below w.heap.size w w74) := ⟨by rw [← hq_]; exact bel_⟩; clear BK342 BK343 HB hq_; have BK342 := n0_; have BK343 := n1_; have HB := n2_; clear n0_ n1_ n2_)); obtain ⟨hcz75_0, hcz75_1, hcz75_2, hfz75_0, hfz75_1, hfz75_2⟩ := cf3_ (w := w74) BK342.out) | ((with_reducible refine gate_callee (f := 100) rfl ?_); refine goesL_ (some 23) rfl rfl Tryd.func100 (by kernel_rfl) rfl #[.int .u64 a0_1, .int .u64 t345] rfl mp_ ?_; (with_reducible refine (spec_l3Product.calls a0_1 t345 t346 t347 _ A6.out).mono ?_); rintro e w' ⟨rfl, ⟨nd, rfl⟩⟩; refine ⟨_, rfl, ?_⟩; (try (rw [drewN_self w74]; generalize hq_ : World.drewN w74 _ = w74; have n0_ : Aside0 (w74.heap[gb342]? = some (.cells #[.bool a0_0, .int .u64 a0_1, .int .u64 a0_2] 28 (0, 0))) := ⟨by rw [← hq_]; exact bk_⟩; have n1_ : Aside0 (w74.heap[gb343]? = some (.cells #[.bool false, .int .u64 0, .int .u64 0] 28 (0, 0))) := ⟨by rw [← hq_]; exact bk_⟩; have n2_ : Aside0 (Below w.heap.size w w74) := ⟨by rw [← hq_]; exact bel_⟩; clear BK342 BK343 HB hq_; have BK342 := n0_; have BK343 := n1_; have HB := n2_; clear n0_ n1_ n2_)); (try (obtain ⟨hcz75_0, hcz75_1, hcz75_2, hfz75_0, hfz75_1, hfz75_2⟩ := cf3_ (w := w74) BK342.out))) | ((with_reducible refine gate_callee (f := 100) rfl ?_); refine goesL_ (some 30) rfl rfl Tryd.func100 (by kernel_rfl) rfl #[.int .u64 a0_2, .int .u64 t345] rfl mp_ ?_; (with_reducible refine (spec_l3Product.calls a0_2 t345 t348 t349 _ A7.out).mono ?_); rintro e w' ⟨rfl, ⟨nd, rfl⟩⟩; refine ⟨_, rfl, ?_⟩; (try (rw [drewN_self w74]; generalize hq_ : World.drewN w74 _ = w74; have n0_ : Aside0 (w74.heap[gb342]? = some (.cells #[.bool a0_0, .int .u64 a0_1, .int .u64 a0_2] 28 (0, 0))) := ⟨by rw [← hq_]; exact bk_⟩; have n1_ : Aside0 (w74.heap[gb343]? = some (.cells #[.bool false, .int .u64 0, .int .u64 0] 28 (0, 0))) := ⟨by rw [← hq_]; exact bk_⟩; have n2_ : Aside0 (Below w.heap.size w w74) := ⟨by rw [← hq_]; exact bel_⟩; clear BK342 BK343 HB hq_; have BK342 := n0_; have BK343 := n1_; have HB := n2_; clear n0_ n1_ n2_)); (try (obtain ⟨hcz75_0, hcz75_1, hcz75_2, hfz75_0, hfz75_1, hfz75_2⟩ := cf3_ (w := w74) BK342.out))) | ((with_reducible refine gate_dst (N := 12) rfl ?_); refine box_event ?hg (N := 12) ?hd (cs := #[.bool false, .int .u64 0, .int .u64 0]) (t := 28) ?hr ?_; (case hd => rfl); (case hg => rfl); (case hr => first | (go_simp; done) | (go_simp; rfl)); intro gb350 hg w76 hbox hb; have n0_ := bb_ (g := gb342) hb; have n1_ := bb_ (g := gb343) hb; have n2_ := Aside0.mk (below_step bel_ hb); have n3_ := Aside0.mk (hbox); have n4_ := bs_ (w := w) hg; have n5_ := bs_ (w := w) hg; have n6_ := nlt_ (g := gb342) hg; have n7_ := ngt_ (g := gb342) hg; have n8_ := nlt_ (g := gb343) hg; have n9_ := ngt_ (g := gb343) hg; clear BK342; clear BK343; clear HB; have BK342 := n0_; have BK343 := n1_; have HB := n2_; have BK350 := n3_; have GW350 := n4_; have GE350 := n5_; have NB342_350 := n6_; have NB350_342 := n7_; have NB343_350 := n8_; have NB350_343 := n9_; clear n0_ n1_ n2_ n3_ n4_ n5_ n6_ n7_ n8_ n9_; clear hb hbox hg; have hnb77 := NB350_342.out; have hnc77 := NB342_350.out; have hnb78 := NB350_343.out; have hnc78 := NB343_350.out; obtain ⟨hcz79_0, hcz79_1, hcz79_2, hfz79_0, hfz79_1, hfz79_2⟩ := cf3_ (w := w76) BK350.out) | ((with_reducible refine gate_callee (f := 61) rfl ?_); refine goesL_ (some 45) rfl rfl Tryd.func61 (by kernel_rfl) rfl #[.agg #[.bool (a0_0 != (decide (a1 < 0))), .int .u64 (IntKind.u64.wrap (t347 + t348)), .int .u64 t349]] rfl mp_ ?_; (with_reducible refine (spec_l3Zero.calls (a0_0 != (decide (a1 < 0))) (IntKind.u64.wrap (t347 + t348)) t349 false _ A8.out).mono ?_); rintro e w80 ⟨rfl, hb⟩; refine ⟨_, rfl, ?_⟩; have n0_ := Aside0.mk (blk_below (g := gb342) (o := .cells #[.bool a0_0, .int .u64 a0_1, .int .u64 a0_2] 28 (0, 0)) bk_ hb); have n1_ := Aside0.mk (blk_below (g := gb343) (o := .cells #[.bool false, .int .u64 0, .int .u64 0] 28 (0, 0)) bk_ hb); have n2_ := Aside0.mk (blk_below (g := gb350) (o := .cells #[.bool (a0_0 != (decide (a1 < 0))), .int .u64 (IntKind.u64.wrap (t347 + t348)), .int .u64 t349] 28 (0, 0)) (pu_ #[.bool (a0_0 != (decide (a1 < 0))), .int .u64 (IntKind.u64.wrap (t347 + t348)), .int .u64 0] 2 (h := (pu_ #[.bool (a0_0 != (decide (a1 < 0))), .int .u64 0, .int .u64 0] 1 (h := (pu_ #[.bool false, .int .u64 0, .int .u64 0] 0 (h := bk_)))))) hb); have n3_ := Aside0.mk (below_step bel_ hb); clear BK342; clear BK343; clear BK350; clear HB; have BK342 := n0_; have BK343 := n1_; have BK350 := n2_; have HB := n3_; clear n0_ n1_ n2_ n3_; (try clear hb); (try clear hb2); (try clear hk); (try clear hi); obtain ⟨hcz81_0, hcz81_1, hcz81_2, hfz81_0, hfz81_1, hfz81_2⟩ := cf3_ (w := w80) BK343.out))
        refine bodyPost_ret (results_ct rfl _ _ gb343 28 #[.bool false, .int .u64 0, .int .u64 0] (0, 0) _ rfl (pu_ #[.bool false, .int .u64 0, .int .u64 0] 2 (h := (pu_ #[.bool false, .int .u64 0, .int .u64 0] 1 (h := (pu_ #[.bool false, .int .u64 0, .int .u64 0] 0 (h := bk_)))))) Tryd.underlying28 rfl (by kernel_rfl)) rfl ?_
        exact ⟨rf_, bel_⟩
      · rw [if_neg c69] at H
        have c69b0 : decide (0 < t346) = false := decide_eq_false c69
        clear c69
        by_cases c82 : (IntKind.u64.wrap (t347 + t348)) < t347
        · rw [if_pos c82] at H
          have c82b0 : decide ((IntKind.u64.wrap (t347 + t348)) < t347) = true := decide_eq_true c82
          clear c82
          simp only [Option.some.injEq, Prod.mk.injEq] at H
          obtain ⟨rfl, rfl, rfl, rfl⟩ := H
          go_enter Tryd.func58, Tryd.ntmps58
          go_wp2_with (first | ((with_reducible refine gate_dst (N := 2) rfl ?_); refine box_event ?hg (N := 2) ?hd (cs := #[.bool a0_0, .int .u64 a0_1, .int .u64 a0_2]) (t := 28) ?hr ?_; (case hd => rfl); (case hg => rfl); (case hr => first | (go_simp; done) | (go_simp; rfl)); intro gb342 hg w83 hbox hb; have n0_ := Aside0.mk (below_step bel_ hb); have n1_ := Aside0.mk (hbox); have n2_ := bs_ (w := w) hg; have n3_ := bs_ (w := w) hg; clear HB; have HB := n0_; have BK342 := n1_; have GW342 := n2_; have GE342 := n3_; clear n0_ n1_ n2_ n3_; clear hb hbox hg) | ((with_reducible refine gate_dst (N := 4) rfl ?_); refine box_event ?hg (N := 4) ?hd (cs := #[.bool false, .int .u64 0, .int .u64 0]) (t := 28) ?hr ?_; (case hd => rfl); (case hg => rfl); (case hr => first | (go_simp; done) | (go_simp; rfl)); intro gb343 hg w84 hbox hb; have n0_ := bb_ (g := gb342) hb; have n1_ := Aside0.mk (below_step bel_ hb); have n2_ := Aside0.mk (hbox); have n3_ := bs_ (w := w) hg; have n4_ := bs_ (w := w) hg; have n5_ := nlt_ (g := gb342) hg; have n6_ := ngt_ (g := gb342) hg; clear BK342; clear HB; have BK342 := n0_; have HB := n1_; have BK343 := n2_; have GW343 := n3_; have GE343 := n4_; have NB342_343 := n5_; have NB343_342 := n6_; clear n0_ n1_ n2_ n3_ n4_ n5_ n6_; clear hb hbox hg; have hnb85 := NB342_343.out; have hnc85 := NB343_342.out; obtain ⟨hcz86_0, hcz86_1, hcz86_2, hfz86_0, hfz86_1, hfz86_2⟩ := cf3_ (w := w84) BK342.out) | ((with_reducible refine gate_callee (f := 24) rfl ?_); refine goesL_ (some 14) rfl rfl Tryd.func24 (by kernel_rfl) rfl #[.agg #[.bool a0_0, .int .u64 a0_1, .int .u64 a0_2]] rfl mp_ ?_; (with_reducible refine (spec_WideOk.calls a0_0 a0_1 a0_2 true _ A3.out).mono ?_); rintro e w87 ⟨rfl, hb⟩; refine ⟨_, rfl, ?_⟩; have n0_ := bb_ (g := gb342) hb; have n1_ := bb_ (g := gb343) hb; have n2_ := Aside0.mk (below_step bel_ hb); clear BK342; clear BK343; clear HB; have BK342 := n0_; have BK343 := n1_; have HB := n2_; clear n0_ n1_ n2_; (try clear hb); (try clear hb2); (try clear hk); (try clear hi)) | ((with_reducible refine gate_callee (f := 99) rfl ?_); refine goesL_ (some 18) rfl rfl Tryd.func99 (by kernel_rfl) rfl #[.int .i64 a1] rfl mp_ ?_; (with_reducible refine (spec_l3Abs.calls a1 t345 _ A5.out).mono ?_); rintro e w' ⟨rfl, ⟨nd, rfl⟩⟩; refine ⟨_, rfl, ?_⟩; (try (rw [drewN_self w87]; generalize hq_ : World.drewN w87 _ = w87; have n0_ : Aside0 (w87.heap[gb342]? = some (.cells #[.bool a0_0, .int .u64 a0_1, .int .u64 a0_2] 28 (0, 0))) := ⟨by rw [← hq_]; exact bk_⟩; have n1_ : Aside0 (w87.heap[gb343]? = some (.cells #[.bool false, .int .u64 0, .int .u64 0] 28 (0, 0))) := ⟨by rw [← hq_]; exact bk_⟩; have n2_ : Aside0 (Below w.heap.size w w87) := ⟨by rw [← hq_]; exact bel_⟩; clear BK342 BK343 HB hq_; have BK342 := n0_; have BK343 := n1_; have HB := n2_; clear n0_ n1_ n2_)); obtain ⟨hcz88_0, hcz88_1, hcz88_2, hfz88_0, hfz88_1, hfz88_2⟩ := cf3_ (w := w87) BK342.out) | ((with_reducible refine gate_callee (f := 100) rfl ?_); refine goesL_ (some 23) rfl rfl Tryd.func100 (by kernel_rfl) rfl #[.int .u64 a0_1, .int .u64 t345] rfl mp_ ?_; (with_reducible refine (spec_l3Product.calls a0_1 t345 t346 t347 _ A6.out).mono ?_); rintro e w' ⟨rfl, ⟨nd, rfl⟩⟩; refine ⟨_, rfl, ?_⟩; (try (rw [drewN_self w87]; generalize hq_ : World.drewN w87 _ = w87; have n0_ : Aside0 (w87.heap[gb342]? = some (.cells #[.bool a0_0, .int .u64 a0_1, .int .u64 a0_2] 28 (0, 0))) := ⟨by rw [← hq_]; exact bk_⟩; have n1_ : Aside0 (w87.heap[gb343]? = some (.cells #[.bool false, .int .u64 0, .int .u64 0] 28 (0, 0))) := ⟨by rw [← hq_]; exact bk_⟩; have n2_ : Aside0 (Below w.heap.size w w87) := ⟨by rw [← hq_]; exact bel_⟩; clear BK342 BK343 HB hq_; have BK342 := n0_; have BK343 := n1_; have HB := n2_; clear n0_ n1_ n2_)); (try (obtain ⟨hcz88_0, hcz88_1, hcz88_2, hfz88_0, hfz88_1, hfz88_2⟩ := cf3_ (w := w87) BK342.out))) | ((with_reducible refine gate_callee (f := 100) rfl ?_); refine goesL_ (some 30) rfl rfl Tryd.func100 (by kernel_rfl) rfl #[.int .u64 a0_2, .int .u64 t345] rfl mp_ ?_; (with_reducible refine (spec_l3Product.calls a0_2 t345 t348 t349 _ A7.out).mono ?_); rintro e w' ⟨rfl, ⟨nd, rfl⟩⟩; refine ⟨_, rfl, ?_⟩; (try (rw [drewN_self w87]; generalize hq_ : World.drewN w87 _ = w87; have n0_ : Aside0 (w87.heap[gb342]? = some (.cells #[.bool a0_0, .int .u64 a0_1, .int .u64 a0_2] 28 (0, 0))) := ⟨by rw [← hq_]; exact bk_⟩; have n1_ : Aside0 (w87.heap[gb343]? = some (.cells #[.bool false, .int .u64 0, .int .u64 0] 28 (0, 0))) := ⟨by rw [← hq_]; exact bk_⟩; have n2_ : Aside0 (Below w.heap.size w w87) := ⟨by rw [← hq_]; exact bel_⟩; clear BK342 BK343 HB hq_; have BK342 := n0_; have BK343 := n1_; have HB := n2_; clear n0_ n1_ n2_)); (try (obtain ⟨hcz88_0, hcz88_1, hcz88_2, hfz88_0, hfz88_1, hfz88_2⟩ := cf3_ (w := w87) BK342.out))) | ((with_reducible refine gate_dst (N := 12) rfl ?_); refine box_event ?hg (N := 12) ?hd (cs := #[.bool false, .int .u64 0, .int .u64 0]) (t := 28) ?hr ?_; (case hd => rfl); (case hg => rfl); (case hr => first | (go_simp; done) | (go_simp; rfl)); intro gb350 hg w89 hbox hb; have n0_ := bb_ (g := gb342) hb; have n1_ := bb_ (g := gb343) hb; have n2_ := Aside0.mk (below_step bel_ hb); have n3_ := Aside0.mk (hbox); have n4_ := bs_ (w := w) hg; have n5_ := bs_ (w := w) hg; have n6_ := nlt_ (g := gb342) hg; have n7_ := ngt_ (g := gb342) hg; have n8_ := nlt_ (g := gb343) hg; have n9_ := ngt_ (g := gb343) hg; clear BK342; clear BK343; clear HB; have BK342 := n0_; have BK343 := n1_; have HB := n2_; have BK350 := n3_; have GW350 := n4_; have GE350 := n5_; have NB342_350 := n6_; have NB350_342 := n7_; have NB343_350 := n8_; have NB350_343 := n9_; clear n0_ n1_ n2_ n3_ n4_ n5_ n6_ n7_ n8_ n9_; clear hb hbox hg; have hnb90 := NB350_342.out; have hnc90 := NB342_350.out; have hnb91 := NB350_343.out; have hnc91 := NB343_350.out; obtain ⟨hcz92_0, hcz92_1, hcz92_2, hfz92_0, hfz92_1, hfz92_2⟩ := cf3_ (w := w89) BK350.out) | ((with_reducible refine gate_callee (f := 61) rfl ?_); refine goesL_ (some 45) rfl rfl Tryd.func61 (by kernel_rfl) rfl #[.agg #[.bool (a0_0 != (decide (a1 < 0))), .int .u64 (IntKind.u64.wrap (t347 + t348)), .int .u64 t349]] rfl mp_ ?_; (with_reducible refine (spec_l3Zero.calls (a0_0 != (decide (a1 < 0))) (IntKind.u64.wrap (t347 + t348)) t349 false _ A8.out).mono ?_); rintro e w93 ⟨rfl, hb⟩; refine ⟨_, rfl, ?_⟩; have n0_ := Aside0.mk (blk_below (g := gb342) (o := .cells #[.bool a0_0, .int .u64 a0_1, .int .u64 a0_2] 28 (0, 0)) bk_ hb); have n1_ := Aside0.mk (blk_below (g := gb343) (o := .cells #[.bool false, .int .u64 0, .int .u64 0] 28 (0, 0)) bk_ hb); have n2_ := Aside0.mk (blk_below (g := gb350) (o := .cells #[.bool (a0_0 != (decide (a1 < 0))), .int .u64 (IntKind.u64.wrap (t347 + t348)), .int .u64 t349] 28 (0, 0)) (pu_ #[.bool (a0_0 != (decide (a1 < 0))), .int .u64 (IntKind.u64.wrap (t347 + t348)), .int .u64 0] 2 (h := (pu_ #[.bool (a0_0 != (decide (a1 < 0))), .int .u64 0, .int .u64 0] 1 (h := (pu_ #[.bool false, .int .u64 0, .int .u64 0] 0 (h := bk_)))))) hb); have n3_ := Aside0.mk (below_step bel_ hb); clear BK342; clear BK343; clear BK350; clear HB; have BK342 := n0_; have BK343 := n1_; have BK350 := n2_; have HB := n3_; clear n0_ n1_ n2_ n3_; (try clear hb); (try clear hb2); (try clear hk); (try clear hi); obtain ⟨hcz94_0, hcz94_1, hcz94_2, hfz94_0, hfz94_1, hfz94_2⟩ := cf3_ (w := w93) BK343.out))
          refine bodyPost_ret (results_ct rfl _ _ gb343 28 #[.bool false, .int .u64 0, .int .u64 0] (0, 0) _ rfl (pu_ #[.bool false, .int .u64 0, .int .u64 0] 2 (h := (pu_ #[.bool false, .int .u64 0, .int .u64 0] 1 (h := (pu_ #[.bool false, .int .u64 0, .int .u64 0] 0 (h := bk_)))))) Tryd.underlying28 rfl (by kernel_rfl)) rfl ?_
          exact ⟨rf_, bel_⟩
        · rw [if_neg c82] at H
          have c82b0 : decide ((IntKind.u64.wrap (t347 + t348)) < t347) = false := decide_eq_false c82
          clear c82
          replace H := Option.bind_eq_some_iff.mp H
          obtain ⟨t353, A950, H⟩ := H
          replace H : (if t353 = true then (some ((a0_0 != (decide (a1 < 0))), IntKind.u64.wrap (t347 + t348), t349, true)) else (some (false, 0, 0, false))) = some (r1, r2, r3, r4) := H
          have A95 := Aside0.mk A950
          clear A950
          by_cases c96 : t353 = true
          · subst c96
            have H1 : (some ((a0_0 != (decide (a1 < 0))), IntKind.u64.wrap (t347 + t348), t349, true)) = some (r1, r2, r3, r4) := by rw [if_pos rfl] at H; exact H
            clear H
            have H := H1
            clear H1
            simp only [Option.some.injEq, Prod.mk.injEq] at H
            obtain ⟨rfl, rfl, rfl, rfl⟩ := H
            go_enter Tryd.func58, Tryd.ntmps58
            go_wp2_with (first | ((with_reducible refine gate_dst (N := 2) rfl ?_); refine box_event ?hg (N := 2) ?hd (cs := #[.bool a0_0, .int .u64 a0_1, .int .u64 a0_2]) (t := 28) ?hr ?_; (case hd => rfl); (case hg => rfl); (case hr => first | (go_simp; done) | (go_simp; rfl)); intro gb342 hg w97 hbox hb; have n0_ := Aside0.mk (below_step bel_ hb); have n1_ := Aside0.mk (hbox); have n2_ := bs_ (w := w) hg; have n3_ := bs_ (w := w) hg; clear HB; have HB := n0_; have BK342 := n1_; have GW342 := n2_; have GE342 := n3_; clear n0_ n1_ n2_ n3_; clear hb hbox hg) | ((with_reducible refine gate_dst (N := 4) rfl ?_); refine box_event ?hg (N := 4) ?hd (cs := #[.bool false, .int .u64 0, .int .u64 0]) (t := 28) ?hr ?_; (case hd => rfl); (case hg => rfl); (case hr => first | (go_simp; done) | (go_simp; rfl)); intro gb343 hg w98 hbox hb; have n0_ := bb_ (g := gb342) hb; have n1_ := Aside0.mk (below_step bel_ hb); have n2_ := Aside0.mk (hbox); have n3_ := bs_ (w := w) hg; have n4_ := bs_ (w := w) hg; have n5_ := nlt_ (g := gb342) hg; have n6_ := ngt_ (g := gb342) hg; clear BK342; clear HB; have BK342 := n0_; have HB := n1_; have BK343 := n2_; have GW343 := n3_; have GE343 := n4_; have NB342_343 := n5_; have NB343_342 := n6_; clear n0_ n1_ n2_ n3_ n4_ n5_ n6_; clear hb hbox hg; have hnb99 := NB342_343.out; have hnc99 := NB343_342.out; obtain ⟨hcz100_0, hcz100_1, hcz100_2, hfz100_0, hfz100_1, hfz100_2⟩ := cf3_ (w := w98) BK342.out) | ((with_reducible refine gate_callee (f := 24) rfl ?_); refine goesL_ (some 14) rfl rfl Tryd.func24 (by kernel_rfl) rfl #[.agg #[.bool a0_0, .int .u64 a0_1, .int .u64 a0_2]] rfl mp_ ?_; (with_reducible refine (spec_WideOk.calls a0_0 a0_1 a0_2 true _ A3.out).mono ?_); rintro e w101 ⟨rfl, hb⟩; refine ⟨_, rfl, ?_⟩; have n0_ := bb_ (g := gb342) hb; have n1_ := bb_ (g := gb343) hb; have n2_ := Aside0.mk (below_step bel_ hb); clear BK342; clear BK343; clear HB; have BK342 := n0_; have BK343 := n1_; have HB := n2_; clear n0_ n1_ n2_; (try clear hb); (try clear hb2); (try clear hk); (try clear hi)) | ((with_reducible refine gate_callee (f := 99) rfl ?_); refine goesL_ (some 18) rfl rfl Tryd.func99 (by kernel_rfl) rfl #[.int .i64 a1] rfl mp_ ?_; (with_reducible refine (spec_l3Abs.calls a1 t345 _ A5.out).mono ?_); rintro e w' ⟨rfl, ⟨nd, rfl⟩⟩; refine ⟨_, rfl, ?_⟩; (try (rw [drewN_self w101]; generalize hq_ : World.drewN w101 _ = w101; have n0_ : Aside0 (w101.heap[gb342]? = some (.cells #[.bool a0_0, .int .u64 a0_1, .int .u64 a0_2] 28 (0, 0))) := ⟨by rw [← hq_]; exact bk_⟩; have n1_ : Aside0 (w101.heap[gb343]? = some (.cells #[.bool false, .int .u64 0, .int .u64 0] 28 (0, 0))) := ⟨by rw [← hq_]; exact bk_⟩; have n2_ : Aside0 (Below w.heap.size w w101) := ⟨by rw [← hq_]; exact bel_⟩; clear BK342 BK343 HB hq_; have BK342 := n0_; have BK343 := n1_; have HB := n2_; clear n0_ n1_ n2_)); obtain ⟨hcz102_0, hcz102_1, hcz102_2, hfz102_0, hfz102_1, hfz102_2⟩ := cf3_ (w := w101) BK342.out) | ((with_reducible refine gate_callee (f := 100) rfl ?_); refine goesL_ (some 23) rfl rfl Tryd.func100 (by kernel_rfl) rfl #[.int .u64 a0_1, .int .u64 t345] rfl mp_ ?_; (with_reducible refine (spec_l3Product.calls a0_1 t345 t346 t347 _ A6.out).mono ?_); rintro e w' ⟨rfl, ⟨nd, rfl⟩⟩; refine ⟨_, rfl, ?_⟩; (try (rw [drewN_self w101]; generalize hq_ : World.drewN w101 _ = w101; have n0_ : Aside0 (w101.heap[gb342]? = some (.cells #[.bool a0_0, .int .u64 a0_1, .int .u64 a0_2] 28 (0, 0))) := ⟨by rw [← hq_]; exact bk_⟩; have n1_ : Aside0 (w101.heap[gb343]? = some (.cells #[.bool false, .int .u64 0, .int .u64 0] 28 (0, 0))) := ⟨by rw [← hq_]; exact bk_⟩; have n2_ : Aside0 (Below w.heap.size w w101) := ⟨by rw [← hq_]; exact bel_⟩; clear BK342 BK343 HB hq_; have BK342 := n0_; have BK343 := n1_; have HB := n2_; clear n0_ n1_ n2_)); (try (obtain ⟨hcz102_0, hcz102_1, hcz102_2, hfz102_0, hfz102_1, hfz102_2⟩ := cf3_ (w := w101) BK342.out))) | ((with_reducible refine gate_callee (f := 100) rfl ?_); refine goesL_ (some 30) rfl rfl Tryd.func100 (by kernel_rfl) rfl #[.int .u64 a0_2, .int .u64 t345] rfl mp_ ?_; (with_reducible refine (spec_l3Product.calls a0_2 t345 t348 t349 _ A7.out).mono ?_); rintro e w' ⟨rfl, ⟨nd, rfl⟩⟩; refine ⟨_, rfl, ?_⟩; (try (rw [drewN_self w101]; generalize hq_ : World.drewN w101 _ = w101; have n0_ : Aside0 (w101.heap[gb342]? = some (.cells #[.bool a0_0, .int .u64 a0_1, .int .u64 a0_2] 28 (0, 0))) := ⟨by rw [← hq_]; exact bk_⟩; have n1_ : Aside0 (w101.heap[gb343]? = some (.cells #[.bool false, .int .u64 0, .int .u64 0] 28 (0, 0))) := ⟨by rw [← hq_]; exact bk_⟩; have n2_ : Aside0 (Below w.heap.size w w101) := ⟨by rw [← hq_]; exact bel_⟩; clear BK342 BK343 HB hq_; have BK342 := n0_; have BK343 := n1_; have HB := n2_; clear n0_ n1_ n2_)); (try (obtain ⟨hcz102_0, hcz102_1, hcz102_2, hfz102_0, hfz102_1, hfz102_2⟩ := cf3_ (w := w101) BK342.out))) | ((with_reducible refine gate_dst (N := 12) rfl ?_); refine box_event ?hg (N := 12) ?hd (cs := #[.bool false, .int .u64 0, .int .u64 0]) (t := 28) ?hr ?_; (case hd => rfl); (case hg => rfl); (case hr => first | (go_simp; done) | (go_simp; rfl)); intro gb350 hg w103 hbox hb; have n0_ := bb_ (g := gb342) hb; have n1_ := bb_ (g := gb343) hb; have n2_ := Aside0.mk (below_step bel_ hb); have n3_ := Aside0.mk (hbox); have n4_ := bs_ (w := w) hg; have n5_ := bs_ (w := w) hg; have n6_ := nlt_ (g := gb342) hg; have n7_ := ngt_ (g := gb342) hg; have n8_ := nlt_ (g := gb343) hg; have n9_ := ngt_ (g := gb343) hg; clear BK342; clear BK343; clear HB; have BK342 := n0_; have BK343 := n1_; have HB := n2_; have BK350 := n3_; have GW350 := n4_; have GE350 := n5_; have NB342_350 := n6_; have NB350_342 := n7_; have NB343_350 := n8_; have NB350_343 := n9_; clear n0_ n1_ n2_ n3_ n4_ n5_ n6_ n7_ n8_ n9_; clear hb hbox hg; have hnb104 := NB350_342.out; have hnc104 := NB342_350.out; have hnb105 := NB350_343.out; have hnc105 := NB343_350.out; obtain ⟨hcz106_0, hcz106_1, hcz106_2, hfz106_0, hfz106_1, hfz106_2⟩ := cf3_ (w := w103) BK350.out) | ((with_reducible refine gate_callee (f := 61) rfl ?_); refine goesL_ (some 45) rfl rfl Tryd.func61 (by kernel_rfl) rfl #[.agg #[.bool (a0_0 != (decide (a1 < 0))), .int .u64 (IntKind.u64.wrap (t347 + t348)), .int .u64 t349]] rfl mp_ ?_; (with_reducible refine (spec_l3Zero.calls (a0_0 != (decide (a1 < 0))) (IntKind.u64.wrap (t347 + t348)) t349 false _ A8.out).mono ?_); rintro e w107 ⟨rfl, hb⟩; refine ⟨_, rfl, ?_⟩; have n0_ := Aside0.mk (blk_below (g := gb342) (o := .cells #[.bool a0_0, .int .u64 a0_1, .int .u64 a0_2] 28 (0, 0)) bk_ hb); have n1_ := Aside0.mk (blk_below (g := gb343) (o := .cells #[.bool false, .int .u64 0, .int .u64 0] 28 (0, 0)) bk_ hb); have n2_ := Aside0.mk (blk_below (g := gb350) (o := .cells #[.bool (a0_0 != (decide (a1 < 0))), .int .u64 (IntKind.u64.wrap (t347 + t348)), .int .u64 t349] 28 (0, 0)) (pu_ #[.bool (a0_0 != (decide (a1 < 0))), .int .u64 (IntKind.u64.wrap (t347 + t348)), .int .u64 0] 2 (h := (pu_ #[.bool (a0_0 != (decide (a1 < 0))), .int .u64 0, .int .u64 0] 1 (h := (pu_ #[.bool false, .int .u64 0, .int .u64 0] 0 (h := bk_)))))) hb); have n3_ := Aside0.mk (below_step bel_ hb); clear BK342; clear BK343; clear BK350; clear HB; have BK342 := n0_; have BK343 := n1_; have BK350 := n2_; have HB := n3_; clear n0_ n1_ n2_ n3_; (try clear hb); (try clear hb2); (try clear hk); (try clear hi); obtain ⟨hcz108_0, hcz108_1, hcz108_2, hfz108_0, hfz108_1, hfz108_2⟩ := cf3_ (w := w107) BK350.out) | (go_at_call 24; (with_reducible refine (spec_WideOk.calls (a0_0 != (decide (a1 < 0))) (IntKind.u64.wrap (t347 + t348)) t349 true _ A95.out).mono ?_); rintro e w109 ⟨rfl, hb⟩; have n0_ := bb_ (g := gb342) hb; have n1_ := bb_ (g := gb343) hb; have n2_ := bb_ (g := gb350) hb; have n3_ := Aside0.mk (below_step bel_ hb); clear BK342; clear BK343; clear BK350; clear HB; have BK342 := n0_; have BK343 := n1_; have BK350 := n2_; have HB := n3_; clear n0_ n1_ n2_ n3_; (try clear hb); (try clear hb2); (try clear hk); (try clear hi); obtain ⟨hcz110_0, hcz110_1, hcz110_2, hfz110_0, hfz110_1, hfz110_2⟩ := cf3_ (w := w109) BK350.out; obtain ⟨hcz111_0, hcz111_1, hcz111_2, hfz111_0, hfz111_1, hfz111_2⟩ := cf3_ (w := w109) BK343.out))
            refine bodyPost_ret (results_ct rfl _ _ gb343 28 #[.bool (a0_0 != (decide (a1 < 0))), .int .u64 (IntKind.u64.wrap (t347 + t348)), .int .u64 t349] (0, 0) _ rfl (pu_ #[.bool (a0_0 != (decide (a1 < 0))), .int .u64 (IntKind.u64.wrap (t347 + t348)), .int .u64 0] 2 (h := (pu_ #[.bool (a0_0 != (decide (a1 < 0))), .int .u64 0, .int .u64 0] 1 (h := (pu_ #[.bool false, .int .u64 0, .int .u64 0] 0 (h := bk_)))))) Tryd.underlying28 rfl (by kernel_rfl)) rfl ?_
            exact ⟨rf_, bel_⟩
          · replace c96 := Bool.eq_false_iff.mpr c96
            subst c96
            have H1 : (some (false, 0, 0, false)) = some (r1, r2, r3, r4) := by rw [if_neg (show ¬ (false = true) by decide)] at H; exact H
            clear H
            have H := H1
            clear H1
            simp only [Option.some.injEq, Prod.mk.injEq] at H
            obtain ⟨rfl, rfl, rfl, rfl⟩ := H
            go_enter Tryd.func58, Tryd.ntmps58
            go_wp2_with (first | ((with_reducible refine gate_dst (N := 2) rfl ?_); refine box_event ?hg (N := 2) ?hd (cs := #[.bool a0_0, .int .u64 a0_1, .int .u64 a0_2]) (t := 28) ?hr ?_; (case hd => rfl); (case hg => rfl); (case hr => first | (go_simp; done) | (go_simp; rfl)); intro gb342 hg w112 hbox hb; have n0_ := Aside0.mk (below_step bel_ hb); have n1_ := Aside0.mk (hbox); have n2_ := bs_ (w := w) hg; have n3_ := bs_ (w := w) hg; clear HB; have HB := n0_; have BK342 := n1_; have GW342 := n2_; have GE342 := n3_; clear n0_ n1_ n2_ n3_; clear hb hbox hg) | ((with_reducible refine gate_dst (N := 4) rfl ?_); refine box_event ?hg (N := 4) ?hd (cs := #[.bool false, .int .u64 0, .int .u64 0]) (t := 28) ?hr ?_; (case hd => rfl); (case hg => rfl); (case hr => first | (go_simp; done) | (go_simp; rfl)); intro gb343 hg w113 hbox hb; have n0_ := bb_ (g := gb342) hb; have n1_ := Aside0.mk (below_step bel_ hb); have n2_ := Aside0.mk (hbox); have n3_ := bs_ (w := w) hg; have n4_ := bs_ (w := w) hg; have n5_ := nlt_ (g := gb342) hg; have n6_ := ngt_ (g := gb342) hg; clear BK342; clear HB; have BK342 := n0_; have HB := n1_; have BK343 := n2_; have GW343 := n3_; have GE343 := n4_; have NB342_343 := n5_; have NB343_342 := n6_; clear n0_ n1_ n2_ n3_ n4_ n5_ n6_; clear hb hbox hg; have hnb114 := NB342_343.out; have hnc114 := NB343_342.out; obtain ⟨hcz115_0, hcz115_1, hcz115_2, hfz115_0, hfz115_1, hfz115_2⟩ := cf3_ (w := w113) BK342.out) | ((with_reducible refine gate_callee (f := 24) rfl ?_); refine goesL_ (some 14) rfl rfl Tryd.func24 (by kernel_rfl) rfl #[.agg #[.bool a0_0, .int .u64 a0_1, .int .u64 a0_2]] rfl mp_ ?_; (with_reducible refine (spec_WideOk.calls a0_0 a0_1 a0_2 true _ A3.out).mono ?_); rintro e w116 ⟨rfl, hb⟩; refine ⟨_, rfl, ?_⟩; have n0_ := bb_ (g := gb342) hb; have n1_ := bb_ (g := gb343) hb; have n2_ := Aside0.mk (below_step bel_ hb); clear BK342; clear BK343; clear HB; have BK342 := n0_; have BK343 := n1_; have HB := n2_; clear n0_ n1_ n2_; (try clear hb); (try clear hb2); (try clear hk); (try clear hi)) | ((with_reducible refine gate_callee (f := 99) rfl ?_); refine goesL_ (some 18) rfl rfl Tryd.func99 (by kernel_rfl) rfl #[.int .i64 a1] rfl mp_ ?_; (with_reducible refine (spec_l3Abs.calls a1 t345 _ A5.out).mono ?_); rintro e w' ⟨rfl, ⟨nd, rfl⟩⟩; refine ⟨_, rfl, ?_⟩; (try (rw [drewN_self w116]; generalize hq_ : World.drewN w116 _ = w116; have n0_ : Aside0 (w116.heap[gb342]? = some (.cells #[.bool a0_0, .int .u64 a0_1, .int .u64 a0_2] 28 (0, 0))) := ⟨by rw [← hq_]; exact bk_⟩; have n1_ : Aside0 (w116.heap[gb343]? = some (.cells #[.bool false, .int .u64 0, .int .u64 0] 28 (0, 0))) := ⟨by rw [← hq_]; exact bk_⟩; have n2_ : Aside0 (Below w.heap.size w w116) := ⟨by rw [← hq_]; exact bel_⟩; clear BK342 BK343 HB hq_; have BK342 := n0_; have BK343 := n1_; have HB := n2_; clear n0_ n1_ n2_)); obtain ⟨hcz117_0, hcz117_1, hcz117_2, hfz117_0, hfz117_1, hfz117_2⟩ := cf3_ (w := w116) BK342.out) | ((with_reducible refine gate_callee (f := 100) rfl ?_); refine goesL_ (some 23) rfl rfl Tryd.func100 (by kernel_rfl) rfl #[.int .u64 a0_1, .int .u64 t345] rfl mp_ ?_; (with_reducible refine (spec_l3Product.calls a0_1 t345 t346 t347 _ A6.out).mono ?_); rintro e w' ⟨rfl, ⟨nd, rfl⟩⟩; refine ⟨_, rfl, ?_⟩; (try (rw [drewN_self w116]; generalize hq_ : World.drewN w116 _ = w116; have n0_ : Aside0 (w116.heap[gb342]? = some (.cells #[.bool a0_0, .int .u64 a0_1, .int .u64 a0_2] 28 (0, 0))) := ⟨by rw [← hq_]; exact bk_⟩; have n1_ : Aside0 (w116.heap[gb343]? = some (.cells #[.bool false, .int .u64 0, .int .u64 0] 28 (0, 0))) := ⟨by rw [← hq_]; exact bk_⟩; have n2_ : Aside0 (Below w.heap.size w w116) := ⟨by rw [← hq_]; exact bel_⟩; clear BK342 BK343 HB hq_; have BK342 := n0_; have BK343 := n1_; have HB := n2_; clear n0_ n1_ n2_)); (try (obtain ⟨hcz117_0, hcz117_1, hcz117_2, hfz117_0, hfz117_1, hfz117_2⟩ := cf3_ (w := w116) BK342.out))) | ((with_reducible refine gate_callee (f := 100) rfl ?_); refine goesL_ (some 30) rfl rfl Tryd.func100 (by kernel_rfl) rfl #[.int .u64 a0_2, .int .u64 t345] rfl mp_ ?_; (with_reducible refine (spec_l3Product.calls a0_2 t345 t348 t349 _ A7.out).mono ?_); rintro e w' ⟨rfl, ⟨nd, rfl⟩⟩; refine ⟨_, rfl, ?_⟩; (try (rw [drewN_self w116]; generalize hq_ : World.drewN w116 _ = w116; have n0_ : Aside0 (w116.heap[gb342]? = some (.cells #[.bool a0_0, .int .u64 a0_1, .int .u64 a0_2] 28 (0, 0))) := ⟨by rw [← hq_]; exact bk_⟩; have n1_ : Aside0 (w116.heap[gb343]? = some (.cells #[.bool false, .int .u64 0, .int .u64 0] 28 (0, 0))) := ⟨by rw [← hq_]; exact bk_⟩; have n2_ : Aside0 (Below w.heap.size w w116) := ⟨by rw [← hq_]; exact bel_⟩; clear BK342 BK343 HB hq_; have BK342 := n0_; have BK343 := n1_; have HB := n2_; clear n0_ n1_ n2_)); (try (obtain ⟨hcz117_0, hcz117_1, hcz117_2, hfz117_0, hfz117_1, hfz117_2⟩ := cf3_ (w := w116) BK342.out))) | ((with_reducible refine gate_dst (N := 12) rfl ?_); refine box_event ?hg (N := 12) ?hd (cs := #[.bool false, .int .u64 0, .int .u64 0]) (t := 28) ?hr ?_; (case hd => rfl); (case hg => rfl); (case hr => first | (go_simp; done) | (go_simp; rfl)); intro gb350 hg w118 hbox hb; have n0_ := bb_ (g := gb342) hb; have n1_ := bb_ (g := gb343) hb; have n2_ := Aside0.mk (below_step bel_ hb); have n3_ := Aside0.mk (hbox); have n4_ := bs_ (w := w) hg; have n5_ := bs_ (w := w) hg; have n6_ := nlt_ (g := gb342) hg; have n7_ := ngt_ (g := gb342) hg; have n8_ := nlt_ (g := gb343) hg; have n9_ := ngt_ (g := gb343) hg; clear BK342; clear BK343; clear HB; have BK342 := n0_; have BK343 := n1_; have HB := n2_; have BK350 := n3_; have GW350 := n4_; have GE350 := n5_; have NB342_350 := n6_; have NB350_342 := n7_; have NB343_350 := n8_; have NB350_343 := n9_; clear n0_ n1_ n2_ n3_ n4_ n5_ n6_ n7_ n8_ n9_; clear hb hbox hg; have hnb119 := NB350_342.out; have hnc119 := NB342_350.out; have hnb120 := NB350_343.out; have hnc120 := NB343_350.out; obtain ⟨hcz121_0, hcz121_1, hcz121_2, hfz121_0, hfz121_1, hfz121_2⟩ := cf3_ (w := w118) BK350.out) | ((with_reducible refine gate_callee (f := 61) rfl ?_); refine goesL_ (some 45) rfl rfl Tryd.func61 (by kernel_rfl) rfl #[.agg #[.bool (a0_0 != (decide (a1 < 0))), .int .u64 (IntKind.u64.wrap (t347 + t348)), .int .u64 t349]] rfl mp_ ?_; (with_reducible refine (spec_l3Zero.calls (a0_0 != (decide (a1 < 0))) (IntKind.u64.wrap (t347 + t348)) t349 false _ A8.out).mono ?_); rintro e w122 ⟨rfl, hb⟩; refine ⟨_, rfl, ?_⟩; have n0_ := Aside0.mk (blk_below (g := gb342) (o := .cells #[.bool a0_0, .int .u64 a0_1, .int .u64 a0_2] 28 (0, 0)) bk_ hb); have n1_ := Aside0.mk (blk_below (g := gb343) (o := .cells #[.bool false, .int .u64 0, .int .u64 0] 28 (0, 0)) bk_ hb); have n2_ := Aside0.mk (blk_below (g := gb350) (o := .cells #[.bool (a0_0 != (decide (a1 < 0))), .int .u64 (IntKind.u64.wrap (t347 + t348)), .int .u64 t349] 28 (0, 0)) (pu_ #[.bool (a0_0 != (decide (a1 < 0))), .int .u64 (IntKind.u64.wrap (t347 + t348)), .int .u64 0] 2 (h := (pu_ #[.bool (a0_0 != (decide (a1 < 0))), .int .u64 0, .int .u64 0] 1 (h := (pu_ #[.bool false, .int .u64 0, .int .u64 0] 0 (h := bk_)))))) hb); have n3_ := Aside0.mk (below_step bel_ hb); clear BK342; clear BK343; clear BK350; clear HB; have BK342 := n0_; have BK343 := n1_; have BK350 := n2_; have HB := n3_; clear n0_ n1_ n2_ n3_; (try clear hb); (try clear hb2); (try clear hk); (try clear hi); obtain ⟨hcz123_0, hcz123_1, hcz123_2, hfz123_0, hfz123_1, hfz123_2⟩ := cf3_ (w := w122) BK350.out) | (go_at_call 24; (with_reducible refine (spec_WideOk.calls (a0_0 != (decide (a1 < 0))) (IntKind.u64.wrap (t347 + t348)) t349 false _ A95.out).mono ?_); rintro e w124 ⟨rfl, hb⟩; have n0_ := bb_ (g := gb342) hb; have n1_ := bb_ (g := gb343) hb; have n2_ := bb_ (g := gb350) hb; have n3_ := Aside0.mk (below_step bel_ hb); clear BK342; clear BK343; clear BK350; clear HB; have BK342 := n0_; have BK343 := n1_; have BK350 := n2_; have HB := n3_; clear n0_ n1_ n2_ n3_; (try clear hb); (try clear hb2); (try clear hk); (try clear hi); obtain ⟨hcz125_0, hcz125_1, hcz125_2, hfz125_0, hfz125_1, hfz125_2⟩ := cf3_ (w := w124) BK343.out))
            refine bodyPost_ret (results_ct rfl _ _ gb343 28 #[.bool false, .int .u64 0, .int .u64 0] (0, 0) _ rfl (pu_ #[.bool false, .int .u64 0, .int .u64 0] 2 (h := (pu_ #[.bool false, .int .u64 0, .int .u64 0] 1 (h := (pu_ #[.bool false, .int .u64 0, .int .u64 0] 0 (h := bk_)))))) Tryd.underlying28 rfl (by kernel_rfl)) rfl ?_
            exact ⟨rf_, bel_⟩
  · replace c4 := Bool.eq_false_iff.mpr c4
    subst c4
    have H1 : (some (false, 0, 0, false)) = some (r1, r2, r3, r4) := by rw [if_neg (show ¬ (false = true) by decide)] at H; exact H
    clear H
    have H := H1
    clear H1
    simp only [Option.some.injEq, Prod.mk.injEq] at H
    obtain ⟨rfl, rfl, rfl, rfl⟩ := H
    go_enter Tryd.func58, Tryd.ntmps58
    go_wp2_with (first | ((with_reducible refine gate_dst (N := 2) rfl ?_); refine box_event ?hg (N := 2) ?hd (cs := #[.bool a0_0, .int .u64 a0_1, .int .u64 a0_2]) (t := 28) ?hr ?_; (case hd => rfl); (case hg => rfl); (case hr => first | (go_simp; done) | (go_simp; rfl)); intro gb342 hg w126 hbox hb; have n0_ := Aside0.mk (below_step bel_ hb); have n1_ := Aside0.mk (hbox); have n2_ := bs_ (w := w) hg; have n3_ := bs_ (w := w) hg; clear HB; have HB := n0_; have BK342 := n1_; have GW342 := n2_; have GE342 := n3_; clear n0_ n1_ n2_ n3_; clear hb hbox hg) | ((with_reducible refine gate_dst (N := 4) rfl ?_); refine box_event ?hg (N := 4) ?hd (cs := #[.bool false, .int .u64 0, .int .u64 0]) (t := 28) ?hr ?_; (case hd => rfl); (case hg => rfl); (case hr => first | (go_simp; done) | (go_simp; rfl)); intro gb343 hg w127 hbox hb; have n0_ := bb_ (g := gb342) hb; have n1_ := Aside0.mk (below_step bel_ hb); have n2_ := Aside0.mk (hbox); have n3_ := bs_ (w := w) hg; have n4_ := bs_ (w := w) hg; have n5_ := nlt_ (g := gb342) hg; have n6_ := ngt_ (g := gb342) hg; clear BK342; clear HB; have BK342 := n0_; have HB := n1_; have BK343 := n2_; have GW343 := n3_; have GE343 := n4_; have NB342_343 := n5_; have NB343_342 := n6_; clear n0_ n1_ n2_ n3_ n4_ n5_ n6_; clear hb hbox hg; have hnb128 := NB342_343.out; have hnc128 := NB343_342.out; obtain ⟨hcz129_0, hcz129_1, hcz129_2, hfz129_0, hfz129_1, hfz129_2⟩ := cf3_ (w := w127) BK342.out) | ((with_reducible refine gate_callee (f := 24) rfl ?_); refine goesL_ (some 14) rfl rfl Tryd.func24 (by kernel_rfl) rfl #[.agg #[.bool a0_0, .int .u64 a0_1, .int .u64 a0_2]] rfl mp_ ?_; (with_reducible refine (spec_WideOk.calls a0_0 a0_1 a0_2 false _ A3.out).mono ?_); rintro e w130 ⟨rfl, hb⟩; refine ⟨_, rfl, ?_⟩; have n0_ := bb_ (g := gb342) hb; have n1_ := bb_ (g := gb343) hb; have n2_ := Aside0.mk (below_step bel_ hb); clear BK342; clear BK343; clear HB; have BK342 := n0_; have BK343 := n1_; have HB := n2_; clear n0_ n1_ n2_; (try clear hb); (try clear hb2); (try clear hk); (try clear hi); obtain ⟨hcz131_0, hcz131_1, hcz131_2, hfz131_0, hfz131_1, hfz131_2⟩ := cf3_ (w := w130) BK343.out))
    refine bodyPost_ret (results_ct rfl _ _ gb343 28 #[.bool false, .int .u64 0, .int .u64 0] (0, 0) _ rfl (pu_ #[.bool false, .int .u64 0, .int .u64 0] 2 (h := (pu_ #[.bool false, .int .u64 0, .int .u64 0] 1 (h := (pu_ #[.bool false, .int .u64 0, .int .u64 0] 0 (h := bk_)))))) Tryd.underlying28 rfl (by kernel_rfl)) rfl ?_
    exact ⟨rf_, bel_⟩

end Go.Proofs.YtkpgpifkbdpnkaaDoor.PFnWideSmall
