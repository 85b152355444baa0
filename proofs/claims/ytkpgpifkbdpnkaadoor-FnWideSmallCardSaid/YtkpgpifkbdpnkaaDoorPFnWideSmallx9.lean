/- Contracts of Go functions, each with the Lean function that says what it computes: begun by the print, turned by this session. No condition beyond what each theorem states. -/
import Derived.Test.YtkpgpifkbdpnkaaDoorPFnWideSmallx0
import Derived.Test.YtkpgpifkbdpnkaaDoorPFnWideSmallx7
import Derived.Test.YtkpgpifkbdpnkaaDoorPFnWideSmallx8
namespace Go.Proofs.YtkpgpifkbdpnkaaDoor.PFnWideSmall
open Go.RowKit Go.Proofs.YtkpgpifkbdpnkaaDoorVFnWideSmall.PrintWords Go.Proofs.YtkpgpifkbdpnkaaDoorVFnWideSmall.PrintLast Go.Proofs.YtkpgpifkbdpnkaaDoorVFnWideSmall.PrintMore
attribute [local go_sem] max2_int min2_int max_two min_two max_three min_three max_four min_four   -- for this text's walks alone
set_option linter.unusedVariables false
set_option linter.unusedSimpArgs false

/-! ### spec_AddWide: function 59 -/
mutual
def spec_AddWide.j0 : Nat → Bool → Bool → Int → Int → Bool → Int → Int → Option (Bool × Int × Int × Bool)
  | 0, _, _, _, _, _, _, _ => none
  | k + 1, x17, x357000, x357001, x357002, x358000, x358001, x358002 => if x17 = true then (some (false, 0, 0, false)) else (if (x357000 == x358000) = true then (if (IntKind.u64.wrap (x357002 + x358002)) < x357002 then ((spec_WideOk.f x357000 (IntKind.u64.wrap ((IntKind.u64.wrap (x357001 + x358001)) + 1)) (IntKind.u64.wrap (x357002 + x358002))).bind fun t362 => (if t362 = true then (some (x357000, IntKind.u64.wrap ((IntKind.u64.wrap (x357001 + x358001)) + 1), IntKind.u64.wrap (x357002 + x358002), true)) else (some (false, 0, 0, false)))) else ((spec_WideOk.f x357000 (IntKind.u64.wrap (x357001 + x358001)) (IntKind.u64.wrap (x357002 + x358002))).bind fun t363 => (if t363 = true then (some (x357000, IntKind.u64.wrap (x357001 + x358001), IntKind.u64.wrap (x357002 + x358002), true)) else (some (false, 0, 0, false))))) else ((spec_l3Order.f k x357000 x357001 x357002 x358000 x358001 x358002).bind fun t366 => (if t366 < 0 then (spec_AddWide.j1 k x358000 x358001 x358002 x357000 x357001 x357002) else (spec_AddWide.j1 k x357000 x357001 x357002 x358000 x358001 x358002))))
def spec_AddWide.j1 : Nat → Bool → Int → Int → Bool → Int → Int → Option (Bool × Int × Int × Bool)
  | 0, _, _, _, _, _, _ => none
  | k + 1, x365000, x365001, x365002, x366000, x366001, x366002 => if x365002 < x366002 then ((spec_l3Zero.f x365000 (IntKind.u64.wrap ((IntKind.u64.wrap (x365001 - x366001)) - 1)) (IntKind.u64.wrap (x365002 - x366002))).bind fun t368 => (if t368 = true then (some (false, IntKind.u64.wrap ((IntKind.u64.wrap (x365001 - x366001)) - 1), IntKind.u64.wrap (x365002 - x366002), true)) else (some (x365000, IntKind.u64.wrap ((IntKind.u64.wrap (x365001 - x366001)) - 1), IntKind.u64.wrap (x365002 - x366002), true)))) else ((spec_l3Zero.f x365000 (IntKind.u64.wrap (x365001 - x366001)) (IntKind.u64.wrap (x365002 - x366002))).bind fun t369 => (if t369 = true then (some (false, IntKind.u64.wrap (x365001 - x366001), IntKind.u64.wrap (x365002 - x366002), true)) else (some (x365000, IntKind.u64.wrap (x365001 - x366001), IntKind.u64.wrap (x365002 - x366002), true))))
end
def spec_AddWide.f (k : Nat) (a0_0 : Bool) (a0_1 : Int) (a0_2 : Int) (a1_0 : Bool) (a1_1 : Int) (a1_2 : Int) : Option (Bool × Int × Int × Bool) := (spec_WideOk.f a0_0 a0_1 a0_2).bind fun t359 => (if t359 = true then ((spec_WideOk.f a1_0 a1_1 a1_2).bind fun t360 => (spec_AddWide.j0 k (!t360) a0_0 a0_1 a0_2 a1_0 a1_1 a1_2)) else (spec_AddWide.j0 k true a0_0 a0_1 a0_2 a1_0 a1_1 a1_2))
theorem spec_AddWide.mono_l : ∀ k, (∀ y0 y1 y2 y3 y4 y5 y6, LeO (spec_AddWide.j0 k y0 y1 y2 y3 y4 y5 y6) (spec_AddWide.j0 (k + 1) y0 y1 y2 y3 y4 y5 y6)) ∧ (∀ y0 y1 y2 y3 y4 y5, LeO (spec_AddWide.j1 k y0 y1 y2 y3 y4 y5) (spec_AddWide.j1 (k + 1) y0 y1 y2 y3 y4 y5))
  | 0 => ⟨fun _ _ _ _ _ _ _ r h => by simp [spec_AddWide.j0] at h, fun _ _ _ _ _ _ r h => by simp [spec_AddWide.j1] at h⟩
  | k + 1 => by
    obtain ⟨ih0, ih1⟩ := spec_AddWide.mono_l k
    refine ⟨?_, ?_⟩
    · intro y0 y1 y2 y3 y4 y5 y6
      unfold spec_AddWide.j0
      repeat' first
      | (with_reducible exact ih0 _ _ _ _ _ _ _)
      | (with_reducible exact ih1 _ _ _ _ _ _)
      | (with_reducible exact spec_l3Order.mono _ _ _ _ _ _ _)
      | (with_reducible exact LeO.refl _)
      | (with_reducible exact LeO.none _)
      | (with_reducible refine LeO.ite ?_ ?_)
      | (with_reducible refine LeO.bind ?_ (fun _ => ?_))
      | exact ih0 _ _ _ _ _ _ _
      | exact ih1 _ _ _ _ _ _
      | exact spec_l3Order.mono _ _ _ _ _ _ _
      | exact LeO.none _
      | refine LeO.ite ?_ ?_
      | refine LeO.bind ?_ (fun _ => ?_)
    · intro y0 y1 y2 y3 y4 y5
      unfold spec_AddWide.j1
      repeat' first
      | (with_reducible exact ih0 _ _ _ _ _ _ _)
      | (with_reducible exact ih1 _ _ _ _ _ _)
      | (with_reducible exact spec_l3Order.mono _ _ _ _ _ _ _)
      | (with_reducible exact LeO.refl _)
      | (with_reducible exact LeO.none _)
      | (with_reducible refine LeO.ite ?_ ?_)
      | (with_reducible refine LeO.bind ?_ (fun _ => ?_))
      | exact ih0 _ _ _ _ _ _ _
      | exact ih1 _ _ _ _ _ _
      | exact spec_l3Order.mono _ _ _ _ _ _ _
      | exact LeO.none _
      | refine LeO.ite ?_ ?_
      | refine LeO.bind ?_ (fun _ => ?_)
theorem spec_AddWide.mono : ∀ a0 a1 a2 a3 a4 a5 k, LeO (spec_AddWide.f k a0 a1 a2 a3 a4 a5) (spec_AddWide.f (k + 1) a0 a1 a2 a3 a4 a5) := by
  intro a0 a1 a2 a3 a4 a5 k
  obtain ⟨ih0, ih1⟩ := spec_AddWide.mono_l k
  unfold spec_AddWide.f
  repeat' first
      | (with_reducible exact ih0 _ _ _ _ _ _ _)
      | (with_reducible exact ih1 _ _ _ _ _ _)
      | (with_reducible exact spec_l3Order.mono _ _ _ _ _ _ _)
      | (with_reducible exact LeO.refl _)
      | (with_reducible exact LeO.none _)
      | (with_reducible refine LeO.ite ?_ ?_)
      | (with_reducible refine LeO.bind ?_ (fun _ => ?_))
      | exact ih0 _ _ _ _ _ _ _
      | exact ih1 _ _ _ _ _ _
      | exact spec_l3Order.mono _ _ _ _ _ _ _
      | exact LeO.none _
      | refine LeO.ite ?_ ?_
      | refine LeO.bind ?_ (fun _ => ?_)
set_option maxHeartbeats 8000000 in
set_option maxRecDepth 100000 in
theorem spec_AddWide.calls (k : Nat) (a0_0 : Bool) (a0_1 : Int) (a0_2 : Int) (a1_0 : Bool) (a1_1 : Int) (a1_2 : Int) (r1 : Bool) (r2 : Int) (r3 : Int) (r4 : Bool) (w : World) (h : spec_AddWide.f k a0_0 a0_1 a0_2 a1_0 a1_1 a1_2 = some (r1, r2, r3, r4)) :
    Calls Tryd.prog 59 #[.agg #[.bool a0_0, .int .u64 a0_1, .int .u64 a0_2], .agg #[.bool a1_0, .int .u64 a1_1, .int .u64 a1_2]] w fun e w' => e = .returned (.tuple #[.agg #[.bool r1, .int .u64 r2, .int .u64 r3], .bool r4]) ∧ Below w.heap.size w w' := by
  have hu28 := Tryd.underlying28
  have HB := Aside0.mk (Below.refl w.heap.size w)
  have H : ((spec_WideOk.f a0_0 a0_1 a0_2).bind fun t359 => (if t359 = true then ((spec_WideOk.f a1_0 a1_1 a1_2).bind fun t360 => (spec_AddWide.j0 k (!t360) a0_0 a0_1 a0_2 a1_0 a1_1 a1_2)) else (spec_AddWide.j0 k true a0_0 a0_1 a0_2 a1_0 a1_1 a1_2))) = some (r1, r2, r3, r4) := h
  clear h
  have HC3 := Aside0.mk H
  clear H
  go_enter Tryd.func59, Tryd.ntmps59
  go_upto_region 1 with (first | ((with_reducible refine gate_dst (N := 2) rfl ?_); refine box_event ?hg (N := 2) ?hd (cs := #[.bool a0_0, .int .u64 a0_1, .int .u64 a0_2]) (t := 28) ?hr ?_; (case hd => rfl); (case hg => rfl); (case hr => first | (go_simp; done) | (go_simp; rfl)); intro gb356 hg w4 hbox hb; have n0_ := Aside0.mk (below_step bel_ hb); have n1_ := Aside0.mk (hbox); have n2_ := bs_ (w := w) hg; have n3_ := bs_ (w := w) hg; clear HB; have HB := n0_; have BK356 := n1_; have GW356 := n2_; have GE356 := n3_; clear n0_ n1_ n2_ n3_; clear hb hbox hg) | ((with_reducible refine gate_dst (N := 3) rfl ?_); refine box_event ?hg (N := 3) ?hd (cs := #[.bool a1_0, .int .u64 a1_1, .int .u64 a1_2]) (t := 28) ?hr ?_; (case hd => rfl); (case hg => rfl); (case hr => first | (go_simp; done) | (go_simp; rfl)); intro gb357 hg w5 hbox hb; have n0_ := bb_ (g := gb356) hb; have n1_ := Aside0.mk (below_step bel_ hb); have n2_ := Aside0.mk (hbox); have n3_ := bs_ (w := w) hg; have n4_ := bs_ (w := w) hg; have n5_ := nlt_ (g := gb356) hg; have n6_ := ngt_ (g := gb356) hg; clear BK356; clear HB; have BK356 := n0_; have HB := n1_; have BK357 := n2_; have GW357 := n3_; have GE357 := n4_; have NB356_357 := n5_; have NB357_356 := n6_; clear n0_ n1_ n2_ n3_ n4_ n5_ n6_; clear hb hbox hg) | ((with_reducible refine gate_dst (N := 4) rfl ?_); refine box_event ?hg (N := 4) ?hd (cs := #[.bool false, .int .u64 0, .int .u64 0]) (t := 28) ?hr ?_; (case hd => rfl); (case hg => rfl); (case hr => first | (go_simp; done) | (go_simp; rfl)); intro gb358 hg w6 hbox hb; have n0_ := bb_ (g := gb356) hb; have n1_ := bb_ (g := gb357) hb; have n2_ := Aside0.mk (below_step bel_ hb); have n3_ := Aside0.mk (hbox); have n4_ := bs_ (w := w) hg; have n5_ := bs_ (w := w) hg; have n6_ := nlt_ (g := gb356) hg; have n7_ := ngt_ (g := gb356) hg; have n8_ := nlt_ (g := gb357) hg; have n9_ := ngt_ (g := gb357) hg; clear BK356; clear BK357; clear HB; have BK356 := n0_; have BK357 := n1_; have HB := n2_; have BK358 := n3_; have GW358 := n4_; have GE358 := n5_; have NB356_358 := n6_; have NB358_356 := n7_; have NB357_358 := n8_; have NB358_357 := n9_; clear n0_ n1_ n2_ n3_ n4_ n5_ n6_ n7_ n8_ n9_; clear hb hbox hg))
  (try simp only [Act.put, la_, lb_, lc_])
  go_cut [17] (fun v17 wc => ∃ (kq : Nat) (x17_2 : Bool), v17 = .bool x17_2 ∧ Aside0 (spec_AddWide.j0 kq x17_2 a0_0 a0_1 a0_2 a1_0 a1_1 a1_2 = some (r1, r2, r3, r4)) ∧ Aside0 (kq ≤ k) ∧ Aside0 (wc.heap[gb356]? = some (.cells #[.bool a0_0, .int .u64 a0_1, .int .u64 a0_2] 28 (0, 0))) ∧ Aside0 (wc.heap[gb357]? = some (.cells #[.bool a1_0, .int .u64 a1_1, .int .u64 a1_2] 28 (0, 0))) ∧ Aside0 (wc.heap[gb358]? = some (.cells #[.bool false, .int .u64 0, .int .u64 0] 28 (0, 0))) ∧ Aside0 (Below w.heap.size w wc))
  case first =>
    have H := HC3.out
    clear HC3
    replace H := Option.bind_eq_some_iff.mp H
    obtain ⟨t359, A70, H⟩ := H
    replace H : (if t359 = true then ((spec_WideOk.f a1_0 a1_1 a1_2).bind fun t360 => (spec_AddWide.j0 k (!t360) a0_0 a0_1 a0_2 a1_0 a1_1 a1_2)) else (spec_AddWide.j0 k true a0_0 a0_1 a0_2 a1_0 a1_1 a1_2)) = some (r1, r2, r3, r4) := H
    have A7 := Aside0.mk A70
    clear A70
    by_cases c8 : t359 = true
    · subst c8
      have H1 : ((spec_WideOk.f a1_0 a1_1 a1_2).bind fun t360 => (spec_AddWide.j0 k (!t360) a0_0 a0_1 a0_2 a1_0 a1_1 a1_2)) = some (r1, r2, r3, r4) := by rw [if_pos rfl] at H; exact H
      clear H
      have H := H1
      clear H1
      replace H := Option.bind_eq_some_iff.mp H
      obtain ⟨t360, A90, H⟩ := H
      replace H : (spec_AddWide.j0 k (!t360) a0_0 a0_1 a0_2 a1_0 a1_1 a1_2) = some (r1, r2, r3, r4) := H
      have A9 := Aside0.mk A90
      clear A90
      have H' := Aside0.mk H
      clear H
      have hnb10 := NB356_357.out
      have hnc10 := NB357_356.out
      have hnb11 := NB356_358.out
      have hnc11 := NB358_356.out
      obtain ⟨hcz12_0, hcz12_1, hcz12_2, hfz12_0, hfz12_1, hfz12_2⟩ := cf3_ (w := w6) BK356.out
      go_wp2_with (first | ((with_reducible refine gate_callee (f := 24) rfl ?_); refine goesL_ (some 11) rfl rfl Tryd.func24 (by kernel_rfl) rfl #[.agg #[.bool a0_0, .int .u64 a0_1, .int .u64 a0_2]] rfl mp_ ?_; (with_reducible refine (spec_WideOk.calls a0_0 a0_1 a0_2 true _ A7.out).mono ?_); rintro e w13 ⟨rfl, hb⟩; refine ⟨_, rfl, ?_⟩; have n0_ := bb_ (g := gb356) hb; have n1_ := bb_ (g := gb357) hb; have n2_ := bb_ (g := gb358) hb; have n3_ := Aside0.mk (below_step bel_ hb); clear BK356; clear BK357; clear BK358; clear HB; have BK356 := n0_; have BK357 := n1_; have BK358 := n2_; have HB := n3_; clear n0_ n1_ n2_ n3_; (try clear hb); (try clear hb2); (try clear hk); (try clear hi); have hnb14 := NB357_358.out; have hnc14 := NB358_357.out; obtain ⟨hcz15_0, hcz15_1, hcz15_2, hfz15_0, hfz15_1, hfz15_2⟩ := cf3_ (w := w13) BK357.out) | (go_at_call 24; (with_reducible refine (spec_WideOk.calls a1_0 a1_1 a1_2 t360 _ A9.out).mono ?_); rintro e w16 ⟨rfl, hb⟩; have n0_ := bb_ (g := gb356) hb; have n1_ := bb_ (g := gb357) hb; have n2_ := bb_ (g := gb358) hb; have n3_ := Aside0.mk (below_step bel_ hb); clear BK356; clear BK357; clear BK358; clear HB; have BK356 := n0_; have BK357 := n1_; have BK358 := n2_; have HB := n3_; clear n0_ n1_ n2_ n3_; (try clear hb); (try clear hb2); (try clear hk); (try clear hi)))
      go_meet
      case rel => exact ⟨_, (!t360), (by first | rfl | (simp; done) | (simp [*]; done)), H', ⟨by first | omega | exact Nat.le_refl _⟩, ⟨by (with_reducible repeat (first | refine bN_ _ ?_ | refine bd_ ?_ | refine ba_ _ ?_)); exact BK356.out⟩, ⟨by (with_reducible repeat (first | refine bN_ _ ?_ | refine bd_ ?_ | refine ba_ _ ?_)); exact BK357.out⟩, ⟨by (with_reducible repeat (first | refine bN_ _ ?_ | refine bd_ ?_ | refine ba_ _ ?_)); exact BK358.out⟩, ⟨bel_⟩⟩
    · replace c8 := Bool.eq_false_iff.mpr c8
      subst c8
      have H1 : (spec_AddWide.j0 k true a0_0 a0_1 a0_2 a1_0 a1_1 a1_2) = some (r1, r2, r3, r4) := by rw [if_neg (show ¬ (false = true) by decide)] at H; exact H
      clear H
      have H := H1
      clear H1
      have H' := Aside0.mk H
      clear H
      have hnb17 := NB356_357.out
      have hnc17 := NB357_356.out
      have hnb18 := NB356_358.out
      have hnc18 := NB358_356.out
      obtain ⟨hcz19_0, hcz19_1, hcz19_2, hfz19_0, hfz19_1, hfz19_2⟩ := cf3_ (w := w6) BK356.out
      go_wp2_with (first | ((with_reducible refine gate_callee (f := 24) rfl ?_); refine goesL_ (some 11) rfl rfl Tryd.func24 (by kernel_rfl) rfl #[.agg #[.bool a0_0, .int .u64 a0_1, .int .u64 a0_2]] rfl mp_ ?_; (with_reducible refine (spec_WideOk.calls a0_0 a0_1 a0_2 false _ A7.out).mono ?_); rintro e w20 ⟨rfl, hb⟩; refine ⟨_, rfl, ?_⟩; have n0_ := bb_ (g := gb356) hb; have n1_ := bb_ (g := gb357) hb; have n2_ := bb_ (g := gb358) hb; have n3_ := Aside0.mk (below_step bel_ hb); clear BK356; clear BK357; clear BK358; clear HB; have BK356 := n0_; have BK357 := n1_; have BK358 := n2_; have HB := n3_; clear n0_ n1_ n2_ n3_; (try clear hb); (try clear hb2); (try clear hk); (try clear hi)))
      go_meet
      case rel => exact ⟨_, (true), (by first | rfl | (simp; done) | (simp [*]; done)), H', ⟨by first | omega | exact Nat.le_refl _⟩, ⟨by (with_reducible repeat (first | refine bN_ _ ?_ | refine bd_ ?_ | refine ba_ _ ?_)); exact BK356.out⟩, ⟨by (with_reducible repeat (first | refine bN_ _ ?_ | refine bd_ ?_ | refine ba_ _ ?_)); exact BK357.out⟩, ⟨by (with_reducible repeat (first | refine bN_ _ ?_ | refine bd_ ?_ | refine ba_ _ ?_)); exact BK358.out⟩, ⟨bel_⟩⟩
  case rest =>
    clear HC3
    try clear c1
    try clear c2
    try clear p2
    try clear c5
    try clear c8
    try clear c10
    try clear c11
    try clear c14
    try clear c17
    try clear c18
    try clear hcz12_0
    try clear hcz12_1
    try clear hcz12_2
    try clear hcz15_0
    try clear hcz15_1
    try clear hcz15_2
    try clear hcz19_0
    try clear hcz19_1
    try clear hcz19_2
    try clear hfz12_0
    try clear hfz12_1
    try clear hfz12_2
    try clear hfz15_0
    try clear hfz15_1
    try clear hfz15_2
    try clear hfz19_0
    try clear hfz19_1
    try clear hfz19_2
    obtain ⟨kq, x17_2, rfl, HA, HJ2, BK356, BK357, BK358, HB⟩ := hcut
    cases kq with
    | zero => exact absurd HA.out (by simp [spec_AddWide.j0])
    | succ kj2 =>
      have H := HA.out
      clear HA
      simp only [spec_AddWide.j0] at H
      by_cases c21 : x17_2 = true
      · subst c21
        have H1 : (some (false, 0, 0, false)) = some (r1, r2, r3, r4) := by rw [if_pos rfl] at H; exact H
        clear H
        have H := H1
        clear H1
        simp only [Option.some.injEq, Prod.mk.injEq] at H
        obtain ⟨rfl, rfl, rfl, rfl⟩ := H
        have hnb22 := NB358_356.out
        have hnc22 := NB356_358.out
        have hnb23 := NB358_357.out
        have hnc23 := NB357_358.out
        obtain ⟨hcz24_0, hcz24_1, hcz24_2, hfz24_0, hfz24_1, hfz24_2⟩ := cf3_ (w := wc) BK358.out
        go_wp2
        refine bodyPost_ret (results_ct rfl _ _ gb358 28 #[.bool false, .int .u64 0, .int .u64 0] (0, 0) _ rfl (pu_ #[.bool false, .int .u64 0, .int .u64 0] 2 (h := (pu_ #[.bool false, .int .u64 0, .int .u64 0] 1 (h := (pu_ #[.bool false, .int .u64 0, .int .u64 0] 0 (h := bk_)))))) Tryd.underlying28 rfl (by kernel_rfl)) rfl ?_
        exact ⟨rf_, bel_⟩
      · replace c21 := Bool.eq_false_iff.mpr c21
        subst c21
        have H1 : (if (a0_0 == a1_0) = true then (if (IntKind.u64.wrap (a0_2 + a1_2)) < a0_2 then ((spec_WideOk.f a0_0 (IntKind.u64.wrap ((IntKind.u64.wrap (a0_1 + a1_1)) + 1)) (IntKind.u64.wrap (a0_2 + a1_2))).bind fun t362 => (if t362 = true then (some (a0_0, IntKind.u64.wrap ((IntKind.u64.wrap (a0_1 + a1_1)) + 1), IntKind.u64.wrap (a0_2 + a1_2), true)) else (some (false, 0, 0, false)))) else ((spec_WideOk.f a0_0 (IntKind.u64.wrap (a0_1 + a1_1)) (IntKind.u64.wrap (a0_2 + a1_2))).bind fun t363 => (if t363 = true then (some (a0_0, IntKind.u64.wrap (a0_1 + a1_1), IntKind.u64.wrap (a0_2 + a1_2), true)) else (some (false, 0, 0, false))))) else ((spec_l3Order.f kj2 a0_0 a0_1 a0_2 a1_0 a1_1 a1_2).bind fun t366 => (if t366 < 0 then (spec_AddWide.j1 kj2 a1_0 a1_1 a1_2 a0_0 a0_1 a0_2) else (spec_AddWide.j1 kj2 a0_0 a0_1 a0_2 a1_0 a1_1 a1_2)))) = some (r1, r2, r3, r4) := by rw [if_neg (show ¬ (false = true) by decide)] at H; exact H
        clear H
        have H := H1
        clear H1
        by_cases c25 : (a0_0 == a1_0) = true
        · rw [if_pos c25] at H
          have c25b0 : (a0_0 == a1_0) = true := c25
          (try (have c25b1 : decide (a0_0 = a1_0) = true := by simpa using c25))
          (try (have c25b2 : (a0_0 == a1_0) = true := by simpa using c25))
          clear c25
          by_cases c26 : (IntKind.u64.wrap (a0_2 + a1_2)) < a0_2
          · rw [if_pos c26] at H
            have c26b0 : decide ((IntKind.u64.wrap (a0_2 + a1_2)) < a0_2) = true := decide_eq_true c26
            clear c26
            replace H := Option.bind_eq_some_iff.mp H
            obtain ⟨t362, A270, H⟩ := H
            replace H : (if t362 = true then (some (a0_0, IntKind.u64.wrap ((IntKind.u64.wrap (a0_1 + a1_1)) + 1), IntKind.u64.wrap (a0_2 + a1_2), true)) else (some (false, 0, 0, false))) = some (r1, r2, r3, r4) := H
            have A27 := Aside0.mk A270
            clear A270
            by_cases c28 : t362 = true
            · subst c28
              have H1 : (some (a0_0, IntKind.u64.wrap ((IntKind.u64.wrap (a0_1 + a1_1)) + 1), IntKind.u64.wrap (a0_2 + a1_2), true)) = some (r1, r2, r3, r4) := by rw [if_pos rfl] at H; exact H
              clear H
              have H := H1
              clear H1
              simp only [Option.some.injEq, Prod.mk.injEq] at H
              obtain ⟨rfl, rfl, rfl, rfl⟩ := H
              have hnb29 := NB356_357.out
              have hnc29 := NB357_356.out
              have hnb30 := NB356_358.out
              have hnc30 := NB358_356.out
              obtain ⟨hcz31_0, hcz31_1, hcz31_2, hfz31_0, hfz31_1, hfz31_2⟩ := cf3_ (w := wc) BK356.out
              have hnb32 := NB357_358.out
              have hnc32 := NB358_357.out
              obtain ⟨hcz33_0, hcz33_1, hcz33_2, hfz33_0, hfz33_1, hfz33_2⟩ := cf3_ (w := wc) BK357.out
              go_wp2_with (first | ((with_reducible refine gate_dst (N := 6) rfl ?_); refine box_event ?hg (N := 6) ?hd (cs := #[.bool false, .int .u64 0, .int .u64 0]) (t := 28) ?hr ?_; (case hd => rfl); (case hg => rfl); (case hr => first | (go_simp; done) | (go_simp; rfl)); intro gb361 hg w34 hbox hb; have n0_ := bb_ (g := gb356) hb; have n1_ := bb_ (g := gb357) hb; have n2_ := bb_ (g := gb358) hb; have n3_ := Aside0.mk (below_step bel_ hb); have n4_ := Aside0.mk (hbox); have n5_ := bs_ (w := w) hg; have n6_ := bs_ (w := w) hg; have n7_ := nlt_ (g := gb356) hg; have n8_ := ngt_ (g := gb356) hg; have n9_ := nlt_ (g := gb357) hg; have n10_ := ngt_ (g := gb357) hg; have n11_ := nlt_ (g := gb358) hg; have n12_ := ngt_ (g := gb358) hg; clear BK356; clear BK357; clear BK358; clear HB; have BK356 := n0_; have BK357 := n1_; have BK358 := n2_; have HB := n3_; have BK361 := n4_; have GW361 := n5_; have GE361 := n6_; have NB356_361 := n7_; have NB361_356 := n8_; have NB357_361 := n9_; have NB361_357 := n10_; have NB358_361 := n11_; have NB361_358 := n12_; clear n0_ n1_ n2_ n3_ n4_ n5_ n6_ n7_ n8_ n9_ n10_ n11_ n12_; clear hb hbox hg; have hnb35 := NB361_356.out; have hnc35 := NB356_361.out; have hnb36 := NB361_357.out; have hnc36 := NB357_361.out; have hnb37 := NB361_358.out; have hnc37 := NB358_361.out; obtain ⟨hcz38_0, hcz38_1, hcz38_2, hfz38_0, hfz38_1, hfz38_2⟩ := cf3_ (w := w34) BK361.out; have hs361_0 : ∀ v0 v1 v2 : Value, (((w34.setCell ⟨gb361, 0, none⟩ v0).setCell ⟨gb361, 1, none⟩ v1).setCell ⟨gb361, 2, none⟩ v2).cell? ⟨gb361, 0, none⟩ = some v0 := fun _ _ _ => set3_0 BK361.out; have hs361_1 : ∀ v0 v1 v2 : Value, (((w34.setCell ⟨gb361, 0, none⟩ v0).setCell ⟨gb361, 1, none⟩ v1).setCell ⟨gb361, 2, none⟩ v2).cell? ⟨gb361, 1, none⟩ = some v1 := fun _ _ _ => set3_1 BK361.out; have hs361_2 : ∀ v0 v1 v2 : Value, (((w34.setCell ⟨gb361, 0, none⟩ v0).setCell ⟨gb361, 1, none⟩ v1).setCell ⟨gb361, 2, none⟩ v2).cell? ⟨gb361, 2, none⟩ = some v2 := fun _ _ _ => set3_2 BK361.out; obtain ⟨hcz39_0, hcz39_1, hcz39_2, hfz39_0, hfz39_1, hfz39_2⟩ := cf3_ (w := w34) BK356.out) | ((with_reducible refine gate_callee (f := 24) rfl ?_); refine goesL_ (some 47) rfl rfl Tryd.func24 (by kernel_rfl) rfl #[.agg #[.bool a0_0, .int .u64 (IntKind.u64.wrap ((IntKind.u64.wrap (a0_1 + a1_1)) + 1)), .int .u64 (IntKind.u64.wrap (a0_2 + a1_2))]] rfl mp_ ?_; (with_reducible refine (spec_WideOk.calls a0_0 (IntKind.u64.wrap ((IntKind.u64.wrap (a0_1 + a1_1)) + 1)) (IntKind.u64.wrap (a0_2 + a1_2)) true _ A27.out).mono ?_); rintro e w40 ⟨rfl, hb⟩; refine ⟨_, rfl, ?_⟩; have n0_ := Aside0.mk (blk_below (g := gb356) (o := .cells #[.bool a0_0, .int .u64 a0_1, .int .u64 a0_2] 28 (0, 0)) bk_ hb); have n1_ := Aside0.mk (blk_below (g := gb357) (o := .cells #[.bool a1_0, .int .u64 a1_1, .int .u64 a1_2] 28 (0, 0)) bk_ hb); have n2_ := Aside0.mk (blk_below (g := gb358) (o := .cells #[.bool false, .int .u64 0, .int .u64 0] 28 (0, 0)) bk_ hb); have n3_ := Aside0.mk (blk_below (g := gb361) (o := .cells #[.bool a0_0, .int .u64 (IntKind.u64.wrap ((IntKind.u64.wrap (a0_1 + a1_1)) + 1)), .int .u64 (IntKind.u64.wrap (a0_2 + a1_2))] 28 (0, 0)) (pu_ #[.bool a0_0, .int .u64 (IntKind.u64.wrap (a0_1 + a1_1)), .int .u64 (IntKind.u64.wrap (a0_2 + a1_2))] 1 (h := (pu_ #[.bool a0_0, .int .u64 (IntKind.u64.wrap (a0_1 + a1_1)), .int .u64 0] 2 (h := (pu_ #[.bool a0_0, .int .u64 0, .int .u64 0] 1 (h := (pu_ #[.bool false, .int .u64 0, .int .u64 0] 0 (h := bk_)))))))) hb); have n4_ := Aside0.mk (below_step bel_ hb); clear BK356; clear BK357; clear BK358; clear BK361; clear HB; have BK356 := n0_; have BK357 := n1_; have BK358 := n2_; have BK361 := n3_; have HB := n4_; clear n0_ n1_ n2_ n3_ n4_; (try clear hb); (try clear hb2); (try clear hk); (try clear hi); obtain ⟨hcz41_0, hcz41_1, hcz41_2, hfz41_0, hfz41_1, hfz41_2⟩ := cf3_ (w := w40) BK361.out; obtain ⟨hcz42_0, hcz42_1, hcz42_2, hfz42_0, hfz42_1, hfz42_2⟩ := cf3_ (w := w40) BK358.out; have hs358_0 : ∀ v0 v1 v2 : Value, (((w40.setCell ⟨gb358, 0, none⟩ v0).setCell ⟨gb358, 1, none⟩ v1).setCell ⟨gb358, 2, none⟩ v2).cell? ⟨gb358, 0, none⟩ = some v0 := fun _ _ _ => set3_0 BK358.out; have hs358_1 : ∀ v0 v1 v2 : Value, (((w40.setCell ⟨gb358, 0, none⟩ v0).setCell ⟨gb358, 1, none⟩ v1).setCell ⟨gb358, 2, none⟩ v2).cell? ⟨gb358, 1, none⟩ = some v1 := fun _ _ _ => set3_1 BK358.out; have hs358_2 : ∀ v0 v1 v2 : Value, (((w40.setCell ⟨gb358, 0, none⟩ v0).setCell ⟨gb358, 1, none⟩ v1).setCell ⟨gb358, 2, none⟩ v2).cell? ⟨gb358, 2, none⟩ = some v2 := fun _ _ _ => set3_2 BK358.out))
              refine bodyPost_ret (results_ct rfl _ _ gb358 28 #[.bool a0_0, .int .u64 (IntKind.u64.wrap ((IntKind.u64.wrap (a0_1 + a1_1)) + 1)), .int .u64 (IntKind.u64.wrap (a0_2 + a1_2))] (0, 0) _ rfl (pu_ #[.bool a0_0, .int .u64 (IntKind.u64.wrap ((IntKind.u64.wrap (a0_1 + a1_1)) + 1)), .int .u64 0] 2 (h := (pu_ #[.bool a0_0, .int .u64 0, .int .u64 0] 1 (h := (pu_ #[.bool false, .int .u64 0, .int .u64 0] 0 (h := bk_)))))) Tryd.underlying28 rfl (by kernel_rfl)) rfl ?_
              exact ⟨rf_, bel_⟩
            · replace c28 := Bool.eq_false_iff.mpr c28
              subst c28
              have H1 : (some (false, 0, 0, false)) = some (r1, r2, r3, r4) := by rw [if_neg (show ¬ (false = true) by decide)] at H; exact H
              clear H
              have H := H1
              clear H1
              simp only [Option.some.injEq, Prod.mk.injEq] at H
              obtain ⟨rfl, rfl, rfl, rfl⟩ := H
              have hnb43 := NB356_357.out
              have hnc43 := NB357_356.out
              have hnb44 := NB356_358.out
              have hnc44 := NB358_356.out
              obtain ⟨hcz45_0, hcz45_1, hcz45_2, hfz45_0, hfz45_1, hfz45_2⟩ := cf3_ (w := wc) BK356.out
              have hnb46 := NB357_358.out
              have hnc46 := NB358_357.out
              obtain ⟨hcz47_0, hcz47_1, hcz47_2, hfz47_0, hfz47_1, hfz47_2⟩ := cf3_ (w := wc) BK357.out
              go_wp2_with (first | ((with_reducible refine gate_dst (N := 6) rfl ?_); refine box_event ?hg (N := 6) ?hd (cs := #[.bool false, .int .u64 0, .int .u64 0]) (t := 28) ?hr ?_; (case hd => rfl); (case hg => rfl); (case hr => first | (go_simp; done) | (go_simp; rfl)); intro gb361 hg w48 hbox hb; have n0_ := bb_ (g := gb356) hb; have n1_ := bb_ (g := gb357) hb; have n2_ := bb_ (g := gb358) hb; have n3_ := Aside0.mk (below_step bel_ hb); have n4_ := Aside0.mk (hbox); have n5_ := bs_ (w := w) hg; have n6_ := bs_ (w := w) hg; have n7_ := nlt_ (g := gb356) hg; have n8_ := ngt_ (g := gb356) hg; have n9_ := nlt_ (g := gb357) hg; have n10_ := ngt_ (g := gb357) hg; have n11_ := nlt_ (g := gb358) hg; have n12_ := ngt_ (g := gb358) hg; clear BK356; clear BK357; clear BK358; clear HB; have BK356 := n0_; have BK357 := n1_; have BK358 := n2_; have HB := n3_; have BK361 := n4_; have GW361 := n5_; have GE361 := n6_; have NB356_361 := n7_; have NB361_356 := n8_; have NB357_361 := n9_; have NB361_357 := n10_; have NB358_361 := n11_; have NB361_358 := n12_; clear n0_ n1_ n2_ n3_ n4_ n5_ n6_ n7_ n8_ n9_ n10_ n11_ n12_; clear hb hbox hg; have hnb49 := NB361_356.out; have hnc49 := NB356_361.out; have hnb50 := NB361_357.out; have hnc50 := NB357_361.out; have hnb51 := NB361_358.out; have hnc51 := NB358_361.out; obtain ⟨hcz52_0, hcz52_1, hcz52_2, hfz52_0, hfz52_1, hfz52_2⟩ := cf3_ (w := w48) BK361.out; have hs361_0 : ∀ v0 v1 v2 : Value, (((w48.setCell ⟨gb361, 0, none⟩ v0).setCell ⟨gb361, 1, none⟩ v1).setCell ⟨gb361, 2, none⟩ v2).cell? ⟨gb361, 0, none⟩ = some v0 := fun _ _ _ => set3_0 BK361.out; have hs361_1 : ∀ v0 v1 v2 : Value, (((w48.setCell ⟨gb361, 0, none⟩ v0).setCell ⟨gb361, 1, none⟩ v1).setCell ⟨gb361, 2, none⟩ v2).cell? ⟨gb361, 1, none⟩ = some v1 := fun _ _ _ => set3_1 BK361.out; have hs361_2 : ∀ v0 v1 v2 : Value, (((w48.setCell ⟨gb361, 0, none⟩ v0).setCell ⟨gb361, 1, none⟩ v1).setCell ⟨gb361, 2, none⟩ v2).cell? ⟨gb361, 2, none⟩ = some v2 := fun _ _ _ => set3_2 BK361.out; obtain ⟨hcz53_0, hcz53_1, hcz53_2, hfz53_0, hfz53_1, hfz53_2⟩ := cf3_ (w := w48) BK356.out) | ((with_reducible refine gate_callee (f := 24) rfl ?_); refine goesL_ (some 47) rfl rfl Tryd.func24 (by kernel_rfl) rfl #[.agg #[.bool a0_0, .int .u64 (IntKind.u64.wrap ((IntKind.u64.wrap (a0_1 + a1_1)) + 1)), .int .u64 (IntKind.u64.wrap (a0_2 + a1_2))]] rfl mp_ ?_; (with_reducible refine (spec_WideOk.calls a0_0 (IntKind.u64.wrap ((IntKind.u64.wrap (a0_1 + a1_1)) + 1)) (IntKind.u64.wrap (a0_2 + a1_2)) false _ A27.out).mono ?_); rintro e w54 ⟨rfl, hb⟩; refine ⟨_, rfl, ?_⟩; have n0_ := Aside0.mk (blk_below (g := gb356) (o := .cells #[.bool a0_0, .int .u64 a0_1, .int .u64 a0_2] 28 (0, 0)) bk_ hb); have n1_ := Aside0.mk (blk_below (g := gb357) (o := .cells #[.bool a1_0, .int .u64 a1_1, .int .u64 a1_2] 28 (0, 0)) bk_ hb); have n2_ := Aside0.mk (blk_below (g := gb358) (o := .cells #[.bool false, .int .u64 0, .int .u64 0] 28 (0, 0)) bk_ hb); have n3_ := Aside0.mk (blk_below (g := gb361) (o := .cells #[.bool a0_0, .int .u64 (IntKind.u64.wrap ((IntKind.u64.wrap (a0_1 + a1_1)) + 1)), .int .u64 (IntKind.u64.wrap (a0_2 + a1_2))] 28 (0, 0)) (pu_ #[.bool a0_0, .int .u64 (IntKind.u64.wrap (a0_1 + a1_1)), .int .u64 (IntKind.u64.wrap (a0_2 + a1_2))] 1 (h := (pu_ #[.bool a0_0, .int .u64 (IntKind.u64.wrap (a0_1 + a1_1)), .int .u64 0] 2 (h := (pu_ #[.bool a0_0, .int .u64 0, .int .u64 0] 1 (h := (pu_ #[.bool false, .int .u64 0, .int .u64 0] 0 (h := bk_)))))))) hb); have n4_ := Aside0.mk (below_step bel_ hb); clear BK356; clear BK357; clear BK358; clear BK361; clear HB; have BK356 := n0_; have BK357 := n1_; have BK358 := n2_; have BK361 := n3_; have HB := n4_; clear n0_ n1_ n2_ n3_ n4_; (try clear hb); (try clear hb2); (try clear hk); (try clear hi); obtain ⟨hcz55_0, hcz55_1, hcz55_2, hfz55_0, hfz55_1, hfz55_2⟩ := cf3_ (w := w54) BK358.out; have hs358_0 : ∀ v0 v1 v2 : Value, (((w54.setCell ⟨gb358, 0, none⟩ v0).setCell ⟨gb358, 1, none⟩ v1).setCell ⟨gb358, 2, none⟩ v2).cell? ⟨gb358, 0, none⟩ = some v0 := fun _ _ _ => set3_0 BK358.out; have hs358_1 : ∀ v0 v1 v2 : Value, (((w54.setCell ⟨gb358, 0, none⟩ v0).setCell ⟨gb358, 1, none⟩ v1).setCell ⟨gb358, 2, none⟩ v2).cell? ⟨gb358, 1, none⟩ = some v1 := fun _ _ _ => set3_1 BK358.out; have hs358_2 : ∀ v0 v1 v2 : Value, (((w54.setCell ⟨gb358, 0, none⟩ v0).setCell ⟨gb358, 1, none⟩ v1).setCell ⟨gb358, 2, none⟩ v2).cell? ⟨gb358, 2, none⟩ = some v2 := fun _ _ _ => set3_2 BK358.out))
              refine bodyPost_ret (results_ct rfl _ _ gb358 28 #[.bool false, .int .u64 0, .int .u64 0] (0, 0) _ rfl (pu_ #[.bool false, .int .u64 0, .int .u64 0] 2 (h := (pu_ #[.bool false, .int .u64 0, .int .u64 0] 1 (h := (pu_ #[.bool false, .int .u64 0, .int .u64 0] 0 (h := bk_)))))) Tryd.underlying28 rfl (by kernel_rfl)) rfl ?_
              exact ⟨rf_, bel_⟩
          · rw [if_neg c26] at H
            have c26b0 : decide ((IntKind.u64.wrap (a0_2 + a1_2)) < a0_2) = false := decide_eq_false c26
            clear c26
            replace H := Option.bind_eq_some_iff.mp H
            obtain ⟨t363, A560, H⟩ := H
            replace H : (if t363 = true then (some (a0_0, IntKind.u64.wrap (a0_1 + a1_1), IntKind.u64.wrap (a0_2 + a1_2), true)) else (some (false, 0, 0, false))) = some (r1, r2, r3, r4) := H
            have A56 := Aside0.mk A560
            clear A560
            by_cases c57 : t363 = true
            · subst c57
              have H1 : (some (a0_0, IntKind.u64.wrap (a0_1 + a1_1), IntKind.u64.wrap (a0_2 + a1_2), true)) = some (r1, r2, r3, r4) := by rw [if_pos rfl] at H; exact H
              clear H
              have H := H1
              clear H1
              simp only [Option.some.injEq, Prod.mk.injEq] at H
              obtain ⟨rfl, rfl, rfl, rfl⟩ := H
              have hnb58 := NB356_357.out
              have hnc58 := NB357_356.out
              have hnb59 := NB356_358.out
              have hnc59 := NB358_356.out
              obtain ⟨hcz60_0, hcz60_1, hcz60_2, hfz60_0, hfz60_1, hfz60_2⟩ := cf3_ (w := wc) BK356.out
              have hnb61 := NB357_358.out
              have hnc61 := NB358_357.out
              obtain ⟨hcz62_0, hcz62_1, hcz62_2, hfz62_0, hfz62_1, hfz62_2⟩ := cf3_ (w := wc) BK357.out
              go_wp2_with (first | ((with_reducible refine gate_dst (N := 6) rfl ?_); refine box_event ?hg (N := 6) ?hd (cs := #[.bool false, .int .u64 0, .int .u64 0]) (t := 28) ?hr ?_; (case hd => rfl); (case hg => rfl); (case hr => first | (go_simp; done) | (go_simp; rfl)); intro gb361 hg w63 hbox hb; have n0_ := bb_ (g := gb356) hb; have n1_ := bb_ (g := gb357) hb; have n2_ := bb_ (g := gb358) hb; have n3_ := Aside0.mk (below_step bel_ hb); have n4_ := Aside0.mk (hbox); have n5_ := bs_ (w := w) hg; have n6_ := bs_ (w := w) hg; have n7_ := nlt_ (g := gb356) hg; have n8_ := ngt_ (g := gb356) hg; have n9_ := nlt_ (g := gb357) hg; have n10_ := ngt_ (g := gb357) hg; have n11_ := nlt_ (g := gb358) hg; have n12_ := ngt_ (g := gb358) hg; clear BK356; clear BK357; clear BK358; clear HB; have BK356 := n0_; have BK357 := n1_; have BK358 := n2_; have HB := n3_; have BK361 := n4_; have GW361 := n5_; have GE361 := n6_; have NB356_361 := n7_; have NB361_356 := n8_; have NB357_361 := n9_; have NB361_357 := n10_; have NB358_361 := n11_; have NB361_358 := n12_; clear n0_ n1_ n2_ n3_ n4_ n5_ n6_ n7_ n8_ n9_ n10_ n11_ n12_; clear hb hbox hg; have hnb64 := NB361_356.out; have hnc64 := NB356_361.out; have hnb65 := NB361_357.out; have hnc65 := NB357_361.out; have hnb66 := NB361_358.out; have hnc66 := NB358_361.out; obtain ⟨hcz67_0, hcz67_1, hcz67_2, hfz67_0, hfz67_1, hfz67_2⟩ := cf3_ (w := w63) BK361.out; have hs361_0 : ∀ v0 v1 v2 : Value, (((w63.setCell ⟨gb361, 0, none⟩ v0).setCell ⟨gb361, 1, none⟩ v1).setCell ⟨gb361, 2, none⟩ v2).cell? ⟨gb361, 0, none⟩ = some v0 := fun _ _ _ => set3_0 BK361.out; have hs361_1 : ∀ v0 v1 v2 : Value, (((w63.setCell ⟨gb361, 0, none⟩ v0).setCell ⟨gb361, 1, none⟩ v1).setCell ⟨gb361, 2, none⟩ v2).cell? ⟨gb361, 1, none⟩ = some v1 := fun _ _ _ => set3_1 BK361.out; have hs361_2 : ∀ v0 v1 v2 : Value, (((w63.setCell ⟨gb361, 0, none⟩ v0).setCell ⟨gb361, 1, none⟩ v1).setCell ⟨gb361, 2, none⟩ v2).cell? ⟨gb361, 2, none⟩ = some v2 := fun _ _ _ => set3_2 BK361.out; obtain ⟨hcz68_0, hcz68_1, hcz68_2, hfz68_0, hfz68_1, hfz68_2⟩ := cf3_ (w := w63) BK356.out) | ((with_reducible refine gate_callee (f := 24) rfl ?_); refine goesL_ (some 47) rfl rfl Tryd.func24 (by kernel_rfl) rfl #[.agg #[.bool a0_0, .int .u64 (IntKind.u64.wrap (a0_1 + a1_1)), .int .u64 (IntKind.u64.wrap (a0_2 + a1_2))]] rfl mp_ ?_; (with_reducible refine (spec_WideOk.calls a0_0 (IntKind.u64.wrap (a0_1 + a1_1)) (IntKind.u64.wrap (a0_2 + a1_2)) true _ A56.out).mono ?_); rintro e w69 ⟨rfl, hb⟩; refine ⟨_, rfl, ?_⟩; have n0_ := Aside0.mk (blk_below (g := gb356) (o := .cells #[.bool a0_0, .int .u64 a0_1, .int .u64 a0_2] 28 (0, 0)) bk_ hb); have n1_ := Aside0.mk (blk_below (g := gb357) (o := .cells #[.bool a1_0, .int .u64 a1_1, .int .u64 a1_2] 28 (0, 0)) bk_ hb); have n2_ := Aside0.mk (blk_below (g := gb358) (o := .cells #[.bool false, .int .u64 0, .int .u64 0] 28 (0, 0)) bk_ hb); have n3_ := Aside0.mk (blk_below (g := gb361) (o := .cells #[.bool a0_0, .int .u64 (IntKind.u64.wrap (a0_1 + a1_1)), .int .u64 (IntKind.u64.wrap (a0_2 + a1_2))] 28 (0, 0)) (pu_ #[.bool a0_0, .int .u64 (IntKind.u64.wrap (a0_1 + a1_1)), .int .u64 0] 2 (h := (pu_ #[.bool a0_0, .int .u64 0, .int .u64 0] 1 (h := (pu_ #[.bool false, .int .u64 0, .int .u64 0] 0 (h := bk_)))))) hb); have n4_ := Aside0.mk (below_step bel_ hb); clear BK356; clear BK357; clear BK358; clear BK361; clear HB; have BK356 := n0_; have BK357 := n1_; have BK358 := n2_; have BK361 := n3_; have HB := n4_; clear n0_ n1_ n2_ n3_ n4_; (try clear hb); (try clear hb2); (try clear hk); (try clear hi); obtain ⟨hcz70_0, hcz70_1, hcz70_2, hfz70_0, hfz70_1, hfz70_2⟩ := cf3_ (w := w69) BK361.out; obtain ⟨hcz71_0, hcz71_1, hcz71_2, hfz71_0, hfz71_1, hfz71_2⟩ := cf3_ (w := w69) BK358.out; have hs358_0 : ∀ v0 v1 v2 : Value, (((w69.setCell ⟨gb358, 0, none⟩ v0).setCell ⟨gb358, 1, none⟩ v1).setCell ⟨gb358, 2, none⟩ v2).cell? ⟨gb358, 0, none⟩ = some v0 := fun _ _ _ => set3_0 BK358.out; have hs358_1 : ∀ v0 v1 v2 : Value, (((w69.setCell ⟨gb358, 0, none⟩ v0).setCell ⟨gb358, 1, none⟩ v1).setCell ⟨gb358, 2, none⟩ v2).cell? ⟨gb358, 1, none⟩ = some v1 := fun _ _ _ => set3_1 BK358.out; have hs358_2 : ∀ v0 v1 v2 : Value, (((w69.setCell ⟨gb358, 0, none⟩ v0).setCell ⟨gb358, 1, none⟩ v1).setCell ⟨gb358, 2, none⟩ v2).cell? ⟨gb358, 2, none⟩ = some v2 := fun _ _ _ => set3_2 BK358.out))
              refine bodyPost_ret (results_ct rfl _ _ gb358 28 #[.bool a0_0, .int .u64 (IntKind.u64.wrap (a0_1 + a1_1)), .int .u64 (IntKind.u64.wrap (a0_2 + a1_2))] (0, 0) _ rfl (pu_ #[.bool a0_0, .int .u64 (IntKind.u64.wrap (a0_1 + a1_1)), .int .u64 0] 2 (h := (pu_ #[.bool a0_0, .int .u64 0, .int .u64 0] 1 (h := (pu_ #[.bool false, .int .u64 0, .int .u64 0] 0 (h := bk_)))))) Tryd.underlying28 rfl (by kernel_rfl)) rfl ?_
              exact ⟨rf_, bel_⟩
            · replace c57 := Bool.eq_false_iff.mpr c57
              subst c57
              have H1 : (some (false, 0, 0, false)) = some (r1, r2, r3, r4) := by rw [if_neg (show ¬ (false = true) by decide)] at H; exact H
              clear H
              have H := H1
              clear H1
              simp only [Option.some.injEq, Prod.mk.injEq] at H
              obtain ⟨rfl, rfl, rfl, rfl⟩ := H
              have hnb72 := NB356_357.out
              have hnc72 := NB357_356.out
              have hnb73 := NB356_358.out
              have hnc73 := NB358_356.out
              obtain ⟨hcz74_0, hcz74_1, hcz74_2, hfz74_0, hfz74_1, hfz74_2⟩ := cf3_ (w := wc) BK356.out
              have hnb75 := NB357_358.out
              have hnc75 := NB358_357.out
              obtain ⟨hcz76_0, hcz76_1, hcz76_2, hfz76_0, hfz76_1, hfz76_2⟩ := cf3_ (w := wc) BK357.out
              go_wp2_with (first | ((with_reducible refine gate_dst (N := 6) rfl ?_); refine box_event ?hg (N := 6) ?hd (cs := #[.bool false, .int .u64 0, .int .u64 0]) (t := 28) ?hr ?_; (case hd => rfl); (case hg => rfl); (case hr => first | (go_simp; done) | (go_simp; rfl)); intro gb361 hg w77 hbox hb; have n0_ := bb_ (g := gb356) hb; have n1_ := bb_ (g := gb357) hb; have n2_ := bb_ (g := gb358) hb; have n3_ := Aside0.mk (below_step bel_ hb); have n4_ := Aside0.mk (hbox); have n5_ := bs_ (w := w) hg; have n6_ := bs_ (w := w) hg; have n7_ := nlt_ (g := gb356) hg; have n8_ := ngt_ (g := gb356) hg; have n9_ := nlt_ (g := gb357) hg; have n10_ := ngt_ (g := gb357) hg; have n11_ := nlt_ (g := gb358) hg; have n12_ := ngt_ (g := gb358) hg; clear BK356; clear BK357; clear BK358; clear HB; have BK356 := n0_; have BK357 := n1_; have BK358 := n2_; have HB := n3_; have BK361 := n4_; have GW361 := n5_; have GE361 := n6_; have NB356_361 := n7_; have NB361_356 := n8_; have NB357_361 := n9_; have NB361_357 := n10_; have NB358_361 := n11_; have NB361_358 := n12_; clear n0_ n1_ n2_ n3_ n4_ n5_ n6_ n7_ n8_ n9_ n10_ n11_ n12_; clear hb hbox hg; have hnb78 := NB361_356.out; have hnc78 := NB356_361.out; have hnb79 := NB361_357.out; have hnc79 := NB357_361.out; have hnb80 := NB361_358.out; have hnc80 := NB358_361.out; obtain ⟨hcz81_0, hcz81_1, hcz81_2, hfz81_0, hfz81_1, hfz81_2⟩ := cf3_ (w := w77) BK361.out; have hs361_0 : ∀ v0 v1 v2 : Value, (((w77.setCell ⟨gb361, 0, none⟩ v0).setCell ⟨gb361, 1, none⟩ v1).setCell ⟨gb361, 2, none⟩ v2).cell? ⟨gb361, 0, none⟩ = some v0 := fun _ _ _ => set3_0 BK361.out; have hs361_1 : ∀ v0 v1 v2 : Value, (((w77.setCell ⟨gb361, 0, none⟩ v0).setCell ⟨gb361, 1, none⟩ v1).setCell ⟨gb361, 2, none⟩ v2).cell? ⟨gb361, 1, none⟩ = some v1 := fun _ _ _ => set3_1 BK361.out; have hs361_2 : ∀ v0 v1 v2 : Value, (((w77.setCell ⟨gb361, 0, none⟩ v0).setCell ⟨gb361, 1, none⟩ v1).setCell ⟨gb361, 2, none⟩ v2).cell? ⟨gb361, 2, none⟩ = some v2 := fun _ _ _ => set3_2 BK361.out; obtain ⟨hcz82_0, hcz82_1, hcz82_2, hfz82_0, hfz82_1, hfz82_2⟩ := cf3_ (w := w77) BK356.out) | ((with_reducible refine gate_callee (f := 24) rfl ?_); refine goesL_ (some 47) rfl rfl Tryd.func24 (by kernel_rfl) rfl #[.agg #[.bool a0_0, .int .u64 (IntKind.u64.wrap (a0_1 + a1_1)), .int .u64 (IntKind.u64.wrap (a0_2 + a1_2))]] rfl mp_ ?_; (with_reducible refine (spec_WideOk.calls a0_0 (IntKind.u64.wrap (a0_1 + a1_1)) (IntKind.u64.wrap (a0_2 + a1_2)) false _ A56.out).mono ?_); rintro e w83 ⟨rfl, hb⟩; refine ⟨_, rfl, ?_⟩; have n0_ := Aside0.mk (blk_below (g := gb356) (o := .cells #[.bool a0_0, .int .u64 a0_1, .int .u64 a0_2] 28 (0, 0)) bk_ hb); have n1_ := Aside0.mk (blk_below (g := gb357) (o := .cells #[.bool a1_0, .int .u64 a1_1, .int .u64 a1_2] 28 (0, 0)) bk_ hb); have n2_ := Aside0.mk (blk_below (g := gb358) (o := .cells #[.bool false, .int .u64 0, .int .u64 0] 28 (0, 0)) bk_ hb); have n3_ := Aside0.mk (blk_below (g := gb361) (o := .cells #[.bool a0_0, .int .u64 (IntKind.u64.wrap (a0_1 + a1_1)), .int .u64 (IntKind.u64.wrap (a0_2 + a1_2))] 28 (0, 0)) (pu_ #[.bool a0_0, .int .u64 (IntKind.u64.wrap (a0_1 + a1_1)), .int .u64 0] 2 (h := (pu_ #[.bool a0_0, .int .u64 0, .int .u64 0] 1 (h := (pu_ #[.bool false, .int .u64 0, .int .u64 0] 0 (h := bk_)))))) hb); have n4_ := Aside0.mk (below_step bel_ hb); clear BK356; clear BK357; clear BK358; clear BK361; clear HB; have BK356 := n0_; have BK357 := n1_; have BK358 := n2_; have BK361 := n3_; have HB := n4_; clear n0_ n1_ n2_ n3_ n4_; (try clear hb); (try clear hb2); (try clear hk); (try clear hi); obtain ⟨hcz84_0, hcz84_1, hcz84_2, hfz84_0, hfz84_1, hfz84_2⟩ := cf3_ (w := w83) BK358.out; have hs358_0 : ∀ v0 v1 v2 : Value, (((w83.setCell ⟨gb358, 0, none⟩ v0).setCell ⟨gb358, 1, none⟩ v1).setCell ⟨gb358, 2, none⟩ v2).cell? ⟨gb358, 0, none⟩ = some v0 := fun _ _ _ => set3_0 BK358.out; have hs358_1 : ∀ v0 v1 v2 : Value, (((w83.setCell ⟨gb358, 0, none⟩ v0).setCell ⟨gb358, 1, none⟩ v1).setCell ⟨gb358, 2, none⟩ v2).cell? ⟨gb358, 1, none⟩ = some v1 := fun _ _ _ => set3_1 BK358.out; have hs358_2 : ∀ v0 v1 v2 : Value, (((w83.setCell ⟨gb358, 0, none⟩ v0).setCell ⟨gb358, 1, none⟩ v1).setCell ⟨gb358, 2, none⟩ v2).cell? ⟨gb358, 2, none⟩ = some v2 := fun _ _ _ => set3_2 BK358.out))
              refine bodyPost_ret (results_ct rfl _ _ gb358 28 #[.bool false, .int .u64 0, .int .u64 0] (0, 0) _ rfl (pu_ #[.bool false, .int .u64 0, .int .u64 0] 2 (h := (pu_ #[.bool false, .int .u64 0, .int .u64 0] 1 (h := (pu_ #[.bool false, .int .u64 0, .int .u64 0] 0 (h := bk_)))))) Tryd.underlying28 rfl (by kernel_rfl)) rfl ?_
              exact ⟨rf_, bel_⟩
        · rw [if_neg c25] at H
          have c25b0 : (a0_0 == a1_0) = false := by simpa using c25
          (try (have c25b1 : decide (a0_0 = a1_0) = false := by simpa using c25))
          (try (have c25b2 : (a0_0 == a1_0) = false := by simpa using c25))
          (try (have c25b3 : ¬ (a0_0 = a1_0) := by simpa using c25))
          clear c25
          replace H := Option.bind_eq_some_iff.mp H
          obtain ⟨t366, A850, H⟩ := H
          replace H : (if t366 < 0 then (spec_AddWide.j1 kj2 a1_0 a1_1 a1_2 a0_0 a0_1 a0_2) else (spec_AddWide.j1 kj2 a0_0 a0_1 a0_2 a1_0 a1_1 a1_2)) = some (r1, r2, r3, r4) := H
          have A85 := Aside0.mk A850
          clear A850
          have HC86 := Aside0.mk H
          clear H
          have hnb87 := NB356_357.out
          have hnc87 := NB357_356.out
          have hnb88 := NB356_358.out
          have hnc88 := NB358_356.out
          obtain ⟨hcz89_0, hcz89_1, hcz89_2, hfz89_0, hfz89_1, hfz89_2⟩ := cf3_ (w := wc) BK356.out
          have hnb90 := NB357_358.out
          have hnc90 := NB358_357.out
          obtain ⟨hcz91_0, hcz91_1, hcz91_2, hfz91_0, hfz91_1, hfz91_2⟩ := cf3_ (w := wc) BK357.out
          go_upto_if 56 with (first | ((with_reducible refine gate_dst (N := 7) rfl ?_); refine box_event ?hg (N := 7) ?hd (cs := #[.bool false, .int .u64 0, .int .u64 0]) (t := 28) ?hr ?_; (case hd => rfl); (case hg => rfl); (case hr => first | (go_simp; done) | (go_simp; rfl)); intro gb364 hg w92 hbox hb; have n0_ := bb_ (g := gb356) hb; have n1_ := bb_ (g := gb357) hb; have n2_ := bb_ (g := gb358) hb; have n3_ := Aside0.mk (below_step bel_ hb); have n4_ := Aside0.mk (hbox); have n5_ := bs_ (w := w) hg; have n6_ := bs_ (w := w) hg; have n7_ := nlt_ (g := gb356) hg; have n8_ := ngt_ (g := gb356) hg; have n9_ := nlt_ (g := gb357) hg; have n10_ := ngt_ (g := gb357) hg; have n11_ := nlt_ (g := gb358) hg; have n12_ := ngt_ (g := gb358) hg; clear BK356; clear BK357; clear BK358; clear HB; have BK356 := n0_; have BK357 := n1_; have BK358 := n2_; have HB := n3_; have BK364 := n4_; have GW364 := n5_; have GE364 := n6_; have NB356_364 := n7_; have NB364_356 := n8_; have NB357_364 := n9_; have NB364_357 := n10_; have NB358_364 := n11_; have NB364_358 := n12_; clear n0_ n1_ n2_ n3_ n4_ n5_ n6_ n7_ n8_ n9_ n10_ n11_ n12_; clear hb hbox hg; have hnb93 := NB364_356.out; have hnc93 := NB356_364.out; have hnb94 := NB364_357.out; have hnc94 := NB357_364.out; have hnb95 := NB364_358.out; have hnc95 := NB358_364.out; obtain ⟨hcz96_0, hcz96_1, hcz96_2, hfz96_0, hfz96_1, hfz96_2⟩ := cf3_ (w := w92) BK364.out; have hs364_0 : ∀ v0 v1 v2 : Value, (((w92.setCell ⟨gb364, 0, none⟩ v0).setCell ⟨gb364, 1, none⟩ v1).setCell ⟨gb364, 2, none⟩ v2).cell? ⟨gb364, 0, none⟩ = some v0 := fun _ _ _ => set3_0 BK364.out; have hs364_1 : ∀ v0 v1 v2 : Value, (((w92.setCell ⟨gb364, 0, none⟩ v0).setCell ⟨gb364, 1, none⟩ v1).setCell ⟨gb364, 2, none⟩ v2).cell? ⟨gb364, 1, none⟩ = some v1 := fun _ _ _ => set3_1 BK364.out; have hs364_2 : ∀ v0 v1 v2 : Value, (((w92.setCell ⟨gb364, 0, none⟩ v0).setCell ⟨gb364, 1, none⟩ v1).setCell ⟨gb364, 2, none⟩ v2).cell? ⟨gb364, 2, none⟩ = some v2 := fun _ _ _ => set3_2 BK364.out; obtain ⟨hcz97_0, hcz97_1, hcz97_2, hfz97_0, hfz97_1, hfz97_2⟩ := cf3_ (w := w92) BK357.out) | ((with_reducible refine gate_dst (N := 8) rfl ?_); refine box_event ?hg (N := 8) ?hd (cs := #[.bool false, .int .u64 0, .int .u64 0]) (t := 28) ?hr ?_; (case hd => rfl); (case hg => rfl); (case hr => first | (go_simp; done) | (go_simp; rfl)); intro gb365 hg w98 hbox hb; have n0_ := Aside0.mk (blk_below (g := gb356) (o := .cells #[.bool a0_0, .int .u64 a0_1, .int .u64 a0_2] 28 (0, 0)) bk_ hb); have n1_ := Aside0.mk (blk_below (g := gb357) (o := .cells #[.bool a1_0, .int .u64 a1_1, .int .u64 a1_2] 28 (0, 0)) bk_ hb); have n2_ := Aside0.mk (blk_below (g := gb358) (o := .cells #[.bool false, .int .u64 0, .int .u64 0] 28 (0, 0)) bk_ hb); have n3_ := Aside0.mk (blk_below (g := gb364) (o := .cells #[.bool a0_0, .int .u64 a0_1, .int .u64 a0_2] 28 (0, 0)) (pu_ #[.bool a0_0, .int .u64 a0_1, .int .u64 0] 2 (h := (pu_ #[.bool a0_0, .int .u64 0, .int .u64 0] 1 (h := (pu_ #[.bool false, .int .u64 0, .int .u64 0] 0 (h := bk_)))))) hb); have n4_ := Aside0.mk (below_step bel_ hb); have n5_ := Aside0.mk (hbox); have n6_ := bs_ (w := w) hg; have n7_ := bs_ (w := w) hg; have n8_ := Aside0.mk ((by rw [hg]; exact Nat.ne_of_lt (blk_lt (g := gb356) (o := .cells #[.bool a0_0, .int .u64 a0_1, .int .u64 a0_2] 28 (0, 0)) bk_) : gb356 ≠ gb365)); have n9_ := Aside0.mk ((by rw [hg]; exact Nat.ne_of_gt (blk_lt (g := gb356) (o := .cells #[.bool a0_0, .int .u64 a0_1, .int .u64 a0_2] 28 (0, 0)) bk_) : gb365 ≠ gb356)); have n10_ := Aside0.mk ((by rw [hg]; exact Nat.ne_of_lt (blk_lt (g := gb357) (o := .cells #[.bool a1_0, .int .u64 a1_1, .int .u64 a1_2] 28 (0, 0)) bk_) : gb357 ≠ gb365)); have n11_ := Aside0.mk ((by rw [hg]; exact Nat.ne_of_gt (blk_lt (g := gb357) (o := .cells #[.bool a1_0, .int .u64 a1_1, .int .u64 a1_2] 28 (0, 0)) bk_) : gb365 ≠ gb357)); have n12_ := Aside0.mk ((by rw [hg]; exact Nat.ne_of_lt (blk_lt (g := gb358) (o := .cells #[.bool false, .int .u64 0, .int .u64 0] 28 (0, 0)) bk_) : gb358 ≠ gb365)); have n13_ := Aside0.mk ((by rw [hg]; exact Nat.ne_of_gt (blk_lt (g := gb358) (o := .cells #[.bool false, .int .u64 0, .int .u64 0] 28 (0, 0)) bk_) : gb365 ≠ gb358)); have n14_ := Aside0.mk ((by rw [hg]; exact Nat.ne_of_lt (blk_lt (g := gb364) (o := .cells #[.bool a0_0, .int .u64 a0_1, .int .u64 a0_2] 28 (0, 0)) (pu_ #[.bool a0_0, .int .u64 a0_1, .int .u64 0] 2 (h := (pu_ #[.bool a0_0, .int .u64 0, .int .u64 0] 1 (h := (pu_ #[.bool false, .int .u64 0, .int .u64 0] 0 (h := bk_))))))) : gb364 ≠ gb365)); have n15_ := Aside0.mk ((by rw [hg]; exact Nat.ne_of_gt (blk_lt (g := gb364) (o := .cells #[.bool a0_0, .int .u64 a0_1, .int .u64 a0_2] 28 (0, 0)) (pu_ #[.bool a0_0, .int .u64 a0_1, .int .u64 0] 2 (h := (pu_ #[.bool a0_0, .int .u64 0, .int .u64 0] 1 (h := (pu_ #[.bool false, .int .u64 0, .int .u64 0] 0 (h := bk_))))))) : gb365 ≠ gb364)); clear BK356; clear BK357; clear BK358; clear BK364; clear HB; have BK356 := n0_; have BK357 := n1_; have BK358 := n2_; have BK364 := n3_; have HB := n4_; have BK365 := n5_; have GW365 := n6_; have GE365 := n7_; have NB356_365 := n8_; have NB365_356 := n9_; have NB357_365 := n10_; have NB365_357 := n11_; have NB358_365 := n12_; have NB365_358 := n13_; have NB364_365 := n14_; have NB365_364 := n15_; clear n0_ n1_ n2_ n3_ n4_ n5_ n6_ n7_ n8_ n9_ n10_ n11_ n12_ n13_ n14_ n15_; clear hb hbox hg; have hnb99 := NB365_356.out; have hnc99 := NB356_365.out; have hnb100 := NB365_357.out; have hnc100 := NB357_365.out; have hnb101 := NB365_358.out; have hnc101 := NB358_365.out; have hnb102 := NB365_364.out; have hnc102 := NB364_365.out; obtain ⟨hcz103_0, hcz103_1, hcz103_2, hfz103_0, hfz103_1, hfz103_2⟩ := cf3_ (w := w98) BK365.out; have hs365_0 : ∀ v0 v1 v2 : Value, (((w98.setCell ⟨gb365, 0, none⟩ v0).setCell ⟨gb365, 1, none⟩ v1).setCell ⟨gb365, 2, none⟩ v2).cell? ⟨gb365, 0, none⟩ = some v0 := fun _ _ _ => set3_0 BK365.out; have hs365_1 : ∀ v0 v1 v2 : Value, (((w98.setCell ⟨gb365, 0, none⟩ v0).setCell ⟨gb365, 1, none⟩ v1).setCell ⟨gb365, 2, none⟩ v2).cell? ⟨gb365, 1, none⟩ = some v1 := fun _ _ _ => set3_1 BK365.out; have hs365_2 : ∀ v0 v1 v2 : Value, (((w98.setCell ⟨gb365, 0, none⟩ v0).setCell ⟨gb365, 1, none⟩ v1).setCell ⟨gb365, 2, none⟩ v2).cell? ⟨gb365, 2, none⟩ = some v2 := fun _ _ _ => set3_2 BK365.out; obtain ⟨hcz104_0, hcz104_1, hcz104_2, hfz104_0, hfz104_1, hfz104_2⟩ := cf3_ (w := w98) BK356.out; obtain ⟨hcz105_0, hcz105_1, hcz105_2, hfz105_0, hfz105_1, hfz105_2⟩ := cf3_ (w := w98) BK357.out) | ((with_reducible refine gate_callee (f := 74) rfl ?_); refine goesL_ (some 55) rfl rfl Tryd.func74 (by kernel_rfl) rfl #[.agg #[.bool a0_0, .int .u64 a0_1, .int .u64 a0_2], .agg #[.bool a1_0, .int .u64 a1_1, .int .u64 a1_2]] rfl mp_ ?_; (with_reducible refine (spec_l3Order.calls kj2 a0_0 a0_1 a0_2 a1_0 a1_1 a1_2 t366 _ A85.out).mono ?_); rintro e w106 ⟨rfl, hb⟩; refine ⟨_, rfl, ?_⟩; have n0_ := Aside0.mk (blk_below (g := gb356) (o := .cells #[.bool a0_0, .int .u64 a0_1, .int .u64 a0_2] 28 (0, 0)) bk_ hb); have n1_ := Aside0.mk (blk_below (g := gb357) (o := .cells #[.bool a1_0, .int .u64 a1_1, .int .u64 a1_2] 28 (0, 0)) bk_ hb); have n2_ := Aside0.mk (blk_below (g := gb358) (o := .cells #[.bool false, .int .u64 0, .int .u64 0] 28 (0, 0)) bk_ hb); have n3_ := Aside0.mk (blk_below (g := gb364) (o := .cells #[.bool a0_0, .int .u64 a0_1, .int .u64 a0_2] 28 (0, 0)) bk_ hb); have n4_ := Aside0.mk (blk_below (g := gb365) (o := .cells #[.bool a1_0, .int .u64 a1_1, .int .u64 a1_2] 28 (0, 0)) (pu_ #[.bool a1_0, .int .u64 a1_1, .int .u64 0] 2 (h := (pu_ #[.bool a1_0, .int .u64 0, .int .u64 0] 1 (h := (pu_ #[.bool false, .int .u64 0, .int .u64 0] 0 (h := bk_)))))) hb); have n5_ := Aside0.mk (below_step bel_ hb); clear BK356; clear BK357; clear BK358; clear BK364; clear BK365; clear HB; have BK356 := n0_; have BK357 := n1_; have BK358 := n2_; have BK364 := n3_; have BK365 := n4_; have HB := n5_; clear n0_ n1_ n2_ n3_ n4_ n5_; (try clear hb); (try clear hb2); (try clear hk); (try clear hi)))
          (try simp only [Act.put, la_, lb_, lc_])
          go_cut [] (fun wc => ∃ (kq : Nat) (x365000_85 : Bool) (x365001_85 : Int) (x365002_85 : Int) (x366000_85 : Bool) (x366001_85 : Int) (x366002_85 : Int), Aside0 (spec_AddWide.j1 kq x365000_85 x365001_85 x365002_85 x366000_85 x366001_85 x366002_85 = some (r1, r2, r3, r4)) ∧ Aside0 (kq ≤ kj2) ∧ Aside0 (wc.heap[gb356]? = some (.cells #[.bool a0_0, .int .u64 a0_1, .int .u64 a0_2] 28 (0, 0))) ∧ Aside0 (wc.heap[gb357]? = some (.cells #[.bool a1_0, .int .u64 a1_1, .int .u64 a1_2] 28 (0, 0))) ∧ Aside0 (wc.heap[gb358]? = some (.cells #[.bool false, .int .u64 0, .int .u64 0] 28 (0, 0))) ∧ Aside0 (wc.heap[gb364]? = some (.cells #[.bool x365000_85, .int .u64 x365001_85, .int .u64 x365002_85] 28 (0, 0))) ∧ Aside0 (wc.heap[gb365]? = some (.cells #[.bool x366000_85, .int .u64 x366001_85, .int .u64 x366002_85] 28 (0, 0))) ∧ Aside0 (Below w.heap.size w wc))
          case first =>
            have H := HC86.out
            clear HC86
            by_cases c107 : t366 < 0
            · rw [if_pos c107] at H
              have c107b0 : decide (t366 < 0) = true := decide_eq_true c107
              clear c107
              (first | rw [c107b0] | (simp only [i64_w, i32_w]; rw [c107b0]) | skip)
              have H' := Aside0.mk H
              clear H
              have hnb108 := NB357_356.out
              have hnc108 := NB356_357.out
              have hnb109 := NB357_358.out
              have hnc109 := NB358_357.out
              have hnb110 := NB357_364.out
              have hnc110 := NB364_357.out
              have hnb111 := NB357_365.out
              have hnc111 := NB365_357.out
              obtain ⟨hcz112_0, hcz112_1, hcz112_2, hfz112_0, hfz112_1, hfz112_2⟩ := cf3_ (w := w106) BK357.out
              have hnb113 := NB364_356.out
              have hnc113 := NB356_364.out
              have hnb114 := NB364_358.out
              have hnc114 := NB358_364.out
              have hnb115 := NB364_365.out
              have hnc115 := NB365_364.out
              obtain ⟨hcz116_0, hcz116_1, hcz116_2, hfz116_0, hfz116_1, hfz116_2⟩ := cf3_ (w := w106) BK364.out
              have hnb117 := NB356_358.out
              have hnc117 := NB358_356.out
              have hnb118 := NB356_365.out
              have hnc118 := NB365_356.out
              obtain ⟨hcz119_0, hcz119_1, hcz119_2, hfz119_0, hfz119_1, hfz119_2⟩ := cf3_ (w := w106) BK356.out
              have hnb120 := NB365_358.out
              have hnc120 := NB358_365.out
              obtain ⟨hcz121_0, hcz121_1, hcz121_2, hfz121_0, hfz121_1, hfz121_2⟩ := cf3_ (w := w106) BK365.out
              go_wp2
              go_meet
              case rel => exact ⟨_, (a1_0), (a1_1), (a1_2), (a0_0), (a0_1), (a0_2), H', ⟨by have := HJ2.out; first | omega | exact Nat.le_refl _⟩, ⟨by (with_reducible repeat (first | refine bN_ _ ?_ | refine bd_ ?_ | refine ba_ _ ?_)); refine blk_far ?_ NB356_365.out _; (with_reducible repeat (first | refine bN_ _ ?_ | refine bd_ ?_ | refine ba_ _ ?_)); refine blk_far ?_ NB356_365.out _; (with_reducible repeat (first | refine bN_ _ ?_ | refine bd_ ?_ | refine ba_ _ ?_)); refine blk_far ?_ NB356_365.out _; (with_reducible repeat (first | refine bN_ _ ?_ | refine bd_ ?_ | refine ba_ _ ?_)); refine blk_far ?_ NB356_364.out _; (with_reducible repeat (first | refine bN_ _ ?_ | refine bd_ ?_ | refine ba_ _ ?_)); refine blk_far ?_ NB356_364.out _; (with_reducible repeat (first | refine bN_ _ ?_ | refine bd_ ?_ | refine ba_ _ ?_)); refine blk_far ?_ NB356_364.out _; (with_reducible repeat (first | refine bN_ _ ?_ | refine bd_ ?_ | refine ba_ _ ?_)); exact BK356.out⟩, ⟨by (with_reducible repeat (first | refine bN_ _ ?_ | refine bd_ ?_ | refine ba_ _ ?_)); refine blk_far ?_ NB357_365.out _; (with_reducible repeat (first | refine bN_ _ ?_ | refine bd_ ?_ | refine ba_ _ ?_)); refine blk_far ?_ NB357_365.out _; (with_reducible repeat (first | refine bN_ _ ?_ | refine bd_ ?_ | refine ba_ _ ?_)); refine blk_far ?_ NB357_365.out _; (with_reducible repeat (first | refine bN_ _ ?_ | refine bd_ ?_ | refine ba_ _ ?_)); refine blk_far ?_ NB357_364.out _; (with_reducible repeat (first | refine bN_ _ ?_ | refine bd_ ?_ | refine ba_ _ ?_)); refine blk_far ?_ NB357_364.out _; (with_reducible repeat (first | refine bN_ _ ?_ | refine bd_ ?_ | refine ba_ _ ?_)); refine blk_far ?_ NB357_364.out _; (with_reducible repeat (first | refine bN_ _ ?_ | refine bd_ ?_ | refine ba_ _ ?_)); exact BK357.out⟩, ⟨by (with_reducible repeat (first | refine bN_ _ ?_ | refine bd_ ?_ | refine ba_ _ ?_)); refine blk_far ?_ NB358_365.out _; (with_reducible repeat (first | refine bN_ _ ?_ | refine bd_ ?_ | refine ba_ _ ?_)); refine blk_far ?_ NB358_365.out _; (with_reducible repeat (first | refine bN_ _ ?_ | refine bd_ ?_ | refine ba_ _ ?_)); refine blk_far ?_ NB358_365.out _; (with_reducible repeat (first | refine bN_ _ ?_ | refine bd_ ?_ | refine ba_ _ ?_)); refine blk_far ?_ NB358_364.out _; (with_reducible repeat (first | refine bN_ _ ?_ | refine bd_ ?_ | refine ba_ _ ?_)); refine blk_far ?_ NB358_364.out _; (with_reducible repeat (first | refine bN_ _ ?_ | refine bd_ ?_ | refine ba_ _ ?_)); refine blk_far ?_ NB358_364.out _; (with_reducible repeat (first | refine bN_ _ ?_ | refine bd_ ?_ | refine ba_ _ ?_)); exact BK358.out⟩, ⟨by (with_reducible repeat (first | refine bN_ _ ?_ | refine bd_ ?_ | refine ba_ _ ?_)); refine blk_far ?_ NB364_365.out _; (with_reducible repeat (first | refine bN_ _ ?_ | refine bd_ ?_ | refine ba_ _ ?_)); refine blk_far ?_ NB364_365.out _; (with_reducible repeat (first | refine bN_ _ ?_ | refine bd_ ?_ | refine ba_ _ ?_)); refine blk_far ?_ NB364_365.out _; (with_reducible repeat (first | refine bN_ _ ?_ | refine bd_ ?_ | refine ba_ _ ?_)); refine blk_put (cs := #[.bool a1_0, .int .u64 a1_1, .int .u64 a0_2]) ?_ 2 _ rfl; (with_reducible repeat (first | refine bN_ _ ?_ | refine bd_ ?_ | refine ba_ _ ?_)); refine blk_put (cs := #[.bool a1_0, .int .u64 a0_1, .int .u64 a0_2]) ?_ 1 _ rfl; (with_reducible repeat (first | refine bN_ _ ?_ | refine bd_ ?_ | refine ba_ _ ?_)); refine blk_put (cs := #[.bool a0_0, .int .u64 a0_1, .int .u64 a0_2]) ?_ 0 _ rfl; (with_reducible repeat (first | refine bN_ _ ?_ | refine bd_ ?_ | refine ba_ _ ?_)); exact BK364.out⟩, ⟨by (with_reducible repeat (first | refine bN_ _ ?_ | refine bd_ ?_ | refine ba_ _ ?_)); refine blk_put (cs := #[.bool a0_0, .int .u64 a0_1, .int .u64 a1_2]) ?_ 2 _ rfl; (with_reducible repeat (first | refine bN_ _ ?_ | refine bd_ ?_ | refine ba_ _ ?_)); refine blk_put (cs := #[.bool a0_0, .int .u64 a1_1, .int .u64 a1_2]) ?_ 1 _ rfl; (with_reducible repeat (first | refine bN_ _ ?_ | refine bd_ ?_ | refine ba_ _ ?_)); refine blk_put (cs := #[.bool a1_0, .int .u64 a1_1, .int .u64 a1_2]) ?_ 0 _ rfl; (with_reducible repeat (first | refine bN_ _ ?_ | refine bd_ ?_ | refine ba_ _ ?_)); refine blk_far ?_ NB365_364.out _; (with_reducible repeat (first | refine bN_ _ ?_ | refine bd_ ?_ | refine ba_ _ ?_)); refine blk_far ?_ NB365_364.out _; (with_reducible repeat (first | refine bN_ _ ?_ | refine bd_ ?_ | refine ba_ _ ?_)); refine blk_far ?_ NB365_364.out _; (with_reducible repeat (first | refine bN_ _ ?_ | refine bd_ ?_ | refine ba_ _ ?_)); exact BK365.out⟩, ⟨bel_⟩⟩
            · rw [if_neg c107] at H
              have c107b0 : decide (t366 < 0) = false := decide_eq_false c107
              clear c107
              (first | rw [c107b0] | (simp only [i64_w, i32_w]; rw [c107b0]) | skip)
              have H' := Aside0.mk H
              clear H
              go_wp2
              go_meet
              case rel => exact ⟨_, (a0_0), (a0_1), (a0_2), (a1_0), (a1_1), (a1_2), H', ⟨by have := HJ2.out; first | omega | exact Nat.le_refl _⟩, ⟨by (with_reducible repeat (first | refine bN_ _ ?_ | refine bd_ ?_ | refine ba_ _ ?_)); exact BK356.out⟩, ⟨by (with_reducible repeat (first | refine bN_ _ ?_ | refine bd_ ?_ | refine ba_ _ ?_)); exact BK357.out⟩, ⟨by (with_reducible repeat (first | refine bN_ _ ?_ | refine bd_ ?_ | refine ba_ _ ?_)); exact BK358.out⟩, ⟨by (with_reducible repeat (first | refine bN_ _ ?_ | refine bd_ ?_ | refine ba_ _ ?_)); exact BK364.out⟩, ⟨by (with_reducible repeat (first | refine bN_ _ ?_ | refine bd_ ?_ | refine ba_ _ ?_)); exact BK365.out⟩, ⟨bel_⟩⟩
          case rest =>
            clear HC86
            try clear c1
            try clear c2
            try clear p2
            try clear c3
            try clear c4
            try clear c5
            try clear c6
            try clear c7
            try clear c8
            try clear c9
            try clear c10
            try clear c11
            try clear c12
            try clear c14
            try clear c17
            try clear c18
            try clear c21
            try clear c22
            try clear c23
            try clear c24
            try clear c25
            try clear c25b0
            try clear c25b1
            try clear c25b2
            try clear c26
            try clear c26b0
            try clear c28
            try clear c29
            try clear c30
            try clear c32
            try clear c35
            try clear c36
            try clear c37
            try clear c43
            try clear c44
            try clear c46
            try clear c49
            try clear c50
            try clear c51
            try clear c57
            try clear c58
            try clear c59
            try clear c61
            try clear c64
            try clear c65
            try clear c66
            try clear c72
            try clear c73
            try clear c74
            try clear c75
            try clear c78
            try clear c79
            try clear c80
            try clear c87
            try clear c88
            try clear c90
            try clear c93
            try clear c94
            try clear c95
            try clear c99
            try clear c100
            try clear c101
            try clear c102
            try clear c107
            try clear c107b0
            try clear c108
            try clear c109
            try clear c110
            try clear c111
            try clear c113
            try clear c114
            try clear c115
            try clear c117
            try clear c118
            try clear c120
            try clear hcz103_0
            try clear hcz103_1
            try clear hcz103_2
            try clear hcz104_0
            try clear hcz104_1
            try clear hcz104_2
            try clear hcz105_0
            try clear hcz105_1
            try clear hcz105_2
            try clear hcz112_0
            try clear hcz112_1
            try clear hcz112_2
            try clear hcz116_0
            try clear hcz116_1
            try clear hcz116_2
            try clear hcz119_0
            try clear hcz119_1
            try clear hcz119_2
            try clear hcz121_0
            try clear hcz121_1
            try clear hcz121_2
            try clear hcz12_0
            try clear hcz12_1
            try clear hcz12_2
            try clear hcz15_0
            try clear hcz15_1
            try clear hcz15_2
            try clear hcz19_0
            try clear hcz19_1
            try clear hcz19_2
            try clear hcz24_0
            try clear hcz24_1
            try clear hcz24_2
            try clear hcz31_0
            try clear hcz31_1
            try clear hcz31_2
            try clear hcz33_0
            try clear hcz33_1
            try clear hcz33_2
            try clear hcz38_0
            try clear hcz38_1
            try clear hcz38_2
            try clear hcz39_0
            try clear hcz39_1
            try clear hcz39_2
            try clear hcz41_0
            try clear hcz41_1
            try clear hcz41_2
            try clear hcz42_0
            try clear hcz42_1
            try clear hcz42_2
            try clear hcz45_0
            try clear hcz45_1
            try clear hcz45_2
            try clear hcz47_0
            try clear hcz47_1
            try clear hcz47_2
            try clear hcz52_0
            try clear hcz52_1
            try clear hcz52_2
            try clear hcz53_0
            try clear hcz53_1
            try clear hcz53_2
            try clear hcz55_0
            try clear hcz55_1
            try clear hcz55_2
            try clear hcz60_0
            try clear hcz60_1
            try clear hcz60_2
            try clear hcz62_0
            try clear hcz62_1
            try clear hcz62_2
            try clear hcz67_0
            try clear hcz67_1
            try clear hcz67_2
            try clear hcz68_0
            try clear hcz68_1
            try clear hcz68_2
            try clear hcz70_0
            try clear hcz70_1
            try clear hcz70_2
            try clear hcz71_0
            try clear hcz71_1
            try clear hcz71_2
            try clear hcz74_0
            try clear hcz74_1
            try clear hcz74_2
            try clear hcz76_0
            try clear hcz76_1
            try clear hcz76_2
            try clear hcz81_0
            try clear hcz81_1
            try clear hcz81_2
            try clear hcz82_0
            try clear hcz82_1
            try clear hcz82_2
            try clear hcz84_0
            try clear hcz84_1
            try clear hcz84_2
            try clear hcz89_0
            try clear hcz89_1
            try clear hcz89_2
            try clear hcz91_0
            try clear hcz91_1
            try clear hcz91_2
            try clear hcz96_0
            try clear hcz96_1
            try clear hcz96_2
            try clear hcz97_0
            try clear hcz97_1
            try clear hcz97_2
            try clear hfz103_0
            try clear hfz103_1
            try clear hfz103_2
            try clear hfz104_0
            try clear hfz104_1
            try clear hfz104_2
            try clear hfz105_0
            try clear hfz105_1
            try clear hfz105_2
            try clear hfz112_0
            try clear hfz112_1
            try clear hfz112_2
            try clear hfz116_0
            try clear hfz116_1
            try clear hfz116_2
            try clear hfz119_0
            try clear hfz119_1
            try clear hfz119_2
            try clear hfz121_0
            try clear hfz121_1
            try clear hfz121_2
            try clear hfz12_0
            try clear hfz12_1
            try clear hfz12_2
            try clear hfz15_0
            try clear hfz15_1
            try clear hfz15_2
            try clear hfz19_0
            try clear hfz19_1
            try clear hfz19_2
            try clear hfz24_0
            try clear hfz24_1
            try clear hfz24_2
            try clear hfz31_0
            try clear hfz31_1
            try clear hfz31_2
            try clear hfz33_0
            try clear hfz33_1
            try clear hfz33_2
            try clear hfz38_0
            try clear hfz38_1
            try clear hfz38_2
            try clear hfz39_0
            try clear hfz39_1
            try clear hfz39_2
            try clear hfz41_0
            try clear hfz41_1
            try clear hfz41_2
            try clear hfz42_0
            try clear hfz42_1
            try clear hfz42_2
            try clear hfz45_0
            try clear hfz45_1
            try clear hfz45_2
            try clear hfz47_0
            try clear hfz47_1
            try clear hfz47_2
            try clear hfz52_0
            try clear hfz52_1
            try clear hfz52_2
            try clear hfz53_0
            try clear hfz53_1
            try clear hfz53_2
            try clear hfz55_0
            try clear hfz55_1
            try clear hfz55_2
            try clear hfz60_0
            try clear hfz60_1
            try clear hfz60_2
            try clear hfz62_0
            try clear hfz62_1
            try clear hfz62_2
            try clear hfz67_0
            try clear hfz67_1
            try clear hfz67_2
            try clear hfz68_0
            try clear hfz68_1
            try clear hfz68_2
            try clear hfz70_0
            try clear hfz70_1
            try clear hfz70_2
            try clear hfz71_0
            try clear hfz71_1
            try clear hfz71_2
            try clear hfz74_0
            try clear hfz74_1
            try clear hfz74_2
            try clear hfz76_0
            try clear hfz76_1
            try clear hfz76_2
            try clear hfz81_0
            try clear hfz81_1
            try clear hfz81_2
            try clear hfz82_0
            try clear hfz82_1
            try clear hfz82_2
            try clear hfz84_0
            try clear hfz84_1
            try clear hfz84_2
            try clear hfz89_0
            try clear hfz89_1
            try clear hfz89_2
            try clear hfz91_0
            try clear hfz91_1
            try clear hfz91_2
            try clear hfz96_0
            try clear hfz96_1
            try clear hfz96_2
            try clear hfz97_0
            try clear hfz97_1
            try clear hfz97_2
            try clear p2
            obtain ⟨kq, x365000_85, x365001_85, x365002_85, x366000_85, x366001_85, x366002_85, HA, HJ85, BK356, BK357, BK358, BK364, BK365, HB⟩ := hcut
            cases kq with
            | zero => exact absurd HA.out (by simp [spec_AddWide.j1])
            | succ kj85 =>
              have H := HA.out
              clear HA
              simp only [spec_AddWide.j1] at H
              by_cases c122 : x365002_85 < x366002_85
              · rw [if_pos c122] at H
                have c122b0 : decide (x365002_85 < x366002_85) = true := decide_eq_true c122
                clear c122
                replace H := Option.bind_eq_some_iff.mp H
                obtain ⟨t368, A1230, H⟩ := H
                replace H : (if t368 = true then (some (false, IntKind.u64.wrap ((IntKind.u64.wrap (x365001_85 - x366001_85)) - 1), IntKind.u64.wrap (x365002_85 - x366002_85), true)) else (some (x365000_85, IntKind.u64.wrap ((IntKind.u64.wrap (x365001_85 - x366001_85)) - 1), IntKind.u64.wrap (x365002_85 - x366002_85), true))) = some (r1, r2, r3, r4) := H
                have A123 := Aside0.mk A1230
                clear A1230
                by_cases c124 : t368 = true
                · subst c124
                  have H1 : (some (false, IntKind.u64.wrap ((IntKind.u64.wrap (x365001_85 - x366001_85)) - 1), IntKind.u64.wrap (x365002_85 - x366002_85), true)) = some (r1, r2, r3, r4) := by rw [if_pos rfl] at H; exact H
                  clear H
                  have H := H1
                  clear H1
                  simp only [Option.some.injEq, Prod.mk.injEq] at H
                  obtain ⟨rfl, rfl, rfl, rfl⟩ := H
                  have hnb125 := NB364_356.out
                  have hnc125 := NB356_364.out
                  have hnb126 := NB364_357.out
                  have hnc126 := NB357_364.out
                  have hnb127 := NB364_358.out
                  have hnc127 := NB358_364.out
                  have hnb128 := NB364_365.out
                  have hnc128 := NB365_364.out
                  obtain ⟨hcz129_0, hcz129_1, hcz129_2, hfz129_0, hfz129_1, hfz129_2⟩ := cf3_ (w := wc) BK364.out
                  have hnb130 := NB365_356.out
                  have hnc130 := NB356_365.out
                  have hnb131 := NB365_357.out
                  have hnc131 := NB357_365.out
                  have hnb132 := NB365_358.out
                  have hnc132 := NB358_365.out
                  obtain ⟨hcz133_0, hcz133_1, hcz133_2, hfz133_0, hfz133_1, hfz133_2⟩ := cf3_ (w := wc) BK365.out
                  go_wp2_with (first | ((with_reducible refine gate_dst (N := 9) rfl ?_); refine box_event ?hg (N := 9) ?hd (cs := #[.bool false, .int .u64 0, .int .u64 0]) (t := 28) ?hr ?_; (case hd => rfl); (case hg => rfl); (case hr => first | (go_simp; done) | (go_simp; rfl)); intro gb367 hg w134 hbox hb; have n0_ := bb_ (g := gb356) hb; have n1_ := bb_ (g := gb357) hb; have n2_ := bb_ (g := gb358) hb; have n3_ := bb_ (g := gb364) hb; have n4_ := bb_ (g := gb365) hb; have n5_ := Aside0.mk (below_step bel_ hb); have n6_ := Aside0.mk (hbox); have n7_ := bs_ (w := w) hg; have n8_ := bs_ (w := w) hg; have n9_ := nlt_ (g := gb356) hg; have n10_ := ngt_ (g := gb356) hg; have n11_ := nlt_ (g := gb357) hg; have n12_ := ngt_ (g := gb357) hg; have n13_ := nlt_ (g := gb358) hg; have n14_ := ngt_ (g := gb358) hg; have n15_ := nlt_ (g := gb364) hg; have n16_ := ngt_ (g := gb364) hg; have n17_ := nlt_ (g := gb365) hg; have n18_ := ngt_ (g := gb365) hg; clear BK356; clear BK357; clear BK358; clear BK364; clear BK365; clear HB; have BK356 := n0_; have BK357 := n1_; have BK358 := n2_; have BK364 := n3_; have BK365 := n4_; have HB := n5_; have BK367 := n6_; have GW367 := n7_; have GE367 := n8_; have NB356_367 := n9_; have NB367_356 := n10_; have NB357_367 := n11_; have NB367_357 := n12_; have NB358_367 := n13_; have NB367_358 := n14_; have NB364_367 := n15_; have NB367_364 := n16_; have NB365_367 := n17_; have NB367_365 := n18_; clear n0_ n1_ n2_ n3_ n4_ n5_ n6_ n7_ n8_ n9_ n10_ n11_ n12_ n13_ n14_ n15_ n16_ n17_ n18_; clear hb hbox hg; have hnb135 := NB367_356.out; have hnc135 := NB356_367.out; have hnb136 := NB367_357.out; have hnc136 := NB357_367.out; have hnb137 := NB367_358.out; have hnc137 := NB358_367.out; have hnb138 := NB367_364.out; have hnc138 := NB364_367.out; have hnb139 := NB367_365.out; have hnc139 := NB365_367.out; obtain ⟨hcz140_0, hcz140_1, hcz140_2, hfz140_0, hfz140_1, hfz140_2⟩ := cf3_ (w := w134) BK367.out; have hs367_0 : ∀ v0 v1 v2 : Value, (((w134.setCell ⟨gb367, 0, none⟩ v0).setCell ⟨gb367, 1, none⟩ v1).setCell ⟨gb367, 2, none⟩ v2).cell? ⟨gb367, 0, none⟩ = some v0 := fun _ _ _ => set3_0 BK367.out; have hs367_1 : ∀ v0 v1 v2 : Value, (((w134.setCell ⟨gb367, 0, none⟩ v0).setCell ⟨gb367, 1, none⟩ v1).setCell ⟨gb367, 2, none⟩ v2).cell? ⟨gb367, 1, none⟩ = some v1 := fun _ _ _ => set3_1 BK367.out; have hs367_2 : ∀ v0 v1 v2 : Value, (((w134.setCell ⟨gb367, 0, none⟩ v0).setCell ⟨gb367, 1, none⟩ v1).setCell ⟨gb367, 2, none⟩ v2).cell? ⟨gb367, 2, none⟩ = some v2 := fun _ _ _ => set3_2 BK367.out; obtain ⟨hcz141_0, hcz141_1, hcz141_2, hfz141_0, hfz141_1, hfz141_2⟩ := cf3_ (w := w134) BK364.out; obtain ⟨hcz142_0, hcz142_1, hcz142_2, hfz142_0, hfz142_1, hfz142_2⟩ := cf3_ (w := w134) BK365.out) | ((with_reducible refine gate_callee (f := 61) rfl ?_); refine goesL_ (some 82) rfl rfl Tryd.func61 (by kernel_rfl) rfl #[.agg #[.bool x365000_85, .int .u64 (IntKind.u64.wrap ((IntKind.u64.wrap (x365001_85 - x366001_85)) - 1)), .int .u64 (IntKind.u64.wrap (x365002_85 - x366002_85))]] rfl mp_ ?_; (with_reducible refine (spec_l3Zero.calls x365000_85 (IntKind.u64.wrap ((IntKind.u64.wrap (x365001_85 - x366001_85)) - 1)) (IntKind.u64.wrap (x365002_85 - x366002_85)) true _ A123.out).mono ?_); rintro e w143 ⟨rfl, hb⟩; refine ⟨_, rfl, ?_⟩; have n0_ := Aside0.mk (blk_below (g := gb356) (o := .cells #[.bool a0_0, .int .u64 a0_1, .int .u64 a0_2] 28 (0, 0)) bk_ hb); have n1_ := Aside0.mk (blk_below (g := gb357) (o := .cells #[.bool a1_0, .int .u64 a1_1, .int .u64 a1_2] 28 (0, 0)) bk_ hb); have n2_ := Aside0.mk (blk_below (g := gb358) (o := .cells #[.bool false, .int .u64 0, .int .u64 0] 28 (0, 0)) bk_ hb); have n3_ := Aside0.mk (blk_below (g := gb364) (o := .cells #[.bool x365000_85, .int .u64 x365001_85, .int .u64 x365002_85] 28 (0, 0)) bk_ hb); have n4_ := Aside0.mk (blk_below (g := gb365) (o := .cells #[.bool x366000_85, .int .u64 x366001_85, .int .u64 x366002_85] 28 (0, 0)) bk_ hb); have n5_ := Aside0.mk (blk_below (g := gb367) (o := .cells #[.bool x365000_85, .int .u64 (IntKind.u64.wrap ((IntKind.u64.wrap (x365001_85 - x366001_85)) - 1)), .int .u64 (IntKind.u64.wrap (x365002_85 - x366002_85))] 28 (0, 0)) (pu_ #[.bool x365000_85, .int .u64 (IntKind.u64.wrap (x365001_85 - x366001_85)), .int .u64 (IntKind.u64.wrap (x365002_85 - x366002_85))] 1 (h := (pu_ #[.bool x365000_85, .int .u64 (IntKind.u64.wrap (x365001_85 - x366001_85)), .int .u64 0] 2 (h := (pu_ #[.bool x365000_85, .int .u64 0, .int .u64 0] 1 (h := (pu_ #[.bool false, .int .u64 0, .int .u64 0] 0 (h := bk_)))))))) hb); have n6_ := Aside0.mk (below_step bel_ hb); clear BK356; clear BK357; clear BK358; clear BK364; clear BK365; clear BK367; clear HB; have BK356 := n0_; have BK357 := n1_; have BK358 := n2_; have BK364 := n3_; have BK365 := n4_; have BK367 := n5_; have HB := n6_; clear n0_ n1_ n2_ n3_ n4_ n5_ n6_; (try clear hb); (try clear hb2); (try clear hk); (try clear hi); obtain ⟨hcz144_0, hcz144_1, hcz144_2, hfz144_0, hfz144_1, hfz144_2⟩ := cf3_ (w := w143) BK367.out; have hnb145 := NB358_356.out; have hnc145 := NB356_358.out; have hnb146 := NB358_357.out; have hnc146 := NB357_358.out; obtain ⟨hcz147_0, hcz147_1, hcz147_2, hfz147_0, hfz147_1, hfz147_2⟩ := cf3_ (w := w143) BK358.out; have hs358_0 : ∀ v0 v1 v2 : Value, (((w143.setCell ⟨gb358, 0, none⟩ v0).setCell ⟨gb358, 1, none⟩ v1).setCell ⟨gb358, 2, none⟩ v2).cell? ⟨gb358, 0, none⟩ = some v0 := fun _ _ _ => set3_0 BK358.out; have hs358_1 : ∀ v0 v1 v2 : Value, (((w143.setCell ⟨gb358, 0, none⟩ v0).setCell ⟨gb358, 1, none⟩ v1).setCell ⟨gb358, 2, none⟩ v2).cell? ⟨gb358, 1, none⟩ = some v1 := fun _ _ _ => set3_1 BK358.out; have hs358_2 : ∀ v0 v1 v2 : Value, (((w143.setCell ⟨gb358, 0, none⟩ v0).setCell ⟨gb358, 1, none⟩ v1).setCell ⟨gb358, 2, none⟩ v2).cell? ⟨gb358, 2, none⟩ = some v2 := fun _ _ _ => set3_2 BK358.out))
                  refine bodyPost_ret (results_ct rfl _ _ gb358 28 #[.bool false, .int .u64 (IntKind.u64.wrap ((IntKind.u64.wrap (x365001_85 - x366001_85)) - 1)), .int .u64 (IntKind.u64.wrap (x365002_85 - x366002_85))] (0, 0) _ rfl (pu_ #[.bool false, .int .u64 (IntKind.u64.wrap ((IntKind.u64.wrap (x365001_85 - x366001_85)) - 1)), .int .u64 0] 2 (h := (pu_ #[.bool false, .int .u64 0, .int .u64 0] 1 (h := (pu_ #[.bool false, .int .u64 0, .int .u64 0] 0 (h := bk_)))))) Tryd.underlying28 rfl (by kernel_rfl)) rfl ?_
                  exact ⟨rf_, bel_⟩
                · replace c124 := Bool.eq_false_iff.mpr c124
                  subst c124
                  have H1 : (some (x365000_85, IntKind.u64.wrap ((IntKind.u64.wrap (x365001_85 - x366001_85)) - 1), IntKind.u64.wrap (x365002_85 - x366002_85), true)) = some (r1, r2, r3, r4) := by rw [if_neg (show ¬ (false = true) by decide)] at H; exact H
                  clear H
                  have H := H1
                  clear H1
                  simp only [Option.some.injEq, Prod.mk.injEq] at H
                  obtain ⟨rfl, rfl, rfl, rfl⟩ := H
                  have hnb148 := NB364_356.out
                  have hnc148 := NB356_364.out
                  have hnb149 := NB364_357.out
                  have hnc149 := NB357_364.out
                  have hnb150 := NB364_358.out
                  have hnc150 := NB358_364.out
                  have hnb151 := NB364_365.out
                  have hnc151 := NB365_364.out
                  obtain ⟨hcz152_0, hcz152_1, hcz152_2, hfz152_0, hfz152_1, hfz152_2⟩ := cf3_ (w := wc) BK364.out
                  have hnb153 := NB365_356.out
                  have hnc153 := NB356_365.out
                  have hnb154 := NB365_357.out
                  have hnc154 := NB357_365.out
                  have hnb155 := NB365_358.out
                  have hnc155 := NB358_365.out
                  obtain ⟨hcz156_0, hcz156_1, hcz156_2, hfz156_0, hfz156_1, hfz156_2⟩ := cf3_ (w := wc) BK365.out
                  go_wp2_with (first | ((with_reducible refine gate_dst (N := 9) rfl ?_); refine box_event ?hg (N := 9) ?hd (cs := #[.bool false, .int .u64 0, .int .u64 0]) (t := 28) ?hr ?_; (case hd => rfl); (case hg => rfl); (case hr => first | (go_simp; done) | (go_simp; rfl)); intro gb367 hg w157 hbox hb; have n0_ := bb_ (g := gb356) hb; have n1_ := bb_ (g := gb357) hb; have n2_ := bb_ (g := gb358) hb; have n3_ := bb_ (g := gb364) hb; have n4_ := bb_ (g := gb365) hb; have n5_ := Aside0.mk (below_step bel_ hb); have n6_ := Aside0.mk (hbox); have n7_ := bs_ (w := w) hg; have n8_ := bs_ (w := w) hg; have n9_ := nlt_ (g := gb356) hg; have n10_ := ngt_ (g := gb356) hg; have n11_ := nlt_ (g := gb357) hg; have n12_ := ngt_ (g := gb357) hg; have n13_ := nlt_ (g := gb358) hg; have n14_ := ngt_ (g := gb358) hg; have n15_ := nlt_ (g := gb364) hg; have n16_ := ngt_ (g := gb364) hg; have n17_ := nlt_ (g := gb365) hg; have n18_ := ngt_ (g := gb365) hg; clear BK356; clear BK357; clear BK358; clear BK364; clear BK365; clear HB; have BK356 := n0_; have BK357 := n1_; have BK358 := n2_; have BK364 := n3_; have BK365 := n4_; have HB := n5_; have BK367 := n6_; have GW367 := n7_; have GE367 := n8_; have NB356_367 := n9_; have NB367_356 := n10_; have NB357_367 := n11_; have NB367_357 := n12_; have NB358_367 := n13_; have NB367_358 := n14_; have NB364_367 := n15_; have NB367_364 := n16_; have NB365_367 := n17_; have NB367_365 := n18_; clear n0_ n1_ n2_ n3_ n4_ n5_ n6_ n7_ n8_ n9_ n10_ n11_ n12_ n13_ n14_ n15_ n16_ n17_ n18_; clear hb hbox hg; have hnb158 := NB367_356.out; have hnc158 := NB356_367.out; have hnb159 := NB367_357.out; have hnc159 := NB357_367.out; have hnb160 := NB367_358.out; have hnc160 := NB358_367.out; have hnb161 := NB367_364.out; have hnc161 := NB364_367.out; have hnb162 := NB367_365.out; have hnc162 := NB365_367.out; obtain ⟨hcz163_0, hcz163_1, hcz163_2, hfz163_0, hfz163_1, hfz163_2⟩ := cf3_ (w := w157) BK367.out; have hs367_0 : ∀ v0 v1 v2 : Value, (((w157.setCell ⟨gb367, 0, none⟩ v0).setCell ⟨gb367, 1, none⟩ v1).setCell ⟨gb367, 2, none⟩ v2).cell? ⟨gb367, 0, none⟩ = some v0 := fun _ _ _ => set3_0 BK367.out; have hs367_1 : ∀ v0 v1 v2 : Value, (((w157.setCell ⟨gb367, 0, none⟩ v0).setCell ⟨gb367, 1, none⟩ v1).setCell ⟨gb367, 2, none⟩ v2).cell? ⟨gb367, 1, none⟩ = some v1 := fun _ _ _ => set3_1 BK367.out; have hs367_2 : ∀ v0 v1 v2 : Value, (((w157.setCell ⟨gb367, 0, none⟩ v0).setCell ⟨gb367, 1, none⟩ v1).setCell ⟨gb367, 2, none⟩ v2).cell? ⟨gb367, 2, none⟩ = some v2 := fun _ _ _ => set3_2 BK367.out; obtain ⟨hcz164_0, hcz164_1, hcz164_2, hfz164_0, hfz164_1, hfz164_2⟩ := cf3_ (w := w157) BK364.out; obtain ⟨hcz165_0, hcz165_1, hcz165_2, hfz165_0, hfz165_1, hfz165_2⟩ := cf3_ (w := w157) BK365.out) | ((with_reducible refine gate_callee (f := 61) rfl ?_); refine goesL_ (some 82) rfl rfl Tryd.func61 (by kernel_rfl) rfl #[.agg #[.bool x365000_85, .int .u64 (IntKind.u64.wrap ((IntKind.u64.wrap (x365001_85 - x366001_85)) - 1)), .int .u64 (IntKind.u64.wrap (x365002_85 - x366002_85))]] rfl mp_ ?_; (with_reducible refine (spec_l3Zero.calls x365000_85 (IntKind.u64.wrap ((IntKind.u64.wrap (x365001_85 - x366001_85)) - 1)) (IntKind.u64.wrap (x365002_85 - x366002_85)) false _ A123.out).mono ?_); rintro e w166 ⟨rfl, hb⟩; refine ⟨_, rfl, ?_⟩; have n0_ := Aside0.mk (blk_below (g := gb356) (o := .cells #[.bool a0_0, .int .u64 a0_1, .int .u64 a0_2] 28 (0, 0)) bk_ hb); have n1_ := Aside0.mk (blk_below (g := gb357) (o := .cells #[.bool a1_0, .int .u64 a1_1, .int .u64 a1_2] 28 (0, 0)) bk_ hb); have n2_ := Aside0.mk (blk_below (g := gb358) (o := .cells #[.bool false, .int .u64 0, .int .u64 0] 28 (0, 0)) bk_ hb); have n3_ := Aside0.mk (blk_below (g := gb364) (o := .cells #[.bool x365000_85, .int .u64 x365001_85, .int .u64 x365002_85] 28 (0, 0)) bk_ hb); have n4_ := Aside0.mk (blk_below (g := gb365) (o := .cells #[.bool x366000_85, .int .u64 x366001_85, .int .u64 x366002_85] 28 (0, 0)) bk_ hb); have n5_ := Aside0.mk (blk_below (g := gb367) (o := .cells #[.bool x365000_85, .int .u64 (IntKind.u64.wrap ((IntKind.u64.wrap (x365001_85 - x366001_85)) - 1)), .int .u64 (IntKind.u64.wrap (x365002_85 - x366002_85))] 28 (0, 0)) (pu_ #[.bool x365000_85, .int .u64 (IntKind.u64.wrap (x365001_85 - x366001_85)), .int .u64 (IntKind.u64.wrap (x365002_85 - x366002_85))] 1 (h := (pu_ #[.bool x365000_85, .int .u64 (IntKind.u64.wrap (x365001_85 - x366001_85)), .int .u64 0] 2 (h := (pu_ #[.bool x365000_85, .int .u64 0, .int .u64 0] 1 (h := (pu_ #[.bool false, .int .u64 0, .int .u64 0] 0 (h := bk_)))))))) hb); have n6_ := Aside0.mk (below_step bel_ hb); clear BK356; clear BK357; clear BK358; clear BK364; clear BK365; clear BK367; clear HB; have BK356 := n0_; have BK357 := n1_; have BK358 := n2_; have BK364 := n3_; have BK365 := n4_; have BK367 := n5_; have HB := n6_; clear n0_ n1_ n2_ n3_ n4_ n5_ n6_; (try clear hb); (try clear hb2); (try clear hk); (try clear hi); obtain ⟨hcz167_0, hcz167_1, hcz167_2, hfz167_0, hfz167_1, hfz167_2⟩ := cf3_ (w := w166) BK367.out; have hnb168 := NB358_356.out; have hnc168 := NB356_358.out; have hnb169 := NB358_357.out; have hnc169 := NB357_358.out; obtain ⟨hcz170_0, hcz170_1, hcz170_2, hfz170_0, hfz170_1, hfz170_2⟩ := cf3_ (w := w166) BK358.out; have hs358_0 : ∀ v0 v1 v2 : Value, (((w166.setCell ⟨gb358, 0, none⟩ v0).setCell ⟨gb358, 1, none⟩ v1).setCell ⟨gb358, 2, none⟩ v2).cell? ⟨gb358, 0, none⟩ = some v0 := fun _ _ _ => set3_0 BK358.out; have hs358_1 : ∀ v0 v1 v2 : Value, (((w166.setCell ⟨gb358, 0, none⟩ v0).setCell ⟨gb358, 1, none⟩ v1).setCell ⟨gb358, 2, none⟩ v2).cell? ⟨gb358, 1, none⟩ = some v1 := fun _ _ _ => set3_1 BK358.out; have hs358_2 : ∀ v0 v1 v2 : Value, (((w166.setCell ⟨gb358, 0, none⟩ v0).setCell ⟨gb358, 1, none⟩ v1).setCell ⟨gb358, 2, none⟩ v2).cell? ⟨gb358, 2, none⟩ = some v2 := fun _ _ _ => set3_2 BK358.out))
                  refine bodyPost_ret (results_ct rfl _ _ gb358 28 #[.bool x365000_85, .int .u64 (IntKind.u64.wrap ((IntKind.u64.wrap (x365001_85 - x366001_85)) - 1)), .int .u64 (IntKind.u64.wrap (x365002_85 - x366002_85))] (0, 0) _ rfl (pu_ #[.bool x365000_85, .int .u64 (IntKind.u64.wrap ((IntKind.u64.wrap (x365001_85 - x366001_85)) - 1)), .int .u64 0] 2 (h := (pu_ #[.bool x365000_85, .int .u64 0, .int .u64 0] 1 (h := (pu_ #[.bool false, .int .u64 0, .int .u64 0] 0 (h := bk_)))))) Tryd.underlying28 rfl (by kernel_rfl)) rfl ?_
                  exact ⟨rf_, bel_⟩
              · rw [if_neg c122] at H
                have c122b0 : decide (x365002_85 < x366002_85) = false := decide_eq_false c122
                clear c122
                replace H := Option.bind_eq_some_iff.mp H
                obtain ⟨t369, A1710, H⟩ := H
                replace H : (if t369 = true then (some (false, IntKind.u64.wrap (x365001_85 - x366001_85), IntKind.u64.wrap (x365002_85 - x366002_85), true)) else (some (x365000_85, IntKind.u64.wrap (x365001_85 - x366001_85), IntKind.u64.wrap (x365002_85 - x366002_85), true))) = some (r1, r2, r3, r4) := H
                have A171 := Aside0.mk A1710
                clear A1710
                by_cases c172 : t369 = true
                · subst c172
                  have H1 : (some (false, IntKind.u64.wrap (x365001_85 - x366001_85), IntKind.u64.wrap (x365002_85 - x366002_85), true)) = some (r1, r2, r3, r4) := by rw [if_pos rfl] at H; exact H
                  clear H
                  have H := H1
                  clear H1
                  simp only [Option.some.injEq, Prod.mk.injEq] at H
                  obtain ⟨rfl, rfl, rfl, rfl⟩ := H
                  have hnb173 := NB364_356.out
                  have hnc173 := NB356_364.out
                  have hnb174 := NB364_357.out
                  have hnc174 := NB357_364.out
                  have hnb175 := NB364_358.out
                  have hnc175 := NB358_364.out
                  have hnb176 := NB364_365.out
                  have hnc176 := NB365_364.out
                  obtain ⟨hcz177_0, hcz177_1, hcz177_2, hfz177_0, hfz177_1, hfz177_2⟩ := cf3_ (w := wc) BK364.out
                  have hnb178 := NB365_356.out
                  have hnc178 := NB356_365.out
                  have hnb179 := NB365_357.out
                  have hnc179 := NB357_365.out
                  have hnb180 := NB365_358.out
                  have hnc180 := NB358_365.out
                  obtain ⟨hcz181_0, hcz181_1, hcz181_2, hfz181_0, hfz181_1, hfz181_2⟩ := cf3_ (w := wc) BK365.out
                  go_wp2_with (first | ((with_reducible refine gate_dst (N := 9) rfl ?_); refine box_event ?hg (N := 9) ?hd (cs := #[.bool false, .int .u64 0, .int .u64 0]) (t := 28) ?hr ?_; (case hd => rfl); (case hg => rfl); (case hr => first | (go_simp; done) | (go_simp; rfl)); intro gb367 hg w182 hbox hb; have n0_ := bb_ (g := gb356) hb; have n1_ := bb_ (g := gb357) hb; have n2_ := bb_ (g := gb358) hb; have n3_ := bb_ (g := gb364) hb; have n4_ := bb_ (g := gb365) hb; have n5_ := Aside0.mk (below_step bel_ hb); have n6_ := Aside0.mk (hbox); have n7_ := bs_ (w := w) hg; have n8_ := bs_ (w := w) hg; have n9_ := nlt_ (g := gb356) hg; have n10_ := ngt_ (g := gb356) hg; have n11_ := nlt_ (g := gb357) hg; have n12_ := ngt_ (g := gb357) hg; have n13_ := nlt_ (g := gb358) hg; have n14_ := ngt_ (g := gb358) hg; have n15_ := nlt_ (g := gb364) hg; have n16_ := ngt_ (g := gb364) hg; have n17_ := nlt_ (g := gb365) hg; have n18_ := ngt_ (g := gb365) hg; clear BK356; clear BK357; clear BK358; clear BK364; clear BK365; clear HB; have BK356 := n0_; have BK357 := n1_; have BK358 := n2_; have BK364 := n3_; have BK365 := n4_; have HB := n5_; have BK367 := n6_; have GW367 := n7_; have GE367 := n8_; have NB356_367 := n9_; have NB367_356 := n10_; have NB357_367 := n11_; have NB367_357 := n12_; have NB358_367 := n13_; have NB367_358 := n14_; have NB364_367 := n15_; have NB367_364 := n16_; have NB365_367 := n17_; have NB367_365 := n18_; clear n0_ n1_ n2_ n3_ n4_ n5_ n6_ n7_ n8_ n9_ n10_ n11_ n12_ n13_ n14_ n15_ n16_ n17_ n18_; clear hb hbox hg; have hnb183 := NB367_356.out; have hnc183 := NB356_367.out; have hnb184 := NB367_357.out; have hnc184 := NB357_367.out; have hnb185 := NB367_358.out; have hnc185 := NB358_367.out; have hnb186 := NB367_364.out; have hnc186 := NB364_367.out; have hnb187 := NB367_365.out; have hnc187 := NB365_367.out; obtain ⟨hcz188_0, hcz188_1, hcz188_2, hfz188_0, hfz188_1, hfz188_2⟩ := cf3_ (w := w182) BK367.out; have hs367_0 : ∀ v0 v1 v2 : Value, (((w182.setCell ⟨gb367, 0, none⟩ v0).setCell ⟨gb367, 1, none⟩ v1).setCell ⟨gb367, 2, none⟩ v2).cell? ⟨gb367, 0, none⟩ = some v0 := fun _ _ _ => set3_0 BK367.out; have hs367_1 : ∀ v0 v1 v2 : Value, (((w182.setCell ⟨gb367, 0, none⟩ v0).setCell ⟨gb367, 1, none⟩ v1).setCell ⟨gb367, 2, none⟩ v2).cell? ⟨gb367, 1, none⟩ = some v1 := fun _ _ _ => set3_1 BK367.out; have hs367_2 : ∀ v0 v1 v2 : Value, (((w182.setCell ⟨gb367, 0, none⟩ v0).setCell ⟨gb367, 1, none⟩ v1).setCell ⟨gb367, 2, none⟩ v2).cell? ⟨gb367, 2, none⟩ = some v2 := fun _ _ _ => set3_2 BK367.out; obtain ⟨hcz189_0, hcz189_1, hcz189_2, hfz189_0, hfz189_1, hfz189_2⟩ := cf3_ (w := w182) BK364.out; obtain ⟨hcz190_0, hcz190_1, hcz190_2, hfz190_0, hfz190_1, hfz190_2⟩ := cf3_ (w := w182) BK365.out) | ((with_reducible refine gate_callee (f := 61) rfl ?_); refine goesL_ (some 82) rfl rfl Tryd.func61 (by kernel_rfl) rfl #[.agg #[.bool x365000_85, .int .u64 (IntKind.u64.wrap (x365001_85 - x366001_85)), .int .u64 (IntKind.u64.wrap (x365002_85 - x366002_85))]] rfl mp_ ?_; (with_reducible refine (spec_l3Zero.calls x365000_85 (IntKind.u64.wrap (x365001_85 - x366001_85)) (IntKind.u64.wrap (x365002_85 - x366002_85)) true _ A171.out).mono ?_); rintro e w191 ⟨rfl, hb⟩; refine ⟨_, rfl, ?_⟩; have n0_ := Aside0.mk (blk_below (g := gb356) (o := .cells #[.bool a0_0, .int .u64 a0_1, .int .u64 a0_2] 28 (0, 0)) bk_ hb); have n1_ := Aside0.mk (blk_below (g := gb357) (o := .cells #[.bool a1_0, .int .u64 a1_1, .int .u64 a1_2] 28 (0, 0)) bk_ hb); have n2_ := Aside0.mk (blk_below (g := gb358) (o := .cells #[.bool false, .int .u64 0, .int .u64 0] 28 (0, 0)) bk_ hb); have n3_ := Aside0.mk (blk_below (g := gb364) (o := .cells #[.bool x365000_85, .int .u64 x365001_85, .int .u64 x365002_85] 28 (0, 0)) bk_ hb); have n4_ := Aside0.mk (blk_below (g := gb365) (o := .cells #[.bool x366000_85, .int .u64 x366001_85, .int .u64 x366002_85] 28 (0, 0)) bk_ hb); have n5_ := Aside0.mk (blk_below (g := gb367) (o := .cells #[.bool x365000_85, .int .u64 (IntKind.u64.wrap (x365001_85 - x366001_85)), .int .u64 (IntKind.u64.wrap (x365002_85 - x366002_85))] 28 (0, 0)) (pu_ #[.bool x365000_85, .int .u64 (IntKind.u64.wrap (x365001_85 - x366001_85)), .int .u64 0] 2 (h := (pu_ #[.bool x365000_85, .int .u64 0, .int .u64 0] 1 (h := (pu_ #[.bool false, .int .u64 0, .int .u64 0] 0 (h := bk_)))))) hb); have n6_ := Aside0.mk (below_step bel_ hb); clear BK356; clear BK357; clear BK358; clear BK364; clear BK365; clear BK367; clear HB; have BK356 := n0_; have BK357 := n1_; have BK358 := n2_; have BK364 := n3_; have BK365 := n4_; have BK367 := n5_; have HB := n6_; clear n0_ n1_ n2_ n3_ n4_ n5_ n6_; (try clear hb); (try clear hb2); (try clear hk); (try clear hi); obtain ⟨hcz192_0, hcz192_1, hcz192_2, hfz192_0, hfz192_1, hfz192_2⟩ := cf3_ (w := w191) BK367.out; have hnb193 := NB358_356.out; have hnc193 := NB356_358.out; have hnb194 := NB358_357.out; have hnc194 := NB357_358.out; obtain ⟨hcz195_0, hcz195_1, hcz195_2, hfz195_0, hfz195_1, hfz195_2⟩ := cf3_ (w := w191) BK358.out; have hs358_0 : ∀ v0 v1 v2 : Value, (((w191.setCell ⟨gb358, 0, none⟩ v0).setCell ⟨gb358, 1, none⟩ v1).setCell ⟨gb358, 2, none⟩ v2).cell? ⟨gb358, 0, none⟩ = some v0 := fun _ _ _ => set3_0 BK358.out; have hs358_1 : ∀ v0 v1 v2 : Value, (((w191.setCell ⟨gb358, 0, none⟩ v0).setCell ⟨gb358, 1, none⟩ v1).setCell ⟨gb358, 2, none⟩ v2).cell? ⟨gb358, 1, none⟩ = some v1 := fun _ _ _ => set3_1 BK358.out; have hs358_2 : ∀ v0 v1 v2 : Value, (((w191.setCell ⟨gb358, 0, none⟩ v0).setCell ⟨gb358, 1, none⟩ v1).setCell ⟨gb358, 2, none⟩ v2).cell? ⟨gb358, 2, none⟩ = some v2 := fun _ _ _ => set3_2 BK358.out))
                  refine bodyPost_ret (results_ct rfl _ _ gb358 28 #[.bool false, .int .u64 (IntKind.u64.wrap (x365001_85 - x366001_85)), .int .u64 (IntKind.u64.wrap (x365002_85 - x366002_85))] (0, 0) _ rfl (pu_ #[.bool false, .int .u64 (IntKind.u64.wrap (x365001_85 - x366001_85)), .int .u64 0] 2 (h := (pu_ #[.bool false, .int .u64 0, .int .u64 0] 1 (h := (pu_ #[.bool false, .int .u64 0, .int .u64 0] 0 (h := bk_)))))) Tryd.underlying28 rfl (by kernel_rfl)) rfl ?_
                  exact ⟨rf_, bel_⟩
                · replace c172 := Bool.eq_false_iff.mpr c172
                  subst c172
                  have H1 : (some (x365000_85, IntKind.u64.wrap (x365001_85 - x366001_85), IntKind.u64.wrap (x365002_85 - x366002_85), true)) = some (r1, r2, r3, r4) := by rw [if_neg (show ¬ (false = true) by decide)] at H; exact H
                  clear H
                  have H := H1
                  clear H1
                  simp only [Option.some.injEq, Prod.mk.injEq] at H
                  obtain ⟨rfl, rfl, rfl, rfl⟩ := H
                  have hnb196 := NB364_356.out
                  have hnc196 := NB356_364.out
                  have hnb197 := NB364_357.out
                  have hnc197 := NB357_364.out
                  have hnb198 := NB364_358.out
                  have hnc198 := NB358_364.out
                  have hnb199 := NB364_365.out
                  have hnc199 := NB365_364.out
                  obtain ⟨hcz200_0, hcz200_1, hcz200_2, hfz200_0, hfz200_1, hfz200_2⟩ := cf3_ (w := wc) BK364.out
                  have hnb201 := NB365_356.out
                  have hnc201 := NB356_365.out
                  have hnb202 := NB365_357.out
                  have hnc202 := NB357_365.out
                  have hnb203 := NB365_358.out
                  have hnc203 := NB358_365.out
                  obtain ⟨hcz204_0, hcz204_1, hcz204_2, hfz204_0, hfz204_1, hfz204_2⟩ := cf3_ (w := wc) BK365.out
                  go_wp2_with (first | ((with_reducible refine gate_dst (N := 9) rfl ?_); refine box_event ?hg (N := 9) ?hd (cs := #[.bool false, .int .u64 0, .int .u64 0]) (t := 28) ?hr ?_; (case hd => rfl); (case hg => rfl); (case hr => first | (go_simp; done) | (go_simp; rfl)); intro gb367 hg w205 hbox hb; have n0_ := bb_ (g := gb356) hb; have n1_ := bb_ (g := gb357) hb; have n2_ := bb_ (g := gb358) hb; have n3_ := bb_ (g := gb364) hb; have n4_ := bb_ (g := gb365) hb; have n5_ := Aside0.mk (below_step bel_ hb); have n6_ := Aside0.mk (hbox); have n7_ := bs_ (w := w) hg; have n8_ := bs_ (w := w) hg; have n9_ := nlt_ (g := gb356) hg; have n10_ := ngt_ (g := gb356) hg; have n11_ := nlt_ (g := gb357) hg; have n12_ := ngt_ (g := gb357) hg; have n13_ := nlt_ (g := gb358) hg; have n14_ := ngt_ (g := gb358) hg; have n15_ := nlt_ (g := gb364) hg; have n16_ := ngt_ (g := gb364) hg; have n17_ := nlt_ (g := gb365) hg; have n18_ := ngt_ (g := gb365) hg; clear BK356; clear BK357; clear BK358; clear BK364; clear BK365; clear HB; have BK356 := n0_; have BK357 := n1_; have BK358 := n2_; have BK364 := n3_; have BK365 := n4_; have HB := n5_; have BK367 := n6_; have GW367 := n7_; have GE367 := n8_; have NB356_367 := n9_; have NB367_356 := n10_; have NB357_367 := n11_; have NB367_357 := n12_; have NB358_367 := n13_; have NB367_358 := n14_; have NB364_367 := n15_; have NB367_364 := n16_; have NB365_367 := n17_; have NB367_365 := n18_; clear n0_ n1_ n2_ n3_ n4_ n5_ n6_ n7_ n8_ n9_ n10_ n11_ n12_ n13_ n14_ n15_ n16_ n17_ n18_; clear hb hbox hg; have hnb206 := NB367_356.out; have hnc206 := NB356_367.out; have hnb207 := NB367_357.out; have hnc207 := NB357_367.out; have hnb208 := NB367_358.out; have hnc208 := NB358_367.out; have hnb209 := NB367_364.out; have hnc209 := NB364_367.out; have hnb210 := NB367_365.out; have hnc210 := NB365_367.out; obtain ⟨hcz211_0, hcz211_1, hcz211_2, hfz211_0, hfz211_1, hfz211_2⟩ := cf3_ (w := w205) BK367.out; have hs367_0 : ∀ v0 v1 v2 : Value, (((w205.setCell ⟨gb367, 0, none⟩ v0).setCell ⟨gb367, 1, none⟩ v1).setCell ⟨gb367, 2, none⟩ v2).cell? ⟨gb367, 0, none⟩ = some v0 := fun _ _ _ => set3_0 BK367.out; have hs367_1 : ∀ v0 v1 v2 : Value, (((w205.setCell ⟨gb367, 0, none⟩ v0).setCell ⟨gb367, 1, none⟩ v1).setCell ⟨gb367, 2, none⟩ v2).cell? ⟨gb367, 1, none⟩ = some v1 := fun _ _ _ => set3_1 BK367.out; have hs367_2 : ∀ v0 v1 v2 : Value, (((w205.setCell ⟨gb367, 0, none⟩ v0).setCell ⟨gb367, 1, none⟩ v1).setCell ⟨gb367, 2, none⟩ v2).cell? ⟨gb367, 2, none⟩ = some v2 := fun _ _ _ => set3_2 BK367.out; obtain ⟨hcz212_0, hcz212_1, hcz212_2, hfz212_0, hfz212_1, hfz212_2⟩ := cf3_ (w := w205) BK364.out; obtain ⟨hcz213_0, hcz213_1, hcz213_2, hfz213_0, hfz213_1, hfz213_2⟩ := cf3_ (w := w205) BK365.out) | ((with_reducible refine gate_callee (f := 61) rfl ?_); refine goesL_ (some 82) rfl rfl Tryd.func61 (by kernel_rfl) rfl #[.agg #[.bool x365000_85, .int .u64 (IntKind.u64.wrap (x365001_85 - x366001_85)), .int .u64 (IntKind.u64.wrap (x365002_85 - x366002_85))]] rfl mp_ ?_; (with_reducible refine (spec_l3Zero.calls x365000_85 (IntKind.u64.wrap (x365001_85 - x366001_85)) (IntKind.u64.wrap (x365002_85 - x366002_85)) false _ A171.out).mono ?_); rintro e w214 ⟨rfl, hb⟩; refine ⟨_, rfl, ?_⟩; have n0_ := Aside0.mk (blk_below (g := gb356) (o := .cells #[.bool a0_0, .int .u64 a0_1, .int .u64 a0_2] 28 (0, 0)) bk_ hb); have n1_ := Aside0.mk (blk_below (g := gb357) (o := .cells #[.bool a1_0, .int .u64 a1_1, .int .u64 a1_2] 28 (0, 0)) bk_ hb); have n2_ := Aside0.mk (blk_below (g := gb358) (o := .cells #[.bool false, .int .u64 0, .int .u64 0] 28 (0, 0)) bk_ hb); have n3_ := Aside0.mk (blk_below (g := gb364) (o := .cells #[.bool x365000_85, .int .u64 x365001_85, .int .u64 x365002_85] 28 (0, 0)) bk_ hb); have n4_ := Aside0.mk (blk_below (g := gb365) (o := .cells #[.bool x366000_85, .int .u64 x366001_85, .int .u64 x366002_85] 28 (0, 0)) bk_ hb); have n5_ := Aside0.mk (blk_below (g := gb367) (o := .cells #[.bool x365000_85, .int .u64 (IntKind.u64.wrap (x365001_85 - x366001_85)), .int .u64 (IntKind.u64.wrap (x365002_85 - x366002_85))] 28 (0, 0)) (pu_ #[.bool x365000_85, .int .u64 (IntKind.u64.wrap (x365001_85 - x366001_85)), .int .u64 0] 2 (h := (pu_ #[.bool x365000_85, .int .u64 0, .int .u64 0] 1 (h := (pu_ #[.bool false, .int .u64 0, .int .u64 0] 0 (h := bk_)))))) hb); have n6_ := Aside0.mk (below_step bel_ hb); clear BK356; clear BK357; clear BK358; clear BK364; clear BK365; clear BK367; clear HB; have BK356 := n0_; have BK357 := n1_; have BK358 := n2_; have BK364 := n3_; have BK365 := n4_; have BK367 := n5_; have HB := n6_; clear n0_ n1_ n2_ n3_ n4_ n5_ n6_; (try clear hb); (try clear hb2); (try clear hk); (try clear hi); obtain ⟨hcz215_0, hcz215_1, hcz215_2, hfz215_0, hfz215_1, hfz215_2⟩ := cf3_ (w := w214) BK367.out; have hnb216 := NB358_356.out; have hnc216 := NB356_358.out; have hnb217 := NB358_357.out; have hnc217 := NB357_358.out; obtain ⟨hcz218_0, hcz218_1, hcz218_2, hfz218_0, hfz218_1, hfz218_2⟩ := cf3_ (w := w214) BK358.out; have hs358_0 : ∀ v0 v1 v2 : Value, (((w214.setCell ⟨gb358, 0, none⟩ v0).setCell ⟨gb358, 1, none⟩ v1).setCell ⟨gb358, 2, none⟩ v2).cell? ⟨gb358, 0, none⟩ = some v0 := fun _ _ _ => set3_0 BK358.out; have hs358_1 : ∀ v0 v1 v2 : Value, (((w214.setCell ⟨gb358, 0, none⟩ v0).setCell ⟨gb358, 1, none⟩ v1).setCell ⟨gb358, 2, none⟩ v2).cell? ⟨gb358, 1, none⟩ = some v1 := fun _ _ _ => set3_1 BK358.out; have hs358_2 : ∀ v0 v1 v2 : Value, (((w214.setCell ⟨gb358, 0, none⟩ v0).setCell ⟨gb358, 1, none⟩ v1).setCell ⟨gb358, 2, none⟩ v2).cell? ⟨gb358, 2, none⟩ = some v2 := fun _ _ _ => set3_2 BK358.out))
                  refine bodyPost_ret (results_ct rfl _ _ gb358 28 #[.bool x365000_85, .int .u64 (IntKind.u64.wrap (x365001_85 - x366001_85)), .int .u64 (IntKind.u64.wrap (x365002_85 - x366002_85))] (0, 0) _ rfl (pu_ #[.bool x365000_85, .int .u64 (IntKind.u64.wrap (x365001_85 - x366001_85)), .int .u64 0] 2 (h := (pu_ #[.bool x365000_85, .int .u64 0, .int .u64 0] 1 (h := (pu_ #[.bool false, .int .u64 0, .int .u64 0] 0 (h := bk_)))))) Tryd.underlying28 rfl (by kernel_rfl)) rfl ?_
                  exact ⟨rf_, bel_⟩

end Go.Proofs.YtkpgpifkbdpnkaaDoor.PFnWideSmall
