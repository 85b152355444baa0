/- Contracts of Go functions, each with the Lean function that says what it computes: begun by the print, turned by this session. No condition beyond what each theorem states. -/
import Derived.Test.YtpcglglfegkdaaaDoorPFnExactReadWidex0
import Derived.Test.YtpcglglfegkdaaaDoorPFnExactReadWidex1
import Derived.Test.YtpcglglfegkdaaaDoorPFnExactReadWidex2
namespace Go.Proofs.YtpcglglfegkdaaaDoor.PFnExactReadWide
open Go.RowKit Go.Proofs.YtpcglglfegkdaaaDoorVFnExactReadWide.PrintWords Go.Proofs.YtpcglglfegkdaaaDoorVFnExactReadWide.PrintLast Go.Proofs.YtpcglglfegkdaaaDoorVFnExactReadWide.PrintMore
attribute [local go_sem] max2_int min2_int max_two min_two max_three min_three max_four min_four   -- for this text's walks alone
set_option linter.unusedVariables false
set_option linter.unusedSimpArgs false

/-! ### spec_AddWide: function 87 -/
mutual
def spec_AddWide.j0 : Nat → Bool → Bool → Int → Int → Bool → Int → Int → Option (Bool × Int × Int × Bool)
  | 0, _, _, _, _, _, _, _ => none
  | k + 1, x17, x148000, x148001, x148002, x149000, x149001, x149002 => if x17 = true then (some (false, 0, 0, false)) else (if (x148000 == x149000) = true then (if (IntKind.u64.wrap (x148002 + x149002)) < x148002 then ((spec_WideOk.f x148000 (IntKind.u64.wrap ((IntKind.u64.wrap (x148001 + x149001)) + 1)) (IntKind.u64.wrap (x148002 + x149002))).bind fun t153 => (if t153 = true then (some (x148000, IntKind.u64.wrap ((IntKind.u64.wrap (x148001 + x149001)) + 1), IntKind.u64.wrap (x148002 + x149002), true)) else (some (false, 0, 0, false)))) else ((spec_WideOk.f x148000 (IntKind.u64.wrap (x148001 + x149001)) (IntKind.u64.wrap (x148002 + x149002))).bind fun t154 => (if t154 = true then (some (x148000, IntKind.u64.wrap (x148001 + x149001), IntKind.u64.wrap (x148002 + x149002), true)) else (some (false, 0, 0, false))))) else ((spec_l3Order.f k x148000 x148001 x148002 x149000 x149001 x149002).bind fun t157 => (if t157 < 0 then (spec_AddWide.j1 k x149000 x149001 x149002 x148000 x148001 x148002) else (spec_AddWide.j1 k x148000 x148001 x148002 x149000 x149001 x149002))))
def spec_AddWide.j1 : Nat → Bool → Int → Int → Bool → Int → Int → Option (Bool × Int × Int × Bool)
  | 0, _, _, _, _, _, _ => none
  | k + 1, x156000, x156001, x156002, x157000, x157001, x157002 => if x156002 < x157002 then ((spec_l3Zero.f x156000 (IntKind.u64.wrap ((IntKind.u64.wrap (x156001 - x157001)) - 1)) (IntKind.u64.wrap (x156002 - x157002))).bind fun t159 => (if t159 = true then (some (false, IntKind.u64.wrap ((IntKind.u64.wrap (x156001 - x157001)) - 1), IntKind.u64.wrap (x156002 - x157002), true)) else (some (x156000, IntKind.u64.wrap ((IntKind.u64.wrap (x156001 - x157001)) - 1), IntKind.u64.wrap (x156002 - x157002), true)))) else ((spec_l3Zero.f x156000 (IntKind.u64.wrap (x156001 - x157001)) (IntKind.u64.wrap (x156002 - x157002))).bind fun t160 => (if t160 = true then (some (false, IntKind.u64.wrap (x156001 - x157001), IntKind.u64.wrap (x156002 - x157002), true)) else (some (x156000, IntKind.u64.wrap (x156001 - x157001), IntKind.u64.wrap (x156002 - x157002), true))))
end
def spec_AddWide.f (k : Nat) (a0_0 : Bool) (a0_1 : Int) (a0_2 : Int) (a1_0 : Bool) (a1_1 : Int) (a1_2 : Int) : Option (Bool × Int × Int × Bool) := (spec_WideOk.f a0_0 a0_1 a0_2).bind fun t150 => (if t150 = true then ((spec_WideOk.f a1_0 a1_1 a1_2).bind fun t151 => (spec_AddWide.j0 k (!t151) a0_0 a0_1 a0_2 a1_0 a1_1 a1_2)) else (spec_AddWide.j0 k true a0_0 a0_1 a0_2 a1_0 a1_1 a1_2))
theorem spec_AddWide.mono_l : ∀ k, (∀ y0 y1 y2 y3 y4 y5 y6, LeO (spec_AddWide.j0 k y0 y1 y2 y3 y4 y5 y6) (spec_AddWide.j0 (k + 1) y0 y1 y2 y3 y4 y5 y6)) ∧ (∀ y0 y1 y2 y3 y4 y5, LeO (spec_AddWide.j1 k y0 y1 y2 y3 y4 y5) (spec_AddWide.j1 (k + 1) y0 y1 y2 y3 y4 y5))
  | 0 => ⟨fun _ _ _ _ _ _ _ r h => by simp [spec_AddWide.j0] at h, fun _ _ _ _ _ _ r h => by simp [spec_AddWide.j1] at h⟩
  | k + 1 => by
    obtain ⟨ih0, ih1⟩ := spec_AddWide.mono_l k
    refine ⟨?_, ?_⟩
    · intro y0 y1 y2 y3 y4 y5 y6
      unfold spec_AddWide.j0
      repeat' first
      | (with_reducible exact ih0 _ _ _ _ _ _ _)
      | (with_reducible exact ih1 _ _ _ _ _ _)
      | (with_reducible exact spec_l3Order.mono _ _ _ _ _ _ _)
      | (with_reducible exact LeO.refl _)
      | (with_reducible exact LeO.none _)
      | (with_reducible refine LeO.ite ?_ ?_)
      | (with_reducible refine LeO.bind ?_ (fun _ => ?_))
      | exact ih0 _ _ _ _ _ _ _
      | exact ih1 _ _ _ _ _ _
      | exact spec_l3Order.mono _ _ _ _ _ _ _
      | exact LeO.none _
      | refine LeO.ite ?_ ?_
      | refine LeO.bind ?_ (fun _ => ?_)
    · intro y0 y1 y2 y3 y4 y5
      unfold spec_AddWide.j1
      repeat' first
      | (with_reducible exact ih0 _ _ _ _ _ _ _)
      | (with_reducible exact ih1 _ _ _ _ _ _)
      | (with_reducible exact spec_l3Order.mono _ _ _ _ _ _ _)
      | (with_reducible exact LeO.refl _)
      | (with_reducible exact LeO.none _)
      | (with_reducible refine LeO.ite ?_ ?_)
      | (with_reducible refine LeO.bind ?_ (fun _ => ?_))
      | exact ih0 _ _ _ _ _ _ _
      | exact ih1 _ _ _ _ _ _
      | exact spec_l3Order.mono _ _ _ _ _ _ _
      | exact LeO.none _
      | refine LeO.ite ?_ ?_
      | refine LeO.bind ?_ (fun _ => ?_)
theorem spec_AddWide.mono : ∀ a0 a1 a2 a3 a4 a5 k, LeO (spec_AddWide.f k a0 a1 a2 a3 a4 a5) (spec_AddWide.f (k + 1) a0 a1 a2 a3 a4 a5) := by
  intro a0 a1 a2 a3 a4 a5 k
  obtain ⟨ih0, ih1⟩ := spec_AddWide.mono_l k
  unfold spec_AddWide.f
  repeat' first
      | (with_reducible exact ih0 _ _ _ _ _ _ _)
      | (with_reducible exact ih1 _ _ _ _ _ _)
      | (with_reducible exact spec_l3Order.mono _ _ _ _ _ _ _)
      | (with_reducible exact LeO.refl _)
      | (with_reducible exact LeO.none _)
      | (with_reducible refine LeO.ite ?_ ?_)
      | (with_reducible refine LeO.bind ?_ (fun _ => ?_))
      | exact ih0 _ _ _ _ _ _ _
      | exact ih1 _ _ _ _ _ _
      | exact spec_l3Order.mono _ _ _ _ _ _ _
      | exact LeO.none _
      | refine LeO.ite ?_ ?_
      | refine LeO.bind ?_ (fun _ => ?_)
set_option maxHeartbeats 8000000 in
set_option maxRecDepth 100000 in
theorem spec_AddWide.calls (k : Nat) (a0_0 : Bool) (a0_1 : Int) (a0_2 : Int) (a1_0 : Bool) (a1_1 : Int) (a1_2 : Int) (r1 : Bool) (r2 : Int) (r3 : Int) (r4 : Bool) (w : World) (h : spec_AddWide.f k a0_0 a0_1 a0_2 a1_0 a1_1 a1_2 = some (r1, r2, r3, r4)) :
    Calls Tryd.prog 87 #[.agg #[.bool a0_0, .int .u64 a0_1, .int .u64 a0_2], .agg #[.bool a1_0, .int .u64 a1_1, .int .u64 a1_2]] w fun e w' => e = .returned (.tuple #[.agg #[.bool r1, .int .u64 r2, .int .u64 r3], .bool r4]) ∧ Below w.heap.size w w' := by
  have hu34 := Tryd.underlying34
  have HB := Aside0.mk (Below.refl w.heap.size w)
  have H : ((spec_WideOk.f a0_0 a0_1 a0_2).bind fun t150 => (if t150 = true then ((spec_WideOk.f a1_0 a1_1 a1_2).bind fun t151 => (spec_AddWide.j0 k (!t151) a0_0 a0_1 a0_2 a1_0 a1_1 a1_2)) else (spec_AddWide.j0 k true a0_0 a0_1 a0_2 a1_0 a1_1 a1_2))) = some (r1, r2, r3, r4) := h
  clear h
  have HC3 := Aside0.mk H
  clear H
  go_enter Tryd.func87, Tryd.ntmps87
  go_upto_region 1 with (first | ((with_reducible refine gate_dst (N := 2) rfl ?_); refine box_event ?hg (N := 2) ?hd (cs := #[.bool a0_0, .int .u64 a0_1, .int .u64 a0_2]) (t := 34) ?hr ?_; (case hd => rfl); (case hg => rfl); (case hr => first | (go_simp; done) | (go_simp; rfl)); intro gb147 hg w4 hbox hb; have n0_ := Aside0.mk (below_step bel_ hb); have n1_ := Aside0.mk (hbox); have n2_ := bs_ (w := w) hg; have n3_ := bs_ (w := w) hg; clear HB; have HB := n0_; have BK147 := n1_; have GW147 := n2_; have GE147 := n3_; clear n0_ n1_ n2_ n3_; clear hb hbox hg) | ((with_reducible refine gate_dst (N := 3) rfl ?_); refine box_event ?hg (N := 3) ?hd (cs := #[.bool a1_0, .int .u64 a1_1, .int .u64 a1_2]) (t := 34) ?hr ?_; (case hd => rfl); (case hg => rfl); (case hr => first | (go_simp; done) | (go_simp; rfl)); intro gb148 hg w5 hbox hb; have n0_ := bb_ (g := gb147) hb; have n1_ := Aside0.mk (below_step bel_ hb); have n2_ := Aside0.mk (hbox); have n3_ := bs_ (w := w) hg; have n4_ := bs_ (w := w) hg; have n5_ := nlt_ (g := gb147) hg; have n6_ := ngt_ (g := gb147) hg; clear BK147; clear HB; have BK147 := n0_; have HB := n1_; have BK148 := n2_; have GW148 := n3_; have GE148 := n4_; have NB147_148 := n5_; have NB148_147 := n6_; clear n0_ n1_ n2_ n3_ n4_ n5_ n6_; clear hb hbox hg) | ((with_reducible refine gate_dst (N := 4) rfl ?_); refine box_event ?hg (N := 4) ?hd (cs := #[.bool false, .int .u64 0, .int .u64 0]) (t := 34) ?hr ?_; (case hd => rfl); (case hg => rfl); (case hr => first | (go_simp; done) | (go_simp; rfl)); intro gb149 hg w6 hbox hb; have n0_ := bb_ (g := gb147) hb; have n1_ := bb_ (g := gb148) hb; have n2_ := Aside0.mk (below_step bel_ hb); have n3_ := Aside0.mk (hbox); have n4_ := bs_ (w := w) hg; have n5_ := bs_ (w := w) hg; have n6_ := nlt_ (g := gb147) hg; have n7_ := ngt_ (g := gb147) hg; have n8_ := nlt_ (g := gb148) hg; have n9_ := ngt_ (g := gb148) hg; clear BK147; clear BK148; clear HB; have BK147 := n0_; have BK148 := n1_; have HB := n2_; have BK149 := n3_; have GW149 := n4_; have GE149 := n5_; have NB147_149 := n6_; have NB149_147 := n7_; have NB148_149 := n8_; have NB149_148 := n9_; clear n0_ n1_ n2_ n3_ n4_ n5_ n6_ n7_ n8_ n9_; clear hb hbox hg))
  (try simp only [Act.put, la_, lb_, lc_])
  go_cut [17] (fun v17 wc => ∃ (kq : Nat) (x17_2 : Bool), v17 = .bool x17_2 ∧ Aside0 (spec_AddWide.j0 kq x17_2 a0_0 a0_1 a0_2 a1_0 a1_1 a1_2 = some (r1, r2, r3, r4)) ∧ Aside0 (kq ≤ k) ∧ Aside0 (wc.heap[gb147]? = some (.cells #[.bool a0_0, .int .u64 a0_1, .int .u64 a0_2] 34 (0, 0))) ∧ Aside0 (wc.heap[gb148]? = some (.cells #[.bool a1_0, .int .u64 a1_1, .int .u64 a1_2] 34 (0, 0))) ∧ Aside0 (wc.heap[gb149]? = some (.cells #[.bool false, .int .u64 0, .int .u64 0] 34 (0, 0))) ∧ Aside0 (Below w.heap.size w wc))
  case first =>
    have H := HC3.out
    clear HC3
    replace H := Option.bind_eq_some_iff.mp H
    obtain ⟨t150, A70, H⟩ := H
    replace H : (if t150 = true then ((spec_WideOk.f a1_0 a1_1 a1_2).bind fun t151 => (spec_AddWide.j0 k (!t151) a0_0 a0_1 a0_2 a1_0 a1_1 a1_2)) else (spec_AddWide.j0 k true a0_0 a0_1 a0_2 a1_0 a1_1 a1_2)) = some (r1, r2, r3, r4) := H
    have A7 := Aside0.mk A70
    clear A70
    by_cases c8 : t150 = true
    · subst c8
      have H1 : ((spec_WideOk.f a1_0 a1_1 a1_2).bind fun t151 => (spec_AddWide.j0 k (!t151) a0_0 a0_1 a0_2 a1_0 a1_1 a1_2)) = some (r1, r2, r3, r4) := by rw [if_pos rfl] at H; exact H
      clear H
      have H := H1
      clear H1
      replace H := Option.bind_eq_some_iff.mp H
      obtain ⟨t151, A90, H⟩ := H
      replace H : (spec_AddWide.j0 k (!t151) a0_0 a0_1 a0_2 a1_0 a1_1 a1_2) = some (r1, r2, r3, r4) := H
      have A9 := Aside0.mk A90
      clear A90
      have H' := Aside0.mk H
      clear H
      have hnb10 := NB147_148.out
      have hnc10 := NB148_147.out
      have hnb11 := NB147_149.out
      have hnc11 := NB149_147.out
      obtain ⟨hcz12_0, hcz12_1, hcz12_2, hfz12_0, hfz12_1, hfz12_2⟩ := cf3_ (w := w6) BK147.out
      go_wp2_with (first | ((with_reducible refine gate_callee (f := 72) rfl ?_); refine goesL_ (some 11) rfl rfl Tryd.func72 (by kernel_rfl) rfl #[.agg #[.bool a0_0, .int .u64 a0_1, .int .u64 a0_2]] rfl mp_ ?_; (with_reducible refine (spec_WideOk.calls a0_0 a0_1 a0_2 true _ A7.out).mono ?_); rintro e w13 ⟨rfl, hb⟩; refine ⟨_, rfl, ?_⟩; have n0_ := bb_ (g := gb147) hb; have n1_ := bb_ (g := gb148) hb; have n2_ := bb_ (g := gb149) hb; have n3_ := Aside0.mk (below_step bel_ hb); clear BK147; clear BK148; clear BK149; clear HB; have BK147 := n0_; have BK148 := n1_; have BK149 := n2_; have HB := n3_; clear n0_ n1_ n2_ n3_; (try clear hb); (try clear hb2); (try clear hk); (try clear hi); have hnb14 := NB148_149.out; have hnc14 := NB149_148.out; obtain ⟨hcz15_0, hcz15_1, hcz15_2, hfz15_0, hfz15_1, hfz15_2⟩ := cf3_ (w := w13) BK148.out) | (go_at_call 72; (with_reducible refine (spec_WideOk.calls a1_0 a1_1 a1_2 t151 _ A9.out).mono ?_); rintro e w16 ⟨rfl, hb⟩; have n0_ := bb_ (g := gb147) hb; have n1_ := bb_ (g := gb148) hb; have n2_ := bb_ (g := gb149) hb; have n3_ := Aside0.mk (below_step bel_ hb); clear BK147; clear BK148; clear BK149; clear HB; have BK147 := n0_; have BK148 := n1_; have BK149 := n2_; have HB := n3_; clear n0_ n1_ n2_ n3_; (try clear hb); (try clear hb2); (try clear hk); (try clear hi)))
      go_meet
      case rel => exact ⟨_, (!t151), (by first | rfl | (simp; done) | (simp [*]; done)), H', ⟨by first | omega | exact Nat.le_refl _⟩, ⟨by (with_reducible repeat (first | refine bN_ _ ?_ | refine bd_ ?_ | refine ba_ _ ?_)); exact BK147.out⟩, ⟨by (with_reducible repeat (first | refine bN_ _ ?_ | refine bd_ ?_ | refine ba_ _ ?_)); exact BK148.out⟩, ⟨by (with_reducible repeat (first | refine bN_ _ ?_ | refine bd_ ?_ | refine ba_ _ ?_)); exact BK149.out⟩, ⟨bel_⟩⟩
    · replace c8 := Bool.eq_false_iff.mpr c8
      subst c8
      have H1 : (spec_AddWide.j0 k true a0_0 a0_1 a0_2 a1_0 a1_1 a1_2) = some (r1, r2, r3, r4) := by rw [if_neg (show ¬ (false = true) by decide)] at H; exact H
      clear H
      have H := H1
      clear H1
      have H' := Aside0.mk H
      clear H
      have hnb17 := NB147_148.out
      have hnc17 := NB148_147.out
      have hnb18 := NB147_149.out
      have hnc18 := NB149_147.out
      obtain ⟨hcz19_0, hcz19_1, hcz19_2, hfz19_0, hfz19_1, hfz19_2⟩ := cf3_ (w := w6) BK147.out
      go_wp2_with (first | ((with_reducible refine gate_callee (f := 72) rfl ?_); refine goesL_ (some 11) rfl rfl Tryd.func72 (by kernel_rfl) rfl #[.agg #[.bool a0_0, .int .u64 a0_1, .int .u64 a0_2]] rfl mp_ ?_; (with_reducible refine (spec_WideOk.calls a0_0 a0_1 a0_2 false _ A7.out).mono ?_); rintro e w20 ⟨rfl, hb⟩; refine ⟨_, rfl, ?_⟩; have n0_ := bb_ (g := gb147) hb; have n1_ := bb_ (g := gb148) hb; have n2_ := bb_ (g := gb149) hb; have n3_ := Aside0.mk (below_step bel_ hb); clear BK147; clear BK148; clear BK149; clear HB; have BK147 := n0_; have BK148 := n1_; have BK149 := n2_; have HB := n3_; clear n0_ n1_ n2_ n3_; (try clear hb); (try clear hb2); (try clear hk); (try clear hi)))
      go_meet
      case rel => exact ⟨_, (true), (by first | rfl | (simp; done) | (simp [*]; done)), H', ⟨by first | omega | exact Nat.le_refl _⟩, ⟨by (with_reducible repeat (first | refine bN_ _ ?_ | refine bd_ ?_ | refine ba_ _ ?_)); exact BK147.out⟩, ⟨by (with_reducible repeat (first | refine bN_ _ ?_ | refine bd_ ?_ | refine ba_ _ ?_)); exact BK148.out⟩, ⟨by (with_reducible repeat (first | refine bN_ _ ?_ | refine bd_ ?_ | refine ba_ _ ?_)); exact BK149.out⟩, ⟨bel_⟩⟩
  case rest =>
    clear HC3
    try clear c1
    try clear p2
    try clear c7
    try clear c8
    try clear c10
    try clear c11
    try clear c14
    try clear c17
    try clear c18
    try clear hcz12_0
    try clear hcz12_1
    try clear hcz12_2
    try clear hcz15_0
    try clear hcz15_1
    try clear hcz15_2
    try clear hcz19_0
    try clear hcz19_1
    try clear hcz19_2
    try clear hfz12_0
    try clear hfz12_1
    try clear hfz12_2
    try clear hfz15_0
    try clear hfz15_1
    try clear hfz15_2
    try clear hfz19_0
    try clear hfz19_1
    try clear hfz19_2
    obtain ⟨kq, x17_2, rfl, HA, HJ2, BK147, BK148, BK149, HB⟩ := hcut
    cases kq with
    | zero => exact absurd HA.out (by simp [spec_AddWide.j0])
    | succ kj2 =>
      have H := HA.out
      clear HA
      simp only [spec_AddWide.j0] at H
      by_cases c21 : x17_2 = true
      · subst c21
        have H1 : (some (false, 0, 0, false)) = some (r1, r2, r3, r4) := by rw [if_pos rfl] at H; exact H
        clear H
        have H := H1
        clear H1
        simp only [Option.some.injEq, Prod.mk.injEq] at H
        obtain ⟨rfl, rfl, rfl, rfl⟩ := H
        have hnb22 := NB149_147.out
        have hnc22 := NB147_149.out
        have hnb23 := NB149_148.out
        have hnc23 := NB148_149.out
        obtain ⟨hcz24_0, hcz24_1, hcz24_2, hfz24_0, hfz24_1, hfz24_2⟩ := cf3_ (w := wc) BK149.out
        go_wp2
        refine bodyPost_ret (results_ct rfl _ _ gb149 34 #[.bool false, .int .u64 0, .int .u64 0] (0, 0) _ rfl (pu_ #[.bool false, .int .u64 0, .int .u64 0] 2 (h := (pu_ #[.bool false, .int .u64 0, .int .u64 0] 1 (h := (pu_ #[.bool false, .int .u64 0, .int .u64 0] 0 (h := bk_)))))) Tryd.underlying34 rfl (by kernel_rfl)) rfl ?_
        exact ⟨rf_, bel_⟩
      · replace c21 := Bool.eq_false_iff.mpr c21
        subst c21
        have H1 : (if (a0_0 == a1_0) = true then (if (IntKind.u64.wrap (a0_2 + a1_2)) < a0_2 then ((spec_WideOk.f a0_0 (IntKind.u64.wrap ((IntKind.u64.wrap (a0_1 + a1_1)) + 1)) (IntKind.u64.wrap (a0_2 + a1_2))).bind fun t153 => (if t153 = true then (some (a0_0, IntKind.u64.wrap ((IntKind.u64.wrap (a0_1 + a1_1)) + 1), IntKind.u64.wrap (a0_2 + a1_2), true)) else (some (false, 0, 0, false)))) else ((spec_WideOk.f a0_0 (IntKind.u64.wrap (a0_1 + a1_1)) (IntKind.u64.wrap (a0_2 + a1_2))).bind fun t154 => (if t154 = true then (some (a0_0, IntKind.u64.wrap (a0_1 + a1_1), IntKind.u64.wrap (a0_2 + a1_2), true)) else (some (false, 0, 0, false))))) else ((spec_l3Order.f kj2 a0_0 a0_1 a0_2 a1_0 a1_1 a1_2).bind fun t157 => (if t157 < 0 then (spec_AddWide.j1 kj2 a1_0 a1_1 a1_2 a0_0 a0_1 a0_2) else (spec_AddWide.j1 kj2 a0_0 a0_1 a0_2 a1_0 a1_1 a1_2)))) = some (r1, r2, r3, r4) := by rw [if_neg (show ¬ (false = true) by decide)] at H; exact H
        clear H
        have H := H1
        clear H1
        by_cases c25 : (a0_0 == a1_0) = true
        · rw [if_pos c25] at H
          have c25b0 : (a0_0 == a1_0) = true := c25
          (try (have c25b1 : decide (a0_0 = a1_0) = true := by simpa using c25))
          (try (have c25b2 : (a0_0 == a1_0) = true := by simpa using c25))
          clear c25
          by_cases c26 : (IntKind.u64.wrap (a0_2 + a1_2)) < a0_2
          · rw [if_pos c26] at H
            have c26b0 : decide ((IntKind.u64.wrap (a0_2 + a1_2)) < a0_2) = true := decide_eq_true c26
            clear c26
            replace H := Option.bind_eq_some_iff.mp H
            obtain ⟨t153, A270, H⟩ := H
            replace H : (if t153 = true then (some (a0_0, IntKind.u64.wrap ((IntKind.u64.wrap (a0_1 + a1_1)) + 1), IntKind.u64.wrap (a0_2 + a1_2), true)) else (some (false, 0, 0, false))) = some (r1, r2, r3, r4) := H
            have A27 := Aside0.mk A270
            clear A270
            by_cases c28 : t153 = true
            · subst c28
              have H1 : (some (a0_0, IntKind.u64.wrap ((IntKind.u64.wrap (a0_1 + a1_1)) + 1), IntKind.u64.wrap (a0_2 + a1_2), true)) = some (r1, r2, r3, r4) := by rw [if_pos rfl] at H; exact H
              clear H
              have H := H1
              clear H1
              simp only [Option.some.injEq, Prod.mk.injEq] at H
              obtain ⟨rfl, rfl, rfl, rfl⟩ := H
              have hnb29 := NB147_148.out
              have hnc29 := NB148_147.out
              have hnb30 := NB147_149.out
              have hnc30 := NB149_147.out
              obtain ⟨hcz31_0, hcz31_1, hcz31_2, hfz31_0, hfz31_1, hfz31_2⟩ := cf3_ (w := wc) BK147.out
              have hnb32 := NB148_149.out
              have hnc32 := NB149_148.out
              obtain ⟨hcz33_0, hcz33_1, hcz33_2, hfz33_0, hfz33_1, hfz33_2⟩ := cf3_ (w := wc) BK148.out
              go_wp2_with (first | ((with_reducible refine gate_dst (N := 6) rfl ?_); refine box_event ?hg (N := 6) ?hd (cs := #[.bool false, .int .u64 0, .int .u64 0]) (t := 34) ?hr ?_; (case hd => rfl); (case hg => rfl); (case hr => first | (go_simp; done) | (go_simp; rfl)); intro gb152 hg w34 hbox hb; have n0_ := bb_ (g := gb147) hb; have n1_ := bb_ (g := gb148) hb; have n2_ := bb_ (g := gb149) hb; have n3_ := Aside0.mk (below_step bel_ hb); have n4_ := Aside0.mk (hbox); have n5_ := bs_ (w := w) hg; have n6_ := bs_ (w := w) hg; have n7_ := nlt_ (g := gb147) hg; have n8_ := ngt_ (g := gb147) hg; have n9_ := nlt_ (g := gb148) hg; have n10_ := ngt_ (g := gb148) hg; have n11_ := nlt_ (g := gb149) hg; have n12_ := ngt_ (g := gb149) hg; clear BK147; clear BK148; clear BK149; clear HB; have BK147 := n0_; have BK148 := n1_; have BK149 := n2_; have HB := n3_; have BK152 := n4_; have GW152 := n5_; have GE152 := n6_; have NB147_152 := n7_; have NB152_147 := n8_; have NB148_152 := n9_; have NB152_148 := n10_; have NB149_152 := n11_; have NB152_149 := n12_; clear n0_ n1_ n2_ n3_ n4_ n5_ n6_ n7_ n8_ n9_ n10_ n11_ n12_; clear hb hbox hg; have hnb35 := NB152_147.out; have hnc35 := NB147_152.out; have hnb36 := NB152_148.out; have hnc36 := NB148_152.out; have hnb37 := NB152_149.out; have hnc37 := NB149_152.out; obtain ⟨hcz38_0, hcz38_1, hcz38_2, hfz38_0, hfz38_1, hfz38_2⟩ := cf3_ (w := w34) BK152.out; have hs152_0 : ∀ v0 v1 v2 : Value, (((w34.setCell ⟨gb152, 0, none⟩ v0).setCell ⟨gb152, 1, none⟩ v1).setCell ⟨gb152, 2, none⟩ v2).cell? ⟨gb152, 0, none⟩ = some v0 := fun _ _ _ => set3_0 BK152.out; have hs152_1 : ∀ v0 v1 v2 : Value, (((w34.setCell ⟨gb152, 0, none⟩ v0).setCell ⟨gb152, 1, none⟩ v1).setCell ⟨gb152, 2, none⟩ v2).cell? ⟨gb152, 1, none⟩ = some v1 := fun _ _ _ => set3_1 BK152.out; have hs152_2 : ∀ v0 v1 v2 : Value, (((w34.setCell ⟨gb152, 0, none⟩ v0).setCell ⟨gb152, 1, none⟩ v1).setCell ⟨gb152, 2, none⟩ v2).cell? ⟨gb152, 2, none⟩ = some v2 := fun _ _ _ => set3_2 BK152.out; obtain ⟨hcz39_0, hcz39_1, hcz39_2, hfz39_0, hfz39_1, hfz39_2⟩ := cf3_ (w := w34) BK147.out) | ((with_reducible refine gate_callee (f := 72) rfl ?_); refine goesL_ (some 47) rfl rfl Tryd.func72 (by kernel_rfl) rfl #[.agg #[.bool a0_0, .int .u64 (IntKind.u64.wrap ((IntKind.u64.wrap (a0_1 + a1_1)) + 1)), .int .u64 (IntKind.u64.wrap (a0_2 + a1_2))]] rfl mp_ ?_; (with_reducible refine (spec_WideOk.calls a0_0 (IntKind.u64.wrap ((IntKind.u64.wrap (a0_1 + a1_1)) + 1)) (IntKind.u64.wrap (a0_2 + a1_2)) true _ A27.out).mono ?_); rintro e w40 ⟨rfl, hb⟩; refine ⟨_, rfl, ?_⟩; have n0_ := Aside0.mk (blk_below (g := gb147) (o := .cells #[.bool a0_0, .int .u64 a0_1, .int .u64 a0_2] 34 (0, 0)) bk_ hb); have n1_ := Aside0.mk (blk_below (g := gb148) (o := .cells #[.bool a1_0, .int .u64 a1_1, .int .u64 a1_2] 34 (0, 0)) bk_ hb); have n2_ := Aside0.mk (blk_below (g := gb149) (o := .cells #[.bool false, .int .u64 0, .int .u64 0] 34 (0, 0)) bk_ hb); have n3_ := Aside0.mk (blk_below (g := gb152) (o := .cells #[.bool a0_0, .int .u64 (IntKind.u64.wrap ((IntKind.u64.wrap (a0_1 + a1_1)) + 1)), .int .u64 (IntKind.u64.wrap (a0_2 + a1_2))] 34 (0, 0)) (pu_ #[.bool a0_0, .int .u64 (IntKind.u64.wrap (a0_1 + a1_1)), .int .u64 (IntKind.u64.wrap (a0_2 + a1_2))] 1 (h := (pu_ #[.bool a0_0, .int .u64 (IntKind.u64.wrap (a0_1 + a1_1)), .int .u64 0] 2 (h := (pu_ #[.bool a0_0, .int .u64 0, .int .u64 0] 1 (h := (pu_ #[.bool false, .int .u64 0, .int .u64 0] 0 (h := bk_)))))))) hb); have n4_ := Aside0.mk (below_step bel_ hb); clear BK147; clear BK148; clear BK149; clear BK152; clear HB; have BK147 := n0_; have BK148 := n1_; have BK149 := n2_; have BK152 := n3_; have HB := n4_; clear n0_ n1_ n2_ n3_ n4_; (try clear hb); (try clear hb2); (try clear hk); (try clear hi); obtain ⟨hcz41_0, hcz41_1, hcz41_2, hfz41_0, hfz41_1, hfz41_2⟩ := cf3_ (w := w40) BK152.out; obtain ⟨hcz42_0, hcz42_1, hcz42_2, hfz42_0, hfz42_1, hfz42_2⟩ := cf3_ (w := w40) BK149.out; have hs149_0 : ∀ v0 v1 v2 : Value, (((w40.setCell ⟨gb149, 0, none⟩ v0).setCell ⟨gb149, 1, none⟩ v1).setCell ⟨gb149, 2, none⟩ v2).cell? ⟨gb149, 0, none⟩ = some v0 := fun _ _ _ => set3_0 BK149.out; have hs149_1 : ∀ v0 v1 v2 : Value, (((w40.setCell ⟨gb149, 0, none⟩ v0).setCell ⟨gb149, 1, none⟩ v1).setCell ⟨gb149, 2, none⟩ v2).cell? ⟨gb149, 1, none⟩ = some v1 := fun _ _ _ => set3_1 BK149.out; have hs149_2 : ∀ v0 v1 v2 : Value, (((w40.setCell ⟨gb149, 0, none⟩ v0).setCell ⟨gb149, 1, none⟩ v1).setCell ⟨gb149, 2, none⟩ v2).cell? ⟨gb149, 2, none⟩ = some v2 := fun _ _ _ => set3_2 BK149.out))
              refine bodyPost_ret (results_ct rfl _ _ gb149 34 #[.bool a0_0, .int .u64 (IntKind.u64.wrap ((IntKind.u64.wrap (a0_1 + a1_1)) + 1)), .int .u64 (IntKind.u64.wrap (a0_2 + a1_2))] (0, 0) _ rfl (pu_ #[.bool a0_0, .int .u64 (IntKind.u64.wrap ((IntKind.u64.wrap (a0_1 + a1_1)) + 1)), .int .u64 0] 2 (h := (pu_ #[.bool a0_0, .int .u64 0, .int .u64 0] 1 (h := (pu_ #[.bool false, .int .u64 0, .int .u64 0] 0 (h := bk_)))))) Tryd.underlying34 rfl (by kernel_rfl)) rfl ?_
              exact ⟨rf_, bel_⟩
            · replace c28 := Bool.eq_false_iff.mpr c28
              subst c28
              have H1 : (some (false, 0, 0, false)) = some (r1, r2, r3, r4) := by rw [if_neg (show ¬ (false = true) by decide)] at H; exact H
              clear H
              have H := H1
              clear H1
              simp only [Option.some.injEq, Prod.mk.injEq] at H
              obtain ⟨rfl, rfl, rfl, rfl⟩ := H
              have hnb43 := NB147_148.out
              have hnc43 := NB148_147.out
              have hnb44 := NB147_149.out
              have hnc44 := NB149_147.out
              obtain ⟨hcz45_0, hcz45_1, hcz45_2, hfz45_0, hfz45_1, hfz45_2⟩ := cf3_ (w := wc) BK147.out
              have hnb46 := NB148_149.out
              have hnc46 := NB149_148.out
              obtain ⟨hcz47_0, hcz47_1, hcz47_2, hfz47_0, hfz47_1, hfz47_2⟩ := cf3_ (w := wc) BK148.out
              go_wp2_with (first | ((with_reducible refine gate_dst (N := 6) rfl ?_); refine box_event ?hg (N := 6) ?hd (cs := #[.bool false, .int .u64 0, .int .u64 0]) (t := 34) ?hr ?_; (case hd => rfl); (case hg => rfl); (case hr => first | (go_simp; done) | (go_simp; rfl)); intro gb152 hg w48 hbox hb; have n0_ := bb_ (g := gb147) hb; have n1_ := bb_ (g := gb148) hb; have n2_ := bb_ (g := gb149) hb; have n3_ := Aside0.mk (below_step bel_ hb); have n4_ := Aside0.mk (hbox); have n5_ := bs_ (w := w) hg; have n6_ := bs_ (w := w) hg; have n7_ := nlt_ (g := gb147) hg; have n8_ := ngt_ (g := gb147) hg; have n9_ := nlt_ (g := gb148) hg; have n10_ := ngt_ (g := gb148) hg; have n11_ := nlt_ (g := gb149) hg; have n12_ := ngt_ (g := gb149) hg; clear BK147; clear BK148; clear BK149; clear HB; have BK147 := n0_; have BK148 := n1_; have BK149 := n2_; have HB := n3_; have BK152 := n4_; have GW152 := n5_; have GE152 := n6_; have NB147_152 := n7_; have NB152_147 := n8_; have NB148_152 := n9_; have NB152_148 := n10_; have NB149_152 := n11_; have NB152_149 := n12_; clear n0_ n1_ n2_ n3_ n4_ n5_ n6_ n7_ n8_ n9_ n10_ n11_ n12_; clear hb hbox hg; have hnb49 := NB152_147.out; have hnc49 := NB147_152.out; have hnb50 := NB152_148.out; have hnc50 := NB148_152.out; have hnb51 := NB152_149.out; have hnc51 := NB149_152.out; obtain ⟨hcz52_0, hcz52_1, hcz52_2, hfz52_0, hfz52_1, hfz52_2⟩ := cf3_ (w := w48) BK152.out; have hs152_0 : ∀ v0 v1 v2 : Value, (((w48.setCell ⟨gb152, 0, none⟩ v0).setCell ⟨gb152, 1, none⟩ v1).setCell ⟨gb152, 2, none⟩ v2).cell? ⟨gb152, 0, none⟩ = some v0 := fun _ _ _ => set3_0 BK152.out; have hs152_1 : ∀ v0 v1 v2 : Value, (((w48.setCell ⟨gb152, 0, none⟩ v0).setCell ⟨gb152, 1, none⟩ v1).setCell ⟨gb152, 2, none⟩ v2).cell? ⟨gb152, 1, none⟩ = some v1 := fun _ _ _ => set3_1 BK152.out; have hs152_2 : ∀ v0 v1 v2 : Value, (((w48.setCell ⟨gb152, 0, none⟩ v0).setCell ⟨gb152, 1, none⟩ v1).setCell ⟨gb152, 2, none⟩ v2).cell? ⟨gb152, 2, none⟩ = some v2 := fun _ _ _ => set3_2 BK152.out; obtain ⟨hcz53_0, hcz53_1, hcz53_2, hfz53_0, hfz53_1, hfz53_2⟩ := cf3_ (w := w48) BK147.out) | ((with_reducible refine gate_callee (f := 72) rfl ?_); refine goesL_ (some 47) rfl rfl Tryd.func72 (by kernel_rfl) rfl #[.agg #[.bool a0_0, .int .u64 (IntKind.u64.wrap ((IntKind.u64.wrap (a0_1 + a1_1)) + 1)), .int .u64 (IntKind.u64.wrap (a0_2 + a1_2))]] rfl mp_ ?_; (with_reducible refine (spec_WideOk.calls a0_0 (IntKind.u64.wrap ((IntKind.u64.wrap (a0_1 + a1_1)) + 1)) (IntKind.u64.wrap (a0_2 + a1_2)) false _ A27.out).mono ?_); rintro e w54 ⟨rfl, hb⟩; refine ⟨_, rfl, ?_⟩; have n0_ := Aside0.mk (blk_below (g := gb147) (o := .cells #[.bool a0_0, .int .u64 a0_1, .int .u64 a0_2] 34 (0, 0)) bk_ hb); have n1_ := Aside0.mk (blk_below (g := gb148) (o := .cells #[.bool a1_0, .int .u64 a1_1, .int .u64 a1_2] 34 (0, 0)) bk_ hb); have n2_ := Aside0.mk (blk_below (g := gb149) (o := .cells #[.bool false, .int .u64 0, .int .u64 0] 34 (0, 0)) bk_ hb); have n3_ := Aside0.mk (blk_below (g := gb152) (o := .cells #[.bool a0_0, .int .u64 (IntKind.u64.wrap ((IntKind.u64.wrap (a0_1 + a1_1)) + 1)), .int .u64 (IntKind.u64.wrap (a0_2 + a1_2))] 34 (0, 0)) (pu_ #[.bool a0_0, .int .u64 (IntKind.u64.wrap (a0_1 + a1_1)), .int .u64 (IntKind.u64.wrap (a0_2 + a1_2))] 1 (h := (pu_ #[.bool a0_0, .int .u64 (IntKind.u64.wrap (a0_1 + a1_1)), .int .u64 0] 2 (h := (pu_ #[.bool a0_0, .int .u64 0, .int .u64 0] 1 (h := (pu_ #[.bool false, .int .u64 0, .int .u64 0] 0 (h := bk_)))))))) hb); have n4_ := Aside0.mk (below_step bel_ hb); clear BK147; clear BK148; clear BK149; clear BK152; clear HB; have BK147 := n0_; have BK148 := n1_; have BK149 := n2_; have BK152 := n3_; have HB := n4_; clear n0_ n1_ n2_ n3_ n4_; (try clear hb); (try clear hb2); (try clear hk); (try clear hi); obtain ⟨hcz55_0, hcz55_1, hcz55_2, hfz55_0, hfz55_1, hfz55_2⟩ := cf3_ (w := w54) BK149.out; have hs149_0 : ∀ v0 v1 v2 : Value, (((w54.setCell ⟨gb149, 0, none⟩ v0).setCell ⟨gb149, 1, none⟩ v1).setCell ⟨gb149, 2, none⟩ v2).cell? ⟨gb149, 0, none⟩ = some v0 := fun _ _ _ => set3_0 BK149.out; have hs149_1 : ∀ v0 v1 v2 : Value, (((w54.setCell ⟨gb149, 0, none⟩ v0).setCell ⟨gb149, 1, none⟩ v1).setCell ⟨gb149, 2, none⟩ v2).cell? ⟨gb149, 1, none⟩ = some v1 := fun _ _ _ => set3_1 BK149.out; have hs149_2 : ∀ v0 v1 v2 : Value, (((w54.setCell ⟨gb149, 0, none⟩ v0).setCell ⟨gb149, 1, none⟩ v1).setCell ⟨gb149, 2, none⟩ v2).cell? ⟨gb149, 2, none⟩ = some v2 := fun _ _ _ => set3_2 BK149.out))
              refine bodyPost_ret (results_ct rfl _ _ gb149 34 #[.bool false, .int .u64 0, .int .u64 0] (0, 0) _ rfl (pu_ #[.bool false, .int .u64 0, .int .u64 0] 2 (h := (pu_ #[.bool false, .int .u64 0, .int .u64 0] 1 (h := (pu_ #[.bool false, .int .u64 0, .int .u64 0] 0 (h := bk_)))))) Tryd.underlying34 rfl (by kernel_rfl)) rfl ?_
              exact ⟨rf_, bel_⟩
          · rw [if_neg c26] at H
            have c26b0 : decide ((IntKind.u64.wrap (a0_2 + a1_2)) < a0_2) = false := decide_eq_false c26
            clear c26
            replace H := Option.bind_eq_some_iff.mp H
            obtain ⟨t154, A560, H⟩ := H
            replace H : (if t154 = true then (some (a0_0, IntKind.u64.wrap (a0_1 + a1_1), IntKind.u64.wrap (a0_2 + a1_2), true)) else (some (false, 0, 0, false))) = some (r1, r2, r3, r4) := H
            have A56 := Aside0.mk A560
            clear A560
            by_cases c57 : t154 = true
            · subst c57
              have H1 : (some (a0_0, IntKind.u64.wrap (a0_1 + a1_1), IntKind.u64.wrap (a0_2 + a1_2), true)) = some (r1, r2, r3, r4) := by rw [if_pos rfl] at H; exact H
              clear H
              have H := H1
              clear H1
              simp only [Option.some.injEq, Prod.mk.injEq] at H
              obtain ⟨rfl, rfl, rfl, rfl⟩ := H
              have hnb58 := NB147_148.out
              have hnc58 := NB148_147.out
              have hnb59 := NB147_149.out
              have hnc59 := NB149_147.out
              obtain ⟨hcz60_0, hcz60_1, hcz60_2, hfz60_0, hfz60_1, hfz60_2⟩ := cf3_ (w := wc) BK147.out
              have hnb61 := NB148_149.out
              have hnc61 := NB149_148.out
              obtain ⟨hcz62_0, hcz62_1, hcz62_2, hfz62_0, hfz62_1, hfz62_2⟩ := cf3_ (w := wc) BK148.out
              go_wp2_with (first | ((with_reducible refine gate_dst (N := 6) rfl ?_); refine box_event ?hg (N := 6) ?hd (cs := #[.bool false, .int .u64 0, .int .u64 0]) (t := 34) ?hr ?_; (case hd => rfl); (case hg => rfl); (case hr => first | (go_simp; done) | (go_simp; rfl)); intro gb152 hg w63 hbox hb; have n0_ := bb_ (g := gb147) hb; have n1_ := bb_ (g := gb148) hb; have n2_ := bb_ (g := gb149) hb; have n3_ := Aside0.mk (below_step bel_ hb); have n4_ := Aside0.mk (hbox); have n5_ := bs_ (w := w) hg; have n6_ := bs_ (w := w) hg; have n7_ := nlt_ (g := gb147) hg; have n8_ := ngt_ (g := gb147) hg; have n9_ := nlt_ (g := gb148) hg; have n10_ := ngt_ (g := gb148) hg; have n11_ := nlt_ (g := gb149) hg; have n12_ := ngt_ (g := gb149) hg; clear BK147; clear BK148; clear BK149; clear HB; have BK147 := n0_; have BK148 := n1_; have BK149 := n2_; have HB := n3_; have BK152 := n4_; have GW152 := n5_; have GE152 := n6_; have NB147_152 := n7_; have NB152_147 := n8_; have NB148_152 := n9_; have NB152_148 := n10_; have NB149_152 := n11_; have NB152_149 := n12_; clear n0_ n1_ n2_ n3_ n4_ n5_ n6_ n7_ n8_ n9_ n10_ n11_ n12_; clear hb hbox hg; have hnb64 := NB152_147.out; have hnc64 := NB147_152.out; have hnb65 := NB152_148.out; have hnc65 := NB148_152.out; have hnb66 := NB152_149.out; have hnc66 := NB149_152.out; obtain ⟨hcz67_0, hcz67_1, hcz67_2, hfz67_0, hfz67_1, hfz67_2⟩ := cf3_ (w := w63) BK152.out; have hs152_0 : ∀ v0 v1 v2 : Value, (((w63.setCell ⟨gb152, 0, none⟩ v0).setCell ⟨gb152, 1, none⟩ v1).setCell ⟨gb152, 2, none⟩ v2).cell? ⟨gb152, 0, none⟩ = some v0 := fun _ _ _ => set3_0 BK152.out; have hs152_1 : ∀ v0 v1 v2 : Value, (((w63.setCell ⟨gb152, 0, none⟩ v0).setCell ⟨gb152, 1, none⟩ v1).setCell ⟨gb152, 2, none⟩ v2).cell? ⟨gb152, 1, none⟩ = some v1 := fun _ _ _ => set3_1 BK152.out; have hs152_2 : ∀ v0 v1 v2 : Value, (((w63.setCell ⟨gb152, 0, none⟩ v0).setCell ⟨gb152, 1, none⟩ v1).setCell ⟨gb152, 2, none⟩ v2).cell? ⟨gb152, 2, none⟩ = some v2 := fun _ _ _ => set3_2 BK152.out; obtain ⟨hcz68_0, hcz68_1, hcz68_2, hfz68_0, hfz68_1, hfz68_2⟩ := cf3_ (w := w63) BK147.out) | ((with_reducible refine gate_callee (f := 72) rfl ?_); refine goesL_ (some 47) rfl rfl Tryd.func72 (by kernel_rfl) rfl #[.agg #[.bool a0_0, .int .u64 (IntKind.u64.wrap (a0_1 + a1_1)), .int .u64 (IntKind.u64.wrap (a0_2 + a1_2))]] rfl mp_ ?_; (with_reducible refine (spec_WideOk.calls a0_0 (IntKind.u64.wrap (a0_1 + a1_1)) (IntKind.u64.wrap (a0_2 + a1_2)) true _ A56.out).mono ?_); rintro e w69 ⟨rfl, hb⟩; refine ⟨_, rfl, ?_⟩; have n0_ := Aside0.mk (blk_below (g := gb147) (o := .cells #[.bool a0_0, .int .u64 a0_1, .int .u64 a0_2] 34 (0, 0)) bk_ hb); have n1_ := Aside0.mk (blk_below (g := gb148) (o := .cells #[.bool a1_0, .int .u64 a1_1, .int .u64 a1_2] 34 (0, 0)) bk_ hb); have n2_ := Aside0.mk (blk_below (g := gb149) (o := .cells #[.bool false, .int .u64 0, .int .u64 0] 34 (0, 0)) bk_ hb); have n3_ := Aside0.mk (blk_below (g := gb152) (o := .cells #[.bool a0_0, .int .u64 (IntKind.u64.wrap (a0_1 + a1_1)), .int .u64 (IntKind.u64.wrap (a0_2 + a1_2))] 34 (0, 0)) (pu_ #[.bool a0_0, .int .u64 (IntKind.u64.wrap (a0_1 + a1_1)), .int .u64 0] 2 (h := (pu_ #[.bool a0_0, .int .u64 0, .int .u64 0] 1 (h := (pu_ #[.bool false, .int .u64 0, .int .u64 0] 0 (h := bk_)))))) hb); have n4_ := Aside0.mk (below_step bel_ hb); clear BK147; clear BK148; clear BK149; clear BK152; clear HB; have BK147 := n0_; have BK148 := n1_; have BK149 := n2_; have BK152 := n3_; have HB := n4_; clear n0_ n1_ n2_ n3_ n4_; (try clear hb); (try clear hb2); (try clear hk); (try clear hi); obtain ⟨hcz70_0, hcz70_1, hcz70_2, hfz70_0, hfz70_1, hfz70_2⟩ := cf3_ (w := w69) BK152.out; obtain ⟨hcz71_0, hcz71_1, hcz71_2, hfz71_0, hfz71_1, hfz71_2⟩ := cf3_ (w := w69) BK149.out; have hs149_0 : ∀ v0 v1 v2 : Value, (((w69.setCell ⟨gb149, 0, none⟩ v0).setCell ⟨gb149, 1, none⟩ v1).setCell ⟨gb149, 2, none⟩ v2).cell? ⟨gb149, 0, none⟩ = some v0 := fun _ _ _ => set3_0 BK149.out; have hs149_1 : ∀ v0 v1 v2 : Value, (((w69.setCell ⟨gb149, 0, none⟩ v0).setCell ⟨gb149, 1, none⟩ v1).setCell ⟨gb149, 2, none⟩ v2).cell? ⟨gb149, 1, none⟩ = some v1 := fun _ _ _ => set3_1 BK149.out; have hs149_2 : ∀ v0 v1 v2 : Value, (((w69.setCell ⟨gb149, 0, none⟩ v0).setCell ⟨gb149, 1, none⟩ v1).setCell ⟨gb149, 2, none⟩ v2).cell? ⟨gb149, 2, none⟩ = some v2 := fun _ _ _ => set3_2 BK149.out))
              refine bodyPost_ret (results_ct rfl _ _ gb149 34 #[.bool a0_0, .int .u64 (IntKind.u64.wrap (a0_1 + a1_1)), .int .u64 (IntKind.u64.wrap (a0_2 + a1_2))] (0, 0) _ rfl (pu_ #[.bool a0_0, .int .u64 (IntKind.u64.wrap (a0_1 + a1_1)), .int .u64 0] 2 (h := (pu_ #[.bool a0_0, .int .u64 0, .int .u64 0] 1 (h := (pu_ #[.bool false, .int .u64 0, .int .u64 0] 0 (h := bk_)))))) Tryd.underlying34 rfl (by kernel_rfl)) rfl ?_
              exact ⟨rf_, bel_⟩
            · replace c57 := Bool.eq_false_iff.mpr c57
              subst c57
              have H1 : (some (false, 0, 0, false)) = some (r1, r2, r3, r4) := by rw [if_neg (show ¬ (false = true) by decide)] at H; exact H
              clear H
              have H := H1
              clear H1
              simp only [Option.some.injEq, Prod.mk.injEq] at H
              obtain ⟨rfl, rfl, rfl, rfl⟩ := H
              have hnb72 := NB147_148.out
              have hnc72 := NB148_147.out
              have hnb73 := NB147_149.out
              have hnc73 := NB149_147.out
              obtain ⟨hcz74_0, hcz74_1, hcz74_2, hfz74_0, hfz74_1, hfz74_2⟩ := cf3_ (w := wc) BK147.out
              have hnb75 := NB148_149.out
              have hnc75 := NB149_148.out
              obtain ⟨hcz76_0, hcz76_1, hcz76_2, hfz76_0, hfz76_1, hfz76_2⟩ := cf3_ (w := wc) BK148.out
              go_wp2_with (first | ((with_reducible refine gate_dst (N := 6) rfl ?_); refine box_event ?hg (N := 6) ?hd (cs := #[.bool false, .int .u64 0, .int .u64 0]) (t := 34) ?hr ?_; (case hd => rfl); (case hg => rfl); (case hr => first | (go_simp; done) | (go_simp; rfl)); intro gb152 hg w77 hbox hb; have n0_ := bb_ (g := gb147) hb; have n1_ := bb_ (g := gb148) hb; have n2_ := bb_ (g := gb149) hb; have n3_ := Aside0.mk (below_step bel_ hb); have n4_ := Aside0.mk (hbox); have n5_ := bs_ (w := w) hg; have n6_ := bs_ (w := w) hg; have n7_ := nlt_ (g := gb147) hg; have n8_ := ngt_ (g := gb147) hg; have n9_ := nlt_ (g := gb148) hg; have n10_ := ngt_ (g := gb148) hg; have n11_ := nlt_ (g := gb149) hg; have n12_ := ngt_ (g := gb149) hg; clear BK147; clear BK148; clear BK149; clear HB; have BK147 := n0_; have BK148 := n1_; have BK149 := n2_; have HB := n3_; have BK152 := n4_; have GW152 := n5_; have GE152 := n6_; have NB147_152 := n7_; have NB152_147 := n8_; have NB148_152 := n9_; have NB152_148 := n10_; have NB149_152 := n11_; have NB152_149 := n12_; clear n0_ n1_ n2_ n3_ n4_ n5_ n6_ n7_ n8_ n9_ n10_ n11_ n12_; clear hb hbox hg; have hnb78 := NB152_147.out; have hnc78 := NB147_152.out; have hnb79 := NB152_148.out; have hnc79 := NB148_152.out; have hnb80 := NB152_149.out; have hnc80 := NB149_152.out; obtain ⟨hcz81_0, hcz81_1, hcz81_2, hfz81_0, hfz81_1, hfz81_2⟩ := cf3_ (w := w77) BK152.out; have hs152_0 : ∀ v0 v1 v2 : Value, (((w77.setCell ⟨gb152, 0, none⟩ v0).setCell ⟨gb152, 1, none⟩ v1).setCell ⟨gb152, 2, none⟩ v2).cell? ⟨gb152, 0, none⟩ = some v0 := fun _ _ _ => set3_0 BK152.out; have hs152_1 : ∀ v0 v1 v2 : Value, (((w77.setCell ⟨gb152, 0, none⟩ v0).setCell ⟨gb152, 1, none⟩ v1).setCell ⟨gb152, 2, none⟩ v2).cell? ⟨gb152, 1, none⟩ = some v1 := fun _ _ _ => set3_1 BK152.out; have hs152_2 : ∀ v0 v1 v2 : Value, (((w77.setCell ⟨gb152, 0, none⟩ v0).setCell ⟨gb152, 1, none⟩ v1).setCell ⟨gb152, 2, none⟩ v2).cell? ⟨gb152, 2, none⟩ = some v2 := fun _ _ _ => set3_2 BK152.out; obtain ⟨hcz82_0, hcz82_1, hcz82_2, hfz82_0, hfz82_1, hfz82_2⟩ := cf3_ (w := w77) BK147.out) | ((with_reducible refine gate_callee (f := 72) rfl ?_); refine goesL_ (some 47) rfl rfl Tryd.func72 (by kernel_rfl) rfl #[.agg #[.bool a0_0, .int .u64 (IntKind.u64.wrap (a0_1 + a1_1)), .int .u64 (IntKind.u64.wrap (a0_2 + a1_2))]] rfl mp_ ?_; (with_reducible refine (spec_WideOk.calls a0_0 (IntKind.u64.wrap (a0_1 + a1_1)) (IntKind.u64.wrap (a0_2 + a1_2)) false _ A56.out).mono ?_); rintro e w83 ⟨rfl, hb⟩; refine ⟨_, rfl, ?_⟩; have n0_ := Aside0.mk (blk_below (g := gb147) (o := .cells #[.bool a0_0, .int .u64 a0_1, .int .u64 a0_2] 34 (0, 0)) bk_ hb); have n1_ := Aside0.mk (blk_below (g := gb148) (o := .cells #[.bool a1_0, .int .u64 a1_1, .int .u64 a1_2] 34 (0, 0)) bk_ hb); have n2_ := Aside0.mk (blk_below (g := gb149) (o := .cells #[.bool false, .int .u64 0, .int .u64 0] 34 (0, 0)) bk_ hb); have n3_ := Aside0.mk (blk_below (g := gb152) (o := .cells #[.bool a0_0, .int .u64 (IntKind.u64.wrap (a0_1 + a1_1)), .int .u64 (IntKind.u64.wrap (a0_2 + a1_2))] 34 (0, 0)) (pu_ #[.bool a0_0, .int .u64 (IntKind.u64.wrap (a0_1 + a1_1)), .int .u64 0] 2 (h := (pu_ #[.bool a0_0, .int .u64 0, .int .u64 0] 1 (h := (pu_ #[.bool false, .int .u64 0, .int .u64 0] 0 (h := bk_)))))) hb); have n4_ := Aside0.mk (below_step bel_ hb); clear BK147; clear BK148; clear BK149; clear BK152; clear HB; have BK147 := n0_; have BK148 := n1_; have BK149 := n2_; have BK152 := n3_; have HB := n4_; clear n0_ n1_ n2_ n3_ n4_; (try clear hb); (try clear hb2); (try clear hk); (try clear hi); obtain ⟨hcz84_0, hcz84_1, hcz84_2, hfz84_0, hfz84_1, hfz84_2⟩ := cf3_ (w := w83) BK149.out; have hs149_0 : ∀ v0 v1 v2 : Value, (((w83.setCell ⟨gb149, 0, none⟩ v0).setCell ⟨gb149, 1, none⟩ v1).setCell ⟨gb149, 2, none⟩ v2).cell? ⟨gb149, 0, none⟩ = some v0 := fun _ _ _ => set3_0 BK149.out; have hs149_1 : ∀ v0 v1 v2 : Value, (((w83.setCell ⟨gb149, 0, none⟩ v0).setCell ⟨gb149, 1, none⟩ v1).setCell ⟨gb149, 2, none⟩ v2).cell? ⟨gb149, 1, none⟩ = some v1 := fun _ _ _ => set3_1 BK149.out; have hs149_2 : ∀ v0 v1 v2 : Value, (((w83.setCell ⟨gb149, 0, none⟩ v0).setCell ⟨gb149, 1, none⟩ v1).setCell ⟨gb149, 2, none⟩ v2).cell? ⟨gb149, 2, none⟩ = some v2 := fun _ _ _ => set3_2 BK149.out))
              refine bodyPost_ret (results_ct rfl _ _ gb149 34 #[.bool false, .int .u64 0, .int .u64 0] (0, 0) _ rfl (pu_ #[.bool false, .int .u64 0, .int .u64 0] 2 (h := (pu_ #[.bool false, .int .u64 0, .int .u64 0] 1 (h := (pu_ #[.bool false, .int .u64 0, .int .u64 0] 0 (h := bk_)))))) Tryd.underlying34 rfl (by kernel_rfl)) rfl ?_
              exact ⟨rf_, bel_⟩
        · rw [if_neg c25] at H
          have c25b0 : (a0_0 == a1_0) = false := by simpa using c25
          (try (have c25b1 : decide (a0_0 = a1_0) = false := by simpa using c25))
          (try (have c25b2 : (a0_0 == a1_0) = false := by simpa using c25))
          (try (have c25b3 : ¬ (a0_0 = a1_0) := by simpa using c25))
          clear c25
          replace H := Option.bind_eq_some_iff.mp H
          obtain ⟨t157, A850, H⟩ := H
          replace H : (if t157 < 0 then (spec_AddWide.j1 kj2 a1_0 a1_1 a1_2 a0_0 a0_1 a0_2) else (spec_AddWide.j1 kj2 a0_0 a0_1 a0_2 a1_0 a1_1 a1_2)) = some (r1, r2, r3, r4) := H
          have A85 := Aside0.mk A850
          clear A850
          have HC86 := Aside0.mk H
          clear H
          have hnb87 := NB147_148.out
          have hnc87 := NB148_147.out
          have hnb88 := NB147_149.out
          have hnc88 := NB149_147.out
          obtain ⟨hcz89_0, hcz89_1, hcz89_2, hfz89_0, hfz89_1, hfz89_2⟩ := cf3_ (w := wc) BK147.out
          have hnb90 := NB148_149.out
          have hnc90 := NB149_148.out
          obtain ⟨hcz91_0, hcz91_1, hcz91_2, hfz91_0, hfz91_1, hfz91_2⟩ := cf3_ (w := wc) BK148.out
          go_upto_if 56 with (first | ((with_reducible refine gate_dst (N := 7) rfl ?_); refine box_event ?hg (N := 7) ?hd (cs := #[.bool false, .int .u64 0, .int .u64 0]) (t := 34) ?hr ?_; (case hd => rfl); (case hg => rfl); (case hr => first | (go_simp; done) | (go_simp; rfl)); intro gb155 hg w92 hbox hb; have n0_ := bb_ (g := gb147) hb; have n1_ := bb_ (g := gb148) hb; have n2_ := bb_ (g := gb149) hb; have n3_ := Aside0.mk (below_step bel_ hb); have n4_ := Aside0.mk (hbox); have n5_ := bs_ (w := w) hg; have n6_ := bs_ (w := w) hg; have n7_ := nlt_ (g := gb147) hg; have n8_ := ngt_ (g := gb147) hg; have n9_ := nlt_ (g := gb148) hg; have n10_ := ngt_ (g := gb148) hg; have n11_ := nlt_ (g := gb149) hg; have n12_ := ngt_ (g := gb149) hg; clear BK147; clear BK148; clear BK149; clear HB; have BK147 := n0_; have BK148 := n1_; have BK149 := n2_; have HB := n3_; have BK155 := n4_; have GW155 := n5_; have GE155 := n6_; have NB147_155 := n7_; have NB155_147 := n8_; have NB148_155 := n9_; have NB155_148 := n10_; have NB149_155 := n11_; have NB155_149 := n12_; clear n0_ n1_ n2_ n3_ n4_ n5_ n6_ n7_ n8_ n9_ n10_ n11_ n12_; clear hb hbox hg; have hnb93 := NB155_147.out; have hnc93 := NB147_155.out; have hnb94 := NB155_148.out; have hnc94 := NB148_155.out; have hnb95 := NB155_149.out; have hnc95 := NB149_155.out; obtain ⟨hcz96_0, hcz96_1, hcz96_2, hfz96_0, hfz96_1, hfz96_2⟩ := cf3_ (w := w92) BK155.out; have hs155_0 : ∀ v0 v1 v2 : Value, (((w92.setCell ⟨gb155, 0, none⟩ v0).setCell ⟨gb155, 1, none⟩ v1).setCell ⟨gb155, 2, none⟩ v2).cell? ⟨gb155, 0, none⟩ = some v0 := fun _ _ _ => set3_0 BK155.out; have hs155_1 : ∀ v0 v1 v2 : Value, (((w92.setCell ⟨gb155, 0, none⟩ v0).setCell ⟨gb155, 1, none⟩ v1).setCell ⟨gb155, 2, none⟩ v2).cell? ⟨gb155, 1, none⟩ = some v1 := fun _ _ _ => set3_1 BK155.out; have hs155_2 : ∀ v0 v1 v2 : Value, (((w92.setCell ⟨gb155, 0, none⟩ v0).setCell ⟨gb155, 1, none⟩ v1).setCell ⟨gb155, 2, none⟩ v2).cell? ⟨gb155, 2, none⟩ = some v2 := fun _ _ _ => set3_2 BK155.out; obtain ⟨hcz97_0, hcz97_1, hcz97_2, hfz97_0, hfz97_1, hfz97_2⟩ := cf3_ (w := w92) BK148.out) | ((with_reducible refine gate_dst (N := 8) rfl ?_); refine box_event ?hg (N := 8) ?hd (cs := #[.bool false, .int .u64 0, .int .u64 0]) (t := 34) ?hr ?_; (case hd => rfl); (case hg => rfl); (case hr => first | (go_simp; done) | (go_simp; rfl)); intro gb156 hg w98 hbox hb; have n0_ := Aside0.mk (blk_below (g := gb147) (o := .cells #[.bool a0_0, .int .u64 a0_1, .int .u64 a0_2] 34 (0, 0)) bk_ hb); have n1_ := Aside0.mk (blk_below (g := gb148) (o := .cells #[.bool a1_0, .int .u64 a1_1, .int .u64 a1_2] 34 (0, 0)) bk_ hb); have n2_ := Aside0.mk (blk_below (g := gb149) (o := .cells #[.bool false, .int .u64 0, .int .u64 0] 34 (0, 0)) bk_ hb); have n3_ := Aside0.mk (blk_below (g := gb155) (o := .cells #[.bool a0_0, .int .u64 a0_1, .int .u64 a0_2] 34 (0, 0)) (pu_ #[.bool a0_0, .int .u64 a0_1, .int .u64 0] 2 (h := (pu_ #[.bool a0_0, .int .u64 0, .int .u64 0] 1 (h := (pu_ #[.bool false, .int .u64 0, .int .u64 0] 0 (h := bk_)))))) hb); have n4_ := Aside0.mk (below_step bel_ hb); have n5_ := Aside0.mk (hbox); have n6_ := bs_ (w := w) hg; have n7_ := bs_ (w := w) hg; have n8_ := Aside0.mk ((by rw [hg]; exact Nat.ne_of_lt (blk_lt (g := gb147) (o := .cells #[.bool a0_0, .int .u64 a0_1, .int .u64 a0_2] 34 (0, 0)) bk_) : gb147 ≠ gb156)); have n9_ := Aside0.mk ((by rw [hg]; exact Nat.ne_of_gt (blk_lt (g := gb147) (o := .cells #[.bool a0_0, .int .u64 a0_1, .int .u64 a0_2] 34 (0, 0)) bk_) : gb156 ≠ gb147)); have n10_ := Aside0.mk ((by rw [hg]; exact Nat.ne_of_lt (blk_lt (g := gb148) (o := .cells #[.bool a1_0, .int .u64 a1_1, .int .u64 a1_2] 34 (0, 0)) bk_) : gb148 ≠ gb156)); have n11_ := Aside0.mk ((by rw [hg]; exact Nat.ne_of_gt (blk_lt (g := gb148) (o := .cells #[.bool a1_0, .int .u64 a1_1, .int .u64 a1_2] 34 (0, 0)) bk_) : gb156 ≠ gb148)); have n12_ := Aside0.mk ((by rw [hg]; exact Nat.ne_of_lt (blk_lt (g := gb149) (o := .cells #[.bool false, .int .u64 0, .int .u64 0] 34 (0, 0)) bk_) : gb149 ≠ gb156)); have n13_ := Aside0.mk ((by rw [hg]; exact Nat.ne_of_gt (blk_lt (g := gb149) (o := .cells #[.bool false, .int .u64 0, .int .u64 0] 34 (0, 0)) bk_) : gb156 ≠ gb149)); have n14_ := Aside0.mk ((by rw [hg]; exact Nat.ne_of_lt (blk_lt (g := gb155) (o := .cells #[.bool a0_0, .int .u64 a0_1, .int .u64 a0_2] 34 (0, 0)) (pu_ #[.bool a0_0, .int .u64 a0_1, .int .u64 0] 2 (h := (pu_ #[.bool a0_0, .int .u64 0, .int .u64 0] 1 (h := (pu_ #[.bool false, .int .u64 0, .int .u64 0] 0 (h := bk_))))))) : gb155 ≠ gb156)); have n15_ := Aside0.mk ((by rw [hg]; exact Nat.ne_of_gt (blk_lt (g := gb155) (o := .cells #[.bool a0_0, .int .u64 a0_1, .int .u64 a0_2] 34 (0, 0)) (pu_ #[.bool a0_0, .int .u64 a0_1, .int .u64 0] 2 (h := (pu_ #[.bool a0_0, .int .u64 0, .int .u64 0] 1 (h := (pu_ #[.bool false, .int .u64 0, .int .u64 0] 0 (h := bk_))))))) : gb156 ≠ gb155)); clear BK147; clear BK148; clear BK149; clear BK155; clear HB; have BK147 := n0_; have BK148 := n1_; have BK149 := n2_; have BK155 := n3_; have HB := n4_; have BK156 := n5_; have GW156 := n6_; have GE156 := n7_; have NB147_156 := n8_; have NB156_147 := n9_; have NB148_156 := n10_; have NB156_148 := n11_; have NB149_156 := n12_; have NB156_149 := n13_; have NB155_156 := n14_; have NB156_155 := n15_; clear n0_ n1_ n2_ n3_ n4_ n5_ n6_ n7_ n8_ n9_ n10_ n11_ n12_ n13_ n14_ n15_; clear hb hbox hg; have hnb99 := NB156_147.out; have hnc99 := NB147_156.out; have hnb100 := NB156_148.out; have hnc100 := NB148_156.out; have hnb101 := NB156_149.out; have hnc101 := NB149_156.out; have hnb102 := NB156_155.out; have hnc102 := NB155_156.out; obtain ⟨hcz103_0, hcz103_1, hcz103_2, hfz103_0, hfz103_1, hfz103_2⟩ := cf3_ (w := w98) BK156.out; have hs156_0 : ∀ v0 v1 v2 : Value, (((w98.setCell ⟨gb156, 0, none⟩ v0).setCell ⟨gb156, 1, none⟩ v1).setCell ⟨gb156, 2, none⟩ v2).cell? ⟨gb156, 0, none⟩ = some v0 := fun _ _ _ => set3_0 BK156.out; have hs156_1 : ∀ v0 v1 v2 : Value, (((w98.setCell ⟨gb156, 0, none⟩ v0).setCell ⟨gb156, 1, none⟩ v1).setCell ⟨gb156, 2, none⟩ v2).cell? ⟨gb156, 1, none⟩ = some v1 := fun _ _ _ => set3_1 BK156.out; have hs156_2 : ∀ v0 v1 v2 : Value, (((w98.setCell ⟨gb156, 0, none⟩ v0).setCell ⟨gb156, 1, none⟩ v1).setCell ⟨gb156, 2, none⟩ v2).cell? ⟨gb156, 2, none⟩ = some v2 := fun _ _ _ => set3_2 BK156.out; obtain ⟨hcz104_0, hcz104_1, hcz104_2, hfz104_0, hfz104_1, hfz104_2⟩ := cf3_ (w := w98) BK147.out; obtain ⟨hcz105_0, hcz105_1, hcz105_2, hfz105_0, hfz105_1, hfz105_2⟩ := cf3_ (w := w98) BK148.out) | ((with_reducible refine gate_callee (f := 115) rfl ?_); refine goesL_ (some 55) rfl rfl Tryd.func115 (by kernel_rfl) rfl #[.agg #[.bool a0_0, .int .u64 a0_1, .int .u64 a0_2], .agg #[.bool a1_0, .int .u64 a1_1, .int .u64 a1_2]] rfl mp_ ?_; (with_reducible refine (spec_l3Order.calls kj2 a0_0 a0_1 a0_2 a1_0 a1_1 a1_2 t157 _ A85.out).mono ?_); rintro e w106 ⟨rfl, hb⟩; refine ⟨_, rfl, ?_⟩; have n0_ := Aside0.mk (blk_below (g := gb147) (o := .cells #[.bool a0_0, .int .u64 a0_1, .int .u64 a0_2] 34 (0, 0)) bk_ hb); have n1_ := Aside0.mk (blk_below (g := gb148) (o := .cells #[.bool a1_0, .int .u64 a1_1, .int .u64 a1_2] 34 (0, 0)) bk_ hb); have n2_ := Aside0.mk (blk_below (g := gb149) (o := .cells #[.bool false, .int .u64 0, .int .u64 0] 34 (0, 0)) bk_ hb); have n3_ := Aside0.mk (blk_below (g := gb155) (o := .cells #[.bool a0_0, .int .u64 a0_1, .int .u64 a0_2] 34 (0, 0)) bk_ hb); have n4_ := Aside0.mk (blk_below (g := gb156) (o := .cells #[.bool a1_0, .int .u64 a1_1, .int .u64 a1_2] 34 (0, 0)) (pu_ #[.bool a1_0, .int .u64 a1_1, .int .u64 0] 2 (h := (pu_ #[.bool a1_0, .int .u64 0, .int .u64 0] 1 (h := (pu_ #[.bool false, .int .u64 0, .int .u64 0] 0 (h := bk_)))))) hb); have n5_ := Aside0.mk (below_step bel_ hb); clear BK147; clear BK148; clear BK149; clear BK155; clear BK156; clear HB; have BK147 := n0_; have BK148 := n1_; have BK149 := n2_; have BK155 := n3_; have BK156 := n4_; have HB := n5_; clear n0_ n1_ n2_ n3_ n4_ n5_; (try clear hb); (try clear hb2); (try clear hk); (try clear hi)))
          (try simp only [Act.put, la_, lb_, lc_])
          go_cut [] (fun wc => ∃ (kq : Nat) (x156000_85 : Bool) (x156001_85 : Int) (x156002_85 : Int) (x157000_85 : Bool) (x157001_85 : Int) (x157002_85 : Int), Aside0 (spec_AddWide.j1 kq x156000_85 x156001_85 x156002_85 x157000_85 x157001_85 x157002_85 = some (r1, r2, r3, r4)) ∧ Aside0 (kq ≤ kj2) ∧ Aside0 (wc.heap[gb147]? = some (.cells #[.bool a0_0, .int .u64 a0_1, .int .u64 a0_2] 34 (0, 0))) ∧ Aside0 (wc.heap[gb148]? = some (.cells #[.bool a1_0, .int .u64 a1_1, .int .u64 a1_2] 34 (0, 0))) ∧ Aside0 (wc.heap[gb149]? = some (.cells #[.bool false, .int .u64 0, .int .u64 0] 34 (0, 0))) ∧ Aside0 (wc.heap[gb155]? = some (.cells #[.bool x156000_85, .int .u64 x156001_85, .int .u64 x156002_85] 34 (0, 0))) ∧ Aside0 (wc.heap[gb156]? = some (.cells #[.bool x157000_85, .int .u64 x157001_85, .int .u64 x157002_85] 34 (0, 0))) ∧ Aside0 (Below w.heap.size w wc))
          case first =>
            have H := HC86.out
            clear HC86
            by_cases c107 : t157 < 0
            · rw [if_pos c107] at H
              have c107b0 : decide (t157 < 0) = true := decide_eq_true c107
              clear c107
              (first | rw [c107b0] | (simp only [i64_w, i32_w]; rw [c107b0]) | skip)
              have H' := Aside0.mk H
              clear H
              have hnb108 := NB148_147.out
              have hnc108 := NB147_148.out
              have hnb109 := NB148_149.out
              have hnc109 := NB149_148.out
              have hnb110 := NB148_155.out
              have hnc110 := NB155_148.out
              have hnb111 := NB148_156.out
              have hnc111 := NB156_148.out
              obtain ⟨hcz112_0, hcz112_1, hcz112_2, hfz112_0, hfz112_1, hfz112_2⟩ := cf3_ (w := w106) BK148.out
              have hnb113 := NB155_147.out
              have hnc113 := NB147_155.out
              have hnb114 := NB155_149.out
              have hnc114 := NB149_155.out
              have hnb115 := NB155_156.out
              have hnc115 := NB156_155.out
              obtain ⟨hcz116_0, hcz116_1, hcz116_2, hfz116_0, hfz116_1, hfz116_2⟩ := cf3_ (w := w106) BK155.out
              have hnb117 := NB147_149.out
              have hnc117 := NB149_147.out
              have hnb118 := NB147_156.out
              have hnc118 := NB156_147.out
              obtain ⟨hcz119_0, hcz119_1, hcz119_2, hfz119_0, hfz119_1, hfz119_2⟩ := cf3_ (w := w106) BK147.out
              have hnb120 := NB156_149.out
              have hnc120 := NB149_156.out
              obtain ⟨hcz121_0, hcz121_1, hcz121_2, hfz121_0, hfz121_1, hfz121_2⟩ := cf3_ (w := w106) BK156.out
              go_wp2
              go_meet
              case rel => exact ⟨_, (a1_0), (a1_1), (a1_2), (a0_0), (a0_1), (a0_2), H', ⟨by have := HJ2.out; first | omega | exact Nat.le_refl _⟩, ⟨by (with_reducible repeat (first | refine bN_ _ ?_ | refine bd_ ?_ | refine ba_ _ ?_)); refine blk_far ?_ NB147_156.out _; (with_reducible repeat (first | refine bN_ _ ?_ | refine bd_ ?_ | refine ba_ _ ?_)); refine blk_far ?_ NB147_156.out _; (with_reducible repeat (first | refine bN_ _ ?_ | refine bd_ ?_ | refine ba_ _ ?_)); refine blk_far ?_ NB147_156.out _; (with_reducible repeat (first | refine bN_ _ ?_ | refine bd_ ?_ | refine ba_ _ ?_)); refine blk_far ?_ NB147_155.out _; (with_reducible repeat (first | refine bN_ _ ?_ | refine bd_ ?_ | refine ba_ _ ?_)); refine blk_far ?_ NB147_155.out _; (with_reducible repeat (first | refine bN_ _ ?_ | refine bd_ ?_ | refine ba_ _ ?_)); refine blk_far ?_ NB147_155.out _; (with_reducible repeat (first | refine bN_ _ ?_ | refine bd_ ?_ | refine ba_ _ ?_)); exact BK147.out⟩, ⟨by (with_reducible repeat (first | refine bN_ _ ?_ | refine bd_ ?_ | refine ba_ _ ?_)); refine blk_far ?_ NB148_156.out _; (with_reducible repeat (first | refine bN_ _ ?_ | refine bd_ ?_ | refine ba_ _ ?_)); refine blk_far ?_ NB148_156.out _; (with_reducible repeat (first | refine bN_ _ ?_ | refine bd_ ?_ | refine ba_ _ ?_)); refine blk_far ?_ NB148_156.out _; (with_reducible repeat (first | refine bN_ _ ?_ | refine bd_ ?_ | refine ba_ _ ?_)); refine blk_far ?_ NB148_155.out _; (with_reducible repeat (first | refine bN_ _ ?_ | refine bd_ ?_ | refine ba_ _ ?_)); refine blk_far ?_ NB148_155.out _; (with_reducible repeat (first | refine bN_ _ ?_ | refine bd_ ?_ | refine ba_ _ ?_)); refine blk_far ?_ NB148_155.out _; (with_reducible repeat (first | refine bN_ _ ?_ | refine bd_ ?_ | refine ba_ _ ?_)); exact BK148.out⟩, ⟨by (with_reducible repeat (first | refine bN_ _ ?_ | refine bd_ ?_ | refine ba_ _ ?_)); refine blk_far ?_ NB149_156.out _; (with_reducible repeat (first | refine bN_ _ ?_ | refine bd_ ?_ | refine ba_ _ ?_)); refine blk_far ?_ NB149_156.out _; (with_reducible repeat (first | refine bN_ _ ?_ | refine bd_ ?_ | refine ba_ _ ?_)); refine blk_far ?_ NB149_156.out _; (with_reducible repeat (first | refine bN_ _ ?_ | refine bd_ ?_ | refine ba_ _ ?_)); refine blk_far ?_ NB149_155.out _; (with_reducible repeat (first | refine bN_ _ ?_ | refine bd_ ?_ | refine ba_ _ ?_)); refine blk_far ?_ NB149_155.out _; (with_reducible repeat (first | refine bN_ _ ?_ | refine bd_ ?_ | refine ba_ _ ?_)); refine blk_far ?_ NB149_155.out _; (with_reducible repeat (first | refine bN_ _ ?_ | refine bd_ ?_ | refine ba_ _ ?_)); exact BK149.out⟩, ⟨by (with_reducible repeat (first | refine bN_ _ ?_ | refine bd_ ?_ | refine ba_ _ ?_)); refine blk_far ?_ NB155_156.out _; (with_reducible repeat (first | refine bN_ _ ?_ | refine bd_ ?_ | refine ba_ _ ?_)); refine blk_far ?_ NB155_156.out _; (with_reducible repeat (first | refine bN_ _ ?_ | refine bd_ ?_ | refine ba_ _ ?_)); refine blk_far ?_ NB155_156.out _; (with_reducible repeat (first | refine bN_ _ ?_ | refine bd_ ?_ | refine ba_ _ ?_)); refine blk_put (cs := #[.bool a1_0, .int .u64 a1_1, .int .u64 a0_2]) ?_ 2 _ rfl; (with_reducible repeat (first | refine bN_ _ ?_ | refine bd_ ?_ | refine ba_ _ ?_)); refine blk_put (cs := #[.bool a1_0, .int .u64 a0_1, .int .u64 a0_2]) ?_ 1 _ rfl; (with_reducible repeat (first | refine bN_ _ ?_ | refine bd_ ?_ | refine ba_ _ ?_)); refine blk_put (cs := #[.bool a0_0, .int .u64 a0_1, .int .u64 a0_2]) ?_ 0 _ rfl; (with_reducible repeat (first | refine bN_ _ ?_ | refine bd_ ?_ | refine ba_ _ ?_)); exact BK155.out⟩, ⟨by (with_reducible repeat (first | refine bN_ _ ?_ | refine bd_ ?_ | refine ba_ _ ?_)); refine blk_put (cs := #[.bool a0_0, .int .u64 a0_1, .int .u64 a1_2]) ?_ 2 _ rfl; (with_reducible repeat (first | refine bN_ _ ?_ | refine bd_ ?_ | refine ba_ _ ?_)); refine blk_put (cs := #[.bool a0_0, .int .u64 a1_1, .int .u64 a1_2]) ?_ 1 _ rfl; (with_reducible repeat (first | refine bN_ _ ?_ | refine bd_ ?_ | refine ba_ _ ?_)); refine blk_put (cs := #[.bool a1_0, .int .u64 a1_1, .int .u64 a1_2]) ?_ 0 _ rfl; (with_reducible repeat (first | refine bN_ _ ?_ | refine bd_ ?_ | refine ba_ _ ?_)); refine blk_far ?_ NB156_155.out _; (with_reducible repeat (first | refine bN_ _ ?_ | refine bd_ ?_ | refine ba_ _ ?_)); refine blk_far ?_ NB156_155.out _; (with_reducible repeat (first | refine bN_ _ ?_ | refine bd_ ?_ | refine ba_ _ ?_)); refine blk_far ?_ NB156_155.out _; (with_reducible repeat (first | refine bN_ _ ?_ | refine bd_ ?_ | refine ba_ _ ?_)); exact BK156.out⟩, ⟨bel_⟩⟩
            · rw [if_neg c107] at H
              have c107b0 : decide (t157 < 0) = false := decide_eq_false c107
              clear c107
              (first | rw [c107b0] | (simp only [i64_w, i32_w]; rw [c107b0]) | skip)
              have H' := Aside0.mk H
              clear H
              go_wp2
              go_meet
              case rel => exact ⟨_, (a0_0), (a0_1), (a0_2), (a1_0), (a1_1), (a1_2), H', ⟨by have := HJ2.out; first | omega | exact Nat.le_refl _⟩, ⟨by (with_reducible repeat (first | refine bN_ _ ?_ | refine bd_ ?_ | refine ba_ _ ?_)); exact BK147.out⟩, ⟨by (with_reducible repeat (first | refine bN_ _ ?_ | refine bd_ ?_ | refine ba_ _ ?_)); exact BK148.out⟩, ⟨by (with_reducible repeat (first | refine bN_ _ ?_ | refine bd_ ?_ | refine ba_ _ ?_)); exact BK149.out⟩, ⟨by (with_reducible repeat (first | refine bN_ _ ?_ | refine bd_ ?_ | refine ba_ _ ?_)); exact BK155.out⟩, ⟨by (with_reducible repeat (first | refine bN_ _ ?_ | refine bd_ ?_ | refine ba_ _ ?_)); exact BK156.out⟩, ⟨bel_⟩⟩
          case rest =>
            clear HC86
            try clear c1
            try clear c2
            try clear p2
            try clear c3
            try clear c4
            try clear c5
            try clear c6
            try clear c7
            try clear c8
            try clear c9
            try clear c10
            try clear c11
            try clear c12
            try clear c14
            try clear c17
            try clear c18
            try clear c21
            try clear c22
            try clear c23
            try clear c25
            try clear c25b0
            try clear c25b1
            try clear c25b2
            try clear c26
            try clear c26b0
            try clear c28
            try clear c29
            try clear c30
            try clear c32
            try clear c35
            try clear c36
            try clear c37
            try clear c43
            try clear c44
            try clear c46
            try clear c49
            try clear c50
            try clear c51
            try clear c57
            try clear c58
            try clear c59
            try clear c61
            try clear c64
            try clear c65
            try clear c66
            try clear c72
            try clear c73
            try clear c75
            try clear c78
            try clear c79
            try clear c80
            try clear c87
            try clear c88
            try clear c90
            try clear c93
            try clear c94
            try clear c95
            try clear c99
            try clear c100
            try clear c101
            try clear c102
            try clear c107
            try clear c107b0
            try clear c108
            try clear c109
            try clear c110
            try clear c111
            try clear c113
            try clear c114
            try clear c115
            try clear c117
            try clear c118
            try clear c120
            try clear hcz103_0
            try clear hcz103_1
            try clear hcz103_2
            try clear hcz104_0
            try clear hcz104_1
            try clear hcz104_2
            try clear hcz105_0
            try clear hcz105_1
            try clear hcz105_2
            try clear hcz112_0
            try clear hcz112_1
            try clear hcz112_2
            try clear hcz116_0
            try clear hcz116_1
            try clear hcz116_2
            try clear hcz119_0
            try clear hcz119_1
            try clear hcz119_2
            try clear hcz121_0
            try clear hcz121_1
            try clear hcz121_2
            try clear hcz12_0
            try clear hcz12_1
            try clear hcz12_2
            try clear hcz15_0
            try clear hcz15_1
            try clear hcz15_2
            try clear hcz19_0
            try clear hcz19_1
            try clear hcz19_2
            try clear hcz24_0
            try clear hcz24_1
            try clear hcz24_2
            try clear hcz31_0
            try clear hcz31_1
            try clear hcz31_2
            try clear hcz33_0
            try clear hcz33_1
            try clear hcz33_2
            try clear hcz38_0
            try clear hcz38_1
            try clear hcz38_2
            try clear hcz39_0
            try clear hcz39_1
            try clear hcz39_2
            try clear hcz41_0
            try clear hcz41_1
            try clear hcz41_2
            try clear hcz42_0
            try clear hcz42_1
            try clear hcz42_2
            try clear hcz45_0
            try clear hcz45_1
            try clear hcz45_2
            try clear hcz47_0
            try clear hcz47_1
            try clear hcz47_2
            try clear hcz52_0
            try clear hcz52_1
            try clear hcz52_2
            try clear hcz53_0
            try clear hcz53_1
            try clear hcz53_2
            try clear hcz55_0
            try clear hcz55_1
            try clear hcz55_2
            try clear hcz60_0
            try clear hcz60_1
            try clear hcz60_2
            try clear hcz62_0
            try clear hcz62_1
            try clear hcz62_2
            try clear hcz67_0
            try clear hcz67_1
            try clear hcz67_2
            try clear hcz68_0
            try clear hcz68_1
            try clear hcz68_2
            try clear hcz70_0
            try clear hcz70_1
            try clear hcz70_2
            try clear hcz71_0
            try clear hcz71_1
            try clear hcz71_2
            try clear hcz74_0
            try clear hcz74_1
            try clear hcz74_2
            try clear hcz76_0
            try clear hcz76_1
            try clear hcz76_2
            try clear hcz81_0
            try clear hcz81_1
            try clear hcz81_2
            try clear hcz82_0
            try clear hcz82_1
            try clear hcz82_2
            try clear hcz84_0
            try clear hcz84_1
            try clear hcz84_2
            try clear hcz89_0
            try clear hcz89_1
            try clear hcz89_2
            try clear hcz91_0
            try clear hcz91_1
            try clear hcz91_2
            try clear hcz96_0
            try clear hcz96_1
            try clear hcz96_2
            try clear hcz97_0
            try clear hcz97_1
            try clear hcz97_2
            try clear hfz103_0
            try clear hfz103_1
            try clear hfz103_2
            try clear hfz104_0
            try clear hfz104_1
            try clear hfz104_2
            try clear hfz105_0
            try clear hfz105_1
            try clear hfz105_2
            try clear hfz112_0
            try clear hfz112_1
            try clear hfz112_2
            try clear hfz116_0
            try clear hfz116_1
            try clear hfz116_2
            try clear hfz119_0
            try clear hfz119_1
            try clear hfz119_2
            try clear hfz121_0
            try clear hfz121_1
            try clear hfz121_2
            try clear hfz12_0
            try clear hfz12_1
            try clear hfz12_2
            try clear hfz15_0
            try clear hfz15_1
            try clear hfz15_2
            try clear hfz19_0
            try clear hfz19_1
            try clear hfz19_2
            try clear hfz24_0
            try clear hfz24_1
            try clear hfz24_2
            try clear hfz31_0
            try clear hfz31_1
            try clear hfz31_2
            try clear hfz33_0
            try clear hfz33_1
            try clear hfz33_2
            try clear hfz38_0
            try clear hfz38_1
            try clear hfz38_2
            try clear hfz39_0
            try clear hfz39_1
            try clear hfz39_2
            try clear hfz41_0
            try clear hfz41_1
            try clear hfz41_2
            try clear hfz42_0
            try clear hfz42_1
            try clear hfz42_2
            try clear hfz45_0
            try clear hfz45_1
            try clear hfz45_2
            try clear hfz47_0
            try clear hfz47_1
            try clear hfz47_2
            try clear hfz52_0
            try clear hfz52_1
            try clear hfz52_2
            try clear hfz53_0
            try clear hfz53_1
            try clear hfz53_2
            try clear hfz55_0
            try clear hfz55_1
            try clear hfz55_2
            try clear hfz60_0
            try clear hfz60_1
            try clear hfz60_2
            try clear hfz62_0
            try clear hfz62_1
            try clear hfz62_2
            try clear hfz67_0
            try clear hfz67_1
            try clear hfz67_2
            try clear hfz68_0
            try clear hfz68_1
            try clear hfz68_2
            try clear hfz70_0
            try clear hfz70_1
            try clear hfz70_2
            try clear hfz71_0
            try clear hfz71_1
            try clear hfz71_2
            try clear hfz74_0
            try clear hfz74_1
            try clear hfz74_2
            try clear hfz76_0
            try clear hfz76_1
            try clear hfz76_2
            try clear hfz81_0
            try clear hfz81_1
            try clear hfz81_2
            try clear hfz82_0
            try clear hfz82_1
            try clear hfz82_2
            try clear hfz84_0
            try clear hfz84_1
            try clear hfz84_2
            try clear hfz89_0
            try clear hfz89_1
            try clear hfz89_2
            try clear hfz91_0
            try clear hfz91_1
            try clear hfz91_2
            try clear hfz96_0
            try clear hfz96_1
            try clear hfz96_2
            try clear hfz97_0
            try clear hfz97_1
            try clear hfz97_2
            try clear p2
            obtain ⟨kq, x156000_85, x156001_85, x156002_85, x157000_85, x157001_85, x157002_85, HA, HJ85, BK147, BK148, BK149, BK155, BK156, HB⟩ := hcut
            cases kq with
            | zero => exact absurd HA.out (by simp [spec_AddWide.j1])
            | succ kj85 =>
              have H := HA.out
              clear HA
              simp only [spec_AddWide.j1] at H
              by_cases c122 : x156002_85 < x157002_85
              · rw [if_pos c122] at H
                have c122b0 : decide (x156002_85 < x157002_85) = true := decide_eq_true c122
                clear c122
                replace H := Option.bind_eq_some_iff.mp H
                obtain ⟨t159, A1230, H⟩ := H
                replace H : (if t159 = true then (some (false, IntKind.u64.wrap ((IntKind.u64.wrap (x156001_85 - x157001_85)) - 1), IntKind.u64.wrap (x156002_85 - x157002_85), true)) else (some (x156000_85, IntKind.u64.wrap ((IntKind.u64.wrap (x156001_85 - x157001_85)) - 1), IntKind.u64.wrap (x156002_85 - x157002_85), true))) = some (r1, r2, r3, r4) := H
                have A123 := Aside0.mk A1230
                clear A1230
                by_cases c124 : t159 = true
                · subst c124
                  have H1 : (some (false, IntKind.u64.wrap ((IntKind.u64.wrap (x156001_85 - x157001_85)) - 1), IntKind.u64.wrap (x156002_85 - x157002_85), true)) = some (r1, r2, r3, r4) := by rw [if_pos rfl] at H; exact H
                  clear H
                  have H := H1
                  clear H1
                  simp only [Option.some.injEq, Prod.mk.injEq] at H
                  obtain ⟨rfl, rfl, rfl, rfl⟩ := H
                  have hnb125 := NB155_147.out
                  have hnc125 := NB147_155.out
                  have hnb126 := NB155_148.out
                  have hnc126 := NB148_155.out
                  have hnb127 := NB155_149.out
                  have hnc127 := NB149_155.out
                  have hnb128 := NB155_156.out
                  have hnc128 := NB156_155.out
                  obtain ⟨hcz129_0, hcz129_1, hcz129_2, hfz129_0, hfz129_1, hfz129_2⟩ := cf3_ (w := wc) BK155.out
                  have hnb130 := NB156_147.out
                  have hnc130 := NB147_156.out
                  have hnb131 := NB156_148.out
                  have hnc131 := NB148_156.out
                  have hnb132 := NB156_149.out
                  have hnc132 := NB149_156.out
                  obtain ⟨hcz133_0, hcz133_1, hcz133_2, hfz133_0, hfz133_1, hfz133_2⟩ := cf3_ (w := wc) BK156.out
                  go_wp2_with (first | ((with_reducible refine gate_dst (N := 9) rfl ?_); refine box_event ?hg (N := 9) ?hd (cs := #[.bool false, .int .u64 0, .int .u64 0]) (t := 34) ?hr ?_; (case hd => rfl); (case hg => rfl); (case hr => first | (go_simp; done) | (go_simp; rfl)); intro gb158 hg w134 hbox hb; have n0_ := bb_ (g := gb147) hb; have n1_ := bb_ (g := gb148) hb; have n2_ := bb_ (g := gb149) hb; have n3_ := bb_ (g := gb155) hb; have n4_ := bb_ (g := gb156) hb; have n5_ := Aside0.mk (below_step bel_ hb); have n6_ := Aside0.mk (hbox); have n7_ := bs_ (w := w) hg; have n8_ := bs_ (w := w) hg; have n9_ := nlt_ (g := gb147) hg; have n10_ := ngt_ (g := gb147) hg; have n11_ := nlt_ (g := gb148) hg; have n12_ := ngt_ (g := gb148) hg; have n13_ := nlt_ (g := gb149) hg; have n14_ := ngt_ (g := gb149) hg; have n15_ := nlt_ (g := gb155) hg; have n16_ := ngt_ (g := gb155) hg; have n17_ := nlt_ (g := gb156) hg; have n18_ := ngt_ (g := gb156) hg; clear BK147; clear BK148; clear BK149; clear BK155; clear BK156; clear HB; have BK147 := n0_; have BK148 := n1_; have BK149 := n2_; have BK155 := n3_; have BK156 := n4_; have HB := n5_; have BK158 := n6_; have GW158 := n7_; have GE158 := n8_; have NB147_158 := n9_; have NB158_147 := n10_; have NB148_158 := n11_; have NB158_148 := n12_; have NB149_158 := n13_; have NB158_149 := n14_; have NB155_158 := n15_; have NB158_155 := n16_; have NB156_158 := n17_; have NB158_156 := n18_; clear n0_ n1_ n2_ n3_ n4_ n5_ n6_ n7_ n8_ n9_ n10_ n11_ n12_ n13_ n14_ n15_ n16_ n17_ n18_; clear hb hbox hg; have hnb135 := NB158_147.out; have hnc135 := NB147_158.out; have hnb136 := NB158_148.out; have hnc136 := NB148_158.out; have hnb137 := NB158_149.out; have hnc137 := NB149_158.out; have hnb138 := NB158_155.out; have hnc138 := NB155_158.out; have hnb139 := NB158_156.out; have hnc139 := NB156_158.out; obtain ⟨hcz140_0, hcz140_1, hcz140_2, hfz140_0, hfz140_1, hfz140_2⟩ := cf3_ (w := w134) BK158.out; have hs158_0 : ∀ v0 v1 v2 : Value, (((w134.setCell ⟨gb158, 0, none⟩ v0).setCell ⟨gb158, 1, none⟩ v1).setCell ⟨gb158, 2, none⟩ v2).cell? ⟨gb158, 0, none⟩ = some v0 := fun _ _ _ => set3_0 BK158.out; have hs158_1 : ∀ v0 v1 v2 : Value, (((w134.setCell ⟨gb158, 0, none⟩ v0).setCell ⟨gb158, 1, none⟩ v1).setCell ⟨gb158, 2, none⟩ v2).cell? ⟨gb158, 1, none⟩ = some v1 := fun _ _ _ => set3_1 BK158.out; have hs158_2 : ∀ v0 v1 v2 : Value, (((w134.setCell ⟨gb158, 0, none⟩ v0).setCell ⟨gb158, 1, none⟩ v1).setCell ⟨gb158, 2, none⟩ v2).cell? ⟨gb158, 2, none⟩ = some v2 := fun _ _ _ => set3_2 BK158.out; obtain ⟨hcz141_0, hcz141_1, hcz141_2, hfz141_0, hfz141_1, hfz141_2⟩ := cf3_ (w := w134) BK155.out; obtain ⟨hcz142_0, hcz142_1, hcz142_2, hfz142_0, hfz142_1, hfz142_2⟩ := cf3_ (w := w134) BK156.out) | ((with_reducible refine gate_callee (f := 73) rfl ?_); refine goesL_ (some 82) rfl rfl Tryd.func73 (by kernel_rfl) rfl #[.agg #[.bool x156000_85, .int .u64 (IntKind.u64.wrap ((IntKind.u64.wrap (x156001_85 - x157001_85)) - 1)), .int .u64 (IntKind.u64.wrap (x156002_85 - x157002_85))]] rfl mp_ ?_; (with_reducible refine (spec_l3Zero.calls x156000_85 (IntKind.u64.wrap ((IntKind.u64.wrap (x156001_85 - x157001_85)) - 1)) (IntKind.u64.wrap (x156002_85 - x157002_85)) true _ A123.out).mono ?_); rintro e w143 ⟨rfl, hb⟩; refine ⟨_, rfl, ?_⟩; have n0_ := Aside0.mk (blk_below (g := gb147) (o := .cells #[.bool a0_0, .int .u64 a0_1, .int .u64 a0_2] 34 (0, 0)) bk_ hb); have n1_ := Aside0.mk (blk_below (g := gb148) (o := .cells #[.bool a1_0, .int .u64 a1_1, .int .u64 a1_2] 34 (0, 0)) bk_ hb); have n2_ := Aside0.mk (blk_below (g := gb149) (o := .cells #[.bool false, .int .u64 0, .int .u64 0] 34 (0, 0)) bk_ hb); have n3_ := Aside0.mk (blk_below (g := gb155) (o := .cells #[.bool x156000_85, .int .u64 x156001_85, .int .u64 x156002_85] 34 (0, 0)) bk_ hb); have n4_ := Aside0.mk (blk_below (g := gb156) (o := .cells #[.bool x157000_85, .int .u64 x157001_85, .int .u64 x157002_85] 34 (0, 0)) bk_ hb); have n5_ := Aside0.mk (blk_below (g := gb158) (o := .cells #[.bool x156000_85, .int .u64 (IntKind.u64.wrap ((IntKind.u64.wrap (x156001_85 - x157001_85)) - 1)), .int .u64 (IntKind.u64.wrap (x156002_85 - x157002_85))] 34 (0, 0)) (pu_ #[.bool x156000_85, .int .u64 (IntKind.u64.wrap (x156001_85 - x157001_85)), .int .u64 (IntKind.u64.wrap (x156002_85 - x157002_85))] 1 (h := (pu_ #[.bool x156000_85, .int .u64 (IntKind.u64.wrap (x156001_85 - x157001_85)), .int .u64 0] 2 (h := (pu_ #[.bool x156000_85, .int .u64 0, .int .u64 0] 1 (h := (pu_ #[.bool false, .int .u64 0, .int .u64 0] 0 (h := bk_)))))))) hb); have n6_ := Aside0.mk (below_step bel_ hb); clear BK147; clear BK148; clear BK149; clear BK155; clear BK156; clear BK158; clear HB; have BK147 := n0_; have BK148 := n1_; have BK149 := n2_; have BK155 := n3_; have BK156 := n4_; have BK158 := n5_; have HB := n6_; clear n0_ n1_ n2_ n3_ n4_ n5_ n6_; (try clear hb); (try clear hb2); (try clear hk); (try clear hi); obtain ⟨hcz144_0, hcz144_1, hcz144_2, hfz144_0, hfz144_1, hfz144_2⟩ := cf3_ (w := w143) BK158.out; have hnb145 := NB149_147.out; have hnc145 := NB147_149.out; have hnb146 := NB149_148.out; have hnc146 := NB148_149.out; obtain ⟨hcz147_0, hcz147_1, hcz147_2, hfz147_0, hfz147_1, hfz147_2⟩ := cf3_ (w := w143) BK149.out; have hs149_0 : ∀ v0 v1 v2 : Value, (((w143.setCell ⟨gb149, 0, none⟩ v0).setCell ⟨gb149, 1, none⟩ v1).setCell ⟨gb149, 2, none⟩ v2).cell? ⟨gb149, 0, none⟩ = some v0 := fun _ _ _ => set3_0 BK149.out; have hs149_1 : ∀ v0 v1 v2 : Value, (((w143.setCell ⟨gb149, 0, none⟩ v0).setCell ⟨gb149, 1, none⟩ v1).setCell ⟨gb149, 2, none⟩ v2).cell? ⟨gb149, 1, none⟩ = some v1 := fun _ _ _ => set3_1 BK149.out; have hs149_2 : ∀ v0 v1 v2 : Value, (((w143.setCell ⟨gb149, 0, none⟩ v0).setCell ⟨gb149, 1, none⟩ v1).setCell ⟨gb149, 2, none⟩ v2).cell? ⟨gb149, 2, none⟩ = some v2 := fun _ _ _ => set3_2 BK149.out))
                  refine bodyPost_ret (results_ct rfl _ _ gb149 34 #[.bool false, .int .u64 (IntKind.u64.wrap ((IntKind.u64.wrap (x156001_85 - x157001_85)) - 1)), .int .u64 (IntKind.u64.wrap (x156002_85 - x157002_85))] (0, 0) _ rfl (pu_ #[.bool false, .int .u64 (IntKind.u64.wrap ((IntKind.u64.wrap (x156001_85 - x157001_85)) - 1)), .int .u64 0] 2 (h := (pu_ #[.bool false, .int .u64 0, .int .u64 0] 1 (h := (pu_ #[.bool false, .int .u64 0, .int .u64 0] 0 (h := bk_)))))) Tryd.underlying34 rfl (by kernel_rfl)) rfl ?_
                  exact ⟨rf_, bel_⟩
                · replace c124 := Bool.eq_false_iff.mpr c124
                  subst c124
                  have H1 : (some (x156000_85, IntKind.u64.wrap ((IntKind.u64.wrap (x156001_85 - x157001_85)) - 1), IntKind.u64.wrap (x156002_85 - x157002_85), true)) = some (r1, r2, r3, r4) := by rw [if_neg (show ¬ (false = true) by decide)] at H; exact H
                  clear H
                  have H := H1
                  clear H1
                  simp only [Option.some.injEq, Prod.mk.injEq] at H
                  obtain ⟨rfl, rfl, rfl, rfl⟩ := H
                  have hnb148 := NB155_147.out
                  have hnc148 := NB147_155.out
                  have hnb149 := NB155_148.out
                  have hnc149 := NB148_155.out
                  have hnb150 := NB155_149.out
                  have hnc150 := NB149_155.out
                  have hnb151 := NB155_156.out
                  have hnc151 := NB156_155.out
                  obtain ⟨hcz152_0, hcz152_1, hcz152_2, hfz152_0, hfz152_1, hfz152_2⟩ := cf3_ (w := wc) BK155.out
                  have hnb153 := NB156_147.out
                  have hnc153 := NB147_156.out
                  have hnb154 := NB156_148.out
                  have hnc154 := NB148_156.out
                  have hnb155 := NB156_149.out
                  have hnc155 := NB149_156.out
                  obtain ⟨hcz156_0, hcz156_1, hcz156_2, hfz156_0, hfz156_1, hfz156_2⟩ := cf3_ (w := wc) BK156.out
                  go_wp2_with (first | ((with_reducible refine gate_dst (N := 9) rfl ?_); refine box_event ?hg (N := 9) ?hd (cs := #[.bool false, .int .u64 0, .int .u64 0]) (t := 34) ?hr ?_; (case hd => rfl); (case hg => rfl); (case hr => first | (go_simp; done) | (go_simp; rfl)); intro gb158 hg w157 hbox hb; have n0_ := bb_ (g := gb147) hb; have n1_ := bb_ (g := gb148) hb; have n2_ := bb_ (g := gb149) hb; have n3_ := bb_ (g := gb155) hb; have n4_ := bb_ (g := gb156) hb; have n5_ := Aside0.mk (below_step bel_ hb); have n6_ := Aside0.mk (hbox); have n7_ := bs_ (w := w) hg; have n8_ := bs_ (w := w) hg; have n9_ := nlt_ (g := gb147) hg; have n10_ := ngt_ (g := gb147) hg; have n11_ := nlt_ (g := gb148) hg; have n12_ := ngt_ (g := gb148) hg; have n13_ := nlt_ (g := gb149) hg; have n14_ := ngt_ (g := gb149) hg; have n15_ := nlt_ (g := gb155) hg; have n16_ := ngt_ (g := gb155) hg; have n17_ := nlt_ (g := gb156) hg; have n18_ := ngt_ (g := gb156) hg; clear BK147; clear BK148; clear BK149; clear BK155; clear BK156; clear HB; have BK147 := n0_; have BK148 := n1_; have BK149 := n2_; have BK155 := n3_; have BK156 := n4_; have HB := n5_; have BK158 := n6_; have GW158 := n7_; have GE158 := n8_; have NB147_158 := n9_; have NB158_147 := n10_; have NB148_158 := n11_; have NB158_148 := n12_; have NB149_158 := n13_; have NB158_149 := n14_; have NB155_158 := n15_; have NB158_155 := n16_; have NB156_158 := n17_; have NB158_156 := n18_; clear n0_ n1_ n2_ n3_ n4_ n5_ n6_ n7_ n8_ n9_ n10_ n11_ n12_ n13_ n14_ n15_ n16_ n17_ n18_; clear hb hbox hg; have hnb158 := NB158_147.out; have hnc158 := NB147_158.out; have hnb159 := NB158_148.out; have hnc159 := NB148_158.out; have hnb160 := NB158_149.out; have hnc160 := NB149_158.out; have hnb161 := NB158_155.out; have hnc161 := NB155_158.out; have hnb162 := NB158_156.out; have hnc162 := NB156_158.out; obtain ⟨hcz163_0, hcz163_1, hcz163_2, hfz163_0, hfz163_1, hfz163_2⟩ := cf3_ (w := w157) BK158.out; have hs158_0 : ∀ v0 v1 v2 : Value, (((w157.setCell ⟨gb158, 0, none⟩ v0).setCell ⟨gb158, 1, none⟩ v1).setCell ⟨gb158, 2, none⟩ v2).cell? ⟨gb158, 0, none⟩ = some v0 := fun _ _ _ => set3_0 BK158.out; have hs158_1 : ∀ v0 v1 v2 : Value, (((w157.setCell ⟨gb158, 0, none⟩ v0).setCell ⟨gb158, 1, none⟩ v1).setCell ⟨gb158, 2, none⟩ v2).cell? ⟨gb158, 1, none⟩ = some v1 := fun _ _ _ => set3_1 BK158.out; have hs158_2 : ∀ v0 v1 v2 : Value, (((w157.setCell ⟨gb158, 0, none⟩ v0).setCell ⟨gb158, 1, none⟩ v1).setCell ⟨gb158, 2, none⟩ v2).cell? ⟨gb158, 2, none⟩ = some v2 := fun _ _ _ => set3_2 BK158.out; obtain ⟨hcz164_0, hcz164_1, hcz164_2, hfz164_0, hfz164_1, hfz164_2⟩ := cf3_ (w := w157) BK155.out; obtain ⟨hcz165_0, hcz165_1, hcz165_2, hfz165_0, hfz165_1, hfz165_2⟩ := cf3_ (w := w157) BK156.out) | ((with_reducible refine gate_callee (f := 73) rfl ?_); refine goesL_ (some 82) rfl rfl Tryd.func73 (by kernel_rfl) rfl #[.agg #[.bool x156000_85, .int .u64 (IntKind.u64.wrap ((IntKind.u64.wrap (x156001_85 - x157001_85)) - 1)), .int .u64 (IntKind.u64.wrap (x156002_85 - x157002_85))]] rfl mp_ ?_; (with_reducible refine (spec_l3Zero.calls x156000_85 (IntKind.u64.wrap ((IntKind.u64.wrap (x156001_85 - x157001_85)) - 1)) (IntKind.u64.wrap (x156002_85 - x157002_85)) false _ A123.out).mono ?_); rintro e w166 ⟨rfl, hb⟩; refine ⟨_, rfl, ?_⟩; have n0_ := Aside0.mk (blk_below (g := gb147) (o := .cells #[.bool a0_0, .int .u64 a0_1, .int .u64 a0_2] 34 (0, 0)) bk_ hb); have n1_ := Aside0.mk (blk_below (g := gb148) (o := .cells #[.bool a1_0, .int .u64 a1_1, .int .u64 a1_2] 34 (0, 0)) bk_ hb); have n2_ := Aside0.mk (blk_below (g := gb149) (o := .cells #[.bool false, .int .u64 0, .int .u64 0] 34 (0, 0)) bk_ hb); have n3_ := Aside0.mk (blk_below (g := gb155) (o := .cells #[.bool x156000_85, .int .u64 x156001_85, .int .u64 x156002_85] 34 (0, 0)) bk_ hb); have n4_ := Aside0.mk (blk_below (g := gb156) (o := .cells #[.bool x157000_85, .int .u64 x157001_85, .int .u64 x157002_85] 34 (0, 0)) bk_ hb); have n5_ := Aside0.mk (blk_below (g := gb158) (o := .cells #[.bool x156000_85, .int .u64 (IntKind.u64.wrap ((IntKind.u64.wrap (x156001_85 - x157001_85)) - 1)), .int .u64 (IntKind.u64.wrap (x156002_85 - x157002_85))] 34 (0, 0)) (pu_ #[.bool x156000_85, .int .u64 (IntKind.u64.wrap (x156001_85 - x157001_85)), .int .u64 (IntKind.u64.wrap (x156002_85 - x157002_85))] 1 (h := (pu_ #[.bool x156000_85, .int .u64 (IntKind.u64.wrap (x156001_85 - x157001_85)), .int .u64 0] 2 (h := (pu_ #[.bool x156000_85, .int .u64 0, .int .u64 0] 1 (h := (pu_ #[.bool false, .int .u64 0, .int .u64 0] 0 (h := bk_)))))))) hb); have n6_ := Aside0.mk (below_step bel_ hb); clear BK147; clear BK148; clear BK149; clear BK155; clear BK156; clear BK158; clear HB; have BK147 := n0_; have BK148 := n1_; have BK149 := n2_; have BK155 := n3_; have BK156 := n4_; have BK158 := n5_; have HB := n6_; clear n0_ n1_ n2_ n3_ n4_ n5_ n6_; (try clear hb); (try clear hb2); (try clear hk); (try clear hi); obtain ⟨hcz167_0, hcz167_1, hcz167_2, hfz167_0, hfz167_1, hfz167_2⟩ := cf3_ (w := w166) BK158.out; have hnb168 := NB149_147.out; have hnc168 := NB147_149.out; have hnb169 := NB149_148.out; have hnc169 := NB148_149.out; obtain ⟨hcz170_0, hcz170_1, hcz170_2, hfz170_0, hfz170_1, hfz170_2⟩ := cf3_ (w := w166) BK149.out; have hs149_0 : ∀ v0 v1 v2 : Value, (((w166.setCell ⟨gb149, 0, none⟩ v0).setCell ⟨gb149, 1, none⟩ v1).setCell ⟨gb149, 2, none⟩ v2).cell? ⟨gb149, 0, none⟩ = some v0 := fun _ _ _ => set3_0 BK149.out; have hs149_1 : ∀ v0 v1 v2 : Value, (((w166.setCell ⟨gb149, 0, none⟩ v0).setCell ⟨gb149, 1, none⟩ v1).setCell ⟨gb149, 2, none⟩ v2).cell? ⟨gb149, 1, none⟩ = some v1 := fun _ _ _ => set3_1 BK149.out; have hs149_2 : ∀ v0 v1 v2 : Value, (((w166.setCell ⟨gb149, 0, none⟩ v0).setCell ⟨gb149, 1, none⟩ v1).setCell ⟨gb149, 2, none⟩ v2).cell? ⟨gb149, 2, none⟩ = some v2 := fun _ _ _ => set3_2 BK149.out))
                  refine bodyPost_ret (results_ct rfl _ _ gb149 34 #[.bool x156000_85, .int .u64 (IntKind.u64.wrap ((IntKind.u64.wrap (x156001_85 - x157001_85)) - 1)), .int .u64 (IntKind.u64.wrap (x156002_85 - x157002_85))] (0, 0) _ rfl (pu_ #[.bool x156000_85, .int .u64 (IntKind.u64.wrap ((IntKind.u64.wrap (x156001_85 - x157001_85)) - 1)), .int .u64 0] 2 (h := (pu_ #[.bool x156000_85, .int .u64 0, .int .u64 0] 1 (h := (pu_ #[.bool false, .int .u64 0, .int .u64 0] 0 (h := bk_)))))) Tryd.underlying34 rfl (by kernel_rfl)) rfl ?_
                  exact ⟨rf_, bel_⟩
              · rw [if_neg c122] at H
                have c122b0 : decide (x156002_85 < x157002_85) = false := decide_eq_false c122
                clear c122
                replace H := Option.bind_eq_some_iff.mp H
                obtain ⟨t160, A1710, H⟩ := H
                replace H : (if t160 = true then (some (false, IntKind.u64.wrap (x156001_85 - x157001_85), IntKind.u64.wrap (x156002_85 - x157002_85), true)) else (some (x156000_85, IntKind.u64.wrap (x156001_85 - x157001_85), IntKind.u64.wrap (x156002_85 - x157002_85), true))) = some (r1, r2, r3, r4) := H
                have A171 := Aside0.mk A1710
                clear A1710
                by_cases c172 : t160 = true
                · subst c172
                  have H1 : (some (false, IntKind.u64.wrap (x156001_85 - x157001_85), IntKind.u64.wrap (x156002_85 - x157002_85), true)) = some (r1, r2, r3, r4) := by rw [if_pos rfl] at H; exact H
                  clear H
                  have H := H1
                  clear H1
                  simp only [Option.some.injEq, Prod.mk.injEq] at H
                  obtain ⟨rfl, rfl, rfl, rfl⟩ := H
                  have hnb173 := NB155_147.out
                  have hnc173 := NB147_155.out
                  have hnb174 := NB155_148.out
                  have hnc174 := NB148_155.out
                  have hnb175 := NB155_149.out
                  have hnc175 := NB149_155.out
                  have hnb176 := NB155_156.out
                  have hnc176 := NB156_155.out
                  obtain ⟨hcz177_0, hcz177_1, hcz177_2, hfz177_0, hfz177_1, hfz177_2⟩ := cf3_ (w := wc) BK155.out
                  have hnb178 := NB156_147.out
                  have hnc178 := NB147_156.out
                  have hnb179 := NB156_148.out
                  have hnc179 := NB148_156.out
                  have hnb180 := NB156_149.out
                  have hnc180 := NB149_156.out
                  obtain ⟨hcz181_0, hcz181_1, hcz181_2, hfz181_0, hfz181_1, hfz181_2⟩ := cf3_ (w := wc) BK156.out
                  go_wp2_with (first | ((with_reducible refine gate_dst (N := 9) rfl ?_); refine box_event ?hg (N := 9) ?hd (cs := #[.bool false, .int .u64 0, .int .u64 0]) (t := 34) ?hr ?_; (case hd => rfl); (case hg => rfl); (case hr => first | (go_simp; done) | (go_simp; rfl)); intro gb158 hg w182 hbox hb; have n0_ := bb_ (g := gb147) hb; have n1_ := bb_ (g := gb148) hb; have n2_ := bb_ (g := gb149) hb; have n3_ := bb_ (g := gb155) hb; have n4_ := bb_ (g := gb156) hb; have n5_ := Aside0.mk (below_step bel_ hb); have n6_ := Aside0.mk (hbox); have n7_ := bs_ (w := w) hg; have n8_ := bs_ (w := w) hg; have n9_ := nlt_ (g := gb147) hg; have n10_ := ngt_ (g := gb147) hg; have n11_ := nlt_ (g := gb148) hg; have n12_ := ngt_ (g := gb148) hg; have n13_ := nlt_ (g := gb149) hg; have n14_ := ngt_ (g := gb149) hg; have n15_ := nlt_ (g := gb155) hg; have n16_ := ngt_ (g := gb155) hg; have n17_ := nlt_ (g := gb156) hg; have n18_ := ngt_ (g := gb156) hg; clear BK147; clear BK148; clear BK149; clear BK155; clear BK156; clear HB; have BK147 := n0_; have BK148 := n1_; have BK149 := n2_; have BK155 := n3_; have BK156 := n4_; have HB := n5_; have BK158 := n6_; have GW158 := n7_; have GE158 := n8_; have NB147_158 := n9_; have NB158_147 := n10_; have NB148_158 := n11_; have NB158_148 := n12_; have NB149_158 := n13_; have NB158_149 := n14_; have NB155_158 := n15_; have NB158_155 := n16_; have NB156_158 := n17_; have NB158_156 := n18_; clear n0_ n1_ n2_ n3_ n4_ n5_ n6_ n7_ n8_ n9_ n10_ n11_ n12_ n13_ n14_ n15_ n16_ n17_ n18_; clear hb hbox hg; have hnb183 := NB158_147.out; have hnc183 := NB147_158.out; have hnb184 := NB158_148.out; have hnc184 := NB148_158.out; have hnb185 := NB158_149.out; have hnc185 := NB149_158.out; have hnb186 := NB158_155.out; have hnc186 := NB155_158.out; have hnb187 := NB158_156.out; have hnc187 := NB156_158.out; obtain ⟨hcz188_0, hcz188_1, hcz188_2, hfz188_0, hfz188_1, hfz188_2⟩ := cf3_ (w := w182) BK158.out; have hs158_0 : ∀ v0 v1 v2 : Value, (((w182.setCell ⟨gb158, 0, none⟩ v0).setCell ⟨gb158, 1, none⟩ v1).setCell ⟨gb158, 2, none⟩ v2).cell? ⟨gb158, 0, none⟩ = some v0 := fun _ _ _ => set3_0 BK158.out; have hs158_1 : ∀ v0 v1 v2 : Value, (((w182.setCell ⟨gb158, 0, none⟩ v0).setCell ⟨gb158, 1, none⟩ v1).setCell ⟨gb158, 2, none⟩ v2).cell? ⟨gb158, 1, none⟩ = some v1 := fun _ _ _ => set3_1 BK158.out; have hs158_2 : ∀ v0 v1 v2 : Value, (((w182.setCell ⟨gb158, 0, none⟩ v0).setCell ⟨gb158, 1, none⟩ v1).setCell ⟨gb158, 2, none⟩ v2).cell? ⟨gb158, 2, none⟩ = some v2 := fun _ _ _ => set3_2 BK158.out; obtain ⟨hcz189_0, hcz189_1, hcz189_2, hfz189_0, hfz189_1, hfz189_2⟩ := cf3_ (w := w182) BK155.out; obtain ⟨hcz190_0, hcz190_1, hcz190_2, hfz190_0, hfz190_1, hfz190_2⟩ := cf3_ (w := w182) BK156.out) | ((with_reducible refine gate_callee (f := 73) rfl ?_); refine goesL_ (some 82) rfl rfl Tryd.func73 (by kernel_rfl) rfl #[.agg #[.bool x156000_85, .int .u64 (IntKind.u64.wrap (x156001_85 - x157001_85)), .int .u64 (IntKind.u64.wrap (x156002_85 - x157002_85))]] rfl mp_ ?_; (with_reducible refine (spec_l3Zero.calls x156000_85 (IntKind.u64.wrap (x156001_85 - x157001_85)) (IntKind.u64.wrap (x156002_85 - x157002_85)) true _ A171.out).mono ?_); rintro e w191 ⟨rfl, hb⟩; refine ⟨_, rfl, ?_⟩; have n0_ := Aside0.mk (blk_below (g := gb147) (o := .cells #[.bool a0_0, .int .u64 a0_1, .int .u64 a0_2] 34 (0, 0)) bk_ hb); have n1_ := Aside0.mk (blk_below (g := gb148) (o := .cells #[.bool a1_0, .int .u64 a1_1, .int .u64 a1_2] 34 (0, 0)) bk_ hb); have n2_ := Aside0.mk (blk_below (g := gb149) (o := .cells #[.bool false, .int .u64 0, .int .u64 0] 34 (0, 0)) bk_ hb); have n3_ := Aside0.mk (blk_below (g := gb155) (o := .cells #[.bool x156000_85, .int .u64 x156001_85, .int .u64 x156002_85] 34 (0, 0)) bk_ hb); have n4_ := Aside0.mk (blk_below (g := gb156) (o := .cells #[.bool x157000_85, .int .u64 x157001_85, .int .u64 x157002_85] 34 (0, 0)) bk_ hb); have n5_ := Aside0.mk (blk_below (g := gb158) (o := .cells #[.bool x156000_85, .int .u64 (IntKind.u64.wrap (x156001_85 - x157001_85)), .int .u64 (IntKind.u64.wrap (x156002_85 - x157002_85))] 34 (0, 0)) (pu_ #[.bool x156000_85, .int .u64 (IntKind.u64.wrap (x156001_85 - x157001_85)), .int .u64 0] 2 (h := (pu_ #[.bool x156000_85, .int .u64 0, .int .u64 0] 1 (h := (pu_ #[.bool false, .int .u64 0, .int .u64 0] 0 (h := bk_)))))) hb); have n6_ := Aside0.mk (below_step bel_ hb); clear BK147; clear BK148; clear BK149; clear BK155; clear BK156; clear BK158; clear HB; have BK147 := n0_; have BK148 := n1_; have BK149 := n2_; have BK155 := n3_; have BK156 := n4_; have BK158 := n5_; have HB := n6_; clear n0_ n1_ n2_ n3_ n4_ n5_ n6_; (try clear hb); (try clear hb2); (try clear hk); (try clear hi); obtain ⟨hcz192_0, hcz192_1, hcz192_2, hfz192_0, hfz192_1, hfz192_2⟩ := cf3_ (w := w191) BK158.out; have hnb193 := NB149_147.out; have hnc193 := NB147_149.out; have hnb194 := NB149_148.out; have hnc194 := NB148_149.out; obtain ⟨hcz195_0, hcz195_1, hcz195_2, hfz195_0, hfz195_1, hfz195_2⟩ := cf3_ (w := w191) BK149.out; have hs149_0 : ∀ v0 v1 v2 : Value, (((w191.setCell ⟨gb149, 0, none⟩ v0).setCell ⟨gb149, 1, none⟩ v1).setCell ⟨gb149, 2, none⟩ v2).cell? ⟨gb149, 0, none⟩ = some v0 := fun _ _ _ => set3_0 BK149.out; have hs149_1 : ∀ v0 v1 v2 : Value, (((w191.setCell ⟨gb149, 0, none⟩ v0).setCell ⟨gb149, 1, none⟩ v1).setCell ⟨gb149, 2, none⟩ v2).cell? ⟨gb149, 1, none⟩ = some v1 := fun _ _ _ => set3_1 BK149.out; have hs149_2 : ∀ v0 v1 v2 : Value, (((w191.setCell ⟨gb149, 0, none⟩ v0).setCell ⟨gb149, 1, none⟩ v1).setCell ⟨gb149, 2, none⟩ v2).cell? ⟨gb149, 2, none⟩ = some v2 := fun _ _ _ => set3_2 BK149.out))
                  refine bodyPost_ret (results_ct rfl _ _ gb149 34 #[.bool false, .int .u64 (IntKind.u64.wrap (x156001_85 - x157001_85)), .int .u64 (IntKind.u64.wrap (x156002_85 - x157002_85))] (0, 0) _ rfl (pu_ #[.bool false, .int .u64 (IntKind.u64.wrap (x156001_85 - x157001_85)), .int .u64 0] 2 (h := (pu_ #[.bool false, .int .u64 0, .int .u64 0] 1 (h := (pu_ #[.bool false, .int .u64 0, .int .u64 0] 0 (h := bk_)))))) Tryd.underlying34 rfl (by kernel_rfl)) rfl ?_
                  exact ⟨rf_, bel_⟩
                · replace c172 := Bool.eq_false_iff.mpr c172
                  subst c172
                  have H1 : (some (x156000_85, IntKind.u64.wrap (x156001_85 - x157001_85), IntKind.u64.wrap (x156002_85 - x157002_85), true)) = some (r1, r2, r3, r4) := by rw [if_neg (show ¬ (false = true) by decide)] at H; exact H
                  clear H
                  have H := H1
                  clear H1
                  simp only [Option.some.injEq, Prod.mk.injEq] at H
                  obtain ⟨rfl, rfl, rfl, rfl⟩ := H
                  have hnb196 := NB155_147.out
                  have hnc196 := NB147_155.out
                  have hnb197 := NB155_148.out
                  have hnc197 := NB148_155.out
                  have hnb198 := NB155_149.out
                  have hnc198 := NB149_155.out
                  have hnb199 := NB155_156.out
                  have hnc199 := NB156_155.out
                  obtain ⟨hcz200_0, hcz200_1, hcz200_2, hfz200_0, hfz200_1, hfz200_2⟩ := cf3_ (w := wc) BK155.out
                  have hnb201 := NB156_147.out
                  have hnc201 := NB147_156.out
                  have hnb202 := NB156_148.out
                  have hnc202 := NB148_156.out
                  have hnb203 := NB156_149.out
                  have hnc203 := NB149_156.out
                  obtain ⟨hcz204_0, hcz204_1, hcz204_2, hfz204_0, hfz204_1, hfz204_2⟩ := cf3_ (w := wc) BK156.out
                  go_wp2_with (first | ((with_reducible refine gate_dst (N := 9) rfl ?_); refine box_event ?hg (N := 9) ?hd (cs := #[.bool false, .int .u64 0, .int .u64 0]) (t := 34) ?hr ?_; (case hd => rfl); (case hg => rfl); (case hr => first | (go_simp; done) | (go_simp; rfl)); intro gb158 hg w205 hbox hb; have n0_ := bb_ (g := gb147) hb; have n1_ := bb_ (g := gb148) hb; have n2_ := bb_ (g := gb149) hb; have n3_ := bb_ (g := gb155) hb; have n4_ := bb_ (g := gb156) hb; have n5_ := Aside0.mk (below_step bel_ hb); have n6_ := Aside0.mk (hbox); have n7_ := bs_ (w := w) hg; have n8_ := bs_ (w := w) hg; have n9_ := nlt_ (g := gb147) hg; have n10_ := ngt_ (g := gb147) hg; have n11_ := nlt_ (g := gb148) hg; have n12_ := ngt_ (g := gb148) hg; have n13_ := nlt_ (g := gb149) hg; have n14_ := ngt_ (g := gb149) hg; have n15_ := nlt_ (g := gb155) hg; have n16_ := ngt_ (g := gb155) hg; have n17_ := nlt_ (g := gb156) hg; have n18_ := ngt_ (g := gb156) hg; clear BK147; clear BK148; clear BK149; clear BK155; clear BK156; clear HB; have BK147 := n0_; have BK148 := n1_; have BK149 := n2_; have BK155 := n3_; have BK156 := n4_; have HB := n5_; have BK158 := n6_; have GW158 := n7_; have GE158 := n8_; have NB147_158 := n9_; have NB158_147 := n10_; have NB148_158 := n11_; have NB158_148 := n12_; have NB149_158 := n13_; have NB158_149 := n14_; have NB155_158 := n15_; have NB158_155 := n16_; have NB156_158 := n17_; have NB158_156 := n18_; clear n0_ n1_ n2_ n3_ n4_ n5_ n6_ n7_ n8_ n9_ n10_ n11_ n12_ n13_ n14_ n15_ n16_ n17_ n18_; clear hb hbox hg; have hnb206 := NB158_147.out; have hnc206 := NB147_158.out; have hnb207 := NB158_148.out; have hnc207 := NB148_158.out; have hnb208 := NB158_149.out; have hnc208 := NB149_158.out; have hnb209 := NB158_155.out; have hnc209 := NB155_158.out; have hnb210 := NB158_156.out; have hnc210 := NB156_158.out; obtain ⟨hcz211_0, hcz211_1, hcz211_2, hfz211_0, hfz211_1, hfz211_2⟩ := cf3_ (w := w205) BK158.out; have hs158_0 : ∀ v0 v1 v2 : Value, (((w205.setCell ⟨gb158, 0, none⟩ v0).setCell ⟨gb158, 1, none⟩ v1).setCell ⟨gb158, 2, none⟩ v2).cell? ⟨gb158, 0, none⟩ = some v0 := fun _ _ _ => set3_0 BK158.out; have hs158_1 : ∀ v0 v1 v2 : Value, (((w205.setCell ⟨gb158, 0, none⟩ v0).setCell ⟨gb158, 1, none⟩ v1).setCell ⟨gb158, 2, none⟩ v2).cell? ⟨gb158, 1, none⟩ = some v1 := fun _ _ _ => set3_1 BK158.out; have hs158_2 : ∀ v0 v1 v2 : Value, (((w205.setCell ⟨gb158, 0, none⟩ v0).setCell ⟨gb158, 1, none⟩ v1).setCell ⟨gb158, 2, none⟩ v2).cell? ⟨gb158, 2, none⟩ = some v2 := fun _ _ _ => set3_2 BK158.out; obtain ⟨hcz212_0, hcz212_1, hcz212_2, hfz212_0, hfz212_1, hfz212_2⟩ := cf3_ (w := w205) BK155.out; obtain ⟨hcz213_0, hcz213_1, hcz213_2, hfz213_0, hfz213_1, hfz213_2⟩ := cf3_ (w := w205) BK156.out) | ((with_reducible refine gate_callee (f := 73) rfl ?_); refine goesL_ (some 82) rfl rfl Tryd.func73 (by kernel_rfl) rfl #[.agg #[.bool x156000_85, .int .u64 (IntKind.u64.wrap (x156001_85 - x157001_85)), .int .u64 (IntKind.u64.wrap (x156002_85 - x157002_85))]] rfl mp_ ?_; (with_reducible refine (spec_l3Zero.calls x156000_85 (IntKind.u64.wrap (x156001_85 - x157001_85)) (IntKind.u64.wrap (x156002_85 - x157002_85)) false _ A171.out).mono ?_); rintro e w214 ⟨rfl, hb⟩; refine ⟨_, rfl, ?_⟩; have n0_ := Aside0.mk (blk_below (g := gb147) (o := .cells #[.bool a0_0, .int .u64 a0_1, .int .u64 a0_2] 34 (0, 0)) bk_ hb); have n1_ := Aside0.mk (blk_below (g := gb148) (o := .cells #[.bool a1_0, .int .u64 a1_1, .int .u64 a1_2] 34 (0, 0)) bk_ hb); have n2_ := Aside0.mk (blk_below (g := gb149) (o := .cells #[.bool false, .int .u64 0, .int .u64 0] 34 (0, 0)) bk_ hb); have n3_ := Aside0.mk (blk_below (g := gb155) (o := .cells #[.bool x156000_85, .int .u64 x156001_85, .int .u64 x156002_85] 34 (0, 0)) bk_ hb); have n4_ := Aside0.mk (blk_below (g := gb156) (o := .cells #[.bool x157000_85, .int .u64 x157001_85, .int .u64 x157002_85] 34 (0, 0)) bk_ hb); have n5_ := Aside0.mk (blk_below (g := gb158) (o := .cells #[.bool x156000_85, .int .u64 (IntKind.u64.wrap (x156001_85 - x157001_85)), .int .u64 (IntKind.u64.wrap (x156002_85 - x157002_85))] 34 (0, 0)) (pu_ #[.bool x156000_85, .int .u64 (IntKind.u64.wrap (x156001_85 - x157001_85)), .int .u64 0] 2 (h := (pu_ #[.bool x156000_85, .int .u64 0, .int .u64 0] 1 (h := (pu_ #[.bool false, .int .u64 0, .int .u64 0] 0 (h := bk_)))))) hb); have n6_ := Aside0.mk (below_step bel_ hb); clear BK147; clear BK148; clear BK149; clear BK155; clear BK156; clear BK158; clear HB; have BK147 := n0_; have BK148 := n1_; have BK149 := n2_; have BK155 := n3_; have BK156 := n4_; have BK158 := n5_; have HB := n6_; clear n0_ n1_ n2_ n3_ n4_ n5_ n6_; (try clear hb); (try clear hb2); (try clear hk); (try clear hi); obtain ⟨hcz215_0, hcz215_1, hcz215_2, hfz215_0, hfz215_1, hfz215_2⟩ := cf3_ (w := w214) BK158.out; have hnb216 := NB149_147.out; have hnc216 := NB147_149.out; have hnb217 := NB149_148.out; have hnc217 := NB148_149.out; obtain ⟨hcz218_0, hcz218_1, hcz218_2, hfz218_0, hfz218_1, hfz218_2⟩ := cf3_ (w := w214) BK149.out; have hs149_0 : ∀ v0 v1 v2 : Value, (((w214.setCell ⟨gb149, 0, none⟩ v0).setCell ⟨gb149, 1, none⟩ v1).setCell ⟨gb149, 2, none⟩ v2).cell? ⟨gb149, 0, none⟩ = some v0 := fun _ _ _ => set3_0 BK149.out; have hs149_1 : ∀ v0 v1 v2 : Value, (((w214.setCell ⟨gb149, 0, none⟩ v0).setCell ⟨gb149, 1, none⟩ v1).setCell ⟨gb149, 2, none⟩ v2).cell? ⟨gb149, 1, none⟩ = some v1 := fun _ _ _ => set3_1 BK149.out; have hs149_2 : ∀ v0 v1 v2 : Value, (((w214.setCell ⟨gb149, 0, none⟩ v0).setCell ⟨gb149, 1, none⟩ v1).setCell ⟨gb149, 2, none⟩ v2).cell? ⟨gb149, 2, none⟩ = some v2 := fun _ _ _ => set3_2 BK149.out))
                  refine bodyPost_ret (results_ct rfl _ _ gb149 34 #[.bool x156000_85, .int .u64 (IntKind.u64.wrap (x156001_85 - x157001_85)), .int .u64 (IntKind.u64.wrap (x156002_85 - x157002_85))] (0, 0) _ rfl (pu_ #[.bool x156000_85, .int .u64 (IntKind.u64.wrap (x156001_85 - x157001_85)), .int .u64 0] 2 (h := (pu_ #[.bool x156000_85, .int .u64 0, .int .u64 0] 1 (h := (pu_ #[.bool false, .int .u64 0, .int .u64 0] 0 (h := bk_)))))) Tryd.underlying34 rfl (by kernel_rfl)) rfl ?_
                  exact ⟨rf_, bel_⟩

end Go.Proofs.YtpcglglfegkdaaaDoor.PFnExactReadWide
