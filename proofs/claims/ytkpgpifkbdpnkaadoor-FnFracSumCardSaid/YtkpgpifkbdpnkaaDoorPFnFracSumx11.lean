/- Contracts of Go functions, each with the Lean function that says what it computes: begun by the print, turned by this session. No condition beyond what each theorem states. -/
import Derived.Test.YtkpgpifkbdpnkaaDoorPFnFracSumx0
import Derived.Test.YtkpgpifkbdpnkaaDoorPFnFracSumx2
import Derived.Test.YtkpgpifkbdpnkaaDoorPFnFracSumx5
import Derived.Test.YtkpgpifkbdpnkaaDoorPFnFracSumx9
import Derived.Test.YtkpgpifkbdpnkaaDoorPFnFracSumx10
namespace Go.Proofs.YtkpgpifkbdpnkaaDoor.PFnFracSum
open Go.RowKit Go.Proofs.YtkpgpifkbdpnkaaDoorVFnFracSum.PrintWords Go.Proofs.YtkpgpifkbdpnkaaDoorVFnFracSum.PrintLast Go.Proofs.YtkpgpifkbdpnkaaDoorVFnFracSum.PrintMore
attribute [local go_sem] max2_int min2_int max_two min_two max_three min_three max_four min_four   -- for this text's walks alone
set_option linter.unusedVariables false
set_option linter.unusedSimpArgs false
/-! ### impl_AddFrac: function 26 -/
def impl_AddFrac.f (k : Nat) (a0_0 : Bool) (a0_1 : Int) (a0_2 : Int) (a0_3 : Int) (a1_0 : Bool) (a1_1 : Int) (a1_2 : Int) (a1_3 : Int) : Option (Bool × Int × Int × Int × Bool) := (impl_crossed.f k a0_0 a0_1 a0_2 a0_3 a1_0 a1_1 a1_2 a1_3).bind fun bt400 => (if bt400.2.2.2.2.2.2 = true then ((impl_AddWide.f k bt400.1 bt400.2.1 bt400.2.2.1 bt400.2.2.2.1 bt400.2.2.2.2.1 bt400.2.2.2.2.2.1).bind fun bt409 => (if bt409.2.2.2 = true then ((impl_fracOf.f bt409.1 bt409.2.1 bt409.2.2.1 (wrap64 (a0_3 * a1_3))).bind fun bt414 => (some (bt414.1, bt414.2.1, bt414.2.2.1, bt414.2.2.2.1, bt414.2.2.2.2))) else (some (false, 0, 0, 0, false)))) else (some (false, 0, 0, 0, false)))
theorem impl_AddFrac.mono : ∀ a0 a1 a2 a3 a4 a5 a6 a7 k, LeO (impl_AddFrac.f k a0 a1 a2 a3 a4 a5 a6 a7) (impl_AddFrac.f (k + 1) a0 a1 a2 a3 a4 a5 a6 a7) := by
 intro a0 a1 a2 a3 a4 a5 a6 a7 k
 unfold impl_AddFrac.f
 repeat' first
   | (with_reducible exact impl_AddWide.mono _ _ _ _ _ _ _)
   | (with_reducible exact impl_crossed.mono _ _ _ _ _ _ _ _ _)
   | (with_reducible exact LeO.refl _)
   | (with_reducible exact LeO.none _)
   | (with_reducible refine LeO.ite ?_ ?_)
   | (with_reducible refine LeO.bind ?_ (fun _ => ?_))
   | exact impl_AddWide.mono _ _ _ _ _ _ _
   | exact impl_crossed.mono _ _ _ _ _ _ _ _ _
   | exact LeO.none _
   | refine LeO.ite ?_ ?_
   | refine LeO.bind ?_ (fun _ => ?_)
set_option maxHeartbeats 8000000 in
set_option maxRecDepth 100000 in
theorem impl_AddFrac.calls (k : Nat) (a0_0 : Bool) (a0_1 : Int) (a0_2 : Int) (a0_3 : Int) (a1_0 : Bool) (a1_1 : Int) (a1_2 : Int) (a1_3 : Int) (r1 : Bool) (r2 : Int) (r3 : Int) (r4 : Int) (r5 : Bool) (w : World) (h : impl_AddFrac.f k a0_0 a0_1 a0_2 a0_3 a1_0 a1_1 a1_2 a1_3 = some (r1, r2, r3, r4, r5)) :
  Calls Tryd.prog 26 #[.agg #[.bool a0_0, .int .u64 a0_1, .int .u64 a0_2, .int .i64 a0_3], .agg #[.bool a1_0, .int .u64 a1_1, .int .u64 a1_2, .int .i64 a1_3]] w fun e w' => e = .returned (.tuple #[.agg #[.bool r1, .int .u64 r2, .int .u64 r3, .int .i64 r4], .bool r5]) ∧ Below w.heap.size w w' := by
 have hu43 := Tryd.underlying43
 have hu28 := Tryd.underlying28
 have HB := Aside0.mk (Below.refl w.heap.size w)
 have H : ((impl_crossed.f k a0_0 a0_1 a0_2 a0_3 a1_0 a1_1 a1_2 a1_3).bind fun bt400 => (if bt400.2.2.2.2.2.2 = true then ((impl_AddWide.f k bt400.1 bt400.2.1 bt400.2.2.1 bt400.2.2.2.1 bt400.2.2.2.2.1 bt400.2.2.2.2.2.1).bind fun bt409 => (if bt409.2.2.2 = true then ((impl_fracOf.f bt409.1 bt409.2.1 bt409.2.2.1 (wrap64 (a0_3 * a1_3))).bind fun bt414 => (some (bt414.1, bt414.2.1, bt414.2.2.1, bt414.2.2.2.1, bt414.2.2.2.2))) else (some (false, 0, 0, 0, false)))) else (some (false, 0, 0, 0, false)))) = some (r1, r2, r3, r4, r5) := h
 clear h
 replace H := Option.bind_eq_some_iff.mp H
 obtain ⟨⟨t400, t401, t402, t403, t404, t405, t406⟩, A30, H⟩ := H
 replace H : (if t406 = true then ((impl_AddWide.f k t400 t401 t402 t403 t404 t405).bind fun bt409 => (if bt409.2.2.2 = true then ((impl_fracOf.f bt409.1 bt409.2.1 bt409.2.2.1 (wrap64 (a0_3 * a1_3))).bind fun bt414 => (some (bt414.1, bt414.2.1, bt414.2.2.1, bt414.2.2.2.1, bt414.2.2.2.2))) else (some (false, 0, 0, 0, false)))) else (some (false, 0, 0, 0, false))) = some (r1, r2, r3, r4, r5) := H
 have A3 := Aside0.mk A30
 clear A30
 by_cases c4 : t406 = true
 ·subst c4
  have H1 : ((impl_AddWide.f k t400 t401 t402 t403 t404 t405).bind fun bt409 => (if bt409.2.2.2 = true then ((impl_fracOf.f bt409.1 bt409.2.1 bt409.2.2.1 (wrap64 (a0_3 * a1_3))).bind fun bt414 => (some (bt414.1, bt414.2.1, bt414.2.2.1, bt414.2.2.2.1, bt414.2.2.2.2))) else (some (false, 0, 0, 0, false)))) = some (r1, r2, r3, r4, r5) := by rw [if_pos rfl] at H; exact H
  clear H
  have H := H1
  clear H1
  replace H := Option.bind_eq_some_iff.mp H
  obtain ⟨⟨t409, t410, t411, t412⟩, A50, H⟩ := H
  replace H : (if t412 = true then ((impl_fracOf.f t409 t410 t411 (wrap64 (a0_3 * a1_3))).bind fun bt414 => (some (bt414.1, bt414.2.1, bt414.2.2.1, bt414.2.2.2.1, bt414.2.2.2.2))) else (some (false, 0, 0, 0, false))) = some (r1, r2, r3, r4, r5) := H
  have A5 := Aside0.mk A50
  clear A50
  by_cases c6 : t412 = true
  ·subst c6
   have H1 : ((impl_fracOf.f t409 t410 t411 (wrap64 (a0_3 * a1_3))).bind fun bt414 => (some (bt414.1, bt414.2.1, bt414.2.2.1, bt414.2.2.2.1, bt414.2.2.2.2))) = some (r1, r2, r3, r4, r5) := by rw [if_pos rfl] at H; exact H
   clear H
   have H := H1
   clear H1
   replace H := Option.bind_eq_some_iff.mp H
   obtain ⟨⟨t414, t415, t416, t417, t418⟩, A70, H⟩ := H
   replace H : (some (t414, t415, t416, t417, t418)) = some (r1, r2, r3, r4, r5) := H
   have A7 := Aside0.mk A70
   clear A70
   simp only [Option.some.injEq, Prod.mk.injEq] at H
   obtain ⟨rfl, rfl, rfl, rfl, rfl⟩ := H
   go_enter Tryd.func26, Tryd.ntmps26
   go_wp2_with (first | ((with_reducible refine gate_dst (N := 2) rfl ?_); refine box_event ?hg (N := 2) ?hd (cs := #[.bool a0_0, .int .u64 a0_1, .int .u64 a0_2, .int .i64 a0_3]) (t := 43) ?hr ?_; (case hd => rfl); (case hg => rfl); (case hr => first | (go_simp; done) | (go_simp; rfl)); intro gb397 hg w8 hbox hb; have BK397 := Aside0.mk (hbox); have GW397 := bs_ (w := w) hg; have GE397 := bs_ (w := w) hg; replace HB := Aside0.mk (below_step bel_ hb); clear hb hbox hg) | ((with_reducible refine gate_dst (N := 3) rfl ?_); refine box_event ?hg (N := 3) ?hd (cs := #[.bool a1_0, .int .u64 a1_1, .int .u64 a1_2, .int .i64 a1_3]) (t := 43) ?hr ?_; (case hd => rfl); (case hg => rfl); (case hr => first | (go_simp; done) | (go_simp; rfl)); intro gb398 hg w9 hbox hb; have BK398 := Aside0.mk (hbox); have GW398 := bs_ (w := w) hg; have GE398 := bs_ (w := w) hg; have NB397_398 := nlt_ (g := gb397) hg; have NB398_397 := ngt_ (g := gb397) hg; replace HB := Aside0.mk (below_step bel_ hb); replace BK397 := bb_ (g := gb397) hb; clear hb hbox hg) | ((with_reducible refine gate_dst (N := 4) rfl ?_); refine box_event ?hg (N := 4) ?hd (cs := #[.bool false, .int .u64 0, .int .u64 0, .int .i64 0]) (t := 43) ?hr ?_; (case hd => rfl); (case hg => rfl); (case hr => first | (go_simp; done) | (go_simp; rfl)); intro gb399 hg w10 hbox hb; have BK399 := Aside0.mk (hbox); have GW399 := bs_ (w := w) hg; have GE399 := bs_ (w := w) hg; have NB397_399 := nlt_ (g := gb397) hg; have NB399_397 := ngt_ (g := gb397) hg; have NB398_399 := nlt_ (g := gb398) hg; have NB399_398 := ngt_ (g := gb398) hg; replace HB := Aside0.mk (below_step bel_ hb); replace BK397 := bb_ (g := gb397) hb; replace BK398 := bb_ (g := gb398) hb; clear hb hbox hg; have hnb11 := NB397_398.out; have hnc11 := NB398_397.out; have hnb12 := NB397_399.out; have hnc12 := NB399_397.out; obtain ⟨hcz13_0, hcz13_1, hcz13_2, hcz13_3, hfz13_0, hfz13_1, hfz13_2, hfz13_3⟩ := cf4_ (w := w10) BK397.out; have hnb14 := NB398_399.out; have hnc14 := NB399_398.out; obtain ⟨hcz15_0, hcz15_1, hcz15_2, hcz15_3, hfz15_0, hfz15_1, hfz15_2, hfz15_3⟩ := cf4_ (w := w10) BK398.out) | ((with_reducible refine gate_callee (f := 68) rfl ?_); refine goesL_ (some 13) rfl rfl Tryd.func68 (by kernel_rfl) rfl #[.agg #[.bool a0_0, .int .u64 a0_1, .int .u64 a0_2, .int .i64 a0_3], .agg #[.bool a1_0, .int .u64 a1_1, .int .u64 a1_2, .int .i64 a1_3]] rfl mp_ ?_; (with_reducible refine (impl_crossed.calls k a0_0 a0_1 a0_2 a0_3 a1_0 a1_1 a1_2 a1_3 t400 t401 t402 t403 t404 t405 true _ A3.out).mono ?_); rintro e w16 ⟨rfl, hb⟩; refine ⟨_, rfl, ?_⟩; replace HB := Aside0.mk (below_step bel_ hb); replace BK397 := bb_ (g := gb397) hb; replace BK398 := bb_ (g := gb398) hb; replace BK399 := bb_ (g := gb399) hb; (try clear hb); (try clear hb2); (try clear hk); (try clear hi)) | ((with_reducible refine gate_dst (N := 6) rfl ?_); refine box_event ?hg (N := 6) ?hd (cs := #[.bool false, .int .u64 0, .int .u64 0]) (t := 28) ?hr ?_; (case hd => rfl); (case hg => rfl); (case hr => first | (go_simp; done) | (go_simp; rfl)); intro gb407 hg w17 hbox hb; have BK407 := Aside0.mk (hbox); have GW407 := bs_ (w := w) hg; have GE407 := bs_ (w := w) hg; have NB397_407 := nlt_ (g := gb397) hg; have NB407_397 := ngt_ (g := gb397) hg; have NB398_407 := nlt_ (g := gb398) hg; have NB407_398 := ngt_ (g := gb398) hg; have NB399_407 := nlt_ (g := gb399) hg; have NB407_399 := ngt_ (g := gb399) hg; replace HB := Aside0.mk (below_step bel_ hb); replace BK397 := bb_ (g := gb397) hb; replace BK398 := bb_ (g := gb398) hb; replace BK399 := bb_ (g := gb399) hb; clear hb hbox hg) | ((with_reducible refine gate_dst (N := 7) rfl ?_); refine box_event ?hg (N := 7) ?hd (cs := #[.bool false, .int .u64 0, .int .u64 0]) (t := 28) ?hr ?_; (case hd => rfl); (case hg => rfl); (case hr => first | (go_simp; done) | (go_simp; rfl)); intro gb408 hg w18 hbox hb; have BK408 := Aside0.mk (hbox); have GW408 := bs_ (w := w) hg; have GE408 := bs_ (w := w) hg; have NB397_408 := nlt_ (g := gb397) hg; have NB408_397 := ngt_ (g := gb397) hg; have NB398_408 := nlt_ (g := gb398) hg; have NB408_398 := ngt_ (g := gb398) hg; have NB399_408 := nlt_ (g := gb399) hg; have NB408_399 := ngt_ (g := gb399) hg; have NB407_408 := nlt_ (g := gb407) hg; have NB408_407 := ngt_ (g := gb407) hg; replace HB := Aside0.mk (below_step bel_ hb); replace BK397 := bb_ (g := gb397) hb; replace BK398 := bb_ (g := gb398) hb; replace BK399 := bb_ (g := gb399) hb; replace BK407 := bb_ (g := gb407) hb; clear hb hbox hg; have hnb19 := NB407_397.out; have hnc19 := NB397_407.out; have hnb20 := NB407_398.out; have hnc20 := NB398_407.out; have hnb21 := NB407_399.out; have hnc21 := NB399_407.out; have hnb22 := NB407_408.out; have hnc22 := NB408_407.out; obtain ⟨hcz23_0, hcz23_1, hcz23_2, hfz23_0, hfz23_1, hfz23_2⟩ := cf3_ (w := w18) BK407.out; have hnb24 := NB408_397.out; have hnc24 := NB397_408.out; have hnb25 := NB408_398.out; have hnc25 := NB398_408.out; have hnb26 := NB408_399.out; have hnc26 := NB399_408.out; obtain ⟨hcz27_0, hcz27_1, hcz27_2, hfz27_0, hfz27_1, hfz27_2⟩ := cf3_ (w := w18) BK408.out) | ((with_reducible refine gate_callee (f := 56) rfl ?_); refine goesL_ (some 23) rfl rfl Tryd.func56 (by kernel_rfl) rfl #[.agg #[.bool t400, .int .u64 t401, .int .u64 t402], .agg #[.bool t403, .int .u64 t404, .int .u64 t405]] rfl mp_ ?_; (with_reducible refine (impl_AddWide.calls k t400 t401 t402 t403 t404 t405 t409 t410 t411 true _ A5.out).mono ?_); rintro e w28 ⟨rfl, hb⟩; refine ⟨_, rfl, ?_⟩; replace HB := Aside0.mk (below_step bel_ hb); replace BK397 := Aside0.mk (blk_below (g := gb397) (o := .cells #[.bool a0_0, .int .u64 a0_1, .int .u64 a0_2, .int .i64 a0_3] 43 (0, 0)) bk_ hb); replace BK398 := Aside0.mk (blk_below (g := gb398) (o := .cells #[.bool a1_0, .int .u64 a1_1, .int .u64 a1_2, .int .i64 a1_3] 43 (0, 0)) bk_ hb); replace BK399 := Aside0.mk (blk_below (g := gb399) (o := .cells #[.bool false, .int .u64 0, .int .u64 0, .int .i64 0] 43 (0, 0)) bk_ hb); replace BK407 := Aside0.mk (blk_below (g := gb407) (o := .cells #[.bool t400, .int .u64 t401, .int .u64 t402] 28 (0, 0)) (pu_ #[.bool t400, .int .u64 t401, .int .u64 0] 2 (h := (pu_ #[.bool t400, .int .u64 0, .int .u64 0] 1 (h := (pu_ #[.bool false, .int .u64 0, .int .u64 0] 0 (h := bk_)))))) hb); replace BK408 := Aside0.mk (blk_below (g := gb408) (o := .cells #[.bool t403, .int .u64 t404, .int .u64 t405] 28 (0, 0)) (pu_ #[.bool t403, .int .u64 t404, .int .u64 0] 2 (h := (pu_ #[.bool t403, .int .u64 0, .int .u64 0] 1 (h := (pu_ #[.bool false, .int .u64 0, .int .u64 0] 0 (h := bk_)))))) hb); (try clear hb); (try clear hb2); (try clear hk); (try clear hi)) | ((with_reducible refine gate_dst (N := 9) rfl ?_); refine box_event ?hg (N := 9) ?hd (cs := #[.bool false, .int .u64 0, .int .u64 0]) (t := 28) ?hr ?_; (case hd => rfl); (case hg => rfl); (case hr => first | (go_simp; done) | (go_simp; rfl)); intro gb413 hg w29 hbox hb; have BK413 := Aside0.mk (hbox); have GW413 := bs_ (w := w) hg; have GE413 := bs_ (w := w) hg; have NB397_413 := nlt_ (g := gb397) hg; have NB413_397 := ngt_ (g := gb397) hg; have NB398_413 := nlt_ (g := gb398) hg; have NB413_398 := ngt_ (g := gb398) hg; have NB399_413 := nlt_ (g := gb399) hg; have NB413_399 := ngt_ (g := gb399) hg; have NB407_413 := nlt_ (g := gb407) hg; have NB413_407 := ngt_ (g := gb407) hg; have NB408_413 := nlt_ (g := gb408) hg; have NB413_408 := ngt_ (g := gb408) hg; replace HB := Aside0.mk (below_step bel_ hb); replace BK397 := bb_ (g := gb397) hb; replace BK398 := bb_ (g := gb398) hb; replace BK399 := bb_ (g := gb399) hb; replace BK407 := bb_ (g := gb407) hb; replace BK408 := bb_ (g := gb408) hb; clear hb hbox hg; have hnb30 := NB413_397.out; have hnc30 := NB397_413.out; have hnb31 := NB413_398.out; have hnc31 := NB398_413.out; have hnb32 := NB413_399.out; have hnc32 := NB399_413.out; have hnb33 := NB413_407.out; have hnc33 := NB407_413.out; have hnb34 := NB413_408.out; have hnc34 := NB408_413.out; obtain ⟨hcz35_0, hcz35_1, hcz35_2, hfz35_0, hfz35_1, hfz35_2⟩ := cf3_ (w := w29) BK413.out; obtain ⟨hcz36_0, hcz36_1, hcz36_2, hcz36_3, hfz36_0, hfz36_1, hfz36_2, hfz36_3⟩ := cf4_ (w := w29) BK397.out; obtain ⟨hcz37_0, hcz37_1, hcz37_2, hcz37_3, hfz37_0, hfz37_1, hfz37_2, hfz37_3⟩ := cf4_ (w := w29) BK398.out) | ((with_reducible refine gate_callee (f := 69) rfl ?_); refine goesL_ (some 35) rfl rfl Tryd.func69 (by kernel_rfl) rfl #[.agg #[.bool t409, .int .u64 t410, .int .u64 t411], .int .i64 (wrap64 (a0_3 * a1_3))] rfl mp_ ?_; (with_reducible refine (impl_fracOf.calls t409 t410 t411 (wrap64 (a0_3 * a1_3)) t414 t415 t416 t417 t418 _ A7.out).mono ?_); rintro e w38 ⟨rfl, hb⟩; refine ⟨_, rfl, ?_⟩; replace HB := Aside0.mk (below_step bel_ hb); replace BK397 := Aside0.mk (blk_below (g := gb397) (o := .cells #[.bool a0_0, .int .u64 a0_1, .int .u64 a0_2, .int .i64 a0_3] 43 (0, 0)) bk_ hb); replace BK398 := Aside0.mk (blk_below (g := gb398) (o := .cells #[.bool a1_0, .int .u64 a1_1, .int .u64 a1_2, .int .i64 a1_3] 43 (0, 0)) bk_ hb); replace BK399 := Aside0.mk (blk_below (g := gb399) (o := .cells #[.bool false, .int .u64 0, .int .u64 0, .int .i64 0] 43 (0, 0)) bk_ hb); replace BK407 := Aside0.mk (blk_below (g := gb407) (o := .cells #[.bool t400, .int .u64 t401, .int .u64 t402] 28 (0, 0)) bk_ hb); replace BK408 := Aside0.mk (blk_below (g := gb408) (o := .cells #[.bool t403, .int .u64 t404, .int .u64 t405] 28 (0, 0)) bk_ hb); replace BK413 := Aside0.mk (blk_below (g := gb413) (o := .cells #[.bool t409, .int .u64 t410, .int .u64 t411] 28 (0, 0)) (pu_ #[.bool t409, .int .u64 t410, .int .u64 0] 2 (h := (pu_ #[.bool t409, .int .u64 0, .int .u64 0] 1 (h := (pu_ #[.bool false, .int .u64 0, .int .u64 0] 0 (h := bk_)))))) hb); (try clear hb); (try clear hb2); (try clear hk); (try clear hi); obtain ⟨hcz39_0, hcz39_1, hcz39_2, hcz39_3, hfz39_0, hfz39_1, hfz39_2, hfz39_3⟩ := cf4_ (w := w38) BK399.out))
   refine bodyPost_ret (results_ct rfl _ _ gb399 43 #[.bool t414, .int .u64 t415, .int .u64 t416, .int .i64 t417] (0, 0) _ rfl (pu_ #[.bool t414, .int .u64 t415, .int .u64 t416, .int .i64 0] 3 (h := (pu_ #[.bool t414, .int .u64 t415, .int .u64 0, .int .i64 0] 2 (h := (pu_ #[.bool t414, .int .u64 0, .int .u64 0, .int .i64 0] 1 (h := (pu_ #[.bool false, .int .u64 0, .int .u64 0, .int .i64 0] 0 (h := bk_)))))))) Tryd.underlying43 rfl (by kernel_rfl)) rfl ?_
   exact ⟨rf_, bel_⟩
  ·replace c6 := Bool.eq_false_iff.mpr c6
   subst c6
   have H1 : (some (false, 0, 0, 0, false)) = some (r1, r2, r3, r4, r5) := by rw [if_neg (show ¬ (false = true) by decide)] at H; exact H
   clear H
   have H := H1
   clear H1
   simp only [Option.some.injEq, Prod.mk.injEq] at H
   obtain ⟨rfl, rfl, rfl, rfl, rfl⟩ := H
   go_enter Tryd.func26, Tryd.ntmps26
   go_wp2_with (first | ((with_reducible refine gate_dst (N := 2) rfl ?_); refine box_event ?hg (N := 2) ?hd (cs := #[.bool a0_0, .int .u64 a0_1, .int .u64 a0_2, .int .i64 a0_3]) (t := 43) ?hr ?_; (case hd => rfl); (case hg => rfl); (case hr => first | (go_simp; done) | (go_simp; rfl)); intro gb397 hg w40 hbox hb; have BK397 := Aside0.mk (hbox); have GW397 := bs_ (w := w) hg; have GE397 := bs_ (w := w) hg; replace HB := Aside0.mk (below_step bel_ hb); clear hb hbox hg) | ((with_reducible refine gate_dst (N := 3) rfl ?_); refine box_event ?hg (N := 3) ?hd (cs := #[.bool a1_0, .int .u64 a1_1, .int .u64 a1_2, .int .i64 a1_3]) (t := 43) ?hr ?_; (case hd => rfl); (case hg => rfl); (case hr => first | (go_simp; done) | (go_simp; rfl)); intro gb398 hg w41 hbox hb; have BK398 := Aside0.mk (hbox); have GW398 := bs_ (w := w) hg; have GE398 := bs_ (w := w) hg; have NB397_398 := nlt_ (g := gb397) hg; have NB398_397 := ngt_ (g := gb397) hg; replace HB := Aside0.mk (below_step bel_ hb); replace BK397 := bb_ (g := gb397) hb; clear hb hbox hg) | ((with_reducible refine gate_dst (N := 4) rfl ?_); refine box_event ?hg (N := 4) ?hd (cs := #[.bool false, .int .u64 0, .int .u64 0, .int .i64 0]) (t := 43) ?hr ?_; (case hd => rfl); (case hg => rfl); (case hr => first | (go_simp; done) | (go_simp; rfl)); intro gb399 hg w42 hbox hb; have BK399 := Aside0.mk (hbox); have GW399 := bs_ (w := w) hg; have GE399 := bs_ (w := w) hg; have NB397_399 := nlt_ (g := gb397) hg; have NB399_397 := ngt_ (g := gb397) hg; have NB398_399 := nlt_ (g := gb398) hg; have NB399_398 := ngt_ (g := gb398) hg; replace HB := Aside0.mk (below_step bel_ hb); replace BK397 := bb_ (g := gb397) hb; replace BK398 := bb_ (g := gb398) hb; clear hb hbox hg; have hnb43 := NB397_398.out; have hnc43 := NB398_397.out; have hnb44 := NB397_399.out; have hnc44 := NB399_397.out; obtain ⟨hcz45_0, hcz45_1, hcz45_2, hcz45_3, hfz45_0, hfz45_1, hfz45_2, hfz45_3⟩ := cf4_ (w := w42) BK397.out; have hnb46 := NB398_399.out; have hnc46 := NB399_398.out; obtain ⟨hcz47_0, hcz47_1, hcz47_2, hcz47_3, hfz47_0, hfz47_1, hfz47_2, hfz47_3⟩ := cf4_ (w := w42) BK398.out) | ((with_reducible refine gate_callee (f := 68) rfl ?_); refine goesL_ (some 13) rfl rfl Tryd.func68 (by kernel_rfl) rfl #[.agg #[.bool a0_0, .int .u64 a0_1, .int .u64 a0_2, .int .i64 a0_3], .agg #[.bool a1_0, .int .u64 a1_1, .int .u64 a1_2, .int .i64 a1_3]] rfl mp_ ?_; (with_reducible refine (impl_crossed.calls k a0_0 a0_1 a0_2 a0_3 a1_0 a1_1 a1_2 a1_3 t400 t401 t402 t403 t404 t405 true _ A3.out).mono ?_); rintro e w48 ⟨rfl, hb⟩; refine ⟨_, rfl, ?_⟩; replace HB := Aside0.mk (below_step bel_ hb); replace BK397 := bb_ (g := gb397) hb; replace BK398 := bb_ (g := gb398) hb; replace BK399 := bb_ (g := gb399) hb; (try clear hb); (try clear hb2); (try clear hk); (try clear hi)) | ((with_reducible refine gate_dst (N := 6) rfl ?_); refine box_event ?hg (N := 6) ?hd (cs := #[.bool false, .int .u64 0, .int .u64 0]) (t := 28) ?hr ?_; (case hd => rfl); (case hg => rfl); (case hr => first | (go_simp; done) | (go_simp; rfl)); intro gb407 hg w49 hbox hb; have BK407 := Aside0.mk (hbox); have GW407 := bs_ (w := w) hg; have GE407 := bs_ (w := w) hg; have NB397_407 := nlt_ (g := gb397) hg; have NB407_397 := ngt_ (g := gb397) hg; have NB398_407 := nlt_ (g := gb398) hg; have NB407_398 := ngt_ (g := gb398) hg; have NB399_407 := nlt_ (g := gb399) hg; have NB407_399 := ngt_ (g := gb399) hg; replace HB := Aside0.mk (below_step bel_ hb); replace BK397 := bb_ (g := gb397) hb; replace BK398 := bb_ (g := gb398) hb; replace BK399 := bb_ (g := gb399) hb; clear hb hbox hg) | ((with_reducible refine gate_dst (N := 7) rfl ?_); refine box_event ?hg (N := 7) ?hd (cs := #[.bool false, .int .u64 0, .int .u64 0]) (t := 28) ?hr ?_; (case hd => rfl); (case hg => rfl); (case hr => first | (go_simp; done) | (go_simp; rfl)); intro gb408 hg w50 hbox hb; have BK408 := Aside0.mk (hbox); have GW408 := bs_ (w := w) hg; have GE408 := bs_ (w := w) hg; have NB397_408 := nlt_ (g := gb397) hg; have NB408_397 := ngt_ (g := gb397) hg; have NB398_408 := nlt_ (g := gb398) hg; have NB408_398 := ngt_ (g := gb398) hg; have NB399_408 := nlt_ (g := gb399) hg; have NB408_399 := ngt_ (g := gb399) hg; have NB407_408 := nlt_ (g := gb407) hg; have NB408_407 := ngt_ (g := gb407) hg; replace HB := Aside0.mk (below_step bel_ hb); replace BK397 := bb_ (g := gb397) hb; replace BK398 := bb_ (g := gb398) hb; replace BK399 := bb_ (g := gb399) hb; replace BK407 := bb_ (g := gb407) hb; clear hb hbox hg; have hnb51 := NB407_397.out; have hnc51 := NB397_407.out; have hnb52 := NB407_398.out; have hnc52 := NB398_407.out; have hnb53 := NB407_399.out; have hnc53 := NB399_407.out; have hnb54 := NB407_408.out; have hnc54 := NB408_407.out; obtain ⟨hcz55_0, hcz55_1, hcz55_2, hfz55_0, hfz55_1, hfz55_2⟩ := cf3_ (w := w50) BK407.out; have hnb56 := NB408_397.out; have hnc56 := NB397_408.out; have hnb57 := NB408_398.out; have hnc57 := NB398_408.out; have hnb58 := NB408_399.out; have hnc58 := NB399_408.out; obtain ⟨hcz59_0, hcz59_1, hcz59_2, hfz59_0, hfz59_1, hfz59_2⟩ := cf3_ (w := w50) BK408.out) | ((with_reducible refine gate_callee (f := 56) rfl ?_); refine goesL_ (some 23) rfl rfl Tryd.func56 (by kernel_rfl) rfl #[.agg #[.bool t400, .int .u64 t401, .int .u64 t402], .agg #[.bool t403, .int .u64 t404, .int .u64 t405]] rfl mp_ ?_; (with_reducible refine (impl_AddWide.calls k t400 t401 t402 t403 t404 t405 t409 t410 t411 false _ A5.out).mono ?_); rintro e w60 ⟨rfl, hb⟩; refine ⟨_, rfl, ?_⟩; replace HB := Aside0.mk (below_step bel_ hb); replace BK397 := Aside0.mk (blk_below (g := gb397) (o := .cells #[.bool a0_0, .int .u64 a0_1, .int .u64 a0_2, .int .i64 a0_3] 43 (0, 0)) bk_ hb); replace BK398 := Aside0.mk (blk_below (g := gb398) (o := .cells #[.bool a1_0, .int .u64 a1_1, .int .u64 a1_2, .int .i64 a1_3] 43 (0, 0)) bk_ hb); replace BK399 := Aside0.mk (blk_below (g := gb399) (o := .cells #[.bool false, .int .u64 0, .int .u64 0, .int .i64 0] 43 (0, 0)) bk_ hb); replace BK407 := Aside0.mk (blk_below (g := gb407) (o := .cells #[.bool t400, .int .u64 t401, .int .u64 t402] 28 (0, 0)) (pu_ #[.bool t400, .int .u64 t401, .int .u64 0] 2 (h := (pu_ #[.bool t400, .int .u64 0, .int .u64 0] 1 (h := (pu_ #[.bool false, .int .u64 0, .int .u64 0] 0 (h := bk_)))))) hb); replace BK408 := Aside0.mk (blk_below (g := gb408) (o := .cells #[.bool t403, .int .u64 t404, .int .u64 t405] 28 (0, 0)) (pu_ #[.bool t403, .int .u64 t404, .int .u64 0] 2 (h := (pu_ #[.bool t403, .int .u64 0, .int .u64 0] 1 (h := (pu_ #[.bool false, .int .u64 0, .int .u64 0] 0 (h := bk_)))))) hb); (try clear hb); (try clear hb2); (try clear hk); (try clear hi)) | ((with_reducible refine gate_dst (N := 9) rfl ?_); refine box_event ?hg (N := 9) ?hd (cs := #[.bool false, .int .u64 0, .int .u64 0]) (t := 28) ?hr ?_; (case hd => rfl); (case hg => rfl); (case hr => first | (go_simp; done) | (go_simp; rfl)); intro gb413 hg w61 hbox hb; have BK413 := Aside0.mk (hbox); have GW413 := bs_ (w := w) hg; have GE413 := bs_ (w := w) hg; have NB397_413 := nlt_ (g := gb397) hg; have NB413_397 := ngt_ (g := gb397) hg; have NB398_413 := nlt_ (g := gb398) hg; have NB413_398 := ngt_ (g := gb398) hg; have NB399_413 := nlt_ (g := gb399) hg; have NB413_399 := ngt_ (g := gb399) hg; have NB407_413 := nlt_ (g := gb407) hg; have NB413_407 := ngt_ (g := gb407) hg; have NB408_413 := nlt_ (g := gb408) hg; have NB413_408 := ngt_ (g := gb408) hg; replace HB := Aside0.mk (below_step bel_ hb); replace BK397 := bb_ (g := gb397) hb; replace BK398 := bb_ (g := gb398) hb; replace BK399 := bb_ (g := gb399) hb; replace BK407 := bb_ (g := gb407) hb; replace BK408 := bb_ (g := gb408) hb; clear hb hbox hg; have hnb62 := NB413_397.out; have hnc62 := NB397_413.out; have hnb63 := NB413_398.out; have hnc63 := NB398_413.out; have hnb64 := NB413_399.out; have hnc64 := NB399_413.out; have hnb65 := NB413_407.out; have hnc65 := NB407_413.out; have hnb66 := NB413_408.out; have hnc66 := NB408_413.out; obtain ⟨hcz67_0, hcz67_1, hcz67_2, hfz67_0, hfz67_1, hfz67_2⟩ := cf3_ (w := w61) BK413.out; obtain ⟨hcz68_0, hcz68_1, hcz68_2, hcz68_3, hfz68_0, hfz68_1, hfz68_2, hfz68_3⟩ := cf4_ (w := w61) BK399.out))
   refine bodyPost_ret (results_ct rfl _ _ gb399 43 #[.bool false, .int .u64 0, .int .u64 0, .int .i64 0] (0, 0) _ rfl (pu_ #[.bool false, .int .u64 0, .int .u64 0, .int .i64 0] 3 (h := (pu_ #[.bool false, .int .u64 0, .int .u64 0, .int .i64 0] 2 (h := (pu_ #[.bool false, .int .u64 0, .int .u64 0, .int .i64 0] 1 (h := (pu_ #[.bool false, .int .u64 0, .int .u64 0, .int .i64 0] 0 (h := bk_)))))))) Tryd.underlying43 rfl (by kernel_rfl)) rfl ?_
   exact ⟨rf_, bel_⟩
 ·replace c4 := Bool.eq_false_iff.mpr c4
  subst c4
  have H1 : (some (false, 0, 0, 0, false)) = some (r1, r2, r3, r4, r5) := by rw [if_neg (show ¬ (false = true) by decide)] at H; exact H
  clear H
  have H := H1
  clear H1
  simp only [Option.some.injEq, Prod.mk.injEq] at H
  obtain ⟨rfl, rfl, rfl, rfl, rfl⟩ := H
  go_enter Tryd.func26, Tryd.ntmps26
  go_wp2_with (first | ((with_reducible refine gate_dst (N := 2) rfl ?_); refine box_event ?hg (N := 2) ?hd (cs := #[.bool a0_0, .int .u64 a0_1, .int .u64 a0_2, .int .i64 a0_3]) (t := 43) ?hr ?_; (case hd => rfl); (case hg => rfl); (case hr => first | (go_simp; done) | (go_simp; rfl)); intro gb397 hg w69 hbox hb; have BK397 := Aside0.mk (hbox); have GW397 := bs_ (w := w) hg; have GE397 := bs_ (w := w) hg; replace HB := Aside0.mk (below_step bel_ hb); clear hb hbox hg) | ((with_reducible refine gate_dst (N := 3) rfl ?_); refine box_event ?hg (N := 3) ?hd (cs := #[.bool a1_0, .int .u64 a1_1, .int .u64 a1_2, .int .i64 a1_3]) (t := 43) ?hr ?_; (case hd => rfl); (case hg => rfl); (case hr => first | (go_simp; done) | (go_simp; rfl)); intro gb398 hg w70 hbox hb; have BK398 := Aside0.mk (hbox); have GW398 := bs_ (w := w) hg; have GE398 := bs_ (w := w) hg; have NB397_398 := nlt_ (g := gb397) hg; have NB398_397 := ngt_ (g := gb397) hg; replace HB := Aside0.mk (below_step bel_ hb); replace BK397 := bb_ (g := gb397) hb; clear hb hbox hg) | ((with_reducible refine gate_dst (N := 4) rfl ?_); refine box_event ?hg (N := 4) ?hd (cs := #[.bool false, .int .u64 0, .int .u64 0, .int .i64 0]) (t := 43) ?hr ?_; (case hd => rfl); (case hg => rfl); (case hr => first | (go_simp; done) | (go_simp; rfl)); intro gb399 hg w71 hbox hb; have BK399 := Aside0.mk (hbox); have GW399 := bs_ (w := w) hg; have GE399 := bs_ (w := w) hg; have NB397_399 := nlt_ (g := gb397) hg; have NB399_397 := ngt_ (g := gb397) hg; have NB398_399 := nlt_ (g := gb398) hg; have NB399_398 := ngt_ (g := gb398) hg; replace HB := Aside0.mk (below_step bel_ hb); replace BK397 := bb_ (g := gb397) hb; replace BK398 := bb_ (g := gb398) hb; clear hb hbox hg; have hnb72 := NB397_398.out; have hnc72 := NB398_397.out; have hnb73 := NB397_399.out; have hnc73 := NB399_397.out; obtain ⟨hcz74_0, hcz74_1, hcz74_2, hcz74_3, hfz74_0, hfz74_1, hfz74_2, hfz74_3⟩ := cf4_ (w := w71) BK397.out; have hnb75 := NB398_399.out; have hnc75 := NB399_398.out; obtain ⟨hcz76_0, hcz76_1, hcz76_2, hcz76_3, hfz76_0, hfz76_1, hfz76_2, hfz76_3⟩ := cf4_ (w := w71) BK398.out) | ((with_reducible refine gate_callee (f := 68) rfl ?_); refine goesL_ (some 13) rfl rfl Tryd.func68 (by kernel_rfl) rfl #[.agg #[.bool a0_0, .int .u64 a0_1, .int .u64 a0_2, .int .i64 a0_3], .agg #[.bool a1_0, .int .u64 a1_1, .int .u64 a1_2, .int .i64 a1_3]] rfl mp_ ?_; (with_reducible refine (impl_crossed.calls k a0_0 a0_1 a0_2 a0_3 a1_0 a1_1 a1_2 a1_3 t400 t401 t402 t403 t404 t405 false _ A3.out).mono ?_); rintro e w77 ⟨rfl, hb⟩; refine ⟨_, rfl, ?_⟩; replace HB := Aside0.mk (below_step bel_ hb); replace BK397 := bb_ (g := gb397) hb; replace BK398 := bb_ (g := gb398) hb; replace BK399 := bb_ (g := gb399) hb; (try clear hb); (try clear hb2); (try clear hk); (try clear hi)) | ((with_reducible refine gate_dst (N := 6) rfl ?_); refine box_event ?hg (N := 6) ?hd (cs := #[.bool false, .int .u64 0, .int .u64 0]) (t := 28) ?hr ?_; (case hd => rfl); (case hg => rfl); (case hr => first | (go_simp; done) | (go_simp; rfl)); intro gb407 hg w78 hbox hb; have BK407 := Aside0.mk (hbox); have GW407 := bs_ (w := w) hg; have GE407 := bs_ (w := w) hg; have NB397_407 := nlt_ (g := gb397) hg; have NB407_397 := ngt_ (g := gb397) hg; have NB398_407 := nlt_ (g := gb398) hg; have NB407_398 := ngt_ (g := gb398) hg; have NB399_407 := nlt_ (g := gb399) hg; have NB407_399 := ngt_ (g := gb399) hg; replace HB := Aside0.mk (below_step bel_ hb); replace BK397 := bb_ (g := gb397) hb; replace BK398 := bb_ (g := gb398) hb; replace BK399 := bb_ (g := gb399) hb; clear hb hbox hg) | ((with_reducible refine gate_dst (N := 7) rfl ?_); refine box_event ?hg (N := 7) ?hd (cs := #[.bool false, .int .u64 0, .int .u64 0]) (t := 28) ?hr ?_; (case hd => rfl); (case hg => rfl); (case hr => first | (go_simp; done) | (go_simp; rfl)); intro gb408 hg w79 hbox hb; have BK408 := Aside0.mk (hbox); have GW408 := bs_ (w := w) hg; have GE408 := bs_ (w := w) hg; have NB397_408 := nlt_ (g := gb397) hg; have NB408_397 := ngt_ (g := gb397) hg; have NB398_408 := nlt_ (g := gb398) hg; have NB408_398 := ngt_ (g := gb398) hg; have NB399_408 := nlt_ (g := gb399) hg; have NB408_399 := ngt_ (g := gb399) hg; have NB407_408 := nlt_ (g := gb407) hg; have NB408_407 := ngt_ (g := gb407) hg; replace HB := Aside0.mk (below_step bel_ hb); replace BK397 := bb_ (g := gb397) hb; replace BK398 := bb_ (g := gb398) hb; replace BK399 := bb_ (g := gb399) hb; replace BK407 := bb_ (g := gb407) hb; clear hb hbox hg; have hnb80 := NB407_397.out; have hnc80 := NB397_407.out; have hnb81 := NB407_398.out; have hnc81 := NB398_407.out; have hnb82 := NB407_399.out; have hnc82 := NB399_407.out; have hnb83 := NB407_408.out; have hnc83 := NB408_407.out; obtain ⟨hcz84_0, hcz84_1, hcz84_2, hfz84_0, hfz84_1, hfz84_2⟩ := cf3_ (w := w79) BK407.out; have hnb85 := NB408_397.out; have hnc85 := NB397_408.out; have hnb86 := NB408_398.out; have hnc86 := NB398_408.out; have hnb87 := NB408_399.out; have hnc87 := NB399_408.out; obtain ⟨hcz88_0, hcz88_1, hcz88_2, hfz88_0, hfz88_1, hfz88_2⟩ := cf3_ (w := w79) BK408.out; obtain ⟨hcz89_0, hcz89_1, hcz89_2, hcz89_3, hfz89_0, hfz89_1, hfz89_2, hfz89_3⟩ := cf4_ (w := w79) BK399.out))
  refine bodyPost_ret (results_ct rfl _ _ gb399 43 #[.bool false, .int .u64 0, .int .u64 0, .int .i64 0] (0, 0) _ rfl (pu_ #[.bool false, .int .u64 0, .int .u64 0, .int .i64 0] 3 (h := (pu_ #[.bool false, .int .u64 0, .int .u64 0, .int .i64 0] 2 (h := (pu_ #[.bool false, .int .u64 0, .int .u64 0, .int .i64 0] 1 (h := (pu_ #[.bool false, .int .u64 0, .int .u64 0, .int .i64 0] 0 (h := bk_)))))))) Tryd.underlying43 rfl (by kernel_rfl)) rfl ?_
  exact ⟨rf_, bel_⟩
/-! ### spec_l5Cross: function 70 -/
def spec_l5Cross.j0 : Nat → Bool → Bool → Int → Int → Int → Bool → Int → Int → Int → Option (Bool × Int × Int × Bool × Int × Int × Bool)
 | 0, _, _, _, _, _, _, _, _, _ => none
 | k + 1, x18, x420000, x420001, x420002, x420003, x421000, x421001, x421002, x421003 => if x18 = true then (some (false, 0, 0, false, 0, 0, false)) else ((spec_ScaleWide.f x420000 x420001 x420002 x421003).bind fun bt425 => ((spec_ScaleWide.f x421000 x421001 x421002 x420003).bind fun bt430 => (if bt425.2.2.2 = true then (some (bt425.1, bt425.2.1, bt425.2.2.1, bt430.1, bt430.2.1, bt430.2.2.1, bt430.2.2.2)) else (some (bt425.1, bt425.2.1, bt425.2.2.1, bt430.1, bt430.2.1, bt430.2.2.1, false)))))
def spec_l5Cross.f (k : Nat) (a0_0 : Bool) (a0_1 : Int) (a0_2 : Int) (a0_3 : Int) (a1_0 : Bool) (a1_1 : Int) (a1_2 : Int) (a1_3 : Int) : Option (Bool × Int × Int × Bool × Int × Int × Bool) := (spec_FracOk.f a0_0 a0_1 a0_2 a0_3).bind fun t423 => (if t423 = true then ((spec_FracOk.f a1_0 a1_1 a1_2 a1_3).bind fun t424 => (spec_l5Cross.j0 k (!t424) a0_0 a0_1 a0_2 a0_3 a1_0 a1_1 a1_2 a1_3)) else (spec_l5Cross.j0 k true a0_0 a0_1 a0_2 a0_3 a1_0 a1_1 a1_2 a1_3))
theorem spec_l5Cross.mono_l : ∀ k, (∀ y0 y1 y2 y3 y4 y5 y6 y7 y8, LeO (spec_l5Cross.j0 k y0 y1 y2 y3 y4 y5 y6 y7 y8) (spec_l5Cross.j0 (k + 1) y0 y1 y2 y3 y4 y5 y6 y7 y8))
 | 0 => fun _ _ _ _ _ _ _ _ _ r h => by simp [spec_l5Cross.j0] at h
 | k + 1 => by
  have ih0 := spec_l5Cross.mono_l k
  ·intro y0 y1 y2 y3 y4 y5 y6 y7 y8
   unfold spec_l5Cross.j0
   repeat' first
   | (with_reducible exact ih0 _ _ _ _ _ _ _ _ _)
   | (with_reducible exact LeO.refl _)
   | (with_reducible exact LeO.none _)
   | (with_reducible refine LeO.ite ?_ ?_)
   | (with_reducible refine LeO.bind ?_ (fun _ => ?_))
   | exact ih0 _ _ _ _ _ _ _ _ _
   | exact LeO.none _
   | refine LeO.ite ?_ ?_
   | refine LeO.bind ?_ (fun _ => ?_)
theorem spec_l5Cross.mono : ∀ a0 a1 a2 a3 a4 a5 a6 a7 k, LeO (spec_l5Cross.f k a0 a1 a2 a3 a4 a5 a6 a7) (spec_l5Cross.f (k + 1) a0 a1 a2 a3 a4 a5 a6 a7) := by
 intro a0 a1 a2 a3 a4 a5 a6 a7 k
 have ih0 := spec_l5Cross.mono_l k
 unfold spec_l5Cross.f
 repeat' first
   | (with_reducible exact ih0 _ _ _ _ _ _ _ _ _)
   | (with_reducible exact LeO.refl _)
   | (with_reducible exact LeO.none _)
   | (with_reducible refine LeO.ite ?_ ?_)
   | (with_reducible refine LeO.bind ?_ (fun _ => ?_))
   | exact ih0 _ _ _ _ _ _ _ _ _
   | exact LeO.none _
   | refine LeO.ite ?_ ?_
   | refine LeO.bind ?_ (fun _ => ?_)
def spec_l5Cross.T5 : Bool × List (List Nat × List Nat) := (true, [([], []), ([], []), ([], []), ([2], [2]), ([3], [3]), ([3, 4], [3, 4]), ([0, 3, 0], [0]), ([1, 6, 0, 1, 6], [1]), ([5, 7, 0, 1, 2, 3, 4, 5, 6, 7], [5])])
def spec_l5Cross.B5 : List Nat := [0, 0, 0, 4, 12, 28, 13, 79, 255]
theorem spec_l5Cross.tab5 : rtab .any (opsOf Tryd.f70 5) = spec_l5Cross.T5 := by kernel_rfl
theorem spec_l5Cross.bits5 : waitsOk spec_l5Cross.T5.2 spec_l5Cross.B5 = true := by kernel_rfl
set_option maxHeartbeats 8000000 in
set_option maxRecDepth 100000 in
theorem spec_l5Cross.calls (k : Nat) (a0_0 : Bool) (a0_1 : Int) (a0_2 : Int) (a0_3 : Int) (a1_0 : Bool) (a1_1 : Int) (a1_2 : Int) (a1_3 : Int) (r1 : Bool) (r2 : Int) (r3 : Int) (r4 : Bool) (r5 : Int) (r6 : Int) (r7 : Bool) (w : World) (h : spec_l5Cross.f k a0_0 a0_1 a0_2 a0_3 a1_0 a1_1 a1_2 a1_3 = some (r1, r2, r3, r4, r5, r6, r7)) :
  Calls Tryd.prog 70 #[.agg #[.bool a0_0, .int .u64 a0_1, .int .u64 a0_2, .int .i64 a0_3], .agg #[.bool a1_0, .int .u64 a1_1, .int .u64 a1_2, .int .i64 a1_3]] w fun e w' => e = .returned (.tuple #[.agg #[.bool r1, .int .u64 r2, .int .u64 r3], .agg #[.bool r4, .int .u64 r5, .int .u64 r6], .bool r7]) ∧ Below w.heap.size w w' := by
 have hu43 := Tryd.underlying43
 have hu28 := Tryd.underlying28
 have HB := Aside0.mk (Below.refl w.heap.size w)
 have H : ((spec_FracOk.f a0_0 a0_1 a0_2 a0_3).bind fun t423 => (if t423 = true then ((spec_FracOk.f a1_0 a1_1 a1_2 a1_3).bind fun t424 => (spec_l5Cross.j0 k (!t424) a0_0 a0_1 a0_2 a0_3 a1_0 a1_1 a1_2 a1_3)) else (spec_l5Cross.j0 k true a0_0 a0_1 a0_2 a0_3 a1_0 a1_1 a1_2 a1_3))) = some (r1, r2, r3, r4, r5, r6, r7) := h
 clear h
 have HC3 := Aside0.mk H
 clear H
 go_enter Tryd.func70, Tryd.ntmps70
 go_upto_region 1 with (first | ((with_reducible refine gate_dst (N := 2) rfl ?_); refine box_event ?hg (N := 2) ?hd (cs := #[.bool a0_0, .int .u64 a0_1, .int .u64 a0_2, .int .i64 a0_3]) (t := 43) ?hr ?_; (case hd => rfl); (case hg => rfl); (case hr => first | (go_simp; done) | (go_simp; rfl)); intro gb419 hg w4 hbox hb; have BK419 := Aside0.mk (hbox); have GW419 := bs_ (w := w) hg; have GE419 := bs_ (w := w) hg; replace HB := Aside0.mk (below_step bel_ hb); clear hb hbox hg) | ((with_reducible refine gate_dst (N := 3) rfl ?_); refine box_event ?hg (N := 3) ?hd (cs := #[.bool a1_0, .int .u64 a1_1, .int .u64 a1_2, .int .i64 a1_3]) (t := 43) ?hr ?_; (case hd => rfl); (case hg => rfl); (case hr => first | (go_simp; done) | (go_simp; rfl)); intro gb420 hg w5 hbox hb; have BK420 := Aside0.mk (hbox); have GW420 := bs_ (w := w) hg; have GE420 := bs_ (w := w) hg; have NB419_420 := nlt_ (g := gb419) hg; have NB420_419 := ngt_ (g := gb419) hg; replace HB := Aside0.mk (below_step bel_ hb); replace BK419 := bb_ (g := gb419) hb; clear hb hbox hg) | ((with_reducible refine gate_dst (N := 4) rfl ?_); refine box_event ?hg (N := 4) ?hd (cs := #[.bool false, .int .u64 0, .int .u64 0]) (t := 28) ?hr ?_; (case hd => rfl); (case hg => rfl); (case hr => first | (go_simp; done) | (go_simp; rfl)); intro gb421 hg w6 hbox hb; have BK421 := Aside0.mk (hbox); have GW421 := bs_ (w := w) hg; have GE421 := bs_ (w := w) hg; have NB419_421 := nlt_ (g := gb419) hg; have NB421_419 := ngt_ (g := gb419) hg; have NB420_421 := nlt_ (g := gb420) hg; have NB421_420 := ngt_ (g := gb420) hg; replace HB := Aside0.mk (below_step bel_ hb); replace BK419 := bb_ (g := gb419) hb; replace BK420 := bb_ (g := gb420) hb; clear hb hbox hg) | ((with_reducible refine gate_dst (N := 5) rfl ?_); refine box_event ?hg (N := 5) ?hd (cs := #[.bool false, .int .u64 0, .int .u64 0]) (t := 28) ?hr ?_; (case hd => rfl); (case hg => rfl); (case hr => first | (go_simp; done) | (go_simp; rfl)); intro gb422 hg w7 hbox hb; have BK422 := Aside0.mk (hbox); have GW422 := bs_ (w := w) hg; have GE422 := bs_ (w := w) hg; have NB419_422 := nlt_ (g := gb419) hg; have NB422_419 := ngt_ (g := gb419) hg; have NB420_422 := nlt_ (g := gb420) hg; have NB422_420 := ngt_ (g := gb420) hg; have NB421_422 := nlt_ (g := gb421) hg; have NB422_421 := ngt_ (g := gb421) hg; replace HB := Aside0.mk (below_step bel_ hb); replace BK419 := bb_ (g := gb419) hb; replace BK420 := bb_ (g := gb420) hb; replace BK421 := bb_ (g := gb421) hb; clear hb hbox hg))
 (try simp only [Act.put, la_, lb_, lc_])
 go_cut [18] (fun v18 wc => ∃ (kq : Nat) (x18_2 : Bool), v18 = .bool x18_2 ∧ Aside0 (spec_l5Cross.j0 kq x18_2 a0_0 a0_1 a0_2 a0_3 a1_0 a1_1 a1_2 a1_3 = some (r1, r2, r3, r4, r5, r6, r7)) ∧ Aside0 (kq ≤ k) ∧ Aside0 (wc.heap[gb419]? = some (.cells #[.bool a0_0, .int .u64 a0_1, .int .u64 a0_2, .int .i64 a0_3] 43 (0, 0))) ∧ Aside0 (wc.heap[gb420]? = some (.cells #[.bool a1_0, .int .u64 a1_1, .int .u64 a1_2, .int .i64 a1_3] 43 (0, 0))) ∧ Aside0 (wc.heap[gb421]? = some (.cells #[.bool false, .int .u64 0, .int .u64 0] 28 (0, 0))) ∧ Aside0 (wc.heap[gb422]? = some (.cells #[.bool false, .int .u64 0, .int .u64 0] 28 (0, 0))) ∧ Aside0 (Below w.heap.size w wc))
 case first =>
  have H := HC3.out
  clear HC3
  replace H := Option.bind_eq_some_iff.mp H
  obtain ⟨t423, A80, H⟩ := H
  replace H : (if t423 = true then ((spec_FracOk.f a1_0 a1_1 a1_2 a1_3).bind fun t424 => (spec_l5Cross.j0 k (!t424) a0_0 a0_1 a0_2 a0_3 a1_0 a1_1 a1_2 a1_3)) else (spec_l5Cross.j0 k true a0_0 a0_1 a0_2 a0_3 a1_0 a1_1 a1_2 a1_3)) = some (r1, r2, r3, r4, r5, r6, r7) := H
  have A8 := Aside0.mk A80
  clear A80
  by_cases c9 : t423 = true
  ·subst c9
   have H1 : ((spec_FracOk.f a1_0 a1_1 a1_2 a1_3).bind fun t424 => (spec_l5Cross.j0 k (!t424) a0_0 a0_1 a0_2 a0_3 a1_0 a1_1 a1_2 a1_3)) = some (r1, r2, r3, r4, r5, r6, r7) := by rw [if_pos rfl] at H; exact H
   clear H
   have H := H1
   clear H1
   replace H := Option.bind_eq_some_iff.mp H
   obtain ⟨t424, A100, H⟩ := H
   replace H : (spec_l5Cross.j0 k (!t424) a0_0 a0_1 a0_2 a0_3 a1_0 a1_1 a1_2 a1_3) = some (r1, r2, r3, r4, r5, r6, r7) := H
   have A10 := Aside0.mk A100
   clear A100
   have H' := Aside0.mk H
   clear H
   have hnb11 := NB419_420.out
   have hnc11 := NB420_419.out
   have hnb12 := NB419_421.out
   have hnc12 := NB421_419.out
   have hnb13 := NB419_422.out
   have hnc13 := NB422_419.out
   obtain ⟨hcz14_0, hcz14_1, hcz14_2, hcz14_3, hfz14_0, hfz14_1, hfz14_2, hfz14_3⟩ := cf4_ (w := w7) BK419.out
   go_wp2_with (first | ((with_reducible refine gate_callee (f := 71) rfl ?_); refine goesL_ (some 12) rfl rfl Tryd.func71 (by kernel_rfl) rfl #[.agg #[.bool a0_0, .int .u64 a0_1, .int .u64 a0_2, .int .i64 a0_3]] rfl mp_ ?_; (with_reducible refine (spec_FracOk.calls a0_0 a0_1 a0_2 a0_3 true _ A8.out).mono ?_); rintro e w15 ⟨rfl, hb⟩; refine ⟨_, rfl, ?_⟩; replace HB := Aside0.mk (below_step bel_ hb); replace BK419 := bb_ (g := gb419) hb; replace BK420 := bb_ (g := gb420) hb; replace BK421 := bb_ (g := gb421) hb; replace BK422 := bb_ (g := gb422) hb; (try clear hb); (try clear hb2); (try clear hk); (try clear hi); have hnb16 := NB420_421.out; have hnc16 := NB421_420.out; have hnb17 := NB420_422.out; have hnc17 := NB422_420.out; obtain ⟨hcz18_0, hcz18_1, hcz18_2, hcz18_3, hfz18_0, hfz18_1, hfz18_2, hfz18_3⟩ := cf4_ (w := w15) BK420.out) | (go_at_call 71; (with_reducible refine (spec_FracOk.calls a1_0 a1_1 a1_2 a1_3 t424 _ A10.out).mono ?_); rintro e w19 ⟨rfl, hb⟩; replace HB := Aside0.mk (below_step bel_ hb); replace BK419 := bb_ (g := gb419) hb; replace BK420 := bb_ (g := gb420) hb; replace BK421 := bb_ (g := gb421) hb; replace BK422 := bb_ (g := gb422) hb; (try clear hb); (try clear hb2); (try clear hk); (try clear hi)))
   go_meet
   case rel => exact ⟨_, (!t424), (by first | rfl | (simp; done) | (simp [*]; done)), H', ⟨by first | omega | exact Nat.le_refl _⟩, ⟨by (with_reducible repeat (first | refine bN_ _ ?_ | refine bd_ ?_ | refine ba_ _ ?_)); exact BK419.out⟩, ⟨by (with_reducible repeat (first | refine bN_ _ ?_ | refine bd_ ?_ | refine ba_ _ ?_)); exact BK420.out⟩, ⟨by (with_reducible repeat (first | refine bN_ _ ?_ | refine bd_ ?_ | refine ba_ _ ?_)); exact BK421.out⟩, ⟨by (with_reducible repeat (first | refine bN_ _ ?_ | refine bd_ ?_ | refine ba_ _ ?_)); exact BK422.out⟩, ⟨bel_⟩⟩
  ·replace c9 := Bool.eq_false_iff.mpr c9
   subst c9
   have H1 : (spec_l5Cross.j0 k true a0_0 a0_1 a0_2 a0_3 a1_0 a1_1 a1_2 a1_3) = some (r1, r2, r3, r4, r5, r6, r7) := by rw [if_neg (show ¬ (false = true) by decide)] at H; exact H
   clear H
   have H := H1
   clear H1
   have H' := Aside0.mk H
   clear H
   have hnb20 := NB419_420.out
   have hnc20 := NB420_419.out
   have hnb21 := NB419_421.out
   have hnc21 := NB421_419.out
   have hnb22 := NB419_422.out
   have hnc22 := NB422_419.out
   obtain ⟨hcz23_0, hcz23_1, hcz23_2, hcz23_3, hfz23_0, hfz23_1, hfz23_2, hfz23_3⟩ := cf4_ (w := w7) BK419.out
   go_wp2_with (first | ((with_reducible refine gate_callee (f := 71) rfl ?_); refine goesL_ (some 12) rfl rfl Tryd.func71 (by kernel_rfl) rfl #[.agg #[.bool a0_0, .int .u64 a0_1, .int .u64 a0_2, .int .i64 a0_3]] rfl mp_ ?_; (with_reducible refine (spec_FracOk.calls a0_0 a0_1 a0_2 a0_3 false _ A8.out).mono ?_); rintro e w24 ⟨rfl, hb⟩; refine ⟨_, rfl, ?_⟩; replace HB := Aside0.mk (below_step bel_ hb); replace BK419 := bb_ (g := gb419) hb; replace BK420 := bb_ (g := gb420) hb; replace BK421 := bb_ (g := gb421) hb; replace BK422 := bb_ (g := gb422) hb; (try clear hb); (try clear hb2); (try clear hk); (try clear hi)))
   go_meet
   case rel => exact ⟨_, (true), (by first | rfl | (simp; done) | (simp [*]; done)), H', ⟨by first | omega | exact Nat.le_refl _⟩, ⟨by (with_reducible repeat (first | refine bN_ _ ?_ | refine bd_ ?_ | refine ba_ _ ?_)); exact BK419.out⟩, ⟨by (with_reducible repeat (first | refine bN_ _ ?_ | refine bd_ ?_ | refine ba_ _ ?_)); exact BK420.out⟩, ⟨by (with_reducible repeat (first | refine bN_ _ ?_ | refine bd_ ?_ | refine ba_ _ ?_)); exact BK421.out⟩, ⟨by (with_reducible repeat (first | refine bN_ _ ?_ | refine bd_ ?_ | refine ba_ _ ?_)); exact BK422.out⟩, ⟨bel_⟩⟩
 case rest =>
  clear HC3
  try clear c1
  try clear c2
  try clear p2
  try clear c7
  try clear c9
  try clear c11
  try clear c12
  try clear c13
  try clear c16
  try clear c17
  try clear c20
  try clear c21
  try clear c22
  try clear hcz14_0
  try clear hcz14_1
  try clear hcz14_2
  try clear hcz14_3
  try clear hcz18_0
  try clear hcz18_1
  try clear hcz18_2
  try clear hcz18_3
  try clear hcz23_0
  try clear hcz23_1
  try clear hcz23_2
  try clear hcz23_3
  try clear hfz14_0
  try clear hfz14_1
  try clear hfz14_2
  try clear hfz14_3
  try clear hfz18_0
  try clear hfz18_1
  try clear hfz18_2
  try clear hfz18_3
  try clear hfz23_0
  try clear hfz23_1
  try clear hfz23_2
  try clear hfz23_3
  obtain ⟨kq, x18_2, rfl, HA, HJ2, BK419, BK420, BK421, BK422, HB⟩ := hcut
  cases kq with
  | zero => exact absurd HA.out (by simp [spec_l5Cross.j0])
  | succ kj2 =>
   have H := HA.out
   clear HA
   simp only [spec_l5Cross.j0] at H
   by_cases c25 : x18_2 = true
   ·subst c25
    have H1 : (some (false, 0, 0, false, 0, 0, false)) = some (r1, r2, r3, r4, r5, r6, r7) := by rw [if_pos rfl] at H; exact H
    clear H
    have H := H1
    clear H1
    simp only [Option.some.injEq, Prod.mk.injEq] at H
    obtain ⟨rfl, rfl, rfl, rfl, rfl, rfl, rfl⟩ := H
    have hnb26 := NB421_419.out
    have hnc26 := NB419_421.out
    have hnb27 := NB421_420.out
    have hnc27 := NB420_421.out
    have hnb28 := NB421_422.out
    have hnc28 := NB422_421.out
    obtain ⟨hcz29_0, hcz29_1, hcz29_2, hfz29_0, hfz29_1, hfz29_2⟩ := cf3_ (w := wc) BK421.out
    have hnb30 := NB422_419.out
    have hnc30 := NB419_422.out
    have hnb31 := NB422_420.out
    have hnc31 := NB420_422.out
    obtain ⟨hcz32_0, hcz32_1, hcz32_2, hfz32_0, hfz32_1, hfz32_2⟩ := cf3_ (w := wc) BK422.out
    go_wp2
    refine bodyPost_ret (results_list (rs := [.cell 4 28, .cell 5 28, .tmp 6]) rfl (by simp) (.cell gb421 28 #[.bool false, .int .u64 0, .int .u64 0] (0, 0) _ rfl (pu_ #[.bool false, .int .u64 0, .int .u64 0] 2 (h := (pu_ #[.bool false, .int .u64 0, .int .u64 0] 1 (h := (pu_ #[.bool false, .int .u64 0, .int .u64 0] 0 (h := bk_)))))) Tryd.underlying28 rfl (by kernel_rfl) (.cell gb422 28 #[.bool false, .int .u64 0, .int .u64 0] (0, 0) _ rfl (pu_ #[.bool false, .int .u64 0, .int .u64 0] 2 (h := (pu_ #[.bool false, .int .u64 0, .int .u64 0] 1 (h := (pu_ #[.bool false, .int .u64 0, .int .u64 0] 0 (h := bk_)))))) Tryd.underlying28 rfl (by kernel_rfl) (.tmp .nil)))) rfl ?_
    exact ⟨rf_, bel_⟩
   ·replace c25 := Bool.eq_false_iff.mpr c25
    subst c25
    have H1 : ((spec_ScaleWide.f a0_0 a0_1 a0_2 a1_3).bind fun bt425 => ((spec_ScaleWide.f a1_0 a1_1 a1_2 a0_3).bind fun bt430 => (if bt425.2.2.2 = true then (some (bt425.1, bt425.2.1, bt425.2.2.1, bt430.1, bt430.2.1, bt430.2.2.1, bt430.2.2.2)) else (some (bt425.1, bt425.2.1, bt425.2.2.1, bt430.1, bt430.2.1, bt430.2.2.1, false))))) = some (r1, r2, r3, r4, r5, r6, r7) := by rw [if_neg (show ¬ (false = true) by decide)] at H; exact H
    clear H
    have H := H1
    clear H1
    replace H := Option.bind_eq_some_iff.mp H
    obtain ⟨⟨t425, t426, t427, t428⟩, A330, H⟩ := H
    replace H : ((spec_ScaleWide.f a1_0 a1_1 a1_2 a0_3).bind fun bt430 => (if t428 = true then (some (t425, t426, t427, bt430.1, bt430.2.1, bt430.2.2.1, bt430.2.2.2)) else (some (t425, t426, t427, bt430.1, bt430.2.1, bt430.2.2.1, false)))) = some (r1, r2, r3, r4, r5, r6, r7) := H
    have A33 := Aside0.mk A330
    clear A330
    replace H := Option.bind_eq_some_iff.mp H
    obtain ⟨⟨t430, t431, t432, t433⟩, A340, H⟩ := H
    replace H : (if t428 = true then (some (t425, t426, t427, t430, t431, t432, t433)) else (some (t425, t426, t427, t430, t431, t432, false))) = some (r1, r2, r3, r4, r5, r6, r7) := H
    have A34 := Aside0.mk A340
    clear A340
    by_cases c35 : t428 = true
    ·subst c35
     have H1 : (some (t425, t426, t427, t430, t431, t432, t433)) = some (r1, r2, r3, r4, r5, r6, r7) := by rw [if_pos rfl] at H; exact H
     clear H
     have H := H1
     clear H1
     simp only [Option.some.injEq, Prod.mk.injEq] at H
     obtain ⟨rfl, rfl, rfl, rfl, rfl, rfl, rfl⟩ := H
     have hnb36 := NB419_420.out
     have hnc36 := NB420_419.out
     have hnb37 := NB419_421.out
     have hnc37 := NB421_419.out
     have hnb38 := NB419_422.out
     have hnc38 := NB422_419.out
     obtain ⟨hcz39_0, hcz39_1, hcz39_2, hcz39_3, hfz39_0, hfz39_1, hfz39_2, hfz39_3⟩ := cf4_ (w := wc) BK419.out
     have hnb40 := NB420_421.out
     have hnc40 := NB421_420.out
     have hnb41 := NB420_422.out
     have hnc41 := NB422_420.out
     obtain ⟨hcz42_0, hcz42_1, hcz42_2, hcz42_3, hfz42_0, hfz42_1, hfz42_2, hfz42_3⟩ := cf4_ (w := wc) BK420.out
     try go_wp2_with (first | ((with_reducible refine gate_callee (f := 58) rfl ?_); refine goesL_ (some 26) rfl rfl Tryd.func58 (by kernel_rfl) rfl #[.agg #[.bool a0_0, .int .u64 a0_1, .int .u64 a0_2], .int .i64 a1_3] rfl mp_ ?_; (with_reducible refine (spec_ScaleWide.calls a0_0 a0_1 a0_2 a1_3 t425 t426 t427 true _ A33.out).mono ?_); rintro e w43 ⟨rfl, hb⟩; refine ⟨_, rfl, ?_⟩; replace HB := Aside0.mk (below_step bel_ hb); replace BK419 := bb_ (g := gb419) hb; replace BK420 := bb_ (g := gb420) hb; replace BK421 := bb_ (g := gb421) hb; replace BK422 := bb_ (g := gb422) hb; (try clear hb); (try clear hb2); (try clear hk); (try clear hi)) | ((with_reducible refine gate_dst (N := 7) rfl ?_); refine box_event ?hg (N := 7) ?hd (cs := #[.bool false, .int .u64 0, .int .u64 0]) (t := 28) ?hr ?_; (case hd => rfl); (case hg => rfl); (case hr => first | (go_simp; done) | (go_simp; rfl)); intro gb429 hg w44 hbox hb; have BK429 := Aside0.mk (hbox); have GW429 := bs_ (w := w) hg; have GE429 := bs_ (w := w) hg; have NB419_429 := nlt_ (g := gb419) hg; have NB429_419 := ngt_ (g := gb419) hg; have NB420_429 := nlt_ (g := gb420) hg; have NB429_420 := ngt_ (g := gb420) hg; have NB421_429 := nlt_ (g := gb421) hg; have NB429_421 := ngt_ (g := gb421) hg; have NB422_429 := nlt_ (g := gb422) hg; have NB429_422 := ngt_ (g := gb422) hg; replace HB := Aside0.mk (below_step bel_ hb); replace BK419 := bb_ (g := gb419) hb; replace BK420 := bb_ (g := gb420) hb; replace BK421 := bb_ (g := gb421) hb; replace BK422 := bb_ (g := gb422) hb; clear hb hbox hg; have hnb45 := NB429_419.out; have hnc45 := NB419_429.out; have hnb46 := NB429_420.out; have hnc46 := NB420_429.out; have hnb47 := NB429_421.out; have hnc47 := NB421_429.out; have hnb48 := NB429_422.out; have hnc48 := NB422_429.out; obtain ⟨hcz49_0, hcz49_1, hcz49_2, hfz49_0, hfz49_1, hfz49_2⟩ := cf3_ (w := w44) BK429.out; obtain ⟨hcz50_0, hcz50_1, hcz50_2, hcz50_3, hfz50_0, hfz50_1, hfz50_2, hfz50_3⟩ := cf4_ (w := w44) BK420.out; obtain ⟨hcz51_0, hcz51_1, hcz51_2, hcz51_3, hfz51_0, hfz51_1, hfz51_2, hfz51_3⟩ := cf4_ (w := w44) BK419.out) | ((with_reducible refine gate_callee (f := 58) rfl ?_); refine goesL_ (some 34) rfl rfl Tryd.func58 (by kernel_rfl) rfl #[.agg #[.bool a1_0, .int .u64 a1_1, .int .u64 a1_2], .int .i64 a0_3] rfl mp_ ?_; (with_reducible refine (spec_ScaleWide.calls a1_0 a1_1 a1_2 a0_3 t430 t431 t432 t433 _ A34.out).mono ?_); rintro e w52 ⟨rfl, hb⟩; refine ⟨_, rfl, ?_⟩; replace HB := Aside0.mk (below_step bel_ hb); replace BK419 := Aside0.mk (blk_below (g := gb419) (o := .cells #[.bool a0_0, .int .u64 a0_1, .int .u64 a0_2, .int .i64 a0_3] 43 (0, 0)) bk_ hb); replace BK420 := Aside0.mk (blk_below (g := gb420) (o := .cells #[.bool a1_0, .int .u64 a1_1, .int .u64 a1_2, .int .i64 a1_3] 43 (0, 0)) bk_ hb); replace BK421 := Aside0.mk (blk_below (g := gb421) (o := .cells #[.bool false, .int .u64 0, .int .u64 0] 28 (0, 0)) bk_ hb); replace BK422 := Aside0.mk (blk_below (g := gb422) (o := .cells #[.bool false, .int .u64 0, .int .u64 0] 28 (0, 0)) bk_ hb); replace BK429 := Aside0.mk (blk_below (g := gb429) (o := .cells #[.bool t425, .int .u64 t426, .int .u64 t427] 28 (0, 0)) (pu_ #[.bool t425, .int .u64 t426, .int .u64 0] 2 (h := (pu_ #[.bool t425, .int .u64 0, .int .u64 0] 1 (h := (pu_ #[.bool false, .int .u64 0, .int .u64 0] 0 (h := bk_)))))) hb); (try clear hb); (try clear hb2); (try clear hk); (try clear hi)) | ((with_reducible refine gate_dst (N := 9) rfl ?_); refine box_event ?hg (N := 9) ?hd (cs := #[.bool false, .int .u64 0, .int .u64 0]) (t := 28) ?hr ?_; (case hd => rfl); (case hg => rfl); (case hr => first | (go_simp; done) | (go_simp; rfl)); intro gb434 hg w53 hbox hb; have BK434 := Aside0.mk (hbox); have GW434 := bs_ (w := w) hg; have GE434 := bs_ (w := w) hg; have NB419_434 := nlt_ (g := gb419) hg; have NB434_419 := ngt_ (g := gb419) hg; have NB420_434 := nlt_ (g := gb420) hg; have NB434_420 := ngt_ (g := gb420) hg; have NB421_434 := nlt_ (g := gb421) hg; have NB434_421 := ngt_ (g := gb421) hg; have NB422_434 := nlt_ (g := gb422) hg; have NB434_422 := ngt_ (g := gb422) hg; have NB429_434 := nlt_ (g := gb429) hg; have NB434_429 := ngt_ (g := gb429) hg; replace HB := Aside0.mk (below_step bel_ hb); replace BK419 := bb_ (g := gb419) hb; replace BK420 := bb_ (g := gb420) hb; replace BK421 := bb_ (g := gb421) hb; replace BK422 := bb_ (g := gb422) hb; replace BK429 := bb_ (g := gb429) hb; clear hb hbox hg; have hnb54 := NB434_419.out; have hnc54 := NB419_434.out; have hnb55 := NB434_420.out; have hnc55 := NB420_434.out; have hnb56 := NB434_421.out; have hnc56 := NB421_434.out; have hnb57 := NB434_422.out; have hnc57 := NB422_434.out; have hnb58 := NB434_429.out; have hnc58 := NB429_434.out; obtain ⟨hcz59_0, hcz59_1, hcz59_2, hfz59_0, hfz59_1, hfz59_2⟩ := cf3_ (w := w53) BK434.out))
     have n0_ : Aside0 ((((w53.setCell ⟨gb434, 0, none⟩ (.bool t430)).setCell ⟨gb434, 1, none⟩ (.int .u64 t431)).setCell ⟨gb434, 2, none⟩ (.int .u64 t432)).heap[gb419]? = some (.cells #[.bool a0_0, .int .u64 a0_1, .int .u64 a0_2, .int .i64 a0_3] 43 (0, 0))) := ⟨by (with_reducible repeat (first | refine bN_ _ ?_ | refine bd_ ?_ | refine ba_ _ ?_)); refine blk_far ?_ NB419_434.out _; (with_reducible repeat (first | refine bN_ _ ?_ | refine bd_ ?_ | refine ba_ _ ?_)); refine blk_far ?_ NB419_434.out _; (with_reducible repeat (first | refine bN_ _ ?_ | refine bd_ ?_ | refine ba_ _ ?_)); refine blk_far ?_ NB419_434.out _; (with_reducible repeat (first | refine bN_ _ ?_ | refine bd_ ?_ | refine ba_ _ ?_)); exact BK419.out⟩
     have n1_ : Aside0 ((((w53.setCell ⟨gb434, 0, none⟩ (.bool t430)).setCell ⟨gb434, 1, none⟩ (.int .u64 t431)).setCell ⟨gb434, 2, none⟩ (.int .u64 t432)).heap[gb420]? = some (.cells #[.bool a1_0, .int .u64 a1_1, .int .u64 a1_2, .int .i64 a1_3] 43 (0, 0))) := ⟨by (with_reducible repeat (first | refine bN_ _ ?_ | refine bd_ ?_ | refine ba_ _ ?_)); refine blk_far ?_ NB420_434.out _; (with_reducible repeat (first | refine bN_ _ ?_ | refine bd_ ?_ | refine ba_ _ ?_)); refine blk_far ?_ NB420_434.out _; (with_reducible repeat (first | refine bN_ _ ?_ | refine bd_ ?_ | refine ba_ _ ?_)); refine blk_far ?_ NB420_434.out _; (with_reducible repeat (first | refine bN_ _ ?_ | refine bd_ ?_ | refine ba_ _ ?_)); exact BK420.out⟩
     have n2_ : Aside0 ((((w53.setCell ⟨gb434, 0, none⟩ (.bool t430)).setCell ⟨gb434, 1, none⟩ (.int .u64 t431)).setCell ⟨gb434, 2, none⟩ (.int .u64 t432)).heap[gb421]? = some (.cells #[.bool false, .int .u64 0, .int .u64 0] 28 (0, 0))) := ⟨by (with_reducible repeat (first | refine bN_ _ ?_ | refine bd_ ?_ | refine ba_ _ ?_)); refine blk_far ?_ NB421_434.out _; (with_reducible repeat (first | refine bN_ _ ?_ | refine bd_ ?_ | refine ba_ _ ?_)); refine blk_far ?_ NB421_434.out _; (with_reducible repeat (first | refine bN_ _ ?_ | refine bd_ ?_ | refine ba_ _ ?_)); refine blk_far ?_ NB421_434.out _; (with_reducible repeat (first | refine bN_ _ ?_ | refine bd_ ?_ | refine ba_ _ ?_)); exact BK421.out⟩
     have n3_ : Aside0 ((((w53.setCell ⟨gb434, 0, none⟩ (.bool t430)).setCell ⟨gb434, 1, none⟩ (.int .u64 t431)).setCell ⟨gb434, 2, none⟩ (.int .u64 t432)).heap[gb422]? = some (.cells #[.bool false, .int .u64 0, .int .u64 0] 28 (0, 0))) := ⟨by (with_reducible repeat (first | refine bN_ _ ?_ | refine bd_ ?_ | refine ba_ _ ?_)); refine blk_far ?_ NB422_434.out _; (with_reducible repeat (first | refine bN_ _ ?_ | refine bd_ ?_ | refine ba_ _ ?_)); refine blk_far ?_ NB422_434.out _; (with_reducible repeat (first | refine bN_ _ ?_ | refine bd_ ?_ | refine ba_ _ ?_)); refine blk_far ?_ NB422_434.out _; (with_reducible repeat (first | refine bN_ _ ?_ | refine bd_ ?_ | refine ba_ _ ?_)); exact BK422.out⟩
     have n4_ : Aside0 ((((w53.setCell ⟨gb434, 0, none⟩ (.bool t430)).setCell ⟨gb434, 1, none⟩ (.int .u64 t431)).setCell ⟨gb434, 2, none⟩ (.int .u64 t432)).heap[gb429]? = some (.cells #[.bool t425, .int .u64 t426, .int .u64 t427] 28 (0, 0))) := ⟨by (with_reducible repeat (first | refine bN_ _ ?_ | refine bd_ ?_ | refine ba_ _ ?_)); refine blk_far ?_ NB429_434.out _; (with_reducible repeat (first | refine bN_ _ ?_ | refine bd_ ?_ | refine ba_ _ ?_)); refine blk_far ?_ NB429_434.out _; (with_reducible repeat (first | refine bN_ _ ?_ | refine bd_ ?_ | refine ba_ _ ?_)); refine blk_far ?_ NB429_434.out _; (with_reducible repeat (first | refine bN_ _ ?_ | refine bd_ ?_ | refine ba_ _ ?_)); exact BK429.out⟩
     have n5_ : Aside0 ((((w53.setCell ⟨gb434, 0, none⟩ (.bool t430)).setCell ⟨gb434, 1, none⟩ (.int .u64 t431)).setCell ⟨gb434, 2, none⟩ (.int .u64 t432)).heap[gb434]? = some (.cells #[.bool t430, .int .u64 t431, .int .u64 t432] 28 (0, 0))) := ⟨by (with_reducible repeat (first | refine bN_ _ ?_ | refine bd_ ?_ | refine ba_ _ ?_)); refine blk_put (cs := #[.bool t430, .int .u64 t431, .int .u64 0]) ?_ 2 _ rfl; (with_reducible repeat (first | refine bN_ _ ?_ | refine bd_ ?_ | refine ba_ _ ?_)); refine blk_put (cs := #[.bool t430, .int .u64 0, .int .u64 0]) ?_ 1 _ rfl; (with_reducible repeat (first | refine bN_ _ ?_ | refine bd_ ?_ | refine ba_ _ ?_)); refine blk_put (cs := #[.bool false, .int .u64 0, .int .u64 0]) ?_ 0 _ rfl; (with_reducible repeat (first | refine bN_ _ ?_ | refine bd_ ?_ | refine ba_ _ ?_)); exact BK434.out⟩
     have n6_ : Aside0 (Below w.heap.size w (((w53.setCell ⟨gb434, 0, none⟩ (.bool t430)).setCell ⟨gb434, 1, none⟩ (.int .u64 t431)).setCell ⟨gb434, 2, none⟩ (.int .u64 t432))) := ⟨bel_⟩
     (try clear BK419)
     (try clear BK420)
     (try clear BK421)
     (try clear BK422)
     (try clear BK429)
     (try clear BK434)
     (try clear HB)
     generalize (((w53.setCell ⟨gb434, 0, none⟩ (.bool t430)).setCell ⟨gb434, 1, none⟩ (.int .u64 t431)).setCell ⟨gb434, 2, none⟩ (.int .u64 t432)) = w60 at n0_ n1_ n2_ n3_ n4_ n5_ n6_ ⊢
     have BK419 := n0_
     have BK420 := n1_
     have BK421 := n2_
     have BK422 := n3_
     have BK429 := n4_
     have BK434 := n5_
     have HB := n6_
     clear n0_ n1_ n2_ n3_ n4_ n5_ n6_
     replace HB := Aside0.mk (below_drew1 HB.out)
     replace BK419 := Aside0.mk (blk_drew BK419.out)
     replace BK420 := Aside0.mk (blk_drew BK420.out)
     replace BK421 := Aside0.mk (blk_drew BK421.out)
     replace BK422 := Aside0.mk (blk_drew BK422.out)
     replace BK429 := Aside0.mk (blk_drew BK429.out)
     replace BK434 := Aside0.mk (blk_drew BK434.out)
     refine start_ (n := 9) (S := fun w' => w'.cell? ⟨gb429, 0, none⟩ = some (.bool t425) ∧ w'.cell? ⟨gb429, 1, none⟩ = some (.int .u64 t426) ∧ w'.cell? ⟨gb429, 2, none⟩ = some (.int .u64 t427) ∧ w'.cell? ⟨gb434, 0, none⟩ = some (.bool t430) ∧ w'.cell? ⟨gb434, 1, none⟩ = some (.int .u64 t431) ∧ w'.cell? ⟨gb434, 2, none⟩ = some (.int .u64 t432)) (ds := []) #[false, false, false, false, false, false, false, false, false] (by kernel_rfl) rfl rfl ⟨bc_, bc_, bc_, bc_, bc_, bc_⟩ (fun hHeld => ?_); refine with_tabW spec_l5Cross.tab5 spec_l5Cross.bits5 (fun HT_ HW_ => ?_)
     generalize w60.drew = w61 at BK419 BK420 BK421 BK422 BK429 BK434 HB hHeld ⊢
     refine pure_ (i := 2) (N := some 39) (v := ?_) (a' := ?_) #[false, false, true, false, false, false, false, false, false] rfl rfl (any_of HT_.out (by kernel_rfl)) (fun _ _ _ h => h) (Or.inl ⟨by rfl, ?_⟩) ?_ ?_
     rotate_left
     ·intro w'
      go_simp
      with_reducible rfl
     rotate_left
     ·simp only [Act.put, la_, lb_, lc_, i64_w, i32_w]
      rfl
     refine pure_ (i := 3) (N := some 40) (v := ?_) (a' := ?_) #[false, false, true, true, false, false, false, false, false] rfl rfl (any_of HT_.out (by kernel_rfl)) (fun _ _ _ h => h) (Or.inl ⟨by rfl, ?_⟩) ?_ ?_
     rotate_left
     ·intro w'
      go_simp
      with_reducible rfl
     rotate_left
     ·simp only [Act.put, la_, lb_, lc_, i64_w, i32_w]
      rfl
     refine pure_ (i := 4) (N := some 41) (v := ?_) (a' := ?_) #[false, false, true, true, true, false, false, false, false] rfl rfl (any_of HT_.out (by kernel_rfl)) (fun _ _ _ h => h) (Or.inl ⟨by rfl, ?_⟩) ?_ ?_
     rotate_left
     ·intro w'
      go_simp
      with_reducible rfl
     rotate_left
     ·simp only [Act.put, la_, lb_, lc_, i64_w, i32_w]
      rfl
     refine pure_ (i := 5) (N := some 42) (v := ?_) (a' := ?_) #[false, false, true, true, true, true, false, false, false] rfl rfl (any_of HT_.out (by kernel_rfl)) (fun _ _ _ h => h) (Or.inl ⟨by rfl, ?_⟩) ?_ ?_
     rotate_left
     ·intro w'
      go_simp
      with_reducible rfl
     rotate_left
     ·simp only [Act.put, la_, lb_, lc_, i64_w, i32_w]
      rfl
     refine take_ (i := 0) (N := some 37) (v := ?_) (a' := ?_) #[true, false, true, true, true, true, false, false, false] rfl rfl (take_ofW HT_.out HW_.out (by kernel_rfl)) (fun _ _ _ h => h) (Or.inl ⟨by rfl, ?_⟩) hHeld ?_ ?_
     rotate_left
     ·rintro w' ⟨s0, s1, s2, s3, s4, s5⟩
      go_simp
      with_reducible rfl
     rotate_left
     ·simp only [Act.put, la_, lb_, lc_, i64_w, i32_w]
      rfl
     refine take_ (i := 1) (N := some 38) (v := ?_) (a' := ?_) #[true, true, true, true, true, true, false, false, false] rfl rfl (take_ofW HT_.out HW_.out (by kernel_rfl)) (fun _ _ _ h => h) (Or.inl ⟨by rfl, ?_⟩) hHeld ?_ ?_
     rotate_left
     ·rintro w' ⟨s0, s1, s2, s3, s4, s5⟩
      go_simp
      with_reducible rfl
     rotate_left
     ·simp only [Act.put, la_, lb_, lc_, i64_w, i32_w]
      rfl
     refine one_ (i := 6) (N := none) #[true, true, true, true, true, true, true, false, false] rfl rfl (one_of HT_.out (by kernel_rfl)) (by decide) (fun K hK => ?_)
     have hs62 : w61.cell? ⟨gb421, 0, none⟩ = some (.bool false) := (blk_cell BK421.out 0).trans rfl
     have hfs62 := blk_frozen BK421.out 0
     have hns62_0 := NB419_421.out
     have hns62_1 := NB420_421.out
     have hns62_3 := NB422_421.out
     have hns62_4 := NB429_421.out
     have hns62_5 := NB434_421.out
     have hms62_0 := NB421_419.out
     have hms62_1 := NB421_420.out
     have hms62_3 := NB421_422.out
     have hms62_4 := NB421_429.out
     have hms62_5 := NB421_434.out
     have hs63 : w61.cell? ⟨gb421, 1, none⟩ = some (.int .u64 0) := (blk_cell BK421.out 1).trans rfl
     have hfs63 := blk_frozen BK421.out 1
     have hns63_0 := NB419_421.out
     have hns63_1 := NB420_421.out
     have hns63_3 := NB422_421.out
     have hns63_4 := NB429_421.out
     have hns63_5 := NB434_421.out
     have hms63_0 := NB421_419.out
     have hms63_1 := NB421_420.out
     have hms63_3 := NB421_422.out
     have hms63_4 := NB421_429.out
     have hms63_5 := NB421_434.out
     have hs64 : w61.cell? ⟨gb421, 2, none⟩ = some (.int .u64 0) := (blk_cell BK421.out 2).trans rfl
     have hfs64 := blk_frozen BK421.out 2
     have hns64_0 := NB419_421.out
     have hns64_1 := NB420_421.out
     have hns64_3 := NB422_421.out
     have hns64_4 := NB429_421.out
     have hns64_5 := NB434_421.out
     have hms64_0 := NB421_419.out
     have hms64_1 := NB421_420.out
     have hms64_3 := NB421_422.out
     have hms64_4 := NB421_429.out
     have hms64_5 := NB421_434.out
     refine skip_ (w1 := ?_) ?_ ?_ ?_ ?_
     rotate_left
     ·rfl
     ·rfl
     ·go_simp
      rfl
     refine hK.out _ _ ⟨(cfar_ hHeld.1), (cfar_ hHeld.2.1), (cfar_ hHeld.2.2.1), (cfar_ hHeld.2.2.2.1), (cfar_ hHeld.2.2.2.2.1), (cfar_ hHeld.2.2.2.2.2)⟩ (fun hHeld => ?_)
     clear hK K
     refine one_ (i := 7) (N := none) #[true, true, true, true, true, true, true, true, false] rfl rfl (one_of HT_.out (by kernel_rfl)) (by decide) (fun K hK => ?_)
     have hs65 : w61.cell? ⟨gb422, 0, none⟩ = some (.bool false) := (blk_cell BK422.out 0).trans rfl
     have hfs65 := blk_frozen BK422.out 0
     have hns65_0 := NB419_422.out
     have hns65_1 := NB420_422.out
     have hns65_2 := NB421_422.out
     have hns65_4 := NB429_422.out
     have hns65_5 := NB434_422.out
     have hms65_0 := NB422_419.out
     have hms65_1 := NB422_420.out
     have hms65_2 := NB422_421.out
     have hms65_4 := NB422_429.out
     have hms65_5 := NB422_434.out
     have hs66 : w61.cell? ⟨gb422, 1, none⟩ = some (.int .u64 0) := (blk_cell BK422.out 1).trans rfl
     have hfs66 := blk_frozen BK422.out 1
     have hns66_0 := NB419_422.out
     have hns66_1 := NB420_422.out
     have hns66_2 := NB421_422.out
     have hns66_4 := NB429_422.out
     have hns66_5 := NB434_422.out
     have hms66_0 := NB422_419.out
     have hms66_1 := NB422_420.out
     have hms66_2 := NB422_421.out
     have hms66_4 := NB422_429.out
     have hms66_5 := NB422_434.out
     have hs67 : w61.cell? ⟨gb422, 2, none⟩ = some (.int .u64 0) := (blk_cell BK422.out 2).trans rfl
     have hfs67 := blk_frozen BK422.out 2
     have hns67_0 := NB419_422.out
     have hns67_1 := NB420_422.out
     have hns67_2 := NB421_422.out
     have hns67_4 := NB429_422.out
     have hns67_5 := NB434_422.out
     have hms67_0 := NB422_419.out
     have hms67_1 := NB422_420.out
     have hms67_2 := NB422_421.out
     have hms67_4 := NB422_429.out
     have hms67_5 := NB422_434.out
     refine skip_ (w1 := ?_) ?_ ?_ ?_ ?_
     rotate_left
     ·rfl
     ·rfl
     ·go_simp
      rfl
     refine hK.out _ _ ⟨(cfar_ hHeld.1), (cfar_ hHeld.2.1), (cfar_ hHeld.2.2.1), (cfar_ hHeld.2.2.2.1), (cfar_ hHeld.2.2.2.2.1), (cfar_ hHeld.2.2.2.2.2)⟩ (fun hHeld => ?_)
     clear hK K
     refine pure_ (i := 8) (N := some 6) (v := ?_) (a' := ?_) #[true, true, true, true, true, true, true, true, true] rfl rfl (any_of HT_.out (by kernel_rfl)) (fun _ _ _ h => h) (Or.inl ⟨by rfl, ?_⟩) ?_ ?_
     rotate_left
     ·intro w'
      go_simp
      with_reducible rfl
     rotate_left
     ·simp only [Act.put, la_, lb_, lc_, i64_w, i32_w]
      rfl
     refine done_ (done_of HT_.out (by kernel_rfl)) ?_
     try go_wp2
     refine bodyPost_ret (results_list (rs := [.cell 4 28, .cell 5 28, .tmp 6]) rfl (by simp) (.cell gb421 28 #[.bool t425, .int .u64 t426, .int .u64 t427] (0, 0) _ rfl (pu_ #[.bool t425, .int .u64 t426, .int .u64 0] 2 (h := (pu_ #[.bool t425, .int .u64 0, .int .u64 0] 1 (h := (pu_ #[.bool false, .int .u64 0, .int .u64 0] 0 (h := bk_)))))) Tryd.underlying28 rfl (by kernel_rfl) (.cell gb422 28 #[.bool t430, .int .u64 t431, .int .u64 t432] (0, 0) _ rfl (pu_ #[.bool t430, .int .u64 t431, .int .u64 0] 2 (h := (pu_ #[.bool t430, .int .u64 0, .int .u64 0] 1 (h := (pu_ #[.bool false, .int .u64 0, .int .u64 0] 0 (h := bk_)))))) Tryd.underlying28 rfl (by kernel_rfl) (.tmp .nil)))) rfl ?_
     exact ⟨rf_, bel_⟩
    ·replace c35 := Bool.eq_false_iff.mpr c35
     subst c35
     have H1 : (some (t425, t426, t427, t430, t431, t432, false)) = some (r1, r2, r3, r4, r5, r6, r7) := by rw [if_neg (show ¬ (false = true) by decide)] at H; exact H
     clear H
     have H := H1
     clear H1
     simp only [Option.some.injEq, Prod.mk.injEq] at H
     obtain ⟨rfl, rfl, rfl, rfl, rfl, rfl, rfl⟩ := H
     have hnb68 := NB419_420.out
     have hnc68 := NB420_419.out
     have hnb69 := NB419_421.out
     have hnc69 := NB421_419.out
     have hnb70 := NB419_422.out
     have hnc70 := NB422_419.out
     obtain ⟨hcz71_0, hcz71_1, hcz71_2, hcz71_3, hfz71_0, hfz71_1, hfz71_2, hfz71_3⟩ := cf4_ (w := wc) BK419.out
     have hnb72 := NB420_421.out
     have hnc72 := NB421_420.out
     have hnb73 := NB420_422.out
     have hnc73 := NB422_420.out
     obtain ⟨hcz74_0, hcz74_1, hcz74_2, hcz74_3, hfz74_0, hfz74_1, hfz74_2, hfz74_3⟩ := cf4_ (w := wc) BK420.out
     try go_wp2_with (first | ((with_reducible refine gate_callee (f := 58) rfl ?_); refine goesL_ (some 26) rfl rfl Tryd.func58 (by kernel_rfl) rfl #[.agg #[.bool a0_0, .int .u64 a0_1, .int .u64 a0_2], .int .i64 a1_3] rfl mp_ ?_; (with_reducible refine (spec_ScaleWide.calls a0_0 a0_1 a0_2 a1_3 t425 t426 t427 false _ A33.out).mono ?_); rintro e w75 ⟨rfl, hb⟩; refine ⟨_, rfl, ?_⟩; replace HB := Aside0.mk (below_step bel_ hb); replace BK419 := bb_ (g := gb419) hb; replace BK420 := bb_ (g := gb420) hb; replace BK421 := bb_ (g := gb421) hb; replace BK422 := bb_ (g := gb422) hb; (try clear hb); (try clear hb2); (try clear hk); (try clear hi)) | ((with_reducible refine gate_dst (N := 7) rfl ?_); refine box_event ?hg (N := 7) ?hd (cs := #[.bool false, .int .u64 0, .int .u64 0]) (t := 28) ?hr ?_; (case hd => rfl); (case hg => rfl); (case hr => first | (go_simp; done) | (go_simp; rfl)); intro gb429 hg w76 hbox hb; have BK429 := Aside0.mk (hbox); have GW429 := bs_ (w := w) hg; have GE429 := bs_ (w := w) hg; have NB419_429 := nlt_ (g := gb419) hg; have NB429_419 := ngt_ (g := gb419) hg; have NB420_429 := nlt_ (g := gb420) hg; have NB429_420 := ngt_ (g := gb420) hg; have NB421_429 := nlt_ (g := gb421) hg; have NB429_421 := ngt_ (g := gb421) hg; have NB422_429 := nlt_ (g := gb422) hg; have NB429_422 := ngt_ (g := gb422) hg; replace HB := Aside0.mk (below_step bel_ hb); replace BK419 := bb_ (g := gb419) hb; replace BK420 := bb_ (g := gb420) hb; replace BK421 := bb_ (g := gb421) hb; replace BK422 := bb_ (g := gb422) hb; clear hb hbox hg; have hnb77 := NB429_419.out; have hnc77 := NB419_429.out; have hnb78 := NB429_420.out; have hnc78 := NB420_429.out; have hnb79 := NB429_421.out; have hnc79 := NB421_429.out; have hnb80 := NB429_422.out; have hnc80 := NB422_429.out; obtain ⟨hcz81_0, hcz81_1, hcz81_2, hfz81_0, hfz81_1, hfz81_2⟩ := cf3_ (w := w76) BK429.out; obtain ⟨hcz82_0, hcz82_1, hcz82_2, hcz82_3, hfz82_0, hfz82_1, hfz82_2, hfz82_3⟩ := cf4_ (w := w76) BK420.out; obtain ⟨hcz83_0, hcz83_1, hcz83_2, hcz83_3, hfz83_0, hfz83_1, hfz83_2, hfz83_3⟩ := cf4_ (w := w76) BK419.out) | ((with_reducible refine gate_callee (f := 58) rfl ?_); refine goesL_ (some 34) rfl rfl Tryd.func58 (by kernel_rfl) rfl #[.agg #[.bool a1_0, .int .u64 a1_1, .int .u64 a1_2], .int .i64 a0_3] rfl mp_ ?_; (with_reducible refine (spec_ScaleWide.calls a1_0 a1_1 a1_2 a0_3 t430 t431 t432 t433 _ A34.out).mono ?_); rintro e w84 ⟨rfl, hb⟩; refine ⟨_, rfl, ?_⟩; replace HB := Aside0.mk (below_step bel_ hb); replace BK419 := Aside0.mk (blk_below (g := gb419) (o := .cells #[.bool a0_0, .int .u64 a0_1, .int .u64 a0_2, .int .i64 a0_3] 43 (0, 0)) bk_ hb); replace BK420 := Aside0.mk (blk_below (g := gb420) (o := .cells #[.bool a1_0, .int .u64 a1_1, .int .u64 a1_2, .int .i64 a1_3] 43 (0, 0)) bk_ hb); replace BK421 := Aside0.mk (blk_below (g := gb421) (o := .cells #[.bool false, .int .u64 0, .int .u64 0] 28 (0, 0)) bk_ hb); replace BK422 := Aside0.mk (blk_below (g := gb422) (o := .cells #[.bool false, .int .u64 0, .int .u64 0] 28 (0, 0)) bk_ hb); replace BK429 := Aside0.mk (blk_below (g := gb429) (o := .cells #[.bool t425, .int .u64 t426, .int .u64 t427] 28 (0, 0)) (pu_ #[.bool t425, .int .u64 t426, .int .u64 0] 2 (h := (pu_ #[.bool t425, .int .u64 0, .int .u64 0] 1 (h := (pu_ #[.bool false, .int .u64 0, .int .u64 0] 0 (h := bk_)))))) hb); (try clear hb); (try clear hb2); (try clear hk); (try clear hi)) | ((with_reducible refine gate_dst (N := 9) rfl ?_); refine box_event ?hg (N := 9) ?hd (cs := #[.bool false, .int .u64 0, .int .u64 0]) (t := 28) ?hr ?_; (case hd => rfl); (case hg => rfl); (case hr => first | (go_simp; done) | (go_simp; rfl)); intro gb434 hg w85 hbox hb; have BK434 := Aside0.mk (hbox); have GW434 := bs_ (w := w) hg; have GE434 := bs_ (w := w) hg; have NB419_434 := nlt_ (g := gb419) hg; have NB434_419 := ngt_ (g := gb419) hg; have NB420_434 := nlt_ (g := gb420) hg; have NB434_420 := ngt_ (g := gb420) hg; have NB421_434 := nlt_ (g := gb421) hg; have NB434_421 := ngt_ (g := gb421) hg; have NB422_434 := nlt_ (g := gb422) hg; have NB434_422 := ngt_ (g := gb422) hg; have NB429_434 := nlt_ (g := gb429) hg; have NB434_429 := ngt_ (g := gb429) hg; replace HB := Aside0.mk (below_step bel_ hb); replace BK419 := bb_ (g := gb419) hb; replace BK420 := bb_ (g := gb420) hb; replace BK421 := bb_ (g := gb421) hb; replace BK422 := bb_ (g := gb422) hb; replace BK429 := bb_ (g := gb429) hb; clear hb hbox hg; have hnb86 := NB434_419.out; have hnc86 := NB419_434.out; have hnb87 := NB434_420.out; have hnc87 := NB420_434.out; have hnb88 := NB434_421.out; have hnc88 := NB421_434.out; have hnb89 := NB434_422.out; have hnc89 := NB422_434.out; have hnb90 := NB434_429.out; have hnc90 := NB429_434.out; obtain ⟨hcz91_0, hcz91_1, hcz91_2, hfz91_0, hfz91_1, hfz91_2⟩ := cf3_ (w := w85) BK434.out))
     have n0_ : Aside0 ((((w85.setCell ⟨gb434, 0, none⟩ (.bool t430)).setCell ⟨gb434, 1, none⟩ (.int .u64 t431)).setCell ⟨gb434, 2, none⟩ (.int .u64 t432)).heap[gb419]? = some (.cells #[.bool a0_0, .int .u64 a0_1, .int .u64 a0_2, .int .i64 a0_3] 43 (0, 0))) := ⟨by (with_reducible repeat (first | refine bN_ _ ?_ | refine bd_ ?_ | refine ba_ _ ?_)); refine blk_far ?_ NB419_434.out _; (with_reducible repeat (first | refine bN_ _ ?_ | refine bd_ ?_ | refine ba_ _ ?_)); refine blk_far ?_ NB419_434.out _; (with_reducible repeat (first | refine bN_ _ ?_ | refine bd_ ?_ | refine ba_ _ ?_)); refine blk_far ?_ NB419_434.out _; (with_reducible repeat (first | refine bN_ _ ?_ | refine bd_ ?_ | refine ba_ _ ?_)); exact BK419.out⟩
     have n1_ : Aside0 ((((w85.setCell ⟨gb434, 0, none⟩ (.bool t430)).setCell ⟨gb434, 1, none⟩ (.int .u64 t431)).setCell ⟨gb434, 2, none⟩ (.int .u64 t432)).heap[gb420]? = some (.cells #[.bool a1_0, .int .u64 a1_1, .int .u64 a1_2, .int .i64 a1_3] 43 (0, 0))) := ⟨by (with_reducible repeat (first | refine bN_ _ ?_ | refine bd_ ?_ | refine ba_ _ ?_)); refine blk_far ?_ NB420_434.out _; (with_reducible repeat (first | refine bN_ _ ?_ | refine bd_ ?_ | refine ba_ _ ?_)); refine blk_far ?_ NB420_434.out _; (with_reducible repeat (first | refine bN_ _ ?_ | refine bd_ ?_ | refine ba_ _ ?_)); refine blk_far ?_ NB420_434.out _; (with_reducible repeat (first | refine bN_ _ ?_ | refine bd_ ?_ | refine ba_ _ ?_)); exact BK420.out⟩
     have n2_ : Aside0 ((((w85.setCell ⟨gb434, 0, none⟩ (.bool t430)).setCell ⟨gb434, 1, none⟩ (.int .u64 t431)).setCell ⟨gb434, 2, none⟩ (.int .u64 t432)).heap[gb421]? = some (.cells #[.bool false, .int .u64 0, .int .u64 0] 28 (0, 0))) := ⟨by (with_reducible repeat (first | refine bN_ _ ?_ | refine bd_ ?_ | refine ba_ _ ?_)); refine blk_far ?_ NB421_434.out _; (with_reducible repeat (first | refine bN_ _ ?_ | refine bd_ ?_ | refine ba_ _ ?_)); refine blk_far ?_ NB421_434.out _; (with_reducible repeat (first | refine bN_ _ ?_ | refine bd_ ?_ | refine ba_ _ ?_)); refine blk_far ?_ NB421_434.out _; (with_reducible repeat (first | refine bN_ _ ?_ | refine bd_ ?_ | refine ba_ _ ?_)); exact BK421.out⟩
     have n3_ : Aside0 ((((w85.setCell ⟨gb434, 0, none⟩ (.bool t430)).setCell ⟨gb434, 1, none⟩ (.int .u64 t431)).setCell ⟨gb434, 2, none⟩ (.int .u64 t432)).heap[gb422]? = some (.cells #[.bool false, .int .u64 0, .int .u64 0] 28 (0, 0))) := ⟨by (with_reducible repeat (first | refine bN_ _ ?_ | refine bd_ ?_ | refine ba_ _ ?_)); refine blk_far ?_ NB422_434.out _; (with_reducible repeat (first | refine bN_ _ ?_ | refine bd_ ?_ | refine ba_ _ ?_)); refine blk_far ?_ NB422_434.out _; (with_reducible repeat (first | refine bN_ _ ?_ | refine bd_ ?_ | refine ba_ _ ?_)); refine blk_far ?_ NB422_434.out _; (with_reducible repeat (first | refine bN_ _ ?_ | refine bd_ ?_ | refine ba_ _ ?_)); exact BK422.out⟩
     have n4_ : Aside0 ((((w85.setCell ⟨gb434, 0, none⟩ (.bool t430)).setCell ⟨gb434, 1, none⟩ (.int .u64 t431)).setCell ⟨gb434, 2, none⟩ (.int .u64 t432)).heap[gb429]? = some (.cells #[.bool t425, .int .u64 t426, .int .u64 t427] 28 (0, 0))) := ⟨by (with_reducible repeat (first | refine bN_ _ ?_ | refine bd_ ?_ | refine ba_ _ ?_)); refine blk_far ?_ NB429_434.out _; (with_reducible repeat (first | refine bN_ _ ?_ | refine bd_ ?_ | refine ba_ _ ?_)); refine blk_far ?_ NB429_434.out _; (with_reducible repeat (first | refine bN_ _ ?_ | refine bd_ ?_ | refine ba_ _ ?_)); refine blk_far ?_ NB429_434.out _; (with_reducible repeat (first | refine bN_ _ ?_ | refine bd_ ?_ | refine ba_ _ ?_)); exact BK429.out⟩
     have n5_ : Aside0 ((((w85.setCell ⟨gb434, 0, none⟩ (.bool t430)).setCell ⟨gb434, 1, none⟩ (.int .u64 t431)).setCell ⟨gb434, 2, none⟩ (.int .u64 t432)).heap[gb434]? = some (.cells #[.bool t430, .int .u64 t431, .int .u64 t432] 28 (0, 0))) := ⟨by (with_reducible repeat (first | refine bN_ _ ?_ | refine bd_ ?_ | refine ba_ _ ?_)); refine blk_put (cs := #[.bool t430, .int .u64 t431, .int .u64 0]) ?_ 2 _ rfl; (with_reducible repeat (first | refine bN_ _ ?_ | refine bd_ ?_ | refine ba_ _ ?_)); refine blk_put (cs := #[.bool t430, .int .u64 0, .int .u64 0]) ?_ 1 _ rfl; (with_reducible repeat (first | refine bN_ _ ?_ | refine bd_ ?_ | refine ba_ _ ?_)); refine blk_put (cs := #[.bool false, .int .u64 0, .int .u64 0]) ?_ 0 _ rfl; (with_reducible repeat (first | refine bN_ _ ?_ | refine bd_ ?_ | refine ba_ _ ?_)); exact BK434.out⟩
     have n6_ : Aside0 (Below w.heap.size w (((w85.setCell ⟨gb434, 0, none⟩ (.bool t430)).setCell ⟨gb434, 1, none⟩ (.int .u64 t431)).setCell ⟨gb434, 2, none⟩ (.int .u64 t432))) := ⟨bel_⟩
     (try clear BK419)
     (try clear BK420)
     (try clear BK421)
     (try clear BK422)
     (try clear BK429)
     (try clear BK434)
     (try clear HB)
     generalize (((w85.setCell ⟨gb434, 0, none⟩ (.bool t430)).setCell ⟨gb434, 1, none⟩ (.int .u64 t431)).setCell ⟨gb434, 2, none⟩ (.int .u64 t432)) = w92 at n0_ n1_ n2_ n3_ n4_ n5_ n6_ ⊢
     have BK419 := n0_
     have BK420 := n1_
     have BK421 := n2_
     have BK422 := n3_
     have BK429 := n4_
     have BK434 := n5_
     have HB := n6_
     clear n0_ n1_ n2_ n3_ n4_ n5_ n6_
     replace HB := Aside0.mk (below_drew1 HB.out)
     replace BK419 := Aside0.mk (blk_drew BK419.out)
     replace BK420 := Aside0.mk (blk_drew BK420.out)
     replace BK421 := Aside0.mk (blk_drew BK421.out)
     replace BK422 := Aside0.mk (blk_drew BK422.out)
     replace BK429 := Aside0.mk (blk_drew BK429.out)
     replace BK434 := Aside0.mk (blk_drew BK434.out)
     refine start_ (n := 9) (S := fun w' => w'.cell? ⟨gb429, 0, none⟩ = some (.bool t425) ∧ w'.cell? ⟨gb429, 1, none⟩ = some (.int .u64 t426) ∧ w'.cell? ⟨gb429, 2, none⟩ = some (.int .u64 t427) ∧ w'.cell? ⟨gb434, 0, none⟩ = some (.bool t430) ∧ w'.cell? ⟨gb434, 1, none⟩ = some (.int .u64 t431) ∧ w'.cell? ⟨gb434, 2, none⟩ = some (.int .u64 t432)) (ds := []) #[false, false, false, false, false, false, false, false, false] (by kernel_rfl) rfl rfl ⟨bc_, bc_, bc_, bc_, bc_, bc_⟩ (fun hHeld => ?_); refine with_tabW spec_l5Cross.tab5 spec_l5Cross.bits5 (fun HT_ HW_ => ?_)
     generalize w92.drew = w93 at BK419 BK420 BK421 BK422 BK429 BK434 HB hHeld ⊢
     refine pure_ (i := 2) (N := some 39) (v := ?_) (a' := ?_) #[false, false, true, false, false, false, false, false, false] rfl rfl (any_of HT_.out (by kernel_rfl)) (fun _ _ _ h => h) (Or.inl ⟨by rfl, ?_⟩) ?_ ?_
     rotate_left
     ·intro w'
      go_simp
      with_reducible rfl
     rotate_left
     ·simp only [Act.put, la_, lb_, lc_, i64_w, i32_w]
      rfl
     refine pure_ (i := 3) (N := some 40) (v := ?_) (a' := ?_) #[false, false, true, true, false, false, false, false, false] rfl rfl (any_of HT_.out (by kernel_rfl)) (fun _ _ _ h => h) (Or.inl ⟨by rfl, ?_⟩) ?_ ?_
     rotate_left
     ·intro w'
      go_simp
      with_reducible rfl
     rotate_left
     ·simp only [Act.put, la_, lb_, lc_, i64_w, i32_w]
      rfl
     refine pure_ (i := 4) (N := some 41) (v := undef) (a' := ?_) #[false, false, true, true, true, false, false, false, false] rfl rfl (any_of HT_.out (by kernel_rfl)) (fun _ _ _ h => h) (Or.inr ⟨by rfl, rfl⟩) ?_ ?_
     rotate_left
     ·simp only [Act.put, la_, lb_, lc_, i64_w, i32_w]
      rfl
     refine pure_ (i := 5) (N := some 42) (v := ?_) (a' := ?_) #[false, false, true, true, true, true, false, false, false] rfl rfl (any_of HT_.out (by kernel_rfl)) (fun _ _ _ h => h) (Or.inl ⟨by rfl, ?_⟩) ?_ ?_
     rotate_left
     ·intro w'
      go_simp
      with_reducible rfl
     rotate_left
     ·simp only [Act.put, la_, lb_, lc_, i64_w, i32_w]
      rfl
     refine take_ (i := 0) (N := some 37) (v := ?_) (a' := ?_) #[true, false, true, true, true, true, false, false, false] rfl rfl (take_ofW HT_.out HW_.out (by kernel_rfl)) (fun _ _ _ h => h) (Or.inl ⟨by rfl, ?_⟩) hHeld ?_ ?_
     rotate_left
     ·rintro w' ⟨s0, s1, s2, s3, s4, s5⟩
      go_simp
      with_reducible rfl
     rotate_left
     ·simp only [Act.put, la_, lb_, lc_, i64_w, i32_w]
      rfl
     refine take_ (i := 1) (N := some 38) (v := ?_) (a' := ?_) #[true, true, true, true, true, true, false, false, false] rfl rfl (take_ofW HT_.out HW_.out (by kernel_rfl)) (fun _ _ _ h => h) (Or.inl ⟨by rfl, ?_⟩) hHeld ?_ ?_
     rotate_left
     ·rintro w' ⟨s0, s1, s2, s3, s4, s5⟩
      go_simp
      with_reducible rfl
     rotate_left
     ·simp only [Act.put, la_, lb_, lc_, i64_w, i32_w]
      rfl
     refine one_ (i := 6) (N := none) #[true, true, true, true, true, true, true, false, false] rfl rfl (one_of HT_.out (by kernel_rfl)) (by decide) (fun K hK => ?_)
     have hs94 : w93.cell? ⟨gb421, 0, none⟩ = some (.bool false) := (blk_cell BK421.out 0).trans rfl
     have hfs94 := blk_frozen BK421.out 0
     have hns94_0 := NB419_421.out
     have hns94_1 := NB420_421.out
     have hns94_3 := NB422_421.out
     have hns94_4 := NB429_421.out
     have hns94_5 := NB434_421.out
     have hms94_0 := NB421_419.out
     have hms94_1 := NB421_420.out
     have hms94_3 := NB421_422.out
     have hms94_4 := NB421_429.out
     have hms94_5 := NB421_434.out
     have hs95 : w93.cell? ⟨gb421, 1, none⟩ = some (.int .u64 0) := (blk_cell BK421.out 1).trans rfl
     have hfs95 := blk_frozen BK421.out 1
     have hns95_0 := NB419_421.out
     have hns95_1 := NB420_421.out
     have hns95_3 := NB422_421.out
     have hns95_4 := NB429_421.out
     have hns95_5 := NB434_421.out
     have hms95_0 := NB421_419.out
     have hms95_1 := NB421_420.out
     have hms95_3 := NB421_422.out
     have hms95_4 := NB421_429.out
     have hms95_5 := NB421_434.out
     have hs96 : w93.cell? ⟨gb421, 2, none⟩ = some (.int .u64 0) := (blk_cell BK421.out 2).trans rfl
     have hfs96 := blk_frozen BK421.out 2
     have hns96_0 := NB419_421.out
     have hns96_1 := NB420_421.out
     have hns96_3 := NB422_421.out
     have hns96_4 := NB429_421.out
     have hns96_5 := NB434_421.out
     have hms96_0 := NB421_419.out
     have hms96_1 := NB421_420.out
     have hms96_3 := NB421_422.out
     have hms96_4 := NB421_429.out
     have hms96_5 := NB421_434.out
     refine skip_ (w1 := ?_) ?_ ?_ ?_ ?_
     rotate_left
     ·rfl
     ·rfl
     ·go_simp
      rfl
     refine hK.out _ _ ⟨(cfar_ hHeld.1), (cfar_ hHeld.2.1), (cfar_ hHeld.2.2.1), (cfar_ hHeld.2.2.2.1), (cfar_ hHeld.2.2.2.2.1), (cfar_ hHeld.2.2.2.2.2)⟩ (fun hHeld => ?_)
     clear hK K
     refine one_ (i := 7) (N := none) #[true, true, true, true, true, true, true, true, false] rfl rfl (one_of HT_.out (by kernel_rfl)) (by decide) (fun K hK => ?_)
     have hs97 : w93.cell? ⟨gb422, 0, none⟩ = some (.bool false) := (blk_cell BK422.out 0).trans rfl
     have hfs97 := blk_frozen BK422.out 0
     have hns97_0 := NB419_422.out
     have hns97_1 := NB420_422.out
     have hns97_2 := NB421_422.out
     have hns97_4 := NB429_422.out
     have hns97_5 := NB434_422.out
     have hms97_0 := NB422_419.out
     have hms97_1 := NB422_420.out
     have hms97_2 := NB422_421.out
     have hms97_4 := NB422_429.out
     have hms97_5 := NB422_434.out
     have hs98 : w93.cell? ⟨gb422, 1, none⟩ = some (.int .u64 0) := (blk_cell BK422.out 1).trans rfl
     have hfs98 := blk_frozen BK422.out 1
     have hns98_0 := NB419_422.out
     have hns98_1 := NB420_422.out
     have hns98_2 := NB421_422.out
     have hns98_4 := NB429_422.out
     have hns98_5 := NB434_422.out
     have hms98_0 := NB422_419.out
     have hms98_1 := NB422_420.out
     have hms98_2 := NB422_421.out
     have hms98_4 := NB422_429.out
     have hms98_5 := NB422_434.out
     have hs99 : w93.cell? ⟨gb422, 2, none⟩ = some (.int .u64 0) := (blk_cell BK422.out 2).trans rfl
     have hfs99 := blk_frozen BK422.out 2
     have hns99_0 := NB419_422.out
     have hns99_1 := NB420_422.out
     have hns99_2 := NB421_422.out
     have hns99_4 := NB429_422.out
     have hns99_5 := NB434_422.out
     have hms99_0 := NB422_419.out
     have hms99_1 := NB422_420.out
     have hms99_2 := NB422_421.out
     have hms99_4 := NB422_429.out
     have hms99_5 := NB422_434.out
     refine skip_ (w1 := ?_) ?_ ?_ ?_ ?_
     rotate_left
     ·rfl
     ·rfl
     ·go_simp
      rfl
     refine hK.out _ _ ⟨(cfar_ hHeld.1), (cfar_ hHeld.2.1), (cfar_ hHeld.2.2.1), (cfar_ hHeld.2.2.2.1), (cfar_ hHeld.2.2.2.2.1), (cfar_ hHeld.2.2.2.2.2)⟩ (fun hHeld => ?_)
     clear hK K
     refine pure_ (i := 8) (N := some 6) (v := ?_) (a' := ?_) #[true, true, true, true, true, true, true, true, true] rfl rfl (any_of HT_.out (by kernel_rfl)) (fun _ _ _ h => h) (Or.inl ⟨by rfl, ?_⟩) ?_ ?_
     rotate_left
     ·intro w'
      go_simp
      with_reducible rfl
     rotate_left
     ·simp only [Act.put, la_, lb_, lc_, i64_w, i32_w]
      rfl
     refine done_ (done_of HT_.out (by kernel_rfl)) ?_
     try go_wp2
     refine bodyPost_ret (results_list (rs := [.cell 4 28, .cell 5 28, .tmp 6]) rfl (by simp) (.cell gb421 28 #[.bool t425, .int .u64 t426, .int .u64 t427] (0, 0) _ rfl (pu_ #[.bool t425, .int .u64 t426, .int .u64 0] 2 (h := (pu_ #[.bool t425, .int .u64 0, .int .u64 0] 1 (h := (pu_ #[.bool false, .int .u64 0, .int .u64 0] 0 (h := bk_)))))) Tryd.underlying28 rfl (by kernel_rfl) (.cell gb422 28 #[.bool t430, .int .u64 t431, .int .u64 t432] (0, 0) _ rfl (pu_ #[.bool t430, .int .u64 t431, .int .u64 0] 2 (h := (pu_ #[.bool t430, .int .u64 0, .int .u64 0] 1 (h := (pu_ #[.bool false, .int .u64 0, .int .u64 0] 0 (h := bk_)))))) Tryd.underlying28 rfl (by kernel_rfl) (.tmp .nil)))) rfl ?_
     exact ⟨rf_, bel_⟩
end Go.Proofs.YtkpgpifkbdpnkaaDoor.PFnFracSum
